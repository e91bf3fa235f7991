import Derived.Test.YtenmmbjgnlflnaaGreatBJC5d0
set_option linter.unusedSimpArgs false
set_option linter.unusedVariables false
namespace Go.Proofs.YtenmmbjgnlflnaaGreat
open Go Go.RowKit
set_option maxRecDepth 100000
set_option maxHeartbeats 20000000
instance V42:∀ (n:Nat) (p0:(List Q4)) (p1:Q2) (p2:Q1),Ct (Q76 n p0 p1 p2) fun res=>Q7 Tryz.prog 0o00033 [(.slice 2 (List.map Z8 p0)),(.agg (Z7 p1)),(.agg (X0 p2))] (fun d=>d=.tup [(.agg (V8 res.1)),(eB res.2)]):=
 au Tryz.func27 Q76.eq_1 .z
end Go.Proofs.YtenmmbjgnlflnaaGreat
