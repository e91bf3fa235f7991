import Derived.Test.YtgjpamkllimhdaaGreatJC4b0
set_option linter.unusedSimpArgs false
set_option linter.unusedVariables false
namespace Go.Proofs.YtgjpamkllimhdaaGreat
open Go Go.RowKit
set_option maxRecDepth 100000
set_option maxHeartbeats 20000000
instance W1d:∀ (n:Nat) (p0:(List Q4)) (p1:Q6) (p2:Q0),Ct (Q3t n p0 p1 p2) fun res=>Z1 Tryz.prog 0o00232 [(.slice 2 (List.map W1 p0)),(.agg (W0 p1)),(.agg (Q9 p2))] (fun d=>d=.tup [(.slice 3 (List.map Y7 res.1)),(eB res.2)]):=
 au Tryz.func154 Q3t.eq_1 .z
end Go.Proofs.YtgjpamkllimhdaaGreat
