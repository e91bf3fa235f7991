import Derived.Test.YtbdkbdafhlcilaaGreatJC4d0
set_option linter.unusedSimpArgs false
set_option linter.unusedVariables false
namespace Go.Proofs.YtbdkbdafhlcilaaGreat
open Go Go.RowKit
set_option maxRecDepth 100000
set_option maxHeartbeats 20000000
instance V6m:∀ (n:Nat) (p0:(List Q3)) (p1:Q2) (p2:Q0),Ct (Q5p n p0 p1 p2) fun res=>Z1 Tryz.prog 0o00233 [(.slice 2 (List.map V0 p0)),(.agg (X9 p1)),(.agg (Q1 p2))] (fun d=>d=(eB res)):=
 au Tryz.func155 Q5p.eq_1 .z
end Go.Proofs.YtbdkbdafhlcilaaGreat
