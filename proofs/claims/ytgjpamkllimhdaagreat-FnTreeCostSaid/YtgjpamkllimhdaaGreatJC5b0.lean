import Derived.Test.YtgjpamkllimhdaaGreatJC4d0
set_option linter.unusedSimpArgs false
set_option linter.unusedVariables false
namespace Go.Proofs.YtgjpamkllimhdaaGreat
open Go Go.RowKit
set_option maxRecDepth 100000
set_option maxHeartbeats 20000000
instance V5q:∀ (n:Nat) (p0:(List Q4)) (p1:Q6) (p2:Q0),Ct (Q7y n p0 p1 p2) fun res=>Z1 Tryz.prog 0o00247 [(.slice 2 (List.map W1 p0)),(.agg (W0 p1)),(.agg (Q9 p2))] (fun d=>d=(eB res)):=
 au Tryz.func167 Q7y.eq_1 .z
end Go.Proofs.YtgjpamkllimhdaaGreat
