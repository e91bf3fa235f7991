import Derived.Test.YtfhpjeogjcfkaaaGreatBJC4d0
set_option linter.unusedSimpArgs false
set_option linter.unusedVariables false
namespace Go.Proofs.YtfhpjeogjcfkaaaGreat
open Go Go.RowKit
set_option maxRecDepth 100000
set_option maxHeartbeats 20000000
instance V9f:∀ (n:Nat) (p0:(List Q4)) (p1:Q7) (p2:Q0),Ct (Q97 n p0 p1 p2) fun res=>Q8 Tryz.prog 0o00353 [(.slice 2 (List.map W5 p0)),(.agg (W3 p1)),(.agg (Z2 p2))] (fun d=>d=(eB res)):=
 au Tryz.func235 Q97.eq_1 .z
end Go.Proofs.YtfhpjeogjcfkaaaGreat
