import Derived.Test.YtfhpjeogjcfkaaaGreatRJC4d0
set_option linter.unusedSimpArgs false
set_option linter.unusedVariables false
namespace Go.Proofs.YtfhpjeogjcfkaaaGreat
open Go Go.RowKit
set_option maxRecDepth 100000
set_option maxHeartbeats 20000000
instance V04:∀ (n:Nat) (p0:(List Q3)) (p1:Q6) (p2:Q0),Ct (Q6d n p0 p1 p2) fun res=>Z2 Tryz.prog 0o00353 [(.slice 2 (List.map W8 p0)),(.agg (W6 p1)),(.agg (Z0 p2))] (fun d=>d=(eB res)):=
 au Tryz.func235 Q6d.eq_1 .z
end Go.Proofs.YtfhpjeogjcfkaaaGreat
