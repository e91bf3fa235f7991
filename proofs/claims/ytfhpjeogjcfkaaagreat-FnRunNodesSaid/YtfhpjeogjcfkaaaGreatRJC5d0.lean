import Derived.Test.YtfhpjeogjcfkaaaGreatRJC4c0
import Derived.Test.YtfhpjeogjcfkaaaGreatRJC4b0
set_option linter.unusedSimpArgs false
set_option linter.unusedVariables false
namespace Go.Proofs.YtfhpjeogjcfkaaaGreat
open Go Go.RowKit
set_option maxRecDepth 100000
set_option maxHeartbeats 20000000
instance X9r:∀ (n:Nat) (p0:(List Q3)) (p1:Q6),Ct (Q3v n p0 p1) fun res=>Z2 Tryz.prog 0o00131 [(.slice 2 (List.map W8 p0)),(.agg (W6 p1))] (fun d=>d=(eB res)):=
 au Tryz.func89 Q3v.eq_1 .z
instance X68:∀ (n:Nat) (p0:(List Q3)) (p1:Q6) (p2:Q0),Ct (Q2m n p0 p1 p2) fun res=>Z2 Tryz.prog 0o00311 [(.slice 2 (List.map W8 p0)),(.agg (W6 p1)),(.agg (Z0 p2))] (fun d=>d=.tup [(.slice 3 (List.map V4 res.1)),(eB res.2)]):=
 au Tryz.func201 Q2m.eq_1 .z
end Go.Proofs.YtfhpjeogjcfkaaaGreat
