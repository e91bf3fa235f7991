import Derived.Test.YtfhpjeogjcfkaaaGreatBJC4c0
import Derived.Test.YtfhpjeogjcfkaaaGreatBJC4b0
set_option linter.unusedSimpArgs false
set_option linter.unusedVariables false
namespace Go.Proofs.YtfhpjeogjcfkaaaGreat
open Go Go.RowKit
set_option maxRecDepth 100000
set_option maxHeartbeats 20000000
instance W7c:∀ (n:Nat) (p0:(List Q4)) (p1:Q7),Ct (Q2x n p0 p1) fun res=>Q8 Tryz.prog 0o00131 [(.slice 2 (List.map W5 p0)),(.agg (W3 p1))] (fun d=>d=(eB res)):=
 au Tryz.func89 Q2x.eq_1 .z
instance W3d:∀ (n:Nat) (p0:(List Q4)) (p1:Q7) (p2:Q0),Ct (Q4a n p0 p1 p2) fun res=>Q8 Tryz.prog 0o00311 [(.slice 2 (List.map W5 p0)),(.agg (W3 p1)),(.agg (Z2 p2))] (fun d=>d=.tup [(.slice 3 (List.map Y8 res.1)),(eB res.2)]):=
 au Tryz.func201 Q4a.eq_1 .z
end Go.Proofs.YtfhpjeogjcfkaaaGreat
