import Derived.Test.YtjgapphpbkapmaaGreatJC4c0
import Derived.Test.YtjgapphpbkapmaaGreatJC4b0
set_option linter.unusedSimpArgs false
set_option linter.unusedVariables false
namespace Go.Proofs.YtjgapphpbkapmaaGreat
open Go Go.RowKit
set_option maxRecDepth 100000
set_option maxHeartbeats 20000000
instance W2g:∀ (n:Nat) (p0:(List Q3)) (p1:Q4),Ct (Q1o n p0 p1) fun res=>Z2 Tryz.prog 0o00113 [(.slice 2 (List.map W2 p0)),(.agg (W0 p1))] (fun d=>d=(eB res)):=
 au Tryz.func75 Q1o.eq_1 .z
instance X8w:∀ (n:Nat) (p0:(List Q3)) (p1:Q4) (p2:Q0),Ct (Q3e n p0 p1 p2) fun res=>Z2 Tryz.prog 0o00265 [(.slice 2 (List.map W2 p0)),(.agg (W0 p1)),(.agg (Z0 p2))] (fun d=>d=.tup [(.slice 3 (List.map Y2 res.1)),(eB res.2)]):=
 au Tryz.func181 Q3e.eq_1 .z
end Go.Proofs.YtjgapphpbkapmaaGreat
