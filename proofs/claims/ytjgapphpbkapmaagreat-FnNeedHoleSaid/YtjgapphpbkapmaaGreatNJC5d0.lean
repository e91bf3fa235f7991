import Derived.Test.YtjgapphpbkapmaaGreatNJC4c0
import Derived.Test.YtjgapphpbkapmaaGreatNJC4b0
set_option linter.unusedSimpArgs false
set_option linter.unusedVariables false
namespace Go.Proofs.YtjgapphpbkapmaaGreat
open Go Go.RowKit
set_option maxRecDepth 100000
set_option maxHeartbeats 20000000
instance X76:∀ (n:Nat) (p0:(List Q3)) (p1:Q5),Ct (Q1e n p0 p1) fun res=>Z1 Tryz.prog 0o00113 [(.slice 2 (List.map W2 p0)),(.agg (W1 p1))] (fun d=>d=(eB res)):=
 au Tryz.func75 Q1e.eq_1 .z
instance X42:∀ (n:Nat) (p0:(List Q3)) (p1:Q5) (p2:Q0),Ct (Q2d n p0 p1 p2) fun res=>Z1 Tryz.prog 0o00265 [(.slice 2 (List.map W2 p0)),(.agg (W1 p1)),(.agg (Q7 p2))] (fun d=>d=.tup [(.slice 3 (List.map V1 res.1)),(eB res.2)]):=
 au Tryz.func181 Q2d.eq_1 .z
instance X9h:∀ (n:Nat) (p0:(List Q3)) (p1:Q5) (p2:Z0),Ct (Q2y n p0 p1 p2) fun res=>Z1 Tryz.prog 0o00154 [(.slice 2 (List.map W2 p0)),(.agg (W1 p1)),(.agg (V6 p2))] (fun d=>d=(eB res)):=
 au Tryz.func108 Q2y.eq_1 .z
instance X2b:∀ (n:Nat) (p0:(List Q3)) (p1:Q5) (p2:Z2),Ct (Q0k n p0 p1 p2) fun res=>Z1 Tryz.prog 0o00036 [(.slice 2 (List.map W2 p0)),(.agg (W1 p1)),(.agg (V2 p2))] (fun d=>d=(eB res)):=
 au Tryz.func30 Q0k.eq_1 .z
end Go.Proofs.YtjgapphpbkapmaaGreat
