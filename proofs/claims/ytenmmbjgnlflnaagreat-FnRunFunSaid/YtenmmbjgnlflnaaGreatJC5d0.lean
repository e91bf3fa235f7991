import Derived.Test.YtenmmbjgnlflnaaGreatJC4c0
import Derived.Test.YtenmmbjgnlflnaaGreatJC4b0
set_option linter.unusedSimpArgs false
set_option linter.unusedVariables false
namespace Go.Proofs.YtenmmbjgnlflnaaGreat
open Go Go.RowKit
set_option maxRecDepth 100000
set_option maxHeartbeats 20000000
instance W7h:∀ (n:Nat) (p0:(List Q2)) (p1:Q3) (p2:Q5),Ct (Q73 n p0 p1 p2) fun res=>Q6 Tryz.prog 0o00377 [(.slice 2 (List.map Z5 p0)),(.agg (Z6 p1)),(.agg (X7 p2))] (fun d=>d=(eB res)):=
 au Tryz.func255 Q73.eq_1 .z
instance W7g:∀ (n:Nat) (p0:(List Q2)) (p1:Q3) (p2:X1),Ct (Q72 n p0 p1 p2) fun res=>Q6 Tryz.prog 0o00277 [(.slice 2 (List.map Z5 p0)),(.agg (Z6 p1)),(.agg (V7 p2))] (fun d=>d=(eB res)):=
 au Tryz.func191 Q72.eq_1 (.o (.o (.o (.o (.g [0,4,5] [0,8] [] [] (.o (.i (.o (.o (.d [0,1,2,3,4,5,6,7,8,9,10,11,12,13,14,15] [0,1] [] .z))) (.d [0,1,2,3,4,5,6,7,8,9,10,11,12,13,14,15] [0,1] [] .z))))))))
instance X4k:∀ (n:Nat) (p0:(List Q2)) (p1:Q3) (p2:Q5),Ct (Q1b n p0 p1 p2) fun res=>Q6 Tryz.prog 0o00245 [(.slice 2 (List.map Z5 p0)),(.agg (Z6 p1)),(.agg (X7 p2))] (fun d=>d=.tup [(.slice 3 (List.map Z8 res.1)),(eB res.2)]):=
 au Tryz.func165 Q1b.eq_1 .z
instance X9x:∀ (n:Nat) (p0:(List Q2)) (p1:Q3) (p2:X1),Ct (Q2y n p0 p1 p2) fun res=>Q6 Tryz.prog 0o00244 [(.slice 2 (List.map Z5 p0)),(.agg (Z6 p1)),(.agg (V7 p2))] (fun d=>d=(eB res)):=
 au Tryz.func164 Q2y.eq_1 .z
instance W7n:∀ (n:Nat) (p0:(List Q2)) (p1:(List Q8)) (p2:Q3) (p3:X1),Ct (Q8t n p0 p1 p2 p3) fun res=>Q6 Tryz.prog 0o00132 [(.slice 2 (List.map Z5 p0)),(.slice 4 (List.map W1 p1)),(.agg (Z6 p2)),(.agg (V7 p3))] (fun d=>d=(.agg (Q53 res))):=
 au Tryz.func90 Q8t.eq_1 .z
end Go.Proofs.YtenmmbjgnlflnaaGreat
