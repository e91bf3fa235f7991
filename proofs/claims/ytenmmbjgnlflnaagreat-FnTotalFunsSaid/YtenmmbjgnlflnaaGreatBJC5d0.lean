import Derived.Test.YtenmmbjgnlflnaaGreatBJC4c0
import Derived.Test.YtenmmbjgnlflnaaGreatBJC4d0
set_option linter.unusedSimpArgs false
set_option linter.unusedVariables false
namespace Go.Proofs.YtenmmbjgnlflnaaGreat
open Go Go.RowKit
set_option maxRecDepth 100000
set_option maxHeartbeats 20000000
instance V86:∀ (n:Nat) (p0:(List Q4)) (p1:Q2) (p2:Q0),Ct (Q7t n p0 p1 p2) fun res=>Q7 Tryz.prog 0o00377 [(.slice 2 (List.map Z8 p0)),(.agg (Z7 p1)),(.agg (Q3 p2))] (fun d=>d=(eB res)):=
 au Tryz.func255 Q7t.eq_1 .z
instance V85:∀ (n:Nat) (p0:(List Q4)) (p1:Q2) (p2:Z6),Ct (Z0c n p0 p1 p2) fun res=>Q7 Tryz.prog 0o00277 [(.slice 2 (List.map Z8 p0)),(.agg (Z7 p1)),(.agg (V6 p2))] (fun d=>d=(eB res)):=
 au Tryz.func191 Z0c.eq_1 (.o (.o (.o (.o (.g [0,4,5] [0,8] [] [] (.o (.i (.o (.o (.d [0,1,2,3,4,5,6,7,8,9,10,11,12,13,14,15] [0,1] [] .z))) (.d [0,1,2,3,4,5,6,7,8,9,10,11,12,13,14,15] [0,1] [] .z))))))))
instance W68:∀ (n:Nat) (p0:(List Q4)) (p1:Q2),Ct (Q39 n p0 p1) fun res=>Q7 Tryz.prog 0o00102 [(.slice 2 (List.map Z8 p0)),(.agg (Z7 p1))] (fun d=>d=(eB res)):=
 au Tryz.func66 Q39.eq_1 .z
instance W4m:∀ (n:Nat) (p0:(List Q4)) (p1:Q2) (p2:Q1),Ct (Q3r n p0 p1 p2) fun res=>Q7 Tryz.prog 0o00032 [(.slice 2 (List.map Z8 p0)),(.agg (Z7 p1)),(.agg (X0 p2))] (fun d=>d=(eB res)):=
 au Tryz.func26 Q3r.eq_1 .z
instance W6c:∀ (n:Nat) (p0:(List Q4)) (p1:(List Z0)) (p2:(List Q5)) (p3:Q2) (p4:Z1),Ct (Q62 n p0 p1 p2 p3 p4) fun res=>Q7 Tryz.prog 0o00104 [(.slice 2 (List.map Z8 p0)),(.slice 4 (List.map W8 p1)),(.slice 3 (List.map X6 p2)),(.agg (Z7 p3)),(.agg (V8 p4))] (fun d=>d=(eB res)):=
 au Tryz.func68 Q62.eq_1 .z
end Go.Proofs.YtenmmbjgnlflnaaGreat
