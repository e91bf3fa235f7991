import Derived.Test.YtenmmbjgnlflnaaGreatBJC5c0
import Derived.Test.YtenmmbjgnlflnaaGreatBJC5d0
import Derived.Test.YtenmmbjgnlflnaaGreatBJC5a0
set_option linter.unusedSimpArgs false
set_option linter.unusedVariables false
namespace Go.Proofs.YtenmmbjgnlflnaaGreat
open Go Go.RowKit
set_option maxRecDepth 100000
set_option maxHeartbeats 20000000
instance X7i:∀ (n:Nat) (p0:Z6) (q0:(List Q4)) (q1:Q2),Ct (Q4r n p0 q0 q1) fun res=>Q7 Tryz.prog 0o00243 [(.agg (V6 p0)),.cptr [(.slice 2 (List.map Z8 q0))],.cptr (Z7 q1)] (fun d=>d=(eB res)):=
 au Tryz.func163 Q4r.eq_1 .z
instance W08:∀ (n:Nat) (p0:(List Q4)) (p1:Q2) (p2:(List Z6)),Ct (Q2o n p0 p1 p2) fun res=>Q7 Tryz.prog 0o00131 [(.slice 2 (List.map Z8 p0)),(.agg (Z7 p1)),(.slice 9 (List.map V6 p2))] (fun d=>d=(eB res)):=
 au Tryz.func89 Q2o.eq_1 .z
instance W6b:∀ (n:Nat) (p0:(List Q4)) (p1:(List GFun)),Ct (Q1e n p0 p1) fun res=>Q7 Tryz.prog 0o00042 [(.slice 2 (List.map Z8 p0)),(.slice 6 (List.map Q0d p1))] (fun d=>d=(eB res)):=
 au Tryz.func34 Q1e.eq_1 (.o (.o (.o (.o (.o (.i .z (.o (.i .z (.ls 1 (.f [] [] [0,5,22,23,24] [] (fun (k647:Nat) (s643:Unit)=>[(24,eI (k647:Int))]) (fun k647 s643=>[]) (fun k647 s643=>.o (.o (.i .z (.i .z (.ls 38 (.f [0,5,22,23,24] [] [0,5,7,22,23,24,46,47,48] [24] (fun (k757:Nat) (s753:Unit)=>[(48,eI (k757:Int))]) (fun k757 s753=>[]) (fun k757 s753=>.o (.g [0,5,7,8,9,22,23,24,46,47,48] [0,33] [] [] (.o (.o (.o (.d [0,1,2,3,4,5,6,7,8,9,11,12,13,14,10,15,16] [0,1] [] .z)))))) (fun s761=>.z))))))) (fun s651=>.z)))))))))))
instance V89:∀ (n:Nat) (p0:(List Q4)) (p1:(List GFun)) (p2:Int) (p3:Q1) (p4:Int),Ct (Z0g n p0 p1 p2 p3 p4) fun res=>Q7 Tryz.prog 0o00050 [(.slice 2 (List.map Z8 p0)),(.slice 6 (List.map Q0d p1)),(eI p2),(.agg (X0 p3)),(eI p4)] (fun d=>d=(eB res)):=
 au Tryz.func40 Z0g.eq_1 (.o (.o (.o (.o (.o (.o (.g [0,1,2,4,8] [0] [] [] (.o (.i (.o (.i (.o (.i (.o (.o (.d [0,1,2,3,4,5,6,7,8,9,10,11,12,13,14,15,16,17,18,19,20,21,22,23,24,25] [0] [] .z))) (.d [0,1,2,3,4,5,6,7,8,9,10,11,12,13,14,15,16,17,18,19,20,21,22,23,24,25] [] [] .z))) (.d [0,1,2,3,4,5,6,7,8,9,10,11,12,13,14,15,16,17,18,19,20,21,22,23,24,25] [] [] .z))) (.d [0,1,2,3,4,5,6,7,8,9,10,11,12,13,14,15,16,17,18,19,20,21,22,23,24,25] [] [] .z))))))))))
instance V41:∀ (n:Nat) (p0:(List Q4)) (p1:(List GFun)) (p2:Int) (p3:Q1) (p4:Int),Ct (Q5r n p0 p1 p2 p3 p4) fun res=>Q7 Tryz.prog 0o00016 [(.slice 2 (List.map Z8 p0)),(.slice 6 (List.map Q0d p1)),(eI p2),(.agg (X0 p3)),(eI p4)] (fun d=>d=.tup [(.agg (X0 res.1)),(eI res.2)]):=
 au Tryz.func14 Q5r.eq_1 .z
instance W9a:∀ (n:Nat) (p0:(List Q4)) (p1:(List GFun)) (p2:Q2) (p3:Z1) (p4:Int),Ct (Q45 n p0 p1 p2 p3 p4) fun res=>Q7 Tryz.prog 0o00034 [(.slice 2 (List.map Z8 p0)),(.slice 6 (List.map Q0d p1)),(.agg (Z7 p2)),(.agg (V8 p3)),(eI p4)] (fun d=>d=.tup [(.agg (X0 res.1)),(eI res.2)]):=
 au Tryz.func28 Q45.eq_1 (.o (.o (.o (.o (.o (.o (.g [0,1,4,7,8,10] [0,8,16] [] [] (.o (.i (.d [0,1,2,3,4,5,6,8,9,7,10,11,12,13,14,15,16,17] [] [] .z) (.o (.o (.i (.d [0,1,2,3,4,5,6,8,9,7,10,11,12,13,14,15,16,17] [0,1] [] .z) (.o (.d [0,1,2,3,4,5,6,8,9,7,10,11,12,13,14,15,16,17] [0,1] [] .z))))))))))))))
end Go.Proofs.YtenmmbjgnlflnaaGreat
