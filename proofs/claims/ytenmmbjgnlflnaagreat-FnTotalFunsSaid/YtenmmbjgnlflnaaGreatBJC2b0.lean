import Derived.Test.YtenmmbjgnlflnaaGreatBJC1c0
import Derived.Test.YtenmmbjgnlflnaaGreatBJC1a0
import Derived.Test.YtenmmbjgnlflnaaGreatBJC1d0
import Derived.Test.YtenmmbjgnlflnaaGreatBJC1b0
set_option linter.unusedSimpArgs false
set_option linter.unusedVariables false
namespace Go.Proofs.YtenmmbjgnlflnaaGreat
open Go Go.RowKit
set_option maxRecDepth 100000
set_option maxHeartbeats 20000000
instance V3h:∀ (n:Nat) (p0:(List Q4)) (p1:Q2),Ct (Q8f n p0 p1) fun res=>Q7 Tryz.prog 0o00461 [(.slice 2 (List.map Z8 p0)),(.agg (Z7 p1))] (fun d=>d=(eS res)):=
 au Tryz.func305 Q8f.eq_1 (.o (.o (.o (.i .z (.g [0,3] [0] [] [] (.o (.o (.o (.d [0,1,2,3,4,5,6,7,8,9,10] [0] [] .z)))))))))
instance V1s:∀ (p0:(List Q4)) (p1:(List Z0)),Ct (Q3j p0 p1) fun res=>Q7 Tryz.prog 0o00140 [(.slice 2 (List.map Z8 p0)),(.slice 4 (List.map W8 p1))] (fun d=>d=(eB res)):=
 au Tryz.func96 Q3j.eq_1 (.o (.o (.ls 1 (.f [1] [] [0,1,5] [] (fun (k194:Nat) (s190:Unit)=>[(5,eI (k194:Int))]) (fun k194 s190=>[]) (fun k194 s190=>.z) (fun s198=>.z)))))
instance V1h:∀ (n:Nat) (p0:(List Q4)) (p1:ByteArray),Ct (Z1e n p0 p1) fun res=>Q7 Tryz.prog 0o00324 [(.slice 2 (List.map Z8 p0)),(eS p1)] (fun d=>d=.tup [(.agg (W8 res.1)),(eB res.2)]):=
 au Tryz.func212 Z1e.eq_1 (.o (.o (.o (.o (.i .z (.o (.g [0,4,6,7] [0] [] [] (.o (.o (.o (.o (.dz [0,1,2,3,5,6,7,8,4,9,10,11,12] [] [1048584] [] (.g [0,4,8] [0,1048584] [] [] (.o (.i (.o (.d [0,1,2,3,4,5,6,7,8,9,10,11,12] [1] [] .z)) (.d [0,1,2,3,4,5,6,7,8,9,10,11,12] [1] [] .z))))))))))))))))
instance V1q:∀ (n:Nat) (p0:(List Q4)) (p1:(List Z0)) (p2:Q2) (p3:Z1),Ct (Q4y n p0 p1 p2 p3) fun res=>Q7 Tryz.prog 0o00470 [(.slice 2 (List.map Z8 p0)),(.slice 4 (List.map W8 p1)),(.agg (Z7 p2)),(.agg (V8 p3))] (fun d=>d=(eS res)):=
 ar (au Tryz.func312 Q4y.eq_2 (.o (.o (.o (.o (.o (.o (.i .z (.i .z (.i (.g [0,1,7,9] [8,32] [] [] (.o (.o (.o (.o (.o (.o (.o (.o (.d [0,1,2,3,4,5,6,10,11,12,13,14,15,16,7,8,9,17,18,19,20] [0,1] [] .z)))))))))) (.i (.g [0,1,7] [8] [] [] (.o (.o (.o (.o (.o (.o (.o (.o (.d [0,1,5,6,7,8,9,10,11,12,13,14,15,16,2,3,4,17,18,19,20] [0] [] .z)))))))))) (.g [0,1,6,7] [0,8] [] [] (.o (.o (.d [0,1,2,3,4,5,6,7,8,9,10,11] [0,1] [] (.o (.ls 85 (.f [10,11] [] [0,1,7,10,11,12] [1] (fun (k203:Nat) (s199:ByteArray)=>[(10,eS s199),(12,eI (k203:Int))]) (fun k203 s199=>[]) (fun k203 s199=>.o (.j 16 1 [0,1,7,10,11,12] [0] (fun (s223:ByteArray)=>[(10,eS s223)]) (fun _=>[]) .z (fun _=>.g [0,1,7,10,11,12] [0] [] [] (.o (.o (.o (.d [0,1,2,3,4,5,6,7,8,9,10,11,12,13,14] [0] [] .z))))))) (fun s207=>.j 20 0 [10] [] (fun (s234:ByteArray)=>[(10,eS s234)]) (fun _=>[]) .z (fun _=>.z))))))))))))))))))))
instance W96:∀ (p0:Q2) (q0:(List Q4)),Ct (Z0h p0 q0) fun res=>Q7 Tryz.prog 0o00342 [(.agg (Z7 p0)),.cptr [(.slice 2 (List.map Z8 q0))]] (fun d=>d=(eB res)):=
 au Tryz.func226 Z0h.eq_1 .z
instance W4d:∀ (p0:Q4t) (p1:Q2) (p2:Z1),Ct (Q59 p0 p1 p2) fun res=>Q7 Tryz.prog 0o00350 [(.agg (Q8b p0)),(.agg (Z7 p1)),(.agg (V8 p2))] (fun d=>d=.tup [(.slice 2 (List.map Z7 res.1)),(eB res.2)]):=
 au Tryz.func232 Q59.eq_1 (.o (.o (.o (.i (.g [4,5] [8,16] [] [] (.i (.o (.i (.d [0,1,2,3,4,5,6,7,8,9,10,11,12,13,14] [0,1] [] .z) (.d [0,1,2,3,4,5,6,7,8,9,10,11,12,13,14] [0,1] [] .z))) (.d [0,1,2,3,4,5,6,7,8,9,10,11,12,13,14] [0] [] .z))) (.i (.o (.g [4,5,8,9] [8,16,144] [] [] (.i (.o (.i (.d [0,1,2,3,4,5,6,7,8,9,10,11,12] [0,1,2] [] .z) (.d [0,1,2,3,4,5,6,7,8,9,10,11,12] [0,2] [] .z))) (.d [0,1,2,3,4,5,6,7,8,9,10,11,12] [] [] .z)))) (.i (.g [3,4,5] [0,8,16] [] [] (.i (.d [0,1,2,3,4,5,6,8,9,7,10,11,12] [2] [] .z) (.o (.o (.d [0,1,2,3,4,5,6,8,9,7,10,11,12] [0,1,2] [] .z))))) (.i (.g [4,5] [8,16] [] [] (.i (.i (.d [0,1,3,4,5,6,7,8,9,10,11,12,13,14,15,2,16,17] [0,1] [] .z) (.d [0,1,3,4,5,6,7,8,9,10,11,12,13,14,15,2,16,17] [0,1] [] .z)) (.d [0,1,3,4,5,6,7,8,9,10,11,12,13,14,15,2,16,17] [0] [] .z))) (.i (.o (.i .z (.i .z (.g [3,4,5] [0,8,16] [] [] (.o (.o (.dz [0,1,2,3,4,5,6,8,9,10,11,12,13,14,15,16,7,17,18] [0,1,2] [1048684] [] .z))))))) .z))))))))
instance V3d:∀ (n:Nat) (p0:(List Q4)) (p1:Q2) (p2:Q1) (p3:Int),Ct (Q4m n p0 p1 p2 p3) fun res=>Q7 Tryz.prog 0o00176 [(.slice 2 (List.map Z8 p0)),(.agg (Z7 p1)),(.agg (X0 p2)),(eI p3)] (fun d=>d=(eB res)):=
 ar (au Tryz.func126 Q4m.eq_2 (.o (.o (.o (.o (.o (.o (.i .z (.i .z (.g [0,3,5,6] [0,8] [] [] (.i (.d [0,1,2,3,4,5,7,8,6,9,10,11] [1] [] .z) (.o (.o (.d [0,1,2,3,4,5,7,8,6,9,10,11] [0,1] [] (.i .z (.o (.i .z (.ls 51 (.f [] [] [0,3,6,9,10] [1] (fun (k105:Nat) (s101:Unit)=>[(10,eI (k105:Int))]) (fun k105 s101=>[]) (fun k105 s101=>.o (.g [0,3,6,9,10] [0] [] [] (.o (.o (.d [0,1,2,3,4,5,6,7,8,9,10,11,12,13] [0] [] .z))))) (fun s109=>.z))))))))))))))))))))
end Go.Proofs.YtenmmbjgnlflnaaGreat
