import Derived.Test.YtenmmbjgnlflnaaGreatJC5d0
import Derived.Test.YtenmmbjgnlflnaaGreatJC5c0
import Derived.Test.YtenmmbjgnlflnaaGreatJC5a0
set_option linter.unusedSimpArgs false
set_option linter.unusedVariables false
namespace Go.Proofs.YtenmmbjgnlflnaaGreat
open Go Go.RowKit
set_option maxRecDepth 100000
set_option maxHeartbeats 20000000
instance X0j:∀ (n:Nat) (p0:X1) (q0:(List Q2)) (q1:Q3),Ct (Q2f n p0 q0 q1) fun res=>Q6 Tryz.prog 0o00243 [(.agg (V7 p0)),.cptr [(.slice 2 (List.map Z5 q0))],.cptr (Z6 q1)] (fun d=>d=(eB res)):=
 au Tryz.func163 Q2f.eq_1 .z
instance X2s:∀ (n:Nat) (p0:(List Q2)) (p1:Q3) (p2:(List X1)),Ct (Q1x n p0 p1 p2) fun res=>Q6 Tryz.prog 0o00131 [(.slice 2 (List.map Z5 p0)),(.agg (Z6 p1)),(.slice 9 (List.map V7 p2))] (fun d=>d=(eB res)):=
 au Tryz.func89 Q1x.eq_1 .z
instance X7j:∀ (n:Nat) (p0:(List Q2)) (p1:(List GFun)),Ct (Q28 n p0 p1) fun res=>Q6 Tryz.prog 0o00042 [(.slice 2 (List.map Z5 p0)),(.slice 6 (List.map J1 p1))] (fun d=>d=(eB res)):=
 au Tryz.func34 Q28.eq_1 (.o (.o (.o (.o (.o (.i .z (.o (.i .z (.ls 1 (.f [] [] [0,5,22,23,24] [] (fun (k647:Nat) (s643:Unit)=>[(24,eI (k647:Int))]) (fun k647 s643=>[]) (fun k647 s643=>.o (.o (.i .z (.i .z (.ls 38 (.f [0,5,22,23,24] [] [0,5,7,22,23,24,46,47,48] [24] (fun (k757:Nat) (s753:Unit)=>[(48,eI (k757:Int))]) (fun k757 s753=>[]) (fun k757 s753=>.o (.g [0,5,7,8,9,22,23,24,46,47,48] [0,33] [] [] (.o (.o (.o (.d [0,1,2,3,4,5,6,7,8,9,11,12,13,14,10,15,16] [0,1] [] .z)))))) (fun s761=>.z))))))) (fun s651=>.z)))))))))))
instance W7k:∀ (n:Nat) (p0:(List Q2)) (p1:(List GFun)) (p2:Int) (p3:Q0) (p4:Int),Ct (Q5m n p0 p1 p2 p3 p4) fun res=>Q6 Tryz.prog 0o00050 [(.slice 2 (List.map Z5 p0)),(.slice 6 (List.map J1 p1)),(eI p2),(.agg (Z2 p3)),(eI p4)] (fun d=>d=(eB res)):=
 au Tryz.func40 Q5m.eq_1 (.o (.o (.o (.o (.o (.o (.g [0,1,2,4,8] [0] [] [] (.o (.i (.o (.i (.o (.i (.o (.o (.d [0,1,2,3,4,5,6,7,8,9,10,11,12,13,14,15,16,17,18,19,20,21,22,23,24,25] [0] [] .z))) (.d [0,1,2,3,4,5,6,7,8,9,10,11,12,13,14,15,16,17,18,19,20,21,22,23,24,25] [] [] .z))) (.d [0,1,2,3,4,5,6,7,8,9,10,11,12,13,14,15,16,17,18,19,20,21,22,23,24,25] [] [] .z))) (.d [0,1,2,3,4,5,6,7,8,9,10,11,12,13,14,15,16,17,18,19,20,21,22,23,24,25] [] [] .z))))))))))
instance W3t:∀ (n:Nat) (p0:(List Q2)) (p1:(List GFun)) (p2:Int) (p3:Q0) (p4:Int),Ct (Q37 n p0 p1 p2 p3 p4) fun res=>Q6 Tryz.prog 0o00016 [(.slice 2 (List.map Z5 p0)),(.slice 6 (List.map J1 p1)),(eI p2),(.agg (Z2 p3)),(eI p4)] (fun d=>d=.tup [(.agg (Z2 res.1)),(eI res.2)]):=
 au Tryz.func14 Q37.eq_1 .z
end Go.Proofs.YtenmmbjgnlflnaaGreat
