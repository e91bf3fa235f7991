import Derived.Test.YtenmmbjgnlflnaaGreatBJC3d0
import Derived.Test.YtenmmbjgnlflnaaGreatBJC3b0
import Derived.Test.YtenmmbjgnlflnaaGreatBJC3c0
set_option linter.unusedSimpArgs false
set_option linter.unusedVariables false
namespace Go.Proofs.YtenmmbjgnlflnaaGreat
open Go Go.RowKit
set_option maxRecDepth 100000
set_option maxHeartbeats 20000000
instance V6a:∀ (n:Nat) (p0:(List Q4)) (p1:(List Z0)) (p2:(List Q5)) (p3:Q2) (p4:Z1),Ct (Q6l n p0 p1 p2 p3 p4) fun res=>Q7 Tryz.prog 0o00231 [(.slice 2 (List.map Z8 p0)),(.slice 4 (List.map W8 p1)),(.slice 3 (List.map X6 p2)),(.agg (Z7 p3)),(.agg (V8 p4))] (fun d=>d=(eB res)):=
 au Tryz.func153 Q6l.eq_1 .z
instance W5v:∀ (n:Nat) (p0:(List Q4)) (p1:Q2),Ct (Q37 n p0 p1) fun res=>Q7 Tryz.prog 0o00276 [(.slice 2 (List.map Z8 p0)),(.agg (Z7 p1))] (fun d=>d=(eB res)):=
 au Tryz.func190 Q37.eq_1 .z
instance W2b:∀ (n:Nat) (p0:(List Q4)) (p1:Q2) (p2:Q0) (p3:Int) (p4:Int),Ct (Q1z n p0 p1 p2 p3 p4) fun res=>Q12 Tryz.prog 0o00347 [⟨1,[[(eI p4)]],0,0x0003⟩] [(.slice 2 (List.map Z8 p0)),(.agg (Z7 p1)),(.agg (Q3 p2)),(eI p3),.ptr 1 0 0 0] (fun H d=>H=[some ⟨1,[[(eI res.2.2)]],0,0x0003⟩]∧d=.tup [(.slice 3 (List.map X6 res.1)),(eB res.2.1)]):=
 ar (au Tryz.func231 Q1z.eq_2 (.o (.o (.o (.o (.o (.o (.o (.i .z (.i .z (.o (.i .z (.j 8 0 [0,3,4,7,12,14] [0,9,9000] (fun (s23:(List Q5))=>[(14,.sl 3 9000 (s23).length)]) (fun s23=>[(9000,some ⟨3,(List.map X6 s23),0,0x009c⟩)]) (.i .z (.i .z (.pN 14 3 0x009c .z))) (fun s23=>.ls 60 (.f [14] [0,2] [0,3,4,7,12,14,60,61,62] [0,1,2] (fun (k247:Nat) (s243:Int×(List Q5))=>[(14,.sl 3 2 (s243.2).length),(62,eI (k247:Int))]) (fun k247 s243=>[(0,some ⟨1,[[(eI s243.1)]],0,0x0003⟩),(2,some ⟨3,(List.map X6 s243.2),0,0x009c⟩)]) (fun k247 s243=>.o (.j 12 0 [0,3,4,7,12,14,60,61,62] [0,1,2] (fun (s268:Int×(List Q5))=>[(14,.sl 3 2 (s268.2).length)]) (fun s268=>[(0,some ⟨1,[[(eI s268.1)]],0,0x0003⟩),(2,some ⟨3,(List.map X6 s268.2),0,0x009c⟩)]) (.g [0,3,4,7,12,14,15,16,60,61,62] [0,1,2,35] [] [] (.o (.o (.d [0,1,2,3,4,5,6,7,8,9,10,11,12,13,14] [3] [] .z)))) (fun _=>.z))) (fun s251=>.ll 1 (.f [14] [0,1] [14,19,99,100,101] [0,1,2] (fun (k372:Nat) (s368:(List Bool))=>[(101,eI (k372:Int))]) (fun k372 s368=>[(2,some ⟨6,[(List.map cB s368)],0,0x00f3⟩)]) (fun k372 s368=>.z) (fun s376=>.pF 1 .z))))))))))))))))))
end Go.Proofs.YtenmmbjgnlflnaaGreat
