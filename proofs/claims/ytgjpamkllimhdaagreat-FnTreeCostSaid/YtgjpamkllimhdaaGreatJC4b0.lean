import Derived.Test.YtgjpamkllimhdaaGreatJC2a0
import Derived.Test.YtgjpamkllimhdaaGreatJC3d0
set_option linter.unusedSimpArgs false
set_option linter.unusedVariables false
namespace Go.Proofs.YtgjpamkllimhdaaGreat
open Go Go.RowKit
set_option maxRecDepth 100000
set_option maxHeartbeats 20000000
instance W1e:∀ (n:Nat) (p0:(List Q4)) (p1:Q6) (p2:Q0) (p3:Int) (p4:Int),Ct (Q1k n p0 p1 p2 p3 p4) fun res=>Y8 Tryz.prog 0o00306 [⟨1,[[(eI p4)]],0,0x0003⟩] [(.slice 2 (List.map W1 p0)),(.agg (W0 p1)),(.agg (Q9 p2)),(eI p3),.ptr 1 0 0 0] (fun H d=>H=[some ⟨1,[[(eI res.2.2)]],0,0x0003⟩]∧d=.tup [(.slice 3 (List.map Y7 res.1)),(eB res.2.1)]):=
 ar (au Tryz.func198 Q1k.eq_2 (.o (.o (.o (.o (.o (.o (.o (.i .z (.i .z (.o (.i .z (.j 8 0 [0,3,4,7,12,14] [0,9,9000] (fun (s23:(List Z2))=>[(14,.sl 3 9000 (s23).length)]) (fun s23=>[(9000,some ⟨3,(List.map Y7 s23),0,0x010c⟩)]) (.i .z (.i .z (.pN 14 3 0x010c .z))) (fun s23=>.ls 60 (.f [14] [0,2] [0,3,4,7,12,14,60,61,62] [0,1,2] (fun (k247:Nat) (s243:Int×(List Z2))=>[(14,.sl 3 2 (s243.2).length),(62,eI (k247:Int))]) (fun k247 s243=>[(0,some ⟨1,[[(eI s243.1)]],0,0x0003⟩),(2,some ⟨3,(List.map Y7 s243.2),0,0x010c⟩)]) (fun k247 s243=>.o (.j 12 0 [0,3,4,7,12,14,60,61,62] [0,1,2] (fun (s268:Int×(List Z2))=>[(14,.sl 3 2 (s268.2).length)]) (fun s268=>[(0,some ⟨1,[[(eI s268.1)]],0,0x0003⟩),(2,some ⟨3,(List.map Y7 s268.2),0,0x010c⟩)]) (.g [0,3,4,7,12,14,15,16,60,61,62] [0,1,2,35] [] [] (.o (.o (.d [0,1,2,3,4,5,6,7,8,9,10,11,12,13,14] [3] [] .z)))) (fun _=>.z))) (fun s251=>.ll 1 (.f [14] [0,1] [14,19,99,100,101] [0,1,2] (fun (k372:Nat) (s368:(List Bool))=>[(101,eI (k372:Int))]) (fun k372 s368=>[(2,some ⟨6,[(List.map cB s368)],0,0x0128⟩)]) (fun k372 s368=>.z) (fun s376=>.pF 1 .z))))))))))))))))))
end Go.Proofs.YtgjpamkllimhdaaGreat
