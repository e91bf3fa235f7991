import Derived.Test.YtgjpamkllimhdaaGreatJC2b0
import Derived.Test.YtgjpamkllimhdaaGreatJC2a0
set_option linter.unusedSimpArgs false
set_option linter.unusedVariables false
namespace Go.Proofs.YtgjpamkllimhdaaGreat
open Go Go.RowKit
set_option maxRecDepth 100000
set_option maxHeartbeats 20000000
instance V1o:∀ (n:Nat) (p0:Z9) (p1:(List Q4)) (p2:(List Int)) (p3:Q6) (p4:Int),Ct (Q3p n p0 p1 p2 p3 p4) fun res=>Y8 Tryz.prog 0o00227 [⟨2,[(J3 p0)],0,0x0093⟩] [.ptr 2 0 0 0,(.slice 2 (List.map W1 p1)),(.slice 1 (List.map rI p2)),(.agg (W0 p3)),(eI p4)] (fun H d=>H=[some ⟨2,[(J3 res.2)],0,0x0093⟩]∧d=(.agg (X2 res.1))):=
 ar (au Tryz.func151 Q3p.eq_2 (.o (.o (.o (.o (.o (.o (.o (.i .z (.o (.ls 26 (.f [0,1,2,4,8,10,12] [0,1,9,73] [0,1,2,4,8,10,11,12,13] [0,1,9,73] (fun (k216:Nat) (s212:(List Int))=>[(12,.sl 1 73 (s212).length),(13,eI (k216:Int))]) (fun k216 s212=>[(73,some ⟨1,(List.map rI s212),0,0x0003⟩)]) (fun k216 s212=>.o (.j 8 0 [0,1,2,4,8,10,11,12,13] [0,1,2,3] (fun (s237:(List Int))=>[(12,.sl 1 3 (s237).length)]) (fun s237=>[(3,some ⟨1,(List.map rI s237),0,0x0003⟩)]) (.g [0,1,2,4,8,10,11,12,13] [0,1,2,3] [] [] (.o (.d [0,1,2,3,4,5,6,7,8] [1] [] .z))) (fun _=>.z))) (fun s220=>.o (.b fun (x257:Int)=>.o (.pC 68 2 3 0x001d (.ls 75 (.f [10,15] [0,2,68,140] [0,1,2,4,10,15,16,17] [0,2,68,140] (fun (k316:Nat) (s312:Z9×(List Q1))=>[(17,eI (k316:Int))]) (fun k316 s312=>[(0,some ⟨2,[(J3 s312.1)],0,0x0093⟩),(1000000068,some ⟨3,[[(eI x257),(eI 0),(.sl 3 140 (s312.2).length)]],0,0x001d⟩),(140,some ⟨3,(List.map X2 s312.2),0,0x001d⟩)]) (fun k316 s312=>.o (.g [0,1,2,4,10,15,16,17] [0,1,2,3] [] [(1000000002,some ⟨3,[[(eI x257),(eI 0),(.sl 3 3 (s312.2).length)]],0,0x001d⟩)] (.o (.o (.d [0,1,2,3,4,5,6,7,8,9,10,11,12,13,14,15] [2] [96] .z))))) (fun s320=>.pF 3 .z))))))))))))))))))
instance W9t:∀ (n:Nat) (p0:W3) (p1:(List Q3)) (p2:Q1),Ct (Q49 n p0 p1 p2) fun res=>Z1 Tryz.prog 0o00042 [(.agg (Q3b p0)),(.slice 9 (List.map X9 p1)),(.agg (X2 p2))] (fun d=>d=.tup [(eI res.1),(.slice 4 (List.map Q5n res.2.1)),(eI res.2.2)]):=
 au Tryz.func34 Q49.eq_1 (.o (.o (.o (.o (.w [] [] [1,3,5,9] [0,8] (fun (s34:W3×Int)=>[(9,eI s34.2)]) (fun s34=>[(0,some ⟨6,[(Q3b s34.1)],0,0x0040⟩)]) (fun s34=>.z) (fun s42=>.z))))))
end Go.Proofs.YtgjpamkllimhdaaGreat
