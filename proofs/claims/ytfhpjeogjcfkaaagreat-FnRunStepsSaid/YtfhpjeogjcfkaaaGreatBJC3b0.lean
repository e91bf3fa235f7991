import Derived.Test.YtfhpjeogjcfkaaaGreatBJC2b0
import Derived.Test.YtfhpjeogjcfkaaaGreatBJC2d0
set_option linter.unusedSimpArgs false
set_option linter.unusedVariables false
namespace Go.Proofs.YtfhpjeogjcfkaaaGreat
open Go Go.RowKit
set_option maxRecDepth 100000
set_option maxHeartbeats 20000000
instance W58:∀ (n:Nat) (p0:(List Q4)),Ct (Q3c n p0) fun res=>Q8 Tryz.prog 0o00351 [(.slice 2 (List.map W5 p0))] (fun d=>d=(eB res)):=
 au Tryz.func233 Q3c.eq_1 (.o (.o (.i .z (.ls 0 (.f [] [] [0,3] [] (fun (k1226:Nat) (s1222:Unit)=>[(3,eI (k1226:Int))]) (fun k1226 s1222=>[]) (fun k1226 s1222=>.o (.o (.i .z (.i .z (.i .z (.ls 26 (.f [0,3] [] [0,3,4] [] (fun (k1434:Nat) (s1430:Unit)=>[(4,eI (k1434:Int))]) (fun k1434 s1430=>[]) (fun k1434 s1430=>.z) (fun s1438=>.z)))))))) (fun s1230=>.z))))))
instance V53:∀ (n:Nat) (p0:X1) (p1:(List Q4)) (p2:(List Int)) (p3:Q7) (p4:Int),Ct (Q47 n p0 p1 p2 p3 p4) fun res=>Y4 Tryz.prog 0o00372 [⟨2,[(J1 p0)],0,0x00d7⟩] [.ptr 2 0 0 0,(.slice 2 (List.map W5 p1)),(.slice 1 (List.map rI p2)),(.agg (W3 p3)),(eI p4)] (fun H d=>H=[some ⟨2,[(J1 res.2)],0,0x00d7⟩]∧d=(.agg (X4 res.1))):=
 ar (au Tryz.func250 Q47.eq_2 (.o (.o (.o (.o (.o (.o (.o (.i .z (.o (.ls 26 (.f [0,1,2,4,8,10,12] [0,1,9,73] [0,1,2,4,8,10,11,12,13] [0,1,9,73] (fun (k216:Nat) (s212:(List Int))=>[(12,.sl 1 73 (s212).length),(13,eI (k216:Int))]) (fun k216 s212=>[(73,some ⟨1,(List.map rI s212),0,0x0003⟩)]) (fun k216 s212=>.o (.j 8 0 [0,1,2,4,8,10,11,12,13] [0,1,2,3] (fun (s237:(List Int))=>[(12,.sl 1 3 (s237).length)]) (fun s237=>[(3,some ⟨1,(List.map rI s237),0,0x0003⟩)]) (.g [0,1,2,4,8,10,11,12,13] [0,1,2,3] [] [] (.o (.d [0,1,2,3,4,5,6,7,8] [1] [] .z))) (fun _=>.z))) (fun s220=>.o (.b fun (x257:Int)=>.o (.pC 68 2 3 0x001d (.ls 75 (.f [10,15] [0,2,68,140] [0,1,2,4,10,15,16,17] [0,2,68,140] (fun (k316:Nat) (s312:X1×(List Q2))=>[(17,eI (k316:Int))]) (fun k316 s312=>[(0,some ⟨2,[(J1 s312.1)],0,0x00d7⟩),(1000000068,some ⟨3,[[(eI x257),(eI 0),(.sl 3 140 (s312.2).length)]],0,0x001d⟩),(140,some ⟨3,(List.map X4 s312.2),0,0x001d⟩)]) (fun k316 s312=>.o (.g [0,1,2,4,10,15,16,17] [0,1,2,3] [] [(1000000002,some ⟨3,[[(eI x257),(eI 0),(.sl 3 3 (s312.2).length)]],0,0x001d⟩)] (.o (.o (.d [0,1,2,3,4,5,6,7,8,9,10,11,12,13,14,15] [2] [96] .z))))) (fun s320=>.pF 3 .z))))))))))))))))))
end Go.Proofs.YtfhpjeogjcfkaaaGreat
