import Derived.Test.YtfhpjeogjcfkaaaGreatRJC2c0
import Derived.Test.YtfhpjeogjcfkaaaGreatRJC2b0
set_option linter.unusedSimpArgs false
set_option linter.unusedVariables false
namespace Go.Proofs.YtfhpjeogjcfkaaaGreat
open Go Go.RowKit
set_option maxRecDepth 100000
set_option maxHeartbeats 20000000
instance X7w:∀ (n:Nat) (p0:(List Q3)) (p1:Q6w),Ct (Q6e n p0 p1) fun res=>Z2 Tryz.prog 0o00546 [(.slice 2 (List.map W8 p0)),(.agg (Q5r p1))] (fun d=>d=(eS res)):=
 au Tryz.func358 Q6e.eq_1 (.o (.o (.b fun (p1:Q6w)=>.lc 0 1 2 W6 p1.args (.f [3,5] [0] [0,3,5,6] [0] (fun (k146:Nat) (s142:ByteArray)=>[(5,eS s142),(6,eI (k146:Int))]) (fun k146 s142=>[]) (fun k146 s142=>.o (.j 5 1 [0,3,5,6] [0] (fun (s165:ByteArray)=>[(5,eS s165)]) (fun _=>[]) .z (fun _=>.z))) (fun s150=>.j 9 0 [3,5] [0] (fun (s175:ByteArray)=>[(5,eS s175)]) (fun _=>[]) .z (fun s175=>.j 11 0 [5] [] (fun (s184:ByteArray)=>[(5,eS s184)]) (fun _=>[]) .z (fun _=>.z)))))))
instance W6a:∀ (n:Nat) (p0:Z7) (p1:(List Q3)) (p2:(List Int)) (p3:Q6) (p4:Int),Ct (Q2j n p0 p1 p2 p3 p4) fun res=>J4 Tryz.prog 0o00372 [⟨2,[(V9 p0)],0,0x00d7⟩] [.ptr 2 0 0 0,(.slice 2 (List.map W8 p1)),(.slice 1 (List.map rI p2)),(.agg (W6 p3)),(eI p4)] (fun H d=>H=[some ⟨2,[(V9 res.2)],0,0x00d7⟩]∧d=(.agg (W4 res.1))):=
 ar (au Tryz.func250 Q2j.eq_2 (.o (.o (.o (.o (.o (.o (.o (.i .z (.o (.ls 26 (.f [0,1,2,4,8,10,12] [0,1,9,73] [0,1,2,4,8,10,11,12,13] [0,1,9,73] (fun (k216:Nat) (s212:(List Int))=>[(12,.sl 1 73 (s212).length),(13,eI (k216:Int))]) (fun k216 s212=>[(73,some ⟨1,(List.map rI s212),0,0x0003⟩)]) (fun k216 s212=>.o (.j 8 0 [0,1,2,4,8,10,11,12,13] [0,1,2,3] (fun (s237:(List Int))=>[(12,.sl 1 3 (s237).length)]) (fun s237=>[(3,some ⟨1,(List.map rI s237),0,0x0003⟩)]) (.g [0,1,2,4,8,10,11,12,13] [0,1,2,3] [] [] (.o (.d [0,1,2,3,4,5,6,7,8] [1] [] .z))) (fun _=>.z))) (fun s220=>.o (.b fun (x257:Int)=>.o (.pC 68 2 3 0x001d (.ls 75 (.f [10,15] [0,2,68,140] [0,1,2,4,10,15,16,17] [0,2,68,140] (fun (k316:Nat) (s312:Z7×(List Q2))=>[(17,eI (k316:Int))]) (fun k316 s312=>[(0,some ⟨2,[(V9 s312.1)],0,0x00d7⟩),(1000000068,some ⟨3,[[(eI x257),(eI 0),(.sl 3 140 (s312.2).length)]],0,0x001d⟩),(140,some ⟨3,(List.map W4 s312.2),0,0x001d⟩)]) (fun k316 s312=>.o (.g [0,1,2,4,10,15,16,17] [0,1,2,3] [] [(1000000002,some ⟨3,[[(eI x257),(eI 0),(.sl 3 3 (s312.2).length)]],0,0x001d⟩)] (.o (.o (.d [0,1,2,3,4,5,6,7,8,9,10,11,12,13,14,15] [2] [96] .z))))) (fun s320=>.pF 3 .z))))))))))))))))))
instance W1p:∀ (n:Nat) (p0:Z7) (p1:(List Z1)),Ct (Q49 n p0 p1) fun res=>J4 Tryz.prog 0o00136 [⟨2,[(V9 p0)],0,0x00d7⟩] [.ptr 2 0 0 0,(.slice 9 (List.map V6 p1))] (fun H d=>H=[some ⟨2,[(V9 res.2)],0,0x00d7⟩,some ⟨9,List.map V6 res.1,0,0x00a1⟩]∧d=.sl 9 1 res.1.length):=
 au Tryz.func94 Q49.eq_1 (.o (.o (.o (.o (.j 2 0 [5] [0,25] (fun (s37:Z7×(List Z1))=>[(5,.sl 9 25 (s37.2).length)]) (fun s37=>[(0,some ⟨2,[(V9 s37.1)],0,0x00d7⟩),(25,some ⟨9,(List.map V6 s37.2),0,0x00a1⟩)]) (.o (.i .z (.i .z (.i (.w [5] [0,25] [5] [0,25] (fun (s63:(List Z1))=>[(5,.sl 9 25 (s63).length)]) (fun s63=>[(25,some ⟨9,(List.map V6 s63),0,0x00a1⟩)]) (fun s63=>.z) (fun s71=>.z)) .z)))) (fun _=>.z))))))
instance X9o:∀ (n:Nat) (p0:(List Q3)),Ct (Q3t n p0) fun res=>Z2 Tryz.prog 0o00074 [(.slice 2 (List.map W8 p0))] (fun d=>d=.cptr (Q6l res)):=
 au Tryz.func60 Q3t.eq_1 .z
end Go.Proofs.YtfhpjeogjcfkaaaGreat
