import Derived.Test.YtbdkbdafhlcilaaGreatJC2c0
import Derived.Test.YtbdkbdafhlcilaaGreatJC2b0
import Derived.Test.YtbdkbdafhlcilaaGreatJC2d0
set_option linter.unusedSimpArgs false
set_option linter.unusedVariables false
namespace Go.Proofs.YtbdkbdafhlcilaaGreat
open Go Go.RowKit
set_option maxRecDepth 100000
set_option maxHeartbeats 20000000
instance W80:∀ (p0:(List Z0)) (p1:(List Z0)),Ct (Q5q p0 p1) fun res=>Z1 Tryz.prog 0o00415 [(.slice 3 (List.map Y4 p0)),(.slice 3 (List.map Y4 p1))] (fun d=>d=(eB res)):=
 au Tryz.func269 Q5q.eq_1 .z
instance W3w:∀ (n:Nat) (p0:(List Q3)),Ct (Q39 n p0) fun res=>Z1 Tryz.prog 0o00300 [(.slice 2 (List.map V0 p0))] (fun d=>d=(eB res)):=
 au Tryz.func192 Q39.eq_1 (.o (.o (.i .z (.ls 0 (.f [] [] [0,3] [] (fun (k1226:Nat) (s1222:Unit)=>[(3,eI (k1226:Int))]) (fun k1226 s1222=>[]) (fun k1226 s1222=>.o (.o (.i .z (.i .z (.i .z (.ls 26 (.f [0,3] [] [0,3,4] [] (fun (k1434:Nat) (s1430:Unit)=>[(4,eI (k1434:Int))]) (fun k1434 s1430=>[]) (fun k1434 s1430=>.z) (fun s1438=>.z)))))))) (fun s1230=>.z))))))
instance V2f:∀ (n:Nat) (p0:Z4) (p1:(List Q3)) (p2:(List Int)) (p3:Q2) (p4:Int),Ct (Q40 n p0 p1 p2 p3 p4) fun res=>Q05 Tryz.prog 0o00057 [⟨2,[(J2 p0)],0,0x009a⟩] [.ptr 2 0 0 0,(.slice 2 (List.map V0 p1)),(.slice 1 (List.map rI p2)),(.agg (X9 p3)),(eI p4)] (fun H d=>H=[some ⟨2,[(J2 res.2)],0,0x009a⟩]∧d=(.agg (Q07 res.1))):=
 ar (au Tryz.func47 Q40.eq_2 (.o (.o (.o (.o (.o (.o (.o (.i .z (.o (.ls 26 (.f [0,1,2,4,8,10,12] [0,1,9,73] [0,1,2,4,8,10,11,12,13] [0,1,9,73] (fun (k216:Nat) (s212:(List Int))=>[(12,.sl 1 73 (s212).length),(13,eI (k216:Int))]) (fun k216 s212=>[(73,some ⟨1,(List.map rI s212),0,0x0003⟩)]) (fun k216 s212=>.o (.j 8 0 [0,1,2,4,8,10,11,12,13] [0,1,2,3] (fun (s237:(List Int))=>[(12,.sl 1 3 (s237).length)]) (fun s237=>[(3,some ⟨1,(List.map rI s237),0,0x0003⟩)]) (.g [0,1,2,4,8,10,11,12,13] [0,1,2,3] [] [] (.o (.d [0,1,2,3,4,5,6,7,8] [1] [] .z))) (fun _=>.z))) (fun s220=>.o (.b fun (x257:Int)=>.o (.pC 68 2 3 0x0038 (.ls 75 (.f [10,15] [0,2,68,140] [0,1,2,4,10,15,16,17] [0,2,68,140] (fun (k316:Nat) (s312:Z4×(List Q4))=>[(17,eI (k316:Int))]) (fun k316 s312=>[(0,some ⟨2,[(J2 s312.1)],0,0x009a⟩),(1000000068,some ⟨3,[[(eI x257),(eI 0),(.sl 3 140 (s312.2).length)]],0,0x0038⟩),(140,some ⟨3,(List.map Q07 s312.2),0,0x0038⟩)]) (fun k316 s312=>.o (.g [0,1,2,4,10,15,16,17] [0,1,2,3] [] [(1000000002,some ⟨3,[[(eI x257),(eI 0),(.sl 3 3 (s312.2).length)]],0,0x0038⟩)] (.o (.o (.d [0,1,2,3,4,5,6,7,8,9,10,11,12,13,14,15] [2] [96] .z))))) (fun s320=>.pF 3 .z))))))))))))))))))
instance W3u:∀ (n:Nat) (p0:(List Q3)) (p1:Q8f),Ct (Q7w n p0 p1) fun res=>Z1 Tryz.prog 0o00453 [(.slice 2 (List.map V0 p0)),(.agg (Q7e p1))] (fun d=>d=(eS res)):=
 au Tryz.func299 Q7w.eq_1 (.o (.o (.b fun (p1:Q8f)=>.lc 0 1 2 X9 p1.args (.f [3,5] [0] [0,3,5,6] [0] (fun (k146:Nat) (s142:ByteArray)=>[(5,eS s142),(6,eI (k146:Int))]) (fun k146 s142=>[]) (fun k146 s142=>.o (.j 5 1 [0,3,5,6] [0] (fun (s165:ByteArray)=>[(5,eS s165)]) (fun _=>[]) .z (fun _=>.z))) (fun s150=>.j 9 0 [3,5] [0] (fun (s175:ByteArray)=>[(5,eS s175)]) (fun _=>[]) .z (fun s175=>.j 11 0 [5] [] (fun (s184:ByteArray)=>[(5,eS s184)]) (fun _=>[]) .z (fun _=>.z)))))))
instance V0f:∀ (n:Nat) (p0:(List Q3)) (p1:Q2) (p2:Q4),Ct (Q5g n p0 p1 p2) fun res=>Z1 Tryz.prog 0o00063 [(.slice 2 (List.map V0 p0)),(.agg (X9 p1)),(.agg (Q07 p2))] (fun d=>d=(eB res)):=
 au Tryz.func51 Q5g.eq_1 .z
end Go.Proofs.YtbdkbdafhlcilaaGreat
