import Derived.Test.YtfhpjeogjcfkaaaGreatSJC2c0
import Derived.Test.YtfhpjeogjcfkaaaGreatSJC2a0
import Derived.Test.YtfhpjeogjcfkaaaGreatSJC2d0
set_option linter.unusedSimpArgs false
set_option linter.unusedVariables false
namespace Go.Proofs.YtfhpjeogjcfkaaaGreat
open Go Go.RowKit
set_option maxRecDepth 100000
set_option maxHeartbeats 20000000
instance W25:∀ (n:Nat) (p0:(List Q4)),Ct (Q2g n p0) fun res=>Q6 Tryz.prog 0o00074 [(.slice 2 (List.map Z8 p0))] (fun d=>d=.cptr (Q1u res)):=
 au Tryz.func60 Q2g.eq_1 .z
instance W6l:∀ (n:Nat) (p0:(List Q4)),Ct (Q12 n p0) fun res=>Q6 Tryz.prog 0o00360 [(.slice 2 (List.map Z8 p0))] (fun d=>d=(.slice 1 (List.map rI res))):=
 au Tryz.func240 Q12.eq_1 (.o (.o (.o (.w [3] [32] [0,3,4] [32] (fun (s7767:(List Int)×Int)=>[(3,.sl 1 32 (s7767.1).length),(4,eI s7767.2)]) (fun s7767=>[(32,some ⟨1,(List.map rI s7767.1),0,0x0003⟩)]) (fun s7767=>.i (.w [0,3,4] [0] [0,3,4,5] [0] (fun (s9063:(List Int)×Int)=>[(3,.sl 1 0 (s9063.1).length),(5,eI s9063.2)]) (fun s9063=>[(0,some ⟨1,(List.map rI s9063.1),0,0x0003⟩)]) (fun s9063=>.i (.o (.ls 33 (.f [0,3,4,5] [0] [0,3,4,5,6,7,8] [0,73] (fun (k9286:Nat) (s9282:(List Int))=>[(3,.sl 1 0 (s9282).length),(8,eI (k9286:Int))]) (fun k9286 s9282=>[(0,some ⟨1,(List.map rI s9282),0,0x0003⟩)]) (fun k9286 s9282=>.o (.j 13 0 [0,3,4,5,6,7,8] [0,1] (fun (s9307:(List Int))=>[(3,.sl 1 0 (s9307).length)]) (fun s9307=>[(0,some ⟨1,(List.map rI s9307),0,0x0003⟩)]) (.g [0,3,4,5,6,7,8] [0,1] [] [] (.o (.d [0,1,2,3,4,5,6,7,8] [1] [] .z))) (fun _=>.z))) (fun s9290=>.z)))) .z) (fun s9071=>.z)) .z) (fun s7775=>.z)))))
instance W61:∀ (n:Nat) (p0:(List Q5)) (p1:Int),Ct (Q60 n p0 p1) fun res=>Q6 Tryz.prog 0o00455 [(.slice 9 (List.map X4 p0)),(eI p1)] (fun d=>d=.tup [(.slice 6 (List.map Q2 res.1)),(eB res.2)]):=
 au Tryz.func301 Q60.eq_1 (.o (.o (.o (.w [6] [16] [0,1,6,7] [16] (fun (s121:(List Q0)×Int)=>[(6,.sl 6 16 (s121.1).length),(7,eI s121.2)]) (fun s121=>[(16,some ⟨6,(List.map Q2 s121.1),0,0x0064⟩)]) (fun s121=>.i (.j 5 0 [0,1,6,7] [0] (fun (s140:(List Q0))=>[(6,.sl 6 0 (s140).length)]) (fun s140=>[(0,some ⟨6,(List.map Q2 s140),0,0x0064⟩)]) .z (fun _=>.z)) .z) (fun s129=>.z)))))
instance V0p:∀ (n:Nat) (p0:(List Q4)) (p1:(List Int)) (p2:Q1) (p3:Q0),Ct (Q4c n p0 p1 p2 p3) fun res=>Q6 Tryz.prog 0o00364 [(.slice 2 (List.map Z8 p0)),(.slice 1 (List.map rI p1)),(.agg (Z2 p2)),(.agg (Q2 p3))] (fun d=>d=(eB res)):=
 ar (au Tryz.func244 Q4c.eq_2 (.o (.o (.o (.o (.o (.o (.i .z (.i .z (.o (.ls 26 (.f [] [] [0,1,7,9,10] [8] (fun (k83:Nat) (s79:Unit)=>[(10,eI (k83:Int))]) (fun k83 s79=>[]) (fun k83 s79=>.o (.g [0,1,7,9,10] [0] [] [] (.o (.o (.d [0,1,2,3,4,5,6,7,8,9,10,11,12] [0] [] .z))))) (fun s87=>.z)))))))))))))
instance W0b:∀ (n:Nat) (p0:(List Q4)) (p1:Q7e),Ct (Q6x n p0 p1) fun res=>Q6 Tryz.prog 0o00546 [(.slice 2 (List.map Z8 p0)),(.agg (Q6j p1))] (fun d=>d=(eS res)):=
 au Tryz.func358 Q6x.eq_1 (.o (.o (.b fun (p1:Q7e)=>.lc 0 1 2 Z2 p1.args (.f [3,5] [0] [0,3,5,6] [0] (fun (k146:Nat) (s142:ByteArray)=>[(5,eS s142),(6,eI (k146:Int))]) (fun k146 s142=>[]) (fun k146 s142=>.o (.j 5 1 [0,3,5,6] [0] (fun (s165:ByteArray)=>[(5,eS s165)]) (fun _=>[]) .z (fun _=>.z))) (fun s150=>.j 9 0 [3,5] [0] (fun (s175:ByteArray)=>[(5,eS s175)]) (fun _=>[]) .z (fun s175=>.j 11 0 [5] [] (fun (s184:ByteArray)=>[(5,eS s184)]) (fun _=>[]) .z (fun _=>.z)))))))
instance W4h:∀ (n:Nat) (p0:Z0) (p1:(List Q5)),Ct (Q2s n p0 p1) fun res=>Q19 Tryz.prog 0o00136 [⟨2,[(Y7 p0)],0,0x00d7⟩] [.ptr 2 0 0 0,(.slice 9 (List.map X4 p1))] (fun H d=>H=[some ⟨2,[(Y7 res.2)],0,0x00d7⟩,some ⟨9,List.map X4 res.1,0,0x00a1⟩]∧d=.sl 9 1 res.1.length):=
 au Tryz.func94 Q2s.eq_1 (.o (.o (.o (.o (.j 2 0 [5] [0,25] (fun (s37:Z0×(List Q5))=>[(5,.sl 9 25 (s37.2).length)]) (fun s37=>[(0,some ⟨2,[(Y7 s37.1)],0,0x00d7⟩),(25,some ⟨9,(List.map X4 s37.2),0,0x00a1⟩)]) (.o (.i .z (.i .z (.i (.w [5] [0,25] [5] [0,25] (fun (s63:(List Q5))=>[(5,.sl 9 25 (s63).length)]) (fun s63=>[(25,some ⟨9,(List.map X4 s63),0,0x00a1⟩)]) (fun s63=>.z) (fun s71=>.z)) .z)))) (fun _=>.z))))))
end Go.Proofs.YtfhpjeogjcfkaaaGreat
