import Derived.Test.YtfhpjeogjcfkaaaGreatBJC2d0
import Derived.Test.YtfhpjeogjcfkaaaGreatBJC2c0
import Derived.Test.YtfhpjeogjcfkaaaGreatBJC2a0
set_option linter.unusedSimpArgs false
set_option linter.unusedVariables false
namespace Go.Proofs.YtfhpjeogjcfkaaaGreat
open Go Go.RowKit
set_option maxRecDepth 100000
set_option maxHeartbeats 20000000
instance V2m:∀ (n:Nat) (p0:(List Q4)),Ct (Q12 n p0) fun res=>Q8 Tryz.prog 0o00360 [(.slice 2 (List.map W5 p0))] (fun d=>d=(.slice 1 (List.map rI res))):=
 au Tryz.func240 Q12.eq_1 (.o (.o (.o (.w [3] [32] [0,3,4] [32] (fun (s7767:(List Int)×Int)=>[(3,.sl 1 32 (s7767.1).length),(4,eI s7767.2)]) (fun s7767=>[(32,some ⟨1,(List.map rI s7767.1),0,0x0003⟩)]) (fun s7767=>.i (.w [0,3,4] [0] [0,3,4,5] [0] (fun (s9063:(List Int)×Int)=>[(3,.sl 1 0 (s9063.1).length),(5,eI s9063.2)]) (fun s9063=>[(0,some ⟨1,(List.map rI s9063.1),0,0x0003⟩)]) (fun s9063=>.i (.o (.ls 33 (.f [0,3,4,5] [0] [0,3,4,5,6,7,8] [0,73] (fun (k9286:Nat) (s9282:(List Int))=>[(3,.sl 1 0 (s9282).length),(8,eI (k9286:Int))]) (fun k9286 s9282=>[(0,some ⟨1,(List.map rI s9282),0,0x0003⟩)]) (fun k9286 s9282=>.o (.j 13 0 [0,3,4,5,6,7,8] [0,1] (fun (s9307:(List Int))=>[(3,.sl 1 0 (s9307).length)]) (fun s9307=>[(0,some ⟨1,(List.map rI s9307),0,0x0003⟩)]) (.g [0,3,4,5,6,7,8] [0,1] [] [] (.o (.d [0,1,2,3,4,5,6,7,8] [1] [] .z))) (fun _=>.z))) (fun s9290=>.z)))) .z) (fun s9071=>.z)) .z) (fun s7775=>.z)))))
instance W56:∀ (n:Nat) (p0:(List Q4)) (p1:Q9t),Ct (Q99 n p0 p1) fun res=>Q8 Tryz.prog 0o00546 [(.slice 2 (List.map W5 p0)),(.agg (Q8d p1))] (fun d=>d=(eS res)):=
 au Tryz.func358 Q99.eq_1 (.o (.o (.b fun (p1:Q9t)=>.lc 0 1 2 W3 p1.args (.f [3,5] [0] [0,3,5,6] [0] (fun (k146:Nat) (s142:ByteArray)=>[(5,eS s142),(6,eI (k146:Int))]) (fun k146 s142=>[]) (fun k146 s142=>.o (.j 5 1 [0,3,5,6] [0] (fun (s165:ByteArray)=>[(5,eS s165)]) (fun _=>[]) .z (fun _=>.z))) (fun s150=>.j 9 0 [3,5] [0] (fun (s175:ByteArray)=>[(5,eS s175)]) (fun _=>[]) .z (fun s175=>.j 11 0 [5] [] (fun (s184:ByteArray)=>[(5,eS s184)]) (fun _=>[]) .z (fun _=>.z)))))))
instance W9s:∀ (n:Nat) (p0:X1) (p1:(List Q3)),Ct (Q3k n p0 p1) fun res=>Y4 Tryz.prog 0o00136 [⟨2,[(J1 p0)],0,0x00d7⟩] [.ptr 2 0 0 0,(.slice 9 (List.map X9 p1))] (fun H d=>H=[some ⟨2,[(J1 res.2)],0,0x00d7⟩,some ⟨9,List.map X9 res.1,0,0x00a1⟩]∧d=.sl 9 1 res.1.length):=
 au Tryz.func94 Q3k.eq_1 (.o (.o (.o (.o (.j 2 0 [5] [0,25] (fun (s37:X1×(List Q3))=>[(5,.sl 9 25 (s37.2).length)]) (fun s37=>[(0,some ⟨2,[(J1 s37.1)],0,0x00d7⟩),(25,some ⟨9,(List.map X9 s37.2),0,0x00a1⟩)]) (.o (.i .z (.i .z (.i (.w [5] [0,25] [5] [0,25] (fun (s63:(List Q3))=>[(5,.sl 9 25 (s63).length)]) (fun s63=>[(25,some ⟨9,(List.map X9 s63),0,0x00a1⟩)]) (fun s63=>.z) (fun s71=>.z)) .z)))) (fun _=>.z))))))
instance V9g:∀ (n:Nat) (p0:(List Q4)) (p1:Q7) (p2:Q2),Ct (Q98 n p0 p1 p2) fun res=>Q8 Tryz.prog 0o00062 [(.slice 2 (List.map W5 p0)),(.agg (W3 p1)),(.agg (X4 p2))] (fun d=>d=(eB res)):=
 au Tryz.func50 Q98.eq_1 .z
instance W76:∀ (n:Nat) (p0:(List Q4)),Ct (Q5q n p0) fun res=>Q8 Tryz.prog 0o00074 [(.slice 2 (List.map W5 p0))] (fun d=>d=.cptr (Q9e res)):=
 au Tryz.func60 Q5q.eq_1 .z
end Go.Proofs.YtfhpjeogjcfkaaaGreat
