import Derived.Test.YtjgapphpbkapmaaGreatJC0c0
import Derived.Test.YtjgapphpbkapmaaGreatJC0a0
import Derived.Test.YtjgapphpbkapmaaGreatJC0d0
import Derived.Test.YtjgapphpbkapmaaGreatJC0b0
set_option linter.unusedSimpArgs false
set_option linter.unusedVariables false
namespace Go.Proofs.YtjgapphpbkapmaaGreat
open Go Go.RowKit
set_option maxRecDepth 100000
set_option maxHeartbeats 20000000
instance W26:∀ (p0:X0) (p1:(List Int)),Ct (X5 p0 p1) fun res=>J0 Tryz.prog 0o00215 [⟨2,[(Y1 p0)],0,0x00c5⟩] [.ptr 2 0 0 0,(.slice 1 (List.map rI p1))] (fun H d=>H=[some ⟨2,[(Y1 res.2)],0,0x00c5⟩]∧d=(eI res.1)):=
 au Tryz.func141 X5.eq_1 .z
instance X8q:∀ (p0:(List ByteArray)) (p1:ByteArray),Ct (Q6s p0 p1) fun res=>Z2 Tryz.prog 0o00454 [(.slice 1 (List.map rS p0)),(eS p1)] (fun d=>d=(.agg (W0 res))):=
 au Tryz.func300 Q6s.eq_1 (.o (.o (.i .z (.o (.b fun (r4:(Int))=>.j 4 0 [4,5] [0,64] (fun (s18:Int)=>[]) (fun s18=>[(64,some ⟨2,[[(eI r4),(eI s18)]],0,0x0019⟩)]) .z (fun _=>.z))))))
instance W8w:∀ (n:Nat) (p0:X0) (p1:Q0) (p2:Int),Ct (Q5m n p0 p1 p2) fun res=>J0 Tryz.prog 0o00435 [⟨2,[(Y1 p0)],0,0x00c5⟩] [.ptr 2 0 0 0,(.agg (Z0 p1)),(eI p2)] (fun H d=>H=[some ⟨2,[(Y1 res.2.2)],0,0x00c5⟩]∧d=.tup [(.agg (Z0 res.1)),(eI res.2.1)]):=
 ar (au Tryz.func285 Q5m.eq_2 (.o (.o (.o (.b fun (p1:Q0)=>.o (.i .z (.i .z (.i .z (.j 3 0 [0,2,4,6] [0,1,9] (fun (s25:X0)=>[]) (fun s25=>[(0,some ⟨2,[(Y1 s25)],0,0x00c5⟩)]) .z (fun s25=>.pC 11 5 6 0x0060 (.lc 1 5 6 Z0 p1.kids (.f [0,6,8,9] [0,2,11,67] [0,4,6,8,9,10] [0,1,2,11,67] (fun (k95:Nat) (s91:X0×(List Q0)×Int)=>[(9,eI s91.2.2),(10,eI (k95:Int))]) (fun k95 s91=>[(0,some ⟨2,[(Y1 s91.1)],0,0x00c5⟩),(1000000011,some ⟨6,[[(eI p1.op),(eI p1.ctor),(eI p1.n),(eI p1.m),(eI p1.var),(.sl 6 67 (s91.2.1).length)]],0,0x0060⟩),(67,some ⟨6,(List.map Z0 s91.2.1),0,0x0060⟩)]) (fun k95 s91=>.z) (fun s99=>.j 14 0 [6,8,9] [0,1,2,3] (fun (s112:X0)=>[]) (fun s112=>[(0,some ⟨2,[(Y1 s112)],0,0x00c5⟩),(1000000002,some ⟨6,[[(eI p1.op),(eI p1.ctor),(eI p1.n),(eI p1.m),(eI p1.var),(.sl 6 3 (s99.2.1).length)]],0,0x0060⟩)]) (.i (.o (.i (.pF 3 (.pF 76 .z)) .z)) .z) (fun _=>.pF 3 .z))))))))))))))
instance V1o:∀ (p0:(List Q3)) (p1:Q4),Ct (Z1b p0 p1) fun res=>Z2 Tryz.prog 0o00366 [(.slice 2 (List.map W2 p0)),(.agg (W0 p1))] (fun d=>d=(eB res)):=
 au Tryz.func246 Z1b.eq_1 .z
instance V1m:∀ (p0:Int),Ct (Q6g p0) fun res=>Z2 Tryz.prog 0o00446 [(eI p0)] (fun d=>d=(eB res)):=
 au Tryz.func294 Q6g.eq_1 .z
instance X4i:∀ (p0:(List Int)) (p1:Int),Ct (Q05 p0 p1) fun res=>Z2 Tryz.prog 0o00230 [(.slice 1 (List.map rI p0)),(eI p1)] (fun d=>d=(eB res)):=
 au Tryz.func152 Q05.eq_1 .z
instance X5t:∀ (p0:(List Int)) (p1:(List Q3)) (p2:Q4) (p3:Int),Ct (Q0v p0 p1 p2 p3) fun res=>Z2 Tryz.prog 0o00276 [.cptr (List.map cI p0),(.slice 2 (List.map W2 p1)),(.agg (W0 p2)),(eI p3)] (fun d=>d=(eI res)):=
 au Tryz.func190 Q0v.eq_1 (.o (.o (.o (.o (.o (.ls 16 (.f [9] [] [0,9,16,17,18] [] (fun (k68:Nat) (s64:Int)=>[(9,eI s64),(18,eI (k68:Int))]) (fun k68 s64=>[]) (fun k68 s64=>.z) (fun s72=>.z))))))))
instance W4r:∀ (p0:(List Q2)),Ct (Q41 p0) fun res=>Z2 Tryz.prog 0o00201 [(.slice 2 (List.map Z3 p0))] (fun d=>d=(.slice 2 (List.map Z3 res))):=
 au Tryz.func129 Q41.eq_1 (.o (.pN 3 2 0x008b (.ls 0 (.f [3] [40] [3,6,7,8] [40] (fun (k56:Nat) (s52:(List Q2))=>[(3,.sl 2 40 (s52).length),(8,eI (k56:Int))]) (fun k56 s52=>[(40,some ⟨2,(List.map Z3 s52),0,0x008b⟩)]) (fun k56 s52=>.o (.g [3,5,6,7,8] [0,25] [] [] (.o (.o (.d [0,1,2,3,4,5,6,7,8,9] [1] [] (.pF 3 .z)))))) (fun s60=>.z)))))
instance W0x:∀ (p0:Q2i) (p1:(List X8)),Ct (Q03 p0 p1) fun res=>Z2 Tryz.prog 0o00137 [(.agg (Q77 p0)),(.slice 4 (List.map Q1m p1))] (fun d=>d=(eB res)):=
 au Tryz.func95 Q03.eq_1 .z
end Go.Proofs.YtjgapphpbkapmaaGreat
