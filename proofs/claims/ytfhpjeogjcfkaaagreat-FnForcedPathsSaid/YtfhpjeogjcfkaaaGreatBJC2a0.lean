import Derived.Test.YtfhpjeogjcfkaaaGreatBJC1a0
import Derived.Test.YtfhpjeogjcfkaaaGreatBJC1c0
import Derived.Test.YtfhpjeogjcfkaaaGreatBJC1b0
import Derived.Test.YtfhpjeogjcfkaaaGreatBJC1d0
set_option linter.unusedSimpArgs false
set_option linter.unusedVariables false
namespace Go.Proofs.YtfhpjeogjcfkaaaGreat
open Go Go.RowKit
set_option maxRecDepth 100000
set_option maxHeartbeats 20000000
instance V51:∀ (n:Nat) (p0:X1) (p1:(List Q4)) (p2:Q7) (p3:Int),Ct (Q33 n p0 p1 p2 p3) fun res=>Y4 Tryz.prog 0o00533 [⟨2,[(J1 p0)],0,0x00d7⟩] [.ptr 2 0 0 0,(.slice 2 (List.map W5 p1)),(.agg (W3 p2)),(eI p3)] (fun H d=>H=[some ⟨2,[(J1 res.2)],0,0x00d7⟩]∧d=(.agg (Z2 res.1))):=
 ar (au Tryz.func347 Q33.eq_2 (.o (.o (.o (.o (.o (.o (.i .z (.o (.i .z (.o (.i (.g [0,1,3,6,8] [0,1,9] [] [] (.o (.o (.d [0,1,2,3,4,6,7,8,9,10,5,11,12,13,14] [1] [] (.pF 19 .z))))) (.i .z (.o (.i .z (.o (.b fun (x37:Int)=>.o (.pC 241 5 6 0x0064 (.ls 74 (.f [8,11] [0,9,241,313] [0,1,3,8,11,12,13] [0,9,241,313] (fun (k96:Nat) (s92:X1×(List Q0))=>[(13,eI (k96:Int))]) (fun k96 s92=>[(0,some ⟨2,[(J1 s92.1)],0,0x00d7⟩),(1000000241,some ⟨6,[[(eI 4),(eI x37),(eI 0),(eI 0),(eI 0),(.sl 6 313 (s92.2).length)]],0,0x0064⟩),(313,some ⟨6,(List.map Z2 s92.2),0,0x0064⟩)]) (fun k96 s92=>.o (.g [0,1,3,8,11,12,13] [0,1,2,3] [] [(1000000002,some ⟨6,[[(eI 4),(eI x37),(eI 0),(eI 0),(eI 0),(.sl 6 3 (s92.2).length)]],0,0x0064⟩)] (.o (.o (.d [0,1,2,3,4,5,6,7,8,9,10,11,12,13,14] [2] [94] .z))))) (fun s100=>.pF 3 .z)))))))))))))))))))))
instance W9v:∀ (p0:X1) (p1:Q0),Ct (Q4w p0 p1) fun res=>Y4 Tryz.prog 0o00271 [⟨2,[(J1 p0)],0,0x00d7⟩] [.ptr 2 0 0 0,(.agg (Z2 p1))] (fun H d=>H=[some ⟨2,[(J1 res.2)],0,0x00d7⟩]∧d=(.agg (Z2 res.1))):=
 au Tryz.func185 Q4w.eq_1 (.o (.b fun (p1:Q0)=>.o (.j 3 0 [4,5] [0,9,25,65] (fun (s17:X1×Int×Int×Int×Int×(List Q0))=>[]) (fun s17=>[(0,some ⟨2,[(J1 s17.1)],0,0x00d7⟩),(1000000025,some ⟨6,[[(eI s17.2.1),(eI s17.2.2.1),(eI s17.2.2.2.1),(eI p1.m),(eI s17.2.2.2.2.1),(.sl 6 65 (s17.2.2.2.2.2).length)]],0,0x0064⟩),(65,some ⟨6,(List.map Z2 s17.2.2.2.2.2),0,0x0064⟩)]) .z (fun _=>.pF 3 .z))))
instance X2i:∀ (n:Nat) (p0:(List Q1)) (p1:(Q1→Q1→Option Int)) {p1_f:FuncId} {p1_c:List D} [p1_i:CF2 (fun a0=>(.agg (Q6 a0))) (fun a1=>(.agg (Q6 a1))) (fun r=>(eI r)) p1 p1_f p1_c],Ct (Y7 n p0 p1) fun res=>Y4 Tryz.prog 0o00141 [⟨2,List.map Q6 p0,0,0x0095⟩] [.sl 2 0 p0.length,.clos p1_f p1_c] (fun H d=>H=[some ⟨2,List.map Q6 res,0,0x0095⟩]∧d=.tup []):=
 au Tryz.func97 Y7.eq_1 .z
instance V52:∀ (n:Nat) (p0:(List Q4)) (p1:Q7) (p2:Q2) (p3:Int),Ct (Q46 n p0 p1 p2 p3) fun res=>Q8 Tryz.prog 0o00153 [(.slice 2 (List.map W5 p0)),(.agg (W3 p1)),(.agg (X4 p2)),(eI p3)] (fun d=>d=(eB res)):=
 ar (au Tryz.func107 Q46.eq_2 (.o (.o (.o (.o (.o (.o (.i .z (.i .z (.g [0,3,5,6] [0,8] [] [] (.i (.d [0,1,2,3,4,5,7,8,6,9,10,11] [1] [] .z) (.o (.o (.d [0,1,2,3,4,5,7,8,6,9,10,11] [0,1] [] (.i .z (.o (.i .z (.ls 51 (.f [] [] [0,3,6,9,10] [1] (fun (k105:Nat) (s101:Unit)=>[(10,eI (k105:Int))]) (fun k105 s101=>[]) (fun k105 s101=>.o (.g [0,3,6,9,10] [0] [] [] (.o (.o (.d [0,1,2,3,4,5,6,7,8,9,10,11,12,13] [0] [] .z))))) (fun s109=>.z))))))))))))))))))))
instance X5k:∀ (p0:Q1) (p1:Q1),Ct (Q08 p0 p1) fun res=>Q8 Tryz.prog 0o00324 [(.agg (Q6 p0)),(.agg (Q6 p1))] (fun d=>d=(eI res)):=
 au Tryz.func212 Q08.eq_1 .z
instance V4u:∀ (p0:(List Q4)) (p1:Q7) (p2:Int),Ct (Q5c p0 p1 p2) fun res=>Q8 Tryz.prog 0o00511 [(.slice 2 (List.map W5 p0)),(.agg (W3 p1)),(eI p2)] (fun d=>d=(.agg (Z2 res))):=
 au Tryz.func329 Q5c.eq_1 (.o (.o (.b fun (p2:Int)=>.o (.pC 32 5 6 0x0064 (.ls 15 (.f [6,7] [8,32,96] [6,7,8,9] [8,32,96] (fun (k49:Nat) (s45:(List Q0))=>[(9,eI (k49:Int))]) (fun k49 s45=>[(1000000032,some ⟨6,[[(eI 4),(eI p2),(eI 0),(eI 0),(eI 0),(.sl 6 96 (s45).length)]],0,0x0064⟩),(96,some ⟨6,(List.map Z2 s45),0,0x0064⟩)]) (fun k49 s45=>.o (.g [6,7,8,9] [0,1,2] [] [(1000000001,some ⟨6,[[(eI 4),(eI p2),(eI 0),(eI 0),(eI 0),(.sl 6 2 (s45).length)]],0,0x0064⟩)] (.o (.o (.d [0,1,2,3,4,5,6] [1] [27] .z))))) (fun s53=>.z)))))))
instance V4o:∀ (n:Nat) (p0:(List Q3)),Ct (Q6v n p0) fun res=>Q8 Tryz.prog 0o00317 [(.slice 9 (List.map X9 p0))] (fun d=>d=(.slice 3 (List.map Q2n res))):=
 au Tryz.func207 Q6v.eq_1 (.o (.o (.ls 0 (.f [3] [8] [0,3,4] [8] (fun (k366:Nat) (s362:(List Y3))=>[(3,.sl 3 8 (s362).length),(4,eI (k366:Int))]) (fun k366 s362=>[(8,some ⟨3,(List.map Q2n s362),0,0x0142⟩)]) (fun k366 s362=>.o (.o (.ll 74 (.f [0,3,4] [0] [0,3,4,5,6] [0,74] (fun (k428:Nat) (s424:(List Y3))=>[(3,.sl 3 0 (s424).length),(6,eI (k428:Int))]) (fun k428 s424=>[(0,some ⟨3,(List.map Q2n s424),0,0x0142⟩)]) (fun k428 s424=>.o (.o (.o (.pF 154 .z)))) (fun s432=>.z))))) (fun s370=>.z)))))
end Go.Proofs.YtfhpjeogjcfkaaaGreat
