import Derived.Test.YtfhpjeogjcfkaaaGreatBJC0a0
import Derived.Test.YtfhpjeogjcfkaaaGreatBJC0d0
import Derived.Test.YtfhpjeogjcfkaaaGreatBJC0c0
set_option linter.unusedSimpArgs false
set_option linter.unusedVariables false
namespace Go.Proofs.YtfhpjeogjcfkaaaGreat
open Go Go.RowKit
set_option maxRecDepth 100000
set_option maxHeartbeats 20000000
instance V5d:∀ (p0:(List Q4)) (p1:Q7) (p2:Int),Ct (Q16 p0 p1 p2) fun res=>Q8 Tryz.prog 0o00306 [(.slice 2 (List.map W5 p0)),(.agg (W3 p1)),(eI p2)] (fun d=>d=(.slice 2 (List.map W3 res))):=
 au Tryz.func198 Q16.eq_1 (.o (.o (.o (.o (.b fun (x2:Q9t)=>.lc 104 1 2 W3 x2.args (.f [7] [16] [4,7,8,9] [0,16,104] (fun (k118:Nat) (s114:(List Q7))=>[(7,.sl 2 16 (s114).length),(9,eI (k118:Int))]) (fun k118 s114=>[(16,some ⟨2,(List.map W3 s114),0,0x0019⟩)]) (fun k118 s114=>.b fun (x119:Q7)=>.j 7 0 [4,7,8,9,10] [0,1,2,83] (fun (s133:Int)=>[]) (fun s133=>[(83,some ⟨2,[[(eI x119.data),(eI s133)]],0,0x0019⟩)]) .z (fun _=>.z)) (fun s122=>.z)))))))
instance W6y:∀ (p0:X1) (p1:(List Int)),Ct (W4 p0 p1) fun res=>Y4 Tryz.prog 0o00117 [⟨2,[(J1 p0)],0,0x00d7⟩] [.ptr 2 0 0 0,(.slice 1 (List.map rI p1))] (fun H d=>H=[some ⟨2,[(J1 res.2)],0,0x00d7⟩]∧d=(eI res.1)):=
 au Tryz.func79 W4.eq_1 .z
instance V7w:∀ (p0:(List Q4)) (p1:Q7),Ct (Z3n p0 p1) fun res=>Q8 Tryz.prog 0o00463 [(.slice 2 (List.map W5 p0)),(.agg (W3 p1))] (fun d=>d=(eB res)):=
 au Tryz.func307 Z3n.eq_1 .z
instance X2k:∀ (p0:(List Q7)) (p1:(Q7→Option Bool)) {p1_f:FuncId} {p1_c:List D} [p1_i:CF1 (fun a0=>(.agg (W3 a0))) (fun r=>(eB r)) p1 p1_f p1_c],Ct (Q3y p0 p1) fun res=>Q8 Tryz.prog 0o00264 [(.slice 2 (List.map W3 p0)),.clos p1_f p1_c] (fun d=>d=(eB res)):=
 au Tryz.func180 Q3y.eq_1 .z
instance V5j:∀ (p0:(List Q4)) (p1:Q7),Ct (Q8n p0 p1) fun res=>Q8 Tryz.prog 0o00261 [(.slice 2 (List.map W5 p0)),(.agg (W3 p1))] (fun d=>d=(eB res)):=
 au Tryz.func177 Q8n.eq_1 .z
instance V7u:∀ (p0:Int),Ct (Q86 p0) fun res=>Q8 Tryz.prog 0o00516 [(eI p0)] (fun d=>d=(eB res)):=
 au Tryz.func334 Q86.eq_1 .z
instance W74:∀ (n:Nat) (p0:Grow) (p1:Q0) (p2:(List Int)),Ct (Q2w n p0 p1 p2) fun res=>Y4 Tryz.prog 0o00073 [] [(.agg (Q5a p0)),(.agg (Z2 p1)),(.slice 1 (List.map rI p2))] (fun H d=>H=[some ⟨6,List.map Z2 res.pats,0,0x0064⟩]∧d=.agg [(eI res.clause),.sl 6 0 res.pats.length,(.slice 2 (List.map Q6 res.binds))]):=
 au Tryz.func59 Q2w.eq_1 (.o (.b fun (p0:Grow)=>.o (.o (.w [3,4,6] [0,8,16] [2,3,4,6] [0,8,16] (fun (s42:(List Q1)×Q0)=>[]) (fun s42=>[(0,some ⟨3,[[(eI p0.clause),(.slice 6 (List.map Z2 p0.pats)),(.slice 2 (List.map Q6 s42.1))]],0,0x0066⟩),(8,some ⟨6,[(Z2 s42.2)],0,0x0064⟩)]) (fun s42=>.j 1 0 [2,3,4,6] [0,1,2] (fun (s56:Unit)=>[]) (fun _=>[]) .z (fun s56=>.g [2,3,4,6] [0,1,2] [] [] (.o (.o (.o (.d [0,1,3,4,5,2,6,7,8,9,10,11] [0,1] [25] (.i (.o (.pF 12 (.pF 27 .z))) (.o (.pF 12 (.pF 27 .z)))))))))) (fun s50=>.g [3,4,6] [0,1,2] [] [] (.o (.o (.dz [0,1,3,2,4,5,6,7] [0,1] [1048614] [40] .z))))))))
instance X6o:∀ (p0:(List (List Z7))),Ct (Q2a p0) fun res=>Q8 Tryz.prog 0o00206 [(.slice 1 (List.map (rL 3 Q1u) p0))] (fun d=>d=(.slice 3 (List.map Q1u res))):=
 au Tryz.func134 Q2a.eq_1 (.o (.ls 0 (.f [0,3] [] [0,3,9,10,11] [] (fun (k46:Nat) (s42:Int)=>[(3,eI s42),(11,eI (k46:Int))]) (fun k46 s42=>[]) (fun k46 s42=>.z) (fun s50=>.o (.ls 0 (.f [6] [9] [6,25,26,27] [9] (fun (k99:Nat) (s95:(List Z7))=>[(6,.sl 3 9 (s95).length),(27,eI (k99:Int))]) (fun k99 s95=>[(9,some ⟨3,(List.map Q1u s95),0,0x006f⟩)]) (fun k99 s95=>.z) (fun s103=>.z)))))))
instance V24:∀ (n:Nat) (p0:Y3) (p1:Q0) (p2:(List Int)),Ct (Q4g n p0 p1 p2) fun res=>Q8 Tryz.prog 0o00423 [(.agg (Q2n p0)),(.agg (Z2 p1)),(.slice 1 (List.map rI p2))] (fun d=>d=.tup [(.agg (Q2n res.1)),(.agg (Z2 res.2))]):=
 au Tryz.func275 Q4g.eq_1 (.o (.b fun (p0:Y3)=>.o (.b fun (p2:(List Int))=>.w [2,3,4,6,7] [0,8,16,24] [2,3,4,6,7] [0,8,16,24] (fun (s16:(List Q1)×Q0)=>[]) (fun s16=>[(0,some ⟨3,[[(eI p0.clause),(.slice 6 (List.map Z2 p0.pats)),(.slice 2 (List.map Q6 s16.1))]],0,0x0142⟩),(8,some ⟨6,[(Z2 s16.2)],0,0x0064⟩)]) (fun s16=>.i (.g [2,3,4,6,7] [0,1,2,3] [] [] (.o (.o (.o (.dz [1,2,4,5,7,0,3,6,8,9,10,11,12,13] [0,1] [1048593] [23] (.o (.pF 2097168 (.pF 2097184 .z)))))))) .z) (fun s24=>.i (.g [2,3,4,6,7] [0,1,2,3] [] [] (.o (.o (.o (.dz [1,2,4,5,7,0,3,6,8,9,10,11,12,13] [0,1] [1048613] [43] (.pF 2097168 (.g [3,6,7] [0,2097184,2,3] [] [(1000000000,some ⟨3,[[(eI p0.clause),(.slice 6 (List.map Z2 p0.pats)),(.sl 2 2097184 ((s24.1++[(Q1.mk s24.2.var p2)])).length)]],0,0x0142⟩),(2097184,some ⟨2,(List.map Q6 (s24.1++[(Q1.mk s24.2.var p2)])),0,0x0095⟩)] (.o (.d [0,1,2,3] [0] [] .z))))))))) (.g [3,4,6,7] [0,1,2,3] [] [] (.d [0,1,2,3] [0,1] [] .z))))))
end Go.Proofs.YtfhpjeogjcfkaaaGreat
