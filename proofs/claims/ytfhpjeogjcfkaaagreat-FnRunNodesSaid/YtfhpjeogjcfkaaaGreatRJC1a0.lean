import Derived.Test.YtfhpjeogjcfkaaaGreatRJC0d0
import Derived.Test.YtfhpjeogjcfkaaaGreatRJC0b0
import Derived.Test.YtfhpjeogjcfkaaaGreatRJC0c0
import Derived.Test.YtfhpjeogjcfkaaaGreatRJC0a0
set_option linter.unusedSimpArgs false
set_option linter.unusedVariables false
namespace Go.Proofs.YtfhpjeogjcfkaaaGreat
open Go Go.RowKit
set_option maxRecDepth 100000
set_option maxHeartbeats 20000000
instance X9q:∀ (n:Nat) (p0:Q2) (p1:Q2),Ct (Q2f n p0 p1) fun res=>Z2 Tryz.prog 0o00042 [(.agg (W4 p0)),(.agg (W4 p1))] (fun d=>d=(eB res)):=
 ar (au Tryz.func34 Q2f.eq_2 .z)
instance W46:∀ (p0:(List Q3)) (p1:Q6),Ct (Q0m p0 p1) fun res=>Z2 Tryz.prog 0o00305 [(.slice 2 (List.map W8 p0)),(.agg (W6 p1))] (fun d=>d=(.slice 1 (List.map rI res))):=
 au Tryz.func197 Q0m.eq_1 (.o (.o (.i .z (.b fun (x115:Q3)=>.le 0 1 3 Q5r x115.ctors x115 (.f [5] [16] [0,3,5,6] [0,16] (fun (k149:Nat) (s145:(List Int))=>[(5,.sl 1 16 (s145).length),(6,eI (k149:Int))]) (fun k149 s145=>[(16,some ⟨1,(List.map rI s145),0,0x0003⟩)]) (fun k149 s145=>.o (.j 7 0 [0,3,5,6] [0,1] (fun (s157:(List Int))=>[(5,.sl 1 1 (s157).length)]) (fun s157=>[(1,some ⟨1,(List.map rI s157),0,0x0003⟩)]) (.g [0,3,5,6] [0,1] [] [] (.o (.d [0,1,2,3,4,5,6,7,8,9,10,11] [0] [] .z))) (fun _=>.z))) (fun s153=>.z))))))
instance X62:∀ (p0:(List ByteArray)) (p1:ByteArray),Ct (Q5x p0 p1) fun res=>Z2 Tryz.prog 0o00545 [(.slice 1 (List.map rS p0)),(eS p1)] (fun d=>d=(.agg (W6 res))):=
 au Tryz.func357 Q5x.eq_1 (.o (.o (.i .z (.o (.b fun (r4:(Int))=>.j 4 0 [4,5] [0,64] (fun (s18:Int)=>[]) (fun s18=>[(64,some ⟨2,[[(eI r4),(eI s18)]],0,0x0019⟩)]) .z (fun _=>.z))))))
instance X9k:∀ (n:Nat) (p0:ByteArray),Ct (Q70 n p0) fun res=>Z2 Tryz.prog 0o00520 [(eS p0)] (fun d=>d=(eB res)):=
 au Tryz.func336 Q70.eq_1 (.o (.o (.i .z (.i .z (.o (.o (.i .z (.w [] [] [0,3] [] (fun (s132:Int)=>[(3,eI s132)]) (fun s132=>[]) (fun s132=>.z) (fun s140=>.z)))))))))
instance W44:∀ (n:Nat) (p0:Int),Ct (Q8d n p0) fun res=>Z2 Tryz.prog 0o00555 [(eI p0)] (fun d=>d=(eS res)):=
 au Tryz.func365 Q8d.eq_1 .z
instance Z4t:∀ (p0:(List Q9)) (p1:(Q9→Option Bool)) {p1_f:FuncId} {p1_c:List D} [p1_i:CF1 (fun a0=>(.agg (V4 a0))) (fun r=>(eB r)) p1 p1_f p1_c],Ct (Q0p p0 p1) fun res=>Z2 Tryz.prog 0o00535 [(.slice 3 (List.map V4 p0)),.clos p1_f p1_c] (fun d=>d=(eB res)):=
 au Tryz.func349 Q0p.eq_1 .z
instance Z7n:∀ (p0:(List Q9)) (p1:Q9),Ct (Q07 p0 p1) fun res=>Z2 Tryz.prog 0o00413 [(.slice 3 (List.map V4 p0)),(.agg (V4 p1))] (fun d=>d=(eB res)):=
 au Tryz.func267 Q07.eq_1 .z
instance X0q:∀ (p0:(List (List Z5))),Ct (Q14 p0) fun res=>Z2 Tryz.prog 0o00206 [(.slice 1 (List.map (rL 3 Q0v) p0))] (fun d=>d=(.slice 3 (List.map Q0v res))):=
 au Tryz.func134 Q14.eq_1 (.o (.ls 0 (.f [0,3] [] [0,3,9,10,11] [] (fun (k46:Nat) (s42:Int)=>[(3,eI s42),(11,eI (k46:Int))]) (fun k46 s42=>[]) (fun k46 s42=>.z) (fun s50=>.o (.ls 0 (.f [6] [9] [6,25,26,27] [9] (fun (k99:Nat) (s95:(List Z5))=>[(6,.sl 3 9 (s95).length),(27,eI (k99:Int))]) (fun k99 s95=>[(9,some ⟨3,(List.map Q0v s95),0,0x006f⟩)]) (fun k99 s95=>.z) (fun s103=>.z)))))))
instance Z9r:∀ (n:Nat) (p0:(List Grow)) (p1:(Grow→Option Bool)) {p1_f:FuncId} {p1_c:List D} [p1_i:CF1 (fun a0=>(.agg (Q3j a0))) (fun r=>(eB r)) p1 p1_f p1_c],Ct (Q0i n p0 p1) fun res=>J4 Tryz.prog 0o00325 [⟨3,List.map Q3j p0,0,0x0066⟩] [.sl 3 0 p0.length,.clos p1_f p1_c] (fun H d=>H=[none,some ⟨3,List.map Q3j res,0,0x0066⟩]∧d=.sl 3 1 res.length):=
 au Tryz.func213 Q0i.eq_1 (.o (.o (.o (.o (.o (.o (.o (.i (.pM 4 .z) (.w [0,5] [0] [0,1,5,6] [0] (fun (s96:(List Grow)×Int×Int)=>[(0,.sl 3 0 (s96.1).length),(5,eI s96.2.1),(6,eI s96.2.2)]) (fun s96=>[(0,some ⟨3,(List.map Q3j s96.1),0,0x0066⟩)]) (fun s96=>.i (.j 7 0 [0,1,5,6] [0] (fun (s112:(List Grow)×Int)=>[(0,.sl 3 0 (s112.1).length),(5,eI s112.2)]) (fun s112=>[(0,some ⟨3,(List.map Q3j s112.1),0,0x0066⟩)]) .z (fun _=>.z)) .z) (fun s104=>.o (.pM 4 .z)))))))))))
instance X9g:∀ (n:Nat) (p0:V2) (p1:Q0) (p2:(List Int)),Ct (Q58 n p0 p1 p2) fun res=>J4 Tryz.prog 0o00423 [⟨6,List.map Z0 p0.pats,0,0x0064⟩] [.agg [(eI p0.clause),.sl 6 0 p0.pats.length,(.slice 2 (List.map Q7 p0.binds))],(.agg (Z0 p1)),(.slice 1 (List.map rI p2))] (fun H d=>H=[some ⟨6,List.map Z0 res.1.pats,0,0x0064⟩]∧d=.tup [.agg [(eI res.1.clause),.sl 6 0 res.1.pats.length,(.slice 2 (List.map Q7 res.1.binds))],(.agg (Z0 res.2))]):=
 au Tryz.func275 Q58.eq_1 (.o (.b fun (p0:V2)=>.o (.b fun (p2:(List Int))=>.w [2,3,4,6,7] [0,1,9,17,25] [2,3,4,6,7] [0,1,9,17,25] (fun (s16:(List Q1)×Q0)=>[]) (fun s16=>[(1000000001,some ⟨3,[[(eI p0.clause),(.sl 6 0 (p0.pats).length),(.slice 2 (List.map Q7 s16.1))]],0,0x0142⟩),(9,some ⟨6,[(Z0 s16.2)],0,0x0064⟩)]) (fun s16=>.i (.g [2,3,4,6,7] [0,1,2,3,4] [] [(1000000001,some ⟨3,[[(eI p0.clause),(.sl 6 0 (p0.pats).length),(.slice 2 (List.map Q7 s16.1))]],0,0x0142⟩)] (.o (.o (.o (.dz [1,2,4,5,7,0,3,6,8,9,10,11,12,13] [1,2] [1048593] [23] (.o (.pF 2097168 (.pF 2097184 .z)))))))) .z) (fun s24=>.i (.g [2,3,4,6,7] [0,1,2,3,4] [] [(1000000001,some ⟨3,[[(eI p0.clause),(.sl 6 0 (p0.pats).length),(.slice 2 (List.map Q7 s24.1))]],0,0x0142⟩)] (.o (.o (.o (.dz [1,2,4,5,7,0,3,6,8,9,10,11,12,13] [1,2] [1048613] [43] (.pF 2097168 (.g [3,6,7] [0,1,2097184,3,4] [] [(1000000001,some ⟨3,[[(eI p0.clause),(.sl 6 0 (p0.pats).length),(.sl 2 2097184 ((s24.1++[(Q1.mk s24.2.var p2)])).length)]],0,0x0142⟩),(2097184,some ⟨2,(List.map Q7 (s24.1++[(Q1.mk s24.2.var p2)])),0,0x0095⟩)] (.o (.d [0,1,2,3] [1] [] (.pF 2 .z)))))))))) (.g [3,4,6,7] [0,1,2,3,4] [] [(1000000001,some ⟨3,[[(eI p0.clause),(.sl 6 0 (p0.pats).length),(.slice 2 (List.map Q7 s24.1))]],0,0x0142⟩)] (.d [0,1,2,3] [1,2] [] .z))))))
end Go.Proofs.YtfhpjeogjcfkaaaGreat
