import Derived.Test.YtfhpjeogjcfkaaaGreatSJC0b0
import Derived.Test.YtfhpjeogjcfkaaaGreatSJC0c0
import Derived.Test.YtfhpjeogjcfkaaaGreatSJC0a0
import Derived.Test.YtfhpjeogjcfkaaaGreatSJC0d0
set_option linter.unusedSimpArgs false
set_option linter.unusedVariables false
namespace Go.Proofs.YtfhpjeogjcfkaaaGreat
open Go Go.RowKit
set_option maxRecDepth 100000
set_option maxHeartbeats 20000000
instance X6l:∀ (p0:Q0s) (p1:Q1) (p2:Int),Ct (Q2x p0 p1 p2) fun res=>Q6 Tryz.prog 0o00433 [.cptr (Q1u p0),(.agg (Z2 p1)),(eI p2)] (fun d=>d=(.agg (Q2 res))):=
 au Tryz.func283 Q2x.eq_1 (.o (.o (.b fun (p2:Int)=>.g [0,2,4,6,7] [0,8,32] [] [] (.o (.d [0,1,2,3,4,5,8,6,7] [0] [] (.pC 2 5 6 0x0064 (.ls 16 (.f [6,7] [1,2,11] [6,7,17,18] [1,2,11] (fun (k50:Nat) (s46:(List Q0))=>[(18,eI (k50:Int))]) (fun k50 s46=>[(1000000002,some ⟨6,[[(eI 4),(eI p2),(eI 0),(eI 0),(eI 0),(.sl 6 11 (s46).length)]],0,0x0064⟩),(11,some ⟨6,(List.map Q2 s46),0,0x0064⟩)]) (fun k50 s46=>.o (.g [6,7,17,18] [0,1,2] [] [(1000000001,some ⟨6,[[(eI 4),(eI p2),(eI 0),(eI 0),(eI 0),(.sl 6 2 (s46).length)]],0,0x0064⟩)] (.o (.o (.d [0,1,2,3,4,5,6] [1] [25] .z))))) (fun s54=>.z)))))))))
instance Z5w:∀ (p0:(List Q0)) (p1:(Q0→Option Bool)) {p1_f:FuncId} {p1_c:List D} [p1_i:CF1 (fun a0=>(.agg (Q2 a0))) (fun r=>(eB r)) p1 p1_f p1_c],Ct (Q17 p0 p1) fun res=>Q6 Tryz.prog 0o00343 [(.slice 6 (List.map Q2 p0)),.clos p1_f p1_c] (fun d=>d=(eB res)):=
 au Tryz.func227 Q17.eq_1 .z
instance Z6b:∀ (p0:(List Q5)) (p1:(Q5→Option Bool)) {p1_f:FuncId} {p1_c:List D} [p1_i:CF1 (fun a0=>(.agg (X4 a0))) (fun r=>(eB r)) p1 p1_f p1_c],Ct (Q1i p0 p1) fun res=>Q6 Tryz.prog 0o00161 [(.slice 9 (List.map X4 p0)),.clos p1_f p1_c] (fun d=>d=(eB res)):=
 au Tryz.func113 Q1i.eq_1 .z
instance V10:∀ (n:Nat) (p0:Q0) (p1:Q3),Ct (Q3k n p0 p1) fun res=>Q19 Tryz.prog 0o00313 [] [(.agg (Q2 p0)),(.agg (Z5 p1))] (fun H d=>H=[some ⟨4,List.map Q11 res.1,0,0x0057⟩]∧d=.tup [.sl 4 0 res.1.length,(eB res.2)]):=
 ar (au Tryz.func203 Q3k.eq_2 (.o (.o (.o (.o (.i (.pN 4 4 0x0057 .z) (.i .z (.i (.o (.pN 4 4 0x0057 .z)) (.i (.g [2,3] [0,8] [] [] (.o (.o (.d [0,1,2,3,4,5,6,7,8,9,10] [0,1] [] (.i .z (.g [2,3] [0,1] [] [] (.o (.o (.d [0,1,2,3,4,5,6,7,8,9] [0,1] [] .z))))))))) (.i (.g [2,3] [0,8] [] [] (.o (.o (.d [0,1,2,3,4,5,6,7,8,9,10] [0,1] [] .z)))) (.i (.pN 4 4 0x0057 .z) (.pN 10 4 0x0057 (.ls 81 (.f [10] [208] [3,10,81,82,83] [8,208] (fun (k122:Nat) (s118:(List X3))=>[(10,.sl 4 208 (s118).length),(83,eI (k122:Int))]) (fun k122 s118=>[(208,some ⟨4,(List.map Q11 s118),0,0x0057⟩)]) (fun k122 s118=>.o (.g [3,10,11,12,81,82,83] [0,1,34] [] [] (.o (.o (.d [0,1,2,3,4,5,6,7,8,9,10,11] [0,2] [] (.i (.pN 4 4 0x0057 .z) .z)))))) (fun s126=>.z)))))))))))))))
instance W22:∀ (n:Nat) (p0:ByteArray),Ct (Q7h n p0) fun res=>Q6 Tryz.prog 0o00520 [(eS p0)] (fun d=>d=(eB res)):=
 au Tryz.func336 Q7h.eq_1 (.o (.o (.i .z (.i .z (.o (.o (.i .z (.w [] [] [0,3] [] (fun (s132:Int)=>[(3,eI s132)]) (fun s132=>[]) (fun s132=>.z) (fun s140=>.z)))))))))
instance V2n:∀ (p0:(List Q4)) (p1:Q1),Ct (Q87 p0 p1) fun res=>Q6 Tryz.prog 0o00352 [(.slice 2 (List.map Z8 p0)),(.agg (Z2 p1))] (fun d=>d=(eB res)):=
 au Tryz.func234 Q87.eq_1 .z
instance W8b:∀ (n:Nat) (p0:(List X3)),Ct (Q5o n p0) fun res=>Q6 Tryz.prog 0o00257 [(.slice 4 (List.map Q11 p0))] (fun d=>d=(.slice 4 (List.map Q11 res))):=
 au Tryz.func175 Q5o.eq_1 (.o (.o (.w [3] [8] [0,3,4] [8] (fun (s496:(List X3)×Int)=>[(3,.sl 4 8 (s496.1).length),(4,eI s496.2)]) (fun s496=>[(8,some ⟨4,(List.map Q11 s496.1),0,0x0057⟩)]) (fun s496=>.i (.ls 0 (.f [0,3,4] [0] [0,3,4,5] [0] (fun (k587:Nat) (s583:(List X3))=>[(3,.sl 4 0 (s583).length),(5,eI (k587:Int))]) (fun k587 s583=>[(0,some ⟨4,(List.map Q11 s583),0,0x0057⟩)]) (fun k587 s583=>.o (.j 8 0 [0,3,4,5] [0] (fun (s595:(List X3))=>[(3,.sl 4 0 (s595).length)]) (fun s595=>[(0,some ⟨4,(List.map Q11 s595),0,0x0057⟩)]) .z (fun _=>.z))) (fun s591=>.z))) .z) (fun s504=>.z))))
instance W6n:∀ (p0:(List Int)) (p1:Q1),Ct (Q07 p0 p1) fun res=>Q6 Tryz.prog 0o00371 [(.slice 1 (List.map rI p0)),(.agg (Z2 p1))] (fun d=>d=(eI res)):=
 au Tryz.func249 Q07.eq_1 .z
instance V0t:∀ (n:Nat) (p0:(List Q0)),Ct (Q4e n p0) fun res=>Q6 Tryz.prog 0o00526 [(.slice 6 (List.map Q2 p0))] (fun d=>d=(.slice 6 (List.map Q2 res))):=
 au Tryz.func342 Q4e.eq_1 (.o (.o (.ls 0 (.f [3] [8] [0,3,4] [8] (fun (k56:Nat) (s52:(List Q0))=>[(3,.sl 6 8 (s52).length),(4,eI (k56:Int))]) (fun k56 s52=>[(8,some ⟨6,(List.map Q2 s52),0,0x0064⟩)]) (fun k56 s52=>.z) (fun s60=>.z)))))
instance X8o:∀ (p0:(List ByteArray)) (p1:ByteArray),Ct (Q6m p0 p1) fun res=>Q6 Tryz.prog 0o00545 [(.slice 1 (List.map rS p0)),(eS p1)] (fun d=>d=(.agg (Z2 res))):=
 au Tryz.func357 Q6m.eq_1 (.o (.o (.i .z (.o (.b fun (r4:(Int))=>.j 4 0 [4,5] [0,64] (fun (s18:Int)=>[]) (fun s18=>[(64,some ⟨2,[[(eI r4),(eI s18)]],0,0x0019⟩)]) .z (fun _=>.z))))))
end Go.Proofs.YtfhpjeogjcfkaaaGreat
