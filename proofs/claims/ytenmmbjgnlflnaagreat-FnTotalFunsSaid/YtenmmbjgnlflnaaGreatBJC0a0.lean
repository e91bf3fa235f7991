import Derived.Test.YtenmmbjgnlflnaaGreatBJMir
import Derived.Test.YtenmmbjgnlflnaaGreatBJAuto
set_option linter.unusedSimpArgs false
set_option linter.unusedVariables false
namespace Go.Proofs.YtenmmbjgnlflnaaGreat
open Go Go.RowKit
set_option maxRecDepth 100000
set_option maxHeartbeats 20000000
instance V67:∀ (p0:Int) (p1:Q2),Ct (Q94 p0 p1) fun res=>Q7 Tryz.prog 0o00355 [(eI p0),(.agg (Z7 p1))] (fun d=>d=(eB res)):=
 au Tryz.func237 Q94.eq_1 .z
instance V3l:∀ (p0:Q96) (p1:Int),Ct (Z28 p0 p1) fun res=>Q7 Tryz.prog 0o00327 [(.agg (Q8c p0)),(eI p1)] (fun d=>d=(eB res)):=
 au Tryz.func215 Z28.eq_1 .z
instance V1t:∀ (p0:Q2) (p1:Q2),Ct (Q3k p0 p1) fun res=>Q7 Tryz.prog 0o00226 [(.agg (Z7 p0)),(.agg (Z7 p1))] (fun d=>d=(eB res)):=
 au Tryz.func150 Q3k.eq_1 .z
instance W8u:∀ (n:Nat) (p0:Z1) (p1:Int),Ct (Q40 n p0 p1) fun res=>Q7 Tryz.prog 0o00332 [(.agg (V8 p0)),(eI p1)] (fun d=>d=(eI res)):=
 ar (au Tryz.func218 Q40.eq_2 (.o (.o (.b fun (p0:Z1)=>.o (.lc 0 3 4 V8 p0.kids (.f [5] [] [1,2,5,6] [0] (fun (k80:Nat) (s76:Int)=>[(5,eI s76),(6,eI (k80:Int))]) (fun k80 s76=>[]) (fun k80 s76=>.z) (fun s84=>.z)))))))
instance W8m:∀ (p0:(List GFun)),Ct (Q1v p0) fun res=>Q7 Tryz.prog 0o00115 [(.slice 6 (List.map Q0d p0))] (fun d=>d=(.slice 4 (List.map W8 res))):=
 au Tryz.func77 Q1v.eq_1 (.o (.ls 0 (.f [3] [8] [0,3,4] [8] (fun (k46:Nat) (s42:(List Z0))=>[(3,.sl 4 8 (s42).length),(4,eI (k46:Int))]) (fun k46 s42=>[(8,some ⟨4,(List.map W8 s42),0,0x0032⟩)]) (fun k46 s42=>.z) (fun s50=>.z))))
instance V3t:∀ (p0:Int) (p1:Int) (p2:Int),Ct (X9 p0 p1 p2) fun res=>Q7 Tryz.prog 0o00043 [(eI p0),(eI p1),(eI p2)] (fun d=>d=(eB res)):=
 au Tryz.func35 X9.eq_1 .z
instance X4p:∀ (p0:(List Q2)) (p1:(Q2→Option Bool)) {p1_f:FuncId} {p1_c:List D} [p1_i:CF1 (fun a0=>(.agg (Z7 a0))) (fun r=>(eB r)) p1 p1_f p1_c],Ct (Q5n p0 p1) fun res=>Q7 Tryz.prog 0o00437 [(.slice 2 (List.map Z7 p0)),.clos p1_f p1_c] (fun d=>d=(eI res)):=
 au Tryz.func287 Q5n.eq_1 (.o (.o (.o (.o (.o (.ls 0 (.f [] [] [0,1,7,8] [] (fun (k54:Nat) (s50:Unit)=>[(8,eI (k54:Int))]) (fun k54 s50=>[]) (fun k54 s50=>.z) (fun s58=>.z))))))))
instance X25:∀ (p0:(List Z0)) (p1:(Z0→Option Bool)) {p1_f:FuncId} {p1_c:List D} [p1_i:CF1 (fun a0=>(.agg (W8 a0))) (fun r=>(eB r)) p1 p1_f p1_c],Ct (Q4d p0 p1) fun res=>Q7 Tryz.prog 0o00344 [(.slice 4 (List.map W8 p0)),.clos p1_f p1_c] (fun d=>d=(eI res)):=
 au Tryz.func228 Q4d.eq_1 (.o (.o (.o (.o (.o (.ls 0 (.f [] [] [0,1,7,8] [] (fun (k54:Nat) (s50:Unit)=>[(8,eI (k54:Int))]) (fun k54 s50=>[]) (fun k54 s50=>.z) (fun s58=>.z))))))))
instance W27:∀ (p0:(List Int)) (p1:Int),Ct (Q6f p0 p1) fun res=>Q7 Tryz.prog 0o00376 [(.slice 1 (List.map rI p0)),(eI p1)] (fun d=>d=(eI res)):=
 au Tryz.func254 Q6f.eq_1 (.o (.o (.ls 0 (.f [] [] [0,1,7,8] [] (fun (k44:Nat) (s40:Unit)=>[(8,eI (k44:Int))]) (fun k44 s40=>[]) (fun k44 s40=>.z) (fun s48=>.z)))))
instance W91:∀ (n:Nat) (p0:Q1),Ct (Q33 n p0) fun res=>Q7 Tryz.prog 0o00147 [(.agg (X0 p0))] (fun d=>d=(.agg (X0 res))):=
 ar (au Tryz.func103 Q33.eq_2 (.o (.o (.b fun (p0:Q1)=>.pC 56 2 3 0x001b (.ls 12 (.f [2,3] [8,56,104] [2,3,12,13,14] [8,56,104] (fun (k56:Nat) (s52:(List Q1))=>[(14,eI (k56:Int))]) (fun k56 s52=>[(1000000056,some ⟨3,[[(eI p0.ctor),(eI p0.n),(.sl 3 104 (s52).length)]],0,0x001b⟩),(104,some ⟨3,(List.map X0 s52),0,0x001b⟩)]) (fun k56 s52=>.o (.g [2,3,5,12,13,14] [0,1,2,27] [] [(1000000001,some ⟨3,[[(eI p0.ctor),(eI p0.n),(.sl 3 2 (s52).length)]],0,0x001b⟩)] (.o (.o (.d [0,1,2,3,4,5,6,7] [1,3] [24] .z))))) (fun s60=>.z)))))))
instance W9b:∀ (p0:Int),Ct (Q6s p0) fun res=>Q7 Tryz.prog 0o00271 [(eI p0)] (fun d=>d=(eB res)):=
 au Tryz.func185 Q6s.eq_1 .z
instance V3y:∀ (p0:Int),Ct (Q9q p0) fun res=>Q7 Tryz.prog 0o00213 [(eI p0)] (fun d=>d=(.agg (X0 res))):=
 au Tryz.func139 Q9q.eq_1 .z
instance V16:∀ (n:Nat) (p0:(List X1)) (p1:Q0) (p2:Q1),Ct (Q2q n p0 p1 p2) fun res=>Q7 Tryz.prog 0o00414 [(.slice 4 (List.map Q02 p0)),(.agg (Q3 p1)),(.agg (X0 p2))] (fun d=>d=.tup [(.slice 4 (List.map Q02 res.1)),(eB res.2)]):=
 ar (au Tryz.func268 Q2q.eq_2 (.o (.o (.o (.b fun (p1:Q0)=>.o (.i .z (.i (.g [0,4,5] [0,8] [] [] (.o (.o (.dz [1,3,4,5,6,0,2,7,8,9,10] [0,1] [1048603] [] .z)))) (.i (.g [0,4,5] [0,8] [] [] (.i (.d [0,1,2,3,4,5,6,7,8,9,10,11,12,13,14] [0,1] [] .z) (.d [0,1,2,3,4,5,6,7,8,9,10,11,12,13,14] [0,1] [] .z))) (.i (.g [0,4,5] [0,8] [] [] (.o (.o (.d [0,1,2,3,4,5,6,7,8,9,10,11] [0,1] [] (.i .z (.g [0,4,5] [0,1] [] [] (.o (.o (.d [0,1,2,3,4,5,6,7,8,9,10] [0,1] [] .z))))))))) (.i (.g [0,4,5] [0,8] [] [] (.o (.o (.o (.o (.dz [1,3,4,5,6,9,10,11,12,13,0,2,7,8,14,15,16,17,18] [0,1] [1048652] [] .z)))))) (.i .z (.lc 0 5 6 Q3 p1.kids (.f [0] [] [0,4,5,10] [0,8] (fun (k116:Nat) (s112:(List X1))=>[(0,.slice 4 (List.map Q02 s112)),(10,eI (k116:Int))]) (fun k116 s112=>[]) (fun k116 s112=>.o (.g [0,4,5,10] [0,1] [] [] (.o (.o (.d [0,1,2,3,4,5,6,7,8,9,10,11,12,13,14,15,16] [0,1] [] .z))))) (fun s120=>.z))))))))))))))
instance X3h:∀ (p0:(List Q1)) (p1:(List Q1)) (p2:(Q1→Q1→Option Bool)) {p2_f:FuncId} {p2_c:List D} [p2_i:CF2 (fun a0=>(.agg (X0 a0))) (fun a1=>(.agg (X0 a1))) (fun r=>(eB r)) p2 p2_f p2_c],Ct (Q0p p0 p1 p2) fun res=>Q7 Tryz.prog 0o00101 [(.slice 3 (List.map X0 p0)),(.slice 3 (List.map X0 p1)),.clos p2_f p2_c] (fun d=>d=(eB res)):=
 au Tryz.func65 Q0p.eq_1 (.o (.o (.o (.o (.o (.o (.i .z (.ls 0 (.f [] [] [1,2,15,16,17] [] (fun (k66:Nat) (s62:Unit)=>[(17,eI (k66:Int))]) (fun k66 s62=>[]) (fun k66 s62=>.z) (fun s70=>.z))))))))))
end Go.Proofs.YtenmmbjgnlflnaaGreat
