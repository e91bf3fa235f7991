import Derived.Test.YtenmmbjgnlflnaaGreatJMir
import Derived.Test.YtenmmbjgnlflnaaGreatJAuto
set_option linter.unusedSimpArgs false
set_option linter.unusedVariables false
namespace Go.Proofs.YtenmmbjgnlflnaaGreat
open Go Go.RowKit
set_option maxRecDepth 100000
set_option maxHeartbeats 20000000
instance W1o:∀ (p0:(List Int)),Ct (Q2n p0) fun res=>Q0o Tryz.prog 0o00107 [] [(.slice 1 (List.map (rK .u8) p0))] (fun H d=>H=[some ⟨2,[(J8 res)],0,0x00d7⟩]∧d=.ptr 2 0 0 0):=
 au Tryz.func71 Q2n.eq_1 (.o (.j 1 0 [0] [] (fun (s3:(List Int))=>[(0,.slice 1 (List.map (rK .u8) s3))]) (fun _=>[]) .z (fun _=>.z)))
instance W5t:∀ (p0:Int),Ct (Q5z p0) fun res=>Q6 Tryz.prog 0o00353 [(.val (.int .u8 p0))] (fun d=>d=(eB res)):=
 au Tryz.func235 Q5z.eq_1 .z
instance W1i:∀ (n:Nat) (p0:(List Q2)) (p1:Int) (p2:Int),Ct (Q7w n p0 p1 p2) fun res=>Q6 Tryz.prog 0o00255 [(.slice 2 (List.map Z5 p0)),(eI p1),(eI p2)] (fun d=>d=(eB res)):=
 au Tryz.func173 Q7w.eq_1 (.o (.o (.o (.o (.w [] [] [0,1,2,7] [] (fun (s3024:Int)=>[(7,eI s3024)]) (fun s3024=>[]) (fun s3024=>.i (.j 4 1 [0,1,2,7] [] (fun (s3346:Unit)=>[]) (fun _=>[]) (.g [0,1,2,7] [] [] [] (.i (.o (.o (.d [0,1,2,3,4,5,6,7,8,9,10,11,12,13,14,15] [] [] .z))) (.d [0,1,2,3,4,5,6,7,8,9,10,11,12,13,14,15] [] [] .z))) (fun s3346=>.b fun (x3485:Q2)=>.le 0 1 3 Q54 x3485.ctors x3485 (.f [0,1,2,7] [] [0,1,2,7,8] [] (fun (k3592:Nat) (s3588:Unit)=>[(8,eI (k3592:Int))]) (fun k3592 s3588=>[]) (fun k3592 s3588=>.o (.j 7 0 [0,1,2,7,8] [] (fun (s3602:Unit)=>[]) (fun _=>[]) .z (fun s3602=>.j 9 0 [0,1,2,7,8] [] (fun (s3621:Unit)=>[]) (fun _=>[]) (.g [0,1,2,7,8] [] [] [] (.o (.i (.o (.d [0,1,2,3,4,5,6,7,8,9,10,11,12,13,14,15,16,17,18,19,20,21,22,23,24,25,26,27,28] [] [] .z)) (.d [0,1,2,3,4,5,6,7,8,9,10,11,12,13,14,15,16,17,18,19,20,21,22,23,24,25,26,27,28] [] [] .z)))) (fun _=>.z)))) (fun s3596=>.z)))) .z) (fun s3032=>.z))))))
instance X9h:∀ (p0:Q64) (p1:Int),Ct (Q74 p0 p1) fun res=>Q6 Tryz.prog 0o00257 [(.agg (Q54 p0)),(eI p1)] (fun d=>d=(eI res)):=
 au Tryz.func175 Q74.eq_1 .z
instance W36:∀ (p0:(List Q1)) (p1:Int),Ct (Q11 p0 p1) fun res=>Q6 Tryz.prog 0o00424 [(.slice 3 (List.map Z8 p0)),(eI p1)] (fun d=>d=(eI res)):=
 au Tryz.func276 Q11.eq_1 (.o (.o (.ls 0 (.f [] [] [0,1,5] [] (fun (k44:Nat) (s40:Unit)=>[(5,eI (k44:Int))]) (fun k44 s40=>[]) (fun k44 s40=>.z) (fun s48=>.z)))))
instance W1f:∀ (n:Nat) (p0:Q5) (p1:Int),Ct (Q2k n p0 p1) fun res=>Q6 Tryz.prog 0o00455 [(.agg (X7 p0)),(eI p1)] (fun d=>d=(eI res)):=
 ar (au Tryz.func301 Q2k.eq_2 (.o (.o (.b fun (p0:Q5)=>.o (.lc 0 5 6 X7 p0.kids (.f [5] [] [1,2,5,6] [0] (fun (k80:Nat) (s76:Int)=>[(5,eI s76),(6,eI (k80:Int))]) (fun k80 s76=>[]) (fun k80 s76=>.z) (fun s84=>.z)))))))
instance Z6c:∀ (p0:(List Q8)) (p1:(Q8→Option Bool)) {p1_f:FuncId} {p1_c:List D} [p1_i:CF1 (fun a0=>(.agg (W1 a0))) (fun r=>(eB r)) p1 p1_f p1_c],Ct (Q22 p0 p1) fun res=>Q6 Tryz.prog 0o00344 [(.slice 4 (List.map W1 p0)),.clos p1_f p1_c] (fun d=>d=(eI res)):=
 au Tryz.func228 Q22.eq_1 (.o (.o (.o (.o (.o (.ls 0 (.f [] [] [0,1,7,8] [] (fun (k54:Nat) (s50:Unit)=>[(8,eI (k54:Int))]) (fun k54 s50=>[]) (fun k54 s50=>.z) (fun s58=>.z))))))))
instance X9y:∀ (p0:(List Q2)) (p1:Q3) (p2:Int),Ct (Q0k p0 p1 p2) fun res=>Q6 Tryz.prog 0o00216 [(.slice 2 (List.map Z5 p0)),(.agg (Z6 p1)),(eI p2)] (fun d=>d=(.slice 2 (List.map Z6 res))):=
 au Tryz.func142 Q0k.eq_1 (.o (.o (.o (.o (.o (.j 3 0 [7,8] [88] (fun (s4:Int)=>[(8,eI s4)]) (fun _=>[]) .z (fun s4=>.pN 9 2 0x0023 (.ls 28 (.f [9] [41] [8,9,28,29,30] [41] (fun (k103:Nat) (s99:(List Q3))=>[(9,.sl 2 41 (s99).length),(30,eI (k103:Int))]) (fun k103 s99=>[(41,some ⟨2,(List.map Z6 s99),0,0x0023⟩)]) (fun k103 s99=>.b fun (x104:Q3)=>.j 9 0 [8,9,11,28,29,30] [0,25] (fun (s115:Int)=>[]) (fun s115=>[(25,some ⟨2,[[(eI x104.data),(eI s115)]],0,0x0023⟩)]) .z (fun _=>.z)) (fun s107=>.z))))))))))
instance Z7i:∀ (p0:Q1) (q0:Int),Ct (J5 p0 q0) fun res=>Q6 Tryz.prog 0o00514 [(.agg (Z8 p0)),.cptr [(eI q0)]] (fun d=>d=(eB res)):=
 au Tryz.func332 J5.eq_1 .z
instance X9u:∀ (n:Nat) (p0:Q0),Ct (Q18 n p0) fun res=>Q6 Tryz.prog 0o00147 [(.agg (Z2 p0))] (fun d=>d=(.agg (Z2 res))):=
 ar (au Tryz.func103 Q18.eq_2 (.o (.o (.b fun (p0:Q0)=>.pC 56 2 3 0x001b (.ls 12 (.f [2,3] [8,56,104] [2,3,12,13,14] [8,56,104] (fun (k56:Nat) (s52:(List Q0))=>[(14,eI (k56:Int))]) (fun k56 s52=>[(1000000056,some ⟨3,[[(eI p0.ctor),(eI p0.n),(.sl 3 104 (s52).length)]],0,0x001b⟩),(104,some ⟨3,(List.map Z2 s52),0,0x001b⟩)]) (fun k56 s52=>.o (.g [2,3,5,12,13,14] [0,1,2,27] [] [(1000000001,some ⟨3,[[(eI p0.ctor),(eI p0.n),(.sl 3 2 (s52).length)]],0,0x001b⟩)] (.o (.o (.d [0,1,2,3,4,5,6,7] [1,3] [24] .z))))) (fun s60=>.z)))))))
instance Z8g:∀ (p0:(List Z3)) (p1:(Z3→Option Bool)) {p1_f:FuncId} {p1_c:List D} [p1_i:CF1 (fun a0=>(.agg (V9 a0))) (fun r=>(eB r)) p1 p1_f p1_c],Ct (Q0i p0 p1) fun res=>Q6 Tryz.prog 0o00214 [(.slice 4 (List.map V9 p0)),.clos p1_f p1_c] (fun d=>d=(eI res)):=
 au Tryz.func140 Q0i.eq_1 (.o (.o (.o (.o (.o (.ls 0 (.f [] [] [0,1,7,8] [] (fun (k54:Nat) (s50:Unit)=>[(8,eI (k54:Int))]) (fun k54 s50=>[]) (fun k54 s50=>.z) (fun s58=>.z))))))))
instance X4j:∀ (p0:Y2) (p1:Int),Ct (Y9 p0 p1) fun res=>Q0o Tryz.prog 0o00150 [⟨7,[(Q03 p0)],0,0x006e⟩] [.ptr 7 0 0 0,(eI p1)] (fun H d=>H=[some ⟨7,[(Q03 res.2)],0,0x006e⟩]∧d=(.agg (Z2 res.1))):=
 au Tryz.func104 Y9.eq_1 .z
instance X0i:∀ (p0:Z3) (q0:Z4),Ct (Q0b p0 q0) fun res=>Q6 Tryz.prog 0o00215 [(.agg (V9 p0)),.cptr (Q00 q0)] (fun d=>d=(eB res)):=
 au Tryz.func141 Q0b.eq_1 .z
instance X9d:∀ (p0:(List Q6c)) (p1:Q0),Ct (Q71 p0 p1) fun res=>Q6 Tryz.prog 0o00413 [(.slice 9 (List.map Q3o p0)),(.agg (Z2 p1))] (fun d=>d=.tup [(.agg (Q4v res.1)),(eB res.2)]):=
 au Tryz.func267 Q71.eq_1 (.o (.o (.ls 0 (.f [4] [8] [0,3,4,6] [0,8] (fun (k159:Nat) (s155:Unit)=>[(6,eI (k159:Int))]) (fun k159 s155=>[]) (fun k159 s155=>.o (.j 4 0 [0,3,4,6] [0,1] (fun (s175:Unit)=>[]) (fun _=>[]) .z (fun _=>.z))) (fun s163=>.z)))))
instance W1s:∀ (p0:(List Z3)) (p1:Int),Ct (Q3i p0 p1) fun res=>Q6 Tryz.prog 0o00232 [(.slice 4 (List.map V9 p0)),(eI p1)] (fun d=>d=(.agg (Z2 res))):=
 au Tryz.func154 Q3i.eq_1 (.o (.o (.ls 0 (.f [4] [0] [0,1,4,5] [0] (fun (k44:Nat) (s40:Unit)=>[(5,eI (k44:Int))]) (fun k44 s40=>[]) (fun k44 s40=>.z) (fun s48=>.z)))))
end Go.Proofs.YtenmmbjgnlflnaaGreat
