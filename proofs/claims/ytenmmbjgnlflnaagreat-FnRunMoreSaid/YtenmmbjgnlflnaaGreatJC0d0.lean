import Derived.Test.YtenmmbjgnlflnaaGreatJMir
import Derived.Test.YtenmmbjgnlflnaaGreatJAuto
set_option linter.unusedSimpArgs false
set_option linter.unusedVariables false
namespace Go.Proofs.YtenmmbjgnlflnaaGreat
open Go Go.RowKit
set_option maxRecDepth 100000
set_option maxHeartbeats 20000000
instance Q84:∀ (p0:X3) (p1:Int),Ct (Z1 p0 p1) fun res=>Q0o Tryz.prog 0o00111 [⟨2,[(J8 p0)],0,0x00d7⟩] [.ptr 2 0 0 0,(eI p1)] (fun H d=>H=[some ⟨2,[(J8 res.2)],0,0x00d7⟩]∧d=(eI res.1)):=
 au Tryz.func73 Z1.eq_1 (.o (.o (.i .z (.i .z (.i .z (.g [0,1,5] [0] [] [] (.o (.o (.o (.d [0,1,2,3,4,5,6,7,8,9,10,11,12,13,14,15,16,17,18,19,20,21,22,23,24,25,26,27,28,29,30,31,32,33,34,35,36,37,38,39,40,41,42,43,44,45] [0] [] .z))))))))))
instance W5u:∀ (p0:Int) (p1:Q3),Ct (Q60 p0 p1) fun res=>Q6 Tryz.prog 0o00355 [(eI p0),(.agg (Z6 p1))] (fun d=>d=(eB res)):=
 au Tryz.func237 Q60.eq_1 .z
instance W5s:∀ (p0:(List Int)) (p1:Int),Ct (Q32 p0 p1) fun res=>Q6 Tryz.prog 0o00142 [(.slice 1 (List.map rI p0)),(eI p1)] (fun d=>d=(eB res)):=
 au Tryz.func98 Q32.eq_1 (.o (.o (.ls 0 (.f [] [] [0,1,5] [] (fun (k44:Nat) (s40:Unit)=>[(5,eI (k44:Int))]) (fun k44 s40=>[]) (fun k44 s40=>.z) (fun s48=>.z)))))
instance W21:∀ (p0:Q3) (p1:Q3),Ct (Q3k p0 p1) fun res=>Q6 Tryz.prog 0o00226 [(.agg (Z6 p0)),(.agg (Z6 p1))] (fun d=>d=(eB res)):=
 au Tryz.func150 Q3k.eq_1 .z
instance X9q:∀ (n:Nat) (p0:Z4) (p1:Int),Ct (Q1w n p0 p1) fun res=>Q6 Tryz.prog 0o00332 [(.agg (Q00 p0)),(eI p1)] (fun d=>d=(eI res)):=
 ar (au Tryz.func218 Q1w.eq_2 (.o (.o (.b fun (p0:Z4)=>.o (.lc 0 3 4 Q00 p0.kids (.f [5] [] [1,2,5,6] [0] (fun (k80:Nat) (s76:Int)=>[(5,eI s76),(6,eI (k80:Int))]) (fun k80 s76=>[]) (fun k80 s76=>.z) (fun s84=>.z)))))))
instance X9j:∀ (p0:(List GFun)),Ct (Q1v p0) fun res=>Q6 Tryz.prog 0o00115 [(.slice 6 (List.map J1 p0))] (fun d=>d=(.slice 4 (List.map W1 res))):=
 au Tryz.func77 Q1v.eq_1 (.o (.ls 0 (.f [3] [8] [0,3,4] [8] (fun (k46:Nat) (s42:(List Q8))=>[(3,.sl 4 8 (s42).length),(4,eI (k46:Int))]) (fun k46 s42=>[(8,some ⟨4,(List.map W1 s42),0,0x0032⟩)]) (fun k46 s42=>.z) (fun s50=>.z))))
instance X9f:∀ (p0:Int),Ct (Q1t p0) fun res=>Q6 Tryz.prog 0o00542 [(eI p0)] (fun d=>d=(eS res)):=
 au Tryz.func354 Q1t.eq_1 .z
instance W3p:∀ (p0:Int) (p1:Int) (p2:Int),Ct (X8 p0 p1 p2) fun res=>Q6 Tryz.prog 0o00043 [(eI p0),(eI p1),(eI p2)] (fun d=>d=(eB res)):=
 au Tryz.func35 X8.eq_1 .z
instance Z8f:∀ (p0:(List Q3)) (p1:(Q3→Option Bool)) {p1_f:FuncId} {p1_c:List D} [p1_i:CF1 (fun a0=>(.agg (Z6 a0))) (fun r=>(eB r)) p1 p1_f p1_c],Ct (Q36 p0 p1) fun res=>Q6 Tryz.prog 0o00437 [(.slice 2 (List.map Z6 p0)),.clos p1_f p1_c] (fun d=>d=(eI res)):=
 au Tryz.func287 Q36.eq_1 (.o (.o (.o (.o (.o (.ls 0 (.f [] [] [0,1,7,8] [] (fun (k54:Nat) (s50:Unit)=>[(8,eI (k54:Int))]) (fun k54 s50=>[]) (fun k54 s50=>.z) (fun s58=>.z))))))))
instance X4i:∀ (p0:(List Int)) (p1:Int),Ct (Q3p p0 p1) fun res=>Q6 Tryz.prog 0o00376 [(.slice 1 (List.map rI p0)),(eI p1)] (fun d=>d=(eI res)):=
 au Tryz.func254 Q3p.eq_1 (.o (.o (.ls 0 (.f [] [] [0,1,7,8] [] (fun (k44:Nat) (s40:Unit)=>[(8,eI (k44:Int))]) (fun k44 s40=>[]) (fun k44 s40=>.z) (fun s48=>.z)))))
instance W7m:∀ (p0:Q3) (p1:Q3),Ct (Q5n p0 p1) fun res=>Q6 Tryz.prog 0o00444 [(.agg (Z6 p0)),(.agg (Z6 p1))] (fun d=>d=(eB res)):=
 au Tryz.func292 Q5n.eq_1 .z
instance W3c:∀ (n:Nat) (p0:Q0),Ct (Q1h n p0) fun res=>Q6 Tryz.prog 0o00211 [(.agg (Z2 p0))] (fun d=>d=(.agg (Z2 res))):=
 ar (au Tryz.func137 Q1h.eq_2 (.o (.o (.b fun (p0:Q0)=>.pC 56 2 3 0x001b (.lc 0 2 3 Z2 p0.kids (.f [2,3] [8,56,80] [1,2,3,4] [0,8,56,80] (fun (k56:Nat) (s52:(List Q0))=>[(4,eI (k56:Int))]) (fun k56 s52=>[(1000000056,some ⟨3,[[(eI p0.ctor),(eI p0.n),(.sl 3 80 (s52).length)]],0,0x001b⟩),(80,some ⟨3,(List.map Z2 s52),0,0x001b⟩)]) (fun k56 s52=>.o (.g [1,2,3,4] [0,1,2,3] [] [(1000000002,some ⟨3,[[(eI p0.ctor),(eI p0.n),(.sl 3 3 (s52).length)]],0,0x001b⟩)] (.o (.o (.d [0,1,2,3,4,5,6,7,8,9,10,11] [0,2] [27] .z))))) (fun s60=>.z)))))))
instance X5x:∀ (p0:Q2i) (p1:(List Z3)),Ct (Q0v p0 p1) fun res=>Q6 Tryz.prog 0o00412 [(.agg (Q5j p0)),(.slice 4 (List.map V9 p1))] (fun d=>d=(eB res)):=
 au Tryz.func266 Q0v.eq_1 (.o (.o (.i .z (.ls 1 (.f [] [] [1,2,5] [0] (fun (k179:Nat) (s175:Unit)=>[(5,eI (k179:Int))]) (fun k179 s175=>[]) (fun k179 s175=>.o (.j 6 0 [1,2,5] [0] (fun (s196:Unit)=>[]) (fun _=>[]) (.g [1,2,5] [0] [] [] (.d [0,1,2,3,4,5,6,7] [0] [] .z)) (fun _=>.z))) (fun s183=>.z))))))
instance Z7h:∀ (p0:(List Q0)) (p1:(List Q0)) (p2:(Q0→Q0→Option Bool)) {p2_f:FuncId} {p2_c:List D} [p2_i:CF2 (fun a0=>(.agg (Z2 a0))) (fun a1=>(.agg (Z2 a1))) (fun r=>(eB r)) p2 p2_f p2_c],Ct (J4 p0 p1 p2) fun res=>Q6 Tryz.prog 0o00101 [(.slice 3 (List.map Z2 p0)),(.slice 3 (List.map Z2 p1)),.clos p2_f p2_c] (fun d=>d=(eB res)):=
 au Tryz.func65 J4.eq_1 (.o (.o (.o (.o (.o (.o (.i .z (.ls 0 (.f [] [] [1,2,15,16,17] [] (fun (k66:Nat) (s62:Unit)=>[(17,eI (k66:Int))]) (fun k66 s62=>[]) (fun k66 s62=>.z) (fun s70=>.z))))))))))
end Go.Proofs.YtenmmbjgnlflnaaGreat
