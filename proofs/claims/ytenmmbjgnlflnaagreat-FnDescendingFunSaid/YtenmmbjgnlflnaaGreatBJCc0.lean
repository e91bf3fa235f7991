import Derived.Test.YtenmmbjgnlflnaaGreatBJMc0
import Derived.Test.YtenmmbjgnlflnaaGreatBJC6b0
import Derived.Test.YtenmmbjgnlflnaaGreatBJC6a0
set_option linter.unusedSimpArgs false
set_option linter.unusedVariables false
namespace Go.Proofs.YtenmmbjgnlflnaaGreat
open Go Go.RowKit
set_option maxRecDepth 100000
set_option maxHeartbeats 20000000
theorem Z55:∀ n:Nat,(∀ (p0:Q0) (p1:Int),Ct (Q5p n p0 p1) fun res=>Q7 Tryz.prog 0o00251 [(.agg (Q3 p0)),(eI p1)] (fun d=>d=(eB res)))∧(∀ (p0:Q0) (q0:Int),Ct (Q31 n p0 q0) fun res=>Q7 Tryz.prog 0o00352 [(.agg (Q3 p0)),.cptr [(eI q0)]] (fun d=>d=(eB res))):=
 ar2 (au Tryz.func169 Q5p.eq_2 .z)
 (au Tryz.func234 Q31.eq_2 .z)
instance V3v:∀ (n:Nat),∀ (p0:Q0) (p1:Int),Ct (Q5p n p0 p1) fun res=>Q7 Tryz.prog 0o00251 [(.agg (Q3 p0)),(eI p1)] (fun d=>d=(eB res)):=
 fun n=>(Z55 n).1
instance W8x:∀ (n:Nat),∀ (p0:Q0) (q0:Int),Ct (Q31 n p0 q0) fun res=>Q7 Tryz.prog 0o00352 [(.agg (Q3 p0)),.cptr [(eI q0)]] (fun d=>d=(eB res)):=
 fun n=>(Z55 n).2
instance W90:∀ (n:Nat) (p0:Q0) (q0:Int),Ct (Q8j n p0 q0) fun res=>Q7 Tryz.prog 0o00250 [(.agg (Q3 p0)),.cptr [(eI q0)]] (fun d=>d=(eB res)):=
 au Tryz.func168 Q8j.eq_1 .z
instance V3x:∀ (n:Nat) (p0:Q0) (p1:Int),Ct (Q4o n p0 p1) fun res=>Q7 Tryz.prog 0o00134 [(.agg (Q3 p0)),(eI p1)] (fun d=>d=(eB res)):=
 ar (au Tryz.func92 Q4o.eq_2 (.o (.o (.o (.o (.i (.g [2,3] [0,8] [] [] (.o (.o (.d [0,1,2,3,4,5,6] [0,1] [] .z)))) (.i (.g [2,3] [0,8] [] [] (.o (.o (.i (.o (.o (.d [0,1,2,3,4,5,6,7,8,9,10,11,12,13,14] [0,1] [] .z))) (.d [0,1,2,3,4,5,6,7,8,9,10,11,12,13,14] [0,1] [] .z))))) .z)))))))
instance X4q:∀ (p0:(List Z1)) (p1:(Z1→Option Bool)) {p1_f:FuncId} {p1_c:List D} [p1_i:CF1 (fun a0=>(.agg (V8 a0))) (fun r=>(eB r)) p1 p1_f p1_c],Ct (Q5o p0 p1) fun res=>Q7 Tryz.prog 0o00252 [(.slice 4 (List.map V8 p0)),.clos p1_f p1_c] (fun d=>d=(eI res)):=
 au Tryz.func170 Q5o.eq_1 (.o (.o (.o (.o (.o (.ls 0 (.f [] [] [0,1,7,8] [] (fun (k54:Nat) (s50:Unit)=>[(8,eI (k54:Int))]) (fun k54 s50=>[]) (fun k54 s50=>.z) (fun s58=>.z))))))))
instance X27:∀ (p0:(List Z1)) (p1:(Z1→Option Bool)) {p1_f:FuncId} {p1_c:List D} [p1_i:CF1 (fun a0=>(.agg (V8 a0))) (fun r=>(eB r)) p1 p1_f p1_c],Ct (Q11 p0 p1) fun res=>Q7 Tryz.prog 0o00135 [(.slice 4 (List.map V8 p0)),.clos p1_f p1_c] (fun d=>d=(eB res)):=
 au Tryz.func93 Q11.eq_1 .z
theorem Z2w:∀ n:Nat,(∀ (p0:Z1) (p1:Int) (p2:Q0),Ct (Q44 n p0 p1 p2) fun res=>Q7 Tryz.prog 0o00044 [(.agg (V8 p0)),(eI p1),(.agg (Q3 p2))] (fun d=>d=(eB res)))∧(∀ (p0:Z1) (q0:Int) (q1:Q0),Ct (Q3p n p0 q0 q1) fun res=>Q7 Tryz.prog 0o00136 [(.agg (V8 p0)),.cptr [(eI q0)],.cptr (Q3 q1)] (fun d=>d=(eB res))):=
 ar2 (au Tryz.func36 Q44.eq_2 (.o (.o (.o (.o (.o (.o (.j 1 0 [3,4,5] [0,8,16] (fun (s21:Unit)=>[]) (fun _=>[]) (.g [3,4,5] [0,8,16] [] [] (.i (.i (.i (.d [0,1,2,3,4,5,6,7,8,9,10,11,12,13,14,15,16,17,18,19,20,21,22,23,24,25,26,27,28,29,30,31,32] [0,1] [] .z) (.o (.i (.d [0,1,2,3,4,5,6,7,8,9,10,11,12,13,14,15,16,17,18,19,20,21,22,23,24,25,26,27,28,29,30,31,32] [0,1] [] .z) (.o (.d [0,1,2,3,4,5,6,7,8,9,10,11,12,13,14,15,16,17,18,19,20,21,22,23,24,25,26,27,28,29,30,31,32] [0,1,2] [] .z))))) (.d [0,1,2,3,4,5,6,7,8,9,10,11,12,13,14,15,16,17,18,19,20,21,22,23,24,25,26,27,28,29,30,31,32] [0,1] [] .z)) (.d [0,1,2,3,4,5,6,7,8,9,10,11,12,13,14,15,16,17,18,19,20,21,22,23,24,25,26,27,28,29,30,31,32] [0] [] .z))) (fun _=>.z)))))))))
 (au Tryz.func94 Q3p.eq_2 .z)
instance W94:∀ (n:Nat),∀ (p0:Z1) (p1:Int) (p2:Q0),Ct (Q44 n p0 p1 p2) fun res=>Q7 Tryz.prog 0o00044 [(.agg (V8 p0)),(eI p1),(.agg (Q3 p2))] (fun d=>d=(eB res)):=
 fun n=>(Z2w n).1
instance W4i:∀ (n:Nat),∀ (p0:Z1) (q0:Int) (q1:Q0),Ct (Q3p n p0 q0 q1) fun res=>Q7 Tryz.prog 0o00136 [(.agg (V8 p0)),.cptr [(eI q0)],.cptr (Q3 q1)] (fun d=>d=(eB res)):=
 fun n=>(Z2w n).2
instance X8o:∀ (n:Nat) (p0:(List Q4)) (p1:(List GFun)) (p2:Int),Ct (Q14 n p0 p1 p2) fun res=>Q7 Tryz.prog 0o00014 [(.slice 2 (List.map Z8 p0)),(.slice 6 (List.map Q0d p1)),(eI p2)] (fun d=>d=(eB res)):=
 au Tryz.func12 Q14.eq_1 (.o (.o (.o (.o (.o (.i .z (.o (.i .z (.o (.ls 25 (.f [] [] [1,2,25,26,27] [] (fun (k88:Nat) (s84:Unit)=>[(27,eI (k88:Int))]) (fun k88 s84=>[]) (fun k88 s84=>.o (.g [1,2,7,8,25,26,27] [32] [] [] (.o (.o (.d [0,1,2,3,4,5,6,7,8,9,10,11,12] [0] [] .z))))) (fun s92=>.z))))))))))))
instance W25:∀ (n:Nat) (p0:Z1) (p1:Int) (p2:(List Int)),Ct (Q1w n p0 p1 p2) fun res=>Q7 Tryz.prog 0o00046 [(.agg (V8 p0)),(eI p1),(.slice 1 (List.map rI p2))] (fun d=>d=(eB res)):=
 ar (au Tryz.func38 Q1w.eq_2 (.o (.o (.b fun (p0:Z1)=>.o (.o (.j 1 0 [1,2,3] [0] (fun (s21:Unit)=>[]) (fun _=>[]) .z (fun s21=>.lc 0 3 4 V8 p0.kids (.f [] [] [1,2,3,7] [0] (fun (k97:Nat) (s93:Unit)=>[(7,eI (k97:Int))]) (fun k97 s93=>[]) (fun k97 s93=>.z) (fun s101=>.z)))))))))
instance W8p:∀ (n:Nat) (p0:(List Q4)) (p1:Q2) (p2:Q0),Ct (Q2y n p0 p1 p2) fun res=>Q7 Tryz.prog 0o00047 [(.slice 2 (List.map Z8 p0)),(.agg (Z7 p1)),(.agg (Q3 p2))] (fun d=>d=(.slice 1 (List.map rI res))):=
 ar (au Tryz.func39 Q2y.eq_2 (.o (.o (.o (.o (.o (.i (.g [0,4,5] [0,8] [] [] (.o (.o (.d [0,1,2,3,4,5,6,7] [0,1] [] .z)))) (.i (.g [0,4,5] [0,8] [] [] (.o (.o (.d [0,1,2,3,4,5,6,7] [0,1] [] (.g [0,4,5,7] [0,1] [] [] (.o (.o (.d [0,1,2,3,4,5,6,7] [0,1] [] (.ls 7 (.f [9] [10] [7,8,9,10] [10] (fun (k569:Nat) (s565:(List Int))=>[(9,.sl 1 10 (s565).length),(10,eI (k569:Int))]) (fun k569 s565=>[(10,some ⟨1,(List.map rI s565),0,0x0003⟩)]) (fun k569 s565=>.o (.j 11 0 [7,8,9,10] [0] (fun (s577:(List Int))=>[(9,.sl 1 0 (s577).length)]) (fun s577=>[(0,some ⟨1,(List.map rI s577),0,0x0003⟩)]) .z (fun _=>.z))) (fun s573=>.z))))))))))) (.i (.o (.ls 71 (.f [11] [88] [0,5,11,12,13] [8,88] (fun (k900:Nat) (s896:(List Int))=>[(11,.sl 1 88 (s896).length),(13,eI (k900:Int))]) (fun k900 s896=>[(88,some ⟨1,(List.map rI s896),0,0x0003⟩)]) (fun k900 s896=>.o (.g [0,5,11,12,13] [0,1] [] [] (.o (.o (.d [0,1,2,3,4,5,6,7,8,9,10,11] [0] [] (.ll 3 (.f [0,5,11,12,13] [0,1] [0,5,11,12,13,14,15] [0,1,3] (fun (k954:Nat) (s950:(List Int))=>[(11,.sl 1 1 (s950).length),(15,eI (k954:Int))]) (fun k954 s950=>[(1,some ⟨1,(List.map rI s950),0,0x0003⟩)]) (fun k954 s950=>.z) (fun s958=>.z)))))))) (fun s904=>.z)))) .z)))))))))
instance X8k:∀ (n:Nat) (p0:(List Q4)) (p1:(List GFun)) (p2:Int),Ct (Q0h n p0 p1 p2) fun res=>Q7 Tryz.prog 0o00015 [(.slice 2 (List.map Z8 p0)),(.slice 6 (List.map Q0d p1)),(eI p2)] (fun d=>d=(eB res)):=
 au Tryz.func13 Q0h.eq_1 (.o (.o (.o (.o (.o (.i .z (.i .z (.i .z (.b fun (x23:GFun)=>.lc 152 4 9 V6 x23.clauses (.f [] [] [0,2,7,8] [152] (fun (k97:Nat) (s93:Unit)=>[(8,eI (k97:Int))]) (fun k97 s93=>[]) (fun k97 s93=>.o (.g [0,2,7,8] [0] [] [] (.o (.o (.o (.d [0,1,2,3,4,5,6,7,8,9,10,11,12,13,14,15,16,17,18] [0] [] .z)))))) (fun s101=>.z)))))))))))
instance Z2z:∀ (n:Nat) (p0:(List Int)),Ct (Q17 n p0) fun res=>Q7 Tryz.prog 0o00003 [(.slice 1 (List.map (rK .u8) p0))] (fun d=>d=(eB res)):=
 au Tryz.func3 Q17.eq_1 (.o (.o (.i .z (.o (.o (.o (.i .z (.i .z (.w [3,4,5,6,7,8] [96] [3,4,5,6,7,8,9] [96] (fun (s89:Bool×Int)=>[(8,eB s89.1),(9,eI s89.2)]) (fun s89=>[]) (fun s89=>.i (.j 10 0 [3,4,5,6,7,8,9] [0] (fun (s102:Bool)=>[(8,eB s102)]) (fun _=>[]) .z (fun _=>.z)) .z) (fun s97=>.z))))))))))
theorem Z32 (n:Nat)(p0:(List Int)):∀ res,Q17 n p0=some res→Q7 Tryz.prog 0o00003 [(.slice 1 (List.map (rK .u8) p0))] (fun d=>d=(eB res)):=(Z2z n p0).pf
end Go.Proofs.YtenmmbjgnlflnaaGreat
