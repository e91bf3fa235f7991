import Derived.Test.YtenmmbjgnlflnaaGreatJC0c0
import Derived.Test.YtenmmbjgnlflnaaGreatJC0d0
import Derived.Test.YtenmmbjgnlflnaaGreatJC0a0
set_option linter.unusedSimpArgs false
set_option linter.unusedVariables false
namespace Go.Proofs.YtenmmbjgnlflnaaGreat
open Go Go.RowKit
set_option maxRecDepth 100000
set_option maxHeartbeats 20000000
instance W3l:∀ (p0:(List Q2)) (p1:Q3) (p2:Int),Ct (V8 p0 p1 p2) fun res=>Q6 Tryz.prog 0o00143 [(.slice 2 (List.map Z5 p0)),(.agg (Z6 p1)),(eI p2)] (fun d=>d=(.slice 2 (List.map Z6 res))):=
 au Tryz.func99 V8.eq_1 (.o (.o (.o (.o (.b fun (x2:Q64)=>.lc 104 1 2 Z6 x2.args (.f [7] [16] [4,7,8,9] [0,16,104] (fun (k118:Nat) (s114:(List Q3))=>[(7,.sl 2 16 (s114).length),(9,eI (k118:Int))]) (fun k118 s114=>[(16,some ⟨2,(List.map Z6 s114),0,0x0023⟩)]) (fun k118 s114=>.b fun (x119:Q3)=>.j 7 0 [4,7,8,9,10] [0,1,2,83] (fun (s133:Int)=>[]) (fun s133=>[(83,some ⟨2,[[(eI x119.data),(eI s133)]],0,0x0023⟩)]) .z (fun _=>.z)) (fun s122=>.z)))))))
instance W1g:∀ (p0:(List Q1)) (p1:(List Q1)),Ct (Q3g p0 p1) fun res=>Q6 Tryz.prog 0o00531 [(.slice 3 (List.map Z8 p0)),(.slice 3 (List.map Z8 p1))] (fun d=>d=(eB res)):=
 au Tryz.func345 Q3g.eq_1 (.o (.o (.ls 0 (.f [0,1] [] [0,1,5] [] (fun (k124:Nat) (s120:Unit)=>[(5,eI (k124:Int))]) (fun k124 s120=>[]) (fun k124 s120=>.o (.o (.g [0,1,5,6] [] [] [] (.i (.d [0,1,2,3,4,5,6,7,8,9,10,11,12,13,14] [] [] .z) (.o (.d [0,1,2,3,4,5,6,7,8,9,10,11,12,13,14] [] [] .z)))))) (fun s128=>.z)))))
instance X75:∀ (p0:X3) (p1:(List Int)),Ct (X5 p0 p1) fun res=>Q0o Tryz.prog 0o00116 [⟨2,[(J8 p0)],0,0x00d7⟩] [.ptr 2 0 0 0,(.slice 1 (List.map rI p1))] (fun H d=>H=[some ⟨2,[(J8 res.2)],0,0x00d7⟩]∧d=(eI res.1)):=
 au Tryz.func78 X5.eq_1 .z
instance W60:∀ (p0:(List Q2)) (p1:Q3),Ct (Q9j p0 p1) fun res=>Q6 Tryz.prog 0o00343 [(.slice 2 (List.map Z5 p0)),(.agg (Z6 p1))] (fun d=>d=(eB res)):=
 au Tryz.func227 Q9j.eq_1 .z
instance Z3l:∀ (p0:(List Q1)) (p1:(Q1→Option Bool)) {p1_f:FuncId} {p1_c:List D} [p1_i:CF1 (fun a0=>(.agg (Z8 a0))) (fun r=>(eB r)) p1 p1_f p1_c],Ct (Q07 p0 p1) fun res=>Q6 Tryz.prog 0o00511 [(.slice 3 (List.map Z8 p0)),.clos p1_f p1_c] (fun d=>d=(eB res)):=
 au Tryz.func329 Q07.eq_1 .z
instance X0h:∀ (n:Nat) (p0:Y2) (p1:Q0),Ct (Q17 n p0 p1) fun res=>Q0o Tryz.prog 0o00052 [⟨7,[(Q03 p0)],0,0x006e⟩] [.ptr 7 0 0 0,(.agg (Z2 p1))] (fun H d=>H=[some ⟨7,[(Q03 res.2.2)],0,0x006e⟩]∧d=.tup [(.agg (Z2 res.1)),(eI res.2.1)]):=
 au Tryz.func42 Q17.eq_1 (.o (.o (.o (.i (.g [0,4] [0,9] [] [] (.d [0,1,2,3,4,5,6] [0] [] .z)) .z))))
instance X9r:∀ (p0:Int),Ct (Q58 p0) fun res=>Q6 Tryz.prog 0o00270 [(.val (.int .u64 p0))] (fun d=>d=(eI res)):=
 au Tryz.func184 Q58.eq_1 .z
instance W5y:∀ (n:Nat) (p0:Q5) (p1:Q0),Ct (Q2e n p0 p1) fun res=>Q0o Tryz.prog 0o00357 [] [(.agg (X7 p0)),(.agg (Z2 p1))] (fun H d=>H=[some ⟨4,List.map V9 res.1,0,0x00d1⟩]∧d=.tup [.sl 4 0 res.1.length,(eB res.2)]):=
 ar (au Tryz.func239 Q2e.eq_2 (.o (.o (.o (.o (.i (.pN 4 4 0x00d1 .z) (.i .z (.i (.o (.pN 4 4 0x00d1 .z)) (.i (.g [2,3] [0,8] [] [] (.o (.o (.d [0,1,2,3,4,5,6,7,8,9,10] [0,1] [] (.i .z (.g [2,3] [0,1] [] [] (.o (.o (.d [0,1,2,3,4,5,6,7,8,9] [0,1] [] .z))))))))) (.i (.g [2,3] [0,8] [] [] (.o (.o (.d [0,1,2,3,4,5,6,7,8,9,10] [0,1] [] .z)))) (.i (.pN 4 4 0x00d1 .z) (.pN 10 4 0x00d1 (.ls 81 (.f [10] [208] [3,10,81,82,83] [8,208] (fun (k122:Nat) (s118:(List Z3))=>[(10,.sl 4 208 (s118).length),(83,eI (k122:Int))]) (fun k122 s118=>[(208,some ⟨4,(List.map V9 s118),0,0x00d1⟩)]) (fun k122 s118=>.o (.g [3,10,11,12,81,82,83] [0,1,34] [] [] (.o (.o (.d [0,1,2,3,4,5,6,7,8,9,10,11] [0,2] [] (.i (.pN 4 4 0x00d1 .z) .z)))))) (fun s126=>.z)))))))))))))))
instance X7g:∀ (n:Nat) (p0:Q0) (p1:Q0),Ct (W2 n p0 p1) fun res=>Q6 Tryz.prog 0o00031 [(.agg (Z2 p0)),(.agg (Z2 p1))] (fun d=>d=(eB res)):=
 ar (au Tryz.func25 W2.eq_2 .z)
end Go.Proofs.YtenmmbjgnlflnaaGreat
