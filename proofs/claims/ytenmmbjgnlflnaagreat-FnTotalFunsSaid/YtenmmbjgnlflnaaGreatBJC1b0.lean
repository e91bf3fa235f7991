import Derived.Test.YtenmmbjgnlflnaaGreatBJC0c0
import Derived.Test.YtenmmbjgnlflnaaGreatBJC0d0
import Derived.Test.YtenmmbjgnlflnaaGreatBJC0a0
set_option linter.unusedSimpArgs false
set_option linter.unusedVariables false
namespace Go.Proofs.YtenmmbjgnlflnaaGreat
open Go Go.RowKit
set_option maxRecDepth 100000
set_option maxHeartbeats 20000000
instance V3p:∀ (p0:(List Q4)) (p1:Q2) (p2:Int),Ct (V2 p0 p1 p2) fun res=>Q7 Tryz.prog 0o00143 [(.slice 2 (List.map Z8 p0)),(.agg (Z7 p1)),(eI p2)] (fun d=>d=(.slice 2 (List.map Z7 res))):=
 au Tryz.func99 V2.eq_1 (.o (.o (.o (.o (.b fun (x2:Q96)=>.lc 104 1 2 Z7 x2.args (.f [7] [16] [4,7,8,9] [0,16,104] (fun (k118:Nat) (s114:(List Q2))=>[(7,.sl 2 16 (s114).length),(9,eI (k118:Int))]) (fun k118 s114=>[(16,some ⟨2,(List.map Z7 s114),0,0x0023⟩)]) (fun k118 s114=>.b fun (x119:Q2)=>.j 7 0 [4,7,8,9,10] [0,1,2,83] (fun (s133:Int)=>[]) (fun s133=>[(83,some ⟨2,[[(eI x119.data),(eI s133)]],0,0x0023⟩)]) .z (fun _=>.z)) (fun s122=>.z)))))))
instance V18:∀ (p0:(List Q5)) (p1:(List Q5)),Ct (Q67 p0 p1) fun res=>Q7 Tryz.prog 0o00531 [(.slice 3 (List.map X6 p0)),(.slice 3 (List.map X6 p1))] (fun d=>d=(eB res)):=
 au Tryz.func345 Q67.eq_1 (.o (.o (.ls 0 (.f [0,1] [] [0,1,5] [] (fun (k124:Nat) (s120:Unit)=>[(5,eI (k124:Int))]) (fun k124 s120=>[]) (fun k124 s120=>.o (.o (.g [0,1,5,6] [] [] [] (.i (.d [0,1,2,3,4,5,6,7,8,9,10,11,12,13,14] [] [] .z) (.o (.d [0,1,2,3,4,5,6,7,8,9,10,11,12,13,14] [] [] .z)))))) (fun s128=>.z)))))
instance W5r:∀ (p0:X3) (p1:(List Int)),Ct (X8 p0 p1) fun res=>Q12 Tryz.prog 0o00116 [⟨2,[(Q01 p0)],0,0x00d7⟩] [.ptr 2 0 0 0,(.slice 1 (List.map rI p1))] (fun H d=>H=[some ⟨2,[(Q01 res.2)],0,0x00d7⟩]∧d=(eI res.1)):=
 au Tryz.func78 X8.eq_1 .z
instance V6g:∀ (p0:(List Q4)) (p1:Q2),Ct (Z3t p0 p1) fun res=>Q7 Tryz.prog 0o00343 [(.slice 2 (List.map Z8 p0)),(.agg (Z7 p1))] (fun d=>d=(eB res)):=
 au Tryz.func227 Z3t.eq_1 .z
instance Z8w:∀ (p0:(List Z0)) (p1:(Z0→Option Bool)) {p1_f:FuncId} {p1_c:List D} [p1_i:CF1 (fun a0=>(.agg (W8 a0))) (fun r=>(eB r)) p1 p1_f p1_c],Ct (Q1d p0 p1) fun res=>Q7 Tryz.prog 0o00237 [(.slice 4 (List.map W8 p0)),.clos p1_f p1_c] (fun d=>d=(eB res)):=
 au Tryz.func159 Q1d.eq_1 .z
instance X7g:∀ (n:Nat) (p0:Q06) (p1:Q1),Ct (Q1g n p0 p1) fun res=>Q12 Tryz.prog 0o00052 [⟨7,[(Q18 p0)],0,0x006e⟩] [.ptr 7 0 0 0,(.agg (X0 p1))] (fun H d=>H=[some ⟨7,[(Q18 res.2.2)],0,0x006e⟩]∧d=.tup [(.agg (X0 res.1)),(eI res.2.1)]):=
 au Tryz.func42 Q1g.eq_1 (.o (.o (.o (.i (.g [0,4] [0,9] [] [] (.d [0,1,2,3,4,5,6] [0] [] .z)) .z))))
instance W8w:∀ (p0:Int),Ct (Q8i p0) fun res=>Q7 Tryz.prog 0o00270 [(.val (.int .u64 p0))] (fun d=>d=(eI res)):=
 au Tryz.func184 Q8i.eq_1 .z
instance V6e:∀ (n:Nat) (p0:Q0) (p1:Q1),Ct (Q4q n p0 p1) fun res=>Q12 Tryz.prog 0o00357 [] [(.agg (Q3 p0)),(.agg (X0 p1))] (fun H d=>H=[some ⟨4,List.map Q02 res.1,0,0x00d1⟩]∧d=.tup [.sl 4 0 res.1.length,(eB res.2)]):=
 ar (au Tryz.func239 Q4q.eq_2 (.o (.o (.o (.o (.i (.pN 4 4 0x00d1 .z) (.i .z (.i (.o (.pN 4 4 0x00d1 .z)) (.i (.g [2,3] [0,8] [] [] (.o (.o (.d [0,1,2,3,4,5,6,7,8,9,10] [0,1] [] (.i .z (.g [2,3] [0,1] [] [] (.o (.o (.d [0,1,2,3,4,5,6,7,8,9] [0,1] [] .z))))))))) (.i (.g [2,3] [0,8] [] [] (.o (.o (.d [0,1,2,3,4,5,6,7,8,9,10] [0,1] [] .z)))) (.i (.pN 4 4 0x00d1 .z) (.pN 10 4 0x00d1 (.ls 81 (.f [10] [208] [3,10,81,82,83] [8,208] (fun (k122:Nat) (s118:(List X1))=>[(10,.sl 4 208 (s118).length),(83,eI (k122:Int))]) (fun k122 s118=>[(208,some ⟨4,(List.map Q02 s118),0,0x00d1⟩)]) (fun k122 s118=>.o (.g [3,10,11,12,81,82,83] [0,1,34] [] [] (.o (.o (.d [0,1,2,3,4,5,6,7,8,9,10,11] [0,2] [] (.i (.pN 4 4 0x00d1 .z) .z)))))) (fun s126=>.z)))))))))))))))
instance W67:∀ (n:Nat) (p0:Q1) (p1:Q1),Ct (V1 n p0 p1) fun res=>Q7 Tryz.prog 0o00031 [(.agg (X0 p0)),(.agg (X0 p1))] (fun d=>d=(eB res)):=
 ar (au Tryz.func25 V1.eq_2 .z)
end Go.Proofs.YtenmmbjgnlflnaaGreat
