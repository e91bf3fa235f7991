import Derived.Test.YtfhpjeogjcfkaaaGreatSJC1c0
import Derived.Test.YtfhpjeogjcfkaaaGreatSJC1d0
import Derived.Test.YtfhpjeogjcfkaaaGreatSJC1a0
set_option linter.unusedSimpArgs false
set_option linter.unusedVariables false
namespace Go.Proofs.YtfhpjeogjcfkaaaGreat
open Go Go.RowKit
set_option maxRecDepth 100000
set_option maxHeartbeats 20000000
instance W4t:∀ (p0:Q1) (q0:(List Q4)),Ct (Q88 p0 q0) fun res=>Q6 Tryz.prog 0o00462 [(.agg (Z2 p0)),.cptr [(.slice 2 (List.map Z8 q0))]] (fun d=>d=(eB res)):=
 au Tryz.func306 Q88.eq_1 .z
instance W23:∀ (n:Nat) (p0:(List Q4)) (p1:Q1) (p2:Q3) (p3:Int) (p4:Bool) (p5:Int),Ct (Q2f n p0 p1 p2 p3 p4 p5) fun res=>Q19 Tryz.prog 0o00144 [⟨1,[[(eI p5)]],0,0x0003⟩] [(.slice 2 (List.map Z8 p0)),(.agg (Z2 p1)),(.agg (Z5 p2)),(eI p3),(eB p4),.ptr 1 0 0 0] (fun H d=>H=[some ⟨1,[[(eI res.2)]],0,0x0003⟩]∧d=(eB res.1)):=
 ar (au Tryz.func100 Q2f.eq_2 (.o (.o (.o (.o (.o (.o (.o (.o (.i .z (.i .z (.j 4 0 [0,3,4,5,7,8] [0,1,9] (fun (s92:Unit)=>[]) (fun _=>[]) (.i (.i .z (.i .z (.g [0,3,4,5,7,8] [0,1,9] [] [] (.i (.d [0,1,2,3,4,5,7,8,6,9,10,11,12] [2] [] .z) (.o (.o (.d [0,1,2,3,4,5,7,8,6,9,10,11,12] [1,2] [] .z))))))) (.i .z (.g [0,3,4,5,7,8] [0,1,9] [] [] (.i (.d [0,1,2,3,4,5,7,8,6,9,10,11,12] [2] [] .z) (.o (.o (.d [0,1,2,3,4,5,7,8,6,9,10,11,12] [1,2] [] .z))))))) (fun s92=>.o (.i .z (.ls 84 (.f [] [0] [0,3,4,5,13,88,89,90] [0] (fun (k244:Nat) (s240:Int)=>[(90,eI (k244:Int))]) (fun k244 s240=>[(0,some ⟨1,[[(eI s240)]],0,0x0003⟩)]) (fun k244 s240=>.o (.g [0,3,4,5,13,14,15,88,89,90] [0,33] [] [] (.o (.o (.d [0,1,2,3,4,5,6,7,8,9,10,11] [1] [] .z))))) (fun s248=>.z)))))))))))))))))
instance V0s:∀ (p0:(List Q4)) (p1:Q1) (p2:Q0),Ct (Q7b p0 p1 p2) fun res=>Q6 Tryz.prog 0o00521 [(.slice 2 (List.map Z8 p0)),(.agg (Z2 p1)),(.agg (Q2 p2))] (fun d=>d=(eB res)):=
 au Tryz.func337 Q7b.eq_1 (.o (.o (.o (.e (.j 1 0 [0,4,5,7] [0,8] (fun (s2:Bool)=>[(7,eB s2)]) (fun _=>[]) .z (fun s2=>.j 2 0 [0,4,5] [0,1] (fun (s17:Unit)=>[]) (fun _=>[]) .z (fun s17=>.j 4 0 [0,4,5] [0,1] (fun (s50:Unit)=>[]) (fun _=>[]) .z (fun s50=>.j 7 0 [0,4,5,60,61] [0,1] (fun (s95:Bool)=>[(61,eB s95)]) (fun _=>[]) .z (fun s95=>.i .z (.i .z (.i (.g [0,4,5] [0,1] [] [] (.o (.o (.d [0,1,3,4,2,5,6] [0,1] [] .z)))) .z)))))))))))
instance V0r:∀ (n:Nat) (p0:(List Q5)) (p1:Q3),Ct (Q58 n p0 p1) fun res=>Q6 Tryz.prog 0o00130 [(.slice 9 (List.map X4 p0)),(.agg (Z5 p1))] (fun d=>d=.tup [(eI res.1),(.slice 4 (List.map Q11 res.2))]):=
 au Tryz.func88 Q58.eq_1 (.o (.o (.o (.ls 0 (.f [] [] [0,3,6] [0] (fun (k159:Nat) (s155:Unit)=>[(6,eI (k159:Int))]) (fun k159 s155=>[]) (fun k159 s155=>.o (.j 4 0 [0,3,6] [0] (fun (s175:Unit)=>[]) (fun _=>[]) (.g [0,3,6] [0] [] [] (.o (.d [0,1,2,3,4,5,6,7,8,9,10,11] [0] [] .z))) (fun _=>.z))) (fun s163=>.z))))))
instance W8i:∀ (n:Nat) (p0:(List Q4)) (p1:Q1) (p2:Q3) (p3:Int),Ct (Q3f n p0 p1 p2 p3) fun res=>Q6 Tryz.prog 0o00153 [(.slice 2 (List.map Z8 p0)),(.agg (Z2 p1)),(.agg (Z5 p2)),(eI p3)] (fun d=>d=(eB res)):=
 ar (au Tryz.func107 Q3f.eq_2 (.o (.o (.o (.o (.o (.o (.i .z (.i .z (.g [0,3,5,6] [0,8] [] [] (.i (.d [0,1,2,3,4,5,7,8,6,9,10,11] [1] [] .z) (.o (.o (.d [0,1,2,3,4,5,7,8,6,9,10,11] [0,1] [] (.i .z (.o (.i .z (.ls 51 (.f [] [] [0,3,6,9,10] [1] (fun (k105:Nat) (s101:Unit)=>[(10,eI (k105:Int))]) (fun k105 s101=>[]) (fun k105 s101=>.o (.g [0,3,6,9,10] [0] [] [] (.o (.o (.d [0,1,2,3,4,5,6,7,8,9,10,11,12,13] [0] [] .z))))) (fun s109=>.z))))))))))))))))))))
instance W8l:∀ (n:Nat) (p0:(List Q4)) (p1:Q1),Ct (Q9l n p0 p1) fun res=>Q6 Tryz.prog 0o00553 [(.slice 2 (List.map Z8 p0)),(.agg (Z2 p1))] (fun d=>d=(eS res)):=
 au Tryz.func363 Q9l.eq_1 (.o (.o (.o (.i .z (.g [0,3] [0] [] [] (.o (.o (.o (.d [0,1,2,3,4,5,6,7,8,9,10] [0] [] .z)))))))))
end Go.Proofs.YtfhpjeogjcfkaaaGreat
