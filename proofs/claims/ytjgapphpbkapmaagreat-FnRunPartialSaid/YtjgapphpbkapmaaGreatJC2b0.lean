import Derived.Test.YtjgapphpbkapmaaGreatJC1c0
import Derived.Test.YtjgapphpbkapmaaGreatJC1b0
import Derived.Test.YtjgapphpbkapmaaGreatJC1d0
import Derived.Test.YtjgapphpbkapmaaGreatJC1a0
set_option linter.unusedSimpArgs false
set_option linter.unusedVariables false
namespace Go.Proofs.YtjgapphpbkapmaaGreat
open Go Go.RowKit
set_option maxRecDepth 100000
set_option maxHeartbeats 20000000
instance V1c:∀ (p0:(List Q3)) (p1:Q4) (p2:Q0),Ct (Q7l p0 p1 p2) fun res=>Z2 Tryz.prog 0o00442 [(.slice 2 (List.map W2 p0)),(.agg (W0 p1)),(.agg (Z0 p2))] (fun d=>d=(eB res)):=
 au Tryz.func290 Q7l.eq_1 (.o (.o (.o (.e (.j 1 0 [0,4,5,7] [0,8] (fun (s2:Bool)=>[(7,eB s2)]) (fun _=>[]) .z (fun s2=>.j 2 0 [0,4,5] [0,1] (fun (s17:Unit)=>[]) (fun _=>[]) .z (fun s17=>.j 4 0 [0,4,5] [0,1] (fun (s50:Unit)=>[]) (fun _=>[]) .z (fun s50=>.j 7 0 [0,4,5,60,61] [0,1] (fun (s95:Bool)=>[(61,eB s95)]) (fun _=>[]) .z (fun s95=>.i .z (.i .z (.i (.g [0,4,5] [0,1] [] [] (.o (.o (.d [0,1,3,4,2,5,6] [0,1] [] .z)))) .z)))))))))))
instance W0r:∀ (p0:Z1) (q0:(List Z1)),Ct (Q5o p0 q0) fun res=>Z2 Tryz.prog 0o00450 [(.agg (Y2 p0)),.cptr [(.slice 3 (List.map Y2 q0))]] (fun d=>d=(eB res)):=
 au Tryz.func296 Q5o.eq_1 .z
instance X6v:∀ (n:Nat) (p0:(List Q6)),Ct (Q21 n p0) fun res=>Z2 Tryz.prog 0o00070 [(.slice 9 (List.map V1 p0))] (fun d=>d=.tup [(.slice 1 (List.map (rL 6 Z0) res.1)),(eB res.2)]):=
 au Tryz.func56 Q21.eq_1 (.o (.o (.pN 4 1 0x005e (.ls 0 (.f [4] [48] [4,7,8,9] [48] (fun (k96:Nat) (s92:(List (List Q0)))=>[(4,.sl 1 48 (s92).length),(9,eI (k96:Int))]) (fun k96 s92=>[(48,some ⟨1,(List.map (rL 6 Z0) s92),0,0x005e⟩)]) (fun k96 s92=>.o (.o (.i .z (.o (.o (.pF 98 .z)))))) (fun s100=>.z))))))
instance Z93:∀ (n:Nat) (p0:(List Q2)) (p1:(Q2→Q2→Option Int)) {p1_f:FuncId} {p1_c:List D} [p1_i:CF2 (fun a0=>(.agg (Z3 a0))) (fun a1=>(.agg (Z3 a1))) (fun r=>(eI r)) p1 p1_f p1_c],Ct (Q06 n p0 p1) fun res=>J0 Tryz.prog 0o00131 [⟨2,List.map Z3 p0,0,0x008b⟩] [.sl 2 0 p0.length,.clos p1_f p1_c] (fun H d=>H=[some ⟨2,List.map Z3 res,0,0x008b⟩]∧d=.tup []):=
 au Tryz.func89 Q06.eq_1 .z
instance W29:∀ (n:Nat) (p0:(List Q3)) (p1:Q4) (p2:Q1) (p3:Int) (p4:Bool) (p5:Int),Ct (Q0c n p0 p1 p2 p3 p4 p5) fun res=>J0 Tryz.prog 0o00114 [⟨1,[[(eI p5)]],0,0x0003⟩] [(.slice 2 (List.map W2 p0)),(.agg (W0 p1)),(.agg (X1 p2)),(eI p3),(eB p4),.ptr 1 0 0 0] (fun H d=>H=[some ⟨1,[[(eI res.2)]],0,0x0003⟩]∧d=(eB res.1)):=
 ar (au Tryz.func76 Q0c.eq_2 (.o (.o (.o (.o (.o (.o (.o (.o (.i .z (.i .z (.j 4 0 [0,3,4,5,7,8] [0,1,9] (fun (s92:Unit)=>[]) (fun _=>[]) (.i (.i .z (.i .z (.g [0,3,4,5,7,8] [0,1,9] [] [] (.i (.d [0,1,2,3,4,5,7,8,6,9,10,11,12] [2] [] .z) (.o (.o (.d [0,1,2,3,4,5,7,8,6,9,10,11,12] [1,2] [] .z))))))) (.i .z (.g [0,3,4,5,7,8] [0,1,9] [] [] (.i (.d [0,1,2,3,4,5,7,8,6,9,10,11,12] [2] [] .z) (.o (.o (.d [0,1,2,3,4,5,7,8,6,9,10,11,12] [1,2] [] .z))))))) (fun s92=>.o (.i .z (.ls 84 (.f [] [0] [0,3,4,5,13,88,89,90] [0] (fun (k244:Nat) (s240:Int)=>[(90,eI (k244:Int))]) (fun k244 s240=>[(0,some ⟨1,[[(eI s240)]],0,0x0003⟩)]) (fun k244 s240=>.o (.g [0,3,4,5,13,14,15,88,89,90] [0,33] [] [] (.o (.o (.d [0,1,2,3,4,5,6,7,8,9,10,11] [1] [] .z))))) (fun s248=>.z)))))))))))))))))
instance W90:∀ (n:Nat) (p0:(List Q3)) (p1:Q4) (p2:Q1) (p3:Int),Ct (Q3b n p0 p1 p2 p3) fun res=>Z2 Tryz.prog 0o00143 [(.slice 2 (List.map W2 p0)),(.agg (W0 p1)),(.agg (X1 p2)),(eI p3)] (fun d=>d=(eB res)):=
 ar (au Tryz.func99 Q3b.eq_2 (.o (.o (.o (.o (.o (.o (.i .z (.i .z (.g [0,3,5,6] [0,8] [] [] (.i (.d [0,1,2,3,4,5,7,8,6,9,10,11] [1] [] .z) (.o (.o (.d [0,1,2,3,4,5,7,8,6,9,10,11] [0,1] [] (.i .z (.o (.i .z (.ls 51 (.f [] [] [0,3,6,9,10] [1] (fun (k105:Nat) (s101:Unit)=>[(10,eI (k105:Int))]) (fun k105 s101=>[]) (fun k105 s101=>.o (.g [0,3,6,9,10] [0] [] [] (.o (.o (.d [0,1,2,3,4,5,6,7,8,9,10,11,12,13] [0] [] .z))))) (fun s109=>.z))))))))))))))))))))
instance W4b:∀ (p0:(List Q3)) (p1:(List J2)) (p2:Int) (p3:Q9),Ct (Q30 p0 p1 p2 p3) fun res=>Z2 Tryz.prog 0o00356 [(.slice 2 (List.map W2 p0)),(.slice 3 (List.map Q1w p1)),(eI p2),(.agg (J5 p3))] (fun d=>d=(.slice 3 (List.map Q1w res))):=
 au Tryz.func238 Q30.eq_1 (.o (.o (.o (.o (.o (.o (.j 2 0 [1,2,9] [48] (fun (s38:(List J2))=>[(9,.sl 3 48 (s38).length)]) (fun s38=>[(48,some ⟨3,(List.map Q1w s38),0,0x00ec⟩)]) (.i (.g [0,1,2,7,9] [0,48] [] [] (.o (.o (.d [0,1,2,3,4,5,6,7,8,9] [0] [] (.ls 28 (.f [1,2,9] [1] [1,2,9,10,11] [1] (fun (k67:Nat) (s63:(List J2))=>[(9,.sl 3 1 (s63).length),(11,eI (k67:Int))]) (fun k67 s63=>[(1,some ⟨3,(List.map Q1w s63),0,0x00ec⟩)]) (fun k67 s63=>.o (.g [1,2,9,10,11] [0] [] [] (.o (.o (.d [0,1,2,3,4,5,6,8,9,10,11,7,12,13,14,15] [] [] .z))))) (fun s71=>.z))))))) .z) (fun _=>.z))))))))
end Go.Proofs.YtjgapphpbkapmaaGreat
