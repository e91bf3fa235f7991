import Derived.Test.YtjgapphpbkapmaaGreatNJC2c0
import Derived.Test.YtjgapphpbkapmaaGreatNJC2a0
import Derived.Test.YtjgapphpbkapmaaGreatNJC2d0
import Derived.Test.YtjgapphpbkapmaaGreatNJC2b0
set_option linter.unusedSimpArgs false
set_option linter.unusedVariables false
namespace Go.Proofs.YtjgapphpbkapmaaGreat
open Go Go.RowKit
set_option maxRecDepth 100000
set_option maxHeartbeats 20000000
instance X74:∀ (n:Nat) (p0:(List Q3)),Ct (Q3j n p0) fun res=>Z1 Tryz.prog 0o00072 [(.slice 2 (List.map W2 p0))] (fun d=>d=.cptr (Q5x res)):=
 au Tryz.func58 Q3j.eq_1 .z
instance W3b:∀ (n:Nat) (p0:(List Q6)) (p1:(List Q3)) (p2:Q5) (p3:Q0),Ct (Q0h n p0 p1 p2 p3) fun res=>J2 Tryz.prog 0o00343 [⟨3,List.map V1 p0,0,0x0122⟩] [.sl 3 0 p0.length,(.slice 2 (List.map W2 p1)),(.agg (W1 p2)),(.agg (Q7 p3))] (fun H d=>H=[none,some ⟨3,List.map V1 res,0,0x0122⟩]∧d=.sl 3 1 res.length):=
 ar (au Tryz.func227 Q0h.eq_2 (.o (.o (.o (.o (.o (.o (.j 1 0 [0,1,6,7] [0,9000,1,9] (fun (s10:(List Q6))=>[(0,.sl 3 9000 (s10).length)]) (fun s10=>[(0,none),(9000,some ⟨3,(List.map V1 s10),0,0x0122⟩)]) (.i .z (.i .z (.pM 0 .z))) (fun s10=>.o (.ls 29 (.f [0] [0,1] [0,1,7,9,10] [0,1,3] (fun (k159:Nat) (s155:(List Q6))=>[(0,.sl 3 1 (s155).length),(10,eI (k159:Int))]) (fun k159 s155=>[(0,none),(1,some ⟨3,(List.map V1 s155),0,0x0122⟩)]) (fun k159 s155=>.o (.j 5 0 [0,1,7,9,10] [0,1,2] (fun (s169:Unit)=>[]) (fun _=>[(0,none)]) .z (fun _=>.g [0,1,7,9,10] [0,1,2] [] [(0,none)] (.o (.o (.d [0,1,2,3,4,5,6,7,8,9,10,11,12] [2] [] .z)))))) (fun s163=>.z))))))))))))
instance W1o:∀ (n:Nat) (p0:X7) (p1:(List Z0)) (p2:Z2) (p3:((List Int)→Option Unit)) {p3_f:FuncId} {p3_c:List D} [p3_i:CF1 (fun a0=>(.slice 1 (List.map rI a0))) (fun r=>(.tup [])) p3 p3_f p3_c],Ct (Q4k n p0 p1 p2 p3) fun res=>Z1 Tryz.prog 0o00107 [(.agg (Q22 p0)),(.slice 9 (List.map V6 p1)),(.agg (V2 p2)),.clos p3_f p3_c] (fun d=>d=.tup [(eI res.1),(.slice 1 (List.map rI res.2.1)),(eB res.2.2)]):=
 au Tryz.func71 Q4k.eq_1 (.o (.o (.o (.o (.o (.o (.o (.o (.w [] [] [1,3,4,6] [0,8] (fun (s57:X7)=>[]) (fun s57=>[(0,some ⟨6,[(Q22 s57)],0,0x0030⟩)]) (fun s57=>.z) (fun s65=>.z))))))))))
instance W1n:∀ (n:Nat) (p0:(List Q3)) (p1:Q5) (p2:Z2) (p3:Int),Ct (Q1o n p0 p1 p2 p3) fun res=>Z1 Tryz.prog 0o00221 [(.slice 2 (List.map W2 p0)),(.agg (W1 p1)),(.agg (V2 p2)),(eI p3)] (fun d=>d=(eB res)):=
 ar (au Tryz.func145 Q1o.eq_2 (.o (.o (.o (.o (.o (.o (.i .z (.i .z (.i .z (.g [0,3,5,6] [0,8] [] [] (.i (.d [0,1,2,3,4,5,7,8,6,9,10,11] [1] [] .z) (.o (.o (.d [0,1,2,3,4,5,7,8,6,9,10,11] [0,1] [] (.i .z (.o (.i .z (.ls 42 (.f [] [] [0,3,6,9,10] [1] (fun (k99:Nat) (s95:Unit)=>[(10,eI (k99:Int))]) (fun k99 s95=>[]) (fun k99 s95=>.o (.g [0,3,6,9,10] [0] [] [] (.o (.o (.d [0,1,2,3,4,5,6,7,8,9,10,11,12,13] [0] [] .z))))) (fun s103=>.z)))))))))))))))))))))
end Go.Proofs.YtjgapphpbkapmaaGreat
