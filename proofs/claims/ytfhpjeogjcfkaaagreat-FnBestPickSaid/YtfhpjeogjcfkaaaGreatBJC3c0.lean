import Derived.Test.YtfhpjeogjcfkaaaGreatBJC2c0
import Derived.Test.YtfhpjeogjcfkaaaGreatBJC2d0
set_option linter.unusedSimpArgs false
set_option linter.unusedVariables false
namespace Go.Proofs.YtfhpjeogjcfkaaaGreat
open Go Go.RowKit
set_option maxRecDepth 100000
set_option maxHeartbeats 20000000
instance V4w:∀ (n:Nat) (p0:(List Z4)) (p1:(List Q4)) (p2:Q7) (p3:Q0),Ct (Q1g n p0 p1 p2 p3) fun res=>Y4 Tryz.prog 0o00355 [⟨3,List.map Y8 p0,0,0x013f⟩] [.sl 3 0 p0.length,(.slice 2 (List.map W5 p1)),(.agg (W3 p2)),(.agg (Z2 p3))] (fun H d=>H=[none,some ⟨3,List.map Y8 res,0,0x013f⟩]∧d=.sl 3 1 res.length):=
 ar (au Tryz.func237 Q1g.eq_2 (.o (.o (.o (.o (.o (.o (.j 1 0 [0,1,6,7] [0,9000,1,9] (fun (s10:(List Z4))=>[(0,.sl 3 9000 (s10).length)]) (fun s10=>[(0,none),(9000,some ⟨3,(List.map Y8 s10),0,0x013f⟩)]) (.i .z (.i .z (.pM 0 .z))) (fun s10=>.o (.ls 29 (.f [0] [0,1] [0,1,7,9,10] [0,1,3] (fun (k159:Nat) (s155:(List Z4))=>[(0,.sl 3 1 (s155).length),(10,eI (k159:Int))]) (fun k159 s155=>[(0,none),(1,some ⟨3,(List.map Y8 s155),0,0x013f⟩)]) (fun k159 s155=>.o (.j 5 0 [0,1,7,9,10] [0,1,2] (fun (s169:Unit)=>[]) (fun _=>[(0,none)]) .z (fun _=>.g [0,1,7,9,10] [0,1,2] [] [(0,none)] (.o (.o (.d [0,1,2,3,4,5,6,7,8,9,10,11,12] [2] [] .z)))))) (fun s163=>.z))))))))))))
instance V2e:∀ (n:Nat) (p0:(List Q4)) (p1:Q7) (p2:Q0) (p3:Int),Ct (Q37 n p0 p1 p2 p3) fun res=>Q8 Tryz.prog 0o00445 [(.slice 2 (List.map W5 p0)),(.agg (W3 p1)),(.agg (Z2 p2)),(eI p3)] (fun d=>d=(eB res)):=
 ar (au Tryz.func293 Q37.eq_2 (.o (.o (.o (.o (.o (.o (.i .z (.o (.i .z (.o (.i .z (.ls 23 (.f [] [] [0,3,6,9,10] [8] (fun (k83:Nat) (s79:Unit)=>[(10,eI (k83:Int))]) (fun k83 s79=>[]) (fun k83 s79=>.o (.g [0,3,6,9,10] [0] [] [] (.o (.o (.d [0,1,2,3,4,5,6,7,8,9,10,11,12,13] [0] [] .z))))) (fun s87=>.z)))))))))))))))
instance X5l:∀ (n:Nat) (p0:X5) (p1:(List Grow)) (p2:(List Z7)),Ct (Q0n n p0 p1 p2) fun res=>Y4 Tryz.prog 0o00201 [⟨4,[(J4 p0)],0,0x006c⟩] [.ptr 4 0 0 0,(.slice 3 (List.map Q5a p1)),(.slice 3 (List.map Q1u p2))] (fun H d=>H=[some ⟨4,[(J4 res.2)],0,0x006c⟩]∧d=(eI res.1)):=
 au Tryz.func129 Q0n.eq_1 (.o (.o (.o (.o (.ls 2 (.f [7] [0] [0,1,2,7,8,14,15] [0] (fun (k887:Nat) (s883:X5×Int×Int)=>[(7,eI s883.2.1),(8,eI s883.2.2),(15,eI (k887:Int))]) (fun k887 s883=>[(0,some ⟨4,[(J4 s883.1)],0,0x006c⟩)]) (fun k887 s883=>.o (.j 4 0 [0,1,2,7,8,14,15] [0] (fun (s976:X5×Int×Int)=>[(7,eI s976.2.1),(8,eI s976.2.2)]) (fun s976=>[(0,some ⟨4,[(J4 s976.1)],0,0x006c⟩)]) (.o (.o (.i .z (.j 7 0 [0,1,2,7,8,9,10,14,15] [0] (fun (s1020:X5×Int)=>[(10,eI s1020.2)]) (fun s1020=>[(0,some ⟨4,[(J4 s1020.1)],0,0x006c⟩)]) (.i (.ls 1 (.f [0,1,2,7,8,9,10,14,15] [0] [0,1,2,7,8,9,10,14,15,33,34,35] [0] (fun (k1044:Nat) (s1040:Int)=>[(10,eI s1040),(35,eI (k1044:Int))]) (fun k1044 s1040=>[]) (fun k1044 s1040=>.o (.j 11 0 [0,1,2,7,8,9,10,14,15,33,34,35] [0] (fun (s1051:Int)=>[(10,eI s1051)]) (fun _=>[]) .z (fun _=>.z))) (fun s1048=>.z))) .z) (fun _=>.z))))) (fun _=>.z))) (fun s891=>.z)))))))
end Go.Proofs.YtfhpjeogjcfkaaaGreat
