import Derived.Test.YtfhpjeogjcfkaaaGreatSJC2b0
import Derived.Test.YtfhpjeogjcfkaaaGreatSJC2a0
import Derived.Test.YtfhpjeogjcfkaaaGreatSJC2d0
import Derived.Test.YtfhpjeogjcfkaaaGreatSJC2c0
set_option linter.unusedSimpArgs false
set_option linter.unusedVariables false
namespace Go.Proofs.YtfhpjeogjcfkaaaGreat
open Go Go.RowKit
set_option maxRecDepth 100000
set_option maxHeartbeats 20000000
instance W4p:∀ (p0:(List Q9)) (p1:(List Q9)),Ct (Q5c p0 p1) fun res=>Q6 Tryz.prog 0o00475 [(.slice 3 (List.map V0 p0)),(.slice 3 (List.map V0 p1))] (fun d=>d=(eB res)):=
 au Tryz.func317 Q5c.eq_1 .z
instance W4u:∀ (n:Nat) (p0:(List Q5)),Ct (Q45 n p0) fun res=>Q6 Tryz.prog 0o00237 [(.slice 9 (List.map X4 p0))] (fun d=>d=.tup [(.slice 6 (List.map Q2 res.1)),(eB res.2)]):=
 au Tryz.func159 Q45.eq_1 (.o (.o (.pN 4 6 0x0064 (.ls 0 (.f [4] [48] [4,9,10,11] [48] (fun (k111:Nat) (s107:(List Q0))=>[(4,.sl 6 48 (s107).length),(11,eI (k111:Int))]) (fun k111 s107=>[(48,some ⟨6,(List.map Q2 s107),0,0x0064⟩)]) (fun k111 s107=>.o (.j 4 0 [4,9,10,11] [0] (fun (s122:(List Q0))=>[(4,.sl 6 0 (s122).length)]) (fun s122=>[(0,some ⟨6,(List.map Q2 s122),0,0x0064⟩)]) .z (fun _=>.z))) (fun s115=>.z))))))
instance W6q:∀ (n:Nat) (p0:(List Q4)) (p1:Q1) (p2:Q3),Ct (Q25 n p0 p1 p2) fun res=>Q6 Tryz.prog 0o00056 [(.slice 2 (List.map Z8 p0)),(.agg (Z2 p1)),(.agg (Z5 p2))] (fun d=>d=(eB res)):=
 au Tryz.func46 Q25.eq_1 .z
instance W6b:∀ (n:Nat) (p0:(List Q4)) (p1:Q1) (p2:Q0) (p3:Int),Ct (Q2m n p0 p1 p2 p3) fun res=>Q6 Tryz.prog 0o00445 [(.slice 2 (List.map Z8 p0)),(.agg (Z2 p1)),(.agg (Q2 p2)),(eI p3)] (fun d=>d=(eB res)):=
 ar (au Tryz.func293 Q2m.eq_2 (.o (.o (.o (.o (.o (.o (.i .z (.o (.i .z (.o (.i .z (.ls 23 (.f [] [] [0,3,6,9,10] [8] (fun (k83:Nat) (s79:Unit)=>[(10,eI (k83:Int))]) (fun k83 s79=>[]) (fun k83 s79=>.o (.g [0,3,6,9,10] [0] [] [] (.o (.o (.d [0,1,2,3,4,5,6,7,8,9,10,11,12,13] [0] [] .z))))) (fun s87=>.z)))))))))))))))
instance W8a:∀ (n:Nat) (p0:(List Q9)) (p1:(List Q4)) (p2:Q1) (p3:Q0),Ct (Q14 n p0 p1 p2 p3) fun res=>Q19 Tryz.prog 0o00355 [⟨3,List.map V0 p0,0,0x013f⟩] [.sl 3 0 p0.length,(.slice 2 (List.map Z8 p1)),(.agg (Z2 p2)),(.agg (Q2 p3))] (fun H d=>H=[none,some ⟨3,List.map V0 res,0,0x013f⟩]∧d=.sl 3 1 res.length):=
 ar (au Tryz.func237 Q14.eq_2 (.o (.o (.o (.o (.o (.o (.j 1 0 [0,1,6,7] [0,9000,1,9] (fun (s10:(List Q9))=>[(0,.sl 3 9000 (s10).length)]) (fun s10=>[(0,none),(9000,some ⟨3,(List.map V0 s10),0,0x013f⟩)]) (.i .z (.i .z (.pM 0 .z))) (fun s10=>.o (.ls 29 (.f [0] [0,1] [0,1,7,9,10] [0,1,3] (fun (k159:Nat) (s155:(List Q9))=>[(0,.sl 3 1 (s155).length),(10,eI (k159:Int))]) (fun k159 s155=>[(0,none),(1,some ⟨3,(List.map V0 s155),0,0x013f⟩)]) (fun k159 s155=>.o (.j 5 0 [0,1,7,9,10] [0,1,2] (fun (s169:Unit)=>[]) (fun _=>[(0,none)]) .z (fun _=>.g [0,1,7,9,10] [0,1,2] [] [(0,none)] (.o (.o (.d [0,1,2,3,4,5,6,7,8,9,10,11,12] [2] [] .z)))))) (fun s163=>.z))))))))))))
instance W6g:∀ (n:Nat) (p0:(List Q4)) (p1:(List Int)) (p2:Q1),Ct (Q50 n p0 p1 p2) fun res=>Q6 Tryz.prog 0o00460 [(.slice 2 (List.map Z8 p0)),(.slice 1 (List.map rI p1)),(.agg (Z2 p2))] (fun d=>d=(.agg (Z5 res))):=
 ar (au Tryz.func304 Q50.eq_2 (.o (.o (.o (.o (.o (.i .z (.o (.ls 18 (.f [6] [8] [0,1,5,6,7,8] [0,8] (fun (k770:Nat) (s766:Unit)=>[(8,eI (k770:Int))]) (fun k770 s766=>[]) (fun k770 s766=>.b fun (x771:Int)=>.j 7 0 [0,1,5,6,7,8] [0,1] (fun (s846:Unit)=>[]) (fun _=>[]) (.g [0,1,5,6,7,8] [0,1] [] [] (.o (.o (.d [0,1,2,3,4,5,6,8,9,7,10,11] [0] [] (.i .z (.g [0,1,5,6,7,8,9] [0,1,58] [] [] (.o (.d [0,1,2,3,4,5,6,7] [0] [] (.pC 2 2 3 0x001d (.ls 48 (.f [6,9] [1,2,19] [0,1,6,9,10,11] [1,2,19] (fun (k911:Nat) (s907:(List Q3))=>[(11,eI (k911:Int))]) (fun k911 s907=>[(1000000002,some ⟨3,[[(eI x771),(eI 0),(.sl 3 19 (s907).length)]],0,0x001d⟩),(19,some ⟨3,(List.map Z5 s907),0,0x001d⟩)]) (fun k911 s907=>.o (.g [0,1,6,9,10,11] [0,1,2] [] [(1000000001,some ⟨3,[[(eI x771),(eI 0),(.sl 3 2 (s907).length)]],0,0x001d⟩)] (.o (.o (.d [0,1,2,3,4,5,6,7,8,9,10,11,12] [1] [66] .z))))) (fun s915=>.z)))))))))))) (fun _=>.z)) (fun s774=>.z)))))))))))
end Go.Proofs.YtfhpjeogjcfkaaaGreat
