import Derived.Test.YtbdkbdafhlcilaaGreatJC2d0
import Derived.Test.YtbdkbdafhlcilaaGreatJC2a0
import Derived.Test.YtbdkbdafhlcilaaGreatJC2b0
set_option linter.unusedSimpArgs false
set_option linter.unusedVariables false
namespace Go.Proofs.YtbdkbdafhlcilaaGreat
open Go Go.RowKit
set_option maxRecDepth 100000
set_option maxHeartbeats 20000000
instance W87:∀ (n:Nat) (p0:(List Q5)),Ct (Q5u n p0) fun res=>Z1 Tryz.prog 0o00167 [(.slice 9 (List.map W0 p0))] (fun d=>d=.tup [(.slice 6 (List.map Q1 res.1)),(eB res.2)]):=
 au Tryz.func119 Q5u.eq_1 (.o (.o (.pN 4 6 0x0064 (.ls 0 (.f [4] [48] [4,9,10,11] [48] (fun (k111:Nat) (s107:(List Q0))=>[(4,.sl 6 48 (s107).length),(11,eI (k111:Int))]) (fun k111 s107=>[(48,some ⟨6,(List.map Q1 s107),0,0x0064⟩)]) (fun k111 s107=>.o (.j 4 0 [4,9,10,11] [0] (fun (s122:(List Q0))=>[(4,.sl 6 0 (s122).length)]) (fun s122=>[(0,some ⟨6,(List.map Q1 s122),0,0x0064⟩)]) .z (fun _=>.z))) (fun s115=>.z))))))
instance W5g:∀ (n:Nat) (p0:(List Q3)),Ct (Q3t n p0) fun res=>Z1 Tryz.prog 0o00075 [(.slice 2 (List.map V0 p0))] (fun d=>d=.cptr (Q2s res)):=
 au Tryz.func61 Q3t.eq_1 .z
instance V28:∀ (n:Nat) (p0:(List Z0)) (p1:(List Q3)) (p2:Q2) (p3:Q0),Ct (Q1k n p0 p1 p2 p3) fun res=>Q05 Tryz.prog 0o00303 [⟨3,List.map Y4 p0,0,0x0122⟩] [.sl 3 0 p0.length,(.slice 2 (List.map V0 p1)),(.agg (X9 p2)),(.agg (Q1 p3))] (fun H d=>H=[none,some ⟨3,List.map Y4 res,0,0x0122⟩]∧d=.sl 3 1 res.length):=
 ar (au Tryz.func195 Q1k.eq_2 (.o (.o (.o (.o (.o (.o (.j 1 0 [0,1,6,7] [0,9000,1,9] (fun (s10:(List Z0))=>[(0,.sl 3 9000 (s10).length)]) (fun s10=>[(0,none),(9000,some ⟨3,(List.map Y4 s10),0,0x0122⟩)]) (.i .z (.i .z (.pM 0 .z))) (fun s10=>.o (.ls 29 (.f [0] [0,1] [0,1,7,9,10] [0,1,3] (fun (k159:Nat) (s155:(List Z0))=>[(0,.sl 3 1 (s155).length),(10,eI (k159:Int))]) (fun k159 s155=>[(0,none),(1,some ⟨3,(List.map Y4 s155),0,0x0122⟩)]) (fun k159 s155=>.o (.j 5 0 [0,1,7,9,10] [0,1,2] (fun (s169:Unit)=>[]) (fun _=>[(0,none)]) .z (fun _=>.g [0,1,7,9,10] [0,1,2] [] [(0,none)] (.o (.o (.d [0,1,2,3,4,5,6,7,8,9,10,11,12] [2] [] .z)))))) (fun s163=>.z))))))))))))
instance X47:∀ (n:Nat) (p0:X0) (p1:(List Grow)) (p2:(List Z5)),Ct (Q0i n p0 p1 p2) fun res=>Q05 Tryz.prog 0o00202 [⟨4,[(J3 p0)],0,0x006c⟩] [.ptr 4 0 0 0,(.slice 3 (List.map Q4w p1)),(.slice 3 (List.map Q1y p2))] (fun H d=>H=[some ⟨4,[(J3 res.2)],0,0x006c⟩]∧d=(eI res.1)):=
 au Tryz.func130 Q0i.eq_1 (.o (.o (.o (.o (.ls 2 (.f [7] [0] [0,1,2,7,8,14,15] [0] (fun (k887:Nat) (s883:X0×Int×Int)=>[(7,eI s883.2.1),(8,eI s883.2.2),(15,eI (k887:Int))]) (fun k887 s883=>[(0,some ⟨4,[(J3 s883.1)],0,0x006c⟩)]) (fun k887 s883=>.o (.j 4 0 [0,1,2,7,8,14,15] [0] (fun (s976:X0×Int×Int)=>[(7,eI s976.2.1),(8,eI s976.2.2)]) (fun s976=>[(0,some ⟨4,[(J3 s976.1)],0,0x006c⟩)]) (.o (.o (.i .z (.j 7 0 [0,1,2,7,8,9,10,14,15] [0] (fun (s1020:X0×Int)=>[(10,eI s1020.2)]) (fun s1020=>[(0,some ⟨4,[(J3 s1020.1)],0,0x006c⟩)]) (.i (.ls 1 (.f [0,1,2,7,8,9,10,14,15] [0] [0,1,2,7,8,9,10,14,15,33,34,35] [0] (fun (k1044:Nat) (s1040:Int)=>[(10,eI s1040),(35,eI (k1044:Int))]) (fun k1044 s1040=>[]) (fun k1044 s1040=>.o (.j 11 0 [0,1,2,7,8,9,10,14,15,33,34,35] [0] (fun (s1051:Int)=>[(10,eI s1051)]) (fun _=>[]) .z (fun _=>.z))) (fun s1048=>.z))) .z) (fun _=>.z))))) (fun _=>.z))) (fun s891=>.z)))))))
instance V0g:∀ (n:Nat) (p0:V4) (p1:(List Q5)) (p2:Q4),Ct (Q6r n p0 p1 p2) fun res=>Z1 Tryz.prog 0o00105 [(.agg (Q5j p0)),(.slice 9 (List.map W0 p1)),(.agg (Q07 p2))] (fun d=>d=.tup [(eI res.1),(.slice 4 (List.map Q87 res.2.1)),(eI res.2.2)]):=
 au Tryz.func69 Q6r.eq_1 (.o (.o (.o (.o (.w [] [] [1,3,5,9] [0,8] (fun (s34:V4×Int)=>[(9,eI s34.2)]) (fun s34=>[(0,some ⟨6,[(Q5j s34.1)],0,0x002b⟩)]) (fun s34=>.z) (fun s42=>.z))))))
end Go.Proofs.YtbdkbdafhlcilaaGreat
