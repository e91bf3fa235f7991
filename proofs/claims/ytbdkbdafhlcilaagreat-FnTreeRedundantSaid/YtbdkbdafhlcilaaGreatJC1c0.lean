import Derived.Test.YtbdkbdafhlcilaaGreatJC0c0
import Derived.Test.YtbdkbdafhlcilaaGreatJC0a0
import Derived.Test.YtbdkbdafhlcilaaGreatJC0b0
import Derived.Test.YtbdkbdafhlcilaaGreatJC0d0
set_option linter.unusedSimpArgs false
set_option linter.unusedVariables false
namespace Go.Proofs.YtbdkbdafhlcilaaGreat
open Go Go.RowKit
set_option maxRecDepth 100000
set_option maxHeartbeats 20000000
instance W41:∀ (n:Nat) (p0:(List Q5)),Ct (Q3a n p0) fun res=>Q05 Tryz.prog 0o00134 [] [(.slice 9 (List.map W0 p0))] (fun H d=>H=[some ⟨9,List.map W0 res,0,0x0086⟩]∧d=.sl 9 0 res.length):=
 au Tryz.func92 Q3a.eq_1 (.o (.o (.pN 3 9 0x0086 (.ls 0 (.f [3] [40] [3,6,7,8] [40] (fun (k56:Nat) (s52:(List Q5))=>[(3,.sl 9 40 (s52).length),(8,eI (k56:Int))]) (fun k56 s52=>[(40,some ⟨9,(List.map W0 s52),0,0x0086⟩)]) (fun k56 s52=>.o (.g [3,5,6,7,8] [0,25] [] [] (.o (.o (.d [0,1,2,4,5,3,6,7,8,9] [1] [] .z))))) (fun s60=>.z))))))
instance W1t:∀ (n:Nat) (p0:(List Q0)),Ct (Q44 n p0) fun res=>Z1 Tryz.prog 0o00312 [(.slice 6 (List.map Q1 p0))] (fun d=>d=(.slice 6 (List.map Q1 res))):=
 au Tryz.func202 Q44.eq_1 (.o (.o (.pN 3 6 0x0064 (.ls 0 (.f [3] [40] [3,6,7,8] [40] (fun (k56:Nat) (s52:(List Q0))=>[(3,.sl 6 40 (s52).length),(8,eI (k56:Int))]) (fun k56 s52=>[(40,some ⟨6,(List.map Q1 s52),0,0x0064⟩)]) (fun k56 s52=>.z) (fun s60=>.z))))))
instance X1d:∀ (p0:(List Q2)) (p1:(Q2→Option Bool)) {p1_f:FuncId} {p1_c:List D} [p1_i:CF1 (fun a0=>(.agg (X9 a0))) (fun r=>(eB r)) p1 p1_f p1_c],Ct (Q3p p0 p1) fun res=>Z1 Tryz.prog 0o00254 [(.slice 2 (List.map X9 p0)),.clos p1_f p1_c] (fun d=>d=(eB res)):=
 au Tryz.func172 Q3p.eq_1 .z
instance V4q:∀ (n:Nat) (p0:Q0),Ct (Q2q n p0) fun res=>Q05 Tryz.prog 0o00174 [] [(.agg (Q1 p0))] (fun H d=>H=[some ⟨6,List.map Q1 res,0,0x0064⟩]∧d=.sl 6 0 res.length):=
 ar (au Tryz.func124 Q2q.eq_2 (.o (.o (.o (.i (.g [1] [0] [] [] (.o (.o (.o (.o (.o (.d [0,1,2,3,5,6,7,8,4,9,10,11] [0] [] .z))))))) (.ls 29 (.f [4] [88] [4,33,34,35] [88] (fun (k5018:Nat) (s5014:(List Q0))=>[(4,.sl 6 88 (s5014).length),(35,eI (k5018:Int))]) (fun k5018 s5014=>[(88,some ⟨6,(List.map Q1 s5014),0,0x0064⟩)]) (fun k5018 s5014=>.o (.o (.pN 8 6 0x0064 (.ll 0 (.f [8,33,34,35] [97] [7,8,33,34,35,41,42,43] [50,97,0] (fun (k5936:Nat) (s5932:(List Q0))=>[(8,.sl 6 97 (s5932).length),(43,eI (k5936:Int))]) (fun k5936 s5932=>[(97,some ⟨6,(List.map Q1 s5932),0,0x0064⟩)]) (fun k5936 s5932=>.o (.ll 0 (.f [7,8,33,34,35,41,42,43] [0,1,2] [7,8,10,33,34,35,41,42,43,47,48,49] [0,1,27,2] (fun (k6006:Nat) (s6002:(List Q0))=>[(8,.sl 6 1 (s6002).length),(49,eI (k6006:Int))]) (fun k6006 s6002=>[(1,some ⟨6,(List.map Q1 s6002),0,0x0064⟩)]) (fun k6006 s6002=>.o (.g [7,8,10,12,13,33,34,35,41,42,43,47,48,49] [0,1,2,28,52,3] [] [] (.o (.o (.dz [0,1,3,2,4,5,6,7] [2,3] [1048634] [] (.o (.pF 2097160 .z))))))) (fun s6010=>.z)))) (fun s5940=>.z)))))) (fun s5022=>.z))))))))
instance W1w:∀ (n:Nat) (p0:Q0),Ct (J1 n p0) fun res=>Z1 Tryz.prog 0o00304 [(.agg (Q1 p0))] (fun d=>d=(.agg (Q1 res))):=
 ar (au Tryz.func196 J1.eq_2 (.o (.o (.b fun (p0:Q0)=>.j 1 0 [1,2] [0,8] (fun (s12:Unit)=>[]) (fun _=>[]) .z (fun s12=>.pC 0 5 6 0x0064 (.ls 27 (.f [1,2] [0,66,1] [1,2,29,30,31] [0,66,1] (fun (k81:Nat) (s77:(List Q0))=>[(31,eI (k81:Int))]) (fun k81 s77=>[(1000000000,some ⟨6,[[(eI p0.op),(eI p0.ctor),(eI p0.n),(eI p0.m),(eI p0.var),(.sl 6 66 (s77).length)]],0,0x0064⟩),(66,some ⟨6,(List.map Q1 s77),0,0x0064⟩)]) (fun k81 s77=>.o (.g [1,2,5,29,30,31] [0,1,2,27] [] [(1000000000,some ⟨6,[[(eI p0.op),(eI p0.ctor),(eI p0.n),(eI p0.m),(eI p0.var),(.sl 6 1 (s77).length)]],0,0x0064⟩)] (.o (.o (.d [0,1,2,3,4,5,6,7] [0,3] [41] .z))))) (fun s85=>.z))))))))
instance W9z:∀ (p0:Q4g) (p1:(List Z0)),Ct (Q5c p0 p1) fun res=>Z1 Tryz.prog 0o00302 [(.agg (Q94 p0)),(.slice 3 (List.map Y4 p1))] (fun d=>d=(eB res)):=
 au Tryz.func194 Q5c.eq_1 (.o (.o (.i .z (.j 3 0 [1,2] [0] (fun (s23:Unit)=>[]) (fun _=>[]) .z (fun _=>.z)))))
instance V2m:∀ (p0:ByteArray),Ct (Z17 p0) fun res=>Z1 Tryz.prog 0o00356 [(eS p0)] (fun d=>d=(eB res)):=
 au Tryz.func238 Z17.eq_1 .z
instance V6n:∀ (p0:(List Q3)) (p1:Q2),Ct (Q9b p0 p1) fun res=>Z1 Tryz.prog 0o00301 [(.slice 2 (List.map V0 p0)),(.agg (X9 p1))] (fun d=>d=(eB res)):=
 au Tryz.func193 Q9b.eq_1 .z
instance W1j:∀ (p0:(List ByteArray)) (p1:ByteArray),Ct (Q7j p0 p1) fun res=>Z1 Tryz.prog 0o00452 [(.slice 1 (List.map rS p0)),(eS p1)] (fun d=>d=(.agg (X9 res))):=
 au Tryz.func298 Q7j.eq_1 (.o (.o (.i .z (.o (.b fun (r4:(Int))=>.j 4 0 [4,5] [0,64] (fun (s18:Int)=>[]) (fun s18=>[(64,some ⟨2,[[(eI r4),(eI s18)]],0,0x0019⟩)]) .z (fun _=>.z))))))
instance Z6k:∀ (n:Nat) (p0:(List Q7)) (p1:Int) (p2:Int) (p3:Int) (p4:(Q7→Q7→Option Int)) {p4_f:FuncId} {p4_c:List D} [p4_i:CF2 (fun a0=>(.agg (Z8 a0))) (fun a1=>(.agg (Z8 a1))) (fun r=>(eI r)) p4 p4_f p4_c],Ct (Q0z n p0 p1 p2 p3 p4) fun res=>Q05 Tryz.prog 0o00372 [⟨2,List.map Z8 p0,0,0x0073⟩] [.sl 2 0 p0.length,(eI p1),(eI p2),(eI p3),.clos p4_f p4_c] (fun H d=>H=[some ⟨2,List.map Z8 res,0,0x0073⟩]∧d=.tup []):=
 ar (au Tryz.func250 Q0z.eq_2 (.o (.o (.o (.o (.o (.o (.o (.o (.o (.o (.w [] [0] [0,1,2,3,4,10,11] [0] (fun (s10:Unit)=>[]) (fun s10=>[]) (fun s10=>.z) (fun s18=>.z)))))))))))))
instance W83:∀ (p0:(List Q7)),Ct (Q4o p0) fun res=>Z1 Tryz.prog 0o00210 [(.slice 2 (List.map Z8 p0))] (fun d=>d=(.slice 2 (List.map Z8 res))):=
 au Tryz.func136 Q4o.eq_1 (.o (.pN 3 2 0x0073 (.ls 0 (.f [3] [40] [3,6,7,8] [40] (fun (k56:Nat) (s52:(List Q7))=>[(3,.sl 2 40 (s52).length),(8,eI (k56:Int))]) (fun k56 s52=>[(40,some ⟨2,(List.map Z8 s52),0,0x0073⟩)]) (fun k56 s52=>.o (.g [3,5,6,7,8] [0,25] [] [] (.o (.o (.d [0,1,2,3,4,5,6,7,8,9] [1] [] (.pF 3 .z)))))) (fun s60=>.z)))))
end Go.Proofs.YtbdkbdafhlcilaaGreat
