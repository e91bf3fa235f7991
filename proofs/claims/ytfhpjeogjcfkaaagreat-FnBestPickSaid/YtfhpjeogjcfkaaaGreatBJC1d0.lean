import Derived.Test.YtfhpjeogjcfkaaaGreatBJC0c0
import Derived.Test.YtfhpjeogjcfkaaaGreatBJC0a0
import Derived.Test.YtfhpjeogjcfkaaaGreatBJC0b0
import Derived.Test.YtfhpjeogjcfkaaaGreatBJC0d0
set_option linter.unusedSimpArgs false
set_option linter.unusedVariables false
namespace Go.Proofs.YtfhpjeogjcfkaaaGreat
open Go Go.RowKit
set_option maxRecDepth 100000
set_option maxHeartbeats 20000000
instance V2g:∀ (p0:(List Z4)) (p1:(List Z4)),Ct (Q5y p0 p1) fun res=>Q8 Tryz.prog 0o00522 [(.slice 3 (List.map Y8 p0)),(.slice 3 (List.map Y8 p1))] (fun d=>d=(eB res)):=
 au Tryz.func338 Q5y.eq_1 (.o (.o (.ls 0 (.f [0,1] [] [0,1,5] [] (fun (k124:Nat) (s120:Unit)=>[(5,eI (k124:Int))]) (fun k124 s120=>[]) (fun k124 s120=>.o (.o (.g [0,1,5,6] [] [] [] (.i (.d [0,1,2,3,4,5,6,7,8,9,10,11,12,13,14] [] [] .z) (.o (.d [0,1,2,3,4,5,6,7,8,9,10,11,12,13,14] [] [] .z)))))) (fun s128=>.z)))))
instance V2n:∀ (n:Nat) (p0:Int),Ct (Z1k n p0) fun res=>Q8 Tryz.prog 0o00555 [(eI p0)] (fun d=>d=(eS res)):=
 au Tryz.func365 Z1k.eq_1 .z
instance W5k:∀ (p0:Int) (p1:Int),Ct (Q18 p0 p1) fun res=>Q8 Tryz.prog 0o00143 [(eI p0),(eI p1)] (fun d=>d=(eI res)):=
 au Tryz.func99 Q18.eq_1 .z
instance Z9o:∀ (p0:(List Q3)) (p1:(Q3→Option Bool)) {p1_f:FuncId} {p1_c:List D} [p1_i:CF1 (fun a0=>(.agg (X9 a0))) (fun r=>(eB r)) p1 p1_f p1_c],Ct (Q1s p0 p1) fun res=>Q8 Tryz.prog 0o00161 [(.slice 9 (List.map X9 p0)),.clos p1_f p1_c] (fun d=>d=(eB res)):=
 au Tryz.func113 Q1s.eq_1 .z
instance V7p:∀ (n:Nat) (p0:Q0),Ct (Q39 n p0) fun res=>Y4 Tryz.prog 0o00173 [] [(.agg (Z2 p0))] (fun H d=>H=[some ⟨6,List.map Z2 res,0,0x0064⟩]∧d=.sl 6 0 res.length):=
 ar (au Tryz.func123 Q39.eq_2 (.o (.o (.o (.i (.g [1] [0] [] [] (.o (.o (.o (.o (.o (.d [0,1,2,3,5,6,7,8,4,9,10,11] [0] [] .z))))))) (.ls 29 (.f [4] [88] [4,33,34,35] [88] (fun (k5018:Nat) (s5014:(List Q0))=>[(4,.sl 6 88 (s5014).length),(35,eI (k5018:Int))]) (fun k5018 s5014=>[(88,some ⟨6,(List.map Z2 s5014),0,0x0064⟩)]) (fun k5018 s5014=>.o (.o (.pN 8 6 0x0064 (.ll 0 (.f [8,33,34,35] [97] [7,8,33,34,35,41,42,43] [50,97,0] (fun (k5936:Nat) (s5932:(List Q0))=>[(8,.sl 6 97 (s5932).length),(43,eI (k5936:Int))]) (fun k5936 s5932=>[(97,some ⟨6,(List.map Z2 s5932),0,0x0064⟩)]) (fun k5936 s5932=>.o (.ll 0 (.f [7,8,33,34,35,41,42,43] [0,1,2] [7,8,10,33,34,35,41,42,43,47,48,49] [0,1,27,2] (fun (k6006:Nat) (s6002:(List Q0))=>[(8,.sl 6 1 (s6002).length),(49,eI (k6006:Int))]) (fun k6006 s6002=>[(1,some ⟨6,(List.map Z2 s6002),0,0x0064⟩)]) (fun k6006 s6002=>.o (.g [7,8,10,12,13,33,34,35,41,42,43,47,48,49] [0,1,2,28,52,3] [] [] (.o (.o (.dz [0,1,3,2,4,5,6,7] [2,3] [1048634] [] (.o (.pF 2097160 .z))))))) (fun s6010=>.z)))) (fun s5940=>.z)))))) (fun s5022=>.z))))))))
instance W5j:∀ (p0:Q27) (p1:(List X3)),Ct (J2 p0 p1) fun res=>Q8 Tryz.prog 0o00150 [(.agg (Q8c p0)),(.slice 4 (List.map Q15 p1))] (fun d=>d=(eB res)):=
 au Tryz.func104 J2.eq_1 .z
instance V33:∀ (p0:Int) (p1:Int) (p2:Int) (p3:Q2),Ct (Q3a p0 p1 p2 p3) fun res=>Q8 Tryz.prog 0o00145 [(eI p0),(eI p1),(eI p2),(.agg (X4 p3))] (fun d=>d=(eB res)):=
 au Tryz.func101 Q3a.eq_1 .z
instance V9h:∀ (p0:(List Q4)) (p1:Q7),Ct (Z0q p0 p1) fun res=>Q8 Tryz.prog 0o00352 [(.slice 2 (List.map W5 p0)),(.agg (W3 p1))] (fun d=>d=(eB res)):=
 au Tryz.func234 Z0q.eq_1 .z
instance V0b:∀ (p0:(List Q1)),Ct (Q3o p0) fun res=>Q8 Tryz.prog 0o00207 [(.slice 2 (List.map Q6 p0))] (fun d=>d=(.slice 2 (List.map Q6 res))):=
 au Tryz.func135 Q3o.eq_1 (.o (.pN 3 2 0x0095 (.ls 0 (.f [3] [40] [3,6,7,8] [40] (fun (k56:Nat) (s52:(List Q1))=>[(3,.sl 2 40 (s52).length),(8,eI (k56:Int))]) (fun k56 s52=>[(40,some ⟨2,(List.map Q6 s52),0,0x0095⟩)]) (fun k56 s52=>.o (.g [3,5,6,7,8] [0,25] [] [] (.o (.o (.d [0,1,2,3,4,5,6,7,8,9] [1] [] (.pF 3 .z)))))) (fun s60=>.z)))))
end Go.Proofs.YtfhpjeogjcfkaaaGreat
