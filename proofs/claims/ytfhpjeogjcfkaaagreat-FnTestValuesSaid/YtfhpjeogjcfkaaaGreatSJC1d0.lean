import Derived.Test.YtfhpjeogjcfkaaaGreatSJC0b0
import Derived.Test.YtfhpjeogjcfkaaaGreatSJC0c0
import Derived.Test.YtfhpjeogjcfkaaaGreatSJC0a0
import Derived.Test.YtfhpjeogjcfkaaaGreatSJC0d0
set_option linter.unusedSimpArgs false
set_option linter.unusedVariables false
namespace Go.Proofs.YtfhpjeogjcfkaaaGreat
open Go Go.RowKit
set_option maxRecDepth 100000
set_option maxHeartbeats 20000000
instance X45:∀ (p0:(List Int)) (p1:Int),Ct (J6 p0 p1) fun res=>Q6 Tryz.prog 0o00275 [(.slice 1 (List.map rI p0)),(eI p1)] (fun d=>d=(eB res)):=
 au Tryz.func189 J6.eq_1 .z
instance Z5v:∀ (p0:(List Q9)) (p1:(Q9→Option Bool)) {p1_f:FuncId} {p1_c:List D} [p1_i:CF1 (fun a0=>(.agg (V0 a0))) (fun r=>(eB r)) p1 p1_f p1_c],Ct (Q16 p0 p1) fun res=>Q6 Tryz.prog 0o00535 [(.slice 3 (List.map V0 p0)),.clos p1_f p1_c] (fun d=>d=(eB res)):=
 au Tryz.func349 Q16.eq_1 .z
instance Z97:∀ (p0:(List Q9)) (p1:Q9),Ct (Q09 p0 p1) fun res=>Q6 Tryz.prog 0o00413 [(.slice 3 (List.map V0 p0)),(.agg (V0 p1))] (fun d=>d=(eB res)):=
 au Tryz.func267 Q09.eq_1 .z
instance W2a:∀ (n:Nat) (p0:ByteArray),Ct (Q7i n p0) fun res=>Q6 Tryz.prog 0o00461 [(eS p0)] (fun d=>d=(eB res)):=
 au Tryz.func305 Q7i.eq_1 (.o (.o (.o (.i .z (.o (.i .z (.i .z (.w [] [] [0,3] [] (fun (s132:Int)=>[(3,eI s132)]) (fun s132=>[]) (fun s132=>.z) (fun s140=>.z)))))))))
instance X5g:∀ (p0:(List Int)) (p1:(List Q4)) (p2:Q1) (p3:Int),Ct (Q0r p0 p1 p2 p3) fun res=>Q6 Tryz.prog 0o00322 [.cptr (List.map cI p0),(.slice 2 (List.map Z8 p1)),(.agg (Z2 p2)),(eI p3)] (fun d=>d=(eI res)):=
 au Tryz.func210 Q0r.eq_1 (.o (.o (.o (.o (.o (.ls 16 (.f [9] [] [0,9,16,17,18] [] (fun (k68:Nat) (s64:Int)=>[(9,eI s64),(18,eI (k68:Int))]) (fun k68 s64=>[]) (fun k68 s64=>.z) (fun s72=>.z))))))))
instance V0x:∀ (n:Nat) (p0:Q0),Ct (Q2n n p0) fun res=>Q19 Tryz.prog 0o00173 [] [(.agg (Q2 p0))] (fun H d=>H=[some ⟨6,List.map Q2 res,0,0x0064⟩]∧d=.sl 6 0 res.length):=
 ar (au Tryz.func123 Q2n.eq_2 (.o (.o (.o (.i (.g [1] [0] [] [] (.o (.o (.o (.o (.o (.d [0,1,2,3,5,6,7,8,4,9,10,11] [0] [] .z))))))) (.ls 29 (.f [4] [88] [4,33,34,35] [88] (fun (k5018:Nat) (s5014:(List Q0))=>[(4,.sl 6 88 (s5014).length),(35,eI (k5018:Int))]) (fun k5018 s5014=>[(88,some ⟨6,(List.map Q2 s5014),0,0x0064⟩)]) (fun k5018 s5014=>.o (.o (.pN 8 6 0x0064 (.ll 0 (.f [8,33,34,35] [97] [7,8,33,34,35,41,42,43] [50,97,0] (fun (k5936:Nat) (s5932:(List Q0))=>[(8,.sl 6 97 (s5932).length),(43,eI (k5936:Int))]) (fun k5936 s5932=>[(97,some ⟨6,(List.map Q2 s5932),0,0x0064⟩)]) (fun k5936 s5932=>.o (.ll 0 (.f [7,8,33,34,35,41,42,43] [0,1,2] [7,8,10,33,34,35,41,42,43,47,48,49] [0,1,27,2] (fun (k6006:Nat) (s6002:(List Q0))=>[(8,.sl 6 1 (s6002).length),(49,eI (k6006:Int))]) (fun k6006 s6002=>[(1,some ⟨6,(List.map Q2 s6002),0,0x0064⟩)]) (fun k6006 s6002=>.o (.g [7,8,10,12,13,33,34,35,41,42,43,47,48,49] [0,1,2,28,52,3] [] [] (.o (.o (.dz [0,1,3,2,4,5,6,7] [2,3] [1048634] [] (.o (.pF 2097160 .z))))))) (fun s6010=>.z)))) (fun s5940=>.z)))))) (fun s5022=>.z))))))))
instance W0r:∀ (p0:Q34) (p1:(List X3)),Ct (Q2q p0 p1) fun res=>Q6 Tryz.prog 0o00150 [(.agg (Q7f p0)),(.slice 4 (List.map Q11 p1))] (fun d=>d=(eB res)):=
 au Tryz.func104 Q2q.eq_1 .z
instance W6o:∀ (p0:(List Q4)) (p1:Q1),Ct (Q08 p0 p1) fun res=>Q6 Tryz.prog 0o00305 [(.slice 2 (List.map Z8 p0)),(.agg (Z2 p1))] (fun d=>d=(.slice 1 (List.map rI res))):=
 au Tryz.func197 Q08.eq_1 (.o (.o (.i .z (.b fun (x115:Q4)=>.le 0 1 3 Q6j x115.ctors x115 (.f [5] [16] [0,3,5,6] [0,16] (fun (k149:Nat) (s145:(List Int))=>[(5,.sl 1 16 (s145).length),(6,eI (k149:Int))]) (fun k149 s145=>[(16,some ⟨1,(List.map rI s145),0,0x0003⟩)]) (fun k149 s145=>.o (.j 7 0 [0,3,5,6] [0,1] (fun (s157:(List Int))=>[(5,.sl 1 1 (s157).length)]) (fun s157=>[(1,some ⟨1,(List.map rI s157),0,0x0003⟩)]) (.g [0,3,5,6] [0,1] [] [] (.o (.d [0,1,2,3,4,5,6,7,8,9,10,11] [0] [] .z))) (fun _=>.z))) (fun s153=>.z))))))
instance W68:∀ (p0:Q34) (p1:(List Q9)),Ct (Q4y p0 p1) fun res=>Q6 Tryz.prog 0o00354 [(.agg (Q7f p0)),(.slice 3 (List.map V0 p1))] (fun d=>d=(eB res)):=
 au Tryz.func236 Q4y.eq_1 (.o (.o (.i .z (.j 3 0 [1,2] [0] (fun (s23:Unit)=>[]) (fun _=>[]) .z (fun _=>.z)))))
instance W6m:∀ (n:Nat) (p0:Int),Ct (Q8v n p0) fun res=>Q6 Tryz.prog 0o00555 [(eI p0)] (fun d=>d=(eS res)):=
 au Tryz.func365 Q8v.eq_1 .z
end Go.Proofs.YtfhpjeogjcfkaaaGreat
