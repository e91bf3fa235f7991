import Derived.Test.YtfhpjeogjcfkaaaGreatRJC0a0
import Derived.Test.YtfhpjeogjcfkaaaGreatRJC0c0
import Derived.Test.YtfhpjeogjcfkaaaGreatRJC0d0
import Derived.Test.YtfhpjeogjcfkaaaGreatRJC0b0
set_option linter.unusedSimpArgs false
set_option linter.unusedVariables false
namespace Go.Proofs.YtfhpjeogjcfkaaaGreat
open Go Go.RowKit
set_option maxRecDepth 100000
set_option maxHeartbeats 20000000
instance W6o:∀ (p0:(List Q3)) (p1:Q6),Ct (Q61 p0 p1) fun res=>Z2 Tryz.prog 0o00261 [(.slice 2 (List.map W8 p0)),(.agg (W6 p1))] (fun d=>d=(eB res)):=
 au Tryz.func177 Q61.eq_1 .z
instance W8l:∀ (p0:Int),Ct (Q5k p0) fun res=>Z2 Tryz.prog 0o00516 [(eI p0)] (fun d=>d=(eB res)):=
 au Tryz.func334 Q5k.eq_1 .z
instance X25:∀ (p0:(List Int)) (p1:Int),Ct (J7 p0 p1) fun res=>Z2 Tryz.prog 0o00275 [(.slice 1 (List.map rI p0)),(eI p1)] (fun d=>d=(eB res)):=
 au Tryz.func189 J7.eq_1 .z
instance Z53:∀ (p0:(List Z1)) (p1:(Z1→Option Bool)) {p1_f:FuncId} {p1_c:List D} [p1_i:CF1 (fun a0=>(.agg (V6 a0))) (fun r=>(eB r)) p1 p1_f p1_c],Ct (Q0u p0 p1) fun res=>Z2 Tryz.prog 0o00161 [(.slice 9 (List.map V6 p0)),.clos p1_f p1_c] (fun d=>d=(eB res)):=
 au Tryz.func113 Q0u.eq_1 .z
instance W8j:∀ (n:Nat) (p0:Q0),Ct (Q1u n p0) fun res=>J4 Tryz.prog 0o00173 [] [(.agg (Z0 p0))] (fun H d=>H=[some ⟨6,List.map Z0 res,0,0x0064⟩]∧d=.sl 6 0 res.length):=
 ar (au Tryz.func123 Q1u.eq_2 (.o (.o (.o (.i (.g [1] [0] [] [] (.o (.o (.o (.o (.o (.d [0,1,2,3,5,6,7,8,4,9,10,11] [0] [] .z))))))) (.ls 29 (.f [4] [88] [4,33,34,35] [88] (fun (k5018:Nat) (s5014:(List Q0))=>[(4,.sl 6 88 (s5014).length),(35,eI (k5018:Int))]) (fun k5018 s5014=>[(88,some ⟨6,(List.map Z0 s5014),0,0x0064⟩)]) (fun k5018 s5014=>.o (.o (.pN 8 6 0x0064 (.ll 0 (.f [8,33,34,35] [97] [7,8,33,34,35,41,42,43] [50,97,0] (fun (k5936:Nat) (s5932:(List Q0))=>[(8,.sl 6 97 (s5932).length),(43,eI (k5936:Int))]) (fun k5936 s5932=>[(97,some ⟨6,(List.map Z0 s5932),0,0x0064⟩)]) (fun k5936 s5932=>.o (.ll 0 (.f [7,8,33,34,35,41,42,43] [0,1,2] [7,8,10,33,34,35,41,42,43,47,48,49] [0,1,27,2] (fun (k6006:Nat) (s6002:(List Q0))=>[(8,.sl 6 1 (s6002).length),(49,eI (k6006:Int))]) (fun k6006 s6002=>[(1,some ⟨6,(List.map Z0 s6002),0,0x0064⟩)]) (fun k6006 s6002=>.o (.g [7,8,10,12,13,33,34,35,41,42,43,47,48,49] [0,1,2,28,52,3] [] [] (.o (.o (.dz [0,1,3,2,4,5,6,7] [2,3] [1048634] [] (.o (.pF 2097160 .z))))))) (fun s6010=>.z)))) (fun s5940=>.z)))))) (fun s5022=>.z))))))))
instance W8m:∀ (n:Nat) (p0:(List Q1)) (p1:Q2),Ct (Q5l n p0 p1) fun res=>Z2 Tryz.prog 0o00147 [(.slice 2 (List.map Q7 p0)),(.agg (W4 p1))] (fun d=>d=(.slice 4 (List.map Q48 res))):=
 au Tryz.func103 Q5l.eq_1 (.o (.o (.o (.pN 5 4 0x0057 (.ls 0 (.f [5] [48] [3,5,8,9,10] [0,48] (fun (k66:Nat) (s62:(List V5))=>[(5,.sl 4 48 (s62).length),(10,eI (k66:Int))]) (fun k66 s62=>[(48,some ⟨4,(List.map Q48 s62),0,0x0057⟩)]) (fun k66 s62=>.o (.g [3,5,7,8,9,10] [0,1,26] [] [] (.o (.o (.o (.d [0,1,2,3,4,5,6,7,8,9,10,11] [0,2] [] .z)))))) (fun s70=>.z)))))))
instance X86:∀ (p0:Q2q) (p1:(List V5)),Ct (Q1z p0 p1) fun res=>Z2 Tryz.prog 0o00150 [(.agg (Q6y p0)),(.slice 4 (List.map Q48 p1))] (fun d=>d=(eB res)):=
 au Tryz.func104 Q1z.eq_1 .z
instance W4d:∀ (p0:Int) (p1:Int) (p2:Int) (p3:Q2),Ct (Q6m p0 p1 p2 p3) fun res=>Z2 Tryz.prog 0o00145 [(eI p0),(eI p1),(eI p2),(.agg (W4 p3))] (fun d=>d=(eB res)):=
 au Tryz.func101 Q6m.eq_1 .z
instance X61:∀ (p0:(List Q1)) (p1:(List Q1)),Ct (Q1j p0 p1) fun res=>Z2 Tryz.prog 0o00320 [(.slice 2 (List.map Q7 p0)),(.slice 2 (List.map Q7 p1))] (fun d=>d=(eB res)):=
 au Tryz.func208 Q1j.eq_1 (.o (.o (.i .z (.ls 0 (.f [] [] [0,1,5] [] (fun (k162:Nat) (s158:Unit)=>[(5,eI (k162:Int))]) (fun k162 s158=>[]) (fun k162 s158=>.o (.g [0,1,5] [] [] [] (.o (.i (.d [0,1,2,3,4,5,6,7,8,9,10,11,12,13,14,15,16,17,18,19,20,21,22,23,24] [] [] .z) (.o (.d [0,1,2,3,4,5,6,7,8,9,10,11,12,13,14,15,16,17,18,19,20,21,22,23,24] [] [] .z)))))) (fun s166=>.z))))))
instance W1n:∀ (n:Nat) (p0:(List Q1)) (p1:Q2),Ct (Q37 n p0 p1) fun res=>Z2 Tryz.prog 0o00155 [(.slice 2 (List.map Q7 p0)),(.agg (W4 p1))] (fun d=>d=(.slice 4 (List.map Q48 res))):=
 au Tryz.func109 Q37.eq_1 (.o (.o (.o (.ls 0 (.f [5] [16] [0,3,5,6] [0,16] (fun (k66:Nat) (s62:(List V5))=>[(5,.sl 4 16 (s62).length),(6,eI (k66:Int))]) (fun k66 s62=>[(16,some ⟨4,(List.map Q48 s62),0,0x0057⟩)]) (fun k66 s62=>.o (.g [0,3,5,6] [0,1] [] [] (.o (.o (.o (.d [0,1,2,3,4,5,6,7,8,9,10,11,12,13,14,15,16,17] [0] [] .z)))))) (fun s70=>.z))))))
end Go.Proofs.YtfhpjeogjcfkaaaGreat
