import Derived.Test.YtjgapphpbkapmaaGreatNJC0b0
import Derived.Test.YtjgapphpbkapmaaGreatNJC0c0
import Derived.Test.YtjgapphpbkapmaaGreatNJC0a0
import Derived.Test.YtjgapphpbkapmaaGreatNJC0d0
set_option linter.unusedSimpArgs false
set_option linter.unusedVariables false
namespace Go.Proofs.YtjgapphpbkapmaaGreat
open Go Go.RowKit
set_option maxRecDepth 100000
set_option maxHeartbeats 20000000
instance W5t:∀ (p0:Int),Ct (Q51 p0) fun res=>Z1 Tryz.prog 0o00446 [(eI p0)] (fun d=>d=(eB res)):=
 au Tryz.func294 Q51.eq_1 .z
instance X05:∀ (p0:(List Int)) (p1:Int),Ct (J4 p0 p1) fun res=>Z1 Tryz.prog 0o00230 [(.slice 1 (List.map rI p0)),(eI p1)] (fun d=>d=(eB res)):=
 au Tryz.func152 J4.eq_1 .z
instance Z3c:∀ (p0:(List Q6)) (p1:(Q6→Option Bool)) {p1_f:FuncId} {p1_c:List D} [p1_i:CF1 (fun a0=>(.agg (V1 a0))) (fun r=>(eB r)) p1 p1_f p1_c],Ct (Q0i p0 p1) fun res=>Z1 Tryz.prog 0o00447 [(.slice 3 (List.map V1 p0)),.clos p1_f p1_c] (fun d=>d=(eB res)):=
 au Tryz.func295 Q0i.eq_1 .z
instance X19:∀ (p0:(List Int)) (p1:(List Q3)) (p2:Q5) (p3:Int),Ct (Q0d p0 p1 p2 p3) fun res=>Z1 Tryz.prog 0o00276 [.cptr (List.map cI p0),(.slice 2 (List.map W2 p1)),(.agg (W1 p2)),(eI p3)] (fun d=>d=(eI res)):=
 au Tryz.func190 Q0d.eq_1 (.o (.o (.o (.o (.o (.ls 16 (.f [9] [] [0,9,16,17,18] [] (fun (k68:Nat) (s64:Int)=>[(9,eI s64),(18,eI (k68:Int))]) (fun k68 s64=>[]) (fun k68 s64=>.z) (fun s72=>.z))))))))
instance X5u:∀ (p0:Int) (p1:Int),Ct (Q31 p0 p1) fun res=>Z1 Tryz.prog 0o00133 [(eI p0),(eI p1)] (fun d=>d=(eI res)):=
 au Tryz.func91 Q31.eq_1 .z
instance W1h:∀ (n:Nat) (p0:Int),Ct (Q7n n p0) fun res=>Z1 Tryz.prog 0o00463 [(eI p0)] (fun d=>d=(eS res)):=
 au Tryz.func307 Q7n.eq_1 .z
instance W1j:∀ (p0:(List Q3)) (p1:Q5),Ct (Q0a p0 p1) fun res=>Z1 Tryz.prog 0o00261 [(.slice 2 (List.map W2 p0)),(.agg (W1 p1))] (fun d=>d=(.slice 1 (List.map rI res))):=
 au Tryz.func177 Q0a.eq_1 (.o (.o (.i .z (.b fun (x115:Q3)=>.le 0 1 3 Q57 x115.ctors x115 (.f [5] [16] [0,3,5,6] [0,16] (fun (k149:Nat) (s145:(List Int))=>[(5,.sl 1 16 (s145).length),(6,eI (k149:Int))]) (fun k149 s145=>[(16,some ⟨1,(List.map rI s145),0,0x0003⟩)]) (fun k149 s145=>.o (.j 7 0 [0,3,5,6] [0,1] (fun (s157:(List Int))=>[(5,.sl 1 1 (s157).length)]) (fun s157=>[(1,some ⟨1,(List.map rI s157),0,0x0003⟩)]) (.g [0,3,5,6] [0,1] [] [] (.o (.d [0,1,2,3,4,5,6,7,8,9,10,11] [0] [] .z))) (fun _=>.z))) (fun s153=>.z))))))
instance W3u:∀ (n:Nat) (p0:(List Z0)) (p1:X7) (p2:Z2),Ct (Q5h n p0 p1 p2) fun res=>Z1 Tryz.prog 0o00112 [(.slice 9 (List.map V6 p0)),(.agg (Q22 p1)),(.agg (V2 p2))] (fun d=>d=.tup [(eI res.1),(.slice 1 (List.map rI res.2.1)),(eB res.2.2.1),(.slice 1 (List.map (rL 1 rI) res.2.2.2))]):=
 au Tryz.func74 Q5h.eq_1 (.o (.o (.o (.o (.w [10] [48] [0,4,5,10] [0,8,48] (fun (s66:X7×(List (List Int)))=>[(10,.sl 1 48 (s66.2).length)]) (fun s66=>[(0,some ⟨6,[(Q22 s66.1)],0,0x0030⟩),(48,some ⟨1,(List.map (rL 1 rI) s66.2),0,0x002c⟩)]) (fun s66=>.i (.i (.o (.i (.g [4,10] [0,2] [] [] (.d [0,1,2,3,4,5,6] [0] [] .z)) .z)) .z) .z) (fun s74=>.z))))))
instance W15:∀ (p0:Q20) (p1:(List Q6)),Ct (Q3l p0 p1) fun res=>Z1 Tryz.prog 0o00342 [(.agg (Q5p p0)),(.slice 3 (List.map V1 p1))] (fun d=>d=(eB res)):=
 au Tryz.func226 Q3l.eq_1 (.o (.o (.i .z (.j 3 0 [1,2] [0] (fun (s23:Unit)=>[]) (fun _=>[]) .z (fun _=>.z)))))
instance W17:∀ (n:Nat) (p0:Q0),Ct (Q01 n p0) fun res=>J2 Tryz.prog 0o00141 [] [(.agg (Q7 p0))] (fun H d=>H=[some ⟨6,List.map Q7 res,0,0x0060⟩]∧d=.sl 6 0 res.length):=
 ar (au Tryz.func97 Q01.eq_2 (.o (.o (.b fun (p0:Q0)=>.i (.g [1] [0] [] [] (.o (.o (.o (.o (.b fun (x16:(List Q0))=>.d [0,1,2,3,5,6,7,8,4,9,10,11] [0] [] (.i (.gr 4 [3] [17] [(3,.sl 6 17 (x16).length)] [(17,some ⟨6,(List.map Q7 x16),0,0x0060⟩)] (.b fun (x20:(List Q0))=>.pS 0 401 Q7 x20 .z)) .z))))))) (.lc 0 5 6 Q7 p0.kids (.f [1,4] [0,40] [1,4,5] [0,40] (fun (k76:Nat) (s72:(List (List Q0)))=>[(4,.sl 1 40 (s72).length),(5,eI (k76:Int))]) (fun k76 s72=>[(40,some ⟨1,(List.map (rL 6 Q7) s72),0,0x005e⟩)]) (fun k76 s72=>.o (.o (.o (.pF 91 .z)))) (fun s80=>.o (.ls 48 (.f [7] [26] [1,6,7,8] [0,26] (fun (k131:Nat) (s127:(List Q0))=>[(7,.sl 6 26 (s127).length),(8,eI (k131:Int))]) (fun k131 s127=>[(26,some ⟨6,(List.map Q7 s127),0,0x0060⟩)]) (fun k131 s127=>.z) (fun s135=>.z))))))))))
end Go.Proofs.YtjgapphpbkapmaaGreat
