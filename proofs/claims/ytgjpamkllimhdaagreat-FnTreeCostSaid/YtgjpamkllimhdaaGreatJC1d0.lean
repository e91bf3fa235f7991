import Derived.Test.YtgjpamkllimhdaaGreatJC0b0
import Derived.Test.YtgjpamkllimhdaaGreatJC0d0
import Derived.Test.YtgjpamkllimhdaaGreatJC0c0
import Derived.Test.YtgjpamkllimhdaaGreatJC0a0
set_option linter.unusedSimpArgs false
set_option linter.unusedVariables false
namespace Go.Proofs.YtgjpamkllimhdaaGreat
open Go Go.RowKit
set_option maxRecDepth 100000
set_option maxHeartbeats 20000000
instance W16:∀ (p0:(List ByteArray)) (p1:ByteArray),Ct (Q7i p0 p1) fun res=>Z1 Tryz.prog 0o00351 [(.slice 1 (List.map rS p0)),(eS p1)] (fun d=>d=(.agg (W0 res))):=
 au Tryz.func233 Q7i.eq_1 (.o (.o (.i .z (.o (.b fun (r4:(Int))=>.j 4 0 [4,5] [0,64] (fun (s18:Int)=>[]) (fun s18=>[(64,some ⟨2,[[(eI r4),(eI s18)]],0,0x0019⟩)]) .z (fun _=>.z))))))
instance X1f:∀ (p0:(List Z2)) (p1:Z2),Ct (Q0j p0 p1) fun res=>Z1 Tryz.prog 0o00307 [(.slice 3 (List.map Y7 p0)),(.agg (Y7 p1))] (fun d=>d=(eB res)):=
 au Tryz.func199 Q0j.eq_1 .z
instance X14:∀ (p0:(List Q6)) (p1:(Q6→Option Bool)) {p1_f:FuncId} {p1_c:List D} [p1_i:CF1 (fun a0=>(.agg (W0 a0))) (fun r=>(eB r)) p1 p1_f p1_c],Ct (Q0d p0 p1) fun res=>Z1 Tryz.prog 0o00214 [(.slice 2 (List.map W0 p0)),.clos p1_f p1_c] (fun d=>d=(eB res)):=
 au Tryz.func140 Q0d.eq_1 .z
instance W57:∀ (n:Nat) (p0:ByteArray),Ct (Q8l n p0) fun res=>Z1 Tryz.prog 0o00323 [(eS p0)] (fun d=>d=(eB res)):=
 au Tryz.func211 Q8l.eq_1 (.o (.o (.o (.i .z (.o (.i .z (.i .z (.w [] [] [0,3] [] (fun (s132:Int)=>[(3,eI s132)]) (fun s132=>[]) (fun s132=>.z) (fun s140=>.z)))))))))
instance Z5t:∀ (n:Nat) (p0:(List Q2)) (p1:Int) (p2:Int) (p3:Int) (p4:(Q2→Q2→Option Int)) {p4_f:FuncId} {p4_c:List D} [p4_i:CF2 (fun a0=>(.agg (Z0 a0))) (fun a1=>(.agg (Z0 a1))) (fun r=>(eI r)) p4 p4_f p4_c],Ct (Q0r n p0 p1 p2 p3 p4) fun res=>Y8 Tryz.prog 0o00155 [⟨2,List.map Z0 p0,0,0x0069⟩] [.sl 2 0 p0.length,(eI p1),(eI p2),(eI p3),.clos p4_f p4_c] (fun H d=>H=[some ⟨2,List.map Z0 res,0,0x0069⟩]∧d=.tup []):=
 ar (au Tryz.func109 Q0r.eq_2 (.o (.o (.o (.o (.o (.o (.o (.o (.o (.o (.w [] [0] [0,1,2,3,4,10,11] [0] (fun (s10:Unit)=>[]) (fun s10=>[]) (fun s10=>.z) (fun s18=>.z)))))))))))))
instance W7g:∀ (p0:Int),Ct (Q7l p0) fun res=>Z1 Tryz.prog 0o00156 [(.val (.int .u64 p0))] (fun d=>d=(eI res)):=
 au Tryz.func110 Q7l.eq_1 .z
instance W9d:∀ (n:Nat) (p0:Q0),Ct (Y5 n p0) fun res=>Y8 Tryz.prog 0o00110 [] [(.agg (Q9 p0))] (fun H d=>H=[some ⟨6,List.map Q9 res,0,0x0046⟩]∧d=.sl 6 0 res.length):=
 ar (au Tryz.func72 Y5.eq_2 (.o (.o (.b fun (p0:Q0)=>.i (.g [1] [0] [] [] (.o (.o (.o (.o (.b fun (x16:(List Q0))=>.d [0,1,2,3,5,6,7,8,4,9,10,11] [0] [] (.i (.gr 4 [3] [17] [(3,.sl 6 17 (x16).length)] [(17,some ⟨6,(List.map Q9 x16),0,0x0046⟩)] (.b fun (x20:(List Q0))=>.pS 0 401 Q9 x20 .z)) .z))))))) (.lc 0 5 6 Q9 p0.kids (.f [1,4] [0,40] [1,4,5] [0,40] (fun (k76:Nat) (s72:(List (List Q0)))=>[(4,.sl 1 40 (s72).length),(5,eI (k76:Int))]) (fun k76 s72=>[(40,some ⟨1,(List.map (rL 6 Q9) s72),0,0x0044⟩)]) (fun k76 s72=>.o (.o (.o (.pF 91 .z)))) (fun s80=>.o (.ls 48 (.f [7] [26] [1,6,7,8] [0,26] (fun (k131:Nat) (s127:(List Q0))=>[(7,.sl 6 26 (s127).length),(8,eI (k131:Int))]) (fun k131 s127=>[(26,some ⟨6,(List.map Q9 s127),0,0x0046⟩)]) (fun k131 s127=>.z) (fun s135=>.z))))))))))
instance W92:∀ (n:Nat) (p0:(List X0)) (p1:Q0) (p2:(List Int)),Ct (Q3z n p0 p1 p2) fun res=>Y8 Tryz.prog 0o00170 [⟨8,List.map Q21 p0,0,0x0038⟩] [.sl 8 0 p0.length,(.agg (Q9 p1)),(.slice 1 (List.map rI p2))] (fun H d=>H=[none,some ⟨8,List.map Q21 res,0,0x0038⟩]∧d=.sl 8 1 res.length):=
 ar (au Tryz.func120 Q3z.eq_2 (.o (.o (.o (.b fun (p1:Q0)=>.o (.j 1 0 [0] [0,9000] (fun (s42:(List X0))=>[(0,.sl 8 9000 (s42).length)]) (fun s42=>[(0,none),(9000,some ⟨8,(List.map Q21 s42),0,0x0038⟩)]) (.i .z (.i (.g [0,2,4] [0,1] [] [] (.o (.o (.d [0,2,4,5,6,7,1,3,8,9,10,11] [1] [] (.pF 10 .z))))) (.i (.g [0,2,4] [0,1] [] [] (.o (.o (.d [0,2,4,5,1,3,6,7,8,9] [1] [] (.pF 10 (.lc 1 5 6 Q9 p1.kids (.f [0] [0,26] [0,2,4,7] [0,26,1] (fun (k77:Nat) (s73:(List X0))=>[(0,.sl 8 26 (s73).length),(7,eI (k77:Int))]) (fun k77 s73=>[(0,none),(26,some ⟨8,(List.map Q21 s73),0,0x0038⟩)]) (fun k77 s73=>.o (.g [0,2,4,7] [0,1,2] [] [(0,none)] (.o (.o (.d [0,1,2,3,4,5,6,7,8,9,10] [2] [] .z))))) (fun s81=>.z)))))))) (.pM 0 .z)))) (fun _=>.z)))))))
instance W75:∀ (n:Nat) (p0:(List Q2)) (p1:Q1),Ct (Q32 n p0 p1) fun res=>Z1 Tryz.prog 0o00114 [(.slice 2 (List.map Z0 p0)),(.agg (X2 p1))] (fun d=>d=(.slice 4 (List.map Q5n res))):=
 au Tryz.func76 Q32.eq_1 (.o (.o (.o (.ls 0 (.f [5] [16] [0,3,5,6] [0,16] (fun (k66:Nat) (s62:(List W9))=>[(5,.sl 4 16 (s62).length),(6,eI (k66:Int))]) (fun k66 s62=>[(16,some ⟨4,(List.map Q5n s62),0,0x0090⟩)]) (fun k66 s62=>.o (.g [0,3,5,6] [0,1] [] [] (.o (.o (.o (.d [0,1,2,3,4,5,6,7,8,9,10,11,12,13,14,15,16,17] [0] [] .z)))))) (fun s70=>.z))))))
instance X81:∀ (p0:(List Int)) (p1:(List Q4)) (p2:Q6) (p3:Int),Ct (Q11 p0 p1 p2 p3) fun res=>Z1 Tryz.prog 0o00255 [.cptr (List.map cI p0),(.slice 2 (List.map W1 p1)),(.agg (W0 p2)),(eI p3)] (fun d=>d=(eI res)):=
 au Tryz.func173 Q11.eq_1 (.o (.o (.o (.o (.o (.ls 16 (.f [9] [] [0,9,16,17,18] [] (fun (k68:Nat) (s64:Int)=>[(9,eI s64),(18,eI (k68:Int))]) (fun k68 s64=>[]) (fun k68 s64=>.z) (fun s72=>.z))))))))
end Go.Proofs.YtgjpamkllimhdaaGreat
