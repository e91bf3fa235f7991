import Derived.Test.YtjgapphpbkapmaaGreatJC0a0
import Derived.Test.YtjgapphpbkapmaaGreatJC0c0
import Derived.Test.YtjgapphpbkapmaaGreatJC0b0
import Derived.Test.YtjgapphpbkapmaaGreatJC0d0
set_option linter.unusedSimpArgs false
set_option linter.unusedVariables false
namespace Go.Proofs.YtjgapphpbkapmaaGreat
open Go Go.RowKit
set_option maxRecDepth 100000
set_option maxHeartbeats 20000000
instance W6u:∀ (n:Nat) (p0:Int),Ct (Q9g n p0) fun res=>Z2 Tryz.prog 0o00463 [(eI p0)] (fun d=>d=(eS res)):=
 au Tryz.func307 Q9g.eq_1 .z
instance W9a:∀ (p0:(List Q3)) (p1:Q4) (p2:Int),Ct (Q0h p0 p1 p2) fun res=>Z2 Tryz.prog 0o00262 [(.slice 2 (List.map W2 p0)),(.agg (W0 p1)),(eI p2)] (fun d=>d=(.slice 2 (List.map W0 res))):=
 au Tryz.func178 Q0h.eq_1 (.o (.o (.o (.o (.b fun (x2:Q7r)=>.lc 104 1 2 W0 x2.args (.f [7] [16] [4,7,8,9] [0,16,104] (fun (k118:Nat) (s114:(List Q4))=>[(7,.sl 2 16 (s114).length),(9,eI (k118:Int))]) (fun k118 s114=>[(16,some ⟨2,(List.map W0 s114),0,0x0019⟩)]) (fun k118 s114=>.b fun (x119:Q4)=>.j 7 0 [4,7,8,9,10] [0,1,2,83] (fun (s133:Int)=>[]) (fun s133=>[(83,some ⟨2,[[(eI x119.data),(eI s133)]],0,0x0019⟩)]) .z (fun _=>.z)) (fun s122=>.z)))))))
instance Z95:∀ (p0:(List Q4)) (p1:(Q4→Option Bool)) {p1_f:FuncId} {p1_c:List D} [p1_i:CF1 (fun a0=>(.agg (W0 a0))) (fun r=>(eB r)) p1 p1_f p1_c],Ct (Q07 p0 p1) fun res=>Z2 Tryz.prog 0o00237 [(.slice 2 (List.map W0 p0)),.clos p1_f p1_c] (fun d=>d=(eB res)):=
 au Tryz.func159 Q07.eq_1 .z
instance Z6a:∀ (p0:(List Z1)) (p1:(Z1→Option Bool)) {p1_f:FuncId} {p1_c:List D} [p1_i:CF1 (fun a0=>(.agg (Y2 a0))) (fun r=>(eB r)) p1 p1_f p1_c],Ct (Q14 p0 p1) fun res=>Z2 Tryz.prog 0o00447 [(.slice 3 (List.map Y2 p0)),.clos p1_f p1_c] (fun d=>d=(eB res)):=
 au Tryz.func295 Q14.eq_1 .z
instance X2t:∀ (p0:(List (List Z5))),Ct (Q1t p0) fun res=>Z2 Tryz.prog 0o00200 [(.slice 1 (List.map (rL 3 Q1e) p0))] (fun d=>d=(.slice 3 (List.map Q1e res))):=
 au Tryz.func128 Q1t.eq_1 (.o (.ls 0 (.f [0,3] [] [0,3,9,10,11] [] (fun (k46:Nat) (s42:Int)=>[(3,eI s42),(11,eI (k46:Int))]) (fun k46 s42=>[]) (fun k46 s42=>.z) (fun s50=>.o (.ls 0 (.f [6] [9] [6,25,26,27] [9] (fun (k99:Nat) (s95:(List Z5))=>[(6,.sl 3 9 (s95).length),(27,eI (k99:Int))]) (fun k99 s95=>[(9,some ⟨3,(List.map Q1e s95),0,0x006b⟩)]) (fun k99 s95=>.z) (fun s103=>.z)))))))
instance W0y:∀ (p0:Int) (p1:Int),Ct (Q1a p0 p1) fun res=>Z2 Tryz.prog 0o00133 [(eI p0),(eI p1)] (fun d=>d=(eI res)):=
 au Tryz.func91 Q1a.eq_1 .z
instance Z4o:∀ (n:Nat) (p0:(List Q2)) (p1:Int) (p2:Int) (p3:Int) (p4:(Q2→Q2→Option Int)) {p4_f:FuncId} {p4_c:List D} [p4_i:CF2 (fun a0=>(.agg (Z3 a0))) (fun a1=>(.agg (Z3 a1))) (fun r=>(eI r)) p4 p4_f p4_c],Ct (Q0m n p0 p1 p2 p3 p4) fun res=>J0 Tryz.prog 0o00245 [⟨2,List.map Z3 p0,0,0x008b⟩] [.sl 2 0 p0.length,(eI p1),(eI p2),(eI p3),.clos p4_f p4_c] (fun H d=>H=[some ⟨2,List.map Z3 res,0,0x008b⟩]∧d=.tup []):=
 ar (au Tryz.func165 Q0m.eq_2 (.o (.o (.o (.o (.o (.o (.o (.o (.o (.o (.w [] [0] [0,1,2,3,4,10,11] [0] (fun (s10:Unit)=>[]) (fun s10=>[]) (fun s10=>.z) (fun s18=>.z)))))))))))))
instance W9d:∀ (n:Nat) (p0:(List Q6)) (p1:X9) (p2:Q1),Ct (Q6v n p0 p1 p2) fun res=>Z2 Tryz.prog 0o00112 [(.slice 9 (List.map V1 p0)),(.agg (Q2s p1)),(.agg (X1 p2))] (fun d=>d=.tup [(eI res.1),(.slice 1 (List.map rI res.2.1)),(eB res.2.2.1),(.slice 1 (List.map (rL 1 rI) res.2.2.2))]):=
 au Tryz.func74 Q6v.eq_1 (.o (.o (.o (.o (.w [10] [48] [0,4,5,10] [0,8,48] (fun (s66:X9×(List (List Int)))=>[(10,.sl 1 48 (s66.2).length)]) (fun s66=>[(0,some ⟨6,[(Q2s s66.1)],0,0x0030⟩),(48,some ⟨1,(List.map (rL 1 rI) s66.2),0,0x002c⟩)]) (fun s66=>.i (.i (.o (.i (.g [4,10] [0,2] [] [] (.d [0,1,2,3,4,5,6] [0] [] .z)) .z)) .z) .z) (fun s74=>.z))))))
instance V37:∀ (p0:(List Q3)) (p1:Q4),Ct (Q8n p0 p1) fun res=>Z2 Tryz.prog 0o00340 [(.slice 2 (List.map W2 p0)),(.agg (W0 p1))] (fun d=>d=(eB res)):=
 au Tryz.func224 Q8n.eq_1 .z
instance W6k:∀ (n:Nat) (p0:Q0),Ct (Q0d n p0) fun res=>J0 Tryz.prog 0o00141 [] [(.agg (Z0 p0))] (fun H d=>H=[some ⟨6,List.map Z0 res,0,0x0060⟩]∧d=.sl 6 0 res.length):=
 ar (au Tryz.func97 Q0d.eq_2 (.o (.o (.b fun (p0:Q0)=>.i (.g [1] [0] [] [] (.o (.o (.o (.o (.b fun (x16:(List Q0))=>.d [0,1,2,3,5,6,7,8,4,9,10,11] [0] [] (.i (.gr 4 [3] [17] [(3,.sl 6 17 (x16).length)] [(17,some ⟨6,(List.map Z0 x16),0,0x0060⟩)] (.b fun (x20:(List Q0))=>.pS 0 401 Z0 x20 .z)) .z))))))) (.lc 0 5 6 Z0 p0.kids (.f [1,4] [0,40] [1,4,5] [0,40] (fun (k76:Nat) (s72:(List (List Q0)))=>[(4,.sl 1 40 (s72).length),(5,eI (k76:Int))]) (fun k76 s72=>[(40,some ⟨1,(List.map (rL 6 Z0) s72),0,0x005e⟩)]) (fun k76 s72=>.o (.o (.o (.pF 91 .z)))) (fun s80=>.o (.ls 48 (.f [7] [26] [1,6,7,8] [0,26] (fun (k131:Nat) (s127:(List Q0))=>[(7,.sl 6 26 (s127).length),(8,eI (k131:Int))]) (fun k131 s127=>[(26,some ⟨6,(List.map Z0 s127),0,0x0060⟩)]) (fun k131 s127=>.z) (fun s135=>.z))))))))))
end Go.Proofs.YtjgapphpbkapmaaGreat
