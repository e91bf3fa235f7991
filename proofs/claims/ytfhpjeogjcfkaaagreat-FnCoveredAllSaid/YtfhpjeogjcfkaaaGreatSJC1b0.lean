import Derived.Test.YtfhpjeogjcfkaaaGreatSJC0a0
import Derived.Test.YtfhpjeogjcfkaaaGreatSJC0c0
import Derived.Test.YtfhpjeogjcfkaaaGreatSJC0b0
import Derived.Test.YtfhpjeogjcfkaaaGreatSJC0d0
set_option linter.unusedSimpArgs false
set_option linter.unusedVariables false
namespace Go.Proofs.YtfhpjeogjcfkaaaGreat
open Go Go.RowKit
set_option maxRecDepth 100000
set_option maxHeartbeats 20000000
instance V12:∀ (p0:Int),Ct (Q6d p0) fun res=>Q6 Tryz.prog 0o00516 [(eI p0)] (fun d=>d=(eB res)):=
 au Tryz.func334 Q6d.eq_1 .z
instance X19:∀ (p0:(List (List Q0))),Ct (Q02 p0) fun res=>Q6 Tryz.prog 0o00434 [(.slice 1 (List.map (rL 6 Q2) p0))] (fun d=>d=(.slice 6 (List.map Q2 res))):=
 au Tryz.func284 Q02.eq_1 (.o (.ls 0 (.f [0,3] [] [0,3,9,10,11] [] (fun (k46:Nat) (s42:Int)=>[(3,eI s42),(11,eI (k46:Int))]) (fun k46 s42=>[]) (fun k46 s42=>.z) (fun s50=>.o (.ls 0 (.f [6] [9] [6,25,26,27] [9] (fun (k99:Nat) (s95:(List Q0))=>[(6,.sl 6 9 (s95).length),(27,eI (k99:Int))]) (fun k99 s95=>[(9,some ⟨6,(List.map Q2 s95),0,0x0064⟩)]) (fun k99 s95=>.z) (fun s103=>.z)))))))
instance X8s:∀ (n:Nat) (p0:Q0s) (p1:Q1) (p2:Q0) (p3:Q0),Ct (W8 n p0 p1 p2 p3) fun res=>Q6 Tryz.prog 0o00435 [.cptr (Q1u p0),(.agg (Z2 p1)),(.agg (Q2 p2)),(.agg (Q2 p3))] (fun d=>d=.tup [(.agg (Q2 res.1)),(eB res.2)]):=
 ar (au Tryz.func285 W8.eq_2 (.o (.o (.o (.o (.b fun (p2:Q0)=>.o (.i .z (.i .z (.i .z (.i .z (.g [0,5,6,7,8,11] [0,8,16,24,208] [] [] (.o (.d [0,1,2,3,4,5,6,9,7,8] [0,1] [] (.pC 4 5 6 0x0064 (.ls 66 (.f [8,11] [3,4,13] [0,6,7,8,11,66,67,68] [1,2,3,4,13] (fun (k114:Nat) (s110:(List Q0))=>[(68,eI (k114:Int))]) (fun k114 s110=>[(1000000004,some ⟨6,[[(eI 4),(eI p2.ctor),(eI 0),(eI 0),(eI 0),(.sl 6 13 (s110).length)]],0,0x0064⟩),(13,some ⟨6,(List.map Q2 s110),0,0x0064⟩)]) (fun k114 s110=>.o (.g [0,6,7,8,11,12,13,66,67,68] [0,1,2,3,4,37] [] [(1000000003,some ⟨6,[[(eI 4),(eI p2.ctor),(eI 0),(eI 0),(eI 0),(.sl 6 4 (s110).length)]],0,0x0064⟩)] (.o (.o (.o (.dz [0,1,2,3,4,5,6,7,8,9,10,11,12,13,14,15,16,17,18] [0,1,5] [1048590] [] .z)))))) (fun s118=>.z)))))))))))))))))
instance X8v:∀ (n:Nat) (p0:(List Q0)),Ct (Q3j n p0) fun res=>Q6 Tryz.prog 0o00346 [(.slice 6 (List.map Q2 p0))] (fun d=>d=(.slice 6 (List.map Q2 res))):=
 au Tryz.func230 Q3j.eq_1 (.o (.o (.pN 3 6 0x0064 (.ls 0 (.f [3] [40] [3,6,7,8] [40] (fun (k56:Nat) (s52:(List Q0))=>[(3,.sl 6 40 (s52).length),(8,eI (k56:Int))]) (fun k56 s52=>[(40,some ⟨6,(List.map Q2 s52),0,0x0064⟩)]) (fun k56 s52=>.z) (fun s60=>.z))))))
instance Z8y:∀ (p0:(List Q1)) (p1:(Q1→Option Bool)) {p1_f:FuncId} {p1_c:List D} [p1_i:CF1 (fun a0=>(.agg (Z2 a0))) (fun r=>(eB r)) p1 p1_f p1_c],Ct (J9 p0 p1) fun res=>Q6 Tryz.prog 0o00264 [(.slice 2 (List.map Z2 p0)),.clos p1_f p1_c] (fun d=>d=(eB res)):=
 au Tryz.func180 J9.eq_1 .z
instance Z6a:∀ (n:Nat) (p0:(List X3)) (p1:Int) (p2:Int) (p3:Int) (p4:(X3→X3→Option Int)) {p4_f:FuncId} {p4_c:List D} [p4_i:CF2 (fun a0=>(.agg (Q11 a0))) (fun a1=>(.agg (Q11 a1))) (fun r=>(eI r)) p4 p4_f p4_c],Ct (Q1h n p0 p1 p2 p3 p4) fun res=>Q19 Tryz.prog 0o00414 [⟨4,List.map Q11 p0,0,0x0057⟩] [.sl 4 0 p0.length,(eI p1),(eI p2),(eI p3),.clos p4_f p4_c] (fun H d=>H=[some ⟨4,List.map Q11 res,0,0x0057⟩]∧d=.tup []):=
 ar (au Tryz.func268 Q1h.eq_2 (.o (.o (.o (.o (.o (.o (.o (.o (.o (.o (.w [] [0] [0,1,2,3,4,10,11] [0] (fun (s10:Unit)=>[]) (fun s10=>[]) (fun s10=>.z) (fun s18=>.z)))))))))))))
instance W0s:∀ (p0:Int) (p1:Int),Ct (Q49 p0 p1) fun res=>Q6 Tryz.prog 0o00143 [(eI p0),(eI p1)] (fun d=>d=(eI res)):=
 au Tryz.func99 Q49.eq_1 .z
instance W6e:∀ (p0:(List Q9)) (p1:(List Q9)),Ct (Q4z p0 p1) fun res=>Q6 Tryz.prog 0o00522 [(.slice 3 (List.map V0 p0)),(.slice 3 (List.map V0 p1))] (fun d=>d=(eB res)):=
 au Tryz.func338 Q4z.eq_1 (.o (.o (.ls 0 (.f [0,1] [] [0,1,5] [] (fun (k124:Nat) (s120:Unit)=>[(5,eI (k124:Int))]) (fun k124 s120=>[]) (fun k124 s120=>.o (.o (.g [0,1,5,6] [] [] [] (.i (.d [0,1,2,3,4,5,6,7,8,9,10,11,12,13,14] [] [] .z) (.o (.d [0,1,2,3,4,5,6,7,8,9,10,11,12,13,14] [] [] .z)))))) (fun s128=>.z)))))
instance W6a:∀ (n:Nat) (p0:Q0),Ct (Q1k n p0) fun res=>Q19 Tryz.prog 0o00151 [] [(.agg (Q2 p0))] (fun H d=>H=[some ⟨6,List.map Q2 res,0,0x0064⟩]∧d=.sl 6 0 res.length):=
 ar (au Tryz.func105 Q1k.eq_2 (.o (.o (.b fun (p0:Q0)=>.i (.g [1] [0] [] [] (.o (.o (.o (.o (.b fun (x16:(List Q0))=>.d [0,1,2,3,5,6,7,8,4,9,10,11] [0] [] (.i (.gr 4 [3] [17] [(3,.sl 6 17 (x16).length)] [(17,some ⟨6,(List.map Q2 x16),0,0x0064⟩)] (.b fun (x20:(List Q0))=>.pS 0 401 Q2 x20 .z)) .z))))))) (.lc 0 5 6 Q2 p0.kids (.f [1,4] [0,40] [1,4,5] [0,40] (fun (k76:Nat) (s72:(List (List Q0)))=>[(4,.sl 1 40 (s72).length),(5,eI (k76:Int))]) (fun k76 s72=>[(40,some ⟨1,(List.map (rL 6 Q2) s72),0,0x0062⟩)]) (fun k76 s72=>.o (.o (.o (.pF 91 .z)))) (fun s80=>.o (.ls 48 (.f [7] [26] [1,6,7,8] [0,26] (fun (k131:Nat) (s127:(List Q0))=>[(7,.sl 6 26 (s127).length),(8,eI (k131:Int))]) (fun k131 s127=>[(26,some ⟨6,(List.map Q2 s127),0,0x0064⟩)]) (fun k131 s127=>.z) (fun s135=>.z))))))))))
instance W28:∀ (n:Nat) (p0:Q3) (p1:Q3),Ct (Q06 n p0 p1) fun res=>Q6 Tryz.prog 0o00042 [(.agg (Z5 p0)),(.agg (Z5 p1))] (fun d=>d=(eB res)):=
 ar (au Tryz.func34 Q06.eq_2 .z)
end Go.Proofs.YtfhpjeogjcfkaaaGreat
