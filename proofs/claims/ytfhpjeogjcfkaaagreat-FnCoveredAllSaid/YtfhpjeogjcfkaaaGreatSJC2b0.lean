import Derived.Test.YtfhpjeogjcfkaaaGreatSJC1b0
import Derived.Test.YtfhpjeogjcfkaaaGreatSJC1d0
import Derived.Test.YtfhpjeogjcfkaaaGreatSJC1c0
import Derived.Test.YtfhpjeogjcfkaaaGreatSJC1a0
set_option linter.unusedSimpArgs false
set_option linter.unusedVariables false
namespace Go.Proofs.YtfhpjeogjcfkaaaGreat
open Go Go.RowKit
set_option maxRecDepth 100000
set_option maxHeartbeats 20000000
instance V0y:∀ (p0:(List Q4)) (p1:Q1) (p2:Q0),Ct (Q6c p0 p1 p2) fun res=>Q6 Tryz.prog 0o00440 [(.slice 2 (List.map Z8 p0)),(.agg (Z2 p1)),(.agg (Q2 p2))] (fun d=>d=.tup [(.slice 2 (List.map Z2 res.1)),(eB res.2)]):=
 au Tryz.func288 Q6c.eq_1 (.o (.o (.o (.i .z (.i .z (.i (.g [4,5] [0,8] [] [] (.i (.o (.i (.i (.i (.d [0,1,2,3,4,5,6,7,8,9,10,11,12,13,14,15,16,17,18,19,20,21,22,23,24,25] [0,1] [] .z) (.d [0,1,2,3,4,5,6,7,8,9,10,11,12,13,14,15,16,17,18,19,20,21,22,23,24,25] [0,1] [] .z)) (.d [0,1,2,3,4,5,6,7,8,9,10,11,12,13,14,15,16,17,18,19,20,21,22,23,24,25] [0,1] [] .z)) (.d [0,1,2,3,4,5,6,7,8,9,10,11,12,13,14,15,16,17,18,19,20,21,22,23,24,25] [0,1] [] .z))) (.d [0,1,2,3,4,5,6,7,8,9,10,11,12,13,14,15,16,17,18,19,20,21,22,23,24,25] [0] [] .z))) (.i (.g [0,4,5] [0,8] [] [] (.o (.o (.d [0,1,3,4,2,5,6] [0,1] [] .z)))) (.i (.g [4,5] [0,8] [] [] (.o (.dz [0,1,3,4,2,5,6] [0,1] [1048649] [] .z))) (.i (.g [4,5] [0,8] [] [] (.o (.i (.o (.dz [0,2,3,4,5,6,7,8,1,9,10] [0,1] [1048655] [] .z)) (.dz [0,2,3,4,5,6,7,8,1,9,10] [0,1] [1048655] [] .z)))) .z)))))))))
instance W0i:∀ (p0:Q9) (q0:(List Q9)),Ct (Q5r p0 q0) fun res=>Q6 Tryz.prog 0o00536 [(.agg (V0 p0)),.cptr [(.slice 3 (List.map V0 q0))]] (fun d=>d=(eB res)):=
 au Tryz.func350 Q5r.eq_1 .z
instance W6t:∀ (p0:Q34) (p1:(List Q9)),Ct (Q65 p0 p1) fun res=>Q6 Tryz.prog 0o00312 [(.agg (Q7f p0)),(.slice 3 (List.map V0 p1))] (fun d=>d=(eB res)):=
 au Tryz.func202 Q65.eq_1 .z
instance V11:∀ (n:Nat) (p0:(List Q4)) (p1:(List Int)) (p2:Q1),Ct (Q5e n p0 p1 p2) fun res=>Q6 Tryz.prog 0o00350 [(.slice 2 (List.map Z8 p0)),.cptr (List.map cI p1),(.agg (Z2 p2))] (fun d=>d=(.agg (Z5 res))):=
 ar (au Tryz.func232 Q5e.eq_2 (.o (.o (.o (.o (.o (.i .z (.o (.ls 18 (.f [6] [8] [0,1,5,6,18,19,20] [0,8] (fun (k775:Nat) (s771:Unit)=>[(20,eI (k775:Int))]) (fun k775 s771=>[]) (fun k775 s771=>.b fun (x776:Int)=>.j 5 0 [0,1,5,6,18,19,20] [0,1] (fun (s852:Unit)=>[]) (fun _=>[]) (.g [0,1,5,6,8,18,19,20] [0,1] [] [] (.o (.o (.d [0,1,2,3,5,6,4,7,8] [0] [] (.i .z (.o (.pC 34 2 3 0x001d (.ls 38 (.f [6,9] [1,34,98] [0,1,6,9,38,39,40] [1,34,98] (fun (k918:Nat) (s914:(List Q3))=>[(40,eI (k918:Int))]) (fun k918 s914=>[(1000000034,some ⟨3,[[(eI x776),(eI 0),(.sl 3 98 (s914).length)]],0,0x001d⟩),(98,some ⟨3,(List.map Z5 s914),0,0x001d⟩)]) (fun k918 s914=>.o (.g [0,1,6,9,11,38,39,40] [0,1,2,27] [] [(1000000001,some ⟨3,[[(eI x776),(eI 0),(.sl 3 2 (s914).length)]],0,0x001d⟩)] (.o (.o (.d [0,1,2,3,4,5,6,7,8,9] [1,3] [52] .z))))) (fun s922=>.z)))))))))) (fun _=>.z)) (fun s779=>.z)))))))))))
instance X25:∀ (n:Nat) (p0:(List X3)) (p1:(X3→X3→Option Int)) {p1_f:FuncId} {p1_c:List D} [p1_i:CF2 (fun a0=>(.agg (Q11 a0))) (fun a1=>(.agg (Q11 a1))) (fun r=>(eI r)) p1 p1_f p1_c],Ct (Q0w n p0 p1) fun res=>Q19 Tryz.prog 0o00314 [⟨4,List.map Q11 p0,0,0x0057⟩] [.sl 4 0 p0.length,.clos p1_f p1_c] (fun H d=>H=[some ⟨4,List.map Q11 res,0,0x0057⟩]∧d=.tup []):=
 au Tryz.func204 Q0w.eq_1 .z
instance W66:∀ (n:Nat) (p0:(List Q4)) (p1:(List Int)) (p2:Q1) (p3:Q0),Ct (Q0m n p0 p1 p2 p3) fun res=>Q6 Tryz.prog 0o00510 [(.slice 2 (List.map Z8 p0)),(.slice 1 (List.map rI p1)),(.agg (Z2 p2)),(.agg (Q2 p3))] (fun d=>d=(eB res)):=
 ar (au Tryz.func328 Q0m.eq_2 (.o (.o (.o (.o (.o (.o (.i .z (.i .z (.o (.ls 25 (.f [] [] [0,1,7,9,10] [8] (fun (k71:Nat) (s67:Unit)=>[(10,eI (k71:Int))]) (fun k71 s67=>[]) (fun k71 s67=>.o (.g [0,1,7,9,10] [0] [] [] (.o (.o (.d [0,1,2,3,4,5,6,7,8,9,10,11,12] [0] [] .z))))) (fun s75=>.z)))))))))))))
instance X8p:∀ (n:Nat) (p0:(List ByteArray)) (p1:ByteArray),Ct (Q6n n p0 p1) fun res=>Q6 Tryz.prog 0o00530 [(.slice 1 (List.map rS p0)),(eS p1)] (fun d=>d=(.agg (Q6j res))):=
 au Tryz.func344 Q6n.eq_1 (.o (.o (.o (.j 2 0 [0,1,4,5] [0,16] (fun (s13:ByteArray×Int)=>[(1,eS s13.1)]) (fun s13=>[(16,some ⟨3,[[(eS ByteArray.empty),.nil,(eI s13.2)]],0,0x010e⟩)]) .z (fun s13=>.o (.b fun (x29:ByteArray)=>.i .z (.o (.i .z (.g [0,4,5,6] [0,1] [] [] (.o (.o (.d [0,1,2,3,4,5,6,7,8,9,10] [] [] (.pC 1 1 2 0x0019 (.ls 60 (.f [4,5] [0,1,18] [0,4,5,7,8] [0,1,18] (fun (k137:Nat) (s133:(List Q1))=>[(8,eI (k137:Int))]) (fun k137 s133=>[(1000000001,some ⟨3,[[(eS x29),(.sl 2 18 (s133).length),(eI s13.2)]],0,0x010e⟩),(18,some ⟨2,(List.map Z2 s133),0,0x0019⟩)]) (fun k137 s133=>.o (.i (.g [0,4,5,7,8] [0,1,2] [] [(1000000001,some ⟨3,[[(eS x29),(.sl 2 2 (s133).length),(eI s13.2)]],0,0x010e⟩)] (.o (.o (.d [0,1,2,3,4,5,6,7,8,9,10,11] [1] [81] .z)))) .z)) (fun s141=>.z))))))))))))))))
end Go.Proofs.YtfhpjeogjcfkaaaGreat
