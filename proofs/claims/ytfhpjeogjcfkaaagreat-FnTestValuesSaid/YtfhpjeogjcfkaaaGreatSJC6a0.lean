import Derived.Test.YtfhpjeogjcfkaaaGreatSJC5d0
import Derived.Test.YtfhpjeogjcfkaaaGreatSJC5c0
import Derived.Test.YtfhpjeogjcfkaaaGreatSJC4a0
set_option linter.unusedSimpArgs false
set_option linter.unusedVariables false
namespace Go.Proofs.YtfhpjeogjcfkaaaGreat
open Go Go.RowKit
set_option maxRecDepth 100000
set_option maxHeartbeats 20000000
instance X28:∀ (n:Nat) (p0:Q0s) (p1:Q1) (p2:(List Q0)),Ct (Q0y n p0 p1 p2) fun res=>Q6 Tryz.prog 0o00240 [.cptr (Q1u p0),(.agg (Z2 p1)),(.slice 6 (List.map Q2 p2))] (fun d=>d=.tup [(.slice 6 (List.map Q2 res.1)),(eB res.2)]):=
 au Tryz.func160 Q0y.eq_1 (.o (.o (.o (.o (.pN 8 6 0x0064 (.ls 2 (.f [8] [56] [0,2,4,8,13,14,15] [0,56] (fun (k86:Nat) (s82:(List Q0))=>[(8,.sl 6 56 (s82).length),(15,eI (k86:Int))]) (fun k86 s82=>[(56,some ⟨6,(List.map Q2 s82),0,0x0064⟩)]) (fun k86 s82=>.o (.g [0,2,4,8,9,10,13,14,15] [0,1,34] [] [] (.o (.o (.d [0,1,2,4,5,6,3,7,8,9,10,11,12] [0,2] [] .z))))) (fun s90=>.z))))))))
instance X5e:∀ (n:Nat) (p0:Q0s) (p1:Q1) (p2:(List Q0)) (p3:Bool),Ct (Q1p n p0 p1 p2 p3) fun res=>Q6 Tryz.prog 0o00242 [.cptr (Q1u p0),(.agg (Z2 p1)),(.slice 6 (List.map Q2 p2)),(eB p3)] (fun d=>d=.tup [(.slice 6 (List.map Q2 res.1)),(eB res.2)]):=
 au Tryz.func162 Q1p.eq_1 .z
instance X6r:∀ (n:Nat) (p0:(List Q4)) (p1:Q1) (p2:(List Q5)),Ct (J2 n p0 p1 p2) fun res=>Q6 Tryz.prog 0o00064 [(.slice 2 (List.map Z8 p0)),(.agg (Z2 p1)),(.slice 9 (List.map X4 p2))] (fun d=>d=(eB res)):=
 au Tryz.func52 J2.eq_1 .z
instance X2b:∀ (n:Nat) (p0:(List Q4)) (p1:Q1) (p2:(List Q5)) (p3:Int),Ct (J3 n p0 p1 p2 p3) fun res=>Q6 Tryz.prog 0o00120 [(.slice 2 (List.map Z8 p0)),(.agg (Z2 p1)),(.slice 9 (List.map X4 p2)),(eI p3)] (fun d=>d=.tup [(.slice 6 (List.map Q2 res.1)),(eB res.2)]):=
 au Tryz.func80 J3.eq_1 (.o (.o (.o (.o (.o (.o (.i .z (.o (.i .z (.o (.o (.o (.o (.i .z (.i .z (.o (.o (.j 9 0 [5,14,15,16] [0] (fun (s41:(List Q0)×Bool)=>[(15,.slice 6 (List.map Q2 s41.1)),(16,eB s41.2)]) (fun _=>[]) .z (fun _=>.z)))))))))))))))))))
instance X5h:∀ (n:Nat) (p0:(List Q4)) (p1:Q1) (p2:Q0),Ct (Q1q n p0 p1 p2) fun res=>Q6 Tryz.prog 0o00121 [(.slice 2 (List.map Z8 p0)),(.agg (Z2 p1)),(.agg (Q2 p2))] (fun d=>d=.tup [(.agg (Z5 res.1)),(eB res.2)]):=
 au Tryz.func81 Q1q.eq_1 .z
instance X6s:∀ (n:Nat) (p0:(List Q4)) (p1:Q1) (p2:(List Q5)) (p3:Int),Ct (Q03 n p0 p1 p2 p3) fun res=>Q6 Tryz.prog 0o00040 [(.slice 2 (List.map Z8 p0)),(.agg (Z2 p1)),(.slice 9 (List.map X4 p2)),(eI p3)] (fun d=>d=.tup [(.agg (Z5 res.1)),(eB res.2)]):=
 au Tryz.func32 Q03.eq_1 (.o (.o (.o (.o (.o (.o (.i .z (.ls 24 (.f [8] [8] [0,2,3,5,8,29,30,31] [0,8] (fun (k102:Nat) (s98:Unit)=>[(31,eI (k102:Int))]) (fun k102 s98=>[]) (fun k102 s98=>.o (.j 6 0 [0,2,3,5,8,29,30,31] [0,1] (fun (s112:Unit)=>[]) (fun _=>[]) .z (fun _=>.z))) (fun s106=>.z))))))))))
instance W0q:∀ (n:Nat) (p0:(List Q4)) (p1:Q1) (p2:(List Q5)) (p3:Q3),Ct (Q23 n p0 p1 p2 p3) fun res=>Q6 Tryz.prog 0o00017 [(.slice 2 (List.map Z8 p0)),(.agg (Z2 p1)),(.slice 9 (List.map X4 p2)),(.agg (Z5 p3))] (fun d=>d=.tup [(eI res.1),(.slice 4 (List.map Q11 res.2.1)),(eB res.2.2)]):=
 au Tryz.func15 Q23.eq_1 .z
instance X2c:∀ (n:Nat) (p0:(List Q4)) (p1:Q1) (p2:(List Q5)),Ct (Q1y n p0 p1 p2) fun res=>Q6 Tryz.prog 0o00254 [(.slice 2 (List.map Z8 p0)),(.agg (Z2 p1)),(.slice 9 (List.map X4 p2))] (fun d=>d=.tup [(.slice 6 (List.map Q2 res.1)),(eB res.2)]):=
 au Tryz.func172 Q1y.eq_1 (.o (.o (.o (.o (.o (.i .z (.o (.i .z (.o (.g [4,8,10] [0] [] [] (.o (.o (.d [0,1,4,2,3,5,6,7,8,9,10] [0] [] .z)))))))))))))
instance X6p:∀ (n:Nat) (p0:(List Q4)) (p1:Q1) (p2:(List Q5)),Ct (Q2z n p0 p1 p2) fun res=>Q6 Tryz.prog 0o00126 [(.slice 2 (List.map Z8 p0)),(.agg (Z2 p1)),(.slice 9 (List.map X4 p2))] (fun d=>d=.tup [(.agg (Z5 res.1)),(eB res.2)]):=
 au Tryz.func86 Q2z.eq_1 (.o (.o (.o (.o (.o (.i .z (.i .z (.g [0,4,6,8] [0,8] [] [] (.o (.o (.d [0,1,2,3,4,5,6,7,8,9] [0] [] .z)))))))))))
instance W0p:∀ (n:Nat) (p0:(List Q4)) (p1:Q1) (p2:(List Q5)),Ct (Q1g n p0 p1 p2) fun res=>Q6 Tryz.prog 0o00046 [(.slice 2 (List.map Z8 p0)),(.agg (Z2 p1)),(.slice 9 (List.map X4 p2))] (fun d=>d=.tup [(.slice 3 (List.map Z5 res.1)),(eB res.2)]):=
 au Tryz.func38 Q1g.eq_1 (.o (.o (.o (.o (.o (.i .z (.pN 8 3 0x001d (.ls 2 (.f [0,2,4,8] [0,96] [0,2,4,8,22,23] [0,96] (fun (k77:Nat) (s73:(List Q3))=>[(8,.sl 3 96 (s73).length),(23,eI (k77:Int))]) (fun k77 s73=>[(96,some ⟨3,(List.map Z5 s73),0,0x001d⟩)]) (fun k77 s73=>.o (.j 6 0 [0,2,4,8,22,23] [0,1] (fun (s85:(List Q3))=>[(8,.sl 3 1 (s85).length)]) (fun s85=>[(1,some ⟨3,(List.map Z5 s85),0,0x001d⟩)]) .z (fun _=>.z))) (fun s81=>.j 11 0 [8] [1] (fun (s96:(List Q3))=>[(8,.sl 3 1 (s96).length)]) (fun s96=>[(1,some ⟨3,(List.map Z5 s96),0,0x001d⟩)]) .z (fun _=>.z)))))))))))
instance X48:∀ (n:Nat) (p0:(List Q4)) (p1:Q1) (p2:(List Q5)) (p3:(List Q3)),Ct (Q0l n p0 p1 p2 p3) fun res=>Q6 Tryz.prog 0o00051 [(.slice 2 (List.map Z8 p0)),(.agg (Z2 p1)),(.slice 9 (List.map X4 p2)),(.slice 3 (List.map Z5 p3))] (fun d=>d=(.slice 1 (List.map rI res))):=
 au Tryz.func41 Q0l.eq_1 (.o (.o (.o (.o (.o (.o (.i .z (.ls 3 (.f [9] [56] [0,2,5,9,22,23,24] [0,56] (fun (k125:Nat) (s121:(List Bool))=>[(24,eI (k125:Int))]) (fun k125 s121=>[(56,some ⟨8,[(List.map cB s121)],0,0x0089⟩)]) (fun k125 s121=>.o (.j 6 0 [0,2,5,9,22,23,24] [0,1] (fun (s137:(List Bool))=>[]) (fun s137=>[(1,some ⟨8,[(List.map cB s137)],0,0x0089⟩)]) .z (fun _=>.z))) (fun s129=>.o (.pN 14 1 0x0003 (.w [14] [25] [14,44,45] [25] (fun (s219:(List Int)×Int)=>[(14,.sl 1 25 (s219.1).length),(45,eI s219.2)]) (fun s219=>[(25,some ⟨1,(List.map rI s219.1),0,0x0003⟩)]) (fun s219=>.i (.j 16 0 [14,44,45] [0] (fun (s233:(List Int))=>[(14,.sl 1 0 (s233).length)]) (fun s233=>[(0,some ⟨1,(List.map rI s233),0,0x0003⟩)]) .z (fun _=>.z)) .z) (fun s227=>.z)))))))))))))
end Go.Proofs.YtfhpjeogjcfkaaaGreat
