import Derived.Test.YtfhpjeogjcfkaaaGreatSJC5c0
import Derived.Test.YtfhpjeogjcfkaaaGreatSJC5a0
import Derived.Test.YtfhpjeogjcfkaaaGreatSJC4a0
set_option linter.unusedSimpArgs false
set_option linter.unusedVariables false
namespace Go.Proofs.YtfhpjeogjcfkaaaGreat
open Go Go.RowKit
set_option maxRecDepth 100000
set_option maxHeartbeats 20000000
instance X23:∀ (n:Nat) (p0:(List Q4)) (p1:Q1) (p2:(List Q5)) (p3:Int),Ct (Q1w n p0 p1 p2 p3) fun res=>Q6 Tryz.prog 0o00251 [(.slice 2 (List.map Z8 p0)),(.agg (Z2 p1)),(.slice 9 (List.map X4 p2)),(eI p3)] (fun d=>d=.tup [(.slice 6 (List.map Q2 res.1)),(eB res.2)]):=
 au Tryz.func169 Q1w.eq_1 (.o (.o (.o (.o (.o (.o (.i .z (.i .z (.i .z (.o (.o (.i .z (.g [0,2,3,5,10] [0] [] [] (.o (.o (.d [0,1,3,4,2,5,6,7,8,9,10] [0] [] .z))))))))))))))))
instance X5b:∀ (n:Nat) (p0:(List Q4)) (p1:Q1) (p2:Q0),Ct (Q1n n p0 p1 p2) fun res=>Q6 Tryz.prog 0o00252 [(.slice 2 (List.map Z8 p0)),(.agg (Z2 p1)),(.agg (Q2 p2))] (fun d=>d=.tup [(.agg (Z5 res.1)),(eB res.2)]):=
 au Tryz.func170 Q1n.eq_1 (.o (.o (.o (.o (.g [0,4,5,6] [0,8,16] [] [] (.o (.i (.d [0,1,2,3,4,5,6,7,8,9,10,11,12,13,15,16,14,17,18,19] [0,1] [] .z) (.o (.i (.d [0,1,2,3,4,5,6,7,8,9,10,11,12,13,15,16,14,17,18,19] [0,1] [] .z) (.o (.o (.d [0,1,2,3,4,5,6,7,8,9,10,11,12,13,15,16,14,17,18,19] [0,1] [] (.i .z (.g [0,4,5,6] [0,1,2] [] [] (.o (.o (.dz [0,1,3,4,2,5,6,7] [0,1] [1048584] [] .z)))))))))))))))))
instance W20:∀ (n:Nat) (p0:(List Q4)) (p1:Q1) (p2:(List Q5)) (p3:Int),Ct (Q37 n p0 p1 p2 p3) fun res=>Q6 Tryz.prog 0o00123 [(.slice 2 (List.map Z8 p0)),(.agg (Z2 p1)),(.slice 9 (List.map X4 p2)),(eI p3)] (fun d=>d=.tup [(.agg (Z5 res.1)),(eB res.2)]):=
 au Tryz.func83 Q37.eq_1 (.o (.o (.o (.o (.o (.o (.ls 23 (.f [8] [8] [0,2,3,5,8,10,11,12] [0,8] (fun (k134:Nat) (s130:Unit)=>[(12,eI (k134:Int))]) (fun k134 s130=>[]) (fun k134 s130=>.o (.i (.j 5 0 [0,2,3,5,8,10,11,12] [0,1] (fun (s146:Unit)=>[]) (fun _=>[]) (.g [0,2,3,5,8,10,11,12] [0,1] [] [] (.o (.dz [0,1,2,3,4,5,6,7,8,9,10,11,12] [0] [1048589] [] .z))) (fun _=>.z)) .z)) (fun s138=>.z)))))))))
instance X24:∀ (n:Nat) (p0:(List Q4)) (p1:Q1) (p2:(List Q5)),Ct (Q1x n p0 p1 p2) fun res=>Q6 Tryz.prog 0o00255 [(.slice 2 (List.map Z8 p0)),(.agg (Z2 p1)),(.slice 9 (List.map X4 p2))] (fun d=>d=.tup [(.slice 6 (List.map Q2 res.1)),(eB res.2)]):=
 au Tryz.func173 Q1x.eq_1 (.o (.o (.o (.o (.o (.i .z (.g [0,2,4] [0] [] [] (.o (.o (.d [0,1,4,5,6,2,3,7,8,9,10,11] [0] [] .z))))))))))
instance X6h:∀ (n:Nat) (p0:(List Q4)) (p1:Q1) (p2:(List Q5)),Ct (Q2v n p0 p1 p2) fun res=>Q6 Tryz.prog 0o00127 [(.slice 2 (List.map Z8 p0)),(.agg (Z2 p1)),(.slice 9 (List.map X4 p2))] (fun d=>d=.tup [(.agg (Z5 res.1)),(eB res.2)]):=
 au Tryz.func87 Q2v.eq_1 (.o (.o (.o (.o (.o (.i .z (.i .z (.g [0,4,6,8] [0,8] [] [] (.o (.o (.d [0,1,2,3,4,5,6,7,8,9] [0] [] .z)))))))))))
instance W0e:∀ (n:Nat) (p0:(List Q4)) (p1:Q1) (p2:(List Q5)),Ct (Q1a n p0 p1 p2) fun res=>Q6 Tryz.prog 0o00047 [(.slice 2 (List.map Z8 p0)),(.agg (Z2 p1)),(.slice 9 (List.map X4 p2))] (fun d=>d=.tup [(.slice 3 (List.map Z5 res.1)),(eB res.2)]):=
 au Tryz.func39 Q1a.eq_1 (.o (.o (.o (.o (.o (.i .z (.ls 2 (.f [0,2,4,8] [0,24] [0,2,4,8,9] [0,24] (fun (k77:Nat) (s73:(List Q3))=>[(8,.sl 3 24 (s73).length),(9,eI (k77:Int))]) (fun k77 s73=>[(24,some ⟨3,(List.map Z5 s73),0,0x001d⟩)]) (fun k77 s73=>.o (.j 7 0 [0,2,4,8,9] [0,1] (fun (s85:(List Q3))=>[(8,.sl 3 1 (s85).length)]) (fun s85=>[(1,some ⟨3,(List.map Z5 s85),0,0x001d⟩)]) .z (fun _=>.z))) (fun s81=>.o (.j 11 0 [8] [1] (fun (s96:(List Q3))=>[(8,.sl 3 1 (s96).length)]) (fun s96=>[(1,some ⟨3,(List.map Z5 s96),0,0x001d⟩)]) .z (fun _=>.z)))))))))))
end Go.Proofs.YtfhpjeogjcfkaaaGreat
