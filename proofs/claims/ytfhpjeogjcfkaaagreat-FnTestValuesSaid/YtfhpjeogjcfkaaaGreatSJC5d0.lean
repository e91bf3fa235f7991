import Derived.Test.YtfhpjeogjcfkaaaGreatSJC4d0
import Derived.Test.YtfhpjeogjcfkaaaGreatSJC4b0
import Derived.Test.YtfhpjeogjcfkaaaGreatSJC4c0
set_option linter.unusedSimpArgs false
set_option linter.unusedVariables false
namespace Go.Proofs.YtfhpjeogjcfkaaaGreat
open Go Go.RowKit
set_option maxRecDepth 100000
set_option maxHeartbeats 20000000
instance X2a:∀ (n:Nat) (p0:Q0) (q0:Q0s) (q1:Q1),Ct (Q33 n p0 q0 q1) fun res=>Q6 Tryz.prog 0o00430 [(.agg (Q2 p0)),.cptr [(.cptr (Q1u q0))],.cptr (Z2 q1)] (fun d=>d=(eB res)):=
 au Tryz.func280 Q33.eq_1 .z
instance X5f:∀ (n:Nat) (p0:Q0s) (p1:Q1) (p2:(List Q0)),Ct (Q0q n p0 p1 p2) fun res=>Q6 Tryz.prog 0o00341 [.cptr (Q1u p0),(.agg (Z2 p1)),(.slice 6 (List.map Q2 p2))] (fun d=>d=(.slice 6 (List.map Q2 res))):=
 au Tryz.func225 Q0q.eq_1 .z
instance X46:∀ (n:Nat) (p0:Q0s) (p1:Q1) (p2:(List Q0)) (p3:(List Q0)),Ct (Q0k n p0 p1 p2 p3) fun res=>Q6 Tryz.prog 0o00241 [.cptr (Q1u p0),(.agg (Z2 p1)),(.slice 6 (List.map Q2 p2)),(.slice 6 (List.map Q2 p3))] (fun d=>d=.tup [(.slice 6 (List.map Q2 res.1)),(eB res.2)]):=
 au Tryz.func161 Q0k.eq_1 (.o (.o (.o (.o (.o (.o (.ls 3 (.f [2] [] [0,2,5,19,20,21] [0] (fun (k697:Nat) (s693:(List Q0))=>[(2,.slice 6 (List.map Q2 s693)),(21,eI (k697:Int))]) (fun k697 s693=>[]) (fun k697 s693=>.o (.pN 12 6 0x0064 (.ls 2 (.f [0,5,12,19,20,21] [0,73] [0,5,11,12,19,20,21,25,26,27] [0,25,73] (fun (k823:Nat) (s819:(List Q0))=>[(12,.sl 6 73 (s819).length),(27,eI (k823:Int))]) (fun k823 s819=>[(73,some ⟨6,(List.map Q2 s819),0,0x0064⟩)]) (fun k823 s819=>.z) (fun s827=>.z))))) (fun s701=>.z)))))))))
instance X8t:∀ (n:Nat) (p0:(List Q4)) (p1:Q1) (p2:Q0),Ct (Q2d n p0 p1 p2) fun res=>Q6 Tryz.prog 0o00311 [(.slice 2 (List.map Z8 p0)),(.agg (Z2 p1)),(.agg (Q2 p2))] (fun d=>d=.tup [(.slice 3 (List.map V0 res.1)),(eB res.2)]):=
 au Tryz.func201 Q2d.eq_1 .z
instance W24:∀ (n:Nat) (p0:(List Q4)) (p1:Q1) (p2:Q0),Ct (Q39 n p0 p1 p2) fun res=>Q6 Tryz.prog 0o00345 [(.slice 2 (List.map Z8 p0)),(.agg (Z2 p1)),(.agg (Q2 p2))] (fun d=>d=(eB res)):=
 au Tryz.func229 Q39.eq_1 .z
instance X29:∀ (n:Nat) (p0:Q0) (q0:Q0s) (q1:Q1),Ct (Q32 n p0 q0 q1) fun res=>Q6 Tryz.prog 0o00344 [(.agg (Q2 p0)),.cptr [(.cptr (Q1u q0))],.cptr (Z2 q1)] (fun d=>d=(eB res)):=
 au Tryz.func228 Q32.eq_1 (.o (.o (.o (.o (.g [1,2,3] [0] [] [] (.o (.d [0,1,2,3,4,5,6,7,8] [0] [] .z)))))))
instance W29:∀ (n:Nat) (p0:(List Q4)) (p1:Q1),Ct (Q1s n p0 p1) fun res=>Q6 Tryz.prog 0o00131 [(.slice 2 (List.map Z8 p0)),(.agg (Z2 p1))] (fun d=>d=(eB res)):=
 au Tryz.func89 Q1s.eq_1 .z
instance W4v:∀ (n:Nat) (p0:(List Q4)) (p1:Q1) (p2:Q5),Ct (Q46 n p0 p1 p2) fun res=>Q6 Tryz.prog 0o00163 [(.slice 2 (List.map Z8 p0)),(.agg (Z2 p1)),(.agg (X4 p2))] (fun d=>d=(eB res)):=
 au Tryz.func115 Q46.eq_1 .z
instance X49:∀ (n:Nat) (p0:Q5) (q0:(List Q4)) (q1:Q1),Ct (Q3l n p0 q0 q1) fun res=>Q6 Tryz.prog 0o00162 [(.agg (X4 p0)),.cptr [(.slice 2 (List.map Z8 q0))],.cptr (Z2 q1)] (fun d=>d=(eB res)):=
 au Tryz.func114 Q3l.eq_1 .z
instance X6o:∀ (n:Nat) (p0:(List Q4)) (p1:Q1) (p2:Q0),Ct (Q2y n p0 p1 p2) fun res=>Q6 Tryz.prog 0o00243 [(.slice 2 (List.map Z8 p0)),(.agg (Z2 p1)),(.agg (Q2 p2))] (fun d=>d=(eB res)):=
 au Tryz.func163 Q2y.eq_1 .z
end Go.Proofs.YtfhpjeogjcfkaaaGreat
