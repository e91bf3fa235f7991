import Derived.Test.YtfhpjeogjcfkaaaGreatSJC4d0
import Derived.Test.YtfhpjeogjcfkaaaGreatSJC4b0
set_option linter.unusedSimpArgs false
set_option linter.unusedVariables false
namespace Go.Proofs.YtfhpjeogjcfkaaaGreat
open Go Go.RowKit
set_option maxRecDepth 100000
set_option maxHeartbeats 20000000
instance X5d:∀ (n:Nat) (p0:Q0s) (p1:Q1) (p2:Q0),Ct (V1 n p0 p1 p2) fun res=>Q6 Tryz.prog 0o00246 [.cptr (Q1u p0),(.agg (Z2 p1)),(.agg (Q2 p2))] (fun d=>d=(.agg (Z5 res))):=
 ar (au Tryz.func166 V1.eq_2 (.o (.o (.o (.o (.b fun (p2:Q0)=>.j 2 0 [0,4,5,6,11,12] [0,8,16] (fun (s26:Bool)=>[(12,eB s26)]) (fun _=>[]) .z (fun s26=>.i (.g [0,4,6] [0,2] [] [] (.o (.d [0,1,2,3,4,5,6,7,8,9,10] [0] [] .z))) (.i .z (.i (.g [0,4,5,6] [0,1,2] [] [] (.o (.o (.d [0,1,2,3,4,5,6,7] [0,1] [] .z)))) (.i (.g [0,4,5,6] [0,1,2] [] [] (.o (.o (.d [0,1,2,3,4,5,6] [0,1] [] (.i (.g [0,4,5,6] [0,1,2] [] [] (.o (.o (.d [0,1,2,3,4,5,6,7] [0,1] [] .z)))) (.g [0,4,5,6] [0,1,2] [] [] (.o (.d [0,1,2,3,4,5,6,7] [0,1] [] .z)))))))) (.g [0,4,5,6,7] [0,1,2,75] [] [] (.o (.d [0,1,2,3,4,5,6,9,7,8] [0,1] [] (.pC 3 2 3 0x001d (.ls 72 (.f [6,7] [2,3,12] [0,5,6,7,72,73,74] [1,2,3,12] (fun (k116:Nat) (s112:(List Q3))=>[(74,eI (k116:Int))]) (fun k116 s112=>[(1000000003,some ⟨3,[[(eI p2.ctor),(eI 0),(.sl 3 12 (s112).length)]],0,0x001d⟩),(12,some ⟨3,(List.map Z5 s112),0,0x001d⟩)]) (fun k116 s112=>.o (.g [0,5,6,7,8,9,72,73,74] [0,1,2,3,36] [] [(1000000002,some ⟨3,[[(eI p2.ctor),(eI 0),(.sl 3 3 (s112).length)]],0,0x001d⟩)] (.o (.o (.o (.d [0,1,2,3,4,5,6,7,8,9,10,11,12,13] [0,2,4] [91] .z)))))) (fun s120=>.z)))))))))))))))))
instance W65:∀ (n:Nat) (p0:(List Q4)) (p1:(List Int)) (p2:Q1) (p3:(List Q0)),Ct (Q4x n p0 p1 p2 p3) fun res=>Q6 Tryz.prog 0o00357 [(.slice 2 (List.map Z8 p0)),(.slice 1 (List.map rI p1)),(.agg (Z2 p2)),(.slice 6 (List.map Q2 p3))] (fun d=>d=.tup [(.slice 6 (List.map Q2 res.1)),(eB res.2)]):=
 au Tryz.func239 Q4x.eq_1 (.o (.o (.o (.o (.o (.ls 3 (.f [10] [24] [0,1,3,6,10,11] [0,24] (fun (k168:Nat) (s164:(List Q0))=>[(10,.sl 6 24 (s164).length),(11,eI (k168:Int))]) (fun k168 s164=>[(24,some ⟨6,(List.map Q2 s164),0,0x0064⟩)]) (fun k168 s164=>.o (.g [0,1,3,6,10,11] [0,1] [] [] (.o (.o (.o (.d [0,1,2,3,4,5,6,7,8,9,10,11,12,13,14,15,16] [0] [] .z)))))) (fun s172=>.z))))))))
end Go.Proofs.YtfhpjeogjcfkaaaGreat
