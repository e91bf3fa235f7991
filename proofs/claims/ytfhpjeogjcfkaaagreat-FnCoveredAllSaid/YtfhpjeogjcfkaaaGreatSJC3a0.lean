import Derived.Test.YtfhpjeogjcfkaaaGreatSJC2b0
import Derived.Test.YtfhpjeogjcfkaaaGreatSJC2c0
import Derived.Test.YtfhpjeogjcfkaaaGreatSJC2a0
import Derived.Test.YtfhpjeogjcfkaaaGreatSJC2d0
set_option linter.unusedSimpArgs false
set_option linter.unusedVariables false
namespace Go.Proofs.YtfhpjeogjcfkaaaGreat
open Go Go.RowKit
set_option maxRecDepth 100000
set_option maxHeartbeats 20000000
instance W4r:∀ (p0:(List Q4)) (p1:Q1) (p2:Q0),Ct (Q44 p0 p1 p2) fun res=>Q6 Tryz.prog 0o00347 [(.slice 2 (List.map Z8 p0)),(.agg (Z2 p1)),(.agg (Q2 p2))] (fun d=>d=(.slice 2 (List.map Z2 res))):=
 au Tryz.func231 Q44.eq_1 .z
instance W6s:∀ (n:Nat) (p0:Q0) (p1:Q3),Ct (Q52 n p0 p1) fun res=>Q6 Tryz.prog 0o00164 [(.agg (Q2 p0)),(.agg (Z5 p1))] (fun d=>d=.tup [(.slice 4 (List.map Q11 res.1)),(eB res.2)]):=
 au Tryz.func116 Q52.eq_1 (.o (.o (.o (.o (.i .z (.o (.o (.ll 49 (.f [6] [49] [6,20,21,22] [49] (fun (k63:Nat) (s59:(List X3))=>[(6,.sl 4 49 (s59).length),(20,.sl 4 49 (s59).length),(22,eI (k63:Int))]) (fun k63 s59=>[(49,some ⟨4,(List.map Q11 s59),0,0x0057⟩)]) (fun k63 s59=>.z) (fun s67=>.z))))))))))
theorem Z0u:∀ n:Nat,(∀ (p0:(List Q4)) (p1:Q1) (p2:Q0) (p3:Q0),Ct (V4 n p0 p1 p2 p3) fun res=>Q6 Tryz.prog 0o00525 [(.slice 2 (List.map Z8 p0)),(.agg (Z2 p1)),(.agg (Q2 p2)),(.agg (Q2 p3))] (fun d=>d=(.slice 6 (List.map Q2 res))))∧(∀ (p0:(List Q4)) (p1:Q1) (p2:Q0) (p3:Q0),Ct (Q6k n p0 p1 p2 p3) fun res=>Q6 Tryz.prog 0o00543 [(.slice 2 (List.map Z8 p0)),(.agg (Z2 p1)),(.agg (Q2 p2)),(.agg (Q2 p3))] (fun d=>d=(.slice 6 (List.map Q2 res)))):=
 ar2 (au Tryz.func341 V4.eq_2 (.o (.o (.o (.o (.o (.o (.o (.i .z (.i .z (.i .z (.o (.ls 61 (.f [9] [224] [0,5,7,9,10,11] [0,16,224] (fun (k115:Nat) (s111:(List Q0))=>[(9,.sl 6 224 (s111).length),(11,eI (k115:Int))]) (fun k115 s111=>[(224,some ⟨6,(List.map Q2 s111),0,0x0064⟩)]) (fun k115 s111=>.o (.g [0,5,7,9,10,11] [0,1,2] [] [] (.o (.o (.o (.d [0,1,2,3,4,5,6,7,8,10,9,11,12,13] [0,1] [] .z)))))) (fun s119=>.z)))))))))))))))
 (au Tryz.func355 Q6k.eq_2 (.o (.o (.o (.o (.o (.b fun (p2:Q0)=>.o (.o (.ls 23 (.f [9] [32] [0,6,7,9,10,11,12] [8,16,32,96] (fun (k1109:Nat) (s1105:(List Q0)×(List Q0))=>[(9,.sl 6 32 (s1105.1).length),(11,.sl 6 96 (s1105.2).length),(12,eI (k1109:Int))]) (fun k1109 s1105=>[(32,some ⟨6,(List.map Q2 s1105.1),0,0x0064⟩),(96,some ⟨6,(List.map Q2 s1105.2),0,0x0064⟩)]) (fun k1109 s1105=>.o (.g [0,6,7,9,10,11,12] [0,1,2,3] [] [] (.o (.o (.o (.d [0,1,2,3,4,5,6,7,8,9,10,11,12,13,14,15,16] [0,1] [] (.ls 46 (.f [0,6,7,9,10,11,12] [0,1,2,3] [0,6,7,9,10,11,12,13,14] [0,1,2,3] (fun (k1309:Nat) (s1305:(List Q0))=>[(9,.sl 6 2 (s1305).length),(14,eI (k1309:Int))]) (fun k1309 s1305=>[(2,some ⟨6,(List.map Q2 s1305),0,0x0064⟩)]) (fun k1309 s1305=>.o (.g [0,6,7,9,10,11,12,13,14] [0,1,2,3] [] [] (.o (.b fun (x1320:(List Q0))=>.dz [0,1,3,5,6,7,8,2,4,9,10,11,12,13] [0] [1048638,1048591] [] (.g [0,6,7,9,10,11,12,13,14,15] [0,1,2,3,1048591,2097168] [] [(1001048591,some ⟨6,[[(eI 4),(eI p2.ctor),(eI 0),(eI 0),(eI 0),(.sl 6 2097168 (x1320).length)]],0,0x0064⟩),(2097168,some ⟨6,(List.map Q2 x1320),0,0x0064⟩)] (.o (.o (.d [0,1,2,3,4,5,6,7,8,9] [0,4] [73] (.o (.pF 6 .z)))))))))) (fun s1313=>.g [0,6,7,9,10,11,12] [0,1,2,3] [] [] (.o (.dz [0,1,2,3,4,5,6,7,8,9,10,11,12,13,14,15,16] [0,1] [1048592] [] .z))))))))))) (fun s1113=>.z)))))))))))
instance W64:∀ (n:Nat),∀ (p0:(List Q4)) (p1:Q1) (p2:Q0) (p3:Q0),Ct (V4 n p0 p1 p2 p3) fun res=>Q6 Tryz.prog 0o00525 [(.slice 2 (List.map Z8 p0)),(.agg (Z2 p1)),(.agg (Q2 p2)),(.agg (Q2 p3))] (fun d=>d=(.slice 6 (List.map Q2 res))):=
 fun n=>(Z0u n).1
instance W87:∀ (n:Nat),∀ (p0:(List Q4)) (p1:Q1) (p2:Q0) (p3:Q0),Ct (Q6k n p0 p1 p2 p3) fun res=>Q6 Tryz.prog 0o00543 [(.slice 2 (List.map Z8 p0)),(.agg (Z2 p1)),(.agg (Q2 p2)),(.agg (Q2 p3))] (fun d=>d=(.slice 6 (List.map Q2 res))):=
 fun n=>(Z0u n).2
instance V2m:∀ (n:Nat) (p0:(List Q4)) (p1:Q1) (p2:Q3),Ct (Q85 n p0 p1 p2) fun res=>Q6 Tryz.prog 0o00062 [(.slice 2 (List.map Z8 p0)),(.agg (Z2 p1)),(.agg (Z5 p2))] (fun d=>d=(eB res)):=
 au Tryz.func50 Q85.eq_1 .z
end Go.Proofs.YtfhpjeogjcfkaaaGreat
