import Derived.Test.YtbdkbdafhlcilaaGreatJC2a0
import Derived.Test.YtbdkbdafhlcilaaGreatJC2c0
set_option linter.unusedSimpArgs false
set_option linter.unusedVariables false
namespace Go.Proofs.YtbdkbdafhlcilaaGreat
open Go Go.RowKit
set_option maxRecDepth 100000
set_option maxHeartbeats 20000000
instance V2u:∀ (n:Nat) (p0:(List Q3)) (p1:Q8f),Ct (Z19 n p0 p1) fun res=>Z1 Tryz.prog 0o00345 [(.slice 2 (List.map V0 p0)),(.agg (Q7e p1))] (fun d=>d=(eB res)):=
 au Tryz.func229 Z19.eq_1 .z
theorem Z2p:∀ n:Nat,(∀ (p0:(List Q3)) (p1:Q2) (p2:Q0) (p3:Q0),Ct (Y8 n p0 p1 p2 p3) fun res=>Z1 Tryz.prog 0o00450 [(.slice 2 (List.map V0 p0)),(.agg (X9 p1)),(.agg (Q1 p2)),(.agg (Q1 p3))] (fun d=>d=(.slice 6 (List.map Q1 res))))∧(∀ (p0:(List Q3)) (p1:Q2) (p2:Q0) (p3:Q0),Ct (Q7g n p0 p1 p2 p3) fun res=>Z1 Tryz.prog 0o00467 [(.slice 2 (List.map V0 p0)),(.agg (X9 p1)),(.agg (Q1 p2)),(.agg (Q1 p3))] (fun d=>d=(.slice 6 (List.map Q1 res)))):=
 ar2 (au Tryz.func296 Y8.eq_2 (.o (.o (.o (.o (.o (.o (.o (.i .z (.i .z (.i .z (.o (.ls 61 (.f [9] [224] [0,5,7,9,10,11] [0,16,224] (fun (k115:Nat) (s111:(List Q0))=>[(9,.sl 6 224 (s111).length),(11,eI (k115:Int))]) (fun k115 s111=>[(224,some ⟨6,(List.map Q1 s111),0,0x0064⟩)]) (fun k115 s111=>.o (.g [0,5,7,9,10,11] [0,1,2] [] [] (.o (.o (.o (.d [0,1,2,3,4,5,6,7,8,10,9,11,12,13] [0,1] [] .z)))))) (fun s119=>.z)))))))))))))))
 (au Tryz.func311 Q7g.eq_2 (.o (.o (.o (.o (.o (.b fun (p2:Q0)=>.o (.o (.ls 23 (.f [9] [32] [0,6,7,9,10,11,12] [8,16,32,96] (fun (k1109:Nat) (s1105:(List Q0)×(List Q0))=>[(9,.sl 6 32 (s1105.1).length),(11,.sl 6 96 (s1105.2).length),(12,eI (k1109:Int))]) (fun k1109 s1105=>[(32,some ⟨6,(List.map Q1 s1105.1),0,0x0064⟩),(96,some ⟨6,(List.map Q1 s1105.2),0,0x0064⟩)]) (fun k1109 s1105=>.o (.g [0,6,7,9,10,11,12] [0,1,2,3] [] [] (.o (.o (.o (.d [0,1,2,3,4,5,6,7,8,9,10,11,12,13,14,15,16] [0,1] [] (.ls 46 (.f [0,6,7,9,10,11,12] [0,1,2,3] [0,6,7,9,10,11,12,13,14] [0,1,2,3] (fun (k1309:Nat) (s1305:(List Q0))=>[(9,.sl 6 2 (s1305).length),(14,eI (k1309:Int))]) (fun k1309 s1305=>[(2,some ⟨6,(List.map Q1 s1305),0,0x0064⟩)]) (fun k1309 s1305=>.o (.g [0,6,7,9,10,11,12,13,14] [0,1,2,3] [] [] (.o (.b fun (x1320:(List Q0))=>.dz [0,1,3,5,6,7,8,2,4,9,10,11,12,13] [0] [1048638,1048591] [] (.g [0,6,7,9,10,11,12,13,14,15] [0,1,2,3,1048591,2097168] [] [(1001048591,some ⟨6,[[(eI 4),(eI p2.ctor),(eI 0),(eI 0),(eI 0),(.sl 6 2097168 (x1320).length)]],0,0x0064⟩),(2097168,some ⟨6,(List.map Q1 x1320),0,0x0064⟩)] (.o (.o (.d [0,1,2,3,4,5,6,7,8,9] [0,4] [73] (.o (.pF 6 .z)))))))))) (fun s1313=>.g [0,6,7,9,10,11,12] [0,1,2,3] [] [] (.o (.dz [0,1,2,3,4,5,6,7,8,9,10,11,12,13,14,15,16] [0,1] [1048592] [] .z))))))))))) (fun s1113=>.z)))))))))))
instance W9v:∀ (n:Nat),∀ (p0:(List Q3)) (p1:Q2) (p2:Q0) (p3:Q0),Ct (Y8 n p0 p1 p2 p3) fun res=>Z1 Tryz.prog 0o00450 [(.slice 2 (List.map V0 p0)),(.agg (X9 p1)),(.agg (Q1 p2)),(.agg (Q1 p3))] (fun d=>d=(.slice 6 (List.map Q1 res))):=
 fun n=>(Z2p n).1
instance V25:∀ (n:Nat),∀ (p0:(List Q3)) (p1:Q2) (p2:Q0) (p3:Q0),Ct (Q7g n p0 p1 p2 p3) fun res=>Z1 Tryz.prog 0o00467 [(.slice 2 (List.map V0 p0)),(.agg (X9 p1)),(.agg (Q1 p2)),(.agg (Q1 p3))] (fun d=>d=(.slice 6 (List.map Q1 res))):=
 fun n=>(Z2p n).2
instance V26:∀ (n:Nat) (p0:(List Q3)) (p1:(List Int)) (p2:Q2) (p3:(List Q0)),Ct (Q3x n p0 p1 p2 p3) fun res=>Z1 Tryz.prog 0o00447 [(.slice 2 (List.map V0 p0)),(.slice 1 (List.map rI p1)),(.agg (X9 p2)),(.slice 6 (List.map Q1 p3))] (fun d=>d=(.slice 6 (List.map Q1 res))):=
 au Tryz.func295 Q3x.eq_1 (.o (.o (.o (.o (.o (.ls 3 (.f [9] [16] [0,1,3,6,9,10] [0,16] (fun (k81:Nat) (s77:(List Q0))=>[(9,.sl 6 16 (s77).length),(10,eI (k81:Int))]) (fun k81 s77=>[(16,some ⟨6,(List.map Q1 s77),0,0x0064⟩)]) (fun k81 s77=>.o (.j 5 0 [0,1,3,6,9,10] [0,1] (fun (s89:(List Q0))=>[(9,.sl 6 1 (s89).length)]) (fun s89=>[(1,some ⟨6,(List.map Q1 s89),0,0x0064⟩)]) (.g [0,1,3,6,9,10] [0,1] [] [] (.o (.d [0,1,2,3,4,5,6,7] [0] [] .z))) (fun _=>.z))) (fun s85=>.z))))))))
instance W1v:∀ (n:Nat) (p0:(List Q5)) (p1:(List Q5)),Ct (Q1f n p0 p1) fun res=>Z1 Tryz.prog 0o00052 [(.slice 9 (List.map W0 p0)),(.slice 9 (List.map W0 p1))] (fun d=>d=(eB res)):=
 au Tryz.func42 Q1f.eq_1 .z
end Go.Proofs.YtbdkbdafhlcilaaGreat
