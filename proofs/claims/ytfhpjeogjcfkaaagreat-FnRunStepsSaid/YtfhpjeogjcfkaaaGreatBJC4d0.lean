import Derived.Test.YtfhpjeogjcfkaaaGreatBJC3c0
import Derived.Test.YtfhpjeogjcfkaaaGreatBJC3d0
set_option linter.unusedSimpArgs false
set_option linter.unusedVariables false
namespace Go.Proofs.YtfhpjeogjcfkaaaGreat
open Go Go.RowKit
set_option maxRecDepth 100000
set_option maxHeartbeats 20000000
instance W9w:∀ (n:Nat) (p0:(List Q4)) (p1:Q7) (p2:Q0),Ct (Q3l n p0 p1 p2) fun res=>Q8 Tryz.prog 0o00447 [(.slice 2 (List.map W5 p0)),(.agg (W3 p1)),(.agg (Z2 p2))] (fun d=>d=(eB res)):=
 ar (au Tryz.func295 Q3l.eq_2 (.o (.o (.o (.o (.o (.o (.ls 14 (.f [0,4,5] [0,8] [0,4,5,7,8] [0,8] (fun (k65:Nat) (s61:Unit)=>[(8,eI (k65:Int))]) (fun k65 s61=>[]) (fun k65 s61=>.o (.g [0,4,5,7,8] [0,1] [] [] (.o (.o (.d [0,1,2,3,4,5,6,7,8,9,10,11] [1] [] .z))))) (fun s69=>.i (.g [0,4,5] [0,1] [] [] (.o (.o (.o (.o (.o (.d [0,1,2,3,4,5,7,8,9,10,11,12,6,13,14,15] [0,1] [] .z))))))) (.o (.ll 51 (.f [] [] [9,10] [51] (fun (k142:Nat) (s138:Unit)=>[(10,eI (k142:Int))]) (fun k142 s138=>[]) (fun k142 s138=>.z) (fun s146=>.z))))))))))))))
instance V4t:∀ (n:Nat) (p0:(List Q4)) (p1:Q01) (p2:(List Y3)) (p3:Int),Ct (Q44 n p0 p1 p2 p3) fun res=>Q8 Tryz.prog 0o00420 [(.slice 2 (List.map W5 p0)),(.agg (Q2b p1)),(.slice 3 (List.map Q2n p2)),(eI p3)] (fun d=>d=(.slice 9 (List.map Q02 res))):=
 au Tryz.func272 Q44.eq_1 (.o (.o (.o (.o (.o (.i (.o (.o (.ls 25 (.f [9] [16] [0,5,9,10,11,12] [0,16] (fun (k203:Nat) (s199:(List Z1))=>[(9,.sl 9 16 (s199).length),(12,eI (k203:Int))]) (fun k203 s199=>[(16,some ⟨9,(List.map Q02 s199),0,0x00b3⟩)]) (fun k203 s199=>.o (.j 8 0 [0,5,9,10,11,12] [0,1] (fun (s212:(List Z1))=>[(9,.sl 9 1 (s212).length)]) (fun s212=>[(1,some ⟨9,(List.map Q02 s212),0,0x00b3⟩)]) (.g [0,5,9,10,11,12] [0,1] [] [] (.o (.o (.d [0,1,2,3,4,5,6,7,8,9,10,11,12] [0] [] .z)))) (fun _=>.z))) (fun s207=>.z))))) (.w [9] [16] [2,3,9,13,14] [16] (fun (s381:(List Z1)×Int×Int)=>[(9,.sl 9 16 (s381.1).length),(13,eI s381.2.1),(14,eI s381.2.2)]) (fun s381=>[(16,some ⟨9,(List.map Q02 s381.1),0,0x00b3⟩)]) (fun s381=>.i (.j 15 0 [2,3,9,13,14] [0] (fun (s404:(List Z1)×Int)=>[(9,.sl 9 0 (s404.1).length),(13,eI s404.2)]) (fun s404=>[(0,some ⟨9,(List.map Q02 s404.1),0,0x00b3⟩)]) .z (fun _=>.z)) .z) (fun s389=>.z))))))))
end Go.Proofs.YtfhpjeogjcfkaaaGreat
