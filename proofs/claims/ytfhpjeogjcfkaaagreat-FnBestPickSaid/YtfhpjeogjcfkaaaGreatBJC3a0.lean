import Derived.Test.YtfhpjeogjcfkaaaGreatBJC2b0
import Derived.Test.YtfhpjeogjcfkaaaGreatBJC2c0
import Derived.Test.YtfhpjeogjcfkaaaGreatBJC2d0
set_option linter.unusedSimpArgs false
set_option linter.unusedVariables false
namespace Go.Proofs.YtfhpjeogjcfkaaaGreat
open Go Go.RowKit
set_option maxRecDepth 100000
set_option maxHeartbeats 20000000
instance V5l:∀ (n:Nat) (p0:(List Q4)) (p1:Q9t),Ct (Z2m n p0 p1) fun res=>Q8 Tryz.prog 0o00366 [(.slice 2 (List.map W5 p0)),(.agg (Q8d p1))] (fun d=>d=(eB res)):=
 au Tryz.func246 Z2m.eq_1 .z
instance V06:∀ (p0:(List Z4)) (p1:(List Z4)),Ct (Q6i p0 p1) fun res=>Q8 Tryz.prog 0o00475 [(.slice 3 (List.map Y8 p0)),(.slice 3 (List.map Y8 p1))] (fun d=>d=(eB res)):=
 au Tryz.func317 Q6i.eq_1 .z
instance V2v:∀ (n:Nat) (p0:(List Q4)) (p1:Q7) (p2:Q2),Ct (Q2j n p0 p1 p2) fun res=>Q8 Tryz.prog 0o00056 [(.slice 2 (List.map W5 p0)),(.agg (W3 p1)),(.agg (X4 p2))] (fun d=>d=(eB res)):=
 au Tryz.func46 Q2j.eq_1 .z
instance V4r:∀ (n:Nat) (p0:(List Q4)) (p1:(List Q01)) (p2:(List Y3)) (p3:Int) (p4:Z1),Ct (Q6x n p0 p1 p2 p3 p4) fun res=>Q8 Tryz.prog 0o00422 [(.slice 2 (List.map W5 p0)),(.slice 3 (List.map Q2b p1)),(.slice 3 (List.map Q2n p2)),(eI p3),(.agg (Q02 p4))] (fun d=>d=(.slice 3 (List.map Q2n res))):=
 au Tryz.func274 Q6x.eq_1 (.o (.o (.o (.o (.o (.o (.o (.ls 2 (.f [11] [16] [1,2,3,9,11,12,13] [0,16] (fun (k1872:Nat) (s1868:(List Y3))=>[(11,.sl 3 16 (s1868).length),(13,eI (k1872:Int))]) (fun k1872 s1868=>[(16,some ⟨3,(List.map Q2n s1868),0,0x0142⟩)]) (fun k1872 s1868=>.o (.j 6 0 [1,2,3,9,11,12,13] [0,1] (fun (s2059:(List Y3))=>[(11,.sl 3 1 (s2059).length)]) (fun s2059=>[(1,some ⟨3,(List.map Q2n s2059),0,0x0142⟩)]) (.o (.o (.i .z (.g [1,2,3,9,11,12,13,14] [0,1,98] [] [] (.o (.o (.dz [0,1,2,3,4,5,6,7,8,9,11,12,13,14,15,16,17,10,18,19,20,21] [] [1048591] [] (.w [1,2,3,9,11,12,13,15] [0,1,1048591,2097160] [1,2,3,9,11,12,13,14,15,16] [0,1,2,1048591,2097160] (fun (s2208:Int×(List Q0)×(List Q1)×Int)=>[(16,eI s2208.2.2.2)]) (fun s2208=>[(1001048591,some ⟨3,[[(eI s2208.1),(.sl 6 2097160 (s2208.2.1).length),(.slice 2 (List.map Q6 s2208.2.2.1))]],0,0x0142⟩),(2097160,some ⟨6,(List.map Z2 s2208.2.1),0,0x0064⟩)]) (fun s2208=>.i (.o (.j 13 0 [1,2,3,9,11,12,13,14,15,16,17] [0,1,2,3,4,93] (fun (s2233:Q0)=>[]) (fun s2233=>[(1000000003,some ⟨3,[[(eI s2208.1),(.sl 6 4 (s2208.2.1).length),(.slice 2 (List.map Q6 s2208.2.2.1))]],0,0x0142⟩),(93,some ⟨6,[(Z2 s2233)],0,0x0064⟩)]) .z (fun _=>.g [1,2,3,9,11,12,13,14,15,16,17] [0,1,2,3,4,5] [] [(1000000003,some ⟨3,[[(eI s2208.1),(.sl 6 4 (s2208.2.1).length),(.slice 2 (List.map Q6 s2208.2.2.1))]],0,0x0142⟩)] (.o (.o (.dz [0,1,2,3,4,5,6,7,8,9,10,11,12,13,14] [3,5] [1048594,1048595] [] .z)))))) .z) (fun s2216=>.g [1,2,3,9,11,12,13,15] [0,1,2,3] [] [(1000000002,some ⟨3,[[(eI s2216.1),(.sl 6 3 (s2216.2.1).length),(.slice 2 (List.map Q6 s2216.2.2.1))]],0,0x0142⟩)] (.o (.o (.d [0,1,2,3,4,5,6,7,8,9,10,11,12] [2] [117] (.o (.pF 4 .z)))))))))))))) (fun _=>.z))) (fun s1876=>.z))))))))))
end Go.Proofs.YtfhpjeogjcfkaaaGreat
