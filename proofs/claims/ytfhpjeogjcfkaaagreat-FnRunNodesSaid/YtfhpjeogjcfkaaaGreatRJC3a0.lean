import Derived.Test.YtfhpjeogjcfkaaaGreatRJC2a0
import Derived.Test.YtfhpjeogjcfkaaaGreatRJC2c0
set_option linter.unusedSimpArgs false
set_option linter.unusedVariables false
namespace Go.Proofs.YtfhpjeogjcfkaaaGreat
open Go Go.RowKit
set_option maxRecDepth 100000
set_option maxHeartbeats 20000000
instance X7y:∀ (n:Nat) (p0:(List Q3)),Ct (Q1v n p0) fun res=>Z2 Tryz.prog 0o00351 [(.slice 2 (List.map W8 p0))] (fun d=>d=(eB res)):=
 au Tryz.func233 Q1v.eq_1 (.o (.o (.i .z (.ls 0 (.f [] [] [0,3] [] (fun (k1226:Nat) (s1222:Unit)=>[(3,eI (k1226:Int))]) (fun k1226 s1222=>[]) (fun k1226 s1222=>.o (.o (.i .z (.i .z (.i .z (.ls 26 (.f [0,3] [] [0,3,4] [] (fun (k1434:Nat) (s1430:Unit)=>[(4,eI (k1434:Int))]) (fun k1434 s1430=>[]) (fun k1434 s1430=>.z) (fun s1438=>.z)))))))) (fun s1230=>.z))))))
instance W1y:∀ (p0:(List Q9)) (p1:(List Q9)),Ct (Q4d p0 p1) fun res=>Z2 Tryz.prog 0o00475 [(.slice 3 (List.map V4 p0)),(.slice 3 (List.map V4 p1))] (fun d=>d=(eB res)):=
 au Tryz.func317 Q4d.eq_1 .z
instance V05:∀ (n:Nat) (p0:(List Q3)) (p1:Q6) (p2:Q2),Ct (Q7h n p0 p1 p2) fun res=>Z2 Tryz.prog 0o00062 [(.slice 2 (List.map W8 p0)),(.agg (W6 p1)),(.agg (W4 p2))] (fun d=>d=(eB res)):=
 au Tryz.func50 Q7h.eq_1 .z
instance W5y:∀ (n:Nat) (p0:(List Q3)) (p1:(List Y5)) (p2:(List V2)) (p3:Int) (p4:Q8),Ct (Q4p n p0 p1 p2 p3 p4) fun res=>Z2 Tryz.prog 0o00422 [(.slice 2 (List.map W8 p0)),(.slice 3 (List.map Q15 p1)),(.slice 3 (List.map Q1e p2)),(eI p3),(.agg (J3 p4))] (fun d=>d=(.slice 3 (List.map Q1e res))):=
 au Tryz.func274 Q4p.eq_1 (.o (.o (.o (.o (.o (.o (.o (.ls 2 (.f [11] [16] [1,2,3,9,11,12,13] [0,16] (fun (k1872:Nat) (s1868:(List V2))=>[(11,.sl 3 16 (s1868).length),(13,eI (k1872:Int))]) (fun k1872 s1868=>[(16,some ⟨3,(List.map Q1e s1868),0,0x0142⟩)]) (fun k1872 s1868=>.o (.j 6 0 [1,2,3,9,11,12,13] [0,1] (fun (s2059:(List V2))=>[(11,.sl 3 1 (s2059).length)]) (fun s2059=>[(1,some ⟨3,(List.map Q1e s2059),0,0x0142⟩)]) (.o (.o (.i .z (.g [1,2,3,9,11,12,13,14] [0,1,98] [] [] (.o (.o (.dz [0,1,2,3,4,5,6,7,8,9,11,12,13,14,15,16,17,10,18,19,20,21] [] [1048591] [] (.w [1,2,3,9,11,12,13,15] [0,1,1048591,2097160] [1,2,3,9,11,12,13,14,15,16] [0,1,2,1048591,2097160] (fun (s2208:Int×(List Q0)×(List Q1)×Int)=>[(16,eI s2208.2.2.2)]) (fun s2208=>[(1001048591,some ⟨3,[[(eI s2208.1),(.sl 6 2097160 (s2208.2.1).length),(.slice 2 (List.map Q7 s2208.2.2.1))]],0,0x0142⟩),(2097160,some ⟨6,(List.map Z0 s2208.2.1),0,0x0064⟩)]) (fun s2208=>.i (.o (.j 13 0 [1,2,3,9,11,12,13,14,15,16,17] [0,1,2,3,4,93] (fun (s2233:Q0)=>[]) (fun s2233=>[(1000000003,some ⟨3,[[(eI s2208.1),(.sl 6 4 (s2208.2.1).length),(.slice 2 (List.map Q7 s2208.2.2.1))]],0,0x0142⟩),(93,some ⟨6,[(Z0 s2233)],0,0x0064⟩)]) .z (fun _=>.g [1,2,3,9,11,12,13,14,15,16,17] [0,1,2,3,4,5] [] [(1000000003,some ⟨3,[[(eI s2208.1),(.sl 6 4 (s2208.2.1).length),(.slice 2 (List.map Q7 s2208.2.2.1))]],0,0x0142⟩)] (.o (.o (.dz [0,1,2,3,4,5,6,7,8,9,10,11,12,13,14] [3,5] [1048594,1048595] [] .z)))))) .z) (fun s2216=>.g [1,2,3,9,11,12,13,15] [0,1,2,3] [] [(1000000002,some ⟨3,[[(eI s2216.1),(.sl 6 3 (s2216.2.1).length),(.slice 2 (List.map Q7 s2216.2.2.1))]],0,0x0142⟩)] (.o (.o (.d [0,1,2,3,4,5,6,7,8,9,10,11,12] [2] [117] (.o (.pF 4 .z)))))))))))))) (fun _=>.z))) (fun s1876=>.z))))))))))
end Go.Proofs.YtfhpjeogjcfkaaaGreat
