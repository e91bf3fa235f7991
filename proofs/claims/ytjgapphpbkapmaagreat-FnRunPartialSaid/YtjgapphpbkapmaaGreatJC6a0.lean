import Derived.Test.YtjgapphpbkapmaaGreatJC5c0
import Derived.Test.YtjgapphpbkapmaaGreatJC4c0
import Derived.Test.YtjgapphpbkapmaaGreatJC5b0
set_option linter.unusedSimpArgs false
set_option linter.unusedVariables false
namespace Go.Proofs.YtjgapphpbkapmaaGreat
open Go Go.RowKit
set_option maxRecDepth 100000
set_option maxHeartbeats 20000000
instance V35:∀ (n:Nat) (p0:(List Q3)) (p1:Q4) (p2:Q6),Ct (Q8l n p0 p1 p2) fun res=>Z2 Tryz.prog 0o00253 [(.slice 2 (List.map W2 p0)),(.agg (W0 p1)),(.agg (V1 p2))] (fun d=>d=(eB res)):=
 au Tryz.func171 Q8l.eq_1 (.o (.o (.o (.o (.g [0,4,5] [0,8] [] [] (.o (.i (.o (.o (.d [0,1,2,3,4,5,6,7,8,9,10,11,12,13,14,15] [0,1] [] .z))) (.d [0,1,2,3,4,5,6,7,8,9,10,11,12,13,14,15] [0,1] [] .z))))))))
instance X6u:∀ (n:Nat) (p0:(List Q3)) (p1:Q4) (p2:(List Q6)),Ct (Q1z n p0 p1 p2) fun res=>Z2 Tryz.prog 0o00140 [(.slice 2 (List.map W2 p0)),(.agg (W0 p1)),(.slice 9 (List.map V1 p2))] (fun d=>d=(eB res)):=
 au Tryz.func96 Q1z.eq_1 (.o (.o (.o (.o (.o (.i .z (.i .z (.ls 2 (.f [] [] [0,2,4,7] [0] (fun (k70:Nat) (s66:Unit)=>[(7,eI (k70:Int))]) (fun k70 s66=>[]) (fun k70 s66=>.o (.g [0,2,4,7] [0] [] [] (.o (.d [0,1,2,3,4,5,6,7] [0] [] .z)))) (fun s74=>.z))))))))))
instance W8l:∀ (n:Nat) (p0:(List Q3)) (p1:(List Q6)) (p2:(List J2)) (p3:(List V9)) (p4:Int) (p5:Int),Ct (Q2q n p0 p1 p2 p3 p4 p5) fun res=>Z2 Tryz.prog 0o00273 [(.slice 2 (List.map W2 p0)),(.slice 9 (List.map V1 p1)),(.slice 3 (List.map Q1w p2)),(.slice 3 (List.map Q29 p3)),(eI p4),(eI p5)] (fun d=>d=.tup [(.agg (Q2s res.1)),(eI res.2)]):=
 ar (au Tryz.func187 Q2q.eq_2 (.o (.o (.o (.o (.o (.o (.o (.o (.i .z (.i .z (.o (.o (.i (.g [0,1,2,3,4,5,12,14] [0,120] [] [] (.o (.dz [0,1,2,3,4,5,6,7] [1] [1048591] [] .z))) (.o (.b fun (x31:J2)=>.o (.o (.pC 272 4 9 0x00a8 (.ls 96 (.f [5,12,19] [0,272,256,368] [0,1,2,3,4,5,12,18,19,20,21] [0,272,256,368] (fun (k145:Nat) (s141:Int×(List Q9))=>[(5,eI s141.1),(21,eI (k145:Int))]) (fun k145 s141=>[(1000000272,some ⟨6,[[(eI 2),(eI 0),.nil,(.sl 1 256 (x31.path).length),(.sl 9 368 (s141.2).length),.nil]],0,0x0030⟩),(368,some ⟨9,(List.map J5 s141.2),0,0x00a8⟩)]) (fun k145 s141=>.o (.i (.g [0,1,2,3,4,5,12,18,19,20,21,22] [0,1,2,3,100] [] [(1000000001,some ⟨6,[[(eI 2),(eI 0),.nil,(.sl 1 2 (x31.path).length),(.sl 9 3 (s141.2).length),.nil]],0,0x0030⟩)] (.o (.o (.o (.dz [0,1,2,3,4,5,7,8,9,10,11,13,14,6,12,15,16,17,18,19,20,21] [4] [1048599] [] .z))))) .z)) (fun s149=>.z)))))))))))))))))))))
instance W25:∀ (n:Nat) (p0:(List Q3)) (p1:Q4) (p2:(List Q6)) (p3:Int),Ct (Q65 n p0 p1 p2 p3) fun res=>Z2 Tryz.prog 0o00160 [(.slice 2 (List.map W2 p0)),(.agg (W0 p1)),(.slice 9 (List.map V1 p2)),(eI p3)] (fun d=>d=.tup [(.agg (Q2s res.1)),(eB res.2)]):=
 au Tryz.func112 Q65.eq_1 (.o (.o (.o (.o (.o (.ls 2 (.f [0,2,3,5,8] [0,8] [0,2,3,5,8,10] [0,8] (fun (k54:Nat) (s50:Unit)=>[(10,eI (k54:Int))]) (fun k54 s50=>[]) (fun k54 s50=>.z) (fun s58=>.g [0,2,3,5,8] [0,1] [] [] (.o (.o (.dz [0,1,2,3,5,7,6,4,8,9,10,11,12,13,14] [0] [1048609,1048587] [] .z)))))))))))
instance X4h:∀ (n:Nat) (p0:(List Q3)) (p1:Q4) (p2:(List Q6)) (p3:Int),Ct (Q0o n p0 p1 p2 p3) fun res=>Z2 Tryz.prog 0o00065 [(.slice 2 (List.map W2 p0)),(.agg (W0 p1)),(.slice 9 (List.map V1 p2)),(eI p3)] (fun d=>d=.tup [(.agg (Q2s res.1)),(eB res.2)]):=
 au Tryz.func53 Q0o.eq_1 .z
instance Z53:∀ (n:Nat) (p0:(List Q3)) (p1:Q4) (p2:(List Q6)) (p3:Int) (p4:Q1),Ct (Q1y n p0 p1 p2 p3 p4) fun res=>Z2 Tryz.prog 0o00035 [(.slice 2 (List.map W2 p0)),(.agg (W0 p1)),(.slice 9 (List.map V1 p2)),(eI p3),(.agg (X1 p4))] (fun d=>d=.tup [(eI res.1),(.slice 1 (List.map rI res.2.1)),(eB res.2.2)]):=
 au Tryz.func29 Q1y.eq_1 .z
end Go.Proofs.YtjgapphpbkapmaaGreat
