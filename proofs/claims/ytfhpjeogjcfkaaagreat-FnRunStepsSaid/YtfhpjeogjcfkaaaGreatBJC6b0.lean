import Derived.Test.YtfhpjeogjcfkaaaGreatBJC5c0
import Derived.Test.YtfhpjeogjcfkaaaGreatBJC4b0
import Derived.Test.YtfhpjeogjcfkaaaGreatBJC5b0
set_option linter.unusedSimpArgs false
set_option linter.unusedVariables false
namespace Go.Proofs.YtfhpjeogjcfkaaaGreat
open Go Go.RowKit
set_option maxRecDepth 100000
set_option maxHeartbeats 20000000
instance V9e:∀ (n:Nat) (p0:(List Q4)) (p1:Q7) (p2:Q3),Ct (Z0o n p0 p1 p2) fun res=>Q8 Tryz.prog 0o00250 [(.slice 2 (List.map W5 p0)),(.agg (W3 p1)),(.agg (X9 p2))] (fun d=>d=(eB res)):=
 au Tryz.func168 Z0o.eq_1 (.o (.o (.o (.o (.g [0,4,5] [0,8] [] [] (.o (.i (.o (.o (.d [0,1,2,3,4,5,6,7,8,9,10,11,12,13,14,15] [0,1] [] .z))) (.d [0,1,2,3,4,5,6,7,8,9,10,11,12,13,14,15] [0,1] [] .z))))))))
instance W13:∀ (n:Nat) (p0:(List Q4)) (p1:Q7) (p2:(List Q3)),Ct (Q1j n p0 p1 p2) fun res=>Q8 Tryz.prog 0o00122 [(.slice 2 (List.map W5 p0)),(.agg (W3 p1)),(.slice 9 (List.map X9 p2))] (fun d=>d=(eB res)):=
 au Tryz.func82 Q1j.eq_1 (.o (.o (.o (.o (.o (.i .z (.i .z (.ls 2 (.f [] [] [0,2,4,7] [0] (fun (k70:Nat) (s66:Unit)=>[(7,eI (k70:Int))]) (fun k70 s66=>[]) (fun k70 s66=>.o (.g [0,2,4,7] [0] [] [] (.o (.d [0,1,2,3,4,5,6,7] [0] [] .z)))) (fun s74=>.z))))))))))
instance V4n:∀ (n:Nat) (p0:(List Q4)) (p1:(List Q3)) (p2:(List Q01)) (p3:(List Y3)) (p4:Int) (p5:Int),Ct (Q32 n p0 p1 p2 p3 p4 p5) fun res=>Q8 Tryz.prog 0o00316 [(.slice 2 (List.map W5 p0)),(.slice 9 (List.map X9 p1)),(.slice 3 (List.map Q2b p2)),(.slice 3 (List.map Q2n p3)),(eI p4),(eI p5)] (fun d=>d=.tup [(.agg (Q0t res.1)),(eI res.2)]):=
 ar (au Tryz.func206 Q32.eq_2 (.o (.o (.o (.o (.o (.o (.o (.o (.i .z (.i .z (.o (.o (.i (.g [0,1,2,3,4,5,12,14] [0,120] [] [] (.o (.dz [0,1,2,3,4,5,6,7] [1] [1048591] [] .z))) (.o (.b fun (x31:Q01)=>.o (.o (.pC 272 4 9 0x00b3 (.ls 96 (.f [5,12,19] [0,272,256,368] [0,1,2,3,4,5,12,18,19,20,21] [0,272,256,368] (fun (k145:Nat) (s141:Int×(List Z1))=>[(5,eI s141.1),(21,eI (k145:Int))]) (fun k145 s141=>[(1000000272,some ⟨6,[[(eI 2),(eI 0),.nil,(.sl 1 256 (x31.path).length),(.sl 9 368 (s141.2).length),.nil]],0,0x0030⟩),(368,some ⟨9,(List.map Q02 s141.2),0,0x00b3⟩)]) (fun k145 s141=>.o (.i (.g [0,1,2,3,4,5,12,18,19,20,21,22] [0,1,2,3,100] [] [(1000000001,some ⟨6,[[(eI 2),(eI 0),.nil,(.sl 1 2 (x31.path).length),(.sl 9 3 (s141.2).length),.nil]],0,0x0030⟩)] (.o (.o (.o (.dz [0,1,2,3,4,5,7,8,9,10,11,13,14,6,12,15,16,17,18,19,20,21] [4] [1048599] [] .z))))) .z)) (fun s149=>.z)))))))))))))))))))))
instance W6x:∀ (n:Nat) (p0:(List Q4)) (p1:Q7) (p2:(List Q3)) (p3:Int),Ct (Q7m n p0 p1 p2 p3) fun res=>Q8 Tryz.prog 0o00166 [(.slice 2 (List.map W5 p0)),(.agg (W3 p1)),(.slice 9 (List.map X9 p2)),(eI p3)] (fun d=>d=.tup [(.agg (Q0t res.1)),(eB res.2)]):=
 au Tryz.func118 Q7m.eq_1 (.o (.o (.o (.o (.o (.ls 2 (.f [0,2,3,5,8] [0,8] [0,2,3,5,8,10] [0,8] (fun (k54:Nat) (s50:Unit)=>[(10,eI (k54:Int))]) (fun k54 s50=>[]) (fun k54 s50=>.z) (fun s58=>.g [0,2,3,5,8] [0,1] [] [] (.o (.o (.dz [0,1,2,3,5,7,6,4,8,9,10,11,12,13,14] [0] [1048609,1048587] [] .z)))))))))))
instance X8h:∀ (n:Nat) (p0:(List Q4)) (p1:Q7) (p2:(List Q3)) (p3:Int),Ct (Q0g n p0 p1 p2 p3) fun res=>Q8 Tryz.prog 0o00067 [(.slice 2 (List.map W5 p0)),(.agg (W3 p1)),(.slice 9 (List.map X9 p2)),(eI p3)] (fun d=>d=.tup [(.agg (Q0t res.1)),(eB res.2)]):=
 au Tryz.func55 Q0g.eq_1 .z
end Go.Proofs.YtfhpjeogjcfkaaaGreat
