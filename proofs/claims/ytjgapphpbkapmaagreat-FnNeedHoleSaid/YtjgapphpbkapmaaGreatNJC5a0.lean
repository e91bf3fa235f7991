import Derived.Test.YtjgapphpbkapmaaGreatNJC4d0
import Derived.Test.YtjgapphpbkapmaaGreatNJC3a0
set_option linter.unusedSimpArgs false
set_option linter.unusedVariables false
namespace Go.Proofs.YtjgapphpbkapmaaGreat
open Go Go.RowKit
set_option maxRecDepth 100000
set_option maxHeartbeats 20000000
instance W34:∀ (n:Nat) (p0:(List Q3)) (p1:(List Y1)) (p2:(List W8)) (p3:Int),Ct (Q43 n p0 p1 p2 p3) fun res=>Z1 Tryz.prog 0o00354 [(.slice 2 (List.map W2 p0)),(.slice 3 (List.map Q0z p1)),(.slice 3 (List.map Q15 p2)),(eI p3)] (fun d=>d=(eI res)):=
 au Tryz.func236 Q43.eq_1 (.o (.o (.o (.o (.o (.o (.o (.w [9] [] [0,1,2,3,9,10] [] (fun (s543:Int×Int)=>[(9,eI s543.1),(10,eI s543.2)]) (fun s543=>[]) (fun s543=>.i (.i (.j 5 0 [0,1,2,3,9,10] [] (fun (s608:Int)=>[(9,eI s608)]) (fun _=>[]) (.o (.i .z (.j 6 0 [0,1,2,3,9,10] [] (fun (s626:Int)=>[(9,eI s626)]) (fun _=>[]) .z (fun s626=>.g [0,1,2,3,9,10] [] [] [] (.i (.o (.o (.o (.o (.d [0,1,2,3,4,5,6,7,8,9,12,13,14,15,16,17,18,10,11,19,20,21,22] [] [] .z))))) (.d [0,1,2,3,4,5,6,7,8,9,12,13,14,15,16,17,18,10,11,19,20,21,22] [] [] .z)))))) (fun _=>.z)) .z) .z) (fun s551=>.z)))))))))
instance W32:∀ (n:Nat) (p0:(List Q3)) (p1:(List Z0)) (p2:(List Y1)) (p3:(List W8)) (p4:Int) (p5:Int),Ct (Q1j n p0 p1 p2 p3 p4 p5) fun res=>Z1 Tryz.prog 0o00273 [(.slice 2 (List.map W2 p0)),(.slice 9 (List.map V6 p1)),(.slice 3 (List.map Q0z p2)),(.slice 3 (List.map Q15 p3)),(eI p4),(eI p5)] (fun d=>d=.tup [(.agg (Q22 res.1)),(eI res.2)]):=
 ar (au Tryz.func187 Q1j.eq_2 (.o (.o (.o (.o (.o (.o (.o (.o (.i .z (.i .z (.o (.o (.i (.g [0,1,2,3,4,5,12,14] [0,120] [] [] (.o (.dz [0,1,2,3,4,5,6,7] [1] [1048591] [] .z))) (.o (.b fun (x31:Y1)=>.o (.o (.pC 272 4 9 0x00a8 (.ls 96 (.f [5,12,19] [0,272,256,368] [0,1,2,3,4,5,12,18,19,20,21] [0,272,256,368] (fun (k145:Nat) (s141:Int×(List Q9))=>[(5,eI s141.1),(21,eI (k145:Int))]) (fun k145 s141=>[(1000000272,some ⟨6,[[(eI 2),(eI 0),.nil,(.sl 1 256 (x31.path).length),(.sl 9 368 (s141.2).length),.nil]],0,0x0030⟩),(368,some ⟨9,(List.map Y8 s141.2),0,0x00a8⟩)]) (fun k145 s141=>.o (.i (.g [0,1,2,3,4,5,12,18,19,20,21,22] [0,1,2,3,100] [] [(1000000001,some ⟨6,[[(eI 2),(eI 0),.nil,(.sl 1 2 (x31.path).length),(.sl 9 3 (s141.2).length),.nil]],0,0x0030⟩)] (.o (.o (.o (.dz [0,1,2,3,4,5,7,8,9,10,11,13,14,6,12,15,16,17,18,19,20,21] [4] [1048599] [] .z))))) .z)) (fun s149=>.z)))))))))))))))))))))
end Go.Proofs.YtjgapphpbkapmaaGreat
