import Derived.Test.YtgjpamkllimhdaaGreatJC1d0
import Derived.Test.YtgjpamkllimhdaaGreatJC1c0
import Derived.Test.YtgjpamkllimhdaaGreatJC1b0
set_option linter.unusedSimpArgs false
set_option linter.unusedVariables false
namespace Go.Proofs.YtgjpamkllimhdaaGreat
open Go Go.RowKit
set_option maxRecDepth 100000
set_option maxHeartbeats 20000000
instance W17:∀ (n:Nat) (p0:(List ByteArray)) (p1:ByteArray),Ct (Q7j n p0 p1) fun res=>Z1 Tryz.prog 0o00336 [(.slice 1 (List.map rS p0)),(eS p1)] (fun d=>d=(.agg (Q7d res))):=
 au Tryz.func222 Q7j.eq_1 (.o (.o (.o (.j 2 0 [0,1,4,5] [0,16] (fun (s13:ByteArray×Int)=>[(1,eS s13.1)]) (fun s13=>[(16,some ⟨3,[[(eS ByteArray.empty),.nil,(eI s13.2)]],0,0x00e4⟩)]) .z (fun s13=>.o (.b fun (x29:ByteArray)=>.i .z (.o (.i .z (.g [0,4,5,6] [0,1] [] [] (.o (.o (.d [0,1,2,3,4,5,6,7,8,9,10] [] [] (.pC 1 1 2 0x0019 (.ls 60 (.f [4,5] [0,1,18] [0,4,5,7,8] [0,1,18] (fun (k137:Nat) (s133:(List Q6))=>[(8,eI (k137:Int))]) (fun k137 s133=>[(1000000001,some ⟨3,[[(eS x29),(.sl 2 18 (s133).length),(eI s13.2)]],0,0x00e4⟩),(18,some ⟨2,(List.map W0 s133),0,0x0019⟩)]) (fun k137 s133=>.o (.i (.g [0,4,5,7,8] [0,1,2] [] [(1000000001,some ⟨3,[[(eS x29),(.sl 2 2 (s133).length),(eI s13.2)]],0,0x00e4⟩)] (.o (.o (.d [0,1,2,3,4,5,6,7,8,9,10,11] [1] [81] .z)))) .z)) (fun s141=>.z))))))))))))))))
instance W9c:∀ (n:Nat) (p0:(List Q4)) (p1:Q6) (p2:Q0),Ct (Q44 n p0 p1 p2) fun res=>Z1 Tryz.prog 0o00321 [(.slice 2 (List.map W1 p0)),(.agg (W0 p1)),(.agg (Q9 p2))] (fun d=>d=(.slice 2 (List.map W0 res))):=
 au Tryz.func209 Q44.eq_1 (.o (.o (.o (.o (.i .z (.w [7] [48] [4,5,7,8] [0,8,48] (fun (s52:(List Q6)×Int)=>[(7,.sl 2 48 (s52.1).length),(8,eI s52.2)]) (fun s52=>[(48,some ⟨2,(List.map W0 s52.1),0,0x0019⟩)]) (fun s52=>.z) (fun s60=>.z)))))))
instance W7b:∀ (p0:Z9) (p1:Q0),Ct (Q4k p0 p1) fun res=>Y8 Tryz.prog 0o00147 [⟨2,[(J3 p0)],0,0x0093⟩] [.ptr 2 0 0 0,(.agg (Q9 p1))] (fun H d=>H=[some ⟨2,[(J3 res.2)],0,0x0093⟩]∧d=(.agg (Q9 res.1))):=
 au Tryz.func103 Q4k.eq_1 (.o (.b fun (p1:Q0)=>.o (.j 3 0 [4,5] [0,9,25,65] (fun (s17:Z9×Int×Int×Int×Int×(List Q0))=>[]) (fun s17=>[(0,some ⟨2,[(J3 s17.1)],0,0x0093⟩),(1000000025,some ⟨6,[[(eI s17.2.1),(eI s17.2.2.1),(eI s17.2.2.2.1),(eI p1.m),(eI s17.2.2.2.2.1),(.sl 6 65 (s17.2.2.2.2.2).length)]],0,0x0046⟩),(65,some ⟨6,(List.map Q9 s17.2.2.2.2.2),0,0x0046⟩)]) .z (fun _=>.pF 3 .z))))
instance W3d:∀ (p0:Z2) (q0:(List Z2)),Ct (Q66 p0 q0) fun res=>Z1 Tryz.prog 0o00356 [(.agg (Y7 p0)),.cptr [(.slice 3 (List.map Y7 q0))]] (fun d=>d=(eB res)):=
 au Tryz.func238 Q66.eq_1 .z
instance W9v:∀ (p0:Q37) (p1:(List Z2)),Ct (Q6k p0 p1) fun res=>Z1 Tryz.prog 0o00233 [(.agg (Q8i p0)),(.slice 3 (List.map Y7 p1))] (fun d=>d=(eB res)):=
 au Tryz.func155 Q6k.eq_1 .z
instance W7k:∀ (n:Nat) (p0:Grow) (p1:Int) (p2:Z3) (p3:(List Z5)),Ct (Q4m n p0 p1 p2 p3) fun res=>Z1 Tryz.prog 0o00205 [(.agg (Q4x p0)),(eI p1),(.agg (Q04 p2)),(.slice 3 (List.map Q1i p3))] (fun d=>d=.tup [(.agg (Q4x res.1)),(eB res.2)]):=
 au Tryz.func133 Q4m.eq_1 (.o (.o (.o (.o (.o (.o (.j 3 0 [1,3,4,8,11] [0,16] (fun (s38:(List Q0))=>[(11,.slice 6 (List.map Q9 s38))]) (fun _=>[]) (.i (.pN 11 6 0x0046 (.ls 3 (.f [1,3,4,8,11] [0,16,176] [1,3,4,8,11,33,34] [0,16,176] (fun (k61:Nat) (s57:(List Q0))=>[(11,.sl 6 176 (s57).length),(34,eI (k61:Int))]) (fun k61 s57=>[(176,some ⟨6,(List.map Q9 s57),0,0x0046⟩)]) (fun k61 s57=>.z) (fun s65=>.pF 2 .z)))) .z) (fun s38=>.g [1,3,4,8,11] [0,1] [] [] (.o (.o (.dz [0,1,2,3,4,5,7,8,6,9,10,11] [0] [1048588] [] (.ls 11 (.f [1,4,8,12] [0,1,1048588,2097153] [1,3,4,8,12,66,67,68] [0,1,1048588,2097153] (fun (k138:Nat) (s134:Int×(List Q0)×(List Q2))=>[(68,eI (k138:Int))]) (fun k138 s134=>[(1001048588,some ⟨3,[[(eI s134.1),(.sl 6 2097153 (s134.2.1).length),(.slice 2 (List.map Z0 s134.2.2))]],0,0x007b⟩),(2097153,some ⟨6,(List.map Q9 s134.2.1),0,0x0046⟩)]) (fun k138 s134=>.o (.g [1,3,4,8,12,13,14,66,67,68] [0,1,2,3,36] [] [(1000000002,some ⟨3,[[(eI s134.1),(.sl 6 3 (s134.2.1).length),(.slice 2 (List.map Z0 s134.2.2))]],0,0x007b⟩)] (.o (.o (.d [0,1,2,3,4,5,6,7,8] [2,4] [12] .z))))) (fun s142=>.g [1,4,8,12] [0,1,2,3] [] [(1000000002,some ⟨3,[[(eI s142.1),(.sl 6 3 (s142.2.1).length),(.slice 2 (List.map Z0 s142.2.2))]],0,0x007b⟩)] (.o (.o (.d [0,1,2,3,4,5,6,7,8,9] [0,2] [90] .z)))))))))))))))))
end Go.Proofs.YtgjpamkllimhdaaGreat
