import Derived.Test.YtfhpjeogjcfkaaaGreatBJC1a0
import Derived.Test.YtfhpjeogjcfkaaaGreatBJC1c0
import Derived.Test.YtfhpjeogjcfkaaaGreatBJC1b0
import Derived.Test.YtfhpjeogjcfkaaaGreatBJC1d0
set_option linter.unusedSimpArgs false
set_option linter.unusedVariables false
namespace Go.Proofs.YtfhpjeogjcfkaaaGreat
open Go Go.RowKit
set_option maxRecDepth 100000
set_option maxHeartbeats 20000000
instance W35:∀ (n:Nat) (p0:(List ByteArray)) (p1:ByteArray),Ct (Q8j n p0 p1) fun res=>Q8 Tryz.prog 0o00530 [(.slice 1 (List.map rS p0)),(eS p1)] (fun d=>d=(.agg (Q8d res))):=
 au Tryz.func344 Q8j.eq_1 (.o (.o (.o (.j 2 0 [0,1,4,5] [0,16] (fun (s13:ByteArray×Int)=>[(1,eS s13.1)]) (fun s13=>[(16,some ⟨3,[[(eS ByteArray.empty),.nil,(eI s13.2)]],0,0x010e⟩)]) .z (fun s13=>.o (.b fun (x29:ByteArray)=>.i .z (.o (.i .z (.g [0,4,5,6] [0,1] [] [] (.o (.o (.d [0,1,2,3,4,5,6,7,8,9,10] [] [] (.pC 1 1 2 0x0019 (.ls 60 (.f [4,5] [0,1,18] [0,4,5,7,8] [0,1,18] (fun (k137:Nat) (s133:(List Q7))=>[(8,eI (k137:Int))]) (fun k137 s133=>[(1000000001,some ⟨3,[[(eS x29),(.sl 2 18 (s133).length),(eI s13.2)]],0,0x010e⟩),(18,some ⟨2,(List.map W3 s133),0,0x0019⟩)]) (fun k137 s133=>.o (.i (.g [0,4,5,7,8] [0,1,2] [] [(1000000001,some ⟨3,[[(eS x29),(.sl 2 2 (s133).length),(eI s13.2)]],0,0x010e⟩)] (.o (.o (.d [0,1,2,3,4,5,6,7,8,9,10,11] [1] [81] .z)))) .z)) (fun s141=>.z))))))))))))))))
instance V5c:∀ (n:Nat) (p0:Int) (p1:Q9t),Ct (Z2k n p0 p1) fun res=>Q8 Tryz.prog 0o00442 [(eI p0),(.agg (Q8d p1))] (fun d=>d=(eB res)):=
 au Tryz.func290 Z2k.eq_1 (.o (.o (.o (.o (.i .z (.i .z (.i .z (.i .z (.ls 12 (.f [] [] [0,3,5] [0] (fun (k82:Nat) (s78:Unit)=>[(5,eI (k82:Int))]) (fun k82 s78=>[]) (fun k82 s78=>.z) (fun s86=>.z)))))))))))
instance W9x:∀ (n:Nat) (p0:X1) (p1:Q2),Ct (Q1w n p0 p1) fun res=>Y4 Tryz.prog 0o00137 [⟨2,[(J1 p0)],0,0x00d7⟩] [.ptr 2 0 0 0,(.agg (X4 p1))] (fun H d=>H=[some ⟨2,[(J1 res.2)],0,0x00d7⟩]∧d=(.agg (X4 res.1))):=
 ar (au Tryz.func95 Q1w.eq_2 (.o (.o (.o (.b fun (p1:Q2)=>.g [0,3,4] [0,1,9] [] [] (.o (.dz [0,1,2,3,5,6,4,7,8,9,10] [1] [1048581] [] (.j 2 0 [4,5] [0,2,1048581,2097160] (fun (s15:X1×Int×Int×(List Q2))=>[]) (fun s15=>[(0,some ⟨2,[(J1 s15.1)],0,0x00d7⟩),(1001048581,some ⟨3,[[(eI s15.2.1),(eI s15.2.2.1),(.sl 3 2097160 (s15.2.2.2).length)]],0,0x001d⟩),(2097160,some ⟨3,(List.map X4 s15.2.2.2),0,0x001d⟩)]) (.o (.i .z (.i .z (.i .z (.i (.i (.g [0,4,5] [0,2,1048581,2097160] [] [(1001048581,some ⟨3,[[(eI p1.ctor),(eI p1.n),(.sl 3 2097160 (p1.kids).length)]],0,0x001d⟩)] (.o (.o (.o (.o (.d [0,1,2,3,4,5,6,7,8,9,10,11] [2,3] [53] .z)))))) .z) .z))))) (fun _=>.pF 3 .z)))))))))
instance V0d:∀ (p0:Q7) (q0:(List Q4)),Ct (Z0r p0 q0) fun res=>Q8 Tryz.prog 0o00462 [(.agg (W3 p0)),.cptr [(.slice 2 (List.map W5 q0))]] (fun d=>d=(eB res)):=
 au Tryz.func306 Z0r.eq_1 .z
instance V7r:∀ (p0:(List Q4)) (p1:Q7) (p2:Q0),Ct (Q9p p0 p1 p2) fun res=>Q8 Tryz.prog 0o00440 [(.slice 2 (List.map W5 p0)),(.agg (W3 p1)),(.agg (Z2 p2))] (fun d=>d=.tup [(.slice 2 (List.map W3 res.1)),(eB res.2)]):=
 au Tryz.func288 Q9p.eq_1 (.o (.o (.o (.i .z (.i .z (.i (.g [4,5] [0,8] [] [] (.i (.o (.i (.i (.i (.d [0,1,2,3,4,5,6,7,8,9,10,11,12,13,14,15,16,17,18,19,20,21,22,23,24,25] [0,1] [] .z) (.d [0,1,2,3,4,5,6,7,8,9,10,11,12,13,14,15,16,17,18,19,20,21,22,23,24,25] [0,1] [] .z)) (.d [0,1,2,3,4,5,6,7,8,9,10,11,12,13,14,15,16,17,18,19,20,21,22,23,24,25] [0,1] [] .z)) (.d [0,1,2,3,4,5,6,7,8,9,10,11,12,13,14,15,16,17,18,19,20,21,22,23,24,25] [0,1] [] .z))) (.d [0,1,2,3,4,5,6,7,8,9,10,11,12,13,14,15,16,17,18,19,20,21,22,23,24,25] [0] [] .z))) (.i (.g [0,4,5] [0,8] [] [] (.o (.o (.d [0,1,3,4,2,5,6] [0,1] [] .z)))) (.i (.g [4,5] [0,8] [] [] (.o (.dz [0,1,3,4,2,5,6] [0,1] [1048649] [] .z))) (.i (.g [4,5] [0,8] [] [] (.o (.i (.o (.dz [0,2,3,4,5,6,7,8,1,9,10] [0,1] [1048655] [] .z)) (.dz [0,2,3,4,5,6,7,8,1,9,10] [0,1] [1048655] [] .z)))) .z)))))))))
instance W5c:∀ (p0:Z4) (q0:(List Z4)),Ct (Q71 p0 q0) fun res=>Q8 Tryz.prog 0o00536 [(.agg (Y8 p0)),.cptr [(.slice 3 (List.map Y8 q0))]] (fun d=>d=(eB res)):=
 au Tryz.func350 Q71.eq_1 .z
instance W15:∀ (n:Nat) (p0:(List Q3)),Ct (Q1k n p0) fun res=>Q8 Tryz.prog 0o00072 [(.slice 9 (List.map X9 p0))] (fun d=>d=.tup [(.slice 1 (List.map (rL 6 Z2) res.1)),(eB res.2)]):=
 au Tryz.func58 Q1k.eq_1 (.o (.o (.pN 4 1 0x0062 (.ls 0 (.f [4] [48] [4,7,8,9] [48] (fun (k96:Nat) (s92:(List (List Q0)))=>[(4,.sl 1 48 (s92).length),(9,eI (k96:Int))]) (fun k96 s92=>[(48,some ⟨1,(List.map (rL 6 Z2) s92),0,0x0062⟩)]) (fun k96 s92=>.o (.o (.i .z (.o (.o (.pF 98 .z)))))) (fun s100=>.z))))))
end Go.Proofs.YtfhpjeogjcfkaaaGreat
