import Derived.Test.YtgjpamkllimhdaaGreatJC5a0
import Derived.Test.YtgjpamkllimhdaaGreatJC3a0
import Derived.Test.YtgjpamkllimhdaaGreatJC5b0
set_option linter.unusedSimpArgs false
set_option linter.unusedVariables false
namespace Go.Proofs.YtgjpamkllimhdaaGreat
open Go Go.RowKit
set_option maxRecDepth 100000
set_option maxHeartbeats 20000000
instance W9k:∀ (n:Nat) (p0:Z9),Ct (Q6j n p0) fun res=>Y8 Tryz.prog 0o00224 [⟨2,[(J3 p0)],0,0x0093⟩] [.ptr 2 0 0 0] (fun H d=>H=[some ⟨2,[(J3 res.2)],0,0x0093⟩]∧d=(.slice 2 (List.map W1 res.1))):=
 au Tryz.func148 Q6j.eq_1 .z
instance W9h:∀ (n:Nat) (p0:Z9),Ct (Q46 n p0) fun res=>Y8 Tryz.prog 0o00145 [⟨2,[(J3 p0)],0,0x0093⟩] [.ptr 2 0 0 0] (fun H d=>H=[some ⟨2,[(J3 res.2.2.2)],0,0x0093⟩]∧d=.tup [(.slice 2 (List.map W1 res.1)),(.agg (W0 res.2.1)),(.agg (X2 res.2.2.1))]):=
 au Tryz.func101 Q46.eq_1 (.o (.o (.o (.o (.o (.o (.j 4 0 [0,3,4,5,6,7] [0,9,17,137] (fun (s7:Int×Int)=>[]) (fun s7=>[(137,some ⟨2,[[(eI s7.1),(eI s7.2)]],0,0x0019⟩)]) .z (fun _=>.g [0,3,4,5,6,7] [0,1,2,3] [] [] (.o (.o (.d [0,1,2,3,4,5,6,7,8,9,10,11,12] [3] [] .z)))))))))))
instance V1i:∀ (n:Nat) (p0:Z9) (p1:(List Q4)) (p2:Q6),Ct (Q7g n p0 p1 p2) fun res=>Y8 Tryz.prog 0o00305 [⟨2,[(J3 p0)],0,0x0093⟩] [.ptr 2 0 0 0,(.slice 2 (List.map W1 p1)),(.agg (W0 p2))] (fun H d=>H=[some ⟨2,[(J3 res.2)],0,0x0093⟩]∧d=(.agg (Q9 res.1))):=
 au Tryz.func197 Q7g.eq_1 (.o (.o (.o (.o (.g [0,1,5,6] [0,1,9] [] [] (.o (.o (.o (.dz [0,1,2,3,4,5,6,7,8,9,10,11,12,13,14] [1] [1048583] [] .z)))))))))
instance W79:∀ (n:Nat) (p0:Z9) (p1:(List Q4)) (p2:Q6),Ct (Q5r n p0 p1 p2) fun res=>Y8 Tryz.prog 0o00230 [⟨2,[(J3 p0)],0,0x0093⟩] [.ptr 2 0 0 0,(.slice 2 (List.map W1 p1)),(.agg (W0 p2))] (fun H d=>H=[some ⟨2,[(J3 res.2)],0,0x0093⟩]∧d=(.agg (X9 res.1))):=
 au Tryz.func152 Q5r.eq_1 (.o (.o (.o (.o (.b fun (r1:(Q0×Z9))=>.o (.ll 106 (.f [6,7] [0,9,57] [0,6,7,8,9] [0,9,57,106] (fun (k195:Nat) (s191:Z9×Int×Int×Int)=>[(9,eI (k195:Int))]) (fun k195 s191=>[(0,some ⟨2,[(J3 s191.1)],0,0x0093⟩),(57,some ⟨9,[[(eI r1.1.op),(eI r1.1.ctor),(eI r1.1.n),(eI r1.1.m),(eI r1.1.var),(.slice 6 (List.map Q9 r1.1.kids)),(eI s191.2.1),(eI s191.2.2.1),(eI s191.2.2.2)]],0,0x004a⟩)]) (fun k195 s191=>.o (.j 6 0 [0,6,7,8,9] [0,1,2,3] (fun (s212:Z9×Int×Int×Int)=>[]) (fun s212=>[(0,some ⟨2,[(J3 s212.1)],0,0x0093⟩),(2,some ⟨9,[[(eI r1.1.op),(eI r1.1.ctor),(eI r1.1.n),(eI r1.1.m),(eI r1.1.var),(.slice 6 (List.map Q9 r1.1.kids)),(eI s212.2.1),(eI s212.2.2.1),(eI s212.2.2.2)]],0,0x004a⟩)]) (.i (.o (.i (.g [0,6,7,8,9] [0,1,2,3] [] [] (.o (.o (.d [0,3,4,5,6,7,8,1,2,9,10,11,12] [3] [] .z)))) .z)) .z) (fun _=>.z))) (fun s199=>.z))))))))
instance V1g:∀ (n:Nat) (p0:Z9) (p1:(List Q4)) (p2:Q6),Ct (Q7f n p0 p1 p2) fun res=>Y8 Tryz.prog 0o00146 [⟨2,[(J3 p0)],0,0x0093⟩] [.ptr 2 0 0 0,(.slice 2 (List.map W1 p1)),(.agg (W0 p2))] (fun H d=>H=[some ⟨2,[(J3 res.2)],0,0x0093⟩,some ⟨9,List.map X9 res.1,0,0x004a⟩]∧d=.sl 9 1 res.1.length):=
 au Tryz.func102 Q7f.eq_1 (.o (.o (.o (.o (.o (.w [7] [0,17] [0,1,5,7,8] [0,1,17] (fun (s50:Z9×(List Q3)×Int)=>[(7,.sl 9 17 (s50.2.1).length),(8,eI s50.2.2)]) (fun s50=>[(0,some ⟨2,[(J3 s50.1)],0,0x0093⟩),(17,some ⟨9,(List.map X9 s50.2.1),0,0x004a⟩)]) (fun s50=>.z) (fun s58=>.z)))))))
instance W9a:∀ (n:Nat) (p0:Z9),Ct (Q2p n p0) fun res=>Y8 Tryz.prog 0o00065 [⟨2,[(J3 p0)],0,0x0093⟩] [.ptr 2 0 0 0] (fun H d=>H=[some ⟨2,[(J3 res.2.2.2.2)],0,0x0093⟩,some ⟨9,List.map X9 res.2.2.1,0,0x004a⟩]∧d=.tup [(.slice 2 (List.map W1 res.1)),(.agg (W0 res.2.1)),.sl 9 1 res.2.2.1.length,(.agg (X2 res.2.2.2.1))]):=
 au Tryz.func53 Q2p.eq_1 (.o (.o (.o (.g [0,3,5,6,7,8] [0,9,25,81,89] [] [] (.o (.d [0,1,2,3,4,6,5,7,8,9,10] [3,4] [] .z))))))
end Go.Proofs.YtgjpamkllimhdaaGreat
