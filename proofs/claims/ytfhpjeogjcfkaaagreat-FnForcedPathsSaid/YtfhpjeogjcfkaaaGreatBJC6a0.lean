import Derived.Test.YtfhpjeogjcfkaaaGreatBJC5c0
import Derived.Test.YtfhpjeogjcfkaaaGreatBJC5a0
set_option linter.unusedSimpArgs false
set_option linter.unusedVariables false
namespace Go.Proofs.YtfhpjeogjcfkaaaGreat
open Go Go.RowKit
set_option maxRecDepth 100000
set_option maxHeartbeats 20000000
instance V4x:∀ (n:Nat) (p0:X1) (p1:(List Q4)) (p2:Q7),Ct (Q8g n p0 p1 p2) fun res=>Y4 Tryz.prog 0o00467 [⟨2,[(J1 p0)],0,0x00d7⟩] [.ptr 2 0 0 0,(.slice 2 (List.map W5 p1)),(.agg (W3 p2))] (fun H d=>H=[some ⟨2,[(J1 res.2)],0,0x00d7⟩]∧d=(.agg (Z2 res.1))):=
 au Tryz.func311 Q8g.eq_1 (.o (.o (.o (.o (.g [0,1,5,6] [0,1,9] [] [] (.o (.o (.o (.dz [0,1,2,3,4,5,6,7,8,9,10,11,12,13,14] [1] [1048583] [] .z)))))))))
instance W9t:∀ (n:Nat) (p0:X1) (p1:(List Q4)) (p2:Q7),Ct (Q6c n p0 p1 p2) fun res=>Y4 Tryz.prog 0o00373 [⟨2,[(J1 p0)],0,0x00d7⟩] [.ptr 2 0 0 0,(.slice 2 (List.map W5 p1)),(.agg (W3 p2))] (fun H d=>H=[some ⟨2,[(J1 res.2)],0,0x00d7⟩]∧d=(.agg (X9 res.1))):=
 au Tryz.func251 Q6c.eq_1 (.o (.o (.o (.o (.b fun (r1:(Q0×X1))=>.o (.ll 106 (.f [6,7] [0,9,57] [0,6,7,8,9] [0,9,57,106] (fun (k195:Nat) (s191:X1×Int×Int×Int)=>[(9,eI (k195:Int))]) (fun k195 s191=>[(0,some ⟨2,[(J1 s191.1)],0,0x00d7⟩),(57,some ⟨9,[[(eI r1.1.op),(eI r1.1.ctor),(eI r1.1.n),(eI r1.1.m),(eI r1.1.var),(.slice 6 (List.map Z2 r1.1.kids)),(eI s191.2.1),(eI s191.2.2.1),(eI s191.2.2.2)]],0,0x00a1⟩)]) (fun k195 s191=>.o (.j 6 0 [0,6,7,8,9] [0,1,2,3] (fun (s212:X1×Int×Int×Int)=>[]) (fun s212=>[(0,some ⟨2,[(J1 s212.1)],0,0x00d7⟩),(2,some ⟨9,[[(eI r1.1.op),(eI r1.1.ctor),(eI r1.1.n),(eI r1.1.m),(eI r1.1.var),(.slice 6 (List.map Z2 r1.1.kids)),(eI s212.2.1),(eI s212.2.2.1),(eI s212.2.2.2)]],0,0x00a1⟩)]) (.i (.o (.i (.g [0,6,7,8,9] [0,1,2,3] [] [] (.o (.o (.d [0,3,4,5,6,7,8,1,2,9,10,11,12] [3] [] .z)))) .z)) .z) (fun _=>.z))) (fun s199=>.z))))))))
instance V4v:∀ (n:Nat) (p0:X1) (p1:(List Q4)) (p2:Q7),Ct (Q8f n p0 p1 p2) fun res=>Y4 Tryz.prog 0o00270 [⟨2,[(J1 p0)],0,0x00d7⟩] [.ptr 2 0 0 0,(.slice 2 (List.map W5 p1)),(.agg (W3 p2))] (fun H d=>H=[some ⟨2,[(J1 res.2)],0,0x00d7⟩,some ⟨9,List.map X9 res.1,0,0x00a1⟩]∧d=.sl 9 1 res.1.length):=
 au Tryz.func184 Q8f.eq_1 (.o (.o (.o (.o (.o (.w [7] [0,17] [0,1,5,7,8] [0,1,17] (fun (s50:X1×(List Q3)×Int)=>[(7,.sl 9 17 (s50.2.1).length),(8,eI s50.2.2)]) (fun s50=>[(0,some ⟨2,[(J1 s50.1)],0,0x00d7⟩),(17,some ⟨9,(List.map X9 s50.2.1),0,0x00a1⟩)]) (fun s50=>.z) (fun s58=>.z)))))))
instance V2j:∀ (n:Nat) (p0:X1),Ct (Q7d n p0) fun res=>Y4 Tryz.prog 0o00370 [⟨2,[(J1 p0)],0,0x00d7⟩] [.ptr 2 0 0 0] (fun H d=>H=[some ⟨2,[(J1 res.2)],0,0x00d7⟩]∧d=(.slice 2 (List.map W5 res.1))):=
 au Tryz.func248 Q7d.eq_1 .z
instance V2h:∀ (n:Nat) (p0:X1),Ct (Q4m n p0) fun res=>Y4 Tryz.prog 0o00267 [⟨2,[(J1 p0)],0,0x00d7⟩] [.ptr 2 0 0 0] (fun H d=>H=[some ⟨2,[(J1 res.2.2.2)],0,0x00d7⟩]∧d=.tup [(.slice 2 (List.map W5 res.1)),(.agg (W3 res.2.1)),(.agg (X4 res.2.2.1))]):=
 au Tryz.func183 Q4m.eq_1 (.o (.o (.o (.o (.o (.o (.j 4 0 [0,3,4,5,6,7] [0,9,17,137] (fun (s7:Int×Int)=>[]) (fun s7=>[(137,some ⟨2,[[(eI s7.1),(eI s7.2)]],0,0x0019⟩)]) .z (fun _=>.g [0,3,4,5,6,7] [0,1,2,3] [] [] (.o (.o (.d [0,1,2,3,4,5,6,7,8,9,10,11,12] [3] [] .z)))))))))))
instance V2a:∀ (n:Nat) (p0:X1),Ct (Q2h n p0) fun res=>Y4 Tryz.prog 0o00135 [⟨2,[(J1 p0)],0,0x00d7⟩] [.ptr 2 0 0 0] (fun H d=>H=[some ⟨2,[(J1 res.2.2.2.2)],0,0x00d7⟩,some ⟨9,List.map X9 res.2.2.1,0,0x00a1⟩]∧d=.tup [(.slice 2 (List.map W5 res.1)),(.agg (W3 res.2.1)),.sl 9 1 res.2.2.1.length,(.agg (X4 res.2.2.2.1))]):=
 au Tryz.func93 Q2h.eq_1 (.o (.o (.o (.g [0,3,5,6,7,8] [0,9,25,81,89] [] [] (.o (.d [0,1,2,3,4,6,5,7,8,9,10] [3,4] [] .z))))))
end Go.Proofs.YtfhpjeogjcfkaaaGreat
