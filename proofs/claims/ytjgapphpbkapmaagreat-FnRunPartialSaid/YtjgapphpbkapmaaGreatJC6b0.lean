import Derived.Test.YtjgapphpbkapmaaGreatJC5a0
import Derived.Test.YtjgapphpbkapmaaGreatJC5c0
set_option linter.unusedSimpArgs false
set_option linter.unusedVariables false
namespace Go.Proofs.YtjgapphpbkapmaaGreat
open Go Go.RowKit
set_option maxRecDepth 100000
set_option maxHeartbeats 20000000
instance W6q:∀ (n:Nat) (p0:X0),Ct (Q5w n p0) fun res=>J0 Tryz.prog 0o00320 [⟨2,[(Y1 p0)],0,0x00c5⟩] [.ptr 2 0 0 0] (fun H d=>H=[some ⟨2,[(Y1 res.2)],0,0x00c5⟩]∧d=(.slice 2 (List.map W2 res.1))):=
 au Tryz.func208 Q5w.eq_1 .z
instance W6o:∀ (n:Nat) (p0:X0),Ct (Q3s n p0) fun res=>J0 Tryz.prog 0o00242 [⟨2,[(Y1 p0)],0,0x00c5⟩] [.ptr 2 0 0 0] (fun H d=>H=[some ⟨2,[(Y1 res.2.2.2)],0,0x00c5⟩]∧d=.tup [(.slice 2 (List.map W2 res.1)),(.agg (W0 res.2.1)),(.agg (X1 res.2.2.1))]):=
 au Tryz.func162 Q3s.eq_1 (.o (.o (.o (.o (.o (.o (.j 4 0 [0,3,4,5,6,7] [0,9,17,137] (fun (s7:Int×Int)=>[]) (fun s7=>[(137,some ⟨2,[[(eI s7.1),(eI s7.2)]],0,0x0019⟩)]) .z (fun _=>.g [0,3,4,5,6,7] [0,1,2,3] [] [] (.o (.o (.d [0,1,2,3,4,5,6,7,8,9,10,11,12] [3] [] .z)))))))))))
instance W8v:∀ (n:Nat) (p0:X0) (p1:(List Q3)) (p2:Q4),Ct (Q6q n p0 p1 p2) fun res=>J0 Tryz.prog 0o00373 [⟨2,[(Y1 p0)],0,0x00c5⟩] [.ptr 2 0 0 0,(.slice 2 (List.map W2 p1)),(.agg (W0 p2))] (fun H d=>H=[some ⟨2,[(Y1 res.2)],0,0x00c5⟩]∧d=(.agg (Z0 res.1))):=
 au Tryz.func251 Q6q.eq_1 (.o (.o (.o (.o (.g [0,1,5,6] [0,1,9] [] [] (.o (.o (.o (.dz [0,1,2,3,4,5,6,7,8,9,10,11,12,13,14] [1] [1048583] [] .z)))))))))
instance W4e:∀ (n:Nat) (p0:X0) (p1:(List Q3)) (p2:Q4),Ct (Q55 n p0 p1 p2) fun res=>J0 Tryz.prog 0o00324 [⟨2,[(Y1 p0)],0,0x00c5⟩] [.ptr 2 0 0 0,(.slice 2 (List.map W2 p1)),(.agg (W0 p2))] (fun H d=>H=[some ⟨2,[(Y1 res.2)],0,0x00c5⟩]∧d=(.agg (V1 res.1))):=
 au Tryz.func212 Q55.eq_1 (.o (.o (.o (.o (.b fun (r1:(Q0×X0))=>.o (.ll 106 (.f [6,7] [0,9,57] [0,6,7,8,9] [0,9,57,106] (fun (k195:Nat) (s191:X0×Int×Int×Int)=>[(9,eI (k195:Int))]) (fun k195 s191=>[(0,some ⟨2,[(Y1 s191.1)],0,0x00c5⟩),(57,some ⟨9,[[(eI r1.1.op),(eI r1.1.ctor),(eI r1.1.n),(eI r1.1.m),(eI r1.1.var),(.slice 6 (List.map Z0 r1.1.kids)),(eI s191.2.1),(eI s191.2.2.1),(eI s191.2.2.2)]],0,0x0095⟩)]) (fun k195 s191=>.o (.j 6 0 [0,6,7,8,9] [0,1,2,3] (fun (s212:X0×Int×Int×Int)=>[]) (fun s212=>[(0,some ⟨2,[(Y1 s212.1)],0,0x00c5⟩),(2,some ⟨9,[[(eI r1.1.op),(eI r1.1.ctor),(eI r1.1.n),(eI r1.1.m),(eI r1.1.var),(.slice 6 (List.map Z0 r1.1.kids)),(eI s212.2.1),(eI s212.2.2.1),(eI s212.2.2.2)]],0,0x0095⟩)]) (.i (.o (.i (.g [0,6,7,8,9] [0,1,2,3] [] [] (.o (.o (.d [0,3,4,5,6,7,8,1,2,9,10,11,12] [3] [] .z)))) .z)) .z) (fun _=>.z))) (fun s199=>.z))))))))
instance W8t:∀ (n:Nat) (p0:X0) (p1:(List Q3)) (p2:Q4),Ct (Q6p n p0 p1 p2) fun res=>J0 Tryz.prog 0o00243 [⟨2,[(Y1 p0)],0,0x00c5⟩] [.ptr 2 0 0 0,(.slice 2 (List.map W2 p1)),(.agg (W0 p2))] (fun H d=>H=[some ⟨2,[(Y1 res.2)],0,0x00c5⟩,some ⟨9,List.map V1 res.1,0,0x0095⟩]∧d=.sl 9 1 res.1.length):=
 au Tryz.func163 Q6p.eq_1 (.o (.o (.o (.o (.o (.w [7] [0,17] [0,1,5,7,8] [0,1,17] (fun (s50:X0×(List Q6)×Int)=>[(7,.sl 9 17 (s50.2.1).length),(8,eI s50.2.2)]) (fun s50=>[(0,some ⟨2,[(Y1 s50.1)],0,0x00c5⟩),(17,some ⟨9,(List.map V1 s50.2.1),0,0x0095⟩)]) (fun s50=>.z) (fun s58=>.z)))))))
instance W6h:∀ (n:Nat) (p0:X0),Ct (Q3p n p0) fun res=>J0 Tryz.prog 0o00125 [⟨2,[(Y1 p0)],0,0x00c5⟩] [.ptr 2 0 0 0] (fun H d=>H=[some ⟨2,[(Y1 res.2.2.2.2)],0,0x00c5⟩,some ⟨9,List.map V1 res.2.2.1,0,0x0095⟩]∧d=.tup [(.slice 2 (List.map W2 res.1)),(.agg (W0 res.2.1)),.sl 9 1 res.2.2.1.length,(.agg (X1 res.2.2.2.1))]):=
 au Tryz.func85 Q3p.eq_1 (.o (.o (.o (.g [0,3,5,6,7,8] [0,9,25,81,89] [] [] (.o (.d [0,1,2,3,4,6,5,7,8,9,10] [3,4] [] .z))))))
instance X8s:∀ (n:Nat) (p0:(List Int)),Ct (Q0x n p0) fun res=>Z2 Tryz.prog 0o00104 [(.slice 1 (List.map (rK .u8) p0))] (fun d=>d=.tup [(.slice 2 (List.map W2 res.1)),(.agg (W0 res.2.1)),(.slice 9 (List.map V1 res.2.2.1)),(eI res.2.2.2.1),(.agg (X1 res.2.2.2.2))]):=
 au Tryz.func68 Q0x.eq_1 (.o (.o (.o (.o (.g [3,6,7,8,9,10,11] [8,32,49,120,73,128] [] [] (.o (.o (.o (.dz [0,1,2,3,5,8,9,4,6,7,10,11,12,13,14,15] [3,5] [1048603] [] .z)))))))))
end Go.Proofs.YtjgapphpbkapmaaGreat
