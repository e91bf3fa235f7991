import Derived.Test.YtjgapphpbkapmaaGreatNJC5d0
import Derived.Test.YtjgapphpbkapmaaGreatNJC4a0
import Derived.Test.YtjgapphpbkapmaaGreatNJC5b0
import Derived.Test.YtjgapphpbkapmaaGreatNJC5c0
import Derived.Test.YtjgapphpbkapmaaGreatNJC5a0
set_option linter.unusedSimpArgs false
set_option linter.unusedVariables false
namespace Go.Proofs.YtjgapphpbkapmaaGreat
open Go Go.RowKit
set_option maxRecDepth 100000
set_option maxHeartbeats 20000000
instance X09:∀ (n:Nat) (p0:Z0) (q0:(List Q3)) (q1:Q5),Ct (Q2e n p0 q0 q1) fun res=>Z1 Tryz.prog 0o00153 [(.agg (V6 p0)),.cptr [(.slice 2 (List.map W2 q0))],.cptr (W1 q1)] (fun d=>d=(eB res)):=
 au Tryz.func107 Q2e.eq_1 .z
instance X2d:∀ (n:Nat) (p0:(List Q3)) (p1:Q5) (p2:(List Z0)),Ct (Q1z n p0 p1 p2) fun res=>Z1 Tryz.prog 0o00062 [(.slice 2 (List.map W2 p0)),(.agg (W1 p1)),(.slice 9 (List.map V6 p2))] (fun d=>d=(eB res)):=
 au Tryz.func50 Q1z.eq_1 .z
instance X08:∀ (n:Nat) (p0:(List Q3)) (p1:Q5) (p2:(List Z0)) (p3:Int),Ct (V5 n p0 p1 p2 p3) fun res=>Z1 Tryz.prog 0o00023 [(.slice 2 (List.map W2 p0)),(.agg (W1 p1)),(.slice 9 (List.map V6 p2)),(eI p3)] (fun d=>d=.tup [(.agg (Q22 res.1)),(eB res.2)]):=
 au Tryz.func19 V5.eq_1 (.o (.o (.o (.o (.o (.o (.i .z (.o (.i .z (.o (.i .z (.pN 12 3 0x0062 (.ls 33 (.f [0,2,3,5,8,12] [0,8,208] [0,2,3,5,8,12,38,39,40] [0,8,208] (fun (k381:Nat) (s377:(List Grow))=>[(12,.sl 3 208 (s377).length),(40,eI (k381:Int))]) (fun k381 s377=>[(208,some ⟨3,(List.map Q37 s377),0,0x0062⟩)]) (fun k381 s377=>.o (.ls 44 (.f [0,2,3,5,8,12,38,39,40] [0,1,2] [0,2,3,5,8,12,13,38,39,40,45,46,47] [0,1,2] (fun (k441:Nat) (s437:(List Grow))=>[(12,.sl 3 2 (s437).length),(47,eI (k441:Int))]) (fun k441 s437=>[(2,some ⟨3,(List.map Q37 s437),0,0x0062⟩)]) (fun k441 s437=>.o (.o (.o (.pF 76 .z)))) (fun s445=>.z)))) (fun s385=>.z)))))))))))))))
instance W1b:∀ (n:Nat) (p0:Z7),Ct (Q4i n p0) fun res=>J2 Tryz.prog 0o00242 [⟨2,[(V0 p0)],0,0x00c5⟩] [.ptr 2 0 0 0] (fun H d=>H=[some ⟨2,[(V0 res.2.2.2)],0,0x00c5⟩]∧d=.tup [(.slice 2 (List.map W2 res.1)),(.agg (W1 res.2.1)),(.agg (V2 res.2.2.1))]):=
 au Tryz.func162 Q4i.eq_1 (.o (.o (.o (.o (.o (.o (.j 4 0 [0,3,4,5,6,7] [0,9,17,137] (fun (s7:Int×Int)=>[]) (fun s7=>[(137,some ⟨2,[[(eI s7.1),(eI s7.2)]],0,0x0019⟩)]) .z (fun _=>.g [0,3,4,5,6,7] [0,1,2,3] [] [] (.o (.o (.d [0,1,2,3,4,5,6,7,8,9,10,11,12] [3] [] .z)))))))))))
instance X93:∀ (n:Nat) (p0:Z7) (p1:(List Q3)) (p2:Q5),Ct (Q3t n p0 p1 p2) fun res=>J2 Tryz.prog 0o00324 [⟨2,[(V0 p0)],0,0x00c5⟩] [.ptr 2 0 0 0,(.slice 2 (List.map W2 p1)),(.agg (W1 p2))] (fun H d=>H=[some ⟨2,[(V0 res.2)],0,0x00c5⟩]∧d=(.agg (V6 res.1))):=
 au Tryz.func212 Q3t.eq_1 (.o (.o (.o (.o (.b fun (r1:(Q0×Z7))=>.o (.ll 106 (.f [6,7] [0,9,57] [0,6,7,8,9] [0,9,57,106] (fun (k195:Nat) (s191:Z7×Int×Int×Int)=>[(9,eI (k195:Int))]) (fun k195 s191=>[(0,some ⟨2,[(V0 s191.1)],0,0x00c5⟩),(57,some ⟨9,[[(eI r1.1.op),(eI r1.1.ctor),(eI r1.1.n),(eI r1.1.m),(eI r1.1.var),(.slice 6 (List.map Q7 r1.1.kids)),(eI s191.2.1),(eI s191.2.2.1),(eI s191.2.2.2)]],0,0x0095⟩)]) (fun k195 s191=>.o (.j 6 0 [0,6,7,8,9] [0,1,2,3] (fun (s212:Z7×Int×Int×Int)=>[]) (fun s212=>[(0,some ⟨2,[(V0 s212.1)],0,0x00c5⟩),(2,some ⟨9,[[(eI r1.1.op),(eI r1.1.ctor),(eI r1.1.n),(eI r1.1.m),(eI r1.1.var),(.slice 6 (List.map Q7 r1.1.kids)),(eI s212.2.1),(eI s212.2.2.1),(eI s212.2.2.2)]],0,0x0095⟩)]) (.i (.o (.i (.g [0,6,7,8,9] [0,1,2,3] [] [] (.o (.o (.d [0,3,4,5,6,7,8,1,2,9,10,11,12] [3] [] .z)))) .z)) .z) (fun _=>.z))) (fun s199=>.z))))))))
instance W3a:∀ (n:Nat) (p0:Z7) (p1:(List Q3)) (p2:Q5),Ct (Q5b n p0 p1 p2) fun res=>J2 Tryz.prog 0o00243 [⟨2,[(V0 p0)],0,0x00c5⟩] [.ptr 2 0 0 0,(.slice 2 (List.map W2 p1)),(.agg (W1 p2))] (fun H d=>H=[some ⟨2,[(V0 res.2)],0,0x00c5⟩,some ⟨9,List.map V6 res.1,0,0x0095⟩]∧d=.sl 9 1 res.1.length):=
 au Tryz.func163 Q5b.eq_1 (.o (.o (.o (.o (.o (.w [7] [0,17] [0,1,5,7,8] [0,1,17] (fun (s50:Z7×(List Z0)×Int)=>[(7,.sl 9 17 (s50.2.1).length),(8,eI s50.2.2)]) (fun s50=>[(0,some ⟨2,[(V0 s50.1)],0,0x00c5⟩),(17,some ⟨9,(List.map V6 s50.2.1),0,0x0095⟩)]) (fun s50=>.z) (fun s58=>.z)))))))
instance W14:∀ (n:Nat) (p0:Z7),Ct (Q4h n p0) fun res=>J2 Tryz.prog 0o00125 [⟨2,[(V0 p0)],0,0x00c5⟩] [.ptr 2 0 0 0] (fun H d=>H=[some ⟨2,[(V0 res.2.2.2.2)],0,0x00c5⟩,some ⟨9,List.map V6 res.2.2.1,0,0x0095⟩]∧d=.tup [(.slice 2 (List.map W2 res.1)),(.agg (W1 res.2.1)),.sl 9 1 res.2.2.1.length,(.agg (V2 res.2.2.2.1))]):=
 au Tryz.func85 Q4h.eq_1 (.o (.o (.o (.g [0,3,5,6,7,8] [0,9,25,81,89] [] [] (.o (.d [0,1,2,3,4,6,5,7,8,9,10] [3,4] [] .z))))))
instance X3y:∀ (n:Nat) (p0:(List Int)),Ct (Q2c n p0) fun res=>Z1 Tryz.prog 0o00104 [(.slice 1 (List.map (rK .u8) p0))] (fun d=>d=.tup [(.slice 2 (List.map W2 res.1)),(.agg (W1 res.2.1)),(.slice 9 (List.map V6 res.2.2.1)),(eI res.2.2.2.1),(.agg (V2 res.2.2.2.2))]):=
 au Tryz.func68 Q2c.eq_1 (.o (.o (.o (.o (.g [3,6,7,8,9,10,11] [8,32,49,120,73,128] [] [] (.o (.o (.o (.dz [0,1,2,3,5,8,9,4,6,7,10,11,12,13,14,15] [3,5] [1048603] [] .z)))))))))
instance X03:∀ (n:Nat) (p0:(List Int)),Ct (Q17 n p0) fun res=>Z1 Tryz.prog 0o00033 [(.slice 1 (List.map (rK .u8) p0))] (fun d=>d=.tup [(.slice 2 (List.map W2 res.1)),(.agg (W1 res.2.1)),(.slice 9 (List.map V6 res.2.2.1)),(eI res.2.2.2.1),(.agg (V2 res.2.2.2.2))]):=
 au Tryz.func27 Q17.eq_1 (.o (.o (.o (.g [0,3,6,7,8,9,10,11] [8,32,104,112] [] [] (.o (.o (.d [0,1,2,3,4,6,5,7,8,9,10,11,12] [2,3] [] .z)))))))
instance X5s:∀ (n:Nat) (p0:(List Q3)) (p1:Q5) (p2:(List Z0)) (p3:Int) (p4:Z2),Ct (Q30 n p0 p1 p2 p3 p4) fun res=>Z1 Tryz.prog 0o00034 [(.slice 2 (List.map W2 p0)),(.agg (W1 p1)),(.slice 9 (List.map V6 p2)),(eI p3),(.agg (V2 p4))] (fun d=>d=.tup [(eI res.1),(.slice 1 (List.map rI res.2.1)),(eB res.2.2)]):=
 au Tryz.func28 Q30.eq_1 .z
instance X28:∀ (n:Nat) (p0:(List Q3)) (p1:Q5) (p2:(List Z0)),Ct (Q10 n p0 p1 p2) fun res=>Z1 Tryz.prog 0o00140 [(.slice 2 (List.map W2 p0)),(.agg (W1 p1)),(.slice 9 (List.map V6 p2))] (fun d=>d=(eB res)):=
 au Tryz.func96 Q10.eq_1 (.o (.o (.o (.o (.o (.i .z (.i .z (.ls 2 (.f [] [] [0,2,4,7] [0] (fun (k70:Nat) (s66:Unit)=>[(7,eI (k70:Int))]) (fun k70 s66=>[]) (fun k70 s66=>.o (.g [0,2,4,7] [0] [] [] (.o (.d [0,1,2,3,4,5,6,7] [0] [] .z)))) (fun s74=>.z))))))))))
instance X6x:∀ (n:Nat) (p0:(List Q3)) (p1:Q5) (p2:(List Z0)) (p3:Int),Ct (Q4p n p0 p1 p2 p3) fun res=>Z1 Tryz.prog 0o00160 [(.slice 2 (List.map W2 p0)),(.agg (W1 p1)),(.slice 9 (List.map V6 p2)),(eI p3)] (fun d=>d=.tup [(.agg (Q22 res.1)),(eB res.2)]):=
 au Tryz.func112 Q4p.eq_1 (.o (.o (.o (.o (.o (.ls 2 (.f [0,2,3,5,8] [0,8] [0,2,3,5,8,10] [0,8] (fun (k54:Nat) (s50:Unit)=>[(10,eI (k54:Int))]) (fun k54 s50=>[]) (fun k54 s50=>.z) (fun s58=>.g [0,2,3,5,8] [0,1] [] [] (.o (.o (.dz [0,1,2,3,5,7,6,4,8,9,10,11,12,13,14] [0] [1048609,1048587] [] .z)))))))))))
instance X04:∀ (n:Nat) (p0:(List Q3)) (p1:Q5) (p2:(List Z0)) (p3:Int),Ct (Q07 n p0 p1 p2 p3) fun res=>Z1 Tryz.prog 0o00065 [(.slice 2 (List.map W2 p0)),(.agg (W1 p1)),(.slice 9 (List.map V6 p2)),(eI p3)] (fun d=>d=.tup [(.agg (Q22 res.1)),(eB res.2)]):=
 au Tryz.func53 Q07.eq_1 .z
instance X5l:∀ (n:Nat) (p0:(List Q3)) (p1:Q5) (p2:(List Z0)) (p3:Int) (p4:Z2),Ct (Q2v n p0 p1 p2 p3 p4) fun res=>Z1 Tryz.prog 0o00035 [(.slice 2 (List.map W2 p0)),(.agg (W1 p1)),(.slice 9 (List.map V6 p2)),(eI p3),(.agg (V2 p4))] (fun d=>d=.tup [(eI res.1),(.slice 1 (List.map rI res.2.1)),(eB res.2.2)]):=
 au Tryz.func29 Q2v.eq_1 .z
instance Z2c:∀ (n:Nat) (p0:(List Int)),Ct (Q1r n p0) fun res=>Z1 Tryz.prog 0o00006 [(.slice 1 (List.map (rK .u8) p0))] (fun d=>d=(eB res)):=
 au Tryz.func6 Q1r.eq_1 (.o (.o (.i .z (.o (.o (.o (.o (.i .z (.i .z (.o (.i .z (.i .z (.i .z (.o (.i .z (.ls 37 (.f [8,16] [680] [8,9,16,17] [680] (fun (k276:Nat) (s272:Z2)=>[(17,eI (k276:Int))]) (fun k276 s272=>[(680,some ⟨3,[(V2 s272)],0,0x001d⟩)]) (fun k276 s272=>.o (.i (.g [8,9,16,17] [0] [] [] (.o (.d [0,1,2,3,4,5,6,7,8] [0] [16] .z))) .z)) (fun s280=>.z))))))))))))))))))
theorem Z2o (n:Nat)(p0:(List Int)):∀ res,Q1r n p0=some res→Z1 Tryz.prog 0o00006 [(.slice 1 (List.map (rK .u8) p0))] (fun d=>d=(eB res)):=(Z2c n p0).pf
end Go.Proofs.YtjgapphpbkapmaaGreat
