import Derived.Test.YtfhpjeogjcfkaaaGreatRJC5c0
import Derived.Test.YtfhpjeogjcfkaaaGreatRJC5a0
import Derived.Test.YtfhpjeogjcfkaaaGreatRJC5d0
import Derived.Test.YtfhpjeogjcfkaaaGreatRJC4a0
import Derived.Test.YtfhpjeogjcfkaaaGreatRJC5b0
set_option linter.unusedSimpArgs false
set_option linter.unusedVariables false
namespace Go.Proofs.YtfhpjeogjcfkaaaGreat
open Go Go.RowKit
set_option maxRecDepth 100000
set_option maxHeartbeats 20000000
instance W64:∀ (n:Nat) (p0:Z7) (p1:(List Q3)) (p2:Q6),Ct (Q5v n p0 p1 p2) fun res=>J4 Tryz.prog 0o00467 [⟨2,[(V9 p0)],0,0x00d7⟩] [.ptr 2 0 0 0,(.slice 2 (List.map W8 p1)),(.agg (W6 p2))] (fun H d=>H=[some ⟨2,[(V9 res.2)],0,0x00d7⟩]∧d=(.agg (Z0 res.1))):=
 au Tryz.func311 Q5v.eq_1 (.o (.o (.o (.o (.g [0,1,5,6] [0,1,9] [] [] (.o (.o (.o (.dz [0,1,2,3,4,5,6,7,8,9,10,11,12,13,14] [1] [1048583] [] .z)))))))))
instance W1q:∀ (n:Nat) (p0:Z7) (p1:(List Q3)) (p2:Q6),Ct (Q4a n p0 p1 p2) fun res=>J4 Tryz.prog 0o00373 [⟨2,[(V9 p0)],0,0x00d7⟩] [.ptr 2 0 0 0,(.slice 2 (List.map W8 p1)),(.agg (W6 p2))] (fun H d=>H=[some ⟨2,[(V9 res.2)],0,0x00d7⟩]∧d=(.agg (V6 res.1))):=
 au Tryz.func251 Q4a.eq_1 (.o (.o (.o (.o (.b fun (r1:(Q0×Z7))=>.o (.ll 106 (.f [6,7] [0,9,57] [0,6,7,8,9] [0,9,57,106] (fun (k195:Nat) (s191:Z7×Int×Int×Int)=>[(9,eI (k195:Int))]) (fun k195 s191=>[(0,some ⟨2,[(V9 s191.1)],0,0x00d7⟩),(57,some ⟨9,[[(eI r1.1.op),(eI r1.1.ctor),(eI r1.1.n),(eI r1.1.m),(eI r1.1.var),(.slice 6 (List.map Z0 r1.1.kids)),(eI s191.2.1),(eI s191.2.2.1),(eI s191.2.2.2)]],0,0x00a1⟩)]) (fun k195 s191=>.o (.j 6 0 [0,6,7,8,9] [0,1,2,3] (fun (s212:Z7×Int×Int×Int)=>[]) (fun s212=>[(0,some ⟨2,[(V9 s212.1)],0,0x00d7⟩),(2,some ⟨9,[[(eI r1.1.op),(eI r1.1.ctor),(eI r1.1.n),(eI r1.1.m),(eI r1.1.var),(.slice 6 (List.map Z0 r1.1.kids)),(eI s212.2.1),(eI s212.2.2.1),(eI s212.2.2.2)]],0,0x00a1⟩)]) (.i (.o (.i (.g [0,6,7,8,9] [0,1,2,3] [] [] (.o (.o (.d [0,3,4,5,6,7,8,1,2,9,10,11,12] [3] [] .z)))) .z)) .z) (fun _=>.z))) (fun s199=>.z))))))))
instance W62:∀ (n:Nat) (p0:Z7) (p1:(List Q3)) (p2:Q6),Ct (Q5u n p0 p1 p2) fun res=>J4 Tryz.prog 0o00270 [⟨2,[(V9 p0)],0,0x00d7⟩] [.ptr 2 0 0 0,(.slice 2 (List.map W8 p1)),(.agg (W6 p2))] (fun H d=>H=[some ⟨2,[(V9 res.2)],0,0x00d7⟩,some ⟨9,List.map V6 res.1,0,0x00a1⟩]∧d=.sl 9 1 res.1.length):=
 au Tryz.func184 Q5u.eq_1 (.o (.o (.o (.o (.o (.w [7] [0,17] [0,1,5,7,8] [0,1,17] (fun (s50:Z7×(List Z1)×Int)=>[(7,.sl 9 17 (s50.2.1).length),(8,eI s50.2.2)]) (fun s50=>[(0,some ⟨2,[(V9 s50.1)],0,0x00d7⟩),(17,some ⟨9,(List.map V6 s50.2.1),0,0x00a1⟩)]) (fun s50=>.z) (fun s58=>.z)))))))
instance W40:∀ (n:Nat) (p0:Z7),Ct (Q53 n p0) fun res=>J4 Tryz.prog 0o00370 [⟨2,[(V9 p0)],0,0x00d7⟩] [.ptr 2 0 0 0] (fun H d=>H=[some ⟨2,[(V9 res.2)],0,0x00d7⟩]∧d=(.slice 2 (List.map W8 res.1))):=
 au Tryz.func248 Q53.eq_1 .z
instance W3y:∀ (n:Nat) (p0:Z7),Ct (Q52 n p0) fun res=>J4 Tryz.prog 0o00267 [⟨2,[(V9 p0)],0,0x00d7⟩] [.ptr 2 0 0 0] (fun H d=>H=[some ⟨2,[(V9 res.2.2.2)],0,0x00d7⟩]∧d=.tup [(.slice 2 (List.map W8 res.1)),(.agg (W6 res.2.1)),(.agg (W4 res.2.2.1))]):=
 au Tryz.func183 Q52.eq_1 (.o (.o (.o (.o (.o (.o (.j 4 0 [0,3,4,5,6,7] [0,9,17,137] (fun (s7:Int×Int)=>[]) (fun s7=>[(137,some ⟨2,[[(eI s7.1),(eI s7.2)]],0,0x0019⟩)]) .z (fun _=>.g [0,3,4,5,6,7] [0,1,2,3] [] [] (.o (.o (.d [0,1,2,3,4,5,6,7,8,9,10,11,12] [3] [] .z)))))))))))
instance W3r:∀ (n:Nat) (p0:Z7),Ct (Q51 n p0) fun res=>J4 Tryz.prog 0o00135 [⟨2,[(V9 p0)],0,0x00d7⟩] [.ptr 2 0 0 0] (fun H d=>H=[some ⟨2,[(V9 res.2.2.2.2)],0,0x00d7⟩,some ⟨9,List.map V6 res.2.2.1,0,0x00a1⟩]∧d=.tup [(.slice 2 (List.map W8 res.1)),(.agg (W6 res.2.1)),.sl 9 1 res.2.2.1.length,(.agg (W4 res.2.2.2.1))]):=
 au Tryz.func93 Q51.eq_1 (.o (.o (.o (.g [0,3,5,6,7,8] [0,9,25,81,89] [] [] (.o (.d [0,1,2,3,4,6,5,7,8,9,10] [3,4] [] .z))))))
instance X64:∀ (n:Nat) (p0:(List Int)),Ct (Q2l n p0) fun res=>Z2 Tryz.prog 0o00102 [(.slice 1 (List.map (rK .u8) p0))] (fun d=>d=.tup [(.slice 2 (List.map W8 res.1)),(.agg (W6 res.2.1)),(.slice 9 (List.map V6 res.2.2.1)),(eI res.2.2.2.1),(.agg (W4 res.2.2.2.2))]):=
 au Tryz.func66 Q2l.eq_1 (.o (.o (.o (.o (.g [3,6,7,8,9,10,11] [8,32,49,120,73,128] [] [] (.o (.o (.o (.dz [0,1,2,3,5,8,9,4,6,7,10,11,12,13,14,15] [3,5] [1048603] [] .z)))))))))
instance X48:∀ (n:Nat) (p0:(List Int)),Ct (Q3n n p0) fun res=>Z2 Tryz.prog 0o00025 [(.slice 1 (List.map (rK .u8) p0))] (fun d=>d=.tup [(.slice 2 (List.map W8 res.1)),(.agg (W6 res.2.1)),(.slice 9 (List.map V6 res.2.2.1)),(eI res.2.2.2.1),(.agg (W4 res.2.2.2.2))]):=
 au Tryz.func21 Q3n.eq_1 .z
instance W24:∀ (n:Nat) (p0:(List Q3)) (p1:Q6) (p2:Z1),Ct (Q3c n p0 p1 p2) fun res=>Z2 Tryz.prog 0o00163 [(.slice 2 (List.map W8 p0)),(.agg (W6 p1)),(.agg (V6 p2))] (fun d=>d=(eB res)):=
 au Tryz.func115 Q3c.eq_1 .z
instance X29:∀ (n:Nat) (p0:Z1) (q0:(List Q3)) (q1:Q6),Ct (Q2n n p0 q0 q1) fun res=>Z2 Tryz.prog 0o00162 [(.agg (V6 p0)),.cptr [(.slice 2 (List.map W8 q0))],.cptr (W6 q1)] (fun d=>d=(eB res)):=
 au Tryz.func114 Q2n.eq_1 .z
instance X4c:∀ (n:Nat) (p0:(List Q3)) (p1:Q6) (p2:(List Z1)),Ct (Q25 n p0 p1 p2) fun res=>Z2 Tryz.prog 0o00064 [(.slice 2 (List.map W8 p0)),(.agg (W6 p1)),(.slice 9 (List.map V6 p2))] (fun d=>d=(eB res)):=
 au Tryz.func52 Q25.eq_1 .z
instance X28:∀ (n:Nat) (p0:(List Q3)) (p1:Q6) (p2:(List Z1)) (p3:Int),Ct (J8 n p0 p1 p2 p3) fun res=>Z2 Tryz.prog 0o00023 [(.slice 2 (List.map W8 p0)),(.agg (W6 p1)),(.slice 9 (List.map V6 p2)),(eI p3)] (fun d=>d=.tup [(.agg (Q33 res.1)),(eB res.2)]):=
 au Tryz.func19 J8.eq_1 (.o (.o (.o (.o (.o (.o (.i .z (.o (.i .z (.o (.i .z (.pN 12 3 0x0066 (.ls 33 (.f [0,2,3,5,8,12] [0,8,208] [0,2,3,5,8,12,38,39,40] [0,8,208] (fun (k381:Nat) (s377:(List Grow))=>[(12,.sl 3 208 (s377).length),(40,eI (k381:Int))]) (fun k381 s377=>[(208,some ⟨3,(List.map Q3j s377),0,0x0066⟩)]) (fun k381 s377=>.o (.ls 44 (.f [0,2,3,5,8,12,38,39,40] [0,1,2] [0,2,3,5,8,12,13,38,39,40,45,46,47] [0,1,2] (fun (k441:Nat) (s437:(List Grow))=>[(12,.sl 3 2 (s437).length),(47,eI (k441:Int))]) (fun k441 s437=>[(2,some ⟨3,(List.map Q3j s437),0,0x0066⟩)]) (fun k441 s437=>.o (.o (.o (.pF 76 .z)))) (fun s445=>.z)))) (fun s385=>.z)))))))))))))))
instance W4f:∀ (n:Nat) (p0:(List Q3)) (p1:Q6) (p2:(List Z1)) (p3:Int) (p4:Q2),Ct (Q41 n p0 p1 p2 p3 p4) fun res=>Z2 Tryz.prog 0o00030 [(.slice 2 (List.map W8 p0)),(.agg (W6 p1)),(.slice 9 (List.map V6 p2)),(eI p3),(.agg (W4 p4))] (fun d=>d=.tup [(eI res.1),(.slice 4 (List.map Q48 res.2.1)),(eI res.2.2)]):=
 au Tryz.func24 Q41.eq_1 .z
instance W26:∀ (n:Nat) (p0:(List Q3)) (p1:Q6) (p2:(List Z1)) (p3:Int) (p4:Q2),Ct (Q62 n p0 p1 p2 p3 p4) fun res=>Z2 Tryz.prog 0o00026 [(.slice 2 (List.map W8 p0)),(.agg (W6 p1)),(.slice 9 (List.map V6 p2)),(eI p3),(.agg (W4 p4))] (fun d=>d=.tup [(eI res.1),(.slice 4 (List.map Q48 res.2.1)),(eI res.2.2)]):=
 au Tryz.func22 Q62.eq_1 .z
instance V03:∀ (n:Nat) (p0:(List Q3)) (p1:Q6) (p2:Z1),Ct (Q7g n p0 p1 p2) fun res=>Z2 Tryz.prog 0o00250 [(.slice 2 (List.map W8 p0)),(.agg (W6 p1)),(.agg (V6 p2))] (fun d=>d=(eB res)):=
 au Tryz.func168 Q7g.eq_1 (.o (.o (.o (.o (.g [0,4,5] [0,8] [] [] (.o (.i (.o (.o (.d [0,1,2,3,4,5,6,7,8,9,10,11,12,13,14,15] [0,1] [] .z))) (.d [0,1,2,3,4,5,6,7,8,9,10,11,12,13,14,15] [0,1] [] .z))))))))
instance X49:∀ (n:Nat) (p0:(List Q3)) (p1:Q6) (p2:(List Z1)),Ct (Q17 n p0 p1 p2) fun res=>Z2 Tryz.prog 0o00122 [(.slice 2 (List.map W8 p0)),(.agg (W6 p1)),(.slice 9 (List.map V6 p2))] (fun d=>d=(eB res)):=
 au Tryz.func82 Q17.eq_1 (.o (.o (.o (.o (.o (.i .z (.i .z (.ls 2 (.f [] [] [0,2,4,7] [0] (fun (k70:Nat) (s66:Unit)=>[(7,eI (k70:Int))]) (fun k70 s66=>[]) (fun k70 s66=>.o (.g [0,2,4,7] [0] [] [] (.o (.d [0,1,2,3,4,5,6,7] [0] [] .z)))) (fun s74=>.z))))))))))
instance W5u:∀ (n:Nat) (p0:(List Q3)) (p1:(List Z1)) (p2:(List Y5)) (p3:(List V2)) (p4:Int) (p5:Int),Ct (Q1o n p0 p1 p2 p3 p4 p5) fun res=>Z2 Tryz.prog 0o00316 [(.slice 2 (List.map W8 p0)),(.slice 9 (List.map V6 p1)),(.slice 3 (List.map Q15 p2)),(.slice 3 (List.map Q1e p3)),(eI p4),(eI p5)] (fun d=>d=.tup [(.agg (Q33 res.1)),(eI res.2)]):=
 ar (au Tryz.func206 Q1o.eq_2 (.o (.o (.o (.o (.o (.o (.o (.o (.i .z (.i .z (.o (.o (.i (.g [0,1,2,3,4,5,12,14] [0,120] [] [] (.o (.dz [0,1,2,3,4,5,6,7] [1] [1048591] [] .z))) (.o (.b fun (x31:Y5)=>.o (.o (.pC 272 4 9 0x00b3 (.ls 96 (.f [5,12,19] [0,272,256,368] [0,1,2,3,4,5,12,18,19,20,21] [0,272,256,368] (fun (k145:Nat) (s141:Int×(List Q8))=>[(5,eI s141.1),(21,eI (k145:Int))]) (fun k145 s141=>[(1000000272,some ⟨6,[[(eI 2),(eI 0),.nil,(.sl 1 256 (x31.path).length),(.sl 9 368 (s141.2).length),.nil]],0,0x0030⟩),(368,some ⟨9,(List.map J3 s141.2),0,0x00b3⟩)]) (fun k145 s141=>.o (.i (.g [0,1,2,3,4,5,12,18,19,20,21,22] [0,1,2,3,100] [] [(1000000001,some ⟨6,[[(eI 2),(eI 0),.nil,(.sl 1 2 (x31.path).length),(.sl 9 3 (s141.2).length),.nil]],0,0x0030⟩)] (.o (.o (.o (.dz [0,1,2,3,4,5,7,8,9,10,11,13,14,6,12,15,16,17,18,19,20,21] [4] [1048599] [] .z))))) .z)) (fun s149=>.z)))))))))))))))))))))
instance X9h:∀ (n:Nat) (p0:(List Q3)) (p1:Q6) (p2:(List Z1)) (p3:Int),Ct (Q59 n p0 p1 p2 p3) fun res=>Z2 Tryz.prog 0o00166 [(.slice 2 (List.map W8 p0)),(.agg (W6 p1)),(.slice 9 (List.map V6 p2)),(eI p3)] (fun d=>d=.tup [(.agg (Q33 res.1)),(eB res.2)]):=
 au Tryz.func118 Q59.eq_1 (.o (.o (.o (.o (.o (.ls 2 (.f [0,2,3,5,8] [0,8] [0,2,3,5,8,10] [0,8] (fun (k54:Nat) (s50:Unit)=>[(10,eI (k54:Int))]) (fun k54 s50=>[]) (fun k54 s50=>.z) (fun s58=>.g [0,2,3,5,8] [0,1] [] [] (.o (.o (.dz [0,1,2,3,5,7,6,4,8,9,10,11,12,13,14] [0] [1048609,1048587] [] .z)))))))))))
instance X24:∀ (n:Nat) (p0:(List Q3)) (p1:Q6) (p2:(List Z1)) (p3:Int),Ct (Q0q n p0 p1 p2 p3) fun res=>Z2 Tryz.prog 0o00067 [(.slice 2 (List.map W8 p0)),(.agg (W6 p1)),(.slice 9 (List.map V6 p2)),(eI p3)] (fun d=>d=.tup [(.agg (Q33 res.1)),(eB res.2)]):=
 au Tryz.func55 Q0q.eq_1 .z
instance W1w:∀ (n:Nat) (p0:(List Q3)) (p1:Q6) (p2:(List Z1)) (p3:Int) (p4:Q2),Ct (Q4c n p0 p1 p2 p3 p4) fun res=>Z2 Tryz.prog 0o00027 [(.slice 2 (List.map W8 p0)),(.agg (W6 p1)),(.slice 9 (List.map V6 p2)),(eI p3),(.agg (W4 p4))] (fun d=>d=.tup [(eI res.1),(.slice 4 (List.map Q48 res.2.1)),(eI res.2.2)]):=
 au Tryz.func23 Q4c.eq_1 .z
instance Z3j:∀ (n:Nat) (p0:(List Int)),Ct (Q1x n p0) fun res=>Z2 Tryz.prog 0o00005 [(.slice 1 (List.map (rK .u8) p0))] (fun d=>d=(eB res)):=
 au Tryz.func5 Q1x.eq_1 .z
theorem Z3x (n:Nat)(p0:(List Int)):∀ res,Q1x n p0=some res→Z2 Tryz.prog 0o00005 [(.slice 1 (List.map (rK .u8) p0))] (fun d=>d=(eB res)):=(Z3j n p0).pf
end Go.Proofs.YtfhpjeogjcfkaaaGreat
