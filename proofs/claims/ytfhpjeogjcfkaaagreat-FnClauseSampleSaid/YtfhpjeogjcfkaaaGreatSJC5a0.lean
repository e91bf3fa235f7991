import Derived.Test.YtfhpjeogjcfkaaaGreatSJC4d0
import Derived.Test.YtfhpjeogjcfkaaaGreatSJC3d0
import Derived.Test.YtfhpjeogjcfkaaaGreatSJC4b0
set_option linter.unusedSimpArgs false
set_option linter.unusedVariables false
namespace Go.Proofs.YtfhpjeogjcfkaaaGreat
open Go Go.RowKit
set_option maxRecDepth 100000
set_option maxHeartbeats 20000000
instance V2l:∀ (n:Nat) (p0:(List Q4)) (p1:Q1) (p2:Q0),Ct (Q4k n p0 p1 p2) fun res=>Q6 Tryz.prog 0o00353 [(.slice 2 (List.map Z8 p0)),(.agg (Z2 p1)),(.agg (Q2 p2))] (fun d=>d=(eB res)):=
 au Tryz.func235 Q4k.eq_1 .z
instance V2k:∀ (n:Nat) (p0:(List Q4)) (p1:Q1) (p2:Q5),Ct (Q84 n p0 p1 p2) fun res=>Q6 Tryz.prog 0o00250 [(.slice 2 (List.map Z8 p0)),(.agg (Z2 p1)),(.agg (X4 p2))] (fun d=>d=(eB res)):=
 au Tryz.func168 Q84.eq_1 (.o (.o (.o (.o (.g [0,4,5] [0,8] [] [] (.o (.i (.o (.o (.d [0,1,2,3,4,5,6,7,8,9,10,11,12,13,14,15] [0,1] [] .z))) (.d [0,1,2,3,4,5,6,7,8,9,10,11,12,13,14,15] [0,1] [] .z))))))))
instance X6j:∀ (n:Nat) (p0:(List Q4)) (p1:Q1) (p2:(List Q5)),Ct (Q01 n p0 p1 p2) fun res=>Q6 Tryz.prog 0o00122 [(.slice 2 (List.map Z8 p0)),(.agg (Z2 p1)),(.slice 9 (List.map X4 p2))] (fun d=>d=(eB res)):=
 au Tryz.func82 Q01.eq_1 (.o (.o (.o (.o (.o (.i .z (.i .z (.ls 2 (.f [] [] [0,2,4,7] [0] (fun (k70:Nat) (s66:Unit)=>[(7,eI (k70:Int))]) (fun k70 s66=>[]) (fun k70 s66=>.o (.g [0,2,4,7] [0] [] [] (.o (.d [0,1,2,3,4,5,6,7] [0] [] .z)))) (fun s74=>.z))))))))))
instance W62:∀ (n:Nat) (p0:(List Q4)) (p1:Q1) (p2:(List Q0)) (p3:Bool),Ct (Q61 n p0 p1 p2 p3) fun res=>Q6 Tryz.prog 0o00456 [(.slice 2 (List.map Z8 p0)),(.agg (Z2 p1)),(.slice 6 (List.map Q2 p2)),(eB p3)] (fun d=>d=.tup [(.slice 6 (List.map Q2 res.1)),(eB res.2)]):=
 au Tryz.func302 Q61.eq_1 (.o (.o (.o (.o (.o (.ls 2 (.f [2,3] [] [0,2,3,5,10] [0] (fun (k54:Nat) (s50:Unit)=>[(10,eI (k54:Int))]) (fun k54 s50=>[]) (fun k54 s50=>.o (.g [0,2,3,5,10] [0] [] [] (.o (.d [0,1,2,3,4,5,6,7] [0] [] .z)))) (fun s58=>.z))))))))
instance W83:∀ (n:Nat) (p0:(List Q4)) (p1:Q1) (p2:(List Q0)) (p3:(List Q5)) (p4:Int),Ct (Q5n n p0 p1 p2 p3 p4) fun res=>Q6 Tryz.prog 0o00361 [(.slice 2 (List.map Z8 p0)),(.agg (Z2 p1)),(.slice 6 (List.map Q2 p2)),(.slice 9 (List.map X4 p3)),(eI p4)] (fun d=>d=.tup [(.slice 6 (List.map Q2 res.1)),(eB res.2)]):=
 au Tryz.func241 Q5n.eq_1 (.o (.o (.o (.o (.o (.o (.o (.i .z (.g [0,2,6,12] [0] [] [] (.o (.o (.d [0,1,3,4,5,2,6,7,8,9,10,11] [0] [] .z))))))))))))
instance X6g:∀ (n:Nat) (p0:(List Q4)) (p1:Q1) (p2:Q0),Ct (Q20 n p0 p1 p2) fun res=>Q6 Tryz.prog 0o00362 [(.slice 2 (List.map Z8 p0)),(.agg (Z2 p1)),(.agg (Q2 p2))] (fun d=>d=(eB res)):=
 au Tryz.func242 Q20.eq_1 .z
instance X6i:∀ (n:Nat) (p0:(List Q4)) (p1:Q1) (p2:Q0),Ct (Q4m n p0 p1 p2) fun res=>Q6 Tryz.prog 0o00363 [(.slice 2 (List.map Z8 p0)),(.agg (Z2 p1)),(.agg (Q2 p2))] (fun d=>d=(eB res)):=
 au Tryz.func243 Q4m.eq_1 (.o (.o (.o (.o (.o (.i .z (.g [0,4,5] [0,8] [] [] (.o (.o (.d [0,1,3,4,2,5,6,7] [0,1] [] .z))))))))))
instance W8c:∀ (n:Nat) (p0:Z0) (p1:(List Q4)) (p2:Q1),Ct (Q4j n p0 p1 p2) fun res=>Q19 Tryz.prog 0o00467 [⟨2,[(Y7 p0)],0,0x00d7⟩] [.ptr 2 0 0 0,(.slice 2 (List.map Z8 p1)),(.agg (Z2 p2))] (fun H d=>H=[some ⟨2,[(Y7 res.2)],0,0x00d7⟩]∧d=(.agg (Q2 res.1))):=
 au Tryz.func311 Q4j.eq_1 (.o (.o (.o (.o (.g [0,1,5,6] [0,1,9] [] [] (.o (.o (.o (.dz [0,1,2,3,4,5,6,7,8,9,10,11,12,13,14] [1] [1048583] [] .z)))))))))
instance W4i:∀ (n:Nat) (p0:Z0) (p1:(List Q4)) (p2:Q1),Ct (Q2t n p0 p1 p2) fun res=>Q19 Tryz.prog 0o00373 [⟨2,[(Y7 p0)],0,0x00d7⟩] [.ptr 2 0 0 0,(.slice 2 (List.map Z8 p1)),(.agg (Z2 p2))] (fun H d=>H=[some ⟨2,[(Y7 res.2)],0,0x00d7⟩]∧d=(.agg (X4 res.1))):=
 au Tryz.func251 Q2t.eq_1 (.o (.o (.o (.o (.b fun (r1:(Q0×Z0))=>.o (.ll 106 (.f [6,7] [0,9,57] [0,6,7,8,9] [0,9,57,106] (fun (k195:Nat) (s191:Z0×Int×Int×Int)=>[(9,eI (k195:Int))]) (fun k195 s191=>[(0,some ⟨2,[(Y7 s191.1)],0,0x00d7⟩),(57,some ⟨9,[[(eI r1.1.op),(eI r1.1.ctor),(eI r1.1.n),(eI r1.1.m),(eI r1.1.var),(.slice 6 (List.map Q2 r1.1.kids)),(eI s191.2.1),(eI s191.2.2.1),(eI s191.2.2.2)]],0,0x00a1⟩)]) (fun k195 s191=>.o (.j 6 0 [0,6,7,8,9] [0,1,2,3] (fun (s212:Z0×Int×Int×Int)=>[]) (fun s212=>[(0,some ⟨2,[(Y7 s212.1)],0,0x00d7⟩),(2,some ⟨9,[[(eI r1.1.op),(eI r1.1.ctor),(eI r1.1.n),(eI r1.1.m),(eI r1.1.var),(.slice 6 (List.map Q2 r1.1.kids)),(eI s212.2.1),(eI s212.2.2.1),(eI s212.2.2.2)]],0,0x00a1⟩)]) (.i (.o (.i (.g [0,6,7,8,9] [0,1,2,3] [] [] (.o (.o (.d [0,3,4,5,6,7,8,1,2,9,10,11,12] [3] [] .z)))) .z)) .z) (fun _=>.z))) (fun s199=>.z))))))))
end Go.Proofs.YtfhpjeogjcfkaaaGreat
