import Derived.Test.YtjgapphpbkapmaaGreatJC5d0
import Derived.Test.YtjgapphpbkapmaaGreatJC4a0
set_option linter.unusedSimpArgs false
set_option linter.unusedVariables false
namespace Go.Proofs.YtjgapphpbkapmaaGreat
open Go Go.RowKit
set_option maxRecDepth 100000
set_option maxHeartbeats 20000000
instance W4u:∀ (n:Nat) (p0:(List Q3)) (p1:Q4) (p2:Q6),Ct (Q42 n p0 p1 p2) fun res=>Z2 Tryz.prog 0o00154 [(.slice 2 (List.map W2 p0)),(.agg (W0 p1)),(.agg (V1 p2))] (fun d=>d=(eB res)):=
 au Tryz.func108 Q42.eq_1 .z
instance X4m:∀ (n:Nat) (p0:Q6) (q0:(List Q3)) (q1:Q4),Ct (Q3g n p0 q0 q1) fun res=>Z2 Tryz.prog 0o00153 [(.agg (V1 p0)),.cptr [(.slice 2 (List.map W2 q0))],.cptr (W0 q1)] (fun d=>d=(eB res)):=
 au Tryz.func107 Q3g.eq_1 .z
instance X6z:∀ (n:Nat) (p0:(List Q3)) (p1:Q4) (p2:(List Q6)),Ct (Q24 n p0 p1 p2) fun res=>Z2 Tryz.prog 0o00062 [(.slice 2 (List.map W2 p0)),(.agg (W0 p1)),(.slice 9 (List.map V1 p2))] (fun d=>d=(eB res)):=
 au Tryz.func50 Q24.eq_1 .z
instance X4l:∀ (n:Nat) (p0:(List Q3)) (p1:Q4) (p2:(List Q6)) (p3:Int),Ct (V4 n p0 p1 p2 p3) fun res=>Z2 Tryz.prog 0o00023 [(.slice 2 (List.map W2 p0)),(.agg (W0 p1)),(.slice 9 (List.map V1 p2)),(eI p3)] (fun d=>d=.tup [(.agg (Q2s res.1)),(eB res.2)]):=
 au Tryz.func19 V4.eq_1 (.o (.o (.o (.o (.o (.o (.i .z (.o (.i .z (.o (.i .z (.pN 12 3 0x0062 (.ls 33 (.f [0,2,3,5,8,12] [0,8,208] [0,2,3,5,8,12,38,39,40] [0,8,208] (fun (k381:Nat) (s377:(List Grow))=>[(12,.sl 3 208 (s377).length),(40,eI (k381:Int))]) (fun k381 s377=>[(208,some ⟨3,(List.map Q4b s377),0,0x0062⟩)]) (fun k381 s377=>.o (.ls 44 (.f [0,2,3,5,8,12,38,39,40] [0,1,2] [0,2,3,5,8,12,13,38,39,40,45,46,47] [0,1,2] (fun (k441:Nat) (s437:(List Grow))=>[(12,.sl 3 2 (s437).length),(47,eI (k441:Int))]) (fun k441 s437=>[(2,some ⟨3,(List.map Q4b s437),0,0x0062⟩)]) (fun k441 s437=>.o (.o (.o (.pF 76 .z)))) (fun s445=>.z)))) (fun s385=>.z)))))))))))))))
instance X6x:∀ (n:Nat) (p0:(List Q3)) (p1:Q4) (p2:Q1),Ct (Q0q n p0 p1 p2) fun res=>Z2 Tryz.prog 0o00036 [(.slice 2 (List.map W2 p0)),(.agg (W0 p1)),(.agg (X1 p2))] (fun d=>d=(eB res)):=
 au Tryz.func30 Q0q.eq_1 .z
instance Z54:∀ (n:Nat) (p0:(List Q3)) (p1:Q4) (p2:(List Q6)) (p3:Int) (p4:Q1),Ct (Q19 n p0 p1 p2 p3 p4) fun res=>Z2 Tryz.prog 0o00034 [(.slice 2 (List.map W2 p0)),(.agg (W0 p1)),(.slice 9 (List.map V1 p2)),(eI p3),(.agg (X1 p4))] (fun d=>d=.tup [(eI res.1),(.slice 1 (List.map rI res.2.1)),(eB res.2.2)]):=
 au Tryz.func28 Q19.eq_1 .z
end Go.Proofs.YtjgapphpbkapmaaGreat
