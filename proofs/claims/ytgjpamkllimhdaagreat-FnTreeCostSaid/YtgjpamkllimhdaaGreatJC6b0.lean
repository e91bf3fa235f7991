import Derived.Test.YtgjpamkllimhdaaGreatJC5c0
import Derived.Test.YtgjpamkllimhdaaGreatJC5d0
import Derived.Test.YtgjpamkllimhdaaGreatJC4a0
set_option linter.unusedSimpArgs false
set_option linter.unusedVariables false
namespace Go.Proofs.YtgjpamkllimhdaaGreat
open Go Go.RowKit
set_option maxRecDepth 100000
set_option maxHeartbeats 20000000
instance W7p:∀ (n:Nat) (p0:(List Q4)) (p1:Q6) (p2:Q3),Ct (Q4o n p0 p1 p2) fun res=>Z1 Tryz.prog 0o00152 [(.slice 2 (List.map W1 p0)),(.agg (W0 p1)),(.agg (X9 p2))] (fun d=>d=(eB res)):=
 au Tryz.func106 Q4o.eq_1 .z
instance X6w:∀ (n:Nat) (p0:Q3) (q0:(List Q4)) (q1:Q6),Ct (Q3v n p0 q0 q1) fun res=>Z1 Tryz.prog 0o00151 [(.agg (X9 p0)),.cptr [(.slice 2 (List.map W1 q0))],.cptr (W0 q1)] (fun d=>d=(eB res)):=
 au Tryz.func105 Q3v.eq_1 .z
instance X9a:∀ (n:Nat) (p0:(List Q4)) (p1:Q6) (p2:(List Q3)),Ct (Q1y n p0 p1 p2) fun res=>Z1 Tryz.prog 0o00070 [(.slice 2 (List.map W1 p0)),(.agg (W0 p1)),(.slice 9 (List.map X9 p2))] (fun d=>d=(eB res)):=
 au Tryz.func56 Q1y.eq_1 .z
instance X99:∀ (n:Nat) (p0:(List Q4)) (p1:Q6) (p2:(List Q3)),Ct (Q1b n p0 p1 p2) fun res=>Z1 Tryz.prog 0o00030 [(.slice 2 (List.map W1 p0)),(.agg (W0 p1)),(.slice 9 (List.map X9 p2))] (fun d=>d=.tup [(.slice 8 (List.map Q21 res.1)),(eB res.2)]):=
 au Tryz.func24 Q1b.eq_1 (.o (.o (.o (.o (.o (.i .z (.o (.i .z (.pC 136 0 8 0x0038 (.ls 28 (.f [10] [136,168] [10,32,33,34] [136,168] (fun (k8573:Nat) (s8569:(List X0))=>[(34,eI (k8573:Int))]) (fun k8573 s8569=>[(1000000136,some ⟨1,[[(.sl 8 168 (s8569).length)]],0,0x0031⟩),(168,some ⟨8,(List.map Q21 s8569),0,0x0038⟩)]) (fun k8573 s8569=>.o (.ls 38 (.f [10,13,32,33,34] [0,1] [10,11,13,32,33,34,41,42,43] [0,1] (fun (k10106:Nat) (s10102:(List X0))=>[(43,eI (k10106:Int))]) (fun k10106 s10102=>[(1000000000,some ⟨1,[[(.sl 8 1 (s10102).length)]],0,0x0031⟩),(1,some ⟨8,(List.map Q21 s10102),0,0x0038⟩)]) (fun k10106 s10102=>.o (.pcr 16 66 0 2 0x0069 (.o (.b fun (r10176:((List Q2)))=>.o (.w [10,11,13,17,32,33,34,41,42,43] [0,84,66,85] [10,11,13,17,18,32,33,34,41,42,43] [0,84,66,85] (fun (s10223:(List X0)×Int)=>[(18,eI s10223.2)]) (fun s10223=>[(1000000000,some ⟨1,[[(.sl 8 84 (s10223.1).length)]],0,0x0031⟩),(1000000066,some ⟨1,[[(.sl 2 85 (r10176).length)]],0,0x0036⟩),(84,some ⟨8,(List.map Q21 s10223.1),0,0x0038⟩)]) (fun s10223=>.z) (fun s10231=>.o (.pF 3 .z))))))) (fun s10110=>.w [10,32,33,34] [0,1] [10,19,32,33,34] [0,1] (fun (s10264:(List X0)×Int)=>[(19,eI s10264.2)]) (fun s10264=>[(1000000000,some ⟨1,[[(.sl 8 1 (s10264.1).length)]],0,0x0031⟩),(1,some ⟨8,(List.map Q21 s10264.1),0,0x0038⟩)]) (fun s10264=>.i (.j 27 0 [10,19,32,33,34] [0,1] (fun (s10278:(List X0))=>[]) (fun s10278=>[(1000000000,some ⟨1,[[(.sl 8 1 (s10278).length)]],0,0x0031⟩),(1,some ⟨8,(List.map Q21 s10278),0,0x0038⟩)]) .z (fun _=>.z)) .z) (fun s10272=>.z))))) (fun s8577=>.z))))))))))))
instance X6v:∀ (n:Nat) (p0:(List Q4)) (p1:Q6) (p2:(List Q3)) (p3:Int),Ct (W8 n p0 p1 p2 p3) fun res=>Z1 Tryz.prog 0o00041 [(.slice 2 (List.map W1 p0)),(.agg (W0 p1)),(.slice 9 (List.map X9 p2)),(eI p3)] (fun d=>d=.tup [(.agg (Q3b res.1)),(eB res.2)]):=
 au Tryz.func33 W8.eq_1 (.o (.o (.o (.o (.o (.o (.i .z (.o (.i .z (.o (.i .z (.pN 12 3 0x007b (.ls 33 (.f [0,2,3,5,8,12] [0,8,208] [0,2,3,5,8,12,38,39,40] [0,8,208] (fun (k381:Nat) (s377:(List Grow))=>[(12,.sl 3 208 (s377).length),(40,eI (k381:Int))]) (fun k381 s377=>[(208,some ⟨3,(List.map Q4x s377),0,0x007b⟩)]) (fun k381 s377=>.o (.ls 44 (.f [0,2,3,5,8,12,38,39,40] [0,1,2] [0,2,3,5,8,12,13,38,39,40,45,46,47] [0,1,2] (fun (k441:Nat) (s437:(List Grow))=>[(12,.sl 3 2 (s437).length),(47,eI (k441:Int))]) (fun k441 s437=>[(2,some ⟨3,(List.map Q4x s437),0,0x007b⟩)]) (fun k441 s437=>.o (.o (.o (.pF 76 .z)))) (fun s445=>.z)))) (fun s385=>.z)))))))))))))))
end Go.Proofs.YtgjpamkllimhdaaGreat
