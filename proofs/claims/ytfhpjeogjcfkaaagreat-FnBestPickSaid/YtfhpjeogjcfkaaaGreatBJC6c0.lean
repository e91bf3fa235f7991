import Derived.Test.YtfhpjeogjcfkaaaGreatBJC5d0
import Derived.Test.YtfhpjeogjcfkaaaGreatBJC4a0
set_option linter.unusedSimpArgs false
set_option linter.unusedVariables false
namespace Go.Proofs.YtfhpjeogjcfkaaaGreat
open Go Go.RowKit
set_option maxRecDepth 100000
set_option maxHeartbeats 20000000
instance V0e:∀ (n:Nat) (p0:(List Q4)) (p1:Q7) (p2:Q3),Ct (Q50 n p0 p1 p2) fun res=>Q8 Tryz.prog 0o00163 [(.slice 2 (List.map W5 p0)),(.agg (W3 p1)),(.agg (X9 p2))] (fun d=>d=(eB res)):=
 au Tryz.func115 Q50.eq_1 .z
instance X8n:∀ (n:Nat) (p0:Q3) (q0:(List Q4)) (q1:Q7),Ct (Q4d n p0 q0 q1) fun res=>Q8 Tryz.prog 0o00162 [(.agg (X9 p0)),.cptr [(.slice 2 (List.map W5 q0))],.cptr (W3 q1)] (fun d=>d=(eB res)):=
 au Tryz.func114 Q4d.eq_1 .z
instance W1a:∀ (n:Nat) (p0:(List Q4)) (p1:Q7) (p2:(List Q3)),Ct (Q1m n p0 p1 p2) fun res=>Q8 Tryz.prog 0o00064 [(.slice 2 (List.map W5 p0)),(.agg (W3 p1)),(.slice 9 (List.map X9 p2))] (fun d=>d=(eB res)):=
 au Tryz.func52 Q1m.eq_1 .z
instance X8m:∀ (n:Nat) (p0:(List Q4)) (p1:Q7) (p2:(List Q3)) (p3:Int),Ct (W2 n p0 p1 p2 p3) fun res=>Q8 Tryz.prog 0o00023 [(.slice 2 (List.map W5 p0)),(.agg (W3 p1)),(.slice 9 (List.map X9 p2)),(eI p3)] (fun d=>d=.tup [(.agg (Q0t res.1)),(eB res.2)]):=
 au Tryz.func19 W2.eq_1 (.o (.o (.o (.o (.o (.o (.i .z (.o (.i .z (.o (.i .z (.pN 12 3 0x0066 (.ls 33 (.f [0,2,3,5,8,12] [0,8,208] [0,2,3,5,8,12,38,39,40] [0,8,208] (fun (k381:Nat) (s377:(List Grow))=>[(12,.sl 3 208 (s377).length),(40,eI (k381:Int))]) (fun k381 s377=>[(208,some ⟨3,(List.map Q5a s377),0,0x0066⟩)]) (fun k381 s377=>.o (.ls 44 (.f [0,2,3,5,8,12,38,39,40] [0,1,2] [0,2,3,5,8,12,13,38,39,40,45,46,47] [0,1,2] (fun (k441:Nat) (s437:(List Grow))=>[(12,.sl 3 2 (s437).length),(47,eI (k441:Int))]) (fun k441 s437=>[(2,some ⟨3,(List.map Q5a s437),0,0x0066⟩)]) (fun k441 s437=>.o (.o (.o (.pF 76 .z)))) (fun s445=>.z)))) (fun s385=>.z)))))))))))))))
end Go.Proofs.YtfhpjeogjcfkaaaGreat
