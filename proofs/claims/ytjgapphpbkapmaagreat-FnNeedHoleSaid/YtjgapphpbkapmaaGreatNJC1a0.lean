import Derived.Test.YtjgapphpbkapmaaGreatNJC0b0
import Derived.Test.YtjgapphpbkapmaaGreatNJC0d0
import Derived.Test.YtjgapphpbkapmaaGreatNJC0c0
import Derived.Test.YtjgapphpbkapmaaGreatNJC0a0
set_option linter.unusedSimpArgs false
set_option linter.unusedVariables false
namespace Go.Proofs.YtjgapphpbkapmaaGreat
open Go Go.RowKit
set_option maxRecDepth 100000
set_option maxHeartbeats 20000000
instance X77:∀ (n:Nat) (p0:ByteArray),Ct (Q6d n p0) fun res=>Z1 Tryz.prog 0o00364 [(eS p0)] (fun d=>d=(eB res)):=
 au Tryz.func244 Q6d.eq_1 (.o (.o (.o (.i .z (.o (.i .z (.i .z (.w [] [] [0,3] [] (fun (s132:Int)=>[(3,eI s132)]) (fun s132=>[]) (fun s132=>.z) (fun s140=>.z)))))))))
instance W3x:∀ (p0:(List Q3)) (p1:Q5),Ct (Q5j p0 p1) fun res=>Z1 Tryz.prog 0o00227 [(.slice 2 (List.map W2 p0)),(.agg (W1 p1))] (fun d=>d=(eB res)):=
 au Tryz.func151 Q5j.eq_1 .z
instance Z7v:∀ (n:Nat) (p0:(List Grow)) (p1:(Grow→Option Bool)) {p1_f:FuncId} {p1_c:List D} [p1_i:CF1 (fun a0=>(.agg (Q37 a0))) (fun r=>(eB r)) p1 p1_f p1_c],Ct (Q0c n p0 p1) fun res=>J2 Tryz.prog 0o00301 [⟨3,List.map Q37 p0,0,0x0062⟩] [.sl 3 0 p0.length,.clos p1_f p1_c] (fun H d=>H=[none,some ⟨3,List.map Q37 res,0,0x0062⟩]∧d=.sl 3 1 res.length):=
 au Tryz.func193 Q0c.eq_1 (.o (.o (.o (.o (.o (.o (.o (.i (.pM 4 .z) (.w [0,5] [0] [0,1,5,6] [0] (fun (s96:(List Grow)×Int×Int)=>[(0,.sl 3 0 (s96.1).length),(5,eI s96.2.1),(6,eI s96.2.2)]) (fun s96=>[(0,some ⟨3,(List.map Q37 s96.1),0,0x0062⟩)]) (fun s96=>.i (.j 7 0 [0,1,5,6] [0] (fun (s112:(List Grow)×Int)=>[(0,.sl 3 0 (s112.1).length),(5,eI s112.2)]) (fun s112=>[(0,some ⟨3,(List.map Q37 s112.1),0,0x0062⟩)]) .z (fun _=>.z)) .z) (fun s104=>.o (.pM 4 .z)))))))))))
instance X9b:∀ (p0:Int),Ct (Q5i p0) fun res=>Z1 Tryz.prog 0o00246 [(.val (.int .u64 p0))] (fun d=>d=(eI res)):=
 au Tryz.func166 Q5i.eq_1 .z
instance X9e:∀ (p0:(List Q1)),Ct (Q2x p0) fun res=>Z1 Tryz.prog 0o00201 [(.slice 2 (List.map Q8 p0))] (fun d=>d=(.slice 2 (List.map Q8 res))):=
 au Tryz.func129 Q2x.eq_1 (.o (.pN 3 2 0x008b (.ls 0 (.f [3] [40] [3,6,7,8] [40] (fun (k56:Nat) (s52:(List Q1))=>[(3,.sl 2 40 (s52).length),(8,eI (k56:Int))]) (fun k56 s52=>[(40,some ⟨2,(List.map Q8 s52),0,0x008b⟩)]) (fun k56 s52=>.o (.g [3,5,6,7,8] [0,25] [] [] (.o (.o (.d [0,1,2,3,4,5,6,7,8,9] [1] [] (.pF 3 .z)))))) (fun s60=>.z)))))
instance X6y:∀ (p0:Z7) (p1:(List Int)),Ct (X1 p0 p1) fun res=>J2 Tryz.prog 0o00215 [⟨2,[(V0 p0)],0,0x00c5⟩] [.ptr 2 0 0 0,(.slice 1 (List.map rI p1))] (fun H d=>H=[some ⟨2,[(V0 res.2)],0,0x00c5⟩]∧d=(eI res.1)):=
 au Tryz.func141 X1.eq_1 .z
instance W1i:∀ (p0:(List Int)) (p1:Q5),Ct (Q12 p0 p1) fun res=>Z1 Tryz.prog 0o00322 [(.slice 1 (List.map rI p0)),(.agg (W1 p1))] (fun d=>d=(eI res)):=
 au Tryz.func210 Q12.eq_1 .z
instance W3d:∀ (n:Nat) (p0:Z7) (p1:Q0) (p2:Int),Ct (Q45 n p0 p1 p2) fun res=>J2 Tryz.prog 0o00435 [⟨2,[(V0 p0)],0,0x00c5⟩] [.ptr 2 0 0 0,(.agg (Q7 p1)),(eI p2)] (fun H d=>H=[some ⟨2,[(V0 res.2.2)],0,0x00c5⟩]∧d=.tup [(.agg (Q7 res.1)),(eI res.2.1)]):=
 ar (au Tryz.func285 Q45.eq_2 (.o (.o (.o (.b fun (p1:Q0)=>.o (.i .z (.i .z (.i .z (.j 3 0 [0,2,4,6] [0,1,9] (fun (s25:Z7)=>[]) (fun s25=>[(0,some ⟨2,[(V0 s25)],0,0x00c5⟩)]) .z (fun s25=>.pC 11 5 6 0x0060 (.lc 1 5 6 Q7 p1.kids (.f [0,6,8,9] [0,2,11,67] [0,4,6,8,9,10] [0,1,2,11,67] (fun (k95:Nat) (s91:Z7×(List Q0)×Int)=>[(9,eI s91.2.2),(10,eI (k95:Int))]) (fun k95 s91=>[(0,some ⟨2,[(V0 s91.1)],0,0x00c5⟩),(1000000011,some ⟨6,[[(eI p1.op),(eI p1.ctor),(eI p1.n),(eI p1.m),(eI p1.var),(.sl 6 67 (s91.2.1).length)]],0,0x0060⟩),(67,some ⟨6,(List.map Q7 s91.2.1),0,0x0060⟩)]) (fun k95 s91=>.z) (fun s99=>.j 14 0 [6,8,9] [0,1,2,3] (fun (s112:Z7)=>[]) (fun s112=>[(0,some ⟨2,[(V0 s112)],0,0x00c5⟩),(1000000002,some ⟨6,[[(eI p1.op),(eI p1.ctor),(eI p1.n),(eI p1.m),(eI p1.var),(.sl 6 3 (s99.2.1).length)]],0,0x0060⟩)]) (.i (.o (.i (.pF 3 (.pF 76 .z)) .z)) .z) (fun _=>.pF 3 .z))))))))))))))
instance X5t:∀ (p0:Q20) (p1:(List Q8z)),Ct (Q1t p0 p1) fun res=>Z1 Tryz.prog 0o00137 [(.agg (Q5p p0)),(.slice 4 (List.map Q98 p1))] (fun d=>d=(eB res)):=
 au Tryz.func95 Q1t.eq_1 .z
end Go.Proofs.YtjgapphpbkapmaaGreat
