import Derived.Test.YtgjpamkllimhdaaGreatJC0d0
import Derived.Test.YtgjpamkllimhdaaGreatJC0c0
import Derived.Test.YtgjpamkllimhdaaGreatJC0b0
set_option linter.unusedSimpArgs false
set_option linter.unusedVariables false
namespace Go.Proofs.YtgjpamkllimhdaaGreat
open Go Go.RowKit
set_option maxRecDepth 100000
set_option maxHeartbeats 20000000
instance W4v:∀ (p0:Z9) (p1:(List Int)),Ct (X8 p0 p1) fun res=>Y8 Tryz.prog 0o00057 [⟨2,[(J3 p0)],0,0x0093⟩] [.ptr 2 0 0 0,(.slice 1 (List.map rI p1))] (fun H d=>H=[some ⟨2,[(J3 res.2)],0,0x0093⟩]∧d=(eI res.1)):=
 au Tryz.func47 X8.eq_1 .z
instance W4y:∀ (n:Nat) (p0:ByteArray),Ct (Q8k n p0) fun res=>Z1 Tryz.prog 0o00334 [(eS p0)] (fun d=>d=(eB res)):=
 au Tryz.func220 Q8k.eq_1 (.o (.o (.i .z (.i .z (.o (.o (.i .z (.w [] [] [0,3] [] (fun (s132:Int)=>[(3,eI s132)]) (fun s132=>[]) (fun s132=>.z) (fun s140=>.z)))))))))
instance V1j:∀ (n:Nat) (p0:Z9) (p1:Q0) (p2:Int),Ct (Q63 n p0 p1 p2) fun res=>Y8 Tryz.prog 0o00340 [⟨2,[(J3 p0)],0,0x0093⟩] [.ptr 2 0 0 0,(.agg (Q9 p1)),(eI p2)] (fun H d=>H=[some ⟨2,[(J3 res.2.2)],0,0x0093⟩]∧d=.tup [(.agg (Q9 res.1)),(eI res.2.1)]):=
 ar (au Tryz.func224 Q63.eq_2 (.o (.o (.o (.b fun (p1:Q0)=>.o (.i .z (.i .z (.i .z (.j 3 0 [0,2,4,6] [0,1,9] (fun (s25:Z9)=>[]) (fun s25=>[(0,some ⟨2,[(J3 s25)],0,0x0093⟩)]) .z (fun s25=>.pC 11 5 6 0x0046 (.lc 1 5 6 Q9 p1.kids (.f [0,6,8,9] [0,2,11,67] [0,4,6,8,9,10] [0,1,2,11,67] (fun (k95:Nat) (s91:Z9×(List Q0)×Int)=>[(9,eI s91.2.2),(10,eI (k95:Int))]) (fun k95 s91=>[(0,some ⟨2,[(J3 s91.1)],0,0x0093⟩),(1000000011,some ⟨6,[[(eI p1.op),(eI p1.ctor),(eI p1.n),(eI p1.m),(eI p1.var),(.sl 6 67 (s91.2.1).length)]],0,0x0046⟩),(67,some ⟨6,(List.map Q9 s91.2.1),0,0x0046⟩)]) (fun k95 s91=>.z) (fun s99=>.j 14 0 [6,8,9] [0,1,2,3] (fun (s112:Z9)=>[]) (fun s112=>[(0,some ⟨2,[(J3 s112)],0,0x0093⟩),(1000000002,some ⟨6,[[(eI p1.op),(eI p1.ctor),(eI p1.n),(eI p1.m),(eI p1.var),(.sl 6 3 (s99.2.1).length)]],0,0x0046⟩)]) (.i (.o (.i (.pF 3 (.pF 76 .z)) .z)) .z) (fun _=>.pF 3 .z))))))))))))))
instance W9g:∀ (p0:(List Z2)) (p1:(List Z2)),Ct (Q5f p0 p1) fun res=>Z1 Tryz.prog 0o00347 [(.slice 3 (List.map Y7 p0)),(.slice 3 (List.map Y7 p1))] (fun d=>d=(eB res)):=
 au Tryz.func231 Q5f.eq_1 (.o (.o (.ls 0 (.f [0,1] [] [0,1,5] [] (fun (k124:Nat) (s120:Unit)=>[(5,eI (k124:Int))]) (fun k124 s120=>[]) (fun k124 s120=>.o (.o (.g [0,1,5,6] [] [] [] (.i (.d [0,1,2,3,4,5,6,7,8,9,10,11,12,13,14] [] [] .z) (.o (.d [0,1,2,3,4,5,6,7,8,9,10,11,12,13,14] [] [] .z)))))) (fun s128=>.z)))))
instance Z7r:∀ (p0:(List Z2)) (p1:(Z2→Option Bool)) {p1_f:FuncId} {p1_c:List D} [p1_i:CF1 (fun a0=>(.agg (Y7 a0))) (fun r=>(eB r)) p1 p1_f p1_c],Ct (Q18 p0 p1) fun res=>Z1 Tryz.prog 0o00355 [(.slice 3 (List.map Y7 p0)),.clos p1_f p1_c] (fun d=>d=(eB res)):=
 au Tryz.func237 Q18.eq_1 .z
instance W9w:∀ (p0:Int) (p1:Int) (p2:Int) (p3:Q1),Ct (Q2t p0 p1 p2 p3) fun res=>Z1 Tryz.prog 0o00077 [(eI p0),(eI p1),(eI p2),(.agg (X2 p3))] (fun d=>d=(eB res)):=
 au Tryz.func63 Q2t.eq_1 .z
instance W93:∀ (n:Nat) (p0:(List Q2)) (p1:Q0) (p2:(List Int)),Ct (Q5d n p0 p1 p2) fun res=>Y8 Tryz.prog 0o00172 [⟨2,List.map Z0 p0,0,0x0069⟩] [.sl 2 0 p0.length,(.agg (Q9 p1)),(.slice 1 (List.map rI p2))] (fun H d=>H=[none,some ⟨2,List.map Z0 res,0,0x0069⟩]∧d=.sl 2 1 res.length):=
 ar (au Tryz.func122 Q5d.eq_2 (.o (.o (.o (.b fun (p1:Q0)=>.o (.j 1 0 [0,2,4] [0,9000,1] (fun (s14:(List Q2))=>[(0,.sl 2 9000 (s14).length)]) (fun s14=>[(0,none),(9000,some ⟨2,(List.map Z0 s14),0,0x0069⟩)]) (.i (.g [0,2,4] [0,1] [] [] (.o (.o (.d [0,1,2,4,3,5,6,7,8,9] [1] [] (.pF 10 .z))))) (.i (.g [0,2,4] [0,1] [] [] (.o (.o (.d [0,1,2,4,3,5,6,7,8,9] [1] [] (.pF 10 .z))))) (.pM 0 .z))) (fun s14=>.lc 2 5 6 Q9 p1.kids (.f [0] [0,1] [0,2,4,7] [0,1,2] (fun (k145:Nat) (s141:(List Q2))=>[(0,.sl 2 1 (s141).length),(7,eI (k145:Int))]) (fun k145 s141=>[(0,none),(1,some ⟨2,(List.map Z0 s141),0,0x0069⟩)]) (fun k145 s141=>.o (.j 7 0 [0,2,4,7,8] [0,1,2] (fun (s160:(List Int))=>[(8,.slice 1 (List.map rI s160))]) (fun _=>[(0,none)]) .z (fun _=>.z))) (fun s149=>.z)))))))))
instance X3x:∀ (n:Nat) (p0:(List Grow)) (p1:(Grow→Option Bool)) {p1_f:FuncId} {p1_c:List D} [p1_i:CF1 (fun a0=>(.agg (Q4x a0))) (fun r=>(eB r)) p1 p1_f p1_c],Ct (Q0x n p0 p1) fun res=>Y8 Tryz.prog 0o00260 [⟨3,List.map Q4x p0,0,0x007b⟩] [.sl 3 0 p0.length,.clos p1_f p1_c] (fun H d=>H=[none,some ⟨3,List.map Q4x res,0,0x007b⟩]∧d=.sl 3 1 res.length):=
 au Tryz.func176 Q0x.eq_1 (.o (.o (.o (.o (.o (.o (.o (.i (.pM 4 .z) (.w [0,5] [0] [0,1,5,6] [0] (fun (s96:(List Grow)×Int×Int)=>[(0,.sl 3 0 (s96.1).length),(5,eI s96.2.1),(6,eI s96.2.2)]) (fun s96=>[(0,some ⟨3,(List.map Q4x s96.1),0,0x007b⟩)]) (fun s96=>.i (.j 7 0 [0,1,5,6] [0] (fun (s112:(List Grow)×Int)=>[(0,.sl 3 0 (s112.1).length),(5,eI s112.2)]) (fun s112=>[(0,some ⟨3,(List.map Q4x s112.1),0,0x007b⟩)]) .z (fun _=>.z)) .z) (fun s104=>.o (.pM 4 .z)))))))))))
instance W7m:∀ (p0:(List Q2)),Ct (Q4n p0) fun res=>Z1 Tryz.prog 0o00207 [(.slice 2 (List.map Z0 p0))] (fun d=>d=(.slice 2 (List.map Z0 res))):=
 au Tryz.func135 Q4n.eq_1 (.o (.pN 3 2 0x0069 (.ls 0 (.f [3] [40] [3,6,7,8] [40] (fun (k56:Nat) (s52:(List Q2))=>[(3,.sl 2 40 (s52).length),(8,eI (k56:Int))]) (fun k56 s52=>[(40,some ⟨2,(List.map Z0 s52),0,0x0069⟩)]) (fun k56 s52=>.o (.g [3,5,6,7,8] [0,25] [] [] (.o (.o (.d [0,1,2,3,4,5,6,7,8,9] [1] [] (.pF 3 .z)))))) (fun s60=>.z)))))
end Go.Proofs.YtgjpamkllimhdaaGreat
