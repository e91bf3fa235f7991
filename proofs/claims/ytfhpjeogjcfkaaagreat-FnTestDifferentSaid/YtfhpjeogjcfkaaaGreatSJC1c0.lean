import Derived.Test.YtfhpjeogjcfkaaaGreatSJC0c0
import Derived.Test.YtfhpjeogjcfkaaaGreatSJC0a0
import Derived.Test.YtfhpjeogjcfkaaaGreatSJC0b0
import Derived.Test.YtfhpjeogjcfkaaaGreatSJC0d0
set_option linter.unusedSimpArgs false
set_option linter.unusedVariables false
namespace Go.Proofs.YtfhpjeogjcfkaaaGreat
open Go Go.RowKit
set_option maxRecDepth 100000
set_option maxHeartbeats 20000000
instance Z7u:∀ (n:Nat) (p0:(List Q0)) (p1:(Q0→Option Bool)) {p1_f:FuncId} {p1_c:List D} [p1_i:CF1 (fun a0=>(.agg (Q2 a0))) (fun r=>(eB r)) p1 p1_f p1_c],Ct (J5 n p0 p1) fun res=>Q19 Tryz.prog 0o00427 [⟨6,List.map Q2 p0,0,0x0064⟩] [.sl 6 0 p0.length,.clos p1_f p1_c] (fun H d=>H=[none,some ⟨6,List.map Q2 res,0,0x0064⟩]∧d=.sl 6 1 res.length):=
 au Tryz.func279 J5.eq_1 (.o (.o (.o (.o (.o (.o (.o (.i (.pM 4 .z) (.w [0,5] [0] [0,1,5,6] [0] (fun (s96:(List Q0)×Int×Int)=>[(0,.sl 6 0 (s96.1).length),(5,eI s96.2.1),(6,eI s96.2.2)]) (fun s96=>[(0,some ⟨6,(List.map Q2 s96.1),0,0x0064⟩)]) (fun s96=>.i (.j 7 0 [0,1,5,6] [0] (fun (s112:(List Q0)×Int)=>[(0,.sl 6 0 (s112.1).length),(5,eI s112.2)]) (fun s112=>[(0,some ⟨6,(List.map Q2 s112.1),0,0x0064⟩)]) .z (fun _=>.z)) .z) (fun s104=>.o (.pM 4 .z)))))))))))
instance V13:∀ (p0:(List Q4)) (p1:Q1),Ct (Z0r p0 p1) fun res=>Q6 Tryz.prog 0o00463 [(.slice 2 (List.map Z8 p0)),(.agg (Z2 p1))] (fun d=>d=(eB res)):=
 au Tryz.func307 Z0r.eq_1 .z
instance W8y:∀ (p0:(List Q4)) (p1:Q1),Ct (Q6q p0 p1) fun res=>Q6 Tryz.prog 0o00261 [(.slice 2 (List.map Z8 p0)),(.agg (Z2 p1))] (fun d=>d=(eB res)):=
 au Tryz.func177 Q6q.eq_1 .z
instance X8x:∀ (n:Nat) (p0:Q0),Ct (V7 n p0) fun res=>Q6 Tryz.prog 0o00340 [(.agg (Q2 p0))] (fun d=>d=(.agg (Q2 res))):=
 ar (au Tryz.func224 V7.eq_2 (.o (.o (.b fun (p0:Q0)=>.j 1 0 [1,2] [0,8] (fun (s12:Unit)=>[]) (fun _=>[]) .z (fun s12=>.pC 0 5 6 0x0064 (.ls 27 (.f [1,2] [0,66,1] [1,2,29,30,31] [0,66,1] (fun (k81:Nat) (s77:(List Q0))=>[(31,eI (k81:Int))]) (fun k81 s77=>[(1000000000,some ⟨6,[[(eI p0.op),(eI p0.ctor),(eI p0.n),(eI p0.m),(eI p0.var),(.sl 6 66 (s77).length)]],0,0x0064⟩),(66,some ⟨6,(List.map Q2 s77),0,0x0064⟩)]) (fun k81 s77=>.o (.g [1,2,5,29,30,31] [0,1,2,27] [] [(1000000000,some ⟨6,[[(eI p0.op),(eI p0.ctor),(eI p0.n),(eI p0.m),(eI p0.var),(.sl 6 1 (s77).length)]],0,0x0064⟩)] (.o (.o (.d [0,1,2,3,4,5,6,7] [0,3] [41] .z))))) (fun s85=>.z))))))))
instance W4n:∀ (p0:Int),Ct (Q6p p0) fun res=>Q6 Tryz.prog 0o00273 [(.val (.int .u64 p0))] (fun d=>d=(eI res)):=
 au Tryz.func187 Q6p.eq_1 .z
instance W8t:∀ (p0:(List Q4)) (p1:Q1) (p2:Int),Ct (J4 p0 p1 p2) fun res=>Q6 Tryz.prog 0o00306 [(.slice 2 (List.map Z8 p0)),(.agg (Z2 p1)),(eI p2)] (fun d=>d=(.slice 2 (List.map Z2 res))):=
 au Tryz.func198 J4.eq_1 (.o (.o (.o (.o (.b fun (x2:Q7e)=>.lc 104 1 2 Z2 x2.args (.f [7] [16] [4,7,8,9] [0,16,104] (fun (k118:Nat) (s114:(List Q1))=>[(7,.sl 2 16 (s114).length),(9,eI (k118:Int))]) (fun k118 s114=>[(16,some ⟨2,(List.map Z2 s114),0,0x0019⟩)]) (fun k118 s114=>.b fun (x119:Q1)=>.j 7 0 [4,7,8,9,10] [0,1,2,83] (fun (s133:Int)=>[]) (fun s133=>[(83,some ⟨2,[[(eI x119.data),(eI s133)]],0,0x0019⟩)]) .z (fun _=>.z)) (fun s122=>.z)))))))
instance W8r:∀ (p0:ByteArray),Ct (Q9q p0) fun res=>Q6 Tryz.prog 0o00441 [(eS p0)] (fun d=>d=(eB res)):=
 au Tryz.func289 Q9q.eq_1 .z
instance W8d:∀ (n:Nat) (p0:Z0) (p1:Q0) (p2:Int),Ct (Q2i n p0 p1 p2) fun res=>Q19 Tryz.prog 0o00532 [⟨2,[(Y7 p0)],0,0x00d7⟩] [.ptr 2 0 0 0,(.agg (Q2 p1)),(eI p2)] (fun H d=>H=[some ⟨2,[(Y7 res.2.2)],0,0x00d7⟩]∧d=.tup [(.agg (Q2 res.1)),(eI res.2.1)]):=
 ar (au Tryz.func346 Q2i.eq_2 (.o (.o (.o (.b fun (p1:Q0)=>.o (.i .z (.i .z (.i .z (.j 3 0 [0,2,4,6] [0,1,9] (fun (s25:Z0)=>[]) (fun s25=>[(0,some ⟨2,[(Y7 s25)],0,0x00d7⟩)]) .z (fun s25=>.pC 11 5 6 0x0064 (.lc 1 5 6 Q2 p1.kids (.f [0,6,8,9] [0,2,11,67] [0,4,6,8,9,10] [0,1,2,11,67] (fun (k95:Nat) (s91:Z0×(List Q0)×Int)=>[(9,eI s91.2.2),(10,eI (k95:Int))]) (fun k95 s91=>[(0,some ⟨2,[(Y7 s91.1)],0,0x00d7⟩),(1000000011,some ⟨6,[[(eI p1.op),(eI p1.ctor),(eI p1.n),(eI p1.m),(eI p1.var),(.sl 6 67 (s91.2.1).length)]],0,0x0064⟩),(67,some ⟨6,(List.map Q2 s91.2.1),0,0x0064⟩)]) (fun k95 s91=>.z) (fun s99=>.j 14 0 [6,8,9] [0,1,2,3] (fun (s112:Z0)=>[]) (fun s112=>[(0,some ⟨2,[(Y7 s112)],0,0x00d7⟩),(1000000002,some ⟨6,[[(eI p1.op),(eI p1.ctor),(eI p1.n),(eI p1.m),(eI p1.var),(.sl 6 3 (s99.2.1).length)]],0,0x0064⟩)]) (.i (.o (.i (.pF 3 (.pF 76 .z)) .z)) .z) (fun _=>.pF 3 .z))))))))))))))
instance W1z:∀ (p0:Z0) (p1:(List Int)),Ct (W2 p0 p1) fun res=>Q19 Tryz.prog 0o00117 [⟨2,[(Y7 p0)],0,0x00d7⟩] [.ptr 2 0 0 0,(.slice 1 (List.map rI p1))] (fun H d=>H=[some ⟨2,[(Y7 res.2)],0,0x00d7⟩]∧d=(eI res.1)):=
 au Tryz.func79 W2.eq_1 .z
end Go.Proofs.YtfhpjeogjcfkaaaGreat
