import Derived.Test.YtfhpjeogjcfkaaaGreatBJC0d0
import Derived.Test.YtfhpjeogjcfkaaaGreatBJC0a0
import Derived.Test.YtfhpjeogjcfkaaaGreatBJC0c0
import Derived.Test.YtfhpjeogjcfkaaaGreatBJC0b0
set_option linter.unusedSimpArgs false
set_option linter.unusedVariables false
namespace Go.Proofs.YtfhpjeogjcfkaaaGreat
open Go Go.RowKit
set_option maxRecDepth 100000
set_option maxHeartbeats 20000000
instance V4y:∀ (n:Nat) (p0:X1) (p1:Q0) (p2:Int),Ct (Q6y n p0 p1 p2) fun res=>Y4 Tryz.prog 0o00532 [⟨2,[(J1 p0)],0,0x00d7⟩] [.ptr 2 0 0 0,(.agg (Z2 p1)),(eI p2)] (fun H d=>H=[some ⟨2,[(J1 res.2.2)],0,0x00d7⟩]∧d=.tup [(.agg (Z2 res.1)),(eI res.2.1)]):=
 ar (au Tryz.func346 Q6y.eq_2 (.o (.o (.o (.b fun (p1:Q0)=>.o (.i .z (.i .z (.i .z (.j 3 0 [0,2,4,6] [0,1,9] (fun (s25:X1)=>[]) (fun s25=>[(0,some ⟨2,[(J1 s25)],0,0x00d7⟩)]) .z (fun s25=>.pC 11 5 6 0x0064 (.lc 1 5 6 Z2 p1.kids (.f [0,6,8,9] [0,2,11,67] [0,4,6,8,9,10] [0,1,2,11,67] (fun (k95:Nat) (s91:X1×(List Q0)×Int)=>[(9,eI s91.2.2),(10,eI (k95:Int))]) (fun k95 s91=>[(0,some ⟨2,[(J1 s91.1)],0,0x00d7⟩),(1000000011,some ⟨6,[[(eI p1.op),(eI p1.ctor),(eI p1.n),(eI p1.m),(eI p1.var),(.sl 6 67 (s91.2.1).length)]],0,0x0064⟩),(67,some ⟨6,(List.map Z2 s91.2.1),0,0x0064⟩)]) (fun k95 s91=>.z) (fun s99=>.j 14 0 [6,8,9] [0,1,2,3] (fun (s112:X1)=>[]) (fun s112=>[(0,some ⟨2,[(J1 s112)],0,0x00d7⟩),(1000000002,some ⟨6,[[(eI p1.op),(eI p1.ctor),(eI p1.n),(eI p1.m),(eI p1.var),(.sl 6 3 (s99.2.1).length)]],0,0x0064⟩)]) (.i (.o (.i (.pF 3 (.pF 76 .z)) .z)) .z) (fun _=>.pF 3 .z))))))))))))))
instance V2o:∀ (p0:(List Int)) (p1:Q7),Ct (Q2i p0 p1) fun res=>Q8 Tryz.prog 0o00371 [(.slice 1 (List.map rI p0)),(.agg (W3 p1))] (fun d=>d=(eI res)):=
 au Tryz.func249 Q2i.eq_1 .z
instance V03:∀ (p0:Int),Ct (Q6g p0) fun res=>Q8 Tryz.prog 0o00273 [(.val (.int .u64 p0))] (fun d=>d=(eI res)):=
 au Tryz.func187 Q6g.eq_1 .z
instance W7e:∀ (n:Nat) (p0:ByteArray),Ct (Q9w n p0) fun res=>Q8 Tryz.prog 0o00461 [(eS p0)] (fun d=>d=(eB res)):=
 au Tryz.func305 Q9w.eq_1 (.o (.o (.o (.i .z (.o (.i .z (.i .z (.w [] [] [0,3] [] (fun (s132:Int)=>[(3,eI s132)]) (fun s132=>[]) (fun s132=>.z) (fun s140=>.z)))))))))
instance X2v:∀ (p0:(List Z4)) (p1:Z4),Ct (Q0q p0 p1) fun res=>Q8 Tryz.prog 0o00413 [(.slice 3 (List.map Y8 p0)),(.agg (Y8 p1))] (fun d=>d=(eB res)):=
 au Tryz.func267 Q0q.eq_1 .z
instance V2d:∀ (n:Nat) (p0:Q0),Ct (Y5 n p0) fun res=>Y4 Tryz.prog 0o00151 [] [(.agg (Z2 p0))] (fun H d=>H=[some ⟨6,List.map Z2 res,0,0x0064⟩]∧d=.sl 6 0 res.length):=
 ar (au Tryz.func105 Y5.eq_2 (.o (.o (.b fun (p0:Q0)=>.i (.g [1] [0] [] [] (.o (.o (.o (.o (.b fun (x16:(List Q0))=>.d [0,1,2,3,5,6,7,8,4,9,10,11] [0] [] (.i (.gr 4 [3] [17] [(3,.sl 6 17 (x16).length)] [(17,some ⟨6,(List.map Z2 x16),0,0x0064⟩)] (.b fun (x20:(List Q0))=>.pS 0 401 Z2 x20 .z)) .z))))))) (.lc 0 5 6 Z2 p0.kids (.f [1,4] [0,40] [1,4,5] [0,40] (fun (k76:Nat) (s72:(List (List Q0)))=>[(4,.sl 1 40 (s72).length),(5,eI (k76:Int))]) (fun k76 s72=>[(40,some ⟨1,(List.map (rL 6 Z2) s72),0,0x0062⟩)]) (fun k76 s72=>.o (.o (.o (.pF 91 .z)))) (fun s80=>.o (.ls 48 (.f [7] [26] [1,6,7,8] [0,26] (fun (k131:Nat) (s127:(List Q0))=>[(7,.sl 6 26 (s127).length),(8,eI (k131:Int))]) (fun k131 s127=>[(26,some ⟨6,(List.map Z2 s127),0,0x0064⟩)]) (fun k131 s127=>.z) (fun s135=>.z))))))))))
instance V2b:∀ (p0:Q27) (p1:(List Z4)),Ct (Q5x p0 p1) fun res=>Q8 Tryz.prog 0o00354 [(.agg (Q8c p0)),(.slice 3 (List.map Y8 p1))] (fun d=>d=(eB res)):=
 au Tryz.func236 Q5x.eq_1 (.o (.o (.i .z (.j 3 0 [1,2] [0] (fun (s23:Unit)=>[]) (fun _=>[]) .z (fun _=>.z)))))
instance X9r:∀ (p0:(List Int)) (p1:(List Q4)) (p2:Q7) (p3:Int),Ct (Q1b p0 p1 p2 p3) fun res=>Q8 Tryz.prog 0o00322 [.cptr (List.map cI p0),(.slice 2 (List.map W5 p1)),(.agg (W3 p2)),(eI p3)] (fun d=>d=(eI res)):=
 au Tryz.func210 Q1b.eq_1 (.o (.o (.o (.o (.o (.ls 16 (.f [9] [] [0,9,16,17,18] [] (fun (k68:Nat) (s64:Int)=>[(9,eI s64),(18,eI (k68:Int))]) (fun k68 s64=>[]) (fun k68 s64=>.z) (fun s72=>.z))))))))
instance X5h:∀ (n:Nat) (p0:(List Grow)) (p1:(Grow→Option Bool)) {p1_f:FuncId} {p1_c:List D} [p1_i:CF1 (fun a0=>(.agg (Q5a a0))) (fun r=>(eB r)) p1 p1_f p1_c],Ct (Q17 n p0 p1) fun res=>Y4 Tryz.prog 0o00325 [⟨3,List.map Q5a p0,0,0x0066⟩] [.sl 3 0 p0.length,.clos p1_f p1_c] (fun H d=>H=[none,some ⟨3,List.map Q5a res,0,0x0066⟩]∧d=.sl 3 1 res.length):=
 au Tryz.func213 Q17.eq_1 (.o (.o (.o (.o (.o (.o (.o (.i (.pM 4 .z) (.w [0,5] [0] [0,1,5,6] [0] (fun (s96:(List Grow)×Int×Int)=>[(0,.sl 3 0 (s96.1).length),(5,eI s96.2.1),(6,eI s96.2.2)]) (fun s96=>[(0,some ⟨3,(List.map Q5a s96.1),0,0x0066⟩)]) (fun s96=>.i (.j 7 0 [0,1,5,6] [0] (fun (s112:(List Grow)×Int)=>[(0,.sl 3 0 (s112.1).length),(5,eI s112.2)]) (fun s112=>[(0,some ⟨3,(List.map Q5a s112.1),0,0x0066⟩)]) .z (fun _=>.z)) .z) (fun s104=>.o (.pM 4 .z)))))))))))
end Go.Proofs.YtfhpjeogjcfkaaaGreat
