import Derived.Test.YtfhpjeogjcfkaaaGreatSJC3a0
import Derived.Test.YtfhpjeogjcfkaaaGreatSJC3c0
set_option linter.unusedSimpArgs false
set_option linter.unusedVariables false
namespace Go.Proofs.YtfhpjeogjcfkaaaGreat
open Go Go.RowKit
set_option maxRecDepth 100000
set_option maxHeartbeats 20000000
instance V41:∀ (n:Nat) (p0:(List Q5)) (p1:Q3),Ct (Q5s n p0 p1) fun res=>Q6 Tryz.prog 0o00065 [(.slice 9 (List.map X4 p0)),(.agg (Z5 p1))] (fun d=>d=.tup [(eI res.1),(.slice 4 (List.map Q11 res.2))]):=
 au Tryz.func53 Q5s.eq_1 (.o (.o (.o (.ls 0 (.f [] [] [3,10,11,12] [0] (fun (k139:Nat) (s135:Unit)=>[(12,eI (k139:Int))]) (fun k139 s135=>[]) (fun k139 s135=>.o (.j 3 0 [3,10,11,12] [0] (fun (s153:Unit)=>[]) (fun _=>[]) .z (fun _=>.z))) (fun s143=>.z))))))
instance W4f:∀ (n:Nat) (p0:(List Q4)) (p1:(List Int)) (p2:Q1) (p3:Q0),Ct (Q0i n p0 p1 p2 p3) fun res=>Q6 Tryz.prog 0o00365 [(.slice 2 (List.map Z8 p0)),(.slice 1 (List.map rI p1)),(.agg (Z2 p2)),(.agg (Q2 p3))] (fun d=>d=(.agg (Z5 res))):=
 ar (au Tryz.func245 Q0i.eq_2 (.o (.o (.o (.o (.o (.b fun (p3:Q0)=>.j 2 0 [0,1,6,7,8,13,14] [0,8,16] (fun (s24:Bool)=>[(14,eB s24)]) (fun _=>[]) .z (fun s24=>.i .z (.i .z (.i (.g [0,1,6,7,8] [0,1,2] [] [] (.o (.o (.d [0,1,2,3,4,5,6,7,8] [0,1] [] .z)))) (.i (.g [0,1,6,7,8] [0,1,2] [] [] (.o (.o (.d [0,1,2,3,4,5,6,7] [0,1] [] (.i (.g [0,1,6,7,8] [0,1,2] [] [] (.o (.d [0,1,2,3,4,5,6,7,8] [0,1] [] .z))) (.g [0,1,6,7,8] [0,1,2] [] [] (.o (.o (.d [0,1,2,3,4,5,6,7,8] [0,1] [] .z))))))))) (.o (.pC 75 2 3 0x001d (.ls 69 (.f [8,9] [2,75,147] [0,1,7,8,9,10,11] [1,2,75,147] (fun (k111:Nat) (s107:(List Q3))=>[(11,eI (k111:Int))]) (fun k111 s107=>[(1000000075,some ⟨3,[[(eI p3.ctor),(eI 0),(.sl 3 147 (s107).length)]],0,0x001d⟩),(147,some ⟨3,(List.map Z5 s107),0,0x001d⟩)]) (fun k111 s107=>.o (.g [0,1,7,8,9,10,11] [0,1,2,3] [] [(1000000002,some ⟨3,[[(eI p3.ctor),(eI 0),(.sl 3 3 (s107).length)]],0,0x001d⟩)] (.o (.o (.o (.d [0,1,2,3,4,5,6,7,8,9,10,11,12,13,14,15,16,17] [0,2] [92] .z)))))) (fun s115=>.z))))))))))))))))
end Go.Proofs.YtfhpjeogjcfkaaaGreat
