import Derived.Test.YtgjpamkllimhdaaGreatJC1c0
import Derived.Test.YtgjpamkllimhdaaGreatJC1a0
import Derived.Test.YtgjpamkllimhdaaGreatJC1b0
set_option linter.unusedSimpArgs false
set_option linter.unusedVariables false
namespace Go.Proofs.YtgjpamkllimhdaaGreat
open Go Go.RowKit
set_option maxRecDepth 100000
set_option maxHeartbeats 20000000
instance V1t:∀ (p0:(List Q4)) (p1:(List Int)) (p2:Q6) (p3:Int),Ct (Q52 p0 p1 p2 p3) fun res=>Z1 Tryz.prog 0o00303 [(.slice 2 (List.map W1 p0)),(.slice 1 (List.map rI p1)),(.agg (W0 p2)),(eI p3)] (fun d=>d=(eI res)):=
 au Tryz.func195 Q52.eq_1 (.o (.o (.o (.o (.o (.ls 16 (.f [10] [] [1,9,10,11] [] (fun (k92:Nat) (s88:Int)=>[(10,eI s88),(11,eI (k92:Int))]) (fun k92 s88=>[]) (fun k92 s88=>.o (.j 6 0 [1,9,10,11] [] (fun (s101:Int)=>[(10,eI s101)]) (fun _=>[]) .z (fun _=>.z))) (fun s96=>.z))))))))
instance V1m:∀ (n:Nat) (p0:Z9) (p1:(List Q4)) (p2:Q6) (p3:Int),Ct (Q2m n p0 p1 p2 p3) fun res=>Y8 Tryz.prog 0o00341 [⟨2,[(J3 p0)],0,0x0093⟩] [.ptr 2 0 0 0,(.slice 2 (List.map W1 p1)),(.agg (W0 p2)),(eI p3)] (fun H d=>H=[some ⟨2,[(J3 res.2)],0,0x0093⟩]∧d=(.agg (Q9 res.1))):=
 ar (au Tryz.func225 Q2m.eq_2 (.o (.o (.o (.o (.o (.o (.i .z (.o (.i .z (.o (.i (.g [0,1,3,6,8] [0,1,9] [] [] (.o (.o (.d [0,1,2,3,4,6,7,8,9,10,5,11,12,13,14] [1] [] (.pF 19 .z))))) (.i .z (.o (.i .z (.o (.b fun (x37:Int)=>.o (.pC 241 5 6 0x0046 (.ls 74 (.f [8,11] [0,9,241,313] [0,1,3,8,11,12,13] [0,9,241,313] (fun (k96:Nat) (s92:Z9×(List Q0))=>[(13,eI (k96:Int))]) (fun k96 s92=>[(0,some ⟨2,[(J3 s92.1)],0,0x0093⟩),(1000000241,some ⟨6,[[(eI 4),(eI x37),(eI 0),(eI 0),(eI 0),(.sl 6 313 (s92.2).length)]],0,0x0046⟩),(313,some ⟨6,(List.map Q9 s92.2),0,0x0046⟩)]) (fun k96 s92=>.o (.g [0,1,3,8,11,12,13] [0,1,2,3] [] [(1000000002,some ⟨6,[[(eI 4),(eI x37),(eI 0),(eI 0),(eI 0),(.sl 6 3 (s92.2).length)]],0,0x0046⟩)] (.o (.o (.d [0,1,2,3,4,5,6,7,8,9,10,11,12,13,14] [2] [94] .z))))) (fun s100=>.pF 3 .z)))))))))))))))))))))
instance V3y:∀ (p0:(List Q4)) (p1:Q6) (p2:Q0),Ct (Q8b p0 p1 p2) fun res=>Z1 Tryz.prog 0o00346 [(.slice 2 (List.map W1 p0)),(.agg (W0 p1)),(.agg (Q9 p2))] (fun d=>d=(eB res)):=
 au Tryz.func230 Q8b.eq_1 (.o (.o (.o (.e (.j 1 0 [0,4,5,7] [0,8] (fun (s2:Bool)=>[(7,eB s2)]) (fun _=>[]) .z (fun s2=>.j 2 0 [0,4,5] [0,1] (fun (s17:Unit)=>[]) (fun _=>[]) .z (fun s17=>.j 4 0 [0,4,5] [0,1] (fun (s50:Unit)=>[]) (fun _=>[]) .z (fun s50=>.j 7 0 [0,4,5,60,61] [0,1] (fun (s95:Bool)=>[(61,eB s95)]) (fun _=>[]) .z (fun s95=>.i .z (.i .z (.i (.g [0,4,5] [0,1] [] [] (.o (.o (.d [0,1,3,4,2,5,6] [0,1] [] .z)))) .z)))))))))))
instance W7o:∀ (p0:Q6) (q0:(List Q4)),Ct (Q9d p0 q0) fun res=>Z1 Tryz.prog 0o00324 [(.agg (W0 p0)),.cptr [(.slice 2 (List.map W1 q0))]] (fun d=>d=(eB res)):=
 au Tryz.func212 Q9d.eq_1 .z
instance X97:∀ (n:Nat) (p0:(List Q3)),Ct (Q1a n p0) fun res=>Z1 Tryz.prog 0o00071 [(.slice 9 (List.map X9 p0))] (fun d=>d=.tup [(.slice 1 (List.map (rL 6 Q9) res.1)),(eB res.2)]):=
 au Tryz.func57 Q1a.eq_1 (.o (.o (.pN 4 1 0x0044 (.ls 0 (.f [4] [48] [4,7,8,9] [48] (fun (k96:Nat) (s92:(List (List Q0)))=>[(4,.sl 1 48 (s92).length),(9,eI (k96:Int))]) (fun k96 s92=>[(48,some ⟨1,(List.map (rL 6 Q9) s92),0,0x0044⟩)]) (fun k96 s92=>.o (.o (.i .z (.o (.o (.pF 98 .z)))))) (fun s100=>.z))))))
instance W7j:∀ (n:Nat) (p0:(List X0)) (p1:(List Q3)) (p2:Q1) (p3:(X0→Option Unit)) {p3_f:FuncId} {p3_c:List D} [p3_i:CF1 (fun a0=>(.agg (Q21 a0))) (fun r=>(.tup [])) p3 p3_f p3_c],Ct (Q28 n p0 p1 p2 p3) fun res=>Z1 Tryz.prog 0o00032 [(.slice 8 (List.map Q21 p0)),(.slice 9 (List.map X9 p1)),(.agg (X2 p2)),.clos p3_f p3_c] (fun d=>d=.tup [(eI res.1),(.slice 4 (List.map Q5n res.2.1)),(eI res.2.2)]):=
 au Tryz.func26 Q28.eq_1 (.o (.o (.o (.o (.o (.o (.o (.o (.w [] [] [0,1,3,6,11,12] [0] (fun (s66:Int×Int)=>[(11,eI s66.1),(12,eI s66.2)]) (fun s66=>[]) (fun s66=>.o (.i .z (.o (.i (.j 10 0 [0,1,3,6,11,12] [0] (fun (s93:Int)=>[(12,eI s93)]) (fun _=>[]) (.g [0,1,3,6,11,12,13] [0,33] [] [] (.o (.o (.d [0,1,2,3,4,5,6,7,8,9,10,11] [0,1] [] .z)))) (fun _=>.z)) .z)))) (fun s74=>.z))))))))))
end Go.Proofs.YtgjpamkllimhdaaGreat
