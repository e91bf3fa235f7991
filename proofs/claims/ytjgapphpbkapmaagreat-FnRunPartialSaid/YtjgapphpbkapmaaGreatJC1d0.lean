import Derived.Test.YtjgapphpbkapmaaGreatJC0d0
import Derived.Test.YtjgapphpbkapmaaGreatJC0c0
import Derived.Test.YtjgapphpbkapmaaGreatJC0b0
import Derived.Test.YtjgapphpbkapmaaGreatJC0a0
set_option linter.unusedSimpArgs false
set_option linter.unusedVariables false
namespace Go.Proofs.YtjgapphpbkapmaaGreat
open Go Go.RowKit
set_option maxRecDepth 100000
set_option maxHeartbeats 20000000
instance W6v:∀ (p0:(List Int)) (p1:Q4),Ct (Q27 p0 p1) fun res=>Z2 Tryz.prog 0o00322 [(.slice 1 (List.map rI p0)),(.agg (W0 p1))] (fun d=>d=(eI res)):=
 au Tryz.func210 Q27.eq_1 .z
instance W6n:∀ (p0:(List Z1)) (p1:(List Z1)),Ct (Q4s p0 p1) fun res=>Z2 Tryz.prog 0o00443 [(.slice 3 (List.map Y2 p0)),(.slice 3 (List.map Y2 p1))] (fun d=>d=(eB res)):=
 au Tryz.func291 Q4s.eq_1 (.o (.o (.ls 0 (.f [0,1] [] [0,1,5] [] (fun (k124:Nat) (s120:Unit)=>[(5,eI (k124:Int))]) (fun k124 s120=>[]) (fun k124 s120=>.o (.o (.g [0,1,5,6] [] [] [] (.i (.d [0,1,2,3,4,5,6,7,8,9,10,11,12,13,14] [] [] .z) (.o (.d [0,1,2,3,4,5,6,7,8,9,10,11,12,13,14] [] [] .z)))))) (fun s128=>.z)))))
instance W9g:∀ (p0:(List Q3)) (p1:Q4),Ct (Q6w p0 p1) fun res=>Z2 Tryz.prog 0o00227 [(.slice 2 (List.map W2 p0)),(.agg (W0 p1))] (fun d=>d=(eB res)):=
 au Tryz.func151 Q6w.eq_1 .z
instance Z6l:∀ (p0:(List Q6)) (p1:(Q6→Option Bool)) {p1_f:FuncId} {p1_c:List D} [p1_i:CF1 (fun a0=>(.agg (V1 a0))) (fun r=>(eB r)) p1 p1_f p1_c],Ct (Q1c p0 p1) fun res=>Z2 Tryz.prog 0o00152 [(.slice 9 (List.map V1 p0)),.clos p1_f p1_c] (fun d=>d=(eB res)):=
 au Tryz.func106 Q1c.eq_1 .z
instance X1q:∀ (n:Nat) (p0:(List Grow)) (p1:(Grow→Option Bool)) {p1_f:FuncId} {p1_c:List D} [p1_i:CF1 (fun a0=>(.agg (Q4b a0))) (fun r=>(eB r)) p1 p1_f p1_c],Ct (Q0u n p0 p1) fun res=>J0 Tryz.prog 0o00301 [⟨3,List.map Q4b p0,0,0x0062⟩] [.sl 3 0 p0.length,.clos p1_f p1_c] (fun H d=>H=[none,some ⟨3,List.map Q4b res,0,0x0062⟩]∧d=.sl 3 1 res.length):=
 au Tryz.func193 Q0u.eq_1 (.o (.o (.o (.o (.o (.o (.o (.i (.pM 4 .z) (.w [0,5] [0] [0,1,5,6] [0] (fun (s96:(List Grow)×Int×Int)=>[(0,.sl 3 0 (s96.1).length),(5,eI s96.2.1),(6,eI s96.2.2)]) (fun s96=>[(0,some ⟨3,(List.map Q4b s96.1),0,0x0062⟩)]) (fun s96=>.i (.j 7 0 [0,1,5,6] [0] (fun (s112:(List Grow)×Int)=>[(0,.sl 3 0 (s112.1).length),(5,eI s112.2)]) (fun s112=>[(0,some ⟨3,(List.map Q4b s112.1),0,0x0062⟩)]) .z (fun _=>.z)) .z) (fun s104=>.o (.pM 4 .z)))))))))))
instance W4m:∀ (p0:Int),Ct (Q58 p0) fun res=>Z2 Tryz.prog 0o00246 [(.val (.int .u64 p0))] (fun d=>d=(eI res)):=
 au Tryz.func166 Q58.eq_1 .z
instance W6i:∀ (p0:Q2i) (p1:(List Z1)),Ct (Q4r p0 p1) fun res=>Z2 Tryz.prog 0o00342 [(.agg (Q77 p0)),(.slice 3 (List.map Y2 p1))] (fun d=>d=(eB res)):=
 au Tryz.func226 Q4r.eq_1 (.o (.o (.i .z (.j 3 0 [1,2] [0] (fun (s23:Unit)=>[]) (fun _=>[]) .z (fun _=>.z)))))
instance W24:∀ (n:Nat) (p0:V9) (p1:Q0) (p2:(List Int)),Ct (Q64 n p0 p1 p2) fun res=>J0 Tryz.prog 0o00360 [⟨6,List.map Z0 p0.pats,0,0x0060⟩] [.agg [(eI p0.clause),.sl 6 0 p0.pats.length,(.slice 2 (List.map Z3 p0.binds))],(.agg (Z0 p1)),(.slice 1 (List.map rI p2))] (fun H d=>H=[some ⟨6,List.map Z0 res.1.pats,0,0x0060⟩]∧d=.tup [.agg [(eI res.1.clause),.sl 6 0 res.1.pats.length,(.slice 2 (List.map Z3 res.1.binds))],(.agg (Z0 res.2))]):=
 au Tryz.func240 Q64.eq_1 (.o (.b fun (p0:V9)=>.o (.b fun (p2:(List Int))=>.w [2,3,4,6,7] [0,1,9,17,25] [2,3,4,6,7] [0,1,9,17,25] (fun (s16:(List Q2)×Q0)=>[]) (fun s16=>[(1000000001,some ⟨3,[[(eI p0.clause),(.sl 6 0 (p0.pats).length),(.slice 2 (List.map Z3 s16.1))]],0,0x0125⟩),(9,some ⟨6,[(Z0 s16.2)],0,0x0060⟩)]) (fun s16=>.i (.g [2,3,4,6,7] [0,1,2,3,4] [] [(1000000001,some ⟨3,[[(eI p0.clause),(.sl 6 0 (p0.pats).length),(.slice 2 (List.map Z3 s16.1))]],0,0x0125⟩)] (.o (.o (.o (.dz [1,2,4,5,7,0,3,6,8,9,10,11,12,13] [1,2] [1048593] [23] (.o (.pF 2097168 (.pF 2097184 .z)))))))) .z) (fun s24=>.i (.g [2,3,4,6,7] [0,1,2,3,4] [] [(1000000001,some ⟨3,[[(eI p0.clause),(.sl 6 0 (p0.pats).length),(.slice 2 (List.map Z3 s24.1))]],0,0x0125⟩)] (.o (.o (.o (.dz [1,2,4,5,7,0,3,6,8,9,10,11,12,13] [1,2] [1048613] [43] (.pF 2097168 (.g [3,6,7] [0,1,2097184,3,4] [] [(1000000001,some ⟨3,[[(eI p0.clause),(.sl 6 0 (p0.pats).length),(.sl 2 2097184 ((s24.1++[(Q2.mk s24.2.var p2)])).length)]],0,0x0125⟩),(2097184,some ⟨2,(List.map Z3 (s24.1++[(Q2.mk s24.2.var p2)])),0,0x008b⟩)] (.o (.d [0,1,2,3] [1] [] (.pF 2 .z)))))))))) (.g [3,4,6,7] [0,1,2,3,4] [] [(1000000001,some ⟨3,[[(eI p0.clause),(.sl 6 0 (p0.pats).length),(.slice 2 (List.map Z3 s24.1))]],0,0x0125⟩)] (.d [0,1,2,3] [1,2] [] .z))))))
instance W6b:∀ (n:Nat) (p0:V9) (p1:Q0) (p2:(List Int)),Ct (Q3k n p0 p1 p2) fun res=>Z2 Tryz.prog 0o00360 [(.agg (Q29 p0)),(.agg (Z0 p1)),(.slice 1 (List.map rI p2))] (fun d=>d=.tup [(.agg (Q29 res.1)),(.agg (Z0 res.2))]):=
 au Tryz.func240 Q3k.eq_1 (.o (.b fun (p0:V9)=>.o (.b fun (p2:(List Int))=>.w [2,3,4,6,7] [0,8,16,24] [2,3,4,6,7] [0,8,16,24] (fun (s16:(List Q2)×Q0)=>[]) (fun s16=>[(0,some ⟨3,[[(eI p0.clause),(.slice 6 (List.map Z0 p0.pats)),(.slice 2 (List.map Z3 s16.1))]],0,0x0125⟩),(8,some ⟨6,[(Z0 s16.2)],0,0x0060⟩)]) (fun s16=>.i (.g [2,3,4,6,7] [0,1,2,3] [] [] (.o (.o (.o (.dz [1,2,4,5,7,0,3,6,8,9,10,11,12,13] [0,1] [1048593] [23] (.o (.pF 2097168 (.pF 2097184 .z)))))))) .z) (fun s24=>.i (.g [2,3,4,6,7] [0,1,2,3] [] [] (.o (.o (.o (.dz [1,2,4,5,7,0,3,6,8,9,10,11,12,13] [0,1] [1048613] [43] (.pF 2097168 (.g [3,6,7] [0,2097184,2,3] [] [(1000000000,some ⟨3,[[(eI p0.clause),(.slice 6 (List.map Z0 p0.pats)),(.sl 2 2097184 ((s24.1++[(Q2.mk s24.2.var p2)])).length)]],0,0x0125⟩),(2097184,some ⟨2,(List.map Z3 (s24.1++[(Q2.mk s24.2.var p2)])),0,0x008b⟩)] (.o (.d [0,1,2,3] [0] [] .z))))))))) (.g [3,4,6,7] [0,1,2,3] [] [] (.d [0,1,2,3] [0,1] [] .z))))))
end Go.Proofs.YtjgapphpbkapmaaGreat
