import Derived.Test.YtjgapphpbkapmaaGreatJMb0
import Derived.Test.YtjgapphpbkapmaaGreatJC6c0
import Derived.Test.YtjgapphpbkapmaaGreatJC6b0
import Derived.Test.YtjgapphpbkapmaaGreatJC6a0
set_option linter.unusedSimpArgs false
set_option linter.unusedVariables false
namespace Go.Proofs.YtjgapphpbkapmaaGreat
open Go Go.RowKit
set_option maxRecDepth 100000
set_option maxHeartbeats 20000000
instance V3a:∀ (n:Nat) (p0:Q1) (p1:Q1),Ct (Q7c n p0 p1) fun res=>Z2 Tryz.prog 0o00121 [(.agg (X1 p0)),(.agg (X1 p1))] (fun d=>d=(eB res)):=
 ar (au Tryz.func81 Q7c.eq_2 (.o (.o (.o (.o (.i .z (.i .z (.i .z (.i .z (.ls 26 (.f [] [] [2,3,32,33] [0,8] (fun (k82:Nat) (s78:Unit)=>[(33,eI (k82:Int))]) (fun k82 s78=>[]) (fun k82 s78=>.o (.g [2,3,5,32,33] [0,1] [] [] (.o (.o (.d [0,1,2,3,4,5,6,7,8,9,10,11] [0,1] [] .z))))) (fun s86=>.z))))))))))))
instance W2i:∀ (n:Nat) (p0:(List Q3)) (p1:Q4) (p2:Q1) (p3:Q1),Ct (Q37 n p0 p1 p2 p3) fun res=>Z2 Tryz.prog 0o00047 [(.slice 2 (List.map W2 p0)),(.agg (W0 p1)),(.agg (X1 p2)),(.agg (X1 p3))] (fun d=>d=(eB res)):=
 au Tryz.func39 Q37.eq_1 .z
instance X8y:∀ (n:Nat) (p0:(List Q3)) (p1:Q4) (p2:Int),Ct (Q0i n p0 p1 p2) fun res=>Z2 Tryz.prog 0o00122 [(.slice 2 (List.map W2 p0)),(.agg (W0 p1)),(eI p2)] (fun d=>d=(eI res)):=
 ar (au Tryz.func82 Q0i.eq_2 (.o (.o (.o (.o (.o (.i .z (.i .z (.o (.ls 20 (.f [7] [] [0,2,4,7,20,21,22] [0] (fun (k582:Nat) (s578:Int)=>[(7,eI s578),(22,eI (k582:Int))]) (fun k582 s578=>[]) (fun k582 s578=>.o (.o (.ls 29 (.f [0,2,4,7,10,20,21,22] [0] [0,2,4,7,10,20,21,22,29,30,31] [0] (fun (k688:Nat) (s684:Int)=>[(10,eI s684),(31,eI (k688:Int))]) (fun k688 s684=>[]) (fun k688 s684=>.z) (fun s692=>.z))))) (fun s586=>.z))))))))))))
instance W4n:∀ (n:Nat) (p0:Q4) (q0:(List Q3)) (q1:Int),Ct (Q59 n p0 q0 q1) fun res=>Z2 Tryz.prog 0o00240 [(.agg (W0 p0)),.cptr [(.slice 2 (List.map W2 q0))],.cptr [(eI q1)]] (fun d=>d=(eB res)):=
 au Tryz.func160 Q59.eq_1 .z
theorem Z25 (p0:(List Q1)) (res:(List Q1)) (h:Q1l p0=some res):J0 Tryz.prog 0o00241 [] [(.slice 3 (List.map X1 p0))] (fun H d=>H=[some ⟨3,List.map X1 res,0,0x001d⟩]∧d=.sl 3 0 res.length):=by
 unfold Q1l at h
 refine CH Tryz.func161 [.tmp 2] 0 fun β hβ=>?_
 refine sZ ?_
 apply sq
 refine sk fun K hK=>?_
 simp
 refine ⟨?_,fun hnil=>?_⟩
 ·apply hK
  refine cF ?_
  apply TrD.skip
  apply sq
  obtain ⟨x3,hx3,h⟩:=bindE h
  have hx3_r:=(Q86 hx3).2
  try simp only [U4,Nat.zero_add] at hx3_r
  obtain hhx3:=Z5i hx3
  subst hhx3
  refine rZ ?_ fun K hK=>by simp [hx3_r];exact hK
  cases h
  apply TrD.ret
  refine Z2e (σ':=⟨(updD (fun _=>.any) 2 (.sl 3 0 (p0).length)),hOfO [some ⟨3,(List.map X1 p0),0,0x001d⟩],1,8⟩) ?_ ?_
  ·exact gC [40]
  dsimp only [resD]
  exact eA
 replace h:some ([])=some res:=by simp only [hnil] at h;simpa [app] using h
 apply hK
 refine cT ?_
 refine sZ ?_
 cases h
 apply TrD.ret
 refine Z2e (σ':=⟨(updD (fun _=>.any) 2 (.sl 3 0 0)),hOfO [some ⟨3,(List.map X1 []),0,0x001d⟩],1,8⟩) ?_ ?_
 ·refine (V0.ownNil (s:=2) (by simp) 3 0x001d).trans ?_
  exact gC [32]
 dsimp only [resD]
 exact eA
instance X5s:∀ (p0:(List Q1)),Ct (Q1l p0) fun res=>J0 Tryz.prog 0o00241 [] [(.slice 3 (List.map X1 p0))] (fun H d=>H=[some ⟨3,List.map X1 res,0,0x001d⟩]∧d=.sl 3 0 res.length):=fun p0=>⟨Z25 p0⟩
instance W9h:∀ (p0:Int),Ct (Q83 p0) fun res=>Z2 Tryz.prog 0o00236 [(eI p0)] (fun d=>d=(.agg (X1 res))):=
 au Tryz.func158 Q83.eq_1 .z
instance W9f:∀ (n:Nat) (p0:(List Q3)) (p1:Q4) (p2:Int),Ct (Q3d n p0 p1 p2) fun res=>Z2 Tryz.prog 0o00123 [(.slice 2 (List.map W2 p0)),(.agg (W0 p1)),(eI p2)] (fun d=>d=(.slice 3 (List.map X1 res))):=
 ar (au Tryz.func83 Q3d.eq_2 (.o (.o (.o (.o (.o (.i .z (.i (.pN 7 3 0x001d (.w [7] [88] [7,26] [88] (fun (s110:(List Q1)×Int)=>[(7,.sl 3 88 (s110.1).length),(26,eI s110.2)]) (fun s110=>[(88,some ⟨3,(List.map X1 s110.1),0,0x001d⟩)]) (fun s110=>.z) (fun s118=>.z))) (.o (.pN 7 3 0x001d (.ls 38 (.f [7] [120] [3,4,5,7,38,39,40] [0,8,16,120] (fun (k60277:Nat) (s60273:(List Q1))=>[(7,.sl 3 120 (s60273).length),(40,eI (k60277:Int))]) (fun k60277 s60273=>[(120,some ⟨3,(List.map X1 s60273),0,0x001d⟩)]) (fun k60277 s60273=>.o (.j 13 0 [3,4,5,7,38,39,40] [0,1,2,3] (fun (s66292:(List Q1))=>[(7,.sl 3 3 (s66292).length)]) (fun s66292=>[(3,some ⟨3,(List.map X1 s66292),0,0x001d⟩)]) (.o (.o (.i .z (.ls 47 (.f [3,4,5,7,12,38,39,40] [0,1,2,3,116] [3,4,5,7,10,12,38,39,40,54,55,56] [0,1,2,3,116] (fun (k71305:Nat) (s71301:(List Q1))=>[(12,.sl 3 116 (s71301).length),(56,eI (k71305:Int))]) (fun k71305 s71301=>[(116,some ⟨3,(List.map X1 s71301),0,0x001d⟩)]) (fun k71305 s71301=>.o (.o (.pN 16 3 0x001d (.ll 4 (.f [3,4,5,7,10,16,38,39,40,54,55,56] [0,1,2,3,125] [3,4,5,7,10,15,16,38,39,40,54,55,56,65,66,67] [0,1,2,3,125,4] (fun (k72223:Nat) (s72219:(List Q1))=>[(16,.sl 3 125 (s72219).length),(67,eI (k72223:Int))]) (fun k72223 s72219=>[(125,some ⟨3,(List.map X1 s72219),0,0x001d⟩)]) (fun k72223 s72219=>.o (.ls 15 (.f [3,4,5,7,10,15,16,38,39,40,54,55,56,65,66,67] [0,1,2,3,4,5] [3,4,5,7,10,15,16,18,38,39,40,54,55,56,65,66,67,71,72,73] [0,1,2,3,4,30,5] (fun (k72293:Nat) (s72289:(List Q1))=>[(16,.sl 3 4 (s72289).length),(73,eI (k72293:Int))]) (fun k72293 s72289=>[(4,some ⟨3,(List.map X1 s72289),0,0x001d⟩)]) (fun k72293 s72289=>.o (.g [3,4,5,7,10,15,16,18,20,38,39,40,54,55,56,65,66,67,71,72,73] [0,1,2,3,4,5,31,6] [] [] (.o (.o (.o (.dz [0,1,2,3,5,4,6,7,8,9,10,11] [5,6] [1048659] [] (.pF 2097160 .z))))))) (fun s72297=>.z)))) (fun s72227=>.z)))))) (fun s71309=>.z)))))) (fun _=>.z))) (fun s60281=>.z)))))))))))))
instance W0v:∀ (n:Nat) (p0:(List Q3)) (p1:Q4) (p2:Int),Ct (Q22 n p0 p1 p2) fun res=>Z2 Tryz.prog 0o00050 [(.slice 2 (List.map W2 p0)),(.agg (W0 p1)),(eI p2)] (fun d=>d=.tup [(.slice 3 (List.map X1 res.1)),(eB res.2)]):=
 au Tryz.func40 Q22.eq_1 (.o (.o (.o (.o (.o (.i .z (.o (.i .z (.o (.i .z (.o (.pN 8 3 0x001d (.ls 30 (.f [8] [208] [8,30,31,32] [208] (fun (k92:Nat) (s88:(List Q1))=>[(8,.sl 3 208 (s88).length),(32,eI (k92:Int))]) (fun k92 s88=>[(208,some ⟨3,(List.map X1 s88),0,0x001d⟩)]) (fun k92 s88=>.z) (fun s96=>.z)))))))))))))))
instance Z38:∀ (n:Nat) (p0:(List X8)) (p1:Int) (p2:Int) (p3:(X8→X8→Option Int)) {p3_f:FuncId} {p3_c:List D} [p3_i:CF2 (fun a0=>(.agg (Q1m a0))) (fun a1=>(.agg (Q1m a1))) (fun r=>(eI r)) p3 p3_f p3_c],Ct (J1 n p0 p1 p2 p3) fun res=>J0 Tryz.prog 0o00415 [⟨4,List.map Q1m p0,0,0x0052⟩] [.sl 4 0 p0.length,(eI p1),(eI p2),.clos p3_f p3_c] (fun H d=>H=[some ⟨4,List.map Q1m res,0,0x0052⟩]∧d=.tup []):=
 au Tryz.func269 J1.eq_1 (.o (.o (.o (.o (.o (.o (.o (.o (.w [] [0] [0,1,2,3,8] [0] (fun (s464:(List X8)×Int)=>[(0,.sl 4 0 (s464.1).length),(8,eI s464.2)]) (fun s464=>[(0,some ⟨4,(List.map Q1m s464.1),0,0x0052⟩)]) (fun s464=>.i (.w [0,1,2,3,8] [0] [0,1,2,3,8,9] [0] (fun (s660:(List X8)×Int)=>[(0,.sl 4 0 (s660.1).length),(9,eI s660.2)]) (fun s660=>[(0,some ⟨4,(List.map Q1m s660.1),0,0x0052⟩)]) (fun s660=>.g [0,1,2,3,8,9] [0] [] [] (.i (.o (.o (.o (.d [0,1,2,3,4,5,6,7,8,9,10,11,12,13,14,15,16] [0] [] (.i (.g [0,1,2,3,8,9] [0] [] [] (.o (.o (.o (.d [0,1,2,3,4,5,6,7,8,9,10,11,12,13,14,15,16,17] [0] [51,52] .z))))) .z))))) (.d [0,1,2,3,4,5,6,7,8,9,10,11,12,13,14,15,16] [] [] .z))) (fun s668=>.z)) .z) (fun s472=>.z))))))))))
instance Z6k:∀ (n:Nat) (p0:(List X8)) (p1:Int) (p2:Int) (p3:Int) (p4:(X8→X8→Option Int)) {p4_f:FuncId} {p4_c:List D} [p4_i:CF2 (fun a0=>(.agg (Q1m a0))) (fun a1=>(.agg (Q1m a1))) (fun r=>(eI r)) p4 p4_f p4_c],Ct (Q1b n p0 p1 p2 p3 p4) fun res=>J0 Tryz.prog 0o00351 [⟨4,List.map Q1m p0,0,0x0052⟩] [.sl 4 0 p0.length,(eI p1),(eI p2),(eI p3),.clos p4_f p4_c] (fun H d=>H=[some ⟨4,List.map Q1m res,0,0x0052⟩]∧d=.tup []):=
 ar (au Tryz.func233 Q1b.eq_2 (.o (.o (.o (.o (.o (.o (.o (.o (.o (.o (.w [] [0] [0,1,2,3,4,10,11] [0] (fun (s10:Unit)=>[]) (fun s10=>[]) (fun s10=>.z) (fun s18=>.z)))))))))))))
instance X2q:∀ (n:Nat) (p0:(List X8)) (p1:(X8→X8→Option Int)) {p1_f:FuncId} {p1_c:List D} [p1_i:CF2 (fun a0=>(.agg (Q1m a0))) (fun a1=>(.agg (Q1m a1))) (fun r=>(eI r)) p1 p1_f p1_c],Ct (Q0y n p0 p1) fun res=>J0 Tryz.prog 0o00270 [⟨4,List.map Q1m p0,0,0x0052⟩] [.sl 4 0 p0.length,.clos p1_f p1_c] (fun H d=>H=[some ⟨4,List.map Q1m res,0,0x0052⟩]∧d=.tup []):=
 au Tryz.func184 Q0y.eq_1 .z
instance W2e:∀ (p0:X8) (p1:X8),Ct (Q1n p0 p1) fun res=>Z2 Tryz.prog 0o00271 [(.agg (Q1m p0)),(.agg (Q1m p1))] (fun d=>d=(eI res)):=
 au Tryz.func185 Q1n.eq_1 .z
instance V1k:∀ (n:Nat) (p0:Q0) (p1:Q1),Ct (Q3f n p0 p1) fun res=>J0 Tryz.prog 0o00267 [] [(.agg (Z0 p0)),(.agg (X1 p1))] (fun H d=>H=[some ⟨4,List.map Q1m res.1,0,0x0052⟩]∧d=.tup [.sl 4 0 res.1.length,(eB res.2)]):=
 ar (au Tryz.func183 Q3f.eq_2 (.o (.o (.o (.o (.i (.pN 4 4 0x0052 .z) (.i .z (.i (.o (.pN 4 4 0x0052 .z)) (.i (.g [2,3] [0,8] [] [] (.o (.o (.d [0,1,2,3,4,5,6,7,8,9,10] [0,1] [] (.i .z (.g [2,3] [0,1] [] [] (.o (.o (.d [0,1,2,3,4,5,6,7,8,9] [0,1] [] .z))))))))) (.i (.g [2,3] [0,8] [] [] (.o (.o (.d [0,1,2,3,4,5,6,7,8,9,10] [0,1] [] .z)))) (.i (.pN 4 4 0x0052 .z) (.pN 10 4 0x0052 (.ls 81 (.f [10] [208] [3,10,81,82,83] [8,208] (fun (k122:Nat) (s118:(List X8))=>[(10,.sl 4 208 (s118).length),(83,eI (k122:Int))]) (fun k122 s118=>[(208,some ⟨4,(List.map Q1m s118),0,0x0052⟩)]) (fun k122 s118=>.o (.g [3,10,11,12,81,82,83] [0,1,34] [] [] (.o (.o (.d [0,1,2,3,4,5,6,7,8,9,10,11] [0,2] [] (.i (.pN 4 4 0x0052 .z) .z)))))) (fun s126=>.z)))))))))))))))
instance W75:∀ (n:Nat) (p0:Q0) (p1:Q1),Ct (Q4v n p0 p1) fun res=>Z2 Tryz.prog 0o00155 [(.agg (Z0 p0)),(.agg (X1 p1))] (fun d=>d=.tup [(.slice 4 (List.map Q1m res.1)),(eB res.2)]):=
 au Tryz.func109 Q4v.eq_1 (.o (.o (.o (.o (.i .z (.o (.o (.ll 49 (.f [6] [49] [6,20,21,22] [49] (fun (k63:Nat) (s59:(List X8))=>[(6,.sl 4 49 (s59).length),(20,.sl 4 49 (s59).length),(22,eI (k63:Int))]) (fun k63 s59=>[(49,some ⟨4,(List.map Q1m s59),0,0x0052⟩)]) (fun k63 s59=>.z) (fun s67=>.z))))))))))
instance V4l:∀ (n:Nat) (p0:(List Q6)) (p1:Q1),Ct (Q8f n p0 p1) fun res=>Z2 Tryz.prog 0o00063 [(.slice 9 (List.map V1 p0)),(.agg (X1 p1))] (fun d=>d=.tup [(eI res.1),(.slice 4 (List.map Q1m res.2))]):=
 au Tryz.func51 Q8f.eq_1 (.o (.o (.o (.ls 0 (.f [] [] [3,10,11,12] [0] (fun (k139:Nat) (s135:Unit)=>[(12,eI (k139:Int))]) (fun k139 s135=>[]) (fun k139 s135=>.o (.j 3 0 [3,10,11,12] [0] (fun (s153:Unit)=>[]) (fun _=>[]) .z (fun _=>.z))) (fun s143=>.z))))))
instance W0w:∀ (n:Nat) (p0:(List Q3)) (p1:Q4) (p2:(List Q6)) (p3:Q1),Ct (Q44 n p0 p1 p2 p3) fun res=>Z2 Tryz.prog 0o00017 [(.slice 2 (List.map W2 p0)),(.agg (W0 p1)),(.slice 9 (List.map V1 p2)),(.agg (X1 p3))] (fun d=>d=.tup [(eI res.1),(.slice 4 (List.map Q1m res.2.1)),(eB res.2.2)]):=
 au Tryz.func15 Q44.eq_1 .z
instance W6y:∀ (n:Nat) (p0:X0) (p1:Q1),Ct (Q4u n p0 p1) fun res=>J0 Tryz.prog 0o00105 [⟨2,[(Y1 p0)],0,0x00c5⟩] [.ptr 2 0 0 0,(.agg (X1 p1))] (fun H d=>H=[some ⟨2,[(Y1 res.2)],0,0x00c5⟩]∧d=(.agg (X1 res.1))):=
 ar (au Tryz.func69 Q4u.eq_2 (.o (.o (.o (.b fun (p1:Q1)=>.o (.i .z (.pC 81 2 3 0x001d (.lc 1 2 3 X1 p1.kids (.f [4,5] [0,9,81,105] [0,3,4,5,6] [0,1,9,81,105] (fun (k62:Nat) (s58:X0×(List Q1))=>[(6,eI (k62:Int))]) (fun k62 s58=>[(0,some ⟨2,[(Y1 s58.1)],0,0x00c5⟩),(1000000081,some ⟨3,[[(eI p1.ctor),(eI p1.n),(.sl 3 105 (s58.2).length)]],0,0x001d⟩),(105,some ⟨3,(List.map X1 s58.2),0,0x001d⟩)]) (fun k62 s58=>.o (.g [0,3,4,5,6] [0,1,2,3,4] [] [(1000000003,some ⟨3,[[(eI p1.ctor),(eI p1.n),(.sl 3 4 (s58.2).length)]],0,0x001d⟩)] (.o (.o (.d [0,1,2,3,4,5,6,7,8,9,10,11,12] [1,3] [34] .z))))) (fun s66=>.pF 3 .z))))))))))
instance X4g:∀ (n:Nat) (p0:(List Int)),Ct (Q16 n p0) fun res=>Z2 Tryz.prog 0o00033 [(.slice 1 (List.map (rK .u8) p0))] (fun d=>d=.tup [(.slice 2 (List.map W2 res.1)),(.agg (W0 res.2.1)),(.slice 9 (List.map V1 res.2.2.1)),(eI res.2.2.2.1),(.agg (X1 res.2.2.2.2))]):=
 au Tryz.func27 Q16.eq_1 (.o (.o (.o (.g [0,3,6,7,8,9,10,11] [8,32,104,112] [] [] (.o (.o (.d [0,1,2,3,4,6,5,7,8,9,10,11,12] [2,3] [] .z)))))))
instance Z2v:∀ (n:Nat) (p0:(List Int)) (p1:(List Int)),Ct (Q20 n p0 p1) fun res=>Z2 Tryz.prog 0o00012 [(.slice 1 (List.map (rK .u8) p0)),(.slice 1 (List.map (rK .u8) p1))] (fun d=>d=(eB res)):=
 au Tryz.func10 Q20.eq_1 (.o (.o (.o (.i .z (.i .z (.o (.o (.o (.i .z (.i .z (.o (.i .z (.i .z (.o (.o (.i .z (.o (.ls 130 (.f [] [] [5,6,7,9,10,24,26] [136,144] (fun (k288:Nat) (s284:Unit)=>[(26,eI (k288:Int))]) (fun k288 s284=>[]) (fun k288 s284=>.o (.j 16 0 [5,6,7,9,10,24,26] [0,1] (fun (s302:Unit)=>[]) (fun _=>[]) (.g [5,6,7,9,10,24,26] [0,1] [] [] (.o (.d [0,1,2,3,4,5,6,7,8,9,10,11,12,13,14] [0] [] (.g [5,6,7,9,10,24,26,27] [0,1] [] [] (.o (.i (.d [0,1,2,3,4,5,6,7,8,9,10,11,12] [0,1] [] .z) (.d [0,1,2,3,4,5,6,7,8,9,10,11,12] [0,1] [] .z))))))) (fun _=>.z))) (fun s292=>.z))))))))))))))))))))
theorem Z34 (n:Nat) (p0:(List Int)) (p1:(List Int)):∀ res,Q20 n p0 p1=some res→Z2 Tryz.prog 0o00012 [(.slice 1 (List.map (rK .u8) p0)),(.slice 1 (List.map (rK .u8) p1))] (fun d=>d=(eB res)):=(Z2v n p0 p1).pf
end Go.Proofs.YtjgapphpbkapmaaGreat
