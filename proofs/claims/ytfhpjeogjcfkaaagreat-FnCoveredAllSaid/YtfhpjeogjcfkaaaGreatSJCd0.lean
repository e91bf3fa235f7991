import Derived.Test.YtfhpjeogjcfkaaaGreatSJMd0
import Derived.Test.YtfhpjeogjcfkaaaGreatSJC6c0
import Derived.Test.YtfhpjeogjcfkaaaGreatSJC6a0
import Derived.Test.YtfhpjeogjcfkaaaGreatSJC6b0
set_option linter.unusedSimpArgs false
set_option linter.unusedVariables false
namespace Go.Proofs.YtfhpjeogjcfkaaaGreat
open Go Go.RowKit
set_option maxRecDepth 100000
set_option maxHeartbeats 20000000
instance X8w:∀ (n:Nat) (p0:(List Q4)) (p1:Q1) (p2:Int),Ct (Q0d n p0 p1 p2) fun res=>Q6 Tryz.prog 0o00132 [(.slice 2 (List.map Z8 p0)),(.agg (Z2 p1)),(eI p2)] (fun d=>d=(eI res)):=
 ar (au Tryz.func90 Q0d.eq_2 (.o (.o (.o (.o (.o (.i .z (.i .z (.o (.ls 20 (.f [7] [] [0,2,4,7,20,21,22] [0] (fun (k582:Nat) (s578:Int)=>[(7,eI s578),(22,eI (k582:Int))]) (fun k582 s578=>[]) (fun k582 s578=>.o (.o (.ls 29 (.f [0,2,4,7,10,20,21,22] [0] [0,2,4,7,10,20,21,22,29,30,31] [0] (fun (k688:Nat) (s684:Int)=>[(10,eI s684),(31,eI (k688:Int))]) (fun k688 s684=>[]) (fun k688 s684=>.z) (fun s692=>.z))))) (fun s586=>.z))))))))))))
instance W4o:∀ (n:Nat) (p0:Q1) (q0:(List Q4)) (q1:Int),Ct (Q5b n p0 q0 q1) fun res=>Q6 Tryz.prog 0o00265 [(.agg (Z2 p0)),.cptr [(.slice 2 (List.map Z8 q0))],.cptr [(eI q1)]] (fun d=>d=(eB res)):=
 au Tryz.func181 Q5b.eq_1 .z
theorem Z1r (p0:(List Q3))(res:(List Q3))(h:Q1o p0=some res):Q19 Tryz.prog 0o00266 [] [(.slice 3 (List.map Z5 p0))] (fun H d=>H=[some ⟨3,List.map Z5 res,0,0x001d⟩]∧d=.sl 3 0 res.length):=by
 unfold Q1o at h
 refine CH Tryz.func182 [.tmp 2] 0 fun β hβ=>?_
 refine sZ ?_
 apply sq
 refine sk fun K hK=>?_
 simp
 refine ⟨?_,fun hnil=>?_⟩
 ·apply hK
  refine cF ?_
  apply TrD.skip
  apply sq
  obtain ⟨x3,hx3,h⟩:=bindE h
  have hx3_r:=(Z1i hx3).2
  try simp only [U4,Nat.zero_add] at hx3_r
  obtain hhx3:=X7p hx3
  subst hhx3
  refine rZ ?_ fun K hK=>by simp [hx3_r];exact hK
  cases h
  apply TrD.ret
  refine X9e (σ':=⟨(updD (fun _=>.any) 2 (.sl 3 0 (p0).length)),hOfO [some ⟨3,(List.map Z5 p0),0,0x001d⟩],1,8⟩) ?_ ?_
  ·exact gC [40]
  dsimp only [resD]
  exact eA
 replace h:some ([])=some res:=by simp only [hnil] at h;simpa [app] using h
 apply hK
 refine cT ?_
 refine sZ ?_
 cases h
 apply TrD.ret
 refine X9e (σ':=⟨(updD (fun _=>.any) 2 (.sl 3 0 0)),hOfO [some ⟨3,(List.map Z5 []),0,0x001d⟩],1,8⟩) ?_ ?_
 ·refine (V9.ownNil (s:=2) (by simp) 3 0x001d).trans ?_
  exact gC [32]
 dsimp only [resD]
 exact eA
instance X5c:∀ (p0:(List Q3)),Ct (Q1o p0) fun res=>Q19 Tryz.prog 0o00266 [] [(.slice 3 (List.map Z5 p0))] (fun H d=>H=[some ⟨3,List.map Z5 res,0,0x001d⟩]∧d=.sl 3 0 res.length):=fun p0=>⟨Z1r p0⟩
instance W8x:∀ (n:Nat) (p0:(List Q4)) (p1:Q1) (p2:Int),Ct (Q3i n p0 p1 p2) fun res=>Q6 Tryz.prog 0o00133 [(.slice 2 (List.map Z8 p0)),(.agg (Z2 p1)),(eI p2)] (fun d=>d=(.slice 3 (List.map Z5 res))):=
 ar (au Tryz.func91 Q3i.eq_2 (.o (.o (.o (.o (.o (.i .z (.i (.pN 7 3 0x001d (.w [7] [88] [7,26] [88] (fun (s110:(List Q3)×Int)=>[(7,.sl 3 88 (s110.1).length),(26,eI s110.2)]) (fun s110=>[(88,some ⟨3,(List.map Z5 s110.1),0,0x001d⟩)]) (fun s110=>.z) (fun s118=>.z))) (.o (.pN 7 3 0x001d (.ls 38 (.f [7] [120] [3,4,5,7,38,39,40] [0,8,16,120] (fun (k60277:Nat) (s60273:(List Q3))=>[(7,.sl 3 120 (s60273).length),(40,eI (k60277:Int))]) (fun k60277 s60273=>[(120,some ⟨3,(List.map Z5 s60273),0,0x001d⟩)]) (fun k60277 s60273=>.o (.j 13 0 [3,4,5,7,38,39,40] [0,1,2,3] (fun (s66292:(List Q3))=>[(7,.sl 3 3 (s66292).length)]) (fun s66292=>[(3,some ⟨3,(List.map Z5 s66292),0,0x001d⟩)]) (.o (.o (.i .z (.ls 47 (.f [3,4,5,7,12,38,39,40] [0,1,2,3,116] [3,4,5,7,10,12,38,39,40,54,55,56] [0,1,2,3,116] (fun (k71305:Nat) (s71301:(List Q3))=>[(12,.sl 3 116 (s71301).length),(56,eI (k71305:Int))]) (fun k71305 s71301=>[(116,some ⟨3,(List.map Z5 s71301),0,0x001d⟩)]) (fun k71305 s71301=>.o (.o (.pN 16 3 0x001d (.ll 4 (.f [3,4,5,7,10,16,38,39,40,54,55,56] [0,1,2,3,125] [3,4,5,7,10,15,16,38,39,40,54,55,56,65,66,67] [0,1,2,3,125,4] (fun (k72223:Nat) (s72219:(List Q3))=>[(16,.sl 3 125 (s72219).length),(67,eI (k72223:Int))]) (fun k72223 s72219=>[(125,some ⟨3,(List.map Z5 s72219),0,0x001d⟩)]) (fun k72223 s72219=>.o (.ls 15 (.f [3,4,5,7,10,15,16,38,39,40,54,55,56,65,66,67] [0,1,2,3,4,5] [3,4,5,7,10,15,16,18,38,39,40,54,55,56,65,66,67,71,72,73] [0,1,2,3,4,30,5] (fun (k72293:Nat) (s72289:(List Q3))=>[(16,.sl 3 4 (s72289).length),(73,eI (k72293:Int))]) (fun k72293 s72289=>[(4,some ⟨3,(List.map Z5 s72289),0,0x001d⟩)]) (fun k72293 s72289=>.o (.g [3,4,5,7,10,15,16,18,20,38,39,40,54,55,56,65,66,67,71,72,73] [0,1,2,3,4,5,31,6] [] [] (.o (.o (.o (.dz [0,1,2,3,5,4,6,7,8,9,10,11] [5,6] [1048659] [] (.pF 2097160 .z))))))) (fun s72297=>.z)))) (fun s72227=>.z)))))) (fun s71309=>.z)))))) (fun _=>.z))) (fun s60281=>.z)))))))))))))
instance W0n:∀ (n:Nat) (p0:(List Q4)) (p1:Q1) (p2:Int),Ct (Q1f n p0 p1 p2) fun res=>Q6 Tryz.prog 0o00052 [(.slice 2 (List.map Z8 p0)),(.agg (Z2 p1)),(eI p2)] (fun d=>d=.tup [(.slice 3 (List.map Z5 res.1)),(eB res.2)]):=
 au Tryz.func42 Q1f.eq_1 (.o (.o (.o (.o (.o (.i .z (.o (.i .z (.o (.i .z (.o (.pN 8 3 0x001d (.ls 30 (.f [8] [208] [8,30,31,32] [208] (fun (k92:Nat) (s88:(List Q3))=>[(8,.sl 3 208 (s88).length),(32,eI (k92:Int))]) (fun k92 s88=>[(208,some ⟨3,(List.map Z5 s88),0,0x001d⟩)]) (fun k92 s88=>.z) (fun s96=>.z)))))))))))))))
instance W6v:∀ (n:Nat) (p0:Q3),Ct (Q3w n p0) fun res=>Q6 Tryz.prog 0o00053 [(.agg (Z5 p0))] (fun d=>d=(eI res)):=
 ar (au Tryz.func43 Q3w.eq_2 (.o (.o (.o (.ls 7 (.f [3] [] [3,7,8,9] [] (fun (k46:Nat) (s42:Int)=>[(3,eI s42),(9,eI (k46:Int))]) (fun k46 s42=>[]) (fun k46 s42=>.z) (fun s50=>.z)))))))
instance Z2c:∀ (n:Nat) (p0:(List Int)),Ct (Q22 n p0) fun res=>Q6 Tryz.prog 0o00012 [(.slice 1 (List.map (rK .u8) p0))] (fun d=>d=(eB res)):=
 au Tryz.func10 Q22.eq_1 (.o (.o (.i .z (.o (.o (.o (.o (.i .z (.i .z (.i .z (.i .z (.o (.ls 31 (.f [] [] [3,4,5,6,12,13] [80] (fun (k260:Nat) (s256:Unit)=>[(13,eI (k260:Int))]) (fun k260 s256=>[]) (fun k260 s256=>.o (.j 13 0 [3,4,5,6,12,13] [0] (fun (s280:Unit)=>[]) (fun _=>[]) (.g [3,4,5,6,12,13] [0] [] [] (.o (.d [0,1,2,3,4,5,6,7,8,9,10,11,12,13,14] [0] [] .z))) (fun _=>.z))) (fun s264=>.z)))))))))))))))
theorem Z2j (n:Nat)(p0:(List Int)):∀ res,Q22 n p0=some res→Q6 Tryz.prog 0o00012 [(.slice 1 (List.map (rK .u8) p0))] (fun d=>d=(eB res)):=(Z2c n p0).pf
end Go.Proofs.YtfhpjeogjcfkaaaGreat
