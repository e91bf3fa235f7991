import Derived.Test.YtfhpjeogjcfkaaaGreatBJMir
import Derived.Test.YtfhpjeogjcfkaaaGreatBJAuto
set_option linter.unusedSimpArgs false
set_option linter.unusedVariables false
namespace Go.Proofs.YtfhpjeogjcfkaaaGreat
open Go Go.RowKit
set_option maxRecDepth 100000
set_option maxHeartbeats 20000000
instance V4z:∀ (p0:Int),Ct (Q8h p0) fun res=>Q8 Tryz.prog 0o00523 [(eI p0)] (fun d=>d=(eI res)):=
 au Tryz.func339 Q8h.eq_1 .z
instance W9y:∀ (p0:Q9t) (p1:Int),Ct (Z0p p0 p1) fun res=>Q8 Tryz.prog 0o00411 [(.agg (Q8d p0)),(eI p1)] (fun d=>d=(eI res)):=
 au Tryz.func265 Z0p.eq_1 .z
instance V57:∀ (p0:Q7),Ct (Z2g p0) fun res=>Q8 Tryz.prog 0o00466 [(.agg (W3 p0))] (fun d=>d=(eI res)):=
 au Tryz.func310 Z2g.eq_1 .z
instance V5e:∀ (n:Nat) (p0:Int),Ct (Q8k n p0) fun res=>Q8 Tryz.prog 0o00554 [(eI p0)] (fun d=>d=(eS res)):=
 ar (au Tryz.func364 Q8k.eq_2 (.o (.o (.o (.i .z (.i .z (.w [0,3] [] [0,3] [] (fun (s18:Int×ByteArray)=>[(0,eI s18.1),(3,eS s18.2)]) (fun s18=>[]) (fun s18=>.z) (fun s26=>.z))))))))
set_option maxRecDepth 100000 in
theorem Z76 (p0:(List Int))(res:(List Int))(h:X7 p0=some res):Y4 Tryz.prog 0o00175 [] [(.slice 1 (List.map rI p0))] (fun H d=>H=[some ⟨1,List.map rI res,0,0x0003⟩]∧d=.sl 1 0 res.length):=by
  unfold X7 at h
  refine Y4.of (res:=[.tmp 2]) Z0h Tryz.func125 (by decide) rfl (Nat.le_of_ble_eq_true rfl) rfl rfl (fun β hβ=>?_)
  refine TrD.seq ?_
  refine TrD.regK Z0h (fun K hK=>?_)
  simp
  refine hK _ ?_
  refine TrD.seq ?_
  refine TrD.seq ?_
  refine TrD.regK Z0h (fun K hK=>?_)
  simp
  refine ⟨?_,fun hnil=>?_⟩
  · refine hK _ ?_
    refine TrD.cond (b:=false) (by simp) (fun hb=>by cases hb) (fun hb=>?_)
    refine TrD.skip ?_
    refine TrD.seq ?_
    obtain ⟨x3,hx3,h⟩:=bindE h
    have hx3_r:=(Z1f hx3).2
    try simp only [U5,U3,U4,U7,Nat.zero_add,Nat.add_zero,Nat.reduceAdd,Z5d,Z55] at hx3_r
    obtain hhx3:=X2c hx3
    subst hhx3
    refine TrD.regK Z0h (fun K hK=>?_)
    simp [hx3_r]
    refine hK _ ?_
    obtain rfl:=Option.some.inj h
    refine TrD.ret ?_
    refine Z8v (σ':=⟨(updD (fun _=>.any) 2 (.sl 1 0 (p0).length)),hOfO [some ⟨1,(List.map rI p0),0,0x0003⟩],1,8⟩) ?_ ?_
    · exact Y6.canonV 0 [40] _ _ hβ (Q87 (by decide)) (by decide) (Z1r (v_of (d0:=(.sl 1 40 (p0).length)) (by simp [hx3_r]) (v_sl rfl)) (Z8c _)) (.cons (lv (L:=⟨1,(List.map rI p0),0,0x0003⟩) (by simp [hx3_r]) rfl rfl (by simp [hx3_r]) (Q7r (by simp [hx3_r]) (Z0 (fun _=>by simp) _))) .nil)
    · dsimp only [resD]
      exact ⟨[some ⟨1,(List.map rI p0),0,0x0003⟩],[],rfl,by simp,by simp,.inl rfl,by simp [Z0m]⟩
  · replace h:some ([])=some res:=by simp only [hnil] at h;simpa [app] using h
    refine hK _ ?_
    refine TrD.cond (b:=true) (by simp) (fun hb=>?_) (fun hb=>by cases hb)
    refine TrD.seq ?_
    refine TrD.regK Z0h (fun K hK=>?_)
    simp
    refine hK _ ?_
    obtain rfl:=Option.some.inj h
    refine TrD.ret ?_
    refine Z8v (σ':=⟨(updD (fun _=>.any) 2 (.sl 1 0 0)),hOfO [some ⟨1,(List.map rI []),0,0x0003⟩],1,8⟩) ?_ ?_
    · refine (Y6.ownNil (s:=2) (by simp) 1 0x0003).trans ?_
      exact Y6.canonV 0 [32] _ _ hβ (Q87 (by decide)) (by decide) (Z1r (v_of (d0:=(.sl 1 32 0)) (by simp) (v_sl rfl)) (Z8c _)) (.cons (lv (L:=⟨1,(List.map rI []),0,0x0003⟩) (by simp) rfl rfl (by simp) (Q7r (by simp) (Z0 (fun _=>by simp) _))) .nil)
    · dsimp only [resD]
      exact ⟨[some ⟨1,(List.map rI []),0,0x0003⟩],[],rfl,by simp,by simp,.inl rfl,by simp [Z0m]⟩
instance W3b:∀ (p0:(List Int)),Ct (X7 p0) fun res=>Y4 Tryz.prog 0o00175 [] [(.slice 1 (List.map rI p0))] (fun H d=>H=[some ⟨1,List.map rI res,0,0x0003⟩]∧d=.sl 1 0 res.length):=fun p0=>⟨Z76 p0⟩
instance X5d:∀ (p0:(List Q7)) (p1:(Q7→Option Bool)) {p1_f:FuncId} {p1_c:List D} [p1_i:CF1 (fun a0=>(.agg (W3 a0))) (fun r=>(eB r)) p1 p1_f p1_c],Ct (Q5h p0 p1) fun res=>Q8 Tryz.prog 0o00367 [(.slice 2 (List.map W3 p0)),.clos p1_f p1_c] (fun d=>d=(eI res)):=
 au Tryz.func247 Q5h.eq_1 (.o (.o (.o (.o (.o (.ls 0 (.f [] [] [0,1,7,8] [] (fun (k54:Nat) (s50:Unit)=>[(8,eI (k54:Int))]) (fun k54 s50=>[]) (fun k54 s50=>.z) (fun s58=>.z))))))))
instance V9j:∀ (p0:Q0) (p1:Bool) (p2:Bool) (p3:Bool) (p4:Int),Ct (Q4p p0 p1 p2 p3 p4) fun res=>Q8 Tryz.prog 0o00515 [(.agg (Z2 p0)),(eB p1),(eB p2),(eB p3),(eI p4)] (fun d=>d=(eB res)):=
 au Tryz.func333 Q4p.eq_1 .z
instance X5g:∀ (p0:(List X3)) (p1:(X3→Option Bool)) {p1_f:FuncId} {p1_c:List D} [p1_i:CF1 (fun a0=>(.agg (Q15 a0))) (fun r=>(eB r)) p1 p1_f p1_c],Ct (Q1z p0 p1) fun res=>Q8 Tryz.prog 0o00276 [(.slice 4 (List.map Q15 p0)),.clos p1_f p1_c] (fun d=>d=(eI res)):=
 au Tryz.func190 Q1z.eq_1 (.o (.o (.o (.o (.o (.ls 0 (.f [] [] [0,1,7,8] [] (fun (k54:Nat) (s50:Unit)=>[(8,eI (k54:Int))]) (fun k54 s50=>[]) (fun k54 s50=>.z) (fun s58=>.z))))))))
set_option maxRecDepth 100000 in
theorem Z30 (p0:(List Q1))(res:(List Q1))(h:Q0m p0=some res):Y4 Tryz.prog 0o00174 [] [(.slice 2 (List.map Q6 p0))] (fun H d=>H=[some ⟨2,List.map Q6 res,0,0x0095⟩]∧d=.sl 2 0 res.length):=by
  unfold Q0m at h
  refine Y4.of (res:=[.tmp 2]) Z0h Tryz.func124 (by decide) rfl (Nat.le_of_ble_eq_true rfl) rfl rfl (fun β hβ=>?_)
  refine TrD.seq ?_
  refine TrD.regK Z0h (fun K hK=>?_)
  simp
  refine hK _ ?_
  refine TrD.seq ?_
  refine TrD.seq ?_
  refine TrD.regK Z0h (fun K hK=>?_)
  simp
  refine ⟨?_,fun hnil=>?_⟩
  · refine hK _ ?_
    refine TrD.cond (b:=false) (by simp) (fun hb=>by cases hb) (fun hb=>?_)
    refine TrD.skip ?_
    refine TrD.seq ?_
    obtain ⟨x3,hx3,h⟩:=bindE h
    have hx3_r:=(Z1f hx3).2
    try simp only [U5,U3,U4,U7,Nat.zero_add,Nat.add_zero,Nat.reduceAdd,Z5d,Z55] at hx3_r
    obtain hhx3:=X2c hx3
    subst hhx3
    refine TrD.regK Z0h (fun K hK=>?_)
    simp [hx3_r]
    refine hK _ ?_
    obtain rfl:=Option.some.inj h
    refine TrD.ret ?_
    refine Z8v (σ':=⟨(updD (fun _=>.any) 2 (.sl 2 0 (p0).length)),hOfO [some ⟨2,(List.map Q6 p0),0,0x0095⟩],1,8⟩) ?_ ?_
    · exact Y6.canonV 0 [40] _ _ hβ (Q87 (by decide)) (by decide) (Z1r (v_of (d0:=(.sl 2 40 (p0).length)) (by simp [hx3_r]) (v_sl rfl)) (Z8c _)) (.cons (lv (L:=⟨2,(List.map Q6 p0),0,0x0095⟩) (by simp [hx3_r]) rfl rfl (by simp [hx3_r]) (Q7r (by simp [hx3_r]) (Z0 Q9s _))) .nil)
    · dsimp only [resD]
      exact ⟨[some ⟨2,(List.map Q6 p0),0,0x0095⟩],[],rfl,by simp,by simp,.inl rfl,by simp [Z0m]⟩
  · replace h:some ([])=some res:=by simp only [hnil] at h;simpa [app] using h
    refine hK _ ?_
    refine TrD.cond (b:=true) (by simp) (fun hb=>?_) (fun hb=>by cases hb)
    refine TrD.seq ?_
    refine TrD.regK Z0h (fun K hK=>?_)
    simp
    refine hK _ ?_
    obtain rfl:=Option.some.inj h
    refine TrD.ret ?_
    refine Z8v (σ':=⟨(updD (fun _=>.any) 2 (.sl 2 0 0)),hOfO [some ⟨2,(List.map Q6 []),0,0x0095⟩],1,8⟩) ?_ ?_
    · refine (Y6.ownNil (s:=2) (by simp) 2 0x0095).trans ?_
      exact Y6.canonV 0 [32] _ _ hβ (Q87 (by decide)) (by decide) (Z1r (v_of (d0:=(.sl 2 32 0)) (by simp) (v_sl rfl)) (Z8c _)) (.cons (lv (L:=⟨2,(List.map Q6 []),0,0x0095⟩) (by simp) rfl rfl (by simp) (Q7r (by simp) (Z0 Q9s _))) .nil)
    · dsimp only [resD]
      exact ⟨[some ⟨2,(List.map Q6 []),0,0x0095⟩],[],rfl,by simp,by simp,.inl rfl,by simp [Z0m]⟩
instance X5i:∀ (p0:(List Q1)),Ct (Q0m p0) fun res=>Y4 Tryz.prog 0o00174 [] [(.slice 2 (List.map Q6 p0))] (fun H d=>H=[some ⟨2,List.map Q6 res,0,0x0095⟩]∧d=.sl 2 0 res.length):=fun p0=>⟨Z30 p0⟩
instance X6m:∀ (p0:(List Grow)) (p1:(Grow→Option Bool)) {p1_f:FuncId} {p1_c:List D} [p1_i:CF1 (fun a0=>(.agg (Q5a a0))) (fun r=>(eB r)) p1 p1_f p1_c],Ct (Q29 p0 p1) fun res=>Q8 Tryz.prog 0o00424 [(.slice 3 (List.map Q5a p0)),.clos p1_f p1_c] (fun d=>d=(eI res)):=
 au Tryz.func276 Q29.eq_1 (.o (.o (.o (.o (.o (.ls 0 (.f [] [] [0,1,7,8] [] (fun (k54:Nat) (s50:Unit)=>[(8,eI (k54:Int))]) (fun k54 s50=>[]) (fun k54 s50=>.z) (fun s58=>.z))))))))
set_option maxRecDepth 100000 in
theorem Z75 (p0:(List Grow))(res:(List Grow))(h:Q2t p0=some res):Y4 Tryz.prog 0o00326 [] [(.slice 3 (List.map Q5a p0))] (fun H d=>H=[some ⟨3,List.map Q5a res,0,0x0066⟩]∧d=.sl 3 0 res.length):=by
  unfold Q2t at h
  refine Y4.of (res:=[.tmp 2]) Z0h Tryz.func214 (by decide) rfl (Nat.le_of_ble_eq_true rfl) rfl rfl (fun β hβ=>?_)
  refine TrD.seq ?_
  refine TrD.regK Z0h (fun K hK=>?_)
  simp
  refine hK _ ?_
  refine TrD.seq ?_
  refine TrD.seq ?_
  refine TrD.regK Z0h (fun K hK=>?_)
  simp
  refine ⟨?_,fun hnil=>?_⟩
  · refine hK _ ?_
    refine TrD.cond (b:=false) (by simp) (fun hb=>by cases hb) (fun hb=>?_)
    refine TrD.skip ?_
    refine TrD.seq ?_
    obtain ⟨x3,hx3,h⟩:=bindE h
    have hx3_r:=(Z1f hx3).2
    try simp only [U5,U3,U4,U7,Nat.zero_add,Nat.add_zero,Nat.reduceAdd,Z5d,Z55] at hx3_r
    obtain hhx3:=X2c hx3
    subst hhx3
    refine TrD.regK Z0h (fun K hK=>?_)
    simp [hx3_r]
    refine hK _ ?_
    obtain rfl:=Option.some.inj h
    refine TrD.ret ?_
    refine Z8v (σ':=⟨(updD (fun _=>.any) 2 (.sl 3 0 (p0).length)),hOfO [some ⟨3,(List.map Q5a p0),0,0x0066⟩],1,8⟩) ?_ ?_
    · exact Y6.canonV 0 [40] _ _ hβ (Q87 (by decide)) (by decide) (Z1r (v_of (d0:=(.sl 3 40 (p0).length)) (by simp [hx3_r]) (v_sl rfl)) (Z8c _)) (.cons (lv (L:=⟨3,(List.map Q5a p0),0,0x0066⟩) (by simp [hx3_r]) rfl rfl (by simp [hx3_r]) (Q7r (by simp [hx3_r]) (Z0 X1e _))) .nil)
    · dsimp only [resD]
      exact ⟨[some ⟨3,(List.map Q5a p0),0,0x0066⟩],[],rfl,by simp,by simp,.inl rfl,by simp [Z0m]⟩
  · replace h:some ([])=some res:=by simp only [hnil] at h;simpa [app] using h
    refine hK _ ?_
    refine TrD.cond (b:=true) (by simp) (fun hb=>?_) (fun hb=>by cases hb)
    refine TrD.seq ?_
    refine TrD.regK Z0h (fun K hK=>?_)
    simp
    refine hK _ ?_
    obtain rfl:=Option.some.inj h
    refine TrD.ret ?_
    refine Z8v (σ':=⟨(updD (fun _=>.any) 2 (.sl 3 0 0)),hOfO [some ⟨3,(List.map Q5a []),0,0x0066⟩],1,8⟩) ?_ ?_
    · refine (Y6.ownNil (s:=2) (by simp) 3 0x0066).trans ?_
      exact Y6.canonV 0 [32] _ _ hβ (Q87 (by decide)) (by decide) (Z1r (v_of (d0:=(.sl 3 32 0)) (by simp) (v_sl rfl)) (Z8c _)) (.cons (lv (L:=⟨3,(List.map Q5a []),0,0x0066⟩) (by simp) rfl rfl (by simp) (Q7r (by simp) (Z0 X1e _))) .nil)
    · dsimp only [resD]
      exact ⟨[some ⟨3,(List.map Q5a []),0,0x0066⟩],[],rfl,by simp,by simp,.inl rfl,by simp [Z0m]⟩
instance W3a:∀ (p0:(List Grow)),Ct (Q2t p0) fun res=>Y4 Tryz.prog 0o00326 [] [(.slice 3 (List.map Q5a p0))] (fun H d=>H=[some ⟨3,List.map Q5a res,0,0x0066⟩]∧d=.sl 3 0 res.length):=fun p0=>⟨Z75 p0⟩
instance W55:∀ (p0:(List Int)) (p1:(List Int)),Ct (Q1o p0 p1) fun res=>Q8 Tryz.prog 0o00321 [(.slice 1 (List.map rI p0)),(.slice 1 (List.map rI p1))] (fun d=>d=(eB res)):=
 au Tryz.func209 Q1o.eq_1 (.o (.o (.i .z (.ls 0 (.f [] [] [0,1,5] [] (fun (k56:Nat) (s52:Unit)=>[(5,eI (k56:Int))]) (fun k56 s52=>[]) (fun k56 s52=>.o (.g [0,1,5] [] [] [] (.o (.d [0,1,2,3,4,5,6,7,8] [] [] .z)))) (fun s60=>.z))))))
instance V26:∀ (p0:Y3),Ct (Q4i p0) fun res=>Q8 Tryz.prog 0o00415 [(.agg (Q2n p0))] (fun d=>d=(eI res)):=
 au Tryz.func269 Q4i.eq_1 (.b fun (p0:Y3)=>.lc 0 1 6 Z2 p0.pats (.f [] [] [1,3] [0] (fun (k44:Nat) (s40:Unit)=>[(3,eI (k44:Int))]) (fun k44 s40=>[]) (fun k44 s40=>.z) (fun s48=>.z)))
instance V7h:∀ (p0:(List Y3)) (p1:Int) (p2:Int),Ct (Q84 p0 p1 p2) fun res=>Q8 Tryz.prog 0o00512 [(.slice 3 (List.map Q2n p0)),(eI p1),(eI p2)] (fun d=>d=(eB res)):=
 au Tryz.func330 Q84.eq_1 (.o (.o (.o (.ls 0 (.f [] [] [0,1,2,7] [] (fun (k139:Nat) (s135:Unit)=>[(7,eI (k139:Int))]) (fun k139 s135=>[]) (fun k139 s135=>.o (.j 4 0 [0,1,2,7] [] (fun (s153:Unit)=>[]) (fun _=>[]) .z (fun _=>.z))) (fun s143=>.z))))))
end Go.Proofs.YtfhpjeogjcfkaaaGreat
