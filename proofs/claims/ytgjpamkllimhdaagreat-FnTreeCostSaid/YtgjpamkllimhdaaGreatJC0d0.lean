import Derived.Test.YtgjpamkllimhdaaGreatJMir
import Derived.Test.YtgjpamkllimhdaaGreatJAuto
set_option linter.unusedSimpArgs false
set_option linter.unusedVariables false
namespace Go.Proofs.YtgjpamkllimhdaaGreat
open Go Go.RowKit
set_option maxRecDepth 100000
set_option maxHeartbeats 20000000
instance W37:∀ (p0:Z9) (p1:Int),Ct (Z7 p0 p1) fun res=>Y8 Tryz.prog 0o00133 [⟨2,[(J3 p0)],0,0x0093⟩] [.ptr 2 0 0 0,(eI p1)] (fun H d=>H=[some ⟨2,[(J3 res.2)],0,0x0093⟩]∧d=(eI res.1)):=
 au Tryz.func91 Z7.eq_1 (.o (.o (.i .z (.i .z (.i .z (.g [0,1,5] [0] [] [] (.o (.o (.o (.d [0,1,2,3,4,5,6,7,8,9,10,11,12,13,14,15,16,17,18,19,20,21,22,23,24,25,26,27,28,29,30,31,32,33,34,35,36,37,38,39,40,41,42,43,44,45] [0] [] .z))))))))))
instance V1u:∀ (p0:Q8g) (p1:Int),Ct (Z16 p0 p1) fun res=>Z1 Tryz.prog 0o00253 [(.agg (Q7d p0)),(eI p1)] (fun d=>d=(eB res)):=
 au Tryz.func171 Z16.eq_1 .z
instance V5u:∀ (p0:Q0) (p1:Bool) (p2:Bool) (p3:Bool) (p4:Int),Ct (Q4a p0 p1 p2 p3 p4) fun res=>Z1 Tryz.prog 0o00353 [(.agg (Q9 p0)),(eB p1),(eB p2),(eB p3),(eI p4)] (fun d=>d=(eB res)):=
 au Tryz.func235 Q4a.eq_1 .z
instance V23:∀ (p0:Int) (p1:Int) (p2:Int),Ct (J0 p0 p1 p2) fun res=>Z1 Tryz.prog 0o00116 [(eI p0),(eI p1),(eI p2)] (fun d=>d=(eB res)):=
 au Tryz.func78 J0.eq_1 .z
instance W7q:∀ (p0:(List Q4)) (p1:Q6) (p2:Int),Ct (Q15 p0 p1 p2) fun res=>Z1 Tryz.prog 0o00162 [(.slice 2 (List.map W1 p0)),(.agg (W0 p1)),(eI p2)] (fun d=>d=(.slice 2 (List.map W0 res))):=
 au Tryz.func114 Q15.eq_1 (.o (.o (.o (.o (.o (.j 3 0 [7,8] [88] (fun (s4:Int)=>[(8,eI s4)]) (fun _=>[]) .z (fun s4=>.pN 9 2 0x0019 (.ls 28 (.f [9] [41] [8,9,28,29,30] [41] (fun (k103:Nat) (s99:(List Q6))=>[(9,.sl 2 41 (s99).length),(30,eI (k103:Int))]) (fun k103 s99=>[(41,some ⟨2,(List.map W0 s99),0,0x0019⟩)]) (fun k103 s99=>.b fun (x104:Q6)=>.j 9 0 [8,9,11,28,29,30] [0,25] (fun (s115:Int)=>[]) (fun s115=>[(25,some ⟨2,[[(eI x104.data),(eI s115)]],0,0x0019⟩)]) .z (fun _=>.z)) (fun s107=>.z))))))))))
instance X3v:∀ (p0:(List Q6)) (p1:(Q6→Option Bool)) {p1_f:FuncId} {p1_c:List D} [p1_i:CF1 (fun a0=>(.agg (W0 a0))) (fun r=>(eB r)) p1 p1_f p1_c],Ct (Q53 p0 p1) fun res=>Z1 Tryz.prog 0o00265 [(.slice 2 (List.map W0 p0)),.clos p1_f p1_c] (fun d=>d=(eI res)):=
 au Tryz.func181 Q53.eq_1 (.o (.o (.o (.o (.o (.ls 0 (.f [] [] [0,1,7,8] [] (fun (k54:Nat) (s50:Unit)=>[(8,eI (k54:Int))]) (fun k54 s50=>[]) (fun k54 s50=>.z) (fun s58=>.z))))))))
theorem Z1u (p0:(List Q0))(res:(List Q0))(h:Q07 p0=some res):Y8 Tryz.prog 0o00200 [] [(.slice 6 (List.map Q9 p0))] (fun H d=>H=[some ⟨6,List.map Q9 res,0,0x0046⟩]∧d=.sl 6 0 res.length):=by
 unfold Q07 at h
 refine CH Tryz.func128 [.tmp 2] 0 fun β hβ=>?_
 refine sZ ?_
 apply sq
 refine sk fun K hK=>?_
 simp
 refine ⟨?_,fun hnil=>?_⟩
 ·apply hK
  refine cF ?_
  apply TrD.skip
  apply sq
  obtain ⟨x3,hx3,h⟩:=bindE h
  have hx3_r:=(Q8v hx3).2
  try simp only [U4,Nat.zero_add] at hx3_r
  obtain hhx3:=Z6p hx3
  subst hhx3
  refine rZ ?_ fun K hK=>by simp [hx3_r];exact hK
  cases h
  apply TrD.ret
  refine Z3m (σ':=⟨(updD (fun _=>.any) 2 (.sl 6 0 (p0).length)),hOfO [some ⟨6,(List.map Q9 p0),0,0x0046⟩],1,8⟩) ?_ ?_
  ·exact gC [40]
  dsimp only [resD]
  exact eA
 replace h:some ([])=some res:=by simp only [hnil] at h;simpa [app] using h
 apply hK
 refine cT ?_
 refine sZ ?_
 cases h
 apply TrD.ret
 refine Z3m (σ':=⟨(updD (fun _=>.any) 2 (.sl 6 0 0)),hOfO [some ⟨6,(List.map Q9 []),0,0x0046⟩],1,8⟩) ?_ ?_
 ·refine (Y4.ownNil (s:=2) (by simp) 6 0x0046).trans ?_
  exact gC [32]
 dsimp only [resD]
 exact eA
instance X52:∀ (p0:(List Q0)),Ct (Q07 p0) fun res=>Y8 Tryz.prog 0o00200 [] [(.slice 6 (List.map Q9 p0))] (fun H d=>H=[some ⟨6,List.map Q9 res,0,0x0046⟩]∧d=.sl 6 0 res.length):=fun p0=>⟨Z1u p0⟩
set_option maxRecDepth 100000 in
theorem Z5l (p0:(List Int))(res:(List Int))(h:V8 p0=some res):Y8 Tryz.prog 0o00106 [] [(.slice 1 (List.map rI p0))] (fun H d=>H=[some ⟨1,List.map rI res,0,0x0003⟩]∧d=.sl 1 0 res.length):=by
  unfold V8 at h
  refine Y8.of (res:=[.tmp 2]) Q94 Tryz.func70 (by decide) rfl (Nat.le_of_ble_eq_true rfl) rfl rfl (fun β hβ=>?_)
  refine TrD.seq ?_
  refine TrD.regK Q94 (fun K hK=>?_)
  simp
  refine hK _ ?_
  refine TrD.seq ?_
  refine TrD.seq ?_
  refine TrD.regK Q94 (fun K hK=>?_)
  simp
  refine ⟨?_,fun hnil=>?_⟩
  · refine hK _ ?_
    refine TrD.cond (b:=false) (by simp) (fun hb=>by cases hb) (fun hb=>?_)
    refine TrD.skip ?_
    refine TrD.seq ?_
    obtain ⟨x3,hx3,h⟩:=bindE h
    have hx3_r:=(Q8v hx3).2
    try simp only [U5,U3,U4,U7,Nat.zero_add,Nat.add_zero,Nat.reduceAdd,Z3y,Z3p] at hx3_r
    obtain hhx3:=Z6p hx3
    subst hhx3
    refine TrD.regK Q94 (fun K hK=>?_)
    simp [hx3_r]
    refine hK _ ?_
    obtain rfl:=Option.some.inj h
    refine TrD.ret ?_
    refine Z3m (σ':=⟨(updD (fun _=>.any) 2 (.sl 1 0 (p0).length)),hOfO [some ⟨1,(List.map rI p0),0,0x0003⟩],1,8⟩) ?_ ?_
    · exact Y4.canonV 0 [40] _ _ hβ (Q78 (by decide)) (by decide) (Z09 (v_of (d0:=(.sl 1 40 (p0).length)) (by simp [hx3_r]) (v_sl rfl)) (Z6t _)) (.cons (lv (L:=⟨1,(List.map rI p0),0,0x0003⟩) (by simp [hx3_r]) rfl rfl (by simp [hx3_r]) (Q6u (by simp [hx3_r]) (Q8 (fun _=>by simp) _))) .nil)
    · dsimp only [resD]
      exact ⟨[some ⟨1,(List.map rI p0),0,0x0003⟩],[],rfl,by simp,by simp,.inl rfl,by simp [Q98]⟩
  · replace h:some ([])=some res:=by simp only [hnil] at h;simpa [app] using h
    refine hK _ ?_
    refine TrD.cond (b:=true) (by simp) (fun hb=>?_) (fun hb=>by cases hb)
    refine TrD.seq ?_
    refine TrD.regK Q94 (fun K hK=>?_)
    simp
    refine hK _ ?_
    obtain rfl:=Option.some.inj h
    refine TrD.ret ?_
    refine Z3m (σ':=⟨(updD (fun _=>.any) 2 (.sl 1 0 0)),hOfO [some ⟨1,(List.map rI []),0,0x0003⟩],1,8⟩) ?_ ?_
    · refine (Y4.ownNil (s:=2) (by simp) 1 0x0003).trans ?_
      exact Y4.canonV 0 [32] _ _ hβ (Q78 (by decide)) (by decide) (Z09 (v_of (d0:=(.sl 1 32 0)) (by simp) (v_sl rfl)) (Z6t _)) (.cons (lv (L:=⟨1,(List.map rI []),0,0x0003⟩) (by simp) rfl rfl (by simp) (Q6u (by simp) (Q8 (fun _=>by simp) _))) .nil)
    · dsimp only [resD]
      exact ⟨[some ⟨1,(List.map rI []),0,0x0003⟩],[],rfl,by simp,by simp,.inl rfl,by simp [Q98]⟩
instance W1c:∀ (p0:(List Int)),Ct (V8 p0) fun res=>Y8 Tryz.prog 0o00106 [] [(.slice 1 (List.map rI p0))] (fun H d=>H=[some ⟨1,List.map rI res,0,0x0003⟩]∧d=.sl 1 0 res.length):=fun p0=>⟨Z5l p0⟩
instance V5t:∀ (p0:Q1) (p1:(List Int)),Ct (Q55 p0 p1) fun res=>Z1 Tryz.prog 0o00100 [(.agg (X2 p0)),(.slice 1 (List.map rI p1))] (fun d=>d=(.agg (X2 res))):=
 au Tryz.func64 Q55.eq_1 (.o (.o (.ls 1 (.f [2,4] [0,8] [2,4,7,8,9] [0,8] (fun (k46:Nat) (s42:Q1)=>[(9,eI (k46:Int))]) (fun k46 s42=>[(0,some ⟨3,[(X2 s42)],0,0x001d⟩)]) (fun k46 s42=>.z) (fun s50=>.z)))))
instance W53:∀ (p0:(List Int)) (p1:Q6),Ct (Q59 p0 p1) fun res=>Z1 Tryz.prog 0o00256 [.cptr (List.map cI p0),(.agg (W0 p1))] (fun d=>d=(eI res)):=
 au Tryz.func174 Q59.eq_1 (.o (.o (.i .z (.g [0,3] [0] [] [] (.o (.d [0,1,2,3,4,5,6,7,8,9] [0] [] .z))))))
instance X7z:∀ (p1:Int),Ct (Q2j p1) fun res=>Y8 Tryz.prog 0o00263 [] [.nil,(eI p1)] (fun H d=>H=[some ⟨3,List.map Q1i res,0,0x0084⟩]∧d=.sl 3 0 res.length):=
 au Tryz.func179 Q2j.eq_1 (.o (.i .z (.j 3 0 [0] [9000] (fun (s6:Unit)=>[(0,.sl 3 9000 0)]) (fun _=>[(9000,some ⟨3,(List.map Q1i []),0,0x0084⟩)]) (.i (.o (.o (.pS 144 0 Q1i ([]:List Z5) .z))) (.pN 0 3 0x0084 .z)) (fun _=>.z))))
instance X4z:∀ (p0:(List Grow)) (p1:(Grow→Option Bool)) {p1_f:FuncId} {p1_c:List D} [p1_i:CF1 (fun a0=>(.agg (Q4x a0))) (fun r=>(eB r)) p1 p1_f p1_c],Ct (Q1o p0 p1) fun res=>Z1 Tryz.prog 0o00322 [(.slice 3 (List.map Q4x p0)),.clos p1_f p1_c] (fun d=>d=(eI res)):=
 au Tryz.func210 Q1o.eq_1 (.o (.o (.o (.o (.o (.ls 0 (.f [] [] [0,1,7,8] [] (fun (k54:Nat) (s50:Unit)=>[(8,eI (k54:Int))]) (fun k54 s50=>[]) (fun k54 s50=>.z) (fun s58=>.z))))))))
end Go.Proofs.YtgjpamkllimhdaaGreat
