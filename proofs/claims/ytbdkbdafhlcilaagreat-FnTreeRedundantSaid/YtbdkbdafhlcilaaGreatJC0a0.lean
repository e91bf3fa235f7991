import Derived.Test.YtbdkbdafhlcilaaGreatJMir
import Derived.Test.YtbdkbdafhlcilaaGreatJAuto
set_option linter.unusedSimpArgs false
set_option linter.unusedVariables false
namespace Go.Proofs.YtbdkbdafhlcilaaGreat
open Go Go.RowKit
set_option maxRecDepth 100000
set_option maxHeartbeats 20000000
instance W89:∀ (p0:(List Q3)) (p1:Q2) (p2:Int),Ct (Q11 p0 p1 p2) fun res=>Z1 Tryz.prog 0o00205 [(.slice 2 (List.map V0 p0)),(.agg (X9 p1)),(eI p2)] (fun d=>d=(.slice 2 (List.map X9 res))):=
 au Tryz.func133 Q11.eq_1 (.o (.o (.o (.o (.o (.j 3 0 [7,8] [88] (fun (s4:Int)=>[(8,eI s4)]) (fun _=>[]) .z (fun s4=>.pN 9 2 0x0019 (.ls 28 (.f [9] [41] [8,9,28,29,30] [41] (fun (k103:Nat) (s99:(List Q2))=>[(9,.sl 2 41 (s99).length),(30,eI (k103:Int))]) (fun k103 s99=>[(41,some ⟨2,(List.map X9 s99),0,0x0019⟩)]) (fun k103 s99=>.b fun (x104:Q2)=>.j 9 0 [8,9,11,28,29,30] [0,25] (fun (s115:Int)=>[]) (fun s115=>[(25,some ⟨2,[[(eI x104.data),(eI s115)]],0,0x0019⟩)]) .z (fun _=>.z)) (fun s107=>.z))))))))))
instance X1b:∀ (p0:(List Q0)) (p1:(Q0→Option Bool)) {p1_f:FuncId} {p1_c:List D} [p1_i:CF1 (fun a0=>(.agg (Q1 a0))) (fun r=>(eB r)) p1 p1_f p1_c],Ct (Q0e p0 p1) fun res=>Z1 Tryz.prog 0o00371 [(.slice 6 (List.map Q1 p0)),.clos p1_f p1_c] (fun d=>d=(eI res)):=
 au Tryz.func249 Q0e.eq_1 (.o (.o (.o (.o (.o (.ls 0 (.f [] [] [0,1,7,8] [] (fun (k54:Nat) (s50:Unit)=>[(8,eI (k54:Int))]) (fun k54 s50=>[]) (fun k54 s50=>.z) (fun s58=>.z))))))))
instance X40:∀ (p0:(List Q2)) (p1:(Q2→Option Bool)) {p1_f:FuncId} {p1_c:List D} [p1_i:CF1 (fun a0=>(.agg (X9 a0))) (fun r=>(eB r)) p1 p1_f p1_c],Ct (Q52 p0 p1) fun res=>Z1 Tryz.prog 0o00346 [(.slice 2 (List.map X9 p0)),.clos p1_f p1_c] (fun d=>d=(eI res)):=
 au Tryz.func230 Q52.eq_1 (.o (.o (.o (.o (.o (.ls 0 (.f [] [] [0,1,7,8] [] (fun (k54:Nat) (s50:Unit)=>[(8,eI (k54:Int))]) (fun k54 s50=>[]) (fun k54 s50=>.z) (fun s58=>.z))))))))
instance W5h:∀ (p0:(List Int)) (p1:Q2),Ct (Q28 p0 p1) fun res=>Z1 Tryz.prog 0o00214 [.cptr (List.map cI p0),(.agg (X9 p1))] (fun d=>d=(eI res)):=
 au Tryz.func140 Q28.eq_1 (.o (.o (.i .z (.g [0,3] [0] [] [] (.o (.d [0,1,2,3,4,5,6,7,8,9] [0] [] .z))))))
instance V2t:∀ (n:Nat) (p0:(List Int)),Ct (Q34 n p0) fun res=>Z1 Tryz.prog 0o00340 [(.slice 1 (List.map rI p0))] (fun d=>d=(.slice 6 (List.map Q1 res))):=
 au Tryz.func224 Q34.eq_1 (.o (.o (.pN 3 6 0x0064 (.w [3] [24] [0,3,4] [24] (fun (s81:(List Q0)×Int)=>[(3,.sl 6 24 (s81.1).length),(4,eI s81.2)]) (fun s81=>[(24,some ⟨6,(List.map Q1 s81.1),0,0x0064⟩)]) (fun s81=>.i (.j 5 0 [0,3,4] [0] (fun (s96:(List Q0))=>[(3,.sl 6 0 (s96).length)]) (fun s96=>[(0,some ⟨6,(List.map Q1 s96),0,0x0064⟩)]) (.g [0,3,4] [0] [] [] (.o (.o (.d [0,1,2,3,4,5,6,7,8,9] [] [] (.i (.g [0,3,4] [0] [] [] (.o (.d [0,1,2,3,4,5,6,7,8,9,10,11,12,13] [] [] .z))) .z))))) (fun _=>.z)) .z) (fun s89=>.z)))))
instance V0i:∀ (p0:Q0),Ct (Q6s p0) fun res=>Z1 Tryz.prog 0o00366 [(.agg (Q1 p0))] (fun d=>d=.tup [(eI res.1),(eI res.2)]):=
 au Tryz.func246 Q6s.eq_1 (.o (.i .z (.g [1] [0] [] [] (.d [0,1,2,3,4,5] [0] [] .z))))
instance X6y:∀ (p1:Int),Ct (Q2p p1) fun res=>Q05 Tryz.prog 0o00434 [] [.nil,(eI p1)] (fun H d=>H=[some ⟨6,List.map Q1 res,0,0x0064⟩]∧d=.sl 6 0 res.length):=
 au Tryz.func284 Q2p.eq_1 (.o (.i .z (.j 3 0 [0] [9000] (fun (s6:Unit)=>[(0,.sl 6 9000 0)]) (fun _=>[(9000,some ⟨6,(List.map Q1 []),0,0x0064⟩)]) (.i (.o (.o (.pS 144 0 Q1 ([]:List Q0) .z))) (.pN 0 6 0x0064 .z)) (fun _=>.z))))
instance V24:∀ (n:Nat) (p0:Q0) (p1:Q0),Ct (Q13 n p0 p1) fun res=>Z1 Tryz.prog 0o00246 [(.agg (Q1 p0)),(.agg (Q1 p1))] (fun d=>d=.tup [(.agg (Q1 res.1)),(eB res.2)]):=
 ar (au Tryz.func166 Q13.eq_2 (.o (.o (.b fun (p0:Q0)=>.o (.i .z (.i .z (.i (.j 8 0 [3,4,6,7] [8,16] (fun (s19:Int)=>[(6,eI s19)]) (fun _=>[]) .z (fun s19=>.j 10 0 [4,6,7] [1] (fun (s24:Int)=>[(7,eI s24)]) (fun _=>[]) .z (fun _=>.z))) (.i .z (.pC 200 5 6 0x0064 (.lc 0 5 6 Q1 p0.kids (.f [4,8] [16,200,224] [2,3,4,8,9] [0,8,16,200,224] (fun (k114:Nat) (s110:(List Q0))=>[(9,eI (k114:Int))]) (fun k114 s110=>[(1000000200,some ⟨6,[[(eI 4),(eI p0.ctor),(eI 0),(eI 0),(eI 0),(.sl 6 224 (s110).length)]],0,0x0064⟩),(224,some ⟨6,(List.map Q1 s110),0,0x0064⟩)]) (fun k114 s110=>.o (.g [2,3,4,8,9] [0,1,2,3,4] [] [(1000000003,some ⟨6,[[(eI 4),(eI p0.ctor),(eI 0),(eI 0),(eI 0),(.sl 6 4 (s110).length)]],0,0x0064⟩)] (.o (.o (.dz [0,1,2,3,4,5,6,7,8,9,10,11,12,13,14,15,16] [0,1] [1048586] [] .z))))) (fun s118=>.z))))))))))))
instance W7r:∀ (p0:Q0) (p1:Q0),Ct (Q4k p0 p1) fun res=>Z1 Tryz.prog 0o00466 [(.agg (Q1 p0)),(.agg (Q1 p1))] (fun d=>d=(.slice 6 (List.map Q1 res))):=
 au Tryz.func310 Q4k.eq_1 (.b fun (p0:Q0)=>.o (.j 3 0 [2,3,5,6] [0,8,24,80] (fun (s2:Int)=>[]) (fun s2=>[(80,some ⟨6,[[(eI 3),(eI 0),(eI p0.n),(eI s2),(eI 0),.nil]],0,0x0064⟩)]) .z (fun s2=>.j 5 0 [2,3,5] [0,1,2] (fun (s8:(List Q0))=>[(5,.sl 6 2 (s8).length)]) (fun s8=>[(2,some ⟨6,(List.map Q1 s8),0,0x0064⟩)]) .z (fun s8=>.j 8 0 [5,7] [2,43] (fun (s14:Int)=>[]) (fun s14=>[(43,some ⟨6,[[(eI 3),(eI 0),(eI s14),(eI p0.m),(eI 0),.nil]],0,0x0064⟩)]) .z (fun s14=>.j 10 0 [5] [0] (fun (s20:(List Q0))=>[(5,.sl 6 0 (s20).length)]) (fun s20=>[(0,some ⟨6,(List.map Q1 s20),0,0x0064⟩)]) .z (fun _=>.z))))))
instance V4k:Ct (Q3y) fun res=>Z1 Tryz.prog 0o00240 [] (fun d=>d=(.agg (Q1 res))):=
 au Tryz.func160 Q3y.eq_1 .z
instance X2p:∀ (p0:(List Q4)) (p1:(List Q4)) (p2:(Q4→Q4→Option Bool)) {p2_f:FuncId} {p2_c:List D} [p2_i:CF2 (fun a0=>(.agg (Q07 a0))) (fun a1=>(.agg (Q07 a1))) (fun r=>(eB r)) p2 p2_f p2_c],Ct (Q0x p0 p1 p2) fun res=>Z1 Tryz.prog 0o00262 [(.slice 3 (List.map Q07 p0)),(.slice 3 (List.map Q07 p1)),.clos p2_f p2_c] (fun d=>d=(eB res)):=
 au Tryz.func178 Q0x.eq_1 (.o (.o (.o (.o (.o (.o (.i .z (.ls 0 (.f [] [] [1,2,15,16,17] [] (fun (k66:Nat) (s62:Unit)=>[(17,eI (k66:Int))]) (fun k66 s62=>[]) (fun k66 s62=>.z) (fun s70=>.z))))))))))
instance W8a:∀ (p0:Int),Ct (Q5v p0) fun res=>Z1 Tryz.prog 0o00355 [(eI p0)] (fun d=>d=(eB res)):=
 au Tryz.func237 Q5v.eq_1 .z
set_option maxRecDepth 100000 in
theorem Z6c (p0:(List Grow))(res:(List Grow))(h:Q2t p0=some res):Q05 Tryz.prog 0o00317 [] [(.slice 3 (List.map Q4w p0))] (fun H d=>H=[some ⟨3,List.map Q4w res,0,0x0066⟩]∧d=.sl 3 0 res.length):=by
  unfold Q2t at h
  refine Q05.of (res:=[.tmp 2]) Q90 Tryz.func207 (by decide) rfl (Nat.le_of_ble_eq_true rfl) rfl rfl (fun β hβ=>?_)
  refine TrD.seq ?_
  refine TrD.regK Q90 (fun K hK=>?_)
  simp
  refine hK _ ?_
  refine TrD.seq ?_
  refine TrD.seq ?_
  refine TrD.regK Q90 (fun K hK=>?_)
  simp
  refine ⟨?_,fun hnil=>?_⟩
  · refine hK _ ?_
    refine TrD.cond (b:=false) (by simp) (fun hb=>by cases hb) (fun hb=>?_)
    refine TrD.skip ?_
    refine TrD.seq ?_
    obtain ⟨x3,hx3,h⟩:=bindE h
    have hx3_r:=(Z00 hx3).2
    try simp only [U5,U3,U4,U7,Nat.zero_add,Nat.add_zero,Nat.reduceAdd,Z4b,Z41] at hx3_r
    obtain hhx3:=X15 hx3
    subst hhx3
    refine TrD.regK Q90 (fun K hK=>?_)
    simp [hx3_r]
    refine hK _ ?_
    obtain rfl:=Option.some.inj h
    refine TrD.ret ?_
    refine Z7y (σ':=⟨(updD (fun _=>.any) 2 (.sl 3 0 (p0).length)),hOfO [some ⟨3,(List.map Q4w p0),0,0x0066⟩],1,8⟩) ?_ ?_
    · exact J8.canonV 0 [40] _ _ hβ (Q76 (by decide)) (by decide) (Z0c (v_of (d0:=(.sl 3 40 (p0).length)) (by simp [hx3_r]) (v_sl rfl)) (Z79 _)) (.cons (lv (L:=⟨3,(List.map Q4w p0),0,0x0066⟩) (by simp [hx3_r]) rfl rfl (by simp [hx3_r]) (Q6v (by simp [hx3_r]) (Q8 X08 _))) .nil)
    · dsimp only [resD]
      exact ⟨[some ⟨3,(List.map Q4w p0),0,0x0066⟩],[],rfl,by simp,by simp,.inl rfl,by simp [Q9q]⟩
  · replace h:some ([])=some res:=by simp only [hnil] at h;simpa [app] using h
    refine hK _ ?_
    refine TrD.cond (b:=true) (by simp) (fun hb=>?_) (fun hb=>by cases hb)
    refine TrD.seq ?_
    refine TrD.regK Q90 (fun K hK=>?_)
    simp
    refine hK _ ?_
    obtain rfl:=Option.some.inj h
    refine TrD.ret ?_
    refine Z7y (σ':=⟨(updD (fun _=>.any) 2 (.sl 3 0 0)),hOfO [some ⟨3,(List.map Q4w []),0,0x0066⟩],1,8⟩) ?_ ?_
    · refine (J8.ownNil (s:=2) (by simp) 3 0x0066).trans ?_
      exact J8.canonV 0 [32] _ _ hβ (Q76 (by decide)) (by decide) (Z0c (v_of (d0:=(.sl 3 32 0)) (by simp) (v_sl rfl)) (Z79 _)) (.cons (lv (L:=⟨3,(List.map Q4w []),0,0x0066⟩) (by simp) rfl rfl (by simp) (Q6v (by simp) (Q8 X08 _))) .nil)
    · dsimp only [resD]
      exact ⟨[some ⟨3,(List.map Q4w []),0,0x0066⟩],[],rfl,by simp,by simp,.inl rfl,by simp [Q9q]⟩
instance W1o:∀ (p0:(List Grow)),Ct (Q2t p0) fun res=>Q05 Tryz.prog 0o00317 [] [(.slice 3 (List.map Q4w p0))] (fun H d=>H=[some ⟨3,List.map Q4w res,0,0x0066⟩]∧d=.sl 3 0 res.length):=fun p0=>⟨Z6c p0⟩
instance V6o:∀ (p0:Q4) (p1:(List Int)),Ct (Q6x p0 p1) fun res=>Z1 Tryz.prog 0o00216 [(.agg (Q07 p0)),(.slice 1 (List.map rI p1))] (fun d=>d=(.agg (Q07 res))):=
 au Tryz.func142 Q6x.eq_1 (.o (.o (.ls 1 (.f [2,4] [0,8] [2,4,7,8,9] [0,8] (fun (k46:Nat) (s42:Q4)=>[(9,eI (k46:Int))]) (fun k46 s42=>[(0,some ⟨3,[(Q07 s42)],0,0x0038⟩)]) (fun k46 s42=>.z) (fun s50=>.z)))))
end Go.Proofs.YtbdkbdafhlcilaaGreat
