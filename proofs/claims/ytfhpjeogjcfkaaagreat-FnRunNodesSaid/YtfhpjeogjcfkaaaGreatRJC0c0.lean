import Derived.Test.YtfhpjeogjcfkaaaGreatRJMir
import Derived.Test.YtfhpjeogjcfkaaaGreatRJAuto
set_option linter.unusedSimpArgs false
set_option linter.unusedVariables false
namespace Go.Proofs.YtfhpjeogjcfkaaaGreat
open Go Go.RowKit
set_option maxRecDepth 100000
set_option maxHeartbeats 20000000
instance W47:∀ (p0:(List Int)),Ct (Q2z p0) fun res=>J4 Tryz.prog 0o00116 [] [(.slice 1 (List.map (rK .u8) p0))] (fun H d=>H=[some ⟨2,[(V9 res)],0,0x00d7⟩]∧d=.ptr 2 0 0 0):=
 au Tryz.func78 Q2z.eq_1 (.o (.j 1 0 [0] [] (fun (s3:(List Int))=>[(0,.slice 1 (List.map (rK .u8) s3))]) (fun _=>[]) .z (fun _=>.z)))
instance W42:Ct (Q3z) fun res=>Z2 Tryz.prog 0o00464 [] (fun d=>d=(.slice 1 (List.map rS res))):=
 au Tryz.func308 Q3z.eq_1 .z
instance W6l:∀ (n:Nat) (p0:Int),Ct (Q5z n p0) fun res=>Z2 Tryz.prog 0o00554 [(eI p0)] (fun d=>d=(eS res)):=
 ar (au Tryz.func364 Q5z.eq_2 (.o (.o (.o (.i .z (.i .z (.w [0,3] [] [0,3] [] (fun (s18:Int×ByteArray)=>[(0,eI s18.1),(3,eS s18.2)]) (fun s18=>[]) (fun s18=>.z) (fun s26=>.z))))))))
instance W25:∀ (p0:(List Q3)) (p1:Q6) (p2:Int),Ct (Q1g p0 p1 p2) fun res=>Z2 Tryz.prog 0o00204 [(.slice 2 (List.map W8 p0)),(.agg (W6 p1)),(eI p2)] (fun d=>d=(.slice 2 (List.map W6 res))):=
 au Tryz.func132 Q1g.eq_1 (.o (.o (.o (.o (.o (.j 3 0 [7,8] [88] (fun (s4:Int)=>[(8,eI s4)]) (fun _=>[]) .z (fun s4=>.pN 9 2 0x0019 (.ls 28 (.f [9] [41] [8,9,28,29,30] [41] (fun (k103:Nat) (s99:(List Q6))=>[(9,.sl 2 41 (s99).length),(30,eI (k103:Int))]) (fun k103 s99=>[(41,some ⟨2,(List.map W6 s99),0,0x0019⟩)]) (fun k103 s99=>.b fun (x104:Q6)=>.j 9 0 [8,9,11,28,29,30] [0,25] (fun (s115:Int)=>[]) (fun s115=>[(25,some ⟨2,[[(eI x104.data),(eI s115)]],0,0x0019⟩)]) .z (fun _=>.z)) (fun s107=>.z))))))))))
instance X65:∀ (p0:(List Int)) (p1:Int),Ct (Q43 p0 p1) fun res=>Z2 Tryz.prog 0o00406 [(.slice 1 (List.map rI p0)),(eI p1)] (fun d=>d=(eI res)):=
 au Tryz.func262 Q43.eq_1 (.o (.o (.ls 0 (.f [] [] [0,1,7,8] [] (fun (k44:Nat) (s40:Unit)=>[(8,eI (k44:Int))]) (fun k44 s40=>[]) (fun k44 s40=>.z) (fun s48=>.z)))))
set_option maxRecDepth 100000 in
theorem Q9g (p0:(List Q1))(res:(List Q1))(h:Q01 p0=some res):J4 Tryz.prog 0o00174 [] [(.slice 2 (List.map Q7 p0))] (fun H d=>H=[some ⟨2,List.map Q7 res,0,0x0095⟩]∧d=.sl 2 0 res.length):=by
  unfold Q01 at h
  refine J4.of (res:=[.tmp 2]) Q7c Tryz.func124 (by decide) rfl (Nat.le_of_ble_eq_true rfl) rfl rfl (fun β hβ=>?_)
  refine TrD.seq ?_
  refine TrD.regK Q7c (fun K hK=>?_)
  simp
  refine hK _ ?_
  refine TrD.seq ?_
  refine TrD.seq ?_
  refine TrD.regK Q7c (fun K hK=>?_)
  simp
  refine ⟨?_,fun hnil=>?_⟩
  · refine hK _ ?_
    refine TrD.cond (b:=false) (by simp) (fun hb=>by cases hb) (fun hb=>?_)
    refine TrD.skip ?_
    refine TrD.seq ?_
    obtain ⟨x3,hx3,h⟩:=bindE h
    have hx3_r:=(Q87 hx3).2
    try simp only [U5,U3,U4,U7,Nat.zero_add,Nat.add_zero,Nat.reduceAdd,Z1g,Z18] at hx3_r
    obtain hhx3:=Z77 hx3
    subst hhx3
    refine TrD.regK Q7c (fun K hK=>?_)
    simp [hx3_r]
    refine hK _ ?_
    obtain rfl:=Option.some.inj h
    refine TrD.ret ?_
    refine Z4i (σ':=⟨(updD (fun _=>.any) 2 (.sl 2 0 (p0).length)),hOfO [some ⟨2,(List.map Q7 p0),0,0x0095⟩],1,8⟩) ?_ ?_
    · exact V3.canonV 0 [40] _ _ hβ (Q5m (by decide)) (by decide) (Q8h (v_of (d0:=(.sl 2 40 (p0).length)) (by simp [hx3_r]) (v_sl rfl)) (Z41 _)) (.cons (lv (L:=⟨2,(List.map Q7 p0),0,0x0095⟩) (by simp [hx3_r]) rfl rfl (by simp [hx3_r]) (Q5b (by simp [hx3_r]) (Q4 Q6u _))) .nil)
    · dsimp only [resD]
      exact ⟨[some ⟨2,(List.map Q7 p0),0,0x0095⟩],[],rfl,by simp,by simp,.inl rfl,by simp [Q7f]⟩
  · replace h:some ([])=some res:=by simp only [hnil] at h;simpa [app] using h
    refine hK _ ?_
    refine TrD.cond (b:=true) (by simp) (fun hb=>?_) (fun hb=>by cases hb)
    refine TrD.seq ?_
    refine TrD.regK Q7c (fun K hK=>?_)
    simp
    refine hK _ ?_
    obtain rfl:=Option.some.inj h
    refine TrD.ret ?_
    refine Z4i (σ':=⟨(updD (fun _=>.any) 2 (.sl 2 0 0)),hOfO [some ⟨2,(List.map Q7 []),0,0x0095⟩],1,8⟩) ?_ ?_
    · refine (V3.ownNil (s:=2) (by simp) 2 0x0095).trans ?_
      exact V3.canonV 0 [32] _ _ hβ (Q5m (by decide)) (by decide) (Q8h (v_of (d0:=(.sl 2 32 0)) (by simp) (v_sl rfl)) (Z41 _)) (.cons (lv (L:=⟨2,(List.map Q7 []),0,0x0095⟩) (by simp) rfl rfl (by simp) (Q5b (by simp) (Q4 Q6u _))) .nil)
    · dsimp only [resD]
      exact ⟨[some ⟨2,(List.map Q7 []),0,0x0095⟩],[],rfl,by simp,by simp,.inl rfl,by simp [Q7f]⟩
instance Z9s:∀ (p0:(List Q1)),Ct (Q01 p0) fun res=>J4 Tryz.prog 0o00174 [] [(.slice 2 (List.map Q7 p0))] (fun H d=>H=[some ⟨2,List.map Q7 res,0,0x0095⟩]∧d=.sl 2 0 res.length):=fun p0=>⟨Q9g p0⟩
instance X0p:∀ (p0:(List Grow)) (p1:(Grow→Option Bool)) {p1_f:FuncId} {p1_c:List D} [p1_i:CF1 (fun a0=>(.agg (Q3j a0))) (fun r=>(eB r)) p1 p1_f p1_c],Ct (Q13 p0 p1) fun res=>Z2 Tryz.prog 0o00424 [(.slice 3 (List.map Q3j p0)),.clos p1_f p1_c] (fun d=>d=(eI res)):=
 au Tryz.func276 Q13.eq_1 (.o (.o (.o (.o (.o (.ls 0 (.f [] [] [0,1,7,8] [] (fun (k54:Nat) (s50:Unit)=>[(8,eI (k54:Int))]) (fun k54 s50=>[]) (fun k54 s50=>.z) (fun s58=>.z))))))))
set_option maxRecDepth 100000 in
theorem Z33 (p0:(List Grow))(res:(List Grow))(h:Q1k p0=some res):J4 Tryz.prog 0o00326 [] [(.slice 3 (List.map Q3j p0))] (fun H d=>H=[some ⟨3,List.map Q3j res,0,0x0066⟩]∧d=.sl 3 0 res.length):=by
  unfold Q1k at h
  refine J4.of (res:=[.tmp 2]) Q7c Tryz.func214 (by decide) rfl (Nat.le_of_ble_eq_true rfl) rfl rfl (fun β hβ=>?_)
  refine TrD.seq ?_
  refine TrD.regK Q7c (fun K hK=>?_)
  simp
  refine hK _ ?_
  refine TrD.seq ?_
  refine TrD.seq ?_
  refine TrD.regK Q7c (fun K hK=>?_)
  simp
  refine ⟨?_,fun hnil=>?_⟩
  · refine hK _ ?_
    refine TrD.cond (b:=false) (by simp) (fun hb=>by cases hb) (fun hb=>?_)
    refine TrD.skip ?_
    refine TrD.seq ?_
    obtain ⟨x3,hx3,h⟩:=bindE h
    have hx3_r:=(Q87 hx3).2
    try simp only [U5,U3,U4,U7,Nat.zero_add,Nat.add_zero,Nat.reduceAdd,Z1g,Z18] at hx3_r
    obtain hhx3:=Z77 hx3
    subst hhx3
    refine TrD.regK Q7c (fun K hK=>?_)
    simp [hx3_r]
    refine hK _ ?_
    obtain rfl:=Option.some.inj h
    refine TrD.ret ?_
    refine Z4i (σ':=⟨(updD (fun _=>.any) 2 (.sl 3 0 (p0).length)),hOfO [some ⟨3,(List.map Q3j p0),0,0x0066⟩],1,8⟩) ?_ ?_
    · exact V3.canonV 0 [40] _ _ hβ (Q5m (by decide)) (by decide) (Q8h (v_of (d0:=(.sl 3 40 (p0).length)) (by simp [hx3_r]) (v_sl rfl)) (Z41 _)) (.cons (lv (L:=⟨3,(List.map Q3j p0),0,0x0066⟩) (by simp [hx3_r]) rfl rfl (by simp [hx3_r]) (Q5b (by simp [hx3_r]) (Q4 Z6c _))) .nil)
    · dsimp only [resD]
      exact ⟨[some ⟨3,(List.map Q3j p0),0,0x0066⟩],[],rfl,by simp,by simp,.inl rfl,by simp [Q7f]⟩
  · replace h:some ([])=some res:=by simp only [hnil] at h;simpa [app] using h
    refine hK _ ?_
    refine TrD.cond (b:=true) (by simp) (fun hb=>?_) (fun hb=>by cases hb)
    refine TrD.seq ?_
    refine TrD.regK Q7c (fun K hK=>?_)
    simp
    refine hK _ ?_
    obtain rfl:=Option.some.inj h
    refine TrD.ret ?_
    refine Z4i (σ':=⟨(updD (fun _=>.any) 2 (.sl 3 0 0)),hOfO [some ⟨3,(List.map Q3j []),0,0x0066⟩],1,8⟩) ?_ ?_
    · refine (V3.ownNil (s:=2) (by simp) 3 0x0066).trans ?_
      exact V3.canonV 0 [32] _ _ hβ (Q5m (by decide)) (by decide) (Q8h (v_of (d0:=(.sl 3 32 0)) (by simp) (v_sl rfl)) (Z41 _)) (.cons (lv (L:=⟨3,(List.map Q3j []),0,0x0066⟩) (by simp) rfl rfl (by simp) (Q5b (by simp) (Q4 Z6c _))) .nil)
    · dsimp only [resD]
      exact ⟨[some ⟨3,(List.map Q3j []),0,0x0066⟩],[],rfl,by simp,by simp,.inl rfl,by simp [Q7f]⟩
instance X66:∀ (p0:(List Grow)),Ct (Q1k p0) fun res=>J4 Tryz.prog 0o00326 [] [(.slice 3 (List.map Q3j p0))] (fun H d=>H=[some ⟨3,List.map Q3j res,0,0x0066⟩]∧d=.sl 3 0 res.length):=fun p0=>⟨Z33 p0⟩
instance W5t:∀ (p0:(List Q7w)) (p1:Q2),Ct (Q4m p0 p1) fun res=>Z2 Tryz.prog 0o00216 [(.slice 4 (List.map Q9z p0)),(.agg (W4 p1))] (fun d=>d=(eI res)):=
 au Tryz.func142 Q4m.eq_1 (.o (.o (.ls 0 (.f [] [] [0,3,5] [0] (fun (k159:Nat) (s155:Unit)=>[(5,eI (k159:Int))]) (fun k159 s155=>[]) (fun k159 s155=>.o (.j 4 0 [0,3,5] [0] (fun (s175:Unit)=>[]) (fun _=>[]) .z (fun _=>.z))) (fun s163=>.z)))))
instance W6b:∀ (n:Nat) (p0:Q2),Ct (Q3l n p0) fun res=>Z2 Tryz.prog 0o00307 [(.agg (W4 p0))] (fun d=>d=(.agg (W4 res))):=
 ar (au Tryz.func199 Q3l.eq_2 (.o (.o (.b fun (p0:Q2)=>.pC 56 2 3 0x001d (.lc 0 2 3 W4 p0.kids (.f [2,3] [8,56,80] [1,2,3,4] [0,8,56,80] (fun (k56:Nat) (s52:(List Q2))=>[(4,eI (k56:Int))]) (fun k56 s52=>[(1000000056,some ⟨3,[[(eI p0.ctor),(eI p0.n),(.sl 3 80 (s52).length)]],0,0x001d⟩),(80,some ⟨3,(List.map W4 s52),0,0x001d⟩)]) (fun k56 s52=>.o (.g [1,2,3,4] [0,1,2,3] [] [(1000000002,some ⟨3,[[(eI p0.ctor),(eI p0.n),(.sl 3 3 (s52).length)]],0,0x001d⟩)] (.o (.o (.d [0,1,2,3,4,5,6,7,8,9,10,11] [0,2] [27] .z))))) (fun s60=>.z)))))))
instance X80:∀ (p0:Q2q) (p1:(List V5)),Ct (Q1w p0 p1) fun res=>Z2 Tryz.prog 0o00156 [(.agg (Q6y p0)),(.slice 4 (List.map Q48 p1))] (fun d=>d=(eB res)):=
 au Tryz.func110 Q1w.eq_1 (.o (.o (.i .z (.ls 1 (.f [] [] [1,2,5] [0] (fun (k179:Nat) (s175:Unit)=>[(5,eI (k179:Int))]) (fun k179 s175=>[]) (fun k179 s175=>.o (.j 6 0 [1,2,5] [0] (fun (s196:Unit)=>[]) (fun _=>[]) (.g [1,2,5] [0] [] [] (.d [0,1,2,3,4,5,6,7] [0] [] .z)) (fun _=>.z))) (fun s183=>.z))))))
instance W3n:∀ (p0:V2),Ct (Q2t p0) fun res=>Z2 Tryz.prog 0o00415 [(.agg (Q1e p0))] (fun d=>d=(eI res)):=
 au Tryz.func269 Q2t.eq_1 (.b fun (p0:V2)=>.lc 0 1 6 Z0 p0.pats (.f [] [] [1,3] [0] (fun (k44:Nat) (s40:Unit)=>[(3,eI (k44:Int))]) (fun k44 s40=>[]) (fun k44 s40=>.z) (fun s48=>.z)))
instance W3o:∀ (p0:(List V2)) (p1:Int),Ct (Q2u p0 p1) fun res=>Z2 Tryz.prog 0o00507 [(.slice 3 (List.map Q1e p0)),(eI p1)] (fun d=>d=(eI res)):=
 au Tryz.func327 Q2u.eq_1 (.o (.o (.ls 0 (.f [5] [] [0,1,5,6] [] (fun (k71:Nat) (s67:Int)=>[(5,eI s67),(6,eI (k71:Int))]) (fun k71 s67=>[]) (fun k71 s67=>.o (.j 5 0 [0,1,5,6] [] (fun (s78:Int)=>[(5,eI s78)]) (fun _=>[]) .z (fun _=>.z))) (fun s75=>.z)))))
instance W5x:∀ (p0:(List Int)) (p1:Int),Ct (Q5s p0 p1) fun res=>Z2 Tryz.prog 0o00407 [(.slice 1 (List.map rI p0)),(eI p1)] (fun d=>d=(.slice 1 (List.map rI res))):=
 au Tryz.func263 Q5s.eq_1 .z
instance W5z:∀ (p0:Q0) (p1:Q8),Ct (Q5t p0 p1) fun res=>Z2 Tryz.prog 0o00513 [(.agg (Z0 p0)),(.agg (J3 p1))] (fun d=>d=(eB res)):=
 au Tryz.func331 Q5t.eq_1 .z
end Go.Proofs.YtfhpjeogjcfkaaaGreat
