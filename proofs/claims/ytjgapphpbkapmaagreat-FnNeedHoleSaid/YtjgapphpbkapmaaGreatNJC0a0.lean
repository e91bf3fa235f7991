import Derived.Test.YtjgapphpbkapmaaGreatNJMir
import Derived.Test.YtjgapphpbkapmaaGreatNJAuto
set_option linter.unusedSimpArgs false
set_option linter.unusedVariables false
namespace Go.Proofs.YtjgapphpbkapmaaGreat
open Go Go.RowKit
set_option maxRecDepth 100000
set_option maxHeartbeats 20000000
instance W79:∀ (p0:Q0) (p1:Bool) (p2:Bool) (p3:Bool) (p4:Int),Ct (Q2p p0 p1 p2 p3 p4) fun res=>Z1 Tryz.prog 0o00445 [(.agg (Q7 p0)),(eB p1),(eB p2),(eB p3),(eI p4)] (fun d=>d=(eB res)):=
 au Tryz.func293 Q2p.eq_1 .z
instance X9j:∀ (p0:(List Q3)) (p1:Q5) (p2:Int),Ct (Q18 p0 p1 p2) fun res=>Z1 Tryz.prog 0o00176 [(.slice 2 (List.map W2 p0)),(.agg (W1 p1)),(eI p2)] (fun d=>d=(.slice 2 (List.map W1 res))):=
 au Tryz.func126 Q18.eq_1 (.o (.o (.o (.o (.o (.j 3 0 [7,8] [88] (fun (s4:Int)=>[(8,eI s4)]) (fun _=>[]) .z (fun s4=>.pN 9 2 0x0019 (.ls 28 (.f [9] [41] [8,9,28,29,30] [41] (fun (k103:Nat) (s99:(List Q5))=>[(9,.sl 2 41 (s99).length),(30,eI (k103:Int))]) (fun k103 s99=>[(41,some ⟨2,(List.map W1 s99),0,0x0019⟩)]) (fun k103 s99=>.b fun (x104:Q5)=>.j 9 0 [8,9,11,28,29,30] [0,25] (fun (s115:Int)=>[]) (fun s115=>[(25,some ⟨2,[[(eI x104.data),(eI s115)]],0,0x0019⟩)]) .z (fun _=>.z)) (fun s107=>.z))))))))))
theorem Q8x (p0:(List Q0))(res:(List Q0))(h:J1 p0=some res):J2 Tryz.prog 0o00171 [] [(.slice 6 (List.map Q7 p0))] (fun H d=>H=[some ⟨6,List.map Q7 res,0,0x0060⟩]∧d=.sl 6 0 res.length):=by
 unfold J1 at h
 refine CH Tryz.func121 [.tmp 2] 0 fun β hβ=>?_
 refine sZ ?_
 apply sq
 refine sk fun K hK=>?_
 simp
 refine ⟨?_,fun hnil=>?_⟩
 ·apply hK
  refine cF ?_
  apply TrD.skip
  apply sq
  obtain ⟨x3,hx3,h⟩:=bindE h
  have hx3_r:=(Q7i hx3).2
  try simp only [U4,Nat.zero_add] at hx3_r
  obtain hhx3:=Z5l hx3
  subst hhx3
  refine rZ ?_ fun K hK=>by simp [hx3_r];exact hK
  cases h
  apply TrD.ret
  refine Z32 (σ':=⟨(updD (fun _=>.any) 2 (.sl 6 0 (p0).length)),hOfO [some ⟨6,(List.map Q7 p0),0,0x0060⟩],1,8⟩) ?_ ?_
  ·exact gC [40]
  dsimp only [resD]
  exact eA
 replace h:some ([])=some res:=by simp only [hnil] at h;simpa [app] using h
 apply hK
 refine cT ?_
 refine sZ ?_
 cases h
 apply TrD.ret
 refine Z32 (σ':=⟨(updD (fun _=>.any) 2 (.sl 6 0 0)),hOfO [some ⟨6,(List.map Q7 []),0,0x0060⟩],1,8⟩) ?_ ?_
 ·refine (W9.ownNil (s:=2) (by simp) 6 0x0060).trans ?_
  exact gC [32]
 dsimp only [resD]
 exact eA
instance Z8s:∀ (p0:(List Q0)),Ct (J1 p0) fun res=>J2 Tryz.prog 0o00171 [] [(.slice 6 (List.map Q7 p0))] (fun H d=>H=[some ⟨6,List.map Q7 res,0,0x0060⟩]∧d=.sl 6 0 res.length):=fun p0=>⟨Q8x p0⟩
instance X5q:Ct (Q1s) fun res=>Z1 Tryz.prog 0o00170 [] (fun d=>d=(.agg (Q7 res))):=
 au Tryz.func120 Q1s.eq_1 .z
set_option maxRecDepth 100000 in
theorem Q8q (p0:(List Q1))(res:(List Q1))(h:J7 p0=some res):J2 Tryz.prog 0o00166 [] [(.slice 2 (List.map Q8 p0))] (fun H d=>H=[some ⟨2,List.map Q8 res,0,0x008b⟩]∧d=.sl 2 0 res.length):=by
  unfold J7 at h
  refine J2.of (res:=[.tmp 2]) Q6q Tryz.func118 (by decide) rfl (Nat.le_of_ble_eq_true rfl) rfl rfl (fun β hβ=>?_)
  refine TrD.seq ?_
  refine TrD.regK Q6q (fun K hK=>?_)
  simp
  refine hK _ ?_
  refine TrD.seq ?_
  refine TrD.seq ?_
  refine TrD.regK Q6q (fun K hK=>?_)
  simp
  refine ⟨?_,fun hnil=>?_⟩
  · refine hK _ ?_
    refine TrD.cond (b:=false) (by simp) (fun hb=>by cases hb) (fun hb=>?_)
    refine TrD.skip ?_
    refine TrD.seq ?_
    obtain ⟨x3,hx3,h⟩:=bindE h
    have hx3_r:=(Q7i hx3).2
    try simp only [U5,U3,U4,U7,Nat.zero_add,Nat.add_zero,Nat.reduceAdd,Z0o,Z0i] at hx3_r
    obtain hhx3:=Z5l hx3
    subst hhx3
    refine TrD.regK Q6q (fun K hK=>?_)
    simp [hx3_r]
    refine hK _ ?_
    obtain rfl:=Option.some.inj h
    refine TrD.ret ?_
    refine Z32 (σ':=⟨(updD (fun _=>.any) 2 (.sl 2 0 (p0).length)),hOfO [some ⟨2,(List.map Q8 p0),0,0x008b⟩],1,8⟩) ?_ ?_
    · exact W9.canonV 0 [40] _ _ hβ (Q52 (by decide)) (by decide) (Q7r (v_of (d0:=(.sl 2 40 (p0).length)) (by simp [hx3_r]) (v_sl rfl)) (Z2r _)) (.cons (lv (L:=⟨2,(List.map Q8 p0),0,0x008b⟩) (by simp [hx3_r]) rfl rfl (by simp [hx3_r]) (Q4t (by simp [hx3_r]) (Q2 Q66 _))) .nil)
    · dsimp only [resD]
      exact ⟨[some ⟨2,(List.map Q8 p0),0,0x008b⟩],[],rfl,by simp,by simp,.inl rfl,by simp [Q6t]⟩
  · replace h:some ([])=some res:=by simp only [hnil] at h;simpa [app] using h
    refine hK _ ?_
    refine TrD.cond (b:=true) (by simp) (fun hb=>?_) (fun hb=>by cases hb)
    refine TrD.seq ?_
    refine TrD.regK Q6q (fun K hK=>?_)
    simp
    refine hK _ ?_
    obtain rfl:=Option.some.inj h
    refine TrD.ret ?_
    refine Z32 (σ':=⟨(updD (fun _=>.any) 2 (.sl 2 0 0)),hOfO [some ⟨2,(List.map Q8 []),0,0x008b⟩],1,8⟩) ?_ ?_
    · refine (W9.ownNil (s:=2) (by simp) 2 0x008b).trans ?_
      exact W9.canonV 0 [32] _ _ hβ (Q52 (by decide)) (by decide) (Q7r (v_of (d0:=(.sl 2 32 0)) (by simp) (v_sl rfl)) (Z2r _)) (.cons (lv (L:=⟨2,(List.map Q8 []),0,0x008b⟩) (by simp) rfl rfl (by simp) (Q4t (by simp) (Q2 Q66 _))) .nil)
    · dsimp only [resD]
      exact ⟨[some ⟨2,(List.map Q8 []),0,0x008b⟩],[],rfl,by simp,by simp,.inl rfl,by simp [Q6t]⟩
instance Z7w:∀ (p0:(List Q1)),Ct (J7 p0) fun res=>J2 Tryz.prog 0o00166 [] [(.slice 2 (List.map Q8 p0))] (fun H d=>H=[some ⟨2,List.map Q8 res,0,0x008b⟩]∧d=.sl 2 0 res.length):=fun p0=>⟨Q8q p0⟩
instance X18:∀ (p1:Int),Ct (Q1h p1) fun res=>J2 Tryz.prog 0o00304 [] [.nil,(eI p1)] (fun H d=>H=[some ⟨3,List.map Q0o res,0,0x006b⟩]∧d=.sl 3 0 res.length):=
 au Tryz.func196 Q1h.eq_1 (.o (.i .z (.j 3 0 [0] [9000] (fun (s6:Unit)=>[(0,.sl 3 9000 0)]) (fun _=>[(9000,some ⟨3,(List.map Q0o []),0,0x006b⟩)]) (.i (.o (.o (.pS 144 0 Q0o ([]:List Z6) .z))) (.pN 0 3 0x006b .z)) (fun _=>.z))))
instance W3o:∀ (p0:(List ByteArray)) (p1:ByteArray),Ct (Q8d p0 p1) fun res=>Z1 Tryz.prog 0o00460 [(.slice 1 (List.map rS p0)),(eS p1)] (fun d=>d=(eI res)):=
 au Tryz.func304 Q8d.eq_1 (.o (.o (.i .z (.ls 0 (.f [] [] [0,1,5] [] (fun (k46:Nat) (s42:Unit)=>[(5,eI (k46:Int))]) (fun k46 s42=>[]) (fun k46 s42=>.z) (fun s50=>.z))))))
instance W5m:∀ (p0:Int),Ct (Q7e p0) fun res=>Z1 Tryz.prog 0o00440 [(.val (.int .u8 p0))] (fun d=>d=(eB res)):=
 au Tryz.func288 Q7e.eq_1 .z
instance W3l:∀ (p0:Q5),Ct (Q8b p0) fun res=>Z1 Tryz.prog 0o00372 [(.agg (W1 p0))] (fun d=>d=(eI res)):=
 au Tryz.func250 Q8b.eq_1 .z
instance W19:∀ (n:Nat) (p0:Q0) (p1:Int),Ct (Q2m n p0 p1) fun res=>Z1 Tryz.prog 0o00406 [(.agg (Q7 p0)),(eI p1)] (fun d=>d=(eI res)):=
 ar (au Tryz.func262 Q2m.eq_2 (.o (.o (.b fun (p0:Q0)=>.o (.lc 0 5 6 Q7 p0.kids (.f [5] [] [1,2,5,6] [0] (fun (k80:Nat) (s76:Int)=>[(5,eI s76),(6,eI (k80:Int))]) (fun k80 s76=>[]) (fun k80 s76=>.z) (fun s84=>.z)))))))
instance Z7u:∀ (p0:(List Q8z)) (p1:(Q8z→Option Bool)) {p1_f:FuncId} {p1_c:List D} [p1_i:CF1 (fun a0=>(.agg (Q98 a0))) (fun r=>(eB r)) p1 p1_f p1_c],Ct (Q0q p0 p1) fun res=>Z1 Tryz.prog 0o00250 [(.slice 4 (List.map Q98 p0)),.clos p1_f p1_c] (fun d=>d=(eI res)):=
 au Tryz.func168 Q0q.eq_1 (.o (.o (.o (.o (.o (.ls 0 (.f [] [] [0,1,7,8] [] (fun (k54:Nat) (s50:Unit)=>[(8,eI (k54:Int))]) (fun k54 s50=>[]) (fun k54 s50=>.z) (fun s58=>.z))))))))
instance X9a:∀ (p0:Q20) (p1:(List Q1)),Ct (Q0p p0 p1) fun res=>Z1 Tryz.prog 0o00224 [(.agg (Q5p p0)),(.slice 2 (List.map Q8 p1))] (fun d=>d=.tup [(.slice 1 (List.map rI res.1)),(eB res.2)]):=
 au Tryz.func148 Q0p.eq_1 (.o (.o (.ls 1 (.f [] [] [1,2,6] [0] (fun (k78:Nat) (s74:Unit)=>[(6,eI (k78:Int))]) (fun k78 s74=>[]) (fun k78 s74=>.o (.i (.g [1,2,6] [0] [] [] (.d [0,1,2,3,4,5,6,7] [0] [] .z)) .z)) (fun s82=>.z)))))
instance W10:∀ (p0:W8),Ct (Q2i p0) fun res=>Z1 Tryz.prog 0o00352 [(.agg (Q15 p0))] (fun d=>d=(eI res)):=
 au Tryz.func234 Q2i.eq_1 (.b fun (p0:W8)=>.lc 0 1 6 Q7 p0.pats (.f [] [] [1,3] [0] (fun (k44:Nat) (s40:Unit)=>[(3,eI (k44:Int))]) (fun k44 s40=>[]) (fun k44 s40=>.z) (fun s48=>.z)))
instance W12:∀ (n:Nat) (p0:(List Q1)),Ct (Q2k n p0) fun res=>Z1 Tryz.prog 0o00256 [(.slice 2 (List.map Q8 p0))] (fun d=>d=(.slice 2 (List.map Q8 res))):=
 au Tryz.func174 Q2k.eq_1 (.o (.o (.w [3] [8] [0,3,4] [8] (fun (s496:(List Q1)×Int)=>[(3,.sl 2 8 (s496.1).length),(4,eI s496.2)]) (fun s496=>[(8,some ⟨2,(List.map Q8 s496.1),0,0x008b⟩)]) (fun s496=>.i (.ls 0 (.f [0,3,4] [0] [0,3,4,5] [0] (fun (k587:Nat) (s583:(List Q1))=>[(3,.sl 2 0 (s583).length),(5,eI (k587:Int))]) (fun k587 s583=>[(0,some ⟨2,(List.map Q8 s583),0,0x008b⟩)]) (fun k587 s583=>.o (.j 8 0 [0,3,4,5] [0] (fun (s595:(List Q1))=>[(3,.sl 2 0 (s595).length)]) (fun s595=>[(0,some ⟨2,(List.map Q8 s595),0,0x008b⟩)]) (.i (.o (.o (.pF 153 .z))) .z) (fun _=>.z))) (fun s591=>.z))) .z) (fun s504=>.z))))
instance W37:∀ (p0:Q0) (p1:Q9),Ct (Q5a p0 p1) fun res=>Z1 Tryz.prog 0o00431 [(.agg (Q7 p0)),(.agg (Y8 p1))] (fun d=>d=(eB res)):=
 au Tryz.func281 Q5a.eq_1 .z
end Go.Proofs.YtjgapphpbkapmaaGreat
