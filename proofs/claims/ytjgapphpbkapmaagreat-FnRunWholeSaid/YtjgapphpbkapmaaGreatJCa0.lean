import Derived.Test.YtjgapphpbkapmaaGreatJMa0
import Derived.Test.YtjgapphpbkapmaaGreatJC6b0
import Derived.Test.YtjgapphpbkapmaaGreatJC6c0
import Derived.Test.YtjgapphpbkapmaaGreatJC6a0
set_option linter.unusedSimpArgs false
set_option linter.unusedVariables false
namespace Go.Proofs.YtjgapphpbkapmaaGreat
open Go Go.RowKit
set_option maxRecDepth 100000
set_option maxHeartbeats 20000000
instance Z0u:∀ (n:Nat) (p0:(List Int)),Ct (Q1r n p0) fun res=>Z2 Tryz.prog 0o00042 [(.slice 1 (List.map (rK .u8) p0))] (fun d=>d=.tup [(.slice 2 (List.map W2 res.1)),(.agg (W0 res.2.1)),(.slice 9 (List.map V1 res.2.2.1)),(eI res.2.2.2.1),(.agg (X1 res.2.2.2.2))]):=
 au Tryz.func34 Q1r.eq_1 .z
theorem Z0w (n:Nat) (p0:(List Int)):∀ res,Q1r n p0=some res→Z2 Tryz.prog 0o00042 [(.slice 1 (List.map (rK .u8) p0))] (fun d=>d=.tup [(.slice 2 (List.map W2 res.1)),(.agg (W0 res.2.1)),(.slice 9 (List.map V1 res.2.2.1)),(eI res.2.2.2.1),(.agg (X1 res.2.2.2.2))]):=(Z0u n p0).pf
theorem Q5q (p0:(List Int)) (p1:(List Int)):∀ res,Q02 p0 p1=some res→Z2 Tryz.prog 0o00030 [(.slice 1 (List.map rI p0)),(.slice 1 (List.map rI p1))] (fun d=>d=(eB res)):=(X1s p0 p1).pf
instance W2a:∀ (p0:Q9) (q0:Q1),Ct (Q2k p0 q0) fun res=>Z2 Tryz.prog 0o00214 [(.agg (J5 p0)),.cptr (X1 q0)] (fun d=>d=(eB res)):=
 au Tryz.func140 Q2k.eq_1 .z
instance V38:∀ (p0:Q1) (p1:(List Int)),Ct (Q6a p0 p1) fun res=>Z2 Tryz.prog 0o00135 [(.agg (X1 p0)),(.slice 1 (List.map rI p1))] (fun d=>d=(.agg (X1 res))):=
 au Tryz.func93 Q6a.eq_1 (.o (.o (.ls 1 (.f [2,4] [0,8] [2,4,7,8,9] [0,8] (fun (k46:Nat) (s42:Q1)=>[(9,eI (k46:Int))]) (fun k46 s42=>[(0,some ⟨3,[(X1 s42)],0,0x001d⟩)]) (fun k46 s42=>.z) (fun s50=>.z)))))
instance V1n:∀ (n:Nat) (p0:(List Q2)) (p1:Q1),Ct (Q6h n p0 p1) fun res=>Z2 Tryz.prog 0o00136 [(.slice 2 (List.map Z3 p0)),(.agg (X1 p1))] (fun d=>d=(.slice 4 (List.map Q1m res))):=
 au Tryz.func94 Q6h.eq_1 (.o (.o (.o (.pN 5 4 0x0052 (.ls 0 (.f [5] [48] [3,5,8,9,10] [0,48] (fun (k66:Nat) (s62:(List X8))=>[(5,.sl 4 48 (s62).length),(10,eI (k66:Int))]) (fun k66 s62=>[(48,some ⟨4,(List.map Q1m s62),0,0x0052⟩)]) (fun k66 s62=>.o (.g [3,5,7,8,9,10] [0,1,26] [] [] (.o (.o (.o (.d [0,1,2,3,4,5,6,7,8,9,10,11] [0,2] [] .z)))))) (fun s70=>.z)))))))
instance W72:∀ (n:Nat) (p0:X9) (p1:(List Q6)) (p2:Q1),Ct (Q5x n p0 p1 p2) fun res=>Z2 Tryz.prog 0o00103 [(.agg (Q2s p0)),(.slice 9 (List.map V1 p1)),(.agg (X1 p2))] (fun d=>d=.tup [(eI res.1),(.slice 4 (List.map Q1m res.2.1)),(eI res.2.2)]):=
 au Tryz.func67 Q5x.eq_1 (.o (.o (.o (.o (.w [] [] [1,3,5,9] [0,8] (fun (s34:X9×Int)=>[(9,eI s34.2)]) (fun s34=>[(0,some ⟨6,[(Q2s s34.1)],0,0x0030⟩)]) (fun s34=>.z) (fun s42=>.z))))))
instance Z9h:∀ (n:Nat) (p0:(List Q3)) (p1:Q4) (p2:(List Q6)) (p3:Int) (p4:Q1),Ct (Q4w n p0 p1 p2 p3 p4) fun res=>Z2 Tryz.prog 0o00032 [(.slice 2 (List.map W2 p0)),(.agg (W0 p1)),(.slice 9 (List.map V1 p2)),(eI p3),(.agg (X1 p4))] (fun d=>d=.tup [(eI res.1),(.slice 4 (List.map Q1m res.2.1)),(eI res.2.2)]):=
 au Tryz.func26 Q4w.eq_1 .z
theorem Z9u (n:Nat) (p0:(List Q3)) (p1:Q4) (p2:(List Q6)) (p3:Int) (p4:Q1):∀ res,Q4w n p0 p1 p2 p3 p4=some res→Z2 Tryz.prog 0o00032 [(.slice 2 (List.map W2 p0)),(.agg (W0 p1)),(.slice 9 (List.map V1 p2)),(eI p3),(.agg (X1 p4))] (fun d=>d=.tup [(eI res.1),(.slice 4 (List.map Q1m res.2.1)),(eI res.2.2)]):=(Z9h n p0 p1 p2 p3 p4).pf
theorem Z5h (n:Nat) (p0:(List Q3)) (p1:Q4) (p2:(List Q6)) (p3:Int) (p4:Q1):∀ res,Q19 n p0 p1 p2 p3 p4=some res→Z2 Tryz.prog 0o00034 [(.slice 2 (List.map W2 p0)),(.agg (W0 p1)),(.slice 9 (List.map V1 p2)),(eI p3),(.agg (X1 p4))] (fun d=>d=.tup [(eI res.1),(.slice 1 (List.map rI res.2.1)),(eB res.2.2)]):=(Z54 n p0 p1 p2 p3 p4).pf
theorem Z5g (n:Nat) (p0:(List Q3)) (p1:Q4) (p2:(List Q6)) (p3:Int) (p4:Q1):∀ res,Q1y n p0 p1 p2 p3 p4=some res→Z2 Tryz.prog 0o00035 [(.slice 2 (List.map W2 p0)),(.agg (W0 p1)),(.slice 9 (List.map V1 p2)),(eI p3),(.agg (X1 p4))] (fun d=>d=.tup [(eI res.1),(.slice 1 (List.map rI res.2.1)),(eB res.2.2)]):=(Z53 n p0 p1 p2 p3 p4).pf
set_option maxRecDepth 100000 in
set_option maxHeartbeats 20000000 in
theorem Q9t (n:Nat) (p0:(List Int)) (res:Bool) (h:Q2y n p0=some res):Z2 Tryz.prog 0o00010 [(.slice 1 (List.map (rK .u8) p0))] (fun d=>d=(eB res)):=by
  unfold Q2y at h
  refine Z2.of (res:=[.tmp 2]) Q2m Tryz.func8 (by decide) rfl (Nat.le_of_ble_eq_true rfl) rfl rfl (fun β hβ0=>?_)
  have hβ:∀ k x,β.c0.M k=some x→k<0:=fun k x hx=>by rw [hβ0] at hx;cases hx
  refine TrD.seq ?_
  refine TrD.regK Q2m (fun K hK=>?_)
  simp
  refine hK _ ?_
  refine TrD.seq ?_
  refine TrD.seq ?_
  refine TrD.regK Q2m (fun K hK=>?_)
  simp
  refine hK _ ?_
  refine TrD.cond (b:=ilt 1048576 (lenZ p0.length)) (by simp) (fun hb2=>?_) (fun hb2=>?_)
  · rw [if_pos hb2] at h
    refine TrD.seq ?_
    refine TrD.regK Q2m (fun K hK=>?_)
    simp [hb2]
    refine hK _ ?_
    obtain rfl:=Option.some.inj h
    refine TrD.ret ?_
    refine Q7q (σ':=⟨(updD (fun _=>.any) 2 (eB true)),hOfO [],0,100⟩) ?_ ?_
    · exact V0.canonV 0 [] _ _ hβ (J9 (by decide)) (by decide) (Q38 (v_of (d0:=(eB true)) (by simp [hb2]) (Q4k (by simp) (by simp [hb2]))) (Q4z _)) .nil
    · dsimp only [resD]
      refine endF ?_ ?_<;>simp [Q4m]
  · rw [if_neg (Q1x hb2)] at h
    refine TrD.skip ?_
    refine TrD.seq ?_
    obtain ⟨r3,hr3,h⟩:=bindE h
    refine TrD.regK Q2m (fun K hK=>?_)
    simp [hb2]
    refine Z8v (Z0w n p0 _ hr3) (by simp [hb2]) (by simp) (fun q182 hq182=>?_)
    subst hq182
    simp [hb2]
    refine hK _ ?_
    refine TrD.seq ?_
    obtain ⟨r4,hr4,h⟩:=bindE h
    refine TrD.regK Q2m (fun K hK=>?_)
    simp [hb2]
    refine Z8v (Z5h n r3.1 r3.2.1 r3.2.2.1 r3.2.2.2.1 r3.2.2.2.2 _ hr4) (by simp [hb2]) (by simp) (fun q181 hq181=>?_)
    subst hq181
    simp [hb2]
    refine hK _ ?_
    refine TrD.seq ?_
    obtain ⟨r5,hr5,h⟩:=bindE h
    refine TrD.regK Q2m (fun K hK=>?_)
    simp [hb2]
    refine Z8v (Z5g n r3.1 r3.2.1 r3.2.2.1 r3.2.2.2.1 r3.2.2.2.2 _ hr5) (by simp [hb2]) (by simp) (fun q180 hq180=>?_)
    subst hq180
    simp [hb2]
    refine hK _ ?_
    refine TrD.seq ?_
    obtain ⟨r6,hr6,h⟩:=bindE h
    refine TrD.regK Q2m (fun K hK=>?_)
    simp [hb2]
    refine Z8v (Z9u n r3.1 r3.2.1 r3.2.2.1 r3.2.2.2.1 r3.2.2.2.2 _ hr6) (by simp [hb2]) (by simp) (fun q179 hq179=>?_)
    subst hq179
    simp [hb2]
    refine hK _ ?_
    refine TrD.seq ?_
    refine TrD.seq ?_
    rcases Bool.eq_false_or_eq_true (!ieq r4.1 r5.1) with hb136 | hb136
    · rw [if_pos hb136] at h
      refine TrD.regK Q2m (fun K hK=>?_)
      simp [hb2,hb136]
      refine hK _ ?_
      refine TrD.cond (b:=true) (by simp [hb2,hb136]) (fun hb=>?_) (fun hb=>by cases hb)
      refine TrD.seq ?_
      rcases Bool.eq_false_or_eq_true (ieq r4.1 r5.1) with hb141 | hb141
      · rw [if_pos hb141] at h
        rcases Bool.eq_false_or_eq_true (r4.2.2==r5.2.2) with hb142 | hb142
        · rw [if_pos hb142] at h
          obtain ⟨r143,hr143,h⟩:=bindE h
          refine TrD.regK Q2m (fun K hK=>?_)
          simp [hb2,hb136,hb141,hb142]
          refine Z8v (Q5q r4.2.1 r5.2.1 _ hr143) (by simp [hb2,hb136,hb141,hb142]) (by simp) (fun q144 hq144=>?_)
          subst hq144
          simp [hb2,hb136,hb141,hb142]
          refine hK _ ?_
          obtain rfl:=Option.some.inj h
          refine TrD.ret ?_
          refine Q7q (σ':=⟨(updD (fun _=>.any) 2 (eB r143)),hOfO [],0,100⟩) ?_ ?_
          · exact V0.canonV 0 [] _ _ hβ (J9 (by decide)) (by decide) (Q38 (v_of (d0:=(eB r143)) (by simp [hb2,hb136,hb141,hb142]) (Q4k (by simp) (by simp [hb2,hb136,hb141,hb142]))) (Q4z _)) .nil
          · dsimp only [resD]
            refine endF ?_ ?_<;>simp [Q4m]
        · rw [if_neg (Q1x hb142)] at h
          refine TrD.regK Q2m (fun K hK=>?_)
          simp [hb2,hb136,hb141,hb142]
          refine hK _ ?_
          obtain rfl:=Option.some.inj h
          refine TrD.ret ?_
          refine Q7q (σ':=⟨(updD (fun _=>.any) 2 (eB false)),hOfO [],0,100⟩) ?_ ?_
          · exact V0.canonV 0 [] _ _ hβ (J9 (by decide)) (by decide) (Q38 (v_of (d0:=(eB false)) (by simp [hb2,hb136,hb141,hb142]) (Q4k (by simp) (by simp [hb2,hb136,hb141,hb142]))) (Q4z _)) .nil
          · dsimp only [resD]
            refine endF ?_ ?_<;>simp [Q4m]
      · rw [if_neg (Q1x hb141)] at h
        refine TrD.regK Q2m (fun K hK=>?_)
        simp [hb2,hb136,hb141]
        refine hK _ ?_
        obtain rfl:=Option.some.inj h
        refine TrD.ret ?_
        refine Q7q (σ':=⟨(updD (fun _=>.any) 2 (eB false)),hOfO [],0,100⟩) ?_ ?_
        · exact V0.canonV 0 [] _ _ hβ (J9 (by decide)) (by decide) (Q38 (v_of (d0:=(eB false)) (by simp [hb2,hb136,hb141]) (Q4k (by simp) (by simp [hb2,hb136,hb141]))) (Q4z _)) .nil
        · dsimp only [resD]
          refine endF ?_ ?_<;>simp [Q4m]
    · rw [if_neg (Q1x hb136)] at h
      rcases Bool.eq_false_or_eq_true (!(r4.2.2==r5.2.2)) with hb145 | hb145
      · rw [if_pos hb145] at h
        refine TrD.regK Q2m (fun K hK=>?_)
        simp [hb2,hb136,hb145]
        refine hK _ ?_
        refine TrD.cond (b:=true) (by simp [hb2,hb136,hb145]) (fun hb=>?_) (fun hb=>by cases hb)
        refine TrD.seq ?_
        rcases Bool.eq_false_or_eq_true (ieq r4.1 r5.1) with hb150 | hb150
        · rw [if_pos hb150] at h
          rcases Bool.eq_false_or_eq_true (r4.2.2==r5.2.2) with hb151 | hb151
          · rw [if_pos hb151] at h
            obtain ⟨r152,hr152,h⟩:=bindE h
            refine TrD.regK Q2m (fun K hK=>?_)
            simp [hb2,hb136,hb145,hb150,hb151]
            refine Z8v (Q5q r4.2.1 r5.2.1 _ hr152) (by simp [hb2,hb136,hb145,hb150,hb151]) (by simp) (fun q153 hq153=>?_)
            subst hq153
            simp [hb2,hb136,hb145,hb150,hb151]
            refine hK _ ?_
            obtain rfl:=Option.some.inj h
            refine TrD.ret ?_
            refine Q7q (σ':=⟨(updD (fun _=>.any) 2 (eB r152)),hOfO [],0,100⟩) ?_ ?_
            · exact V0.canonV 0 [] _ _ hβ (J9 (by decide)) (by decide) (Q38 (v_of (d0:=(eB r152)) (by simp [hb2,hb136,hb145,hb150,hb151]) (Q4k (by simp) (by simp [hb2,hb136,hb145,hb150,hb151]))) (Q4z _)) .nil
            · dsimp only [resD]
              refine endF ?_ ?_<;>simp [Q4m]
          · rw [if_neg (Q1x hb151)] at h
            refine TrD.regK Q2m (fun K hK=>?_)
            simp [hb2,hb136,hb145,hb150,hb151]
            refine hK _ ?_
            obtain rfl:=Option.some.inj h
            refine TrD.ret ?_
            refine Q7q (σ':=⟨(updD (fun _=>.any) 2 (eB false)),hOfO [],0,100⟩) ?_ ?_
            · exact V0.canonV 0 [] _ _ hβ (J9 (by decide)) (by decide) (Q38 (v_of (d0:=(eB false)) (by simp [hb2,hb136,hb145,hb150,hb151]) (Q4k (by simp) (by simp [hb2,hb136,hb145,hb150,hb151]))) (Q4z _)) .nil
            · dsimp only [resD]
              refine endF ?_ ?_<;>simp [Q4m]
        · rw [if_neg (Q1x hb150)] at h
          refine TrD.regK Q2m (fun K hK=>?_)
          simp [hb2,hb136,hb145,hb150]
          refine hK _ ?_
          obtain rfl:=Option.some.inj h
          refine TrD.ret ?_
          refine Q7q (σ':=⟨(updD (fun _=>.any) 2 (eB false)),hOfO [],0,100⟩) ?_ ?_
          · exact V0.canonV 0 [] _ _ hβ (J9 (by decide)) (by decide) (Q38 (v_of (d0:=(eB false)) (by simp [hb2,hb136,hb145,hb150]) (Q4k (by simp) (by simp [hb2,hb136,hb145,hb150]))) (Q4z _)) .nil
          · dsimp only [resD]
            refine endF ?_ ?_<;>simp [Q4m]
      · rw [if_neg (Q1x hb145)] at h
        obtain ⟨r154,hr154,h⟩:=bindE h
        rcases Bool.eq_false_or_eq_true (!r154) with hb155 | hb155
        · rw [if_pos hb155] at h
          refine TrD.regK Q2m (fun K hK=>?_)
          simp [hb2,hb136,hb145,hb155]
          refine Z8v (Q5q r4.2.1 r5.2.1 _ hr154) (by simp [hb2,hb136,hb145,hb155]) (by simp) (fun q164 hq164=>?_)
          subst hq164
          simp [hb2,hb136,hb145,hb155]
          refine hK _ ?_
          refine TrD.cond (b:=true) (by simp [hb2,hb136,hb145,hb155]) (fun hb=>?_) (fun hb=>by cases hb)
          refine TrD.seq ?_
          rcases Bool.eq_false_or_eq_true (ieq r4.1 r5.1) with hb160 | hb160
          · rw [if_pos hb160] at h
            rcases Bool.eq_false_or_eq_true (r4.2.2==r5.2.2) with hb161 | hb161
            · rw [if_pos hb161] at h
              obtain ⟨r162,hr162,h⟩:=bindE h
              refine TrD.regK Q2m (fun K hK=>?_)
              simp [hb2,hb136,hb145,hb155,hb160,hb161]
              refine Z8v (Q5q r4.2.1 r5.2.1 _ hr162) (by simp [hb2,hb136,hb145,hb155,hb160,hb161]) (by simp) (fun q163 hq163=>?_)
              subst hq163
              simp [hb2,hb136,hb145,hb155,hb160,hb161]
              refine hK _ ?_
              obtain rfl:=Option.some.inj h
              refine TrD.ret ?_
              refine Q7q (σ':=⟨(updD (fun _=>.any) 2 (eB r162)),hOfO [],0,100⟩) ?_ ?_
              · exact V0.canonV 0 [] _ _ hβ (J9 (by decide)) (by decide) (Q38 (v_of (d0:=(eB r162)) (by simp [hb2,hb136,hb145,hb155,hb160,hb161]) (Q4k (by simp) (by simp [hb2,hb136,hb145,hb155,hb160,hb161]))) (Q4z _)) .nil
              · dsimp only [resD]
                refine endF ?_ ?_<;>simp [Q4m]
            · rw [if_neg (Q1x hb161)] at h
              refine TrD.regK Q2m (fun K hK=>?_)
              simp [hb2,hb136,hb145,hb155,hb160,hb161]
              refine hK _ ?_
              obtain rfl:=Option.some.inj h
              refine TrD.ret ?_
              refine Q7q (σ':=⟨(updD (fun _=>.any) 2 (eB false)),hOfO [],0,100⟩) ?_ ?_
              · exact V0.canonV 0 [] _ _ hβ (J9 (by decide)) (by decide) (Q38 (v_of (d0:=(eB false)) (by simp [hb2,hb136,hb145,hb155,hb160,hb161]) (Q4k (by simp) (by simp [hb2,hb136,hb145,hb155,hb160,hb161]))) (Q4z _)) .nil
              · dsimp only [resD]
                refine endF ?_ ?_<;>simp [Q4m]
          · rw [if_neg (Q1x hb160)] at h
            refine TrD.regK Q2m (fun K hK=>?_)
            simp [hb2,hb136,hb145,hb155,hb160]
            refine hK _ ?_
            obtain rfl:=Option.some.inj h
            refine TrD.ret ?_
            refine Q7q (σ':=⟨(updD (fun _=>.any) 2 (eB false)),hOfO [],0,100⟩) ?_ ?_
            · exact V0.canonV 0 [] _ _ hβ (J9 (by decide)) (by decide) (Q38 (v_of (d0:=(eB false)) (by simp [hb2,hb136,hb145,hb155,hb160]) (Q4k (by simp) (by simp [hb2,hb136,hb145,hb155,hb160]))) (Q4z _)) .nil
            · dsimp only [resD]
              refine endF ?_ ?_<;>simp [Q4m]
        · rw [if_neg (Q1x hb155)] at h
          refine TrD.regK Q2m (fun K hK=>?_)
          simp [hb2,hb136,hb145,hb155]
          refine Z8v (Q5q r4.2.1 r5.2.1 _ hr154) (by simp [hb2,hb136,hb145,hb155]) (by simp) (fun q178 hq178=>?_)
          subst hq178
          simp [hb2,hb136,hb145,hb155]
          refine hK _ ?_
          refine TrD.cond (b:=ilt r6.2.2 0) (by simp [hb2,hb136,hb145,hb155]) (fun hb165=>?_) (fun hb165=>?_)
          · rw [if_pos hb165] at h
            refine TrD.seq ?_
            rcases Bool.eq_false_or_eq_true (ieq r4.1 r5.1) with hb170 | hb170
            · rw [if_pos hb170] at h
              rcases Bool.eq_false_or_eq_true (r4.2.2==r5.2.2) with hb171 | hb171
              · rw [if_pos hb171] at h
                obtain ⟨r172,hr172,h⟩:=bindE h
                refine TrD.regK Q2m (fun K hK=>?_)
                simp [hb2,hb136,hb145,hb155,hb165,hb170,hb171]
                refine Z8v (Q5q r4.2.1 r5.2.1 _ hr172) (by simp [hb2,hb136,hb145,hb155,hb165,hb170,hb171]) (by simp) (fun q173 hq173=>?_)
                subst hq173
                simp [hb2,hb136,hb145,hb155,hb165,hb170,hb171]
                refine hK _ ?_
                obtain rfl:=Option.some.inj h
                refine TrD.ret ?_
                refine Q7q (σ':=⟨(updD (fun _=>.any) 2 (eB r172)),hOfO [],0,100⟩) ?_ ?_
                · exact V0.canonV 0 [] _ _ hβ (J9 (by decide)) (by decide) (Q38 (v_of (d0:=(eB r172)) (by simp [hb2,hb136,hb145,hb155,hb165,hb170,hb171]) (Q4k (by simp) (by simp [hb2,hb136,hb145,hb155,hb165,hb170,hb171]))) (Q4z _)) .nil
                · dsimp only [resD]
                  refine endF ?_ ?_<;>simp [Q4m]
              · rw [if_neg (Q1x hb171)] at h
                refine TrD.regK Q2m (fun K hK=>?_)
                simp [hb2,hb136,hb145,hb155,hb165,hb170,hb171]
                refine hK _ ?_
                obtain rfl:=Option.some.inj h
                refine TrD.ret ?_
                refine Q7q (σ':=⟨(updD (fun _=>.any) 2 (eB false)),hOfO [],0,100⟩) ?_ ?_
                · exact V0.canonV 0 [] _ _ hβ (J9 (by decide)) (by decide) (Q38 (v_of (d0:=(eB false)) (by simp [hb2,hb136,hb145,hb155,hb165,hb170,hb171]) (Q4k (by simp) (by simp [hb2,hb136,hb145,hb155,hb165,hb170,hb171]))) (Q4z _)) .nil
                · dsimp only [resD]
                  refine endF ?_ ?_<;>simp [Q4m]
            · rw [if_neg (Q1x hb170)] at h
              refine TrD.regK Q2m (fun K hK=>?_)
              simp [hb2,hb136,hb145,hb155,hb165,hb170]
              refine hK _ ?_
              obtain rfl:=Option.some.inj h
              refine TrD.ret ?_
              refine Q7q (σ':=⟨(updD (fun _=>.any) 2 (eB false)),hOfO [],0,100⟩) ?_ ?_
              · exact V0.canonV 0 [] _ _ hβ (J9 (by decide)) (by decide) (Q38 (v_of (d0:=(eB false)) (by simp [hb2,hb136,hb145,hb155,hb165,hb170]) (Q4k (by simp) (by simp [hb2,hb136,hb145,hb155,hb165,hb170]))) (Q4z _)) .nil
              · dsimp only [resD]
                refine endF ?_ ?_<;>simp [Q4m]
          · rw [if_neg (Q1x hb165)] at h
            refine TrD.skip ?_
            refine TrD.seq ?_
            rcases Bool.eq_false_or_eq_true r4.2.2 with hb176 | hb176
            · rw [if_pos hb176] at h
              rcases Bool.eq_false_or_eq_true (ieq r4.1 r6.1) with hb177 | hb177
              · rw [if_pos hb177] at h
                refine TrD.regK Q2m (fun K hK=>?_)
                simp [hb2,hb136,hb145,hb155,hb165,hb176,hb177]
                refine hK _ ?_
                obtain rfl:=Option.some.inj h
                refine TrD.ret ?_
                refine Q7q (σ':=⟨(updD (fun _=>.any) 2 (eB (ieq (lenZ r4.2.1.length) 0))),hOfO [],0,100⟩) ?_ ?_
                · exact V0.canonV 0 [] _ _ hβ (J9 (by decide)) (by decide) (Q38 (v_of (d0:=(eB (ieq (lenZ r4.2.1.length) 0))) (by simp [hb2,hb136,hb145,hb155,hb165,hb176,hb177]) (Q4k (by simp) (by simp [hb2,hb136,hb145,hb155,hb165,hb176,hb177]))) (Q4z _)) .nil
                · dsimp only [resD]
                  refine endF ?_ ?_<;>simp [Q4m]
              · rw [if_neg (Q1x hb177)] at h
                refine TrD.regK Q2m (fun K hK=>?_)
                simp [hb2,hb136,hb145,hb155,hb165,hb176,hb177]
                refine hK _ ?_
                obtain rfl:=Option.some.inj h
                refine TrD.ret ?_
                refine Q7q (σ':=⟨(updD (fun _=>.any) 2 (eB false)),hOfO [],0,100⟩) ?_ ?_
                · exact V0.canonV 0 [] _ _ hβ (J9 (by decide)) (by decide) (Q38 (v_of (d0:=(eB false)) (by simp [hb2,hb136,hb145,hb155,hb165,hb176,hb177]) (Q4k (by simp) (by simp [hb2,hb136,hb145,hb155,hb165,hb176,hb177]))) (Q4z _)) .nil
                · dsimp only [resD]
                  refine endF ?_ ?_<;>simp [Q4m]
            · rw [if_neg (Q1x hb176)] at h
              refine TrD.regK Q2m (fun K hK=>?_)
              simp [hb2,hb136,hb145,hb155,hb165,hb176]
              refine hK _ ?_
              obtain rfl:=Option.some.inj h
              refine TrD.ret ?_
              refine Q7q (σ':=⟨(updD (fun _=>.any) 2 (eB false)),hOfO [],0,100⟩) ?_ ?_
              · exact V0.canonV 0 [] _ _ hβ (J9 (by decide)) (by decide) (Q38 (v_of (d0:=(eB false)) (by simp [hb2,hb136,hb145,hb155,hb165,hb176]) (Q4k (by simp) (by simp [hb2,hb136,hb145,hb155,hb165,hb176]))) (Q4z _)) .nil
              · dsimp only [resD]
                refine endF ?_ ?_<;>simp [Q4m]
instance W0q:∀ (n:Nat) (p0:(List Int)),Ct (Q2y n p0) fun res=>Z2 Tryz.prog 0o00010 [(.slice 1 (List.map (rK .u8) p0))] (fun d=>d=(eB res)):=fun n p0=>⟨Q9t n p0⟩
end Go.Proofs.YtjgapphpbkapmaaGreat
