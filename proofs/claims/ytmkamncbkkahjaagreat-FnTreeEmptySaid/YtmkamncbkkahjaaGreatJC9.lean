import Derived.Test.YtmkamncbkkahjaaGreatJMir
import Derived.Test.YtmkamncbkkahjaaGreatJAuI
import Derived.Test.YtmkamncbkkahjaaGreatJC1
import Derived.Test.YtmkamncbkkahjaaGreatJC8
import Derived.Test.YtmkamncbkkahjaaGreatJC2
import Derived.Test.YtmkamncbkkahjaaGreatJC7
set_option linter.unusedSimpArgs false
set_option linter.unusedVariables false
set_option linter.unusedSimpArgs false
set_option linter.unusedVariables false
namespace Go.Proofs.YtmkamncbkkahjaaGreat
open Go Go.RowKit
set_option maxRecDepth 100000
set_option maxHeartbeats 20000000
set_option maxRecDepth 100000 in
set_option maxHeartbeats 20000000 in
theorem c_laws_FnTreeEmpty (n : Nat) (p0 : (List Int)) (res : Bool) (h : m_laws_FnTreeEmpty n p0 = some res) : CallsD Tryz.prog 0o00007 [(.slice 1 (List.map (rK .u8) p0))] (fun d => d = (eB res)) := by
  unfold m_laws_FnTreeEmpty at h
  refine CallsD.of (res := [.tmp 2]) tysOk Tryz.func7 (by decide) rfl (Nat.le_of_ble_eq_true rfl) rfl rfl (fun β hβ0 => ?_)
  have hβ : ∀ k x, β.c0.M k = some x → k < 0 := fun k x hx => by rw [hβ0] at hx; cases hx
  refine TrD.seq ?_
  refine TrD.regK tysOk (fun K hK => ?_)
  simp
  refine hK _ ?_
  refine TrD.seq ?_
  refine TrD.seq ?_
  refine TrD.regK tysOk (fun K hK => ?_)
  simp
  refine hK _ ?_
  refine TrD.cond (b := ilt 1048576 (lenZ p0.length)) (by simp) (fun hb2 => ?_) (fun hb2 => ?_)
  · rw [if_pos hb2] at h
    refine TrD.seq ?_
    refine TrD.regK tysOk (fun K hK => ?_)
    simp [hb2]
    refine hK _ ?_
    obtain rfl := Option.some.inj h
    refine TrD.ret ?_
    refine exitDG (σ' := ⟨(updD (fun _ => .any) 2 (eB true)), hOfO [], 0, 108⟩) ?_ ?_
    · exact Ghost.canonV 0 [] _ _ hβ (keep_first (by decide)) (by decide) (vT_upd (v_of (d0 := (eB true)) (by simp [hb2]) (v_free (by simp) (by simp [hb2]))) (vT_any _)) .nil
    · dsimp only [resD]
      refine endF ?_ ?_ <;> simp [packD]
  · rw [if_neg (ne_true_of hb2)] at h
    refine TrD.skip ?_
    refine TrD.seq ?_
    obtain ⟨r3, hr3, h⟩ := bindE h
    refine TrD.regK tysOk (fun K hK => ?_)
    simp [hb2]
    refine callP (c_spec_DrawCompileClauses n p0 _ hr3) (by simp [hb2]) (by simp) (fun q143 hq143 => ?_)
    subst hq143
    simp [hb2]
    refine hK _ ?_
    refine TrD.seq ?_
    obtain ⟨r4, hr4, h⟩ := bindE h
    refine TrD.regK tysOk (fun K hK => ?_)
    simp [hb2]
    refine callP (c_impl_CompileClauses n r3.1 r3.2.1 r3.2.2.1 r3.2.2.2 _ hr4) (by simp [hb2]) (by simp) (fun q142 hq142 => ?_)
    subst hq142
    simp [hb2]
    refine hK _ ?_
    refine TrD.seq ?_
    obtain ⟨r5, hr5, h⟩ := bindE h
    refine TrD.regK tysOk (fun K hK => ?_)
    simp [hb2]
    refine callP (c_spec_CompileClauses n r3.1 r3.2.1 r3.2.2.1 r3.2.2.2 _ hr5) (by simp [hb2]) (by simp) (fun q141 hq141 => ?_)
    subst hq141
    simp [hb2]
    refine hK _ ?_
    refine TrD.seq ?_
    obtain ⟨x6, hx6, h⟩ := bindE h
    have hx6_r := (app_some hx6).2
    try simp only [List.length_append, List.length_cons, List.length_nil, List.length_map, Nat.zero_add, Nat.add_zero, Nat.reduceAdd, one_add_len, two_add_len] at hx6_r
    refine TrD.regK tysOk (fun K hK => ?_)
    simp [hb2, hx6_r, (app_some hx6).1]
    refine hK _ ?_
    refine TrD.seq ?_
    refine TrD.ghost (σ' := ⟨(updD (updD (updD (updD (updD (updD (updD (updD (fun _ => .any) 3 (.slice 2 (List.map rGData r3.1))) 4 (.ptr 2 0 0 0)) 6 (eI r3.2.2.2)) 7 (.ptr 6 1 0 0)) 8 (eB r4.2)) 9 (.ptr 6 2 0 0)) 10 (eB r5.2)) 11 (.sl 9 3 (x6).length)), hOfO [some ⟨2, [(rGType r3.2.1)], 0, 0x0019⟩, some ⟨6, [(rGTree r4.1)], 0, 0x0045⟩, some ⟨6, [(rGTree r5.1)], 0, 0x0045⟩, some ⟨9, (List.map rGClause x6), 0, 0x002d⟩], 4, 108⟩) ?_ ?_
    · exact Ghost.canonV 0 [88, 192, 280, 336] _ _ hβ (keep_first (by decide)) (by decide) (vT_upd (v_of (d0 := (.sl 9 336 (x6).length)) (by simp [hb2, hx6_r, (app_some hx6).1]) (v_sl rfl)) (vT_upd (v_of (d0 := (eB r5.2)) (by simp [hb2, hx6_r, (app_some hx6).1]) (v_free (by simp) (by simp [hb2, hx6_r, (app_some hx6).1]))) (vT_upd (v_of (d0 := (.ptr 6 280 0 0)) (by simp [hb2, hx6_r, (app_some hx6).1]) (v_ptr rfl)) (vT_upd (v_of (d0 := (eB r4.2)) (by simp [hb2, hx6_r, (app_some hx6).1]) (v_free (by simp) (by simp [hb2, hx6_r, (app_some hx6).1]))) (vT_upd (v_of (d0 := (.ptr 6 192 0 0)) (by simp [hb2, hx6_r, (app_some hx6).1]) (v_ptr rfl)) (vT_upd (v_of (d0 := (eI r3.2.2.2)) (by simp [hb2, hx6_r, (app_some hx6).1]) (v_free (by simp) (by simp [hb2, hx6_r, (app_some hx6).1]))) (vT_upd (v_of (d0 := (.ptr 2 88 0 0)) (by simp [hb2, hx6_r, (app_some hx6).1]) (v_ptr rfl)) (vT_upd (v_of (d0 := (.slice 2 (List.map rGData r3.1))) (by simp [hb2, hx6_r, (app_some hx6).1]) (v_free (by simp) (by simp [hb2, hx6_r, (app_some hx6).1]))) (vT_any _))))))))) (.cons (lv (L := ⟨2, [(rGType r3.2.1)], 0, 0x0019⟩) (by simp [hb2, hx6_r, (app_some hx6).1]) rfl rfl (by simp [hb2, hx6_r, (app_some hx6).1]) (rv_free (by simp [hb2, hx6_r, (app_some hx6).1]) (by simp))) (.cons (lv (L := ⟨6, [(rGTree r4.1)], 0, 0x0045⟩) (by simp [hb2, hx6_r, (app_some hx6).1]) rfl rfl (by simp [hb2, hx6_r, (app_some hx6).1]) (rv_free (by simp [hb2, hx6_r, (app_some hx6).1]) (by simp))) (.cons (lv (L := ⟨6, [(rGTree r5.1)], 0, 0x0045⟩) (by simp [hb2, hx6_r, (app_some hx6).1]) rfl rfl (by simp [hb2, hx6_r, (app_some hx6).1]) (rv_free (by simp [hb2, hx6_r, (app_some hx6).1]) (by simp))) (.cons (lv (L := ⟨9, ([(eI 1), (eI 0), (eI 0), (eI 0), (eI 0), .nil, (eI 0), (eI 0), (eI 0)] :: List.map rGClause r3.2.2.1), 0, 0x002d⟩) (by simp [hb2, hx6_r, (app_some hx6).1]) rfl rfl (by simp [hb2, hx6_r, (app_some hx6).1]) (rv_heads (ex := [(GClause.mk (GPattern.mk 1 0 0 0 0 []) (GGuard.mk 0 0 0))]) (rows1 := [[(eI 1), (eI 0), (eI 0), (eI 0), (eI 0), .nil, (eI 0), (eI 0), (eI 0)]]) (app_some hx6).1 (rv_consr (rGClause_eq _) (.cons (v_free (by simp) (by simp [hb2, hx6_r, (app_some hx6).1])) (.cons (v_free (by simp) (by simp [hb2, hx6_r, (app_some hx6).1])) (.cons (v_free (by simp) (by simp [hb2, hx6_r, (app_some hx6).1])) (.cons (v_free (by simp) (by simp [hb2, hx6_r, (app_some hx6).1])) (.cons (v_free (by simp) (by simp [hb2, hx6_r, (app_some hx6).1])) (.cons (v_free (by simp) (by simp [hb2, hx6_r, (app_some hx6).1])) (.cons (v_free (by simp) (by simp [hb2, hx6_r, (app_some hx6).1])) (.cons (v_free (by simp) (by simp [hb2, hx6_r, (app_some hx6).1])) (.cons (v_free (by simp) (by simp [hb2, hx6_r, (app_some hx6).1])) .nil))))))))) rv_nil) (free_rows_of fr_GClause _))) .nil))))
    obtain ⟨r7, hr7, h⟩ := bindE h
    refine TrD.regK tysOk (fun K hK => ?_)
    simp [hb2, hx6_r]
    refine callV (.cons (.same _ _) (.cons (.same _ _) (.cons (.sl _ _ _ _ _ (by simp; rfl) rfl (by simp [hb2, hx6_r]) (by simp)) (.cons (.same _ _) (.nil _))))) (c_impl_CompileClauses n r3.1 r3.2.1 x6 r3.2.2.2 _ hr7) (by simp [hb2, hx6_r]) (by simp) (fun q140 hq140 => ?_)
    subst hq140
    simp [hb2, hx6_r]
    refine hK _ ?_
    refine TrD.seq ?_
    obtain ⟨r8, hr8, h⟩ := bindE h
    refine TrD.regK tysOk (fun K hK => ?_)
    simp [hb2, hx6_r]
    refine callP (c_impl_CompileClauses n r3.1 r3.2.1 [] r3.2.2.2 _ hr8) (by simp [hb2, hx6_r]) (by simp) (fun q139 hq139 => ?_)
    subst hq139
    simp [hb2, hx6_r]
    refine hK _ ?_
    refine TrD.seq ?_
    refine TrD.seq ?_
    rcases Bool.eq_false_or_eq_true (!(r4.2 == r5.2)) with hb91 | hb91
    · rw [if_pos hb91] at h
      refine TrD.regK tysOk (fun K hK => ?_)
      simp [hb2, hx6_r, hb91]
      refine hK _ ?_
      refine TrD.cond (b := true) (by simp [hb2, hx6_r, hb91]) (fun hb => ?_) (fun hb => by cases hb)
      refine TrD.seq ?_
      rcases Bool.eq_false_or_eq_true (r4.2 == r5.2) with hb95 | hb95
      · rw [if_pos hb95] at h
        obtain ⟨r96, hr96, h⟩ := bindE h
        refine TrD.regK tysOk (fun K hK => ?_)
        simp [hb2, hx6_r, hb91, hb95]
        refine callP (c_laws_ptTree n r4.1 r5.1 _ hr96) (by simp [hb2, hx6_r, hb91, hb95]) (by simp) (fun q97 hq97 => ?_)
        subst hq97
        simp [hb2, hx6_r, hb91, hb95]
        refine hK _ ?_
        obtain rfl := Option.some.inj h
        refine TrD.ret ?_
        refine exitDG (σ' := ⟨(updD (fun _ => .any) 2 (eB r96)), hOfO [], 0, 108⟩) ?_ ?_
        · exact Ghost.canonV 0 [] _ _ hβ (keep_first (by decide)) (by decide) (vT_upd (v_of (d0 := (eB r96)) (by simp [hb2, hx6_r, hb91, hb95]) (v_free (by simp) (by simp [hb2, hx6_r, hb91, hb95]))) (vT_any _)) .nil
        · dsimp only [resD]
          refine endF ?_ ?_ <;> simp [packD]
      · rw [if_neg (ne_true_of hb95)] at h
        refine TrD.regK tysOk (fun K hK => ?_)
        simp [hb2, hx6_r, hb91, hb95]
        refine hK _ ?_
        obtain rfl := Option.some.inj h
        refine TrD.ret ?_
        refine exitDG (σ' := ⟨(updD (fun _ => .any) 2 (eB false)), hOfO [], 0, 108⟩) ?_ ?_
        · exact Ghost.canonV 0 [] _ _ hβ (keep_first (by decide)) (by decide) (vT_upd (v_of (d0 := (eB false)) (by simp [hb2, hx6_r, hb91, hb95]) (v_free (by simp) (by simp [hb2, hx6_r, hb91, hb95]))) (vT_any _)) .nil
        · dsimp only [resD]
          refine endF ?_ ?_ <;> simp [packD]
    · rw [if_neg (ne_true_of hb91)] at h
      obtain ⟨r98, hr98, h⟩ := bindE h
      rcases Bool.eq_false_or_eq_true (!r98) with hb99 | hb99
      · rw [if_pos hb99] at h
        refine TrD.regK tysOk (fun K hK => ?_)
        simp [hb2, hx6_r, hb91, hb99]
        refine callP (c_laws_ptTree n r4.1 r5.1 _ hr98) (by simp [hb2, hx6_r, hb91, hb99]) (by simp) (fun q106 hq106 => ?_)
        subst hq106
        simp [hb2, hx6_r, hb91, hb99]
        refine hK _ ?_
        refine TrD.cond (b := true) (by simp [hb2, hx6_r, hb91, hb99]) (fun hb => ?_) (fun hb => by cases hb)
        refine TrD.seq ?_
        rcases Bool.eq_false_or_eq_true (r4.2 == r5.2) with hb103 | hb103
        · rw [if_pos hb103] at h
          obtain ⟨r104, hr104, h⟩ := bindE h
          refine TrD.regK tysOk (fun K hK => ?_)
          simp [hb2, hx6_r, hb91, hb99, hb103]
          refine callP (c_laws_ptTree n r4.1 r5.1 _ hr104) (by simp [hb2, hx6_r, hb91, hb99, hb103]) (by simp) (fun q105 hq105 => ?_)
          subst hq105
          simp [hb2, hx6_r, hb91, hb99, hb103]
          refine hK _ ?_
          obtain rfl := Option.some.inj h
          refine TrD.ret ?_
          refine exitDG (σ' := ⟨(updD (fun _ => .any) 2 (eB r104)), hOfO [], 0, 108⟩) ?_ ?_
          · exact Ghost.canonV 0 [] _ _ hβ (keep_first (by decide)) (by decide) (vT_upd (v_of (d0 := (eB r104)) (by simp [hb2, hx6_r, hb91, hb99, hb103]) (v_free (by simp) (by simp [hb2, hx6_r, hb91, hb99, hb103]))) (vT_any _)) .nil
          · dsimp only [resD]
            refine endF ?_ ?_ <;> simp [packD]
        · rw [if_neg (ne_true_of hb103)] at h
          refine TrD.regK tysOk (fun K hK => ?_)
          simp [hb2, hx6_r, hb91, hb99, hb103]
          refine hK _ ?_
          obtain rfl := Option.some.inj h
          refine TrD.ret ?_
          refine exitDG (σ' := ⟨(updD (fun _ => .any) 2 (eB false)), hOfO [], 0, 108⟩) ?_ ?_
          · exact Ghost.canonV 0 [] _ _ hβ (keep_first (by decide)) (by decide) (vT_upd (v_of (d0 := (eB false)) (by simp [hb2, hx6_r, hb91, hb99, hb103]) (v_free (by simp) (by simp [hb2, hx6_r, hb91, hb99, hb103]))) (vT_any _)) .nil
          · dsimp only [resD]
            refine endF ?_ ?_ <;> simp [packD]
      · rw [if_neg (ne_true_of hb99)] at h
        refine TrD.regK tysOk (fun K hK => ?_)
        simp [hb2, hx6_r, hb91, hb99]
        refine callP (c_laws_ptTree n r4.1 r5.1 _ hr98) (by simp [hb2, hx6_r, hb91, hb99]) (by simp) (fun q138 hq138 => ?_)
        subst hq138
        simp [hb2, hx6_r, hb91, hb99]
        refine hK _ ?_
        refine TrD.cond (b := (!r4.2)) (by simp [hb2, hx6_r, hb91, hb99]) (fun hb107 => ?_) (fun hb107 => ?_)
        · rw [if_pos hb107] at h
          refine TrD.seq ?_
          rcases Bool.eq_false_or_eq_true (r4.2 == r5.2) with hb111 | hb111
          · rw [if_pos hb111] at h
            obtain ⟨r112, hr112, h⟩ := bindE h
            refine TrD.regK tysOk (fun K hK => ?_)
            simp [hb2, hx6_r, hb91, hb99, hb107, hb111]
            refine callP (c_laws_ptTree n r4.1 r5.1 _ hr112) (by simp [hb2, hx6_r, hb91, hb99, hb107, hb111]) (by simp) (fun q113 hq113 => ?_)
            subst hq113
            simp [hb2, hx6_r, hb91, hb99, hb107, hb111]
            refine hK _ ?_
            obtain rfl := Option.some.inj h
            refine TrD.ret ?_
            refine exitDG (σ' := ⟨(updD (fun _ => .any) 2 (eB r112)), hOfO [], 0, 108⟩) ?_ ?_
            · exact Ghost.canonV 0 [] _ _ hβ (keep_first (by decide)) (by decide) (vT_upd (v_of (d0 := (eB r112)) (by simp [hb2, hx6_r, hb91, hb99, hb107, hb111]) (v_free (by simp) (by simp [hb2, hx6_r, hb91, hb99, hb107, hb111]))) (vT_any _)) .nil
            · dsimp only [resD]
              refine endF ?_ ?_ <;> simp [packD]
          · rw [if_neg (ne_true_of hb111)] at h
            refine TrD.regK tysOk (fun K hK => ?_)
            simp [hb2, hx6_r, hb91, hb99, hb107, hb111]
            refine hK _ ?_
            obtain rfl := Option.some.inj h
            refine TrD.ret ?_
            refine exitDG (σ' := ⟨(updD (fun _ => .any) 2 (eB false)), hOfO [], 0, 108⟩) ?_ ?_
            · exact Ghost.canonV 0 [] _ _ hβ (keep_first (by decide)) (by decide) (vT_upd (v_of (d0 := (eB false)) (by simp [hb2, hx6_r, hb91, hb99, hb107, hb111]) (v_free (by simp) (by simp [hb2, hx6_r, hb91, hb99, hb107, hb111]))) (vT_any _)) .nil
            · dsimp only [resD]
              refine endF ?_ ?_ <;> simp [packD]
        · rw [if_neg (ne_true_of hb107)] at h
          refine TrD.skip ?_
          refine TrD.seq ?_
          rcases Bool.eq_false_or_eq_true r8.2 with hb126 | hb126
          · rw [if_pos hb126] at h
            rcases Bool.eq_false_or_eq_true (ieq r8.1.op 0) with hb127 | hb127
            · rw [if_pos hb127] at h
              obtain ⟨r128, hr128, h⟩ := bindE h
              rcases Bool.eq_false_or_eq_true (ieq r128 1) with hb129 | hb129
              · rw [if_pos hb129] at h
                rcases Bool.eq_false_or_eq_true (!r7.2) with hb130 | hb130
                · rw [if_pos hb130] at h
                  refine TrD.regK tysOk (fun K hK => ?_)
                  simp [hb2, hx6_r, hb91, hb99, hb107, hb126, hb127, hb129, hb130]
                  refine callP (c_impl_TreeSize n r8.1 _ hr128) (by simp [hb2, hx6_r, hb91, hb99, hb107, hb126, hb127, hb129, hb130]) (by simp) (fun q131 hq131 => ?_)
                  subst hq131
                  simp [hb2, hx6_r, hb91, hb99, hb107, hb126, hb127, hb129, hb130]
                  refine hK _ ?_
                  obtain rfl := Option.some.inj h
                  refine TrD.ret ?_
                  refine exitDG (σ' := ⟨(updD (fun _ => .any) 2 (eB true)), hOfO [], 0, 108⟩) ?_ ?_
                  · exact Ghost.canonV 0 [] _ _ hβ (keep_first (by decide)) (by decide) (vT_upd (v_of (d0 := (eB true)) (by simp [hb2, hx6_r, hb91, hb99, hb107, hb126, hb127, hb129, hb130]) (v_free (by simp) (by simp [hb2, hx6_r, hb91, hb99, hb107, hb126, hb127, hb129, hb130]))) (vT_any _)) .nil
                  · dsimp only [resD]
                    refine endF ?_ ?_ <;> simp [packD]
                · rw [if_neg (ne_true_of hb130)] at h
                  rcases Bool.eq_false_or_eq_true (ieq r7.1.op 1) with hb132 | hb132
                  · rw [if_pos hb132] at h
                    obtain ⟨r133, hr133, h⟩ := bindE h
                    refine TrD.regK tysOk (fun K hK => ?_)
                    simp [hb2, hx6_r, hb91, hb99, hb107, hb126, hb127, hb129, hb130, hb132]
                    refine callP (c_impl_TreeSize n r8.1 _ hr128) (by simp [hb2, hx6_r, hb91, hb99, hb107, hb126, hb127, hb129, hb130, hb132]) (by simp) (fun q134 hq134 => ?_)
                    subst hq134
                    simp [hb2, hx6_r, hb91, hb99, hb107, hb126, hb127, hb129, hb130, hb132]
                    refine callP (c_impl_TreeTests n r7.1 _ hr133) (by simp [hb2, hx6_r, hb91, hb99, hb107, hb126, hb127, hb129, hb130, hb132]) (by simp) (fun q135 hq135 => ?_)
                    subst hq135
                    simp [hb2, hx6_r, hb91, hb99, hb107, hb126, hb127, hb129, hb130, hb132]
                    refine hK _ ?_
                    obtain rfl := Option.some.inj h
                    refine TrD.ret ?_
                    refine exitDG (σ' := ⟨(updD (fun _ => .any) 2 (eB (ieq r133 0))), hOfO [], 0, 108⟩) ?_ ?_
                    · exact Ghost.canonV 0 [] _ _ hβ (keep_first (by decide)) (by decide) (vT_upd (v_of (d0 := (eB (ieq r133 0))) (by simp [hb2, hx6_r, hb91, hb99, hb107, hb126, hb127, hb129, hb130, hb132]) (v_free (by simp) (by simp [hb2, hx6_r, hb91, hb99, hb107, hb126, hb127, hb129, hb130, hb132]))) (vT_any _)) .nil
                    · dsimp only [resD]
                      refine endF ?_ ?_ <;> simp [packD]
                  · rw [if_neg (ne_true_of hb132)] at h
                    refine TrD.regK tysOk (fun K hK => ?_)
                    simp [hb2, hx6_r, hb91, hb99, hb107, hb126, hb127, hb129, hb130, hb132]
                    refine callP (c_impl_TreeSize n r8.1 _ hr128) (by simp [hb2, hx6_r, hb91, hb99, hb107, hb126, hb127, hb129, hb130, hb132]) (by simp) (fun q136 hq136 => ?_)
                    subst hq136
                    simp [hb2, hx6_r, hb91, hb99, hb107, hb126, hb127, hb129, hb130, hb132]
                    refine hK _ ?_
                    obtain rfl := Option.some.inj h
                    refine TrD.ret ?_
                    refine exitDG (σ' := ⟨(updD (fun _ => .any) 2 (eB false)), hOfO [], 0, 108⟩) ?_ ?_
                    · exact Ghost.canonV 0 [] _ _ hβ (keep_first (by decide)) (by decide) (vT_upd (v_of (d0 := (eB false)) (by simp [hb2, hx6_r, hb91, hb99, hb107, hb126, hb127, hb129, hb130, hb132]) (v_free (by simp) (by simp [hb2, hx6_r, hb91, hb99, hb107, hb126, hb127, hb129, hb130, hb132]))) (vT_any _)) .nil
                    · dsimp only [resD]
                      refine endF ?_ ?_ <;> simp [packD]
              · rw [if_neg (ne_true_of hb129)] at h
                refine TrD.regK tysOk (fun K hK => ?_)
                simp [hb2, hx6_r, hb91, hb99, hb107, hb126, hb127, hb129]
                refine callP (c_impl_TreeSize n r8.1 _ hr128) (by simp [hb2, hx6_r, hb91, hb99, hb107, hb126, hb127, hb129]) (by simp) (fun q137 hq137 => ?_)
                subst hq137
                simp [hb2, hx6_r, hb91, hb99, hb107, hb126, hb127, hb129]
                refine hK _ ?_
                obtain rfl := Option.some.inj h
                refine TrD.ret ?_
                refine exitDG (σ' := ⟨(updD (fun _ => .any) 2 (eB false)), hOfO [], 0, 108⟩) ?_ ?_
                · exact Ghost.canonV 0 [] _ _ hβ (keep_first (by decide)) (by decide) (vT_upd (v_of (d0 := (eB false)) (by simp [hb2, hx6_r, hb91, hb99, hb107, hb126, hb127, hb129]) (v_free (by simp) (by simp [hb2, hx6_r, hb91, hb99, hb107, hb126, hb127, hb129]))) (vT_any _)) .nil
                · dsimp only [resD]
                  refine endF ?_ ?_ <;> simp [packD]
            · rw [if_neg (ne_true_of hb127)] at h
              refine TrD.regK tysOk (fun K hK => ?_)
              simp [hb2, hx6_r, hb91, hb99, hb107, hb126, hb127]
              refine hK _ ?_
              obtain rfl := Option.some.inj h
              refine TrD.ret ?_
              refine exitDG (σ' := ⟨(updD (fun _ => .any) 2 (eB false)), hOfO [], 0, 108⟩) ?_ ?_
              · exact Ghost.canonV 0 [] _ _ hβ (keep_first (by decide)) (by decide) (vT_upd (v_of (d0 := (eB false)) (by simp [hb2, hx6_r, hb91, hb99, hb107, hb126, hb127]) (v_free (by simp) (by simp [hb2, hx6_r, hb91, hb99, hb107, hb126, hb127]))) (vT_any _)) .nil
              · dsimp only [resD]
                refine endF ?_ ?_ <;> simp [packD]
          · rw [if_neg (ne_true_of hb126)] at h
            refine TrD.regK tysOk (fun K hK => ?_)
            simp [hb2, hx6_r, hb91, hb99, hb107, hb126]
            refine hK _ ?_
            obtain rfl := Option.some.inj h
            refine TrD.ret ?_
            refine exitDG (σ' := ⟨(updD (fun _ => .any) 2 (eB false)), hOfO [], 0, 108⟩) ?_ ?_
            · exact Ghost.canonV 0 [] _ _ hβ (keep_first (by decide)) (by decide) (vT_upd (v_of (d0 := (eB false)) (by simp [hb2, hx6_r, hb91, hb99, hb107, hb126]) (v_free (by simp) (by simp [hb2, hx6_r, hb91, hb99, hb107, hb126]))) (vT_any _)) .nil
            · dsimp only [resD]
              refine endF ?_ ?_ <;> simp [packD]
instance i_laws_FnTreeEmpty : ∀ (n : Nat) (p0 : (List Int)), Ct (m_laws_FnTreeEmpty n p0) fun res => CallsD Tryz.prog 0o00007 [(.slice 1 (List.map (rK .u8) p0))] (fun d => d = (eB res)) := fun n p0 => ⟨c_laws_FnTreeEmpty n p0⟩
end Go.Proofs.YtmkamncbkkahjaaGreat
