import Derived.Test.YtmkamncbkkahjaaGreatJMir
import Derived.Test.YtmkamncbkkahjaaGreatJAuI
import Derived.Test.YtmkamncbkkahjaaGreatJC7
import Derived.Test.YtmkamncbkkahjaaGreatJAuto
import Derived.Test.YtmkamncbkkahjaaGreatJC1
import Derived.Test.YtmkamncbkkahjaaGreatJC2
set_option linter.unusedSimpArgs false
set_option linter.unusedVariables false
set_option linter.unusedSimpArgs false
set_option linter.unusedVariables false
namespace Go.Proofs.YtmkamncbkkahjaaGreat
open Go Go.RowKit
set_option maxRecDepth 100000
set_option maxHeartbeats 20000000
set_option maxRecDepth 100000 in
set_option maxHeartbeats 20000000 in
theorem c_spec_l3Split : ∀ (n : Nat) (p0 : GPattern) (res : (List GPattern)), m_spec_l3Split n p0 = some res → CallsH Tryz.prog 0o00136 [] [(.agg (rGPattern p0))] (fun H d => H = [some ⟨6, List.map rGPattern res, 0, 0x0029⟩] ∧ d = .sl 6 0 res.length) := by
  intro n
  induction n with
  | zero => intro p0 res h; cases h
  | succ n ih =>
    intro p0 res h
    rw [m_spec_l3Split.eq_2] at h
    refine CallsH.of (res := [.tmp 2]) tysOk Tryz.func94 (by decide) rfl (Nat.le_of_ble_eq_true rfl) rfl rfl (fun β hβ => ?_)
    refine TrD.seq ?_
    refine TrD.regK tysOk (fun K hK => ?_)
    simp
    refine hK _ ?_
    refine TrD.seq ?_
    refine TrD.seq ?_
    refine TrD.regK tysOk (fun K hK => ?_)
    simp
    refine hK _ ?_
    refine TrD.cond (b := ieq p0.op 5) (by simp) (fun hb13 => ?_) (fun hb13 => ?_)
    · rw [if_pos hb13] at h
      refine TrD.seq ?_
      refine TrD.ghost (σ' := ⟨(updD (fun _ => .any) 1 (.ptr 6 0 0 0)), hOfO [some ⟨6, [(rGPattern p0)], 0, 0x0029⟩], 1, 67⟩) ?_ ?_
      · exact Ghost.canonV 0 [0] _ _ hβ (keep_first (by decide)) (by decide) (vT_upd (v_of (d0 := (.ptr 6 0 0 0)) (by simp [hb13]) (v_ptr rfl)) (vT_any _)) (.cons (lv (L := ⟨6, [(rGPattern p0)], 0, 0x0029⟩) (by simp [hb13]) rfl rfl (by simp [hb13]) (rv_free (by simp [hb13]) (by simp))) .nil)
      obtain ⟨x14, hx14, h⟩ := bindE h
      obtain ⟨x15, hx15, h⟩ := bindE h
      obtain ⟨r16, hr16, h⟩ := bindE h
      obtain ⟨r17, hr17, h⟩ := bindE h
      obtain ⟨x18, hx18, h⟩ := bindE h
      have hx18_r := (app_some hx18).2
      try simp only [List.length_append, List.length_cons, List.length_nil, List.length_map, Nat.zero_add, Nat.add_zero, Nat.reduceAdd, one_add_len, two_add_len] at hx18_r
      refine TrD.draw tysOk mixed [0, 1, 2, 3, 5, 6, 7, 8, 4, 9, 10, 11] [0] [] (by rfl) rfl (fun K hK => ?_)
      simp [hb13, idx_inb hx14, idx_row hx14, idx_inb hx15, idx_row hx15, hx18_r, (app_some hx18).1]
      refine callK (views_same _ _) (.same _ _) [] (ih x14 _ hr16) (by decide) .nil (.cons (ren_le (by simp) (by simp [hb13, idx_inb hx14, idx_row hx14, idx_inb hx15, idx_row hx15, hx18_r, (app_some hx18).1])) .nil) (fun Hq23 qq23 hq23 => ?_)
      obtain ⟨rfl, rfl⟩ := hq23
      refine ⟨by simp, [some ⟨6, (List.map rGPattern r16), 0, 0x0029⟩], (.sl 6 2 (r16).length), (.cons (optRen_same (by simp)) .nil), (ren_sl (by rfl)), ?_⟩
      simp [setMany, newNames, hb13, idx_inb hx14, idx_row hx14, idx_inb hx15, idx_row hx15, hx18_r, (app_some hx18).1]
      refine callK (views_same _ _) (.same _ _) [] (ih x15 _ hr17) (by decide) .nil (.cons (ren_le (by simp) (by simp [hb13, idx_inb hx14, idx_row hx14, idx_inb hx15, idx_row hx15, hx18_r, (app_some hx18).1])) .nil) (fun Hq24 qq24 hq24 => ?_)
      obtain ⟨rfl, rfl⟩ := hq24
      refine ⟨by simp, [some ⟨6, (List.map rGPattern r17), 0, 0x0029⟩], (.sl 6 10 (r17).length), (.cons (optRen_same (by simp)) .nil), (ren_sl (by rfl)), ?_⟩
      simp [setMany, newNames, hb13, idx_inb hx14, idx_row hx14, idx_inb hx15, idx_row hx15, hx18_r, (app_some hx18).1]
      refine hK _ ?_
      refine TrD.seq ?_
      refine TrD.seq ?_
      refine TrD.regK tysOk (fun K hK => ?_)
      simp [hb13, idx_inb hx14, idx_row hx14, idx_inb hx15, idx_row hx15, hx18_r, (app_some hx18).1]
      refine hK _ ?_
      refine TrD.cond (b := ilt 401 (lenZ x18.length)) (by simp [hb13, idx_inb hx14, idx_row hx14, idx_inb hx15, idx_row hx15, hx18_r, (app_some hx18).1]) (fun hb21 => ?_) (fun hb21 => ?_)
      · rw [if_pos hb21] at h
        refine TrD.seq ?_
        refine TrD.ghost (σ' := ⟨(updD (fun _ => .any) 3 (.sl 6 0 (x18).length)), hOfO [some ⟨6, (List.map rGPattern x18), 0, 0x0029⟩], 1, 67⟩) ?_ ?_
        · exact Ghost.canonV 0 [17] _ _ hβ (keep_first (by decide)) (by decide) (vT_upd (v_of (d0 := (.sl 6 17 (x18).length)) (by simp [hb13, idx_inb hx14, idx_row hx14, idx_inb hx15, idx_row hx15, hx18_r, (app_some hx18).1, hb21]) (v_sl rfl)) (vT_any _)) (.cons (lv (L := ⟨6, (List.map rGPattern x18), 0, 0x0029⟩) (by simp [hb13, idx_inb hx14, idx_row hx14, idx_inb hx15, idx_row hx15, hx18_r, (app_some hx18).1, hb21]) rfl rfl (by simp [hb13, idx_inb hx14, idx_row hx14, idx_inb hx15, idx_row hx15, hx18_r, (app_some hx18).1, hb21]) (rv_free (by simp [hb13, idx_inb hx14, idx_row hx14, idx_inb hx15, idx_row hx15, hx18_r, (app_some hx18).1, hb21]) (free_rows_of fr_GPattern _))) .nil)
        obtain ⟨x22, hx22, h⟩ := bindE h
        refine TrD.regK tysOk (fun K hK => ?_)
        simp [hb13, idx_inb hx14, idx_row hx14, idx_inb hx15, idx_row hx15, hx18_r, hb21, (takeI_some hx22).2, takeI_len hx22, takeI_take hx22, takeI_takeL hx22]
        refine hK _ ?_
        obtain rfl := Option.some.inj h
        refine TrD.ret ?_
        refine exitHG (σ' := ⟨(updD (fun _ => .any) 2 (.sl 6 0 (x22).length)), hOfO [some ⟨6, (List.map rGPattern x22), 0, 0x0029⟩], 1, 67⟩) ?_ ?_
        · refine (Ghost.shrink (rows' := List.map rGPattern x22) 0 (401 : Int).toNat (by simp [hb13, idx_inb hx14, idx_row hx14, idx_inb hx15, idx_row hx15, hx18_r, hb21, (takeI_some hx22).2, takeI_len hx22, takeI_take hx22, takeI_takeL hx22]; rfl) (takeI_take hx22).symm (by simp) (by simp)).trans ?_
          exact Ghost.canonV 0 [0] _ _ hβ (keep_first (by decide)) (by decide) (vT_upd (v_of (d0 := (.sl 6 0 (x22).length)) (by simp [hb13, idx_inb hx14, idx_row hx14, idx_inb hx15, idx_row hx15, hx18_r, hb21, (takeI_some hx22).2, takeI_len hx22, takeI_take hx22, takeI_takeL hx22]) (v_sl rfl)) (vT_any _)) (.cons (lv (L := ⟨6, (List.map rGPattern x22), 0, 0x0029⟩) (by simp [hb13, idx_inb hx14, idx_row hx14, idx_inb hx15, idx_row hx15, hx18_r, hb21, (takeI_some hx22).2, takeI_len hx22, takeI_take hx22, takeI_takeL hx22]) rfl rfl (by simp [hb13, idx_inb hx14, idx_row hx14, idx_inb hx15, idx_row hx15, hx18_r, hb21, (takeI_some hx22).2, takeI_len hx22, takeI_take hx22, takeI_takeL hx22]) (rv_free (by simp [hb13, idx_inb hx14, idx_row hx14, idx_inb hx15, idx_row hx15, hx18_r, hb21, (takeI_some hx22).2, takeI_len hx22, takeI_take hx22, takeI_takeL hx22]) (free_rows_of fr_GPattern _))) .nil)
        · dsimp only [resD]
          exact ⟨[some ⟨6, (List.map rGPattern x22), 0, 0x0029⟩], [], rfl, by simp, by simp, .inl rfl, by simp [packD]⟩
      · rw [if_neg (ne_true_of hb21)] at h
        refine TrD.skip ?_
        refine TrD.seq ?_
        refine TrD.regK tysOk (fun K hK => ?_)
        simp [hb13, idx_inb hx14, idx_row hx14, idx_inb hx15, idx_row hx15, hx18_r, (app_some hx18).1, hb21]
        refine hK _ ?_
        obtain rfl := Option.some.inj h
        refine TrD.ret ?_
        refine exitHG (σ' := ⟨(updD (fun _ => .any) 2 (.sl 6 0 (x18).length)), hOfO [some ⟨6, (List.map rGPattern x18), 0, 0x0029⟩], 1, 67⟩) ?_ ?_
        · exact Ghost.canonV 0 [17] _ _ hβ (keep_first (by decide)) (by decide) (vT_upd (v_of (d0 := (.sl 6 17 (x18).length)) (by simp [hb13, idx_inb hx14, idx_row hx14, idx_inb hx15, idx_row hx15, hx18_r, (app_some hx18).1, hb21]) (v_sl rfl)) (vT_any _)) (.cons (lv (L := ⟨6, (List.map rGPattern x18), 0, 0x0029⟩) (by simp [hb13, idx_inb hx14, idx_row hx14, idx_inb hx15, idx_row hx15, hx18_r, (app_some hx18).1, hb21]) rfl rfl (by simp [hb13, idx_inb hx14, idx_row hx14, idx_inb hx15, idx_row hx15, hx18_r, (app_some hx18).1, hb21]) (rv_free (by simp [hb13, idx_inb hx14, idx_row hx14, idx_inb hx15, idx_row hx15, hx18_r, (app_some hx18).1, hb21]) (free_rows_of fr_GPattern _))) .nil)
        · dsimp only [resD]
          exact ⟨[some ⟨6, (List.map rGPattern x18), 0, 0x0029⟩], [], rfl, by simp, by simp, .inl rfl, by simp [packD]⟩
    · rw [if_neg (ne_true_of hb13)] at h
      refine TrD.skip ?_
      refine TrD.seq ?_
      refine TrD.regK tysOk (fun K hK => ?_)
      simp [hb13]
      refine hK _ ?_
      refine TrD.seq ?_
      refine TrD.seq ?_
      refine TrD.regK tysOk (fun K hK => ?_)
      simp [hb13]
      refine hK _ ?_
      obtain ⟨o87, g89, h⟩ := bindE h
      obtain ⟨E91, hE91⟩ : ∃ S : (List (List GPattern)) → St, S = fun s98 => ⟨(updD (updD (fun _ => .any) 1 (.ptr 6 0 0 0)) 4 (.sl 1 1 (s98).length)), hOfO [some ⟨6, [(rGPattern p0)], 0, 0x0029⟩, some ⟨1, (List.map (rL 6 rGPattern) s98), 0, 0x0027⟩], 2, 67⟩ := ⟨_, rfl⟩
      refine TrD.joinQ E91 (fun z => o87 = Ctl.brk z) (fun _ _ hg h => TrD.ghost hg h) ?_ (fun s98 hz => ?_)
      · refine TrD.block ?_
        obtain ⟨S90, hS90⟩ : ∃ S : Nat → (List (List GPattern)) → St, S = fun k94 s88 => ⟨(updD (updD (updD (fun _ => .any) 1 (.ptr 6 0 0 0)) 4 (.sl 1 1 (s88).length)) 5 (eI (k94 : Int))), hOfO [some ⟨6, [(rGPattern p0)], 0, 0x0029⟩, some ⟨1, (List.map (rL 6 rGPattern) s88), 0, 0x0027⟩], 2, 67⟩ := ⟨_, rfl⟩
        refine TrD.limS (sz := 6) (rows := List.map rGPattern p0.kids) (seen_cell (d := .slice 6 (List.map rGPattern p0.kids)) 0 0 5 (by simp [hb13]; rfl) rfl (by simp)) (fun hlim => ?_)
        rw [List.length_map] at hlim
        refine TrD.forL S90 g89 hlim ?_ (fun k94 x95 s88 k94_i k94_g k94_l k94_lt k94_w o96 g97 hret92 hbrk93 => ?_) (fun s88 s88_stop => ?_)
        · rw [hS90]
          exact Ghost.canonV 0 [0, 40] _ _ hβ (keep_first (by decide)) (by decide) (vT_upd (v_of (d0 := (eI 0)) (by simp [hb13]) (v_free (by simp) (by simp [hb13]))) (vT_upd (v_of (d0 := (.sl 1 40 0)) (by simp [hb13]) (v_sl rfl)) (vT_upd (v_of (d0 := (.ptr 6 0 0 0)) (by simp [hb13]) (v_ptr rfl)) (vT_any _)))) (.cons (lv (L := ⟨6, [(rGPattern p0)], 0, 0x0029⟩) (by simp [hb13]) rfl rfl (by simp [hb13]) (rv_free (by simp [hb13]) (by simp))) (.cons (lv (L := ⟨1, (List.map (rL 6 rGPattern) []), 0, 0x0027⟩) (by simp [hb13]) rfl rfl (by simp [hb13]) (rv_free (by simp [hb13]) (by simp))) .nil))
        · rw [congrFun (congrFun hS90 k94) s88]
          refine TrD.seq ?_
          refine TrD.seq ?_
          refine TrD.regK tysOk (fun K hK => ?_)
          simp [hb13, k94_lt, idx_inb k94_i, idx_row k94_i, k94_g, k94_l, elt k94_g]
          refine hK _ ?_
          refine TrD.cond (b := true) (by simp [hb13, k94_lt, idx_inb k94_i, idx_row k94_i, k94_g, k94_l, elt k94_g]) (fun hb => ?_) (fun hb => by cases hb)
          refine TrD.skip ?_
          refine TrD.seq ?_
          refine TrD.block ?_
          obtain ⟨r102, hr102, g97⟩ := bindE g97
          obtain ⟨x103, hx103, g97⟩ := bindE g97
          have hx103_r := (app_some hx103).2
          try simp only [List.length_append, List.length_cons, List.length_nil, List.length_map, Nat.zero_add, Nat.add_zero, Nat.reduceAdd, one_add_len, two_add_len] at hx103_r
          refine TrD.regK tysOk (fun K hK => ?_)
          simp [hb13, k94_lt, idx_inb k94_i, idx_row k94_i, k94_g, k94_l, elt k94_g, hx103_r]
          refine callK (views_same _ _) (.same _ _) [] (ih x95 _ hr102) (by decide) .nil (.cons (ren_le (by simp) (by simp [hb13, k94_lt, idx_inb k94_i, idx_row k94_i, k94_g, k94_l, elt k94_g, hx103_r])) .nil) (fun Hq104 qq104 hq104 => ?_)
          obtain ⟨rfl, rfl⟩ := hq104
          refine ⟨by simp, [some ⟨6, (List.map rGPattern r102), 0, 0x0029⟩], (.sl 6 91 (r102).length), (.cons (optRen_same (by simp)) .nil), (ren_sl (by rfl)), ?_⟩
          simp [setMany, newNames, hb13, k94_lt, idx_inb k94_i, idx_row k94_i, k94_g, k94_l, elt k94_g, hx103_r]
          refine hK _ ?_
          refine TrD.regK tysOk (fun K hK => ?_)
          simp [hb13, k94_lt, idx_inb k94_i, idx_row k94_i, k94_g, k94_l, elt k94_g, hx103_r]
          refine hK _ ?_
          obtain rfl := Option.some.inj g97
          refine ToAny.mk (s88 ++ [r102]) rfl ?_
          rw [hS90]
          refine (Ghost.raise 91 (by simp [hb13, k94_lt, idx_inb k94_i, idx_row k94_i, k94_g, k94_l, elt k94_g, hx103_r, k94_w]; rfl)).trans ?_
          exact Ghost.canonV 0 [0, 106] _ _ hβ (keep_first (by decide)) (by decide) (vT_upd (v_of (d0 := (eI (wadd .i64 (k94 : Int) 1))) (by simp [hb13, k94_lt, idx_inb k94_i, idx_row k94_i, k94_g, k94_l, elt k94_g, hx103_r, k94_w]) (v_free (by simp) (by simp [hb13, k94_lt, idx_inb k94_i, idx_row k94_i, k94_g, k94_l, elt k94_g, hx103_r, k94_w]))) (vT_upd (v_of (d0 := (.sl 1 106 ((s88 ++ [r102])).length)) (by simp [hb13, k94_lt, idx_inb k94_i, idx_row k94_i, k94_g, k94_l, elt k94_g, hx103_r, k94_w]) (v_sl rfl)) (vT_upd (v_of (d0 := (.ptr 6 0 0 0)) (by simp [hb13, k94_lt, idx_inb k94_i, idx_row k94_i, k94_g, k94_l, elt k94_g, hx103_r, k94_w]) (v_ptr rfl)) (vT_any _)))) (.cons (lv (L := ⟨6, [(rGPattern p0)], 0, 0x0029⟩) (by simp [hb13, k94_lt, idx_inb k94_i, idx_row k94_i, k94_g, k94_l, elt k94_g, hx103_r, k94_w]) rfl rfl (by simp [hb13, k94_lt, idx_inb k94_i, idx_row k94_i, k94_g, k94_l, elt k94_g, hx103_r, k94_w]) (rv_free (by simp [hb13, k94_lt, idx_inb k94_i, idx_row k94_i, k94_g, k94_l, elt k94_g, hx103_r, k94_w]) (by simp))) (.cons (lv (L := ⟨1, ((List.map (rL 6 rGPattern) s88) ++ [[(.sl 6 91 (r102).length)]]), 0, 0x0027⟩) (by simp [hb13, k94_lt, idx_inb k94_i, idx_row k94_i, k94_g, k94_l, elt k94_g, hx103_r, k94_w]) rfl rfl (by simp [hb13, k94_lt, idx_inb k94_i, idx_row k94_i, k94_g, k94_l, elt k94_g, hx103_r, k94_w]) (rv_snocr (by simp) (rL_eq _ _ _) (.cons (v_frz (L := ⟨6, (List.map rGPattern r102), (r102).length * 6, 0x0029⟩) (by simp [hb13, k94_lt, idx_inb k94_i, idx_row k94_i, k94_g, k94_l, elt k94_g, hx103_r, k94_w]) rfl (by simp [hb13, k94_lt, idx_inb k94_i, idx_row k94_i, k94_g, k94_l, elt k94_g, hx103_r, k94_w]) (by simp [hb13, k94_lt, idx_inb k94_i, idx_row k94_i, k94_g, k94_l, elt k94_g, hx103_r, k94_w]) (rv_free (by simp [hb13, k94_lt, idx_inb k94_i, idx_row k94_i, k94_g, k94_l, elt k94_g, hx103_r, k94_w]) (free_rows_of fr_GPattern _))) .nil))) .nil))
        · rw [congrFun (congrFun hS90 _) s88]
          refine TrD.seq ?_
          refine TrD.seq ?_
          refine TrD.regK tysOk (fun K hK => ?_)
          simp [hb13, ilt_len p0.kids.length]
          refine hK _ ?_
          refine TrD.cond (b := false) (by simp [hb13, ilt_len p0.kids.length]) (fun hb => by cases hb) (fun hb => ?_)
          refine TrD.exit ?_
          try simp only [↓reduceIte, Nat.reduceEqDiff, Nat.zero_ne_one, Nat.one_ne_zero, OfNat.ofNat_ne_zero, OfNat.zero_ne_ofNat, OfNat.one_ne_ofNat, OfNat.ofNat_ne_one]
          refine ToAny.mk s88 s88_stop ?_
          rw [hE91]
          exact Ghost.canonV 0 [0, 1] _ _ hβ (keep_first (by decide)) (by decide) (vT_upd (v_of (d0 := (.sl 1 1 (s88).length)) (by simp [hb13, ilt_len p0.kids.length]) (v_sl rfl)) (vT_upd (v_of (d0 := (.ptr 6 0 0 0)) (by simp [hb13, ilt_len p0.kids.length]) (v_ptr rfl)) (vT_any _))) (.cons (lv (L := ⟨6, [(rGPattern p0)], 0, 0x0029⟩) (by simp [hb13, ilt_len p0.kids.length]) rfl rfl (by simp [hb13, ilt_len p0.kids.length]) (rv_free (by simp [hb13, ilt_len p0.kids.length]) (by simp))) (.cons (lv (L := ⟨1, (List.map (rL 6 rGPattern) s88), 0, 0x0027⟩) (by simp [hb13, ilt_len p0.kids.length]) rfl rfl (by simp [hb13, ilt_len p0.kids.length]) (rv_free (by simp [hb13, ilt_len p0.kids.length]) (by simp))) .nil))
      · subst hz
        try dsimp only at h
        rw [congrFun hE91 s98]
        refine TrD.seq ?_
        obtain ⟨r105, hr105, h⟩ := bindE h
        refine TrD.regK tysOk (fun K hK => ?_)
        simp [hb13]
        refine callV (.cons (.sl _ _ _ _ _ (by simp; rfl) rfl (by simp [hb13]) (by simp)) (.nil _)) (c_spec_l3Tuples s98 _ hr105) (by simp [hb13]) (by simp) (fun q162 hq162 => ?_)
        subst hq162
        simp [hb13]
        refine hK _ ?_
        refine TrD.seq ?_
        refine TrD.regK tysOk (fun K hK => ?_)
        simp [hb13]
        refine hK _ ?_
        refine TrD.seq ?_
        refine TrD.seq ?_
        refine TrD.regK tysOk (fun K hK => ?_)
        simp [hb13]
        refine hK _ ?_
        obtain ⟨o148, g150, h⟩ := bindE h
        obtain ⟨E152, hE152⟩ : ∃ S : (List GPattern) → St, S = fun s159 => ⟨(updD (fun _ => .any) 7 (.sl 6 0 (s159).length)), hOfO [some ⟨6, (List.map rGPattern s159), 0, 0x0029⟩], 1, 67⟩ := ⟨_, rfl⟩
        refine TrD.joinQ E152 (fun z => o148 = Ctl.brk z) (fun _ _ hg h => TrD.ghost hg h) ?_ (fun s159 hz => ?_)
        · refine TrD.block ?_
          obtain ⟨S151, hS151⟩ : ∃ S : Nat → (List GPattern) → St, S = fun k155 s149 => ⟨(updD (updD (updD (updD (fun _ => .any) 1 (.ptr 6 0 0 0)) 6 (.slice 1 (List.map (rL 6 rGPattern) r105))) 7 (.sl 6 1 (s149).length)) 8 (eI (k155 : Int))), hOfO [some ⟨6, [(rGPattern p0)], 0, 0x0029⟩, some ⟨6, (List.map rGPattern s149), 0, 0x0029⟩], 2, 67⟩ := ⟨_, rfl⟩
          refine TrD.limS (sz := 1) (rows := List.map (rL 6 rGPattern) r105) (seen_slot (d := .slice 1 (List.map (rL 6 rGPattern) r105)) 48 (by simp [hb13])) (fun hlim => ?_)
          rw [List.length_map] at hlim
          refine TrD.forL S151 g150 hlim ?_ (fun k155 x156 s149 k155_i k155_g k155_l k155_lt k155_w o157 g158 hret153 hbrk154 => ?_) (fun s149 s149_stop => ?_)
          · rw [hS151]
            exact Ghost.canonV 0 [0, 26] _ _ hβ (keep_first (by decide)) (by decide) (vT_upd (v_of (d0 := (eI 0)) (by simp [hb13]) (v_free (by simp) (by simp [hb13]))) (vT_upd (v_of (d0 := (.sl 6 26 0)) (by simp [hb13]) (v_sl rfl)) (vT_upd (v_of (d0 := (.slice 1 (List.map (rL 6 rGPattern) r105))) (by simp [hb13]) (v_free (by simp) (by simp [hb13]))) (vT_upd (v_of (d0 := (.ptr 6 0 0 0)) (by simp [hb13]) (v_ptr rfl)) (vT_any _))))) (.cons (lv (L := ⟨6, [(rGPattern p0)], 0, 0x0029⟩) (by simp [hb13]) rfl rfl (by simp [hb13]) (rv_free (by simp [hb13]) (by simp))) (.cons (lv (L := ⟨6, (List.map rGPattern []), 0, 0x0029⟩) (by simp [hb13]) rfl rfl (by simp [hb13]) (rv_free (by simp [hb13]) (free_rows_of fr_GPattern _))) .nil))
          · rw [congrFun (congrFun hS151 k155) s149]
            refine TrD.seq ?_
            refine TrD.seq ?_
            refine TrD.regK tysOk (fun K hK => ?_)
            simp [hb13, k155_lt, idx_inb k155_i, idx_row k155_i, k155_g, k155_l, elt k155_g]
            refine hK _ ?_
            refine TrD.cond (b := true) (by simp [hb13, k155_lt, idx_inb k155_i, idx_row k155_i, k155_g, k155_l, elt k155_g]) (fun hb => ?_) (fun hb => by cases hb)
            refine TrD.skip ?_
            refine TrD.seq ?_
            refine TrD.block ?_
            refine TrD.seq ?_
            refine TrD.regK tysOk (fun K hK => ?_)
            simp [hb13, k155_lt, idx_inb k155_i, idx_row k155_i, k155_g, k155_l, elt k155_g]
            refine hK _ ?_
            refine TrD.seq ?_
            refine TrD.regK tysOk (fun K hK => ?_)
            simp [hb13, k155_lt, idx_inb k155_i, idx_row k155_i, k155_g, k155_l, elt k155_g]
            refine hK _ ?_
            obtain ⟨x161, hx161, g158⟩ := bindE g158
            have hx161_r := (app_some hx161).2
            try simp only [List.length_append, List.length_cons, List.length_nil, List.length_map, Nat.zero_add, Nat.add_zero, Nat.reduceAdd, one_add_len, two_add_len] at hx161_r
            refine TrD.regK tysOk (fun K hK => ?_)
            simp [hb13, k155_lt, idx_inb k155_i, idx_row k155_i, k155_g, k155_l, elt k155_g, hx161_r, (app_some hx161).1]
            refine hK _ ?_
            refine TrD.regK tysOk (fun K hK => ?_)
            simp [hb13, k155_lt, idx_inb k155_i, idx_row k155_i, k155_g, k155_l, elt k155_g, hx161_r, (app_some hx161).1]
            refine hK _ ?_
            obtain rfl := Option.some.inj g158
            refine ToAny.mk x161 rfl ?_
            rw [hS151]
            exact Ghost.canonV 0 [0, 130] _ _ hβ (keep_first (by decide)) (by decide) (vT_upd (v_of (d0 := (eI (wadd .i64 (k155 : Int) 1))) (by simp [hb13, k155_lt, idx_inb k155_i, idx_row k155_i, k155_g, k155_l, elt k155_g, hx161_r, (app_some hx161).1, k155_w]) (v_free (by simp) (by simp [hb13, k155_lt, idx_inb k155_i, idx_row k155_i, k155_g, k155_l, elt k155_g, hx161_r, (app_some hx161).1, k155_w]))) (vT_upd (v_of (d0 := (.sl 6 130 (x161).length)) (by simp [hb13, k155_lt, idx_inb k155_i, idx_row k155_i, k155_g, k155_l, elt k155_g, hx161_r, (app_some hx161).1, k155_w]) (v_sl rfl)) (vT_upd (v_of (d0 := (.slice 1 (List.map (rL 6 rGPattern) r105))) (by simp [hb13, k155_lt, idx_inb k155_i, idx_row k155_i, k155_g, k155_l, elt k155_g, hx161_r, (app_some hx161).1, k155_w]) (v_free (by simp) (by simp [hb13, k155_lt, idx_inb k155_i, idx_row k155_i, k155_g, k155_l, elt k155_g, hx161_r, (app_some hx161).1, k155_w]))) (vT_upd (v_of (d0 := (.ptr 6 0 0 0)) (by simp [hb13, k155_lt, idx_inb k155_i, idx_row k155_i, k155_g, k155_l, elt k155_g, hx161_r, (app_some hx161).1, k155_w]) (v_ptr rfl)) (vT_any _))))) (.cons (lv (L := ⟨6, [(rGPattern p0)], 0, 0x0029⟩) (by simp [hb13, k155_lt, idx_inb k155_i, idx_row k155_i, k155_g, k155_l, elt k155_g, hx161_r, (app_some hx161).1, k155_w]) rfl rfl (by simp [hb13, k155_lt, idx_inb k155_i, idx_row k155_i, k155_g, k155_l, elt k155_g, hx161_r, (app_some hx161).1, k155_w]) (rv_free (by simp [hb13, k155_lt, idx_inb k155_i, idx_row k155_i, k155_g, k155_l, elt k155_g, hx161_r, (app_some hx161).1, k155_w]) (by simp))) (.cons (lv (L := ⟨6, (List.map rGPattern x161), 0, 0x0029⟩) (by simp [hb13, k155_lt, idx_inb k155_i, idx_row k155_i, k155_g, k155_l, elt k155_g, hx161_r, (app_some hx161).1, k155_w]) rfl rfl (by simp [hb13, k155_lt, idx_inb k155_i, idx_row k155_i, k155_g, k155_l, elt k155_g, hx161_r, (app_some hx161).1, k155_w]) (rv_free (by simp [hb13, k155_lt, idx_inb k155_i, idx_row k155_i, k155_g, k155_l, elt k155_g, hx161_r, (app_some hx161).1, k155_w]) (free_rows_of fr_GPattern _))) .nil))
          · rw [congrFun (congrFun hS151 _) s149]
            refine TrD.seq ?_
            refine TrD.seq ?_
            refine TrD.regK tysOk (fun K hK => ?_)
            simp [hb13, ilt_len r105.length]
            refine hK _ ?_
            refine TrD.cond (b := false) (by simp [hb13, ilt_len r105.length]) (fun hb => by cases hb) (fun hb => ?_)
            refine TrD.exit ?_
            try simp only [↓reduceIte, Nat.reduceEqDiff, Nat.zero_ne_one, Nat.one_ne_zero, OfNat.ofNat_ne_zero, OfNat.zero_ne_ofNat, OfNat.one_ne_ofNat, OfNat.ofNat_ne_one]
            refine ToAny.mk s149 s149_stop ?_
            rw [hE152]
            exact Ghost.canonV 0 [1] _ _ hβ (keep_first (by decide)) (by decide) (vT_upd (v_of (d0 := (.sl 6 1 (s149).length)) (by simp [hb13, ilt_len r105.length]) (v_sl rfl)) (vT_any _)) (.cons (lv (L := ⟨6, (List.map rGPattern s149), 0, 0x0029⟩) (by simp [hb13, ilt_len r105.length]) rfl rfl (by simp [hb13, ilt_len r105.length]) (rv_free (by simp [hb13, ilt_len r105.length]) (free_rows_of fr_GPattern _))) .nil)
        · subst hz
          try dsimp only at h
          rw [congrFun hE152 s159]
          refine TrD.seq ?_
          refine TrD.regK tysOk (fun K hK => ?_)
          simp [hb13]
          refine hK _ ?_
          obtain rfl := Option.some.inj h
          refine TrD.ret ?_
          refine exitHG (σ' := ⟨(updD (fun _ => .any) 2 (.sl 6 0 (s159).length)), hOfO [some ⟨6, (List.map rGPattern s159), 0, 0x0029⟩], 1, 67⟩) ?_ ?_
          · exact Ghost.canonV 0 [0] _ _ hβ (keep_first (by decide)) (by decide) (vT_upd (v_of (d0 := (.sl 6 0 (s159).length)) (by simp [hb13]) (v_sl rfl)) (vT_any _)) (.cons (lv (L := ⟨6, (List.map rGPattern s159), 0, 0x0029⟩) (by simp [hb13]) rfl rfl (by simp [hb13]) (rv_free (by simp [hb13]) (free_rows_of fr_GPattern _))) .nil)
          · dsimp only [resD]
            exact ⟨[some ⟨6, (List.map rGPattern s159), 0, 0x0029⟩], [], rfl, by simp, by simp, .inl rfl, by simp [packD]⟩
instance i_spec_l3Split : ∀ (n : Nat) (p0 : GPattern), Ct (m_spec_l3Split n p0) fun res => CallsH Tryz.prog 0o00136 [] [(.agg (rGPattern p0))] (fun H d => H = [some ⟨6, List.map rGPattern res, 0, 0x0029⟩] ∧ d = .sl 6 0 res.length) := fun n p0 => ⟨c_spec_l3Split n p0⟩
end Go.Proofs.YtmkamncbkkahjaaGreat
set_option linter.unusedSimpArgs false
set_option linter.unusedVariables false
namespace Go.Proofs.YtmkamncbkkahjaaGreat
open Go Go.RowKit
set_option maxRecDepth 100000
set_option maxHeartbeats 20000000
instance i_spec_l7Rows : ∀ (n : Nat) (p0 : (List GClause)), Ct (m_spec_l7Rows n p0) fun res => CallsD Tryz.prog 0o00243 [(.slice 9 (List.map rGClause p0))] (fun d => d = (.slice 3 (List.map rGl7Row res))) :=
 au Tryz.func163 m_spec_l7Rows.eq_1 (.o (.o (.ls 0 (.f [3] [8] [0, 3, 4] [8] (fun (k366 : Nat) (s362 : (List Gl7Row)) => [(3, .sl 3 8 (s362).length), (4, eI (k366 : Int))]) (fun k366 s362 => [(8, some ⟨3, (List.map rGl7Row s362), 0, 0x0128⟩)]) (fun k366 s362 => .o (.o (.ll 74 (.f [0, 3, 4] [0] [0, 3, 4, 5, 6] [0, 74] (fun (k428 : Nat) (s424 : (List Gl7Row)) => [(3, .sl 3 0 (s424).length), (6, eI (k428 : Int))]) (fun k428 s424 => [(0, some ⟨3, (List.map rGl7Row s424), 0, 0x0128⟩)]) (fun k428 s424 => .o (.o (.o (.pF 154 .z)))) (fun s432 => .z))))) (fun s370 => .z)))))
end Go.Proofs.YtmkamncbkkahjaaGreat
set_option linter.unusedSimpArgs false
set_option linter.unusedVariables false
namespace Go.Proofs.YtmkamncbkkahjaaGreat
open Go Go.RowKit
set_option maxRecDepth 100000
set_option maxHeartbeats 20000000
instance i_spec_l7Compile : ∀ (n : Nat) (p0 : (List GData)) (p1 : GType) (p2 : (List GClause)) (p3 : Int), Ct (m_spec_l7Compile n p0 p1 p2 p3) fun res => CallsD Tryz.prog 0o00121 [(.slice 2 (List.map rGData p0)), (.agg (rGType p1)), (.slice 9 (List.map rGClause p2)), (eI p3)] (fun d => d = .tup [(.agg (rGTree res.1)), (eB res.2)]) :=
 au Tryz.func81 m_spec_l7Compile.eq_1 (.o (.o (.o (.o (.o (.ls 2 (.f [0, 2, 3, 5, 8] [0, 8] [0, 2, 3, 5, 8, 10] [0, 8] (fun (k54 : Nat) (s50 : Unit) => [(10, eI (k54 : Int))]) (fun k54 s50 => []) (fun k54 s50 => .z) (fun s58 => .g [0, 2, 3, 5, 8] [0, 1] [] [] (.o (.o (.dz [0, 1, 2, 3, 5, 7, 6, 4, 8, 9, 10, 11, 12, 13, 14] [0] [1048609, 1048587] [] .z)))))))))))
end Go.Proofs.YtmkamncbkkahjaaGreat
set_option linter.unusedSimpArgs false
set_option linter.unusedVariables false
namespace Go.Proofs.YtmkamncbkkahjaaGreat
open Go Go.RowKit
set_option maxRecDepth 100000
set_option maxHeartbeats 20000000
instance i_spec_CompileClauses : ∀ (n : Nat) (p0 : (List GData)) (p1 : GType) (p2 : (List GClause)) (p3 : Int), Ct (m_spec_CompileClauses n p0 p1 p2 p3) fun res => CallsD Tryz.prog 0o00037 [(.slice 2 (List.map rGData p0)), (.agg (rGType p1)), (.slice 9 (List.map rGClause p2)), (eI p3)] (fun d => d = .tup [(.agg (rGTree res.1)), (eB res.2)]) :=
 au Tryz.func31 m_spec_CompileClauses.eq_1 .z
theorem c_spec_CompileClauses (n : Nat) (p0 : (List GData)) (p1 : GType) (p2 : (List GClause)) (p3 : Int) : ∀ res, m_spec_CompileClauses n p0 p1 p2 p3 = some res → CallsD Tryz.prog 0o00037 [(.slice 2 (List.map rGData p0)), (.agg (rGType p1)), (.slice 9 (List.map rGClause p2)), (eI p3)] (fun d => d = .tup [(.agg (rGTree res.1)), (eB res.2)]) := (i_spec_CompileClauses n p0 p1 p2 p3).pf
end Go.Proofs.YtmkamncbkkahjaaGreat
set_option linter.unusedSimpArgs false
set_option linter.unusedVariables false
namespace Go.Proofs.YtmkamncbkkahjaaGreat
open Go Go.RowKit
set_option maxRecDepth 100000
set_option maxHeartbeats 20000000
set_option maxRecDepth 100000 in
set_option maxHeartbeats 20000000 in
theorem c_laws_FnTreeNodes (n : Nat) (p0 : (List Int)) (res : Bool) (h : m_laws_FnTreeNodes n p0 = some res) : CallsD Tryz.prog 0o00010 [(.slice 1 (List.map (rK .u8) p0))] (fun d => d = (eB res)) := by
  unfold m_laws_FnTreeNodes at h
  refine CallsD.of (res := [.tmp 2]) tysOk Tryz.func8 (by decide) rfl (Nat.le_of_ble_eq_true rfl) rfl rfl (fun β hβ0 => ?_)
  have hβ : ∀ k x, β.c0.M k = some x → k < 0 := fun k x hx => by rw [hβ0] at hx; cases hx
  refine TrD.seq ?_
  refine TrD.regK tysOk (fun K hK => ?_)
  simp
  refine hK _ ?_
  refine TrD.seq ?_
  refine TrD.seq ?_
  refine TrD.regK tysOk (fun K hK => ?_)
  simp
  refine hK _ ?_
  refine TrD.cond (b := ilt 1048576 (lenZ p0.length)) (by simp) (fun hb2 => ?_) (fun hb2 => ?_)
  · rw [if_pos hb2] at h
    refine TrD.seq ?_
    refine TrD.regK tysOk (fun K hK => ?_)
    simp [hb2]
    refine hK _ ?_
    obtain rfl := Option.some.inj h
    refine TrD.ret ?_
    refine exitDG (σ' := ⟨(updD (fun _ => .any) 2 (eB true)), hOfO [], 0, 74⟩) ?_ ?_
    · exact Ghost.canonV 0 [] _ _ hβ (keep_first (by decide)) (by decide) (vT_upd (v_of (d0 := (eB true)) (by simp [hb2]) (v_free (by simp) (by simp [hb2]))) (vT_any _)) .nil
    · dsimp only [resD]
      refine endF ?_ ?_ <;> simp [packD]
  · rw [if_neg (ne_true_of hb2)] at h
    refine TrD.skip ?_
    refine TrD.seq ?_
    obtain ⟨r3, hr3, h⟩ := bindE h
    refine TrD.regK tysOk (fun K hK => ?_)
    simp [hb2]
    refine callP (c_spec_DrawCompileClauses n p0 _ hr3) (by simp [hb2]) (by simp) (fun q124 hq124 => ?_)
    subst hq124
    simp [hb2]
    refine hK _ ?_
    refine TrD.seq ?_
    obtain ⟨r4, hr4, h⟩ := bindE h
    refine TrD.regK tysOk (fun K hK => ?_)
    simp [hb2]
    refine callP (c_impl_CompileClauses n r3.1 r3.2.1 r3.2.2.1 r3.2.2.2 _ hr4) (by simp [hb2]) (by simp) (fun q123 hq123 => ?_)
    subst hq123
    simp [hb2]
    refine hK _ ?_
    refine TrD.seq ?_
    obtain ⟨r5, hr5, h⟩ := bindE h
    refine TrD.regK tysOk (fun K hK => ?_)
    simp [hb2]
    refine callP (c_spec_CompileClauses n r3.1 r3.2.1 r3.2.2.1 r3.2.2.2 _ hr5) (by simp [hb2]) (by simp) (fun q122 hq122 => ?_)
    subst hq122
    simp [hb2]
    refine hK _ ?_
    refine TrD.seq ?_
    refine TrD.seq ?_
    rcases Bool.eq_false_or_eq_true (!(r4.2 == r5.2)) with hb88 | hb88
    · rw [if_pos hb88] at h
      refine TrD.regK tysOk (fun K hK => ?_)
      simp [hb2, hb88]
      refine hK _ ?_
      refine TrD.cond (b := true) (by simp [hb2, hb88]) (fun hb => ?_) (fun hb => by cases hb)
      refine TrD.seq ?_
      rcases Bool.eq_false_or_eq_true (r4.2 == r5.2) with hb92 | hb92
      · rw [if_pos hb92] at h
        obtain ⟨r93, hr93, h⟩ := bindE h
        refine TrD.regK tysOk (fun K hK => ?_)
        simp [hb2, hb88, hb92]
        refine callP (c_laws_ptTree n r4.1 r5.1 _ hr93) (by simp [hb2, hb88, hb92]) (by simp) (fun q94 hq94 => ?_)
        subst hq94
        simp [hb2, hb88, hb92]
        refine hK _ ?_
        obtain rfl := Option.some.inj h
        refine TrD.ret ?_
        refine exitDG (σ' := ⟨(updD (fun _ => .any) 2 (eB r93)), hOfO [], 0, 74⟩) ?_ ?_
        · exact Ghost.canonV 0 [] _ _ hβ (keep_first (by decide)) (by decide) (vT_upd (v_of (d0 := (eB r93)) (by simp [hb2, hb88, hb92]) (v_free (by simp) (by simp [hb2, hb88, hb92]))) (vT_any _)) .nil
        · dsimp only [resD]
          refine endF ?_ ?_ <;> simp [packD]
      · rw [if_neg (ne_true_of hb92)] at h
        refine TrD.regK tysOk (fun K hK => ?_)
        simp [hb2, hb88, hb92]
        refine hK _ ?_
        obtain rfl := Option.some.inj h
        refine TrD.ret ?_
        refine exitDG (σ' := ⟨(updD (fun _ => .any) 2 (eB false)), hOfO [], 0, 74⟩) ?_ ?_
        · exact Ghost.canonV 0 [] _ _ hβ (keep_first (by decide)) (by decide) (vT_upd (v_of (d0 := (eB false)) (by simp [hb2, hb88, hb92]) (v_free (by simp) (by simp [hb2, hb88, hb92]))) (vT_any _)) .nil
        · dsimp only [resD]
          refine endF ?_ ?_ <;> simp [packD]
    · rw [if_neg (ne_true_of hb88)] at h
      obtain ⟨r95, hr95, h⟩ := bindE h
      rcases Bool.eq_false_or_eq_true (!r95) with hb96 | hb96
      · rw [if_pos hb96] at h
        refine TrD.regK tysOk (fun K hK => ?_)
        simp [hb2, hb88, hb96]
        refine callP (c_laws_ptTree n r4.1 r5.1 _ hr95) (by simp [hb2, hb88, hb96]) (by simp) (fun q103 hq103 => ?_)
        subst hq103
        simp [hb2, hb88, hb96]
        refine hK _ ?_
        refine TrD.cond (b := true) (by simp [hb2, hb88, hb96]) (fun hb => ?_) (fun hb => by cases hb)
        refine TrD.seq ?_
        rcases Bool.eq_false_or_eq_true (r4.2 == r5.2) with hb100 | hb100
        · rw [if_pos hb100] at h
          obtain ⟨r101, hr101, h⟩ := bindE h
          refine TrD.regK tysOk (fun K hK => ?_)
          simp [hb2, hb88, hb96, hb100]
          refine callP (c_laws_ptTree n r4.1 r5.1 _ hr101) (by simp [hb2, hb88, hb96, hb100]) (by simp) (fun q102 hq102 => ?_)
          subst hq102
          simp [hb2, hb88, hb96, hb100]
          refine hK _ ?_
          obtain rfl := Option.some.inj h
          refine TrD.ret ?_
          refine exitDG (σ' := ⟨(updD (fun _ => .any) 2 (eB r101)), hOfO [], 0, 74⟩) ?_ ?_
          · exact Ghost.canonV 0 [] _ _ hβ (keep_first (by decide)) (by decide) (vT_upd (v_of (d0 := (eB r101)) (by simp [hb2, hb88, hb96, hb100]) (v_free (by simp) (by simp [hb2, hb88, hb96, hb100]))) (vT_any _)) .nil
          · dsimp only [resD]
            refine endF ?_ ?_ <;> simp [packD]
        · rw [if_neg (ne_true_of hb100)] at h
          refine TrD.regK tysOk (fun K hK => ?_)
          simp [hb2, hb88, hb96, hb100]
          refine hK _ ?_
          obtain rfl := Option.some.inj h
          refine TrD.ret ?_
          refine exitDG (σ' := ⟨(updD (fun _ => .any) 2 (eB false)), hOfO [], 0, 74⟩) ?_ ?_
          · exact Ghost.canonV 0 [] _ _ hβ (keep_first (by decide)) (by decide) (vT_upd (v_of (d0 := (eB false)) (by simp [hb2, hb88, hb96, hb100]) (v_free (by simp) (by simp [hb2, hb88, hb96, hb100]))) (vT_any _)) .nil
          · dsimp only [resD]
            refine endF ?_ ?_ <;> simp [packD]
      · rw [if_neg (ne_true_of hb96)] at h
        refine TrD.regK tysOk (fun K hK => ?_)
        simp [hb2, hb88, hb96]
        refine callP (c_laws_ptTree n r4.1 r5.1 _ hr95) (by simp [hb2, hb88, hb96]) (by simp) (fun q121 hq121 => ?_)
        subst hq121
        simp [hb2, hb88, hb96]
        refine hK _ ?_
        refine TrD.cond (b := (!r4.2)) (by simp [hb2, hb88, hb96]) (fun hb104 => ?_) (fun hb104 => ?_)
        · rw [if_pos hb104] at h
          refine TrD.seq ?_
          rcases Bool.eq_false_or_eq_true (r4.2 == r5.2) with hb108 | hb108
          · rw [if_pos hb108] at h
            obtain ⟨r109, hr109, h⟩ := bindE h
            refine TrD.regK tysOk (fun K hK => ?_)
            simp [hb2, hb88, hb96, hb104, hb108]
            refine callP (c_laws_ptTree n r4.1 r5.1 _ hr109) (by simp [hb2, hb88, hb96, hb104, hb108]) (by simp) (fun q110 hq110 => ?_)
            subst hq110
            simp [hb2, hb88, hb96, hb104, hb108]
            refine hK _ ?_
            obtain rfl := Option.some.inj h
            refine TrD.ret ?_
            refine exitDG (σ' := ⟨(updD (fun _ => .any) 2 (eB r109)), hOfO [], 0, 74⟩) ?_ ?_
            · exact Ghost.canonV 0 [] _ _ hβ (keep_first (by decide)) (by decide) (vT_upd (v_of (d0 := (eB r109)) (by simp [hb2, hb88, hb96, hb104, hb108]) (v_free (by simp) (by simp [hb2, hb88, hb96, hb104, hb108]))) (vT_any _)) .nil
            · dsimp only [resD]
              refine endF ?_ ?_ <;> simp [packD]
          · rw [if_neg (ne_true_of hb108)] at h
            refine TrD.regK tysOk (fun K hK => ?_)
            simp [hb2, hb88, hb96, hb104, hb108]
            refine hK _ ?_
            obtain rfl := Option.some.inj h
            refine TrD.ret ?_
            refine exitDG (σ' := ⟨(updD (fun _ => .any) 2 (eB false)), hOfO [], 0, 74⟩) ?_ ?_
            · exact Ghost.canonV 0 [] _ _ hβ (keep_first (by decide)) (by decide) (vT_upd (v_of (d0 := (eB false)) (by simp [hb2, hb88, hb96, hb104, hb108]) (v_free (by simp) (by simp [hb2, hb88, hb96, hb104, hb108]))) (vT_any _)) .nil
            · dsimp only [resD]
              refine endF ?_ ?_ <;> simp [packD]
        · rw [if_neg (ne_true_of hb104)] at h
          refine TrD.skip ?_
          refine TrD.seq ?_
          obtain ⟨r111, hr111, h⟩ := bindE h
          refine TrD.regK tysOk (fun K hK => ?_)
          simp [hb2, hb88, hb96, hb104]
          refine callP (c_impl_TreeSize n r4.1 _ hr111) (by simp [hb2, hb88, hb96, hb104]) (by simp) (fun q120 hq120 => ?_)
          subst hq120
          simp [hb2, hb88, hb96, hb104]
          refine hK _ ?_
          refine TrD.seq ?_
          rcases Bool.eq_false_or_eq_true (ile 1 r111) with hb116 | hb116
          · rw [if_pos hb116] at h
            rcases Bool.eq_false_or_eq_true (ile r111 300) with hb117 | hb117
            · rw [if_pos hb117] at h
              obtain ⟨r118, hr118, h⟩ := bindE h
              refine TrD.regK tysOk (fun K hK => ?_)
              simp [hb2, hb88, hb96, hb104, hb116, hb117]
              refine callP (c_impl_TreeLeaves n r4.1 _ hr118) (by simp [hb2, hb88, hb96, hb104, hb116, hb117]) (by simp) (fun q119 hq119 => ?_)
              subst hq119
              simp [hb2, hb88, hb96, hb104, hb116, hb117]
              refine hK _ ?_
              obtain rfl := Option.some.inj h
              refine TrD.ret ?_
              refine exitDG (σ' := ⟨(updD (fun _ => .any) 2 (eB (ile (lenZ r118.length) r111))), hOfO [], 0, 74⟩) ?_ ?_
              · exact Ghost.canonV 0 [] _ _ hβ (keep_first (by decide)) (by decide) (vT_upd (v_of (d0 := (eB (ile (lenZ r118.length) r111))) (by simp [hb2, hb88, hb96, hb104, hb116, hb117]) (v_free (by simp) (by simp [hb2, hb88, hb96, hb104, hb116, hb117]))) (vT_any _)) .nil
              · dsimp only [resD]
                refine endF ?_ ?_ <;> simp [packD]
            · rw [if_neg (ne_true_of hb117)] at h
              refine TrD.regK tysOk (fun K hK => ?_)
              simp [hb2, hb88, hb96, hb104, hb116, hb117]
              refine hK _ ?_
              obtain rfl := Option.some.inj h
              refine TrD.ret ?_
              refine exitDG (σ' := ⟨(updD (fun _ => .any) 2 (eB false)), hOfO [], 0, 74⟩) ?_ ?_
              · exact Ghost.canonV 0 [] _ _ hβ (keep_first (by decide)) (by decide) (vT_upd (v_of (d0 := (eB false)) (by simp [hb2, hb88, hb96, hb104, hb116, hb117]) (v_free (by simp) (by simp [hb2, hb88, hb96, hb104, hb116, hb117]))) (vT_any _)) .nil
              · dsimp only [resD]
                refine endF ?_ ?_ <;> simp [packD]
          · rw [if_neg (ne_true_of hb116)] at h
            refine TrD.regK tysOk (fun K hK => ?_)
            simp [hb2, hb88, hb96, hb104, hb116]
            refine hK _ ?_
            obtain rfl := Option.some.inj h
            refine TrD.ret ?_
            refine exitDG (σ' := ⟨(updD (fun _ => .any) 2 (eB false)), hOfO [], 0, 74⟩) ?_ ?_
            · exact Ghost.canonV 0 [] _ _ hβ (keep_first (by decide)) (by decide) (vT_upd (v_of (d0 := (eB false)) (by simp [hb2, hb88, hb96, hb104, hb116]) (v_free (by simp) (by simp [hb2, hb88, hb96, hb104, hb116]))) (vT_any _)) .nil
            · dsimp only [resD]
              refine endF ?_ ?_ <;> simp [packD]
instance i_laws_FnTreeNodes : ∀ (n : Nat) (p0 : (List Int)), Ct (m_laws_FnTreeNodes n p0) fun res => CallsD Tryz.prog 0o00010 [(.slice 1 (List.map (rK .u8) p0))] (fun d => d = (eB res)) := fun n p0 => ⟨c_laws_FnTreeNodes n p0⟩
end Go.Proofs.YtmkamncbkkahjaaGreat
set_option linter.unusedSimpArgs false
set_option linter.unusedVariables false
namespace Go.Proofs.YtmkamncbkkahjaaGreat
open Go Go.RowKit
set_option maxRecDepth 100000
set_option maxHeartbeats 20000000
instance i_impl_TreeTests : ∀ (n : Nat) (p0 : GTree), Ct (m_impl_TreeTests n p0) fun res => CallsD Tryz.prog 0o00042 [(.agg (rGTree p0))] (fun d => d = (eI res)) :=
 ar (au Tryz.func34 m_impl_TreeTests.eq_2 (.o (.o (.o (.o (.ls 7 (.f [1, 3] [0] [1, 3, 7, 8, 9] [0] (fun (k48 : Nat) (s44 : Int) => [(3, eI s44), (9, eI (k48 : Int))]) (fun k48 s44 => []) (fun k48 s44 => .z) (fun s52 => .j 7 0 [3] [] (fun (s56 : Int) => [(3, eI s56)]) (fun _ => []) .z (fun _ => .z)))))))))
theorem c_impl_TreeTests (n : Nat) (p0 : GTree) : ∀ res, m_impl_TreeTests n p0 = some res → CallsD Tryz.prog 0o00042 [(.agg (rGTree p0))] (fun d => d = (eI res)) := (i_impl_TreeTests n p0).pf
end Go.Proofs.YtmkamncbkkahjaaGreat
