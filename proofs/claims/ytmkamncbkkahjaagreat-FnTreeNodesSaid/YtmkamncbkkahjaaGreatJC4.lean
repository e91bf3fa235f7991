import Derived.Test.YtmkamncbkkahjaaGreatJMir
import Derived.Test.YtmkamncbkkahjaaGreatJAuI
import Derived.Test.YtmkamncbkkahjaaGreatJC3
import Derived.Test.YtmkamncbkkahjaaGreatJC2
import Derived.Test.YtmkamncbkkahjaaGreatJAuto
set_option linter.unusedSimpArgs false
set_option linter.unusedVariables false
set_option linter.unusedSimpArgs false
set_option linter.unusedVariables false
namespace Go.Proofs.YtmkamncbkkahjaaGreat
open Go Go.RowKit
set_option maxRecDepth 100000
set_option maxHeartbeats 20000000
set_option maxRecDepth 100000 in
theorem c_impl_row_enter (n : Nat) (p0 : Grow) (p1 : GPattern) (p2 : (List Int)) (res : Grow) (h : m_impl_row_enter n p0 p1 p2 = some res) : CallsH Tryz.prog 0o00115 [] [(.agg (rGrow p0)), (.agg (rGPattern p1)), (.slice 1 (List.map rI p2))] (fun H d => H = [some ⟨6, List.map rGPattern res.pats, 0, 0x0029⟩] ∧ d = .agg [(eI res.clause), .sl 6 0 res.pats.length, (.slice 2 (List.map rGPathBind res.binds))]) := by
  unfold m_impl_row_enter at h
  refine CallsH.of (res := [.cell 6 127]) tysOk Tryz.func77 (by decide) rfl (Nat.le_of_ble_eq_true rfl) rfl rfl (fun β hβ => ?_)
  refine TrD.seq ?_
  refine TrD.regK tysOk (fun K hK => ?_)
  simp
  refine hK _ ?_
  obtain ⟨o49, g51, h⟩ := bindE h
  obtain ⟨E53, hE53⟩ : ∃ S : ((List GPathBind) × GPattern) → St, S = fun s60 => ⟨(updD (updD (updD (fun _ => .any) 3 (.ptr 3 0 0 0)) 4 (.ptr 6 1 0 0)) 6 (.ptr 3 2 0 0)), hOfO [some ⟨3, [[(eI p0.clause), (.slice 6 (List.map rGPattern p0.pats)), (.slice 2 (List.map rGPathBind s60.1))]], 0, 0x007f⟩, some ⟨6, [(rGPattern s60.2)], 0, 0x0029⟩, some ⟨3, [[(eI 0), .nil, .nil]], 0, 0x007f⟩], 3, 42⟩ := ⟨_, rfl⟩
  refine TrD.join E53 (fun z => o49 = Ctl.brk z) ?_ (fun s60 hz => ?_)
  · refine TrD.block ?_
    obtain ⟨S52, hS52⟩ : ∃ S : ((List GPathBind) × GPattern) → St, S = fun s50 => ⟨(updD (updD (updD (updD (fun _ => .any) 2 (.slice 1 (List.map rI p2))) 3 (.ptr 3 0 0 0)) 4 (.ptr 6 1 0 0)) 6 (.ptr 3 2 0 0)), hOfO [some ⟨3, [[(eI p0.clause), (.slice 6 (List.map rGPattern p0.pats)), (.slice 2 (List.map rGPathBind s50.1))]], 0, 0x007f⟩, some ⟨6, [(rGPattern s50.2)], 0, 0x0029⟩, some ⟨3, [[(eI 0), .nil, .nil]], 0, 0x007f⟩], 3, 42⟩ := ⟨_, rfl⟩
    refine TrD.whileL S52 g51 ?_ (fun s50 o58 g59 hret54 hbrk55 => ?_)
    · rw [hS52]
      exact Ghost.canonV 0 [0, 8, 16] _ _ hβ (keep_first (by decide)) (by decide) (vT_upd (v_of (d0 := (.ptr 3 16 0 0)) (by simp) (v_ptr rfl)) (vT_upd (v_of (d0 := (.ptr 6 8 0 0)) (by simp) (v_ptr rfl)) (vT_upd (v_of (d0 := (.ptr 3 0 0 0)) (by simp) (v_ptr rfl)) (vT_upd (v_of (d0 := (.slice 1 (List.map rI p2))) (by simp) (v_free (by simp) (by simp))) (vT_any _))))) (.cons (lv (L := ⟨3, [(rGrow p0)], 0, 0x007f⟩) (by simp) rfl rfl (by simp) (rv_free (by simp) (by simp))) (.cons (lv (L := ⟨6, [(rGPattern p1)], 0, 0x0029⟩) (by simp) rfl rfl (by simp) (rv_free (by simp) (by simp))) (.cons (lv (L := ⟨3, [[(eI 0), .nil, .nil]], 0, 0x007f⟩) (by simp) rfl rfl (by simp) (rv_cons (.cons (v_free (by simp) (by simp)) (.cons (v_free (by simp) (by simp)) (.cons (v_free (by simp) (by simp)) .nil))) rv_nil)) .nil)))
    · rw [congrFun hS52 s50]
      obtain ⟨o67, g69, g59⟩ := bindE g59
      obtain ⟨S68, hS68⟩ : ∃ S : Unit → St, S = fun s66 => ⟨(updD (updD (updD (updD (fun _ => .any) 2 (.slice 1 (List.map rI p2))) 3 (.ptr 3 0 0 0)) 4 (.ptr 6 1 0 0)) 6 (.ptr 3 2 0 0)), hOfO [some ⟨3, [[(eI p0.clause), (.slice 6 (List.map rGPattern p0.pats)), (.slice 2 (List.map rGPathBind s50.1))]], 0, 0x007f⟩, some ⟨6, [(rGPattern s50.2)], 0, 0x0029⟩, some ⟨3, [[(eI 0), .nil, .nil]], 0, 0x007f⟩], 3, 42⟩ := ⟨_, rfl⟩
      refine TrD.join S68 (fun z => o67 = Ctl.brk z) ?_ (fun s66 hz => ?_)
      · refine TrD.seq ?_
        rcases Bool.eq_false_or_eq_true (ieq s50.2.op 6) with hb73 | hb73
        · rw [if_pos hb73] at g69
          refine TrD.regK tysOk (fun K hK => ?_)
          simp [hb73]
          refine hK _ ?_
          refine TrD.cond (b := true) (by simp [hb73]) (fun hb => ?_) (fun hb => by cases hb)
          refine TrD.skip ?_
          obtain rfl := Option.some.inj g69
          refine ToAny.mk () rfl ?_
          rw [hS68]
          exact Ghost.canonV 0 [0, 1, 2] _ _ hβ (keep_first (by decide)) (by decide) (vT_upd (v_of (d0 := (.ptr 3 2 0 0)) (by simp [hb73]) (v_ptr rfl)) (vT_upd (v_of (d0 := (.ptr 6 1 0 0)) (by simp [hb73]) (v_ptr rfl)) (vT_upd (v_of (d0 := (.ptr 3 0 0 0)) (by simp [hb73]) (v_ptr rfl)) (vT_upd (v_of (d0 := (.slice 1 (List.map rI p2))) (by simp [hb73]) (v_free (by simp) (by simp [hb73]))) (vT_any _))))) (.cons (lv (L := ⟨3, [[(eI p0.clause), (.slice 6 (List.map rGPattern p0.pats)), (.slice 2 (List.map rGPathBind s50.1))]], 0, 0x007f⟩) (by simp [hb73]) rfl rfl (by simp [hb73]) (rv_free (by simp [hb73]) (by simp))) (.cons (lv (L := ⟨6, [(rGPattern s50.2)], 0, 0x0029⟩) (by simp [hb73]) rfl rfl (by simp [hb73]) (rv_free (by simp [hb73]) (by simp))) (.cons (lv (L := ⟨3, [[(eI 0), .nil, .nil]], 0, 0x007f⟩) (by simp [hb73]) rfl rfl (by simp [hb73]) (rv_cons (.cons (v_free (by simp) (by simp [hb73])) (.cons (v_free (by simp) (by simp)) (.cons (v_free (by simp) (by simp)) .nil))) rv_nil)) .nil)))
        · rw [if_neg (ne_true_of hb73)] at g69
          refine TrD.regK tysOk (fun K hK => ?_)
          simp [hb73]
          refine hK _ ?_
          refine TrD.cond (b := ieq s50.2.op 2) (by simp [hb73]) (fun hb74 => ?_) (fun hb74 => ?_)
          · rw [if_pos hb74] at g69
            refine TrD.skip ?_
            obtain rfl := Option.some.inj g69
            refine ToAny.mk () rfl ?_
            rw [hS68]
            exact Ghost.canonV 0 [0, 1, 2] _ _ hβ (keep_first (by decide)) (by decide) (vT_upd (v_of (d0 := (.ptr 3 2 0 0)) (by simp [hb73, hb74]) (v_ptr rfl)) (vT_upd (v_of (d0 := (.ptr 6 1 0 0)) (by simp [hb73, hb74]) (v_ptr rfl)) (vT_upd (v_of (d0 := (.ptr 3 0 0 0)) (by simp [hb73, hb74]) (v_ptr rfl)) (vT_upd (v_of (d0 := (.slice 1 (List.map rI p2))) (by simp [hb73, hb74]) (v_free (by simp) (by simp [hb73, hb74]))) (vT_any _))))) (.cons (lv (L := ⟨3, [[(eI p0.clause), (.slice 6 (List.map rGPattern p0.pats)), (.slice 2 (List.map rGPathBind s50.1))]], 0, 0x007f⟩) (by simp [hb73, hb74]) rfl rfl (by simp [hb73, hb74]) (rv_free (by simp [hb73, hb74]) (by simp))) (.cons (lv (L := ⟨6, [(rGPattern s50.2)], 0, 0x0029⟩) (by simp [hb73, hb74]) rfl rfl (by simp [hb73, hb74]) (rv_free (by simp [hb73, hb74]) (by simp))) (.cons (lv (L := ⟨3, [[(eI 0), .nil, .nil]], 0, 0x007f⟩) (by simp [hb73, hb74]) rfl rfl (by simp [hb73, hb74]) (rv_cons (.cons (v_free (by simp) (by simp [hb73, hb74])) (.cons (v_free (by simp) (by simp)) (.cons (v_free (by simp) (by simp)) .nil))) rv_nil)) .nil)))
          · rw [if_neg (ne_true_of hb74)] at g69
            refine TrD.exit ?_
            try simp only [↓reduceIte, Nat.reduceEqDiff, Nat.zero_ne_one, Nat.one_ne_zero, OfNat.ofNat_ne_zero, OfNat.zero_ne_ofNat, OfNat.one_ne_ofNat, OfNat.ofNat_ne_one]
            obtain rfl := Option.some.inj g69
            obtain rfl := Option.some.inj g59
            obtain rfl := hbrk55 _ rfl
            refine ToAny.mk (s50.1, s50.2) rfl ?_
            rw [hE53]
            exact Ghost.canonV 0 [0, 1, 2] _ _ hβ (keep_first (by decide)) (by decide) (vT_upd (v_of (d0 := (.ptr 3 2 0 0)) (by simp [hb73, hb74]) (v_ptr rfl)) (vT_upd (v_of (d0 := (.ptr 6 1 0 0)) (by simp [hb73, hb74]) (v_ptr rfl)) (vT_upd (v_of (d0 := (.ptr 3 0 0 0)) (by simp [hb73, hb74]) (v_ptr rfl)) (vT_any _)))) (.cons (lv (L := ⟨3, [[(eI p0.clause), (.slice 6 (List.map rGPattern p0.pats)), (.slice 2 (List.map rGPathBind s50.1))]], 0, 0x007f⟩) (by simp [hb73, hb74]) rfl rfl (by simp [hb73, hb74]) (rv_free (by simp [hb73, hb74]) (by simp))) (.cons (lv (L := ⟨6, [(rGPattern s50.2)], 0, 0x0029⟩) (by simp [hb73, hb74]) rfl rfl (by simp [hb73, hb74]) (rv_free (by simp [hb73, hb74]) (by simp))) (.cons (lv (L := ⟨3, [[(eI 0), .nil, .nil]], 0, 0x007f⟩) (by simp [hb73, hb74]) rfl rfl (by simp [hb73, hb74]) (rv_cons (.cons (v_free (by simp) (by simp [hb73, hb74])) (.cons (v_free (by simp) (by simp)) (.cons (v_free (by simp) (by simp)) .nil))) rv_nil)) .nil)))
      · subst hz
        try dsimp only at g59
        rw [congrFun hS68 s66]
        refine TrD.block ?_
        refine TrD.seq ?_
        refine TrD.ghost (σ' := ⟨(updD (updD (updD (updD (fun _ => .any) 2 (.slice 1 (List.map rI p2))) 3 (.ptr 3 0 0 0)) 4 (.ptr 6 1 0 0)) 6 (.ptr 3 2 0 0)), hOfO [some ⟨3, [[(eI p0.clause), (.slice 6 (List.map rGPattern p0.pats)), (.slice 2 (List.map rGPathBind s50.1))]], 0, 0x007f⟩, some ⟨6, [(rGPattern s50.2)], 0, 0x0029⟩, some ⟨3, [[(eI 0), .nil, .nil]], 0, 0x007f⟩], 3, 42⟩) ?_ ?_
        · exact Ghost.canonV 0 [0, 1, 2] _ _ hβ (keep_first (by decide)) (by decide) (vT_upd (v_of (d0 := (.ptr 3 2 0 0)) (by simp) (v_ptr rfl)) (vT_upd (v_of (d0 := (.ptr 6 1 0 0)) (by simp) (v_ptr rfl)) (vT_upd (v_of (d0 := (.ptr 3 0 0 0)) (by simp) (v_ptr rfl)) (vT_upd (v_of (d0 := (.slice 1 (List.map rI p2))) (by simp) (v_free (by simp) (by simp))) (vT_any _))))) (.cons (lv (L := ⟨3, [[(eI p0.clause), (.slice 6 (List.map rGPattern p0.pats)), (.slice 2 (List.map rGPathBind s50.1))]], 0, 0x007f⟩) (by simp) rfl rfl (by simp) (rv_free (by simp) (by simp))) (.cons (lv (L := ⟨6, [(rGPattern s50.2)], 0, 0x0029⟩) (by simp) rfl rfl (by simp) (rv_free (by simp) (by simp))) (.cons (lv (L := ⟨3, [[(eI 0), .nil, .nil]], 0, 0x007f⟩) (by simp) rfl rfl (by simp) (rv_cons (.cons (v_free (by simp) (by simp)) (.cons (v_free (by simp) (by simp)) (.cons (v_free (by simp) (by simp)) .nil))) rv_nil)) .nil)))
        obtain ⟨r75, hr75, g59⟩ := bindE g59
        obtain ⟨r76, hr76, g59⟩ := bindE g59
        obtain ⟨x77, hx77, g59⟩ := bindE g59
        have hx77_r := (app_some hx77).2
        try simp only [List.length_append, List.length_cons, List.length_nil, List.length_map, Nat.zero_add, Nat.add_zero, Nat.reduceAdd, one_add_len, two_add_len] at hx77_r
        refine TrD.draw tysOk mixed [0, 1, 3, 4, 5, 2, 6, 7, 8, 9, 10, 11] [0, 1] [25] (by rfl) rfl (fun K hK => ?_)
        simp [hx77_r]
        refine callK (views_same _ _) (.same _ _) [] (c_slices_Clone_PathBind s50.1 _ hr75) (by decide) .nil (.cons (ren_le (by simp) (by simp [hx77_r])) .nil) (fun Hq82 qq82 hq82 => ?_)
        obtain ⟨rfl, rfl⟩ := hq82
        refine ⟨by simp, [some ⟨2, (List.map rGPathBind r75), 0, 0x008c⟩], (.sl 2 4 (r75).length), (.cons (optRen_same (by simp)) .nil), (ren_sl (by rfl)), ?_⟩
        simp [setMany, newNames, hx77_r]
        refine callK (views_same _ _) (.same _ _) [] (c_slices_Clone_int p2 _ hr76) (by decide) .nil (.cons (ren_le (by simp) (by simp [hx77_r])) .nil) (fun Hq83 qq83 hq83 => ?_)
        obtain ⟨rfl, rfl⟩ := hq83
        refine ⟨by simp, [some ⟨1, (List.map rI r76), 0, 0x0003⟩], (.sl 1 12 (r76).length), (.cons (optRen_same (by simp)) .nil), (ren_sl (by rfl)), ?_⟩
        simp [setMany, newNames, hx77_r]
        refine hK _ ?_
        refine TrD.seq ?_
        refine TrD.regK tysOk (fun K hK => ?_)
        simp [hx77_r]
        refine hK _ ?_
        refine TrD.cond (b := ieq s50.2.op 2) (by simp [hx77_r]) (fun hb78 => ?_) (fun hb78 => ?_)
        · rw [if_pos hb78] at g59
          obtain ⟨r79, hr79, g59⟩ := bindE g59
          refine TrD.regK tysOk (fun K hK => ?_)
          simp [hx77_r, hb78]
          refine callP (c_impl_anyPattern _ hr79) (by simp [hx77_r, hb78]) (by simp) (fun q80 hq80 => ?_)
          subst hq80
          simp [hx77_r, hb78]
          refine hK _ ?_
          obtain rfl := Option.some.inj g59
          refine ToAny.mk ((r75 ++ [(GPathBind.mk s50.2.var r76)]), r79) rfl ?_
          rw [hS52]
          refine (Ghost.raise 12 (by simp [hx77_r, hb78]; rfl)).trans ?_
          refine (Ghost.raise 27 (by simp [hx77_r, hb78]; rfl)).trans ?_
          exact Ghost.canonV 0 [0, 1, 2] _ _ hβ (keep_first (by decide)) (by decide) (vT_upd (v_of (d0 := (.ptr 3 2 0 0)) (by simp [hx77_r, hb78]) (v_ptr rfl)) (vT_upd (v_of (d0 := (.ptr 6 1 0 0)) (by simp [hx77_r, hb78]) (v_ptr rfl)) (vT_upd (v_of (d0 := (.ptr 3 0 0 0)) (by simp [hx77_r, hb78]) (v_ptr rfl)) (vT_upd (v_of (d0 := (.slice 1 (List.map rI p2))) (by simp [hx77_r, hb78]) (v_free (by simp) (by simp [hx77_r, hb78]))) (vT_any _))))) (.cons (lv (L := ⟨3, [[(eI p0.clause), (.slice 6 (List.map rGPattern p0.pats)), (.sl 2 27 ((r75 ++ [(GPathBind.mk s50.2.var r76)])).length)]], 0, 0x007f⟩) (by simp [hx77_r, hb78]) rfl rfl (by simp [hx77_r, hb78]) (rv_cons (.cons (v_free (by simp) (by simp [hx77_r, hb78])) (.cons (v_free (by simp) (by simp [hx77_r, hb78])) (.cons (v_frz (L := ⟨2, ((List.map rGPathBind r75) ++ [[(eI s50.2.var), (.sl 1 12 (r76).length)]]), ((r75 ++ [(GPathBind.mk s50.2.var r76)])).length * 2, 0x008c⟩) (by simp [hx77_r, hb78]) rfl (by simp [hx77_r, hb78]) (by simp [hx77_r, hb78]) (rv_snocr (by simp) (rGPathBind_eq _) (.cons (v_free (by simp) (by simp [hx77_r, hb78])) (.cons (v_frz (by simp [hx77_r, hb78]; rfl) rfl (by simp [hx77_r, hb78]) (by simp [hx77_r, hb78]) (rv_free (by simp [hx77_r, hb78]) (by simp))) .nil)))) .nil))) rv_nil)) (.cons (lv (L := ⟨6, [(rGPattern r79)], 0, 0x0029⟩) (by simp [hx77_r, hb78]) rfl rfl (by simp [hx77_r, hb78]) (rv_free (by simp [hx77_r, hb78]) (by simp))) (.cons (lv (L := ⟨3, [[(eI 0), .nil, .nil]], 0, 0x007f⟩) (by simp [hx77_r, hb78]) rfl rfl (by simp [hx77_r, hb78]) (rv_cons (.cons (v_free (by simp) (by simp [hx77_r, hb78])) (.cons (v_free (by simp) (by simp)) (.cons (v_free (by simp) (by simp)) .nil))) rv_nil)) .nil)))
        · rw [if_neg (ne_true_of hb78)] at g59
          obtain ⟨x81, hx81, g59⟩ := bindE g59
          refine TrD.regK tysOk (fun K hK => ?_)
          simp [hx77_r, hb78, idx_inb hx81, idx_row hx81]
          refine hK _ ?_
          obtain rfl := Option.some.inj g59
          refine ToAny.mk ((r75 ++ [(GPathBind.mk s50.2.var r76)]), x81) rfl ?_
          rw [hS52]
          refine (Ghost.raise 12 (by simp [hx77_r, hb78, idx_inb hx81, idx_row hx81]; rfl)).trans ?_
          refine (Ghost.raise 27 (by simp [hx77_r, hb78, idx_inb hx81, idx_row hx81]; rfl)).trans ?_
          exact Ghost.canonV 0 [0, 1, 2] _ _ hβ (keep_first (by decide)) (by decide) (vT_upd (v_of (d0 := (.ptr 3 2 0 0)) (by simp [hx77_r, hb78, idx_inb hx81, idx_row hx81]) (v_ptr rfl)) (vT_upd (v_of (d0 := (.ptr 6 1 0 0)) (by simp [hx77_r, hb78, idx_inb hx81, idx_row hx81]) (v_ptr rfl)) (vT_upd (v_of (d0 := (.ptr 3 0 0 0)) (by simp [hx77_r, hb78, idx_inb hx81, idx_row hx81]) (v_ptr rfl)) (vT_upd (v_of (d0 := (.slice 1 (List.map rI p2))) (by simp [hx77_r, hb78, idx_inb hx81, idx_row hx81]) (v_free (by simp) (by simp [hx77_r, hb78, idx_inb hx81, idx_row hx81]))) (vT_any _))))) (.cons (lv (L := ⟨3, [[(eI p0.clause), (.slice 6 (List.map rGPattern p0.pats)), (.sl 2 27 ((r75 ++ [(GPathBind.mk s50.2.var r76)])).length)]], 0, 0x007f⟩) (by simp [hx77_r, hb78, idx_inb hx81, idx_row hx81]) rfl rfl (by simp [hx77_r, hb78, idx_inb hx81, idx_row hx81]) (rv_cons (.cons (v_free (by simp) (by simp [hx77_r, hb78, idx_inb hx81, idx_row hx81])) (.cons (v_free (by simp) (by simp [hx77_r, hb78, idx_inb hx81, idx_row hx81])) (.cons (v_frz (L := ⟨2, ((List.map rGPathBind r75) ++ [[(eI s50.2.var), (.sl 1 12 (r76).length)]]), ((r75 ++ [(GPathBind.mk s50.2.var r76)])).length * 2, 0x008c⟩) (by simp [hx77_r, hb78, idx_inb hx81, idx_row hx81]) rfl (by simp [hx77_r, hb78, idx_inb hx81, idx_row hx81]) (by simp [hx77_r, hb78, idx_inb hx81, idx_row hx81]) (rv_snocr (by simp) (rGPathBind_eq _) (.cons (v_free (by simp) (by simp [hx77_r, hb78, idx_inb hx81, idx_row hx81])) (.cons (v_frz (by simp [hx77_r, hb78, idx_inb hx81, idx_row hx81]; rfl) rfl (by simp [hx77_r, hb78, idx_inb hx81, idx_row hx81]) (by simp [hx77_r, hb78, idx_inb hx81, idx_row hx81]) (rv_free (by simp [hx77_r, hb78, idx_inb hx81, idx_row hx81]) (by simp))) .nil)))) .nil))) rv_nil)) (.cons (lv (L := ⟨6, [(rGPattern x81)], 0, 0x0029⟩) (by simp [hx77_r, hb78, idx_inb hx81, idx_row hx81]) rfl rfl (by simp [hx77_r, hb78, idx_inb hx81, idx_row hx81]) (rv_free (by simp [hx77_r, hb78, idx_inb hx81, idx_row hx81]) (by simp))) (.cons (lv (L := ⟨3, [[(eI 0), .nil, .nil]], 0, 0x007f⟩) (by simp [hx77_r, hb78, idx_inb hx81, idx_row hx81]) rfl rfl (by simp [hx77_r, hb78, idx_inb hx81, idx_row hx81]) (rv_cons (.cons (v_free (by simp) (by simp [hx77_r, hb78, idx_inb hx81, idx_row hx81])) (.cons (v_free (by simp) (by simp)) (.cons (v_free (by simp) (by simp)) .nil))) rv_nil)) .nil)))
  · subst hz
    try dsimp only at h
    rw [congrFun hE53 s60]
    refine TrD.seq ?_
    refine TrD.ghost (σ' := ⟨(updD (updD (updD (fun _ => .any) 3 (.ptr 3 0 0 0)) 4 (.ptr 6 1 0 0)) 6 (.ptr 3 2 0 0)), hOfO [some ⟨3, [[(eI p0.clause), (.slice 6 (List.map rGPattern p0.pats)), (.slice 2 (List.map rGPathBind s60.1))]], 0, 0x007f⟩, some ⟨6, [(rGPattern s60.2)], 0, 0x0029⟩, some ⟨3, [[(eI 0), .nil, .nil]], 0, 0x007f⟩], 3, 42⟩) ?_ ?_
    · exact Ghost.canonV 0 [0, 1, 2] _ _ hβ (keep_first (by decide)) (by decide) (vT_upd (v_of (d0 := (.ptr 3 2 0 0)) (by simp) (v_ptr rfl)) (vT_upd (v_of (d0 := (.ptr 6 1 0 0)) (by simp) (v_ptr rfl)) (vT_upd (v_of (d0 := (.ptr 3 0 0 0)) (by simp) (v_ptr rfl)) (vT_any _)))) (.cons (lv (L := ⟨3, [[(eI p0.clause), (.slice 6 (List.map rGPattern p0.pats)), (.slice 2 (List.map rGPathBind s60.1))]], 0, 0x007f⟩) (by simp) rfl rfl (by simp) (rv_free (by simp) (by simp))) (.cons (lv (L := ⟨6, [(rGPattern s60.2)], 0, 0x0029⟩) (by simp) rfl rfl (by simp) (rv_free (by simp) (by simp))) (.cons (lv (L := ⟨3, [[(eI 0), .nil, .nil]], 0, 0x007f⟩) (by simp) rfl rfl (by simp) (rv_cons (.cons (v_free (by simp) (by simp)) (.cons (v_free (by simp) (by simp)) (.cons (v_free (by simp) (by simp)) .nil))) rv_nil)) .nil)))
    obtain ⟨r84, hr84, h⟩ := bindE h
    obtain ⟨x85, hx85, h⟩ := bindE h
    have hx85_r := (app_some hx85).2
    try simp only [List.length_append, List.length_cons, List.length_nil, List.length_map, Nat.zero_add, Nat.add_zero, Nat.reduceAdd, one_add_len, two_add_len] at hx85_r
    refine TrD.drawZ tysOk mixed [0, 1, 3, 2, 4, 5, 6, 7] [0, 1] [1048614] [] [40] (by rfl) rfl 2097152 (Nat.le_of_ble_eq_true rfl) (.inr ⟨Nat.le_of_ble_eq_true rfl, rfl⟩) (fun K hK => ?_)
    simp [hx85_r, (app_some hx85).1]
    refine callK (views_same _ _) (.same _ _) [] (c_slices_Clone_Pattern p0.pats _ hr84) (by decide) .nil (.cons (ren_le (by simp) (by simp [hx85_r, (app_some hx85).1])) .nil) (fun Hq86 qq86 hq86 => ?_)
    obtain ⟨rfl, rfl⟩ := hq86
    refine ⟨by simp, [some ⟨6, (List.map rGPattern r84), 0, 0x0029⟩], (.sl 6 2097153 (r84).length), (.cons (optRen_same (by simp)) .nil), (ren_sl (by rfl)), ?_⟩
    simp [setMany, newNames, hx85_r, (app_some hx85).1]
    refine hK _ ?_
    refine TrD.seq ?_
    refine TrD.regK tysOk (fun K hK => ?_)
    simp [hx85_r, (app_some hx85).1]
    refine hK _ ?_
    obtain rfl := Option.some.inj h
    refine TrD.ret ?_
    refine exitHG (σ' := ⟨(updD (fun _ => .any) 6 (.ptr 3 1 0 0)), hOfO [some ⟨6, (List.map rGPattern x85), 0, 0x0029⟩, some ⟨3, [[(eI p0.clause), (.sl 6 0 (x85).length), (.slice 2 (List.map rGPathBind s60.1))]], 0, 0x007f⟩], 2, 42⟩) ?_ ?_
    · exact Ghost.canonV 0 [2097160, 2] _ _ hβ (keep_first (by decide)) (by decide) (vT_upd (v_of (d0 := (.ptr 3 2 0 0)) (by simp [hx85_r, (app_some hx85).1]) (v_ptr rfl)) (vT_any _)) (.cons (lv (L := ⟨6, (List.map rGPattern x85), 0, 0x0029⟩) (by simp [hx85_r, (app_some hx85).1]) rfl rfl (by simp [hx85_r, (app_some hx85).1]) (rv_free (by simp [hx85_r, (app_some hx85).1]) (free_rows_of fr_GPattern _))) (.cons (lv (L := ⟨3, [[(eI p0.clause), (.sl 6 2097160 (x85).length), (.slice 2 (List.map rGPathBind s60.1))]], 0, 0x007f⟩) (by simp [hx85_r, (app_some hx85).1]) rfl rfl (by simp [hx85_r, (app_some hx85).1]) (rv_cons (.cons (v_free (by simp) (by simp [hx85_r, (app_some hx85).1])) (.cons (v_sl rfl) (.cons (v_free (by simp) (by simp [hx85_r, (app_some hx85).1])) .nil))) rv_nil)) .nil))
    · simp [resD]
      exact ⟨[some ⟨6, (List.map rGPattern x85), 0, 0x0029⟩], [some ⟨3, [[(eI p0.clause), (.sl 6 0 (x85).length), (.slice 2 (List.map rGPathBind s60.1))]], 0, 0x007f⟩], by simp, by simp, by simp, .inr ⟨by simp only [List.mem_cons, List.not_mem_nil, or_false, forall_eq_or_imp, forall_eq, List.length_cons, List.length_nil]; exact ren_agg (.cons (low_free (by simp)) (.cons (low_sl (by decide)) (.cons (low_free (by simp)) .nil))), by simp⟩, by simp [packD]⟩
instance i_impl_row_enter : ∀ (n : Nat) (p0 : Grow) (p1 : GPattern) (p2 : (List Int)), Ct (m_impl_row_enter n p0 p1 p2) fun res => CallsH Tryz.prog 0o00115 [] [(.agg (rGrow p0)), (.agg (rGPattern p1)), (.slice 1 (List.map rI p2))] (fun H d => H = [some ⟨6, List.map rGPattern res.pats, 0, 0x0029⟩] ∧ d = .agg [(eI res.clause), .sl 6 0 res.pats.length, (.slice 2 (List.map rGPathBind res.binds))]) := fun n p0 p1 p2 => ⟨c_impl_row_enter n p0 p1 p2⟩
end Go.Proofs.YtmkamncbkkahjaaGreat
set_option linter.unusedSimpArgs false
set_option linter.unusedVariables false
namespace Go.Proofs.YtmkamncbkkahjaaGreat
open Go Go.RowKit
set_option maxRecDepth 100000
set_option maxHeartbeats 20000000
instance i_impl_depths_of : ∀ (p0 : (List Int)) (p1 : GType), Ct (m_impl_depths_of p0 p1) fun res => CallsD Tryz.prog 0o00331 [.cptr (List.map cI p0), (.agg (rGType p1))] (fun d => d = (eI res)) :=
 au Tryz.func217 m_impl_depths_of.eq_1 (.o (.o (.i .z (.g [0, 3] [0] [] [] (.o (.d [0, 1, 2, 3, 4, 5, 6, 7, 8, 9] [0] [] .z))))))
end Go.Proofs.YtmkamncbkkahjaaGreat
set_option linter.unusedSimpArgs false
set_option linter.unusedVariables false
namespace Go.Proofs.YtmkamncbkkahjaaGreat
open Go Go.RowKit
set_option maxRecDepth 100000
set_option maxHeartbeats 20000000
instance i_impl_depths_ofCtor : ∀ (p0 : (List Int)) (p1 : (List GData)) (p2 : GType) (p3 : Int), Ct (m_impl_depths_ofCtor p0 p1 p2 p3) fun res => CallsD Tryz.prog 0o00330 [.cptr (List.map cI p0), (.slice 2 (List.map rGData p1)), (.agg (rGType p2)), (eI p3)] (fun d => d = (eI res)) :=
 au Tryz.func216 m_impl_depths_ofCtor.eq_1 (.o (.o (.o (.o (.o (.ls 16 (.f [9] [] [0, 9, 16, 17, 18] [] (fun (k68 : Nat) (s64 : Int) => [(9, eI s64), (18, eI (k68 : Int))]) (fun k68 s64 => []) (fun k68 s64 => .z) (fun s72 => .z))))))))
end Go.Proofs.YtmkamncbkkahjaaGreat
set_option linter.unusedSimpArgs false
set_option linter.unusedVariables false
namespace Go.Proofs.YtmkamncbkkahjaaGreat
open Go Go.RowKit
set_option maxRecDepth 100000
set_option maxHeartbeats 20000000
instance i_impl_depthsOf : ∀ (n : Nat) (p0 : (List GData)), Ct (m_impl_depthsOf n p0) fun res => CallsD Tryz.prog 0o00233 [(.slice 2 (List.map rGData p0))] (fun d => d = .cptr (List.map cI res)) :=
 au Tryz.func155 m_impl_depthsOf.eq_1 (.o (.o (.w [3] [16] [0, 3, 4] [16] (fun (s26777 : (List Int) × Bool) => [(4, eB s26777.2)]) (fun s26777 => [(16, some ⟨16, [(List.map cI s26777.1)], 0, 0x0120⟩)]) (fun s26777 => .i (.ls 0 (.f [0, 3, 4] [0] [0, 3, 4, 15, 16] [0] (fun (k30356 : Nat) (s30352 : (List Int) × Bool) => [(4, eB s30352.2), (16, eI (k30356 : Int))]) (fun k30356 s30352 => [(0, some ⟨16, [(List.map cI s30352.1)], 0, 0x0120⟩)]) (fun k30356 s30352 => .o (.w [0, 3, 4, 15, 16] [0] [0, 3, 4, 5, 6, 15, 16] [0] (fun (s31838 : (List Int) × Bool × Int) => [(4, eB s31838.2.1), (6, eI s31838.2.2)]) (fun s31838 => [(0, some ⟨16, [(List.map cI s31838.1)], 0, 0x0120⟩)]) (fun s31838 => .i (.o (.ls 28 (.f [0, 3, 4, 5, 6, 15, 16] [0] [0, 3, 4, 5, 6, 7, 15, 16, 28, 29, 30] [0, 41] (fun (k32093 : Nat) (s32089 : (List Int) × Bool) => [(4, eB s32089.2), (30, eI (k32093 : Int))]) (fun k32093 s32089 => [(0, some ⟨16, [(List.map cI s32089.1)], 0, 0x0120⟩)]) (fun k32093 s32089 => .o (.j 14 0 [0, 3, 4, 5, 6, 7, 15, 16, 28, 29, 30] [0, 1] (fun (s32117 : (List Int) × Bool) => [(4, eB s32117.2)]) (fun s32117 => [(0, some ⟨16, [(List.map cI s32117.1)], 0, 0x0120⟩)]) .z (fun _ => .z))) (fun s32097 => .z)))) .z) (fun s31846 => .z))) (fun s30360 => .z))) .z) (fun s26785 => .z))))
end Go.Proofs.YtmkamncbkkahjaaGreat
set_option linter.unusedSimpArgs false
set_option linter.unusedVariables false
namespace Go.Proofs.YtmkamncbkkahjaaGreat
open Go Go.RowKit
set_option maxRecDepth 100000
set_option maxHeartbeats 20000000
instance i_impl_newSpaces : ∀ (n : Nat) (p0 : (List GData)), Ct (m_impl_newSpaces n p0) fun res => CallsD Tryz.prog 0o00116 [(.slice 2 (List.map rGData p0))] (fun d => d = .cptr (rGspaces res)) :=
 au Tryz.func78 m_impl_newSpaces.eq_1 .z
end Go.Proofs.YtmkamncbkkahjaaGreat
set_option linter.unusedSimpArgs false
set_option linter.unusedVariables false
namespace Go.Proofs.YtmkamncbkkahjaaGreat
open Go Go.RowKit
set_option maxRecDepth 100000
set_option maxHeartbeats 20000000
set_option maxRecDepth 100000 in
theorem c_slices_Grow_column (p1 : Int) (res : (List Gcolumn)) (h : m_slices_Grow_column p1 = some res) : CallsH Tryz.prog 0o00336 [] [.nil, (eI p1)] (fun H d => H = [some ⟨3, List.map rGcolumn res, 0, 0x0088⟩] ∧ d = .sl 3 0 res.length) := by
  unfold m_slices_Grow_column at h
  refine CallsH.of (res := [.tmp 4]) tysOk Tryz.func222 (by decide) rfl (Nat.le_of_ble_eq_true rfl) rfl rfl (fun β hβ => ?_)
  refine TrD.seq ?_
  refine TrD.regK tysOk (fun K hK => ?_)
  simp
  refine hK _ ?_
  refine TrD.seq ?_
  refine TrD.seq ?_
  refine TrD.regK tysOk (fun K hK => ?_)
  simp
  refine hK _ ?_
  refine TrD.cond (b := ilt p1 0) (by simp) (fun hb2 => ?_) (fun hb2 => ?_)
  · rw [if_pos hb2] at h
    cases h
  · rw [if_neg (ne_true_of hb2)] at h
    refine TrD.skip ?_
    obtain ⟨o7, g9, h⟩ := bindE h
    obtain ⟨S8, hS8⟩ : ∃ S : Unit → St, S = fun s6 => ⟨(updD (fun _ => .any) 0 (.sl 3 0 0)), hOfO [some ⟨3, (List.map rGcolumn []), 0, 0x0088⟩], 1, 27⟩ := ⟨_, rfl⟩
    refine TrD.join S8 (fun z => o7 = Ctl.brk z) ?_ (fun s6 hz => ?_)
    · refine TrD.seq ?_
      refine TrD.regK tysOk (fun K hK => ?_)
      simp [hb2]
      refine hK _ ?_
      refine TrD.seq ?_
      refine TrD.regK tysOk (fun K hK => ?_)
      simp [hb2]
      refine hK _ ?_
      refine TrD.cond (b := ilt 0 (wsub .i64 p1 (wsub .i64 0 (lenZ 0)))) (by simp [hb2]) (fun hb10 => ?_) (fun hb10 => ?_)
      · rw [if_pos hb10] at g9
        obtain ⟨x11, hx11, g9⟩ := bindE g9
        obtain ⟨x12, hx12, g9⟩ := bindE g9
        refine TrD.regK tysOk (fun K hK => ?_)
        simp [hb2, hb10, eq_of_chk0 hx11, mkS_len hx12, (mkS_some hx12).2.1, (mkS_some hx12).2.2, headOk0]
        refine hK _ ?_
        obtain rfl := Option.some.inj g9
        refine ToAny.mk () rfl ?_
        rw [hS8]
        refine (Ghost.shrink (rows' := []) 144 0 (by simp [hb2, hb10, eq_of_chk0 hx11, mkS_len hx12, (mkS_some hx12).2.1, (mkS_some hx12).2.2, headOk0]; rfl) (by simp) (by simp) (by simp)).trans ?_
        exact Ghost.canonV 0 [144] _ _ hβ (keep_first (by decide)) (by decide) (vT_upd (v_of (d0 := (.sl 3 144 0)) (by simp [hb2, hb10, eq_of_chk0 hx11, mkS_len hx12, (mkS_some hx12).2.1, (mkS_some hx12).2.2, headOk0]) (v_sl rfl)) (vT_any _)) (.cons (lv (L := ⟨3, (List.map rGcolumn []), 0, 0x0088⟩) (by simp [hb2, hb10, eq_of_chk0 hx11, mkS_len hx12, (mkS_some hx12).2.1, (mkS_some hx12).2.2, headOk0]) rfl rfl (by simp [hb2, hb10, eq_of_chk0 hx11, mkS_len hx12, (mkS_some hx12).2.1, (mkS_some hx12).2.2, headOk0]) (rv_free (by simp [hb2, hb10, eq_of_chk0 hx11, mkS_len hx12, (mkS_some hx12).2.1, (mkS_some hx12).2.2, headOk0]) (free_rows_of fr_Gcolumn _))) .nil)
      · rw [if_neg (ne_true_of hb10)] at g9
        refine TrD.skip ?_
        obtain rfl := Option.some.inj g9
        refine ToAny.mk () rfl ?_
        rw [hS8]
        refine (Ghost.ownNil (s := 0) (by simp [hb2, hb10]) 3 0x0088).trans ?_
        exact Ghost.canonV 0 [104] _ _ hβ (keep_first (by decide)) (by decide) (vT_upd (v_of (d0 := (.sl 3 104 0)) (by simp [hb2, hb10]) (v_sl rfl)) (vT_any _)) (.cons (lv (L := ⟨3, (List.map rGcolumn []), 0, 0x0088⟩) (by simp [hb2, hb10]) rfl rfl (by simp [hb2, hb10]) (rv_free (by simp [hb2, hb10]) (free_rows_of fr_Gcolumn _))) .nil)
    · subst hz
      try dsimp only at h
      rw [congrFun hS8 s6]
      refine TrD.seq ?_
      refine TrD.regK tysOk (fun K hK => ?_)
      simp [hb2]
      refine hK _ ?_
      obtain rfl := Option.some.inj h
      refine TrD.ret ?_
      refine exitHG (σ' := ⟨(updD (fun _ => .any) 4 (.sl 3 0 0)), hOfO [some ⟨3, (List.map rGcolumn []), 0, 0x0088⟩], 1, 27⟩) ?_ ?_
      · exact Ghost.canonV 0 [0] _ _ hβ (keep_first (by decide)) (by decide) (vT_upd (v_of (d0 := (.sl 3 0 0)) (by simp [hb2]) (v_sl rfl)) (vT_any _)) (.cons (lv (L := ⟨3, (List.map rGcolumn []), 0, 0x0088⟩) (by simp [hb2]) rfl rfl (by simp [hb2]) (rv_free (by simp [hb2]) (free_rows_of fr_Gcolumn _))) .nil)
      · dsimp only [resD]
        exact ⟨[some ⟨3, (List.map rGcolumn []), 0, 0x0088⟩], [], rfl, by simp, by simp, .inl rfl, by simp [packD]⟩
instance i_slices_Grow_column : ∀ (p1 : Int), Ct (m_slices_Grow_column p1) fun res => CallsH Tryz.prog 0o00336 [] [.nil, (eI p1)] (fun H d => H = [some ⟨3, List.map rGcolumn res, 0, 0x0088⟩] ∧ d = .sl 3 0 res.length) := fun p1 => ⟨c_slices_Grow_column p1⟩
end Go.Proofs.YtmkamncbkkahjaaGreat
set_option linter.unusedSimpArgs false
set_option linter.unusedVariables false
namespace Go.Proofs.YtmkamncbkkahjaaGreat
open Go Go.RowKit
set_option maxRecDepth 100000
set_option maxHeartbeats 20000000
instance i_slices_Concat_column : ∀ (p0 : (List (List Gcolumn))), Ct (m_slices_Concat_column p0) fun res => CallsD Tryz.prog 0o00240 [(.slice 1 (List.map (rL 3 rGcolumn) p0))] (fun d => d = (.slice 3 (List.map rGcolumn res))) :=
 au Tryz.func160 m_slices_Concat_column.eq_1 (.o (.ls 0 (.f [0, 3] [] [0, 3, 9, 10, 11] [] (fun (k46 : Nat) (s42 : Int) => [(3, eI s42), (11, eI (k46 : Int))]) (fun k46 s42 => []) (fun k46 s42 => .z) (fun s50 => .o (.ls 0 (.f [6] [9] [6, 25, 26, 27] [9] (fun (k99 : Nat) (s95 : (List Gcolumn)) => [(6, .sl 3 9 (s95).length), (27, eI (k99 : Int))]) (fun k99 s95 => [(9, some ⟨3, (List.map rGcolumn s95), 0, 0x0088⟩)]) (fun k99 s95 => .z) (fun s103 => .z)))))))
end Go.Proofs.YtmkamncbkkahjaaGreat
set_option linter.unusedSimpArgs false
set_option linter.unusedVariables false
namespace Go.Proofs.YtmkamncbkkahjaaGreat
open Go Go.RowKit
set_option maxRecDepth 100000
set_option maxHeartbeats 20000000
instance i_impl_compiling_branches : ∀ (n : Nat) (p0 : Gcompiling) (p1 : (List Grow)) (p2 : (List Gcolumn)) (p3 : Int), Ct (m_impl_compiling_branches n p0 p1 p2 p3) fun res => CallsH Tryz.prog 0o00236 [⟨4, [(rGcompiling p0)], 0, 0x0085⟩] [.ptr 4 0 0 0, (.slice 3 (List.map rGrow p1)), (.slice 3 (List.map rGcolumn p2)), (eI p3)] (fun H d => H = [some ⟨4, [(rGcompiling res.2)], 0, 0x0085⟩] ∧ d = (.slice 9 (List.map rGBranch res.1))) :=
 au Tryz.func158 m_impl_compiling_branches.eq_1 (.o (.o (.o (.o (.o (.o (.i (.g [0, 9, 10] [0, 57] [] [] (.o (.d [0, 1, 2, 3, 4, 5, 6, 7, 10, 8, 9] [0, 1] [] (.pN 9 9 0x008e (.ls 35 (.f [9] [0, 10] [0, 9, 10, 35, 36, 37] [0, 10, 1] (fun (k182 : Nat) (s178 : (List GBranch)) => [(9, .sl 9 10 (s178).length), (37, eI (k182 : Int))]) (fun k182 s178 => [(10, some ⟨9, (List.map rGBranch s178), 0, 0x008e⟩)]) (fun k182 s178 => .o (.j 6 0 [0, 9, 10, 35, 36, 37] [0, 1, 2] (fun (s190 : (List GBranch)) => [(9, .sl 9 1 (s190).length)]) (fun s190 => [(1, some ⟨9, (List.map rGBranch s190), 0, 0x008e⟩)]) (.g [0, 9, 10, 12, 35, 36, 37] [0, 1, 2] [] [] (.o (.d [0, 1, 2, 3, 4, 5, 6, 7, 8, 9, 10, 11, 12, 13, 14, 15, 16, 17] [0, 2] [] .z))) (fun _ => .z))) (fun s186 => .pF 1 .z))))))) (.ls 1 (.f [9, 13] [0, 97] [3, 9, 13, 67, 68, 69] [0, 97] (fun (k286 : Nat) (s282 : (List Bool)) => [(69, eI (k286 : Int))]) (fun k286 s282 => [(97, some ⟨11, [(List.map cB s282)], 0, 0x0124⟩)]) (fun k286 s282 => .o (.j 15 0 [3, 9, 13, 67, 68, 69] [0, 1] (fun (s295 : (List Bool)) => []) (fun s295 => [(1, some ⟨11, [(List.map cB s295)], 0, 0x0124⟩)]) (.o (.i (.g [3, 9, 13, 16, 67, 68, 69] [0, 1, 82] [] [] (.o (.o (.d [0, 1, 2, 3, 4, 5, 6, 7, 8] [2] [] .z)))) .z)) (fun _ => .z))) (fun s290 => .pN 9 9 0x008e (.w [9] [0, 18] [9, 13, 17, 18] [0, 18, 1] (fun (s374 : (List GBranch) × Int × Int) => [(9, .sl 9 18 (s374.1).length), (17, eI s374.2.1), (18, eI s374.2.2)]) (fun s374 => [(18, some ⟨9, (List.map rGBranch s374.1), 0, 0x008e⟩)]) (fun s374 => .i (.j 24 0 [9, 13, 17, 18] [0, 1, 2] (fun (s388 : (List GBranch) × Int) => [(9, .sl 9 1 (s388.1).length), (17, eI s388.2)]) (fun s388 => [(1, some ⟨9, (List.map rGBranch s388.1), 0, 0x008e⟩)]) .z (fun _ => .z)) .z) (fun s382 => .pF 1 .z))))))))))))
end Go.Proofs.YtmkamncbkkahjaaGreat
set_option linter.unusedSimpArgs false
set_option linter.unusedVariables false
namespace Go.Proofs.YtmkamncbkkahjaaGreat
open Go Go.RowKit
set_option maxRecDepth 100000
set_option maxHeartbeats 20000000
instance i_impl_compiling_choose : ∀ (n : Nat) (p0 : Gcompiling) (p1 : (List Grow)) (p2 : (List Gcolumn)), Ct (m_impl_compiling_choose n p0 p1 p2) fun res => CallsH Tryz.prog 0o00234 [⟨4, [(rGcompiling p0)], 0, 0x0085⟩] [.ptr 4 0 0 0, (.slice 3 (List.map rGrow p1)), (.slice 3 (List.map rGcolumn p2))] (fun H d => H = [some ⟨4, [(rGcompiling res.2)], 0, 0x0085⟩] ∧ d = (eI res.1)) :=
 au Tryz.func156 m_impl_compiling_choose.eq_1 (.o (.o (.o (.o (.ls 2 (.f [7] [0] [0, 1, 2, 7, 8, 14, 15] [0] (fun (k887 : Nat) (s883 : Gcompiling × Int × Int) => [(7, eI s883.2.1), (8, eI s883.2.2), (15, eI (k887 : Int))]) (fun k887 s883 => [(0, some ⟨4, [(rGcompiling s883.1)], 0, 0x0085⟩)]) (fun k887 s883 => .o (.j 4 0 [0, 1, 2, 7, 8, 14, 15] [0] (fun (s976 : Gcompiling × Int × Int) => [(7, eI s976.2.1), (8, eI s976.2.2)]) (fun s976 => [(0, some ⟨4, [(rGcompiling s976.1)], 0, 0x0085⟩)]) (.o (.o (.i .z (.j 7 0 [0, 1, 2, 7, 8, 9, 10, 14, 15] [0] (fun (s1020 : Gcompiling × Int) => [(10, eI s1020.2)]) (fun s1020 => [(0, some ⟨4, [(rGcompiling s1020.1)], 0, 0x0085⟩)]) (.i (.ls 1 (.f [0, 1, 2, 7, 8, 9, 10, 14, 15] [0] [0, 1, 2, 7, 8, 9, 10, 14, 15, 33, 34, 35] [0] (fun (k1044 : Nat) (s1040 : Int) => [(10, eI s1040), (35, eI (k1044 : Int))]) (fun k1044 s1040 => []) (fun k1044 s1040 => .o (.j 11 0 [0, 1, 2, 7, 8, 9, 10, 14, 15, 33, 34, 35] [0] (fun (s1051 : Int) => [(10, eI s1051)]) (fun _ => []) .z (fun _ => .z))) (fun s1048 => .z))) .z) (fun _ => .z))))) (fun _ => .z))) (fun s891 => .z)))))))
end Go.Proofs.YtmkamncbkkahjaaGreat
