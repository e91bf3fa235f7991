import Derived.Test.YtmkamncbkkahjaaGreatJMir
import Derived.Test.YtmkamncbkkahjaaGreatJAuto
import Derived.Test.YtmkamncbkkahjaaGreatJC5
import Derived.Test.YtmkamncbkkahjaaGreatJAuI
import Derived.Test.YtmkamncbkkahjaaGreatJC3
import Derived.Test.YtmkamncbkkahjaaGreatJC2
import Derived.Test.YtmkamncbkkahjaaGreatJC4
set_option linter.unusedSimpArgs false
set_option linter.unusedVariables false
set_option linter.unusedSimpArgs false
set_option linter.unusedVariables false
namespace Go.Proofs.YtmkamncbkkahjaaGreat
open Go Go.RowKit
set_option maxRecDepth 100000
set_option maxHeartbeats 20000000
instance i_impl_compiling_leaf_1 : ∀ (p0 : GPathBind) (p1 : GPathBind), Ct (m_impl_compiling_leaf_1 p0 p1) fun res => CallsD Tryz.prog 0o00332 [(.agg (rGPathBind p0)), (.agg (rGPathBind p1))] (fun d => d = (eI res)) :=
 au Tryz.func218 m_impl_compiling_leaf_1.eq_1 .z
end Go.Proofs.YtmkamncbkkahjaaGreat
set_option linter.unusedSimpArgs false
set_option linter.unusedVariables false
namespace Go.Proofs.YtmkamncbkkahjaaGreat
open Go Go.RowKit
set_option maxRecDepth 100000
set_option maxHeartbeats 20000000
set_option maxRecDepth 100000 in
theorem c_slices_IndexFunc_row (p0 : (List Grow)) (p1_f : FuncId) (p1_c : List D) (p1_x : ∀ d ∈ p1_c, Free d) (p1 : (Grow → Option Bool)) (p1_h : ∀ a0 r, p1 a0 = some r → CallsD Tryz.prog p1_f ([(.agg (rGrow a0))] ++ p1_c) (fun d => d = (eB r))) (res : Int) (h : m_slices_IndexFunc_row p0 p1 = some res) : CallsD Tryz.prog 0o00422 [(.slice 3 (List.map rGrow p0)), .clos p1_f p1_c] (fun d => d = (eI res)) := by
  unfold m_slices_IndexFunc_row at h
  have p1_y : Free (.clos p1_f p1_c) := free_clos p1_x
  have p1_z := eq_true p1_x
  refine CallsD.of (res := [.tmp 4]) tysOk Tryz.func274 (by decide) rfl (Nat.le_of_ble_eq_true rfl) rfl rfl (fun β hβ0 => ?_)
  have hβ : ∀ k x, β.c0.M k = some x → k < 0 := fun k x hx => by rw [hβ0] at hx; cases hx
  refine TrD.seq ?_
  refine TrD.regK tysOk (fun K hK => ?_)
  simp
  refine hK _ ?_
  refine TrD.seq ?_
  refine TrD.seq ?_
  refine TrD.regK tysOk (fun K hK => ?_)
  simp
  refine hK _ ?_
  obtain ⟨o61, g63, h⟩ := bindE h
  obtain ⟨E65, hE65⟩ : ∃ S : Unit → St, S = fun s72 => ⟨(fun _ => .any), hOfO [], 0, 19⟩ := ⟨_, rfl⟩
  refine TrD.joinQ E65 (fun z => o61 = Ctl.brk z) (fun _ _ hg h => TrD.ghost hg h) ?_ (fun s72 hz => ?_)
  · refine TrD.block ?_
    obtain ⟨S64, hS64⟩ : ∃ S : Nat → Unit → St, S = fun k68 s62 => ⟨(updD (updD (updD (updD (fun _ => .any) 0 (.slice 3 (List.map rGrow p0))) 1 (.clos p1_f p1_c)) 7 (eI (lenZ p0.length))) 8 (eI (k68 : Int))), hOfO [], 0, 19⟩ := ⟨_, rfl⟩
    refine TrD.limS (sz := 3) (rows := List.map rGrow p0) (seen_slot (d := .slice 3 (List.map rGrow p0)) 0 (by simp [p1_y, p1_z])) (fun hlim => ?_)
    rw [List.length_map] at hlim
    refine TrD.forL S64 g63 hlim ?_ (fun k68 x69 s62 k68_i k68_g k68_l k68_lt k68_w o70 g71 hret66 hbrk67 => ?_) (fun s62 s62_stop => ?_)
    · rw [hS64]
      exact Ghost.canonV 0 [] _ _ hβ (keep_first (by decide)) (by decide) (vT_upd (v_of (d0 := (eI 0)) (by simp [p1_y, p1_z]) (v_free (by simp [p1_y, p1_z]) (by simp [p1_y, p1_z]))) (vT_upd (v_of (d0 := (eI (lenZ p0.length))) (by simp [p1_y, p1_z]) (v_free (by simp [p1_y, p1_z]) (by simp [p1_y, p1_z]))) (vT_upd (v_of (d0 := (.clos p1_f p1_c)) (by simp [p1_y, p1_z]) (v_free (by simp [p1_y, p1_z]) (by simp [p1_y, p1_z]))) (vT_upd (v_of (d0 := (.slice 3 (List.map rGrow p0))) (by simp [p1_y, p1_z]) (v_free (by simp [p1_y, p1_z]) (by simp [p1_y, p1_z]))) (vT_any _))))) .nil
    · rw [congrFun (congrFun hS64 k68) s62]
      refine TrD.seq ?_
      refine TrD.regK tysOk (fun K hK => ?_)
      simp [k68_lt, idx_inb k68_i, idx_row k68_i, k68_g, k68_l, elt k68_g]
      refine hK _ ?_
      refine TrD.seq ?_
      refine TrD.cond (b := true) (by simp [p1_y, p1_z, k68_lt, idx_inb k68_i, idx_row k68_i, k68_g, k68_l, elt k68_g]) (fun hb => ?_) (fun hb => by cases hb)
      refine TrD.skip ?_
      refine TrD.seq ?_
      refine TrD.block ?_
      refine TrD.seq ?_
      refine TrD.regK tysOk (fun K hK => ?_)
      simp [k68_lt, idx_inb k68_i, idx_row k68_i, k68_g, k68_l, elt k68_g]
      refine hK _ ?_
      refine TrD.seq ?_
      obtain ⟨r76, hr76, g71⟩ := bindE g71
      refine TrD.regK tysOk (fun K hK => ?_)
      simp [k68_lt, idx_inb k68_i, idx_row k68_i, k68_g, k68_l, elt k68_g]
      refine callP (p1_h x69 _ hr76) (by simp [p1_y, p1_z, k68_lt, idx_inb k68_i, idx_row k68_i, k68_g, k68_l, elt k68_g]) (by simp [p1_y, p1_z]) (fun q78 hq78 => ?_)
      subst hq78
      simp [k68_lt, idx_inb k68_i, idx_row k68_i, k68_g, k68_l, elt k68_g]
      refine hK _ ?_
      refine TrD.cond (b := r76) (by simp [p1_y, p1_z, k68_lt, idx_inb k68_i, idx_row k68_i, k68_g, k68_l, elt k68_g]) (fun hb77 => ?_) (fun hb77 => ?_)
      · rw [if_pos hb77] at g71
        refine TrD.seq ?_
        refine TrD.regK tysOk (fun K hK => ?_)
        simp [k68_lt, idx_inb k68_i, idx_row k68_i, k68_g, k68_l, elt k68_g, hb77]
        refine hK _ ?_
        obtain rfl := Option.some.inj g71
        obtain rfl := hret66 _ rfl
        obtain rfl := Option.some.inj h
        refine TrD.ret ?_
        refine exitDG (σ' := ⟨(updD (fun _ => .any) 4 (eI (k68 : Int))), hOfO [], 0, 19⟩) ?_ ?_
        · exact Ghost.canonV 0 [] _ _ hβ (keep_first (by decide)) (by decide) (vT_upd (v_of (d0 := (eI (k68 : Int))) (by simp [p1_y, p1_z, k68_lt, idx_inb k68_i, idx_row k68_i, k68_g, k68_l, elt k68_g, hb77]) (v_free (by simp [p1_y, p1_z]) (by simp [p1_y, p1_z, k68_lt, idx_inb k68_i, idx_row k68_i, k68_g, k68_l, elt k68_g, hb77]))) (vT_any _)) .nil
        · dsimp only [resD]
          refine endF ?_ ?_ <;> simp [packD]
      · rw [if_neg (ne_true_of hb77)] at g71
        refine TrD.skip ?_
        refine TrD.regK tysOk (fun K hK => ?_)
        simp [k68_lt, idx_inb k68_i, idx_row k68_i, k68_g, k68_l, elt k68_g, hb77]
        refine hK _ ?_
        obtain rfl := Option.some.inj g71
        refine ToAny.mk () rfl ?_
        rw [hS64]
        exact Ghost.canonV 0 [] _ _ hβ (keep_first (by decide)) (by decide) (vT_upd (v_of (d0 := (eI (wadd .i64 (k68 : Int) 1))) (by simp [p1_y, p1_z, k68_lt, idx_inb k68_i, idx_row k68_i, k68_g, k68_l, elt k68_g, hb77, k68_w]) (v_free (by simp [p1_y, p1_z]) (by simp [p1_y, p1_z, k68_lt, idx_inb k68_i, idx_row k68_i, k68_g, k68_l, elt k68_g, hb77, k68_w]))) (vT_upd (v_of (d0 := (eI (lenZ p0.length))) (by simp [p1_y, p1_z, k68_lt, idx_inb k68_i, idx_row k68_i, k68_g, k68_l, elt k68_g, hb77, k68_w]) (v_free (by simp [p1_y, p1_z]) (by simp [p1_y, p1_z, k68_lt, idx_inb k68_i, idx_row k68_i, k68_g, k68_l, elt k68_g, hb77, k68_w]))) (vT_upd (v_of (d0 := (.clos p1_f p1_c)) (by simp [p1_y, p1_z, k68_lt, idx_inb k68_i, idx_row k68_i, k68_g, k68_l, elt k68_g, hb77, k68_w]) (v_free (by simp [p1_y, p1_z]) (by simp [p1_y, p1_z, k68_lt, idx_inb k68_i, idx_row k68_i, k68_g, k68_l, elt k68_g, hb77, k68_w]))) (vT_upd (v_of (d0 := (.slice 3 (List.map rGrow p0))) (by simp [p1_y, p1_z, k68_lt, idx_inb k68_i, idx_row k68_i, k68_g, k68_l, elt k68_g, hb77, k68_w]) (v_free (by simp [p1_y, p1_z]) (by simp [p1_y, p1_z, k68_lt, idx_inb k68_i, idx_row k68_i, k68_g, k68_l, elt k68_g, hb77, k68_w]))) (vT_any _))))) .nil
    · rw [congrFun (congrFun hS64 _) s62]
      refine TrD.seq ?_
      refine TrD.regK tysOk (fun K hK => ?_)
      simp [ilt_len p0.length]
      refine hK _ ?_
      refine TrD.seq ?_
      refine TrD.cond (b := false) (by simp [p1_y, p1_z, ilt_len p0.length]) (fun hb => by cases hb) (fun hb => ?_)
      refine TrD.exit ?_
      try simp only [↓reduceIte, Nat.reduceEqDiff, Nat.zero_ne_one, Nat.one_ne_zero, OfNat.ofNat_ne_zero, OfNat.zero_ne_ofNat, OfNat.one_ne_ofNat, OfNat.ofNat_ne_one]
      refine ToAny.mk s62 s62_stop ?_
      rw [hE65]
      exact Ghost.canonV 0 [] _ _ hβ (keep_first (by decide)) (by decide) (vT_any _) .nil
  · subst hz
    try dsimp only at h
    rw [congrFun hE65 s72]
    refine TrD.seq ?_
    refine TrD.regK tysOk (fun K hK => ?_)
    simp
    refine hK _ ?_
    obtain rfl := Option.some.inj h
    refine TrD.ret ?_
    refine exitDG (σ' := ⟨(updD (fun _ => .any) 4 (eI (-1))), hOfO [], 0, 19⟩) ?_ ?_
    · exact Ghost.canonV 0 [] _ _ hβ (keep_first (by decide)) (by decide) (vT_upd (v_of (d0 := (eI (-1))) (by simp [p1_y, p1_z]) (v_free (by simp [p1_y, p1_z]) (by simp [p1_y, p1_z]))) (vT_any _)) .nil
    · dsimp only [resD]
      refine endF ?_ ?_ <;> simp [packD]
instance i_slices_IndexFunc_row (p0 : (List Grow)) (p1 : (Grow → Option Bool)) {p1_f : FuncId} {p1_c : List D} [p1_i : CF1 (fun a0 => (.agg (rGrow a0))) (fun r => (eB r)) p1 p1_f p1_c] : Ct (m_slices_IndexFunc_row p0 p1) fun res => CallsD Tryz.prog 0o00422 [(.slice 3 (List.map rGrow p0)), .clos p1_f p1_c] (fun d => d = (eI res)) := ⟨c_slices_IndexFunc_row p0 p1_f p1_c p1_i.fr p1 p1_i.h⟩
end Go.Proofs.YtmkamncbkkahjaaGreat
set_option linter.unusedSimpArgs false
set_option linter.unusedVariables false
namespace Go.Proofs.YtmkamncbkkahjaaGreat
open Go Go.RowKit
set_option maxRecDepth 100000
set_option maxHeartbeats 20000000
set_option maxRecDepth 100000 in
theorem c_slices_DeleteFunc_row (n : Nat) (p0 : (List Grow)) (p1_f : FuncId) (p1_c : List D) (p1_x : ∀ d ∈ p1_c, Free d) (p1 : (Grow → Option Bool)) (p1_h : ∀ a0 r, p1 a0 = some r → CallsD Tryz.prog p1_f ([(.agg (rGrow a0))] ++ p1_c) (fun d => d = (eB r))) (res : (List Grow)) (h : m_slices_DeleteFunc_row n p0 p1 = some res) : CallsH Tryz.prog 0o00333 [⟨3, List.map rGrow p0, 0, 0x007f⟩] [.sl 3 0 p0.length, .clos p1_f p1_c] (fun H d => H = [none, some ⟨3, List.map rGrow res, 0, 0x007f⟩] ∧ d = .sl 3 1 res.length) := by
  unfold m_slices_DeleteFunc_row at h
  have p1_y : Free (.clos p1_f p1_c) := free_clos p1_x
  have p1_z := eq_true p1_x
  refine CallsH.of (res := [.tmp 4]) tysOk Tryz.func219 (by decide) rfl (Nat.le_of_ble_eq_true rfl) rfl rfl (fun β hβ => ?_)
  refine TrD.seq ?_
  refine TrD.regK tysOk (fun K hK => ?_)
  simp
  refine hK _ ?_
  refine TrD.seq ?_
  obtain ⟨r1, hr1, h⟩ := bindE h
  refine TrD.regK tysOk (fun K hK => ?_)
  simp
  refine callB (.cons (.sl _ _ _ _ _ (by simp; rfl) rfl (by simp [p1_y, p1_z, ]) (by simp [p1_y, p1_z])) (.cons (.same _ _) (.nil _))) (c_slices_IndexFunc_row p0 p1_f p1_c p1_x p1 p1_h _ hr1) (by simp [p1_y, p1_z]) (by simp [p1_y, p1_z]) (fun q143 hq143 => ?_)
  subst hq143
  refine ⟨by simp, ?_⟩
  simp
  refine hK _ ?_
  refine TrD.seq ?_
  refine TrD.seq ?_
  refine TrD.regK tysOk (fun K hK => ?_)
  simp
  refine hK _ ?_
  refine TrD.cond (b := ieq r1 (-1)) (by simp [p1_y, p1_z]) (fun hb3 => ?_) (fun hb3 => ?_)
  · rw [if_pos hb3] at h
    refine TrD.seq ?_
    refine TrD.regK tysOk (fun K hK => ?_)
    simp [hb3]
    refine hK _ ?_
    obtain rfl := Option.some.inj h
    refine TrD.ret ?_
    refine exitHG (σ' := ⟨(updD (fun _ => .any) 4 (.sl 3 1 (p0).length)), hOfO [none, some ⟨3, (List.map rGrow p0), 0, 0x007f⟩], 2, 42⟩) ?_ ?_
    · refine (Ghost.move (sz := 3) (k := 0) (n := (p0).length) (L := ⟨3, (List.map rGrow p0), 0, 0x007f⟩) 4 (by simp [p1_y, p1_z, hb3]) (by simp [p1_y, p1_z, hb3])).trans ?_
      exact Ghost.canonV 1 [0, 73] _ _ hβ (keep_first (by decide)) (by decide) (vT_upd (v_of (d0 := (.sl 3 73 (p0).length)) (by simp [p1_y, p1_z, hb3]) (v_sl rfl)) (vT_any _)) (.cons lv_none (.cons (lv (L := ⟨3, (List.map rGrow p0), 0, 0x007f⟩) (by simp [p1_y, p1_z, hb3]) rfl rfl (by simp [p1_y, p1_z, hb3]) (rv_free (by simp [p1_y, p1_z, hb3]) (free_rows_of fr_Grow _))) .nil))
    · dsimp only [resD]
      exact ⟨[none, some ⟨3, (List.map rGrow p0), 0, 0x007f⟩], [], rfl, by simp, by simp, .inl rfl, by simp [packD]⟩
  · rw [if_neg (ne_true_of hb3)] at h
    refine TrD.skip ?_
    refine TrD.seq ?_
    refine TrD.seq ?_
    refine TrD.regK tysOk (fun K hK => ?_)
    simp [hb3]
    refine hK _ ?_
    obtain ⟨o112, g114, h⟩ := bindE h
    obtain ⟨E116, hE116⟩ : ∃ S : ((List Grow) × Int × Int) → St, S = fun s123 => ⟨(updD (updD (fun _ => .any) 0 (.sl 3 0 (s123.1).length)) 5 (eI s123.2.1)), hOfO [some ⟨3, (List.map rGrow s123.1), 0, 0x007f⟩], 1, 42⟩ := ⟨_, rfl⟩
    refine TrD.joinQ E116 (fun z => o112 = Ctl.brk z) (fun _ _ hg h => TrD.ghost hg h) ?_ (fun s123 hz => ?_)
    · refine TrD.block ?_
      obtain ⟨S115, hS115⟩ : ∃ S : ((List Grow) × Int × Int) → St, S = fun s113 => ⟨(updD (updD (updD (updD (fun _ => .any) 0 (.sl 3 0 (s113.1).length)) 1 (.clos p1_f p1_c)) 5 (eI s113.2.1)) 6 (eI s113.2.2)), hOfO [some ⟨3, (List.map rGrow s113.1), 0, 0x007f⟩], 1, 42⟩ := ⟨_, rfl⟩
      refine TrD.whileL S115 g114 ?_ (fun s113 o121 g122 hret117 hbrk118 => ?_)
      · rw [hS115]
        exact Ghost.canonV 1 [0] _ _ hβ (keep_first (by decide)) (by decide) (vT_upd (v_of (d0 := (eI (wadd .i64 r1 1))) (by simp [p1_y, p1_z, hb3]) (v_free (by simp [p1_y, p1_z]) (by simp [p1_y, p1_z, hb3]))) (vT_upd (v_of (d0 := (eI r1)) (by simp [p1_y, p1_z, hb3]) (v_free (by simp [p1_y, p1_z]) (by simp [p1_y, p1_z, hb3]))) (vT_upd (v_of (d0 := (.clos p1_f p1_c)) (by simp [p1_y, p1_z, hb3]) (v_free (by simp [p1_y, p1_z]) (by simp [p1_y, p1_z, hb3]))) (vT_upd (v_of (d0 := (.sl 3 0 (p0).length)) (by simp [p1_y, p1_z, hb3]) (v_sl rfl)) (vT_any _))))) (.cons (lv (L := ⟨3, (List.map rGrow p0), 0, 0x007f⟩) (by simp [p1_y, p1_z, hb3]) rfl rfl (by simp [p1_y, p1_z, hb3]) (rv_free (by simp [p1_y, p1_z, hb3]) (free_rows_of fr_Grow _))) .nil)
      · rw [congrFun hS115 s113]
        refine TrD.seq ?_
        refine TrD.seq ?_
        refine TrD.regK tysOk (fun K hK => ?_)
        simp [hb3]
        refine hK _ ?_
        refine TrD.cond (b := ilt s113.2.2 (lenZ s113.1.length)) (by simp [p1_y, p1_z, hb3]) (fun hb125 => ?_) (fun hb125 => ?_)
        · rw [if_pos hb125] at g122
          refine TrD.skip ?_
          obtain ⟨o133, g135, g122⟩ := bindE g122
          obtain ⟨S134, hS134⟩ : ∃ S : (List Grow) × Int → St, S = fun s132 => ⟨(updD (updD (updD (updD (fun _ => .any) 0 (.sl 3 0 (s132.1).length)) 1 (.clos p1_f p1_c)) 5 (eI s132.2)) 6 (eI s113.2.2)), hOfO [some ⟨3, (List.map rGrow s132.1), 0, 0x007f⟩], 1, 42⟩ := ⟨_, rfl⟩
          refine TrD.join S134 (fun z => o133 = Ctl.brk z) ?_ (fun s132 hz => ?_)
          · refine TrD.block ?_
            refine TrD.seq ?_
            obtain ⟨x136, hx136, g135⟩ := bindE g135
            refine TrD.regK tysOk (fun K hK => ?_)
            simp [hb3, hb125, idx_inb hx136, idx_get hx136, idx_lt hx136, elt (idx_get hx136)]
            refine hK _ ?_
            refine TrD.seq ?_
            obtain ⟨r137, hr137, g135⟩ := bindE g135
            refine TrD.regK tysOk (fun K hK => ?_)
            simp [hb3, hb125, idx_inb hx136, idx_get hx136, idx_lt hx136, elt (idx_get hx136)]
            refine callP (p1_h x136 _ hr137) (by simp [p1_y, p1_z, hb3, hb125, idx_inb hx136, idx_get hx136, idx_lt hx136, elt (idx_get hx136)]) (by simp [p1_y, p1_z]) (fun q141 hq141 => ?_)
            subst hq141
            simp [hb3, hb125, idx_inb hx136, idx_get hx136, idx_lt hx136, elt (idx_get hx136)]
            refine hK _ ?_
            refine TrD.cond (b := (!r137)) (by simp [p1_y, p1_z, hb3, hb125, idx_inb hx136, idx_get hx136, idx_lt hx136, elt (idx_get hx136)]) (fun hb138 => ?_) (fun hb138 => ?_)
            · rw [if_pos hb138] at g135
              refine TrD.seq ?_
              obtain ⟨x139, hx139, g135⟩ := bindE g135
              obtain ⟨x140, hx140, g135⟩ := bindE g135
              refine TrD.regK tysOk (fun K hK => ?_)
              simp [hb3, hb125, idx_inb hx136, idx_get hx136, idx_lt hx136, elt (idx_get hx136), hb138, idx_inb hx139, idx_get hx139, idx_lt hx139, elt (idx_get hx139), (setI_some hx140).1, (setI_some hx140).2.1, (setI_some hx140).2.2]
              refine hK _ ?_
              refine TrD.regK tysOk (fun K hK => ?_)
              simp [hb3, hb125, idx_inb hx136, idx_get hx136, idx_lt hx136, elt (idx_get hx136), hb138, idx_inb hx139, idx_get hx139, idx_lt hx139, elt (idx_get hx139), (setI_some hx140).1, (setI_some hx140).2.1, (setI_some hx140).2.2]
              refine hK _ ?_
              obtain rfl := Option.some.inj g135
              refine ToAny.mk (x140, wadd .i64 s113.2.1 1) rfl ?_
              rw [hS134]
              exact Ghost.canonV 1 [0] _ _ hβ (keep_first (by decide)) (by decide) (vT_upd (v_of (d0 := (eI s113.2.2)) (by simp [p1_y, p1_z, hb3, hb125, idx_inb hx136, idx_get hx136, idx_lt hx136, elt (idx_get hx136), hb138, idx_inb hx139, idx_get hx139, idx_lt hx139, elt (idx_get hx139), (setI_some hx140).1, (setI_some hx140).2.1, (setI_some hx140).2.2]) (v_free (by simp [p1_y, p1_z]) (by simp [p1_y, p1_z, hb3, hb125, idx_inb hx136, idx_get hx136, idx_lt hx136, elt (idx_get hx136), hb138, idx_inb hx139, idx_get hx139, idx_lt hx139, elt (idx_get hx139), (setI_some hx140).1, (setI_some hx140).2.1, (setI_some hx140).2.2]))) (vT_upd (v_of (d0 := (eI (wadd .i64 s113.2.1 1))) (by simp [p1_y, p1_z, hb3, hb125, idx_inb hx136, idx_get hx136, idx_lt hx136, elt (idx_get hx136), hb138, idx_inb hx139, idx_get hx139, idx_lt hx139, elt (idx_get hx139), (setI_some hx140).1, (setI_some hx140).2.1, (setI_some hx140).2.2]) (v_free (by simp [p1_y, p1_z]) (by simp [p1_y, p1_z, hb3, hb125, idx_inb hx136, idx_get hx136, idx_lt hx136, elt (idx_get hx136), hb138, idx_inb hx139, idx_get hx139, idx_lt hx139, elt (idx_get hx139), (setI_some hx140).1, (setI_some hx140).2.1, (setI_some hx140).2.2]))) (vT_upd (v_of (d0 := (.clos p1_f p1_c)) (by simp [p1_y, p1_z, hb3, hb125, idx_inb hx136, idx_get hx136, idx_lt hx136, elt (idx_get hx136), hb138, idx_inb hx139, idx_get hx139, idx_lt hx139, elt (idx_get hx139), (setI_some hx140).1, (setI_some hx140).2.1, (setI_some hx140).2.2]) (v_free (by simp [p1_y, p1_z]) (by simp [p1_y, p1_z, hb3, hb125, idx_inb hx136, idx_get hx136, idx_lt hx136, elt (idx_get hx136), hb138, idx_inb hx139, idx_get hx139, idx_lt hx139, elt (idx_get hx139), (setI_some hx140).1, (setI_some hx140).2.1, (setI_some hx140).2.2]))) (vT_upd (v_of (d0 := (.sl 3 0 (x140).length)) (by simp [p1_y, p1_z, hb3, hb125, idx_inb hx136, idx_get hx136, idx_lt hx136, elt (idx_get hx136), hb138, idx_inb hx139, idx_get hx139, idx_lt hx139, elt (idx_get hx139), (setI_some hx140).1, (setI_some hx140).2.1, (setI_some hx140).2.2]) (v_sl rfl)) (vT_any _))))) (.cons (lv (L := ⟨3, (List.map rGrow x140), 0, 0x007f⟩) (by simp [p1_y, p1_z, hb3, hb125, idx_inb hx136, idx_get hx136, idx_lt hx136, elt (idx_get hx136), hb138, idx_inb hx139, idx_get hx139, idx_lt hx139, elt (idx_get hx139), (setI_some hx140).1, (setI_some hx140).2.1, (setI_some hx140).2.2]) rfl rfl (by simp [p1_y, p1_z, hb3, hb125, idx_inb hx136, idx_get hx136, idx_lt hx136, elt (idx_get hx136), hb138, idx_inb hx139, idx_get hx139, idx_lt hx139, elt (idx_get hx139), (setI_some hx140).1, (setI_some hx140).2.1, (setI_some hx140).2.2]) (rv_free (by simp [p1_y, p1_z, hb3, hb125, idx_inb hx136, idx_get hx136, idx_lt hx136, elt (idx_get hx136), hb138, idx_inb hx139, idx_get hx139, idx_lt hx139, elt (idx_get hx139), (setI_some hx140).1, (setI_some hx140).2.1, (setI_some hx140).2.2]) (free_rows_of fr_Grow _))) .nil)
            · rw [if_neg (ne_true_of hb138)] at g135
              refine TrD.skip ?_
              obtain rfl := Option.some.inj g135
              refine ToAny.mk (s113.1, s113.2.1) rfl ?_
              rw [hS134]
              exact Ghost.canonV 1 [0] _ _ hβ (keep_first (by decide)) (by decide) (vT_upd (v_of (d0 := (eI s113.2.2)) (by simp [p1_y, p1_z, hb3, hb125, idx_inb hx136, idx_get hx136, idx_lt hx136, elt (idx_get hx136), hb138]) (v_free (by simp [p1_y, p1_z]) (by simp [p1_y, p1_z, hb3, hb125, idx_inb hx136, idx_get hx136, idx_lt hx136, elt (idx_get hx136), hb138]))) (vT_upd (v_of (d0 := (eI s113.2.1)) (by simp [p1_y, p1_z, hb3, hb125, idx_inb hx136, idx_get hx136, idx_lt hx136, elt (idx_get hx136), hb138]) (v_free (by simp [p1_y, p1_z]) (by simp [p1_y, p1_z, hb3, hb125, idx_inb hx136, idx_get hx136, idx_lt hx136, elt (idx_get hx136), hb138]))) (vT_upd (v_of (d0 := (.clos p1_f p1_c)) (by simp [p1_y, p1_z, hb3, hb125, idx_inb hx136, idx_get hx136, idx_lt hx136, elt (idx_get hx136), hb138]) (v_free (by simp [p1_y, p1_z]) (by simp [p1_y, p1_z, hb3, hb125, idx_inb hx136, idx_get hx136, idx_lt hx136, elt (idx_get hx136), hb138]))) (vT_upd (v_of (d0 := (.sl 3 0 (s113.1).length)) (by simp [p1_y, p1_z, hb3, hb125, idx_inb hx136, idx_get hx136, idx_lt hx136, elt (idx_get hx136), hb138]) (v_sl rfl)) (vT_any _))))) (.cons (lv (L := ⟨3, (List.map rGrow s113.1), 0, 0x007f⟩) (by simp [p1_y, p1_z, hb3, hb125, idx_inb hx136, idx_get hx136, idx_lt hx136, elt (idx_get hx136), hb138]) rfl rfl (by simp [p1_y, p1_z, hb3, hb125, idx_inb hx136, idx_get hx136, idx_lt hx136, elt (idx_get hx136), hb138]) (rv_free (by simp [p1_y, p1_z, hb3, hb125, idx_inb hx136, idx_get hx136, idx_lt hx136, elt (idx_get hx136), hb138]) (free_rows_of fr_Grow _))) .nil)
          · subst hz
            try dsimp only at g122
            rw [congrFun hS134 s132]
            refine TrD.regK tysOk (fun K hK => ?_)
            simp [hb3, hb125]
            refine hK _ ?_
            obtain rfl := Option.some.inj g122
            refine ToAny.mk (s132.1, s132.2, wadd .i64 s113.2.2 1) rfl ?_
            rw [hS115]
            exact Ghost.canonV 1 [0] _ _ hβ (keep_first (by decide)) (by decide) (vT_upd (v_of (d0 := (eI (wadd .i64 s113.2.2 1))) (by simp [p1_y, p1_z, hb3, hb125]) (v_free (by simp [p1_y, p1_z]) (by simp [p1_y, p1_z, hb3, hb125]))) (vT_upd (v_of (d0 := (eI s132.2)) (by simp [p1_y, p1_z, hb3, hb125]) (v_free (by simp [p1_y, p1_z]) (by simp [p1_y, p1_z, hb3, hb125]))) (vT_upd (v_of (d0 := (.clos p1_f p1_c)) (by simp [p1_y, p1_z, hb3, hb125]) (v_free (by simp [p1_y, p1_z]) (by simp [p1_y, p1_z, hb3, hb125]))) (vT_upd (v_of (d0 := (.sl 3 0 (s132.1).length)) (by simp [p1_y, p1_z, hb3, hb125]) (v_sl rfl)) (vT_any _))))) (.cons (lv (L := ⟨3, (List.map rGrow s132.1), 0, 0x007f⟩) (by simp [p1_y, p1_z, hb3, hb125]) rfl rfl (by simp [p1_y, p1_z, hb3, hb125]) (rv_free (by simp [p1_y, p1_z, hb3, hb125]) (free_rows_of fr_Grow _))) .nil)
        · rw [if_neg (ne_true_of hb125)] at g122
          refine TrD.exit ?_
          try simp only [↓reduceIte, Nat.reduceEqDiff, Nat.zero_ne_one, Nat.one_ne_zero, OfNat.ofNat_ne_zero, OfNat.zero_ne_ofNat, OfNat.one_ne_ofNat, OfNat.ofNat_ne_one]
          obtain rfl := Option.some.inj g122
          obtain rfl := hbrk118 _ rfl
          refine ToAny.mk (s113.1, s113.2.1, s113.2.2) rfl ?_
          rw [hE116]
          exact Ghost.canonV 1 [0] _ _ hβ (keep_first (by decide)) (by decide) (vT_upd (v_of (d0 := (eI s113.2.1)) (by simp [p1_y, p1_z, hb3, hb125]) (v_free (by simp [p1_y, p1_z]) (by simp [p1_y, p1_z, hb3, hb125]))) (vT_upd (v_of (d0 := (.sl 3 0 (s113.1).length)) (by simp [p1_y, p1_z, hb3, hb125]) (v_sl rfl)) (vT_any _))) (.cons (lv (L := ⟨3, (List.map rGrow s113.1), 0, 0x007f⟩) (by simp [p1_y, p1_z, hb3, hb125]) rfl rfl (by simp [p1_y, p1_z, hb3, hb125]) (rv_free (by simp [p1_y, p1_z, hb3, hb125]) (free_rows_of fr_Grow _))) .nil)
    · subst hz
      try dsimp only at h
      rw [congrFun hE116 s123]
      refine TrD.seq ?_
      obtain ⟨x142, hx142, h⟩ := bindE h
      refine TrD.regK tysOk (fun K hK => ?_)
      simp [hb3, (takeI_some hx142).2, takeI_sum hx142, takeI_sumL hx142, takeI_take hx142, takeI_takeL hx142, takeI_len hx142]
      refine hK _ ?_
      refine TrD.seq ?_
      refine TrD.regK tysOk (fun K hK => ?_)
      simp [hb3, (takeI_some hx142).2, takeI_sum hx142, takeI_sumL hx142, takeI_take hx142, takeI_takeL hx142, takeI_len hx142]
      refine hK _ ?_
      obtain rfl := Option.some.inj h
      refine TrD.ret ?_
      refine exitHG (σ' := ⟨(updD (fun _ => .any) 4 (.sl 3 1 (x142).length)), hOfO [none, some ⟨3, (List.map rGrow x142), 0, 0x007f⟩], 2, 42⟩) ?_ ?_
      · refine (Ghost.move (sz := 3) (k := 0) (n := (x142).length) (L := ⟨3, (List.map rGrow x142), 0, 0x007f⟩) 4 (by simp [p1_y, p1_z, hb3, (takeI_some hx142).2, takeI_sum hx142, takeI_sumL hx142, takeI_take hx142, takeI_takeL hx142, takeI_len hx142]) (by simp [p1_y, p1_z, hb3, (takeI_some hx142).2, takeI_sum hx142, takeI_sumL hx142, takeI_take hx142, takeI_takeL hx142, takeI_len hx142])).trans ?_
        exact Ghost.canonV 1 [0, 65] _ _ hβ (keep_first (by decide)) (by decide) (vT_upd (v_of (d0 := (.sl 3 65 (x142).length)) (by simp [p1_y, p1_z, hb3, (takeI_some hx142).2, takeI_sum hx142, takeI_sumL hx142, takeI_take hx142, takeI_takeL hx142, takeI_len hx142]) (v_sl rfl)) (vT_any _)) (.cons lv_none (.cons (lv (L := ⟨3, (List.map rGrow x142), 0, 0x007f⟩) (by simp [p1_y, p1_z, hb3, (takeI_some hx142).2, takeI_sum hx142, takeI_sumL hx142, takeI_take hx142, takeI_takeL hx142, takeI_len hx142]) rfl rfl (by simp [p1_y, p1_z, hb3, (takeI_some hx142).2, takeI_sum hx142, takeI_sumL hx142, takeI_take hx142, takeI_takeL hx142, takeI_len hx142]) (rv_free (by simp [p1_y, p1_z, hb3, (takeI_some hx142).2, takeI_sum hx142, takeI_sumL hx142, takeI_take hx142, takeI_takeL hx142, takeI_len hx142]) (free_rows_of fr_Grow _))) .nil))
      · dsimp only [resD]
        exact ⟨[none, some ⟨3, (List.map rGrow x142), 0, 0x007f⟩], [], rfl, by simp, by simp, .inl rfl, by simp [packD]⟩
instance i_slices_DeleteFunc_row (n : Nat) (p0 : (List Grow)) (p1 : (Grow → Option Bool)) {p1_f : FuncId} {p1_c : List D} [p1_i : CF1 (fun a0 => (.agg (rGrow a0))) (fun r => (eB r)) p1 p1_f p1_c] : Ct (m_slices_DeleteFunc_row n p0 p1) fun res => CallsH Tryz.prog 0o00333 [⟨3, List.map rGrow p0, 0, 0x007f⟩] [.sl 3 0 p0.length, .clos p1_f p1_c] (fun H d => H = [none, some ⟨3, List.map rGrow res, 0, 0x007f⟩] ∧ d = .sl 3 1 res.length) := ⟨c_slices_DeleteFunc_row n p0 p1_f p1_c p1_i.fr p1 p1_i.h⟩
end Go.Proofs.YtmkamncbkkahjaaGreat
set_option linter.unusedSimpArgs false
set_option linter.unusedVariables false
namespace Go.Proofs.YtmkamncbkkahjaaGreat
open Go Go.RowKit
set_option maxRecDepth 100000
set_option maxHeartbeats 20000000
set_option maxRecDepth 100000 in
theorem c_slices_Clone_row (p0 : (List Grow)) (res : (List Grow)) (h : m_slices_Clone_row p0 = some res) : CallsH Tryz.prog 0o00334 [] [(.slice 3 (List.map rGrow p0))] (fun H d => H = [some ⟨3, List.map rGrow res, 0, 0x007f⟩] ∧ d = .sl 3 0 res.length) := by
  unfold m_slices_Clone_row at h
  refine CallsH.of (res := [.tmp 2]) tysOk Tryz.func220 (by decide) rfl (Nat.le_of_ble_eq_true rfl) rfl rfl (fun β hβ => ?_)
  refine TrD.seq ?_
  refine TrD.regK tysOk (fun K hK => ?_)
  simp
  refine hK _ ?_
  refine TrD.seq ?_
  refine TrD.seq ?_
  refine TrD.regK tysOk (fun K hK => ?_)
  simp
  refine ⟨?_, fun hnil => ?_⟩
  · refine hK _ ?_
    refine TrD.cond (b := false) (by simp) (fun hb => by cases hb) (fun hb => ?_)
    refine TrD.skip ?_
    refine TrD.seq ?_
    obtain ⟨x3, hx3, h⟩ := bindE h
    have hx3_r := (app_some hx3).2
    try simp only [List.length_append, List.length_cons, List.length_nil, List.length_map, Nat.zero_add, Nat.add_zero, Nat.reduceAdd, one_add_len, two_add_len] at hx3_r
    obtain hhx3 := app_nil hx3
    subst hhx3
    refine TrD.regK tysOk (fun K hK => ?_)
    simp [hx3_r]
    refine hK _ ?_
    obtain rfl := Option.some.inj h
    refine TrD.ret ?_
    refine exitHG (σ' := ⟨(updD (fun _ => .any) 2 (.sl 3 0 (p0).length)), hOfO [some ⟨3, (List.map rGrow p0), 0, 0x007f⟩], 1, 8⟩) ?_ ?_
    · exact Ghost.canonV 0 [40] _ _ hβ (keep_first (by decide)) (by decide) (vT_upd (v_of (d0 := (.sl 3 40 (p0).length)) (by simp [hx3_r]) (v_sl rfl)) (vT_any _)) (.cons (lv (L := ⟨3, (List.map rGrow p0), 0, 0x007f⟩) (by simp [hx3_r]) rfl rfl (by simp [hx3_r]) (rv_free (by simp [hx3_r]) (free_rows_of fr_Grow _))) .nil)
    · dsimp only [resD]
      exact ⟨[some ⟨3, (List.map rGrow p0), 0, 0x007f⟩], [], rfl, by simp, by simp, .inl rfl, by simp [packD]⟩
  · replace h : some ([]) = some res := by simp only [hnil] at h; simpa [app] using h
    refine hK _ ?_
    refine TrD.cond (b := true) (by simp) (fun hb => ?_) (fun hb => by cases hb)
    refine TrD.seq ?_
    refine TrD.regK tysOk (fun K hK => ?_)
    simp
    refine hK _ ?_
    obtain rfl := Option.some.inj h
    refine TrD.ret ?_
    refine exitHG (σ' := ⟨(updD (fun _ => .any) 2 (.sl 3 0 0)), hOfO [some ⟨3, (List.map rGrow []), 0, 0x007f⟩], 1, 8⟩) ?_ ?_
    · refine (Ghost.ownNil (s := 2) (by simp) 3 0x007f).trans ?_
      exact Ghost.canonV 0 [32] _ _ hβ (keep_first (by decide)) (by decide) (vT_upd (v_of (d0 := (.sl 3 32 0)) (by simp) (v_sl rfl)) (vT_any _)) (.cons (lv (L := ⟨3, (List.map rGrow []), 0, 0x007f⟩) (by simp) rfl rfl (by simp) (rv_free (by simp) (free_rows_of fr_Grow _))) .nil)
    · dsimp only [resD]
      exact ⟨[some ⟨3, (List.map rGrow []), 0, 0x007f⟩], [], rfl, by simp, by simp, .inl rfl, by simp [packD]⟩
instance i_slices_Clone_row : ∀ (p0 : (List Grow)), Ct (m_slices_Clone_row p0) fun res => CallsH Tryz.prog 0o00334 [] [(.slice 3 (List.map rGrow p0))] (fun H d => H = [some ⟨3, List.map rGrow res, 0, 0x007f⟩] ∧ d = .sl 3 0 res.length) := fun p0 => ⟨c_slices_Clone_row p0⟩
end Go.Proofs.YtmkamncbkkahjaaGreat
set_option linter.unusedSimpArgs false
set_option linter.unusedVariables false
namespace Go.Proofs.YtmkamncbkkahjaaGreat
open Go Go.RowKit
set_option maxRecDepth 100000
set_option maxHeartbeats 20000000
instance i_impl_compiling_leaf_2 : ∀ (p0 : Grow) (q0 : Grow), Ct (m_impl_compiling_leaf_2 p0 q0) fun res => CallsD Tryz.prog 0o00335 [(.agg (rGrow p0)), .cptr (rGrow q0)] (fun d => d = (eB res)) :=
 au Tryz.func221 m_impl_compiling_leaf_2.eq_1 .z
end Go.Proofs.YtmkamncbkkahjaaGreat
set_option linter.unusedSimpArgs false
set_option linter.unusedVariables false
namespace Go.Proofs.YtmkamncbkkahjaaGreat
open Go Go.RowKit
set_option maxRecDepth 100000
set_option maxHeartbeats 20000000
instance i_impl_row_kept : ∀ (n : Nat) (p0 : Grow) (p1 : Int) (p2 : GBranch) (p3 : (List Gcolumn)), Ct (m_impl_row_kept n p0 p1 p2 p3) fun res => CallsD Tryz.prog 0o00237 [(.agg (rGrow p0)), (eI p1), (.agg (rGBranch p2)), (.slice 3 (List.map rGcolumn p3))] (fun d => d = .tup [(.agg (rGrow res.1)), (eB res.2)]) :=
 au Tryz.func159 m_impl_row_kept.eq_1 (.o (.o (.o (.o (.o (.o (.j 3 0 [1, 3, 4, 8, 11] [0, 16] (fun (s38 : (List GPattern)) => [(11, .slice 6 (List.map rGPattern s38))]) (fun _ => []) (.i (.pN 11 6 0x0029 (.ls 3 (.f [1, 3, 4, 8, 11] [0, 16, 176] [1, 3, 4, 8, 11, 33, 34] [0, 16, 176] (fun (k61 : Nat) (s57 : (List GPattern)) => [(11, .sl 6 176 (s57).length), (34, eI (k61 : Int))]) (fun k61 s57 => [(176, some ⟨6, (List.map rGPattern s57), 0, 0x0029⟩)]) (fun k61 s57 => .z) (fun s65 => .pF 2 .z)))) .z) (fun s38 => .g [1, 3, 4, 8, 11] [0, 1] [] [] (.o (.o (.dz [0, 1, 2, 3, 4, 5, 7, 8, 6, 9, 10, 11] [0] [1048588] [] (.ls 11 (.f [1, 4, 8, 12] [0, 1, 1048588, 2097153] [1, 3, 4, 8, 12, 66, 67, 68] [0, 1, 1048588, 2097153] (fun (k138 : Nat) (s134 : Int × (List GPattern) × (List GPathBind)) => [(68, eI (k138 : Int))]) (fun k138 s134 => [(1001048588, some ⟨3, [[(eI s134.1), (.sl 6 2097153 (s134.2.1).length), (.slice 2 (List.map rGPathBind s134.2.2))]], 0, 0x007f⟩), (2097153, some ⟨6, (List.map rGPattern s134.2.1), 0, 0x0029⟩)]) (fun k138 s134 => .o (.g [1, 3, 4, 8, 12, 13, 14, 66, 67, 68] [0, 1, 2, 3, 36] [] [(1000000002, some ⟨3, [[(eI s134.1), (.sl 6 3 (s134.2.1).length), (.slice 2 (List.map rGPathBind s134.2.2))]], 0, 0x007f⟩)] (.o (.o (.d [0, 1, 2, 3, 4, 5, 6, 7, 8] [2, 4] [12] .z))))) (fun s142 => .g [1, 4, 8, 12] [0, 1, 2, 3] [] [(1000000002, some ⟨3, [[(eI s142.1), (.sl 6 3 (s142.2.1).length), (.slice 2 (List.map rGPathBind s142.2.2))]], 0, 0x007f⟩)] (.o (.o (.d [0, 1, 2, 3, 4, 5, 6, 7, 8, 9] [0, 2] [90] .z)))))))))))))))))
end Go.Proofs.YtmkamncbkkahjaaGreat
set_option linter.unusedSimpArgs false
set_option linter.unusedVariables false
namespace Go.Proofs.YtmkamncbkkahjaaGreat
open Go Go.RowKit
set_option maxRecDepth 100000
set_option maxHeartbeats 20000000
theorem ia_impl_compiling_tree : ∀ n : Nat, (∀ (p0 : Gcompiling) (p1 : (List Grow)) (p2 : (List Gcolumn)), Ct (m_impl_compiling_tree n p0 p1 p2) fun res => CallsH Tryz.prog 0o00117 [⟨4, [(rGcompiling p0)], 0, 0x0085⟩] [.ptr 4 0 0 0, (.slice 3 (List.map rGrow p1)), (.slice 3 (List.map rGcolumn p2))] (fun H d => H = [some ⟨4, [(rGcompiling res.2.2)], 0, 0x0085⟩] ∧ d = .tup [(.agg (rGTree res.1)), (eB res.2.1)])) ∧ (∀ (p0 : Gcompiling) (p1 : (List Grow)) (p2 : (List Gcolumn)), Ct (m_impl_compiling_leaf n p0 p1 p2) fun res => CallsH Tryz.prog 0o00235 [⟨4, [(rGcompiling p0)], 0, 0x0085⟩] [.ptr 4 0 0 0, (.slice 3 (List.map rGrow p1)), (.slice 3 (List.map rGcolumn p2))] (fun H d => H = [some ⟨4, [(rGcompiling res.2.2)], 0, 0x0085⟩] ∧ d = .tup [(.agg (rGTree res.1)), (eB res.2.1)])) :=
 ar2 (au Tryz.func79 m_impl_compiling_tree.eq_2 (.o (.o (.o (.o (.o (.o (.i .z (.i .z (.o (.i .z (.o (.b fun (r11 : ((List Int))) => .o (.pC 273 4 9 0x008e (.ls 64 (.f [6, 9] [0, 1, 273, 258, 345] [0, 1, 2, 6, 8, 9, 64, 65, 66] [0, 1, 273, 258, 345] (fun (k1891 : Nat) (s1887 : Gcompiling × (List GBranch)) => [(66, eI (k1891 : Int))]) (fun k1891 s1887 => [(0, some ⟨4, [(rGcompiling s1887.1)], 0, 0x0085⟩), (1000000273, some ⟨6, [[(eI 2), (eI 0), .nil, (.sl 1 258 (r11).length), (.sl 9 345 (s1887.2).length), .nil]], 0, 0x0045⟩), (345, some ⟨9, (List.map rGBranch s1887.2), 0, 0x008e⟩)]) (fun k1891 s1887 => .o (.j 14 0 [0, 1, 2, 6, 8, 9, 11, 12, 64, 65, 66] [0, 1, 2, 3, 4, 29, 9000] (fun (s2120 : (List Gcolumn)) => [(12, .sl 3 9000 (s2120).length)]) (fun s2120 => [(1000000002, some ⟨6, [[(eI 2), (eI 0), .nil, (.sl 1 3 (r11).length), (.sl 9 4 (s1887.2).length), .nil]], 0, 0x0045⟩), (9000, some ⟨3, (List.map rGcolumn s2120), 0, 0x0088⟩)]) (.i (.g [0, 1, 2, 6, 8, 9, 11, 12, 64, 65, 66] [0, 1, 2, 3, 4, 29] [] [(1000000002, some ⟨6, [[(eI 2), (eI 0), .nil, (.sl 1 3 (r11).length), (.sl 9 4 (s1887.2).length), .nil]], 0, 0x0045⟩)] (.o (.d [0, 1, 2, 3, 4, 5, 6, 7, 8, 9, 10, 11, 12, 13, 16, 14, 15] [0, 5] [] (.pN 12 3 0x0088 (.ls 87 (.f [0, 1, 2, 6, 8, 9, 11, 12, 64, 65, 66] [0, 1, 2, 3, 4, 5, 14] [0, 1, 2, 6, 8, 9, 11, 12, 64, 65, 66, 87, 88, 89] [0, 1, 2, 3, 4, 5, 14] (fun (k2152 : Nat) (s2148 : (List Gcolumn)) => [(12, .sl 3 14 (s2148).length), (89, eI (k2152 : Int))]) (fun k2152 s2148 => [(1000000002, some ⟨6, [[(eI 2), (eI 0), .nil, (.sl 1 3 (r11).length), (.sl 9 4 (s1887.2).length), .nil]], 0, 0x0045⟩), (14, some ⟨3, (List.map rGcolumn s2148), 0, 0x0088⟩)]) (fun k2152 s2148 => .o (.g [0, 1, 2, 6, 8, 9, 11, 12, 13, 14, 64, 65, 66, 87, 88, 89] [0, 1, 2, 3, 4, 5, 6, 39] [] [(1000000002, some ⟨6, [[(eI 2), (eI 0), .nil, (.sl 1 3 (r11).length), (.sl 9 4 (s1887.2).length), .nil]], 0, 0x0045⟩)] (.o (.o (.o (.dz [0, 1, 2, 3, 4, 5, 7, 10, 6, 8, 9, 11, 12, 13, 14] [7] [1048678] [] (.pF 2097160 .z))))))) (fun s2156 => .z))))))) (.pN 12 3 0x0088 .z)) (fun s2120 => .pF 6 (.pN 15 3 0x007f (.ls 1 (.f [0, 1, 2, 6, 8, 9, 11, 12, 15, 64, 65, 66] [0, 1, 2, 3, 4, 5, 6, 39] [0, 1, 2, 6, 8, 9, 11, 12, 15, 64, 65, 66, 109, 110, 111] [0, 1, 2, 3, 4, 5, 6, 39] (fun (k2243 : Nat) (s2239 : (List Grow)) => [(15, .sl 3 39 (s2239).length), (111, eI (k2243 : Int))]) (fun k2243 s2239 => [(1000000002, some ⟨6, [[(eI 2), (eI 0), .nil, (.sl 1 3 (r11).length), (.sl 9 4 (s1887.2).length), .nil]], 0, 0x0045⟩), (39, some ⟨3, (List.map rGrow s2239), 0, 0x007f⟩)]) (fun k2243 s2239 => .o (.j 23 0 [0, 1, 2, 6, 8, 9, 11, 12, 15, 64, 65, 66, 109, 110, 111] [0, 1, 2, 3, 4, 5, 6, 7] (fun (s2251 : (List Grow)) => [(15, .sl 3 7 (s2251).length)]) (fun s2251 => [(1000000002, some ⟨6, [[(eI 2), (eI 0), .nil, (.sl 1 3 (r11).length), (.sl 9 4 (s1887.2).length), .nil]], 0, 0x0045⟩), (7, some ⟨3, (List.map rGrow s2251), 0, 0x007f⟩)]) .z (fun _ => .z))) (fun s2247 => .pF 6 (.g [0, 1, 2, 6, 8, 9, 11, 12, 15, 64, 65, 66] [0, 1, 2, 3, 4, 5, 7] [(12, .slice 3 (List.map rGcolumn s2120))] [(1000000002, some ⟨6, [[(eI 2), (eI 0), .nil, (.sl 1 3 (r11).length), (.sl 9 4 (s1887.2).length), .nil]], 0, 0x0045⟩)] (.o (.o (.o (.o (.dz [0, 1, 2, 3, 4, 5, 6, 7, 8, 9, 10, 11, 12, 13, 14, 15, 16, 17, 18] [] [1048596] [] .z))))))))))))) (fun s1895 => .pF 3 (.pF 4 .z))))))))))))))))))
 (au Tryz.func157 m_impl_compiling_leaf.eq_2 (.o (.o (.o (.o (.o (.o (.b fun (x1 : Grow) => .g [0, 1, 2, 6, 8] [0, 1, 41] [] [] (.o (.dz [0, 1, 2, 3, 4, 5, 6, 7] [2] [1048585] [] (.b fun (r3 : ((List GPathBind))) => .o (.g [0, 1, 2, 6, 8, 9] [0, 1, 2, 1048585, 2097153] [] [(1001048585, some ⟨6, [[(eI 1), (eI x1.clause), (.sl 2 2097153 (r3).length), .nil, .nil, .nil]], 0, 0x0045⟩)] (.o (.d [0, 1, 2, 3, 4, 5, 6, 7, 8, 9, 10] [0, 2] [] (.i (.pF 4 .z) (.o (.o (.o (.pF 4 (.pF 133 .z))))))))))))))))))))
instance i_impl_compiling_tree : ∀ (n : Nat), ∀ (p0 : Gcompiling) (p1 : (List Grow)) (p2 : (List Gcolumn)), Ct (m_impl_compiling_tree n p0 p1 p2) fun res => CallsH Tryz.prog 0o00117 [⟨4, [(rGcompiling p0)], 0, 0x0085⟩] [.ptr 4 0 0 0, (.slice 3 (List.map rGrow p1)), (.slice 3 (List.map rGcolumn p2))] (fun H d => H = [some ⟨4, [(rGcompiling res.2.2)], 0, 0x0085⟩] ∧ d = .tup [(.agg (rGTree res.1)), (eB res.2.1)]) :=
 fun n => (ia_impl_compiling_tree n).1
instance i_impl_compiling_leaf : ∀ (n : Nat), ∀ (p0 : Gcompiling) (p1 : (List Grow)) (p2 : (List Gcolumn)), Ct (m_impl_compiling_leaf n p0 p1 p2) fun res => CallsH Tryz.prog 0o00235 [⟨4, [(rGcompiling p0)], 0, 0x0085⟩] [.ptr 4 0 0 0, (.slice 3 (List.map rGrow p1)), (.slice 3 (List.map rGcolumn p2))] (fun H d => H = [some ⟨4, [(rGcompiling res.2.2)], 0, 0x0085⟩] ∧ d = .tup [(.agg (rGTree res.1)), (eB res.2.1)]) :=
 fun n => (ia_impl_compiling_tree n).2
end Go.Proofs.YtmkamncbkkahjaaGreat
set_option linter.unusedSimpArgs false
set_option linter.unusedVariables false
namespace Go.Proofs.YtmkamncbkkahjaaGreat
open Go Go.RowKit
set_option maxRecDepth 100000
set_option maxHeartbeats 20000000
instance i_impl_ownBinds : ∀ (p0 : (List GPathBind)), Ct (m_impl_ownBinds p0) fun res => CallsD Tryz.prog 0o00241 [(.slice 2 (List.map rGPathBind p0))] (fun d => d = (.slice 2 (List.map rGPathBind res))) :=
 au Tryz.func161 m_impl_ownBinds.eq_1 (.o (.pN 3 2 0x008c (.ls 0 (.f [3] [40] [3, 6, 7, 8] [40] (fun (k56 : Nat) (s52 : (List GPathBind)) => [(3, .sl 2 40 (s52).length), (8, eI (k56 : Int))]) (fun k56 s52 => [(40, some ⟨2, (List.map rGPathBind s52), 0, 0x008c⟩)]) (fun k56 s52 => .o (.g [3, 5, 6, 7, 8] [0, 25] [] [] (.o (.o (.d [0, 1, 2, 3, 4, 5, 6, 7, 8, 9] [1] [] (.pF 3 .z)))))) (fun s60 => .z)))))
end Go.Proofs.YtmkamncbkkahjaaGreat
set_option linter.unusedSimpArgs false
set_option linter.unusedVariables false
namespace Go.Proofs.YtmkamncbkkahjaaGreat
open Go Go.RowKit
set_option maxRecDepth 100000
set_option maxHeartbeats 20000000
instance i_impl_ownTree : ∀ (n : Nat) (p0 : GTree), Ct (m_impl_ownTree n p0) fun res => CallsD Tryz.prog 0o00120 [(.agg (rGTree p0))] (fun d => d = (.agg (rGTree res))) :=
 ar (au Tryz.func80 m_impl_ownTree.eq_2 (.o (.o (.b fun (p0 : GTree) => .g [1, 2] [0, 8] [] [] (.b fun (r1 : ((List GPathBind))) => .b fun (r2 : ((List Int))) => .dz [0, 1, 2, 3, 4, 5, 7, 8, 6, 9, 10, 11, 12] [0] [1048579] [] (.pC 1048579 4 9 0x008e (.ls 20 (.f [1, 2, 3] [0, 1, 1048579, 2097161, 2097208] [1, 2, 3, 20, 21, 22] [0, 1, 1048579, 2097161, 2097208] (fun (k58 : Nat) (s54 : (List GBranch)) => [(22, eI (k58 : Int))]) (fun k58 s54 => [(1001048579, some ⟨6, [[(eI p0.op), (eI p0.clause), (.slice 2 (List.map rGPathBind r1)), (.sl 1 2097161 (r2).length), (.sl 9 2097208 (s54).length), .nil]], 0, 0x0045⟩), (2097208, some ⟨9, (List.map rGBranch s54), 0, 0x008e⟩)]) (fun k58 s54 => .z) (fun s62 => .pC 2 5 6 0x0045 (.ls 38 (.f [2, 3] [1, 2, 3, 4, 37] [2, 3, 38, 39, 40] [1, 2, 3, 4, 37] (fun (k122 : Nat) (s118 : (List GTree)) => [(40, eI (k122 : Int))]) (fun k122 s118 => [(1000000002, some ⟨6, [[(eI p0.op), (eI p0.clause), (.slice 2 (List.map rGPathBind r1)), (.sl 1 3 (r2).length), (.sl 9 4 (s62).length), (.sl 6 37 (s118).length)]], 0, 0x0045⟩), (37, some ⟨6, (List.map rGTree s118), 0, 0x0045⟩)]) (fun k122 s118 => .o (.g [2, 3, 7, 38, 39, 40] [0, 1, 2, 3, 4, 29] [] [(1000000001, some ⟨6, [[(eI p0.op), (eI p0.clause), (.slice 2 (List.map rGPathBind r1)), (.sl 1 2 (r2).length), (.sl 9 3 (s62).length), (.sl 6 4 (s118).length)]], 0, 0x0045⟩)] (.o (.o (.d [0, 1, 2, 3, 4, 5, 6, 7] [1, 5] [50] .z))))) (fun s126 => .z))))))))))))
end Go.Proofs.YtmkamncbkkahjaaGreat
