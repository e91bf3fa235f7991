import Derived.Test.YtmkamncbkkahjaaGreatJMir
import Derived.Test.YtmkamncbkkahjaaGreatJAuI
import Derived.Test.YtmkamncbkkahjaaGreatJAuto
set_option linter.unusedSimpArgs false
set_option linter.unusedVariables false
set_option linter.unusedSimpArgs false
set_option linter.unusedVariables false
namespace Go.Proofs.YtmkamncbkkahjaaGreat
open Go Go.RowKit
set_option maxRecDepth 100000
set_option maxHeartbeats 20000000
set_option maxRecDepth 100000 in
theorem c_slices_insertionSortCmpFunc_PathBind (n : Nat) (p0 : (List GPathBind)) (p1 : Int) (p2 : Int) (p3_f : FuncId) (p3_c : List D) (p3_x : ∀ d ∈ p3_c, Free d) (p3 : (GPathBind → GPathBind → Option Int)) (p3_h : ∀ a0 a1 r, p3 a0 a1 = some r → CallsD Tryz.prog p3_f ([(.agg (rGPathBind a0)), (.agg (rGPathBind a1))] ++ p3_c) (fun d => d = (eI r))) (res : (List GPathBind)) (h : m_slices_insertionSortCmpFunc_PathBind n p0 p1 p2 p3 = some res) : CallsH Tryz.prog 0o00346 [⟨2, List.map rGPathBind p0, 0, 0x008c⟩] [.sl 2 0 p0.length, (eI p1), (eI p2), .clos p3_f p3_c] (fun H d => H = [some ⟨2, List.map rGPathBind res, 0, 0x008c⟩] ∧ d = .tup []) := by
  unfold m_slices_insertionSortCmpFunc_PathBind at h
  have p3_y : Free (.clos p3_f p3_c) := free_clos p3_x
  have p3_z := eq_true p3_x
  refine CallsH.of (res := []) tysOk Tryz.func230 (by decide) rfl (Nat.le_of_ble_eq_true rfl) rfl rfl (fun β hβ => ?_)
  refine TrD.seq ?_
  refine TrD.regK tysOk (fun K hK => ?_)
  simp
  refine hK _ ?_
  obtain ⟨o543, g545, h⟩ := bindE h
  obtain ⟨E547, hE547⟩ : ∃ S : ((List GPathBind) × Int) → St, S = fun s554 => ⟨(fun _ => .any), hOfO [some ⟨2, (List.map rGPathBind s554.1), 0, 0x008c⟩], 1, 53⟩ := ⟨_, rfl⟩
  refine TrD.joinQ E547 (fun z => o543 = Ctl.brk z) (fun _ _ hg h => exitH_stab hg h) ?_ (fun s554 hz => ?_)
  · refine TrD.block ?_
    obtain ⟨S546, hS546⟩ : ∃ S : ((List GPathBind) × Int) → St, S = fun s544 => ⟨(updD (updD (updD (updD (updD (fun _ => .any) 0 (.sl 2 0 (s544.1).length)) 1 (eI p1)) 2 (eI p2)) 3 (.clos p3_f p3_c)) 8 (eI s544.2)), hOfO [some ⟨2, (List.map rGPathBind s544.1), 0, 0x008c⟩], 1, 53⟩ := ⟨_, rfl⟩
    refine TrD.whileL S546 g545 ?_ (fun s544 o552 g553 hret548 hbrk549 => ?_)
    · rw [hS546]
      exact Ghost.canonV 1 [0] _ _ hβ (keep_first (by decide)) (by decide) (vT_upd (v_of (d0 := (eI (wadd .i64 p1 1))) (by simp [p3_y, p3_z]) (v_free (by simp [p3_y, p3_z]) (by simp [p3_y, p3_z]))) (vT_upd (v_of (d0 := (.clos p3_f p3_c)) (by simp [p3_y, p3_z]) (v_free (by simp [p3_y, p3_z]) (by simp [p3_y, p3_z]))) (vT_upd (v_of (d0 := (eI p2)) (by simp [p3_y, p3_z]) (v_free (by simp [p3_y, p3_z]) (by simp [p3_y, p3_z]))) (vT_upd (v_of (d0 := (eI p1)) (by simp [p3_y, p3_z]) (v_free (by simp [p3_y, p3_z]) (by simp [p3_y, p3_z]))) (vT_upd (v_of (d0 := (.sl 2 0 (p0).length)) (by simp [p3_y, p3_z]) (v_sl rfl)) (vT_any _)))))) (.cons (lv (L := ⟨2, (List.map rGPathBind p0), 0, 0x008c⟩) (by simp [p3_y, p3_z]) rfl rfl (by simp [p3_y, p3_z]) (rv_free (by simp [p3_y, p3_z]) (free_rows_of fr_GPathBind _))) .nil)
    · rw [congrFun hS546 s544]
      refine TrD.seq ?_
      refine TrD.seq ?_
      refine TrD.regK tysOk (fun K hK => ?_)
      simp
      refine hK _ ?_
      refine TrD.cond (b := ilt s544.2 p2) (by simp [p3_y, p3_z]) (fun hb556 => ?_) (fun hb556 => ?_)
      · rw [if_pos hb556] at g553
        refine TrD.skip ?_
        refine TrD.seq ?_
        refine TrD.block ?_
        refine TrD.seq ?_
        refine TrD.regK tysOk (fun K hK => ?_)
        simp [hb556]
        refine hK _ ?_
        obtain ⟨o773, g775, g553⟩ := bindE g553
        obtain ⟨E777, hE777⟩ : ∃ S : ((List GPathBind) × Int) → St, S = fun s784 => ⟨(updD (updD (updD (updD (updD (fun _ => .any) 0 (.sl 2 0 (s784.1).length)) 1 (eI p1)) 2 (eI p2)) 3 (.clos p3_f p3_c)) 8 (eI s544.2)), hOfO [some ⟨2, (List.map rGPathBind s784.1), 0, 0x008c⟩], 1, 53⟩ := ⟨_, rfl⟩
        refine TrD.joinQ E777 (fun z => o773 = Ctl.brk z) (fun _ _ hg h => TrD.ghost hg h) ?_ (fun s784 hz => ?_)
        · refine TrD.block ?_
          obtain ⟨S776, hS776⟩ : ∃ S : ((List GPathBind) × Int) → St, S = fun s774 => ⟨(updD (updD (updD (updD (updD (updD (fun _ => .any) 0 (.sl 2 0 (s774.1).length)) 1 (eI p1)) 2 (eI p2)) 3 (.clos p3_f p3_c)) 8 (eI s544.2)) 9 (eI s774.2)), hOfO [some ⟨2, (List.map rGPathBind s774.1), 0, 0x008c⟩], 1, 53⟩ := ⟨_, rfl⟩
          refine TrD.whileL S776 g775 ?_ (fun s774 o782 g783 hret778 hbrk779 => ?_)
          · rw [hS776]
            exact Ghost.canonV 1 [0] _ _ hβ (keep_first (by decide)) (by decide) (vT_upd (v_of (d0 := (eI s544.2)) (by simp [p3_y, p3_z, hb556]) (v_free (by simp [p3_y, p3_z]) (by simp [p3_y, p3_z, hb556]))) (vT_upd (v_of (d0 := (eI s544.2)) (by simp [p3_y, p3_z, hb556]) (v_free (by simp [p3_y, p3_z]) (by simp [p3_y, p3_z, hb556]))) (vT_upd (v_of (d0 := (.clos p3_f p3_c)) (by simp [p3_y, p3_z, hb556]) (v_free (by simp [p3_y, p3_z]) (by simp [p3_y, p3_z, hb556]))) (vT_upd (v_of (d0 := (eI p2)) (by simp [p3_y, p3_z, hb556]) (v_free (by simp [p3_y, p3_z]) (by simp [p3_y, p3_z, hb556]))) (vT_upd (v_of (d0 := (eI p1)) (by simp [p3_y, p3_z, hb556]) (v_free (by simp [p3_y, p3_z]) (by simp [p3_y, p3_z, hb556]))) (vT_upd (v_of (d0 := (.sl 2 0 (s544.1).length)) (by simp [p3_y, p3_z, hb556]) (v_sl rfl)) (vT_any _))))))) (.cons (lv (L := ⟨2, (List.map rGPathBind s544.1), 0, 0x008c⟩) (by simp [p3_y, p3_z, hb556]) rfl rfl (by simp [p3_y, p3_z, hb556]) (rv_free (by simp [p3_y, p3_z, hb556]) (free_rows_of fr_GPathBind _))) .nil)
          · rw [congrFun hS776 s774]
            refine TrD.seq ?_
            refine TrD.seq ?_
            refine TrD.ghost (σ' := ⟨(updD (updD (updD (updD (updD (updD (fun _ => .any) 0 (.sl 2 0 (s774.1).length)) 1 (eI p1)) 2 (eI p2)) 3 (.clos p3_f p3_c)) 8 (eI s544.2)) 9 (eI s774.2)), hOfO [some ⟨2, (List.map rGPathBind s774.1), 0, 0x008c⟩], 1, 53⟩) ?_ ?_
            · exact Ghost.canonV 1 [0] _ _ hβ (keep_first (by decide)) (by decide) (vT_upd (v_of (d0 := (eI s774.2)) (by simp [p3_y, p3_z, hb556]) (v_free (by simp [p3_y, p3_z]) (by simp [p3_y, p3_z, hb556]))) (vT_upd (v_of (d0 := (eI s544.2)) (by simp [p3_y, p3_z, hb556]) (v_free (by simp [p3_y, p3_z]) (by simp [p3_y, p3_z, hb556]))) (vT_upd (v_of (d0 := (.clos p3_f p3_c)) (by simp [p3_y, p3_z, hb556]) (v_free (by simp [p3_y, p3_z]) (by simp [p3_y, p3_z, hb556]))) (vT_upd (v_of (d0 := (eI p2)) (by simp [p3_y, p3_z, hb556]) (v_free (by simp [p3_y, p3_z]) (by simp [p3_y, p3_z, hb556]))) (vT_upd (v_of (d0 := (eI p1)) (by simp [p3_y, p3_z, hb556]) (v_free (by simp [p3_y, p3_z]) (by simp [p3_y, p3_z, hb556]))) (vT_upd (v_of (d0 := (.sl 2 0 (s774.1).length)) (by simp [p3_y, p3_z, hb556]) (v_sl rfl)) (vT_any _))))))) (.cons (lv (L := ⟨2, (List.map rGPathBind s774.1), 0, 0x008c⟩) (by simp [p3_y, p3_z, hb556]) rfl rfl (by simp [p3_y, p3_z, hb556]) (rv_free (by simp [p3_y, p3_z, hb556]) (free_rows_of fr_GPathBind _))) .nil)
            rcases Bool.eq_false_or_eq_true (ilt p1 s774.2) with hb813 | hb813
            · rw [if_pos hb813] at g783
              obtain ⟨x814, hx814, g783⟩ := bindE g783
              obtain ⟨x815, hx815, g783⟩ := bindE g783
              obtain ⟨r816, hr816, g783⟩ := bindE g783
              refine TrD.draw tysOk mixed [0, 1, 2, 3, 4, 5, 6, 7, 8, 9, 10, 11, 12, 13, 14, 15, 16] [0] [] (by rfl) rfl (fun K hK => ?_)
              simp [hb556, hb813, idx_inb hx814, idx_get hx814, idx_lt hx814, elt (idx_get hx814), idx_inb hx815, idx_get hx815, idx_lt hx815, elt (idx_get hx815)]
              refine callP (p3_h x814 x815 _ hr816) (by simp [p3_y, p3_z, hb556, hb813, idx_inb hx814, idx_get hx814, idx_lt hx814, elt (idx_get hx814), idx_inb hx815, idx_get hx815, idx_lt hx815, elt (idx_get hx815)]) (by simp [p3_y, p3_z]) (fun q824 hq824 => ?_)
              subst hq824
              simp [hb556, hb813, idx_inb hx814, idx_get hx814, idx_lt hx814, elt (idx_get hx814), idx_inb hx815, idx_get hx815, idx_lt hx815, elt (idx_get hx815)]
              refine hK _ ?_
              refine TrD.cond (b := ilt r816 0) (by simp [p3_y, p3_z, hb556, hb813, idx_inb hx814, idx_get hx814, idx_lt hx814, elt (idx_get hx814), idx_inb hx815, idx_get hx815, idx_lt hx815, elt (idx_get hx815)]) (fun hb817 => ?_) (fun hb817 => ?_)
              · rw [if_pos hb817] at g783
                refine TrD.skip ?_
                refine TrD.seq ?_
                refine TrD.block ?_
                refine TrD.ghost (σ' := ⟨(updD (updD (updD (updD (updD (updD (fun _ => .any) 0 (.sl 2 0 (s774.1).length)) 1 (eI p1)) 2 (eI p2)) 3 (.clos p3_f p3_c)) 8 (eI s544.2)) 9 (eI s774.2)), hOfO [some ⟨2, (List.map rGPathBind s774.1), 0, 0x008c⟩], 1, 53⟩) ?_ ?_
                · exact Ghost.canonV 1 [0] _ _ hβ (keep_first (by decide)) (by decide) (vT_upd (v_of (d0 := (eI s774.2)) (by simp [p3_y, p3_z, hb556, hb813, idx_inb hx814, idx_get hx814, idx_lt hx814, elt (idx_get hx814), idx_inb hx815, idx_get hx815, idx_lt hx815, elt (idx_get hx815), hb817]) (v_free (by simp [p3_y, p3_z]) (by simp [p3_y, p3_z, hb556, hb813, idx_inb hx814, idx_get hx814, idx_lt hx814, elt (idx_get hx814), idx_inb hx815, idx_get hx815, idx_lt hx815, elt (idx_get hx815), hb817]))) (vT_upd (v_of (d0 := (eI s544.2)) (by simp [p3_y, p3_z, hb556, hb813, idx_inb hx814, idx_get hx814, idx_lt hx814, elt (idx_get hx814), idx_inb hx815, idx_get hx815, idx_lt hx815, elt (idx_get hx815), hb817]) (v_free (by simp [p3_y, p3_z]) (by simp [p3_y, p3_z, hb556, hb813, idx_inb hx814, idx_get hx814, idx_lt hx814, elt (idx_get hx814), idx_inb hx815, idx_get hx815, idx_lt hx815, elt (idx_get hx815), hb817]))) (vT_upd (v_of (d0 := (.clos p3_f p3_c)) (by simp [p3_y, p3_z, hb556, hb813, idx_inb hx814, idx_get hx814, idx_lt hx814, elt (idx_get hx814), idx_inb hx815, idx_get hx815, idx_lt hx815, elt (idx_get hx815), hb817]) (v_free (by simp [p3_y, p3_z]) (by simp [p3_y, p3_z, hb556, hb813, idx_inb hx814, idx_get hx814, idx_lt hx814, elt (idx_get hx814), idx_inb hx815, idx_get hx815, idx_lt hx815, elt (idx_get hx815), hb817]))) (vT_upd (v_of (d0 := (eI p2)) (by simp [p3_y, p3_z, hb556, hb813, idx_inb hx814, idx_get hx814, idx_lt hx814, elt (idx_get hx814), idx_inb hx815, idx_get hx815, idx_lt hx815, elt (idx_get hx815), hb817]) (v_free (by simp [p3_y, p3_z]) (by simp [p3_y, p3_z, hb556, hb813, idx_inb hx814, idx_get hx814, idx_lt hx814, elt (idx_get hx814), idx_inb hx815, idx_get hx815, idx_lt hx815, elt (idx_get hx815), hb817]))) (vT_upd (v_of (d0 := (eI p1)) (by simp [p3_y, p3_z, hb556, hb813, idx_inb hx814, idx_get hx814, idx_lt hx814, elt (idx_get hx814), idx_inb hx815, idx_get hx815, idx_lt hx815, elt (idx_get hx815), hb817]) (v_free (by simp [p3_y, p3_z]) (by simp [p3_y, p3_z, hb556, hb813, idx_inb hx814, idx_get hx814, idx_lt hx814, elt (idx_get hx814), idx_inb hx815, idx_get hx815, idx_lt hx815, elt (idx_get hx815), hb817]))) (vT_upd (v_of (d0 := (.sl 2 0 (s774.1).length)) (by simp [p3_y, p3_z, hb556, hb813, idx_inb hx814, idx_get hx814, idx_lt hx814, elt (idx_get hx814), idx_inb hx815, idx_get hx815, idx_lt hx815, elt (idx_get hx815), hb817]) (v_sl rfl)) (vT_any _))))))) (.cons (lv (L := ⟨2, (List.map rGPathBind s774.1), 0, 0x008c⟩) (by simp [p3_y, p3_z, hb556, hb813, idx_inb hx814, idx_get hx814, idx_lt hx814, elt (idx_get hx814), idx_inb hx815, idx_get hx815, idx_lt hx815, elt (idx_get hx815), hb817]) rfl rfl (by simp [p3_y, p3_z, hb556, hb813, idx_inb hx814, idx_get hx814, idx_lt hx814, elt (idx_get hx814), idx_inb hx815, idx_get hx815, idx_lt hx815, elt (idx_get hx815), hb817]) (rv_free (by simp [p3_y, p3_z, hb556, hb813, idx_inb hx814, idx_get hx814, idx_lt hx814, elt (idx_get hx814), idx_inb hx815, idx_get hx815, idx_lt hx815, elt (idx_get hx815), hb817]) (free_rows_of fr_GPathBind _))) .nil)
                obtain ⟨x821, hx821, g783⟩ := bindE g783
                obtain ⟨x822, hx822, g783⟩ := bindE g783
                obtain ⟨x823, hx823, g783⟩ := bindE g783
                refine TrD.draw tysOk mixed [0, 1, 2, 3, 4, 5, 6, 7, 8, 9, 10, 11, 12, 13, 14, 15, 16, 17] [0] [51, 52] (by rfl) rfl (fun K hK => ?_)
                simp [hb556, hb813, idx_inb hx814, idx_get hx814, idx_lt hx814, elt (idx_get hx814), idx_inb hx815, idx_get hx815, idx_lt hx815, elt (idx_get hx815), hb817, (setI_some hx821).1, (setI_some hx821).2.1, (setI_some hx821).2.2, idx_inb hx822, idx_get hx822, idx_lt hx822, elt (idx_get hx822), (setI_some hx823).1, (setI_some hx823).2.1, (setI_some hx823).2.2]
                refine hK _ ?_
                refine TrD.regK tysOk (fun K hK => ?_)
                simp [hb556, hb813, idx_inb hx814, idx_get hx814, idx_lt hx814, elt (idx_get hx814), idx_inb hx815, idx_get hx815, idx_lt hx815, elt (idx_get hx815), hb817, (setI_some hx821).1, (setI_some hx821).2.1, (setI_some hx821).2.2, idx_inb hx822, idx_get hx822, idx_lt hx822, elt (idx_get hx822), (setI_some hx823).1, (setI_some hx823).2.1, (setI_some hx823).2.2]
                refine hK _ ?_
                obtain rfl := Option.some.inj g783
                refine ToAny.mk (x823, wsub .i64 s774.2 1) rfl ?_
                rw [hS776]
                exact Ghost.canonV 1 [0] _ _ hβ (keep_first (by decide)) (by decide) (vT_upd (v_of (d0 := (eI (wsub .i64 s774.2 1))) (by simp [p3_y, p3_z, hb556, hb813, idx_inb hx814, idx_get hx814, idx_lt hx814, elt (idx_get hx814), idx_inb hx815, idx_get hx815, idx_lt hx815, elt (idx_get hx815), hb817, (setI_some hx821).1, (setI_some hx821).2.1, (setI_some hx821).2.2, idx_inb hx822, idx_get hx822, idx_lt hx822, elt (idx_get hx822), (setI_some hx823).1, (setI_some hx823).2.1, (setI_some hx823).2.2]) (v_free (by simp [p3_y, p3_z]) (by simp [p3_y, p3_z, hb556, hb813, idx_inb hx814, idx_get hx814, idx_lt hx814, elt (idx_get hx814), idx_inb hx815, idx_get hx815, idx_lt hx815, elt (idx_get hx815), hb817, (setI_some hx821).1, (setI_some hx821).2.1, (setI_some hx821).2.2, idx_inb hx822, idx_get hx822, idx_lt hx822, elt (idx_get hx822), (setI_some hx823).1, (setI_some hx823).2.1, (setI_some hx823).2.2]))) (vT_upd (v_of (d0 := (eI s544.2)) (by simp [p3_y, p3_z, hb556, hb813, idx_inb hx814, idx_get hx814, idx_lt hx814, elt (idx_get hx814), idx_inb hx815, idx_get hx815, idx_lt hx815, elt (idx_get hx815), hb817, (setI_some hx821).1, (setI_some hx821).2.1, (setI_some hx821).2.2, idx_inb hx822, idx_get hx822, idx_lt hx822, elt (idx_get hx822), (setI_some hx823).1, (setI_some hx823).2.1, (setI_some hx823).2.2]) (v_free (by simp [p3_y, p3_z]) (by simp [p3_y, p3_z, hb556, hb813, idx_inb hx814, idx_get hx814, idx_lt hx814, elt (idx_get hx814), idx_inb hx815, idx_get hx815, idx_lt hx815, elt (idx_get hx815), hb817, (setI_some hx821).1, (setI_some hx821).2.1, (setI_some hx821).2.2, idx_inb hx822, idx_get hx822, idx_lt hx822, elt (idx_get hx822), (setI_some hx823).1, (setI_some hx823).2.1, (setI_some hx823).2.2]))) (vT_upd (v_of (d0 := (.clos p3_f p3_c)) (by simp [p3_y, p3_z, hb556, hb813, idx_inb hx814, idx_get hx814, idx_lt hx814, elt (idx_get hx814), idx_inb hx815, idx_get hx815, idx_lt hx815, elt (idx_get hx815), hb817, (setI_some hx821).1, (setI_some hx821).2.1, (setI_some hx821).2.2, idx_inb hx822, idx_get hx822, idx_lt hx822, elt (idx_get hx822), (setI_some hx823).1, (setI_some hx823).2.1, (setI_some hx823).2.2]) (v_free (by simp [p3_y, p3_z]) (by simp [p3_y, p3_z, hb556, hb813, idx_inb hx814, idx_get hx814, idx_lt hx814, elt (idx_get hx814), idx_inb hx815, idx_get hx815, idx_lt hx815, elt (idx_get hx815), hb817, (setI_some hx821).1, (setI_some hx821).2.1, (setI_some hx821).2.2, idx_inb hx822, idx_get hx822, idx_lt hx822, elt (idx_get hx822), (setI_some hx823).1, (setI_some hx823).2.1, (setI_some hx823).2.2]))) (vT_upd (v_of (d0 := (eI p2)) (by simp [p3_y, p3_z, hb556, hb813, idx_inb hx814, idx_get hx814, idx_lt hx814, elt (idx_get hx814), idx_inb hx815, idx_get hx815, idx_lt hx815, elt (idx_get hx815), hb817, (setI_some hx821).1, (setI_some hx821).2.1, (setI_some hx821).2.2, idx_inb hx822, idx_get hx822, idx_lt hx822, elt (idx_get hx822), (setI_some hx823).1, (setI_some hx823).2.1, (setI_some hx823).2.2]) (v_free (by simp [p3_y, p3_z]) (by simp [p3_y, p3_z, hb556, hb813, idx_inb hx814, idx_get hx814, idx_lt hx814, elt (idx_get hx814), idx_inb hx815, idx_get hx815, idx_lt hx815, elt (idx_get hx815), hb817, (setI_some hx821).1, (setI_some hx821).2.1, (setI_some hx821).2.2, idx_inb hx822, idx_get hx822, idx_lt hx822, elt (idx_get hx822), (setI_some hx823).1, (setI_some hx823).2.1, (setI_some hx823).2.2]))) (vT_upd (v_of (d0 := (eI p1)) (by simp [p3_y, p3_z, hb556, hb813, idx_inb hx814, idx_get hx814, idx_lt hx814, elt (idx_get hx814), idx_inb hx815, idx_get hx815, idx_lt hx815, elt (idx_get hx815), hb817, (setI_some hx821).1, (setI_some hx821).2.1, (setI_some hx821).2.2, idx_inb hx822, idx_get hx822, idx_lt hx822, elt (idx_get hx822), (setI_some hx823).1, (setI_some hx823).2.1, (setI_some hx823).2.2]) (v_free (by simp [p3_y, p3_z]) (by simp [p3_y, p3_z, hb556, hb813, idx_inb hx814, idx_get hx814, idx_lt hx814, elt (idx_get hx814), idx_inb hx815, idx_get hx815, idx_lt hx815, elt (idx_get hx815), hb817, (setI_some hx821).1, (setI_some hx821).2.1, (setI_some hx821).2.2, idx_inb hx822, idx_get hx822, idx_lt hx822, elt (idx_get hx822), (setI_some hx823).1, (setI_some hx823).2.1, (setI_some hx823).2.2]))) (vT_upd (v_of (d0 := (.sl 2 0 (x823).length)) (by simp [p3_y, p3_z, hb556, hb813, idx_inb hx814, idx_get hx814, idx_lt hx814, elt (idx_get hx814), idx_inb hx815, idx_get hx815, idx_lt hx815, elt (idx_get hx815), hb817, (setI_some hx821).1, (setI_some hx821).2.1, (setI_some hx821).2.2, idx_inb hx822, idx_get hx822, idx_lt hx822, elt (idx_get hx822), (setI_some hx823).1, (setI_some hx823).2.1, (setI_some hx823).2.2]) (v_sl rfl)) (vT_any _))))))) (.cons (lv (L := ⟨2, (List.map rGPathBind x823), 0, 0x008c⟩) (by simp [p3_y, p3_z, hb556, hb813, idx_inb hx814, idx_get hx814, idx_lt hx814, elt (idx_get hx814), idx_inb hx815, idx_get hx815, idx_lt hx815, elt (idx_get hx815), hb817, (setI_some hx821).1, (setI_some hx821).2.1, (setI_some hx821).2.2, idx_inb hx822, idx_get hx822, idx_lt hx822, elt (idx_get hx822), (setI_some hx823).1, (setI_some hx823).2.1, (setI_some hx823).2.2]) rfl rfl (by simp [p3_y, p3_z, hb556, hb813, idx_inb hx814, idx_get hx814, idx_lt hx814, elt (idx_get hx814), idx_inb hx815, idx_get hx815, idx_lt hx815, elt (idx_get hx815), hb817, (setI_some hx821).1, (setI_some hx821).2.1, (setI_some hx821).2.2, idx_inb hx822, idx_get hx822, idx_lt hx822, elt (idx_get hx822), (setI_some hx823).1, (setI_some hx823).2.1, (setI_some hx823).2.2]) (rv_free (by simp [p3_y, p3_z, hb556, hb813, idx_inb hx814, idx_get hx814, idx_lt hx814, elt (idx_get hx814), idx_inb hx815, idx_get hx815, idx_lt hx815, elt (idx_get hx815), hb817, (setI_some hx821).1, (setI_some hx821).2.1, (setI_some hx821).2.2, idx_inb hx822, idx_get hx822, idx_lt hx822, elt (idx_get hx822), (setI_some hx823).1, (setI_some hx823).2.1, (setI_some hx823).2.2]) (free_rows_of fr_GPathBind _))) .nil)
              · rw [if_neg (ne_true_of hb817)] at g783
                refine TrD.exit ?_
                try simp only [↓reduceIte, Nat.reduceEqDiff, Nat.zero_ne_one, Nat.one_ne_zero, OfNat.ofNat_ne_zero, OfNat.zero_ne_ofNat, OfNat.one_ne_ofNat, OfNat.ofNat_ne_one]
                obtain rfl := Option.some.inj g783
                obtain rfl := hbrk779 _ rfl
                refine ToAny.mk (s774.1, s774.2) rfl ?_
                rw [hE777]
                exact Ghost.canonV 1 [0] _ _ hβ (keep_first (by decide)) (by decide) (vT_upd (v_of (d0 := (eI s544.2)) (by simp [p3_y, p3_z, hb556, hb813, idx_inb hx814, idx_get hx814, idx_lt hx814, elt (idx_get hx814), idx_inb hx815, idx_get hx815, idx_lt hx815, elt (idx_get hx815), hb817]) (v_free (by simp [p3_y, p3_z]) (by simp [p3_y, p3_z, hb556, hb813, idx_inb hx814, idx_get hx814, idx_lt hx814, elt (idx_get hx814), idx_inb hx815, idx_get hx815, idx_lt hx815, elt (idx_get hx815), hb817]))) (vT_upd (v_of (d0 := (.clos p3_f p3_c)) (by simp [p3_y, p3_z, hb556, hb813, idx_inb hx814, idx_get hx814, idx_lt hx814, elt (idx_get hx814), idx_inb hx815, idx_get hx815, idx_lt hx815, elt (idx_get hx815), hb817]) (v_free (by simp [p3_y, p3_z]) (by simp [p3_y, p3_z, hb556, hb813, idx_inb hx814, idx_get hx814, idx_lt hx814, elt (idx_get hx814), idx_inb hx815, idx_get hx815, idx_lt hx815, elt (idx_get hx815), hb817]))) (vT_upd (v_of (d0 := (eI p2)) (by simp [p3_y, p3_z, hb556, hb813, idx_inb hx814, idx_get hx814, idx_lt hx814, elt (idx_get hx814), idx_inb hx815, idx_get hx815, idx_lt hx815, elt (idx_get hx815), hb817]) (v_free (by simp [p3_y, p3_z]) (by simp [p3_y, p3_z, hb556, hb813, idx_inb hx814, idx_get hx814, idx_lt hx814, elt (idx_get hx814), idx_inb hx815, idx_get hx815, idx_lt hx815, elt (idx_get hx815), hb817]))) (vT_upd (v_of (d0 := (eI p1)) (by simp [p3_y, p3_z, hb556, hb813, idx_inb hx814, idx_get hx814, idx_lt hx814, elt (idx_get hx814), idx_inb hx815, idx_get hx815, idx_lt hx815, elt (idx_get hx815), hb817]) (v_free (by simp [p3_y, p3_z]) (by simp [p3_y, p3_z, hb556, hb813, idx_inb hx814, idx_get hx814, idx_lt hx814, elt (idx_get hx814), idx_inb hx815, idx_get hx815, idx_lt hx815, elt (idx_get hx815), hb817]))) (vT_upd (v_of (d0 := (.sl 2 0 (s774.1).length)) (by simp [p3_y, p3_z, hb556, hb813, idx_inb hx814, idx_get hx814, idx_lt hx814, elt (idx_get hx814), idx_inb hx815, idx_get hx815, idx_lt hx815, elt (idx_get hx815), hb817]) (v_sl rfl)) (vT_any _)))))) (.cons (lv (L := ⟨2, (List.map rGPathBind s774.1), 0, 0x008c⟩) (by simp [p3_y, p3_z, hb556, hb813, idx_inb hx814, idx_get hx814, idx_lt hx814, elt (idx_get hx814), idx_inb hx815, idx_get hx815, idx_lt hx815, elt (idx_get hx815), hb817]) rfl rfl (by simp [p3_y, p3_z, hb556, hb813, idx_inb hx814, idx_get hx814, idx_lt hx814, elt (idx_get hx814), idx_inb hx815, idx_get hx815, idx_lt hx815, elt (idx_get hx815), hb817]) (rv_free (by simp [p3_y, p3_z, hb556, hb813, idx_inb hx814, idx_get hx814, idx_lt hx814, elt (idx_get hx814), idx_inb hx815, idx_get hx815, idx_lt hx815, elt (idx_get hx815), hb817]) (free_rows_of fr_GPathBind _))) .nil)
            · rw [if_neg (ne_true_of hb813)] at g783
              refine TrD.draw tysOk mixed [0, 1, 2, 3, 4, 5, 6, 7, 8, 9, 10, 11, 12, 13, 14, 15, 16] [] [] (by rfl) rfl (fun K hK => ?_)
              simp [hb556, hb813]
              refine hK _ ?_
              refine TrD.cond (b := false) (by simp [p3_y, p3_z, hb556, hb813]) (fun hb => by cases hb) (fun hb => ?_)
              refine TrD.exit ?_
              try simp only [↓reduceIte, Nat.reduceEqDiff, Nat.zero_ne_one, Nat.one_ne_zero, OfNat.ofNat_ne_zero, OfNat.zero_ne_ofNat, OfNat.one_ne_ofNat, OfNat.ofNat_ne_one]
              obtain rfl := Option.some.inj g783
              obtain rfl := hbrk779 _ rfl
              refine ToAny.mk (s774.1, s774.2) rfl ?_
              rw [hE777]
              exact Ghost.canonV 1 [0] _ _ hβ (keep_first (by decide)) (by decide) (vT_upd (v_of (d0 := (eI s544.2)) (by simp [p3_y, p3_z, hb556, hb813]) (v_free (by simp [p3_y, p3_z]) (by simp [p3_y, p3_z, hb556, hb813]))) (vT_upd (v_of (d0 := (.clos p3_f p3_c)) (by simp [p3_y, p3_z, hb556, hb813]) (v_free (by simp [p3_y, p3_z]) (by simp [p3_y, p3_z, hb556, hb813]))) (vT_upd (v_of (d0 := (eI p2)) (by simp [p3_y, p3_z, hb556, hb813]) (v_free (by simp [p3_y, p3_z]) (by simp [p3_y, p3_z, hb556, hb813]))) (vT_upd (v_of (d0 := (eI p1)) (by simp [p3_y, p3_z, hb556, hb813]) (v_free (by simp [p3_y, p3_z]) (by simp [p3_y, p3_z, hb556, hb813]))) (vT_upd (v_of (d0 := (.sl 2 0 (s774.1).length)) (by simp [p3_y, p3_z, hb556, hb813]) (v_sl rfl)) (vT_any _)))))) (.cons (lv (L := ⟨2, (List.map rGPathBind s774.1), 0, 0x008c⟩) (by simp [p3_y, p3_z, hb556, hb813]) rfl rfl (by simp [p3_y, p3_z, hb556, hb813]) (rv_free (by simp [p3_y, p3_z, hb556, hb813]) (free_rows_of fr_GPathBind _))) .nil)
        · subst hz
          try dsimp only at g553
          rw [congrFun hE777 s784]
          refine TrD.regK tysOk (fun K hK => ?_)
          simp [hb556]
          refine hK _ ?_
          obtain rfl := Option.some.inj g553
          refine ToAny.mk (s784.1, wadd .i64 s544.2 1) rfl ?_
          rw [hS546]
          exact Ghost.canonV 1 [0] _ _ hβ (keep_first (by decide)) (by decide) (vT_upd (v_of (d0 := (eI (wadd .i64 s544.2 1))) (by simp [p3_y, p3_z, hb556]) (v_free (by simp [p3_y, p3_z]) (by simp [p3_y, p3_z, hb556]))) (vT_upd (v_of (d0 := (.clos p3_f p3_c)) (by simp [p3_y, p3_z, hb556]) (v_free (by simp [p3_y, p3_z]) (by simp [p3_y, p3_z, hb556]))) (vT_upd (v_of (d0 := (eI p2)) (by simp [p3_y, p3_z, hb556]) (v_free (by simp [p3_y, p3_z]) (by simp [p3_y, p3_z, hb556]))) (vT_upd (v_of (d0 := (eI p1)) (by simp [p3_y, p3_z, hb556]) (v_free (by simp [p3_y, p3_z]) (by simp [p3_y, p3_z, hb556]))) (vT_upd (v_of (d0 := (.sl 2 0 (s784.1).length)) (by simp [p3_y, p3_z, hb556]) (v_sl rfl)) (vT_any _)))))) (.cons (lv (L := ⟨2, (List.map rGPathBind s784.1), 0, 0x008c⟩) (by simp [p3_y, p3_z, hb556]) rfl rfl (by simp [p3_y, p3_z, hb556]) (rv_free (by simp [p3_y, p3_z, hb556]) (free_rows_of fr_GPathBind _))) .nil)
      · rw [if_neg (ne_true_of hb556)] at g553
        refine TrD.exit ?_
        try simp only [↓reduceIte, Nat.reduceEqDiff, Nat.zero_ne_one, Nat.one_ne_zero, OfNat.ofNat_ne_zero, OfNat.zero_ne_ofNat, OfNat.one_ne_ofNat, OfNat.ofNat_ne_one]
        obtain rfl := Option.some.inj g553
        obtain rfl := hbrk549 _ rfl
        refine ToAny.mk (s544.1, s544.2) rfl ?_
        rw [hE547]
        exact Ghost.canonV 1 [0] _ _ hβ (keep_first (by decide)) (by decide) (vT_any _) (.cons (lv (L := ⟨2, (List.map rGPathBind s544.1), 0, 0x008c⟩) (by simp [p3_y, p3_z, hb556]) rfl rfl (by simp [p3_y, p3_z, hb556]) (rv_free (by simp [p3_y, p3_z, hb556]) (free_rows_of fr_GPathBind _))) .nil)
  · subst hz
    try dsimp only at h
    rw [congrFun hE547 s554]
    obtain rfl := Option.some.inj h
    refine exitHG (σ' := ⟨(fun _ => .any), hOfO [some ⟨2, (List.map rGPathBind s554.1), 0, 0x008c⟩], 1, 53⟩) ?_ ?_
    · exact Ghost.canonV 1 [0] _ _ hβ (keep_first (by decide)) (by decide) (vT_any _) (.cons (lv (L := ⟨2, (List.map rGPathBind s554.1), 0, 0x008c⟩) (by simp [p3_y, p3_z]) rfl rfl (by simp [p3_y, p3_z]) (rv_free (by simp [p3_y, p3_z]) (free_rows_of fr_GPathBind _))) .nil)
    · dsimp only [resD]
      exact ⟨[some ⟨2, (List.map rGPathBind s554.1), 0, 0x008c⟩], [], rfl, by simp, by simp, .inl rfl, by simp [packD]⟩
instance i_slices_insertionSortCmpFunc_PathBind (n : Nat) (p0 : (List GPathBind)) (p1 : Int) (p2 : Int) (p3 : (GPathBind → GPathBind → Option Int)) {p3_f : FuncId} {p3_c : List D} [p3_i : CF2 (fun a0 => (.agg (rGPathBind a0))) (fun a1 => (.agg (rGPathBind a1))) (fun r => (eI r)) p3 p3_f p3_c] : Ct (m_slices_insertionSortCmpFunc_PathBind n p0 p1 p2 p3) fun res => CallsH Tryz.prog 0o00346 [⟨2, List.map rGPathBind p0, 0, 0x008c⟩] [.sl 2 0 p0.length, (eI p1), (eI p2), .clos p3_f p3_c] (fun H d => H = [some ⟨2, List.map rGPathBind res, 0, 0x008c⟩] ∧ d = .tup []) := ⟨c_slices_insertionSortCmpFunc_PathBind n p0 p1 p2 p3_f p3_c p3_i.fr p3 p3_i.h⟩
end Go.Proofs.YtmkamncbkkahjaaGreat
set_option linter.unusedSimpArgs false
set_option linter.unusedVariables false
namespace Go.Proofs.YtmkamncbkkahjaaGreat
open Go Go.RowKit
set_option maxRecDepth 100000
set_option maxHeartbeats 20000000
set_option maxRecDepth 100000 in
theorem c_slices_pdqsortCmpFunc_PathBind : ∀ (n : Nat) (p0 : (List GPathBind)) (p1 : Int) (p2 : Int) (p3 : Int) (p4_f : FuncId) (p4_c : List D) (p4_x : ∀ d ∈ p4_c, Free d) (p4 : (GPathBind → GPathBind → Option Int)) (p4_h : ∀ a0 a1 r, p4 a0 a1 = some r → CallsD Tryz.prog p4_f ([(.agg (rGPathBind a0)), (.agg (rGPathBind a1))] ++ p4_c) (fun d => d = (eI r))) (res : (List GPathBind)), m_slices_pdqsortCmpFunc_PathBind n p0 p1 p2 p3 p4 = some res → CallsH Tryz.prog 0o00245 [⟨2, List.map rGPathBind p0, 0, 0x008c⟩] [.sl 2 0 p0.length, (eI p1), (eI p2), (eI p3), .clos p4_f p4_c] (fun H d => H = [some ⟨2, List.map rGPathBind res, 0, 0x008c⟩] ∧ d = .tup []) := by
  intro n
  induction n with
  | zero => intro p0 p1 p2 p3 p4_f p4_c p4_x p4 p4_h res h; cases h
  | succ n ih =>
    intro p0 p1 p2 p3 p4_f p4_c p4_x p4 p4_h res h
    rw [m_slices_pdqsortCmpFunc_PathBind.eq_2] at h
    have p4_y : Free (.clos p4_f p4_c) := free_clos p4_x
    have p4_z := eq_true p4_x
    refine CallsH.of (res := []) tysOk Tryz.func165 (by decide) rfl (Nat.le_of_ble_eq_true rfl) rfl rfl (fun β hβ => ?_)
    refine TrD.seq ?_
    refine TrD.regK tysOk (fun K hK => ?_)
    simp
    refine hK _ ?_
    refine TrD.seq ?_
    refine TrD.regK tysOk (fun K hK => ?_)
    simp
    refine hK _ ?_
    obtain ⟨o11, g13, h⟩ := bindE h
    obtain ⟨E15, hE15⟩ : ∃ S : Unit → St, S = fun s22 => ⟨(fun _ => .any), hOfO [some ⟨2, (List.map rGPathBind p0), 0, 0x008c⟩], 1, 148⟩ := ⟨_, rfl⟩
    refine TrD.joinQ E15 (fun z => o11 = Ctl.brk z) (fun _ _ hg h => exitH_stab hg h) ?_ (fun s22 hz => ?_)
    · refine TrD.block ?_
      obtain ⟨S14, hS14⟩ : ∃ S : Unit → St, S = fun s12 => ⟨(updD (updD (updD (updD (updD (updD (updD (fun _ => .any) 0 (.sl 2 0 (p0).length)) 1 (eI p1)) 2 (eI p2)) 3 (eI p3)) 4 (.clos p4_f p4_c)) 10 (eB true)) 11 (eB true)), hOfO [some ⟨2, (List.map rGPathBind p0), 0, 0x008c⟩], 1, 148⟩ := ⟨_, rfl⟩
      refine TrD.whileL S14 g13 ?_ (fun s12 o20 g21 hret16 hbrk17 => ?_)
      · rw [hS14]
        exact Ghost.canonV 1 [0] _ _ hβ (keep_first (by decide)) (by decide) (vT_upd (v_of (d0 := (eB true)) (by simp [p4_y, p4_z]) (v_free (by simp [p4_y, p4_z]) (by simp [p4_y, p4_z]))) (vT_upd (v_of (d0 := (eB true)) (by simp [p4_y, p4_z]) (v_free (by simp [p4_y, p4_z]) (by simp [p4_y, p4_z]))) (vT_upd (v_of (d0 := (.clos p4_f p4_c)) (by simp [p4_y, p4_z]) (v_free (by simp [p4_y, p4_z]) (by simp [p4_y, p4_z]))) (vT_upd (v_of (d0 := (eI p3)) (by simp [p4_y, p4_z]) (v_free (by simp [p4_y, p4_z]) (by simp [p4_y, p4_z]))) (vT_upd (v_of (d0 := (eI p2)) (by simp [p4_y, p4_z]) (v_free (by simp [p4_y, p4_z]) (by simp [p4_y, p4_z]))) (vT_upd (v_of (d0 := (eI p1)) (by simp [p4_y, p4_z]) (v_free (by simp [p4_y, p4_z]) (by simp [p4_y, p4_z]))) (vT_upd (v_of (d0 := (.sl 2 0 (p0).length)) (by simp [p4_y, p4_z]) (v_sl rfl)) (vT_any _)))))))) (.cons (lv (L := ⟨2, (List.map rGPathBind p0), 0, 0x008c⟩) (by simp [p4_y, p4_z]) rfl rfl (by simp [p4_y, p4_z]) (rv_free (by simp [p4_y, p4_z]) (free_rows_of fr_GPathBind _))) .nil)
      · rw [congrFun hS14 s12]
        refine TrD.block ?_
        refine TrD.seq ?_
        refine TrD.regK tysOk (fun K hK => ?_)
        simp
        refine hK _ ?_
        refine TrD.seq ?_
        refine TrD.seq ?_
        refine TrD.regK tysOk (fun K hK => ?_)
        simp
        refine hK _ ?_
        refine TrD.cond (b := ile (wsub .i64 p2 p1) 12) (by simp [p4_y, p4_z]) (fun hb27 => ?_) (fun hb27 => ?_)
        · rw [if_pos hb27] at g21
          refine TrD.seq ?_
          obtain ⟨r28, hr28, g21⟩ := bindE g21
          obtain ⟨x29, hx29, g21⟩ := bindE g21
          refine TrD.regK tysOk (fun K hK => ?_)
          simp [hb27, chk_len hx29]
          refine callK (views_same _ _) (.same _ _) [0] (c_slices_insertionSortCmpFunc_PathBind n p0 p1 p2 p4_f p4_c p4_x p4 p4_h _ hr28) (by decide) (.cons (locRen_eq (by simp [p4_y, p4_z, hb27, chk_len hx29]) (by simp [p4_y, p4_z, hb27, chk_len hx29]) (by simp [p4_y, p4_z])) .nil) (.cons (ren_sl rfl) (.cons (ren_le (by simp [p4_y, p4_z]) (by simp [p4_y, p4_z, hb27, chk_len hx29])) (.cons (ren_le (by simp [p4_y, p4_z]) (by simp [p4_y, p4_z, hb27, chk_len hx29])) (.cons (ren_le (by simp [p4_y, p4_z]) (by simp [p4_y, p4_z, hb27, chk_len hx29])) .nil)))) (fun Hq30 qq30 hq30 => ?_)
          obtain ⟨rfl, rfl⟩ := hq30
          refine ⟨by simp, [some ⟨2, (List.map rGPathBind r28), 0, 0x008c⟩], (.tup []), (.cons (optRen_same (by simp [p4_y, p4_z])) .nil), (ren_free (by simp [p4_y, p4_z])), ?_⟩
          simp [setMany, newNames, hb27, chk_len hx29]
          refine hK _ ?_
          obtain rfl := Option.some.inj g21
          obtain rfl := hret16 _ rfl
          obtain rfl := Option.some.inj h
          refine TrD.ret ?_
          refine exitHG (σ' := ⟨(fun _ => .any), hOfO [some ⟨2, (List.map rGPathBind r28), 0, 0x008c⟩], 1, 148⟩) ?_ ?_
          · exact Ghost.canonV 1 [0] _ _ hβ (keep_first (by decide)) (by decide) (vT_any _) (.cons (lv (L := ⟨2, (List.map rGPathBind r28), 0, 0x008c⟩) (by simp [p4_y, p4_z, hb27, chk_len hx29]) rfl rfl (by simp [p4_y, p4_z, hb27, chk_len hx29]) (rv_free (by simp [p4_y, p4_z, hb27, chk_len hx29]) (free_rows_of fr_GPathBind _))) .nil)
          · dsimp only [resD]
            exact ⟨[some ⟨2, (List.map rGPathBind r28), 0, 0x008c⟩], [], rfl, by simp, by simp, .inl rfl, by simp [packD]⟩
        · rw [if_neg (ne_true_of hb27)] at g21
          refine TrD.skip ?_
          refine TrD.seq ?_
          refine TrD.seq ?_
          refine TrD.regK tysOk (fun K hK => ?_)
          simp [hb27]
          refine hK _ ?_
          refine TrD.cond (b := ieq p3 0) (by simp [p4_y, p4_z, hb27]) (fun hb32 => ?_) (fun hb32 => ?_)
          · rw [if_pos hb32] at g21
            refine TrD.seq ?_
            cases g21
          · rw [if_neg (ne_true_of hb32)] at g21
            refine TrD.skip ?_
            refine TrD.seq ?_
            refine TrD.seq ?_
            refine TrD.regK tysOk (fun K hK => ?_)
            simp [hb27, hb32]
            refine hK _ ?_
            refine TrD.cond (b := false) (by simp [p4_y, p4_z, hb27, hb32]) (fun hb => by cases hb) (fun hb => ?_)
            refine TrD.skip ?_
            refine TrD.seq ?_
            cases g21
    · subst hz
      try dsimp only at h
      rw [congrFun hE15 s22]
      obtain rfl := Option.some.inj h
      refine exitHG (σ' := ⟨(fun _ => .any), hOfO [some ⟨2, (List.map rGPathBind p0), 0, 0x008c⟩], 1, 148⟩) ?_ ?_
      · exact Ghost.canonV 1 [0] _ _ hβ (keep_first (by decide)) (by decide) (vT_any _) (.cons (lv (L := ⟨2, (List.map rGPathBind p0), 0, 0x008c⟩) (by simp [p4_y, p4_z]) rfl rfl (by simp [p4_y, p4_z]) (rv_free (by simp [p4_y, p4_z]) (free_rows_of fr_GPathBind _))) .nil)
      · dsimp only [resD]
        exact ⟨[some ⟨2, (List.map rGPathBind p0), 0, 0x008c⟩], [], rfl, by simp, by simp, .inl rfl, by simp [packD]⟩
end Go.Proofs.YtmkamncbkkahjaaGreat
set_option linter.unusedSimpArgs false
set_option linter.unusedVariables false
namespace Go.Proofs.YtmkamncbkkahjaaGreat
open Go Go.RowKit
set_option maxRecDepth 100000
set_option maxHeartbeats 20000000
instance i_math_bits_Len64 : ∀ (p0 : Int), Ct (m_math_bits_Len64 p0) fun res => CallsD Tryz.prog 0o00357 [(.val (.int .u64 p0))] (fun d => d = (eI res)) :=
 au Tryz.func239 m_math_bits_Len64.eq_1 (.o (.j 1 0 [0, 2] [] (fun (s2 : Int × Int) => [(0, .val (.int .u64 s2.1)), (2, eI s2.2)]) (fun _ => []) .z (fun s2 => .j 4 0 [0, 2] [] (fun (s7 : Int × Int) => [(0, .val (.int .u64 s7.1)), (2, eI s7.2)]) (fun _ => []) .z (fun s7 => .j 7 0 [0, 2] [] (fun (s12 : Int × Int) => [(0, .val (.int .u64 s12.1)), (2, eI s12.2)]) (fun _ => []) .z (fun _ => .z)))))
end Go.Proofs.YtmkamncbkkahjaaGreat
set_option linter.unusedSimpArgs false
set_option linter.unusedVariables false
namespace Go.Proofs.YtmkamncbkkahjaaGreat
open Go Go.RowKit
set_option maxRecDepth 100000
set_option maxHeartbeats 20000000
instance i_math_bits_Len : ∀ (p0 : Int), Ct (m_math_bits_Len p0) fun res => CallsD Tryz.prog 0o00246 [(.val (.int .u64 p0))] (fun d => d = (eI res)) :=
 au Tryz.func166 m_math_bits_Len.eq_1 .z
theorem c_math_bits_Len (p0 : Int) : ∀ res, m_math_bits_Len p0 = some res → CallsD Tryz.prog 0o00246 [(.val (.int .u64 p0))] (fun d => d = (eI res)) := (i_math_bits_Len p0).pf
end Go.Proofs.YtmkamncbkkahjaaGreat
set_option linter.unusedSimpArgs false
set_option linter.unusedVariables false
namespace Go.Proofs.YtmkamncbkkahjaaGreat
open Go Go.RowKit
set_option maxRecDepth 100000
set_option maxHeartbeats 20000000
set_option maxRecDepth 100000 in
theorem c_slices_SortFunc_PathBind (n : Nat) (p0 : (List GPathBind)) (p1_f : FuncId) (p1_c : List D) (p1_x : ∀ d ∈ p1_c, Free d) (p1 : (GPathBind → GPathBind → Option Int)) (p1_h : ∀ a0 a1 r, p1 a0 a1 = some r → CallsD Tryz.prog p1_f ([(.agg (rGPathBind a0)), (.agg (rGPathBind a1))] ++ p1_c) (fun d => d = (eI r))) (res : (List GPathBind)) (h : m_slices_SortFunc_PathBind n p0 p1 = some res) : CallsH Tryz.prog 0o00126 [⟨2, List.map rGPathBind p0, 0, 0x008c⟩] [.sl 2 0 p0.length, .clos p1_f p1_c] (fun H d => H = [some ⟨2, List.map rGPathBind res, 0, 0x008c⟩] ∧ d = .tup []) := by
  unfold m_slices_SortFunc_PathBind at h
  have p1_y : Free (.clos p1_f p1_c) := free_clos p1_x
  have p1_z := eq_true p1_x
  refine CallsH.of (res := []) tysOk Tryz.func86 (by decide) rfl (Nat.le_of_ble_eq_true rfl) rfl rfl (fun β hβ => ?_)
  refine TrD.seq ?_
  refine TrD.regK tysOk (fun K hK => ?_)
  simp
  refine hK _ ?_
  obtain ⟨r1, hr1, h⟩ := bindE h
  obtain ⟨r2, hr2, h⟩ := bindE h
  obtain ⟨x3, hx3, h⟩ := bindE h
  refine TrD.regK tysOk (fun K hK => ?_)
  simp [chk_len hx3]
  refine callP (c_math_bits_Len (wcv .u64 (lenZ p0.length)) _ hr1) (by simp [p1_y, p1_z, chk_len hx3]) (by simp [p1_y, p1_z]) (fun q4 hq4 => ?_)
  subst hq4
  simp [chk_len hx3]
  refine callK (views_same _ _) (.same _ _) [0] (c_slices_pdqsortCmpFunc_PathBind n p0 0 (lenZ p0.length) r1 p1_f p1_c p1_x p1 p1_h _ hr2) (by decide) (.cons (locRen_eq (by simp [p1_y, p1_z, chk_len hx3]) (by simp [p1_y, p1_z, chk_len hx3]) (by simp [p1_y, p1_z])) .nil) (.cons (ren_sl rfl) (.cons (ren_le (by simp [p1_y, p1_z]) (by simp [p1_y, p1_z, chk_len hx3])) (.cons (ren_le (by simp [p1_y, p1_z]) (by simp [p1_y, p1_z, chk_len hx3])) (.cons (ren_le (by simp [p1_y, p1_z]) (by simp [p1_y, p1_z, chk_len hx3])) (.cons (ren_le (by simp [p1_y, p1_z]) (by simp [p1_y, p1_z, chk_len hx3])) .nil))))) (fun Hq5 qq5 hq5 => ?_)
  obtain ⟨rfl, rfl⟩ := hq5
  refine ⟨by simp, [some ⟨2, (List.map rGPathBind r2), 0, 0x008c⟩], (.tup []), (.cons (optRen_same (by simp [p1_y, p1_z])) .nil), (ren_free (by simp [p1_y, p1_z])), ?_⟩
  simp [setMany, newNames, chk_len hx3]
  refine hK _ ?_
  obtain rfl := Option.some.inj h
  refine exitHG (σ' := ⟨(fun _ => .any), hOfO [some ⟨2, (List.map rGPathBind r2), 0, 0x008c⟩], 1, 14⟩) ?_ ?_
  · exact Ghost.canonV 1 [0] _ _ hβ (keep_first (by decide)) (by decide) (vT_any _) (.cons (lv (L := ⟨2, (List.map rGPathBind r2), 0, 0x008c⟩) (by simp [p1_y, p1_z, chk_len hx3]) rfl rfl (by simp [p1_y, p1_z, chk_len hx3]) (rv_free (by simp [p1_y, p1_z, chk_len hx3]) (free_rows_of fr_GPathBind _))) .nil)
  · dsimp only [resD]
    exact ⟨[some ⟨2, (List.map rGPathBind r2), 0, 0x008c⟩], [], rfl, by simp, by simp, .inl rfl, by simp [packD]⟩
instance i_slices_SortFunc_PathBind (n : Nat) (p0 : (List GPathBind)) (p1 : (GPathBind → GPathBind → Option Int)) {p1_f : FuncId} {p1_c : List D} [p1_i : CF2 (fun a0 => (.agg (rGPathBind a0))) (fun a1 => (.agg (rGPathBind a1))) (fun r => (eI r)) p1 p1_f p1_c] : Ct (m_slices_SortFunc_PathBind n p0 p1) fun res => CallsH Tryz.prog 0o00126 [⟨2, List.map rGPathBind p0, 0, 0x008c⟩] [.sl 2 0 p0.length, .clos p1_f p1_c] (fun H d => H = [some ⟨2, List.map rGPathBind res, 0, 0x008c⟩] ∧ d = .tup []) := ⟨c_slices_SortFunc_PathBind n p0 p1_f p1_c p1_i.fr p1 p1_i.h⟩
end Go.Proofs.YtmkamncbkkahjaaGreat
set_option linter.unusedSimpArgs false
set_option linter.unusedVariables false
namespace Go.Proofs.YtmkamncbkkahjaaGreat
open Go Go.RowKit
set_option maxRecDepth 100000
set_option maxHeartbeats 20000000
instance i_cmp_isNaN_int : ∀ (p0 : Int), Ct (m_cmp_isNaN_int p0) fun res => CallsD Tryz.prog 0o00247 [(eI p0)] (fun d => d = (eB res)) :=
 au Tryz.func167 m_cmp_isNaN_int.eq_1 .z
end Go.Proofs.YtmkamncbkkahjaaGreat
set_option linter.unusedSimpArgs false
set_option linter.unusedVariables false
namespace Go.Proofs.YtmkamncbkkahjaaGreat
open Go Go.RowKit
set_option maxRecDepth 100000
set_option maxHeartbeats 20000000
instance i_cmp_Compare_int : ∀ (p0 : Int) (p1 : Int), Ct (m_cmp_Compare_int p0 p1) fun res => CallsD Tryz.prog 0o00130 [(eI p0), (eI p1)] (fun d => d = (eI res)) :=
 au Tryz.func88 m_cmp_Compare_int.eq_1 .z
end Go.Proofs.YtmkamncbkkahjaaGreat
