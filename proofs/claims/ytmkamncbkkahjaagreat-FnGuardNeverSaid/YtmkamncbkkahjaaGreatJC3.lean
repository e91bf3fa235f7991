import Derived.Test.YtmkamncbkkahjaaGreatJMir
import Derived.Test.YtmkamncbkkahjaaGreatJZap
import Derived.Test.YtmkamncbkkahjaaGreatJC2
import Derived.Test.YtmkamncbkkahjaaGreatJC1
set_option linter.unusedSimpArgs false
set_option linter.unusedVariables false
namespace Go.Proofs.YtmkamncbkkahjaaGreat
open Go Go.RowKit
set_option maxRecDepth 100000
set_option maxHeartbeats 20000000
theorem c_impl_shape (p0 : (List GData)) (p1 : GType) (p2 : GPattern) (res : (List GType) × Bool) (h : m_impl_shape p0 p1 p2 = some res) : CallsD Tryz.prog 0o00370 [(.slice 2 (List.map rGData p0)), (.agg (rGType p1)), (.agg (rGPattern p2))] (fun d => d = .tup [(.slice 2 (List.map rGType res.1)), (eB res.2)]) := by
 unfold m_impl_shape at h
 refine CD Tryz.func248 [.tmp 6, .tmp 7] fun β hβ => ?_
 refine sZ ?_
 apply sq
 refine sZ ?_
 apply TrD.block
 refine sZ ?_
 refine TrD.cond (b := ieq p2.op 1) (by simp) (fun r => ?_) (fun r => ?_)
 ·rw [if_pos r] at h
  apply sq
  obtain ⟨B, ac, h⟩ := bindE h
  refine rk fun K hK => ?_
  simp [r]
  refine cp (c_impl_only p2 false false false 0 _ ac) ?_
  simp
  apply hK
  cases h
  apply TrD.ret
  refine exitDG (σ' := ⟨(updD (updD (fun _ => .any) 6 (.slice 2 (List.map rGType []))) 7 (eB B)), hOfO [], 0, 87⟩) ?_ ?_
  ·exact gC []
  dsimp only [resD]
  exact eF
 rw [iN r] at h
 refine sZ ?_ fun K hK => by simp [r]; exact hK
 refine TrD.cond (b := ieq p2.op 2) (by simp) (fun i => ?_) (fun i => ?_)
 ·rw [if_pos i] at h
  apply sq
  obtain ⟨ah, w, h⟩ := bindE h
  rcases bb ah with j | j
  ·rw [if_pos j] at h
   obtain ⟨C, ad, h⟩ := bindE h
   refine rk fun K hK => ?_
   simp [i]
   refine cp (c_impl_only p2 false false true 0 _ w) ?_
   simp [j]
   refine cp (c_impl_isVar p2.var _ ad) ?_
   simp [j]
   apply hK
   cases h
   apply TrD.ret
   refine exitDG (σ' := ⟨(updD (updD (fun _ => .any) 6 (.slice 2 (List.map rGType []))) 7 (eB C)), hOfO [], 0, 87⟩) ?_ ?_
   ·exact gC []
   dsimp only [resD]
   exact eF
  rw [iN j] at h
  refine rk fun K hK => ?_
  simp [i]
  refine cp (c_impl_only p2 false false true 0 _ w) ?_
  simp [j]
  apply hK
  cases h
  apply TrD.ret
  refine exitDG (σ' := ⟨(updD (updD (fun _ => .any) 6 (.slice 2 (List.map rGType []))) 7 (eB false)), hOfO [], 0, 87⟩) ?_ ?_
  ·exact gC []
  dsimp only [resD]
  exact eF
 rw [iN i] at h
 refine sZ ?_ fun K hK => by simp [i]; exact hK
 refine TrD.cond (b := ieq p2.op 3) (by simp) (fun l => ?_) (fun l => ?_)
 ·rw [if_pos l] at h
  apply sq
  refine TrD.ghost (σ' := ⟨(updD (updD (fun _ => .any) 4 (.ptr 2 0 0 0)) 5 (.ptr 6 1 0 0)), hOfO [some ⟨2, [(rGType p1)], 0, 0x0019⟩, some ⟨6, [(rGPattern p2)], 0, 0x0029⟩], 2, 87⟩) ?_ ?_
  ·exact gC [0, 8]
  rcases bb (ieq p1.data (-1)) with a | a
  ·rw [if_pos a] at h
   obtain ⟨ai, t, h⟩ := bindE h
   rcases bb ai with e | e
   ·rw [if_pos e] at h
    rcases bb (ile 0 p2.n) with o | o
    ·rw [if_pos o] at h
     rcases bb (ile p2.n p2.m) with s | s
     ·rw [if_pos s] at h
      refine TrD.draw tysOk mixed [0, 1, 2, 3, 4, 5, 6, 7, 8, 9, 10, 11, 12, 13, 14, 15, 16, 17, 18, 19, 20, 21, 22, 23, 24, 25] [0, 1] [] (by rfl) rfl (fun K hK => ?_)
      simp [a]
      refine cp (c_impl_only p2 false true false 0 _ t) ?_
      simp [e, o, s]
      apply hK
      cases h
      apply TrD.ret
      refine exitDG (σ' := ⟨(updD (updD (fun _ => .any) 6 (.slice 2 (List.map rGType []))) 7 (eB (ile p2.m 9))), hOfO [], 0, 87⟩) ?_ ?_
      ·exact gC []
      dsimp only [resD]
      exact eF
     rw [iN s] at h
     refine TrD.draw tysOk mixed [0, 1, 2, 3, 4, 5, 6, 7, 8, 9, 10, 11, 12, 13, 14, 15, 16, 17, 18, 19, 20, 21, 22, 23, 24, 25] [0, 1] [] (by rfl) rfl (fun K hK => ?_)
     simp [a]
     refine cp (c_impl_only p2 false true false 0 _ t) ?_
     simp [e, o, s]
     apply hK
     cases h
     apply TrD.ret
     refine exitDG (σ' := ⟨(updD (updD (fun _ => .any) 6 (.slice 2 (List.map rGType []))) 7 (eB false)), hOfO [], 0, 87⟩) ?_ ?_
     ·exact gC []
     dsimp only [resD]
     exact eF
    rw [iN o] at h
    refine TrD.draw tysOk mixed [0, 1, 2, 3, 4, 5, 6, 7, 8, 9, 10, 11, 12, 13, 14, 15, 16, 17, 18, 19, 20, 21, 22, 23, 24, 25] [0, 1] [] (by rfl) rfl (fun K hK => ?_)
    simp [a]
    refine cp (c_impl_only p2 false true false 0 _ t) ?_
    simp [e, o]
    apply hK
    cases h
    apply TrD.ret
    refine exitDG (σ' := ⟨(updD (updD (fun _ => .any) 6 (.slice 2 (List.map rGType []))) 7 (eB false)), hOfO [], 0, 87⟩) ?_ ?_
    ·exact gC []
    dsimp only [resD]
    exact eF
   rw [iN e] at h
   refine TrD.draw tysOk mixed [0, 1, 2, 3, 4, 5, 6, 7, 8, 9, 10, 11, 12, 13, 14, 15, 16, 17, 18, 19, 20, 21, 22, 23, 24, 25] [0, 1] [] (by rfl) rfl (fun K hK => ?_)
   simp [a]
   refine cp (c_impl_only p2 false true false 0 _ t) ?_
   simp [e]
   apply hK
   cases h
   apply TrD.ret
   refine exitDG (σ' := ⟨(updD (updD (fun _ => .any) 6 (.slice 2 (List.map rGType []))) 7 (eB false)), hOfO [], 0, 87⟩) ?_ ?_
   ·exact gC []
   dsimp only [resD]
   exact eF
  rw [iN a] at h
  refine TrD.draw tysOk mixed [0, 1, 2, 3, 4, 5, 6, 7, 8, 9, 10, 11, 12, 13, 14, 15, 16, 17, 18, 19, 20, 21, 22, 23, 24, 25] [0] [] (by rfl) rfl (fun K hK => ?_)
  simp [a]
  apply hK
  cases h
  apply TrD.ret
  refine exitDG (σ' := ⟨(updD (updD (fun _ => .any) 6 (.slice 2 (List.map rGType []))) 7 (eB false)), hOfO [], 0, 87⟩) ?_ ?_
  ·exact gC []
  dsimp only [resD]
  exact eF
 rw [iN l] at h
 refine sZ ?_ fun K hK => by simp [l]; exact hK
 refine TrD.cond (b := ieq p2.op 4) (by simp) (fun c => ?_) (fun c => ?_)
 ·rw [if_pos c] at h
  apply sq
  apply sq
  refine TrD.ghost (σ' := ⟨(updD (updD (updD (fun _ => .any) 0 (.slice 2 (List.map rGData p0))) 4 (.ptr 2 0 0 0)) 5 (.ptr 6 1 0 0)), hOfO [some ⟨2, [(rGType p1)], 0, 0x0019⟩, some ⟨6, [(rGPattern p2)], 0, 0x0029⟩], 2, 87⟩) ?_ ?_
  ·exact gC [0, 8]
  obtain ⟨ae, W, h⟩ := bindE h
  obtain ⟨af, X, h⟩ := bindE h
  refine TrD.draw tysOk mixed [0, 1, 3, 4, 2, 5, 6] [0, 1] [] (by rfl) rfl (fun K hK => ?_)
  simp
  refine cp (c_impl_ctorsOf p0 p1 _ W) ?_
  simp
  refine cp (c_slices_Contains_int ae p2.ctor _ X) ?_
  simp
  apply hK
  refine TrD.cond (b := (!af)) (by simp) (fun p => ?_) (fun p => ?_)
  ·rw [if_pos p] at h
   refine sZ ?_ fun K hK => by simp [p]; exact hK
   cases h
   apply TrD.ret
   refine exitDG (σ' := ⟨(updD (updD (fun _ => .any) 6 (.slice 2 (List.map rGType []))) 7 (eB false)), hOfO [], 0, 87⟩) ?_ ?_
   ·exact gC []
   dsimp only [resD]
   exact eF
  rw [iN p] at h
  apply TrD.skip
  apply sq
  obtain ⟨u, Y, h⟩ := bindE h
  refine rk fun K hK => ?_
  simp [p]
  refine cp (c_impl_argTypes p0 p1 p2.ctor _ Y) ?_
  simp
  apply hK
  apply sq
  obtain ⟨y, Z, h⟩ := bindE h
  refine rk fun K hK => ?_
  simp
  refine cp (c_impl_only p2 true false false (lenZ u.length) _ Z) ?_
  simp
  apply hK
  cases h
  apply TrD.ret
  exact xD
 rw [iN c] at h
 refine sZ ?_ fun K hK => by simp [c]; exact hK
 refine TrD.cond (b := ieq p2.op 5) (by simp) (fun f => ?_) (fun f => ?_)
 ·rw [if_pos f] at h
  apply sq
  refine TrD.ghost (σ' := ⟨(updD (updD (fun _ => .any) 4 (.ptr 2 0 0 0)) 5 (.ptr 6 1 0 0)), hOfO [some ⟨2, [(rGType p1)], 0, 0x0019⟩, some ⟨6, [(rGPattern p2)], 0, 0x0029⟩], 2, 87⟩) ?_ ?_
  ·exact gC [0, 8]
  obtain ⟨z, aa, h⟩ := bindE h
  refine TrD.drawZ tysOk mixed [0, 1, 3, 4, 2, 5, 6] [0, 1] [1048649] [] [] (by rfl) rfl 2097152 (Nat.le_of_ble_eq_true rfl) (.inr ⟨Nat.le_of_ble_eq_true rfl, rfl⟩) (fun K hK => ?_)
  simp
  refine cp (c_impl_only p2 false false false 2 _ aa) ?_
  simp
  apply hK
  cases h
  apply TrD.ret
  refine exitDG (σ' := ⟨(updD (updD (fun _ => .any) 6 (.slice 2 (List.map rGType [p1, p1]))) 7 (eB z)), hOfO [], 0, 87⟩) ?_ ?_
  ·refine (Ghost.raise 1048649 (by simp; rfl)).trans ?_
   exact gC [] (ht := ((va.u (d0 := (.sl 2 1048649 ([p1, p1]).length)) (by simp) (v_frz (L := ⟨2, (List.map rGType [p1, p1]), ([p1, p1]).length * 2, 0x0019⟩) (by simp) rfl (by simp) (by simp) (rv_free (by simp) (free_rows_of fr_GType _)))).f))
  dsimp only [resD]
  exact eF
 rw [iN f] at h
 refine sZ ?_ fun K hK => by simp [f]; exact hK
 refine TrD.cond (b := ieq p2.op 6) (by simp) (fun g => ?_) (fun g => ?_)
 ·rw [if_pos g] at h
  apply sq
  refine TrD.ghost (σ' := ⟨(updD (updD (fun _ => .any) 4 (.ptr 2 0 0 0)) 5 (.ptr 6 1 0 0)), hOfO [some ⟨2, [(rGType p1)], 0, 0x0019⟩, some ⟨6, [(rGPattern p2)], 0, 0x0029⟩], 2, 87⟩) ?_ ?_
  ·exact gC [0, 8]
  obtain ⟨ag, v, h⟩ := bindE h
  rcases bb ag with q | q
  ·rw [if_pos q] at h
   obtain ⟨A, ab, h⟩ := bindE h
   refine TrD.drawZ tysOk mixed [0, 2, 3, 4, 5, 6, 7, 8, 1, 9, 10] [0, 1] [1048655] [] [] (by rfl) rfl 2097152 (Nat.le_of_ble_eq_true rfl) (.inr ⟨Nat.le_of_ble_eq_true rfl, rfl⟩) (fun K hK => ?_)
   simp
   refine cp (c_impl_only p2 false false true 1 _ v) ?_
   simp [q]
   refine cp (c_impl_isVar p2.var _ ab) ?_
   simp
   apply hK
   cases h
   apply TrD.ret
   refine exitDG (σ' := ⟨(updD (updD (fun _ => .any) 6 (.slice 2 (List.map rGType [p1]))) 7 (eB A)), hOfO [], 0, 87⟩) ?_ ?_
   ·refine (Ghost.raise 1048655 (by simp; rfl)).trans ?_
    exact gC [] (ht := ((va.u (d0 := (.sl 2 1048655 ([p1]).length)) (by simp) (v_frz (L := ⟨2, (List.map rGType [p1]), ([p1]).length * 2, 0x0019⟩) (by simp) rfl (by simp) (by simp) (rv_free (by simp) (free_rows_of fr_GType _)))).f))
   dsimp only [resD]
   exact eF
  rw [iN q] at h
  refine TrD.drawZ tysOk mixed [0, 2, 3, 4, 5, 6, 7, 8, 1, 9, 10] [0, 1] [1048655] [] [] (by rfl) rfl 2097152 (Nat.le_of_ble_eq_true rfl) (.inr ⟨Nat.le_of_ble_eq_true rfl, rfl⟩) (fun K hK => ?_)
  simp
  refine cp (c_impl_only p2 false false true 1 _ v) ?_
  simp [q]
  apply hK
  cases h
  apply TrD.ret
  refine exitDG (σ' := ⟨(updD (updD (fun _ => .any) 6 (.slice 2 (List.map rGType [p1]))) 7 (eB false)), hOfO [], 0, 87⟩) ?_ ?_
  ·refine (Ghost.raise 1048655 (by simp; rfl)).trans ?_
   exact gC [] (ht := ((va.u (d0 := (.sl 2 1048655 ([p1]).length)) (by simp) (v_frz (L := ⟨2, (List.map rGType [p1]), ([p1]).length * 2, 0x0019⟩) (by simp) rfl (by simp) (by simp) (rv_free (by simp) (free_rows_of fr_GType _)))).f))
  dsimp only [resD]
  exact eF
 rw [iN g] at h
 apply TrD.skip
 refine sZ ?_ fun K hK => by simp [g]; exact hK
 cases h
 apply TrD.ret
 refine exitDG (σ' := ⟨(updD (updD (fun _ => .any) 6 (.slice 2 (List.map rGType []))) 7 (eB false)), hOfO [], 0, 87⟩) ?_ ?_
 ·exact gC []
 dsimp only [resD]
 exact eF
theorem c_slices_Index_VarType (p0 : (List GVarType)) (p1 : GVarType) (res : Int) (h : m_slices_Index_VarType p0 p1 = some res) : CallsD Tryz.prog 0o00407 [(.slice 3 (List.map rGVarType p0)), (.agg (rGVarType p1))] (fun d => d = (eI res)) := by
 unfold m_slices_Index_VarType at h
 refine CD Tryz.func263 [.tmp 4] fun β hβ => ?_
 refine sZ ?_
 apply sq
 refine sZ ?_
 obtain ⟨t, q, h⟩ := bindE h
 obtain ⟨o, l⟩ : ∃ S : Unit → St, S = fun n => ⟨(fun _ => .any), hOfO [], 0, 19⟩ := ⟨_, rfl⟩
 refine TrD.joinQ o (fun z => t = Ctl.brk z) (fun _ _ hg h => TrD.ghost hg h) ?_ (fun n hz => ?_)
 ·apply TrD.block
  obtain ⟨p, i⟩ : ∃ S : Nat → Unit → St, S = fun a f => ⟨(updD (updD (updD (updD (fun _ => .any) 0 (.slice 3 (List.map rGVarType p0))) 3 (.ptr 3 0 0 0)) 7 (eI (lenZ p0.length))) 8 (eI (a : Int))), hOfO [some ⟨3, [(rGVarType p1)], 0, 0x0111⟩], 1, 19⟩ := ⟨_, rfl⟩
  refine TrD.limS (sz := 3) (rows := List.map rGVarType p0) (seen_slot (d := .slice 3 (List.map rGVarType p0)) 0 (by simp)) (fun hlim => ?_)
  rw [List.length_map] at hlim
  refine TrD.forL p q hlim ?_ (fun a j f m w y s e A g r v => ?_) (fun f u => ?_)
  ·rw [i]
   exact gC [0]
  ·rw [congrFun (congrFun i a) f]
   refine sZ ?_ fun K hK => by simp [s]; exact hK
   apply sq
   refine cT ?_
   apply TrD.skip
   apply sq
   apply TrD.block
   refine sZ ?_
   apply sq
   refine TrD.ghost (σ' := ⟨(updD (updD (updD (updD (updD (fun _ => .any) 0 (.slice 3 (List.map rGVarType p0))) 3 (.ptr 3 0 0 0)) 5 (eI (a : Int))) 7 (eI (lenZ p0.length))) 8 (eI (a : Int))), hOfO [some ⟨3, [(rGVarType p1)], 0, 0x0111⟩], 1, 19⟩) ?_ ?_
   ·exact gC [0]
   refine TrD.draw tysOk mixed [0, 1, 2, 3, 4, 5] [0] [] (by rfl) rfl (fun K hK => ?_)
   simp [idx_inb m, idx_row m]
   apply hK
   refine TrD.cond (b := eqAll [ieq p1.var j.var, ieq p1.typ.data j.typ.data, ieq p1.typ.index j.typ.index]) (by simp) (fun c => ?_) (fun c => ?_)
   ·rw [if_pos c] at g
    refine sZ ?_ fun K hK => by simp [c]; exact hK
    cases g
    obtain rfl := r _ rfl
    cases h
    apply TrD.ret
    exact xD
   rw [iN c] at g
   apply TrD.skip
   refine rZ ?_ fun K hK => by simp [c]; exact hK
   cases g
   refine ToAny.mk () rfl ?_
   rw [i]
   exact gc [0] hβ ((((va.f (by simp [e])).p 0 (by simp [e])).f (by simp [e])).f (by simp [e])) ln.f
  rw [congrFun (congrFun i _) f]
  refine sZ ?_ fun K hK => by simp [ilt_len p0.length]; exact hK
  apply sq
  refine cF ?_
  refine TrD.exit ?_
  try simp only [↓reduceIte, Nat.reduceEqDiff, Nat.zero_ne_one, Nat.one_ne_zero, OfNat.ofNat_ne_zero, OfNat.zero_ne_ofNat, OfNat.one_ne_ofNat, OfNat.ofNat_ne_one]
  refine ToAny.mk f u ?_
  rw [l]
  exact gC []
 subst hz
 try dsimp only at h
 rw [congrFun l n]
 refine sZ ?_
 cases h
 apply TrD.ret
 exact xD
theorem c_slices_Contains_VarType (p0 : (List GVarType)) (p1 : GVarType) (res : Bool) (h : m_slices_Contains_VarType p0 p1 = some res) : CallsD Tryz.prog 0o00315 [(.slice 3 (List.map rGVarType p0)), (.agg (rGVarType p1))] (fun d => d = (eB res)) := by
 unfold m_slices_Contains_VarType at h
 refine CD Tryz.func205 [.tmp 4] fun β hβ => ?_
 refine sZ ?_
 apply sq
 obtain ⟨r1, hr1, h⟩ := bindE h
 refine rk fun K hK => ?_
 simp
 refine cp (c_slices_Index_VarType p0 p1 _ hr1) ?_
 simp
 apply hK
 cases h
 apply TrD.ret
 exact xD
theorem c_impl_sameVars_1 (p0 : GVarType) (q0 : (List GVarType)) (res : Bool) (h : m_impl_sameVars_1 p0 q0 = some res) : CallsD Tryz.prog 0o00450 [(.agg (rGVarType p0)), .cptr [(.slice 3 (List.map rGVarType q0))]] (fun d => d = (eB res)) := by
 unfold m_impl_sameVars_1 at h
 refine CD Tryz.func296 [.tmp 3] fun β hβ => ?_
 refine sZ ?_
 apply sq
 obtain ⟨r1, hr1, h⟩ := bindE h
 refine rk fun K hK => ?_
 simp
 refine cp (c_slices_Contains_VarType q0 p0 _ hr1) ?_
 simp
 apply hK
 cases h
 apply TrD.ret
 exact xD
theorem c_slices_IndexFunc_VarType (p0 : (List GVarType)) (p1_f : FuncId) (p1_c : List D) (p1_x : ∀ d ∈ p1_c, Free d) (p1 : (GVarType → Option Bool)) (p1_h : ∀ a0 r, p1 a0 = some r → CallsD Tryz.prog p1_f ([(.agg (rGVarType a0))] ++ p1_c) (fun d => d = (eB r))) (res : Int) (h : m_slices_IndexFunc_VarType p0 p1 = some res) : CallsD Tryz.prog 0o00460 [(.slice 3 (List.map rGVarType p0)), .clos p1_f p1_c] (fun d => d = (eI res)) := by
 unfold m_slices_IndexFunc_VarType at h
 have p1_y : Free (.clos p1_f p1_c) := free_clos p1_x
 have p1_z := eq_true p1_x
 refine CD Tryz.func304 [.tmp 4] fun β hβ => ?_
 refine sZ ?_
 apply sq
 refine sZ ?_
 obtain ⟨v, p, h⟩ := bindE h
 obtain ⟨n, j⟩ : ∃ S : Unit → St, S = fun m => ⟨(fun _ => .any), hOfO [], 0, 19⟩ := ⟨_, rfl⟩
 refine TrD.joinQ n (fun z => v = Ctl.brk z) (fun _ _ hg h => TrD.ghost hg h) ?_ (fun m hz => ?_)
 ·apply TrD.block
  obtain ⟨o, i⟩ : ∃ S : Nat → Unit → St, S = fun c g => ⟨(updD (updD (updD (updD (fun _ => .any) 0 (.slice 3 (List.map rGVarType p0))) 1 (.clos p1_f p1_c)) 7 (eI (lenZ p0.length))) 8 (eI (c : Int))), hOfO [], 0, 19⟩ := ⟨_, rfl⟩
  refine TrD.limS (sz := 3) (rows := List.map rGVarType p0) (seen_slot (d := .slice 3 (List.map rGVarType p0)) 0 (by simp)) (fun hlim => ?_)
  rw [List.length_map] at hlim
  refine TrD.forL o p hlim ?_ (fun c A g l C E u f F a t B => ?_) (fun g y => ?_)
  ·rw [i]
   exact gc [] hβ (((va.f.f (by simp) (by simp [p1_y])).f).f) ln
  ·rw [congrFun (congrFun i c) g]
   refine sZ ?_ fun K hK => by simp [u]; exact hK
   apply sq
   refine cT ?_
   apply TrD.skip
   apply sq
   apply TrD.block
   refine sZ ?_
   apply sq
   obtain ⟨w, s, a⟩ := bindE a
   refine rk fun K hK => ?_
   simp [idx_inb l, idx_row l]
   refine cp (p1_h A _ s) ?_ (by simp) (by simp [p1_z])
   simp
   apply hK
   refine TrD.cond (b := w) (by simp) (fun e => ?_) (fun e => ?_)
   ·rw [if_pos e] at a
    refine sZ ?_ fun K hK => by simp [e]; exact hK
    cases a
    obtain rfl := t _ rfl
    cases h
    apply TrD.ret
    exact xD
   rw [iN e] at a
   apply TrD.skip
   refine rZ ?_ fun K hK => by simp [e]; exact hK
   cases a
   refine ToAny.mk () rfl ?_
   rw [i]
   exact gc [] hβ ((((va.f (by simp [f])).f (by simp [f]) (by simp [p1_y])).f (by simp [f])).f (by simp [f])) ln
  rw [congrFun (congrFun i _) g]
  refine sZ ?_ fun K hK => by simp [ilt_len p0.length]; exact hK
  apply sq
  refine cF ?_
  refine TrD.exit ?_
  try simp only [↓reduceIte, Nat.reduceEqDiff, Nat.zero_ne_one, Nat.one_ne_zero, OfNat.ofNat_ne_zero, OfNat.zero_ne_ofNat, OfNat.one_ne_ofNat, OfNat.ofNat_ne_one]
  refine ToAny.mk g y ?_
  rw [j]
  exact gC []
 subst hz
 try dsimp only at h
 rw [congrFun j m]
 refine sZ ?_
 cases h
 apply TrD.ret
 exact xD
theorem c_slices_ContainsFunc_VarType (p0 : (List GVarType)) (p1_f : FuncId) (p1_c : List D) (p1_x : ∀ d ∈ p1_c, Free d) (p1 : (GVarType → Option Bool)) (p1_h : ∀ a0 r, p1 a0 = some r → CallsD Tryz.prog p1_f ([(.agg (rGVarType a0))] ++ p1_c) (fun d => d = (eB r))) (res : Bool) (h : m_slices_ContainsFunc_VarType p0 p1 = some res) : CallsD Tryz.prog 0o00447 [(.slice 3 (List.map rGVarType p0)), .clos p1_f p1_c] (fun d => d = (eB res)) := by
 unfold m_slices_ContainsFunc_VarType at h
 have p1_y : Free (.clos p1_f p1_c) := free_clos p1_x
 have p1_z := eq_true p1_x
 refine CD Tryz.func295 [.tmp 4] fun β hβ => ?_
 refine sZ ?_
 apply sq
 obtain ⟨r1, hr1, h⟩ := bindE h
 refine rk fun K hK => ?_
 simp
 refine cp (c_slices_IndexFunc_VarType p0 p1_f p1_c p1_x p1 p1_h _ hr1) ?_ (by simp) (by simp [p1_y])
 simp
 apply hK
 cases h
 apply TrD.ret
 exact xD
theorem c_impl_sameVars (p0 : (List GVarType)) (p1 : (List GVarType)) (res : Bool) (h : m_impl_sameVars p0 p1 = some res) : CallsD Tryz.prog 0o00371 [(.slice 3 (List.map rGVarType p0)), (.slice 3 (List.map rGVarType p1))] (fun d => d = (eB res)) := by
 unfold m_impl_sameVars at h
 refine CD Tryz.func249 [.tmp 4] fun β hβ => ?_
 refine sZ ?_
 apply sq
 rcases bb (ieq (lenZ p0.length) (lenZ p1.length)) with hb4 | hb4
 ·rw [if_pos hb4] at h
  obtain ⟨r5, hr5, h⟩ := bindE h
  refine rk fun K hK => ?_
  simp [hb4]
  refine callB (.cons (.same _ _) (.cons (.clos _ _ _ _ 0 _ _ rfl (.ptr _ _ _ _ _ _ _ (by simp; rfl) rfl rfl (by simp))) (.nil _))) (c_slices_ContainsFunc_VarType p0 _ [.cptr [(.slice 3 (List.map rGVarType p1))]] (by simp) (fun a0 => m_impl_sameVars_1 a0 p1) (fun a0 r hr => c_impl_sameVars_1 a0 p1 r hr) _ hr5) (by simp) (by simp) (fun q6 hq6 => ?_)
  subst hq6
  refine ⟨by simp, ?_⟩
  simp [hb4]
  apply hK
  cases h
  apply TrD.ret
  exact xD
 rw [iN hb4] at h
 refine rZ ?_ fun K hK => by simp [hb4]; exact hK
 cases h
 apply TrD.ret
 exact xD
theorem c_impl_patternScan : ∀ (n : Nat) (p0 : (List GData)) (p1 : GType) (p2 : GPattern) (p3 : Int) (p4 : Int) (res : (List GVarType) × Bool × Int), m_impl_patternScan n p0 p1 p2 p3 p4 = some res → CallsH Tryz.prog 0o00272 [⟨1, [[(eI p4)]], 0, 0x0003⟩] [(.slice 2 (List.map rGData p0)), (.agg (rGType p1)), (.agg (rGPattern p2)), (eI p3), .ptr 1 0 0 0] (fun H d => H = [some ⟨1, [[(eI res.2.2)]], 0, 0x0003⟩] ∧ d = .tup [(.slice 3 (List.map rGVarType res.1)), (eB res.2.1)]) := by
 intro n
 induction n with
 | zero => intro p0 p1 p2 p3 p4 res h; cases h
 | succ n ih =>
  intro p0 p1 p2 p3 p4 res h
  rw [m_impl_patternScan.eq_2] at h
  refine CH Tryz.func186 [.tmp 10, .tmp 11] 1 fun β hβ => ?_
  refine sZ ?_
  refine sZ ?_
  apply sq
  apply sq
  rcases bb (ilt 60 (wadd .i64 p4 1)) with hb9 | hb9
  ·rw [if_pos hb9] at h
   refine rZ ?_ fun K hK => by simp [hb9]; exact hK
   refine cT ?_
   refine sZ ?_
   cases h
   apply TrD.ret
   refine exitHG (σ' := ⟨(updD (updD (fun _ => .any) 10 (.slice 3 (List.map rGVarType []))) 11 (eB false)), hOfO [some ⟨1, [[(eI (wadd .i64 p4 1))]], 0, 0x0003⟩], 1, 114⟩) ?_ ?_
   ·exact gC [0]
   dsimp only [resD]
   exact eA
  rw [iN hb9] at h
  refine rZ ?_ fun K hK => by simp [hb9]; exact hK
  refine TrD.cond (b := ilt 10 p3) (by simp) (fun w => ?_) (fun w => ?_)
  ·rw [if_pos w] at h
   refine sZ ?_ fun K hK => by simp [w]; exact hK
   cases h
   apply TrD.ret
   refine exitHG (σ' := ⟨(updD (updD (fun _ => .any) 10 (.slice 3 (List.map rGVarType []))) 11 (eB false)), hOfO [some ⟨1, [[(eI (wadd .i64 p4 1))]], 0, 0x0003⟩], 1, 114⟩) ?_ ?_
   ·exact gC [0]
   dsimp only [resD]
   exact eA
  rw [iN w] at h
  apply TrD.skip
  apply sq
  obtain ⟨g, au, h⟩ := bindE h
  refine rk fun K hK => ?_
  simp [w]
  refine cp (c_impl_shape p0 p1 p2 _ au) ?_
  simp
  apply hK
  apply sq
  refine sZ ?_
  refine TrD.cond (b := (!g.2)) (by simp) (fun x => ?_) (fun x => ?_)
  ·rw [if_pos x] at h
   refine sZ ?_ fun K hK => by simp [x]; exact hK
   cases h
   apply TrD.ret
   refine exitHG (σ' := ⟨(updD (updD (fun _ => .any) 10 (.slice 3 (List.map rGVarType []))) 11 (eB false)), hOfO [some ⟨1, [[(eI (wadd .i64 p4 1))]], 0, 0x0003⟩], 1, 114⟩) ?_ ?_
   ·exact gC [0]
   dsimp only [resD]
   exact eA
  rw [iN x] at h
  apply TrD.skip
  refine sZ ?_ fun K hK => by simp [x]; exact hK
  obtain ⟨aE, k, h⟩ := bindE h
  obtain ⟨ah, E⟩ : ∃ S : (List GVarType) → St, S = fun u => ⟨(updD (updD (updD (updD (updD (updD (fun _ => .any) 0 (.slice 2 (List.map rGData p0))) 3 (eI p3)) 4 (.ptr 1 0 0 0)) 7 (.ptr 6 1 0 0)) 12 (.slice 2 (List.map rGType g.1))) 14 (.sl 3 2 (u).length)), hOfO [some ⟨1, [[(eI (wadd .i64 p4 1))]], 0, 0x0003⟩, some ⟨6, [(rGPattern p2)], 0, 0x0029⟩, some ⟨3, (List.map rGVarType u), 0, 0x0111⟩], 3, 114⟩ := ⟨_, rfl⟩
  refine TrD.join ah (fun z => aE = Ctl.brk z) ?_ (fun u hz => ?_)
  ·apply sq
   rcases bb (ieq p2.op 2) with y | y
   ·rw [if_pos y] at k
    refine rZ ?_ fun K hK => by simp [y]; exact hK
    refine cT ?_
    obtain ⟨aX, W, k⟩ := bindE k
    have Z := (app_some W).2
    try simp only [List.length_cons, List.length_nil, Nat.zero_add] at Z
    obtain an := app_nil W
    subst an
    refine rZ ?_ fun K hK => by simp [Z]; exact hK
    cases k
    refine ToAny.mk [(GVarType.mk p2.var p1)] rfl ?_
    rw [E]
    exact gC [0, 9, 329]
   rw [iN y] at k
   refine rZ ?_ fun K hK => by simp [y]; exact hK
   refine TrD.cond (b := ieq p2.op 6) (by simp) (fun l => ?_) (fun l => ?_)
   ·rw [if_pos l] at k
    obtain ⟨aY, aa, k⟩ := bindE k
    have ab := (app_some aa).2
    try simp only [List.length_cons, List.length_nil, Nat.zero_add] at ab
    obtain ao := app_nil aa
    subst ao
    refine rZ ?_ fun K hK => by simp [l, ab]; exact hK
    cases k
    refine ToAny.mk [(GVarType.mk p2.var p1)] rfl ?_
    rw [E]
    exact gC [0, 9, 353]
   rw [iN l] at k
   apply TrD.skip
   cases k
   refine ToAny.mk [] rfl ?_
   rw [E]
   refine (Ghost.ownNil (s := 14) (by simp [l]) 3 0x0111).trans ?_
   exact gC [0, 9, 305]
  subst hz
  try dsimp only at h
  rw [congrFun E u]
  apply sq
  refine sZ ?_
  obtain ⟨aF, al, h⟩ := bindE h
  obtain ⟨af, R⟩ : ∃ S : (Int × (List GVarType)) → St, S = fun a => ⟨(updD (fun _ => .any) 14 (.sl 3 1 (a.2).length)), hOfO [some ⟨1, [[(eI a.1)]], 0, 0x0003⟩, some ⟨3, (List.map rGVarType a.2), 0, 0x0111⟩], 2, 114⟩ := ⟨_, rfl⟩
  refine TrD.joinQ af (fun z => aF = Ctl.brk z) (fun _ _ hg h => TrD.ghost hg h) ?_ (fun a hz => ?_)
  ·apply TrD.block
   obtain ⟨ai, F⟩ : ∃ S : Nat → (Int × (List GVarType)) → St, S = fun j e => ⟨(updD (updD (updD (updD (updD (updD (updD (updD (updD (fun _ => .any) 0 (.slice 2 (List.map rGData p0))) 3 (eI p3)) 4 (.ptr 1 0 0 0)) 7 (.ptr 6 1 0 0)) 12 (.slice 2 (List.map rGType g.1))) 14 (.sl 3 2 (e.2).length)) 60 (.slice 6 (List.map rGPattern p2.kids))) 61 (eI (lenZ p2.kids.length))) 62 (eI (j : Int))), hOfO [some ⟨1, [[(eI e.1)]], 0, 0x0003⟩, some ⟨6, [(rGPattern p2)], 0, 0x0029⟩, some ⟨3, (List.map rGVarType e.2), 0, 0x0111⟩], 3, 114⟩ := ⟨_, rfl⟩
   refine TrD.limS (sz := 6) (rows := List.map rGPattern p2.kids) (seen_slot (d := .slice 6 (List.map rGPattern p2.kids)) 60 (by simp)) (fun hlim => ?_)
   rw [List.length_map] at hlim
   refine TrD.forL ai al hlim ?_ (fun j O e ac aQ aR az m aS q U aO => ?_) (fun e aJ => ?_)
   ·rw [F]
    exact gC [0, 1, 2]
   ·rw [congrFun (congrFun F j) e]
    refine sZ ?_ fun K hK => by simp [az]; exact hK
    apply sq
    refine cT ?_
    apply TrD.skip
    obtain ⟨aG, c, q⟩ := bindE q
    obtain ⟨aj, G⟩ : ∃ S : Int × (List GVarType) → St, S = fun o => ⟨(updD (updD (updD (updD (updD (updD (updD (updD (updD (fun _ => .any) 0 (.slice 2 (List.map rGData p0))) 3 (eI p3)) 4 (.ptr 1 0 0 0)) 7 (.ptr 6 1 0 0)) 12 (.slice 2 (List.map rGType g.1))) 14 (.sl 3 2 (o.2).length)) 60 (.slice 6 (List.map rGPattern p2.kids))) 61 (eI (lenZ p2.kids.length))) 62 (eI (j : Int))), hOfO [some ⟨1, [[(eI o.1)]], 0, 0x0003⟩, some ⟨6, [(rGPattern p2)], 0, 0x0029⟩, some ⟨3, (List.map rGVarType o.2), 0, 0x0111⟩], 3, 114⟩ := ⟨_, rfl⟩
    refine TrD.join aj (fun z => aG = Ctl.brk z) ?_ (fun o hz => ?_)
    ·apply TrD.block
     refine sZ ?_ fun K hK => by simp [idx_inb ac, idx_row ac]; exact hK
     apply sq
     refine TrD.ghost (σ' := ⟨(updD (updD (updD (updD (updD (updD (updD (updD (updD (updD (updD (fun _ => .any) 0 (.slice 2 (List.map rGData p0))) 3 (eI p3)) 4 (.ptr 1 0 0 0)) 7 (.ptr 6 1 0 0)) 12 (.slice 2 (List.map rGType g.1))) 14 (.sl 3 2 (e.2).length)) 15 (eI (j : Int))) 16 (.ptr 6 3 0 0)) 60 (.slice 6 (List.map rGPattern p2.kids))) 61 (eI (lenZ p2.kids.length))) 62 (eI (j : Int))), hOfO [some ⟨1, [[(eI e.1)]], 0, 0x0003⟩, some ⟨6, [(rGPattern p2)], 0, 0x0029⟩, some ⟨3, (List.map rGVarType e.2), 0, 0x0111⟩, some ⟨6, [(rGPattern O)], 0, 0x0029⟩], 4, 114⟩) ?_ ?_
     ·exact gC [0, 1, 2, 35]
     obtain ⟨aL, V, c⟩ := bindE c
     obtain ⟨f, av, c⟩ := bindE c
     refine TrD.draw tysOk mixed [0, 1, 2, 3, 4, 5, 6, 7, 8, 9, 10, 11, 12, 13, 14] [3] [] (by rfl) rfl (fun K hK => ?_)
     simp [idx_inb V, idx_row V]
     refine callK (views_same _ _) (.same _ _) [0] (ih p0 aL O (wadd .i64 p3 1) e.1 _ av) (by decide) (.cons (locRen_eq (by simp) (by simp) (by simp)) .nil) (.cons (ren_le (by simp) (by simp)) (.cons (ren_le (by simp) (by simp)) (.cons (ren_le (by simp) (by simp)) (.cons (ren_le (by simp) (by simp)) (.cons (ren_ptr rfl) .nil))))) (fun aN aW aq => ?_)
     obtain ⟨rfl, rfl⟩ := aq
     refine ⟨by simp, [some ⟨1, [[(eI f.2.2)]], 0, 0x0003⟩], (.tup [(.slice 3 (List.map rGVarType f.1)), (eB f.2.1)]), (.cons (optRen_same (by simp)) .nil), (ren_free (by simp)), ?_⟩
     simp [setMany, newNames]
     apply hK
     apply TrD.block
     refine sZ ?_
     refine TrD.cond (b := (!f.2.1)) (by simp) (fun r => ?_) (fun r => ?_)
     ·rw [if_pos r] at c
      refine sZ ?_ fun K hK => by simp [r]; exact hK
      cases c
      cases q
      obtain rfl := U _ rfl
      cases h
      apply TrD.ret
      refine exitHG (σ' := ⟨(updD (updD (fun _ => .any) 10 (.slice 3 (List.map rGVarType []))) 11 (eB false)), hOfO [some ⟨1, [[(eI f.2.2)]], 0, 0x0003⟩], 1, 114⟩) ?_ ?_
      ·exact gC [0]
      dsimp only [resD]
      exact eA
     rw [iN r] at c
     apply sq
     rcases bb (ieq p2.op 5) with A | A
     ·rw [if_pos A] at c
      refine rZ ?_ fun K hK => by simp [r, A]; exact hK
      refine TrD.cond (b := ieq (j : Int) 1) (by simp) (fun B => ?_) (fun B => ?_)
      ·rw [if_pos B] at c
       apply sq
       obtain ⟨aI, aw, c⟩ := bindE c
       refine rk fun K hK => ?_
       simp [B]
       refine callB (.cons (.sl _ _ _ _ _ (by simp; rfl) rfl (by simp) (by simp)) (.cons (.same _ _) (.nil _))) (c_impl_sameVars e.2 f.1 _ aw) (by simp) (by simp) (fun aU ap => ?_)
       subst ap
       refine ⟨by simp, ?_⟩
       simp
       apply hK
       refine TrD.cond (b := (!aI)) (by simp) (fun i => ?_) (fun i => ?_)
       ·rw [if_pos i] at c
        refine sZ ?_ fun K hK => by simp [i]; exact hK
        cases c
        cases q
        obtain rfl := U _ rfl
        cases h
        apply TrD.ret
        refine exitHG (σ' := ⟨(updD (updD (fun _ => .any) 10 (.slice 3 (List.map rGVarType []))) 11 (eB false)), hOfO [some ⟨1, [[(eI f.2.2)]], 0, 0x0003⟩], 1, 114⟩) ?_ ?_
        ·exact gC [0]
        dsimp only [resD]
        exact eA
       rw [iN i] at c
       apply TrD.skip
       cases c
       refine ToAny.mk (f.2.2, e.2) rfl ?_
       rw [G]
       exact gC [0, 1, 2]
      rw [iN B] at c
      obtain ⟨P, J, c⟩ := bindE c
      have X := (app_some J).2
      try simp only [List.length_append, List.length_cons, List.length_nil, List.length_map, Nat.zero_add, Nat.add_zero, Nat.reduceAdd, one_add_len, two_add_len] at X
      refine rZ ?_ fun K hK => by simp [B, X]; exact hK
      cases c
      refine ToAny.mk (f.2.2, P) rfl ?_
      rw [G]
      exact gc [0, 1, 116] hβ (((((((va.f.f.p 0).p 1).f).s 116 (by simp [(app_some J).1])).f).f).f) (((ln.f (by simp [(app_some J).1])).f).f)
     rw [iN A] at c
     refine rZ ?_ fun K hK => by simp [r, A]; exact hK
     refine cF ?_
     obtain ⟨Q, M, c⟩ := bindE c
     have Y := (app_some M).2
     try simp only [List.length_append, List.length_cons, List.length_nil, List.length_map, Nat.zero_add, Nat.add_zero, Nat.reduceAdd, one_add_len, two_add_len] at Y
     refine rZ ?_ fun K hK => by simp [Y]; exact hK
     cases c
     refine ToAny.mk (f.2.2, Q) rfl ?_
     rw [G]
     exact gc [0, 1, 100] hβ (((((((va.f.f.p 0).p 1).f).s 100 (by simp [(app_some M).1])).f).f).f) (((ln.f (by simp [(app_some M).1])).f).f)
    subst hz
    try dsimp only at q
    rw [congrFun G o]
    refine rZ ?_
    cases q
    refine ToAny.mk (o.1, o.2) rfl ?_
    rw [F]
    exact gc [0, 1, 2] hβ (((((((((va.f (by simp [m])).f (by simp [m])).p 0 (by simp [m])).p 1 (by simp [m])).f (by simp [m])).s 2 (by simp [m])).f (by simp [m])).f (by simp [m])).f (by simp [m])) ln.f.f.f
   rw [congrFun (congrFun F _) e]
   refine sZ ?_ fun K hK => by simp [ilt_len p2.kids.length]; exact hK
   apply sq
   refine cF ?_
   refine TrD.exit ?_
   try simp only [↓reduceIte, Nat.reduceEqDiff, Nat.zero_ne_one, Nat.one_ne_zero, OfNat.ofNat_ne_zero, OfNat.zero_ne_ofNat, OfNat.one_ne_ofNat, OfNat.ofNat_ne_one]
   refine ToAny.mk e aJ ?_
   rw [R]
   exact gC [0, 2]
  subst hz
  try dsimp only at h
  rw [congrFun R a]
  refine sZ ?_
  apply sq
  refine sZ ?_
  obtain ⟨aH, am, h⟩ := bindE h
  obtain ⟨ag, T⟩ : ∃ S : (List Bool) → St, S = fun ad => ⟨(updD (fun _ => .any) 14 (.sl 3 1 (a.2).length)), hOfO [some ⟨1, [[(eI a.1)]], 0, 0x0003⟩, some ⟨3, (List.map rGVarType a.2), 0, 0x0111⟩], 2, 114⟩ := ⟨_, rfl⟩
  refine TrD.joinQ ag (fun z => aH = Ctl.brk z) (fun _ _ hg h => TrD.ghost hg h) ?_ (fun ad hz => ?_)
  ·apply TrD.block
   obtain ⟨ak, I⟩ : ∃ S : Nat → (List Bool) → St, S = fun N v => ⟨(updD (updD (updD (updD (updD (fun _ => .any) 14 (.sl 3 1 (a.2).length)) 19 (.ptr 6 2 0 0)) 99 (.sl 3 1 (a.2).length)) 100 (eI (lenZ a.2.length))) 101 (eI (N : Int))), hOfO [some ⟨1, [[(eI a.1)]], 0, 0x0003⟩, some ⟨3, (List.map rGVarType a.2), 0, 0x0111⟩, some ⟨6, [(List.map cB v)], 0, 0x0145⟩], 3, 114⟩ := ⟨_, rfl⟩
   refine TrD.limL (L := ⟨3, (List.map rGVarType a.2), 0, 0x0111⟩) 1 (by simp) (by simp) (fun hlim => ?_)
   simp at hlim
   refine TrD.forL ak am hlim ?_ (fun N aZ v aB aA aC aD t aT p ax aP => ?_) (fun v aK => ?_)
   ·rw [I]
    exact gC [0, 1, 2]
   ·rw [congrFun (congrFun I N) v]
    refine sZ ?_ fun K hK => by simp [aD]; exact hK
    apply sq
    refine cT ?_
    apply TrD.skip
    apply sq
    apply TrD.block
    refine sZ ?_ fun K hK => by simp [idx_inb aB, aC, elt aA]; exact hK
    apply sq
    apply sq
    obtain ⟨aM, D, p⟩ := bindE p
    refine rZ ?_ fun K hK => by simp [aget_inb D, aget_row D, aget_le D]; exact hK
    refine TrD.cond (b := aM) (by simp) (fun C => ?_) (fun C => ?_)
    ·rw [if_pos C] at p
     refine sZ ?_ fun K hK => by simp [C]; exact hK
     cases p
     obtain rfl := ax _ rfl
     cases h
     apply TrD.ret
     refine exitHG (σ' := ⟨(updD (updD (fun _ => .any) 10 (.slice 3 (List.map rGVarType []))) 11 (eB false)), hOfO [some ⟨1, [[(eI a.1)]], 0, 0x0003⟩], 1, 114⟩) ?_ ?_
     ·exact gC [0]
     dsimp only [resD]
     exact eA
    rw [iN C] at p
    apply TrD.skip
    obtain ⟨ae, ay, p⟩ := bindE p
    refine rZ ?_ fun K hK => by simp [aget_inb D, aget_le D, C, aset_rowB ay]; exact hK
    refine rZ ?_
    cases p
    refine ToAny.mk ae rfl ?_
    rw [I]
    exact gc [0, 1, 2] hβ (((((va.u (d0 := (.sl 3 1 (a.2).length)) (by simp [t]) (v_sl rfl)).u (d0 := (.ptr 6 2 0 0)) (by simp [t]) (v_ptr rfl)).u (d0 := (.sl 3 1 (a.2).length)) (by simp [t]) (v_sl rfl)).e (eI (lenZ a.2.length)) (by simp [t])).e (eI (wadd .i64 (N : Int) 1)) (by simp [t]) (by simp) (by simp [t])) (((ln.e ⟨6, [(List.map cB ae)], 0, 0x0145⟩ (by simp) (by simp) (free_rows1 (free_map_cB _))).e ⟨3, (List.map rGVarType a.2), 0, 0x0111⟩).e ⟨1, [[(eI a.1)]], 0, 0x0003⟩)
   rw [congrFun (congrFun I _) v]
   refine sZ ?_ fun K hK => by simp [ilt_len a.2.length]; exact hK
   apply sq
   refine cF ?_
   refine TrD.exit ?_
   try simp only [↓reduceIte, Nat.reduceEqDiff, Nat.zero_ne_one, Nat.one_ne_zero, OfNat.ofNat_ne_zero, OfNat.zero_ne_ofNat, OfNat.one_ne_ofNat, OfNat.ofNat_ne_one]
   refine ToAny.mk v aK ?_
   rw [T]
   exact gC [0, 1]
  subst hz
  try dsimp only at h
  rw [congrFun T ad]
  refine sZ ?_
  cases h
  apply TrD.ret
  refine exitHG (σ' := ⟨(updD (updD (fun _ => .any) 10 (.slice 3 (List.map rGVarType a.2))) 11 (eB true)), hOfO [some ⟨1, [[(eI a.1)]], 0, 0x0003⟩], 1, 114⟩) ?_ ?_
  ·refine (Ghost.raise 1 (by simp; rfl)).trans ?_
   exact gC [0] (ht := ((va.u (d0 := (.sl 3 1 (a.2).length)) (by simp) (v_frz (by simp; rfl) rfl (by simp) (by simp) (rv_free (by simp) (by simp)))).f))
  dsimp only [resD]
  exact eA
theorem c_impl_patternVars (n : Nat) (p0 : (List GData)) (p1 : GType) (p2 : GPattern) (res : (List GVarType) × Bool) (h : m_impl_patternVars n p0 p1 p2 = some res) : CallsD Tryz.prog 0o00170 [(.slice 2 (List.map rGData p0)), (.agg (rGType p1)), (.agg (rGPattern p2))] (fun d => d = .tup [(.slice 3 (List.map rGVarType res.1)), (eB res.2)]) := by
 unfold m_impl_patternVars at h
 refine CD Tryz.func120 [.tmp 6, .tmp 7] fun β hβ => ?_
 refine sZ ?_
 refine sZ ?_
 apply sq
 obtain ⟨r1, hr1, h⟩ := bindE h
 refine rk fun K hK => ?_
 simp
 refine callK (views_same _ _) (.same _ _) [32] (c_impl_patternScan n p0 p1 p2 1 0 _ hr1) (by decide) (.cons (locRen_eq (by simp) (by simp) (by simp)) .nil) (.cons (ren_le (by simp) (by simp)) (.cons (ren_le (by simp) (by simp)) (.cons (ren_le (by simp) (by simp)) (.cons (ren_le (by simp) (by simp)) (.cons (ren_ptr rfl) .nil))))) (fun Hq2 qq2 hq2 => ?_)
 obtain ⟨rfl, rfl⟩ := hq2
 refine ⟨by simp, [some ⟨1, [[(eI r1.2.2)]], 0, 0x0003⟩], (.tup [(.slice 3 (List.map rGVarType r1.1)), (eB r1.2.1)]), (.cons (optRen_same (by simp)) .nil), (ren_free (by simp)), ?_⟩
 simp [setMany, newNames]
 apply hK
 cases h
 apply TrD.ret
 exact xD
theorem c_impl_guardOk (p0 : GGuard) (p1 : (List GVarType)) (res : Bool) (h : m_impl_guardOk p0 p1 = some res) : CallsD Tryz.prog 0o00206 [(.agg (rGGuard p0)), (.slice 3 (List.map rGVarType p1))] (fun d => d = (eB res)) := by
 unfold m_impl_guardOk at h
 refine CD Tryz.func134 [.tmp 4] fun β hβ => ?_
 refine sZ ?_
 apply sq
 refine sZ ?_
 refine TrD.cond (b := ieq p0.op 0) (by simp) (fun hb2 => ?_) (fun hb2 => ?_)
 ·rw [if_pos hb2] at h
  refine sZ ?_ fun K hK => by simp [hb2]; exact hK
  cases h
  apply TrD.ret
  refine exitDG (σ' := ⟨(updD (fun _ => .any) 4 (eB (eqAll [ieq p0.op 0, ieq p0.var 0, ieq p0.n 0]))), hOfO [], 0, 27⟩) ?_ ?_
  ·exact gc [] hβ (va.f (by simp [hb2])) ln
  dsimp only [resD]
  exact eF
 rw [iN hb2] at h
 apply TrD.skip
 apply sq
 obtain ⟨r, e, h⟩ := bindE h
 rcases bb r with a | a
 ·rw [if_pos a] at h
  obtain ⟨s, f, h⟩ := bindE h
  rcases bb s with c | c
  ·rw [if_pos c] at h
   obtain ⟨g, q, h⟩ := bindE h
   refine rk fun K hK => ?_
   simp [hb2]
   refine cp (c_impl_within p0.op 1 2 _ e) ?_
   simp [a]
   refine cp (c_impl_within p0.n 0 9 _ f) ?_
   simp [a, c]
   refine cp (c_slices_Contains_VarType p1 (GVarType.mk p0.var (GType.mk (-1) 0)) _ q) ?_
   simp [a, c]
   apply hK
   cases h
   apply TrD.ret
   exact xD
  rw [iN c] at h
  refine rk fun K hK => ?_
  simp [hb2]
  refine cp (c_impl_within p0.op 1 2 _ e) ?_
  simp [a]
  refine cp (c_impl_within p0.n 0 9 _ f) ?_
  simp [a, c]
  apply hK
  cases h
  apply TrD.ret
  exact xD
 rw [iN a] at h
 refine rk fun K hK => ?_
 simp [hb2]
 refine cp (c_impl_within p0.op 1 2 _ e) ?_
 simp [a]
 apply hK
 cases h
 apply TrD.ret
 exact xD
theorem c_impl_clauseOk (n : Nat) (p0 : (List GData)) (p1 : GType) (p2 : GClause) (res : Bool) (h : m_impl_clauseOk n p0 p1 p2 = some res) : CallsD Tryz.prog 0o00103 [(.slice 2 (List.map rGData p0)), (.agg (rGType p1)), (.agg (rGClause p2))] (fun d => d = (eB res)) := by
 unfold m_impl_clauseOk at h
 refine CD Tryz.func67 [.tmp 6] fun β hβ => ?_
 refine sZ ?_
 apply sq
 obtain ⟨r1, hr1, h⟩ := bindE h
 refine rk fun K hK => ?_
 simp
 refine cp (c_impl_patternVars n p0 p1 p2.pat _ hr1) ?_
 simp
 apply hK
 apply sq
 rcases bb r1.2 with hb5 | hb5
 ·rw [if_pos hb5] at h
  obtain ⟨r6, hr6, h⟩ := bindE h
  refine rk fun K hK => ?_
  simp [hb5]
  refine cp (c_impl_guardOk p2.guard r1.1 _ hr6) ?_
  simp
  apply hK
  cases h
  apply TrD.ret
  exact xD
 rw [iN hb5] at h
 refine rZ ?_ fun K hK => by simp [hb5]; exact hK
 cases h
 apply TrD.ret
 exact xD
theorem c_impl_ClausesValid_1 (n : Nat) (p0 : GClause) (q0 : (List GData)) (q1 : GType) (res : Bool) (h : m_impl_ClausesValid_1 n p0 q0 q1 = some res) : CallsD Tryz.prog 0o00150 [(.agg (rGClause p0)), .cptr [(.slice 2 (List.map rGData q0))], .cptr (rGType q1)] (fun d => d = (eB res)) := by
 unfold m_impl_ClausesValid_1 at h
 refine CD Tryz.func104 [.tmp 4] fun β hβ => ?_
 refine sZ ?_
 apply sq
 obtain ⟨r1, hr1, h⟩ := bindE h
 refine rk fun K hK => ?_
 simp
 refine cp (c_impl_clauseOk n q0 q1 p0 _ hr1) ?_
 simp
 apply hK
 cases h
 apply TrD.ret
 exact xD
end Go.Proofs.YtmkamncbkkahjaaGreat
