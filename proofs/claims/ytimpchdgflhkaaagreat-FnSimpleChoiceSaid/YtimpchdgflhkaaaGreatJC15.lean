import Derived.Test.YtimpchdgflhkaaaGreatJMir
import Derived.Test.YtimpchdgflhkaaaGreatJZap
import Derived.Test.YtimpchdgflhkaaaGreatJC7
import Derived.Test.YtimpchdgflhkaaaGreatJC13
import Derived.Test.YtimpchdgflhkaaaGreatJC1
import Derived.Test.YtimpchdgflhkaaaGreatJC14
import Derived.Test.YtimpchdgflhkaaaGreatJC10
import Derived.Test.YtimpchdgflhkaaaGreatJC3
import Derived.Test.YtimpchdgflhkaaaGreatJC8
import Derived.Test.YtimpchdgflhkaaaGreatJC9
set_option linter.unusedSimpArgs false
set_option linter.unusedVariables false
namespace Go.Proofs.YtimpchdgflhkaaaGreat
open Go Go.RowKit
set_option maxRecDepth 100000
set_option maxHeartbeats 20000000
theorem c_spec_l11Simple : ∀ (n : Nat) (p0 : (List GData)) (p1 : GType) (p2 : GPattern) (res : GPattern), m_spec_l11Simple n p0 p1 p2 = some res → CallsD Tryz.prog 0o00031 [(.slice 2 (List.map rGData p0)), (.agg (rGType p1)), (.agg (rGPattern p2))] (fun d => d = (.agg (rGPattern res))) := by
 intro n
 induction n with
 | zero => intro p0 p1 p2 res h; cases h
 | succ n ih =>
  intro p0 p1 p2 res h
  rw [m_spec_l11Simple.eq_2] at h
  refine CD Tryz.func25 [.cell 6 32] fun β hβ => ?_
  refine sZ ?_
  apply sq
  refine sZ ?_
  apply TrD.block
  refine sZ ?_
  refine TrD.cond (b := ieq p2.op 3) (by simp) (fun r => ?_) (fun r => ?_)
  ·rw [if_pos r] at h
   apply sq
   obtain ⟨J, ah, h⟩ := bindE h
   refine rk fun K hK => ?_
   simp [r]
   refine cp (c_spec_l11Int p2.n p2.m _ ah) ?_
   simp
   apply hK
   cases h
   apply TrD.ret
   exact xD
  rw [iN r] at h
  refine sZ ?_ fun K hK => by simp [r]; exact hK
  refine TrD.cond (b := ieq p2.op 5) (by simp) (fun f => ?_) (fun f => ?_)
  ·rw [if_pos f] at h
   apply sq
   refine TrD.ghost (σ' := ⟨(updD (updD (updD (updD (fun _ => .any) 0 (.slice 2 (List.map rGData p0))) 4 (.ptr 2 0 0 0)) 5 (.ptr 6 1 0 0)) 6 (.ptr 6 2 0 0)), hOfO [some ⟨2, [(rGType p1)], 0, 0x0019⟩, some ⟨6, [(rGPattern p2)], 0, 0x0020⟩, some ⟨6, [[(eI 0), (eI 0), (eI 0), (eI 0), (eI 0), .nil]], 0, 0x0020⟩], 3, 102⟩) ?_ ?_
   ·exact gC [0, 8, 16]
   obtain ⟨aC, D, h⟩ := bindE h
   obtain ⟨aD, E, h⟩ := bindE h
   obtain ⟨aw, ai, h⟩ := bindE h
   obtain ⟨ax, aj, h⟩ := bindE h
   obtain ⟨N, ak, h⟩ := bindE h
   refine TrD.draw tysOk mixed [0, 1, 2, 3, 4, 5, 6, 7, 9, 10, 11, 12, 13, 14, 8, 15, 16, 17] [0, 1] [] (by rfl) rfl (fun K hK => ?_)
   simp [idx_inb D, idx_row D, idx_inb E, idx_row E]
   refine cp (ih p0 p1 aC _ ai) ?_
   simp
   refine cp (ih p0 p1 aD _ aj) ?_
   simp
   refine cp (c_spec_l11Or n p0 p1 aw ax _ ak) ?_
   simp
   apply hK
   cases h
   apply TrD.ret
   exact xD
  rw [iN f] at h
  refine sZ ?_ fun K hK => by simp [f]; exact hK
  refine TrD.cond (b := ieq p2.op 6) (by simp) (fun g => ?_) (fun g => ?_)
  ·rw [if_pos g] at h
   apply sq
   refine TrD.ghost (σ' := ⟨(updD (updD (updD (updD (fun _ => .any) 0 (.slice 2 (List.map rGData p0))) 4 (.ptr 2 0 0 0)) 5 (.ptr 6 1 0 0)) 6 (.ptr 6 2 0 0)), hOfO [some ⟨2, [(rGType p1)], 0, 0x0019⟩, some ⟨6, [(rGPattern p2)], 0, 0x0020⟩, some ⟨6, [[(eI 0), (eI 0), (eI 0), (eI 0), (eI 0), .nil]], 0, 0x0020⟩], 3, 102⟩) ?_ ?_
   ·exact gC [0, 8, 16]
   obtain ⟨aE, F, h⟩ := bindE h
   obtain ⟨u, al, h⟩ := bindE h
   refine TrD.drawZ tysOk mixed [0, 1, 2, 3, 4, 5, 6, 7, 8] [0, 1] [1048583] [] [] (by rfl) rfl 2097152 (Nat.le_of_ble_eq_true rfl) (.inr ⟨Nat.le_of_ble_eq_true rfl, rfl⟩) (fun K hK => ?_)
   simp [idx_inb F, idx_row F]
   refine cp (ih p0 p1 aE _ al) ?_
   simp
   apply hK
   apply sq
   apply sq
   obtain ⟨ay, am, h⟩ := bindE h
   refine rk fun K hK => ?_
   simp
   refine cp (c_spec_l11Whole u _ am) ?_
   simp
   apply hK
   refine TrD.cond (b := ay) (by simp) (fun s => ?_) (fun s => ?_)
   ·rw [if_pos s] at h
    refine sZ ?_ fun K hK => by simp [s]; exact hK
    cases h
    apply TrD.ret
    refine exitDG (σ' := ⟨(updD (fun _ => .any) 6 (.ptr 6 0 0 0)), hOfO [some ⟨6, [(rGPattern (GPattern.mk 2 0 0 0 p2.var []))], 0, 0x0020⟩], 1, 102⟩) ?_ ?_
    ·exact gC [2]
    simp [resD]
    exact eF
   rw [iN s] at h
   apply TrD.skip
   refine sZ ?_ fun K hK => by simp [s]; exact hK
   cases h
   apply TrD.ret
   refine exitDG (σ' := ⟨(updD (fun _ => .any) 6 (.ptr 6 0 0 0)), hOfO [some ⟨6, [(rGPattern (GPattern.mk 6 0 0 0 p2.var [u]))], 0, 0x0020⟩], 1, 102⟩) ?_ ?_
   ·refine (Ghost.raise 2097208 (by simp; rfl)).trans ?_
    exact gC [2] (hh := (ln.c (lv (L := ⟨6, [[(eI 6), (eI 0), (eI 0), (eI 0), (eI p2.var), (.sl 6 2097208 ([u]).length)]], 0, 0x0020⟩) (by simp) rfl rfl (by simp) (rv_consr (rGPattern_eq _) (.cons (v_free (by simp) (by simp)) (.cons (v_free (by simp) (by simp)) (.cons (v_free (by simp) (by simp)) (.cons (v_free (by simp) (by simp)) (.cons (v_free (by simp) (by simp)) (.cons (v_frz (L := ⟨6, (List.map rGPattern [u]), ([u]).length * 6, 0x0020⟩) (by simp) rfl (by simp) (by simp) (rv_free (by simp) (free_rows_of fr_GPattern _))) .nil)))))) rv_nil))))
   simp [resD]
   exact eF
  rw [iN g] at h
  refine sZ ?_ fun K hK => by simp [g]; exact hK
  refine TrD.cond (b := ieq p2.op 4) (by simp) (fun t => ?_) (fun t => ?_)
  ·rw [if_pos t] at h
   refine sZ ?_ fun K hK => by simp [t]; exact hK
   apply sq
   obtain ⟨j, an, h⟩ := bindE h
   refine rk fun K hK => ?_
   simp
   refine cp (c_spec_l1Args p0 p1 p2.ctor _ an) ?_
   simp
   apply hK
   apply sq
   refine sZ ?_
   obtain ⟨au, U, h⟩ := bindE h
   obtain ⟨Q, B⟩ : ∃ S : (List GPattern) → St, S = fun e => ⟨(updD (updD (updD (updD (fun _ => .any) 0 (.slice 2 (List.map rGData p0))) 4 (.ptr 2 0 0 0)) 6 (.ptr 6 1 0 0)) 8 (.ptr 6 2 0 0)), hOfO [some ⟨2, [(rGType p1)], 0, 0x0019⟩, some ⟨6, [[(eI 0), (eI 0), (eI 0), (eI 0), (eI 0), .nil]], 0, 0x0020⟩, some ⟨6, [[(eI 4), (eI p2.ctor), (eI 0), (eI 0), (eI 0), (.sl 6 3 (e).length)]], 0, 0x0020⟩, some ⟨6, (List.map rGPattern e), 0, 0x0020⟩], 4, 102⟩ := ⟨_, rfl⟩
   refine TrD.joinQ Q (fun z => au = Ctl.brk z) (fun _ _ hg h => TrD.ghost hg h) ?_ (fun e hz => ?_)
   ·apply TrD.block
    obtain ⟨R, v⟩ : ∃ S : Nat → (List GPattern) → St, S = fun q c => ⟨(updD (updD (updD (updD (updD (updD (updD (fun _ => .any) 0 (.slice 2 (List.map rGData p0))) 4 (.ptr 2 0 0 0)) 5 (.ptr 6 1 0 0)) 6 (.ptr 6 2 0 0)) 8 (.ptr 6 3 0 0)) 9 (.slice 2 (List.map rGType j))) 10 (eI (q : Int))), hOfO [some ⟨2, [(rGType p1)], 0, 0x0019⟩, some ⟨6, [(rGPattern p2)], 0, 0x0020⟩, some ⟨6, [[(eI 0), (eI 0), (eI 0), (eI 0), (eI 0), .nil]], 0, 0x0020⟩, some ⟨6, [[(eI 4), (eI p2.ctor), (eI 0), (eI 0), (eI 0), (.sl 6 4 (c).length)]], 0, 0x0020⟩, some ⟨6, (List.map rGPattern c), 0, 0x0020⟩], 5, 102⟩ := ⟨_, rfl⟩
    refine TrD.limS (sz := 2) (rows := List.map rGType j) (seen_slot (d := .slice 2 (List.map rGType j)) 67 (by simp)) (fun hlim => ?_)
    rw [List.length_map] at hlim
    refine TrD.forL R U hlim ?_ (fun q aF c I aJ aK ar i aL l aI aH => ?_) (fun c aB => ?_)
    ·rw [v]
     refine (Ghost.ownNilCell 128 5 6 0x0020 (by simp; rfl) rfl (by simp) (by simp)).trans ?_
     exact gC [0, 8, 16, 128, 200]
    ·rw [congrFun (congrFun v q) c]
     apply sq
     refine sZ ?_ fun K hK => by simp [ar]; exact hK
     refine cT ?_
     apply TrD.skip
     apply sq
     apply TrD.block
     refine TrD.ghost (σ' := ⟨(updD (updD (updD (updD (updD (updD (updD (fun _ => .any) 0 (.slice 2 (List.map rGData p0))) 4 (.ptr 2 0 0 0)) 5 (.ptr 6 1 0 0)) 6 (.ptr 6 2 0 0)) 8 (.ptr 6 3 0 0)) 9 (.slice 2 (List.map rGType j))) 10 (eI (q : Int))), hOfO [some ⟨2, [(rGType p1)], 0, 0x0019⟩, some ⟨6, [(rGPattern p2)], 0, 0x0020⟩, some ⟨6, [[(eI 0), (eI 0), (eI 0), (eI 0), (eI 0), .nil]], 0, 0x0020⟩, some ⟨6, [[(eI 4), (eI p2.ctor), (eI 0), (eI 0), (eI 0), (.sl 6 4 (c).length)]], 0, 0x0020⟩, some ⟨6, (List.map rGPattern c), 0, 0x0020⟩], 5, 102⟩) ?_ ?_
     ·exact gC [0, 1, 2, 3, 4]
     obtain ⟨aG, G, l⟩ := bindE l
     obtain ⟨aY, ao, l⟩ := bindE l
     obtain ⟨A, w, l⟩ := bindE l
     have H := (app_some w).2
     try simp only [List.length_cons, List.length_nil, Nat.zero_add] at H
     refine TrD.draw tysOk mixed [0, 1, 2, 3, 4, 5, 6, 7, 8, 9, 10, 11, 12, 13, 14, 15, 16] [1, 3] [89] (by rfl) rfl (fun K hK => ?_)
     simp [idx_inb I, idx_row I, idx_inb G, idx_row G]
     refine cp (ih p0 aF aG _ ao) ?_
     simp [H]
     apply hK
     refine rZ ?_
     cases l
     refine ToAny.mk A rfl ?_
     rw [v]
     exact Ghost.canonV 0 [0, 1, 2, 3, 21] _ _ hβ (keep_first (by decide)) (by decide) (vT_upd (v_of (d0 := (eI (wadd .i64 (q : Int) 1))) (by simp [i]) (v_free (by simp) (by simp [i]))) (vT_upd (v_of (d0 := (.slice 2 (List.map rGType j))) (by simp [i]) (v_free (by simp) (by simp))) (vT_upd (v_of (d0 := (.ptr 6 3 0 0)) (by simp [i]) (v_ptr rfl)) (vT_upd (v_of (d0 := (.ptr 6 2 0 0)) (by simp [i]) (v_ptr rfl)) (vT_upd (v_of (d0 := (.ptr 6 1 0 0)) (by simp [i]) (v_ptr rfl)) (vT_upd (v_of (d0 := (.ptr 2 0 0 0)) (by simp [i]) (v_ptr rfl)) (vT_upd (v_of (d0 := (.slice 2 (List.map rGData p0))) (by simp [i]) (v_free (by simp) (by simp))) (vT_any _)))))))) (.cons (lv (L := ⟨2, [(rGType p1)], 0, 0x0019⟩) (by simp) rfl rfl (by simp) (rv_free (by simp) (by simp))) (.cons (lv (L := ⟨6, [(rGPattern p2)], 0, 0x0020⟩) (by simp) rfl rfl (by simp) (rv_free (by simp) (by simp))) (.cons (lv (L := ⟨6, [[(eI 0), (eI 0), (eI 0), (eI 0), (eI 0), .nil]], 0, 0x0020⟩) (by simp) rfl rfl (by simp) (rv_cons (.cons (v_free (by simp) (by simp)) (.cons (v_free (by simp) (by simp)) (.cons (v_free (by simp) (by simp)) (.cons (v_free (by simp) (by simp)) (.cons (v_free (by simp) (by simp)) (.cons (v_free (by simp) (by simp)) .nil)))))) rv_nil)) (.cons (lv (L := ⟨6, [[(eI 4), (eI p2.ctor), (eI 0), (eI 0), (eI 0), (.sl 6 21 (A).length)]], 0, 0x0020⟩) (by simp [(app_some w).1]) rfl rfl (by simp) (rv_cons (.cons (v_free (by simp) (by simp)) (.cons (v_free (by simp) (by simp)) (.cons (v_free (by simp) (by simp)) (.cons (v_free (by simp) (by simp)) (.cons (v_free (by simp) (by simp)) (.cons (v_sl rfl) .nil)))))) rv_nil)) (.cons (lv (L := ⟨6, (List.map rGPattern A), 0, 0x0020⟩) (by simp [(app_some w).1]) rfl rfl (by simp) (rv_free (by simp [(app_some w).1]) (free_rows_of fr_GPattern _))) .nil)))))
    rw [congrFun (congrFun v _) c]
    apply sq
    refine sZ ?_ fun K hK => by simp [ilt_len j.length]; exact hK
    refine cF ?_
    refine TrD.exit ?_
    try simp only [↓reduceIte, Nat.reduceEqDiff, Nat.zero_ne_one, Nat.one_ne_zero, OfNat.ofNat_ne_zero, OfNat.zero_ne_ofNat, OfNat.one_ne_ofNat, OfNat.ofNat_ne_one]
    refine ToAny.mk c aB ?_
    rw [B]
    exact gC [0, 2, 3, 4]
   subst hz
   try dsimp only at h
   rw [congrFun B e]
   obtain ⟨av, a, h⟩ := bindE h
   obtain ⟨T, y⟩ : ∃ S : Unit → St, S = fun P => ⟨(updD (updD (fun _ => .any) 6 (.ptr 6 0 0 0)) 8 (.ptr 6 1 0 0)), hOfO [some ⟨6, [[(eI 0), (eI 0), (eI 0), (eI 0), (eI 0), .nil]], 0, 0x0020⟩, some ⟨6, [[(eI 4), (eI p2.ctor), (eI 0), (eI 0), (eI 0), (.sl 6 2 (e).length)]], 0, 0x0020⟩, some ⟨6, (List.map rGPattern e), 0, 0x0020⟩], 3, 102⟩ := ⟨_, rfl⟩
   refine TrD.join T (fun z => av = Ctl.brk z) ?_ (fun P hz => ?_)
   ·apply sq
    obtain ⟨az, C, a⟩ := bindE a
    rcases bb (ieq (lenZ az.length) 1) with o | o
    ·rw [if_pos o] at a
     obtain ⟨aA, ap, a⟩ := bindE a
     refine rk fun K hK => ?_
     simp
     refine cp (c_spec_l1Ctors p0 p1 _ C) ?_
     simp [o]
     refine callB (.cons (.agg _ _ _ 5 _ _ rfl (.sl _ _ _ _ _ (by simp; rfl) rfl (by simp) (by simp))) (.nil _)) (c_spec_l11Wide (GPattern.mk 4 p2.ctor 0 0 0 e) _ ap) (by simp) (by simp) (fun aV ae => ?_)
     subst ae
     refine ⟨by simp, ?_⟩
     simp [o]
     apply hK
     refine TrD.cond (b := aA) (by simp) (fun p => ?_) (fun p => ?_)
     ·rw [if_pos p] at a
      apply sq
      obtain ⟨O, aq, a⟩ := bindE a
      refine rk fun K hK => ?_
      simp [p]
      refine cp (c_spec_l5Any _ aq) ?_
      simp
      apply hK
      cases a
      cases h
      apply TrD.ret
      exact xD
     rw [iN p] at a
     apply TrD.skip
     cases a
     refine ToAny.mk () rfl ?_
     rw [y]
     exact gC [1, 2, 3]
    rw [iN o] at a
    refine rk fun K hK => ?_
    simp
    refine cp (c_spec_l1Ctors p0 p1 _ C) ?_
    simp [o]
    apply hK
    refine cF ?_
    apply TrD.skip
    cases a
    refine ToAny.mk () rfl ?_
    rw [y]
    exact gC [1, 2, 3]
   subst hz
   try dsimp only at h
   rw [congrFun y P]
   refine sZ ?_
   cases h
   apply TrD.ret
   refine exitDG (σ' := ⟨(updD (fun _ => .any) 6 (.ptr 6 0 0 0)), hOfO [some ⟨6, [(rGPattern (GPattern.mk 4 p2.ctor 0 0 0 e))], 0, 0x0020⟩], 1, 102⟩) ?_ ?_
   ·refine (Ghost.raise 2 (by simp; rfl)).trans ?_
    exact gC [0] (hh := (ln.c (lv (L := ⟨6, [[(eI 4), (eI p2.ctor), (eI 0), (eI 0), (eI 0), (.sl 6 2 (e).length)]], 0, 0x0020⟩) (by simp) rfl rfl (by simp) (rv_consr (rGPattern_eq _) (.cons (v_free (by simp) (by simp)) (.cons (v_free (by simp) (by simp)) (.cons (v_free (by simp) (by simp)) (.cons (v_free (by simp) (by simp)) (.cons (v_free (by simp) (by simp)) (.cons (v_frz (by simp; rfl) rfl (by simp) (by simp) (rv_free (by simp) (by simp))) .nil)))))) rv_nil))))
   simp [resD]
   exact eF
  rw [iN t] at h
  apply TrD.skip
  refine sZ ?_ fun K hK => by simp [t]; exact hK
  cases h
  apply TrD.ret
  exact xD
set_option maxRecDepth 100000 in
theorem c_spec_PatternValid (n : Nat) (p0 : (List GData)) (p1 : GType) (p2 : GPattern) (res : Bool) (h : m_spec_PatternValid n p0 p1 p2 = some res) : CallsD Tryz.prog 0o00027 [(.slice 2 (List.map rGData p0)), (.agg (rGType p1)), (.agg (rGPattern p2))] (fun d => d = (eB res)) := by
 unfold m_spec_PatternValid at h
 refine CD Tryz.func23 [.tmp 6] fun β hβ => ?_
 refine sZ ?_
 apply sq
 obtain ⟨r7, hr7, h⟩ := bindE h
 rcases bb r7 with hb8 | hb8
 ·rw [if_pos hb8] at h
  obtain ⟨r9, hr9, h⟩ := bindE h
  refine rk fun K hK => ?_
  simp
  refine cp (c_spec_TypeValid n p0 p1 _ hr7) ?_
  simp [hb8]
  refine cp (c_spec_l3Is n p0 p1 p2 _ hr9) ?_
  simp [hb8]
  apply hK
  cases h
  apply TrD.ret
  exact xD
 rw [iN hb8] at h
 refine rk fun K hK => ?_
 simp
 refine cp (c_spec_TypeValid n p0 p1 _ hr7) ?_
 simp [hb8]
 apply hK
 cases h
 apply TrD.ret
 exact xD
set_option maxRecDepth 100000 in
theorem c_spec_SimplifyPattern (n : Nat) (p0 : (List GData)) (p1 : GType) (p2 : GPattern) (res : GPattern × Bool) (h : m_spec_SimplifyPattern n p0 p1 p2 = some res) : CallsD Tryz.prog 0o00010 [(.slice 2 (List.map rGData p0)), (.agg (rGType p1)), (.agg (rGPattern p2))] (fun d => d = .tup [(.agg (rGPattern res.1)), (eB res.2)]) := by
 unfold m_spec_SimplifyPattern at h
 refine CD Tryz.func8 [.cell 6 32, .tmp 7] fun β hβ => ?_
 refine sZ ?_
 apply sq
 apply sq
 obtain ⟨r4, hr4, h⟩ := bindE h
 refine rk fun K hK => ?_
 simp
 refine cp (c_spec_PatternValid n p0 p1 p2 _ hr4) ?_
 simp
 apply hK
 refine TrD.cond (b := (!r4)) (by simp) (fun hb5 => ?_) (fun hb5 => ?_)
 ·rw [if_pos hb5] at h
  refine sZ ?_ fun K hK => by simp [hb5]; exact hK
  cases h
  apply TrD.ret
  refine exitDG (σ' := ⟨(updD (updD (fun _ => .any) 6 (.ptr 6 0 0 0)) 7 (eB false)), hOfO [some ⟨6, [(rGPattern (GPattern.mk 0 0 0 0 0 []))], 0, 0x0020⟩], 1, 19⟩) ?_ ?_
  ·exact gC [16]
  simp [resD]
  exact eF
 rw [iN hb5] at h
 apply TrD.skip
 apply sq
 obtain ⟨r6, hr6, h⟩ := bindE h
 obtain ⟨r7, hr7, h⟩ := bindE h
 refine rk fun K hK => ?_
 simp [hb5]
 refine cp (c_spec_l11Simple n p0 p1 p2 _ hr6) ?_
 simp
 refine cp (c_spec_l3Copy n r6 _ hr7) ?_
 simp
 apply hK
 cases h
 apply TrD.ret
 exact xD
theorem c_impl_countValues : ∀ (n : Nat) (p0 : (List GData)) (p1 : GType) (p2 : Int) (res : Int), m_impl_countValues n p0 p1 p2 = some res → CallsD Tryz.prog 0o00034 [(.slice 2 (List.map rGData p0)), (.agg (rGType p1)), (eI p2)] (fun d => d = (eI res)) := by
 intro n
 induction n with
 | zero => intro p0 p1 p2 res h; cases h
 | succ n ih =>
  intro p0 p1 p2 res h
  rw [m_impl_countValues.eq_2] at h
  refine CD Tryz.func28 [.tmp 6] fun β hβ => ?_
  refine sZ ?_
  apply sq
  refine sZ ?_
  refine TrD.cond (b := ieq p2 0) (by simp) (fun hb2 => ?_) (fun hb2 => ?_)
  ·rw [if_pos hb2] at h
   refine sZ ?_ fun K hK => by simp [hb2]; exact hK
   cases h
   apply TrD.ret
   exact xD
  rw [iN hb2] at h
  apply TrD.skip
  apply sq
  refine sZ ?_ fun K hK => by simp [hb2]; exact hK
  refine TrD.cond (b := ieq p1.data (-1)) (by simp) (fun hb4 => ?_) (fun hb4 => ?_)
  ·rw [if_pos hb4] at h
   refine sZ ?_ fun K hK => by simp [hb4]; exact hK
   cases h
   apply TrD.ret
   exact xD
  rw [iN hb4] at h
  apply TrD.skip
  refine sZ ?_ fun K hK => by simp [hb4]; exact hK
  apply sq
  apply sq
  obtain ⟨a, J, h⟩ := bindE h
  refine rk fun K hK => ?_
  simp
  refine cp (c_impl_ctorsOf p0 p1 _ J) ?_
  simp
  apply hK
  obtain ⟨R, E, h⟩ := bindE h
  obtain ⟨A, t⟩ : ∃ S : Int → St, S = fun m => ⟨(updD (fun _ => .any) 7 (eI m)), hOfO [], 0, 50⟩ := ⟨_, rfl⟩
  refine TrD.joinQ A (fun z => R = Ctl.brk z) (fun _ _ hg h => TrD.ghost hg h) ?_ (fun m hz => ?_)
  ·apply TrD.block
   obtain ⟨C, p⟩ : ∃ S : Nat → Int → St, S = fun f c => ⟨(updD (updD (updD (updD (updD (updD (updD (fun _ => .any) 0 (.slice 2 (List.map rGData p0))) 2 (eI p2)) 4 (.ptr 2 0 0 0)) 7 (eI c)) 20 (.slice 1 (List.map rI a))) 21 (eI (lenZ a.length))) 22 (eI (f : Int))), hOfO [some ⟨2, [(rGType p1)], 0, 0x0019⟩], 1, 50⟩ := ⟨_, rfl⟩
   refine TrD.limS (sz := 1) (rows := List.map rI a) (seen_slot (d := .slice 1 (List.map rI a)) 20 (by simp)) (fun hlim => ?_)
   rw [List.length_map] at hlim
   refine TrD.forL C E hlim ?_ (fun f W c v ac ad P j ag l aa Y => ?_) (fun c U => ?_)
   ·rw [p]
    exact gC [0]
   ·rw [congrFun (congrFun p f) c]
    refine sZ ?_ fun K hK => by simp [P]; exact hK
    apply sq
    refine cT ?_
    apply TrD.skip
    apply sq
    apply TrD.block
    refine sZ ?_ fun K hK => by simp [idx_inb v, idx_row v]; exact hK
    refine sZ ?_
    apply sq
    apply sq
    obtain ⟨g, N, l⟩ := bindE l
    refine rk fun K hK => ?_
    simp
    refine cp (c_impl_argTypes p0 p1 W _ N) ?_
    simp
    apply hK
    obtain ⟨T, F, l⟩ := bindE l
    obtain ⟨B, u⟩ : ∃ S : Int → St, S = fun o => ⟨(updD (updD (updD (updD (updD (updD (updD (updD (fun _ => .any) 0 (.slice 2 (List.map rGData p0))) 2 (eI p2)) 4 (.ptr 2 0 0 0)) 7 (eI c)) 10 (eI o)) 20 (.slice 1 (List.map rI a))) 21 (eI (lenZ a.length))) 22 (eI (f : Int))), hOfO [some ⟨2, [(rGType p1)], 0, 0x0019⟩], 1, 50⟩ := ⟨_, rfl⟩
    refine TrD.joinQ B (fun z => T = Ctl.brk z) (fun _ _ hg h => TrD.ghost hg h) ?_ (fun o hz => ?_)
    ·apply TrD.block
     obtain ⟨D, q⟩ : ∃ S : Nat → Int → St, S = fun r i => ⟨(updD (updD (updD (updD (updD (updD (updD (updD (updD (updD (updD (fun _ => .any) 0 (.slice 2 (List.map rGData p0))) 2 (eI p2)) 4 (.ptr 2 0 0 0)) 7 (eI c)) 10 (eI i)) 20 (.slice 1 (List.map rI a))) 21 (eI (lenZ a.length))) 22 (eI (f : Int))) 29 (.slice 2 (List.map rGType g))) 30 (eI (lenZ g.length))) 31 (eI (r : Int))), hOfO [some ⟨2, [(rGType p1)], 0, 0x0019⟩], 1, 50⟩ := ⟨_, rfl⟩
     refine TrD.limS (sz := 2) (rows := List.map rGType g) (seen_slot (d := .slice 2 (List.map rGType g)) 29 (by simp)) (fun hlim => ?_)
     rw [List.length_map] at hlim
     refine TrD.forL D F hlim ?_ (fun r X i w ae af Q e ah s ab Z => ?_) (fun i V => ?_)
     ·rw [q]
      exact gC [0]
     ·rw [congrFun (congrFun q r) i]
      refine sZ ?_ fun K hK => by simp [Q]; exact hK
      apply sq
      refine cT ?_
      apply TrD.skip
      apply sq
      apply TrD.block
      refine sZ ?_ fun K hK => by simp [idx_inb w, idx_row w]; exact hK
      obtain ⟨y, O, s⟩ := bindE s
      refine rk fun K hK => ?_
      simp
      refine cp (ih p0 X (wsub .i64 p2 1) _ O) ?_
      simp
      apply hK
      refine rZ ?_
      cases s
      refine ToAny.mk (imin (wmul .i64 i y) 401) rfl ?_
      rw [q]
      exact gc [0] hβ (((((((((((va.f (by simp [e])).f (by simp [e])).p 0 (by simp [e])).f (by simp [e])).f (by simp [e])).f (by simp [e])).f (by simp [e])).f (by simp [e])).f (by simp [e])).f (by simp [e])).f (by simp [e])) ln.f
     rw [congrFun (congrFun q _) i]
     refine sZ ?_ fun K hK => by simp [ilt_len g.length]; exact hK
     apply sq
     refine cF ?_
     refine TrD.exit ?_
     try simp only [↓reduceIte, Nat.reduceEqDiff, Nat.zero_ne_one, Nat.one_ne_zero, OfNat.ofNat_ne_zero, OfNat.zero_ne_ofNat, OfNat.one_ne_ofNat, OfNat.ofNat_ne_one]
     refine ToAny.mk i V ?_
     rw [u]
     exact gC [0]
    subst hz
    try dsimp only at l
    rw [congrFun u o]
    refine rZ ?_
    refine rZ ?_
    cases l
    refine ToAny.mk (imin (wadd .i64 c o) 401) rfl ?_
    rw [p]
    exact gc [0] hβ (((((((va.f (by simp [j])).f (by simp [j])).p 0 (by simp [j])).f (by simp [j])).f (by simp [j])).f (by simp [j])).f (by simp [j])) ln.f
   rw [congrFun (congrFun p _) c]
   refine sZ ?_ fun K hK => by simp [ilt_len a.length]; exact hK
   apply sq
   refine cF ?_
   refine TrD.exit ?_
   try simp only [↓reduceIte, Nat.reduceEqDiff, Nat.zero_ne_one, Nat.one_ne_zero, OfNat.ofNat_ne_zero, OfNat.zero_ne_ofNat, OfNat.one_ne_ofNat, OfNat.ofNat_ne_one]
   refine ToAny.mk c U ?_
   rw [t]
   exact gC []
  subst hz
  try dsimp only at h
  rw [congrFun t m]
  refine sZ ?_
  cases h
  apply TrD.ret
  exact xD
set_option maxRecDepth 100000 in
theorem c_impl_values_1 (n : Nat) (p0 : GType) (q0 : (List GData)) (q1 : Int) (res : Bool) (h : m_impl_values_1 n p0 q0 q1 = some res) : CallsD Tryz.prog 0o00101 [(.agg (rGType p0)), .cptr [(.slice 2 (List.map rGData q0))], .cptr [(eI q1)]] (fun d => d = (eB res)) := by
 unfold m_impl_values_1 at h
 refine CD Tryz.func65 [.tmp 4] fun β hβ => ?_
 refine sZ ?_
 apply sq
 obtain ⟨r1, hr1, h⟩ := bindE h
 refine rk fun K hK => ?_
 simp
 refine cp (c_impl_countValues n q0 p0 (wsub .i64 q1 1) _ hr1) ?_
 simp
 apply hK
 cases h
 apply TrD.ret
 exact xD
set_option maxRecDepth 100000 in
theorem c_slices_Clone_Value (p0 : (List GValue)) (res : (List GValue)) (h : m_slices_Clone_Value p0 = some res) : CallsH Tryz.prog 0o00102 [] [(.slice 3 (List.map rGValue p0))] (fun H d => H = [some ⟨3, List.map rGValue res, 0, 0x002f⟩] ∧ d = .sl 3 0 res.length) := by
 unfold m_slices_Clone_Value at h
 refine CH Tryz.func66 [.tmp 2] 0 fun β hβ => ?_
 refine sZ ?_
 apply sq
 refine sk fun K hK => ?_
 simp
 refine ⟨?_, fun hnil => ?_⟩
 ·apply hK
  refine cF ?_
  apply TrD.skip
  apply sq
  obtain ⟨x3, hx3, h⟩ := bindE h
  have hx3_r := (app_some hx3).2
  try simp only [List.length_nil, Nat.zero_add] at hx3_r
  obtain hhx3 := app_nil hx3
  subst hhx3
  refine rZ ?_ fun K hK => by simp [hx3_r]; exact hK
  cases h
  apply TrD.ret
  refine exitHG (σ' := ⟨(updD (fun _ => .any) 2 (.sl 3 0 (p0).length)), hOfO [some ⟨3, (List.map rGValue p0), 0, 0x002f⟩], 1, 8⟩) ?_ ?_
  ·exact gC [40]
  dsimp only [resD]
  exact eA
 replace h : some ([]) = some res := by simp only [hnil] at h; simpa [app] using h
 apply hK
 refine cT ?_
 refine sZ ?_
 cases h
 apply TrD.ret
 refine exitHG (σ' := ⟨(updD (fun _ => .any) 2 (.sl 3 0 0)), hOfO [some ⟨3, (List.map rGValue []), 0, 0x002f⟩], 1, 8⟩) ?_ ?_
 ·refine (Ghost.ownNil (s := 2) (by simp) 3 0x002f).trans ?_
  exact gC [32]
 dsimp only [resD]
 exact eA
set_option maxRecDepth 100000 in
theorem c_impl_number (p0 : Int) (res : GValue) (h : m_impl_number p0 = some res) : CallsD Tryz.prog 0o00077 [(eI p0)] (fun d => d = (.agg (rGValue res))) := by
 unfold m_impl_number at h
 refine CD Tryz.func63 [.cell 2 47] fun β hβ => ?_
 refine sZ ?_
 refine sZ ?_
 cases h
 apply TrD.ret
 refine exitDG (σ' := ⟨(updD (fun _ => .any) 2 (.ptr 3 0 0 0)), hOfO [some ⟨3, [(rGValue (GValue.mk (-1) p0 []))], 0, 0x002f⟩], 1, 5⟩) ?_ ?_
 ·exact gC [0]
 simp [resD]
 exact eF
end Go.Proofs.YtimpchdgflhkaaaGreat
