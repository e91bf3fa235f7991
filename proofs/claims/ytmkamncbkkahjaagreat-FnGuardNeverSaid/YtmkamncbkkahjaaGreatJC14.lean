import Derived.Test.YtmkamncbkkahjaaGreatJMir
import Derived.Test.YtmkamncbkkahjaaGreatJZap
import Derived.Test.YtmkamncbkkahjaaGreatJC13
import Derived.Test.YtmkamncbkkahjaaGreatJC5
import Derived.Test.YtmkamncbkkahjaaGreatJC12
import Derived.Test.YtmkamncbkkahjaaGreatJC7
import Derived.Test.YtmkamncbkkahjaaGreatJC11
import Derived.Test.YtmkamncbkkahjaaGreatJC3
import Derived.Test.YtmkamncbkkahjaaGreatJC4
import Derived.Test.YtmkamncbkkahjaaGreatJC9
set_option linter.unusedSimpArgs false
set_option linter.unusedVariables false
namespace Go.Proofs.YtmkamncbkkahjaaGreat
open Go Go.RowKit
set_option maxRecDepth 100000
set_option maxHeartbeats 20000000
theorem c_spec_l4Mutate (n : Nat) (p0 : Gl17Rd) (p1 : (List GClause)) (res : (List GClause) × Gl17Rd) (h : m_spec_l4Mutate n p0 p1 = some res) : CallsH Tryz.prog 0o00124 [⟨2, [(rGl17Rd p0)], 0, 0x00ba⟩] [.ptr 2 0 0 0, (.slice 9 (List.map rGClause p1))] (fun H d => H = [some ⟨2, [(rGl17Rd res.2)], 0, 0x00ba⟩, some ⟨9, List.map rGClause res.1, 0, 0x002d⟩] ∧ d = .sl 9 1 res.1.length) := by
 unfold m_spec_l4Mutate at h
 refine CH Tryz.func84 [.tmp 4] 1 fun β hβ => ?_
 refine sZ ?_
 apply sq
 obtain ⟨x1, hx1, h⟩ := bindE h
 have hx1_r := (app_some hx1).2
 try simp only [List.length_nil, Nat.zero_add] at hx1_r
 obtain hhx1 := app_nil hx1
 subst hhx1
 refine rZ ?_ fun K hK => by simp [hx1_r]; exact hK
 obtain ⟨ac, a, h⟩ := bindE h
 obtain ⟨I, g⟩ : ∃ S : Gl17Rd × (List GClause) → St, S = fun e => ⟨(updD (fun _ => .any) 5 (.sl 9 1 (e.2).length)), hOfO [some ⟨2, [(rGl17Rd e.1)], 0, 0x00ba⟩, some ⟨9, (List.map rGClause e.2), 0, 0x002d⟩], 2, 56⟩ := ⟨_, rfl⟩
 refine TrD.join I (fun z => ac = Ctl.brk z) ?_ (fun e hz => ?_)
 ·apply sq
  obtain ⟨c, V, a⟩ := bindE a
  refine rk fun K hK => ?_
  simp
  refine callK (views_same _ _) (.same _ _) [0] (c_spec_l17Rd_pick p0 24 _ V) (by decide) (.cons (locRen_eq (by simp) (by simp) (by simp)) .nil) (.cons (ren_ptr rfl) (.cons (ren_le (by simp) (by simp)) .nil)) (fun ak au U => ?_)
  obtain ⟨rfl, rfl⟩ := U
  refine ⟨by simp, [some ⟨2, [(rGl17Rd c.2)], 0, 0x00ba⟩], (eI c.1), (.cons (optRen_same (by simp)) .nil), (ren_free (by simp)), ?_⟩
  simp [setMany, newNames]
  apply hK
  apply TrD.block
  refine sZ ?_
  refine TrD.cond (b := ieq c.1 0) (by simp) (fun l => ?_) (fun l => ?_)
  ·rw [if_pos l] at a
   refine sZ ?_ fun K hK => by simp [l]; exact hK
   refine TrD.cond (b := ilt 0 (lenZ p1.length)) (by simp) (fun m => ?_) (fun m => ?_)
   ·rw [if_pos m] at a
    obtain ⟨A, W, a⟩ := bindE a
    obtain ⟨B, X, a⟩ := bindE a
    obtain ⟨s, Y, a⟩ := bindE a
    obtain ⟨av, w, a⟩ := bindE a
    obtain ⟨C, x, a⟩ := bindE a
    refine rk fun K hK => ?_
    simp [m]
    refine callK (.cons (.same _ _) (.cons (.sl _ _ _ _ _ (by simp; rfl) rfl (by simp) (by simp)) (.nil _))) (.same _ _) [0] (c_spec_l17Rd_num c.2 [1, 2, 3, (-1)] _ W) (by decide) (.cons (locRen_eq (by simp) (by simp) (by simp)) .nil) (.cons (ren_ptr rfl) (.cons (ren_le (by simp) (by simp)) .nil)) (fun af an O => ?_)
    obtain ⟨rfl, rfl⟩ := O
    refine ⟨by simp, [some ⟨2, [(rGl17Rd A.2)], 0, 0x00ba⟩], (eI A.1), (.cons (optRen_same (by simp)) .nil), (ren_free (by simp)), ?_⟩
    simp [setMany, newNames]
    refine callK (.cons (.same _ _) (.cons (.sl _ _ _ _ _ (by simp; rfl) rfl (by simp) (by simp)) (.nil _))) (.same _ _) [0] (c_spec_l17Rd_num A.2 [0, 5, 9] _ X) (by decide) (.cons (locRen_eq (by simp) (by simp) (by simp)) .nil) (.cons (ren_ptr rfl) (.cons (ren_le (by simp) (by simp)) .nil)) (fun ag ao P => ?_)
    obtain ⟨rfl, rfl⟩ := P
    refine ⟨by simp, [some ⟨2, [(rGl17Rd B.2)], 0, 0x00ba⟩], (eI B.1), (.cons (optRen_same (by simp)) .nil), (ren_free (by simp)), ?_⟩
    simp [setMany, newNames]
    refine callK (.cons (.same _ _) (.cons (.sl _ _ _ _ _ (by simp; rfl) rfl (by simp) (by simp)) (.nil _))) (.same _ _) [0] (c_spec_l17Rd_num B.2 [3, 10, (-1)] _ Y) (by decide) (.cons (locRen_eq (by simp) (by simp) (by simp)) .nil) (.cons (ren_ptr rfl) (.cons (ren_le (by simp) (by simp)) .nil)) (fun ah ap Q => ?_)
    obtain ⟨rfl, rfl⟩ := Q
    refine ⟨by simp, [some ⟨2, [(rGl17Rd s.2)], 0, 0x00ba⟩], (eI s.1), (.cons (optRen_same (by simp)) .nil), (ren_free (by simp)), ?_⟩
    simp [setMany, newNames, idx_inb w, idx_ltN 0 w, elt (idx_getN 0 w)]
    apply hK
    cases a
    refine ToAny.mk (s.2, C) rfl ?_
    rw [g]
    exact gc [0, 25] hβ (va.s 25 (by simp [(setI_some x).1])) ((ln.f (by simp [(setI_some x).1])).f)
   rw [iN m] at a
   apply TrD.skip
   cases a
   refine ToAny.mk (c.2, p1) rfl ?_
   rw [g]
   exact gC [0, 25]
  rw [iN l] at a
  refine sZ ?_ fun K hK => by simp [l]; exact hK
  refine TrD.cond (b := ieq c.1 1) (by simp) (fun o => ?_) (fun o => ?_)
  ·rw [if_pos o] at a
   refine sZ ?_ fun K hK => by simp [o]; exact hK
   refine TrD.cond (b := ilt 0 (lenZ p1.length)) (by simp) (fun p => ?_) (fun p => ?_)
   ·rw [if_pos p] at a
    obtain ⟨ae, k, a⟩ := bindE a
    obtain ⟨t, Z, a⟩ := bindE a
    obtain ⟨u, aa, a⟩ := bindE a
    obtain ⟨D, y, a⟩ := bindE a
    refine rk fun K hK => ?_
    simp [p, idx_inb k, idx_ltN 0 k, elt (idx_getN 0 k)]
    refine callK (views_same _ _) (.same _ _) [0] (c_spec_l3Mutate c.2 ae.pat _ Z) (by decide) (.cons (locRen_eq (by simp) (by simp) (by simp)) .nil) (.cons (ren_ptr rfl) (.cons (ren_le (by simp) (by simp)) .nil)) (fun ai aq R => ?_)
    obtain ⟨rfl, rfl⟩ := R
    refine ⟨by simp, [some ⟨2, [(rGl17Rd t.2)], 0, 0x00ba⟩], (.agg (rGPattern t.1)), (.cons (optRen_same (by simp)) .nil), (ren_free (by simp)), ?_⟩
    simp [setMany, newNames]
    refine callK (views_same _ _) (.same _ _) [0] (c_spec_l3Mutate t.2 t.1 _ aa) (by decide) (.cons (locRen_eq (by simp) (by simp) (by simp)) .nil) (.cons (ren_ptr rfl) (.cons (ren_le (by simp) (by simp)) .nil)) (fun aj ar T => ?_)
    obtain ⟨rfl, rfl⟩ := T
    refine ⟨by simp, [some ⟨2, [(rGl17Rd u.2)], 0, 0x00ba⟩], (.agg (rGPattern u.1)), (.cons (optRen_same (by simp)) .nil), (ren_free (by simp)), ?_⟩
    simp [setMany, newNames, idx_inb k, idx_ltN 0 k, elt (idx_getN 0 k)]
    apply hK
    cases a
    refine ToAny.mk (u.2, D) rfl ?_
    rw [g]
    exact gc [0, 25] hβ (va.s 25 (by simp [(setI_some y).1])) ((ln.f (by simp [(setI_some y).1])).f)
   rw [iN p] at a
   apply TrD.skip
   cases a
   refine ToAny.mk (c.2, p1) rfl ?_
   rw [g]
   exact gC [0, 25]
  rw [iN o] at a
  refine sZ ?_ fun K hK => by simp [o]; exact hK
  refine TrD.cond (b := ieq c.1 2) (by simp) (fun q => ?_) (fun q => ?_)
  ·rw [if_pos q] at a
   obtain ⟨ad, M, a⟩ := bindE a
   obtain ⟨G, E⟩ : ∃ S : (List GClause) → St, S = fun i => ⟨(updD (fun _ => .any) 5 (.sl 9 1 (i).length)), hOfO [some ⟨2, [(rGl17Rd c.2)], 0, 0x00ba⟩, some ⟨9, (List.map rGClause i), 0, 0x002d⟩], 2, 56⟩ := ⟨_, rfl⟩
   refine TrD.joinQ G (fun z => ad = Ctl.brk z) (fun _ _ hg h => ToAny.ghost hg h) ?_ (fun i hz => ?_)
   ·apply TrD.block
    obtain ⟨J, v⟩ : ∃ S : (List GClause) → St, S = fun f => ⟨(updD (fun _ => .any) 5 (.sl 9 1 (f).length)), hOfO [some ⟨2, [(rGl17Rd c.2)], 0, 0x00ba⟩, some ⟨9, (List.map rGClause f), 0, 0x002d⟩], 2, 56⟩ := ⟨_, rfl⟩
    refine TrD.whileL J M ?_ (fun f am j al N => ?_)
    ·rw [v]
     exact gC [0, 25]
    rw [congrFun v f]
    apply sq
    refine sZ ?_
    refine TrD.cond (b := ile (lenZ f.length) 8) (by simp) (fun r => ?_) (fun r => ?_)
    ·rw [if_pos r] at j
     apply TrD.skip
     apply TrD.block
     obtain ⟨aw, ab, j⟩ := bindE j
     have F := (app_some ab).2
     try simp only [List.length_cons, List.length_nil, Nat.zero_add] at F
     refine rZ ?_ fun K hK => by simp [r, F]; exact hK
     cases j
     refine ToAny.mk (f ++ [(GClause.mk (GPattern.mk 1 0 0 0 0 []) (GGuard.mk 0 0 0))]) rfl ?_
     rw [v]
     exact Ghost.canonV 1 [0, 58] _ _ hβ (keep_first (by decide)) (by decide) (vT_upd (v_of (d0 := (.sl 9 58 ((f ++ [(GClause.mk (GPattern.mk 1 0 0 0 0 []) (GGuard.mk 0 0 0))])).length)) (by simp) (v_sl rfl)) (vT_any _)) (.cons (lv (L := ⟨2, [(rGl17Rd c.2)], 0, 0x00ba⟩) (by simp) rfl rfl (by simp) (rv_free (by simp) (by simp))) (.cons (lv (L := ⟨9, ((List.map rGClause f) ++ [[(eI 1), (eI 0), (eI 0), (eI 0), (eI 0), .nil, (eI 0), (eI 0), (eI 0)]]), 0, 0x002d⟩) (by simp) rfl rfl (by simp) (rv_snocr (by simp) (rGClause_eq _) (.cons (v_free (by simp) (by simp)) (.cons (v_free (by simp) (by simp)) (.cons (v_free (by simp) (by simp)) (.cons (v_free (by simp) (by simp)) (.cons (v_free (by simp) (by simp)) (.cons (v_free (by simp) (by simp)) (.cons (v_free (by simp) (by simp)) (.cons (v_free (by simp) (by simp)) (.cons (v_free (by simp) (by simp)) .nil))))))))))) .nil))
    rw [iN r] at j
    refine TrD.exit ?_
    try simp only [↓reduceIte, Nat.reduceEqDiff, Nat.zero_ne_one, Nat.one_ne_zero, OfNat.ofNat_ne_zero, OfNat.zero_ne_ofNat, OfNat.one_ne_ofNat, OfNat.ofNat_ne_one]
    cases j
    obtain rfl := N _ rfl
    refine ToAny.mk f rfl ?_
    rw [E]
    exact gC [0, 1]
   subst hz
   try dsimp only at a
   rw [congrFun E i]
   cases a
   refine ToAny.mk (c.2, i) rfl ?_
   rw [g]
   exact gC [0, 1]
  rw [iN q] at a
  apply TrD.skip
  cases a
  refine ToAny.mk (c.2, p1) rfl ?_
  rw [g]
  exact gC [0, 25]
 subst hz
 try dsimp only at h
 rw [congrFun g e]
 refine sZ ?_
 cases h
 apply TrD.ret
 refine exitHG (σ' := ⟨(updD (fun _ => .any) 4 (.sl 9 1 (e.2).length)), hOfO [some ⟨2, [(rGl17Rd e.1)], 0, 0x00ba⟩, some ⟨9, (List.map rGClause e.2), 0, 0x002d⟩], 2, 56⟩) ?_ ?_
 ·exact gC [0, 1]
 dsimp only [resD]
 exact eA
set_option maxRecDepth 100000 in
theorem c_spec_DrawClauseValid (n : Nat) (p0 : (List Int)) (res : (List GData) × GType × GClause) (h : m_spec_DrawClauseValid n p0 = some res) : CallsD Tryz.prog 0o00076 [(.slice 1 (List.map (rK .u8) p0))] (fun d => d = .tup [(.slice 2 (List.map rGData res.1)), (.agg (rGType res.2.1)), (.agg (rGClause res.2.2))]) := by
 unfold m_spec_DrawClauseValid at h
 refine CD Tryz.func62 [.tmp 2, .cell 3 25, .cell 4 45] fun β hβ => ?_
 refine sZ ?_
 apply sq
 obtain ⟨r1, hr1, h⟩ := bindE h
 refine rk fun K hK => ?_
 simp
 refine callK (views_same _ _) (.same _ _) [] (c_spec_l17Open p0 _ hr1) (by decide) .nil (.cons (ren_le (by simp) (by simp)) .nil) (fun Hq9 qq9 hq9 => ?_)
 obtain ⟨rfl, rfl⟩ := hq9
 refine ⟨by simp, [some ⟨2, [(rGl17Rd r1)], 0, 0x00ba⟩], (.ptr 2 33 0 0), (.cons (optRen_same (by simp)) .nil), (ren_ptr (by rfl)), ?_⟩
 simp [setMany, newNames]
 apply hK
 apply sq
 obtain ⟨r2, hr2, h⟩ := bindE h
 refine rk fun K hK => ?_
 simp
 refine callK (views_same _ _) (.same _ _) [33] (c_spec_l2Typed n r1 _ hr2) (by decide) (.cons (locRen_eq (by simp) (by simp) (by simp)) .nil) (.cons (ren_ptr rfl) .nil) (fun Hq8 qq8 hq8 => ?_)
 obtain ⟨rfl, rfl⟩ := hq8
 refine ⟨by simp, [some ⟨2, [(rGl17Rd r2.2.2.2)], 0, 0x00ba⟩], (.tup [(.slice 2 (List.map rGData r2.1)), (.agg (rGType r2.2.1)), (.agg (rGValue r2.2.2.1))]), (.cons (optRen_same (by simp)) .nil), (ren_free (by simp)), ?_⟩
 simp [setMany, newNames]
 apply hK
 apply sq
 refine TrD.ghost (σ' := ⟨(updD (updD (updD (updD (updD (fun _ => .any) 3 (.ptr 2 0 0 0)) 4 (.ptr 9 1 0 0)) 5 (.ptr 2 2 0 0)) 6 (.slice 2 (List.map rGData r2.1))) 7 (.ptr 2 3 0 0)), hOfO [some ⟨2, [[(eI 0), (eI 0)]], 0, 0x0019⟩, some ⟨9, [[(eI 0), (eI 0), (eI 0), (eI 0), (eI 0), .nil, (eI 0), (eI 0), (eI 0)]], 0, 0x002d⟩, some ⟨2, [(rGl17Rd r2.2.2.2)], 0, 0x00ba⟩, some ⟨2, [(rGType r2.2.1)], 0, 0x0019⟩], 4, 28⟩) ?_ ?_
 ·exact gC [8, 16, 33, 96]
 obtain ⟨r3, hr3, h⟩ := bindE h
 obtain ⟨r4, hr4, h⟩ := bindE h
 obtain ⟨x5, hx5, h⟩ := bindE h
 refine TrD.draw tysOk mixed [0, 1, 2, 3, 4, 5, 6, 7, 8, 9, 10, 11, 12, 13] [3, 21] [] (by rfl) rfl (fun K hK => ?_)
 simp
 refine callK (views_same _ _) (.same _ _) [2] (c_spec_l4Clause n r2.2.2.2 r2.1 r2.2.1 _ hr3) (by decide) (.cons (locRen_eq (by simp) (by simp) (by simp)) .nil) (.cons (ren_ptr rfl) (.cons (ren_le (by simp) (by simp)) (.cons (ren_le (by simp) (by simp)) .nil))) (fun Hq6 qq6 hq6 => ?_)
 obtain ⟨rfl, rfl⟩ := hq6
 refine ⟨by simp, [some ⟨2, [(rGl17Rd r3.2)], 0, 0x00ba⟩], (.agg (rGClause r3.1)), (.cons (optRen_same (by simp)) .nil), (ren_free (by simp)), ?_⟩
 simp [setMany, newNames]
 refine callK (.cons (.same _ _) (.cons (.sl _ _ _ _ _ (by simp; rfl) rfl (by simp) (by simp)) (.nil _))) (.same _ _) [2] (c_spec_l4Mutate n r3.2 [r3.1] _ hr4) (by decide) (.cons (locRen_eq (by simp) (by simp) (by simp)) .nil) (.cons (ren_ptr rfl) (.cons (ren_le (by simp) (by simp)) .nil)) (fun Hq7 qq7 hq7 => ?_)
 obtain ⟨rfl, rfl⟩ := hq7
 refine ⟨by simp, [some ⟨2, [(rGl17Rd r4.2)], 0, 0x00ba⟩, some ⟨9, (List.map rGClause r4.1), 0, 0x002d⟩], (.sl 9 21 (r4.1).length), (.cons (optRen_same (by simp)) (.cons (optRen_same (by simp)) .nil)), (ren_sl (by rfl)), ?_⟩
 simp [setMany, newNames, idx_inb hx5, idx_ltN 0 hx5, elt (idx_getN 0 hx5)]
 apply hK
 cases h
 apply TrD.ret
 exact xD
set_option maxRecDepth 100000 in
theorem c_spec_DrawGuardPattern (n : Nat) (p0 : (List Int)) (res : (List GData) × GType × GClause) (h : m_spec_DrawGuardPattern n p0 = some res) : CallsD Tryz.prog 0o00023 [(.slice 1 (List.map (rK .u8) p0))] (fun d => d = .tup [(.slice 2 (List.map rGData res.1)), (.agg (rGType res.2.1)), (.agg (rGClause res.2.2))]) := by
 unfold m_spec_DrawGuardPattern at h
 refine CD Tryz.func19 [.tmp 2, .cell 3 25, .cell 4 45] fun β hβ => ?_
 refine sZ ?_
 apply sq
 obtain ⟨r1, hr1, h⟩ := bindE h
 refine rk fun K hK => ?_
 simp
 refine callK (views_same _ _) (.same _ _) [] (c_spec_l17Open p0 _ hr1) (by decide) .nil (.cons (ren_le (by simp) (by simp)) .nil) (fun G P w => ?_)
 obtain ⟨rfl, rfl⟩ := w
 refine ⟨by simp, [some ⟨2, [(rGl17Rd r1)], 0, 0x00ba⟩], (.ptr 2 33 0 0), (.cons (optRen_same (by simp)) .nil), (ren_ptr (by rfl)), ?_⟩
 simp [setMany, newNames]
 apply hK
 apply sq
 apply sq
 obtain ⟨f, y, h⟩ := bindE h
 refine rk fun K hK => ?_
 simp
 refine callK (views_same _ _) (.same _ _) [33] (c_spec_l17Rd_pick r1 2 _ y) (by decide) (.cons (locRen_eq (by simp) (by simp) (by simp)) .nil) (.cons (ren_ptr rfl) (.cons (ren_le (by simp) (by simp)) .nil)) (fun F O v => ?_)
 obtain ⟨rfl, rfl⟩ := v
 refine ⟨by simp, [some ⟨2, [(rGl17Rd f.2)], 0, 0x00ba⟩], (eI f.1), (.cons (optRen_same (by simp)) .nil), (ren_free (by simp)), ?_⟩
 simp [setMany, newNames]
 apply hK
 refine TrD.cond (b := ieq f.1 0) (by simp) (fun c => ?_) (fun c => ?_)
 ·rw [if_pos c] at h
  apply sq
  obtain ⟨e, z, h⟩ := bindE h
  refine rk fun K hK => ?_
  simp [c]
  refine cp (c_spec_ParseWorld n (ByteArray.mk #[76, 61, 78, 105, 108, 124, 67, 111, 110, 115, 40, 73, 44, 76, 41]) _ z) ?_
  simp
  apply hK
  refine sZ ?_
  apply sq
  obtain ⟨o, A, h⟩ := bindE h
  obtain ⟨D, g, h⟩ := bindE h
  have i := idx_inb g
  have j := idx_lt g
  try simp only [List.length_cons, List.length_nil, Nat.zero_add, Nat.reduceAdd] at i j
  have l := idx_rowget g rS
  try simp only [List.map_cons, List.map_nil, rS_eq] at l
  obtain ⟨p, B, h⟩ := bindE h
  refine rk fun K hK => ?_
  simp
  refine callK (views_same _ _) (.same _ _) [33] (c_spec_l17Rd_pick f.2 (lenZ [(ByteArray.mk #[67, 111, 110, 115, 40, 97, 44, 95, 41, 32, 97, 60, 51]), (ByteArray.mk #[67, 111, 110, 115, 40, 97, 64, 50, 45, 53, 44, 98, 41, 32, 97, 61, 52]), (ByteArray.mk #[67, 111, 110, 115, 40, 97, 64, 40, 49, 124, 55, 41, 44, 95, 41, 32, 97, 60, 53]), (ByteArray.mk #[67, 111, 110, 115, 40, 97, 44, 67, 111, 110, 115, 40, 98, 44, 95, 41, 41, 32, 98, 60, 48]), (ByteArray.mk (List.toArray (40 :: 67 :: 111 :: 110 :: 115 :: 40 :: 97 :: 44 :: 78 :: 105 :: 108 :: 41 :: 124 :: 67 :: 111 :: 110 :: 115 :: 40 :: 95 :: 44 :: 67 :: 111 :: 110 :: 115 :: 40 :: 97 :: 44 :: 95 :: 41 :: 41 :: 41 :: 32 :: 97 :: 61 :: 50 :: []))), (ByteArray.mk #[67, 111, 110, 115, 40, 97, 64, 51, 44, 95, 41, 32, 97, 61, 52])].length) _ A) (by decide) (.cons (locRen_eq (by simp) (by simp) (by simp)) .nil) (.cons (ren_ptr rfl) (.cons (ren_le (by simp) (by simp)) .nil)) (fun E N r => ?_)
  obtain ⟨rfl, rfl⟩ := r
  refine ⟨by simp, [some ⟨2, [(rGl17Rd o.2)], 0, 0x00ba⟩], (eI o.1), (.cons (optRen_same (by simp)) .nil), (ren_free (by simp)), ?_⟩
  simp [setMany, newNames, i, j, l]
  refine cp (c_spec_ParseClauses n e.1 (GType.mk 0 0) D _ B) ?_
  simp
  apply hK
  apply sq
  refine TrD.ghost (σ' := ⟨(updD (updD (updD (updD (fun _ => .any) 3 (.ptr 2 0 0 0)) 4 (.ptr 9 1 0 0)) 6 (.slice 2 (List.map rGData e.1))) 9 (.slice 9 (List.map rGClause p.1))), hOfO [some ⟨2, [[(eI 0), (eI 0)]], 0, 0x0019⟩, some ⟨9, [[(eI 0), (eI 0), (eI 0), (eI 0), (eI 0), .nil, (eI 0), (eI 0), (eI 0)]], 0, 0x002d⟩], 2, 44⟩) ?_ ?_
  ·exact gC [8, 16]
  obtain ⟨q, m, h⟩ := bindE h
  refine TrD.draw tysOk mixed [0, 1, 2, 3, 4, 5, 6, 7] [] [] (by rfl) rfl (fun K hK => ?_)
  simp [idx_inb m, idx_row m]
  apply hK
  cases h
  apply TrD.ret
  exact xD
 rw [iN c] at h
 apply TrD.skip
 apply sq
 obtain ⟨a, C, h⟩ := bindE h
 refine rk fun K hK => ?_
 simp [c]
 refine cp (c_spec_DrawClauseValid n p0 _ C) ?_
 simp
 apply hK
 cases h
 apply TrD.ret
 exact xD
set_option maxRecDepth 100000 in
theorem c_spec_DrawGuardNever (n : Nat) (p0 : (List Int)) (res : (List GData) × GType × GClause) (h : m_spec_DrawGuardNever n p0 = some res) : CallsD Tryz.prog 0o00016 [(.slice 1 (List.map (rK .u8) p0))] (fun d => d = .tup [(.slice 2 (List.map rGData res.1)), (.agg (rGType res.2.1)), (.agg (rGClause res.2.2))]) := by
 unfold m_spec_DrawGuardNever at h
 refine CD Tryz.func14 [.tmp 2, .cell 3 25, .cell 4 45] fun β hβ => ?_
 refine sZ ?_
 apply sq
 obtain ⟨r1, hr1, h⟩ := bindE h
 refine rk fun K hK => ?_
 simp
 refine cp (c_spec_DrawGuardPattern n p0 _ hr1) ?_
 simp
 apply hK
 cases h
 apply TrD.ret
 exact xD
set_option maxRecDepth 100000 in
theorem c_impl_ClauseValid (n : Nat) (p0 : (List GData)) (p1 : GType) (p2 : GClause) (res : Bool) (h : m_impl_ClauseValid n p0 p1 p2 = some res) : CallsD Tryz.prog 0o00026 [(.slice 2 (List.map rGData p0)), (.agg (rGType p1)), (.agg (rGClause p2))] (fun d => d = (eB res)) := by
 unfold m_impl_ClauseValid at h
 refine CD Tryz.func22 [.tmp 6] fun β hβ => ?_
 refine sZ ?_
 apply sq
 obtain ⟨r7, hr7, h⟩ := bindE h
 rcases bb r7 with hb8 | hb8
 ·rw [if_pos hb8] at h
  obtain ⟨r9, hr9, h⟩ := bindE h
  refine rk fun K hK => ?_
  simp
  refine cp (c_impl_TypeValid n p0 p1 _ hr7) ?_
  simp [hb8]
  refine cp (c_impl_clauseOk n p0 p1 p2 _ hr9) ?_
  simp [hb8]
  apply hK
  cases h
  apply TrD.ret
  exact xD
 rw [iN hb8] at h
 refine rk fun K hK => ?_
 simp
 refine cp (c_impl_TypeValid n p0 p1 _ hr7) ?_
 simp [hb8]
 apply hK
 cases h
 apply TrD.ret
 exact xD
theorem c_impl_narrow : ∀ (n : Nat) (p0 : GPattern) (p1 : Int) (p2 : Int) (res : GPattern × Bool), m_impl_narrow n p0 p1 p2 = some res → CallsD Tryz.prog 0o00265 [(.agg (rGPattern p0)), (eI p1), (eI p2)] (fun d => d = .tup [(.agg (rGPattern res.1)), (eB res.2)]) := by
 intro n
 induction n with
 | zero => intro p0 p1 p2 res h; cases h
 | succ n ih =>
  intro p0 p1 p2 res h
  rw [m_impl_narrow.eq_2] at h
  refine CD Tryz.func181 [.cell 6 41, .tmp 7] fun β hβ => ?_
  refine sZ ?_
  apply sq
  refine sZ ?_
  apply TrD.block
  refine sZ ?_
  refine TrD.cond (b := ieq p0.op 1) (by simp) (fun hb8 => ?_) (fun hb8 => ?_)
  ·rw [if_pos hb8] at h
   refine sZ ?_ fun K hK => by simp [hb8]; exact hK
   cases h
   apply TrD.ret
   refine exitDG (σ' := ⟨(updD (updD (fun _ => .any) 6 (.ptr 6 0 0 0)) 7 (eB true)), hOfO [some ⟨6, [(rGPattern (GPattern.mk 3 0 p1 p2 0 []))], 0, 0x0029⟩], 1, 100⟩) ?_ ?_
   ·exact gC [8]
   simp [resD]
   exact eF
  rw [iN hb8] at h
  refine sZ ?_ fun K hK => by simp [hb8]; exact hK
  refine TrD.cond (b := ieq p0.op 2) (by simp) (fun hb9 => ?_) (fun hb9 => ?_)
  ·rw [if_pos hb9] at h
   refine sZ ?_ fun K hK => by simp [hb9]; exact hK
   cases h
   apply TrD.ret
   refine exitDG (σ' := ⟨(updD (updD (fun _ => .any) 6 (.ptr 6 0 0 0)) 7 (eB true)), hOfO [some ⟨6, [(rGPattern (GPattern.mk 6 0 0 0 p0.var [(GPattern.mk 3 0 p1 p2 0 [])]))], 0, 0x0029⟩], 1, 100⟩) ?_ ?_
   ·refine (Ghost.raise 112 (by simp; rfl)).trans ?_
    exact gC [8] (hh := (ln.c (lv (L := ⟨6, [[(eI 6), (eI 0), (eI 0), (eI 0), (eI p0.var), (.sl 6 112 ([(GPattern.mk 3 0 p1 p2 0 [])]).length)]], 0, 0x0029⟩) (by simp) rfl rfl (by simp) (rv_consr (rGPattern_eq _) (.cons (v_free (by simp) (by simp)) (.cons (v_free (by simp) (by simp)) (.cons (v_free (by simp) (by simp)) (.cons (v_free (by simp) (by simp)) (.cons (v_free (by simp) (by simp)) (.cons (v_frz (L := ⟨6, ((List.map rGPattern []) ++ [[(eI 3), (eI 0), (eI p1), (eI p2), (eI 0), .nil]]), ([(GPattern.mk 3 0 p1 p2 0 [])]).length * 6, 0x0029⟩) (by simp) rfl (by simp) (by simp) (rv_consr (rGPattern_eq _) (.cons (v_free (by simp) (by simp)) (.cons (v_free (by simp) (by simp)) (.cons (v_free (by simp) (by simp)) (.cons (v_free (by simp) (by simp)) (.cons (v_free (by simp) (by simp)) (.cons (v_free (by simp) (by simp)) .nil)))))) rv_nil)) .nil)))))) rv_nil))))
   simp [resD]
   exact eF
  rw [iN hb9] at h
  refine sZ ?_ fun K hK => by simp [hb9]; exact hK
  refine TrD.cond (b := ieq p0.op 3) (by simp) (fun f => ?_) (fun f => ?_)
  ·rw [if_pos f] at h
   refine sZ ?_ fun K hK => by simp [f]; exact hK
   apply sq
   refine TrD.ghost (σ' := ⟨(updD (updD (fun _ => .any) 6 (.ptr 6 0 0 0)) 8 (.ptr 6 1 0 0)), hOfO [some ⟨6, [[(eI 0), (eI 0), (eI 0), (eI 0), (eI 0), .nil]], 0, 0x0029⟩, some ⟨6, [[(eI 3), (eI 0), (eI (imax p0.n p1)), (eI (imin p0.m p2)), (eI 0), .nil]], 0, 0x0029⟩], 2, 100⟩) ?_ ?_
   ·exact gC [8, 160]
   refine TrD.draw tysOk mixed [0, 1, 2, 3, 4, 5, 6, 7] [1] [] (by rfl) rfl (fun K hK => ?_)
   simp
   apply hK
   cases h
   apply TrD.ret
   refine exitDG (σ' := ⟨(updD (updD (fun _ => .any) 6 (.ptr 6 0 0 0)) 7 (eB (ile (imax p0.n p1) (imin p0.m p2)))), hOfO [some ⟨6, [(rGPattern (GPattern.mk 3 0 (imax p0.n p1) (imin p0.m p2) 0 []))], 0, 0x0029⟩], 1, 100⟩) ?_ ?_
   ·exact gC [0]
   simp [resD]
   exact eF
  rw [iN f] at h
  refine sZ ?_ fun K hK => by simp [f]; exact hK
  refine TrD.cond (b := ieq p0.op 6) (by simp) (fun g => ?_) (fun g => ?_)
  ·rw [if_pos g] at h
   apply sq
   obtain ⟨w, l, h⟩ := bindE h
   obtain ⟨e, t, h⟩ := bindE h
   refine rk fun K hK => ?_
   simp [g, idx_inb l, idx_row l]
   refine cp (ih w p1 p2 _ t) ?_
   simp
   apply hK
   refine sZ ?_
   cases h
   apply TrD.ret
   refine exitDG (σ' := ⟨(updD (updD (fun _ => .any) 6 (.ptr 6 0 0 0)) 7 (eB e.2)), hOfO [some ⟨6, [(rGPattern (GPattern.mk 6 0 0 0 p0.var [e.1]))], 0, 0x0029⟩], 1, 100⟩) ?_ ?_
   ·refine (Ghost.raise 232 (by simp; rfl)).trans ?_
    exact gC [8] (hh := (ln.c (lv (L := ⟨6, [[(eI 6), (eI 0), (eI 0), (eI 0), (eI p0.var), (.sl 6 232 ([e.1]).length)]], 0, 0x0029⟩) (by simp) rfl rfl (by simp) (rv_consr (rGPattern_eq _) (.cons (v_free (by simp) (by simp)) (.cons (v_free (by simp) (by simp)) (.cons (v_free (by simp) (by simp)) (.cons (v_free (by simp) (by simp)) (.cons (v_free (by simp) (by simp)) (.cons (v_frz (L := ⟨6, (List.map rGPattern [e.1]), ([e.1]).length * 6, 0x0029⟩) (by simp) rfl (by simp) (by simp) (rv_free (by simp) (free_rows_of fr_GPattern _))) .nil)))))) rv_nil))))
   simp [resD]
   exact eF
  rw [iN g] at h
  apply TrD.skip
  apply sq
  obtain ⟨y, o, h⟩ := bindE h
  obtain ⟨c, u, h⟩ := bindE h
  refine rk fun K hK => ?_
  simp [g, idx_inb o, idx_row o]
  refine cp (ih y p1 p2 _ u) ?_
  simp
  apply hK
  apply sq
  obtain ⟨z, p, h⟩ := bindE h
  obtain ⟨a, v, h⟩ := bindE h
  refine rk fun K hK => ?_
  simp [idx_inb p, idx_row p]
  refine cp (ih z p1 p2 _ v) ?_
  simp
  apply hK
  apply sq
  apply TrD.block
  apply sq
  rcases bb c.2 with i | i
  ·rw [if_pos i] at h
   refine rZ ?_ fun K hK => by simp [i]; exact hK
   refine TrD.cond (b := a.2) (by simp) (fun j => ?_) (fun j => ?_)
   ·rw [if_pos j] at h
    refine sZ ?_ fun K hK => by simp [j]; exact hK
    cases h
    apply TrD.ret
    refine exitDG (σ' := ⟨(updD (updD (fun _ => .any) 6 (.ptr 6 0 0 0)) 7 (eB true)), hOfO [some ⟨6, [(rGPattern (GPattern.mk 5 0 0 0 0 [c.1, a.1]))], 0, 0x0029⟩], 1, 100⟩) ?_ ?_
    ·refine (Ghost.raise 368 (by simp; rfl)).trans ?_
     exact gC [8] (hh := (ln.c (lv (L := ⟨6, [[(eI 5), (eI 0), (eI 0), (eI 0), (eI 0), (.sl 6 368 ([c.1, a.1]).length)]], 0, 0x0029⟩) (by simp) rfl rfl (by simp) (rv_consr (rGPattern_eq _) (.cons (v_free (by simp) (by simp)) (.cons (v_free (by simp) (by simp)) (.cons (v_free (by simp) (by simp)) (.cons (v_free (by simp) (by simp)) (.cons (v_free (by simp) (by simp)) (.cons (v_frz (L := ⟨6, (List.map rGPattern [c.1, a.1]), ([c.1, a.1]).length * 6, 0x0029⟩) (by simp) rfl (by simp) (by simp) (rv_free (by simp) (free_rows_of fr_GPattern _))) .nil)))))) rv_nil))))
    simp [resD]
    exact eF
   rw [iN j] at h
   refine sZ ?_ fun K hK => by simp [j]; exact hK
   refine cT ?_
   refine sZ ?_
   cases h
   apply TrD.ret
   exact xD
  rw [iN i] at h
  refine rZ ?_ fun K hK => by simp [i]; exact hK
  refine cF ?_
  refine sZ ?_
  refine cF ?_
  apply TrD.skip
  refine sZ ?_
  cases h
  apply TrD.ret
  exact xD
set_option maxRecDepth 100000 in
theorem c_slices_Clone_Pattern (p0 : (List GPattern)) (res : (List GPattern)) (h : m_slices_Clone_Pattern p0 = some res) : CallsH Tryz.prog 0o00232 [] [(.slice 6 (List.map rGPattern p0))] (fun H d => H = [some ⟨6, List.map rGPattern res, 0, 0x0029⟩] ∧ d = .sl 6 0 res.length) := by
 unfold m_slices_Clone_Pattern at h
 refine CH Tryz.func154 [.tmp 2] 0 fun β hβ => ?_
 refine sZ ?_
 apply sq
 refine sk fun K hK => ?_
 simp
 refine ⟨?_, fun hnil => ?_⟩
 ·apply hK
  refine cF ?_
  apply TrD.skip
  apply sq
  obtain ⟨x3, hx3, h⟩ := bindE h
  have hx3_r := (app_some hx3).2
  try simp only [List.length_nil, Nat.zero_add] at hx3_r
  obtain hhx3 := app_nil hx3
  subst hhx3
  refine rZ ?_ fun K hK => by simp [hx3_r]; exact hK
  cases h
  apply TrD.ret
  refine exitHG (σ' := ⟨(updD (fun _ => .any) 2 (.sl 6 0 (p0).length)), hOfO [some ⟨6, (List.map rGPattern p0), 0, 0x0029⟩], 1, 8⟩) ?_ ?_
  ·exact gC [40]
  dsimp only [resD]
  exact eA
 replace h : some ([]) = some res := by simp only [hnil] at h; simpa [app] using h
 apply hK
 refine cT ?_
 refine sZ ?_
 cases h
 apply TrD.ret
 refine exitHG (σ' := ⟨(updD (fun _ => .any) 2 (.sl 6 0 0)), hOfO [some ⟨6, (List.map rGPattern []), 0, 0x0029⟩], 1, 8⟩) ?_ ?_
 ·refine (Ghost.ownNil (s := 2) (by simp) 6 0x0029).trans ?_
  exact gC [32]
 dsimp only [resD]
 exact eA
theorem c_impl_narrowed : ∀ (n : Nat) (p0 : GPattern) (p1 : Int) (p2 : Int) (p3 : Int) (res : GPattern × Bool × Bool), m_impl_narrowed n p0 p1 p2 p3 = some res → CallsD Tryz.prog 0o00152 [(.agg (rGPattern p0)), (eI p1), (eI p2), (eI p3)] (fun d => d = .tup [(.agg (rGPattern res.1)), (eB res.2.1), (eB res.2.2)]) := by
 intro n
 induction n with
 | zero => intro p0 p1 p2 p3 res h; cases h
 | succ n ih =>
  intro p0 p1 p2 p3 res h
  rw [m_impl_narrowed.eq_2] at h
  refine CD Tryz.func106 [.cell 8 41, .tmp 9, .tmp 10] fun β hβ => ?_
  refine sZ ?_
  obtain ⟨Z, a, h⟩ := bindE h
  obtain ⟨I, t⟩ : ∃ S : Unit → St, S = fun F => ⟨(updD (updD (updD (updD (updD (fun _ => .any) 1 (eI p1)) 2 (eI p2)) 3 (eI p3)) 4 (.ptr 6 0 0 0)) 8 (.ptr 6 1 0 0)), hOfO [some ⟨6, [(rGPattern p0)], 0, 0x0029⟩, some ⟨6, [[(eI 0), (eI 0), (eI 0), (eI 0), (eI 0), .nil]], 0, 0x0029⟩], 2, 75⟩ := ⟨_, rfl⟩
  refine TrD.join I (fun z => Z = Ctl.brk z) ?_ (fun F hz => ?_)
  ·apply sq
   rcases bb (ieq p0.op 2) with i | i
   ·rw [if_pos i] at a
    refine rZ ?_ fun K hK => by simp [i]; exact hK
    refine TrD.cond (b := ieq p0.var p1) (by simp) (fun e => ?_) (fun e => ?_)
    ·rw [if_pos e] at a
     apply sq
     obtain ⟨u, U, a⟩ := bindE a
     refine rk fun K hK => ?_
     simp [e]
     refine cp (c_impl_narrow n p0 p2 p3 _ U) ?_
     simp
     apply hK
     refine sZ ?_
     cases a
     cases h
     apply TrD.ret
     exact xD
    rw [iN e] at a
    apply TrD.skip
    cases a
    refine ToAny.mk () rfl ?_
    rw [t]
    exact gC [0, 8]
   rw [iN i] at a
   rcases bb (ieq p0.op 6) with l | l
   ·rw [if_pos l] at a
    refine rZ ?_ fun K hK => by simp [i, l]; exact hK
    refine TrD.cond (b := ieq p0.var p1) (by simp) (fun f => ?_) (fun f => ?_)
    ·rw [if_pos f] at a
     apply sq
     obtain ⟨v, V, a⟩ := bindE a
     refine rk fun K hK => ?_
     simp [f]
     refine cp (c_impl_narrow n p0 p2 p3 _ V) ?_
     simp
     apply hK
     refine sZ ?_
     cases a
     cases h
     apply TrD.ret
     exact xD
    rw [iN f] at a
    apply TrD.skip
    cases a
    refine ToAny.mk () rfl ?_
    rw [t]
    exact gC [0, 8]
   rw [iN l] at a
   refine rZ ?_ fun K hK => by simp [i, l]; exact hK
   refine cF ?_
   apply TrD.skip
   cases a
   refine ToAny.mk () rfl ?_
   rw [t]
   exact gC [0, 8]
  subst hz
  try dsimp only at h
  rw [congrFun t F]
  apply sq
  refine sZ ?_
  refine TrD.cond (b := ieq p0.op 5) (by simp) (fun o => ?_) (fun o => ?_)
  ·rw [if_pos o] at h
   refine sZ ?_ fun K hK => by simp [o]; exact hK
   cases h
   apply TrD.ret
   exact xD
  rw [iN o] at h
  apply TrD.skip
  apply sq
  refine sZ ?_ fun K hK => by simp [o]; exact hK
  obtain ⟨Y, J, h⟩ := bindE h
  obtain ⟨G, A⟩ : ∃ S : Unit → St, S = fun E => ⟨(updD (updD (fun _ => .any) 4 (.ptr 6 0 0 0)) 8 (.ptr 6 1 0 0)), hOfO [some ⟨6, [(rGPattern p0)], 0, 0x0029⟩, some ⟨6, [[(eI 0), (eI 0), (eI 0), (eI 0), (eI 0), .nil]], 0, 0x0029⟩], 2, 75⟩ := ⟨_, rfl⟩
  refine TrD.joinQ G (fun z => Y = Ctl.brk z) (fun _ _ hg h => TrD.ghost hg h) ?_ (fun E hz => ?_)
  ·apply TrD.block
   obtain ⟨H, s⟩ : ∃ S : Nat → Unit → St, S = fun q r => ⟨(updD (updD (updD (updD (updD (updD (updD (updD (fun _ => .any) 1 (eI p1)) 2 (eI p2)) 3 (eI p3)) 4 (.ptr 6 0 0 0)) 8 (.ptr 6 1 0 0)) 44 (.slice 6 (List.map rGPattern p0.kids))) 45 (eI (lenZ p0.kids.length))) 46 (eI (q : Int))), hOfO [some ⟨6, [(rGPattern p0)], 0, 0x0029⟩, some ⟨6, [[(eI 0), (eI 0), (eI 0), (eI 0), (eI 0), .nil]], 0, 0x0029⟩], 2, 75⟩ := ⟨_, rfl⟩
   refine TrD.limS (sz := 6) (rows := List.map rGPattern p0.kids) (seen_slot (d := .slice 6 (List.map rGPattern p0.kids)) 44 (by simp)) (fun hlim => ?_)
   rw [List.length_map] at hlim
   refine TrD.forL H J hlim ?_ (fun q ab r C ae af X g ag c W ad => ?_) (fun r aa => ?_)
   ·rw [s]
    exact gC [0, 1]
   ·rw [congrFun (congrFun s q) r]
    refine sZ ?_ fun K hK => by simp [X]; exact hK
    apply sq
    refine cT ?_
    apply TrD.skip
    apply sq
    apply TrD.block
    refine sZ ?_ fun K hK => by simp [idx_inb C, idx_row C]; exact hK
    apply sq
    obtain ⟨y, R, c⟩ := bindE c
    refine rk fun K hK => ?_
    simp
    refine cp (ih ab p1 p2 p3 _ R) ?_
    simp
    apply hK
    refine sZ ?_
    refine TrD.cond (b := y.2.1) (by simp) (fun j => ?_) (fun j => ?_)
    ·rw [if_pos j] at c
     refine sZ ?_ fun K hK => by simp [j]; exact hK
     apply sq
     obtain ⟨D, T, c⟩ := bindE c
     refine rk fun K hK => ?_
     simp
     refine callK (views_same _ _) (.same _ _) [] (c_slices_Clone_Pattern p0.kids _ T) (by decide) .nil (.cons (ren_le (by simp) (by simp)) .nil) (fun ac ak N => ?_)
     obtain ⟨rfl, rfl⟩ := N
     refine ⟨by simp, [some ⟨6, (List.map rGPattern D), 0, 0x0029⟩], (.sl 6 203 (D).length), (.cons (optRen_same (by simp)) .nil), (ren_sl (by rfl)), ?_⟩
     simp [setMany, newNames]
     apply hK
     apply sq
     obtain ⟨al, B, c⟩ := bindE c
     obtain ⟨w, p, c⟩ := bindE c
     refine rZ ?_ fun K hK => by simp [idx_inb B, idx_ltN q B]; exact hK
     refine sZ ?_
     cases c
     obtain rfl := W _ rfl
     cases h
     apply TrD.ret
     refine exitDG (σ' := ⟨(updD (updD (updD (fun _ => .any) 8 (.ptr 6 0 0 0)) 9 (eB true)) 10 (eB y.2.2)), hOfO [some ⟨6, [(rGPattern (GPattern.mk p0.op p0.ctor p0.n p0.m p0.var w))], 0, 0x0029⟩], 1, 75⟩) ?_ ?_
     ·refine (Ghost.raise 203 (by simp; rfl)).trans ?_
      exact gC [1] (hh := (ln.c (lv (L := ⟨6, [[(eI p0.op), (eI p0.ctor), (eI p0.n), (eI p0.m), (eI p0.var), (.sl 6 203 (w).length)]], 0, 0x0029⟩) (by simp [(setI_some p).1]) rfl rfl (by simp) (rv_consr (rGPattern_eq _) (.cons (v_free (by simp) (by simp)) (.cons (v_free (by simp) (by simp)) (.cons (v_free (by simp) (by simp)) (.cons (v_free (by simp) (by simp)) (.cons (v_free (by simp) (by simp)) (.cons (v_frz (L := ⟨6, (List.map rGPattern w), (w).length * 6, 0x0029⟩) (by simp [(setI_some p).1]) rfl (by simp [(setI_some p).1]) (by simp [(setI_some p).1]) (rv_free (by simp [(setI_some p).1]) (free_rows_of fr_GPattern _))) .nil)))))) rv_nil))))
     simp [resD]
     exact eF
    rw [iN j] at c
    apply TrD.skip
    refine rZ ?_ fun K hK => by simp [j]; exact hK
    cases c
    refine ToAny.mk () rfl ?_
    rw [s]
    exact gc [0, 1] hβ ((((((((va.f (by simp [g])).f (by simp [g])).f (by simp [g])).p 0 (by simp [g])).p 1 (by simp [g])).f (by simp [g])).f (by simp [g])).f (by simp [g])) ((ln.c (lv (L := ⟨6, [[(eI 0), (eI 0), (eI 0), (eI 0), (eI 0), .nil]], 0, 0x0029⟩) (by simp) rfl rfl (by simp) (rv_cons (.cons (v_free (by simp) (by simp)) (.cons (v_free (by simp) (by simp)) (.cons (v_free (by simp) (by simp)) (.cons (v_free (by simp) (by simp)) (.cons (v_free (by simp) (by simp)) (.cons (v_free (by simp) (by simp)) .nil)))))) rv_nil))).f)
   rw [congrFun (congrFun s _) r]
   refine sZ ?_ fun K hK => by simp [ilt_len p0.kids.length]; exact hK
   apply sq
   refine cF ?_
   refine TrD.exit ?_
   try simp only [↓reduceIte, Nat.reduceEqDiff, Nat.zero_ne_one, Nat.one_ne_zero, OfNat.ofNat_ne_zero, OfNat.zero_ne_ofNat, OfNat.one_ne_ofNat, OfNat.ofNat_ne_one]
   refine ToAny.mk r aa ?_
   rw [A]
   exact gC [0, 1]
  subst hz
  try dsimp only at h
  rw [congrFun A E]
  refine sZ ?_
  cases h
  apply TrD.ret
  exact xD
set_option maxRecDepth 100000 in
theorem c_impl_guarded (n : Nat) (p0 : GClause) (res : GPattern × Bool × Bool) (h : m_impl_guarded n p0 = some res) : CallsD Tryz.prog 0o00057 [(.agg (rGClause p0))] (fun d => d = .tup [(.agg (rGPattern res.1)), (eB res.2.1), (eB res.2.2)]) := by
 unfold m_impl_guarded at h
 refine CD Tryz.func47 [.cell 2 41, .tmp 3, .tmp 4] fun β hβ => ?_
 refine sZ ?_
 apply sq
 refine TrD.ghost (σ' := ⟨(updD (updD (fun _ => .any) 1 (.ptr 9 0 0 0)) 2 (.ptr 6 1 0 0)), hOfO [some ⟨9, [(rGClause p0)], 0, 0x002d⟩, some ⟨6, [[(eI 0), (eI 0), (eI 0), (eI 0), (eI 0), .nil]], 0, 0x0029⟩], 2, 44⟩) ?_ ?_
 ·exact gC [0, 8]
 refine TrD.draw tysOk mixed [0, 1, 2, 3, 4, 5] [0] [] (by rfl) rfl (fun K hK => ?_)
 simp
 apply hK
 obtain ⟨o3, g5, h⟩ := bindE h
 obtain ⟨S4, hS4⟩ : ∃ S : Int × Int → St, S = fun s2 => ⟨(updD (updD (updD (updD (fun _ => .any) 1 (.ptr 9 0 0 0)) 2 (.ptr 6 1 0 0)) 5 (eI s2.1)) 6 (eI s2.2)), hOfO [some ⟨9, [(rGClause p0)], 0, 0x002d⟩, some ⟨6, [[(eI 0), (eI 0), (eI 0), (eI 0), (eI 0), .nil]], 0, 0x0029⟩], 2, 44⟩ := ⟨_, rfl⟩
 refine TrD.join S4 (fun z => o3 = Ctl.brk z) ?_ (fun s2 hz => ?_)
 ·refine sZ ?_
  refine TrD.cond (b := ieq p0.guard.op 2) (by simp) (fun hb6 => ?_) (fun hb6 => ?_)
  ·rw [if_pos hb6] at g5
   refine TrD.ghost (σ' := ⟨(updD (updD (fun _ => .any) 1 (.ptr 9 0 0 0)) 2 (.ptr 6 1 0 0)), hOfO [some ⟨9, [(rGClause p0)], 0, 0x002d⟩, some ⟨6, [[(eI 0), (eI 0), (eI 0), (eI 0), (eI 0), .nil]], 0, 0x0029⟩], 2, 44⟩) ?_ ?_
   ·exact gC [0, 1]
   refine TrD.draw tysOk mixed [0, 1, 2, 3, 4, 5, 6, 7] [0] [] (by rfl) rfl (fun K hK => ?_)
   simp
   apply hK
   cases g5
   refine ToAny.mk (p0.guard.n, p0.guard.n) rfl ?_
   rw [hS4]
   exact gC [0, 1]
  rw [iN hb6] at g5
  apply TrD.skip
  cases g5
  refine ToAny.mk (0, wsub .i64 p0.guard.n 1) rfl ?_
  rw [hS4]
  exact gC [0, 1]
 subst hz
 try dsimp only at h
 rw [congrFun hS4 s2]
 apply sq
 obtain ⟨r7, hr7, h⟩ := bindE h
 refine rk fun K hK => ?_
 simp
 refine cp (c_impl_narrowed n p0.pat p0.guard.var s2.1 s2.2 _ hr7) ?_
 simp
 apply hK
 apply sq
 rcases bb r7.2.2 with hb9 | hb9
 ·rw [if_pos hb9] at h
  refine rZ ?_ fun K hK => by simp [hb9]; exact hK
  cases h
  apply TrD.ret
  exact xD
 rw [iN hb9] at h
 refine rZ ?_ fun K hK => by simp [hb9]; exact hK
 cases h
 apply TrD.ret
 exact xD
set_option maxRecDepth 100000 in
theorem c_impl_GuardNever (n : Nat) (p0 : (List GData)) (p1 : GType) (p2 : GClause) (res : Bool) (h : m_impl_GuardNever n p0 p1 p2 = some res) : CallsD Tryz.prog 0o00017 [(.slice 2 (List.map rGData p0)), (.agg (rGType p1)), (.agg (rGClause p2))] (fun d => d = (eB res)) := by
 unfold m_impl_GuardNever at h
 refine CD Tryz.func15 [.tmp 6] fun β hβ => ?_
 refine sZ ?_
 apply sq
 apply sq
 obtain ⟨o, g, h⟩ := bindE h
 rcases bb (!o) with a | a
 ·rw [if_pos a] at h
  refine rk fun K hK => ?_
  simp
  refine cp (c_impl_ClauseValid n p0 p1 p2 _ g) ?_
  simp [a]
  apply hK
  refine cT ?_
  refine sZ ?_
  cases h
  apply TrD.ret
  exact xD
 rw [iN a] at h
 refine rk fun K hK => ?_
 simp
 refine cp (c_impl_ClauseValid n p0 p1 p2 _ g) ?_
 simp [a]
 apply hK
 refine TrD.cond (b := ieq p2.guard.op 0) (by simp) (fun c => ?_) (fun c => ?_)
 ·rw [if_pos c] at h
  refine sZ ?_ fun K hK => by simp [c]; exact hK
  cases h
  apply TrD.ret
  exact xD
 rw [iN c] at h
 apply TrD.skip
 apply sq
 obtain ⟨f, m, h⟩ := bindE h
 refine rk fun K hK => ?_
 simp [c]
 refine cp (c_impl_guarded n p2 _ m) ?_
 simp
 apply hK
 apply sq
 rcases bb f.2.1 with e | e
 ·rw [if_pos e] at h
  refine rZ ?_ fun K hK => by simp [e]; exact hK
  cases h
  apply TrD.ret
  exact xD
 rw [iN e] at h
 refine rZ ?_ fun K hK => by simp [e]; exact hK
 cases h
 apply TrD.ret
 exact xD
set_option maxRecDepth 100000 in
theorem c_spec_ClauseValid (n : Nat) (p0 : (List GData)) (p1 : GType) (p2 : GClause) (res : Bool) (h : m_spec_ClauseValid n p0 p1 p2 = some res) : CallsD Tryz.prog 0o00060 [(.slice 2 (List.map rGData p0)), (.agg (rGType p1)), (.agg (rGClause p2))] (fun d => d = (eB res)) := by
 unfold m_spec_ClauseValid at h
 refine CD Tryz.func48 [.tmp 6] fun β hβ => ?_
 refine sZ ?_
 apply sq
 obtain ⟨r7, hr7, h⟩ := bindE h
 rcases bb r7 with hb8 | hb8
 ·rw [if_pos hb8] at h
  obtain ⟨r9, hr9, h⟩ := bindE h
  refine rk fun K hK => ?_
  simp
  refine cp (c_spec_TypeValid n p0 p1 _ hr7) ?_
  simp [hb8]
  refine cp (c_spec_l4Is n p0 p1 p2 _ hr9) ?_
  simp [hb8]
  apply hK
  cases h
  apply TrD.ret
  exact xD
 rw [iN hb8] at h
 refine rk fun K hK => ?_
 simp
 refine cp (c_spec_TypeValid n p0 p1 _ hr7) ?_
 simp [hb8]
 apply hK
 cases h
 apply TrD.ret
 exact xD
end Go.Proofs.YtmkamncbkkahjaaGreat
