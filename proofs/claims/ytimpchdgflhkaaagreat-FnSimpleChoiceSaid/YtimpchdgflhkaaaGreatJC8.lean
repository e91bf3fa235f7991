import Derived.Test.YtimpchdgflhkaaaGreatJMir
import Derived.Test.YtimpchdgflhkaaaGreatJZap
import Derived.Test.YtimpchdgflhkaaaGreatJC1
import Derived.Test.YtimpchdgflhkaaaGreatJC7
set_option linter.unusedSimpArgs false
set_option linter.unusedVariables false
namespace Go.Proofs.YtimpchdgflhkaaaGreat
open Go Go.RowKit
set_option maxRecDepth 100000
set_option maxHeartbeats 20000000
theorem c_spec_l4Mutate (n : Nat) (p0 : Gl17Rd) (p1 : (List GClause)) (res : (List GClause) × Gl17Rd) (h : m_spec_l4Mutate n p0 p1 = some res) : CallsH Tryz.prog 0o00046 [⟨2, [(rGl17Rd p0)], 0, 0x0066⟩] [.ptr 2 0 0 0, (.slice 9 (List.map rGClause p1))] (fun H d => H = [some ⟨2, [(rGl17Rd res.2)], 0, 0x0066⟩] ∧ d = (.slice 9 (List.map rGClause res.1))) := by
 unfold m_spec_l4Mutate at h
 refine CH Tryz.func38 [.tmp 4] 1 fun β hβ => ?_
 refine sZ ?_
 apply sq
 obtain ⟨x1, hx1, h⟩ := bindE h
 have hx1_r := (app_some hx1).2
 try simp only [List.length_nil, Nat.zero_add] at hx1_r
 obtain hhx1 := app_nil hx1
 subst hhx1
 refine rZ ?_ fun K hK => by simp [hx1_r]; exact hK
 obtain ⟨ac, a, h⟩ := bindE h
 obtain ⟨I, g⟩ : ∃ S : Gl17Rd × (List GClause) → St, S = fun f => ⟨(updD (fun _ => .any) 5 (.sl 9 1 (f.2).length)), hOfO [some ⟨2, [(rGl17Rd f.1)], 0, 0x0066⟩, some ⟨9, (List.map rGClause f.2), 0, 0x0026⟩], 2, 56⟩ := ⟨_, rfl⟩
 refine TrD.join I (fun z => ac = Ctl.brk z) ?_ (fun f hz => ?_)
 ·apply sq
  obtain ⟨c, V, a⟩ := bindE a
  refine rk fun K hK => ?_
  simp
  refine callK (views_same _ _) (.same _ _) [0] (c_spec_l17Rd_pick p0 24 _ V) (by decide) (.cons (locRen_eq (by simp) (by simp) (by simp)) .nil) (.cons (ren_ptr rfl) (.cons (ren_le (by simp) (by simp)) .nil)) (fun ak au U => ?_)
  obtain ⟨rfl, rfl⟩ := U
  refine ⟨by simp, [some ⟨2, [(rGl17Rd c.2)], 0, 0x0066⟩], (eI c.1), (.cons (optRen_same (by simp)) .nil), (ren_free (by simp)), ?_⟩
  simp [setMany, newNames]
  apply hK
  apply TrD.block
  refine sZ ?_
  refine TrD.cond (b := ieq c.1 0) (by simp) (fun l => ?_) (fun l => ?_)
  ·rw [if_pos l] at a
   refine sZ ?_ fun K hK => by simp [l]; exact hK
   refine TrD.cond (b := ilt 0 (lenZ p1.length)) (by simp) (fun m => ?_) (fun m => ?_)
   ·rw [if_pos m] at a
    obtain ⟨A, W, a⟩ := bindE a
    obtain ⟨B, X, a⟩ := bindE a
    obtain ⟨s, Y, a⟩ := bindE a
    obtain ⟨av, w, a⟩ := bindE a
    obtain ⟨C, x, a⟩ := bindE a
    refine rk fun K hK => ?_
    simp [m]
    refine callK (.cons (.same _ _) (.cons (.sl _ _ _ _ _ (by simp; rfl) rfl (by simp) (by simp)) (.nil _))) (.same _ _) [0] (c_spec_l17Rd_num c.2 [1, 2, 3, (-1)] _ W) (by decide) (.cons (locRen_eq (by simp) (by simp) (by simp)) .nil) (.cons (ren_ptr rfl) (.cons (ren_le (by simp) (by simp)) .nil)) (fun af an O => ?_)
    obtain ⟨rfl, rfl⟩ := O
    refine ⟨by simp, [some ⟨2, [(rGl17Rd A.2)], 0, 0x0066⟩], (eI A.1), (.cons (optRen_same (by simp)) .nil), (ren_free (by simp)), ?_⟩
    simp [setMany, newNames]
    refine callK (.cons (.same _ _) (.cons (.sl _ _ _ _ _ (by simp; rfl) rfl (by simp) (by simp)) (.nil _))) (.same _ _) [0] (c_spec_l17Rd_num A.2 [0, 5, 9] _ X) (by decide) (.cons (locRen_eq (by simp) (by simp) (by simp)) .nil) (.cons (ren_ptr rfl) (.cons (ren_le (by simp) (by simp)) .nil)) (fun ag ao P => ?_)
    obtain ⟨rfl, rfl⟩ := P
    refine ⟨by simp, [some ⟨2, [(rGl17Rd B.2)], 0, 0x0066⟩], (eI B.1), (.cons (optRen_same (by simp)) .nil), (ren_free (by simp)), ?_⟩
    simp [setMany, newNames]
    refine callK (.cons (.same _ _) (.cons (.sl _ _ _ _ _ (by simp; rfl) rfl (by simp) (by simp)) (.nil _))) (.same _ _) [0] (c_spec_l17Rd_num B.2 [3, 10, (-1)] _ Y) (by decide) (.cons (locRen_eq (by simp) (by simp) (by simp)) .nil) (.cons (ren_ptr rfl) (.cons (ren_le (by simp) (by simp)) .nil)) (fun ah ap Q => ?_)
    obtain ⟨rfl, rfl⟩ := Q
    refine ⟨by simp, [some ⟨2, [(rGl17Rd s.2)], 0, 0x0066⟩], (eI s.1), (.cons (optRen_same (by simp)) .nil), (ren_free (by simp)), ?_⟩
    simp [setMany, newNames, idx_inb w, idx_ltN 0 w, elt (idx_getN 0 w)]
    apply hK
    cases a
    refine ToAny.mk (s.2, C) rfl ?_
    rw [g]
    exact gc [0, 25] hβ (va.s 25 (by simp [(setI_some x).1])) ((ln.f (by simp [(setI_some x).1])).f)
   rw [iN m] at a
   apply TrD.skip
   cases a
   refine ToAny.mk (c.2, p1) rfl ?_
   rw [g]
   exact gC [0, 25]
  rw [iN l] at a
  refine sZ ?_ fun K hK => by simp [l]; exact hK
  refine TrD.cond (b := ieq c.1 1) (by simp) (fun o => ?_) (fun o => ?_)
  ·rw [if_pos o] at a
   refine sZ ?_ fun K hK => by simp [o]; exact hK
   refine TrD.cond (b := ilt 0 (lenZ p1.length)) (by simp) (fun p => ?_) (fun p => ?_)
   ·rw [if_pos p] at a
    obtain ⟨ae, k, a⟩ := bindE a
    obtain ⟨t, Z, a⟩ := bindE a
    obtain ⟨u, aa, a⟩ := bindE a
    obtain ⟨D, y, a⟩ := bindE a
    refine rk fun K hK => ?_
    simp [p, idx_inb k, idx_ltN 0 k, elt (idx_getN 0 k)]
    refine callK (views_same _ _) (.same _ _) [0] (c_spec_l3Mutate c.2 ae.pat _ Z) (by decide) (.cons (locRen_eq (by simp) (by simp) (by simp)) .nil) (.cons (ren_ptr rfl) (.cons (ren_le (by simp) (by simp)) .nil)) (fun ai aq R => ?_)
    obtain ⟨rfl, rfl⟩ := R
    refine ⟨by simp, [some ⟨2, [(rGl17Rd t.2)], 0, 0x0066⟩], (.agg (rGPattern t.1)), (.cons (optRen_same (by simp)) .nil), (ren_free (by simp)), ?_⟩
    simp [setMany, newNames]
    refine callK (views_same _ _) (.same _ _) [0] (c_spec_l3Mutate t.2 t.1 _ aa) (by decide) (.cons (locRen_eq (by simp) (by simp) (by simp)) .nil) (.cons (ren_ptr rfl) (.cons (ren_le (by simp) (by simp)) .nil)) (fun aj ar T => ?_)
    obtain ⟨rfl, rfl⟩ := T
    refine ⟨by simp, [some ⟨2, [(rGl17Rd u.2)], 0, 0x0066⟩], (.agg (rGPattern u.1)), (.cons (optRen_same (by simp)) .nil), (ren_free (by simp)), ?_⟩
    simp [setMany, newNames, idx_inb k, idx_ltN 0 k, elt (idx_getN 0 k)]
    apply hK
    cases a
    refine ToAny.mk (u.2, D) rfl ?_
    rw [g]
    exact gc [0, 25] hβ (va.s 25 (by simp [(setI_some y).1])) ((ln.f (by simp [(setI_some y).1])).f)
   rw [iN p] at a
   apply TrD.skip
   cases a
   refine ToAny.mk (c.2, p1) rfl ?_
   rw [g]
   exact gC [0, 25]
  rw [iN o] at a
  refine sZ ?_ fun K hK => by simp [o]; exact hK
  refine TrD.cond (b := ieq c.1 2) (by simp) (fun q => ?_) (fun q => ?_)
  ·rw [if_pos q] at a
   obtain ⟨ad, M, a⟩ := bindE a
   obtain ⟨G, E⟩ : ∃ S : (List GClause) → St, S = fun i => ⟨(updD (fun _ => .any) 5 (.sl 9 1 (i).length)), hOfO [some ⟨2, [(rGl17Rd c.2)], 0, 0x0066⟩, some ⟨9, (List.map rGClause i), 0, 0x0026⟩], 2, 56⟩ := ⟨_, rfl⟩
   refine TrD.joinQ G (fun z => ad = Ctl.brk z) (fun _ _ hg h => ToAny.ghost hg h) ?_ (fun i hz => ?_)
   ·apply TrD.block
    obtain ⟨J, v⟩ : ∃ S : (List GClause) → St, S = fun e => ⟨(updD (fun _ => .any) 5 (.sl 9 1 (e).length)), hOfO [some ⟨2, [(rGl17Rd c.2)], 0, 0x0066⟩, some ⟨9, (List.map rGClause e), 0, 0x0026⟩], 2, 56⟩ := ⟨_, rfl⟩
    refine TrD.whileL J M ?_ (fun e am j al N => ?_)
    ·rw [v]
     exact gC [0, 25]
    rw [congrFun v e]
    apply sq
    refine sZ ?_
    refine TrD.cond (b := ile (lenZ e.length) 8) (by simp) (fun r => ?_) (fun r => ?_)
    ·rw [if_pos r] at j
     apply TrD.skip
     apply TrD.block
     obtain ⟨aw, ab, j⟩ := bindE j
     have F := (app_some ab).2
     try simp only [List.length_cons, List.length_nil, Nat.zero_add] at F
     refine rZ ?_ fun K hK => by simp [r, F]; exact hK
     cases j
     refine ToAny.mk (e ++ [(GClause.mk (GPattern.mk 1 0 0 0 0 []) (GGuard.mk 0 0 0))]) rfl ?_
     rw [v]
     exact Ghost.canonV 1 [0, 58] _ _ hβ (keep_first (by decide)) (by decide) (vT_upd (v_of (d0 := (.sl 9 58 ((e ++ [(GClause.mk (GPattern.mk 1 0 0 0 0 []) (GGuard.mk 0 0 0))])).length)) (by simp) (v_sl rfl)) (vT_any _)) (.cons (lv (L := ⟨2, [(rGl17Rd c.2)], 0, 0x0066⟩) (by simp) rfl rfl (by simp) (rv_free (by simp) (by simp))) (.cons (lv (L := ⟨9, ((List.map rGClause e) ++ [[(eI 1), (eI 0), (eI 0), (eI 0), (eI 0), .nil, (eI 0), (eI 0), (eI 0)]]), 0, 0x0026⟩) (by simp) rfl rfl (by simp) (rv_snocr (by simp) (rGClause_eq _) (.cons (v_free (by simp) (by simp)) (.cons (v_free (by simp) (by simp)) (.cons (v_free (by simp) (by simp)) (.cons (v_free (by simp) (by simp)) (.cons (v_free (by simp) (by simp)) (.cons (v_free (by simp) (by simp)) (.cons (v_free (by simp) (by simp)) (.cons (v_free (by simp) (by simp)) (.cons (v_free (by simp) (by simp)) .nil))))))))))) .nil))
    rw [iN r] at j
    refine TrD.exit ?_
    try simp only [↓reduceIte, Nat.reduceEqDiff, Nat.zero_ne_one, Nat.one_ne_zero, OfNat.ofNat_ne_zero, OfNat.zero_ne_ofNat, OfNat.one_ne_ofNat, OfNat.ofNat_ne_one]
    cases j
    obtain rfl := N _ rfl
    refine ToAny.mk e rfl ?_
    rw [E]
    exact gC [0, 1]
   subst hz
   try dsimp only at a
   rw [congrFun E i]
   cases a
   refine ToAny.mk (c.2, i) rfl ?_
   rw [g]
   exact gC [0, 1]
  rw [iN q] at a
  apply TrD.skip
  cases a
  refine ToAny.mk (c.2, p1) rfl ?_
  rw [g]
  exact gC [0, 25]
 subst hz
 try dsimp only at h
 rw [congrFun g f]
 refine sZ ?_
 cases h
 apply TrD.ret
 refine exitHG (σ' := ⟨(updD (fun _ => .any) 4 (.slice 9 (List.map rGClause f.2))), hOfO [some ⟨2, [(rGl17Rd f.1)], 0, 0x0066⟩], 1, 56⟩) ?_ ?_
 ·refine (Ghost.raise 1 (by simp; rfl)).trans ?_
  exact gC [0] (ht := (va.u (d0 := (.sl 9 1 (f.2).length)) (by simp) (v_frz (by simp; rfl) rfl (by simp) (by simp) (rv_free (by simp) (by simp)))))
 dsimp only [resD]
 exact eA
set_option maxRecDepth 100000 in
theorem c_spec_DrawMissingPatterns (n : Nat) (p0 : (List Int)) (res : (List GData) × GType × (List GClause)) (h : m_spec_DrawMissingPatterns n p0 = some res) : CallsD Tryz.prog 0o00015 [(.slice 1 (List.map (rK .u8) p0))] (fun d => d = .tup [(.slice 2 (List.map rGData res.1)), (.agg (rGType res.2.1)), (.slice 9 (List.map rGClause res.2.2))]) := by
 unfold m_spec_DrawMissingPatterns at h
 refine CD Tryz.func13 [.tmp 2, .cell 3 25, .tmp 4] fun β hβ => ?_
 refine sZ ?_
 apply sq
 obtain ⟨r1, hr1, h⟩ := bindE h
 refine rk fun K hK => ?_
 simp
 refine callK (views_same _ _) (.same _ _) [] (c_spec_l17Open p0 _ hr1) (by decide) .nil (.cons (ren_le (by simp) (by simp)) .nil) (fun E J u => ?_)
 obtain ⟨rfl, rfl⟩ := u
 refine ⟨by simp, [some ⟨2, [(rGl17Rd r1)], 0, 0x0066⟩], (.ptr 2 33 0 0), (.cons (optRen_same (by simp)) .nil), (ren_ptr (by rfl)), ?_⟩
 simp [setMany, newNames]
 apply hK
 apply sq
 obtain ⟨r2, hr2, h⟩ := bindE h
 refine rk fun K hK => ?_
 simp
 refine callK (views_same _ _) (.same _ _) [33] (c_spec_l4Typed n r1 _ hr2) (by decide) (.cons (locRen_eq (by simp) (by simp) (by simp)) .nil) (.cons (ren_ptr rfl) .nil) (fun D I t => ?_)
 obtain ⟨rfl, rfl⟩ := t
 refine ⟨by simp, [some ⟨2, [(rGl17Rd r2.2.2.2.2)], 0, 0x0066⟩, some ⟨9, (List.map rGClause r2.2.2.1), 0, 0x0026⟩], (.tup [(.slice 2 (List.map rGData r2.1)), (.agg (rGType r2.2.1)), (.sl 9 57 (r2.2.2.1).length), (.agg (rGValue r2.2.2.2.1))]), (.cons (optRen_same (by simp)) (.cons (optRen_same (by simp)) .nil)), (ren_tup (.cons (ren_free (by simp)) (.cons (ren_free (by simp)) (.cons (ren_sl (by rfl)) (.cons (ren_free (by simp)) .nil))))), ?_⟩
 simp [setMany, newNames]
 apply hK
 obtain ⟨A, a, h⟩ := bindE h
 obtain ⟨p, i⟩ : ∃ S : Gl17Rd × (List GClause) → St, S = fun c => ⟨(updD (updD (updD (updD (updD (fun _ => .any) 3 (.ptr 2 0 0 0)) 5 (.ptr 2 1 0 0)) 6 (.slice 2 (List.map rGData r2.1))) 7 (.ptr 2 2 0 0)) 8 (.sl 9 3 (c.2).length)), hOfO [some ⟨2, [[(eI 0), (eI 0)]], 0, 0x0019⟩, some ⟨2, [(rGl17Rd c.1)], 0, 0x0066⟩, some ⟨2, [(rGType r2.2.1)], 0, 0x0019⟩, some ⟨9, (List.map rGClause c.2), 0, 0x0026⟩], 4, 37⟩ := ⟨_, rfl⟩
 refine TrD.join p (fun z => A = Ctl.brk z) ?_ (fun c hz => ?_)
 ·apply sq
  rcases bb (ilt 0 (lenZ r2.2.2.1.length)) with g | g
  ·rw [if_pos g] at a
   obtain ⟨f, v, a⟩ := bindE a
   refine rk fun K hK => ?_
   simp [g]
   refine callK (views_same _ _) (.same _ _) [33] (c_spec_l17Rd_pick r2.2.2.2.2 4 _ v) (by decide) (.cons (locRen_eq (by simp) (by simp) (by simp)) .nil) (.cons (ren_ptr rfl) (.cons (ren_le (by simp) (by simp)) .nil)) (fun B G r => ?_)
   obtain ⟨rfl, rfl⟩ := r
   refine ⟨by simp, [some ⟨2, [(rGl17Rd f.2)], 0, 0x0066⟩], (eI f.1), (.cons (optRen_same (by simp)) .nil), (ren_free (by simp)), ?_⟩
   simp [setMany, newNames]
   apply hK
   refine TrD.cond (b := ieq f.1 0) (by simp) (fun e => ?_) (fun e => ?_)
   ·rw [if_pos e] at a
    obtain ⟨N, w, a⟩ := bindE a
    obtain ⟨m, j, a⟩ := bindE a
    have o := (app_some j).2
    try simp only [List.length_cons, List.length_nil, Nat.zero_add] at o
    refine rk fun K hK => ?_
    simp [e]
    refine cp (c_spec_l5Any _ w) ?_
    simp [o]
    apply hK
    cases a
    refine ToAny.mk (f.2, m) rfl ?_
    rw [i]
    exact gc [8, 33, 104, 248] hβ (((((va.p 8).p 33).f).p 104).s 248 (by simp [(app_some j).1])) ((((ln.f (by simp [(app_some j).1])).f).f).f)
   rw [iN e] at a
   apply TrD.skip
   cases a
   refine ToAny.mk (f.2, r2.2.2.1) rfl ?_
   rw [i]
   exact gC [8, 33, 104, 57]
  rw [iN g] at a
  refine rZ ?_ fun K hK => by simp [g]; exact hK
  refine cF ?_
  apply TrD.skip
  cases a
  refine ToAny.mk (r2.2.2.2.2, r2.2.2.1) rfl ?_
  rw [i]
  exact gC [8, 33, 104, 57]
 subst hz
 try dsimp only at h
 rw [congrFun i c]
 apply sq
 refine TrD.ghost (σ' := ⟨(updD (updD (updD (updD (updD (fun _ => .any) 3 (.ptr 2 0 0 0)) 5 (.ptr 2 1 0 0)) 6 (.slice 2 (List.map rGData r2.1))) 7 (.ptr 2 2 0 0)) 8 (.sl 9 3 (c.2).length)), hOfO [some ⟨2, [[(eI 0), (eI 0)]], 0, 0x0019⟩, some ⟨2, [(rGl17Rd c.1)], 0, 0x0066⟩, some ⟨2, [(rGType r2.2.1)], 0, 0x0019⟩, some ⟨9, (List.map rGClause c.2), 0, 0x0026⟩], 4, 37⟩) ?_ ?_
 ·exact gC [0, 1, 2, 3]
 obtain ⟨l, y, h⟩ := bindE h
 refine TrD.draw tysOk mixed [0, 1, 2, 3, 4, 5, 6, 7] [2] [] (by rfl) rfl (fun K hK => ?_)
 simp
 refine callK (.cons (.same _ _) (.cons (.sl _ _ _ _ _ (by simp; rfl) rfl (by simp []) (by simp)) (.nil _))) (.same _ _) [1] (c_spec_l4Mutate n c.1 c.2 _ y) (by decide) (.cons (locRen_eq (by simp) (by simp) (by simp)) .nil) (.cons (ren_ptr rfl) (.cons (ren_le (by simp) (by simp)) .nil)) (fun C H s => ?_)
 obtain ⟨rfl, rfl⟩ := s
 refine ⟨by simp, [some ⟨2, [(rGl17Rd l.2)], 0, 0x0066⟩], (.slice 9 (List.map rGClause l.1)), (.cons (optRen_same (by simp)) .nil), (ren_free (by simp)), ?_⟩
 simp [setMany, newNames]
 apply hK
 cases h
 apply TrD.ret
 exact xD
set_option maxRecDepth 100000 in
theorem c_spec_DrawClosedClauses (n : Nat) (p0 : (List Int)) (res : (List GData) × GType × (List GClause)) (h : m_spec_DrawClosedClauses n p0 = some res) : CallsD Tryz.prog 0o00004 [(.slice 1 (List.map (rK .u8) p0))] (fun d => d = .tup [(.slice 2 (List.map rGData res.1)), (.agg (rGType res.2.1)), (.slice 9 (List.map rGClause res.2.2))]) := by
 unfold m_spec_DrawClosedClauses at h
 refine CD Tryz.func4 [.tmp 2, .cell 3 25, .tmp 4] fun β hβ => ?_
 refine sZ ?_
 apply sq
 obtain ⟨r1, hr1, h⟩ := bindE h
 refine rk fun K hK => ?_
 simp
 refine cp (c_spec_DrawMissingPatterns n p0 _ hr1) ?_
 simp
 apply hK
 cases h
 apply TrD.ret
 exact xD
set_option maxRecDepth 100000 in
theorem c_slices_IndexFunc_VarType (p0 : (List GVarType)) (p1_f : FuncId) (p1_c : List D) (p1_x : ∀ d ∈ p1_c, Free d) (p1 : (GVarType → Option Bool)) (p1_h : ∀ a0 r, p1 a0 = some r → CallsD Tryz.prog p1_f ([(.agg (rGVarType a0))] ++ p1_c) (fun d => d = (eB r))) (res : Int) (h : m_slices_IndexFunc_VarType p0 p1 = some res) : CallsD Tryz.prog 0o00223 [(.slice 3 (List.map rGVarType p0)), .clos p1_f p1_c] (fun d => d = (eI res)) := by
 unfold m_slices_IndexFunc_VarType at h
 have p1_y : Free (.clos p1_f p1_c) := free_clos p1_x
 have p1_z := eq_true p1_x
 refine CD Tryz.func147 [.tmp 4] fun β hβ => ?_
 refine sZ ?_
 apply sq
 refine sZ ?_
 obtain ⟨v, p, h⟩ := bindE h
 obtain ⟨n, j⟩ : ∃ S : Unit → St, S = fun m => ⟨(fun _ => .any), hOfO [], 0, 19⟩ := ⟨_, rfl⟩
 refine TrD.joinQ n (fun z => v = Ctl.brk z) (fun _ _ hg h => TrD.ghost hg h) ?_ (fun m hz => ?_)
 ·apply TrD.block
  obtain ⟨o, i⟩ : ∃ S : Nat → Unit → St, S = fun c g => ⟨(updD (updD (updD (updD (fun _ => .any) 0 (.slice 3 (List.map rGVarType p0))) 1 (.clos p1_f p1_c)) 7 (eI (lenZ p0.length))) 8 (eI (c : Int))), hOfO [], 0, 19⟩ := ⟨_, rfl⟩
  refine TrD.limS (sz := 3) (rows := List.map rGVarType p0) (seen_slot (d := .slice 3 (List.map rGVarType p0)) 0 (by simp)) (fun hlim => ?_)
  rw [List.length_map] at hlim
  refine TrD.forL o p hlim ?_ (fun c A g l C E u f F a t B => ?_) (fun g y => ?_)
  ·rw [i]
   exact gc [] hβ (((va.f.f (by simp) (by simp [p1_y])).f).f) ln
  ·rw [congrFun (congrFun i c) g]
   refine sZ ?_ fun K hK => by simp [u]; exact hK
   apply sq
   refine cT ?_
   apply TrD.skip
   apply sq
   apply TrD.block
   refine sZ ?_
   apply sq
   obtain ⟨w, s, a⟩ := bindE a
   refine rk fun K hK => ?_
   simp [idx_inb l, idx_row l]
   refine cp (p1_h A _ s) ?_ (by simp) (by simp [p1_z])
   simp
   apply hK
   refine TrD.cond (b := w) (by simp) (fun e => ?_) (fun e => ?_)
   ·rw [if_pos e] at a
    refine sZ ?_ fun K hK => by simp [e]; exact hK
    cases a
    obtain rfl := t _ rfl
    cases h
    apply TrD.ret
    exact xD
   rw [iN e] at a
   apply TrD.skip
   refine rZ ?_ fun K hK => by simp [e]; exact hK
   cases a
   refine ToAny.mk () rfl ?_
   rw [i]
   exact gc [] hβ ((((va.f (by simp [f])).f (by simp [f]) (by simp [p1_y])).f (by simp [f])).f (by simp [f])) ln
  rw [congrFun (congrFun i _) g]
  refine sZ ?_ fun K hK => by simp [ilt_len p0.length]; exact hK
  apply sq
  refine cF ?_
  refine TrD.exit ?_
  try simp only [↓reduceIte, Nat.reduceEqDiff, Nat.zero_ne_one, Nat.one_ne_zero, OfNat.ofNat_ne_zero, OfNat.zero_ne_ofNat, OfNat.one_ne_ofNat, OfNat.ofNat_ne_one]
  refine ToAny.mk g y ?_
  rw [j]
  exact gC []
 subst hz
 try dsimp only at h
 rw [congrFun j m]
 refine sZ ?_
 cases h
 apply TrD.ret
 exact xD
set_option maxRecDepth 100000 in
theorem c_slices_ContainsFunc_VarType (p0 : (List GVarType)) (p1_f : FuncId) (p1_c : List D) (p1_x : ∀ d ∈ p1_c, Free d) (p1 : (GVarType → Option Bool)) (p1_h : ∀ a0 r, p1 a0 = some r → CallsD Tryz.prog p1_f ([(.agg (rGVarType a0))] ++ p1_c) (fun d => d = (eB r))) (res : Bool) (h : m_slices_ContainsFunc_VarType p0 p1 = some res) : CallsD Tryz.prog 0o00201 [(.slice 3 (List.map rGVarType p0)), .clos p1_f p1_c] (fun d => d = (eB res)) := by
 unfold m_slices_ContainsFunc_VarType at h
 have p1_y : Free (.clos p1_f p1_c) := free_clos p1_x
 have p1_z := eq_true p1_x
 refine CD Tryz.func129 [.tmp 4] fun β hβ => ?_
 refine sZ ?_
 apply sq
 obtain ⟨r1, hr1, h⟩ := bindE h
 refine rk fun K hK => ?_
 simp
 refine cp (c_slices_IndexFunc_VarType p0 p1_f p1_c p1_x p1 p1_h _ hr1) ?_ (by simp) (by simp [p1_y])
 simp
 apply hK
 cases h
 apply TrD.ret
 exact xD
set_option maxRecDepth 100000 in
theorem c_slices_Index_VarType (p0 : (List GVarType)) (p1 : GVarType) (res : Int) (h : m_slices_Index_VarType p0 p1 = some res) : CallsD Tryz.prog 0o00157 [(.slice 3 (List.map rGVarType p0)), (.agg (rGVarType p1))] (fun d => d = (eI res)) := by
 unfold m_slices_Index_VarType at h
 refine CD Tryz.func111 [.tmp 4] fun β hβ => ?_
 refine sZ ?_
 apply sq
 refine sZ ?_
 obtain ⟨t, q, h⟩ := bindE h
 obtain ⟨o, l⟩ : ∃ S : Unit → St, S = fun n => ⟨(fun _ => .any), hOfO [], 0, 19⟩ := ⟨_, rfl⟩
 refine TrD.joinQ o (fun z => t = Ctl.brk z) (fun _ _ hg h => TrD.ghost hg h) ?_ (fun n hz => ?_)
 ·apply TrD.block
  obtain ⟨p, i⟩ : ∃ S : Nat → Unit → St, S = fun a f => ⟨(updD (updD (updD (updD (fun _ => .any) 0 (.slice 3 (List.map rGVarType p0))) 3 (.ptr 3 0 0 0)) 7 (eI (lenZ p0.length))) 8 (eI (a : Int))), hOfO [some ⟨3, [(rGVarType p1)], 0, 0x0076⟩], 1, 19⟩ := ⟨_, rfl⟩
  refine TrD.limS (sz := 3) (rows := List.map rGVarType p0) (seen_slot (d := .slice 3 (List.map rGVarType p0)) 0 (by simp)) (fun hlim => ?_)
  rw [List.length_map] at hlim
  refine TrD.forL p q hlim ?_ (fun a j f m w y s e A g r v => ?_) (fun f u => ?_)
  ·rw [i]
   exact gC [0]
  ·rw [congrFun (congrFun i a) f]
   refine sZ ?_ fun K hK => by simp [s]; exact hK
   apply sq
   refine cT ?_
   apply TrD.skip
   apply sq
   apply TrD.block
   refine sZ ?_
   apply sq
   refine TrD.ghost (σ' := ⟨(updD (updD (updD (updD (updD (fun _ => .any) 0 (.slice 3 (List.map rGVarType p0))) 3 (.ptr 3 0 0 0)) 5 (eI (a : Int))) 7 (eI (lenZ p0.length))) 8 (eI (a : Int))), hOfO [some ⟨3, [(rGVarType p1)], 0, 0x0076⟩], 1, 19⟩) ?_ ?_
   ·exact gC [0]
   refine TrD.draw tysOk mixed [0, 1, 2, 3, 4, 5] [0] [] (by rfl) rfl (fun K hK => ?_)
   simp [idx_inb m, idx_row m]
   apply hK
   refine TrD.cond (b := eqAll [ieq p1.var j.var, ieq p1.typ.data j.typ.data, ieq p1.typ.index j.typ.index]) (by simp) (fun c => ?_) (fun c => ?_)
   ·rw [if_pos c] at g
    refine sZ ?_ fun K hK => by simp [c]; exact hK
    cases g
    obtain rfl := r _ rfl
    cases h
    apply TrD.ret
    exact xD
   rw [iN c] at g
   apply TrD.skip
   refine rZ ?_ fun K hK => by simp [c]; exact hK
   cases g
   refine ToAny.mk () rfl ?_
   rw [i]
   exact gc [0] hβ ((((va.f (by simp [e])).p 0 (by simp [e])).f (by simp [e])).f (by simp [e])) ln.f
  rw [congrFun (congrFun i _) f]
  refine sZ ?_ fun K hK => by simp [ilt_len p0.length]; exact hK
  apply sq
  refine cF ?_
  refine TrD.exit ?_
  try simp only [↓reduceIte, Nat.reduceEqDiff, Nat.zero_ne_one, Nat.one_ne_zero, OfNat.ofNat_ne_zero, OfNat.zero_ne_ofNat, OfNat.one_ne_ofNat, OfNat.ofNat_ne_one]
  refine ToAny.mk f u ?_
  rw [l]
  exact gC []
 subst hz
 try dsimp only at h
 rw [congrFun l n]
 refine sZ ?_
 cases h
 apply TrD.ret
 exact xD
set_option maxRecDepth 100000 in
theorem c_slices_Contains_VarType (p0 : (List GVarType)) (p1 : GVarType) (res : Bool) (h : m_slices_Contains_VarType p0 p1 = some res) : CallsD Tryz.prog 0o00115 [(.slice 3 (List.map rGVarType p0)), (.agg (rGVarType p1))] (fun d => d = (eB res)) := by
 unfold m_slices_Contains_VarType at h
 refine CD Tryz.func77 [.tmp 4] fun β hβ => ?_
 refine sZ ?_
 apply sq
 obtain ⟨r1, hr1, h⟩ := bindE h
 refine rk fun K hK => ?_
 simp
 refine cp (c_slices_Index_VarType p0 p1 _ hr1) ?_
 simp
 apply hK
 cases h
 apply TrD.ret
 exact xD
set_option maxRecDepth 100000 in
theorem c_impl_sameVars_1 (p0 : GVarType) (q0 : (List GVarType)) (res : Bool) (h : m_impl_sameVars_1 p0 q0 = some res) : CallsD Tryz.prog 0o00202 [(.agg (rGVarType p0)), .cptr [(.slice 3 (List.map rGVarType q0))]] (fun d => d = (eB res)) := by
 unfold m_impl_sameVars_1 at h
 refine CD Tryz.func130 [.tmp 3] fun β hβ => ?_
 refine sZ ?_
 apply sq
 obtain ⟨r1, hr1, h⟩ := bindE h
 refine rk fun K hK => ?_
 simp
 refine cp (c_slices_Contains_VarType q0 p0 _ hr1) ?_
 simp
 apply hK
 cases h
 apply TrD.ret
 exact xD
set_option maxRecDepth 100000 in
theorem c_impl_sameVars (p0 : (List GVarType)) (p1 : (List GVarType)) (res : Bool) (h : m_impl_sameVars p0 p1 = some res) : CallsD Tryz.prog 0o00156 [(.slice 3 (List.map rGVarType p0)), (.slice 3 (List.map rGVarType p1))] (fun d => d = (eB res)) := by
 unfold m_impl_sameVars at h
 refine CD Tryz.func110 [.tmp 4] fun β hβ => ?_
 refine sZ ?_
 apply sq
 rcases bb (ieq (lenZ p0.length) (lenZ p1.length)) with hb4 | hb4
 ·rw [if_pos hb4] at h
  obtain ⟨r5, hr5, h⟩ := bindE h
  refine rk fun K hK => ?_
  simp [hb4]
  refine callB (.cons (.same _ _) (.cons (.clos _ _ _ _ 0 _ _ rfl (.ptr _ _ _ _ _ _ _ (by simp; rfl) rfl rfl (by simp))) (.nil _))) (c_slices_ContainsFunc_VarType p0 _ [.cptr [(.slice 3 (List.map rGVarType p1))]] (by simp) (fun a0 => m_impl_sameVars_1 a0 p1) (fun a0 r hr => c_impl_sameVars_1 a0 p1 r hr) _ hr5) (by simp) (by simp) (fun q6 hq6 => ?_)
  subst hq6
  refine ⟨by simp, ?_⟩
  simp [hb4]
  apply hK
  cases h
  apply TrD.ret
  exact xD
 rw [iN hb4] at h
 refine rZ ?_ fun K hK => by simp [hb4]; exact hK
 cases h
 apply TrD.ret
 exact xD
theorem c_impl_ctorsOf (p0 : (List GData)) (p1 : GType) (res : (List Int)) (h : m_impl_ctorsOf p0 p1 = some res) : CallsD Tryz.prog 0o00065 [(.slice 2 (List.map rGData p0)), (.agg (rGType p1))] (fun d => d = (.slice 1 (List.map rI res))) := by
 unfold m_impl_ctorsOf at h
 refine CD Tryz.func53 [.tmp 4] fun β hβ => ?_
 refine sZ ?_
 refine sZ ?_
 obtain ⟨V, f, h⟩ := bindE h
 obtain ⟨P, A⟩ : ∃ S : (List Int) → St, S = fun p => ⟨(updD (fun _ => .any) 5 (.sl 1 0 (p).length)), hOfO [some ⟨1, (List.map rI p), 0, 0x0003⟩], 1, 44⟩ := ⟨_, rfl⟩
 refine TrD.join P (fun z => V = Ctl.brk z) ?_ (fun p hz => ?_)
 ·refine sZ ?_
  refine TrD.cond (b := !ieq p1.data (-1)) (by simp) (fun m => ?_) (fun m => ?_)
  ·rw [if_pos m] at f
   apply sq
   obtain ⟨a, F, f⟩ := bindE f
   refine rZ ?_ fun K hK => by simp [m, idx_inb F, idx_row F]; exact hK
   obtain ⟨W, T, f⟩ := bindE f
   obtain ⟨O, E⟩ : ∃ S : (List Int) → St, S = fun j => ⟨(updD (fun _ => .any) 5 (.sl 1 0 (j).length)), hOfO [some ⟨1, (List.map rI j), 0, 0x0003⟩], 1, 44⟩ := ⟨_, rfl⟩
   refine TrD.joinQ O (fun z => W = Ctl.brk z) (fun _ _ hg h => ToAny.ghost hg h) ?_ (fun j hz => ?_)
   ·apply TrD.block
    obtain ⟨Q, u⟩ : ∃ S : Nat → (List Int) → St, S = fun i e => ⟨(updD (updD (updD (updD (updD (fun _ => .any) 3 (.ptr 2 0 0 0)) 5 (.sl 1 1 (e).length)) 16 (.slice 3 (List.map rGCtor a.ctors))) 17 (eI (lenZ a.ctors.length))) 18 (eI (i : Int))), hOfO [some ⟨2, [(rGType p1)], 0, 0x0019⟩, some ⟨1, (List.map rI e), 0, 0x0003⟩], 2, 44⟩ := ⟨_, rfl⟩
    refine TrD.limS (sz := 3) (rows := List.map rGCtor a.ctors) (seen_slot (d := .slice 3 (List.map rGCtor a.ctors)) 16 (by simp)) (fun hlim => ?_)
    rw [List.length_map] at hlim
    refine TrD.forL Q T hlim ?_ (fun i N e J ab ac U o ad t aa Z => ?_) (fun e Y => ?_)
    ·rw [u]
     refine (Ghost.ownNil (s := 5) (by simp) 1 0x0003).trans ?_
     exact gC [0, 112]
    ·rw [congrFun (congrFun u i) e]
     refine sZ ?_ fun K hK => by simp [U]; exact hK
     apply sq
     refine cT ?_
     apply TrD.skip
     obtain ⟨X, c, t⟩ := bindE t
     obtain ⟨R, q⟩ : ∃ S : (List Int) → St, S = fun l => ⟨(updD (updD (updD (updD (updD (fun _ => .any) 3 (.ptr 2 0 0 0)) 5 (.sl 1 1 (l).length)) 16 (.slice 3 (List.map rGCtor a.ctors))) 17 (eI (lenZ a.ctors.length))) 18 (eI (i : Int))), hOfO [some ⟨2, [(rGType p1)], 0, 0x0019⟩, some ⟨1, (List.map rI l), 0, 0x0003⟩], 2, 44⟩ := ⟨_, rfl⟩
     refine TrD.join R (fun z => X = Ctl.brk z) ?_ (fun l hz => ?_)
     ·apply TrD.block
      refine sZ ?_ fun K hK => by simp [idx_inb J, idx_row J]; exact hK
      apply sq
      rcases bb (ieq p1.index 0) with n | n
      ·rw [if_pos n] at c
       refine rZ ?_ fun K hK => by simp [n]; exact hK
       refine cT ?_
       obtain ⟨B, v, c⟩ := bindE c
       have G := (app_some v).2
       try simp only [List.length_cons, List.length_nil, Nat.zero_add] at G
       refine rZ ?_ fun K hK => by simp [G]; exact hK
       cases c
       refine ToAny.mk B rfl ?_
       rw [q]
       exact gc [0, 138] hβ (((((va.p 0).s 138 (by simp [(app_some v).1])).f).f).f) ((ln.f (by simp [(app_some v).1])).f)
      rw [iN n] at c
      rcases bb (ieq N.index 0) with r | r
      ·rw [if_pos r] at c
       refine rZ ?_ fun K hK => by simp [n, r]; exact hK
       refine cT ?_
       obtain ⟨C, w, c⟩ := bindE c
       have H := (app_some w).2
       try simp only [List.length_cons, List.length_nil, Nat.zero_add] at H
       refine rZ ?_ fun K hK => by simp [H]; exact hK
       cases c
       refine ToAny.mk C rfl ?_
       rw [q]
       exact gc [0, 162] hβ (((((va.p 0).s 162 (by simp [(app_some w).1])).f).f).f) ((ln.f (by simp [(app_some w).1])).f)
      rw [iN r] at c
      refine rZ ?_ fun K hK => by simp [n, r]; exact hK
      refine TrD.cond (b := ieq N.index p1.index) (by simp) (fun g => ?_) (fun g => ?_)
      ·rw [if_pos g] at c
       obtain ⟨D, y, c⟩ := bindE c
       have I := (app_some y).2
       try simp only [List.length_cons, List.length_nil, Nat.zero_add] at I
       refine rZ ?_ fun K hK => by simp [g, I]; exact hK
       cases c
       refine ToAny.mk D rfl ?_
       rw [q]
       exact gc [0, 202] hβ (((((va.p 0).s 202 (by simp [(app_some y).1])).f).f).f) ((ln.f (by simp [(app_some y).1])).f)
      rw [iN g] at c
      apply TrD.skip
      cases c
      refine ToAny.mk e rfl ?_
      rw [q]
      exact gC [0, 1]
     subst hz
     try dsimp only at t
     rw [congrFun q l]
     refine rZ ?_
     cases t
     refine ToAny.mk l rfl ?_
     rw [u]
     exact gc [0, 1] hβ (((((va.p 0 (by simp [o])).s 1 (by simp [o])).f (by simp [o])).f (by simp [o])).f (by simp [o])) ln.f.f
    rw [congrFun (congrFun u _) e]
    refine sZ ?_ fun K hK => by simp [ilt_len a.ctors.length]; exact hK
    apply sq
    refine cF ?_
    refine TrD.exit ?_
    try simp only [↓reduceIte, Nat.reduceEqDiff, Nat.zero_ne_one, Nat.one_ne_zero, OfNat.ofNat_ne_zero, OfNat.zero_ne_ofNat, OfNat.one_ne_ofNat, OfNat.ofNat_ne_one]
    refine ToAny.mk e Y ?_
    rw [E]
    exact gC [1]
   subst hz
   try dsimp only at f
   rw [congrFun E j]
   cases f
   refine ToAny.mk j rfl ?_
   rw [A]
   exact gC [0]
  rw [iN m] at f
  apply TrD.skip
  cases f
  refine ToAny.mk [] rfl ?_
  rw [A]
  refine (Ghost.ownNil (s := 5) (by simp [m]) 1 0x0003).trans ?_
  exact gC [48]
 subst hz
 try dsimp only at h
 rw [congrFun A p]
 refine sk fun K hK => ?_
 simp
 apply hK
 obtain rfl := Option.some.inj h
 refine TrD.ret ?_
 refine exitDG (σ' := ⟨(updD (fun _ => .any) 4 (.slice 1 (List.map rI p))), hOfO [], 0, 44⟩) ?_ ?_
 ·refine (Ghost.raise 0 (by simp; rfl)).trans ?_
  exact Ghost.canonV 0 [] _ _ hβ (keep_first (by decide)) (by decide) (vT_upd (v_of (d0 := (.sl 1 0 (p).length)) (by simp) (v_frz (by simp; rfl) rfl (by simp) (by simp) (rv_free (by simp) (by simp)))) (vT_any _)) .nil
 dsimp only [resD]
 refine endF ?_ ?_ <;> simp [packD]
theorem c_impl_only (p0 : GPattern) (p1 : Bool) (p2 : Bool) (p3 : Bool) (p4 : Int) (res : Bool) (h : m_impl_only p0 p1 p2 p3 p4 = some res) : CallsD Tryz.prog 0o00165 [(.agg (rGPattern p0)), (eB p1), (eB p2), (eB p3), (eI p4)] (fun d => d = (eB res)) := by
 unfold m_impl_only at h
 refine CD Tryz.func117 [.tmp 10] fun β hβ => ?_
 refine sZ ?_
 apply sq
 rcases bb p1 with a | a
 ·rw [if_pos a] at h
  rcases bb p2 with c | c
  ·rw [if_pos c] at h
   rcases bb p3 with l | l
   ·rw [if_pos l] at h
    refine rZ ?_ fun K hK => by simp [a, c, l]; exact hK
    cases h
    apply TrD.ret
    exact xD
   rw [iN l] at h
   rcases bb (ieq p0.var 0) with r | r
   ·rw [if_pos r] at h
    refine rZ ?_ fun K hK => by simp [a, c, l, r]; exact hK
    cases h
    apply TrD.ret
    exact xD
   rw [iN r] at h
   refine rZ ?_ fun K hK => by simp [a, c, l, r]; exact hK
   cases h
   apply TrD.ret
   exact xD
  rw [iN c] at h
  rcases bb (ieq p0.n 0) with f | f
  ·rw [if_pos f] at h
   rcases bb (ieq p0.m 0) with i | i
   ·rw [if_pos i] at h
    rcases bb p3 with o | o
    ·rw [if_pos o] at h
     refine rZ ?_ fun K hK => by simp [a, c, f, i, o]; exact hK
     cases h
     apply TrD.ret
     exact xD
    rw [iN o] at h
    rcases bb (ieq p0.var 0) with s | s
    ·rw [if_pos s] at h
     refine rZ ?_ fun K hK => by simp [a, c, f, i, o, s]; exact hK
     cases h
     apply TrD.ret
     exact xD
    rw [iN s] at h
    refine rZ ?_ fun K hK => by simp [a, c, f, i, o, s]; exact hK
    cases h
    apply TrD.ret
    exact xD
   rw [iN i] at h
   refine rZ ?_ fun K hK => by simp [a, c, f, i]; exact hK
   cases h
   apply TrD.ret
   exact xD
  rw [iN f] at h
  refine rZ ?_ fun K hK => by simp [a, c, f]; exact hK
  cases h
  apply TrD.ret
  exact xD
 rw [iN a] at h
 rcases bb (ieq p0.ctor 0) with b | b
 ·rw [if_pos b] at h
  rcases bb p2 with e | e
  ·rw [if_pos e] at h
   rcases bb p3 with p | p
   ·rw [if_pos p] at h
    refine rZ ?_ fun K hK => by simp [a, b, e, p]; exact hK
    cases h
    apply TrD.ret
    exact xD
   rw [iN p] at h
   rcases bb (ieq p0.var 0) with t | t
   ·rw [if_pos t] at h
    refine rZ ?_ fun K hK => by simp [a, b, e, p, t]; exact hK
    cases h
    apply TrD.ret
    exact xD
   rw [iN t] at h
   refine rZ ?_ fun K hK => by simp [a, b, e, p, t]; exact hK
   cases h
   apply TrD.ret
   exact xD
  rw [iN e] at h
  rcases bb (ieq p0.n 0) with g | g
  ·rw [if_pos g] at h
   rcases bb (ieq p0.m 0) with j | j
   ·rw [if_pos j] at h
    rcases bb p3 with q | q
    ·rw [if_pos q] at h
     refine rZ ?_ fun K hK => by simp [a, b, e, g, j, q]; exact hK
     cases h
     apply TrD.ret
     exact xD
    rw [iN q] at h
    rcases bb (ieq p0.var 0) with u | u
    ·rw [if_pos u] at h
     refine rZ ?_ fun K hK => by simp [a, b, e, g, j, q, u]; exact hK
     cases h
     apply TrD.ret
     exact xD
    rw [iN u] at h
    refine rZ ?_ fun K hK => by simp [a, b, e, g, j, q, u]; exact hK
    cases h
    apply TrD.ret
    exact xD
   rw [iN j] at h
   refine rZ ?_ fun K hK => by simp [a, b, e, g, j]; exact hK
   cases h
   apply TrD.ret
   exact xD
  rw [iN g] at h
  refine rZ ?_ fun K hK => by simp [a, b, e, g]; exact hK
  cases h
  apply TrD.ret
  exact xD
 rw [iN b] at h
 refine rZ ?_ fun K hK => by simp [a, b]; exact hK
 cases h
 apply TrD.ret
 exact xD
set_option maxRecDepth 100000 in
theorem c_impl_within (p0 : Int) (p1 : Int) (p2 : Int) (res : Bool) (h : m_impl_within p0 p1 p2 = some res) : CallsD Tryz.prog 0o00033 [(eI p0), (eI p1), (eI p2)] (fun d => d = (eB res)) := by
 unfold m_impl_within at h
 refine CD Tryz.func27 [.tmp 6] fun β hβ => ?_
 refine sZ ?_
 apply sq
 rcases bb (ile p1 p0) with hb2 | hb2
 ·rw [if_pos hb2] at h
  refine rZ ?_ fun K hK => by simp [hb2]; exact hK
  cases h
  apply TrD.ret
  exact xD
 rw [iN hb2] at h
 refine rZ ?_ fun K hK => by simp [hb2]; exact hK
 cases h
 apply TrD.ret
 exact xD
set_option maxRecDepth 100000 in
theorem c_impl_isVar (p0 : Int) (res : Bool) (h : m_impl_isVar p0 = some res) : CallsD Tryz.prog 0o00166 [(eI p0)] (fun d => d = (eB res)) := by
 unfold m_impl_isVar at h
 refine CD Tryz.func118 [.tmp 2] fun β hβ => ?_
 refine sZ ?_
 apply sq
 obtain ⟨r1, hr1, h⟩ := bindE h
 refine rk fun K hK => ?_
 simp
 refine cp (c_impl_within p0 0 5 _ hr1) ?_
 simp
 apply hK
 cases h
 apply TrD.ret
 exact xD
end Go.Proofs.YtimpchdgflhkaaaGreat
