import Derived.Test.YtmkamncbkkahjaaGreatJMir
import Derived.Test.YtmkamncbkkahjaaGreatJZap
import Derived.Test.YtmkamncbkkahjaaGreatJC5
import Derived.Test.YtmkamncbkkahjaaGreatJC7
import Derived.Test.YtmkamncbkkahjaaGreatJC8
import Derived.Test.YtmkamncbkkahjaaGreatJC12
import Derived.Test.YtmkamncbkkahjaaGreatJC9
set_option linter.unusedSimpArgs false
set_option linter.unusedVariables false
namespace Go.Proofs.YtmkamncbkkahjaaGreat
open Go Go.RowKit
set_option maxRecDepth 100000
set_option maxHeartbeats 20000000
theorem c_spec_l3Draw : ∀ (n : Nat) (p0 : Gl17Rd) (p1 : (List GData)) (p2 : GType) (p3 : Int) (res : GPattern × Gl17Rd), m_spec_l3Draw n p0 p1 p2 p3 = some res → CallsH Tryz.prog 0o00403 [⟨2, [(rGl17Rd p0)], 0, 0x00ba⟩] [.ptr 2 0 0 0, (.slice 2 (List.map rGData p1)), (.agg (rGType p2)), (eI p3)] (fun H d => H = [some ⟨2, [(rGl17Rd res.2)], 0, 0x00ba⟩] ∧ d = (.agg (rGPattern res.1))) := by
 intro n
 induction n with
 | zero => intro p0 p1 p2 p3 res h; cases h
 | succ n ih =>
  intro p0 p1 p2 p3 res h
  rw [m_spec_l3Draw.eq_2] at h
  refine CH Tryz.func259 [.cell 8 41] 1 fun β hβ => ?_
  refine sZ ?_
  apply sq
  apply sq
  rcases bb (ilt p3 2) with t | t
  ·rw [if_pos t] at h
   refine rZ ?_ fun K hK => by simp [t]; exact hK
   refine cT ?_
   refine sZ ?_
   cases h
   apply TrD.ret
   refine exitHG (σ' := ⟨(updD (fun _ => .any) 8 (.ptr 6 1 0 0)), hOfO [some ⟨2, [(rGl17Rd p0)], 0, 0x00ba⟩, some ⟨6, [(rGPattern (GPattern.mk 1 0 0 0 0 []))], 0, 0x0029⟩], 2, 96⟩) ?_ ?_
   ·exact gC [0, 9]
   simp [resD]
   exact eX 1
  rw [iN t] at h
  obtain ⟨p, ab, h⟩ := bindE h
  refine rk fun K hK => ?_
  simp [t]
  refine callK (views_same _ _) (.same _ _) [0] (c_spec_l17Rd_pick p0 4 _ ab) (by decide) (.cons (locRen_eq (by simp) (by simp) (by simp)) .nil) (.cons (ren_ptr rfl) (.cons (ren_le (by simp) (by simp)) .nil)) (fun au aK U => ?_)
  obtain ⟨rfl, rfl⟩ := U
  refine ⟨by simp, [some ⟨2, [(rGl17Rd p.2)], 0, 0x00ba⟩], (eI p.1), (.cons (optRen_same (by simp)) .nil), (ren_free (by simp)), ?_⟩
  simp [setMany, newNames]
  apply hK
  refine TrD.cond (b := ieq p.1 0) (by simp) (fun u => ?_) (fun u => ?_)
  ·rw [if_pos u] at h
   refine sZ ?_ fun K hK => by simp [u]; exact hK
   cases h
   apply TrD.ret
   refine exitHG (σ' := ⟨(updD (fun _ => .any) 8 (.ptr 6 1 0 0)), hOfO [some ⟨2, [(rGl17Rd p.2)], 0, 0x00ba⟩, some ⟨6, [(rGPattern (GPattern.mk 1 0 0 0 0 []))], 0, 0x0029⟩], 2, 96⟩) ?_ ?_
   ·exact gC [0, 9]
   simp [resD]
   exact eX 1
  rw [iN u] at h
  apply TrD.skip
  apply sq
  apply sq
  obtain ⟨c, ac, h⟩ := bindE h
  refine rk fun K hK => ?_
  simp [u]
  refine callK (views_same _ _) (.same _ _) [0] (c_spec_l17Rd_pick p.2 6 _ ac) (by decide) (.cons (locRen_eq (by simp) (by simp) (by simp)) .nil) (.cons (ren_ptr rfl) (.cons (ren_le (by simp) (by simp)) .nil)) (fun ar aJ T => ?_)
  obtain ⟨rfl, rfl⟩ := T
  refine ⟨by simp, [some ⟨2, [(rGl17Rd c.2)], 0, 0x00ba⟩], (eI c.1), (.cons (optRen_same (by simp)) .nil), (ren_free (by simp)), ?_⟩
  simp [setMany, newNames]
  apply hK
  refine TrD.cond (b := ieq c.1 0) (by simp) (fun j => ?_) (fun j => ?_)
  ·rw [if_pos j] at h
   apply sq
   refine TrD.ghost (σ' := ⟨(updD (updD (updD (updD (updD (fun _ => .any) 0 (.ptr 2 0 0 0)) 1 (.slice 2 (List.map rGData p1))) 3 (eI p3)) 6 (.ptr 2 1 0 0)) 8 (.ptr 6 2 0 0)), hOfO [some ⟨2, [(rGl17Rd c.2)], 0, 0x00ba⟩, some ⟨2, [(rGType p2)], 0, 0x0019⟩, some ⟨6, [[(eI 0), (eI 0), (eI 0), (eI 0), (eI 0), .nil]], 0, 0x0029⟩], 3, 96⟩) ?_ ?_
   ·exact gC [0, 1, 9]
   obtain ⟨l, ad, h⟩ := bindE h
   obtain ⟨g, ae, h⟩ := bindE h
   refine TrD.draw tysOk mixed [0, 1, 2, 3, 4, 6, 7, 8, 9, 10, 5, 11, 12, 13, 14] [1] [] (by rfl) rfl (fun K hK => ?_)
   simp
   refine callK (views_same _ _) (.same _ _) [0] (ih c.2 p1 p2 (wsub .i64 p3 1) _ ad) (by decide) (.cons (locRen_eq (by simp) (by simp) (by simp)) .nil) (.cons (ren_ptr rfl) (.cons (ren_le (by simp) (by simp)) (.cons (ren_le (by simp) (by simp)) (.cons (ren_le (by simp) (by simp)) .nil)))) (fun av aL V => ?_)
   obtain ⟨rfl, rfl⟩ := V
   refine ⟨by simp, [some ⟨2, [(rGl17Rd l.2)], 0, 0x00ba⟩], (.agg (rGPattern l.1)), (.cons (optRen_same (by simp)) .nil), (ren_free (by simp)), ?_⟩
   simp [setMany, newNames]
   refine callK (views_same _ _) (.same _ _) [0] (ih l.2 p1 p2 (wsub .i64 p3 1) _ ae) (by decide) (.cons (locRen_eq (by simp) (by simp) (by simp)) .nil) (.cons (ren_ptr rfl) (.cons (ren_le (by simp) (by simp)) (.cons (ren_le (by simp) (by simp)) (.cons (ren_le (by simp) (by simp)) .nil)))) (fun aw aM W => ?_)
   obtain ⟨rfl, rfl⟩ := W
   refine ⟨by simp, [some ⟨2, [(rGl17Rd g.2)], 0, 0x00ba⟩], (.agg (rGPattern g.1)), (.cons (optRen_same (by simp)) .nil), (ren_free (by simp)), ?_⟩
   simp [setMany, newNames]
   apply hK
   cases h
   apply TrD.ret
   refine exitHG (σ' := ⟨(updD (fun _ => .any) 8 (.ptr 6 1 0 0)), hOfO [some ⟨2, [(rGl17Rd g.2)], 0, 0x00ba⟩, some ⟨6, [(rGPattern (GPattern.mk 5 0 0 0 0 [l.1, g.1]))], 0, 0x0029⟩], 2, 96⟩) ?_ ?_
   ·refine (Ghost.raise 19 (by simp; rfl)).trans ?_
    exact Ghost.canonV 1 [0, 2] _ _ hβ (keep_first (by decide)) (by decide) (vT_upd (v_of (d0 := (.ptr 6 2 0 0)) (by simp) (v_ptr rfl)) (vT_any _)) (.cons (lv (L := ⟨2, [(rGl17Rd g.2)], 0, 0x00ba⟩) (by simp) rfl rfl (by simp) (rv_free (by simp) (by simp))) (.cons (lv (L := ⟨6, [[(eI 5), (eI 0), (eI 0), (eI 0), (eI 0), (.sl 6 19 ([l.1, g.1]).length)]], 0, 0x0029⟩) (by simp) rfl rfl (by simp) (rv_consr (rGPattern_eq _) (.cons (v_free (by simp) (by simp)) (.cons (v_free (by simp) (by simp)) (.cons (v_free (by simp) (by simp)) (.cons (v_free (by simp) (by simp)) (.cons (v_free (by simp) (by simp)) (.cons (v_frz (L := ⟨6, (List.map rGPattern [l.1, g.1]), ([l.1, g.1]).length * 6, 0x0029⟩) (by simp) rfl (by simp) (by simp) (rv_free (by simp) (free_rows_of fr_GPattern _))) .nil)))))) rv_nil)) .nil))
   simp [resD]
   exact eX 1
  rw [iN j] at h
  apply TrD.skip
  apply sq
  refine sZ ?_ fun K hK => by simp [j]; exact hK
  refine TrD.cond (b := ieq p2.data (-1)) (by simp) (fun v => ?_) (fun v => ?_)
  ·rw [if_pos v] at h
   apply sq
   obtain ⟨i, af, h⟩ := bindE h
   refine rk fun K hK => ?_
   simp [v]
   refine callK (views_same _ _) (.same _ _) [0] (c_spec_l17Rd_pick c.2 10 _ af) (by decide) (.cons (locRen_eq (by simp) (by simp) (by simp)) .nil) (.cons (ren_ptr rfl) (.cons (ren_le (by simp) (by simp)) .nil)) (fun az aP Z => ?_)
   obtain ⟨rfl, rfl⟩ := Z
   refine ⟨by simp, [some ⟨2, [(rGl17Rd i.2)], 0, 0x00ba⟩], (eI i.1), (.cons (optRen_same (by simp)) .nil), (ren_free (by simp)), ?_⟩
   simp [setMany, newNames]
   apply hK
   apply sq
   obtain ⟨r, ag, h⟩ := bindE h
   obtain ⟨m, ah, h⟩ := bindE h
   refine rk fun K hK => ?_
   simp
   refine callK (views_same _ _) (.same _ _) [0] (c_spec_l17Rd_pick i.2 (wsub .i64 10 i.1) _ ag) (by decide) (.cons (locRen_eq (by simp) (by simp) (by simp)) .nil) (.cons (ren_ptr rfl) (.cons (ren_le (by simp) (by simp)) .nil)) (fun ax aN X => ?_)
   obtain ⟨rfl, rfl⟩ := X
   refine ⟨by simp, [some ⟨2, [(rGl17Rd r.2)], 0, 0x00ba⟩], (eI r.1), (.cons (optRen_same (by simp)) .nil), (ren_free (by simp)), ?_⟩
   simp [setMany, newNames]
   refine callK (views_same _ _) (.same _ _) [0] (c_spec_l17Rd_pick r.2 2 _ ah) (by decide) (.cons (locRen_eq (by simp) (by simp) (by simp)) .nil) (.cons (ren_ptr rfl) (.cons (ren_le (by simp) (by simp)) .nil)) (fun ay aO Y => ?_)
   obtain ⟨rfl, rfl⟩ := Y
   refine ⟨by simp, [some ⟨2, [(rGl17Rd m.2)], 0, 0x00ba⟩], (eI m.1), (.cons (optRen_same (by simp)) .nil), (ren_free (by simp)), ?_⟩
   simp [setMany, newNames]
   apply hK
   cases h
   apply TrD.ret
   refine exitHG (σ' := ⟨(updD (fun _ => .any) 8 (.ptr 6 1 0 0)), hOfO [some ⟨2, [(rGl17Rd m.2)], 0, 0x00ba⟩, some ⟨6, [(rGPattern (GPattern.mk 3 0 i.1 (wadd .i64 i.1 (wmul .i64 r.1 m.1)) 0 []))], 0, 0x0029⟩], 2, 96⟩) ?_ ?_
   ·exact gC [0, 9]
   simp [resD]
   exact eX 1
  rw [iN v] at h
  apply TrD.skip
  apply sq
  obtain ⟨I, ai, h⟩ := bindE h
  refine rk fun K hK => ?_
  simp [v]
  refine cp (c_spec_l1Ctors p1 p2 _ ai) ?_
  simp
  apply hK
  apply sq
  refine sZ ?_
  refine TrD.cond (b := ieq (lenZ I.length) 0) (by simp) (fun w => ?_) (fun w => ?_)
  ·rw [if_pos w] at h
   refine sZ ?_ fun K hK => by simp [w]; exact hK
   cases h
   apply TrD.ret
   refine exitHG (σ' := ⟨(updD (fun _ => .any) 8 (.ptr 6 1 0 0)), hOfO [some ⟨2, [(rGl17Rd c.2)], 0, 0x00ba⟩, some ⟨6, [(rGPattern (GPattern.mk 1 0 0 0 0 []))], 0, 0x0029⟩], 2, 96⟩) ?_ ?_
   ·exact gC [0, 9]
   simp [resD]
   exact eX 1
  rw [iN w] at h
  apply TrD.skip
  apply sq
  obtain ⟨B, aj, h⟩ := bindE h
  obtain ⟨f, F, h⟩ := bindE h
  refine rk fun K hK => ?_
  simp [w]
  refine callK (views_same _ _) (.same _ _) [0] (c_spec_l17Rd_pick c.2 (lenZ I.length) _ aj) (by decide) (.cons (locRen_eq (by simp) (by simp) (by simp)) .nil) (.cons (ren_ptr rfl) (.cons (ren_le (by simp) (by simp)) .nil)) (fun aq aI Q => ?_)
  obtain ⟨rfl, rfl⟩ := Q
  refine ⟨by simp, [some ⟨2, [(rGl17Rd B.2)], 0, 0x00ba⟩], (eI B.1), (.cons (optRen_same (by simp)) .nil), (ren_free (by simp)), ?_⟩
  simp [setMany, newNames, idx_inb F, idx_row F]
  apply hK
  apply sq
  obtain ⟨o, ak, h⟩ := bindE h
  refine rk fun K hK => ?_
  simp
  refine cp (c_spec_l1Args p1 p2 f _ ak) ?_
  simp
  apply hK
  apply sq
  refine sZ ?_
  obtain ⟨am, N, h⟩ := bindE h
  obtain ⟨J, D⟩ : ∃ S : (Gl17Rd × (List GPattern)) → St, S = fun e => ⟨(updD (updD (fun _ => .any) 8 (.ptr 6 1 0 0)) 11 (.ptr 6 2 0 0)), hOfO [some ⟨2, [(rGl17Rd e.1)], 0, 0x00ba⟩, some ⟨6, [[(eI 0), (eI 0), (eI 0), (eI 0), (eI 0), .nil]], 0, 0x0029⟩, some ⟨6, [[(eI 4), (eI f), (eI 0), (eI 0), (eI 0), (.sl 6 3 (e.2).length)]], 0, 0x0029⟩, some ⟨6, (List.map rGPattern e.2), 0, 0x0029⟩], 4, 96⟩ := ⟨_, rfl⟩
  refine TrD.joinQ J (fun z => am = Ctl.brk z) (fun _ _ hg h => TrD.ghost hg h) ?_ (fun e hz => ?_)
  ·apply TrD.block
   obtain ⟨M, x⟩ : ∃ S : Nat → (Gl17Rd × (List GPattern)) → St, S = fun q a => ⟨(updD (updD (updD (updD (updD (updD (updD (fun _ => .any) 0 (.ptr 2 0 0 0)) 1 (.slice 2 (List.map rGData p1))) 3 (eI p3)) 8 (.ptr 6 1 0 0)) 11 (.ptr 6 2 0 0)) 12 (.slice 2 (List.map rGType o))) 13 (eI (q : Int))), hOfO [some ⟨2, [(rGl17Rd a.1)], 0, 0x00ba⟩, some ⟨6, [[(eI 0), (eI 0), (eI 0), (eI 0), (eI 0), .nil]], 0, 0x0029⟩, some ⟨6, [[(eI 4), (eI f), (eI 0), (eI 0), (eI 0), (.sl 6 3 (a.2).length)]], 0, 0x0029⟩, some ⟨6, (List.map rGPattern a.2), 0, 0x0029⟩], 4, 96⟩ := ⟨_, rfl⟩
   refine TrD.limS (sz := 2) (rows := List.map rGType o) (seen_slot (d := .slice 2 (List.map rGType o)) 74 (by simp)) (fun hlim => ?_)
   rw [List.length_map] at hlim
   refine TrD.forL M N hlim ?_ (fun q ao a G aC aD al k aE s aB aA => ?_) (fun a an => ?_)
   ·rw [x]
    refine (Ghost.ownNilCell 241 5 6 0x0029 (by simp; rfl) rfl (by simp) (by simp)).trans ?_
    exact gC [0, 9, 241, 313]
   ·rw [congrFun (congrFun x q) a]
    apply sq
    refine sZ ?_ fun K hK => by simp [al]; exact hK
    refine cT ?_
    apply TrD.skip
    apply sq
    apply TrD.block
    refine TrD.ghost (σ' := ⟨(updD (updD (updD (updD (updD (updD (updD (fun _ => .any) 0 (.ptr 2 0 0 0)) 1 (.slice 2 (List.map rGData p1))) 3 (eI p3)) 8 (.ptr 6 1 0 0)) 11 (.ptr 6 2 0 0)) 12 (.slice 2 (List.map rGType o))) 13 (eI (q : Int))), hOfO [some ⟨2, [(rGl17Rd a.1)], 0, 0x00ba⟩, some ⟨6, [[(eI 0), (eI 0), (eI 0), (eI 0), (eI 0), .nil]], 0, 0x0029⟩, some ⟨6, [[(eI 4), (eI f), (eI 0), (eI 0), (eI 0), (.sl 6 3 (a.2).length)]], 0, 0x0029⟩, some ⟨6, (List.map rGPattern a.2), 0, 0x0029⟩], 4, 96⟩) ?_ ?_
    ·exact gC [0, 1, 2, 3]
    obtain ⟨A, aa, s⟩ := bindE s
    obtain ⟨C, y, s⟩ := bindE s
    have E := (app_some y).2
    try simp only [List.length_cons, List.length_nil, Nat.zero_add] at E
    refine TrD.draw tysOk mixed [0, 1, 2, 3, 4, 5, 6, 7, 8, 9, 10, 11, 12, 13, 14] [2] [94] (by rfl) rfl (fun K hK => ?_)
    simp [idx_inb G, idx_row G]
    refine callK (views_same _ _) (.same _ _) [0] (ih a.1 p1 ao (wsub .i64 p3 1) _ aa) (by decide) (.cons (locRen_eq (by simp) (by simp) (by simp)) .nil) (.cons (ren_ptr rfl) (.cons (ren_le (by simp) (by simp)) (.cons (ren_le (by simp) (by simp)) (.cons (ren_le (by simp) (by simp)) .nil)))) (fun ap aH O => ?_)
    obtain ⟨rfl, rfl⟩ := O
    refine ⟨by simp, [some ⟨2, [(rGl17Rd A.2)], 0, 0x00ba⟩], (.agg (rGPattern A.1)), (.cons (optRen_same (by simp)) .nil), (ren_free (by simp)), ?_⟩
    simp [setMany, newNames, E]
    apply hK
    refine rZ ?_
    cases s
    refine ToAny.mk (A.2, C) rfl ?_
    rw [x]
    exact Ghost.canonV 1 [0, 1, 2, 20] _ _ hβ (keep_first (by decide)) (by decide) (vT_upd (v_of (d0 := (eI (wadd .i64 (q : Int) 1))) (by simp [k]) (v_free (by simp) (by simp [k]))) (vT_upd (v_of (d0 := (.slice 2 (List.map rGType o))) (by simp [k]) (v_free (by simp) (by simp))) (vT_upd (v_of (d0 := (.ptr 6 2 0 0)) (by simp [k]) (v_ptr rfl)) (vT_upd (v_of (d0 := (.ptr 6 1 0 0)) (by simp [k]) (v_ptr rfl)) (vT_upd (v_of (d0 := (eI p3)) (by simp [k]) (v_free (by simp) (by simp))) (vT_upd (v_of (d0 := (.slice 2 (List.map rGData p1))) (by simp [k]) (v_free (by simp) (by simp))) (vT_upd (v_of (d0 := (.ptr 2 0 0 0)) (by simp [k]) (v_ptr rfl)) (vT_any _)))))))) (.cons (lv (L := ⟨2, [(rGl17Rd A.2)], 0, 0x00ba⟩) (by simp) rfl rfl (by simp) (rv_free (by simp) (by simp))) (.cons (lv (L := ⟨6, [[(eI 0), (eI 0), (eI 0), (eI 0), (eI 0), .nil]], 0, 0x0029⟩) (by simp) rfl rfl (by simp) (rv_cons (.cons (v_free (by simp) (by simp)) (.cons (v_free (by simp) (by simp)) (.cons (v_free (by simp) (by simp)) (.cons (v_free (by simp) (by simp)) (.cons (v_free (by simp) (by simp)) (.cons (v_free (by simp) (by simp)) .nil)))))) rv_nil)) (.cons (lv (L := ⟨6, [[(eI 4), (eI f), (eI 0), (eI 0), (eI 0), (.sl 6 20 (C).length)]], 0, 0x0029⟩) (by simp [(app_some y).1]) rfl rfl (by simp) (rv_cons (.cons (v_free (by simp) (by simp)) (.cons (v_free (by simp) (by simp)) (.cons (v_free (by simp) (by simp)) (.cons (v_free (by simp) (by simp)) (.cons (v_free (by simp) (by simp)) (.cons (v_sl rfl) .nil)))))) rv_nil)) (.cons (lv (L := ⟨6, (List.map rGPattern C), 0, 0x0029⟩) (by simp [(app_some y).1]) rfl rfl (by simp) (rv_free (by simp [(app_some y).1]) (free_rows_of fr_GPattern _))) .nil))))
   rw [congrFun (congrFun x _) a]
   apply sq
   refine sZ ?_ fun K hK => by simp [ilt_len o.length]; exact hK
   refine cF ?_
   refine TrD.exit ?_
   try simp only [↓reduceIte, Nat.reduceEqDiff, Nat.zero_ne_one, Nat.one_ne_zero, OfNat.ofNat_ne_zero, OfNat.zero_ne_ofNat, OfNat.one_ne_ofNat, OfNat.ofNat_ne_one]
   refine ToAny.mk a an ?_
   rw [D]
   exact gC [0, 1, 2, 3]
  subst hz
  try dsimp only at h
  rw [congrFun D e]
  refine sZ ?_
  cases h
  apply TrD.ret
  refine exitHG (σ' := ⟨(updD (fun _ => .any) 8 (.ptr 6 1 0 0)), hOfO [some ⟨2, [(rGl17Rd e.1)], 0, 0x00ba⟩, some ⟨6, [(rGPattern (GPattern.mk 4 f 0 0 0 e.2))], 0, 0x0029⟩], 2, 96⟩) ?_ ?_
  ·refine (Ghost.raise 3 (by simp; rfl)).trans ?_
   exact Ghost.canonV 1 [0, 1] _ _ hβ (keep_first (by decide)) (by decide) (vT_upd (v_of (d0 := (.ptr 6 1 0 0)) (by simp) (v_ptr rfl)) (vT_any _)) (.cons (lv (L := ⟨2, [(rGl17Rd e.1)], 0, 0x00ba⟩) (by simp) rfl rfl (by simp) (rv_free (by simp) (by simp))) (.cons (lv (L := ⟨6, [[(eI 4), (eI f), (eI 0), (eI 0), (eI 0), (.sl 6 3 (e.2).length)]], 0, 0x0029⟩) (by simp) rfl rfl (by simp) (rv_consr (rGPattern_eq _) (.cons (v_free (by simp) (by simp)) (.cons (v_free (by simp) (by simp)) (.cons (v_free (by simp) (by simp)) (.cons (v_free (by simp) (by simp)) (.cons (v_free (by simp) (by simp)) (.cons (v_frz (by simp; rfl) rfl (by simp) (by simp) (rv_free (by simp) (by simp))) .nil)))))) rv_nil)) .nil))
  simp [resD]
  exact eX 1
theorem c_spec_l3Some (n : Nat) (p0 : Gl17Rd) (p1 : (List GData)) (p2 : GType) (res : GPattern × Gl17Rd) (h : m_spec_l3Some n p0 p1 p2 = some res) : CallsH Tryz.prog 0o00307 [⟨2, [(rGl17Rd p0)], 0, 0x00ba⟩] [.ptr 2 0 0 0, (.slice 2 (List.map rGData p1)), (.agg (rGType p2))] (fun H d => H = [some ⟨2, [(rGl17Rd res.2)], 0, 0x00ba⟩] ∧ d = (.agg (rGPattern res.1))) := by
 unfold m_spec_l3Some at h
 refine CH Tryz.func199 [.cell 6 41] 1 fun β hβ => ?_
 refine sZ ?_
 apply sq
 refine TrD.ghost (σ' := ⟨(updD (updD (updD (updD (fun _ => .any) 0 (.ptr 2 0 0 0)) 1 (.slice 2 (List.map rGData p1))) 5 (.ptr 2 1 0 0)) 6 (.ptr 6 2 0 0)), hOfO [some ⟨2, [(rGl17Rd p0)], 0, 0x00ba⟩, some ⟨2, [(rGType p2)], 0, 0x0019⟩, some ⟨6, [[(eI 0), (eI 0), (eI 0), (eI 0), (eI 0), .nil]], 0, 0x0029⟩], 3, 28⟩) ?_ ?_
 ·exact gC [0, 1, 9]
 obtain ⟨r1, hr1, h⟩ := bindE h
 obtain ⟨r2, hr2, h⟩ := bindE h
 obtain ⟨r3, hr3, h⟩ := bindE h
 refine TrD.drawZ tysOk mixed [0, 1, 2, 3, 4, 5, 6, 7, 8, 9, 10, 11, 12, 13, 14] [1] [1048583] [] [] (by rfl) rfl 2097152 (Nat.le_of_ble_eq_true rfl) (.inr ⟨Nat.le_of_ble_eq_true rfl, rfl⟩) (fun K hK => ?_)
 simp
 refine callK (.cons (.same _ _) (.cons (.sl _ _ _ _ _ (by simp; rfl) rfl (by simp []) (by simp)) (.nil _))) (.same _ _) [0] (c_spec_l17Rd_num p0 [3, 2, 4, 1] _ hr1) (by decide) (.cons (locRen_eq (by simp) (by simp) (by simp)) .nil) (.cons (ren_ptr rfl) (.cons (ren_le (by simp) (by simp)) .nil)) (fun f j a => ?_)
 obtain ⟨rfl, rfl⟩ := a
 refine ⟨by simp, [some ⟨2, [(rGl17Rd r1.2)], 0, 0x00ba⟩], (eI r1.1), (.cons (optRen_same (by simp)) .nil), (ren_free (by simp)), ?_⟩
 simp [setMany, newNames]
 refine callK (views_same _ _) (.same _ _) [0] (c_spec_l3Draw n r1.2 p1 p2 r1.1 _ hr2) (by decide) (.cons (locRen_eq (by simp) (by simp) (by simp)) .nil) (.cons (ren_ptr rfl) (.cons (ren_le (by simp) (by simp)) (.cons (ren_le (by simp) (by simp)) (.cons (ren_le (by simp) (by simp)) .nil)))) (fun g k c => ?_)
 obtain ⟨rfl, rfl⟩ := c
 refine ⟨by simp, [some ⟨2, [(rGl17Rd r2.2)], 0, 0x00ba⟩], (.agg (rGPattern r2.1)), (.cons (optRen_same (by simp)) .nil), (ren_free (by simp)), ?_⟩
 simp [setMany, newNames]
 refine callK (views_same _ _) (.same _ _) [0] (c_spec_l3Name n r2.2 r2.1 0 _ hr3) (by decide) (.cons (locRen_eq (by simp) (by simp) (by simp)) .nil) (.cons (ren_ptr rfl) (.cons (ren_le (by simp) (by simp)) (.cons (ren_le (by simp) (by simp)) .nil))) (fun i l e => ?_)
 obtain ⟨rfl, rfl⟩ := e
 refine ⟨by simp, [some ⟨2, [(rGl17Rd r3.2.2)], 0, 0x00ba⟩], (.tup [(.agg (rGPattern r3.1)), (eI r3.2.1)]), (.cons (optRen_same (by simp)) .nil), (ren_free (by simp)), ?_⟩
 simp [setMany, newNames]
 apply hK
 apply sq
 apply sq
 obtain ⟨r7, hr7, h⟩ := bindE h
 refine rk fun K hK => ?_
 simp
 refine cp (c_spec_l3Is n p1 p2 r3.1 _ hr7) ?_
 simp
 apply hK
 refine TrD.cond (b := (!r7)) (by simp) (fun hb8 => ?_) (fun hb8 => ?_)
 ·rw [if_pos hb8] at h
  refine sZ ?_ fun K hK => by simp [hb8]; exact hK
  cases h
  apply TrD.ret
  refine exitHG (σ' := ⟨(updD (fun _ => .any) 6 (.ptr 6 1 0 0)), hOfO [some ⟨2, [(rGl17Rd r3.2.2)], 0, 0x00ba⟩, some ⟨6, [(rGPattern (GPattern.mk 1 0 0 0 0 []))], 0, 0x0029⟩], 2, 28⟩) ?_ ?_
  ·exact gC [0, 2]
  simp [resD]
  exact eX 1
 rw [iN hb8] at h
 apply TrD.skip
 refine sZ ?_ fun K hK => by simp [hb8]; exact hK
 cases h
 apply TrD.ret
 refine exitHG (σ' := ⟨(updD (fun _ => .any) 6 (.ptr 6 1 0 0)), hOfO [some ⟨2, [(rGl17Rd r3.2.2)], 0, 0x00ba⟩, some ⟨6, [(rGPattern r3.1)], 0, 0x0029⟩], 2, 28⟩) ?_ ?_
 ·exact gC [0, 2]
 simp [resD]
 exact eX 1
theorem c_spec_l4Clause (n : Nat) (p0 : Gl17Rd) (p1 : (List GData)) (p2 : GType) (res : GClause × Gl17Rd) (h : m_spec_l4Clause n p0 p1 p2 = some res) : CallsH Tryz.prog 0o00201 [⟨2, [(rGl17Rd p0)], 0, 0x00ba⟩] [.ptr 2 0 0 0, (.slice 2 (List.map rGData p1)), (.agg (rGType p2))] (fun H d => H = [some ⟨2, [(rGl17Rd res.2)], 0, 0x00ba⟩] ∧ d = (.agg (rGClause res.1))) := by
 unfold m_spec_l4Clause at h
 refine CH Tryz.func129 [.cell 6 45] 1 fun β hβ => ?_
 refine sZ ?_
 apply sq
 obtain ⟨r1, hr1, h⟩ := bindE h
 refine rk fun K hK => ?_
 simp
 refine callK (views_same _ _) (.same _ _) [0] (c_spec_l3Some n p0 p1 p2 _ hr1) (by decide) (.cons (locRen_eq (by simp) (by simp) (by simp)) .nil) (.cons (ren_ptr rfl) (.cons (ren_le (by simp) (by simp)) (.cons (ren_le (by simp) (by simp)) .nil))) (fun X af I => ?_)
 obtain ⟨rfl, rfl⟩ := I
 refine ⟨by simp, [some ⟨2, [(rGl17Rd r1.2)], 0, 0x00ba⟩], (.agg (rGPattern r1.1)), (.cons (optRen_same (by simp)) .nil), (ren_free (by simp)), ?_⟩
 simp [setMany, newNames]
 apply hK
 apply sq
 obtain ⟨r2, hr2, h⟩ := bindE h
 refine rk fun K hK => ?_
 simp
 refine callK (views_same _ _) (.own _ [] [_, _, _] 3 0x0111) [105] (c_spec_l3Vars n [] p1 p2 r1.1 _ hr2) (by decide) (.cons (locRen_eq (by simp) (by simp) (by simp)) .nil) (.cons (ren_sl rfl) (.cons (ren_le (by simp) (by simp)) (.cons (ren_le (by simp) (by simp)) (.cons (ren_le (by simp) (by simp)) .nil)))) (fun W ae G => ?_)
 obtain ⟨rfl, rfl⟩ := G
 refine ⟨by simp, [none, some ⟨3, (List.map rGVarType r2), 0, 0x0111⟩], (.sl 3 106 (r2).length), (.cons (.none _) (.cons (optRen_same (by simp)) .nil)), (ren_sl (by rfl)), ?_⟩
 simp [setMany, newNames]
 apply hK
 apply sq
 refine sZ ?_
 obtain ⟨P, C, h⟩ := bindE h
 obtain ⟨y, x⟩ : ∃ S : (Gl17Rd × Int × Int × Int) → St, S = fun c => ⟨(updD (updD (fun _ => .any) 6 (.ptr 9 1 0 0)) 7 (.ptr 9 2 0 0)), hOfO [some ⟨2, [(rGl17Rd c.1)], 0, 0x00ba⟩, some ⟨9, [[(eI 0), (eI 0), (eI 0), (eI 0), (eI 0), .nil, (eI 0), (eI 0), (eI 0)]], 0, 0x002d⟩, some ⟨9, [[(eI r1.1.op), (eI r1.1.ctor), (eI r1.1.n), (eI r1.1.m), (eI r1.1.var), (.slice 6 (List.map rGPattern r1.1.kids)), (eI c.2.1), (eI c.2.2.1), (eI c.2.2.2)]], 0, 0x002d⟩], 3, 51⟩ := ⟨_, rfl⟩
 refine TrD.joinQ y (fun z => P = Ctl.brk z) (fun _ _ hg h => TrD.ghost hg h) ?_ (fun c hz => ?_)
 ·apply TrD.block
  obtain ⟨A, r⟩ : ∃ S : Nat → (Gl17Rd × Int × Int × Int) → St, S = fun i a => ⟨(updD (updD (updD (updD (updD (fun _ => .any) 0 (.ptr 2 0 0 0)) 6 (.ptr 9 1 0 0)) 7 (.ptr 9 2 0 0)) 8 (.sl 3 3 (r2).length)) 9 (eI (i : Int))), hOfO [some ⟨2, [(rGl17Rd a.1)], 0, 0x00ba⟩, some ⟨9, [[(eI 0), (eI 0), (eI 0), (eI 0), (eI 0), .nil, (eI 0), (eI 0), (eI 0)]], 0, 0x002d⟩, some ⟨9, [[(eI r1.1.op), (eI r1.1.ctor), (eI r1.1.n), (eI r1.1.m), (eI r1.1.var), (.slice 6 (List.map rGPattern r1.1.kids)), (eI a.2.1), (eI a.2.2.1), (eI a.2.2.2)]], 0, 0x002d⟩, some ⟨3, (List.map rGVarType r2), 0, 0x0111⟩], 4, 51⟩ := ⟨_, rfl⟩
  refine TrD.limL (L := ⟨3, (List.map rGVarType r2), 0, 0x0111⟩) 106 (by simp) (by simp) (fun hlim => ?_)
  simp at hlim
  refine TrD.forL A C hlim ?_ (fun i w a u t v O l aa q Z Y => ?_) (fun a R => ?_)
  ·rw [r]
   exact gC [0, 9, 57, 106]
  ·rw [congrFun (congrFun r i) a]
   apply sq
   refine sZ ?_ fun K hK => by simp [O]; exact hK
   refine cT ?_
   apply TrD.skip
   obtain ⟨Q, f, q⟩ := bindE q
   obtain ⟨B, s⟩ : ∃ S : Gl17Rd × Int × Int × Int → St, S = fun e => ⟨(updD (updD (updD (updD (updD (fun _ => .any) 0 (.ptr 2 0 0 0)) 6 (.ptr 9 1 0 0)) 7 (.ptr 9 2 0 0)) 8 (.sl 3 3 (r2).length)) 9 (eI (i : Int))), hOfO [some ⟨2, [(rGl17Rd e.1)], 0, 0x00ba⟩, some ⟨9, [[(eI 0), (eI 0), (eI 0), (eI 0), (eI 0), .nil, (eI 0), (eI 0), (eI 0)]], 0, 0x002d⟩, some ⟨9, [[(eI r1.1.op), (eI r1.1.ctor), (eI r1.1.n), (eI r1.1.m), (eI r1.1.var), (.slice 6 (List.map rGPattern r1.1.kids)), (eI e.2.1), (eI e.2.2.1), (eI e.2.2.2)]], 0, 0x002d⟩, some ⟨3, (List.map rGVarType r2), 0, 0x0111⟩], 4, 51⟩ := ⟨_, rfl⟩
   refine TrD.join B (fun z => Q = Ctl.brk z) ?_ (fun e hz => ?_)
   ·apply TrD.block
    apply sq
    rcases bb (ieq w.typ.data (-1)) with k | k
    ·rw [if_pos k] at f
     obtain ⟨j, J, f⟩ := bindE f
     refine rk fun K hK => ?_
     simp [idx_inb u, v, elt t, k]
     refine callK (views_same _ _) (.same _ _) [0] (c_spec_l17Rd_pick a.1 2 _ J) (by decide) (.cons (locRen_eq (by simp) (by simp) (by simp)) .nil) (.cons (ren_ptr rfl) (.cons (ren_le (by simp) (by simp)) .nil)) (fun V ad F => ?_)
     obtain ⟨rfl, rfl⟩ := F
     refine ⟨by simp, [some ⟨2, [(rGl17Rd j.2)], 0, 0x00ba⟩], (eI j.1), (.cons (optRen_same (by simp)) .nil), (ren_free (by simp)), ?_⟩
     simp [setMany, newNames, k]
     apply hK
     refine TrD.cond (b := ieq j.1 0) (by simp) (fun g => ?_) (fun g => ?_)
     ·rw [if_pos g] at f
      refine TrD.ghost (σ' := ⟨(updD (updD (updD (updD (updD (fun _ => .any) 0 (.ptr 2 0 0 0)) 6 (.ptr 9 1 0 0)) 7 (.ptr 9 2 0 0)) 8 (.sl 3 3 (r2).length)) 9 (eI (i : Int))), hOfO [some ⟨2, [(rGl17Rd j.2)], 0, 0x00ba⟩, some ⟨9, [[(eI 0), (eI 0), (eI 0), (eI 0), (eI 0), .nil, (eI 0), (eI 0), (eI 0)]], 0, 0x002d⟩, some ⟨9, [[(eI r1.1.op), (eI r1.1.ctor), (eI r1.1.n), (eI r1.1.m), (eI r1.1.var), (.slice 6 (List.map rGPattern r1.1.kids)), (eI a.2.1), (eI a.2.2.1), (eI a.2.2.2)]], 0, 0x002d⟩, some ⟨3, (List.map rGVarType r2), 0, 0x0111⟩], 4, 51⟩) ?_ ?_
      ·exact gC [0, 1, 2, 3]
      obtain ⟨p, M, f⟩ := bindE f
      obtain ⟨o, N, f⟩ := bindE f
      refine TrD.draw tysOk mixed [0, 3, 4, 5, 6, 7, 8, 1, 2, 9, 10, 11, 12] [3] [] (by rfl) rfl (fun K hK => ?_)
      simp [idx_inb u, v, elt t]
      refine callK (views_same _ _) (.same _ _) [0] (c_spec_l17Rd_pick j.2 2 _ M) (by decide) (.cons (locRen_eq (by simp) (by simp) (by simp)) .nil) (.cons (ren_ptr rfl) (.cons (ren_le (by simp) (by simp)) .nil)) (fun T ab D => ?_)
      obtain ⟨rfl, rfl⟩ := D
      refine ⟨by simp, [some ⟨2, [(rGl17Rd p.2)], 0, 0x00ba⟩], (eI p.1), (.cons (optRen_same (by simp)) .nil), (ren_free (by simp)), ?_⟩
      simp [setMany, newNames]
      refine callK (views_same _ _) (.same _ _) [0] (c_spec_l17Rd_pick p.2 10 _ N) (by decide) (.cons (locRen_eq (by simp) (by simp) (by simp)) .nil) (.cons (ren_ptr rfl) (.cons (ren_le (by simp) (by simp)) .nil)) (fun U ac E => ?_)
      obtain ⟨rfl, rfl⟩ := E
      refine ⟨by simp, [some ⟨2, [(rGl17Rd o.2)], 0, 0x00ba⟩], (eI o.1), (.cons (optRen_same (by simp)) .nil), (ren_free (by simp)), ?_⟩
      simp [setMany, newNames]
      apply hK
      cases f
      refine ToAny.mk (o.2, wadd .i64 1 p.1, w.var, o.1) rfl ?_
      rw [s]
      exact gC [0, 1, 2, 3]
     rw [iN g] at f
     apply TrD.skip
     cases f
     refine ToAny.mk (j.2, a.2.1, a.2.2.1, a.2.2.2) rfl ?_
     rw [s]
     exact gC [0, 1, 2, 3]
    rw [iN k] at f
    refine rZ ?_ fun K hK => by simp [idx_inb u, v, elt t, k]; exact hK
    refine cF ?_
    apply TrD.skip
    cases f
    refine ToAny.mk (a.1, a.2.1, a.2.2.1, a.2.2.2) rfl ?_
    rw [s]
    exact gC [0, 1, 2, 3]
   subst hz
   try dsimp only at q
   rw [congrFun s e]
   refine rZ ?_
   cases q
   refine ToAny.mk (e.1, e.2.1, e.2.2.1, e.2.2.2) rfl ?_
   rw [r]
   exact gc [0, 1, 2, 3] hβ (((((va.p 0 (by simp [l])).p 1 (by simp [l])).p 2 (by simp [l])).s 3 (by simp [l])).f (by simp [l])) ((ln.f.f.c (lv (L := ⟨9, [[(eI 0), (eI 0), (eI 0), (eI 0), (eI 0), .nil, (eI 0), (eI 0), (eI 0)]], 0, 0x002d⟩) (by simp) rfl rfl (by simp) (rv_cons (.cons (v_free (by simp) (by simp)) (.cons (v_free (by simp) (by simp)) (.cons (v_free (by simp) (by simp)) (.cons (v_free (by simp) (by simp)) (.cons (v_free (by simp) (by simp)) (.cons (v_free (by simp) (by simp)) (.cons (v_free (by simp) (by simp)) (.cons (v_free (by simp) (by simp)) (.cons (v_free (by simp) (by simp)) .nil))))))))) rv_nil))).f)
  rw [congrFun (congrFun r _) a]
  apply sq
  refine sZ ?_ fun K hK => by simp [ilt_len r2.length]; exact hK
  refine cF ?_
  refine TrD.exit ?_
  try simp only [↓reduceIte, Nat.reduceEqDiff, Nat.zero_ne_one, Nat.one_ne_zero, OfNat.ofNat_ne_zero, OfNat.zero_ne_ofNat, OfNat.one_ne_ofNat, OfNat.ofNat_ne_one]
  refine ToAny.mk a R ?_
  rw [x]
  exact gC [0, 1, 2]
 subst hz
 try dsimp only at h
 rw [congrFun x c]
 refine sZ ?_
 cases h
 apply TrD.ret
 refine exitHG (σ' := ⟨(updD (fun _ => .any) 6 (.ptr 9 1 0 0)), hOfO [some ⟨2, [(rGl17Rd c.1)], 0, 0x00ba⟩, some ⟨9, [(rGClause (GClause.mk r1.1 (GGuard.mk c.2.1 c.2.2.1 c.2.2.2)))], 0, 0x002d⟩], 2, 51⟩) ?_ ?_
 ·exact gC [0, 1]
 simp [resD]
 exact eX 1
theorem c_spec_l3Mutate (p0 : Gl17Rd) (p1 : GPattern) (res : GPattern × Gl17Rd) (h : m_spec_l3Mutate p0 p1 = some res) : CallsH Tryz.prog 0o00244 [⟨2, [(rGl17Rd p0)], 0, 0x00ba⟩] [.ptr 2 0 0 0, (.agg (rGPattern p1))] (fun H d => H = [some ⟨2, [(rGl17Rd res.2)], 0, 0x00ba⟩] ∧ d = (.agg (rGPattern res.1))) := by
 unfold m_spec_l3Mutate at h
 refine CH Tryz.func164 [.cell 4 41] 1 fun β hβ => ?_
 refine sZ ?_
 refine sZ ?_
 apply sq
 obtain ⟨x1, hx1, h⟩ := bindE h
 have hx1_r := (app_some hx1).2
 try simp only [List.length_nil, Nat.zero_add] at hx1_r
 obtain hhx1 := app_nil hx1
 subst hhx1
 refine rZ ?_ fun K hK => by simp [hx1_r]; exact hK
 obtain ⟨O, a, h⟩ := bindE h
 obtain ⟨y, f⟩ : ∃ S : Gl17Rd × Int × Int × Int × Int × (List GPattern) → St, S = fun c => ⟨(updD (updD (fun _ => .any) 4 (.ptr 6 1 0 0)) 5 (.ptr 6 2 0 0)), hOfO [some ⟨2, [(rGl17Rd c.1)], 0, 0x00ba⟩, some ⟨6, [[(eI 0), (eI 0), (eI 0), (eI 0), (eI 0), .nil]], 0, 0x0029⟩, some ⟨6, [[(eI c.2.1), (eI c.2.2.1), (eI c.2.2.2.1), (eI p1.m), (eI c.2.2.2.2.1), (.sl 6 3 (c.2.2.2.2.2).length)]], 0, 0x0029⟩, some ⟨6, (List.map rGPattern c.2.2.2.2.2), 0, 0x0029⟩], 4, 57⟩ := ⟨_, rfl⟩
 refine TrD.join y (fun z => O = Ctl.brk z) ?_ (fun c hz => ?_)
 ·apply sq
  obtain ⟨e, F, a⟩ := bindE a
  refine rk fun K hK => ?_
  simp
  refine callK (views_same _ _) (.same _ _) [0] (c_spec_l17Rd_pick p0 30 _ F) (by decide) (.cons (locRen_eq (by simp) (by simp) (by simp)) .nil) (.cons (ren_ptr rfl) (.cons (ren_le (by simp) (by simp)) .nil)) (fun U Z E => ?_)
  obtain ⟨rfl, rfl⟩ := E
  refine ⟨by simp, [some ⟨2, [(rGl17Rd e.2)], 0, 0x00ba⟩], (eI e.1), (.cons (optRen_same (by simp)) .nil), (ren_free (by simp)), ?_⟩
  simp [setMany, newNames]
  apply hK
  apply TrD.block
  refine sZ ?_
  refine TrD.cond (b := ieq e.1 0) (by simp) (fun p => ?_) (fun p => ?_)
  ·rw [if_pos p] at a
   obtain ⟨j, G, a⟩ := bindE a
   refine rk fun K hK => ?_
   simp [p]
   refine callK (.cons (.same _ _) (.cons (.sl _ _ _ _ _ (by simp; rfl) rfl (by simp) (by simp)) (.nil _))) (.same _ _) [0] (c_spec_l17Rd_num e.2 [0, 7, 1, 2, 5] _ G) (by decide) (.cons (locRen_eq (by simp) (by simp) (by simp)) .nil) (.cons (ren_ptr rfl) (.cons (ren_le (by simp) (by simp)) .nil)) (fun P V A => ?_)
   obtain ⟨rfl, rfl⟩ := A
   refine ⟨by simp, [some ⟨2, [(rGl17Rd j.2)], 0, 0x00ba⟩], (eI j.1), (.cons (optRen_same (by simp)) .nil), (ren_free (by simp)), ?_⟩
   simp [setMany, newNames]
   apply hK
   cases a
   refine ToAny.mk (j.2, j.1, p1.ctor, p1.n, p1.var, p1.kids) rfl ?_
   rw [f]
   exact gC [0, 9, 25, 65]
  rw [iN p] at a
  refine sZ ?_ fun K hK => by simp [p]; exact hK
  refine TrD.cond (b := ieq e.1 1) (by simp) (fun q => ?_) (fun q => ?_)
  ·rw [if_pos q] at a
   obtain ⟨k, I, a⟩ := bindE a
   refine rk fun K hK => ?_
   simp [q]
   refine callK (.cons (.same _ _) (.cons (.sl _ _ _ _ _ (by simp; rfl) rfl (by simp) (by simp)) (.nil _))) (.same _ _) [0] (c_spec_l17Rd_num e.2 [6, (-1), 1] _ I) (by decide) (.cons (locRen_eq (by simp) (by simp) (by simp)) .nil) (.cons (ren_ptr rfl) (.cons (ren_le (by simp) (by simp)) .nil)) (fun Q W B => ?_)
   obtain ⟨rfl, rfl⟩ := B
   refine ⟨by simp, [some ⟨2, [(rGl17Rd k.2)], 0, 0x00ba⟩], (eI k.1), (.cons (optRen_same (by simp)) .nil), (ren_free (by simp)), ?_⟩
   simp [setMany, newNames]
   apply hK
   cases a
   refine ToAny.mk (k.2, p1.op, p1.ctor, p1.n, k.1, p1.kids) rfl ?_
   rw [f]
   exact gC [0, 9, 25, 65]
  rw [iN q] at a
  refine sZ ?_ fun K hK => by simp [q]; exact hK
  refine TrD.cond (b := ieq e.1 2) (by simp) (fun r => ?_) (fun r => ?_)
  ·rw [if_pos r] at a
   obtain ⟨l, J, a⟩ := bindE a
   refine rk fun K hK => ?_
   simp [r]
   refine callK (.cons (.same _ _) (.cons (.sl _ _ _ _ _ (by simp; rfl) rfl (by simp) (by simp)) (.nil _))) (.same _ _) [0] (c_spec_l17Rd_num e.2 [9, (-1), 1] _ J) (by decide) (.cons (locRen_eq (by simp) (by simp) (by simp)) .nil) (.cons (ren_ptr rfl) (.cons (ren_le (by simp) (by simp)) .nil)) (fun R X C => ?_)
   obtain ⟨rfl, rfl⟩ := C
   refine ⟨by simp, [some ⟨2, [(rGl17Rd l.2)], 0, 0x00ba⟩], (eI l.1), (.cons (optRen_same (by simp)) .nil), (ren_free (by simp)), ?_⟩
   simp [setMany, newNames]
   apply hK
   cases a
   refine ToAny.mk (l.2, p1.op, l.1, p1.n, p1.var, p1.kids) rfl ?_
   rw [f]
   exact gC [0, 9, 25, 65]
  rw [iN r] at a
  refine sZ ?_ fun K hK => by simp [r]; exact hK
  refine TrD.cond (b := ieq e.1 3) (by simp) (fun s => ?_) (fun s => ?_)
  ·rw [if_pos s] at a
   obtain ⟨aa, N, a⟩ := bindE a
   have u := (app_some N).2
   try simp only [List.length_cons, List.length_nil, Nat.zero_add] at u
   refine rZ ?_ fun K hK => by simp [s, u]; exact hK
   cases a
   refine ToAny.mk (e.2, p1.op, p1.ctor, p1.n, p1.var, (p1.kids ++ [(GPattern.mk 2 0 0 0 0 [])])) rfl ?_
   rw [f]
   exact Ghost.canonV 1 [0, 9, 25, 201] _ _ hβ (keep_first (by decide)) (by decide) (vT_upd (v_of (d0 := (.ptr 6 25 0 0)) (by simp) (v_ptr rfl)) (vT_upd (v_of (d0 := (.ptr 6 9 0 0)) (by simp) (v_ptr rfl)) (vT_any _))) (.cons (lv (L := ⟨2, [(rGl17Rd e.2)], 0, 0x00ba⟩) (by simp) rfl rfl (by simp) (rv_free (by simp) (by simp))) (.cons (lv (L := ⟨6, [[(eI 0), (eI 0), (eI 0), (eI 0), (eI 0), .nil]], 0, 0x0029⟩) (by simp) rfl rfl (by simp) (rv_cons (.cons (v_free (by simp) (by simp)) (.cons (v_free (by simp) (by simp)) (.cons (v_free (by simp) (by simp)) (.cons (v_free (by simp) (by simp)) (.cons (v_free (by simp) (by simp)) (.cons (v_free (by simp) (by simp)) .nil)))))) rv_nil)) (.cons (lv (L := ⟨6, [[(eI p1.op), (eI p1.ctor), (eI p1.n), (eI p1.m), (eI p1.var), (.sl 6 201 ((p1.kids ++ [(GPattern.mk 2 0 0 0 0 [])])).length)]], 0, 0x0029⟩) (by simp) rfl rfl (by simp) (rv_cons (.cons (v_free (by simp) (by simp)) (.cons (v_free (by simp) (by simp)) (.cons (v_free (by simp) (by simp)) (.cons (v_free (by simp) (by simp)) (.cons (v_free (by simp) (by simp)) (.cons (v_sl rfl) .nil)))))) rv_nil)) (.cons (lv (L := ⟨6, ((List.map rGPattern p1.kids) ++ [[(eI 2), (eI 0), (eI 0), (eI 0), (eI 0), .nil]]), 0, 0x0029⟩) (by simp) rfl rfl (by simp) (rv_snocr (by simp) (rGPattern_eq _) (.cons (v_free (by simp) (by simp)) (.cons (v_free (by simp) (by simp)) (.cons (v_free (by simp) (by simp)) (.cons (v_free (by simp) (by simp)) (.cons (v_free (by simp) (by simp)) (.cons (v_free (by simp) (by simp)) .nil)))))))) .nil))))
  rw [iN s] at a
  refine sZ ?_ fun K hK => by simp [s]; exact hK
  refine TrD.cond (b := ieq e.1 4) (by simp) (fun t => ?_) (fun t => ?_)
  ·rw [if_pos t] at a
   refine sZ ?_ fun K hK => by simp [t]; exact hK
   refine TrD.cond (b := ilt 0 (lenZ p1.kids.length)) (by simp) (fun g => ?_) (fun g => ?_)
   ·rw [if_pos g] at a
    obtain ⟨ab, v, a⟩ := bindE a
    obtain ⟨x, w, a⟩ := bindE a
    refine rZ ?_ fun K hK => by simp [g, idx_inb v, idx_ltN 0 v]; exact hK
    cases a
    refine ToAny.mk (e.2, p1.op, p1.ctor, p1.n, p1.var, x) rfl ?_
    rw [f]
    exact Ghost.canonV 1 [0, 9, 25, 65] _ _ hβ (keep_first (by decide)) (by decide) (vT_upd (v_of (d0 := (.ptr 6 25 0 0)) (by simp) (v_ptr rfl)) (vT_upd (v_of (d0 := (.ptr 6 9 0 0)) (by simp) (v_ptr rfl)) (vT_any _))) (.cons (lv (L := ⟨2, [(rGl17Rd e.2)], 0, 0x00ba⟩) (by simp) rfl rfl (by simp) (rv_free (by simp) (by simp))) (.cons (lv (L := ⟨6, [[(eI 0), (eI 0), (eI 0), (eI 0), (eI 0), .nil]], 0, 0x0029⟩) (by simp) rfl rfl (by simp) (rv_cons (.cons (v_free (by simp) (by simp)) (.cons (v_free (by simp) (by simp)) (.cons (v_free (by simp) (by simp)) (.cons (v_free (by simp) (by simp)) (.cons (v_free (by simp) (by simp)) (.cons (v_free (by simp) (by simp)) .nil)))))) rv_nil)) (.cons (lv (L := ⟨6, [[(eI p1.op), (eI p1.ctor), (eI p1.n), (eI p1.m), (eI p1.var), (.sl 6 65 (x).length)]], 0, 0x0029⟩) (by simp [(setI_some w).1]) rfl rfl (by simp) (rv_cons (.cons (v_free (by simp) (by simp)) (.cons (v_free (by simp) (by simp)) (.cons (v_free (by simp) (by simp)) (.cons (v_free (by simp) (by simp)) (.cons (v_free (by simp) (by simp)) (.cons (v_sl rfl) .nil)))))) rv_nil)) (.cons (lv (L := ⟨6, ((List.map rGPattern p1.kids).set 0 [(eI 2), (eI 0), (eI 0), (eI 0), (eI 0), .nil]), 0, 0x0029⟩) (by simp) rfl rfl (by simp) (rv_set (setI_some w).1 (free_rows_of fr_GPattern _) (rGPattern_eq _) (.cons (v_free (by simp) (by simp)) (.cons (v_free (by simp) (by simp)) (.cons (v_free (by simp) (by simp)) (.cons (v_free (by simp) (by simp)) (.cons (v_free (by simp) (by simp)) (.cons (v_free (by simp) (by simp)) .nil)))))))) .nil))))
   rw [iN g] at a
   apply TrD.skip
   cases a
   refine ToAny.mk (e.2, p1.op, p1.ctor, p1.n, p1.var, p1.kids) rfl ?_
   rw [f]
   exact gC [0, 9, 25, 65]
  rw [iN t] at a
  refine sZ ?_ fun K hK => by simp [t]; exact hK
  refine TrD.cond (b := ieq e.1 5) (by simp) (fun i => ?_) (fun i => ?_)
  ·rw [if_pos i] at a
   obtain ⟨o, M, a⟩ := bindE a
   refine rk fun K hK => ?_
   simp [i]
   refine callK (.cons (.same _ _) (.cons (.sl _ _ _ _ _ (by simp; rfl) rfl (by simp) (by simp)) (.nil _))) (.same _ _) [0] (c_spec_l17Rd_num e.2 [10, (-1), 5] _ M) (by decide) (.cons (locRen_eq (by simp) (by simp) (by simp)) .nil) (.cons (ren_ptr rfl) (.cons (ren_le (by simp) (by simp)) .nil)) (fun T Y D => ?_)
   obtain ⟨rfl, rfl⟩ := D
   refine ⟨by simp, [some ⟨2, [(rGl17Rd o.2)], 0, 0x00ba⟩], (eI o.1), (.cons (optRen_same (by simp)) .nil), (ren_free (by simp)), ?_⟩
   simp [setMany, newNames]
   apply hK
   cases a
   refine ToAny.mk (o.2, p1.op, p1.ctor, o.1, p1.var, p1.kids) rfl ?_
   rw [f]
   exact gC [0, 9, 25, 65]
  rw [iN i] at a
  apply TrD.skip
  cases a
  refine ToAny.mk (e.2, p1.op, p1.ctor, p1.n, p1.var, p1.kids) rfl ?_
  rw [f]
  exact gC [0, 9, 25, 65]
 subst hz
 try dsimp only at h
 rw [congrFun f c]
 refine sZ ?_
 cases h
 apply TrD.ret
 refine exitHG (σ' := ⟨(updD (fun _ => .any) 4 (.ptr 6 1 0 0)), hOfO [some ⟨2, [(rGl17Rd c.1)], 0, 0x00ba⟩, some ⟨6, [(rGPattern (GPattern.mk c.2.1 c.2.2.1 c.2.2.2.1 p1.m c.2.2.2.2.1 c.2.2.2.2.2))], 0, 0x0029⟩], 2, 57⟩) ?_ ?_
 ·refine (Ghost.raise 3 (by simp; rfl)).trans ?_
  exact Ghost.canonV 1 [0, 1] _ _ hβ (keep_first (by decide)) (by decide) (vT_upd (v_of (d0 := (.ptr 6 1 0 0)) (by simp) (v_ptr rfl)) (vT_any _)) (.cons (lv (L := ⟨2, [(rGl17Rd c.1)], 0, 0x00ba⟩) (by simp) rfl rfl (by simp) (rv_free (by simp) (by simp))) (.cons (lv (L := ⟨6, [[(eI c.2.1), (eI c.2.2.1), (eI c.2.2.2.1), (eI p1.m), (eI c.2.2.2.2.1), (.sl 6 3 (c.2.2.2.2.2).length)]], 0, 0x0029⟩) (by simp) rfl rfl (by simp) (rv_consr (rGPattern_eq _) (.cons (v_free (by simp) (by simp)) (.cons (v_free (by simp) (by simp)) (.cons (v_free (by simp) (by simp)) (.cons (v_free (by simp) (by simp)) (.cons (v_free (by simp) (by simp)) (.cons (v_frz (by simp; rfl) rfl (by simp) (by simp) (rv_free (by simp) (by simp))) .nil)))))) rv_nil)) .nil))
 simp [resD]
 exact eX 1
end Go.Proofs.YtmkamncbkkahjaaGreat
