import Derived.Test.YtimpchdgflhkaaaGreatJMir
import Derived.Test.YtimpchdgflhkaaaGreatJZap
import Derived.Test.YtimpchdgflhkaaaGreatJC1
import Derived.Test.YtimpchdgflhkaaaGreatJC6
import Derived.Test.YtimpchdgflhkaaaGreatJC4
set_option linter.unusedSimpArgs false
set_option linter.unusedVariables false
namespace Go.Proofs.YtimpchdgflhkaaaGreat
open Go Go.RowKit
set_option maxRecDepth 100000
set_option maxHeartbeats 20000000
theorem c_spec_l2Draw : ∀ (n : Nat) (p0 : Gl17Rd) (p1 : (List GData)) (p2 : (List Int)) (p3 : GType) (p4 : Int) (res : GValue × Gl17Rd), m_spec_l2Draw n p0 p1 p2 p3 p4 = some res → CallsH Tryz.prog 0o00151 [⟨2, [(rGl17Rd p0)], 0, 0x0066⟩] [.ptr 2 0 0 0, (.slice 2 (List.map rGData p1)), (.slice 1 (List.map rI p2)), (.agg (rGType p3)), (eI p4)] (fun H d => H = [some ⟨2, [(rGl17Rd res.2)], 0, 0x0066⟩] ∧ d = (.agg (rGValue res.1))) := by
 intro n
 induction n with
 | zero => intro p0 p1 p2 p3 p4 res h; cases h
 | succ n ih =>
  intro p0 p1 p2 p3 p4 res h
  rw [m_spec_l2Draw.eq_2] at h
  refine CH Tryz.func105 [.cell 10 47] 1 fun β hβ => ?_
  refine sZ ?_
  apply sq
  refine sZ ?_
  refine TrD.cond (b := ieq p3.data (-1)) (by simp) (fun hb4 => ?_) (fun hb4 => ?_)
  ·rw [if_pos hb4] at h
   apply sq
   obtain ⟨r5, hr5, h⟩ := bindE h
   refine rk fun K hK => ?_
   simp [hb4]
   refine callK (views_same _ _) (.same _ _) [0] (c_spec_l17Rd_pick p0 10 _ hr5) (by decide) (.cons (locRen_eq (by simp) (by simp) (by simp)) .nil) (.cons (ren_ptr rfl) (.cons (ren_le (by simp) (by simp)) .nil)) (fun Hq6 qq6 hq6 => ?_)
   obtain ⟨rfl, rfl⟩ := hq6
   refine ⟨by simp, [some ⟨2, [(rGl17Rd r5.2)], 0, 0x0066⟩], (eI r5.1), (.cons (optRen_same (by simp)) .nil), (ren_free (by simp)), ?_⟩
   simp [setMany, newNames]
   apply hK
   cases h
   apply TrD.ret
   refine exitHG (σ' := ⟨(updD (fun _ => .any) 10 (.ptr 3 1 0 0)), hOfO [some ⟨2, [(rGl17Rd r5.2)], 0, 0x0066⟩, some ⟨3, [(rGValue (GValue.mk (-1) r5.1 []))], 0, 0x002f⟩], 2, 98⟩) ?_ ?_
   ·exact gC [0, 9]
   simp [resD]
   exact eX 1
  rw [iN hb4] at h
  apply TrD.skip
  apply sq
  obtain ⟨r7, hr7, h⟩ := bindE h
  refine rk fun K hK => ?_
  simp [hb4]
  refine cp (c_spec_l1Ctors p1 p3 _ hr7) ?_
  simp
  apply hK
  refine sZ ?_
  apply sq
  refine sZ ?_
  obtain ⟨ao, Z, h⟩ := bindE h
  obtain ⟨U, N⟩ : ∃ S : (List Int) → St, S = fun v => ⟨(updD (updD (updD (updD (updD (updD (updD (fun _ => .any) 0 (.ptr 2 0 0 0)) 1 (.slice 2 (List.map rGData p1))) 2 (.slice 1 (List.map rI p2))) 4 (eI p4)) 8 (.ptr 2 1 0 0)) 10 (.ptr 3 2 0 0)) 12 (.sl 1 3 (v).length)), hOfO [some ⟨2, [(rGl17Rd p0)], 0, 0x0066⟩, some ⟨2, [(rGType p3)], 0, 0x0019⟩, some ⟨3, [[(eI 0), (eI 0), .nil]], 0, 0x002f⟩, some ⟨1, (List.map rI v), 0, 0x0003⟩], 4, 98⟩ := ⟨_, rfl⟩
  refine TrD.joinQ U (fun z => ao = Ctl.brk z) (fun _ _ hg h => TrD.ghost hg h) ?_ (fun v hz => ?_)
  ·apply TrD.block
   obtain ⟨W, x⟩ : ∃ S : Nat → (List Int) → St, S = fun g a => ⟨(updD (updD (updD (updD (updD (updD (updD (updD (updD (fun _ => .any) 0 (.ptr 2 0 0 0)) 1 (.slice 2 (List.map rGData p1))) 2 (.slice 1 (List.map rI p2))) 4 (eI p4)) 8 (.ptr 2 1 0 0)) 10 (.ptr 3 2 0 0)) 11 (.slice 1 (List.map rI r7))) 12 (.sl 1 3 (a).length)) 13 (eI (g : Int))), hOfO [some ⟨2, [(rGl17Rd p0)], 0, 0x0066⟩, some ⟨2, [(rGType p3)], 0, 0x0019⟩, some ⟨3, [[(eI 0), (eI 0), .nil]], 0, 0x002f⟩, some ⟨1, (List.map rI a), 0, 0x0003⟩], 4, 98⟩ := ⟨_, rfl⟩
   refine TrD.limS (sz := 1) (rows := List.map rI r7) (seen_slot (d := .slice 1 (List.map rI r7)) 26 (by simp)) (fun hlim => ?_)
   rw [List.length_map] at hlim
   refine TrD.forL W Z hlim ?_ (fun g aw a q aE aF am k aI w aC aA => ?_) (fun a au => ?_)
   ·rw [x]
    exact gC [0, 1, 9, 73]
   ·rw [congrFun (congrFun x g) a]
    apply sq
    refine sZ ?_ fun K hK => by simp [am]; exact hK
    refine cT ?_
    apply TrD.skip
    obtain ⟨ap, c, w⟩ := bindE w
    obtain ⟨X, t⟩ : ∃ S : (List Int) → St, S = fun o => ⟨(updD (updD (updD (updD (updD (updD (updD (updD (updD (fun _ => .any) 0 (.ptr 2 0 0 0)) 1 (.slice 2 (List.map rGData p1))) 2 (.slice 1 (List.map rI p2))) 4 (eI p4)) 8 (.ptr 2 1 0 0)) 10 (.ptr 3 2 0 0)) 11 (.slice 1 (List.map rI r7))) 12 (.sl 1 3 (o).length)) 13 (eI (g : Int))), hOfO [some ⟨2, [(rGl17Rd p0)], 0, 0x0066⟩, some ⟨2, [(rGType p3)], 0, 0x0019⟩, some ⟨3, [[(eI 0), (eI 0), .nil]], 0, 0x002f⟩, some ⟨1, (List.map rI o), 0, 0x0003⟩], 4, 98⟩ := ⟨_, rfl⟩
    refine TrD.join X (fun z => ap = Ctl.brk z) ?_ (fun o hz => ?_)
    ·apply TrD.block
     apply sq
     refine TrD.ghost (σ' := ⟨(updD (updD (updD (updD (updD (updD (updD (updD (updD (fun _ => .any) 0 (.ptr 2 0 0 0)) 1 (.slice 2 (List.map rGData p1))) 2 (.slice 1 (List.map rI p2))) 4 (eI p4)) 8 (.ptr 2 1 0 0)) 10 (.ptr 3 2 0 0)) 11 (.slice 1 (List.map rI r7))) 12 (.sl 1 3 (a).length)) 13 (eI (g : Int))), hOfO [some ⟨2, [(rGl17Rd p0)], 0, 0x0066⟩, some ⟨2, [(rGType p3)], 0, 0x0019⟩, some ⟨3, [[(eI 0), (eI 0), .nil]], 0, 0x002f⟩, some ⟨1, (List.map rI a), 0, 0x0003⟩], 4, 98⟩) ?_ ?_
     ·exact gC [0, 1, 2, 3]
     obtain ⟨F, ah, c⟩ := bindE c
     refine TrD.draw tysOk mixed [0, 1, 2, 3, 4, 5, 6, 7, 8] [1] [] (by rfl) rfl (fun K hK => ?_)
     simp [idx_inb q, idx_row q]
     refine cp (c_spec_l1Most p1 p2 p3 aw _ ah) ?_
     simp
     apply hK
     apply sq
     rcases bb (ilt 0 F) with p | p
     ·rw [if_pos p] at c
      rcases bb (ile F p4) with u | u
      ·rw [if_pos u] at c
       refine rZ ?_ fun K hK => by simp [p, u]; exact hK
       refine cT ?_
       obtain ⟨I, A, c⟩ := bindE c
       have P := (app_some A).2
       try simp only [List.length_cons, List.length_nil, Nat.zero_add] at P
       refine rZ ?_ fun K hK => by simp [idx_inb q, idx_row q, P]; exact hK
       cases c
       refine ToAny.mk I rfl ?_
       rw [t]
       exact gc [0, 1, 2, 132] hβ (((((((((va.p 0).f).f).f).p 1).p 2).f).s 132 (by simp [(app_some A).1])).f) ((((ln.f (by simp [(app_some A).1])).c (lv (L := ⟨3, [[(eI 0), (eI 0), .nil]], 0, 0x002f⟩) (by simp) rfl rfl (by simp) (rv_cons (.cons (v_free (by simp) (by simp)) (.cons (v_free (by simp) (by simp)) (.cons (v_free (by simp) (by simp)) .nil))) rv_nil))).f).f)
      rw [iN u] at c
      obtain ⟨ar, ai, c⟩ := bindE c
      refine rk fun K hK => ?_
      simp [p, u]
      refine cp (c_spec_l1Depth p2 p3 _ ai) ?_
      simp
      apply hK
      refine TrD.cond (b := ieq F ar) (by simp) (fun f => ?_) (fun f => ?_)
      ·rw [if_pos f] at c
       obtain ⟨J, B, c⟩ := bindE c
       have Q := (app_some B).2
       try simp only [List.length_cons, List.length_nil, Nat.zero_add] at Q
       refine rZ ?_ fun K hK => by simp [idx_inb q, idx_row q, f, Q]; exact hK
       cases c
       refine ToAny.mk J rfl ?_
       rw [t]
       exact gc [0, 1, 2, 172] hβ (((((((((va.p 0).f).f).f).p 1).p 2).f).s 172 (by simp [(app_some B).1])).f) ((((ln.f (by simp [(app_some B).1])).c (lv (L := ⟨3, [[(eI 0), (eI 0), .nil]], 0, 0x002f⟩) (by simp) rfl rfl (by simp) (rv_cons (.cons (v_free (by simp) (by simp)) (.cons (v_free (by simp) (by simp)) (.cons (v_free (by simp) (by simp)) .nil))) rv_nil))).f).f)
      rw [iN f] at c
      apply TrD.skip
      cases c
      refine ToAny.mk a rfl ?_
      rw [t]
      exact gC [0, 1, 2, 3]
     rw [iN p] at c
     refine rZ ?_ fun K hK => by simp [p]; exact hK
     refine cF ?_
     apply TrD.skip
     cases c
     refine ToAny.mk a rfl ?_
     rw [t]
     exact gC [0, 1, 2, 3]
    subst hz
    try dsimp only at w
    rw [congrFun t o]
    refine rZ ?_
    cases w
    refine ToAny.mk o rfl ?_
    rw [x]
    exact gc [0, 1, 2, 3] hβ (((((((((va.p 0 (by simp [k])).f (by simp [k])).f (by simp [k])).f (by simp [k])).p 1 (by simp [k])).p 2 (by simp [k])).f (by simp [k])).s 3 (by simp [k])).f (by simp [k])) (((ln.f.c (lv (L := ⟨3, [[(eI 0), (eI 0), .nil]], 0, 0x002f⟩) (by simp) rfl rfl (by simp) (rv_cons (.cons (v_free (by simp) (by simp)) (.cons (v_free (by simp) (by simp)) (.cons (v_free (by simp) (by simp)) .nil))) rv_nil))).f).f)
   rw [congrFun (congrFun x _) a]
   apply sq
   refine sZ ?_ fun K hK => by simp [ilt_len r7.length]; exact hK
   refine cF ?_
   refine TrD.exit ?_
   try simp only [↓reduceIte, Nat.reduceEqDiff, Nat.zero_ne_one, Nat.one_ne_zero, OfNat.ofNat_ne_zero, OfNat.zero_ne_ofNat, OfNat.one_ne_ofNat, OfNat.ofNat_ne_one]
   refine ToAny.mk a au ?_
   rw [N]
   exact gC [0, 1, 2, 3]
  subst hz
  try dsimp only at h
  rw [congrFun N v]
  apply sq
  obtain ⟨G, aj, h⟩ := bindE h
  obtain ⟨j, E, h⟩ := bindE h
  refine rk fun K hK => ?_
  simp
  refine callK (views_same _ _) (.same _ _) [0] (c_spec_l17Rd_pick p0 (lenZ v.length) _ aj) (by decide) (.cons (locRen_eq (by simp) (by simp) (by simp)) .nil) (.cons (ren_ptr rfl) (.cons (ren_le (by simp) (by simp)) .nil)) (fun az aP af => ?_)
  obtain ⟨rfl, rfl⟩ := af
  refine ⟨by simp, [some ⟨2, [(rGl17Rd G.2)], 0, 0x0066⟩], (eI G.1), (.cons (optRen_same (by simp)) .nil), (ren_free (by simp)), ?_⟩
  simp [setMany, newNames, idx_inb E, idx_lt E, elt (idx_get E)]
  apply hK
  apply sq
  obtain ⟨m, ak, h⟩ := bindE h
  refine rk fun K hK => ?_
  simp
  refine cp (c_spec_l1Args p1 p3 j _ ak) ?_
  simp
  apply hK
  apply sq
  refine sZ ?_
  obtain ⟨aq, aa, h⟩ := bindE h
  obtain ⟨V, O⟩ : ∃ S : (Gl17Rd × (List GValue)) → St, S = fun i => ⟨(updD (updD (fun _ => .any) 10 (.ptr 3 1 0 0)) 15 (.ptr 3 2 0 0)), hOfO [some ⟨2, [(rGl17Rd i.1)], 0, 0x0066⟩, some ⟨3, [[(eI 0), (eI 0), .nil]], 0, 0x002f⟩, some ⟨3, [[(eI j), (eI 0), (.sl 3 3 (i.2).length)]], 0, 0x002f⟩, some ⟨3, (List.map rGValue i.2), 0, 0x002f⟩], 4, 98⟩ := ⟨_, rfl⟩
  refine TrD.joinQ V (fun z => aq = Ctl.brk z) (fun _ _ hg h => TrD.ghost hg h) ?_ (fun i hz => ?_)
  ·apply TrD.block
   obtain ⟨Y, y⟩ : ∃ S : Nat → (Gl17Rd × (List GValue)) → St, S = fun r e => ⟨(updD (updD (updD (updD (updD (updD (updD (updD (fun _ => .any) 0 (.ptr 2 0 0 0)) 1 (.slice 2 (List.map rGData p1))) 2 (.slice 1 (List.map rI p2))) 4 (eI p4)) 10 (.ptr 3 1 0 0)) 15 (.ptr 3 2 0 0)) 16 (.slice 2 (List.map rGType m))) 17 (eI (r : Int))), hOfO [some ⟨2, [(rGl17Rd e.1)], 0, 0x0066⟩, some ⟨3, [[(eI 0), (eI 0), .nil]], 0, 0x002f⟩, some ⟨3, [[(eI j), (eI 0), (.sl 3 3 (e.2).length)]], 0, 0x002f⟩, some ⟨3, (List.map rGValue e.2), 0, 0x002f⟩], 4, 98⟩ := ⟨_, rfl⟩
   refine TrD.limS (sz := 2) (rows := List.map rGType m) (seen_slot (d := .slice 2 (List.map rGType m)) 75 (by simp)) (fun hlim => ?_)
   rw [List.length_map] at hlim
   refine TrD.forL Y aa hlim ?_ (fun r ax e T aG aH an l aJ s aD aB => ?_) (fun e av => ?_)
   ·rw [y]
    refine (Ghost.ownNilCell 68 2 3 0x002f (by simp; rfl) rfl (by simp) (by simp)).trans ?_
    exact gC [0, 2, 68, 140]
   ·rw [congrFun (congrFun y r) e]
    apply sq
    refine sZ ?_ fun K hK => by simp [an]; exact hK
    refine cT ?_
    apply TrD.skip
    apply sq
    apply TrD.block
    refine TrD.ghost (σ' := ⟨(updD (updD (updD (updD (updD (updD (updD (updD (fun _ => .any) 0 (.ptr 2 0 0 0)) 1 (.slice 2 (List.map rGData p1))) 2 (.slice 1 (List.map rI p2))) 4 (eI p4)) 10 (.ptr 3 1 0 0)) 15 (.ptr 3 2 0 0)) 16 (.slice 2 (List.map rGType m))) 17 (eI (r : Int))), hOfO [some ⟨2, [(rGl17Rd e.1)], 0, 0x0066⟩, some ⟨3, [[(eI 0), (eI 0), .nil]], 0, 0x002f⟩, some ⟨3, [[(eI j), (eI 0), (.sl 3 3 (e.2).length)]], 0, 0x002f⟩, some ⟨3, (List.map rGValue e.2), 0, 0x002f⟩], 4, 98⟩) ?_ ?_
    ·exact gC [0, 1, 2, 3]
    obtain ⟨D, al, s⟩ := bindE s
    obtain ⟨M, C, s⟩ := bindE s
    have R := (app_some C).2
    try simp only [List.length_cons, List.length_nil, Nat.zero_add] at R
    refine TrD.draw tysOk mixed [0, 1, 2, 3, 4, 5, 6, 7, 8, 9, 10, 11, 12, 13, 14, 15] [2] [96] (by rfl) rfl (fun K hK => ?_)
    simp [idx_inb T, idx_row T]
    refine callK (views_same _ _) (.same _ _) [0] (ih e.1 p1 p2 ax (wsub .i64 p4 1) _ al) (by decide) (.cons (locRen_eq (by simp) (by simp) (by simp)) .nil) (.cons (ren_ptr rfl) (.cons (ren_le (by simp) (by simp)) (.cons (ren_le (by simp) (by simp)) (.cons (ren_le (by simp) (by simp)) (.cons (ren_le (by simp) (by simp)) .nil))))) (fun ay aO ad => ?_)
    obtain ⟨rfl, rfl⟩ := ad
    refine ⟨by simp, [some ⟨2, [(rGl17Rd D.2)], 0, 0x0066⟩], (.agg (rGValue D.1)), (.cons (optRen_same (by simp)) .nil), (ren_free (by simp)), ?_⟩
    simp [setMany, newNames, R]
    apply hK
    refine rZ ?_
    cases s
    refine ToAny.mk (D.2, M) rfl ?_
    rw [y]
    exact Ghost.canonV 1 [0, 1, 2, 20] _ _ hβ (keep_first (by decide)) (by decide) (vT_upd (v_of (d0 := (eI (wadd .i64 (r : Int) 1))) (by simp [l]) (v_free (by simp) (by simp [l]))) (vT_upd (v_of (d0 := (.slice 2 (List.map rGType m))) (by simp [l]) (v_free (by simp) (by simp))) (vT_upd (v_of (d0 := (.ptr 3 2 0 0)) (by simp [l]) (v_ptr rfl)) (vT_upd (v_of (d0 := (.ptr 3 1 0 0)) (by simp [l]) (v_ptr rfl)) (vT_upd (v_of (d0 := (eI p4)) (by simp [l]) (v_free (by simp) (by simp))) (vT_upd (v_of (d0 := (.slice 1 (List.map rI p2))) (by simp [l]) (v_free (by simp) (by simp))) (vT_upd (v_of (d0 := (.slice 2 (List.map rGData p1))) (by simp [l]) (v_free (by simp) (by simp))) (vT_upd (v_of (d0 := (.ptr 2 0 0 0)) (by simp [l]) (v_ptr rfl)) (vT_any _))))))))) (.cons (lv (L := ⟨2, [(rGl17Rd D.2)], 0, 0x0066⟩) (by simp) rfl rfl (by simp) (rv_free (by simp) (by simp))) (.cons (lv (L := ⟨3, [[(eI 0), (eI 0), .nil]], 0, 0x002f⟩) (by simp) rfl rfl (by simp) (rv_cons (.cons (v_free (by simp) (by simp)) (.cons (v_free (by simp) (by simp)) (.cons (v_free (by simp) (by simp)) .nil))) rv_nil)) (.cons (lv (L := ⟨3, [[(eI j), (eI 0), (.sl 3 20 (M).length)]], 0, 0x002f⟩) (by simp [(app_some C).1]) rfl rfl (by simp) (rv_cons (.cons (v_free (by simp) (by simp)) (.cons (v_free (by simp) (by simp)) (.cons (v_sl rfl) .nil))) rv_nil)) (.cons (lv (L := ⟨3, (List.map rGValue M), 0, 0x002f⟩) (by simp [(app_some C).1]) rfl rfl (by simp) (rv_free (by simp [(app_some C).1]) (free_rows_of fr_GValue _))) .nil))))
   rw [congrFun (congrFun y _) e]
   apply sq
   refine sZ ?_ fun K hK => by simp [ilt_len m.length]; exact hK
   refine cF ?_
   refine TrD.exit ?_
   try simp only [↓reduceIte, Nat.reduceEqDiff, Nat.zero_ne_one, Nat.one_ne_zero, OfNat.ofNat_ne_zero, OfNat.zero_ne_ofNat, OfNat.one_ne_ofNat, OfNat.ofNat_ne_one]
   refine ToAny.mk e av ?_
   rw [O]
   exact gC [0, 1, 2, 3]
  subst hz
  try dsimp only at h
  rw [congrFun O i]
  refine sZ ?_
  cases h
  apply TrD.ret
  refine exitHG (σ' := ⟨(updD (fun _ => .any) 10 (.ptr 3 1 0 0)), hOfO [some ⟨2, [(rGl17Rd i.1)], 0, 0x0066⟩, some ⟨3, [(rGValue (GValue.mk j 0 i.2))], 0, 0x002f⟩], 2, 98⟩) ?_ ?_
  ·refine (Ghost.raise 3 (by simp; rfl)).trans ?_
   exact Ghost.canonV 1 [0, 1] _ _ hβ (keep_first (by decide)) (by decide) (vT_upd (v_of (d0 := (.ptr 3 1 0 0)) (by simp) (v_ptr rfl)) (vT_any _)) (.cons (lv (L := ⟨2, [(rGl17Rd i.1)], 0, 0x0066⟩) (by simp) rfl rfl (by simp) (rv_free (by simp) (by simp))) (.cons (lv (L := ⟨3, [[(eI j), (eI 0), (.sl 3 3 (i.2).length)]], 0, 0x002f⟩) (by simp) rfl rfl (by simp) (rv_consr (rGValue_eq _) (.cons (v_free (by simp) (by simp)) (.cons (v_free (by simp) (by simp)) (.cons (v_frz (by simp; rfl) rfl (by simp) (by simp) (rv_free (by simp) (by simp))) .nil))) rv_nil)) .nil))
  simp [resD]
  exact eX 1
set_option maxRecDepth 100000 in
theorem c_spec_l2Typed (n : Nat) (p0 : Gl17Rd) (res : (List GData) × GType × GValue × Gl17Rd) (h : m_spec_l2Typed n p0 = some res) : CallsH Tryz.prog 0o00107 [⟨2, [(rGl17Rd p0)], 0, 0x0066⟩] [.ptr 2 0 0 0] (fun H d => H = [some ⟨2, [(rGl17Rd res.2.2.2)], 0, 0x0066⟩] ∧ d = .tup [(.slice 2 (List.map rGData res.1)), (.agg (rGType res.2.1)), (.agg (rGValue res.2.2.1))]) := by
 unfold m_spec_l2Typed at h
 refine CH Tryz.func71 [.tmp 2, .cell 3 25, .cell 4 47] 1 fun β hβ => ?_
 refine sZ ?_
 apply sq
 obtain ⟨r1, hr1, h⟩ := bindE h
 refine rk fun K hK => ?_
 simp
 refine callK (views_same _ _) (.same _ _) [0] (c_spec_l1World n p0 _ hr1) (by decide) (.cons (locRen_eq (by simp) (by simp) (by simp)) .nil) (.cons (ren_ptr rfl) .nil) (fun A I q => ?_)
 obtain ⟨rfl, rfl⟩ := q
 refine ⟨by simp, [some ⟨2, [(rGl17Rd r1.2)], 0, 0x0066⟩], (.slice 2 (List.map rGData r1.1)), (.cons (optRen_same (by simp)) .nil), (ren_free (by simp)), ?_⟩
 simp [setMany, newNames]
 apply hK
 apply sq
 obtain ⟨r2, hr2, h⟩ := bindE h
 refine rk fun K hK => ?_
 simp
 refine cp (c_spec_l1Table n r1.1 _ hr2) ?_
 simp
 apply hK
 apply sq
 obtain ⟨r3, hr3, h⟩ := bindE h
 obtain ⟨r4, hr4, h⟩ := bindE h
 refine rk fun K hK => ?_
 simp
 refine callK (views_same _ _) (.same _ _) [0] (c_spec_l17Rd_pick r1.2 (lenZ r1.1.length) _ hr3) (by decide) (.cons (locRen_eq (by simp) (by simp) (by simp)) .nil) (.cons (ren_ptr rfl) (.cons (ren_le (by simp) (by simp)) .nil)) (fun x F m => ?_)
 obtain ⟨rfl, rfl⟩ := m
 refine ⟨by simp, [some ⟨2, [(rGl17Rd r3.2)], 0, 0x0066⟩], (eI r3.1), (.cons (optRen_same (by simp)) .nil), (ren_free (by simp)), ?_⟩
 simp [setMany, newNames]
 refine callK (.cons (.same _ _) (.cons (.sl _ _ _ _ _ (by simp; rfl) rfl (by simp []) (by simp)) (.nil _))) (.same _ _) [0] (c_spec_l17Rd_num r3.2 [0, 0, 1, 2] _ hr4) (by decide) (.cons (locRen_eq (by simp) (by simp) (by simp)) .nil) (.cons (ren_ptr rfl) (.cons (ren_le (by simp) (by simp)) .nil)) (fun y G o => ?_)
 obtain ⟨rfl, rfl⟩ := o
 refine ⟨by simp, [some ⟨2, [(rGl17Rd r4.2)], 0, 0x0066⟩], (eI r4.1), (.cons (optRen_same (by simp)) .nil), (ren_free (by simp)), ?_⟩
 simp [setMany, newNames]
 apply hK
 obtain ⟨o9, e, h⟩ := bindE h
 obtain ⟨i, g⟩ : ∃ S : Int × Int → St, S = fun s8 => ⟨(updD (updD (updD (updD (updD (updD (fun _ => .any) 0 (.ptr 2 0 0 0)) 3 (.ptr 2 1 0 0)) 4 (.ptr 3 2 0 0)) 5 (.slice 2 (List.map rGData r1.1))) 6 (.slice 1 (List.map rI r2))) 7 (.ptr 2 3 0 0)), hOfO [some ⟨2, [(rGl17Rd r4.2)], 0, 0x0066⟩, some ⟨2, [[(eI 0), (eI 0)]], 0, 0x0019⟩, some ⟨3, [[(eI 0), (eI 0), .nil]], 0, 0x002f⟩, some ⟨2, [[(eI s8.1), (eI s8.2)]], 0, 0x0019⟩], 4, 35⟩ := ⟨_, rfl⟩
 refine TrD.join i (fun z => o9 = Ctl.brk z) ?_ (fun s8 hz => ?_)
 ·apply sq
  obtain ⟨u, r, e⟩ := bindE e
  refine rk fun K hK => ?_
  simp
  refine cp (c_spec_l1Depth r2 (GType.mk r3.1 r4.1) _ r) ?_
  simp
  apply hK
  refine TrD.cond (b := ieq u 0) (by simp) (fun a => ?_) (fun a => ?_)
  ·rw [if_pos a] at e
   refine rZ ?_ fun K hK => by simp [a]; exact hK
   cases e
   refine ToAny.mk ((-1), 0) rfl ?_
   rw [g]
   exact gC [0, 9, 17, 137]
  rw [iN a] at e
  apply TrD.skip
  cases e
  refine ToAny.mk (r3.1, r4.1) rfl ?_
  rw [g]
  exact gC [0, 9, 17, 137]
 subst hz
 try dsimp only at h
 rw [congrFun g s8]
 apply sq
 refine TrD.ghost (σ' := ⟨(updD (updD (updD (updD (updD (updD (fun _ => .any) 0 (.ptr 2 0 0 0)) 3 (.ptr 2 1 0 0)) 4 (.ptr 3 2 0 0)) 5 (.slice 2 (List.map rGData r1.1))) 6 (.slice 1 (List.map rI r2))) 7 (.ptr 2 3 0 0)), hOfO [some ⟨2, [(rGl17Rd r4.2)], 0, 0x0066⟩, some ⟨2, [[(eI 0), (eI 0)]], 0, 0x0019⟩, some ⟨3, [[(eI 0), (eI 0), .nil]], 0, 0x002f⟩, some ⟨2, [[(eI s8.1), (eI s8.2)]], 0, 0x0019⟩], 4, 35⟩) ?_ ?_
 ·exact gC [0, 1, 2, 3]
 obtain ⟨f, s, h⟩ := bindE h
 obtain ⟨c, t, h⟩ := bindE h
 refine TrD.draw tysOk mixed [0, 1, 2, 3, 4, 5, 6, 7, 8, 9, 10, 11, 12] [3] [] (by rfl) rfl (fun K hK => ?_)
 simp
 refine callK (.cons (.same _ _) (.cons (.sl _ _ _ _ _ (by simp; rfl) rfl (by simp []) (by simp)) (.nil _))) (.same _ _) [0] (c_spec_l17Rd_num r4.2 [3, 2, 4, 1] _ s) (by decide) (.cons (locRen_eq (by simp) (by simp) (by simp)) .nil) (.cons (ren_ptr rfl) (.cons (ren_le (by simp) (by simp)) .nil)) (fun v D k => ?_)
 obtain ⟨rfl, rfl⟩ := k
 refine ⟨by simp, [some ⟨2, [(rGl17Rd f.2)], 0, 0x0066⟩], (eI f.1), (.cons (optRen_same (by simp)) .nil), (ren_free (by simp)), ?_⟩
 simp [setMany, newNames]
 refine callK (views_same _ _) (.same _ _) [0] (c_spec_l2Draw n f.2 r1.1 r2 (GType.mk s8.1 s8.2) f.1 _ t) (by decide) (.cons (locRen_eq (by simp) (by simp) (by simp)) .nil) (.cons (ren_ptr rfl) (.cons (ren_le (by simp) (by simp)) (.cons (ren_le (by simp) (by simp)) (.cons (ren_le (by simp) (by simp)) (.cons (ren_le (by simp) (by simp)) .nil))))) (fun w E l => ?_)
 obtain ⟨rfl, rfl⟩ := l
 refine ⟨by simp, [some ⟨2, [(rGl17Rd c.2)], 0, 0x0066⟩], (.agg (rGValue c.1)), (.cons (optRen_same (by simp)) .nil), (ren_free (by simp)), ?_⟩
 simp [setMany, newNames]
 apply hK
 cases h
 apply TrD.ret
 refine exitHG (σ' := ⟨(updD (updD (updD (fun _ => .any) 2 (.slice 2 (List.map rGData r1.1))) 3 (.ptr 2 1 0 0)) 4 (.ptr 3 2 0 0)), hOfO [some ⟨2, [(rGl17Rd c.2)], 0, 0x0066⟩, some ⟨2, [(rGType (GType.mk s8.1 s8.2))], 0, 0x0019⟩, some ⟨3, [(rGValue c.1)], 0, 0x002f⟩], 3, 35⟩) ?_ ?_
 ·exact gC [0, 1, 2]
 simp [resD]
 exact eX 1
set_option maxRecDepth 100000 in
theorem c_spec_l4Typed (n : Nat) (p0 : Gl17Rd) (res : (List GData) × GType × (List GClause) × GValue × Gl17Rd) (h : m_spec_l4Typed n p0 = some res) : CallsH Tryz.prog 0o00043 [⟨2, [(rGl17Rd p0)], 0, 0x0066⟩] [.ptr 2 0 0 0] (fun H d => H = [some ⟨2, [(rGl17Rd res.2.2.2.2)], 0, 0x0066⟩, some ⟨9, List.map rGClause res.2.2.1, 0, 0x0026⟩] ∧ d = .tup [(.slice 2 (List.map rGData res.1)), (.agg (rGType res.2.1)), .sl 9 1 res.2.2.1.length, (.agg (rGValue res.2.2.2.1))]) := by
 unfold m_spec_l4Typed at h
 refine CH Tryz.func35 [.tmp 2, .cell 3 25, .tmp 4, .cell 5 47] 1 fun β hβ => ?_
 refine sZ ?_
 apply sq
 obtain ⟨r1, hr1, h⟩ := bindE h
 refine rk fun K hK => ?_
 simp
 refine callK (views_same _ _) (.same _ _) [0] (c_spec_l2Typed n p0 _ hr1) (by decide) (.cons (locRen_eq (by simp) (by simp) (by simp)) .nil) (.cons (ren_ptr rfl) .nil) (fun Hq4 qq4 hq4 => ?_)
 obtain ⟨rfl, rfl⟩ := hq4
 refine ⟨by simp, [some ⟨2, [(rGl17Rd r1.2.2.2)], 0, 0x0066⟩], (.tup [(.slice 2 (List.map rGData r1.1)), (.agg (rGType r1.2.1)), (.agg (rGValue r1.2.2.1))]), (.cons (optRen_same (by simp)) .nil), (ren_free (by simp)), ?_⟩
 simp [setMany, newNames]
 apply hK
 apply sq
 refine TrD.ghost (σ' := ⟨(updD (updD (updD (updD (updD (updD (fun _ => .any) 0 (.ptr 2 0 0 0)) 3 (.ptr 2 1 0 0)) 5 (.ptr 3 2 0 0)) 6 (.slice 2 (List.map rGData r1.1))) 7 (.ptr 2 3 0 0)) 8 (.ptr 3 4 0 0)), hOfO [some ⟨2, [(rGl17Rd r1.2.2.2)], 0, 0x0066⟩, some ⟨2, [[(eI 0), (eI 0)]], 0, 0x0019⟩, some ⟨3, [[(eI 0), (eI 0), .nil]], 0, 0x002f⟩, some ⟨2, [(rGType r1.2.1)], 0, 0x0019⟩, some ⟨3, [(rGValue r1.2.2.1)], 0, 0x002f⟩], 5, 22⟩) ?_ ?_
 ·exact gC [0, 9, 25, 81, 89]
 obtain ⟨r2, hr2, h⟩ := bindE h
 refine TrD.draw tysOk mixed [0, 1, 2, 3, 4, 6, 5, 7, 8, 9, 10] [3, 4] [] (by rfl) rfl (fun K hK => ?_)
 simp
 refine callK (views_same _ _) (.same _ _) [0] (c_spec_l4List n r1.2.2.2 r1.1 r1.2.1 _ hr2) (by decide) (.cons (locRen_eq (by simp) (by simp) (by simp)) .nil) (.cons (ren_ptr rfl) (.cons (ren_le (by simp) (by simp)) (.cons (ren_le (by simp) (by simp)) .nil))) (fun Hq3 qq3 hq3 => ?_)
 obtain ⟨rfl, rfl⟩ := hq3
 refine ⟨by simp, [some ⟨2, [(rGl17Rd r2.2)], 0, 0x0066⟩, some ⟨9, (List.map rGClause r2.1), 0, 0x0026⟩], (.sl 9 6 (r2.1).length), (.cons (optRen_same (by simp)) (.cons (optRen_same (by simp)) .nil)), (ren_sl (by rfl)), ?_⟩
 simp [setMany, newNames]
 apply hK
 cases h
 apply TrD.ret
 refine exitHG (σ' := ⟨(updD (updD (updD (updD (fun _ => .any) 2 (.slice 2 (List.map rGData r1.1))) 3 (.ptr 2 2 0 0)) 4 (.sl 9 1 (r2.1).length)) 5 (.ptr 3 3 0 0)), hOfO [some ⟨2, [(rGl17Rd r2.2)], 0, 0x0066⟩, some ⟨9, (List.map rGClause r2.1), 0, 0x0026⟩, some ⟨2, [(rGType r1.2.1)], 0, 0x0019⟩, some ⟨3, [(rGValue r1.2.2.1)], 0, 0x002f⟩], 4, 22⟩) ?_ ?_
 ·exact gC [0, 6, 1, 2]
 simp [resD]
 exact eX 2
set_option maxRecDepth 100000 in
theorem c_spec_l5Any  (res : GPattern) (h : m_spec_l5Any  = some res) : CallsD Tryz.prog 0o00045 [] (fun d => d = (.agg (rGPattern res))) := by
 unfold m_spec_l5Any at h
 refine CD Tryz.func37 [.cell 0 32] fun β hβ => ?_
 refine sZ ?_
 refine sZ ?_
 cases h
 apply TrD.ret
 refine exitDG (σ' := ⟨(updD (fun _ => .any) 0 (.ptr 6 0 0 0)), hOfO [some ⟨6, [(rGPattern (GPattern.mk 1 0 0 0 0 []))], 0, 0x0020⟩], 1, 2⟩) ?_ ?_
 ·exact gC [0]
 simp [resD]
 exact eF
theorem c_spec_l3Mutate (p0 : Gl17Rd) (p1 : GPattern) (res : GPattern × Gl17Rd) (h : m_spec_l3Mutate p0 p1 = some res) : CallsH Tryz.prog 0o00112 [⟨2, [(rGl17Rd p0)], 0, 0x0066⟩] [.ptr 2 0 0 0, (.agg (rGPattern p1))] (fun H d => H = [some ⟨2, [(rGl17Rd res.2)], 0, 0x0066⟩] ∧ d = (.agg (rGPattern res.1))) := by
 unfold m_spec_l3Mutate at h
 refine CH Tryz.func74 [.cell 4 32] 1 fun β hβ => ?_
 refine sZ ?_
 refine sZ ?_
 apply sq
 obtain ⟨x1, hx1, h⟩ := bindE h
 have hx1_r := (app_some hx1).2
 try simp only [List.length_nil, Nat.zero_add] at hx1_r
 obtain hhx1 := app_nil hx1
 subst hhx1
 refine rZ ?_ fun K hK => by simp [hx1_r]; exact hK
 obtain ⟨O, a, h⟩ := bindE h
 obtain ⟨y, f⟩ : ∃ S : Gl17Rd × Int × Int × Int × Int × (List GPattern) → St, S = fun c => ⟨(updD (updD (fun _ => .any) 4 (.ptr 6 1 0 0)) 5 (.ptr 6 2 0 0)), hOfO [some ⟨2, [(rGl17Rd c.1)], 0, 0x0066⟩, some ⟨6, [[(eI 0), (eI 0), (eI 0), (eI 0), (eI 0), .nil]], 0, 0x0020⟩, some ⟨6, [[(eI c.2.1), (eI c.2.2.1), (eI c.2.2.2.1), (eI p1.m), (eI c.2.2.2.2.1), (.sl 6 3 (c.2.2.2.2.2).length)]], 0, 0x0020⟩, some ⟨6, (List.map rGPattern c.2.2.2.2.2), 0, 0x0020⟩], 4, 57⟩ := ⟨_, rfl⟩
 refine TrD.join y (fun z => O = Ctl.brk z) ?_ (fun c hz => ?_)
 ·apply sq
  obtain ⟨e, F, a⟩ := bindE a
  refine rk fun K hK => ?_
  simp
  refine callK (views_same _ _) (.same _ _) [0] (c_spec_l17Rd_pick p0 30 _ F) (by decide) (.cons (locRen_eq (by simp) (by simp) (by simp)) .nil) (.cons (ren_ptr rfl) (.cons (ren_le (by simp) (by simp)) .nil)) (fun U Z E => ?_)
  obtain ⟨rfl, rfl⟩ := E
  refine ⟨by simp, [some ⟨2, [(rGl17Rd e.2)], 0, 0x0066⟩], (eI e.1), (.cons (optRen_same (by simp)) .nil), (ren_free (by simp)), ?_⟩
  simp [setMany, newNames]
  apply hK
  apply TrD.block
  refine sZ ?_
  refine TrD.cond (b := ieq e.1 0) (by simp) (fun p => ?_) (fun p => ?_)
  ·rw [if_pos p] at a
   obtain ⟨j, G, a⟩ := bindE a
   refine rk fun K hK => ?_
   simp [p]
   refine callK (.cons (.same _ _) (.cons (.sl _ _ _ _ _ (by simp; rfl) rfl (by simp) (by simp)) (.nil _))) (.same _ _) [0] (c_spec_l17Rd_num e.2 [0, 7, 1, 2, 5] _ G) (by decide) (.cons (locRen_eq (by simp) (by simp) (by simp)) .nil) (.cons (ren_ptr rfl) (.cons (ren_le (by simp) (by simp)) .nil)) (fun P V A => ?_)
   obtain ⟨rfl, rfl⟩ := A
   refine ⟨by simp, [some ⟨2, [(rGl17Rd j.2)], 0, 0x0066⟩], (eI j.1), (.cons (optRen_same (by simp)) .nil), (ren_free (by simp)), ?_⟩
   simp [setMany, newNames]
   apply hK
   cases a
   refine ToAny.mk (j.2, j.1, p1.ctor, p1.n, p1.var, p1.kids) rfl ?_
   rw [f]
   exact gC [0, 9, 25, 65]
  rw [iN p] at a
  refine sZ ?_ fun K hK => by simp [p]; exact hK
  refine TrD.cond (b := ieq e.1 1) (by simp) (fun q => ?_) (fun q => ?_)
  ·rw [if_pos q] at a
   obtain ⟨k, I, a⟩ := bindE a
   refine rk fun K hK => ?_
   simp [q]
   refine callK (.cons (.same _ _) (.cons (.sl _ _ _ _ _ (by simp; rfl) rfl (by simp) (by simp)) (.nil _))) (.same _ _) [0] (c_spec_l17Rd_num e.2 [6, (-1), 1] _ I) (by decide) (.cons (locRen_eq (by simp) (by simp) (by simp)) .nil) (.cons (ren_ptr rfl) (.cons (ren_le (by simp) (by simp)) .nil)) (fun Q W B => ?_)
   obtain ⟨rfl, rfl⟩ := B
   refine ⟨by simp, [some ⟨2, [(rGl17Rd k.2)], 0, 0x0066⟩], (eI k.1), (.cons (optRen_same (by simp)) .nil), (ren_free (by simp)), ?_⟩
   simp [setMany, newNames]
   apply hK
   cases a
   refine ToAny.mk (k.2, p1.op, p1.ctor, p1.n, k.1, p1.kids) rfl ?_
   rw [f]
   exact gC [0, 9, 25, 65]
  rw [iN q] at a
  refine sZ ?_ fun K hK => by simp [q]; exact hK
  refine TrD.cond (b := ieq e.1 2) (by simp) (fun r => ?_) (fun r => ?_)
  ·rw [if_pos r] at a
   obtain ⟨l, J, a⟩ := bindE a
   refine rk fun K hK => ?_
   simp [r]
   refine callK (.cons (.same _ _) (.cons (.sl _ _ _ _ _ (by simp; rfl) rfl (by simp) (by simp)) (.nil _))) (.same _ _) [0] (c_spec_l17Rd_num e.2 [9, (-1), 1] _ J) (by decide) (.cons (locRen_eq (by simp) (by simp) (by simp)) .nil) (.cons (ren_ptr rfl) (.cons (ren_le (by simp) (by simp)) .nil)) (fun R X C => ?_)
   obtain ⟨rfl, rfl⟩ := C
   refine ⟨by simp, [some ⟨2, [(rGl17Rd l.2)], 0, 0x0066⟩], (eI l.1), (.cons (optRen_same (by simp)) .nil), (ren_free (by simp)), ?_⟩
   simp [setMany, newNames]
   apply hK
   cases a
   refine ToAny.mk (l.2, p1.op, l.1, p1.n, p1.var, p1.kids) rfl ?_
   rw [f]
   exact gC [0, 9, 25, 65]
  rw [iN r] at a
  refine sZ ?_ fun K hK => by simp [r]; exact hK
  refine TrD.cond (b := ieq e.1 3) (by simp) (fun s => ?_) (fun s => ?_)
  ·rw [if_pos s] at a
   obtain ⟨aa, N, a⟩ := bindE a
   have u := (app_some N).2
   try simp only [List.length_cons, List.length_nil, Nat.zero_add] at u
   refine rZ ?_ fun K hK => by simp [s, u]; exact hK
   cases a
   refine ToAny.mk (e.2, p1.op, p1.ctor, p1.n, p1.var, (p1.kids ++ [(GPattern.mk 2 0 0 0 0 [])])) rfl ?_
   rw [f]
   exact Ghost.canonV 1 [0, 9, 25, 201] _ _ hβ (keep_first (by decide)) (by decide) (vT_upd (v_of (d0 := (.ptr 6 25 0 0)) (by simp) (v_ptr rfl)) (vT_upd (v_of (d0 := (.ptr 6 9 0 0)) (by simp) (v_ptr rfl)) (vT_any _))) (.cons (lv (L := ⟨2, [(rGl17Rd e.2)], 0, 0x0066⟩) (by simp) rfl rfl (by simp) (rv_free (by simp) (by simp))) (.cons (lv (L := ⟨6, [[(eI 0), (eI 0), (eI 0), (eI 0), (eI 0), .nil]], 0, 0x0020⟩) (by simp) rfl rfl (by simp) (rv_cons (.cons (v_free (by simp) (by simp)) (.cons (v_free (by simp) (by simp)) (.cons (v_free (by simp) (by simp)) (.cons (v_free (by simp) (by simp)) (.cons (v_free (by simp) (by simp)) (.cons (v_free (by simp) (by simp)) .nil)))))) rv_nil)) (.cons (lv (L := ⟨6, [[(eI p1.op), (eI p1.ctor), (eI p1.n), (eI p1.m), (eI p1.var), (.sl 6 201 ((p1.kids ++ [(GPattern.mk 2 0 0 0 0 [])])).length)]], 0, 0x0020⟩) (by simp) rfl rfl (by simp) (rv_cons (.cons (v_free (by simp) (by simp)) (.cons (v_free (by simp) (by simp)) (.cons (v_free (by simp) (by simp)) (.cons (v_free (by simp) (by simp)) (.cons (v_free (by simp) (by simp)) (.cons (v_sl rfl) .nil)))))) rv_nil)) (.cons (lv (L := ⟨6, ((List.map rGPattern p1.kids) ++ [[(eI 2), (eI 0), (eI 0), (eI 0), (eI 0), .nil]]), 0, 0x0020⟩) (by simp) rfl rfl (by simp) (rv_snocr (by simp) (rGPattern_eq _) (.cons (v_free (by simp) (by simp)) (.cons (v_free (by simp) (by simp)) (.cons (v_free (by simp) (by simp)) (.cons (v_free (by simp) (by simp)) (.cons (v_free (by simp) (by simp)) (.cons (v_free (by simp) (by simp)) .nil)))))))) .nil))))
  rw [iN s] at a
  refine sZ ?_ fun K hK => by simp [s]; exact hK
  refine TrD.cond (b := ieq e.1 4) (by simp) (fun t => ?_) (fun t => ?_)
  ·rw [if_pos t] at a
   refine sZ ?_ fun K hK => by simp [t]; exact hK
   refine TrD.cond (b := ilt 0 (lenZ p1.kids.length)) (by simp) (fun g => ?_) (fun g => ?_)
   ·rw [if_pos g] at a
    obtain ⟨ab, v, a⟩ := bindE a
    obtain ⟨x, w, a⟩ := bindE a
    refine rZ ?_ fun K hK => by simp [g, idx_inb v, idx_ltN 0 v]; exact hK
    cases a
    refine ToAny.mk (e.2, p1.op, p1.ctor, p1.n, p1.var, x) rfl ?_
    rw [f]
    exact Ghost.canonV 1 [0, 9, 25, 65] _ _ hβ (keep_first (by decide)) (by decide) (vT_upd (v_of (d0 := (.ptr 6 25 0 0)) (by simp) (v_ptr rfl)) (vT_upd (v_of (d0 := (.ptr 6 9 0 0)) (by simp) (v_ptr rfl)) (vT_any _))) (.cons (lv (L := ⟨2, [(rGl17Rd e.2)], 0, 0x0066⟩) (by simp) rfl rfl (by simp) (rv_free (by simp) (by simp))) (.cons (lv (L := ⟨6, [[(eI 0), (eI 0), (eI 0), (eI 0), (eI 0), .nil]], 0, 0x0020⟩) (by simp) rfl rfl (by simp) (rv_cons (.cons (v_free (by simp) (by simp)) (.cons (v_free (by simp) (by simp)) (.cons (v_free (by simp) (by simp)) (.cons (v_free (by simp) (by simp)) (.cons (v_free (by simp) (by simp)) (.cons (v_free (by simp) (by simp)) .nil)))))) rv_nil)) (.cons (lv (L := ⟨6, [[(eI p1.op), (eI p1.ctor), (eI p1.n), (eI p1.m), (eI p1.var), (.sl 6 65 (x).length)]], 0, 0x0020⟩) (by simp [(setI_some w).1]) rfl rfl (by simp) (rv_cons (.cons (v_free (by simp) (by simp)) (.cons (v_free (by simp) (by simp)) (.cons (v_free (by simp) (by simp)) (.cons (v_free (by simp) (by simp)) (.cons (v_free (by simp) (by simp)) (.cons (v_sl rfl) .nil)))))) rv_nil)) (.cons (lv (L := ⟨6, ((List.map rGPattern p1.kids).set 0 [(eI 2), (eI 0), (eI 0), (eI 0), (eI 0), .nil]), 0, 0x0020⟩) (by simp) rfl rfl (by simp) (rv_set (setI_some w).1 (free_rows_of fr_GPattern _) (rGPattern_eq _) (.cons (v_free (by simp) (by simp)) (.cons (v_free (by simp) (by simp)) (.cons (v_free (by simp) (by simp)) (.cons (v_free (by simp) (by simp)) (.cons (v_free (by simp) (by simp)) (.cons (v_free (by simp) (by simp)) .nil)))))))) .nil))))
   rw [iN g] at a
   apply TrD.skip
   cases a
   refine ToAny.mk (e.2, p1.op, p1.ctor, p1.n, p1.var, p1.kids) rfl ?_
   rw [f]
   exact gC [0, 9, 25, 65]
  rw [iN t] at a
  refine sZ ?_ fun K hK => by simp [t]; exact hK
  refine TrD.cond (b := ieq e.1 5) (by simp) (fun i => ?_) (fun i => ?_)
  ·rw [if_pos i] at a
   obtain ⟨o, M, a⟩ := bindE a
   refine rk fun K hK => ?_
   simp [i]
   refine callK (.cons (.same _ _) (.cons (.sl _ _ _ _ _ (by simp; rfl) rfl (by simp) (by simp)) (.nil _))) (.same _ _) [0] (c_spec_l17Rd_num e.2 [10, (-1), 5] _ M) (by decide) (.cons (locRen_eq (by simp) (by simp) (by simp)) .nil) (.cons (ren_ptr rfl) (.cons (ren_le (by simp) (by simp)) .nil)) (fun T Y D => ?_)
   obtain ⟨rfl, rfl⟩ := D
   refine ⟨by simp, [some ⟨2, [(rGl17Rd o.2)], 0, 0x0066⟩], (eI o.1), (.cons (optRen_same (by simp)) .nil), (ren_free (by simp)), ?_⟩
   simp [setMany, newNames]
   apply hK
   cases a
   refine ToAny.mk (o.2, p1.op, p1.ctor, o.1, p1.var, p1.kids) rfl ?_
   rw [f]
   exact gC [0, 9, 25, 65]
  rw [iN i] at a
  apply TrD.skip
  cases a
  refine ToAny.mk (e.2, p1.op, p1.ctor, p1.n, p1.var, p1.kids) rfl ?_
  rw [f]
  exact gC [0, 9, 25, 65]
 subst hz
 try dsimp only at h
 rw [congrFun f c]
 refine sZ ?_
 cases h
 apply TrD.ret
 refine exitHG (σ' := ⟨(updD (fun _ => .any) 4 (.ptr 6 1 0 0)), hOfO [some ⟨2, [(rGl17Rd c.1)], 0, 0x0066⟩, some ⟨6, [(rGPattern (GPattern.mk c.2.1 c.2.2.1 c.2.2.2.1 p1.m c.2.2.2.2.1 c.2.2.2.2.2))], 0, 0x0020⟩], 2, 57⟩) ?_ ?_
 ·refine (Ghost.raise 3 (by simp; rfl)).trans ?_
  exact Ghost.canonV 1 [0, 1] _ _ hβ (keep_first (by decide)) (by decide) (vT_upd (v_of (d0 := (.ptr 6 1 0 0)) (by simp) (v_ptr rfl)) (vT_any _)) (.cons (lv (L := ⟨2, [(rGl17Rd c.1)], 0, 0x0066⟩) (by simp) rfl rfl (by simp) (rv_free (by simp) (by simp))) (.cons (lv (L := ⟨6, [[(eI c.2.1), (eI c.2.2.1), (eI c.2.2.2.1), (eI p1.m), (eI c.2.2.2.2.1), (.sl 6 3 (c.2.2.2.2.2).length)]], 0, 0x0020⟩) (by simp) rfl rfl (by simp) (rv_consr (rGPattern_eq _) (.cons (v_free (by simp) (by simp)) (.cons (v_free (by simp) (by simp)) (.cons (v_free (by simp) (by simp)) (.cons (v_free (by simp) (by simp)) (.cons (v_free (by simp) (by simp)) (.cons (v_frz (by simp; rfl) rfl (by simp) (by simp) (rv_free (by simp) (by simp))) .nil)))))) rv_nil)) .nil))
 simp [resD]
 exact eX 1
end Go.Proofs.YtimpchdgflhkaaaGreat
