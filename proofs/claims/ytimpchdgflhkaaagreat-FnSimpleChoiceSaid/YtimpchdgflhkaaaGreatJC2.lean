import Derived.Test.YtimpchdgflhkaaaGreatJMir
import Derived.Test.YtimpchdgflhkaaaGreatJZap
import Derived.Test.YtimpchdgflhkaaaGreatJC1
set_option linter.unusedSimpArgs false
set_option linter.unusedVariables false
namespace Go.Proofs.YtimpchdgflhkaaaGreat
open Go Go.RowKit
set_option maxRecDepth 100000
set_option maxHeartbeats 20000000
theorem c_spec_l3Name : ∀ (n : Nat) (p0 : Gl17Rd) (p1 : GPattern) (p2 : Int) (res : GPattern × Int × Gl17Rd), m_spec_l3Name n p0 p1 p2 = some res → CallsH Tryz.prog 0o00221 [⟨2, [(rGl17Rd p0)], 0, 0x0066⟩] [.ptr 2 0 0 0, (.agg (rGPattern p1)), (eI p2)] (fun H d => H = [some ⟨2, [(rGl17Rd res.2.2)], 0, 0x0066⟩] ∧ d = .tup [(.agg (rGPattern res.1)), (eI res.2.1)]) := by
 intro n
 induction n with
 | zero => intro p0 p1 p2 res h; cases h
 | succ n ih =>
  intro p0 p1 p2 res h
  rw [m_spec_l3Name.eq_2] at h
  refine CH Tryz.func145 [.cell 6 32, .tmp 7] 1 fun β hβ => ?_
  refine sZ ?_
  apply sq
  apply sq
  rcases bb (ilt 5 p2) with p | p
  ·rw [if_pos p] at h
   refine rZ ?_ fun K hK => by simp [p]; exact hK
   refine cT ?_
   refine sZ ?_
   cases h
   apply TrD.ret
   refine exitHG (σ' := ⟨(updD (updD (fun _ => .any) 6 (.ptr 6 1 0 0)) 7 (eI p2)), hOfO [some ⟨2, [(rGl17Rd p0)], 0, 0x0066⟩, some ⟨6, [(rGPattern p1)], 0, 0x0020⟩], 2, 82⟩) ?_ ?_
   ·exact gC [0, 9]
   simp [resD]
   exact eX 1
  rw [iN p] at h
  rcases bb (ieq p1.op 5) with v | v
  ·rw [if_pos v] at h
   refine rZ ?_ fun K hK => by simp [p, v]; exact hK
   refine cT ?_
   refine sZ ?_
   cases h
   apply TrD.ret
   refine exitHG (σ' := ⟨(updD (updD (fun _ => .any) 6 (.ptr 6 1 0 0)) 7 (eI p2)), hOfO [some ⟨2, [(rGl17Rd p0)], 0, 0x0066⟩, some ⟨6, [(rGPattern p1)], 0, 0x0020⟩], 2, 82⟩) ?_ ?_
   ·exact gC [0, 9]
   simp [resD]
   exact eX 1
  rw [iN v] at h
  refine rZ ?_ fun K hK => by simp [p, v]; exact hK
  refine TrD.cond (b := ieq p1.op 3) (by simp) (fun q => ?_) (fun q => ?_)
  ·rw [if_pos q] at h
   refine sZ ?_ fun K hK => by simp [q]; exact hK
   cases h
   apply TrD.ret
   refine exitHG (σ' := ⟨(updD (updD (fun _ => .any) 6 (.ptr 6 1 0 0)) 7 (eI p2)), hOfO [some ⟨2, [(rGl17Rd p0)], 0, 0x0066⟩, some ⟨6, [(rGPattern p1)], 0, 0x0020⟩], 2, 82⟩) ?_ ?_
   ·exact gC [0, 9]
   simp [resD]
   exact eX 1
  rw [iN q] at h
  apply TrD.skip
  obtain ⟨Z, f, h⟩ := bindE h
  obtain ⟨N, C⟩ : ∃ S : Gl17Rd → St, S = fun A => ⟨(updD (updD (updD (updD (fun _ => .any) 0 (.ptr 2 0 0 0)) 2 (eI p2)) 4 (.ptr 6 1 0 0)) 6 (.ptr 6 2 0 0)), hOfO [some ⟨2, [(rGl17Rd A)], 0, 0x0066⟩, some ⟨6, [(rGPattern p1)], 0, 0x0020⟩, some ⟨6, [[(eI 0), (eI 0), (eI 0), (eI 0), (eI 0), .nil]], 0, 0x0020⟩], 3, 82⟩ := ⟨_, rfl⟩
  refine TrD.join N (fun z => Z = Ctl.brk z) ?_ (fun A hz => ?_)
  ·apply sq
   rcases bb (ieq p1.op 1) with r | r
   ·rw [if_pos r] at f
    obtain ⟨j, V, f⟩ := bindE f
    refine rk fun K hK => ?_
    simp [q, r]
    refine callK (views_same _ _) (.same _ _) [0] (c_spec_l17Rd_pick p0 2 _ V) (by decide) (.cons (locRen_eq (by simp) (by simp) (by simp)) .nil) (.cons (ren_ptr rfl) (.cons (ren_le (by simp) (by simp)) .nil)) (fun ae am R => ?_)
    obtain ⟨rfl, rfl⟩ := R
    refine ⟨by simp, [some ⟨2, [(rGl17Rd j.2)], 0, 0x0066⟩], (eI j.1), (.cons (optRen_same (by simp)) .nil), (ren_free (by simp)), ?_⟩
    simp [setMany, newNames, r]
    apply hK
    refine TrD.cond (b := ieq j.1 0) (by simp) (fun g => ?_) (fun g => ?_)
    ·rw [if_pos g] at f
     refine sZ ?_ fun K hK => by simp [g]; exact hK
     cases f
     cases h
     apply TrD.ret
     refine exitHG (σ' := ⟨(updD (updD (fun _ => .any) 6 (.ptr 6 1 0 0)) 7 (eI (wadd .i64 p2 1))), hOfO [some ⟨2, [(rGl17Rd j.2)], 0, 0x0066⟩, some ⟨6, [(rGPattern (GPattern.mk 2 0 0 0 p2 []))], 0, 0x0020⟩], 2, 82⟩) ?_ ?_
     ·exact gC [0, 9]
     simp [resD]
     exact eX 1
    rw [iN g] at f
    apply TrD.skip
    cases f
    refine ToAny.mk j.2 rfl ?_
    rw [C]
    exact gC [0, 1, 9]
   rw [iN r] at f
   refine rZ ?_ fun K hK => by simp [q, r]; exact hK
   refine cF ?_
   apply TrD.skip
   cases f
   refine ToAny.mk p0 rfl ?_
   rw [C]
   exact gC [0, 1, 9]
  subst hz
  try dsimp only at h
  rw [congrFun C A]
  refine sZ ?_
  refine sZ ?_
  refine sZ ?_
  apply sq
  refine sZ ?_
  obtain ⟨X, O, h⟩ := bindE h
  obtain ⟨I, E⟩ : ∃ S : (Gl17Rd × (List GPattern) × Int) → St, S = fun a => ⟨(updD (updD (updD (updD (fun _ => .any) 0 (.ptr 2 0 0 0)) 6 (.ptr 6 1 0 0)) 8 (.ptr 6 2 0 0)) 9 (eI a.2.2)), hOfO [some ⟨2, [(rGl17Rd a.1)], 0, 0x0066⟩, some ⟨6, [[(eI 0), (eI 0), (eI 0), (eI 0), (eI 0), .nil]], 0, 0x0020⟩, some ⟨6, [[(eI p1.op), (eI p1.ctor), (eI p1.n), (eI p1.m), (eI p1.var), (.sl 6 3 (a.2.1).length)]], 0, 0x0020⟩, some ⟨6, (List.map rGPattern a.2.1), 0, 0x0020⟩], 4, 82⟩ := ⟨_, rfl⟩
  refine TrD.joinQ I (fun z => X = Ctl.brk z) (fun _ _ hg h => TrD.ghost hg h) ?_ (fun a hz => ?_)
  ·apply TrD.block
   obtain ⟨J, w⟩ : ∃ S : Nat → (Gl17Rd × (List GPattern) × Int) → St, S = fun y c => ⟨(updD (updD (updD (updD (updD (updD (fun _ => .any) 0 (.ptr 2 0 0 0)) 4 (.ptr 6 1 0 0)) 6 (.ptr 6 2 0 0)) 8 (.ptr 6 3 0 0)) 9 (eI c.2.2)) 10 (eI (y : Int))), hOfO [some ⟨2, [(rGl17Rd c.1)], 0, 0x0066⟩, some ⟨6, [(rGPattern p1)], 0, 0x0020⟩, some ⟨6, [[(eI 0), (eI 0), (eI 0), (eI 0), (eI 0), .nil]], 0, 0x0020⟩, some ⟨6, [[(eI p1.op), (eI p1.ctor), (eI p1.n), (eI p1.m), (eI p1.var), (.sl 6 4 (c.2.1).length)]], 0, 0x0020⟩, some ⟨6, (List.map rGPattern c.2.1), 0, 0x0020⟩], 5, 82⟩ := ⟨_, rfl⟩
   refine TrD.limS (sz := 6) (rows := List.map rGPattern p1.kids) (seen_cell (d := .slice 6 (List.map rGPattern p1.kids)) 1 0 5 (by simp; rfl) rfl (by simp)) (fun hlim => ?_)
   rw [List.length_map] at hlim
   refine TrD.forL J O hlim ?_ (fun y ab c G ah ai W l aj t ag af => ?_) (fun c aa => ?_)
   ·rw [w]
    refine (Ghost.ownNilCell 11 5 6 0x0020 (by simp; rfl) rfl (by simp) (by simp)).trans ?_
    exact gC [0, 1, 2, 11, 67]
   ·rw [congrFun (congrFun w y) c]
    apply sq
    refine sZ ?_ fun K hK => by simp [W]; exact hK
    refine cT ?_
    apply TrD.skip
    apply sq
    apply TrD.block
    apply sq
    obtain ⟨o, T, t⟩ := bindE t
    refine rk fun K hK => ?_
    simp [idx_inb G, idx_row G]
    refine callK (views_same _ _) (.same _ _) [0] (ih c.1 ab c.2.2 _ T) (by decide) (.cons (locRen_eq (by simp) (by simp) (by simp)) .nil) (.cons (ren_ptr rfl) (.cons (ren_le (by simp) (by simp)) (.cons (ren_le (by simp) (by simp)) .nil))) (fun ac ak P => ?_)
    obtain ⟨rfl, rfl⟩ := P
    refine ⟨by simp, [some ⟨2, [(rGl17Rd o.2.2)], 0, 0x0066⟩], (.tup [(.agg (rGPattern o.1)), (eI o.2.1)]), (.cons (optRen_same (by simp)) .nil), (ren_free (by simp)), ?_⟩
    simp [setMany, newNames]
    apply hK
    apply sq
    obtain ⟨D, x, t⟩ := bindE t
    have F := (app_some x).2
    try simp only [List.length_cons, List.length_nil, Nat.zero_add] at F
    refine rZ ?_ fun K hK => by simp [F]; exact hK
    refine rZ ?_
    refine rZ ?_
    cases t
    refine ToAny.mk (o.2.2, D, o.2.1) rfl ?_
    rw [w]
    exact Ghost.canonV 1 [0, 1, 2, 3, 189] _ _ hβ (keep_first (by decide)) (by decide) (vT_upd (v_of (d0 := (eI (wadd .i64 (y : Int) 1))) (by simp [l]) (v_free (by simp) (by simp [l]))) (vT_upd (v_of (d0 := (eI o.2.1)) (by simp [l]) (v_free (by simp) (by simp))) (vT_upd (v_of (d0 := (.ptr 6 3 0 0)) (by simp [l]) (v_ptr rfl)) (vT_upd (v_of (d0 := (.ptr 6 2 0 0)) (by simp [l]) (v_ptr rfl)) (vT_upd (v_of (d0 := (.ptr 6 1 0 0)) (by simp [l]) (v_ptr rfl)) (vT_upd (v_of (d0 := (.ptr 2 0 0 0)) (by simp [l]) (v_ptr rfl)) (vT_any _))))))) (.cons (lv (L := ⟨2, [(rGl17Rd o.2.2)], 0, 0x0066⟩) (by simp) rfl rfl (by simp) (rv_free (by simp) (by simp))) (.cons (lv (L := ⟨6, [(rGPattern p1)], 0, 0x0020⟩) (by simp) rfl rfl (by simp) (rv_free (by simp) (by simp))) (.cons (lv (L := ⟨6, [[(eI 0), (eI 0), (eI 0), (eI 0), (eI 0), .nil]], 0, 0x0020⟩) (by simp) rfl rfl (by simp) (rv_cons (.cons (v_free (by simp) (by simp)) (.cons (v_free (by simp) (by simp)) (.cons (v_free (by simp) (by simp)) (.cons (v_free (by simp) (by simp)) (.cons (v_free (by simp) (by simp)) (.cons (v_free (by simp) (by simp)) .nil)))))) rv_nil)) (.cons (lv (L := ⟨6, [[(eI p1.op), (eI p1.ctor), (eI p1.n), (eI p1.m), (eI p1.var), (.sl 6 189 (D).length)]], 0, 0x0020⟩) (by simp [(app_some x).1]) rfl rfl (by simp) (rv_cons (.cons (v_free (by simp) (by simp)) (.cons (v_free (by simp) (by simp)) (.cons (v_free (by simp) (by simp)) (.cons (v_free (by simp) (by simp)) (.cons (v_free (by simp) (by simp)) (.cons (v_sl rfl) .nil)))))) rv_nil)) (.cons (lv (L := ⟨6, (List.map rGPattern D), 0, 0x0020⟩) (by simp [(app_some x).1]) rfl rfl (by simp) (rv_free (by simp [(app_some x).1]) (free_rows_of fr_GPattern _))) .nil)))))
   rw [congrFun (congrFun w _) c]
   apply sq
   refine sZ ?_ fun K hK => by simp [ilt_len p1.kids.length]; exact hK
   refine cF ?_
   refine TrD.exit ?_
   try simp only [↓reduceIte, Nat.reduceEqDiff, Nat.zero_ne_one, Nat.one_ne_zero, OfNat.ofNat_ne_zero, OfNat.zero_ne_ofNat, OfNat.one_ne_ofNat, OfNat.ofNat_ne_one]
   refine ToAny.mk c aa ?_
   rw [E]
   exact gC [0, 2, 3, 4]
  subst hz
  try dsimp only at h
  rw [congrFun E a]
  obtain ⟨Y, e, h⟩ := bindE h
  obtain ⟨M, B⟩ : ∃ S : Gl17Rd → St, S = fun s => ⟨(updD (updD (updD (fun _ => .any) 6 (.ptr 6 1 0 0)) 8 (.ptr 6 2 0 0)) 9 (eI a.2.2)), hOfO [some ⟨2, [(rGl17Rd s)], 0, 0x0066⟩, some ⟨6, [[(eI 0), (eI 0), (eI 0), (eI 0), (eI 0), .nil]], 0, 0x0020⟩, some ⟨6, [[(eI p1.op), (eI p1.ctor), (eI p1.n), (eI p1.m), (eI p1.var), (.sl 6 3 (a.2.1).length)]], 0, 0x0020⟩, some ⟨6, (List.map rGPattern a.2.1), 0, 0x0020⟩], 4, 82⟩ := ⟨_, rfl⟩
  refine TrD.join M (fun z => Y = Ctl.brk z) ?_ (fun s hz => ?_)
  ·apply sq
   rcases bb (ile a.2.2 5) with u | u
   ·rw [if_pos u] at e
    obtain ⟨i, U, e⟩ := bindE e
    refine rk fun K hK => ?_
    simp [u]
    refine callK (views_same _ _) (.same _ _) [0] (c_spec_l17Rd_pick a.1 6 _ U) (by decide) (.cons (locRen_eq (by simp) (by simp) (by simp)) .nil) (.cons (ren_ptr rfl) (.cons (ren_le (by simp) (by simp)) .nil)) (fun ad al Q => ?_)
    obtain ⟨rfl, rfl⟩ := Q
    refine ⟨by simp, [some ⟨2, [(rGl17Rd i.2)], 0, 0x0066⟩], (eI i.1), (.cons (optRen_same (by simp)) .nil), (ren_free (by simp)), ?_⟩
    simp [setMany, newNames]
    apply hK
    refine TrD.cond (b := ieq i.1 0) (by simp) (fun k => ?_) (fun k => ?_)
    ·rw [if_pos k] at e
     refine sZ ?_ fun K hK => by simp [k]; exact hK
     cases e
     cases h
     apply TrD.ret
     refine exitHG (σ' := ⟨(updD (updD (fun _ => .any) 6 (.ptr 6 1 0 0)) 7 (eI (wadd .i64 a.2.2 1))), hOfO [some ⟨2, [(rGl17Rd i.2)], 0, 0x0066⟩, some ⟨6, [(rGPattern (GPattern.mk 6 0 0 0 a.2.2 [(GPattern.mk p1.op p1.ctor p1.n p1.m p1.var a.2.1)]))], 0, 0x0020⟩], 2, 82⟩) ?_ ?_
     ·refine (Ghost.raise 3 (by simp; rfl)).trans ?_
      refine (Ghost.raise 76 (by simp; rfl)).trans ?_
      exact Ghost.canonV 1 [0, 1] _ _ hβ (keep_first (by decide)) (by decide) (vT_upd (v_of (d0 := (eI (wadd .i64 a.2.2 1))) (by simp) (v_free (by simp) (by simp))) (vT_upd (v_of (d0 := (.ptr 6 1 0 0)) (by simp) (v_ptr rfl)) (vT_any _))) (.cons (lv (L := ⟨2, [(rGl17Rd i.2)], 0, 0x0066⟩) (by simp) rfl rfl (by simp) (rv_free (by simp) (by simp))) (.cons (lv (L := ⟨6, [[(eI 6), (eI 0), (eI 0), (eI 0), (eI a.2.2), (.sl 6 76 ([(GPattern.mk p1.op p1.ctor p1.n p1.m p1.var a.2.1)]).length)]], 0, 0x0020⟩) (by simp) rfl rfl (by simp) (rv_consr (rGPattern_eq _) (.cons (v_free (by simp) (by simp)) (.cons (v_free (by simp) (by simp)) (.cons (v_free (by simp) (by simp)) (.cons (v_free (by simp) (by simp)) (.cons (v_free (by simp) (by simp)) (.cons (v_frz (L := ⟨6, ((List.map rGPattern []) ++ [[(eI p1.op), (eI p1.ctor), (eI p1.n), (eI p1.m), (eI p1.var), (.sl 6 3 (a.2.1).length)]]), ([(GPattern.mk p1.op p1.ctor p1.n p1.m p1.var a.2.1)]).length * 6, 0x0020⟩) (by simp) rfl (by simp) (by simp) (rv_consr (rGPattern_eq _) (.cons (v_free (by simp) (by simp)) (.cons (v_free (by simp) (by simp)) (.cons (v_free (by simp) (by simp)) (.cons (v_free (by simp) (by simp)) (.cons (v_free (by simp) (by simp)) (.cons (v_frz (by simp; rfl) rfl (by simp) (by simp) (rv_free (by simp) (by simp))) .nil)))))) rv_nil)) .nil)))))) rv_nil)) .nil))
     simp [resD]
     exact eX 1
    rw [iN k] at e
    apply TrD.skip
    cases e
    refine ToAny.mk i.2 rfl ?_
    rw [B]
    exact gC [0, 1, 2, 3]
   rw [iN u] at e
   refine rZ ?_ fun K hK => by simp [u]; exact hK
   refine cF ?_
   apply TrD.skip
   cases e
   refine ToAny.mk a.1 rfl ?_
   rw [B]
   exact gC [0, 1, 2, 3]
  subst hz
  try dsimp only at h
  rw [congrFun B s]
  refine sZ ?_
  cases h
  apply TrD.ret
  refine exitHG (σ' := ⟨(updD (updD (fun _ => .any) 6 (.ptr 6 1 0 0)) 7 (eI a.2.2)), hOfO [some ⟨2, [(rGl17Rd s)], 0, 0x0066⟩, some ⟨6, [(rGPattern (GPattern.mk p1.op p1.ctor p1.n p1.m p1.var a.2.1))], 0, 0x0020⟩], 2, 82⟩) ?_ ?_
  ·refine (Ghost.raise 3 (by simp; rfl)).trans ?_
   exact Ghost.canonV 1 [0, 1] _ _ hβ (keep_first (by decide)) (by decide) (vT_upd (v_of (d0 := (eI a.2.2)) (by simp) (v_free (by simp) (by simp))) (vT_upd (v_of (d0 := (.ptr 6 1 0 0)) (by simp) (v_ptr rfl)) (vT_any _))) (.cons (lv (L := ⟨2, [(rGl17Rd s)], 0, 0x0066⟩) (by simp) rfl rfl (by simp) (rv_free (by simp) (by simp))) (.cons (lv (L := ⟨6, [[(eI p1.op), (eI p1.ctor), (eI p1.n), (eI p1.m), (eI p1.var), (.sl 6 3 (a.2.1).length)]], 0, 0x0020⟩) (by simp) rfl rfl (by simp) (rv_consr (rGPattern_eq _) (.cons (v_free (by simp) (by simp)) (.cons (v_free (by simp) (by simp)) (.cons (v_free (by simp) (by simp)) (.cons (v_free (by simp) (by simp)) (.cons (v_free (by simp) (by simp)) (.cons (v_frz (by simp; rfl) rfl (by simp) (by simp) (rv_free (by simp) (by simp))) .nil)))))) rv_nil)) .nil))
  simp [resD]
  exact eX 1
set_option maxRecDepth 100000 in
theorem c_spec_l1Has (p0 : (List Int)) (p1 : Int) (res : Bool) (h : m_spec_l1Has p0 p1 = some res) : CallsD Tryz.prog 0o00203 [(.slice 1 (List.map rI p0)), (eI p1)] (fun d => d = (eB res)) := by
 unfold m_spec_l1Has at h
 refine CD Tryz.func131 [.tmp 4] fun β hβ => ?_
 refine sZ ?_
 apply sq
 refine sZ ?_
 obtain ⟨s, p, h⟩ := bindE h
 obtain ⟨n, j⟩ : ∃ S : Unit → St, S = fun m => ⟨(fun _ => .any), hOfO [], 0, 18⟩ := ⟨_, rfl⟩
 refine TrD.joinQ n (fun z => s = Ctl.brk z) (fun _ _ hg h => TrD.ghost hg h) ?_ (fun m hz => ?_)
 ·apply TrD.block
  obtain ⟨o, f⟩ : ∃ S : Nat → Unit → St, S = fun g c => ⟨(updD (updD (updD (fun _ => .any) 0 (.slice 1 (List.map rI p0))) 1 (eI p1)) 5 (eI (g : Int))), hOfO [], 0, 18⟩ := ⟨_, rfl⟩
  refine TrD.limS (sz := 1) (rows := List.map rI p0) (seen_slot (d := .slice 1 (List.map rI p0)) 0 (by simp)) (fun hlim => ?_)
  rw [List.length_map] at hlim
  refine TrD.forL o p hlim ?_ (fun g u c l w y r i A e q v => ?_) (fun c t => ?_)
  ·rw [f]
   exact gC []
  ·rw [congrFun (congrFun f g) c]
   apply sq
   refine sZ ?_ fun K hK => by simp [r]; exact hK
   refine cT ?_
   apply TrD.skip
   apply sq
   apply TrD.block
   refine sZ ?_ fun K hK => by simp [idx_inb l, idx_row l]; exact hK
   refine TrD.cond (b := ieq u p1) (by simp) (fun a => ?_) (fun a => ?_)
   ·rw [if_pos a] at e
    refine sZ ?_ fun K hK => by simp [a]; exact hK
    cases e
    obtain rfl := q _ rfl
    cases h
    apply TrD.ret
    exact xD
   rw [iN a] at e
   apply TrD.skip
   refine rZ ?_ fun K hK => by simp [a]; exact hK
   cases e
   refine ToAny.mk () rfl ?_
   rw [f]
   exact gc [] hβ (((va.f (by simp [i])).f (by simp [i])).f (by simp [i])) ln
  rw [congrFun (congrFun f _) c]
  apply sq
  refine sZ ?_ fun K hK => by simp [ilt_len p0.length]; exact hK
  refine cF ?_
  refine TrD.exit ?_
  try simp only [↓reduceIte, Nat.reduceEqDiff, Nat.zero_ne_one, Nat.one_ne_zero, OfNat.ofNat_ne_zero, OfNat.zero_ne_ofNat, OfNat.one_ne_ofNat, OfNat.ofNat_ne_one]
  refine ToAny.mk c t ?_
  rw [j]
  exact gC []
 subst hz
 try dsimp only at h
 rw [congrFun j m]
 refine sZ ?_
 cases h
 apply TrD.ret
 exact xD
theorem c_spec_l3Own (p0 : (List GData)) (p1 : GType) (p2 : GPattern) (res : Bool) (h : m_spec_l3Own p0 p1 p2 = some res) : CallsD Tryz.prog 0o00162 [(.slice 2 (List.map rGData p0)), (.agg (rGType p1)), (.agg (rGPattern p2))] (fun d => d = (eB res)) := by
 unfold m_spec_l3Own at h
 refine CD Tryz.func114 [.tmp 6] fun β hβ => ?_
 refine sZ ?_
 obtain ⟨o3, g5, h⟩ := bindE h
 obtain ⟨S4, hS4⟩ : ∃ S : Bool → St, S = fun s2 => ⟨(updD (updD (updD (updD (fun _ => .any) 0 (.slice 2 (List.map rGData p0))) 4 (.ptr 2 0 0 0)) 5 (.ptr 6 1 0 0)) 7 (eB s2)), hOfO [some ⟨2, [(rGType p1)], 0, 0x0019⟩, some ⟨6, [(rGPattern p2)], 0, 0x0020⟩], 2, 96⟩ := ⟨_, rfl⟩
 refine TrD.join S4 (fun z => o3 = Ctl.brk z) ?_ (fun s2 hz => ?_)
 ·rcases bb (ieq p2.op 2) with hb6 | hb6
  ·rw [if_pos hb6] at g5
   refine rZ ?_ fun K hK => by simp [hb6]; exact hK
   cases g5
   refine ToAny.mk true rfl ?_
   rw [hS4]
   exact gC [0, 8]
  rw [iN hb6] at g5
  refine rZ ?_ fun K hK => by simp [hb6]; exact hK
  cases g5
  refine ToAny.mk (ieq p2.op 6) rfl ?_
  rw [hS4]
  exact gC [0, 8]
 subst hz
 try dsimp only at h
 rw [congrFun hS4 s2]
 obtain ⟨Y, c, h⟩ := bindE h
 obtain ⟨Q, I⟩ : ∃ S : Unit → St, S = fun N => ⟨(updD (updD (updD (fun _ => .any) 0 (.slice 2 (List.map rGData p0))) 4 (.ptr 2 0 0 0)) 5 (.ptr 6 1 0 0)), hOfO [some ⟨2, [(rGType p1)], 0, 0x0019⟩, some ⟨6, [(rGPattern p2)], 0, 0x0020⟩], 2, 96⟩ := ⟨_, rfl⟩
 refine TrD.join Q (fun z => Y = Ctl.brk z) ?_ (fun N hz => ?_)
 ·apply sq
  rcases bb s2 with q | q
  ·rw [if_pos q] at c
   rcases bb (ilt p2.var 0) with w | w
   ·rw [if_pos w] at c
    refine rZ ?_ fun K hK => by simp [q, w]; exact hK
    refine cT ?_
    refine sZ ?_
    cases c
    cases h
    apply TrD.ret
    exact xD
   rw [iN w] at c
   rcases bb (ilt 5 p2.var) with E | E
   ·rw [if_pos E] at c
    refine rZ ?_ fun K hK => by simp [q, w, E]; exact hK
    refine cT ?_
    refine sZ ?_
    cases c
    cases h
    apply TrD.ret
    exact xD
   rw [iN E] at c
   refine rZ ?_ fun K hK => by simp [q, w, E]; exact hK
   refine cF ?_
   apply TrD.skip
   cases c
   refine ToAny.mk () rfl ?_
   rw [I]
   exact gC [0, 1]
  rw [iN q] at c
  refine rZ ?_ fun K hK => by simp [q]; exact hK
  refine TrD.cond (b := !ieq p2.var 0) (by simp) (fun r => ?_) (fun r => ?_)
  ·rw [if_pos r] at c
   refine sZ ?_ fun K hK => by simp [r]; exact hK
   cases c
   cases h
   apply TrD.ret
   exact xD
  rw [iN r] at c
  apply TrD.skip
  cases c
  refine ToAny.mk () rfl ?_
  rw [I]
  exact gC [0, 1]
 subst hz
 try dsimp only at h
 rw [congrFun I N]
 obtain ⟨Z, a, h⟩ := bindE h
 obtain ⟨R, B⟩ : ∃ S : Unit → St, S = fun O => ⟨(updD (updD (updD (fun _ => .any) 0 (.slice 2 (List.map rGData p0))) 4 (.ptr 2 0 0 0)) 5 (.ptr 6 1 0 0)), hOfO [some ⟨2, [(rGType p1)], 0, 0x0019⟩, some ⟨6, [(rGPattern p2)], 0, 0x0020⟩], 2, 96⟩ := ⟨_, rfl⟩
 refine TrD.join R (fun z => Z = Ctl.brk z) ?_ (fun O hz => ?_)
 ·apply sq
  rcases bb (!ieq p2.op 3) with j | j
  ·rw [if_pos j] at a
   rcases bb (!ieq p2.n 0) with s | s
   ·rw [if_pos s] at a
    refine rZ ?_ fun K hK => by simp [j, s]; exact hK
    refine cT ?_
    refine sZ ?_
    cases a
    cases h
    apply TrD.ret
    exact xD
   rw [iN s] at a
   rcases bb (!ieq p2.m 0) with y | y
   ·rw [if_pos y] at a
    refine rZ ?_ fun K hK => by simp [j, s, y]; exact hK
    refine cT ?_
    refine sZ ?_
    cases a
    cases h
    apply TrD.ret
    exact xD
   rw [iN y] at a
   rcases bb (!ieq p2.op 4) with F | F
   ·rw [if_pos F] at a
    refine rZ ?_ fun K hK => by simp [j, s, y, F]; exact hK
    refine TrD.cond (b := !ieq p2.ctor 0) (by simp) (fun t => ?_) (fun t => ?_)
    ·rw [if_pos t] at a
     refine sZ ?_ fun K hK => by simp [t]; exact hK
     cases a
     cases h
     apply TrD.ret
     exact xD
    rw [iN t] at a
    apply TrD.skip
    cases a
    refine ToAny.mk () rfl ?_
    rw [B]
    exact gC [0, 1]
   rw [iN F] at a
   refine rZ ?_ fun K hK => by simp [j, s, y, F]; exact hK
   refine cF ?_
   apply TrD.skip
   cases a
   refine ToAny.mk () rfl ?_
   rw [B]
   exact gC [0, 1]
  rw [iN j] at a
  rcases bb (!ieq p2.op 4) with G | G
  ·rw [if_pos G] at a
   refine rZ ?_ fun K hK => by simp [j, G]; exact hK
   refine TrD.cond (b := !ieq p2.ctor 0) (by simp) (fun u => ?_) (fun u => ?_)
   ·rw [if_pos u] at a
    refine sZ ?_ fun K hK => by simp [u]; exact hK
    cases a
    cases h
    apply TrD.ret
    exact xD
   rw [iN u] at a
   apply TrD.skip
   cases a
   refine ToAny.mk () rfl ?_
   rw [B]
   exact gC [0, 1]
  rw [iN G] at a
  refine rZ ?_ fun K hK => by simp [j, G]; exact hK
  refine cF ?_
  apply TrD.skip
  cases a
  refine ToAny.mk () rfl ?_
  rw [B]
  exact gC [0, 1]
 subst hz
 try dsimp only at h
 rw [congrFun B O]
 apply sq
 refine sZ ?_
 apply TrD.block
 obtain ⟨X, e, h⟩ := bindE h
 obtain ⟨P, A⟩ : ∃ S : Bool → St, S = fun H => ⟨(updD (updD (updD (updD (updD (fun _ => .any) 0 (.slice 2 (List.map rGData p0))) 4 (.ptr 2 0 0 0)) 5 (.ptr 6 1 0 0)) 60 (eI p2.op)) 61 (eB H)), hOfO [some ⟨2, [(rGType p1)], 0, 0x0019⟩, some ⟨6, [(rGPattern p2)], 0, 0x0020⟩], 2, 96⟩ := ⟨_, rfl⟩
 refine TrD.join P (fun z => X = Ctl.brk z) ?_ (fun H hz => ?_)
 ·refine sZ ?_
  refine TrD.cond (b := ieq p2.op 1) (by simp) (fun f => ?_) (fun f => ?_)
  ·rw [if_pos f] at e
   apply TrD.skip
   cases e
   refine ToAny.mk (ieq p2.op 1) rfl ?_
   rw [A]
   exact gC [0, 1]
  rw [iN f] at e
  refine sZ ?_ fun K hK => by simp [f]; exact hK
  refine TrD.cond (b := ieq p2.op 2) (by simp) (fun g => ?_) (fun g => ?_)
  ·rw [if_pos g] at e
   apply TrD.skip
   cases e
   refine ToAny.mk (ieq p2.op 2) rfl ?_
   rw [A]
   exact gC [0, 1]
  rw [iN g] at e
  refine sZ ?_ fun K hK => by simp [g]; exact hK
  refine TrD.cond (b := ieq p2.op 5) (by simp) (fun i => ?_) (fun i => ?_)
  ·rw [if_pos i] at e
   apply TrD.skip
   cases e
   refine ToAny.mk (ieq p2.op 5) rfl ?_
   rw [A]
   exact gC [0, 1]
  rw [iN i] at e
  refine rZ ?_ fun K hK => by simp [i]; exact hK
  cases e
  refine ToAny.mk (ieq p2.op 6) rfl ?_
  rw [A]
  exact gC [0, 1]
 subst hz
 try dsimp only at h
 rw [congrFun A H]
 refine TrD.cond (b := H) (by simp) (fun C => ?_) (fun C => ?_)
 ·rw [if_pos C] at h
  refine sZ ?_ fun K hK => by simp [C]; exact hK
  cases h
  apply TrD.ret
  exact xD
 rw [iN C] at h
 refine sZ ?_ fun K hK => by simp [C]; exact hK
 refine TrD.cond (b := ieq p2.op 3) (by simp) (fun l => ?_) (fun l => ?_)
 ·rw [if_pos l] at h
  apply sq
  rcases bb (ieq p1.data (-1)) with o | o
  ·rw [if_pos o] at h
   rcases bb (ile 0 p2.n) with v | v
   ·rw [if_pos v] at h
    rcases bb (ile p2.n p2.m) with D | D
    ·rw [if_pos D] at h
     refine rZ ?_ fun K hK => by simp [l, o, v, D]; exact hK
     cases h
     apply TrD.ret
     exact xD
    rw [iN D] at h
    refine rZ ?_ fun K hK => by simp [l, o, v, D]; exact hK
    cases h
    apply TrD.ret
    exact xD
   rw [iN v] at h
   refine rZ ?_ fun K hK => by simp [l, o, v]; exact hK
   cases h
   apply TrD.ret
   exact xD
  rw [iN o] at h
  refine rZ ?_ fun K hK => by simp [l, o]; exact hK
  cases h
  apply TrD.ret
  exact xD
 rw [iN l] at h
 refine sZ ?_ fun K hK => by simp [l]; exact hK
 refine TrD.cond (b := ieq p2.op 4) (by simp) (fun p => ?_) (fun p => ?_)
 ·rw [if_pos p] at h
  apply sq
  refine TrD.ghost (σ' := ⟨(updD (updD (updD (fun _ => .any) 0 (.slice 2 (List.map rGData p0))) 4 (.ptr 2 0 0 0)) 5 (.ptr 6 1 0 0)), hOfO [some ⟨2, [(rGType p1)], 0, 0x0019⟩, some ⟨6, [(rGPattern p2)], 0, 0x0020⟩], 2, 96⟩) ?_ ?_
  ·exact gC [0, 1]
  obtain ⟨aa, V, h⟩ := bindE h
  obtain ⟨J, W, h⟩ := bindE h
  refine TrD.draw tysOk mixed [0, 1, 3, 4, 2, 5, 6] [0, 1] [] (by rfl) rfl (fun K hK => ?_)
  simp
  refine cp (c_spec_l1Ctors p0 p1 _ V) ?_
  simp
  refine cp (c_spec_l1Has aa p2.ctor _ W) ?_
  simp
  apply hK
  cases h
  apply TrD.ret
  exact xD
 rw [iN p] at h
 apply TrD.skip
 refine sZ ?_ fun K hK => by simp [p]; exact hK
 cases h
 apply TrD.ret
 exact xD
set_option maxRecDepth 100000 in
theorem c_spec_l3Kids (p0 : Int) (res : Int) (h : m_spec_l3Kids p0 = some res) : CallsD Tryz.prog 0o00164 [(eI p0)] (fun d => d = (eI res)) := by
 unfold m_spec_l3Kids at h
 refine CD Tryz.func116 [.tmp 2] fun β hβ => ?_
 refine sZ ?_
 apply sq
 refine sZ ?_
 apply TrD.block
 refine sZ ?_
 refine TrD.cond (b := ieq p0 5) (by simp) (fun hb4 => ?_) (fun hb4 => ?_)
 ·rw [if_pos hb4] at h
  refine sZ ?_ fun K hK => by simp [hb4]; exact hK
  cases h
  apply TrD.ret
  exact xD
 rw [iN hb4] at h
 refine sZ ?_ fun K hK => by simp [hb4]; exact hK
 refine TrD.cond (b := ieq p0 6) (by simp) (fun hb5 => ?_) (fun hb5 => ?_)
 ·rw [if_pos hb5] at h
  refine sZ ?_ fun K hK => by simp [hb5]; exact hK
  cases h
  apply TrD.ret
  exact xD
 rw [iN hb5] at h
 refine sZ ?_ fun K hK => by simp [hb5]; exact hK
 refine TrD.cond (b := ieq p0 4) (by simp) (fun hb6 => ?_) (fun hb6 => ?_)
 ·rw [if_pos hb6] at h
  refine sZ ?_ fun K hK => by simp [hb6]; exact hK
  cases h
  apply TrD.ret
  exact xD
 rw [iN hb6] at h
 apply TrD.skip
 refine sZ ?_ fun K hK => by simp [hb6]; exact hK
 cases h
 apply TrD.ret
 exact xD
set_option maxRecDepth 100000 in
theorem c_spec_l3Types (n : Nat) (p0 : (List GData)) (p1 : GType) (p2 : GPattern) (res : (List GType)) (h : m_spec_l3Types n p0 p1 p2 = some res) : CallsD Tryz.prog 0o00126 [(.slice 2 (List.map rGData p0)), (.agg (rGType p1)), (.agg (rGPattern p2))] (fun d => d = (.slice 2 (List.map rGType res))) := by
 unfold m_spec_l3Types at h
 refine CD Tryz.func86 [.tmp 6] fun β hβ => ?_
 refine sZ ?_
 apply sq
 refine sZ ?_
 refine TrD.cond (b := ieq p2.op 4) (by simp) (fun hb4 => ?_) (fun hb4 => ?_)
 ·rw [if_pos hb4] at h
  apply sq
  obtain ⟨r5, hr5, h⟩ := bindE h
  refine rk fun K hK => ?_
  simp [hb4]
  refine cp (c_spec_l1Args p0 p1 p2.ctor _ hr5) ?_
  simp
  apply hK
  cases h
  apply TrD.ret
  exact xD
 rw [iN hb4] at h
 apply TrD.skip
 refine sZ ?_ fun K hK => by simp [hb4]; exact hK
 apply sq
 refine sZ ?_
 obtain ⟨u, q, h⟩ := bindE h
 obtain ⟨o, l⟩ : ∃ S : ((List GType) × Int) → St, S = fun e => ⟨(updD (fun _ => .any) 7 (.sl 2 0 (e.1).length)), hOfO [some ⟨2, (List.map rGType e.1), 0, 0x0019⟩], 1, 30⟩ := ⟨_, rfl⟩
 refine TrD.joinQ o (fun z => u = Ctl.brk z) (fun _ _ hg h => TrD.ghost hg h) ?_ (fun e hz => ?_)
 ·apply TrD.block
  obtain ⟨p, i⟩ : ∃ S : ((List GType) × Int) → St, S = fun a => ⟨(updD (updD (updD (updD (fun _ => .any) 4 (.ptr 2 0 0 0)) 5 (.ptr 6 1 0 0)) 7 (.sl 2 2 (a.1).length)) 8 (eI a.2)), hOfO [some ⟨2, [(rGType p1)], 0, 0x0019⟩, some ⟨6, [(rGPattern p2)], 0, 0x0020⟩, some ⟨2, (List.map rGType a.1), 0, 0x0019⟩], 3, 30⟩ := ⟨_, rfl⟩
  refine TrD.whileL p q ?_ (fun a y c w r => ?_)
  ·rw [i]
   exact gC [0, 8, 48]
  rw [congrFun i a]
  apply sq
  apply sq
  obtain ⟨v, t, c⟩ := bindE c
  refine rk fun K hK => ?_
  simp
  refine cp (c_spec_l3Kids p2.op _ t) ?_
  simp
  apply hK
  refine TrD.cond (b := ilt a.2 v) (by simp) (fun f => ?_) (fun f => ?_)
  ·rw [if_pos f] at c
   apply TrD.skip
   apply sq
   apply TrD.block
   obtain ⟨j, g, c⟩ := bindE c
   have m := (app_some g).2
   try simp only [List.length_cons, List.length_nil, Nat.zero_add] at m
   refine rZ ?_ fun K hK => by simp [f, m]; exact hK
   refine rZ ?_
   cases c
   refine ToAny.mk (j, wadd .i64 a.2 1) rfl ?_
   rw [i]
   exact gc [0, 1, 67] hβ ((((va.p 0).p 1).s 67 (by simp [(app_some g).1])).f) (((ln.f (by simp [(app_some g).1])).f).f)
  rw [iN f] at c
  refine TrD.exit ?_
  try simp only [↓reduceIte, Nat.reduceEqDiff, Nat.zero_ne_one, Nat.one_ne_zero, OfNat.ofNat_ne_zero, OfNat.zero_ne_ofNat, OfNat.one_ne_ofNat, OfNat.ofNat_ne_one]
  cases c
  obtain rfl := r _ rfl
  refine ToAny.mk (a.1, a.2) rfl ?_
  rw [l]
  exact gC [2]
 subst hz
 try dsimp only at h
 rw [congrFun l e]
 refine sZ ?_
 cases h
 apply TrD.ret
 refine exitDG (σ' := ⟨(updD (fun _ => .any) 6 (.slice 2 (List.map rGType e.1))), hOfO [], 0, 30⟩) ?_ ?_
 ·refine (Ghost.raise 0 (by simp; rfl)).trans ?_
  exact gC [] (ht := (va.u (d0 := (.sl 2 0 (e.1).length)) (by simp) (v_frz (by simp; rfl) rfl (by simp) (by simp) (rv_free (by simp) (by simp)))))
 dsimp only [resD]
 exact eF
theorem c_spec_l3Shape : ∀ (n : Nat) (p0 : (List GData)) (p1 : GType) (p2 : GPattern) (p3 : Int) (res : Bool), m_spec_l3Shape n p0 p1 p2 p3 = some res → CallsD Tryz.prog 0o00122 [(.slice 2 (List.map rGData p0)), (.agg (rGType p1)), (.agg (rGPattern p2)), (eI p3)] (fun d => d = (eB res)) := by
 intro n
 induction n with
 | zero => intro p0 p1 p2 p3 res h; cases h
 | succ n ih =>
  intro p0 p1 p2 p3 res h
  rw [m_spec_l3Shape.eq_2] at h
  refine CD Tryz.func82 [.tmp 8] fun β hβ => ?_
  refine sZ ?_
  apply sq
  apply sq
  rcases bb (ilt p3 1) with i | i
  ·rw [if_pos i] at h
   refine rZ ?_ fun K hK => by simp [i]; exact hK
   refine cT ?_
   refine sZ ?_
   cases h
   apply TrD.ret
   exact xD
  rw [iN i] at h
  obtain ⟨I, C, h⟩ := bindE h
  refine rk fun K hK => ?_
  simp [i]
  refine cp (c_spec_l3Own p0 p1 p2 _ C) ?_
  simp
  apply hK
  refine TrD.cond (b := (!I)) (by simp) (fun j => ?_) (fun j => ?_)
  ·rw [if_pos j] at h
   refine sZ ?_ fun K hK => by simp [j]; exact hK
   cases h
   apply TrD.ret
   exact xD
  rw [iN j] at h
  apply TrD.skip
  apply sq
  obtain ⟨a, D, h⟩ := bindE h
  refine rk fun K hK => ?_
  simp [j]
  refine cp (c_spec_l3Types n p0 p1 p2 _ D) ?_
  simp
  apply hK
  apply sq
  refine sZ ?_
  refine TrD.cond (b := !ieq (lenZ p2.kids.length) (lenZ a.length)) (by simp) (fun l => ?_) (fun l => ?_)
  ·rw [if_pos l] at h
   refine sZ ?_ fun K hK => by simp [l]; exact hK
   cases h
   apply TrD.ret
   exact xD
  rw [iN l] at h
  apply TrD.skip
  apply sq
  refine sZ ?_ fun K hK => by simp [l]; exact hK
  obtain ⟨G, v, h⟩ := bindE h
  obtain ⟨t, p⟩ : ∃ S : Unit → St, S = fun s => ⟨(fun _ => .any), hOfO [], 0, 50⟩ := ⟨_, rfl⟩
  refine TrD.joinQ t (fun z => G = Ctl.brk z) (fun _ _ hg h => TrD.ghost hg h) ?_ (fun s hz => ?_)
  ·apply TrD.block
   obtain ⟨u, o⟩ : ∃ S : Nat → Unit → St, S = fun e m => ⟨(updD (updD (updD (updD (updD (fun _ => .any) 0 (.slice 2 (List.map rGData p0))) 3 (eI p3)) 6 (.ptr 6 0 0 0)) 9 (.slice 2 (List.map rGType a))) 10 (eI (e : Int))), hOfO [some ⟨6, [(rGPattern p2)], 0, 0x0020⟩], 1, 50⟩ := ⟨_, rfl⟩
   refine TrD.limS (sz := 2) (rows := List.map rGType a) (seen_slot (d := .slice 2 (List.map rGType a)) 23 (by simp)) (fun hlim => ?_)
   rw [List.length_map] at hlim
   refine TrD.forL u v hlim ?_ (fun e N m r Q R F f T c E P => ?_) (fun m J => ?_)
   ·rw [o]
    exact gC [8]
   ·rw [congrFun (congrFun o e) m]
    apply sq
    refine sZ ?_ fun K hK => by simp [F]; exact hK
    refine cT ?_
    apply TrD.skip
    apply sq
    apply TrD.block
    apply sq
    refine TrD.ghost (σ' := ⟨(updD (updD (updD (updD (updD (fun _ => .any) 0 (.slice 2 (List.map rGData p0))) 3 (eI p3)) 6 (.ptr 6 0 0 0)) 9 (.slice 2 (List.map rGType a))) 10 (eI (e : Int))), hOfO [some ⟨6, [(rGPattern p2)], 0, 0x0020⟩], 1, 50⟩) ?_ ?_
    ·exact gC [0]
    obtain ⟨O, q, c⟩ := bindE c
    obtain ⟨H, B, c⟩ := bindE c
    refine TrD.draw tysOk mixed [0, 1, 2, 3, 4, 5, 6, 7, 8, 9, 10, 11, 12, 13] [0] [] (by rfl) rfl (fun K hK => ?_)
    simp [idx_inb r, idx_row r, idx_inb q, idx_row q]
    refine cp (ih p0 N O (wsub .i64 p3 1) _ B) ?_
    simp
    apply hK
    refine TrD.cond (b := (!H)) (by simp) (fun g => ?_) (fun g => ?_)
    ·rw [if_pos g] at c
     refine sZ ?_ fun K hK => by simp [g]; exact hK
     cases c
     obtain rfl := E _ rfl
     cases h
     apply TrD.ret
     exact xD
    rw [iN g] at c
    apply TrD.skip
    refine rZ ?_ fun K hK => by simp [g]; exact hK
    cases c
    refine ToAny.mk () rfl ?_
    rw [o]
    exact gc [0] hβ (((((va.f (by simp [f])).f (by simp [f])).p 0 (by simp [f])).f (by simp [f])).f (by simp [f])) ln.f
   rw [congrFun (congrFun o _) m]
   apply sq
   refine sZ ?_ fun K hK => by simp [ilt_len a.length]; exact hK
   refine cF ?_
   refine TrD.exit ?_
   try simp only [↓reduceIte, Nat.reduceEqDiff, Nat.zero_ne_one, Nat.one_ne_zero, OfNat.ofNat_ne_zero, OfNat.zero_ne_ofNat, OfNat.one_ne_ofNat, OfNat.ofNat_ne_one]
   refine ToAny.mk m J ?_
   rw [p]
   exact gC []
  subst hz
  try dsimp only at h
  rw [congrFun p s]
  refine sZ ?_
  cases h
  apply TrD.ret
  exact xD
set_option maxRecDepth 100000 in
theorem c_spec_l3Count : ∀ (n : Nat) (p0 : GPattern) (p1 : Int) (res : Int), m_spec_l3Count n p0 p1 = some res → CallsD Tryz.prog 0o00123 [(.agg (rGPattern p0)), (eI p1)] (fun d => d = (eI res)) := by
 intro n
 induction n with
 | zero => intro p0 p1 res h; cases h
 | succ n ih =>
  intro p0 p1 res h
  rw [m_spec_l3Count.eq_2] at h
  refine CD Tryz.func83 [.tmp 4] fun β hβ => ?_
  refine sZ ?_
  refine sZ ?_
  apply sq
  refine sZ ?_
  obtain ⟨w, r, h⟩ := bindE h
  obtain ⟨p, l⟩ : ∃ S : Int → St, S = fun g => ⟨(updD (fun _ => .any) 5 (eI g)), hOfO [], 0, 31⟩ := ⟨_, rfl⟩
  refine TrD.joinQ p (fun z => w = Ctl.brk z) (fun _ _ hg h => TrD.ghost hg h) ?_ (fun g hz => ?_)
  ·apply TrD.block
   obtain ⟨q, i⟩ : ∃ S : Nat → Int → St, S = fun j a => ⟨(updD (updD (updD (updD (fun _ => .any) 1 (eI p1)) 2 (.ptr 6 0 0 0)) 5 (eI a)) 6 (eI (j : Int))), hOfO [some ⟨6, [(rGPattern p0)], 0, 0x0020⟩], 1, 31⟩ := ⟨_, rfl⟩
   refine TrD.limS (sz := 6) (rows := List.map rGPattern p0.kids) (seen_cell (d := .slice 6 (List.map rGPattern p0.kids)) 0 0 5 (by simp; rfl) rfl (by simp)) (fun hlim => ?_)
   rw [List.length_map] at hlim
   refine TrD.forL q r hlim ?_ (fun j A a m C D v f E c B s => ?_) (fun a y => ?_)
   ·rw [i]
    exact gC [0]
   ·rw [congrFun (congrFun i j) a]
    apply sq
    refine sZ ?_ fun K hK => by simp [v]; exact hK
    refine TrD.cond (b := ile a p1) (by simp) (fun e => ?_) (fun e => ?_)
    ·rw [if_pos e] at c
     apply TrD.skip
     apply sq
     apply TrD.block
     obtain ⟨o, u, c⟩ := bindE c
     refine rk fun K hK => ?_
     simp [idx_inb m, idx_row m, e]
     refine cp (ih A (wsub .i64 p1 a) _ u) ?_
     simp
     apply hK
     refine rZ ?_
     cases c
     refine ToAny.mk (wadd .i64 a o) rfl ?_
     rw [i]
     exact gc [0] hβ ((((va.f (by simp [f])).p 0 (by simp [f])).f (by simp [f])).f (by simp [f])) ln.f
    rw [iN e] at c
    refine TrD.exit ?_
    try simp only [↓reduceIte, Nat.reduceEqDiff, Nat.zero_ne_one, Nat.one_ne_zero, OfNat.ofNat_ne_zero, OfNat.zero_ne_ofNat, OfNat.one_ne_ofNat, OfNat.ofNat_ne_one]
    cases c
    obtain rfl := s _ rfl
    refine ToAny.mk a rfl ?_
    rw [l]
    exact gC []
   rw [congrFun (congrFun i _) a]
   apply sq
   refine sZ ?_ fun K hK => by simp [ilt_len p0.kids.length]; exact hK
   refine cF ?_
   refine TrD.exit ?_
   try simp only [↓reduceIte, Nat.reduceEqDiff, Nat.zero_ne_one, Nat.one_ne_zero, OfNat.ofNat_ne_zero, OfNat.zero_ne_ofNat, OfNat.one_ne_ofNat, OfNat.ofNat_ne_one]
   refine ToAny.mk a y ?_
   rw [l]
   exact gC []
  subst hz
  try dsimp only at h
  rw [congrFun l g]
  refine sZ ?_
  cases h
  apply TrD.ret
  exact xD
end Go.Proofs.YtimpchdgflhkaaaGreat
