import Derived.Test.YtimpchdgflhkaaaGreatJMir
import Derived.Test.YtimpchdgflhkaaaGreatJZap
set_option linter.unusedSimpArgs false
set_option linter.unusedVariables false
namespace Go.Proofs.YtimpchdgflhkaaaGreat
open Go Go.RowKit
set_option maxRecDepth 100000
set_option maxHeartbeats 20000000
set_option maxRecDepth 100000 in
theorem c_spec_l17Open (p0 : (List Int)) (res : Gl17Rd) (h : m_spec_l17Open p0 = some res) : CallsH Tryz.prog 0o00042 [] [(.slice 1 (List.map (rK .u8) p0))] (fun H d => H = [some ⟨2, [(rGl17Rd res)], 0, 0x0066⟩] ∧ d = .ptr 2 0 0 0) := by
 unfold m_spec_l17Open at h
 refine CH Tryz.func34 [.tmp 2] 0 fun β hβ => ?_
 refine sZ ?_
 obtain ⟨o4, g6, h⟩ := bindE h
 obtain ⟨S5, hS5⟩ : ∃ S : (List Int) → St, S = fun s3 => ⟨(updD (fun _ => .any) 0 (.slice 1 (List.map (rK .u8) s3))), hOfO [], 0, 11⟩ := ⟨_, rfl⟩
 refine TrD.join S5 (fun z => o4 = Ctl.brk z) ?_ (fun s3 hz => ?_)
 ·refine sZ ?_
  refine TrD.cond (b := ilt 2000 (lenZ p0.length)) (by simp) (fun hb7 => ?_) (fun hb7 => ?_)
  ·rw [if_pos hb7] at g6
   obtain ⟨x8, hx8, g6⟩ := bindE g6
   refine rZ ?_ fun K hK => by simp [hb7, takeI_row hx8, (takeI_some hx8).2]; exact hK
   cases g6
   refine ToAny.mk x8 rfl ?_
   rw [hS5]
   exact gC []
  rw [iN hb7] at g6
  apply TrD.skip
  cases g6
  refine ToAny.mk p0 rfl ?_
  rw [hS5]
  exact gC []
 subst hz
 try dsimp only at h
 rw [congrFun hS5 s3]
 refine sZ ?_
 cases h
 apply TrD.ret
 refine exitHG (σ' := ⟨(updD (fun _ => .any) 2 (.ptr 2 0 0 0)), hOfO [some ⟨2, [(rGl17Rd (Gl17Rd.mk s3 0))], 0, 0x0066⟩], 1, 11⟩) ?_ ?_
 ·exact gC [16]
 dsimp only [resD]
 exact eA
set_option maxRecDepth 100000 in
theorem c_spec_l17Rd_pick (p0 : Gl17Rd) (p1 : Int) (res : Int × Gl17Rd) (h : m_spec_l17Rd_pick p0 p1 = some res) : CallsH Tryz.prog 0o00044 [⟨2, [(rGl17Rd p0)], 0, 0x0066⟩] [.ptr 2 0 0 0, (eI p1)] (fun H d => H = [some ⟨2, [(rGl17Rd res.2)], 0, 0x0066⟩] ∧ d = (eI res.1)) := by
 unfold m_spec_l17Rd_pick at h
 refine CH Tryz.func36 [.tmp 4] 1 fun β hβ => ?_
 refine sZ ?_
 refine sZ ?_
 apply sq
 apply sq
 rcases bb (ilt p1 1) with hb9 | hb9
 ·rw [if_pos hb9] at h
  refine rZ ?_ fun K hK => by simp [hb9]; exact hK
  refine cT ?_
  refine sZ ?_
  cases h
  apply TrD.ret
  refine exitHG (σ' := ⟨(updD (fun _ => .any) 4 (eI 0)), hOfO [some ⟨2, [(rGl17Rd (Gl17Rd.mk p0.b (wadd .i64 p0.p 1)))], 0, 0x0066⟩], 1, 99⟩) ?_ ?_
  ·exact gC [0]
  dsimp only [resD]
  exact eA
 rw [iN hb9] at h
 refine rZ ?_ fun K hK => by simp [hb9]; exact hK
 refine TrD.cond (b := ieq (lenZ p0.b.length) 0) (by simp) (fun c => ?_) (fun c => ?_)
 ·rw [if_pos c] at h
  refine sZ ?_ fun K hK => by simp [c]; exact hK
  cases h
  apply TrD.ret
  refine exitHG (σ' := ⟨(updD (fun _ => .any) 4 (eI 0)), hOfO [some ⟨2, [(rGl17Rd (Gl17Rd.mk p0.b (wadd .i64 p0.p 1)))], 0, 0x0066⟩], 1, 99⟩) ?_ ?_
  ·exact gC [0]
  dsimp only [resD]
  exact eA
 rw [iN c] at h
 apply TrD.skip
 refine sZ ?_ fun K hK => by simp [c]; exact hK
 apply sq
 refine sZ ?_
 refine TrD.cond (b := ilt (wsub .i64 (wadd .i64 p0.p 1) 1) (lenZ p0.b.length)) (by simp) (fun a => ?_) (fun a => ?_)
 ·rw [if_pos a] at h
  apply sq
  obtain ⟨k, g, h⟩ := bindE h
  obtain ⟨o, l, h⟩ := bindE h
  refine rZ ?_ fun K hK => by simp [a, idx_inb g, idx_row g, ieq_of_chk l]; exact hK
  cases h
  apply TrD.ret
  refine exitHG (σ' := ⟨(updD (fun _ => .any) 4 (eI (wrem (wcv .i64 k) p1))), hOfO [some ⟨2, [(rGl17Rd (Gl17Rd.mk p0.b (wadd .i64 p0.p 1)))], 0, 0x0066⟩], 1, 99⟩) ?_ ?_
  ·exact gC [0]
  dsimp only [resD]
  exact eA
 rw [iN a] at h
 apply TrD.skip
 apply sq
 refine TrD.ghost (σ' := ⟨(updD (updD (updD (fun _ => .any) 0 (.ptr 2 0 0 0)) 1 (eI p1)) 5 (eI (wsub .i64 (wadd .i64 p0.p 1) 1))), hOfO [some ⟨2, [[(.slice 1 (List.map (rK .u8) p0.b)), (eI (wadd .i64 p0.p 1))]], 0, 0x0066⟩], 1, 99⟩) ?_ ?_
 ·exact gC [0]
 obtain ⟨q, n, h⟩ := bindE h
 obtain ⟨e, i, h⟩ := bindE h
 obtain ⟨f, j, h⟩ := bindE h
 refine TrD.draw tysOk mixed [0, 1, 2, 3, 4, 5, 6, 7, 8, 9, 10, 11, 12, 13, 14, 15, 16, 17, 18, 19, 20, 21, 22, 23, 24, 25, 26, 27, 28, 29, 30, 31, 32, 33, 34, 35, 36, 37, 38, 39, 40, 41, 42, 43, 44, 45] [0] [] (by rfl) rfl (fun K hK => ?_)
 simp [c, idx_inb i, idx_row i, idx_inb j, idx_row j]
 apply hK
 refine sZ ?_ fun K hK => by simp [show ieq 64 0 = false from rfl]; exact hK
 apply sq
 obtain ⟨r, m, h⟩ := bindE h
 refine rZ ?_ fun K hK => by simp [ieq_of_chk m]; exact hK
 cases h
 apply TrD.ret
 refine exitHG (σ' := ⟨(updD (fun _ => .any) 4 (eI (wrem (wxor .i64 (wadd .i64 (wadd .i64 (wadd .i64 (wmul .i64 (wcv .i64 e) 131) (wmul .i64 (wcv .i64 f) 1117)) (wmul .i64 (wsub .i64 (wadd .i64 p0.p 1) 1) 29)) (wmul .i64 (wquo .i64 (wsub .i64 (wadd .i64 p0.p 1) 1) (lenZ p0.b.length)) 53)) (wquo .i64 (wadd .i64 (wadd .i64 (wadd .i64 (wmul .i64 (wcv .i64 e) 131) (wmul .i64 (wcv .i64 f) 1117)) (wmul .i64 (wsub .i64 (wadd .i64 p0.p 1) 1) 29)) (wmul .i64 (wquo .i64 (wsub .i64 (wadd .i64 p0.p 1) 1) (lenZ p0.b.length)) 53)) 64)) p1))), hOfO [some ⟨2, [(rGl17Rd (Gl17Rd.mk p0.b (wadd .i64 p0.p 1)))], 0, 0x0066⟩], 1, 99⟩) ?_ ?_
 ·exact gC [0]
 dsimp only [resD]
 exact eA
set_option maxRecDepth 100000 in
theorem c_spec_l17Rd_num (p0 : Gl17Rd) (p1 : (List Int)) (res : Int × Gl17Rd) (h : m_spec_l17Rd_num p0 p1 = some res) : CallsH Tryz.prog 0o00111 [⟨2, [(rGl17Rd p0)], 0, 0x0066⟩] [.ptr 2 0 0 0, (.slice 1 (List.map rI p1))] (fun H d => H = [some ⟨2, [(rGl17Rd res.2)], 0, 0x0066⟩] ∧ d = (eI res.1)) := by
 unfold m_spec_l17Rd_num at h
 refine CH Tryz.func73 [.tmp 4] 1 fun β hβ => ?_
 refine sZ ?_
 apply sq
 obtain ⟨r1, hr1, h⟩ := bindE h
 obtain ⟨x2, hx2, h⟩ := bindE h
 refine rk fun K hK => ?_
 simp
 refine callK (views_same _ _) (.same _ _) [0] (c_spec_l17Rd_pick p0 (lenZ p1.length) _ hr1) (by decide) (.cons (locRen_eq (by simp) (by simp) (by simp)) .nil) (.cons (ren_ptr rfl) (.cons (ren_le (by simp) (by simp)) .nil)) (fun Hq3 qq3 hq3 => ?_)
 obtain ⟨rfl, rfl⟩ := hq3
 refine ⟨by simp, [some ⟨2, [(rGl17Rd r1.2)], 0, 0x0066⟩], (eI r1.1), (.cons (optRen_same (by simp)) .nil), (ren_free (by simp)), ?_⟩
 simp [setMany, newNames, idx_inb hx2, idx_row hx2]
 apply hK
 cases h
 apply TrD.ret
 refine exitHG (σ' := ⟨(updD (fun _ => .any) 4 (eI x2)), hOfO [some ⟨2, [(rGl17Rd r1.2)], 0, 0x0066⟩], 1, 12⟩) ?_ ?_
 ·exact gC [0]
 dsimp only [resD]
 exact eA
set_option maxRecDepth 100000 in
theorem c_spec_l1Result (p0 : GCtor) (p1 : Int) (res : Int) (h : m_spec_l1Result p0 p1 = some res) : CallsD Tryz.prog 0o00134 [(.agg (rGCtor p0)), (eI p1)] (fun d => d = (eI res)) := by
 unfold m_spec_l1Result at h
 refine CD Tryz.func92 [.tmp 4] fun β hβ => ?_
 refine sZ ?_
 apply sq
 refine sZ ?_
 refine TrD.cond (b := ieq p0.index 0) (by simp) (fun hb2 => ?_) (fun hb2 => ?_)
 ·rw [if_pos hb2] at h
  refine sZ ?_ fun K hK => by simp [hb2]; exact hK
  cases h
  apply TrD.ret
  exact xD
 rw [iN hb2] at h
 apply TrD.skip
 refine sZ ?_ fun K hK => by simp [hb2]; exact hK
 cases h
 apply TrD.ret
 exact xD
set_option maxRecDepth 100000 in
theorem c_spec_l1Args (p0 : (List GData)) (p1 : GType) (p2 : Int) (res : (List GType)) (h : m_spec_l1Args p0 p1 p2 = some res) : CallsD Tryz.prog 0o00073 [(.slice 2 (List.map rGData p0)), (.agg (rGType p1)), (eI p2)] (fun d => d = (.slice 2 (List.map rGType res))) := by
 unfold m_spec_l1Args at h
 refine CD Tryz.func59 [.tmp 6] fun β hβ => ?_
 refine sZ ?_
 refine sZ ?_
 apply sq
 obtain ⟨x1, hx1, h⟩ := bindE h
 obtain ⟨x2, hx2, h⟩ := bindE h
 refine rZ ?_ fun K hK => by simp [idx_inb hx1, idx_row hx1, idx_inb hx2, idx_row hx2]; exact hK
 apply sq
 refine sZ ?_
 obtain ⟨E, A, h⟩ := bindE h
 obtain ⟨v, r⟩ : ∃ S : (List GType) → St, S = fun i => ⟨(updD (fun _ => .any) 7 (.sl 2 0 (i).length)), hOfO [some ⟨2, (List.map rGType i), 0, 0x0019⟩], 1, 46⟩ := ⟨_, rfl⟩
 refine TrD.joinQ v (fun z => E = Ctl.brk z) (fun _ _ hg h => TrD.ghost hg h) ?_ (fun i hz => ?_)
 ·apply TrD.block
  obtain ⟨w, m⟩ : ∃ S : Nat → (List GType) → St, S = fun e a => ⟨(updD (updD (updD (updD (fun _ => .any) 4 (.ptr 2 0 0 0)) 7 (.sl 2 1 (a).length)) 8 (.ptr 3 2 0 0)) 9 (eI (e : Int))), hOfO [some ⟨2, [(rGType p1)], 0, 0x0019⟩, some ⟨2, (List.map rGType a), 0, 0x0019⟩, some ⟨3, [(rGCtor x2)], 0, 0x0071⟩], 3, 46⟩ := ⟨_, rfl⟩
  refine TrD.limS (sz := 2) (rows := List.map rGType x2.args) (seen_cell (d := .slice 2 (List.map rGType x2.args)) 104 0 1 (by simp; rfl) rfl (by simp)) (fun hlim => ?_)
  rw [List.length_map] at hlim
  refine TrD.forL w A hlim ?_ (fun e l a t J N D j O f I H => ?_) (fun a G => ?_)
  ·rw [m]
   exact gC [0, 16, 104]
  ·rw [congrFun (congrFun m e) a]
   apply sq
   refine sZ ?_ fun K hK => by simp [D]; exact hK
   refine cT ?_
   apply TrD.skip
   apply sq
   apply TrD.block
   refine sZ ?_ fun K hK => by simp [idx_inb t, idx_row t]; exact hK
   obtain ⟨F, g, f⟩ := bindE f
   obtain ⟨y, o⟩ : ∃ S : Int → St, S = fun p => ⟨(updD (updD (updD (updD (updD (fun _ => .any) 4 (.ptr 2 0 0 0)) 7 (.sl 2 1 (a).length)) 8 (.ptr 3 2 0 0)) 9 (eI (e : Int))) 10 (.ptr 2 3 0 0)), hOfO [some ⟨2, [(rGType p1)], 0, 0x0019⟩, some ⟨2, (List.map rGType a), 0, 0x0019⟩, some ⟨3, [(rGCtor x2)], 0, 0x0071⟩, some ⟨2, [[(eI l.data), (eI p)]], 0, 0x0019⟩], 4, 46⟩ := ⟨_, rfl⟩
   refine TrD.join y (fun z => F = Ctl.brk z) ?_ (fun p hz => ?_)
   ·refine sZ ?_
    refine TrD.cond (b := ieq l.index (-1)) (by simp) (fun c => ?_) (fun c => ?_)
    ·rw [if_pos c] at g
     obtain ⟨u, C, g⟩ := bindE g
     refine rk fun K hK => ?_
     simp [c]
     refine cp (c_spec_l1Result x2 p1.index _ C) ?_
     simp
     apply hK
     cases g
     refine ToAny.mk u rfl ?_
     rw [o]
     exact gC [0, 1, 2, 83]
    rw [iN c] at g
    apply TrD.skip
    cases g
    refine ToAny.mk l.index rfl ?_
    rw [o]
    exact gC [0, 1, 2, 83]
   subst hz
   try dsimp only at f
   rw [congrFun o p]
   obtain ⟨q, n, f⟩ := bindE f
   have s := (app_some n).2
   try simp only [List.length_cons, List.length_nil, Nat.zero_add] at s
   refine rZ ?_ fun K hK => by simp [s]; exact hK
   refine rZ ?_
   cases f
   refine ToAny.mk q rfl ?_
   rw [m]
   exact gc [0, 28, 2] hβ ((((va.p 0 (by simp [j])).s 28 (by simp [(app_some n).1, j])).p 2 (by simp [j])).f (by simp [j])) ((ln.f.f (by simp [(app_some n).1])).f)
  rw [congrFun (congrFun m _) a]
  apply sq
  refine sZ ?_ fun K hK => by simp [ilt_len x2.args.length]; exact hK
  refine cF ?_
  refine TrD.exit ?_
  try simp only [↓reduceIte, Nat.reduceEqDiff, Nat.zero_ne_one, Nat.one_ne_zero, OfNat.ofNat_ne_zero, OfNat.zero_ne_ofNat, OfNat.one_ne_ofNat, OfNat.ofNat_ne_one]
  refine ToAny.mk a G ?_
  rw [r]
  exact gC [1]
 subst hz
 try dsimp only at h
 rw [congrFun r i]
 refine sk fun K hK => ?_
 simp
 apply hK
 obtain rfl := Option.some.inj h
 refine TrD.ret ?_
 refine exitDG (σ' := ⟨(updD (fun _ => .any) 6 (.slice 2 (List.map rGType i))), hOfO [], 0, 46⟩) ?_ ?_
 ·refine (Ghost.raise 0 (by simp; rfl)).trans ?_
  exact Ghost.canonV 0 [] _ _ hβ (keep_first (by decide)) (by decide) (vT_upd (v_of (d0 := (.sl 2 0 (i).length)) (by simp) (v_frz (by simp; rfl) rfl (by simp) (by simp) (rv_free (by simp) (by simp)))) (vT_any _)) .nil
 dsimp only [resD]
 refine endF ?_ ?_ <;> simp [packD]
set_option maxRecDepth 100000 in
theorem c_spec_l1Fits (p0 : GCtor) (p1 : Int) (res : Bool) (h : m_spec_l1Fits p0 p1 = some res) : CallsD Tryz.prog 0o00135 [(.agg (rGCtor p0)), (eI p1)] (fun d => d = (eB res)) := by
 unfold m_spec_l1Fits at h
 refine CD Tryz.func93 [.tmp 4] fun β hβ => ?_
 refine sZ ?_
 apply sq
 rcases bb (ieq p0.index 0) with hb3 | hb3
 ·rw [if_pos hb3] at h
  refine rZ ?_ fun K hK => by simp [hb3]; exact hK
  cases h
  apply TrD.ret
  exact xD
 rw [iN hb3] at h
 rcases bb (ieq p1 0) with hb4 | hb4
 ·rw [if_pos hb4] at h
  refine rZ ?_ fun K hK => by simp [hb3, hb4]; exact hK
  cases h
  apply TrD.ret
  exact xD
 rw [iN hb4] at h
 refine rZ ?_ fun K hK => by simp [hb3, hb4]; exact hK
 cases h
 apply TrD.ret
 exact xD
set_option maxRecDepth 100000 in
theorem c_spec_l1Ctors (p0 : (List GData)) (p1 : GType) (res : (List Int)) (h : m_spec_l1Ctors p0 p1 = some res) : CallsD Tryz.prog 0o00074 [(.slice 2 (List.map rGData p0)), (.agg (rGType p1))] (fun d => d = (.slice 1 (List.map rI res))) := by
 unfold m_spec_l1Ctors at h
 refine CD Tryz.func60 [.tmp 4] fun β hβ => ?_
 refine sZ ?_
 refine sZ ?_
 apply sq
 refine sZ ?_
 refine TrD.cond (b := ieq p1.data (-1)) (by simp) (fun hb2 => ?_) (fun hb2 => ?_)
 ·rw [if_pos hb2] at h
  refine sZ ?_ fun K hK => by simp [hb2]; exact hK
  cases h
  apply TrD.ret
  refine exitDG (σ' := ⟨(updD (fun _ => .any) 4 (.slice 1 (List.map rI []))), hOfO [], 0, 40⟩) ?_ ?_
  ·refine (Ghost.raise 16 (by simp; rfl)).trans ?_
   exact gC [] (ht := (va.u (d0 := (.sl 1 16 0)) (by simp) (v_frz (by simp; rfl) rfl (by simp) (by simp) (rv_free (by simp) (by simp)))))
  dsimp only [resD]
  exact eF
 rw [iN hb2] at h
 apply TrD.skip
 apply sq
 refine sZ ?_ fun K hK => by simp [hb2]; exact hK
 obtain ⟨q, g, h⟩ := bindE h
 obtain ⟨E, A, h⟩ := bindE h
 obtain ⟨v, s⟩ : ∃ S : (List Int) → St, S = fun j => ⟨(updD (fun _ => .any) 5 (.sl 1 0 (j).length)), hOfO [some ⟨1, (List.map rI j), 0, 0x0003⟩], 1, 40⟩ := ⟨_, rfl⟩
 refine TrD.joinQ v (fun z => E = Ctl.brk z) (fun _ _ hg h => TrD.ghost hg h) ?_ (fun j hz => ?_)
 ·apply TrD.block
  obtain ⟨w, n⟩ : ∃ S : Nat → (List Int) → St, S = fun c a => ⟨(updD (updD (updD (updD (fun _ => .any) 0 (.slice 2 (List.map rGData p0))) 3 (.ptr 2 0 0 0)) 5 (.sl 1 1 (a).length)) 6 (eI (c : Int))), hOfO [some ⟨2, [(rGType p1)], 0, 0x0019⟩, some ⟨1, (List.map rI a), 0, 0x0003⟩], 2, 40⟩ := ⟨_, rfl⟩
  refine TrD.limS (sz := 3) (rows := List.map rGCtor q.ctors) (seen_elem (d := .slice 3 (List.map rGCtor q.ctors)) (seen_slot (d := .slice 2 (List.map rGData p0)) 0 (by simp)) g 1 (rGData_eq _) rfl) (fun hlim => ?_)
  rw [List.length_map] at hlim
  refine TrD.forL w A hlim ?_ (fun c I a u O P D l Q m N J => ?_) (fun a H => ?_)
  ·rw [n]
   exact gC [0, 16]
  ·rw [congrFun (congrFun n c) a]
   apply sq
   refine sZ ?_ fun K hK => by simp [idx_inb g, idx_row g, D]; exact hK
   refine cT ?_
   apply TrD.skip
   obtain ⟨F, e, m⟩ := bindE m
   obtain ⟨y, p⟩ : ∃ S : (List Int) → St, S = fun i => ⟨(updD (updD (updD (updD (fun _ => .any) 0 (.slice 2 (List.map rGData p0))) 3 (.ptr 2 0 0 0)) 5 (.sl 1 1 (i).length)) 6 (eI (c : Int))), hOfO [some ⟨2, [(rGType p1)], 0, 0x0019⟩, some ⟨1, (List.map rI i), 0, 0x0003⟩], 2, 40⟩ := ⟨_, rfl⟩
   refine TrD.join y (fun z => F = Ctl.brk z) ?_ (fun i hz => ?_)
   ·apply TrD.block
    apply sq
    refine TrD.ghost (σ' := ⟨(updD (updD (updD (updD (fun _ => .any) 0 (.slice 2 (List.map rGData p0))) 3 (.ptr 2 0 0 0)) 5 (.sl 1 1 (a).length)) 6 (eI (c : Int))), hOfO [some ⟨2, [(rGType p1)], 0, 0x0019⟩, some ⟨1, (List.map rI a), 0, 0x0003⟩], 2, 40⟩) ?_ ?_
    ·exact gC [0, 1]
    obtain ⟨G, C, e⟩ := bindE e
    refine TrD.draw tysOk mixed [0, 1, 2, 3, 4, 5, 6, 7, 8, 9, 10, 11] [0] [] (by rfl) rfl (fun K hK => ?_)
    simp [idx_inb g, idx_row g, idx_inb u, idx_row u]
    refine cp (c_spec_l1Fits I p1.index _ C) ?_
    simp
    apply hK
    refine TrD.cond (b := G) (by simp) (fun f => ?_) (fun f => ?_)
    ·rw [if_pos f] at e
     obtain ⟨r, o, e⟩ := bindE e
     have t := (app_some o).2
     try simp only [List.length_cons, List.length_nil, Nat.zero_add] at t
     refine rZ ?_ fun K hK => by simp [f, t]; exact hK
     cases e
     refine ToAny.mk r rfl ?_
     rw [p]
     exact gc [0, 34] hβ (((va.f.p 0).s 34 (by simp [(app_some o).1])).f) ((ln.f (by simp [(app_some o).1])).f)
    rw [iN f] at e
    apply TrD.skip
    cases e
    refine ToAny.mk a rfl ?_
    rw [p]
    exact gC [0, 1]
   subst hz
   try dsimp only at m
   rw [congrFun p i]
   refine rZ ?_
   cases m
   refine ToAny.mk i rfl ?_
   rw [n]
   exact gc [0, 1] hβ ((((va.f (by simp [l])).p 0 (by simp [l])).s 1 (by simp [l])).f (by simp [l])) ln.f.f
  rw [congrFun (congrFun n _) a]
  apply sq
  refine sZ ?_ fun K hK => by simp [idx_inb g, idx_row g, ilt_len q.ctors.length]; exact hK
  refine cF ?_
  refine TrD.exit ?_
  try simp only [↓reduceIte, Nat.reduceEqDiff, Nat.zero_ne_one, Nat.one_ne_zero, OfNat.ofNat_ne_zero, OfNat.zero_ne_ofNat, OfNat.one_ne_ofNat, OfNat.ofNat_ne_one]
  refine ToAny.mk a H ?_
  rw [s]
  exact gC [1]
 subst hz
 try dsimp only at h
 rw [congrFun s j]
 refine sk fun K hK => ?_
 simp
 apply hK
 obtain rfl := Option.some.inj h
 refine TrD.ret ?_
 refine exitDG (σ' := ⟨(updD (fun _ => .any) 4 (.slice 1 (List.map rI j))), hOfO [], 0, 40⟩) ?_ ?_
 ·refine (Ghost.raise 0 (by simp; rfl)).trans ?_
  exact Ghost.canonV 0 [] _ _ hβ (keep_first (by decide)) (by decide) (vT_upd (v_of (d0 := (.sl 1 0 (j).length)) (by simp) (v_frz (by simp; rfl) rfl (by simp) (by simp) (rv_free (by simp) (by simp)))) (vT_any _)) .nil
 dsimp only [resD]
 refine endF ?_ ?_ <;> simp [packD]
theorem c_spec_l3Draw : ∀ (n : Nat) (p0 : Gl17Rd) (p1 : (List GData)) (p2 : GType) (p3 : Int) (res : GPattern × Gl17Rd), m_spec_l3Draw n p0 p1 p2 p3 = some res → CallsH Tryz.prog 0o00222 [⟨2, [(rGl17Rd p0)], 0, 0x0066⟩] [.ptr 2 0 0 0, (.slice 2 (List.map rGData p1)), (.agg (rGType p2)), (eI p3)] (fun H d => H = [some ⟨2, [(rGl17Rd res.2)], 0, 0x0066⟩] ∧ d = (.agg (rGPattern res.1))) := by
 intro n
 induction n with
 | zero => intro p0 p1 p2 p3 res h; cases h
 | succ n ih =>
  intro p0 p1 p2 p3 res h
  rw [m_spec_l3Draw.eq_2] at h
  refine CH Tryz.func146 [.cell 8 32] 1 fun β hβ => ?_
  refine sZ ?_
  apply sq
  apply sq
  rcases bb (ilt p3 2) with t | t
  ·rw [if_pos t] at h
   refine rZ ?_ fun K hK => by simp [t]; exact hK
   refine cT ?_
   refine sZ ?_
   cases h
   apply TrD.ret
   refine exitHG (σ' := ⟨(updD (fun _ => .any) 8 (.ptr 6 1 0 0)), hOfO [some ⟨2, [(rGl17Rd p0)], 0, 0x0066⟩, some ⟨6, [(rGPattern (GPattern.mk 1 0 0 0 0 []))], 0, 0x0020⟩], 2, 96⟩) ?_ ?_
   ·exact gC [0, 9]
   simp [resD]
   exact eX 1
  rw [iN t] at h
  obtain ⟨p, ab, h⟩ := bindE h
  refine rk fun K hK => ?_
  simp [t]
  refine callK (views_same _ _) (.same _ _) [0] (c_spec_l17Rd_pick p0 4 _ ab) (by decide) (.cons (locRen_eq (by simp) (by simp) (by simp)) .nil) (.cons (ren_ptr rfl) (.cons (ren_le (by simp) (by simp)) .nil)) (fun au aK U => ?_)
  obtain ⟨rfl, rfl⟩ := U
  refine ⟨by simp, [some ⟨2, [(rGl17Rd p.2)], 0, 0x0066⟩], (eI p.1), (.cons (optRen_same (by simp)) .nil), (ren_free (by simp)), ?_⟩
  simp [setMany, newNames]
  apply hK
  refine TrD.cond (b := ieq p.1 0) (by simp) (fun u => ?_) (fun u => ?_)
  ·rw [if_pos u] at h
   refine sZ ?_ fun K hK => by simp [u]; exact hK
   cases h
   apply TrD.ret
   refine exitHG (σ' := ⟨(updD (fun _ => .any) 8 (.ptr 6 1 0 0)), hOfO [some ⟨2, [(rGl17Rd p.2)], 0, 0x0066⟩, some ⟨6, [(rGPattern (GPattern.mk 1 0 0 0 0 []))], 0, 0x0020⟩], 2, 96⟩) ?_ ?_
   ·exact gC [0, 9]
   simp [resD]
   exact eX 1
  rw [iN u] at h
  apply TrD.skip
  apply sq
  apply sq
  obtain ⟨c, ac, h⟩ := bindE h
  refine rk fun K hK => ?_
  simp [u]
  refine callK (views_same _ _) (.same _ _) [0] (c_spec_l17Rd_pick p.2 6 _ ac) (by decide) (.cons (locRen_eq (by simp) (by simp) (by simp)) .nil) (.cons (ren_ptr rfl) (.cons (ren_le (by simp) (by simp)) .nil)) (fun ar aJ T => ?_)
  obtain ⟨rfl, rfl⟩ := T
  refine ⟨by simp, [some ⟨2, [(rGl17Rd c.2)], 0, 0x0066⟩], (eI c.1), (.cons (optRen_same (by simp)) .nil), (ren_free (by simp)), ?_⟩
  simp [setMany, newNames]
  apply hK
  refine TrD.cond (b := ieq c.1 0) (by simp) (fun j => ?_) (fun j => ?_)
  ·rw [if_pos j] at h
   apply sq
   refine TrD.ghost (σ' := ⟨(updD (updD (updD (updD (updD (fun _ => .any) 0 (.ptr 2 0 0 0)) 1 (.slice 2 (List.map rGData p1))) 3 (eI p3)) 6 (.ptr 2 1 0 0)) 8 (.ptr 6 2 0 0)), hOfO [some ⟨2, [(rGl17Rd c.2)], 0, 0x0066⟩, some ⟨2, [(rGType p2)], 0, 0x0019⟩, some ⟨6, [[(eI 0), (eI 0), (eI 0), (eI 0), (eI 0), .nil]], 0, 0x0020⟩], 3, 96⟩) ?_ ?_
   ·exact gC [0, 1, 9]
   obtain ⟨l, ad, h⟩ := bindE h
   obtain ⟨g, ae, h⟩ := bindE h
   refine TrD.draw tysOk mixed [0, 1, 2, 3, 4, 6, 7, 8, 9, 10, 5, 11, 12, 13, 14] [1] [] (by rfl) rfl (fun K hK => ?_)
   simp
   refine callK (views_same _ _) (.same _ _) [0] (ih c.2 p1 p2 (wsub .i64 p3 1) _ ad) (by decide) (.cons (locRen_eq (by simp) (by simp) (by simp)) .nil) (.cons (ren_ptr rfl) (.cons (ren_le (by simp) (by simp)) (.cons (ren_le (by simp) (by simp)) (.cons (ren_le (by simp) (by simp)) .nil)))) (fun av aL V => ?_)
   obtain ⟨rfl, rfl⟩ := V
   refine ⟨by simp, [some ⟨2, [(rGl17Rd l.2)], 0, 0x0066⟩], (.agg (rGPattern l.1)), (.cons (optRen_same (by simp)) .nil), (ren_free (by simp)), ?_⟩
   simp [setMany, newNames]
   refine callK (views_same _ _) (.same _ _) [0] (ih l.2 p1 p2 (wsub .i64 p3 1) _ ae) (by decide) (.cons (locRen_eq (by simp) (by simp) (by simp)) .nil) (.cons (ren_ptr rfl) (.cons (ren_le (by simp) (by simp)) (.cons (ren_le (by simp) (by simp)) (.cons (ren_le (by simp) (by simp)) .nil)))) (fun aw aM W => ?_)
   obtain ⟨rfl, rfl⟩ := W
   refine ⟨by simp, [some ⟨2, [(rGl17Rd g.2)], 0, 0x0066⟩], (.agg (rGPattern g.1)), (.cons (optRen_same (by simp)) .nil), (ren_free (by simp)), ?_⟩
   simp [setMany, newNames]
   apply hK
   cases h
   apply TrD.ret
   refine exitHG (σ' := ⟨(updD (fun _ => .any) 8 (.ptr 6 1 0 0)), hOfO [some ⟨2, [(rGl17Rd g.2)], 0, 0x0066⟩, some ⟨6, [(rGPattern (GPattern.mk 5 0 0 0 0 [l.1, g.1]))], 0, 0x0020⟩], 2, 96⟩) ?_ ?_
   ·refine (Ghost.raise 19 (by simp; rfl)).trans ?_
    exact Ghost.canonV 1 [0, 2] _ _ hβ (keep_first (by decide)) (by decide) (vT_upd (v_of (d0 := (.ptr 6 2 0 0)) (by simp) (v_ptr rfl)) (vT_any _)) (.cons (lv (L := ⟨2, [(rGl17Rd g.2)], 0, 0x0066⟩) (by simp) rfl rfl (by simp) (rv_free (by simp) (by simp))) (.cons (lv (L := ⟨6, [[(eI 5), (eI 0), (eI 0), (eI 0), (eI 0), (.sl 6 19 ([l.1, g.1]).length)]], 0, 0x0020⟩) (by simp) rfl rfl (by simp) (rv_consr (rGPattern_eq _) (.cons (v_free (by simp) (by simp)) (.cons (v_free (by simp) (by simp)) (.cons (v_free (by simp) (by simp)) (.cons (v_free (by simp) (by simp)) (.cons (v_free (by simp) (by simp)) (.cons (v_frz (L := ⟨6, (List.map rGPattern [l.1, g.1]), ([l.1, g.1]).length * 6, 0x0020⟩) (by simp) rfl (by simp) (by simp) (rv_free (by simp) (free_rows_of fr_GPattern _))) .nil)))))) rv_nil)) .nil))
   simp [resD]
   exact eX 1
  rw [iN j] at h
  apply TrD.skip
  apply sq
  refine sZ ?_ fun K hK => by simp [j]; exact hK
  refine TrD.cond (b := ieq p2.data (-1)) (by simp) (fun v => ?_) (fun v => ?_)
  ·rw [if_pos v] at h
   apply sq
   obtain ⟨i, af, h⟩ := bindE h
   refine rk fun K hK => ?_
   simp [v]
   refine callK (views_same _ _) (.same _ _) [0] (c_spec_l17Rd_pick c.2 10 _ af) (by decide) (.cons (locRen_eq (by simp) (by simp) (by simp)) .nil) (.cons (ren_ptr rfl) (.cons (ren_le (by simp) (by simp)) .nil)) (fun az aP Z => ?_)
   obtain ⟨rfl, rfl⟩ := Z
   refine ⟨by simp, [some ⟨2, [(rGl17Rd i.2)], 0, 0x0066⟩], (eI i.1), (.cons (optRen_same (by simp)) .nil), (ren_free (by simp)), ?_⟩
   simp [setMany, newNames]
   apply hK
   apply sq
   obtain ⟨r, ag, h⟩ := bindE h
   obtain ⟨m, ah, h⟩ := bindE h
   refine rk fun K hK => ?_
   simp
   refine callK (views_same _ _) (.same _ _) [0] (c_spec_l17Rd_pick i.2 (wsub .i64 10 i.1) _ ag) (by decide) (.cons (locRen_eq (by simp) (by simp) (by simp)) .nil) (.cons (ren_ptr rfl) (.cons (ren_le (by simp) (by simp)) .nil)) (fun ax aN X => ?_)
   obtain ⟨rfl, rfl⟩ := X
   refine ⟨by simp, [some ⟨2, [(rGl17Rd r.2)], 0, 0x0066⟩], (eI r.1), (.cons (optRen_same (by simp)) .nil), (ren_free (by simp)), ?_⟩
   simp [setMany, newNames]
   refine callK (views_same _ _) (.same _ _) [0] (c_spec_l17Rd_pick r.2 2 _ ah) (by decide) (.cons (locRen_eq (by simp) (by simp) (by simp)) .nil) (.cons (ren_ptr rfl) (.cons (ren_le (by simp) (by simp)) .nil)) (fun ay aO Y => ?_)
   obtain ⟨rfl, rfl⟩ := Y
   refine ⟨by simp, [some ⟨2, [(rGl17Rd m.2)], 0, 0x0066⟩], (eI m.1), (.cons (optRen_same (by simp)) .nil), (ren_free (by simp)), ?_⟩
   simp [setMany, newNames]
   apply hK
   cases h
   apply TrD.ret
   refine exitHG (σ' := ⟨(updD (fun _ => .any) 8 (.ptr 6 1 0 0)), hOfO [some ⟨2, [(rGl17Rd m.2)], 0, 0x0066⟩, some ⟨6, [(rGPattern (GPattern.mk 3 0 i.1 (wadd .i64 i.1 (wmul .i64 r.1 m.1)) 0 []))], 0, 0x0020⟩], 2, 96⟩) ?_ ?_
   ·exact gC [0, 9]
   simp [resD]
   exact eX 1
  rw [iN v] at h
  apply TrD.skip
  apply sq
  obtain ⟨I, ai, h⟩ := bindE h
  refine rk fun K hK => ?_
  simp [v]
  refine cp (c_spec_l1Ctors p1 p2 _ ai) ?_
  simp
  apply hK
  apply sq
  refine sZ ?_
  refine TrD.cond (b := ieq (lenZ I.length) 0) (by simp) (fun w => ?_) (fun w => ?_)
  ·rw [if_pos w] at h
   refine sZ ?_ fun K hK => by simp [w]; exact hK
   cases h
   apply TrD.ret
   refine exitHG (σ' := ⟨(updD (fun _ => .any) 8 (.ptr 6 1 0 0)), hOfO [some ⟨2, [(rGl17Rd c.2)], 0, 0x0066⟩, some ⟨6, [(rGPattern (GPattern.mk 1 0 0 0 0 []))], 0, 0x0020⟩], 2, 96⟩) ?_ ?_
   ·exact gC [0, 9]
   simp [resD]
   exact eX 1
  rw [iN w] at h
  apply TrD.skip
  apply sq
  obtain ⟨B, aj, h⟩ := bindE h
  obtain ⟨f, F, h⟩ := bindE h
  refine rk fun K hK => ?_
  simp [w]
  refine callK (views_same _ _) (.same _ _) [0] (c_spec_l17Rd_pick c.2 (lenZ I.length) _ aj) (by decide) (.cons (locRen_eq (by simp) (by simp) (by simp)) .nil) (.cons (ren_ptr rfl) (.cons (ren_le (by simp) (by simp)) .nil)) (fun aq aI Q => ?_)
  obtain ⟨rfl, rfl⟩ := Q
  refine ⟨by simp, [some ⟨2, [(rGl17Rd B.2)], 0, 0x0066⟩], (eI B.1), (.cons (optRen_same (by simp)) .nil), (ren_free (by simp)), ?_⟩
  simp [setMany, newNames, idx_inb F, idx_row F]
  apply hK
  apply sq
  obtain ⟨o, ak, h⟩ := bindE h
  refine rk fun K hK => ?_
  simp
  refine cp (c_spec_l1Args p1 p2 f _ ak) ?_
  simp
  apply hK
  apply sq
  refine sZ ?_
  obtain ⟨am, N, h⟩ := bindE h
  obtain ⟨J, D⟩ : ∃ S : (Gl17Rd × (List GPattern)) → St, S = fun e => ⟨(updD (updD (fun _ => .any) 8 (.ptr 6 1 0 0)) 11 (.ptr 6 2 0 0)), hOfO [some ⟨2, [(rGl17Rd e.1)], 0, 0x0066⟩, some ⟨6, [[(eI 0), (eI 0), (eI 0), (eI 0), (eI 0), .nil]], 0, 0x0020⟩, some ⟨6, [[(eI 4), (eI f), (eI 0), (eI 0), (eI 0), (.sl 6 3 (e.2).length)]], 0, 0x0020⟩, some ⟨6, (List.map rGPattern e.2), 0, 0x0020⟩], 4, 96⟩ := ⟨_, rfl⟩
  refine TrD.joinQ J (fun z => am = Ctl.brk z) (fun _ _ hg h => TrD.ghost hg h) ?_ (fun e hz => ?_)
  ·apply TrD.block
   obtain ⟨M, x⟩ : ∃ S : Nat → (Gl17Rd × (List GPattern)) → St, S = fun q a => ⟨(updD (updD (updD (updD (updD (updD (updD (fun _ => .any) 0 (.ptr 2 0 0 0)) 1 (.slice 2 (List.map rGData p1))) 3 (eI p3)) 8 (.ptr 6 1 0 0)) 11 (.ptr 6 2 0 0)) 12 (.slice 2 (List.map rGType o))) 13 (eI (q : Int))), hOfO [some ⟨2, [(rGl17Rd a.1)], 0, 0x0066⟩, some ⟨6, [[(eI 0), (eI 0), (eI 0), (eI 0), (eI 0), .nil]], 0, 0x0020⟩, some ⟨6, [[(eI 4), (eI f), (eI 0), (eI 0), (eI 0), (.sl 6 3 (a.2).length)]], 0, 0x0020⟩, some ⟨6, (List.map rGPattern a.2), 0, 0x0020⟩], 4, 96⟩ := ⟨_, rfl⟩
   refine TrD.limS (sz := 2) (rows := List.map rGType o) (seen_slot (d := .slice 2 (List.map rGType o)) 74 (by simp)) (fun hlim => ?_)
   rw [List.length_map] at hlim
   refine TrD.forL M N hlim ?_ (fun q ao a G aC aD al k aE s aB aA => ?_) (fun a an => ?_)
   ·rw [x]
    refine (Ghost.ownNilCell 241 5 6 0x0020 (by simp; rfl) rfl (by simp) (by simp)).trans ?_
    exact gC [0, 9, 241, 313]
   ·rw [congrFun (congrFun x q) a]
    apply sq
    refine sZ ?_ fun K hK => by simp [al]; exact hK
    refine cT ?_
    apply TrD.skip
    apply sq
    apply TrD.block
    refine TrD.ghost (σ' := ⟨(updD (updD (updD (updD (updD (updD (updD (fun _ => .any) 0 (.ptr 2 0 0 0)) 1 (.slice 2 (List.map rGData p1))) 3 (eI p3)) 8 (.ptr 6 1 0 0)) 11 (.ptr 6 2 0 0)) 12 (.slice 2 (List.map rGType o))) 13 (eI (q : Int))), hOfO [some ⟨2, [(rGl17Rd a.1)], 0, 0x0066⟩, some ⟨6, [[(eI 0), (eI 0), (eI 0), (eI 0), (eI 0), .nil]], 0, 0x0020⟩, some ⟨6, [[(eI 4), (eI f), (eI 0), (eI 0), (eI 0), (.sl 6 3 (a.2).length)]], 0, 0x0020⟩, some ⟨6, (List.map rGPattern a.2), 0, 0x0020⟩], 4, 96⟩) ?_ ?_
    ·exact gC [0, 1, 2, 3]
    obtain ⟨A, aa, s⟩ := bindE s
    obtain ⟨C, y, s⟩ := bindE s
    have E := (app_some y).2
    try simp only [List.length_cons, List.length_nil, Nat.zero_add] at E
    refine TrD.draw tysOk mixed [0, 1, 2, 3, 4, 5, 6, 7, 8, 9, 10, 11, 12, 13, 14] [2] [94] (by rfl) rfl (fun K hK => ?_)
    simp [idx_inb G, idx_row G]
    refine callK (views_same _ _) (.same _ _) [0] (ih a.1 p1 ao (wsub .i64 p3 1) _ aa) (by decide) (.cons (locRen_eq (by simp) (by simp) (by simp)) .nil) (.cons (ren_ptr rfl) (.cons (ren_le (by simp) (by simp)) (.cons (ren_le (by simp) (by simp)) (.cons (ren_le (by simp) (by simp)) .nil)))) (fun ap aH O => ?_)
    obtain ⟨rfl, rfl⟩ := O
    refine ⟨by simp, [some ⟨2, [(rGl17Rd A.2)], 0, 0x0066⟩], (.agg (rGPattern A.1)), (.cons (optRen_same (by simp)) .nil), (ren_free (by simp)), ?_⟩
    simp [setMany, newNames, E]
    apply hK
    refine rZ ?_
    cases s
    refine ToAny.mk (A.2, C) rfl ?_
    rw [x]
    exact Ghost.canonV 1 [0, 1, 2, 20] _ _ hβ (keep_first (by decide)) (by decide) (vT_upd (v_of (d0 := (eI (wadd .i64 (q : Int) 1))) (by simp [k]) (v_free (by simp) (by simp [k]))) (vT_upd (v_of (d0 := (.slice 2 (List.map rGType o))) (by simp [k]) (v_free (by simp) (by simp))) (vT_upd (v_of (d0 := (.ptr 6 2 0 0)) (by simp [k]) (v_ptr rfl)) (vT_upd (v_of (d0 := (.ptr 6 1 0 0)) (by simp [k]) (v_ptr rfl)) (vT_upd (v_of (d0 := (eI p3)) (by simp [k]) (v_free (by simp) (by simp))) (vT_upd (v_of (d0 := (.slice 2 (List.map rGData p1))) (by simp [k]) (v_free (by simp) (by simp))) (vT_upd (v_of (d0 := (.ptr 2 0 0 0)) (by simp [k]) (v_ptr rfl)) (vT_any _)))))))) (.cons (lv (L := ⟨2, [(rGl17Rd A.2)], 0, 0x0066⟩) (by simp) rfl rfl (by simp) (rv_free (by simp) (by simp))) (.cons (lv (L := ⟨6, [[(eI 0), (eI 0), (eI 0), (eI 0), (eI 0), .nil]], 0, 0x0020⟩) (by simp) rfl rfl (by simp) (rv_cons (.cons (v_free (by simp) (by simp)) (.cons (v_free (by simp) (by simp)) (.cons (v_free (by simp) (by simp)) (.cons (v_free (by simp) (by simp)) (.cons (v_free (by simp) (by simp)) (.cons (v_free (by simp) (by simp)) .nil)))))) rv_nil)) (.cons (lv (L := ⟨6, [[(eI 4), (eI f), (eI 0), (eI 0), (eI 0), (.sl 6 20 (C).length)]], 0, 0x0020⟩) (by simp [(app_some y).1]) rfl rfl (by simp) (rv_cons (.cons (v_free (by simp) (by simp)) (.cons (v_free (by simp) (by simp)) (.cons (v_free (by simp) (by simp)) (.cons (v_free (by simp) (by simp)) (.cons (v_free (by simp) (by simp)) (.cons (v_sl rfl) .nil)))))) rv_nil)) (.cons (lv (L := ⟨6, (List.map rGPattern C), 0, 0x0020⟩) (by simp [(app_some y).1]) rfl rfl (by simp) (rv_free (by simp [(app_some y).1]) (free_rows_of fr_GPattern _))) .nil))))
   rw [congrFun (congrFun x _) a]
   apply sq
   refine sZ ?_ fun K hK => by simp [ilt_len o.length]; exact hK
   refine cF ?_
   refine TrD.exit ?_
   try simp only [↓reduceIte, Nat.reduceEqDiff, Nat.zero_ne_one, Nat.one_ne_zero, OfNat.ofNat_ne_zero, OfNat.zero_ne_ofNat, OfNat.one_ne_ofNat, OfNat.ofNat_ne_one]
   refine ToAny.mk a an ?_
   rw [D]
   exact gC [0, 1, 2, 3]
  subst hz
  try dsimp only at h
  rw [congrFun D e]
  refine sZ ?_
  cases h
  apply TrD.ret
  refine exitHG (σ' := ⟨(updD (fun _ => .any) 8 (.ptr 6 1 0 0)), hOfO [some ⟨2, [(rGl17Rd e.1)], 0, 0x0066⟩, some ⟨6, [(rGPattern (GPattern.mk 4 f 0 0 0 e.2))], 0, 0x0020⟩], 2, 96⟩) ?_ ?_
  ·refine (Ghost.raise 3 (by simp; rfl)).trans ?_
   exact Ghost.canonV 1 [0, 1] _ _ hβ (keep_first (by decide)) (by decide) (vT_upd (v_of (d0 := (.ptr 6 1 0 0)) (by simp) (v_ptr rfl)) (vT_any _)) (.cons (lv (L := ⟨2, [(rGl17Rd e.1)], 0, 0x0066⟩) (by simp) rfl rfl (by simp) (rv_free (by simp) (by simp))) (.cons (lv (L := ⟨6, [[(eI 4), (eI f), (eI 0), (eI 0), (eI 0), (.sl 6 3 (e.2).length)]], 0, 0x0020⟩) (by simp) rfl rfl (by simp) (rv_consr (rGPattern_eq _) (.cons (v_free (by simp) (by simp)) (.cons (v_free (by simp) (by simp)) (.cons (v_free (by simp) (by simp)) (.cons (v_free (by simp) (by simp)) (.cons (v_free (by simp) (by simp)) (.cons (v_frz (by simp; rfl) rfl (by simp) (by simp) (rv_free (by simp) (by simp))) .nil)))))) rv_nil)) .nil))
  simp [resD]
  exact eX 1
end Go.Proofs.YtimpchdgflhkaaaGreat
