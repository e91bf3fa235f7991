import Derived.Test.YtimpchdgflhkaaaGreatJMir
import Derived.Test.YtimpchdgflhkaaaGreatJZap
import Derived.Test.YtimpchdgflhkaaaGreatJC10
import Derived.Test.YtimpchdgflhkaaaGreatJC11
import Derived.Test.YtimpchdgflhkaaaGreatJC12
import Derived.Test.YtimpchdgflhkaaaGreatJC7
set_option linter.unusedSimpArgs false
set_option linter.unusedVariables false
namespace Go.Proofs.YtimpchdgflhkaaaGreat
open Go Go.RowKit
set_option maxRecDepth 100000
set_option maxHeartbeats 20000000
set_option maxRecDepth 100000 in
theorem c_impl_SimplifyPattern (n : Nat) (p0 : (List GData)) (p1 : GType) (p2 : GPattern) (res : GPattern × Bool) (h : m_impl_SimplifyPattern n p0 p1 p2 = some res) : CallsD Tryz.prog 0o00007 [(.slice 2 (List.map rGData p0)), (.agg (rGType p1)), (.agg (rGPattern p2))] (fun d => d = .tup [(.agg (rGPattern res.1)), (eB res.2)]) := by
 unfold m_impl_SimplifyPattern at h
 refine CD Tryz.func7 [.cell 6 32, .tmp 7] fun β hβ => ?_
 refine sZ ?_
 apply sq
 apply sq
 obtain ⟨r4, hr4, h⟩ := bindE h
 refine rk fun K hK => ?_
 simp
 refine cp (c_impl_PatternValid n p0 p1 p2 _ hr4) ?_
 simp
 apply hK
 refine TrD.cond (b := (!r4)) (by simp) (fun hb5 => ?_) (fun hb5 => ?_)
 ·rw [if_pos hb5] at h
  refine sZ ?_ fun K hK => by simp [hb5]; exact hK
  cases h
  apply TrD.ret
  refine exitDG (σ' := ⟨(updD (updD (fun _ => .any) 6 (.ptr 6 0 0 0)) 7 (eB false)), hOfO [some ⟨6, [(rGPattern (GPattern.mk 0 0 0 0 0 []))], 0, 0x0020⟩], 1, 19⟩) ?_ ?_
  ·exact gC [16]
  simp [resD]
  exact eF
 rw [iN hb5] at h
 apply TrD.skip
 apply sq
 obtain ⟨r6, hr6, h⟩ := bindE h
 obtain ⟨r7, hr7, h⟩ := bindE h
 refine rk fun K hK => ?_
 simp [hb5]
 refine cp (c_impl_simplify n p0 p1 p2 _ hr6) ?_
 simp
 refine cp (c_impl_ownPattern n r6 _ hr7) ?_
 simp
 apply hK
 cases h
 apply TrD.ret
 exact xD
set_option maxRecDepth 100000 in
theorem c_spec_l3Copy : ∀ (n : Nat) (p0 : GPattern) (res : GPattern), m_spec_l3Copy n p0 = some res → CallsD Tryz.prog 0o00030 [(.agg (rGPattern p0))] (fun d => d = (.agg (rGPattern res))) := by
 intro n
 induction n with
 | zero => intro p0 res h; cases h
 | succ n ih =>
  intro p0 res h
  rw [m_spec_l3Copy.eq_2] at h
  refine CD Tryz.func24 [.cell 2 32] fun β hβ => ?_
  refine sZ ?_
  refine sZ ?_
  refine sZ ?_
  apply sq
  refine sZ ?_
  obtain ⟨y, t, h⟩ := bindE h
  obtain ⟨r, o⟩ : ∃ S : (List GPattern) → St, S = fun e => ⟨(updD (updD (fun _ => .any) 2 (.ptr 6 0 0 0)) 3 (.ptr 6 1 0 0)), hOfO [some ⟨6, [[(eI 0), (eI 0), (eI 0), (eI 0), (eI 0), .nil]], 0, 0x0020⟩, some ⟨6, [[(eI p0.op), (eI p0.ctor), (eI p0.n), (eI p0.m), (eI p0.var), (.sl 6 2 (e).length)]], 0, 0x0020⟩, some ⟨6, (List.map rGPattern e), 0, 0x0020⟩], 3, 26⟩ := ⟨_, rfl⟩
  refine TrD.joinQ r (fun z => y = Ctl.brk z) (fun _ _ hg h => TrD.ghost hg h) ?_ (fun e hz => ?_)
  ·apply TrD.block
   obtain ⟨s, i⟩ : ∃ S : Nat → (List GPattern) → St, S = fun c a => ⟨(updD (updD (updD (updD (fun _ => .any) 1 (.ptr 6 0 0 0)) 2 (.ptr 6 1 0 0)) 3 (.ptr 6 2 0 0)) 4 (eI (c : Int))), hOfO [some ⟨6, [(rGPattern p0)], 0, 0x0020⟩, some ⟨6, [[(eI 0), (eI 0), (eI 0), (eI 0), (eI 0), .nil]], 0, 0x0020⟩, some ⟨6, [[(eI p0.op), (eI p0.ctor), (eI p0.n), (eI p0.m), (eI p0.var), (.sl 6 3 (a).length)]], 0, 0x0020⟩, some ⟨6, (List.map rGPattern a), 0, 0x0020⟩], 4, 26⟩ := ⟨_, rfl⟩
   refine TrD.limS (sz := 6) (rows := List.map rGPattern p0.kids) (seen_cell (d := .slice 6 (List.map rGPattern p0.kids)) 0 0 5 (by simp; rfl) rfl (by simp)) (fun hlim => ?_)
   rw [List.length_map] at hlim
   refine TrD.forL s t hlim ?_ (fun c B a q E F w g G f D C => ?_) (fun a A => ?_)
   ·rw [i]
    refine (Ghost.ownNilCell 24 5 6 0x0020 (by simp; rfl) rfl (by simp) (by simp)).trans ?_
    exact gC [0, 8, 24, 64]
   ·rw [congrFun (congrFun i c) a]
    apply sq
    refine sZ ?_ fun K hK => by simp [w]; exact hK
    refine cT ?_
    apply TrD.skip
    apply sq
    apply TrD.block
    refine TrD.ghost (σ' := ⟨(updD (updD (updD (updD (fun _ => .any) 1 (.ptr 6 0 0 0)) 2 (.ptr 6 1 0 0)) 3 (.ptr 6 2 0 0)) 4 (eI (c : Int))), hOfO [some ⟨6, [(rGPattern p0)], 0, 0x0020⟩, some ⟨6, [[(eI 0), (eI 0), (eI 0), (eI 0), (eI 0), .nil]], 0, 0x0020⟩, some ⟨6, [[(eI p0.op), (eI p0.ctor), (eI p0.n), (eI p0.m), (eI p0.var), (.sl 6 3 (a).length)]], 0, 0x0020⟩, some ⟨6, (List.map rGPattern a), 0, 0x0020⟩], 4, 26⟩) ?_ ?_
    ·exact gC [0, 1, 2, 3]
    obtain ⟨I, v, f⟩ := bindE f
    obtain ⟨l, j, f⟩ := bindE f
    have p := (app_some j).2
    try simp only [List.length_cons, List.length_nil, Nat.zero_add] at p
    refine TrD.draw tysOk mixed [0, 1, 2, 3, 4, 5, 6, 7, 8, 9, 10, 11] [0, 2] [24] (by rfl) rfl (fun K hK => ?_)
    simp [idx_inb q, idx_row q]
    refine cp (ih B _ v) ?_
    simp [p]
    apply hK
    refine rZ ?_
    cases f
    refine ToAny.mk l rfl ?_
    rw [i]
    exact Ghost.canonV 0 [0, 1, 2, 20] _ _ hβ (keep_first (by decide)) (by decide) (vT_upd (v_of (d0 := (eI (wadd .i64 (c : Int) 1))) (by simp [g]) (v_free (by simp) (by simp [g]))) (vT_upd (v_of (d0 := (.ptr 6 2 0 0)) (by simp [g]) (v_ptr rfl)) (vT_upd (v_of (d0 := (.ptr 6 1 0 0)) (by simp [g]) (v_ptr rfl)) (vT_upd (v_of (d0 := (.ptr 6 0 0 0)) (by simp [g]) (v_ptr rfl)) (vT_any _))))) (.cons (lv (L := ⟨6, [(rGPattern p0)], 0, 0x0020⟩) (by simp) rfl rfl (by simp) (rv_free (by simp) (by simp))) (.cons (lv (L := ⟨6, [[(eI 0), (eI 0), (eI 0), (eI 0), (eI 0), .nil]], 0, 0x0020⟩) (by simp) rfl rfl (by simp) (rv_cons (.cons (v_free (by simp) (by simp)) (.cons (v_free (by simp) (by simp)) (.cons (v_free (by simp) (by simp)) (.cons (v_free (by simp) (by simp)) (.cons (v_free (by simp) (by simp)) (.cons (v_free (by simp) (by simp)) .nil)))))) rv_nil)) (.cons (lv (L := ⟨6, [[(eI p0.op), (eI p0.ctor), (eI p0.n), (eI p0.m), (eI p0.var), (.sl 6 20 (l).length)]], 0, 0x0020⟩) (by simp [(app_some j).1]) rfl rfl (by simp) (rv_cons (.cons (v_free (by simp) (by simp)) (.cons (v_free (by simp) (by simp)) (.cons (v_free (by simp) (by simp)) (.cons (v_free (by simp) (by simp)) (.cons (v_free (by simp) (by simp)) (.cons (v_sl rfl) .nil)))))) rv_nil)) (.cons (lv (L := ⟨6, (List.map rGPattern l), 0, 0x0020⟩) (by simp [(app_some j).1]) rfl rfl (by simp) (rv_free (by simp [(app_some j).1]) (free_rows_of fr_GPattern _))) .nil))))
   rw [congrFun (congrFun i _) a]
   apply sq
   refine sZ ?_ fun K hK => by simp [ilt_len p0.kids.length]; exact hK
   refine cF ?_
   refine TrD.exit ?_
   try simp only [↓reduceIte, Nat.reduceEqDiff, Nat.zero_ne_one, Nat.one_ne_zero, OfNat.ofNat_ne_zero, OfNat.zero_ne_ofNat, OfNat.one_ne_ofNat, OfNat.ofNat_ne_one]
   refine ToAny.mk a A ?_
   rw [o]
   exact gC [1, 2, 3]
  subst hz
  try dsimp only at h
  rw [congrFun o e]
  refine sZ ?_
  cases h
  apply TrD.ret
  refine exitDG (σ' := ⟨(updD (fun _ => .any) 2 (.ptr 6 0 0 0)), hOfO [some ⟨6, [(rGPattern (GPattern.mk p0.op p0.ctor p0.n p0.m p0.var e))], 0, 0x0020⟩], 1, 26⟩) ?_ ?_
  ·refine (Ghost.raise 2 (by simp; rfl)).trans ?_
   exact gC [0] (hh := (ln.c (lv (L := ⟨6, [[(eI p0.op), (eI p0.ctor), (eI p0.n), (eI p0.m), (eI p0.var), (.sl 6 2 (e).length)]], 0, 0x0020⟩) (by simp) rfl rfl (by simp) (rv_consr (rGPattern_eq _) (.cons (v_free (by simp) (by simp)) (.cons (v_free (by simp) (by simp)) (.cons (v_free (by simp) (by simp)) (.cons (v_free (by simp) (by simp)) (.cons (v_free (by simp) (by simp)) (.cons (v_frz (by simp; rfl) rfl (by simp) (by simp) (rv_free (by simp) (by simp))) .nil)))))) rv_nil))))
  simp [resD]
  exact eF
set_option maxRecDepth 100000 in
theorem c_spec_l11Int (p0 : Int) (p1 : Int) (res : GPattern) (h : m_spec_l11Int p0 p1 = some res) : CallsD Tryz.prog 0o00070 [(eI p0), (eI p1)] (fun d => d = (.agg (rGPattern res))) := by
 unfold m_spec_l11Int at h
 refine CD Tryz.func56 [.cell 4 32] fun β hβ => ?_
 refine sZ ?_
 obtain ⟨n, a, h⟩ := bindE h
 obtain ⟨j, f⟩ : ∃ S : Unit → St, S = fun i => ⟨(updD (updD (updD (fun _ => .any) 0 (eI p0)) 1 (eI p1)) 4 (.ptr 6 0 0 0)), hOfO [some ⟨6, [[(eI 0), (eI 0), (eI 0), (eI 0), (eI 0), .nil]], 0, 0x0020⟩], 1, 15⟩ := ⟨_, rfl⟩
 refine TrD.join j (fun z => n = Ctl.brk z) ?_ (fun i hz => ?_)
 ·apply sq
  rcases bb (ieq p0 0) with e | e
  ·rw [if_pos e] at a
   refine rZ ?_ fun K hK => by simp [e]; exact hK
   refine TrD.cond (b := ieq p1 9) (by simp) (fun c => ?_) (fun c => ?_)
   ·rw [if_pos c] at a
    apply sq
    obtain ⟨g, m, a⟩ := bindE a
    refine rk fun K hK => ?_
    simp [c]
    refine cp (c_spec_l5Any _ m) ?_
    simp
    apply hK
    cases a
    cases h
    apply TrD.ret
    exact xD
   rw [iN c] at a
   apply TrD.skip
   cases a
   refine ToAny.mk () rfl ?_
   rw [f]
   exact gC [0]
  rw [iN e] at a
  refine rZ ?_ fun K hK => by simp [e]; exact hK
  refine cF ?_
  apply TrD.skip
  cases a
  refine ToAny.mk () rfl ?_
  rw [f]
  exact gC [0]
 subst hz
 try dsimp only at h
 rw [congrFun f i]
 refine sZ ?_
 cases h
 apply TrD.ret
 refine exitDG (σ' := ⟨(updD (fun _ => .any) 4 (.ptr 6 0 0 0)), hOfO [some ⟨6, [(rGPattern (GPattern.mk 3 0 p0 p1 0 []))], 0, 0x0020⟩], 1, 15⟩) ?_ ?_
 ·exact gC [0]
 simp [resD]
 exact eF
set_option maxRecDepth 100000 in
theorem c_spec_l11Whole (p0 : GPattern) (res : Bool) (h : m_spec_l11Whole p0 = some res) : CallsD Tryz.prog 0o00072 [(.agg (rGPattern p0))] (fun d => d = (eB res)) := by
 unfold m_spec_l11Whole at h
 refine CD Tryz.func58 [.tmp 2] fun β hβ => ?_
 refine sZ ?_
 refine sZ ?_
 cases h
 apply TrD.ret
 exact xD
set_option maxRecDepth 100000 in
theorem c_spec_l11Wide (p0 : GPattern) (res : Bool) (h : m_spec_l11Wide p0 = some res) : CallsD Tryz.prog 0o00075 [(.agg (rGPattern p0))] (fun d => d = (eB res)) := by
 unfold m_spec_l11Wide at h
 refine CD Tryz.func61 [.tmp 2] fun β hβ => ?_
 refine sZ ?_
 apply sq
 refine sZ ?_
 obtain ⟨u, p, h⟩ := bindE h
 obtain ⟨n, j⟩ : ∃ S : Unit → St, S = fun m => ⟨(fun _ => .any), hOfO [], 0, 18⟩ := ⟨_, rfl⟩
 refine TrD.joinQ n (fun z => u = Ctl.brk z) (fun _ _ hg h => TrD.ghost hg h) ?_ (fun m hz => ?_)
 ·apply TrD.block
  obtain ⟨o, f⟩ : ∃ S : Nat → Unit → St, S = fun g e => ⟨(updD (updD (fun _ => .any) 1 (.ptr 6 0 0 0)) 3 (eI (g : Int))), hOfO [some ⟨6, [(rGPattern p0)], 0, 0x0020⟩], 1, 18⟩ := ⟨_, rfl⟩
  refine TrD.limS (sz := 6) (rows := List.map rGPattern p0.kids) (seen_cell (d := .slice 6 (List.map rGPattern p0.kids)) 0 0 5 (by simp; rfl) rfl (by simp)) (fun hlim => ?_)
  rw [List.length_map] at hlim
  refine TrD.forL o p hlim ?_ (fun g y e l B C t i D a s A => ?_) (fun e w => ?_)
  ·rw [f]
   exact gC [0]
  ·rw [congrFun (congrFun f g) e]
   apply sq
   refine sZ ?_ fun K hK => by simp [t]; exact hK
   refine cT ?_
   apply TrD.skip
   apply sq
   apply TrD.block
   apply sq
   obtain ⟨v, r, a⟩ := bindE a
   refine rk fun K hK => ?_
   simp [idx_inb l, idx_row l]
   refine cp (c_spec_l11Whole y _ r) ?_
   simp
   apply hK
   refine TrD.cond (b := (!v)) (by simp) (fun c => ?_) (fun c => ?_)
   ·rw [if_pos c] at a
    refine sZ ?_ fun K hK => by simp [c]; exact hK
    cases a
    obtain rfl := s _ rfl
    cases h
    apply TrD.ret
    exact xD
   rw [iN c] at a
   apply TrD.skip
   refine rZ ?_ fun K hK => by simp [c]; exact hK
   cases a
   refine ToAny.mk () rfl ?_
   rw [f]
   exact gc [0] hβ ((va.p 0 (by simp [i])).f (by simp [i])) ln.f
  rw [congrFun (congrFun f _) e]
  apply sq
  refine sZ ?_ fun K hK => by simp [ilt_len p0.kids.length]; exact hK
  refine cF ?_
  refine TrD.exit ?_
  try simp only [↓reduceIte, Nat.reduceEqDiff, Nat.zero_ne_one, Nat.one_ne_zero, OfNat.ofNat_ne_zero, OfNat.zero_ne_ofNat, OfNat.one_ne_ofNat, OfNat.ofNat_ne_one]
  refine ToAny.mk e w ?_
  rw [j]
  exact gC []
 subst hz
 try dsimp only at h
 rw [congrFun j m]
 refine sZ ?_
 cases h
 apply TrD.ret
 exact xD
theorem c_spec_PatternSame : ∀ (n : Nat) (p0 : GPattern) (p1 : GPattern) (res : Bool), m_spec_PatternSame n p0 p1 = some res → CallsD Tryz.prog 0o00133 [(.agg (rGPattern p0)), (.agg (rGPattern p1))] (fun d => d = (eB res)) := by
 intro n
 induction n with
 | zero => intro p0 p1 res h; cases h
 | succ n ih =>
  intro p0 p1 res h
  rw [m_spec_PatternSame.eq_2] at h
  refine CD Tryz.func91 [.tmp 4] fun β hβ => ?_
  refine sZ ?_
  apply sq
  apply sq
  rcases bb (!ieq p0.op p1.op) with a | a
  ·rw [if_pos a] at h
   refine rZ ?_ fun K hK => by simp [a]; exact hK
   refine cT ?_
   refine sZ ?_
   cases h
   apply TrD.ret
   exact xD
  rw [iN a] at h
  rcases bb (!ieq p0.ctor p1.ctor) with e | e
  ·rw [if_pos e] at h
   refine rZ ?_ fun K hK => by simp [a, e]; exact hK
   refine cT ?_
   refine sZ ?_
   cases h
   apply TrD.ret
   exact xD
  rw [iN e] at h
  rcases bb (!ieq p0.n p1.n) with f | f
  ·rw [if_pos f] at h
   refine rZ ?_ fun K hK => by simp [a, e, f]; exact hK
   refine cT ?_
   refine sZ ?_
   cases h
   apply TrD.ret
   exact xD
  rw [iN f] at h
  rcases bb (!ieq p0.m p1.m) with g | g
  ·rw [if_pos g] at h
   refine rZ ?_ fun K hK => by simp [a, e, f, g]; exact hK
   refine cT ?_
   refine sZ ?_
   cases h
   apply TrD.ret
   exact xD
  rw [iN g] at h
  rcases bb (!ieq p0.var p1.var) with l | l
  ·rw [if_pos l] at h
   refine rZ ?_ fun K hK => by simp [a, e, f, g, l]; exact hK
   refine cT ?_
   refine sZ ?_
   cases h
   apply TrD.ret
   exact xD
  rw [iN l] at h
  refine rZ ?_ fun K hK => by simp [a, e, f, g, l]; exact hK
  refine TrD.cond (b := !ieq (lenZ p0.kids.length) (lenZ p1.kids.length)) (by simp) (fun o => ?_) (fun o => ?_)
  ·rw [if_pos o] at h
   refine sZ ?_ fun K hK => by simp [o]; exact hK
   cases h
   apply TrD.ret
   exact xD
  rw [iN o] at h
  apply TrD.skip
  apply sq
  refine sZ ?_ fun K hK => by simp [o]; exact hK
  obtain ⟨F, A, h⟩ := bindE h
  obtain ⟨w, s⟩ : ∃ S : Unit → St, S = fun v => ⟨(fun _ => .any), hOfO [], 0, 67⟩ := ⟨_, rfl⟩
  refine TrD.joinQ w (fun z => F = Ctl.brk z) (fun _ _ hg h => TrD.ghost hg h) ?_ (fun v hz => ?_)
  ·apply TrD.block
   obtain ⟨y, q⟩ : ∃ S : Nat → Unit → St, S = fun i p => ⟨(updD (updD (updD (fun _ => .any) 2 (.ptr 6 0 0 0)) 3 (.ptr 6 1 0 0)) 5 (eI (i : Int))), hOfO [some ⟨6, [(rGPattern p0)], 0, 0x0020⟩, some ⟨6, [(rGPattern p1)], 0, 0x0020⟩], 2, 67⟩ := ⟨_, rfl⟩
   refine TrD.limS (sz := 6) (rows := List.map rGPattern p0.kids) (seen_slot (d := .slice 6 (List.map rGPattern p0.kids)) 41 (by simp)) (fun hlim => ?_)
   rw [List.length_map] at hlim
   refine TrD.forL y A hlim ?_ (fun i I p u O P E r Q c D N => ?_) (fun p H => ?_)
   ·rw [q]
    exact gC [0, 8]
   ·rw [congrFun (congrFun q i) p]
    apply sq
    refine sZ ?_ fun K hK => by simp [E]; exact hK
    refine cT ?_
    apply TrD.skip
    apply sq
    apply TrD.block
    apply sq
    refine TrD.ghost (σ' := ⟨(updD (updD (updD (fun _ => .any) 2 (.ptr 6 0 0 0)) 3 (.ptr 6 1 0 0)) 5 (eI (i : Int))), hOfO [some ⟨6, [(rGPattern p0)], 0, 0x0020⟩, some ⟨6, [(rGPattern p1)], 0, 0x0020⟩], 2, 67⟩) ?_ ?_
    ·exact gC [0, 1]
    obtain ⟨J, t, c⟩ := bindE c
    obtain ⟨G, C, c⟩ := bindE c
    refine TrD.draw tysOk mixed [0, 1, 2, 3, 4, 5, 6, 7, 8, 9, 10, 11] [0, 1] [] (by rfl) rfl (fun K hK => ?_)
    simp [idx_inb u, idx_row u, idx_inb t, idx_row t]
    refine cp (ih I J _ C) ?_
    simp
    apply hK
    refine TrD.cond (b := (!G)) (by simp) (fun j => ?_) (fun j => ?_)
    ·rw [if_pos j] at c
     refine sZ ?_ fun K hK => by simp [j]; exact hK
     cases c
     obtain rfl := D _ rfl
     cases h
     apply TrD.ret
     exact xD
    rw [iN j] at c
    apply TrD.skip
    refine rZ ?_ fun K hK => by simp [j]; exact hK
    cases c
    refine ToAny.mk () rfl ?_
    rw [q]
    exact gc [0, 1] hβ (((va.p 0 (by simp [r])).p 1 (by simp [r])).f (by simp [r])) ln.f.f
   rw [congrFun (congrFun q _) p]
   apply sq
   refine sZ ?_ fun K hK => by simp [ilt_len p0.kids.length]; exact hK
   refine cF ?_
   refine TrD.exit ?_
   try simp only [↓reduceIte, Nat.reduceEqDiff, Nat.zero_ne_one, Nat.one_ne_zero, OfNat.ofNat_ne_zero, OfNat.zero_ne_ofNat, OfNat.one_ne_ofNat, OfNat.ofNat_ne_one]
   refine ToAny.mk p H ?_
   rw [s]
   exact gC []
  subst hz
  try dsimp only at h
  rw [congrFun s v]
  refine sZ ?_
  cases h
  apply TrD.ret
  exact xD
end Go.Proofs.YtimpchdgflhkaaaGreat
