import Derived.Test.YtimpchdgflhkaaaGreatJMir
import Derived.Test.YtimpchdgflhkaaaGreatJZap
import Derived.Test.YtimpchdgflhkaaaGreatJC17
import Derived.Test.YtimpchdgflhkaaaGreatJC8
import Derived.Test.YtimpchdgflhkaaaGreatJC9
import Derived.Test.YtimpchdgflhkaaaGreatJC10
set_option linter.unusedSimpArgs false
set_option linter.unusedVariables false
namespace Go.Proofs.YtimpchdgflhkaaaGreat
open Go Go.RowKit
set_option maxRecDepth 100000
set_option maxHeartbeats 20000000
set_option maxRecDepth 100000 in
theorem c_impl_GuardHolds (p0 : GGuard) (p1 : (List GBind)) (res : Bool) (h : m_impl_GuardHolds p0 p1 = some res) : CallsD Tryz.prog 0o00105 [(.agg (rGGuard p0)), (.slice 4 (List.map rGBind p1))] (fun d => d = (eB res)) := by
 unfold m_impl_GuardHolds at h
 refine CD Tryz.func69 [.tmp 4] fun β hβ => ?_
 refine sZ ?_
 apply sq
 refine sZ ?_
 refine TrD.cond (b := ieq p0.op 0) (by simp) (fun hb2 => ?_) (fun hb2 => ?_)
 ·rw [if_pos hb2] at h
  refine sZ ?_ fun K hK => by simp [hb2]; exact hK
  cases h
  apply TrD.ret
  exact xD
 rw [iN hb2] at h
 apply TrD.skip
 apply sq
 obtain ⟨r3, hr3, h⟩ := bindE h
 refine rk fun K hK => ?_
 simp [hb2]
 refine callB (.cons (.same _ _) (.cons (.clos _ _ _ _ 0 _ _ rfl (.ptr _ _ _ _ _ _ _ (by simp; rfl) rfl rfl (by simp))) (.nil _))) (c_slices_IndexFunc_Bind p1 _ [.cptr (rGGuard p0)] (by simp) (fun a0 => m_impl_GuardHolds_1 a0 p0) (fun a0 r hr => c_impl_GuardHolds_1 a0 p0 r hr) _ hr3) (by simp) (by simp) (fun o m => ?_)
 subst m
 refine ⟨by simp, ?_⟩
 simp
 apply hK
 apply sq
 apply sq
 rcases bb (ilt r3 0) with f | f
 ·rw [if_pos f] at h
  refine rZ ?_ fun K hK => by simp [f]; exact hK
  refine cT ?_
  refine sZ ?_
  cases h
  apply TrD.ret
  exact xD
 rw [iN f] at h
 obtain ⟨e, l, h⟩ := bindE h
 refine rZ ?_ fun K hK => by simp [f, idx_inb l, idx_row l]; exact hK
 refine TrD.cond (b := !ieq e.value.ctor (-1)) (by simp) (fun g => ?_) (fun g => ?_)
 ·rw [if_pos g] at h
  refine sZ ?_ fun K hK => by simp [g]; exact hK
  cases h
  apply TrD.ret
  exact xD
 rw [iN g] at h
 apply TrD.skip
 refine sZ ?_ fun K hK => by simp [idx_inb l, idx_row l, g]; exact hK
 apply sq
 rcases bb (ieq p0.op 1) with a | a
 ·rw [if_pos a] at h
  rcases bb (ilt e.value.n p0.n) with c | c
  ·rw [if_pos c] at h
   refine rZ ?_ fun K hK => by simp [a, c]; exact hK
   cases h
   apply TrD.ret
   exact xD
  rw [iN c] at h
  rcases bb (ieq p0.op 2) with i | i
  ·rw [if_pos i] at h
   refine rZ ?_ fun K hK => by simp [a, c, i]; exact hK
   cases h
   apply TrD.ret
   exact xD
  rw [iN i] at h
  refine rZ ?_ fun K hK => by simp [a, c, i]; exact hK
  cases h
  apply TrD.ret
  exact xD
 rw [iN a] at h
 rcases bb (ieq p0.op 2) with j | j
 ·rw [if_pos j] at h
  refine rZ ?_ fun K hK => by simp [a, j]; exact hK
  cases h
  apply TrD.ret
  exact xD
 rw [iN j] at h
 refine rZ ?_ fun K hK => by simp [a, j]; exact hK
 cases h
 apply TrD.ret
 exact xD
set_option maxRecDepth 100000 in
theorem c_impl_run (n : Nat) (p0 : (List GClause)) (p1 : GValue) (res : Int × (List GBind)) (h : m_impl_run n p0 p1 = some res) : CallsD Tryz.prog 0o00040 [(.slice 9 (List.map rGClause p0)), (.agg (rGValue p1))] (fun d => d = .tup [(eI res.1), (.slice 4 (List.map rGBind res.2))]) := by
 unfold m_impl_run at h
 refine CD Tryz.func32 [.tmp 4, .tmp 5] fun β hβ => ?_
 refine sZ ?_
 apply sq
 refine sZ ?_
 obtain ⟨G, y, h⟩ := bindE h
 obtain ⟨u, p⟩ : ∃ S : Unit → St, S = fun r => ⟨(fun _ => .any), hOfO [], 0, 34⟩ := ⟨_, rfl⟩
 refine TrD.joinQ u (fun z => G = Ctl.brk z) (fun _ _ hg h => TrD.ghost hg h) ?_ (fun r hz => ?_)
 ·apply TrD.block
  obtain ⟨v, l⟩ : ∃ S : Nat → Unit → St, S = fun c j => ⟨(updD (updD (updD (updD (fun _ => .any) 3 (.ptr 3 0 0 0)) 10 (.slice 9 (List.map rGClause p0))) 11 (eI (lenZ p0.length))) 12 (eI (c : Int))), hOfO [some ⟨3, [(rGValue p1)], 0, 0x002f⟩], 1, 34⟩ := ⟨_, rfl⟩
  refine TrD.limS (sz := 9) (rows := List.map rGClause p0) (seen_slot (d := .slice 9 (List.map rGClause p0)) 0 (by simp)) (fun hlim => ?_)
  rw [List.length_map] at hlim
  refine TrD.forL v y hlim ?_ (fun c t j q O P F i Q f E N => ?_) (fun j J => ?_)
  ·rw [l]
   exact gC [0]
  ·rw [congrFun (congrFun l c) j]
   refine sZ ?_ fun K hK => by simp [F]; exact hK
   apply sq
   refine cT ?_
   apply TrD.skip
   obtain ⟨H, a, f⟩ := bindE f
   obtain ⟨w, o⟩ : ∃ S : Unit → St, S = fun s => ⟨(updD (updD (updD (updD (fun _ => .any) 3 (.ptr 3 0 0 0)) 10 (.slice 9 (List.map rGClause p0))) 11 (eI (lenZ p0.length))) 12 (eI (c : Int))), hOfO [some ⟨3, [(rGValue p1)], 0, 0x002f⟩], 1, 34⟩ := ⟨_, rfl⟩
   refine TrD.join w (fun z => H = Ctl.brk z) ?_ (fun s hz => ?_)
   ·apply TrD.block
    refine sZ ?_ fun K hK => by simp [idx_inb q, idx_row q]; exact hK
    apply sq
    obtain ⟨m, C, a⟩ := bindE a
    refine rk fun K hK => ?_
    simp
    refine cp (c_impl_matched n t.pat p1 _ C) ?_
    simp
    apply hK
    apply sq
    rcases bb m.2 with g | g
    ·rw [if_pos g] at a
     obtain ⟨I, D, a⟩ := bindE a
     refine rk fun K hK => ?_
     simp [g]
     refine cp (c_impl_GuardHolds t.guard m.1 _ D) ?_
     simp
     apply hK
     refine TrD.cond (b := I) (by simp) (fun e => ?_) (fun e => ?_)
     ·rw [if_pos e] at a
      refine sZ ?_ fun K hK => by simp [e]; exact hK
      cases a
      cases f
      obtain rfl := E _ rfl
      cases h
      apply TrD.ret
      exact xD
     rw [iN e] at a
     apply TrD.skip
     cases a
     refine ToAny.mk () rfl ?_
     rw [o]
     exact gC [0]
    rw [iN g] at a
    refine rZ ?_ fun K hK => by simp [g]; exact hK
    refine cF ?_
    apply TrD.skip
    cases a
    refine ToAny.mk () rfl ?_
    rw [o]
    exact gC [0]
   subst hz
   try dsimp only at f
   rw [congrFun o s]
   refine rZ ?_
   cases f
   refine ToAny.mk () rfl ?_
   rw [l]
   exact gc [0] hβ ((((va.p 0 (by simp [i])).f (by simp [i])).f (by simp [i])).f (by simp [i])) ln.f
  rw [congrFun (congrFun l _) j]
  refine sZ ?_ fun K hK => by simp [ilt_len p0.length]; exact hK
  apply sq
  refine cF ?_
  refine TrD.exit ?_
  try simp only [↓reduceIte, Nat.reduceEqDiff, Nat.zero_ne_one, Nat.one_ne_zero, OfNat.ofNat_ne_zero, OfNat.zero_ne_ofNat, OfNat.one_ne_ofNat, OfNat.ofNat_ne_one]
  refine ToAny.mk j J ?_
  rw [p]
  exact gC []
 subst hz
 try dsimp only at h
 rw [congrFun p r]
 refine sZ ?_
 cases h
 apply TrD.ret
 refine exitDG (σ' := ⟨(updD (updD (fun _ => .any) 4 (eI (-1))) 5 (.slice 4 (List.map rGBind []))), hOfO [], 0, 34⟩) ?_ ?_
 ·exact gC []
 dsimp only [resD]
 exact eF
theorem c_impl_valueScan : ∀ (n : Nat) (p0 : (List GData)) (p1 : GType) (p2 : GValue) (p3 : Int) (p4 : Bool) (p5 : Int) (res : Bool × Int), m_impl_valueScan n p0 p1 p2 p3 p4 p5 = some res → CallsH Tryz.prog 0o00103 [⟨1, [[(eI p5)]], 0, 0x0003⟩] [(.slice 2 (List.map rGData p0)), (.agg (rGType p1)), (.agg (rGValue p2)), (eI p3), (eB p4), .ptr 1 0 0 0] (fun H d => H = [some ⟨1, [[(eI res.2)]], 0, 0x0003⟩] ∧ d = (eB res.1)) := by
 intro n
 induction n with
 | zero => intro p0 p1 p2 p3 p4 p5 res h; cases h
 | succ n ih =>
  intro p0 p1 p2 p3 p4 p5 res h
  rw [m_impl_valueScan.eq_2] at h
  refine CH Tryz.func67 [.tmp 12] 1 fun β hβ => ?_
  refine sZ ?_
  refine sZ ?_
  apply sq
  apply sq
  rcases bb (ilt 60 (wadd .i64 p5 1)) with hb9 | hb9
  ·rw [if_pos hb9] at h
   refine rZ ?_ fun K hK => by simp [hb9]; exact hK
   refine cT ?_
   refine sZ ?_
   cases h
   apply TrD.ret
   refine exitHG (σ' := ⟨(updD (fun _ => .any) 12 (eB false)), hOfO [some ⟨1, [[(eI (wadd .i64 p5 1))]], 0, 0x0003⟩], 1, 108⟩) ?_ ?_
   ·exact gC [0]
   dsimp only [resD]
   exact eA
  rw [iN hb9] at h
  refine rZ ?_ fun K hK => by simp [hb9]; exact hK
  refine TrD.cond (b := ilt 10 p3) (by simp) (fun r => ?_) (fun r => ?_)
  ·rw [if_pos r] at h
   refine sZ ?_ fun K hK => by simp [r]; exact hK
   cases h
   apply TrD.ret
   refine exitHG (σ' := ⟨(updD (fun _ => .any) 12 (eB false)), hOfO [some ⟨1, [[(eI (wadd .i64 p5 1))]], 0, 0x0003⟩], 1, 108⟩) ?_ ?_
   ·exact gC [0]
   dsimp only [resD]
   exact eA
  rw [iN r] at h
  apply TrD.skip
  obtain ⟨am, a, h⟩ := bindE h
  obtain ⟨Q, E⟩ : ∃ S : Unit → St, S = fun O => ⟨(updD (updD (updD (updD (updD (updD (fun _ => .any) 0 (.slice 2 (List.map rGData p0))) 3 (eI p3)) 4 (eB p4)) 5 (.ptr 1 0 0 0)) 7 (.ptr 2 1 0 0)) 8 (.ptr 3 2 0 0)), hOfO [some ⟨1, [[(eI (wadd .i64 p5 1))]], 0, 0x0003⟩, some ⟨2, [(rGType p1)], 0, 0x0019⟩, some ⟨3, [(rGValue p2)], 0, 0x002f⟩], 3, 108⟩ := ⟨_, rfl⟩
  refine TrD.join Q (fun z => am = Ctl.brk z) ?_ (fun O hz => ?_)
  ·apply TrD.block
   apply sq
   rcases bb p4 with c | c
   ·rw [if_pos c] at a
    refine rZ ?_ fun K hK => by simp [r, c]; exact hK
    refine TrD.cond (b := ieq p2.ctor (-2)) (by simp) (fun s => ?_) (fun s => ?_)
    ·rw [if_pos s] at a
     apply sq
     rcases bb (ieq p2.n 0) with v | v
     ·rw [if_pos v] at a
      refine rZ ?_ fun K hK => by simp [s, v]; exact hK
      cases a
      cases h
      apply TrD.ret
      refine exitHG (σ' := ⟨(updD (fun _ => .any) 12 (eB (ieq (lenZ p2.kids.length) 0))), hOfO [some ⟨1, [[(eI (wadd .i64 p5 1))]], 0, 0x0003⟩], 1, 108⟩) ?_ ?_
      ·exact gC [0]
      dsimp only [resD]
      exact eA
     rw [iN v] at a
     refine rZ ?_ fun K hK => by simp [s, v]; exact hK
     cases a
     cases h
     apply TrD.ret
     refine exitHG (σ' := ⟨(updD (fun _ => .any) 12 (eB false)), hOfO [some ⟨1, [[(eI (wadd .i64 p5 1))]], 0, 0x0003⟩], 1, 108⟩) ?_ ?_
     ·exact gC [0]
     dsimp only [resD]
     exact eA
    rw [iN s] at a
    refine sZ ?_ fun K hK => by simp [s]; exact hK
    refine TrD.cond (b := ieq p1.data (-1)) (by simp) (fun e => ?_) (fun e => ?_)
    ·rw [if_pos e] at a
     apply sq
     rcases bb (ieq p2.ctor (-1)) with m | m
     ·rw [if_pos m] at a
      obtain ⟨ao, I, a⟩ := bindE a
      rcases bb ao with w | w
      ·rw [if_pos w] at a
       refine rk fun K hK => ?_
       simp [e, m]
       refine cp (c_impl_within p2.n 0 9 _ I) ?_
       simp [m, w]
       apply hK
       cases a
       cases h
       apply TrD.ret
       refine exitHG (σ' := ⟨(updD (fun _ => .any) 12 (eB (ieq (lenZ p2.kids.length) 0))), hOfO [some ⟨1, [[(eI (wadd .i64 p5 1))]], 0, 0x0003⟩], 1, 108⟩) ?_ ?_
       ·exact gC [0]
       dsimp only [resD]
       exact eA
      rw [iN w] at a
      refine rk fun K hK => ?_
      simp [e, m]
      refine cp (c_impl_within p2.n 0 9 _ I) ?_
      simp [m, w]
      apply hK
      cases a
      cases h
      apply TrD.ret
      refine exitHG (σ' := ⟨(updD (fun _ => .any) 12 (eB false)), hOfO [some ⟨1, [[(eI (wadd .i64 p5 1))]], 0, 0x0003⟩], 1, 108⟩) ?_ ?_
      ·exact gC [0]
      dsimp only [resD]
      exact eA
     rw [iN m] at a
     refine rZ ?_ fun K hK => by simp [e, m]; exact hK
     cases a
     cases h
     apply TrD.ret
     refine exitHG (σ' := ⟨(updD (fun _ => .any) 12 (eB false)), hOfO [some ⟨1, [[(eI (wadd .i64 p5 1))]], 0, 0x0003⟩], 1, 108⟩) ?_ ?_
     ·exact gC [0]
     dsimp only [resD]
     exact eA
    rw [iN e] at a
    apply sq
    refine TrD.ghost (σ' := ⟨(updD (updD (updD (updD (updD (updD (fun _ => .any) 0 (.slice 2 (List.map rGData p0))) 3 (eI p3)) 4 (eB p4)) 5 (.ptr 1 0 0 0)) 7 (.ptr 2 1 0 0)) 8 (.ptr 3 2 0 0)), hOfO [some ⟨1, [[(eI (wadd .i64 p5 1))]], 0, 0x0003⟩, some ⟨2, [(rGType p1)], 0, 0x0019⟩, some ⟨3, [(rGValue p2)], 0, 0x002f⟩], 3, 108⟩) ?_ ?_
    ·exact gc [0, 1, 9] hβ ((((((va.f (by simp [e])).f (by simp [e])).f (by simp [c, e])).p 0 (by simp [e])).p 1 (by simp [e])).p 9 (by simp [e])) ln.f.f.f
    rcases bb (!ieq p2.n 0) with x | x
    ·rw [if_pos x] at a
     refine TrD.draw tysOk mixed [0, 1, 2, 3, 4, 5, 7, 8, 6, 9, 10, 11, 12] [2] [] (by rfl) rfl (fun K hK => ?_)
     simp [c, x]
     apply hK
     refine cT ?_
     refine sZ ?_
     cases a
     cases h
     apply TrD.ret
     refine exitHG (σ' := ⟨(updD (fun _ => .any) 12 (eB false)), hOfO [some ⟨1, [[(eI (wadd .i64 p5 1))]], 0, 0x0003⟩], 1, 108⟩) ?_ ?_
     ·exact gC [0]
     dsimp only [resD]
     exact eA
    rw [iN x] at a
    obtain ⟨ap, ae, a⟩ := bindE a
    obtain ⟨aq, af, a⟩ := bindE a
    refine TrD.draw tysOk mixed [0, 1, 2, 3, 4, 5, 7, 8, 6, 9, 10, 11, 12] [1, 2] [] (by rfl) rfl (fun K hK => ?_)
    simp [c, x]
    refine cp (c_impl_ctorsOf p0 p1 _ ae) ?_
    simp
    refine cp (c_slices_Contains_int ap p2.ctor _ af) ?_
    simp
    apply hK
    refine TrD.cond (b := (!aq)) (by simp) (fun g => ?_) (fun g => ?_)
    ·rw [if_pos g] at a
     refine sZ ?_ fun K hK => by simp [g]; exact hK
     cases a
     cases h
     apply TrD.ret
     refine exitHG (σ' := ⟨(updD (fun _ => .any) 12 (eB false)), hOfO [some ⟨1, [[(eI (wadd .i64 p5 1))]], 0, 0x0003⟩], 1, 108⟩) ?_ ?_
     ·exact gC [0]
     dsimp only [resD]
     exact eA
    rw [iN g] at a
    apply TrD.skip
    cases a
    refine ToAny.mk () rfl ?_
    rw [E]
    exact gc [0, 1, 2] hβ ((((((va.f (by simp [g])).f (by simp [g])).f (by simp [c, g])).p 0 (by simp [g])).p 1 (by simp [g])).p 2 (by simp [g])) ln.f.f.f
   rw [iN c] at a
   refine rZ ?_ fun K hK => by simp [r, c]; exact hK
   refine cF ?_
   refine sZ ?_
   refine TrD.cond (b := ieq p1.data (-1)) (by simp) (fun f => ?_) (fun f => ?_)
   ·rw [if_pos f] at a
    apply sq
    rcases bb (ieq p2.ctor (-1)) with o | o
    ·rw [if_pos o] at a
     obtain ⟨ar, J, a⟩ := bindE a
     rcases bb ar with y | y
     ·rw [if_pos y] at a
      refine rk fun K hK => ?_
      simp [f, o]
      refine cp (c_impl_within p2.n 0 9 _ J) ?_
      simp [o, y]
      apply hK
      cases a
      cases h
      apply TrD.ret
      refine exitHG (σ' := ⟨(updD (fun _ => .any) 12 (eB (ieq (lenZ p2.kids.length) 0))), hOfO [some ⟨1, [[(eI (wadd .i64 p5 1))]], 0, 0x0003⟩], 1, 108⟩) ?_ ?_
      ·exact gC [0]
      dsimp only [resD]
      exact eA
     rw [iN y] at a
     refine rk fun K hK => ?_
     simp [f, o]
     refine cp (c_impl_within p2.n 0 9 _ J) ?_
     simp [o, y]
     apply hK
     cases a
     cases h
     apply TrD.ret
     refine exitHG (σ' := ⟨(updD (fun _ => .any) 12 (eB false)), hOfO [some ⟨1, [[(eI (wadd .i64 p5 1))]], 0, 0x0003⟩], 1, 108⟩) ?_ ?_
     ·exact gC [0]
     dsimp only [resD]
     exact eA
    rw [iN o] at a
    refine rZ ?_ fun K hK => by simp [f, o]; exact hK
    cases a
    cases h
    apply TrD.ret
    refine exitHG (σ' := ⟨(updD (fun _ => .any) 12 (eB false)), hOfO [some ⟨1, [[(eI (wadd .i64 p5 1))]], 0, 0x0003⟩], 1, 108⟩) ?_ ?_
    ·exact gC [0]
    dsimp only [resD]
    exact eA
   rw [iN f] at a
   apply sq
   refine TrD.ghost (σ' := ⟨(updD (updD (updD (updD (updD (updD (fun _ => .any) 0 (.slice 2 (List.map rGData p0))) 3 (eI p3)) 4 (eB p4)) 5 (.ptr 1 0 0 0)) 7 (.ptr 2 1 0 0)) 8 (.ptr 3 2 0 0)), hOfO [some ⟨1, [[(eI (wadd .i64 p5 1))]], 0, 0x0003⟩, some ⟨2, [(rGType p1)], 0, 0x0019⟩, some ⟨3, [(rGValue p2)], 0, 0x002f⟩], 3, 108⟩) ?_ ?_
   ·exact gc [0, 1, 9] hβ ((((((va.f (by simp [f])).f (by simp [f])).f (by simp [c, f])).p 0 (by simp [f])).p 1 (by simp [f])).p 9 (by simp [f])) ln.f.f.f
   rcases bb (!ieq p2.n 0) with A | A
   ·rw [if_pos A] at a
    refine TrD.draw tysOk mixed [0, 1, 2, 3, 4, 5, 7, 8, 6, 9, 10, 11, 12] [2] [] (by rfl) rfl (fun K hK => ?_)
    simp [c, A]
    apply hK
    refine cT ?_
    refine sZ ?_
    cases a
    cases h
    apply TrD.ret
    refine exitHG (σ' := ⟨(updD (fun _ => .any) 12 (eB false)), hOfO [some ⟨1, [[(eI (wadd .i64 p5 1))]], 0, 0x0003⟩], 1, 108⟩) ?_ ?_
    ·exact gC [0]
    dsimp only [resD]
    exact eA
   rw [iN A] at a
   obtain ⟨au, ag, a⟩ := bindE a
   obtain ⟨av, ah, a⟩ := bindE a
   refine TrD.draw tysOk mixed [0, 1, 2, 3, 4, 5, 7, 8, 6, 9, 10, 11, 12] [1, 2] [] (by rfl) rfl (fun K hK => ?_)
   simp [c, A]
   refine cp (c_impl_ctorsOf p0 p1 _ ag) ?_
   simp
   refine cp (c_slices_Contains_int au p2.ctor _ ah) ?_
   simp
   apply hK
   refine TrD.cond (b := (!av)) (by simp) (fun i => ?_) (fun i => ?_)
   ·rw [if_pos i] at a
    refine sZ ?_ fun K hK => by simp [i]; exact hK
    cases a
    cases h
    apply TrD.ret
    refine exitHG (σ' := ⟨(updD (fun _ => .any) 12 (eB false)), hOfO [some ⟨1, [[(eI (wadd .i64 p5 1))]], 0, 0x0003⟩], 1, 108⟩) ?_ ?_
    ·exact gC [0]
    dsimp only [resD]
    exact eA
   rw [iN i] at a
   apply TrD.skip
   cases a
   refine ToAny.mk () rfl ?_
   rw [E]
   exact gc [0, 1, 2] hβ ((((((va.f (by simp [i])).f (by simp [i])).f (by simp [c, i])).p 0 (by simp [i])).p 1 (by simp [i])).p 2 (by simp [i])) ln.f.f.f
  subst hz
  try dsimp only at h
  rw [congrFun E O]
  apply sq
  obtain ⟨t, ai, h⟩ := bindE h
  refine rk fun K hK => ?_
  simp
  refine cp (c_impl_argTypes p0 p1 p2.ctor _ ai) ?_
  simp
  apply hK
  apply sq
  refine sZ ?_
  refine TrD.cond (b := !ieq (lenZ t.length) (lenZ p2.kids.length)) (by simp) (fun B => ?_) (fun B => ?_)
  ·rw [if_pos B] at h
   refine sZ ?_ fun K hK => by simp [B]; exact hK
   cases h
   apply TrD.ret
   refine exitHG (σ' := ⟨(updD (fun _ => .any) 12 (eB false)), hOfO [some ⟨1, [[(eI (wadd .i64 p5 1))]], 0, 0x0003⟩], 1, 108⟩) ?_ ?_
   ·exact gC [0]
   dsimp only [resD]
   exact eA
  rw [iN B] at h
  apply TrD.skip
  apply sq
  refine sZ ?_ fun K hK => by simp [B]; exact hK
  obtain ⟨an, T, h⟩ := bindE h
  obtain ⟨P, G⟩ : ∃ S : Int → St, S = fun u => ⟨(fun _ => .any), hOfO [some ⟨1, [[(eI u)]], 0, 0x0003⟩], 1, 108⟩ := ⟨_, rfl⟩
  refine TrD.joinQ P (fun z => an = Ctl.brk z) (fun _ _ hg h => TrD.ghost hg h) ?_ (fun u hz => ?_)
  ·apply TrD.block
   obtain ⟨R, D⟩ : ∃ S : Nat → Int → St, S = fun p j => ⟨(updD (updD (updD (updD (updD (updD (updD (updD (fun _ => .any) 0 (.slice 2 (List.map rGData p0))) 3 (eI p3)) 4 (eB p4)) 5 (.ptr 1 0 0 0)) 13 (.slice 2 (List.map rGType t))) 88 (.slice 3 (List.map rGValue p2.kids))) 89 (eI (lenZ p2.kids.length))) 90 (eI (p : Int))), hOfO [some ⟨1, [[(eI j)]], 0, 0x0003⟩], 1, 108⟩ := ⟨_, rfl⟩
   refine TrD.limS (sz := 3) (rows := List.map rGValue p2.kids) (seen_slot (d := .slice 3 (List.map rGValue p2.kids)) 84 (by simp)) (fun hlim => ?_)
   rw [List.length_map] at hlim
   refine TrD.forL R T hlim ?_ (fun p F j N aA aB al k aC l ak az => ?_) (fun j aw => ?_)
   ·rw [D]
    exact gC [0]
   ·rw [congrFun (congrFun D p) j]
    refine sZ ?_ fun K hK => by simp [al]; exact hK
    apply sq
    refine cT ?_
    apply TrD.skip
    apply sq
    apply TrD.block
    refine sZ ?_ fun K hK => by simp [idx_inb N, idx_row N]; exact hK
    apply sq
    refine TrD.ghost (σ' := ⟨(updD (updD (updD (updD (updD (updD (updD (updD (updD (updD (fun _ => .any) 0 (.slice 2 (List.map rGData p0))) 3 (eI p3)) 4 (eB p4)) 5 (.ptr 1 0 0 0)) 13 (.slice 2 (List.map rGType t))) 14 (eI (p : Int))) 15 (.ptr 3 1 0 0)) 88 (.slice 3 (List.map rGValue p2.kids))) 89 (eI (lenZ p2.kids.length))) 90 (eI (p : Int))), hOfO [some ⟨1, [[(eI j)]], 0, 0x0003⟩, some ⟨3, [(rGValue F)], 0, 0x002f⟩], 2, 108⟩) ?_ ?_
    ·exact gC [0, 33]
    obtain ⟨ax, M, l⟩ := bindE l
    obtain ⟨q, aj, l⟩ := bindE l
    refine TrD.draw tysOk mixed [0, 1, 2, 3, 4, 5, 6, 7, 8, 9, 10, 11] [1] [] (by rfl) rfl (fun K hK => ?_)
    simp [idx_inb M, idx_row M]
    refine callK (views_same _ _) (.same _ _) [0] (ih p0 ax F (wadd .i64 p3 1) p4 j _ aj) (by decide) (.cons (locRen_eq (by simp) (by simp) (by simp)) .nil) (.cons (ren_le (by simp) (by simp)) (.cons (ren_le (by simp) (by simp)) (.cons (ren_le (by simp) (by simp)) (.cons (ren_le (by simp) (by simp)) (.cons (ren_le (by simp) (by simp)) (.cons (ren_ptr rfl) .nil)))))) (fun ay aM ac => ?_)
    obtain ⟨rfl, rfl⟩ := ac
    refine ⟨by simp, [some ⟨1, [[(eI q.2)]], 0, 0x0003⟩], (eB q.1), (.cons (optRen_same (by simp)) .nil), (ren_free (by simp)), ?_⟩
    simp [setMany, newNames]
    apply hK
    refine TrD.cond (b := (!q.1)) (by simp) (fun C => ?_) (fun C => ?_)
    ·rw [if_pos C] at l
     refine sZ ?_ fun K hK => by simp [C]; exact hK
     cases l
     obtain rfl := ak _ rfl
     cases h
     apply TrD.ret
     refine exitHG (σ' := ⟨(updD (fun _ => .any) 12 (eB false)), hOfO [some ⟨1, [[(eI q.2)]], 0, 0x0003⟩], 1, 108⟩) ?_ ?_
     ·exact gC [0]
     dsimp only [resD]
     exact eA
    rw [iN C] at l
    apply TrD.skip
    refine rZ ?_ fun K hK => by simp [C]; exact hK
    cases l
    refine ToAny.mk q.2 rfl ?_
    rw [D]
    exact gc [0] hβ ((((((((va.f (by simp [k])).f (by simp [k])).f (by simp [k])).p 0 (by simp [k])).f (by simp [k])).f (by simp [k])).f (by simp [k])).f (by simp [k])) ln.f
   rw [congrFun (congrFun D _) j]
   refine sZ ?_ fun K hK => by simp [ilt_len p2.kids.length]; exact hK
   apply sq
   refine cF ?_
   refine TrD.exit ?_
   try simp only [↓reduceIte, Nat.reduceEqDiff, Nat.zero_ne_one, Nat.one_ne_zero, OfNat.ofNat_ne_zero, OfNat.zero_ne_ofNat, OfNat.one_ne_ofNat, OfNat.ofNat_ne_one]
   refine ToAny.mk j aw ?_
   rw [G]
   exact gC [0]
  subst hz
  try dsimp only at h
  rw [congrFun G u]
  refine sZ ?_
  cases h
  apply TrD.ret
  refine exitHG (σ' := ⟨(updD (fun _ => .any) 12 (eB true)), hOfO [some ⟨1, [[(eI u)]], 0, 0x0003⟩], 1, 108⟩) ?_ ?_
  ·exact gC [0]
  dsimp only [resD]
  exact eA
set_option maxRecDepth 100000 in
theorem c_impl_valueOk (n : Nat) (p0 : (List GData)) (p1 : GType) (p2 : GValue) (res : Bool) (h : m_impl_valueOk n p0 p1 p2 = some res) : CallsD Tryz.prog 0o00037 [(.slice 2 (List.map rGData p0)), (.agg (rGType p1)), (.agg (rGValue p2))] (fun d => d = (eB res)) := by
 unfold m_impl_valueOk at h
 refine CD Tryz.func31 [.tmp 6] fun β hβ => ?_
 refine sZ ?_
 refine sZ ?_
 apply sq
 obtain ⟨r1, hr1, h⟩ := bindE h
 refine rk fun K hK => ?_
 simp
 refine callK (views_same _ _) (.same _ _) [24] (c_impl_valueScan n p0 p1 p2 1 false 0 _ hr1) (by decide) (.cons (locRen_eq (by simp) (by simp) (by simp)) .nil) (.cons (ren_le (by simp) (by simp)) (.cons (ren_le (by simp) (by simp)) (.cons (ren_le (by simp) (by simp)) (.cons (ren_le (by simp) (by simp)) (.cons (ren_le (by simp) (by simp)) (.cons (ren_ptr rfl) .nil)))))) (fun Hq2 qq2 hq2 => ?_)
 obtain ⟨rfl, rfl⟩ := hq2
 refine ⟨by simp, [some ⟨1, [[(eI r1.2)]], 0, 0x0003⟩], (eB r1.1), (.cons (optRen_same (by simp)) .nil), (ren_free (by simp)), ?_⟩
 simp [setMany, newNames]
 apply hK
 cases h
 apply TrD.ret
 exact xD
set_option maxRecDepth 100000 in
theorem c_impl_RunClauses (n : Nat) (p0 : (List GData)) (p1 : GType) (p2 : (List GClause)) (p3 : GValue) (res : Int × (List GBind) × Bool) (h : m_impl_RunClauses n p0 p1 p2 p3 = some res) : CallsD Tryz.prog 0o00013 [(.slice 2 (List.map rGData p0)), (.agg (rGType p1)), (.slice 9 (List.map rGClause p2)), (.agg (rGValue p3))] (fun d => d = .tup [(eI res.1), (.slice 4 (List.map rGBind res.2.1)), (eB res.2.2)]) := by
 unfold m_impl_RunClauses at h
 refine CD Tryz.func11 [.tmp 8, .tmp 9, .tmp 10] fun β hβ => ?_
 refine sZ ?_
 apply sq
 apply sq
 obtain ⟨p, f, h⟩ := bindE h
 rcases bb (!p) with a | a
 ·rw [if_pos a] at h
  refine rk fun K hK => ?_
  simp
  refine cp (c_impl_ClausesValid n p0 p1 p2 _ f) ?_
  simp [a]
  apply hK
  refine cT ?_
  refine sZ ?_
  cases h
  apply TrD.ret
  refine exitDG (σ' := ⟨(updD (updD (updD (fun _ => .any) 8 (eI (-1))) 9 (.slice 4 (List.map rGBind []))) 10 (eB false)), hOfO [], 0, 33⟩) ?_ ?_
  ·exact gC []
  dsimp only [resD]
  exact eF
 rw [iN a] at h
 obtain ⟨q, m, h⟩ := bindE h
 refine rk fun K hK => ?_
 simp
 refine cp (c_impl_ClausesValid n p0 p1 p2 _ f) ?_
 simp [a]
 refine cp (c_impl_valueOk n p0 p1 p3 _ m) ?_
 simp
 apply hK
 refine TrD.cond (b := (!q)) (by simp) (fun c => ?_) (fun c => ?_)
 ·rw [if_pos c] at h
  refine sZ ?_ fun K hK => by simp [c]; exact hK
  cases h
  apply TrD.ret
  refine exitDG (σ' := ⟨(updD (updD (updD (fun _ => .any) 8 (eI (-1))) 9 (.slice 4 (List.map rGBind []))) 10 (eB false)), hOfO [], 0, 33⟩) ?_ ?_
  ·exact gC []
  dsimp only [resD]
  exact eF
 rw [iN c] at h
 apply TrD.skip
 apply sq
 obtain ⟨e, o, h⟩ := bindE h
 refine rk fun K hK => ?_
 simp [c]
 refine cp (c_impl_run n p2 p3 _ o) ?_
 simp
 apply hK
 refine sZ ?_
 cases h
 apply TrD.ret
 exact xD
set_option maxRecDepth 100000 in
theorem c_slices_EqualFunc_Value (p0 : (List GValue)) (p1 : (List GValue)) (p2_f : FuncId) (p2_c : List D) (p2_x : ∀ d ∈ p2_c, Free d) (p2 : (GValue → GValue → Option Bool)) (p2_h : ∀ a0 a1 r, p2 a0 a1 = some r → CallsD Tryz.prog p2_f ([(.agg (rGValue a0)), (.agg (rGValue a1))] ++ p2_c) (fun d => d = (eB r))) (res : Bool) (h : m_slices_EqualFunc_Value p0 p1 p2 = some res) : CallsD Tryz.prog 0o00106 [(.slice 3 (List.map rGValue p0)), (.slice 3 (List.map rGValue p1)), .clos p2_f p2_c] (fun d => d = (eB res)) := by
 unfold m_slices_EqualFunc_Value at h
 have p2_y : Free (.clos p2_f p2_c) := free_clos p2_x
 have p2_z := eq_true p2_x
 refine CD Tryz.func70 [.tmp 6] fun β hβ => ?_
 refine sZ ?_
 apply sq
 refine sZ ?_
 refine TrD.cond (b := !ieq (lenZ p0.length) (lenZ p1.length)) (by simp) (fun hb2 => ?_) (fun hb2 => ?_)
 ·rw [if_pos hb2] at h
  refine sZ ?_ fun K hK => by simp [hb2]; exact hK
  cases h
  apply TrD.ret
  exact xD
 rw [iN hb2] at h
 apply TrD.skip
 apply sq
 refine sZ ?_ fun K hK => by simp [hb2]; exact hK
 obtain ⟨w, q, h⟩ := bindE h
 obtain ⟨o, j⟩ : ∃ S : Unit → St, S = fun n => ⟨(fun _ => .any), hOfO [], 0, 32⟩ := ⟨_, rfl⟩
 refine TrD.joinQ o (fun z => w = Ctl.brk z) (fun _ _ hg h => TrD.ghost hg h) ?_ (fun n hz => ?_)
 ·apply TrD.block
  obtain ⟨p, g⟩ : ∃ S : Nat → Unit → St, S = fun i f => ⟨(updD (updD (updD (updD (updD (fun _ => .any) 1 (.slice 3 (List.map rGValue p1))) 2 (.clos p2_f p2_c)) 15 (.slice 3 (List.map rGValue p0))) 16 (eI (lenZ p0.length))) 17 (eI (i : Int))), hOfO [], 0, 32⟩ := ⟨_, rfl⟩
  refine TrD.limS (sz := 3) (rows := List.map rGValue p0) (seen_slot (d := .slice 3 (List.map rGValue p0)) 0 (by simp)) (fun hlim => ?_)
  rw [List.length_map] at hlim
  refine TrD.forL p q hlim ?_ (fun i B f m F G v c H a u E => ?_) (fun f A => ?_)
  ·rw [g]
   exact gc [] hβ ((((va.f.f (by simp) (by simp [p2_y])).f).f).f) ln
  ·rw [congrFun (congrFun g i) f]
   refine sZ ?_ fun K hK => by simp [v]; exact hK
   apply sq
   refine cT ?_
   apply TrD.skip
   apply sq
   apply TrD.block
   refine sZ ?_ fun K hK => by simp [idx_inb m, idx_row m]; exact hK
   apply sq
   obtain ⟨C, l, a⟩ := bindE a
   refine rZ ?_ fun K hK => by simp [idx_inb l, idx_row l]; exact hK
   apply sq
   obtain ⟨y, t, a⟩ := bindE a
   refine rk fun K hK => ?_
   simp
   refine cp (p2_h B C _ t) ?_ (by simp) (by simp [p2_z])
   simp
   apply hK
   refine TrD.cond (b := (!y)) (by simp) (fun e => ?_) (fun e => ?_)
   ·rw [if_pos e] at a
    refine sZ ?_ fun K hK => by simp [e]; exact hK
    cases a
    obtain rfl := u _ rfl
    cases h
    apply TrD.ret
    exact xD
   rw [iN e] at a
   apply TrD.skip
   refine rZ ?_ fun K hK => by simp [e]; exact hK
   cases a
   refine ToAny.mk () rfl ?_
   rw [g]
   exact gc [] hβ (((((va.f (by simp [c])).f (by simp [c]) (by simp [p2_y])).f (by simp [c])).f (by simp [c])).f (by simp [c])) ln
  rw [congrFun (congrFun g _) f]
  refine sZ ?_ fun K hK => by simp [ilt_len p0.length]; exact hK
  apply sq
  refine cF ?_
  refine TrD.exit ?_
  try simp only [↓reduceIte, Nat.reduceEqDiff, Nat.zero_ne_one, Nat.one_ne_zero, OfNat.ofNat_ne_zero, OfNat.zero_ne_ofNat, OfNat.one_ne_ofNat, OfNat.ofNat_ne_one]
  refine ToAny.mk f A ?_
  rw [j]
  exact gC []
 subst hz
 try dsimp only at h
 rw [congrFun j n]
 refine sZ ?_
 cases h
 apply TrD.ret
 exact xD
set_option maxRecDepth 100000 in
theorem c_impl_ValueSame : ∀ (n : Nat) (p0 : GValue) (p1 : GValue) (res : Bool), m_impl_ValueSame n p0 p1 = some res → CallsD Tryz.prog 0o00041 [(.agg (rGValue p0)), (.agg (rGValue p1))] (fun d => d = (eB res)) := by
 intro n
 induction n with
 | zero => intro p0 p1 res h; cases h
 | succ n ih =>
  intro p0 p1 res h
  rw [m_impl_ValueSame.eq_2] at h
  refine CD Tryz.func33 [.tmp 4] fun β hβ => ?_
  refine sZ ?_
  apply sq
  rcases bb (ieq p0.ctor p1.ctor) with hb5 | hb5
  ·rw [if_pos hb5] at h
   rcases bb (ieq p0.n p1.n) with hb6 | hb6
   ·rw [if_pos hb6] at h
    obtain ⟨r7, hr7, h⟩ := bindE h
    refine rk fun K hK => ?_
    simp [hb5, hb6]
    refine cp (c_slices_EqualFunc_Value p0.kids p1.kids _ [] (by simp) (fun a0 a1 => m_impl_ValueSame n a0 a1) (fun a0 a1 r hr => ih a0 a1 r hr) _ hr7) ?_
    simp [hb5, hb6]
    apply hK
    cases h
    apply TrD.ret
    exact xD
   rw [iN hb6] at h
   refine rZ ?_ fun K hK => by simp [hb5, hb6]; exact hK
   cases h
   apply TrD.ret
   exact xD
  rw [iN hb5] at h
  refine rZ ?_ fun K hK => by simp [hb5]; exact hK
  cases h
  apply TrD.ret
  exact xD
set_option maxRecDepth 100000 in
theorem c_laws_ptBinds (n : Nat) (p0 : (List GBind)) (p1 : (List GBind)) (res : Bool) (h : m_laws_ptBinds n p0 p1 = some res) : CallsD Tryz.prog 0o00014 [(.slice 4 (List.map rGBind p0)), (.slice 4 (List.map rGBind p1))] (fun d => d = (eB res)) := by
 unfold m_laws_ptBinds at h
 refine CD Tryz.func12 [.tmp 4] fun β hβ => ?_
 refine sZ ?_
 apply sq
 refine sZ ?_
 refine TrD.cond (b := !ieq (lenZ p0.length) (lenZ p1.length)) (by simp) (fun hb2 => ?_) (fun hb2 => ?_)
 ·rw [if_pos hb2] at h
  refine sZ ?_ fun K hK => by simp [hb2]; exact hK
  cases h
  apply TrD.ret
  exact xD
 rw [iN hb2] at h
 apply TrD.skip
 apply sq
 refine sZ ?_ fun K hK => by simp [hb2]; exact hK
 obtain ⟨B, v, h⟩ := bindE h
 obtain ⟨t, o⟩ : ∃ S : Unit → St, S = fun q => ⟨(fun _ => .any), hOfO [], 0, 42⟩ := ⟨_, rfl⟩
 refine TrD.joinQ t (fun z => B = Ctl.brk z) (fun _ _ hg h => TrD.ghost hg h) ?_ (fun q hz => ?_)
 ·apply TrD.block
  obtain ⟨u, i⟩ : ∃ S : Nat → Unit → St, S = fun c g => ⟨(updD (updD (updD (fun _ => .any) 0 (.slice 4 (List.map rGBind p0))) 1 (.slice 4 (List.map rGBind p1))) 5 (eI (c : Int))), hOfO [], 0, 42⟩ := ⟨_, rfl⟩
  refine TrD.limS (sz := 4) (rows := List.map rGBind p0) (seen_slot (d := .slice 4 (List.map rGBind p0)) 0 (by simp)) (fun hlim => ?_)
  rw [List.length_map] at hlim
  refine TrD.forL u v hlim ?_ (fun c r g l F G A m H a p E => ?_) (fun g D => ?_)
  ·rw [i]
   exact gC []
  ·rw [congrFun (congrFun i c) g]
   apply sq
   refine sZ ?_ fun K hK => by simp [A]; exact hK
   refine cT ?_
   apply TrD.skip
   apply sq
   apply TrD.block
   apply sq
   refine TrD.ghost (σ' := ⟨(updD (updD (updD (fun _ => .any) 0 (.slice 4 (List.map rGBind p0))) 1 (.slice 4 (List.map rGBind p1))) 5 (eI (c : Int))), hOfO [], 0, 42⟩) ?_ ?_
   ·exact gC []
   obtain ⟨s, j, a⟩ := bindE a
   rcases bb (!ieq r.var s.var) with e | e
   ·rw [if_pos e] at a
    refine TrD.draw tysOk mixed [0, 1, 2, 3, 4, 5, 6, 7, 8, 9, 10, 11, 12, 13, 14, 15, 16, 17, 18, 19, 20, 21, 22, 23, 24] [] [] (by rfl) rfl (fun K hK => ?_)
    simp [idx_inb l, idx_row l, idx_inb j, idx_row j, e]
    apply hK
    refine cT ?_
    refine sZ ?_
    cases a
    obtain rfl := p _ rfl
    cases h
    apply TrD.ret
    exact xD
   rw [iN e] at a
   obtain ⟨C, y, a⟩ := bindE a
   refine TrD.draw tysOk mixed [0, 1, 2, 3, 4, 5, 6, 7, 8, 9, 10, 11, 12, 13, 14, 15, 16, 17, 18, 19, 20, 21, 22, 23, 24] [] [] (by rfl) rfl (fun K hK => ?_)
   simp [idx_inb l, idx_row l, idx_inb j, idx_row j, e]
   refine cp (c_impl_ValueSame n r.value s.value _ y) ?_
   simp
   apply hK
   refine TrD.cond (b := (!C)) (by simp) (fun f => ?_) (fun f => ?_)
   ·rw [if_pos f] at a
    refine sZ ?_ fun K hK => by simp [f]; exact hK
    cases a
    obtain rfl := p _ rfl
    cases h
    apply TrD.ret
    exact xD
   rw [iN f] at a
   apply TrD.skip
   refine rZ ?_ fun K hK => by simp [f]; exact hK
   cases a
   refine ToAny.mk () rfl ?_
   rw [i]
   exact gc [] hβ (((va.f (by simp [m])).f (by simp [m])).f (by simp [m])) ln
  rw [congrFun (congrFun i _) g]
  apply sq
  refine sZ ?_ fun K hK => by simp [ilt_len p0.length]; exact hK
  refine cF ?_
  refine TrD.exit ?_
  try simp only [↓reduceIte, Nat.reduceEqDiff, Nat.zero_ne_one, Nat.one_ne_zero, OfNat.ofNat_ne_zero, OfNat.zero_ne_ofNat, OfNat.one_ne_ofNat, OfNat.ofNat_ne_one]
  refine ToAny.mk g D ?_
  rw [o]
  exact gC []
 subst hz
 try dsimp only at h
 rw [congrFun o q]
 refine sZ ?_
 cases h
 apply TrD.ret
 exact xD
end Go.Proofs.YtimpchdgflhkaaaGreat
