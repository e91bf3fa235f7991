import Derived.Test.YtmkamncbkkahjaaGreatJMir
import Derived.Test.YtmkamncbkkahjaaGreatJZap
import Derived.Test.YtmkamncbkkahjaaGreatJC2
import Derived.Test.YtmkamncbkkahjaaGreatJC1
import Derived.Test.YtmkamncbkkahjaaGreatJC4
set_option linter.unusedSimpArgs false
set_option linter.unusedVariables false
namespace Go.Proofs.YtmkamncbkkahjaaGreat
open Go Go.RowKit
set_option maxRecDepth 100000
set_option maxHeartbeats 20000000
theorem c_impl_valueScan : ∀ (n : Nat) (p0 : (List GData)) (p1 : GType) (p2 : GValue) (p3 : Int) (p4 : Bool) (p5 : Int) (res : Bool × Int), m_impl_valueScan n p0 p1 p2 p3 p4 p5 = some res → CallsH Tryz.prog 0o00131 [⟨1, [[(eI p5)]], 0, 0x0003⟩] [(.slice 2 (List.map rGData p0)), (.agg (rGType p1)), (.agg (rGValue p2)), (eI p3), (eB p4), .ptr 1 0 0 0] (fun H d => H = [some ⟨1, [[(eI res.2)]], 0, 0x0003⟩] ∧ d = (eB res.1)) := by
 intro n
 induction n with
 | zero => intro p0 p1 p2 p3 p4 p5 res h; cases h
 | succ n ih =>
  intro p0 p1 p2 p3 p4 p5 res h
  rw [m_impl_valueScan.eq_2] at h
  refine CH Tryz.func89 [.tmp 12] 1 fun β hβ => ?_
  refine sZ ?_
  refine sZ ?_
  apply sq
  apply sq
  rcases bb (ilt 60 (wadd .i64 p5 1)) with hb9 | hb9
  ·rw [if_pos hb9] at h
   refine rZ ?_ fun K hK => by simp [hb9]; exact hK
   refine cT ?_
   refine sZ ?_
   cases h
   apply TrD.ret
   refine exitHG (σ' := ⟨(updD (fun _ => .any) 12 (eB false)), hOfO [some ⟨1, [[(eI (wadd .i64 p5 1))]], 0, 0x0003⟩], 1, 108⟩) ?_ ?_
   ·exact gC [0]
   dsimp only [resD]
   exact eA
  rw [iN hb9] at h
  refine rZ ?_ fun K hK => by simp [hb9]; exact hK
  refine TrD.cond (b := ilt 10 p3) (by simp) (fun r => ?_) (fun r => ?_)
  ·rw [if_pos r] at h
   refine sZ ?_ fun K hK => by simp [r]; exact hK
   cases h
   apply TrD.ret
   refine exitHG (σ' := ⟨(updD (fun _ => .any) 12 (eB false)), hOfO [some ⟨1, [[(eI (wadd .i64 p5 1))]], 0, 0x0003⟩], 1, 108⟩) ?_ ?_
   ·exact gC [0]
   dsimp only [resD]
   exact eA
  rw [iN r] at h
  apply TrD.skip
  obtain ⟨am, a, h⟩ := bindE h
  obtain ⟨Q, E⟩ : ∃ S : Unit → St, S = fun O => ⟨(updD (updD (updD (updD (updD (updD (fun _ => .any) 0 (.slice 2 (List.map rGData p0))) 3 (eI p3)) 4 (eB p4)) 5 (.ptr 1 0 0 0)) 7 (.ptr 2 1 0 0)) 8 (.ptr 3 2 0 0)), hOfO [some ⟨1, [[(eI (wadd .i64 p5 1))]], 0, 0x0003⟩, some ⟨2, [(rGType p1)], 0, 0x0019⟩, some ⟨3, [(rGValue p2)], 0, 0x001d⟩], 3, 108⟩ := ⟨_, rfl⟩
  refine TrD.join Q (fun z => am = Ctl.brk z) ?_ (fun O hz => ?_)
  ·apply TrD.block
   apply sq
   rcases bb p4 with c | c
   ·rw [if_pos c] at a
    refine rZ ?_ fun K hK => by simp [r, c]; exact hK
    refine TrD.cond (b := ieq p2.ctor (-2)) (by simp) (fun s => ?_) (fun s => ?_)
    ·rw [if_pos s] at a
     apply sq
     rcases bb (ieq p2.n 0) with v | v
     ·rw [if_pos v] at a
      refine rZ ?_ fun K hK => by simp [s, v]; exact hK
      cases a
      cases h
      apply TrD.ret
      refine exitHG (σ' := ⟨(updD (fun _ => .any) 12 (eB (ieq (lenZ p2.kids.length) 0))), hOfO [some ⟨1, [[(eI (wadd .i64 p5 1))]], 0, 0x0003⟩], 1, 108⟩) ?_ ?_
      ·exact gC [0]
      dsimp only [resD]
      exact eA
     rw [iN v] at a
     refine rZ ?_ fun K hK => by simp [s, v]; exact hK
     cases a
     cases h
     apply TrD.ret
     refine exitHG (σ' := ⟨(updD (fun _ => .any) 12 (eB false)), hOfO [some ⟨1, [[(eI (wadd .i64 p5 1))]], 0, 0x0003⟩], 1, 108⟩) ?_ ?_
     ·exact gC [0]
     dsimp only [resD]
     exact eA
    rw [iN s] at a
    refine sZ ?_ fun K hK => by simp [s]; exact hK
    refine TrD.cond (b := ieq p1.data (-1)) (by simp) (fun e => ?_) (fun e => ?_)
    ·rw [if_pos e] at a
     apply sq
     rcases bb (ieq p2.ctor (-1)) with m | m
     ·rw [if_pos m] at a
      obtain ⟨ao, I, a⟩ := bindE a
      rcases bb ao with w | w
      ·rw [if_pos w] at a
       refine rk fun K hK => ?_
       simp [e, m]
       refine cp (c_impl_within p2.n 0 9 _ I) ?_
       simp [m, w]
       apply hK
       cases a
       cases h
       apply TrD.ret
       refine exitHG (σ' := ⟨(updD (fun _ => .any) 12 (eB (ieq (lenZ p2.kids.length) 0))), hOfO [some ⟨1, [[(eI (wadd .i64 p5 1))]], 0, 0x0003⟩], 1, 108⟩) ?_ ?_
       ·exact gC [0]
       dsimp only [resD]
       exact eA
      rw [iN w] at a
      refine rk fun K hK => ?_
      simp [e, m]
      refine cp (c_impl_within p2.n 0 9 _ I) ?_
      simp [m, w]
      apply hK
      cases a
      cases h
      apply TrD.ret
      refine exitHG (σ' := ⟨(updD (fun _ => .any) 12 (eB false)), hOfO [some ⟨1, [[(eI (wadd .i64 p5 1))]], 0, 0x0003⟩], 1, 108⟩) ?_ ?_
      ·exact gC [0]
      dsimp only [resD]
      exact eA
     rw [iN m] at a
     refine rZ ?_ fun K hK => by simp [e, m]; exact hK
     cases a
     cases h
     apply TrD.ret
     refine exitHG (σ' := ⟨(updD (fun _ => .any) 12 (eB false)), hOfO [some ⟨1, [[(eI (wadd .i64 p5 1))]], 0, 0x0003⟩], 1, 108⟩) ?_ ?_
     ·exact gC [0]
     dsimp only [resD]
     exact eA
    rw [iN e] at a
    apply sq
    refine TrD.ghost (σ' := ⟨(updD (updD (updD (updD (updD (updD (fun _ => .any) 0 (.slice 2 (List.map rGData p0))) 3 (eI p3)) 4 (eB p4)) 5 (.ptr 1 0 0 0)) 7 (.ptr 2 1 0 0)) 8 (.ptr 3 2 0 0)), hOfO [some ⟨1, [[(eI (wadd .i64 p5 1))]], 0, 0x0003⟩, some ⟨2, [(rGType p1)], 0, 0x0019⟩, some ⟨3, [(rGValue p2)], 0, 0x001d⟩], 3, 108⟩) ?_ ?_
    ·exact gc [0, 1, 9] hβ ((((((va.f (by simp [e])).f (by simp [e])).f (by simp [c, e])).p 0 (by simp [e])).p 1 (by simp [e])).p 9 (by simp [e])) ln.f.f.f
    rcases bb (!ieq p2.n 0) with x | x
    ·rw [if_pos x] at a
     refine TrD.draw tysOk mixed [0, 1, 2, 3, 4, 5, 7, 8, 6, 9, 10, 11, 12] [2] [] (by rfl) rfl (fun K hK => ?_)
     simp [c, x]
     apply hK
     refine cT ?_
     refine sZ ?_
     cases a
     cases h
     apply TrD.ret
     refine exitHG (σ' := ⟨(updD (fun _ => .any) 12 (eB false)), hOfO [some ⟨1, [[(eI (wadd .i64 p5 1))]], 0, 0x0003⟩], 1, 108⟩) ?_ ?_
     ·exact gC [0]
     dsimp only [resD]
     exact eA
    rw [iN x] at a
    obtain ⟨ap, ae, a⟩ := bindE a
    obtain ⟨aq, af, a⟩ := bindE a
    refine TrD.draw tysOk mixed [0, 1, 2, 3, 4, 5, 7, 8, 6, 9, 10, 11, 12] [1, 2] [] (by rfl) rfl (fun K hK => ?_)
    simp [c, x]
    refine cp (c_impl_ctorsOf p0 p1 _ ae) ?_
    simp
    refine cp (c_slices_Contains_int ap p2.ctor _ af) ?_
    simp
    apply hK
    refine TrD.cond (b := (!aq)) (by simp) (fun g => ?_) (fun g => ?_)
    ·rw [if_pos g] at a
     refine sZ ?_ fun K hK => by simp [g]; exact hK
     cases a
     cases h
     apply TrD.ret
     refine exitHG (σ' := ⟨(updD (fun _ => .any) 12 (eB false)), hOfO [some ⟨1, [[(eI (wadd .i64 p5 1))]], 0, 0x0003⟩], 1, 108⟩) ?_ ?_
     ·exact gC [0]
     dsimp only [resD]
     exact eA
    rw [iN g] at a
    apply TrD.skip
    cases a
    refine ToAny.mk () rfl ?_
    rw [E]
    exact gc [0, 1, 2] hβ ((((((va.f (by simp [g])).f (by simp [g])).f (by simp [c, g])).p 0 (by simp [g])).p 1 (by simp [g])).p 2 (by simp [g])) ln.f.f.f
   rw [iN c] at a
   refine rZ ?_ fun K hK => by simp [r, c]; exact hK
   refine cF ?_
   refine sZ ?_
   refine TrD.cond (b := ieq p1.data (-1)) (by simp) (fun f => ?_) (fun f => ?_)
   ·rw [if_pos f] at a
    apply sq
    rcases bb (ieq p2.ctor (-1)) with o | o
    ·rw [if_pos o] at a
     obtain ⟨ar, J, a⟩ := bindE a
     rcases bb ar with y | y
     ·rw [if_pos y] at a
      refine rk fun K hK => ?_
      simp [f, o]
      refine cp (c_impl_within p2.n 0 9 _ J) ?_
      simp [o, y]
      apply hK
      cases a
      cases h
      apply TrD.ret
      refine exitHG (σ' := ⟨(updD (fun _ => .any) 12 (eB (ieq (lenZ p2.kids.length) 0))), hOfO [some ⟨1, [[(eI (wadd .i64 p5 1))]], 0, 0x0003⟩], 1, 108⟩) ?_ ?_
      ·exact gC [0]
      dsimp only [resD]
      exact eA
     rw [iN y] at a
     refine rk fun K hK => ?_
     simp [f, o]
     refine cp (c_impl_within p2.n 0 9 _ J) ?_
     simp [o, y]
     apply hK
     cases a
     cases h
     apply TrD.ret
     refine exitHG (σ' := ⟨(updD (fun _ => .any) 12 (eB false)), hOfO [some ⟨1, [[(eI (wadd .i64 p5 1))]], 0, 0x0003⟩], 1, 108⟩) ?_ ?_
     ·exact gC [0]
     dsimp only [resD]
     exact eA
    rw [iN o] at a
    refine rZ ?_ fun K hK => by simp [f, o]; exact hK
    cases a
    cases h
    apply TrD.ret
    refine exitHG (σ' := ⟨(updD (fun _ => .any) 12 (eB false)), hOfO [some ⟨1, [[(eI (wadd .i64 p5 1))]], 0, 0x0003⟩], 1, 108⟩) ?_ ?_
    ·exact gC [0]
    dsimp only [resD]
    exact eA
   rw [iN f] at a
   apply sq
   refine TrD.ghost (σ' := ⟨(updD (updD (updD (updD (updD (updD (fun _ => .any) 0 (.slice 2 (List.map rGData p0))) 3 (eI p3)) 4 (eB p4)) 5 (.ptr 1 0 0 0)) 7 (.ptr 2 1 0 0)) 8 (.ptr 3 2 0 0)), hOfO [some ⟨1, [[(eI (wadd .i64 p5 1))]], 0, 0x0003⟩, some ⟨2, [(rGType p1)], 0, 0x0019⟩, some ⟨3, [(rGValue p2)], 0, 0x001d⟩], 3, 108⟩) ?_ ?_
   ·exact gc [0, 1, 9] hβ ((((((va.f (by simp [f])).f (by simp [f])).f (by simp [c, f])).p 0 (by simp [f])).p 1 (by simp [f])).p 9 (by simp [f])) ln.f.f.f
   rcases bb (!ieq p2.n 0) with A | A
   ·rw [if_pos A] at a
    refine TrD.draw tysOk mixed [0, 1, 2, 3, 4, 5, 7, 8, 6, 9, 10, 11, 12] [2] [] (by rfl) rfl (fun K hK => ?_)
    simp [c, A]
    apply hK
    refine cT ?_
    refine sZ ?_
    cases a
    cases h
    apply TrD.ret
    refine exitHG (σ' := ⟨(updD (fun _ => .any) 12 (eB false)), hOfO [some ⟨1, [[(eI (wadd .i64 p5 1))]], 0, 0x0003⟩], 1, 108⟩) ?_ ?_
    ·exact gC [0]
    dsimp only [resD]
    exact eA
   rw [iN A] at a
   obtain ⟨au, ag, a⟩ := bindE a
   obtain ⟨av, ah, a⟩ := bindE a
   refine TrD.draw tysOk mixed [0, 1, 2, 3, 4, 5, 7, 8, 6, 9, 10, 11, 12] [1, 2] [] (by rfl) rfl (fun K hK => ?_)
   simp [c, A]
   refine cp (c_impl_ctorsOf p0 p1 _ ag) ?_
   simp
   refine cp (c_slices_Contains_int au p2.ctor _ ah) ?_
   simp
   apply hK
   refine TrD.cond (b := (!av)) (by simp) (fun i => ?_) (fun i => ?_)
   ·rw [if_pos i] at a
    refine sZ ?_ fun K hK => by simp [i]; exact hK
    cases a
    cases h
    apply TrD.ret
    refine exitHG (σ' := ⟨(updD (fun _ => .any) 12 (eB false)), hOfO [some ⟨1, [[(eI (wadd .i64 p5 1))]], 0, 0x0003⟩], 1, 108⟩) ?_ ?_
    ·exact gC [0]
    dsimp only [resD]
    exact eA
   rw [iN i] at a
   apply TrD.skip
   cases a
   refine ToAny.mk () rfl ?_
   rw [E]
   exact gc [0, 1, 2] hβ ((((((va.f (by simp [i])).f (by simp [i])).f (by simp [c, i])).p 0 (by simp [i])).p 1 (by simp [i])).p 2 (by simp [i])) ln.f.f.f
  subst hz
  try dsimp only at h
  rw [congrFun E O]
  apply sq
  obtain ⟨t, ai, h⟩ := bindE h
  refine rk fun K hK => ?_
  simp
  refine cp (c_impl_argTypes p0 p1 p2.ctor _ ai) ?_
  simp
  apply hK
  apply sq
  refine sZ ?_
  refine TrD.cond (b := !ieq (lenZ t.length) (lenZ p2.kids.length)) (by simp) (fun B => ?_) (fun B => ?_)
  ·rw [if_pos B] at h
   refine sZ ?_ fun K hK => by simp [B]; exact hK
   cases h
   apply TrD.ret
   refine exitHG (σ' := ⟨(updD (fun _ => .any) 12 (eB false)), hOfO [some ⟨1, [[(eI (wadd .i64 p5 1))]], 0, 0x0003⟩], 1, 108⟩) ?_ ?_
   ·exact gC [0]
   dsimp only [resD]
   exact eA
  rw [iN B] at h
  apply TrD.skip
  apply sq
  refine sZ ?_ fun K hK => by simp [B]; exact hK
  obtain ⟨an, T, h⟩ := bindE h
  obtain ⟨P, G⟩ : ∃ S : Int → St, S = fun u => ⟨(fun _ => .any), hOfO [some ⟨1, [[(eI u)]], 0, 0x0003⟩], 1, 108⟩ := ⟨_, rfl⟩
  refine TrD.joinQ P (fun z => an = Ctl.brk z) (fun _ _ hg h => TrD.ghost hg h) ?_ (fun u hz => ?_)
  ·apply TrD.block
   obtain ⟨R, D⟩ : ∃ S : Nat → Int → St, S = fun p j => ⟨(updD (updD (updD (updD (updD (updD (updD (updD (fun _ => .any) 0 (.slice 2 (List.map rGData p0))) 3 (eI p3)) 4 (eB p4)) 5 (.ptr 1 0 0 0)) 13 (.slice 2 (List.map rGType t))) 88 (.slice 3 (List.map rGValue p2.kids))) 89 (eI (lenZ p2.kids.length))) 90 (eI (p : Int))), hOfO [some ⟨1, [[(eI j)]], 0, 0x0003⟩], 1, 108⟩ := ⟨_, rfl⟩
   refine TrD.limS (sz := 3) (rows := List.map rGValue p2.kids) (seen_slot (d := .slice 3 (List.map rGValue p2.kids)) 84 (by simp)) (fun hlim => ?_)
   rw [List.length_map] at hlim
   refine TrD.forL R T hlim ?_ (fun p F j N aA aB al k aC l ak az => ?_) (fun j aw => ?_)
   ·rw [D]
    exact gC [0]
   ·rw [congrFun (congrFun D p) j]
    refine sZ ?_ fun K hK => by simp [al]; exact hK
    apply sq
    refine cT ?_
    apply TrD.skip
    apply sq
    apply TrD.block
    refine sZ ?_ fun K hK => by simp [idx_inb N, idx_row N]; exact hK
    apply sq
    refine TrD.ghost (σ' := ⟨(updD (updD (updD (updD (updD (updD (updD (updD (updD (updD (fun _ => .any) 0 (.slice 2 (List.map rGData p0))) 3 (eI p3)) 4 (eB p4)) 5 (.ptr 1 0 0 0)) 13 (.slice 2 (List.map rGType t))) 14 (eI (p : Int))) 15 (.ptr 3 1 0 0)) 88 (.slice 3 (List.map rGValue p2.kids))) 89 (eI (lenZ p2.kids.length))) 90 (eI (p : Int))), hOfO [some ⟨1, [[(eI j)]], 0, 0x0003⟩, some ⟨3, [(rGValue F)], 0, 0x001d⟩], 2, 108⟩) ?_ ?_
    ·exact gC [0, 33]
    obtain ⟨ax, M, l⟩ := bindE l
    obtain ⟨q, aj, l⟩ := bindE l
    refine TrD.draw tysOk mixed [0, 1, 2, 3, 4, 5, 6, 7, 8, 9, 10, 11] [1] [] (by rfl) rfl (fun K hK => ?_)
    simp [idx_inb M, idx_row M]
    refine callK (views_same _ _) (.same _ _) [0] (ih p0 ax F (wadd .i64 p3 1) p4 j _ aj) (by decide) (.cons (locRen_eq (by simp) (by simp) (by simp)) .nil) (.cons (ren_le (by simp) (by simp)) (.cons (ren_le (by simp) (by simp)) (.cons (ren_le (by simp) (by simp)) (.cons (ren_le (by simp) (by simp)) (.cons (ren_le (by simp) (by simp)) (.cons (ren_ptr rfl) .nil)))))) (fun ay aM ac => ?_)
    obtain ⟨rfl, rfl⟩ := ac
    refine ⟨by simp, [some ⟨1, [[(eI q.2)]], 0, 0x0003⟩], (eB q.1), (.cons (optRen_same (by simp)) .nil), (ren_free (by simp)), ?_⟩
    simp [setMany, newNames]
    apply hK
    refine TrD.cond (b := (!q.1)) (by simp) (fun C => ?_) (fun C => ?_)
    ·rw [if_pos C] at l
     refine sZ ?_ fun K hK => by simp [C]; exact hK
     cases l
     obtain rfl := ak _ rfl
     cases h
     apply TrD.ret
     refine exitHG (σ' := ⟨(updD (fun _ => .any) 12 (eB false)), hOfO [some ⟨1, [[(eI q.2)]], 0, 0x0003⟩], 1, 108⟩) ?_ ?_
     ·exact gC [0]
     dsimp only [resD]
     exact eA
    rw [iN C] at l
    apply TrD.skip
    refine rZ ?_ fun K hK => by simp [C]; exact hK
    cases l
    refine ToAny.mk q.2 rfl ?_
    rw [D]
    exact gc [0] hβ ((((((((va.f (by simp [k])).f (by simp [k])).f (by simp [k])).p 0 (by simp [k])).f (by simp [k])).f (by simp [k])).f (by simp [k])).f (by simp [k])) ln.f
   rw [congrFun (congrFun D _) j]
   refine sZ ?_ fun K hK => by simp [ilt_len p2.kids.length]; exact hK
   apply sq
   refine cF ?_
   refine TrD.exit ?_
   try simp only [↓reduceIte, Nat.reduceEqDiff, Nat.zero_ne_one, Nat.one_ne_zero, OfNat.ofNat_ne_zero, OfNat.zero_ne_ofNat, OfNat.one_ne_ofNat, OfNat.ofNat_ne_one]
   refine ToAny.mk j aw ?_
   rw [G]
   exact gC [0]
  subst hz
  try dsimp only at h
  rw [congrFun G u]
  refine sZ ?_
  cases h
  apply TrD.ret
  refine exitHG (σ' := ⟨(updD (fun _ => .any) 12 (eB true)), hOfO [some ⟨1, [[(eI u)]], 0, 0x0003⟩], 1, 108⟩) ?_ ?_
  ·exact gC [0]
  dsimp only [resD]
  exact eA
theorem c_impl_valueOk (n : Nat) (p0 : (List GData)) (p1 : GType) (p2 : GValue) (res : Bool) (h : m_impl_valueOk n p0 p1 p2 = some res) : CallsD Tryz.prog 0o00046 [(.slice 2 (List.map rGData p0)), (.agg (rGType p1)), (.agg (rGValue p2))] (fun d => d = (eB res)) := by
 unfold m_impl_valueOk at h
 refine CD Tryz.func38 [.tmp 6] fun β hβ => ?_
 refine sZ ?_
 refine sZ ?_
 apply sq
 obtain ⟨r1, hr1, h⟩ := bindE h
 refine rk fun K hK => ?_
 simp
 refine callK (views_same _ _) (.same _ _) [24] (c_impl_valueScan n p0 p1 p2 1 false 0 _ hr1) (by decide) (.cons (locRen_eq (by simp) (by simp) (by simp)) .nil) (.cons (ren_le (by simp) (by simp)) (.cons (ren_le (by simp) (by simp)) (.cons (ren_le (by simp) (by simp)) (.cons (ren_le (by simp) (by simp)) (.cons (ren_le (by simp) (by simp)) (.cons (ren_ptr rfl) .nil)))))) (fun Hq2 qq2 hq2 => ?_)
 obtain ⟨rfl, rfl⟩ := hq2
 refine ⟨by simp, [some ⟨1, [[(eI r1.2)]], 0, 0x0003⟩], (eB r1.1), (.cons (optRen_same (by simp)) .nil), (ren_free (by simp)), ?_⟩
 simp [setMany, newNames]
 apply hK
 cases h
 apply TrD.ret
 exact xD
theorem c_impl_RunClauses (n : Nat) (p0 : (List GData)) (p1 : GType) (p2 : (List GClause)) (p3 : GValue) (res : Int × (List GBind) × Bool) (h : m_impl_RunClauses n p0 p1 p2 p3 = some res) : CallsD Tryz.prog 0o00015 [(.slice 2 (List.map rGData p0)), (.agg (rGType p1)), (.slice 9 (List.map rGClause p2)), (.agg (rGValue p3))] (fun d => d = .tup [(eI res.1), (.slice 4 (List.map rGBind res.2.1)), (eB res.2.2)]) := by
 unfold m_impl_RunClauses at h
 refine CD Tryz.func13 [.tmp 8, .tmp 9, .tmp 10] fun β hβ => ?_
 refine sZ ?_
 apply sq
 apply sq
 obtain ⟨p, f, h⟩ := bindE h
 rcases bb (!p) with a | a
 ·rw [if_pos a] at h
  refine rk fun K hK => ?_
  simp
  refine cp (c_impl_ClausesValid n p0 p1 p2 _ f) ?_
  simp [a]
  apply hK
  refine cT ?_
  refine sZ ?_
  cases h
  apply TrD.ret
  refine exitDG (σ' := ⟨(updD (updD (updD (fun _ => .any) 8 (eI (-1))) 9 (.slice 4 (List.map rGBind []))) 10 (eB false)), hOfO [], 0, 33⟩) ?_ ?_
  ·exact gC []
  dsimp only [resD]
  exact eF
 rw [iN a] at h
 obtain ⟨q, m, h⟩ := bindE h
 refine rk fun K hK => ?_
 simp
 refine cp (c_impl_ClausesValid n p0 p1 p2 _ f) ?_
 simp [a]
 refine cp (c_impl_valueOk n p0 p1 p3 _ m) ?_
 simp
 apply hK
 refine TrD.cond (b := (!q)) (by simp) (fun c => ?_) (fun c => ?_)
 ·rw [if_pos c] at h
  refine sZ ?_ fun K hK => by simp [c]; exact hK
  cases h
  apply TrD.ret
  refine exitDG (σ' := ⟨(updD (updD (updD (fun _ => .any) 8 (eI (-1))) 9 (.slice 4 (List.map rGBind []))) 10 (eB false)), hOfO [], 0, 33⟩) ?_ ?_
  ·exact gC []
  dsimp only [resD]
  exact eF
 rw [iN c] at h
 apply TrD.skip
 apply sq
 obtain ⟨e, o, h⟩ := bindE h
 refine rk fun K hK => ?_
 simp [c]
 refine cp (c_impl_run n p2 p3 _ o) ?_
 simp
 apply hK
 refine sZ ?_
 cases h
 apply TrD.ret
 exact xD
theorem c_spec_l17Open (p0 : (List Int)) (res : Gl17Rd) (h : m_spec_l17Open p0 = some res) : CallsH Tryz.prog 0o00072 [] [(.slice 1 (List.map (rK .u8) p0))] (fun H d => H = [some ⟨2, [(rGl17Rd res)], 0, 0x00ba⟩] ∧ d = .ptr 2 0 0 0) := by
 unfold m_spec_l17Open at h
 refine CH Tryz.func58 [.tmp 2] 0 fun β hβ => ?_
 refine sZ ?_
 obtain ⟨o4, g6, h⟩ := bindE h
 obtain ⟨S5, hS5⟩ : ∃ S : (List Int) → St, S = fun s3 => ⟨(updD (fun _ => .any) 0 (.slice 1 (List.map (rK .u8) s3))), hOfO [], 0, 11⟩ := ⟨_, rfl⟩
 refine TrD.join S5 (fun z => o4 = Ctl.brk z) ?_ (fun s3 hz => ?_)
 ·refine sZ ?_
  refine TrD.cond (b := ilt 2000 (lenZ p0.length)) (by simp) (fun hb7 => ?_) (fun hb7 => ?_)
  ·rw [if_pos hb7] at g6
   obtain ⟨x8, hx8, g6⟩ := bindE g6
   refine rZ ?_ fun K hK => by simp [hb7, takeI_row hx8, (takeI_some hx8).2]; exact hK
   cases g6
   refine ToAny.mk x8 rfl ?_
   rw [hS5]
   exact gC []
  rw [iN hb7] at g6
  apply TrD.skip
  cases g6
  refine ToAny.mk p0 rfl ?_
  rw [hS5]
  exact gC []
 subst hz
 try dsimp only at h
 rw [congrFun hS5 s3]
 refine sZ ?_
 cases h
 apply TrD.ret
 refine exitHG (σ' := ⟨(updD (fun _ => .any) 2 (.ptr 2 0 0 0)), hOfO [some ⟨2, [(rGl17Rd (Gl17Rd.mk s3 0))], 0, 0x00ba⟩], 1, 11⟩) ?_ ?_
 ·exact gC [16]
 dsimp only [resD]
 exact eA
theorem c_spec_l17Rd_pick (p0 : Gl17Rd) (p1 : Int) (res : Int × Gl17Rd) (h : m_spec_l17Rd_pick p0 p1 = some res) : CallsH Tryz.prog 0o00073 [⟨2, [(rGl17Rd p0)], 0, 0x00ba⟩] [.ptr 2 0 0 0, (eI p1)] (fun H d => H = [some ⟨2, [(rGl17Rd res.2)], 0, 0x00ba⟩] ∧ d = (eI res.1)) := by
 unfold m_spec_l17Rd_pick at h
 refine CH Tryz.func59 [.tmp 4] 1 fun β hβ => ?_
 refine sZ ?_
 refine sZ ?_
 apply sq
 apply sq
 rcases bb (ilt p1 1) with hb9 | hb9
 ·rw [if_pos hb9] at h
  refine rZ ?_ fun K hK => by simp [hb9]; exact hK
  refine cT ?_
  refine sZ ?_
  cases h
  apply TrD.ret
  refine exitHG (σ' := ⟨(updD (fun _ => .any) 4 (eI 0)), hOfO [some ⟨2, [(rGl17Rd (Gl17Rd.mk p0.b (wadd .i64 p0.p 1)))], 0, 0x00ba⟩], 1, 99⟩) ?_ ?_
  ·exact gC [0]
  dsimp only [resD]
  exact eA
 rw [iN hb9] at h
 refine rZ ?_ fun K hK => by simp [hb9]; exact hK
 refine TrD.cond (b := ieq (lenZ p0.b.length) 0) (by simp) (fun c => ?_) (fun c => ?_)
 ·rw [if_pos c] at h
  refine sZ ?_ fun K hK => by simp [c]; exact hK
  cases h
  apply TrD.ret
  refine exitHG (σ' := ⟨(updD (fun _ => .any) 4 (eI 0)), hOfO [some ⟨2, [(rGl17Rd (Gl17Rd.mk p0.b (wadd .i64 p0.p 1)))], 0, 0x00ba⟩], 1, 99⟩) ?_ ?_
  ·exact gC [0]
  dsimp only [resD]
  exact eA
 rw [iN c] at h
 apply TrD.skip
 refine sZ ?_ fun K hK => by simp [c]; exact hK
 apply sq
 refine sZ ?_
 refine TrD.cond (b := ilt (wsub .i64 (wadd .i64 p0.p 1) 1) (lenZ p0.b.length)) (by simp) (fun a => ?_) (fun a => ?_)
 ·rw [if_pos a] at h
  apply sq
  obtain ⟨k, g, h⟩ := bindE h
  obtain ⟨o, l, h⟩ := bindE h
  refine rZ ?_ fun K hK => by simp [a, idx_inb g, idx_row g, ieq_of_chk l]; exact hK
  cases h
  apply TrD.ret
  refine exitHG (σ' := ⟨(updD (fun _ => .any) 4 (eI (wrem (wcv .i64 k) p1))), hOfO [some ⟨2, [(rGl17Rd (Gl17Rd.mk p0.b (wadd .i64 p0.p 1)))], 0, 0x00ba⟩], 1, 99⟩) ?_ ?_
  ·exact gC [0]
  dsimp only [resD]
  exact eA
 rw [iN a] at h
 apply TrD.skip
 apply sq
 refine TrD.ghost (σ' := ⟨(updD (updD (updD (fun _ => .any) 0 (.ptr 2 0 0 0)) 1 (eI p1)) 5 (eI (wsub .i64 (wadd .i64 p0.p 1) 1))), hOfO [some ⟨2, [[(.slice 1 (List.map (rK .u8) p0.b)), (eI (wadd .i64 p0.p 1))]], 0, 0x00ba⟩], 1, 99⟩) ?_ ?_
 ·exact gC [0]
 obtain ⟨q, n, h⟩ := bindE h
 obtain ⟨e, i, h⟩ := bindE h
 obtain ⟨f, j, h⟩ := bindE h
 refine TrD.draw tysOk mixed [0, 1, 2, 3, 4, 5, 6, 7, 8, 9, 10, 11, 12, 13, 14, 15, 16, 17, 18, 19, 20, 21, 22, 23, 24, 25, 26, 27, 28, 29, 30, 31, 32, 33, 34, 35, 36, 37, 38, 39, 40, 41, 42, 43, 44, 45] [0] [] (by rfl) rfl (fun K hK => ?_)
 simp [c, idx_inb i, idx_row i, idx_inb j, idx_row j]
 apply hK
 refine sZ ?_ fun K hK => by simp [show ieq 64 0 = false from rfl]; exact hK
 apply sq
 obtain ⟨r, m, h⟩ := bindE h
 refine rZ ?_ fun K hK => by simp [ieq_of_chk m]; exact hK
 cases h
 apply TrD.ret
 refine exitHG (σ' := ⟨(updD (fun _ => .any) 4 (eI (wrem (wxor .i64 (wadd .i64 (wadd .i64 (wadd .i64 (wmul .i64 (wcv .i64 e) 131) (wmul .i64 (wcv .i64 f) 1117)) (wmul .i64 (wsub .i64 (wadd .i64 p0.p 1) 1) 29)) (wmul .i64 (wquo .i64 (wsub .i64 (wadd .i64 p0.p 1) 1) (lenZ p0.b.length)) 53)) (wquo .i64 (wadd .i64 (wadd .i64 (wadd .i64 (wmul .i64 (wcv .i64 e) 131) (wmul .i64 (wcv .i64 f) 1117)) (wmul .i64 (wsub .i64 (wadd .i64 p0.p 1) 1) 29)) (wmul .i64 (wquo .i64 (wsub .i64 (wadd .i64 p0.p 1) 1) (lenZ p0.b.length)) 53)) 64)) p1))), hOfO [some ⟨2, [(rGl17Rd (Gl17Rd.mk p0.b (wadd .i64 p0.p 1)))], 0, 0x00ba⟩], 1, 99⟩) ?_ ?_
 ·exact gC [0]
 dsimp only [resD]
 exact eA
theorem c_spec_l17Cut (n : Nat) (p0 : ByteArray) (p1 : Int) (res : (List ByteArray)) (h : m_spec_l17Cut n p0 p1 = some res) : CallsD Tryz.prog 0o00171 [(eS p0), (.val (.int .u8 p1))] (fun d => d = (.slice 1 (List.map rS res))) := by
 unfold m_spec_l17Cut at h
 refine CD Tryz.func121 [.tmp 4] fun β hβ => ?_
 refine sZ ?_
 refine sZ ?_
 refine sZ ?_
 apply sq
 refine sZ ?_
 obtain ⟨G, E, h⟩ := bindE h
 obtain ⟨B, t⟩ : ∃ S : ((List ByteArray) × Int × Int) → St, S = fun j => ⟨(updD (fun _ => .any) 5 (.sl 1 0 (j.1).length)), hOfO [some ⟨1, (List.map rS j.1), 0, 0x0009⟩], 1, 36⟩ := ⟨_, rfl⟩
 refine TrD.joinQ B (fun z => G = Ctl.brk z) (fun _ _ hg h => TrD.ghost hg h) ?_ (fun j hz => ?_)
 ·apply TrD.block
  obtain ⟨C, q⟩ : ∃ S : ((List ByteArray) × Int × Int) → St, S = fun a => ⟨(updD (updD (updD (updD (updD (fun _ => .any) 0 (eS p0)) 1 (.val (.int .u8 p1))) 5 (.sl 1 0 (a.1).length)) 6 (eI a.2.1)) 7 (eI a.2.2)), hOfO [some ⟨1, (List.map rS a.1), 0, 0x0009⟩], 1, 36⟩ := ⟨_, rfl⟩
  refine TrD.whileL C E ?_ (fun a N g J F => ?_)
  ·rw [q]
   exact gC [8]
  rw [congrFun q a]
  apply sq
  refine sZ ?_
  refine TrD.cond (b := ile a.2.2 (lenZ p0.size)) (by simp) (fun i => ?_) (fun i => ?_)
  ·rw [if_pos i] at g
   apply TrD.skip
   obtain ⟨H, c, g⟩ := bindE g
   obtain ⟨D, m⟩ : ∃ S : (List ByteArray) × Int → St, S = fun e => ⟨(updD (updD (updD (updD (updD (fun _ => .any) 0 (eS p0)) 1 (.val (.int .u8 p1))) 5 (.sl 1 0 (e.1).length)) 6 (eI e.2)) 7 (eI a.2.2)), hOfO [some ⟨1, (List.map rS e.1), 0, 0x0009⟩], 1, 36⟩ := ⟨_, rfl⟩
   refine TrD.join D (fun z => H = Ctl.brk z) ?_ (fun e hz => ?_)
   ·apply TrD.block
    apply sq
    rcases bb (ieq a.2.2 (lenZ p0.size)) with l | l
    ·rw [if_pos l] at c
     refine rZ ?_ fun K hK => by simp [i, l]; exact hK
     refine cT ?_
     apply sq
     obtain ⟨O, u, c⟩ := bindE c
     obtain ⟨r, o, c⟩ := bindE c
     have v := (app_some o).2
     try simp only [List.length_cons, List.length_nil, Nat.zero_add] at v
     refine rZ ?_ fun K hK => by simp [← (ssub_some u).1, (ssub_some u).2, v]; exact hK
     refine rZ ?_
     cases c
     refine ToAny.mk (r, wadd .i64 a.2.2 1) rfl ?_
     rw [m]
     exact gc [129] hβ (((va.f.f.s 129 (by simp [(app_some o).1])).f).f) (ln.f (by simp [(app_some o).1]))
    rw [iN l] at c
    obtain ⟨I, w, c⟩ := bindE c
    refine rZ ?_ fun K hK => by simp [i, l, ← (sidx_some w).1, (sidx_some w).2]; exact hK
    refine TrD.cond (b := ieq I p1) (by simp) (fun f => ?_) (fun f => ?_)
    ·rw [if_pos f] at c
     apply sq
     obtain ⟨P, y, c⟩ := bindE c
     obtain ⟨s, p, c⟩ := bindE c
     have A := (app_some p).2
     try simp only [List.length_cons, List.length_nil, Nat.zero_add] at A
     refine rZ ?_ fun K hK => by simp [f, ← (ssub_some y).1, (ssub_some y).2, A]; exact hK
     refine rZ ?_
     cases c
     refine ToAny.mk (s, wadd .i64 a.2.2 1) rfl ?_
     rw [m]
     exact gc [169] hβ (((va.f.f.s 169 (by simp [(app_some p).1])).f).f) (ln.f (by simp [(app_some p).1]))
    rw [iN f] at c
    apply TrD.skip
    cases c
    refine ToAny.mk (a.1, a.2.1) rfl ?_
    rw [m]
    exact gC [0]
   subst hz
   try dsimp only at g
   rw [congrFun m e]
   refine rZ ?_
   cases g
   refine ToAny.mk (e.1, e.2, wadd .i64 a.2.2 1) rfl ?_
   rw [q]
   exact gC [0]
  rw [iN i] at g
  refine TrD.exit ?_
  try simp only [↓reduceIte, Nat.reduceEqDiff, Nat.zero_ne_one, Nat.one_ne_zero, OfNat.ofNat_ne_zero, OfNat.zero_ne_ofNat, OfNat.one_ne_ofNat, OfNat.ofNat_ne_one]
  cases g
  obtain rfl := F _ rfl
  refine ToAny.mk (a.1, a.2.1, a.2.2) rfl ?_
  rw [t]
  exact gC [0]
 subst hz
 try dsimp only at h
 rw [congrFun t j]
 refine sZ ?_
 cases h
 apply TrD.ret
 refine exitDG (σ' := ⟨(updD (fun _ => .any) 4 (.slice 1 (List.map rS j.1))), hOfO [], 0, 36⟩) ?_ ?_
 ·refine (Ghost.raise 0 (by simp; rfl)).trans ?_
  exact gC [] (ht := (va.u (d0 := (.sl 1 0 (j.1).length)) (by simp) (v_frz (by simp; rfl) rfl (by simp) (by simp) (rv_free (by simp) (by simp)))))
 dsimp only [resD]
 exact eF
theorem c_spec_l1Find (p0 : (List ByteArray)) (p1 : ByteArray) (res : Int) (h : m_spec_l1Find p0 p1 = some res) : CallsD Tryz.prog 0o00372 [(.slice 1 (List.map rS p0)), (eS p1)] (fun d => d = (eI res)) := by
 unfold m_spec_l1Find at h
 refine CD Tryz.func250 [.tmp 4] fun β hβ => ?_
 refine sZ ?_
 apply sq
 refine sZ ?_
 refine TrD.cond (b := seq2 p1 (ByteArray.mk #[73])) (by simp) (fun hb2 => ?_) (fun hb2 => ?_)
 ·rw [if_pos hb2] at h
  refine sZ ?_ fun K hK => by simp [hb2]; exact hK
  cases h
  apply TrD.ret
  exact xD
 rw [iN hb2] at h
 apply TrD.skip
 apply sq
 refine sZ ?_ fun K hK => by simp [hb2]; exact hK
 obtain ⟨s, p, h⟩ := bindE h
 obtain ⟨n, j⟩ : ∃ S : Unit → St, S = fun m => ⟨(fun _ => .any), hOfO [], 0, 21⟩ := ⟨_, rfl⟩
 refine TrD.joinQ n (fun z => s = Ctl.brk z) (fun _ _ hg h => TrD.ghost hg h) ?_ (fun m hz => ?_)
 ·apply TrD.block
  obtain ⟨o, g⟩ : ∃ S : Nat → Unit → St, S = fun a e => ⟨(updD (updD (updD (fun _ => .any) 0 (.slice 1 (List.map rS p0))) 1 (eS p1)) 5 (eI (a : Int))), hOfO [], 0, 21⟩ := ⟨_, rfl⟩
  refine TrD.limS (sz := 1) (rows := List.map rS p0) (seen_slot (d := .slice 1 (List.map rS p0)) 0 (by simp)) (fun hlim => ?_)
  rw [List.length_map] at hlim
  refine TrD.forL o p hlim ?_ (fun a u e l w y r i A f q v => ?_) (fun e t => ?_)
  ·rw [g]
   exact gC []
  ·rw [congrFun (congrFun g a) e]
   apply sq
   refine sZ ?_ fun K hK => by simp [r]; exact hK
   refine cT ?_
   apply TrD.skip
   apply sq
   apply TrD.block
   refine sZ ?_ fun K hK => by simp [idx_inb l, idx_row l]; exact hK
   refine TrD.cond (b := seq2 u p1) (by simp) (fun c => ?_) (fun c => ?_)
   ·rw [if_pos c] at f
    refine sZ ?_ fun K hK => by simp [c]; exact hK
    cases f
    obtain rfl := q _ rfl
    cases h
    apply TrD.ret
    exact xD
   rw [iN c] at f
   apply TrD.skip
   refine rZ ?_ fun K hK => by simp [c]; exact hK
   cases f
   refine ToAny.mk () rfl ?_
   rw [g]
   exact gc [] hβ (((va.f (by simp [i])).f (by simp [i])).f (by simp [i])) ln
  rw [congrFun (congrFun g _) e]
  apply sq
  refine sZ ?_ fun K hK => by simp [ilt_len p0.length]; exact hK
  refine cF ?_
  refine TrD.exit ?_
  try simp only [↓reduceIte, Nat.reduceEqDiff, Nat.zero_ne_one, Nat.one_ne_zero, OfNat.ofNat_ne_zero, OfNat.zero_ne_ofNat, OfNat.one_ne_ofNat, OfNat.ofNat_ne_one]
  refine ToAny.mk e t ?_
  rw [j]
  exact gC []
 subst hz
 try dsimp only at h
 rw [congrFun j m]
 refine sZ ?_
 cases h
 apply TrD.ret
 exact xD
theorem c_spec_l1ParseType (p0 : (List ByteArray)) (p1 : ByteArray) (res : GType) (h : m_spec_l1ParseType p0 p1 = some res) : CallsD Tryz.prog 0o00273 [(.slice 1 (List.map rS p0)), (eS p1)] (fun d => d = (.agg (rGType res))) := by
 unfold m_spec_l1ParseType at h
 refine CD Tryz.func187 [.cell 4 25] fun β hβ => ?_
 refine sZ ?_
 apply sq
 refine sZ ?_
 refine TrD.cond (b := seq2 p1 (ByteArray.mk #[])) (by simp) (fun hb2 => ?_) (fun hb2 => ?_)
 ·rw [if_pos hb2] at h
  refine sZ ?_ fun K hK => by simp [hb2]; exact hK
  cases h
  apply TrD.ret
  exact xD
 rw [iN hb2] at h
 apply TrD.skip
 apply sq
 obtain ⟨x3, hx3, h⟩ := bindE h
 obtain ⟨r4, hr4, h⟩ := bindE h
 refine rk fun K hK => ?_
 simp [hb2, ← (ssub_some hx3).1, (ssub_some hx3).2]
 refine cp (c_spec_l1Find p0 x3 _ hr4) ?_
 simp
 apply hK
 obtain ⟨q, a, h⟩ := bindE h
 obtain ⟨o, e⟩ : ∃ S : Int → St, S = fun l => ⟨(updD (updD (fun _ => .any) 4 (.ptr 2 0 0 0)) 5 (.ptr 2 1 0 0)), hOfO [some ⟨2, [[(eI 0), (eI 0)]], 0, 0x0019⟩, some ⟨2, [[(eI r4), (eI l)]], 0, 0x0019⟩], 2, 39⟩ := ⟨_, rfl⟩
 refine TrD.join o (fun z => q = Ctl.brk z) ?_ (fun l hz => ?_)
 ·apply TrD.block
  apply sq
  obtain ⟨r, n, a⟩ := bindE a
  refine rZ ?_ fun K hK => by simp [← (ssub_some n).1, (ssub_some n).2]; exact hK
  refine TrD.cond (b := seq2 r (ByteArray.mk #[42])) (by simp) (fun c => ?_) (fun c => ?_)
  ·rw [if_pos c] at a
   refine rZ ?_ fun K hK => by simp [c]; exact hK
   cases a
   refine ToAny.mk (-1) rfl ?_
   rw [e]
   exact gC [0, 64]
  rw [iN c] at a
  apply sq
  rcases bb (ieq (lenZ p1.size) 2) with f | f
  ·rw [if_pos f] at a
   obtain ⟨m, i, a⟩ := bindE a
   rcases bb (ile 48 m) with j | j
   ·rw [if_pos j] at a
    refine rZ ?_ fun K hK => by simp [c, f, ← (sidx_some i).1, (sidx_some i).2, j]; exact hK
    refine TrD.cond (b := ile m 57) (by simp) (fun g => ?_) (fun g => ?_)
    ·rw [if_pos g] at a
     refine rZ ?_ fun K hK => by simp [← (sidx_some i).1, (sidx_some i).2, g]; exact hK
     cases a
     refine ToAny.mk (wcv .i64 (wsub .u8 m 48)) rfl ?_
     rw [e]
     exact gC [0, 64]
    rw [iN g] at a
    apply TrD.skip
    cases a
    refine ToAny.mk 0 rfl ?_
    rw [e]
    exact gC [0, 64]
   rw [iN j] at a
   refine rZ ?_ fun K hK => by simp [c, f, ← (sidx_some i).1, (sidx_some i).2, j]; exact hK
   refine cF ?_
   apply TrD.skip
   cases a
   refine ToAny.mk 0 rfl ?_
   rw [e]
   exact gC [0, 64]
  rw [iN f] at a
  refine rZ ?_ fun K hK => by simp [c, f]; exact hK
  refine cF ?_
  apply TrD.skip
  cases a
  refine ToAny.mk 0 rfl ?_
  rw [e]
  exact gC [0, 64]
 subst hz
 try dsimp only at h
 rw [congrFun e l]
 refine sZ ?_
 cases h
 apply TrD.ret
 exact xD
end Go.Proofs.YtmkamncbkkahjaaGreat
