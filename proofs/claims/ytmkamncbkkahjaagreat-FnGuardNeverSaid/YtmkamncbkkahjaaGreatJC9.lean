import Derived.Test.YtmkamncbkkahjaaGreatJMir
import Derived.Test.YtmkamncbkkahjaaGreatJZap
import Derived.Test.YtmkamncbkkahjaaGreatJC8
import Derived.Test.YtmkamncbkkahjaaGreatJC7
import Derived.Test.YtmkamncbkkahjaaGreatJC6
set_option linter.unusedSimpArgs false
set_option linter.unusedVariables false
namespace Go.Proofs.YtmkamncbkkahjaaGreat
open Go Go.RowKit
set_option maxRecDepth 100000
set_option maxHeartbeats 20000000
theorem c_spec_l3Linear : ∀ (n : Nat) (p0 : (List GData)) (p1 : GType) (p2 : GPattern) (res : Bool), m_spec_l3Linear n p0 p1 p2 = some res → CallsD Tryz.prog 0o00312 [(.slice 2 (List.map rGData p0)), (.agg (rGType p1)), (.agg (rGPattern p2))] (fun d => d = (eB res)) := by
 intro n
 induction n with
 | zero => intro p0 p1 p2 res h; cases h
 | succ n ih =>
  intro p0 p1 p2 res h
  rw [m_spec_l3Linear.eq_2] at h
  refine CD Tryz.func202 [.tmp 6] fun β hβ => ?_
  refine sZ ?_
  apply sq
  obtain ⟨r1, hr1, h⟩ := bindE h
  refine rk fun K hK => ?_
  simp
  refine cp (c_spec_l3Types n p0 p1 p2 _ hr1) ?_
  simp
  apply hK
  apply sq
  refine sZ ?_
  obtain ⟨al, O, h⟩ := bindE h
  obtain ⟨H, w⟩ : ∃ S : Unit → St, S = fun F => ⟨(updD (updD (updD (fun _ => .any) 0 (.slice 2 (List.map rGData p0))) 4 (.ptr 2 0 0 0)) 5 (.ptr 6 1 0 0)), hOfO [some ⟨2, [(rGType p1)], 0, 0x0019⟩, some ⟨6, [(rGPattern p2)], 0, 0x0029⟩], 2, 70⟩ := ⟨_, rfl⟩
  refine TrD.joinQ H (fun z => al = Ctl.brk z) (fun _ _ hg h => TrD.ghost hg h) ?_ (fun F hz => ?_)
  ·apply TrD.block
   obtain ⟨J, r⟩ : ∃ S : Nat → Unit → St, S = fun g p => ⟨(updD (updD (updD (updD (updD (fun _ => .any) 0 (.slice 2 (List.map rGData p0))) 4 (.ptr 2 0 0 0)) 5 (.ptr 6 1 0 0)) 7 (.slice 2 (List.map rGType r1))) 8 (eI (g : Int))), hOfO [some ⟨2, [(rGType p1)], 0, 0x0019⟩, some ⟨6, [(rGPattern p2)], 0, 0x0029⟩], 2, 70⟩ := ⟨_, rfl⟩
   refine TrD.limS (sz := 2) (rows := List.map rGType r1) (seen_slot (d := .slice 2 (List.map rGType r1)) 14 (by simp)) (fun hlim => ?_)
   rw [List.length_map] at hlim
   refine TrD.forL J O hlim ?_ (fun g av p C aC aD aj i aF c ae aB => ?_) (fun p ap => ?_)
   ·rw [r]
    exact gC [0, 8]
   ·rw [congrFun (congrFun r g) p]
    apply sq
    refine sZ ?_ fun K hK => by simp [aj]; exact hK
    refine cT ?_
    apply TrD.skip
    apply sq
    apply TrD.block
    apply sq
    refine TrD.ghost (σ' := ⟨(updD (updD (updD (updD (updD (fun _ => .any) 0 (.slice 2 (List.map rGData p0))) 4 (.ptr 2 0 0 0)) 5 (.ptr 6 1 0 0)) 7 (.slice 2 (List.map rGType r1))) 8 (eI (g : Int))), hOfO [some ⟨2, [(rGType p1)], 0, 0x0019⟩, some ⟨6, [(rGPattern p2)], 0, 0x0029⟩], 2, 70⟩) ?_ ?_
    ·exact gC [0, 1]
    obtain ⟨aw, B, c⟩ := bindE c
    obtain ⟨an, ac, c⟩ := bindE c
    refine TrD.draw tysOk mixed [0, 1, 2, 3, 4, 5, 6, 7, 8, 9, 10, 11] [1] [] (by rfl) rfl (fun K hK => ?_)
    simp [idx_inb C, idx_row C, idx_inb B, idx_row B]
    refine cp (ih p0 av aw _ ac) ?_
    simp
    apply hK
    refine TrD.cond (b := (!an)) (by simp) (fun l => ?_) (fun l => ?_)
    ·rw [if_pos l] at c
     refine sZ ?_ fun K hK => by simp [l]; exact hK
     cases c
     obtain rfl := ae _ rfl
     cases h
     apply TrD.ret
     exact xD
    rw [iN l] at c
    apply TrD.skip
    refine rZ ?_ fun K hK => by simp [l]; exact hK
    cases c
    refine ToAny.mk () rfl ?_
    rw [r]
    exact gc [0, 1] hβ (((((va.f (by simp [i])).p 0 (by simp [i])).p 1 (by simp [i])).f (by simp [i])).f (by simp [i])) ln.f.f
   rw [congrFun (congrFun r _) p]
   apply sq
   refine sZ ?_ fun K hK => by simp [ilt_len r1.length]; exact hK
   refine cF ?_
   refine TrD.exit ?_
   try simp only [↓reduceIte, Nat.reduceEqDiff, Nat.zero_ne_one, Nat.one_ne_zero, OfNat.ofNat_ne_zero, OfNat.zero_ne_ofNat, OfNat.one_ne_ofNat, OfNat.ofNat_ne_one]
   refine ToAny.mk p ap ?_
   rw [w]
   exact gC [0, 1]
  subst hz
  try dsimp only at h
  rw [congrFun w F]
  apply sq
  refine sZ ?_
  refine TrD.cond (b := ieq p2.op 5) (by simp) (fun e => ?_) (fun e => ?_)
  ·rw [if_pos e] at h
   apply sq
   refine TrD.ghost (σ' := ⟨(updD (updD (updD (fun _ => .any) 0 (.slice 2 (List.map rGData p0))) 4 (.ptr 2 0 0 0)) 5 (.ptr 6 1 0 0)), hOfO [some ⟨2, [(rGType p1)], 0, 0x0019⟩, some ⟨6, [(rGPattern p2)], 0, 0x0029⟩], 2, 70⟩) ?_ ?_
   ·exact gC [0, 1]
   obtain ⟨aq, y, h⟩ := bindE h
   obtain ⟨ar, A, h⟩ := bindE h
   obtain ⟨t, X, h⟩ := bindE h
   obtain ⟨u, Y, h⟩ := bindE h
   obtain ⟨D, Z, h⟩ := bindE h
   refine TrD.draw tysOk mixed [0, 1, 2, 3, 4, 5, 7, 8, 9, 10, 11, 12, 6, 13, 14, 15] [0, 1] [] (by rfl) rfl (fun K hK => ?_)
   simp [idx_inb y, idx_row y, idx_inb A, idx_row A]
   refine callK (views_same _ _) (.own _ [] [_, _, _] 3 0x0111) [2] (c_spec_l3Vars n [] p0 p1 aq _ X) (by decide) (.cons (locRen_eq (by simp) (by simp) (by simp)) .nil) (.cons (ren_sl rfl) (.cons (ren_le (by simp) (by simp)) (.cons (ren_le (by simp) (by simp)) (.cons (ren_le (by simp) (by simp)) .nil)))) (fun ax aK P => ?_)
   obtain ⟨rfl, rfl⟩ := P
   refine ⟨by simp, [none, some ⟨3, (List.map rGVarType t), 0, 0x0111⟩], (.sl 3 3 (t).length), (.cons (.none _) (.cons (optRen_same (by simp)) .nil)), (ren_sl (by rfl)), ?_⟩
   simp [setMany, newNames]
   refine callK (views_same _ _) (.own _ [] [_, _, _] 3 0x0111) [10] (c_spec_l3Vars n [] p0 p1 ar _ Y) (by decide) (.cons (locRen_eq (by simp) (by simp) (by simp)) .nil) (.cons (ren_sl rfl) (.cons (ren_le (by simp) (by simp)) (.cons (ren_le (by simp) (by simp)) (.cons (ren_le (by simp) (by simp)) .nil)))) (fun ay aL Q => ?_)
   obtain ⟨rfl, rfl⟩ := Q
   refine ⟨by simp, [none, some ⟨3, (List.map rGVarType u), 0, 0x0111⟩], (.sl 3 11 (u).length), (.cons (.none _) (.cons (optRen_same (by simp)) .nil)), (ren_sl (by rfl)), ?_⟩
   simp [setMany, newNames]
   refine callB (.cons (.sl _ _ _ _ _ (by simp; rfl) rfl (by simp) (by simp)) (.cons (.sl _ _ _ _ _ (by simp; rfl) rfl (by simp) (by simp)) (.nil _))) (c_spec_l3Alike t u _ Z) (by simp) (by simp) (fun aG R => ?_)
   subst R
   refine ⟨by simp, ?_⟩
   simp
   apply hK
   cases h
   apply TrD.ret
   exact xD
  rw [iN e] at h
  apply TrD.skip
  apply sq
  obtain ⟨a, aa, h⟩ := bindE h
  refine rk fun K hK => ?_
  simp [e]
  refine callK (views_same _ _) (.own _ [] [_, _, _] 3 0x0111) [50] (c_spec_l3Vars n [] p0 p1 p2 _ aa) (by decide) (.cons (locRen_eq (by simp) (by simp) (by simp)) .nil) (.cons (ren_sl rfl) (.cons (ren_le (by simp) (by simp)) (.cons (ren_le (by simp) (by simp)) (.cons (ren_le (by simp) (by simp)) .nil)))) (fun az aM U => ?_)
  obtain ⟨rfl, rfl⟩ := U
  refine ⟨by simp, [none, some ⟨3, (List.map rGVarType a), 0, 0x0111⟩], (.sl 3 51 (a).length), (.cons (.none _) (.cons (optRen_same (by simp)) .nil)), (ren_sl (by rfl)), ?_⟩
  simp [setMany, newNames]
  apply hK
  apply sq
  refine sZ ?_
  obtain ⟨ak, N, h⟩ := bindE h
  obtain ⟨G, v⟩ : ∃ S : Unit → St, S = fun E => ⟨(fun _ => .any), hOfO [], 0, 70⟩ := ⟨_, rfl⟩
  refine TrD.joinQ G (fun z => ak = Ctl.brk z) (fun _ _ hg h => TrD.ghost hg h) ?_ (fun E hz => ?_)
  ·apply TrD.block
   obtain ⟨I, q⟩ : ∃ S : Nat → Unit → St, S = fun m o => ⟨(updD (updD (fun _ => .any) 9 (.sl 3 0 (a).length)) 10 (eI (m : Int))), hOfO [some ⟨3, (List.map rGVarType a), 0, 0x0111⟩], 1, 70⟩ := ⟨_, rfl⟩
   refine TrD.limL (L := ⟨3, (List.map rGVarType a), 0, 0x0111⟩) 51 (by simp) (by simp) (fun hlim => ?_)
   simp at hlim
   refine TrD.forL I N hlim ?_ (fun m au o ag af ah ai s aE f ad aA => ?_) (fun o ao => ?_)
   ·rw [q]
    exact gC [51]
   ·rw [congrFun (congrFun q m) o]
    apply sq
    refine sZ ?_ fun K hK => by simp [ai]; exact hK
    refine cT ?_
    apply TrD.skip
    apply sq
    apply TrD.block
    apply sq
    obtain ⟨am, ab, f⟩ := bindE f
    refine rk fun K hK => ?_
    simp [idx_inb ag, ah, elt af]
    refine callB (.cons (.sl _ _ _ _ _ (by simp; rfl) rfl (by simp) (by simp)) (.cons (.same _ _) (.nil _))) (c_spec_l3Find a au.var _ ab) (by simp) (by simp) (fun aH T => ?_)
    subst T
    refine ⟨by simp, ?_⟩
    simp
    apply hK
    refine TrD.cond (b := !ieq am (m : Int)) (by simp) (fun j => ?_) (fun j => ?_)
    ·rw [if_pos j] at f
     refine sZ ?_ fun K hK => by simp [j]; exact hK
     cases f
     obtain rfl := ad _ rfl
     cases h
     apply TrD.ret
     exact xD
    rw [iN j] at f
    apply TrD.skip
    refine rZ ?_ fun K hK => by simp [j]; exact hK
    cases f
    refine ToAny.mk () rfl ?_
    rw [q]
    exact gc [0] hβ ((va.s 0 (by simp [s])).f (by simp [s])) ln.f
   rw [congrFun (congrFun q _) o]
   apply sq
   refine sZ ?_ fun K hK => by simp [ilt_len a.length]; exact hK
   refine cF ?_
   refine TrD.exit ?_
   try simp only [↓reduceIte, Nat.reduceEqDiff, Nat.zero_ne_one, Nat.one_ne_zero, OfNat.ofNat_ne_zero, OfNat.zero_ne_ofNat, OfNat.one_ne_ofNat, OfNat.ofNat_ne_one]
   refine ToAny.mk o ao ?_
   rw [v]
   exact gC []
  subst hz
  try dsimp only at h
  rw [congrFun v E]
  refine sZ ?_
  cases h
  apply TrD.ret
  exact xD
theorem c_spec_l3Is (n : Nat) (p0 : (List GData)) (p1 : GType) (p2 : GPattern) (res : Bool) (h : m_spec_l3Is n p0 p1 p2 = some res) : CallsD Tryz.prog 0o00202 [(.slice 2 (List.map rGData p0)), (.agg (rGType p1)), (.agg (rGPattern p2))] (fun d => d = (eB res)) := by
 unfold m_spec_l3Is at h
 refine CD Tryz.func130 [.tmp 6] fun β hβ => ?_
 refine sZ ?_
 apply sq
 obtain ⟨q, c, h⟩ := bindE h
 rcases bb q with a | a
 ·rw [if_pos a] at h
  obtain ⟨r, e, h⟩ := bindE h
  rcases bb (ile r 60) with b | b
  ·rw [if_pos b] at h
   obtain ⟨f, p, h⟩ := bindE h
   refine rk fun K hK => ?_
   simp
   refine cp (c_spec_l3Shape n p0 p1 p2 10 _ c) ?_
   simp [a]
   refine cp (c_spec_l3Count n p2 60 _ e) ?_
   simp [a, b]
   refine cp (c_spec_l3Linear n p0 p1 p2 _ p) ?_
   simp [a]
   apply hK
   cases h
   apply TrD.ret
   exact xD
  rw [iN b] at h
  refine rk fun K hK => ?_
  simp
  refine cp (c_spec_l3Shape n p0 p1 p2 10 _ c) ?_
  simp [a]
  refine cp (c_spec_l3Count n p2 60 _ e) ?_
  simp [a, b]
  apply hK
  cases h
  apply TrD.ret
  exact xD
 rw [iN a] at h
 refine rk fun K hK => ?_
 simp
 refine cp (c_spec_l3Shape n p0 p1 p2 10 _ c) ?_
 simp [a]
 apply hK
 cases h
 apply TrD.ret
 exact xD
theorem c_spec_l4Guard (p0 : GGuard) (p1 : (List GVarType)) (res : Bool) (h : m_spec_l4Guard p0 p1 = some res) : CallsD Tryz.prog 0o00203 [(.agg (rGGuard p0)), (.slice 3 (List.map rGVarType p1))] (fun d => d = (eB res)) := by
 unfold m_spec_l4Guard at h
 refine CD Tryz.func131 [.tmp 4] fun β hβ => ?_
 refine sZ ?_
 apply sq
 refine sZ ?_
 refine TrD.cond (b := ieq p0.op 0) (by simp) (fun hb4 => ?_) (fun hb4 => ?_)
 ·rw [if_pos hb4] at h
  apply sq
  rcases bb (ieq p0.var 0) with hb6 | hb6
  ·rw [if_pos hb6] at h
   refine rZ ?_ fun K hK => by simp [hb4, hb6]; exact hK
   cases h
   apply TrD.ret
   exact xD
  rw [iN hb6] at h
  refine rZ ?_ fun K hK => by simp [hb4, hb6]; exact hK
  cases h
  apply TrD.ret
  exact xD
 rw [iN hb4] at h
 apply TrD.skip
 obtain ⟨u, a, h⟩ := bindE h
 obtain ⟨r, m⟩ : ∃ S : Unit → St, S = fun p => ⟨(updD (updD (fun _ => .any) 1 (.slice 3 (List.map rGVarType p1))) 2 (.ptr 3 0 0 0)), hOfO [some ⟨3, [(rGGuard p0)], 0, 0x002b⟩], 1, 50⟩ := ⟨_, rfl⟩
 refine TrD.join r (fun z => u = Ctl.brk z) ?_ (fun p hz => ?_)
 ·apply sq
  rcases bb (!ieq p0.op 1) with c | c
  ·rw [if_pos c] at a
   rcases bb (!ieq p0.op 2) with e | e
   ·rw [if_pos e] at a
    refine rZ ?_ fun K hK => by simp [hb4, c, e]; exact hK
    refine cT ?_
    refine sZ ?_
    cases a
    cases h
    apply TrD.ret
    exact xD
   rw [iN e] at a
   rcases bb (ilt p0.n 0) with i | i
   ·rw [if_pos i] at a
    refine rZ ?_ fun K hK => by simp [hb4, c, e, i]; exact hK
    refine cT ?_
    refine sZ ?_
    cases a
    cases h
    apply TrD.ret
    exact xD
   rw [iN i] at a
   refine rZ ?_ fun K hK => by simp [hb4, c, e, i]; exact hK
   refine TrD.cond (b := ilt 9 p0.n) (by simp) (fun f => ?_) (fun f => ?_)
   ·rw [if_pos f] at a
    refine sZ ?_ fun K hK => by simp [f]; exact hK
    cases a
    cases h
    apply TrD.ret
    exact xD
   rw [iN f] at a
   apply TrD.skip
   cases a
   refine ToAny.mk () rfl ?_
   rw [m]
   exact gC [0]
  rw [iN c] at a
  rcases bb (ilt p0.n 0) with j | j
  ·rw [if_pos j] at a
   refine rZ ?_ fun K hK => by simp [hb4, c, j]; exact hK
   refine cT ?_
   refine sZ ?_
   cases a
   cases h
   apply TrD.ret
   exact xD
  rw [iN j] at a
  refine rZ ?_ fun K hK => by simp [hb4, c, j]; exact hK
  refine TrD.cond (b := ilt 9 p0.n) (by simp) (fun g => ?_) (fun g => ?_)
  ·rw [if_pos g] at a
   refine sZ ?_ fun K hK => by simp [g]; exact hK
   cases a
   cases h
   apply TrD.ret
   exact xD
  rw [iN g] at a
  apply TrD.skip
  cases a
  refine ToAny.mk () rfl ?_
  rw [m]
  exact gC [0]
 subst hz
 try dsimp only at h
 rw [congrFun m p]
 apply sq
 obtain ⟨v, t, h⟩ := bindE h
 refine rk fun K hK => ?_
 simp
 refine cp (c_spec_l3Find p1 p0.var _ t) ?_
 simp
 apply hK
 apply sq
 rcases bb (ile 0 v) with l | l
 ·rw [if_pos l] at h
  obtain ⟨q, o, h⟩ := bindE h
  refine rZ ?_ fun K hK => by simp [l, idx_inb o, idx_row o]; exact hK
  cases h
  apply TrD.ret
  exact xD
 rw [iN l] at h
 refine rZ ?_ fun K hK => by simp [l]; exact hK
 cases h
 apply TrD.ret
 exact xD
theorem c_spec_l4Is (n : Nat) (p0 : (List GData)) (p1 : GType) (p2 : GClause) (res : Bool) (h : m_spec_l4Is n p0 p1 p2 = some res) : CallsD Tryz.prog 0o00077 [(.slice 2 (List.map rGData p0)), (.agg (rGType p1)), (.agg (rGClause p2))] (fun d => d = (eB res)) := by
 unfold m_spec_l4Is at h
 refine CD Tryz.func63 [.tmp 6] fun β hβ => ?_
 refine sZ ?_
 apply sq
 refine TrD.ghost (σ' := ⟨(updD (updD (updD (fun _ => .any) 0 (.slice 2 (List.map rGData p0))) 4 (.ptr 2 0 0 0)) 5 (.ptr 9 1 0 0)), hOfO [some ⟨2, [(rGType p1)], 0, 0x0019⟩, some ⟨9, [(rGClause p2)], 0, 0x002d⟩], 2, 22⟩) ?_ ?_
 ·exact gC [0, 8]
 obtain ⟨r9, hr9, h⟩ := bindE h
 rcases bb r9 with a | a
 ·rw [if_pos a] at h
  obtain ⟨b, j, h⟩ := bindE h
  obtain ⟨c, l, h⟩ := bindE h
  refine TrD.draw tysOk mixed [0, 1, 2, 3, 4, 5, 6, 7, 8, 9, 10, 11, 12, 13, 14, 15] [0, 1] [] (by rfl) rfl (fun K hK => ?_)
  simp
  refine cp (c_spec_l3Is n p0 p1 p2.pat _ hr9) ?_
  simp [a]
  refine callK (views_same _ _) (.own _ [] [_, _, _] 3 0x0111) [10] (c_spec_l3Vars n [] p0 p1 p2.pat _ j) (by decide) (.cons (locRen_eq (by simp) (by simp) (by simp)) .nil) (.cons (ren_sl rfl) (.cons (ren_le (by simp) (by simp)) (.cons (ren_le (by simp) (by simp)) (.cons (ren_le (by simp) (by simp)) .nil)))) (fun m r f => ?_)
  obtain ⟨rfl, rfl⟩ := f
  refine ⟨by simp, [none, some ⟨3, (List.map rGVarType b), 0, 0x0111⟩], (.sl 3 11 (b).length), (.cons (.none _) (.cons (optRen_same (by simp)) .nil)), (ren_sl (by rfl)), ?_⟩
  simp [setMany, newNames]
  refine callB (.cons (.same _ _) (.cons (.sl _ _ _ _ _ (by simp; rfl) rfl (by simp) (by simp)) (.nil _))) (c_spec_l4Guard p2.guard b _ l) (by simp) (by simp) (fun p g => ?_)
  subst g
  refine ⟨by simp, ?_⟩
  simp
  apply hK
  cases h
  apply TrD.ret
  exact xD
 rw [iN a] at h
 refine TrD.draw tysOk mixed [0, 1, 2, 3, 4, 5, 6, 7, 8, 9, 10, 11, 12, 13, 14, 15] [0, 1] [] (by rfl) rfl (fun K hK => ?_)
 simp
 refine cp (c_spec_l3Is n p0 p1 p2.pat _ hr9) ?_
 simp [a]
 apply hK
 cases h
 apply TrD.ret
 exact xD
theorem c_spec_ClausesValid (n : Nat) (p0 : (List GData)) (p1 : GType) (p2 : (List GClause)) (res : Bool) (h : m_spec_ClausesValid n p0 p1 p2 = some res) : CallsD Tryz.prog 0o00110 [(.slice 2 (List.map rGData p0)), (.agg (rGType p1)), (.slice 9 (List.map rGClause p2))] (fun d => d = (eB res)) := by
 unfold m_spec_ClausesValid at h
 refine CD Tryz.func72 [.tmp 6] fun β hβ => ?_
 refine sZ ?_
 apply sq
 apply sq
 obtain ⟨E, o, h⟩ := bindE h
 rcases bb (!E) with f | f
 ·rw [if_pos f] at h
  refine rk fun K hK => ?_
  simp
  refine cp (c_spec_TypeValid n p0 p1 _ o) ?_
  simp [f]
  apply hK
  refine cT ?_
  refine sZ ?_
  cases h
  apply TrD.ret
  exact xD
 rw [iN f] at h
 refine rk fun K hK => ?_
 simp
 refine cp (c_spec_TypeValid n p0 p1 _ o) ?_
 simp [f]
 apply hK
 refine TrD.cond (b := ilt 8 (lenZ p2.length)) (by simp) (fun g => ?_) (fun g => ?_)
 ·rw [if_pos g] at h
  refine sZ ?_ fun K hK => by simp [g]; exact hK
  cases h
  apply TrD.ret
  exact xD
 rw [iN g] at h
 apply TrD.skip
 apply sq
 refine sZ ?_ fun K hK => by simp [g]; exact hK
 obtain ⟨C, t, h⟩ := bindE h
 obtain ⟨r, m⟩ : ∃ S : Unit → St, S = fun q => ⟨(fun _ => .any), hOfO [], 0, 31⟩ := ⟨_, rfl⟩
 refine TrD.joinQ r (fun z => C = Ctl.brk z) (fun _ _ hg h => TrD.ghost hg h) ?_ (fun q hz => ?_)
 ·apply TrD.block
  obtain ⟨s, l⟩ : ∃ S : Nat → Unit → St, S = fun c j => ⟨(updD (updD (updD (updD (fun _ => .any) 0 (.slice 2 (List.map rGData p0))) 2 (.slice 9 (List.map rGClause p2))) 4 (.ptr 2 0 0 0)) 7 (eI (c : Int))), hOfO [some ⟨2, [(rGType p1)], 0, 0x0019⟩], 1, 31⟩ := ⟨_, rfl⟩
  refine TrD.limS (sz := 9) (rows := List.map rGClause p2) (seen_slot (d := .slice 9 (List.map rGClause p2)) 2 (by simp)) (fun hlim => ?_)
  rw [List.length_map] at hlim
  refine TrD.forL s t hlim ?_ (fun c G j p I J B i N a A H => ?_) (fun j F => ?_)
  ·rw [l]
   exact gC [0]
  ·rw [congrFun (congrFun l c) j]
   apply sq
   refine sZ ?_ fun K hK => by simp [B]; exact hK
   refine cT ?_
   apply TrD.skip
   apply sq
   apply TrD.block
   apply sq
   refine TrD.ghost (σ' := ⟨(updD (updD (updD (updD (fun _ => .any) 0 (.slice 2 (List.map rGData p0))) 2 (.slice 9 (List.map rGClause p2))) 4 (.ptr 2 0 0 0)) 7 (eI (c : Int))), hOfO [some ⟨2, [(rGType p1)], 0, 0x0019⟩], 1, 31⟩) ?_ ?_
   ·exact gC [0]
   obtain ⟨D, y, a⟩ := bindE a
   refine TrD.draw tysOk mixed [0, 1, 2, 3, 4, 5, 6, 7] [0] [] (by rfl) rfl (fun K hK => ?_)
   simp [idx_inb p, idx_row p]
   refine cp (c_spec_l4Is n p0 p1 G _ y) ?_
   simp
   apply hK
   refine TrD.cond (b := (!D)) (by simp) (fun e => ?_) (fun e => ?_)
   ·rw [if_pos e] at a
    refine sZ ?_ fun K hK => by simp [e]; exact hK
    cases a
    obtain rfl := A _ rfl
    cases h
    apply TrD.ret
    exact xD
   rw [iN e] at a
   apply TrD.skip
   refine rZ ?_ fun K hK => by simp [e]; exact hK
   cases a
   refine ToAny.mk () rfl ?_
   rw [l]
   exact gc [0] hβ ((((va.f (by simp [i])).f (by simp [i])).p 0 (by simp [i])).f (by simp [i])) ln.f
  rw [congrFun (congrFun l _) j]
  apply sq
  refine sZ ?_ fun K hK => by simp [ilt_len p2.length]; exact hK
  refine cF ?_
  refine TrD.exit ?_
  try simp only [↓reduceIte, Nat.reduceEqDiff, Nat.zero_ne_one, Nat.one_ne_zero, OfNat.ofNat_ne_zero, OfNat.zero_ne_ofNat, OfNat.one_ne_ofNat, OfNat.ofNat_ne_one]
  refine ToAny.mk j F ?_
  rw [m]
  exact gC []
 subst hz
 try dsimp only at h
 rw [congrFun m q]
 refine sZ ?_
 cases h
 apply TrD.ret
 exact xD
set_option maxRecDepth 100000 in
theorem c_spec_l2Sign (p0 : ByteArray) (p1 : Int) (p2 : Int) (res : Bool) (h : m_spec_l2Sign p0 p1 p2 = some res) : CallsD Tryz.prog 0o00302 [(eS p0), (eI p1), (.val (.int .u8 p2))] (fun d => d = (eB res)) := by
 unfold m_spec_l2Sign at h
 refine CD Tryz.func194 [.tmp 6] fun β hβ => ?_
 refine sZ ?_
 apply sq
 rcases bb (ile 0 p1) with hb4 | hb4
 ·rw [if_pos hb4] at h
  rcases bb (ilt p1 (lenZ p0.size)) with hb5 | hb5
  ·rw [if_pos hb5] at h
   obtain ⟨x6, hx6, h⟩ := bindE h
   refine rZ ?_ fun K hK => by simp [hb4, hb5, ← (sidx_some hx6).1, (sidx_some hx6).2]; exact hK
   cases h
   apply TrD.ret
   exact xD
  rw [iN hb5] at h
  refine rZ ?_ fun K hK => by simp [hb4, hb5]; exact hK
  cases h
  apply TrD.ret
  exact xD
 rw [iN hb4] at h
 refine rZ ?_ fun K hK => by simp [hb4]; exact hK
 cases h
 apply TrD.ret
 exact xD
set_option maxRecDepth 100000 in
theorem c_spec_l3Int (p0 : ByteArray) (p1 : Int) (res : GPattern × Int) (h : m_spec_l3Int p0 p1 = some res) : CallsD Tryz.prog 0o00300 [(eS p0), (eI p1)] (fun d => d = .tup [(.agg (rGPattern res.1)), (eI res.2)]) := by
 unfold m_spec_l3Int at h
 refine CD Tryz.func192 [.cell 4 41, .tmp 5] fun β hβ => ?_
 refine sZ ?_
 apply sq
 obtain ⟨x1, hx1, h⟩ := bindE h
 refine rZ ?_ fun K hK => by simp [← (sidx_some hx1).1, (sidx_some hx1).2]; exact hK
 obtain ⟨t, a, h⟩ := bindE h
 obtain ⟨o, i⟩ : ∃ S : Unit → St, S = fun n => ⟨(updD (updD (updD (fun _ => .any) 1 (eI p1)) 4 (.ptr 6 0 0 0)) 6 (eI (wcv .i64 (wsub .u8 x1 48)))), hOfO [some ⟨6, [[(eI 0), (eI 0), (eI 0), (eI 0), (eI 0), .nil]], 0, 0x0029⟩], 1, 52⟩ := ⟨_, rfl⟩
 refine TrD.join o (fun z => t = Ctl.brk z) ?_ (fun n hz => ?_)
 ·apply sq
  obtain ⟨u, l, a⟩ := bindE a
  rcases bb u with c | c
  ·rw [if_pos c] at a
   rcases bb (ilt (wadd .i64 p1 2) (lenZ p0.size)) with f | f
   ·rw [if_pos f] at a
    obtain ⟨m, g, a⟩ := bindE a
    rcases bb (ile 48 m) with j | j
    ·rw [if_pos j] at a
     refine rk fun K hK => ?_
     simp
     refine cp (c_spec_l2Sign p0 (wadd .i64 p1 1) 45 _ l) ?_
     simp [c, f, ← (sidx_some g).1, (sidx_some g).2, j]
     apply hK
     refine TrD.cond (b := ile m 57) (by simp) (fun e => ?_) (fun e => ?_)
     ·rw [if_pos e] at a
      refine sZ ?_ fun K hK => by simp [← (sidx_some g).1, (sidx_some g).2, e]; exact hK
      cases a
      cases h
      apply TrD.ret
      refine exitDG (σ' := ⟨(updD (updD (fun _ => .any) 4 (.ptr 6 0 0 0)) 5 (eI (wadd .i64 p1 3))), hOfO [some ⟨6, [(rGPattern (GPattern.mk 3 0 (wcv .i64 (wsub .u8 x1 48)) (wcv .i64 (wsub .u8 m 48)) 0 []))], 0, 0x0029⟩], 1, 52⟩) ?_ ?_
      ·exact gC [0]
      simp [resD]
      exact eF
     rw [iN e] at a
     apply TrD.skip
     cases a
     refine ToAny.mk () rfl ?_
     rw [i]
     exact gC [0]
    rw [iN j] at a
    refine rk fun K hK => ?_
    simp
    refine cp (c_spec_l2Sign p0 (wadd .i64 p1 1) 45 _ l) ?_
    simp [c, f, ← (sidx_some g).1, (sidx_some g).2, j]
    apply hK
    refine cF ?_
    apply TrD.skip
    cases a
    refine ToAny.mk () rfl ?_
    rw [i]
    exact gC [0]
   rw [iN f] at a
   refine rk fun K hK => ?_
   simp
   refine cp (c_spec_l2Sign p0 (wadd .i64 p1 1) 45 _ l) ?_
   simp [c, f]
   apply hK
   refine cF ?_
   apply TrD.skip
   cases a
   refine ToAny.mk () rfl ?_
   rw [i]
   exact gC [0]
  rw [iN c] at a
  refine rk fun K hK => ?_
  simp
  refine cp (c_spec_l2Sign p0 (wadd .i64 p1 1) 45 _ l) ?_
  simp [c]
  apply hK
  refine cF ?_
  apply TrD.skip
  cases a
  refine ToAny.mk () rfl ?_
  rw [i]
  exact gC [0]
 subst hz
 try dsimp only at h
 rw [congrFun i n]
 refine sZ ?_
 cases h
 apply TrD.ret
 refine exitDG (σ' := ⟨(updD (updD (fun _ => .any) 4 (.ptr 6 0 0 0)) 5 (eI (wadd .i64 p1 1))), hOfO [some ⟨6, [(rGPattern (GPattern.mk 3 0 (wcv .i64 (wsub .u8 x1 48)) (wcv .i64 (wsub .u8 x1 48)) 0 []))], 0, 0x0029⟩], 1, 52⟩) ?_ ?_
 ·exact gC [0]
 simp [resD]
 exact eF
theorem c_spec_l2Name (n : Nat) (p0 : ByteArray) (p1 : Int) (res : ByteArray × Int) (h : m_spec_l2Name n p0 p1 = some res) : CallsD Tryz.prog 0o00303 [(eS p0), (eI p1)] (fun d => d = .tup [(eS res.1), (eI res.2)]) := by
 unfold m_spec_l2Name at h
 refine CD Tryz.func195 [.tmp 4, .tmp 5] fun β hβ => ?_
 refine sZ ?_
 refine sZ ?_
 obtain ⟨Q, J, h⟩ := bindE h
 obtain ⟨G, m⟩ : ∃ S : Int → St, S = fun v => ⟨(updD (updD (updD (fun _ => .any) 0 (eS p0)) 1 (eI p1)) 6 (eI v)), hOfO [], 0, 47⟩ := ⟨_, rfl⟩
 refine TrD.join G (fun z => Q = Ctl.brk z) ?_ (fun v hz => ?_)
 ·apply TrD.block
  obtain ⟨H, B⟩ : ∃ S : Int → St, S = fun c => ⟨(updD (updD (updD (fun _ => .any) 0 (eS p0)) 1 (eI p1)) 6 (eI c)), hOfO [], 0, 47⟩ := ⟨_, rfl⟩
  refine TrD.whileL H J ?_ (fun c V g U p => ?_)
  ·rw [B]
   exact gC []
  rw [congrFun B c]
  obtain ⟨R, a, g⟩ := bindE g
  obtain ⟨I, w⟩ : ∃ S : Unit → St, S = fun D => ⟨(updD (updD (updD (fun _ => .any) 0 (eS p0)) 1 (eI p1)) 6 (eI c)), hOfO [], 0, 47⟩ := ⟨_, rfl⟩
  refine TrD.join I (fun z => R = Ctl.brk z) ?_ (fun D hz => ?_)
  ·apply sq
   rcases bb (ilt c (lenZ p0.size)) with i | i
   ·rw [if_pos i] at a
    rcases bb (ieq c p1) with e | e
    ·rw [if_pos e] at a
     obtain ⟨s, f, a⟩ := bindE a
     obtain ⟨T, y, a⟩ := bindE a
     rcases bb T with o | o
     ·rw [if_pos o] at a
      refine rk fun K hK => ?_
      simp [i, e, ← (sidx_some f).1, (sidx_some f).2]
      refine cp (c_spec_l1Big s _ y) ?_
      simp [e, o]
      apply hK
      refine cT ?_
      apply TrD.skip
      cases a
      refine ToAny.mk () rfl ?_
      rw [w]
      exact gC []
     rw [iN o] at a
     rcases bb (ilt p1 c) with q | q
     ·rw [if_pos q] at a
      rcases bb (ile 97 s) with t | t
      ·rw [if_pos t] at a
       refine rk fun K hK => ?_
       simp [i, e, ← (sidx_some f).1, (sidx_some f).2]
       refine cp (c_spec_l1Big s _ y) ?_
       simp [e, ← (sidx_some f).1, (sidx_some f).2, o, q, t]
       apply hK
       refine TrD.cond (b := ile s 122) (by simp) (fun j => ?_) (fun j => ?_)
       ·rw [if_pos j] at a
        apply TrD.skip
        cases a
        refine ToAny.mk () rfl ?_
        rw [w]
        exact gC []
       rw [iN j] at a
       refine TrD.exit ?_
       try simp only [↓reduceIte, Nat.reduceEqDiff, Nat.zero_ne_one, Nat.one_ne_zero, OfNat.ofNat_ne_zero, OfNat.zero_ne_ofNat, OfNat.one_ne_ofNat, OfNat.ofNat_ne_one]
       cases a
       cases g
       obtain rfl := p _ rfl
       refine ToAny.mk c rfl ?_
       rw [m]
       exact gC []
      rw [iN t] at a
      refine rk fun K hK => ?_
      simp [i, e, ← (sidx_some f).1, (sidx_some f).2]
      refine cp (c_spec_l1Big s _ y) ?_
      simp [e, ← (sidx_some f).1, (sidx_some f).2, o, q, t]
      apply hK
      refine cF ?_
      refine TrD.exit ?_
      try simp only [↓reduceIte, Nat.reduceEqDiff, Nat.zero_ne_one, Nat.one_ne_zero, OfNat.ofNat_ne_zero, OfNat.zero_ne_ofNat, OfNat.one_ne_ofNat, OfNat.ofNat_ne_one]
      cases a
      cases g
      obtain rfl := p _ rfl
      refine ToAny.mk c rfl ?_
      rw [m]
      exact gC []
     rw [iN q] at a
     refine rk fun K hK => ?_
     simp [i, e, ← (sidx_some f).1, (sidx_some f).2]
     refine cp (c_spec_l1Big s _ y) ?_
     simp [e, o, q]
     apply hK
     refine cF ?_
     refine TrD.exit ?_
     try simp only [↓reduceIte, Nat.reduceEqDiff, Nat.zero_ne_one, Nat.one_ne_zero, OfNat.ofNat_ne_zero, OfNat.zero_ne_ofNat, OfNat.one_ne_ofNat, OfNat.ofNat_ne_one]
     cases a
     cases g
     obtain rfl := p _ rfl
     refine ToAny.mk c rfl ?_
     rw [m]
     exact gC []
    rw [iN e] at a
    rcases bb (ilt p1 c) with r | r
    ·rw [if_pos r] at a
     obtain ⟨E, A, a⟩ := bindE a
     rcases bb (ile 97 E) with u | u
     ·rw [if_pos u] at a
      refine rZ ?_ fun K hK => by simp [i, e, r, ← (sidx_some A).1, (sidx_some A).2, u]; exact hK
      refine TrD.cond (b := ile E 122) (by simp) (fun l => ?_) (fun l => ?_)
      ·rw [if_pos l] at a
       apply TrD.skip
       cases a
       refine ToAny.mk () rfl ?_
       rw [w]
       exact gC []
      rw [iN l] at a
      refine TrD.exit ?_
      try simp only [↓reduceIte, Nat.reduceEqDiff, Nat.zero_ne_one, Nat.one_ne_zero, OfNat.ofNat_ne_zero, OfNat.zero_ne_ofNat, OfNat.one_ne_ofNat, OfNat.ofNat_ne_one]
      cases a
      cases g
      obtain rfl := p _ rfl
      refine ToAny.mk c rfl ?_
      rw [m]
      exact gC []
     rw [iN u] at a
     refine rZ ?_ fun K hK => by simp [i, e, r, ← (sidx_some A).1, (sidx_some A).2, u]; exact hK
     refine cF ?_
     refine TrD.exit ?_
     try simp only [↓reduceIte, Nat.reduceEqDiff, Nat.zero_ne_one, Nat.one_ne_zero, OfNat.ofNat_ne_zero, OfNat.zero_ne_ofNat, OfNat.one_ne_ofNat, OfNat.ofNat_ne_one]
     cases a
     cases g
     obtain rfl := p _ rfl
     refine ToAny.mk c rfl ?_
     rw [m]
     exact gC []
    rw [iN r] at a
    refine rZ ?_ fun K hK => by simp [i, e, r]; exact hK
    refine cF ?_
    refine TrD.exit ?_
    try simp only [↓reduceIte, Nat.reduceEqDiff, Nat.zero_ne_one, Nat.one_ne_zero, OfNat.ofNat_ne_zero, OfNat.zero_ne_ofNat, OfNat.one_ne_ofNat, OfNat.ofNat_ne_one]
    cases a
    cases g
    obtain rfl := p _ rfl
    refine ToAny.mk c rfl ?_
    rw [m]
    exact gC []
   rw [iN i] at a
   refine rZ ?_ fun K hK => by simp [i]; exact hK
   refine cF ?_
   refine TrD.exit ?_
   try simp only [↓reduceIte, Nat.reduceEqDiff, Nat.zero_ne_one, Nat.one_ne_zero, OfNat.ofNat_ne_zero, OfNat.zero_ne_ofNat, OfNat.one_ne_ofNat, OfNat.ofNat_ne_one]
   cases a
   cases g
   obtain rfl := p _ rfl
   refine ToAny.mk c rfl ?_
   rw [m]
   exact gC []
  subst hz
  try dsimp only at g
  rw [congrFun w D]
  apply TrD.block
  refine rZ ?_
  cases g
  refine ToAny.mk (wadd .i64 c 1) rfl ?_
  rw [B]
  exact gC []
 subst hz
 try dsimp only at h
 rw [congrFun m v]
 apply sq
 obtain ⟨F, C, h⟩ := bindE h
 refine rZ ?_ fun K hK => by simp [← (ssub_some C).1, (ssub_some C).2]; exact hK
 cases h
 apply TrD.ret
 exact xD
set_option maxRecDepth 100000 in
theorem c_spec_l2Ctor (p0 : (List GData)) (p1 : GType) (p2 : ByteArray) (res : Int) (h : m_spec_l2Ctor p0 p1 p2 = some res) : CallsD Tryz.prog 0o00304 [(.slice 2 (List.map rGData p0)), (.agg (rGType p1)), (eS p2)] (fun d => d = (eI res)) := by
 unfold m_spec_l2Ctor at h
 refine CD Tryz.func196 [.tmp 6] fun β hβ => ?_
 refine sZ ?_
 apply sq
 obtain ⟨r1, hr1, h⟩ := bindE h
 refine rk fun K hK => ?_
 simp
 refine cp (c_spec_l1Ctors p0 p1 _ hr1) ?_
 simp
 apply hK
 apply sq
 refine sZ ?_
 obtain ⟨w, s, h⟩ := bindE h
 obtain ⟨q, l⟩ : ∃ S : Unit → St, S = fun o => ⟨(fun _ => .any), hOfO [], 0, 37⟩ := ⟨_, rfl⟩
 refine TrD.joinQ q (fun z => w = Ctl.brk z) (fun _ _ hg h => TrD.ghost hg h) ?_ (fun o hz => ?_)
 ·apply TrD.block
  obtain ⟨r, i⟩ : ∃ S : Nat → Unit → St, S = fun c g => ⟨(updD (updD (updD (updD (updD (fun _ => .any) 0 (.slice 2 (List.map rGData p0))) 2 (eS p2)) 4 (.ptr 2 0 0 0)) 7 (.slice 1 (List.map rI r1))) 8 (eI (c : Int))), hOfO [some ⟨2, [(rGType p1)], 0, 0x0019⟩], 1, 37⟩ := ⟨_, rfl⟩
  refine TrD.limS (sz := 1) (rows := List.map rI r1) (seen_slot (d := .slice 1 (List.map rI r1)) 11 (by simp)) (fun hlim => ?_)
  rw [List.length_map] at hlim
  refine TrD.forL r s hlim ?_ (fun c p g j C D v e E a u B => ?_) (fun g y => ?_)
  ·rw [i]
   exact gC [0]
  ·rw [congrFun (congrFun i c) g]
   apply sq
   refine sZ ?_ fun K hK => by simp [v]; exact hK
   refine cT ?_
   apply TrD.skip
   apply sq
   apply TrD.block
   apply sq
   refine TrD.ghost (σ' := ⟨(updD (updD (updD (updD (updD (fun _ => .any) 0 (.slice 2 (List.map rGData p0))) 2 (eS p2)) 4 (.ptr 2 0 0 0)) 7 (.slice 1 (List.map rI r1))) 8 (eI (c : Int))), hOfO [some ⟨2, [(rGType p1)], 0, 0x0019⟩], 1, 37⟩) ?_ ?_
   ·exact gC [0]
   obtain ⟨G, m, a⟩ := bindE a
   obtain ⟨A, n, a⟩ := bindE a
   refine TrD.draw tysOk mixed [0, 1, 2, 3, 4, 5, 6, 7, 8, 9, 10, 11, 12, 13, 14] [0] [] (by rfl) rfl (fun K hK => ?_)
   simp [idx_inb j, idx_row j, idx_inb m, idx_row m, idx_inb n, idx_row n]
   apply hK
   refine TrD.cond (b := seq2 A.name p2) (by simp) (fun f => ?_) (fun f => ?_)
   ·rw [if_pos f] at a
    refine sZ ?_ fun K hK => by simp [idx_inb j, idx_row j, f]; exact hK
    cases a
    obtain rfl := u _ rfl
    cases h
    apply TrD.ret
    exact xD
   rw [iN f] at a
   apply TrD.skip
   refine rZ ?_ fun K hK => by simp [f]; exact hK
   cases a
   refine ToAny.mk () rfl ?_
   rw [i]
   exact gc [0] hβ (((((va.f (by simp [e])).f (by simp [e])).p 0 (by simp [e])).f (by simp [e])).f (by simp [e])) ln.f
  rw [congrFun (congrFun i _) g]
  apply sq
  refine sZ ?_ fun K hK => by simp [ilt_len r1.length]; exact hK
  refine cF ?_
  refine TrD.exit ?_
  try simp only [↓reduceIte, Nat.reduceEqDiff, Nat.zero_ne_one, Nat.one_ne_zero, OfNat.ofNat_ne_zero, OfNat.zero_ne_ofNat, OfNat.one_ne_ofNat, OfNat.ofNat_ne_one]
  refine ToAny.mk g y ?_
  rw [l]
  exact gC []
 subst hz
 try dsimp only at h
 rw [congrFun l o]
 refine sZ ?_
 cases h
 apply TrD.ret
 exact xD
end Go.Proofs.YtmkamncbkkahjaaGreat
