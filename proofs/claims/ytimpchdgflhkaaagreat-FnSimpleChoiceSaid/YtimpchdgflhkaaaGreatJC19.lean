import Derived.Test.YtimpchdgflhkaaaGreatJMir
import Derived.Test.YtimpchdgflhkaaaGreatJZap
import Derived.Test.YtimpchdgflhkaaaGreatJC8
import Derived.Test.YtimpchdgflhkaaaGreatJC10
import Derived.Test.YtimpchdgflhkaaaGreatJC13
import Derived.Test.YtimpchdgflhkaaaGreatJC15
import Derived.Test.YtimpchdgflhkaaaGreatJC11
import Derived.Test.YtimpchdgflhkaaaGreatJC16
import Derived.Test.YtimpchdgflhkaaaGreatJC18
set_option linter.unusedSimpArgs false
set_option linter.unusedVariables false
namespace Go.Proofs.YtimpchdgflhkaaaGreat
open Go Go.RowKit
set_option maxRecDepth 100000
set_option maxHeartbeats 20000000
theorem c_laws_FnSimpleChoice (n : Nat) (p0 : (List Int)) (p1 : (List Int)) (res : Bool) (h : m_laws_FnSimpleChoice n p0 p1 = some res) : CallsD Tryz.prog 0o00003 [(.slice 1 (List.map (rK .u8) p0)), (.slice 1 (List.map (rK .u8) p1))] (fun d => d = (eB res)) := by
 unfold m_laws_FnSimpleChoice at h
 refine CD Tryz.func3 [.tmp 4] fun β hβ => ?_
 refine sZ ?_
 apply sq
 apply sq
 rcases bb (ilt 1048576 (lenZ p0.length)) with hb9 | hb9
 ·rw [if_pos hb9] at h
  refine rZ ?_ fun K hK => by simp [hb9]; exact hK
  refine cT ?_
  refine sZ ?_
  cases h
  apply TrD.ret
  exact xD
 rw [iN hb9] at h
 refine rZ ?_ fun K hK => by simp [hb9]; exact hK
 refine TrD.cond (b := ilt 1048576 (lenZ p1.length)) (by simp) (fun u => ?_) (fun u => ?_)
 ·rw [if_pos u] at h
  refine sZ ?_ fun K hK => by simp [u]; exact hK
  cases h
  apply TrD.ret
  exact xD
 rw [iN u] at h
 apply TrD.skip
 apply sq
 obtain ⟨a, am, h⟩ := bindE h
 refine rk fun K hK => ?_
 simp [u]
 refine cp (c_spec_DrawClosedClauses n p0 _ am) ?_
 simp
 apply hK
 apply sq
 apply sq
 obtain ⟨aD, an, h⟩ := bindE h
 refine rk fun K hK => ?_
 simp
 refine cp (c_impl_ClausesValid n a.1 a.2.1 a.2.2 _ an) ?_
 simp
 apply hK
 refine TrD.cond (b := (!aD)) (by simp) (fun p => ?_) (fun p => ?_)
 ·rw [if_pos p] at h
  apply sq
  refine TrD.ghost (σ' := ⟨(updD (updD (updD (fun _ => .any) 5 (.slice 2 (List.map rGData a.1))) 6 (.ptr 2 0 0 0)) 7 (.slice 9 (List.map rGClause a.2.2))), hOfO [some ⟨2, [(rGType a.2.1)], 0, 0x0019⟩], 1, 147⟩) ?_ ?_
  ·exact gC [120]
  obtain ⟨O, ao, h⟩ := bindE h
  obtain ⟨P, ap, h⟩ := bindE h
  refine TrD.draw tysOk mixed [0, 1, 2, 4, 5, 6, 3, 7, 8, 9] [0] [] (by rfl) rfl (fun K hK => ?_)
  simp
  refine cp (c_impl_ClausesValid n a.1 a.2.1 a.2.2 _ ao) ?_
  simp
  refine cp (c_spec_ClausesValid n a.1 a.2.1 a.2.2 _ ap) ?_
  simp
  apply hK
  cases h
  apply TrD.ret
  exact xD
 rw [iN p] at h
 apply TrD.skip
 refine sZ ?_ fun K hK => by simp [p]; exact hK
 apply sq
 refine sZ ?_
 obtain ⟨aB, Z, h⟩ := bindE h
 obtain ⟨V, G⟩ : ∃ S : (List GClause) → St, S = fun c => ⟨(updD (updD (updD (updD (updD (fun _ => .any) 1 (.slice 1 (List.map (rK .u8) p1))) 5 (.slice 2 (List.map rGData a.1))) 6 (.ptr 2 0 0 0)) 7 (.slice 9 (List.map rGClause a.2.2))) 8 (.sl 9 1 (c).length)), hOfO [some ⟨2, [(rGType a.2.1)], 0, 0x0019⟩, some ⟨9, (List.map rGClause c), 0, 0x0026⟩], 2, 147⟩ := ⟨_, rfl⟩
 refine TrD.joinQ V (fun z => aB = Ctl.brk z) (fun _ _ hg h => TrD.ghost hg h) ?_ (fun c hz => ?_)
 ·apply TrD.block
  obtain ⟨X, B⟩ : ∃ S : Nat → (List GClause) → St, S = fun j e => ⟨(updD (updD (updD (updD (updD (updD (fun _ => .any) 1 (.slice 1 (List.map (rK .u8) p1))) 5 (.slice 2 (List.map rGData a.1))) 6 (.ptr 2 0 0 0)) 7 (.slice 9 (List.map rGClause a.2.2))) 8 (.sl 9 1 (e).length)) 9 (eI (j : Int))), hOfO [some ⟨2, [(rGType a.2.1)], 0, 0x0019⟩, some ⟨9, (List.map rGClause e), 0, 0x0026⟩], 2, 147⟩ := ⟨_, rfl⟩
  refine TrD.limS (sz := 9) (rows := List.map rGClause a.2.2) (seen_slot (d := .slice 9 (List.map rGClause a.2.2)) 36 (by simp)) (fun hlim => ?_)
  rw [List.length_map] at hlim
  refine TrD.forL X Z hlim ?_ (fun j T e s aL aM az q aP f I aJ => ?_) (fun e aH => ?_)
  ·rw [B]
   exact gC [120, 192]
  ·rw [congrFun (congrFun B j) e]
   apply sq
   refine sZ ?_ fun K hK => by simp [az]; exact hK
   refine cT ?_
   apply TrD.skip
   apply sq
   apply TrD.block
   apply sq
   refine TrD.ghost (σ' := ⟨(updD (updD (updD (updD (updD (updD (fun _ => .any) 1 (.slice 1 (List.map (rK .u8) p1))) 5 (.slice 2 (List.map rGData a.1))) 6 (.ptr 2 0 0 0)) 7 (.slice 9 (List.map rGClause a.2.2))) 8 (.sl 9 1 (e).length)) 9 (eI (j : Int))), hOfO [some ⟨2, [(rGType a.2.1)], 0, 0x0019⟩, some ⟨9, (List.map rGClause e), 0, 0x0026⟩], 2, 147⟩) ?_ ?_
   ·exact gC [0, 1]
   obtain ⟨o, aq, f⟩ := bindE f
   refine TrD.drawZ tysOk mixed [0, 1, 2, 3, 4, 5, 6, 7, 8, 9, 10, 11, 12, 13] [0] [1048586] [] [] (by rfl) rfl 2097152 (Nat.le_of_ble_eq_true rfl) (.inr ⟨Nat.le_of_ble_eq_true rfl, rfl⟩) (fun K hK => ?_)
   simp [idx_inb s, idx_row s]
   refine cp (c_impl_SimplifyPattern n a.1 a.2.1 T.pat _ aq) ?_
   simp
   apply hK
   apply sq
   refine TrD.ghost (σ' := ⟨(updD (updD (updD (updD (updD (updD (updD (updD (fun _ => .any) 1 (.slice 1 (List.map (rK .u8) p1))) 5 (.slice 2 (List.map rGData a.1))) 6 (.ptr 2 0 0 0)) 7 (.slice 9 (List.map rGClause a.2.2))) 8 (.sl 9 1 (e).length)) 9 (eI (j : Int))) 10 (.ptr 6 2 0 0)) 11 (eB o.2)), hOfO [some ⟨2, [(rGType a.2.1)], 0, 0x0019⟩, some ⟨9, (List.map rGClause e), 0, 0x0026⟩, some ⟨6, [(rGPattern o.1)], 0, 0x0020⟩], 3, 147⟩) ?_ ?_
   ·exact gC [0, 1, 1048586]
   obtain ⟨aE, ar, f⟩ := bindE f
   refine TrD.drawZ tysOk mixed [0, 1, 2, 3, 4, 5, 6, 7, 8, 9, 10, 11, 12, 13] [0] [1048588] [] [] (by rfl) rfl 2097152 (Nat.le_of_ble_eq_true rfl) (.inr ⟨Nat.le_of_ble_eq_true rfl, rfl⟩) (fun K hK => ?_)
   simp [idx_inb s, idx_row s]
   refine cp (c_spec_SimplifyPattern n a.1 a.2.1 T.pat _ ar) ?_
   simp
   apply hK
   apply sq
   apply sq
   rcases bb (!o.2) with v | v
   ·rw [if_pos v] at f
    refine rZ ?_ fun K hK => by simp [v]; exact hK
    refine cT ?_
    refine sZ ?_
    cases f
    obtain rfl := I _ rfl
    cases h
    apply TrD.ret
    exact xD
   rw [iN v] at f
   obtain ⟨aF, au, f⟩ := bindE f
   refine rk fun K hK => ?_
   simp [v]
   refine cp (c_impl_PatternSame n o.1 aE.1 _ au) ?_
   simp
   apply hK
   refine TrD.cond (b := (!aF)) (by simp) (fun i => ?_) (fun i => ?_)
   ·rw [if_pos i] at f
    refine sZ ?_ fun K hK => by simp [i]; exact hK
    cases f
    obtain rfl := I _ rfl
    cases h
    apply TrD.ret
    exact xD
   rw [iN i] at f
   apply TrD.skip
   refine TrD.ghost (σ' := ⟨(updD (updD (updD (updD (updD (updD (updD (fun _ => .any) 1 (.slice 1 (List.map (rK .u8) p1))) 5 (.slice 2 (List.map rGData a.1))) 6 (.ptr 2 0 0 0)) 7 (.slice 9 (List.map rGClause a.2.2))) 8 (.sl 9 1 (e).length)) 9 (eI (j : Int))) 10 (.ptr 6 2 0 0)), hOfO [some ⟨2, [(rGType a.2.1)], 0, 0x0019⟩, some ⟨9, (List.map rGClause e), 0, 0x0026⟩, some ⟨6, [(rGPattern o.1)], 0, 0x0020⟩], 3, 147⟩) ?_ ?_
   ·exact gC [0, 1, 2]
   obtain ⟨F, D, f⟩ := bindE f
   have N := (app_some D).2
   try simp only [List.length_cons, List.length_nil, Nat.zero_add] at N
   refine TrD.draw tysOk mixed [0, 1, 2, 3, 4, 5, 6, 7, 8, 9, 10] [2] [] (by rfl) rfl (fun K hK => ?_)
   simp [idx_inb s, idx_row s, N]
   apply hK
   refine rZ ?_
   cases f
   refine ToAny.mk F rfl ?_
   rw [B]
   exact gc [0, 19] hβ ((((((va.f (by simp [q])).f (by simp [q])).p 0 (by simp [q])).f (by simp [q])).s 19 (by simp [(app_some D).1, q])).f (by simp [q])) ((ln.f (by simp [(app_some D).1])).f)
  rw [congrFun (congrFun B _) e]
  apply sq
  refine sZ ?_ fun K hK => by simp [ilt_len a.2.2.length]; exact hK
  refine cF ?_
  refine TrD.exit ?_
  try simp only [↓reduceIte, Nat.reduceEqDiff, Nat.zero_ne_one, Nat.one_ne_zero, OfNat.ofNat_ne_zero, OfNat.zero_ne_ofNat, OfNat.one_ne_ofNat, OfNat.ofNat_ne_one]
  refine ToAny.mk e aH ?_
  rw [G]
  exact gC [0, 1]
 subst hz
 try dsimp only at h
 rw [congrFun G c]
 apply sq
 obtain ⟨l, av, h⟩ := bindE h
 refine rk fun K hK => ?_
 simp [show ieq 3 0 = false from rfl]
 refine cp (c_impl_ValuesUpTo n a.1 a.2.1 (wadd .i64 1 (wrem (lenZ p1.length) 3)) _ av) ?_
 simp
 apply hK
 apply sq
 refine sZ ?_
 obtain ⟨aC, aa, h⟩ := bindE h
 obtain ⟨W, H⟩ : ∃ S : Unit → St, S = fun R => ⟨(fun _ => .any), hOfO [], 0, 147⟩ := ⟨_, rfl⟩
 refine TrD.joinQ W (fun z => aC = Ctl.brk z) (fun _ _ hg h => TrD.ghost hg h) ?_ (fun R hz => ?_)
 ·apply TrD.block
  obtain ⟨Y, C⟩ : ∃ S : Nat → Unit → St, S = fun m A => ⟨(updD (updD (updD (updD (updD (updD (fun _ => .any) 5 (.slice 2 (List.map rGData a.1))) 6 (.ptr 2 0 0 0)) 7 (.slice 9 (List.map rGClause a.2.2))) 8 (.sl 9 1 (c).length)) 14 (.slice 3 (List.map rGValue l.1))) 16 (eI (m : Int))), hOfO [some ⟨2, [(rGType a.2.1)], 0, 0x0019⟩, some ⟨9, (List.map rGClause c), (c).length * 9, 0x0026⟩], 2, 147⟩ := ⟨_, rfl⟩
  refine TrD.limS (sz := 3) (rows := List.map rGValue l.1) (seen_slot (d := .slice 3 (List.map rGValue l.1)) 106 (by simp)) (fun hlim => ?_)
  rw [List.length_map] at hlim
  refine TrD.forL Y aa hlim ?_ (fun m U A E aN aO aA r aQ g J aK => ?_) (fun A aI => ?_)
  ·rw [C]
   refine (Ghost.raise 1 (by simp; rfl)).trans ?_
   exact gC [0, 1]
  ·rw [congrFun (congrFun C m) A]
   apply sq
   refine sZ ?_ fun K hK => by simp [aA]; exact hK
   refine cT ?_
   apply TrD.skip
   apply sq
   apply TrD.block
   apply sq
   refine TrD.ghost (σ' := ⟨(updD (updD (updD (updD (updD (updD (fun _ => .any) 5 (.slice 2 (List.map rGData a.1))) 6 (.ptr 2 0 0 0)) 7 (.slice 9 (List.map rGClause a.2.2))) 8 (.sl 9 1 (c).length)) 14 (.slice 3 (List.map rGValue l.1))) 16 (eI (m : Int))), hOfO [some ⟨2, [(rGType a.2.1)], 0, 0x0019⟩, some ⟨9, (List.map rGClause c), (c).length * 9, 0x0026⟩], 2, 147⟩) ?_ ?_
   ·exact gC [0, 1]
   obtain ⟨t, aw, g⟩ := bindE g
   refine TrD.draw tysOk mixed [0, 1, 2, 3, 4, 5, 6, 7, 8, 9, 10, 11, 12, 13, 14] [0] [] (by rfl) rfl (fun K hK => ?_)
   simp [idx_inb E, idx_row E]
   refine cp (c_impl_RunClauses n a.1 a.2.1 a.2.2 U _ aw) ?_
   simp
   apply hK
   apply sq
   refine TrD.ghost (σ' := ⟨(updD (updD (updD (updD (updD (updD (updD (updD (fun _ => .any) 5 (.slice 2 (List.map rGData a.1))) 6 (.ptr 2 0 0 0)) 7 (.slice 9 (List.map rGClause a.2.2))) 8 (.sl 9 1 (c).length)) 14 (.slice 3 (List.map rGValue l.1))) 16 (eI (m : Int))) 17 (eI t.1)) 18 (.slice 4 (List.map rGBind t.2.1))), hOfO [some ⟨2, [(rGType a.2.1)], 0, 0x0019⟩, some ⟨9, (List.map rGClause c), (c).length * 9, 0x0026⟩], 2, 147⟩) ?_ ?_
   ·exact gC [0, 1]
   obtain ⟨Q, ax, g⟩ := bindE g
   refine TrD.draw tysOk mixed [0, 1, 2, 3, 4, 5, 6, 7, 8, 9, 10, 11, 12, 13, 14] [0] [] (by rfl) rfl (fun K hK => ?_)
   simp [idx_inb E, idx_row E]
   refine callV (.cons (.same _ _) (.cons (.same _ _) (.cons (.sl _ _ _ _ _ (by simp; rfl) rfl (by simp) (by simp)) (.cons (.same _ _) (.nil _))))) (c_impl_RunClauses n a.1 a.2.1 c U _ ax) (by simp) (by simp) (fun aX ah => ?_)
   subst ah
   simp
   apply hK
   apply sq
   rcases bb (!ieq t.1 Q.1) with w | w
   ·rw [if_pos w] at g
    refine rZ ?_ fun K hK => by simp [w]; exact hK
    refine cT ?_
    refine sZ ?_
    cases g
    obtain rfl := J _ rfl
    cases h
    apply TrD.ret
    exact xD
   rw [iN w] at g
   obtain ⟨aG, ay, g⟩ := bindE g
   refine rk fun K hK => ?_
   simp [w]
   refine cp (c_laws_ptBinds n t.2.1 Q.2.1 _ ay) ?_
   simp
   apply hK
   refine TrD.cond (b := (!aG)) (by simp) (fun y => ?_) (fun y => ?_)
   ·rw [if_pos y] at g
    refine sZ ?_ fun K hK => by simp [y]; exact hK
    cases g
    obtain rfl := J _ rfl
    cases h
    apply TrD.ret
    exact xD
   rw [iN y] at g
   apply TrD.skip
   refine rZ ?_ fun K hK => by simp [y]; exact hK
   cases g
   refine ToAny.mk () rfl ?_
   rw [C]
   exact gc [0, 1] hβ ((((((va.f (by simp [r])).p 0 (by simp [r])).f (by simp [r])).s 1 (by simp [r])).f (by simp [r])).f (by simp [r])) ln.f.f
  rw [congrFun (congrFun C _) A]
  apply sq
  refine sZ ?_ fun K hK => by simp [ilt_len l.1.length]; exact hK
  refine cF ?_
  refine TrD.exit ?_
  try simp only [↓reduceIte, Nat.reduceEqDiff, Nat.zero_ne_one, Nat.one_ne_zero, OfNat.ofNat_ne_zero, OfNat.zero_ne_ofNat, OfNat.one_ne_ofNat, OfNat.ofNat_ne_one]
  refine ToAny.mk A aI ?_
  rw [H]
  exact gC []
 subst hz
 try dsimp only at h
 rw [congrFun H R]
 refine sZ ?_
 cases h
 apply TrD.ret
 exact xD
end Go.Proofs.YtimpchdgflhkaaaGreat
