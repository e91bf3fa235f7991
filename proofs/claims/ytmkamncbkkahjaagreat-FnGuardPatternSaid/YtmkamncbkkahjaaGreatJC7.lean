import Derived.Test.YtmkamncbkkahjaaGreatJMir
import Derived.Test.YtmkamncbkkahjaaGreatJAuI
import Derived.Test.YtmkamncbkkahjaaGreatJC1
import Derived.Test.YtmkamncbkkahjaaGreatJC2
import Derived.Test.YtmkamncbkkahjaaGreatJC3
import Derived.Test.YtmkamncbkkahjaaGreatJC5
import Derived.Test.YtmkamncbkkahjaaGreatJC6
set_option linter.unusedSimpArgs false
set_option linter.unusedVariables false
set_option linter.unusedSimpArgs false
set_option linter.unusedVariables false
namespace Go.Proofs.YtmkamncbkkahjaaGreat
open Go Go.RowKit
set_option maxRecDepth 100000
set_option maxHeartbeats 20000000
theorem c_laws_FnGuardPattern (n : Nat) (p0 : (List Int)) (p1 : (List Int)) (res : Bool) (h : m_laws_FnGuardPattern n p0 p1 = some res) : CallsD Tryz.prog 0o00005 [(.slice 1 (List.map (rK .u8) p0)), (.slice 1 (List.map (rK .u8) p1))] (fun d => d = (eB res)) := by
 unfold m_laws_FnGuardPattern at h
 refine CD Tryz.func5 [.tmp 4] fun β hβ => ?_
 refine sZ ?_
 apply sq
 apply sq
 rcases bb (ilt 1048576 (lenZ p0.length)) with hb9 | hb9
 ·rw [if_pos hb9] at h
  refine rZ ?_ fun K hK => by simp [hb9]; exact hK
  refine cT ?_
  refine sZ ?_
  cases h
  apply TrD.ret
  exact xD
 rw [iN hb9] at h
 refine rZ ?_ fun K hK => by simp [hb9]; exact hK
 refine TrD.cond (b := ilt 1048576 (lenZ p1.length)) (by simp) (fun t => ?_) (fun t => ?_)
 ·rw [if_pos t] at h
  refine sZ ?_ fun K hK => by simp [t]; exact hK
  cases h
  apply TrD.ret
  exact xD
 rw [iN t] at h
 apply TrD.skip
 apply sq
 obtain ⟨a, ai, h⟩ := bindE h
 refine rk fun K hK => ?_
 simp [t]
 refine cp (c_spec_DrawGuardPattern n p0 _ ai) ?_
 simp
 apply hK
 apply sq
 obtain ⟨c, al, h⟩ := bindE h
 refine rk fun K hK => ?_
 simp
 refine cp (c_impl_GuardPattern n a.1 a.2.1 a.2.2 _ al) ?_
 simp
 apply hK
 apply sq
 obtain ⟨g, am, h⟩ := bindE h
 refine rk fun K hK => ?_
 simp
 refine cp (c_spec_GuardPattern n a.1 a.2.1 a.2.2 _ am) ?_
 simp
 apply hK
 apply sq
 apply sq
 rcases bb (!(c.2 == g.2)) with r | r
 ·rw [if_pos r] at h
  refine rZ ?_ fun K hK => by simp [r]; exact hK
  refine cT ?_
  apply sq
  rcases bb (c.2 == g.2) with l | l
  ·rw [if_pos l] at h
   obtain ⟨F, ag, h⟩ := bindE h
   refine rk fun K hK => ?_
   simp [l]
   refine callB (.cons (.sl _ _ _ _ _ (by simp; rfl) rfl (by simp) (by simp)) (.cons (.sl _ _ _ _ _ (by simp; rfl) rfl (by simp) (by simp)) (.nil _))) (c_impl_ClausesSame n [c.1] [g.1] _ ag) (by simp) (by simp) (fun aC T => ?_)
   subst T
   refine ⟨by simp, ?_⟩
   simp [l]
   apply hK
   cases h
   apply TrD.ret
   exact xD
  rw [iN l] at h
  refine rZ ?_ fun K hK => by simp [l]; exact hK
  cases h
  apply TrD.ret
  exact xD
 rw [iN r] at h
 obtain ⟨av, D, h⟩ := bindE h
 rcases bb (!av) with u | u
 ·rw [if_pos u] at h
  refine rk fun K hK => ?_
  simp [r]
  refine callB (.cons (.sl _ _ _ _ _ (by simp; rfl) rfl (by simp) (by simp)) (.cons (.sl _ _ _ _ _ (by simp; rfl) rfl (by simp) (by simp)) (.nil _))) (c_impl_ClausesSame n [c.1] [g.1] _ D) (by simp) (by simp) (fun aE V => ?_)
  subst V
  refine ⟨by simp, ?_⟩
  simp [u]
  apply hK
  refine cT ?_
  apply sq
  rcases bb (c.2 == g.2) with m | m
  ·rw [if_pos m] at h
   obtain ⟨G, ah, h⟩ := bindE h
   refine rk fun K hK => ?_
   simp [m]
   refine callB (.cons (.sl _ _ _ _ _ (by simp; rfl) rfl (by simp) (by simp)) (.cons (.sl _ _ _ _ _ (by simp; rfl) rfl (by simp) (by simp)) (.nil _))) (c_impl_ClausesSame n [c.1] [g.1] _ ah) (by simp) (by simp) (fun aD U => ?_)
   subst U
   refine ⟨by simp, ?_⟩
   simp [m]
   apply hK
   cases h
   apply TrD.ret
   exact xD
  rw [iN m] at h
  refine rZ ?_ fun K hK => by simp [m]; exact hK
  cases h
  apply TrD.ret
  exact xD
 rw [iN u] at h
 refine rk fun K hK => ?_
 simp [r]
 refine callB (.cons (.sl _ _ _ _ _ (by simp; rfl) rfl (by simp) (by simp)) (.cons (.sl _ _ _ _ _ (by simp; rfl) rfl (by simp) (by simp)) (.nil _))) (c_impl_ClausesSame n [c.1] [g.1] _ D) (by simp) (by simp) (fun aL ac => ?_)
 subst ac
 refine ⟨by simp, ?_⟩
 simp [u]
 apply hK
 refine TrD.cond (b := (!c.2)) (by simp) (fun o => ?_) (fun o => ?_)
 ·rw [if_pos o] at h
  apply sq
  rcases bb (c.2 == g.2) with p | p
  ·rw [if_pos p] at h
   obtain ⟨H, aj, h⟩ := bindE h
   refine rk fun K hK => ?_
   simp [o, p]
   refine callB (.cons (.sl _ _ _ _ _ (by simp; rfl) rfl (by simp) (by simp)) (.cons (.sl _ _ _ _ _ (by simp; rfl) rfl (by simp) (by simp)) (.nil _))) (c_impl_ClausesSame n [c.1] [g.1] _ aj) (by simp) (by simp) (fun aF W => ?_)
   subst W
   refine ⟨by simp, ?_⟩
   simp [p]
   apply hK
   cases h
   apply TrD.ret
   exact xD
  rw [iN p] at h
  refine rZ ?_ fun K hK => by simp [o, p]; exact hK
  cases h
  apply TrD.ret
  exact xD
 rw [iN o] at h
 apply TrD.skip
 apply sq
 obtain ⟨f, ak, h⟩ := bindE h
 refine rk fun K hK => ?_
 simp [o, show ieq 3 0 = false from rfl]
 refine cp (c_impl_ValuesUpTo n a.1 a.2.1 (wadd .i64 1 (wrem (lenZ p1.length) 3)) _ ak) ?_
 simp
 apply hK
 apply sq
 refine sZ ?_
 obtain ⟨au, R, h⟩ := bindE h
 obtain ⟨P, C⟩ : ∃ S : Unit → St, S = fun N => ⟨(updD (updD (updD (fun _ => .any) 5 (.slice 2 (List.map rGData a.1))) 6 (.ptr 2 0 0 0)) 8 (.ptr 9 1 0 0)), hOfO [some ⟨2, [(rGType a.2.1)], 0, 0x0019⟩, some ⟨9, [(rGClause c.1)], 0, 0x002d⟩], 2, 135⟩ := ⟨_, rfl⟩
 refine TrD.joinQ P (fun z => au = Ctl.brk z) (fun _ _ hg h => TrD.ghost hg h) ?_ (fun N hz => ?_)
 ·apply TrD.block
  obtain ⟨Q, A⟩ : ∃ S : Nat → Unit → St, S = fun i y => ⟨(updD (updD (updD (updD (updD (updD (fun _ => .any) 5 (.slice 2 (List.map rGData a.1))) 6 (.ptr 2 0 0 0)) 7 (.ptr 9 1 0 0)) 8 (.ptr 9 2 0 0)) 12 (.slice 3 (List.map rGValue f.1))) 14 (eI (i : Int))), hOfO [some ⟨2, [(rGType a.2.1)], 0, 0x0019⟩, some ⟨9, [(rGClause a.2.2)], 0, 0x002d⟩, some ⟨9, [(rGClause c.1)], 0, 0x002d⟩], 3, 135⟩ := ⟨_, rfl⟩
  refine TrD.limS (sz := 3) (rows := List.map rGValue f.1) (seen_slot (d := .slice 3 (List.map rGValue f.1)) 82 (by simp)) (fun hlim => ?_)
  rw [List.length_map] at hlim
  refine TrD.forL Q R hlim ?_ (fun i O y B az aA ar j aB e E ay => ?_) (fun y ax => ?_)
  ·rw [A]
   exact gC [120, 128, 216]
  ·rw [congrFun (congrFun A i) y]
   apply sq
   refine sZ ?_ fun K hK => by simp [ar]; exact hK
   refine cT ?_
   apply TrD.skip
   apply sq
   apply TrD.block
   apply sq
   refine TrD.ghost (σ' := ⟨(updD (updD (updD (updD (updD (updD (fun _ => .any) 5 (.slice 2 (List.map rGData a.1))) 6 (.ptr 2 0 0 0)) 7 (.ptr 9 1 0 0)) 8 (.ptr 9 2 0 0)) 12 (.slice 3 (List.map rGValue f.1))) 14 (eI (i : Int))), hOfO [some ⟨2, [(rGType a.2.1)], 0, 0x0019⟩, some ⟨9, [(rGClause a.2.2)], 0, 0x002d⟩, some ⟨9, [(rGClause c.1)], 0, 0x002d⟩], 3, 135⟩) ?_ ?_
   ·exact gC [0, 1, 2]
   obtain ⟨s, an, e⟩ := bindE e
   refine TrD.draw tysOk mixed [0, 1, 2, 4, 5, 6, 7, 3, 8, 9, 10, 11, 12, 13, 14, 15] [0, 1] [] (by rfl) rfl (fun K hK => ?_)
   simp [idx_inb B, idx_row B]
   refine callV (.cons (.same _ _) (.cons (.same _ _) (.cons (.sl _ _ _ _ _ (by simp; rfl) rfl (by simp) (by simp)) (.cons (.same _ _) (.nil _))))) (c_impl_RunClauses n a.1 a.2.1 [a.2.2] O _ an) (by simp) (by simp) (fun aI Z => ?_)
   subst Z
   simp
   apply hK
   apply sq
   refine TrD.ghost (σ' := ⟨(updD (updD (updD (updD (updD (updD (updD (updD (fun _ => .any) 5 (.slice 2 (List.map rGData a.1))) 6 (.ptr 2 0 0 0)) 7 (.ptr 9 1 0 0)) 8 (.ptr 9 2 0 0)) 12 (.slice 3 (List.map rGValue f.1))) 14 (eI (i : Int))) 15 (eI s.1)) 16 (.slice 4 (List.map rGBind s.2.1))), hOfO [some ⟨2, [(rGType a.2.1)], 0, 0x0019⟩, some ⟨9, [(rGClause a.2.2)], 0, 0x002d⟩, some ⟨9, [(rGClause c.1)], 0, 0x002d⟩], 3, 135⟩) ?_ ?_
   ·exact gC [0, 1, 2]
   obtain ⟨I, ao, e⟩ := bindE e
   refine TrD.draw tysOk mixed [0, 1, 2, 4, 5, 6, 7, 3, 8, 9, 10, 11, 12, 13, 14, 15] [0, 2] [] (by rfl) rfl (fun K hK => ?_)
   simp [idx_inb B, idx_row B]
   refine callV (.cons (.same _ _) (.cons (.same _ _) (.cons (.sl _ _ _ _ _ (by simp; rfl) rfl (by simp) (by simp)) (.cons (.same _ _) (.nil _))))) (c_impl_RunClauses n a.1 a.2.1 [c.1] O _ ao) (by simp) (by simp) (fun aH Y => ?_)
   subst Y
   simp
   apply hK
   apply sq
   rcases bb (!ieq s.1 I.1) with v | v
   ·rw [if_pos v] at e
    refine rZ ?_ fun K hK => by simp [v]; exact hK
    refine cT ?_
    refine sZ ?_
    cases e
    obtain rfl := E _ rfl
    cases h
    apply TrD.ret
    exact xD
   rw [iN v] at e
   obtain ⟨aw, ap, e⟩ := bindE e
   refine rk fun K hK => ?_
   simp [v]
   refine cp (c_laws_ptBinds n s.2.1 I.2.1 _ ap) ?_
   simp
   apply hK
   refine TrD.cond (b := (!aw)) (by simp) (fun w => ?_) (fun w => ?_)
   ·rw [if_pos w] at e
    refine sZ ?_ fun K hK => by simp [w]; exact hK
    cases e
    obtain rfl := E _ rfl
    cases h
    apply TrD.ret
    exact xD
   rw [iN w] at e
   apply TrD.skip
   refine rZ ?_ fun K hK => by simp [w]; exact hK
   cases e
   refine ToAny.mk () rfl ?_
   rw [A]
   exact gc [0, 1, 2] hβ ((((((va.f (by simp [j])).p 0 (by simp [j])).p 1 (by simp [j])).p 2 (by simp [j])).f (by simp [j])).f (by simp [j])) ln.f.f.f
  rw [congrFun (congrFun A _) y]
  apply sq
  refine sZ ?_ fun K hK => by simp [ilt_len f.1.length]; exact hK
  refine cF ?_
  refine TrD.exit ?_
  try simp only [↓reduceIte, Nat.reduceEqDiff, Nat.zero_ne_one, Nat.one_ne_zero, OfNat.ofNat_ne_zero, OfNat.zero_ne_ofNat, OfNat.one_ne_ofNat, OfNat.ofNat_ne_one]
  refine ToAny.mk y ax ?_
  rw [C]
  exact gC [0, 2]
 subst hz
 try dsimp only at h
 rw [congrFun C N]
 apply sq
 rcases bb (ieq c.1.guard.op 0) with q | q
 ·rw [if_pos q] at h
  obtain ⟨J, aq, h⟩ := bindE h
  refine rk fun K hK => ?_
  simp [q]
  refine cp (c_impl_ClauseValid n a.1 a.2.1 c.1 _ aq) ?_
  simp [q]
  apply hK
  cases h
  apply TrD.ret
  exact xD
 rw [iN q] at h
 refine rZ ?_ fun K hK => by simp [q]; exact hK
 cases h
 apply TrD.ret
 exact xD
instance i_laws_FnGuardPattern : ∀ (n : Nat) (p0 : (List Int)) (p1 : (List Int)), Ct (m_laws_FnGuardPattern n p0 p1) fun res => CallsD Tryz.prog 0o00005 [(.slice 1 (List.map (rK .u8) p0)), (.slice 1 (List.map (rK .u8) p1))] (fun d => d = (eB res)) := fun n p0 p1 => ⟨c_laws_FnGuardPattern n p0 p1⟩
end Go.Proofs.YtmkamncbkkahjaaGreat
