import Derived.Test.YtmkamncbkkahjaaGreatJMir
import Derived.Test.YtmkamncbkkahjaaGreatJZap
import Derived.Test.YtmkamncbkkahjaaGreatJC5
import Derived.Test.YtmkamncbkkahjaaGreatJC14
import Derived.Test.YtmkamncbkkahjaaGreatJC16
import Derived.Test.YtmkamncbkkahjaaGreatJC17
set_option linter.unusedSimpArgs false
set_option linter.unusedVariables false
namespace Go.Proofs.YtmkamncbkkahjaaGreat
open Go Go.RowKit
set_option maxRecDepth 100000
set_option maxHeartbeats 20000000
theorem c_laws_FnGuardNever (n : Nat) (p0 : (List Int)) (p1 : (List Int)) (res : Bool) (h : m_laws_FnGuardNever n p0 p1 = some res) : CallsD Tryz.prog 0o00004 [(.slice 1 (List.map (rK .u8) p0)), (.slice 1 (List.map (rK .u8) p1))] (fun d => d = (eB res)) := by
 unfold m_laws_FnGuardNever at h
 refine CD Tryz.func4 [.tmp 4] fun β hβ => ?_
 refine sZ ?_
 apply sq
 apply sq
 rcases bb (ilt 1048576 (lenZ p0.length)) with hb9 | hb9
 ·rw [if_pos hb9] at h
  refine rZ ?_ fun K hK => by simp [hb9]; exact hK
  refine cT ?_
  refine sZ ?_
  cases h
  apply TrD.ret
  exact xD
 rw [iN hb9] at h
 refine rZ ?_ fun K hK => by simp [hb9]; exact hK
 refine TrD.cond (b := ilt 1048576 (lenZ p1.length)) (by simp) (fun j => ?_) (fun j => ?_)
 ·rw [if_pos j] at h
  refine sZ ?_ fun K hK => by simp [j]; exact hK
  cases h
  apply TrD.ret
  exact xD
 rw [iN j] at h
 apply TrD.skip
 apply sq
 obtain ⟨a, P, h⟩ := bindE h
 refine rk fun K hK => ?_
 simp [j]
 refine cp (c_spec_DrawGuardNever n p0 _ P) ?_
 simp
 apply hK
 apply sq
 obtain ⟨i, Q, h⟩ := bindE h
 refine rk fun K hK => ?_
 simp
 refine cp (c_impl_GuardNever n a.1 a.2.1 a.2.2 _ Q) ?_
 simp
 apply hK
 apply sq
 apply sq
 obtain ⟨ab, s, h⟩ := bindE h
 rcases bb (!(i == ab)) with m | m
 ·rw [if_pos m] at h
  refine rk fun K hK => ?_
  simp
  refine cp (c_spec_GuardNever n a.1 a.2.1 a.2.2 _ s) ?_
  simp [m]
  apply hK
  refine cT ?_
  apply sq
  obtain ⟨v, U, h⟩ := bindE h
  refine rk fun K hK => ?_
  simp
  refine cp (c_spec_GuardNever n a.1 a.2.1 a.2.2 _ U) ?_
  simp
  apply hK
  cases h
  apply TrD.ret
  exact xD
 rw [iN m] at h
 refine rk fun K hK => ?_
 simp
 refine cp (c_spec_GuardNever n a.1 a.2.1 a.2.2 _ s) ?_
 simp [m]
 apply hK
 refine TrD.cond (b := (!i)) (by simp) (fun o => ?_) (fun o => ?_)
 ·rw [if_pos o] at h
  apply sq
  obtain ⟨w, V, h⟩ := bindE h
  refine rk fun K hK => ?_
  simp [o]
  refine cp (c_spec_GuardNever n a.1 a.2.1 a.2.2 _ V) ?_
  simp
  apply hK
  cases h
  apply TrD.ret
  exact xD
 rw [iN o] at h
 apply TrD.skip
 apply sq
 obtain ⟨c, W, h⟩ := bindE h
 refine rk fun K hK => ?_
 simp [o, show ieq 3 0 = false from rfl]
 refine cp (c_impl_ValuesUpTo n a.1 a.2.1 (wadd .i64 1 (wrem (lenZ p1.length) 3)) _ W) ?_
 simp
 apply hK
 apply sq
 refine sZ ?_
 obtain ⟨Z, C, h⟩ := bindE h
 obtain ⟨A, r⟩ : ∃ S : Unit → St, S = fun y => ⟨(updD (updD (updD (fun _ => .any) 5 (.slice 2 (List.map rGData a.1))) 6 (.ptr 2 0 0 0)) 7 (.ptr 9 1 0 0)), hOfO [some ⟨2, [(rGType a.2.1)], 0, 0x0019⟩, some ⟨9, [(rGClause a.2.2)], 0, 0x002d⟩], 2, 91⟩ := ⟨_, rfl⟩
 refine TrD.joinQ A (fun z => Z = Ctl.brk z) (fun _ _ hg h => TrD.ghost hg h) ?_ (fun y hz => ?_)
 ·apply TrD.block
  obtain ⟨B, q⟩ : ∃ S : Nat → Unit → St, S = fun f p => ⟨(updD (updD (updD (updD (updD (fun _ => .any) 5 (.slice 2 (List.map rGData a.1))) 6 (.ptr 2 0 0 0)) 7 (.ptr 9 1 0 0)) 9 (.slice 3 (List.map rGValue c.1))) 11 (eI (f : Int))), hOfO [some ⟨2, [(rGType a.2.1)], 0, 0x0019⟩, some ⟨9, [(rGClause a.2.2)], 0, 0x002d⟩], 2, 91⟩ := ⟨_, rfl⟩
  refine TrD.limS (sz := 3) (rows := List.map rGValue c.1) (seen_slot (d := .slice 3 (List.map rGValue c.1)) 59 (by simp)) (fun hlim => ?_)
  rw [List.length_map] at hlim
  refine TrD.forL B C hlim ?_ (fun f ad p t af ag Y g ah e X ae => ?_) (fun p ac => ?_)
  ·rw [q]
   exact gC [120, 128]
  ·rw [congrFun (congrFun q f) p]
   apply sq
   refine sZ ?_ fun K hK => by simp [Y]; exact hK
   refine cT ?_
   apply TrD.skip
   apply sq
   apply TrD.block
   apply sq
   refine TrD.ghost (σ' := ⟨(updD (updD (updD (updD (updD (fun _ => .any) 5 (.slice 2 (List.map rGData a.1))) 6 (.ptr 2 0 0 0)) 7 (.ptr 9 1 0 0)) 9 (.slice 3 (List.map rGValue c.1))) 11 (eI (f : Int))), hOfO [some ⟨2, [(rGType a.2.1)], 0, 0x0019⟩, some ⟨9, [(rGClause a.2.2)], 0, 0x002d⟩], 2, 91⟩) ?_ ?_
   ·exact gC [0, 1]
   obtain ⟨aa, R, e⟩ := bindE e
   refine TrD.draw tysOk mixed [0, 1, 2, 4, 5, 6, 7, 3, 8, 9, 10, 11, 12, 13, 14, 15] [0, 1] [] (by rfl) rfl (fun K hK => ?_)
   simp [idx_inb t, idx_row t]
   refine callV (.cons (.same _ _) (.cons (.same _ _) (.cons (.sl _ _ _ _ _ (by simp; rfl) rfl (by simp) (by simp)) (.cons (.same _ _) (.nil _))))) (c_impl_RunClauses n a.1 a.2.1 [a.2.2] ad _ R) (by simp) (by simp) (fun ai D => ?_)
   subst D
   simp
   apply hK
   refine sZ ?_
   refine TrD.cond (b := ile 0 aa.1) (by simp) (fun l => ?_) (fun l => ?_)
   ·rw [if_pos l] at e
    refine sZ ?_ fun K hK => by simp [l]; exact hK
    cases e
    obtain rfl := X _ rfl
    cases h
    apply TrD.ret
    exact xD
   rw [iN l] at e
   apply TrD.skip
   refine rZ ?_ fun K hK => by simp [l]; exact hK
   cases e
   refine ToAny.mk () rfl ?_
   rw [q]
   exact gc [0, 1] hβ (((((va.f (by simp [g])).p 0 (by simp [g])).p 1 (by simp [g])).f (by simp [g])).f (by simp [g])) ln.f.f
  rw [congrFun (congrFun q _) p]
  apply sq
  refine sZ ?_ fun K hK => by simp [ilt_len c.1.length]; exact hK
  refine cF ?_
  refine TrD.exit ?_
  try simp only [↓reduceIte, Nat.reduceEqDiff, Nat.zero_ne_one, Nat.one_ne_zero, OfNat.ofNat_ne_zero, OfNat.zero_ne_ofNat, OfNat.one_ne_ofNat, OfNat.ofNat_ne_one]
  refine ToAny.mk p ac ?_
  rw [r]
  exact gC [0, 1]
 subst hz
 try dsimp only at h
 rw [congrFun r y]
 apply sq
 obtain ⟨u, T, h⟩ := bindE h
 refine rk fun K hK => ?_
 simp
 refine cp (c_impl_GuardPattern n a.1 a.2.1 a.2.2 _ T) ?_
 simp
 apply hK
 refine sZ ?_
 cases h
 apply TrD.ret
 exact xD
end Go.Proofs.YtmkamncbkkahjaaGreat
