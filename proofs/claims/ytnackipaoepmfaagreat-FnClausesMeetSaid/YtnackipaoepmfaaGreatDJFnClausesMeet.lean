/- Disjoint clauses: the law FnClausesMeet returns true for all arguments and leaves them as they were. Conditions: none beyond the given statement's own. -/
import Derived.Test.YtnackipaoepmfaaGreatDJClm
import Derived.Test.YtnackipaoepmfaaGreatDJP1
import Derived.Test.YtnackipaoepmfaaGreatDJC6a0
set_option linter.unusedSimpArgs false
set_option linter.unusedVariables false
namespace Go.Proofs.YtnackipaoepmfaaGreat
open Go Go.ChangeShapes Go.WideShapes Go.ChangeAt Go.RowKit
theorem Z4k : ownKnob Tryz.prog.godebug = none := by kernel_rfl
theorem Z4l (l1 l2 : List Int) (h1 : ∀ z ∈ l1, 0 ≤ z ∧ z ≤ 255) (_ : ∀ z ∈ l2, 0 ≤ z ∧ z ≤ 255) : Q9 Tryz.prog 5 [.slice 1 (List.map (rK .u8) l1), .slice 1 (List.map (rK .u8) l2)] (fun d => d = eB true) :=
 Q6i NN l1 l2 true (Z49 l1 l2 h1)
set_option maxRecDepth 100000 in
theorem Z19 (os : Os) (started : os.Started) (H : Type) (enc : TypeId × Value → H) :
  ReturnsInHanded {} Tryz.checked os 5 .any (Rows.fnClausesMeetSpec.pre6 enc Tryz.prog Tryz.f5 Rows.fnClausesMeetRow.domain false) (Rows.fnClausesMeetSpec.post enc Tryz.prog Tryz.f5 false true false false) := by
 refine returnsInHanded_of_change (C := Tryz.checked) Z4k started (by kernel_rfl) Tryz.func5
  (ChangeSpec.witness6 (enc := enc) (C := Tryz.checked) false ⟨#[], #[.slice none 0 0, .slice none 0 0], []⟩ 8 (by kernel_rfl) (by kernel_rfl) (by kernel_rfl) (by kernel_rfl)) ?_
 intro W base args ds gs before hval hW _ _
 exact law2 (t := 22) (e := 5) (tb := 4) (fun _ _ _ => rfl) rfl rfl rfl (by kernel_rfl) (by kernel_rfl) (by kernel_rfl) (by kernel_rfl) Z4l hval hW
set_option maxRecDepth 100000 in
set_option maxHeartbeats 0 in
theorem Z2m : joinedFacts Tryz.checked.prog 5 Tryz.f5 Rows.fnClausesMeetSpec Rows.fnClausesMeetRow = true := by
 unfold joinedFacts
 simp only [Bool.and_eq_true]
 iterate 31 refine ⟨?_, by as_aux_lemma => kernel_rfl⟩
 as_aux_lemma => kernel_rfl
set_option maxRecDepth 100000 in
theorem Z1a : (Tryz.checked.prog).funcNamed Rows.fnClausesMeetRow.func = some 5 := by kernel_rfl
theorem Z2l : (Tryz.f5).isInstance Tryz.checked.prog Rows.fnClausesMeetRow.origin Rows.fnClausesMeetRow.targs := of_decide_eq_true (by kernel_rfl)
theorem Z3g : (Tryz.f5).isWrapper Tryz.checked.prog Rows.fnClausesMeetRow.wrapper Rows.fnClausesMeetRow.mainSum := by
 unfold Func.isWrapper
 first | (rw [if_pos (by decide +kernel)]; kernel_rfl) | (rw [if_neg (by decide +kernel)]; exact ⟨rfl, rfl⟩)
theorem clauses_meet_proved : Rows.FnClausesMeetSaid :=
 OpenClaim.holds_of_wide 5 Tryz.f5 rfl rfl rfl rfl rfl rfl rfl ⟨rfl, rfl, rfl, rfl, rfl⟩ rfl rfl rfl rfl rfl Z1a Tryz.func5 Z2m
  Z2l Z3g
  (fun os started H enc _ => Z19 os started H enc)
end Go.Proofs.YtnackipaoepmfaaGreat
