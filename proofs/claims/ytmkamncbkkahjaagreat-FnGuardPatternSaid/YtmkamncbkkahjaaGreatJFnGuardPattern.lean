/- Guards as ranges: the law FnGuardPattern returns true for all arguments and leaves them as they were. Conditions: none beyond the given statement's own. -/
import Derived.Test.YtmkamncbkkahjaaGreatJClm
import Derived.Test.YtmkamncbkkahjaaGreatJP0
import Derived.Test.YtmkamncbkkahjaaGreatJC7
set_option linter.unusedSimpArgs false
set_option linter.unusedVariables false
namespace Go.Proofs.YtmkamncbkkahjaaGreat
open Go Go.ChangeShapes Go.WideShapes Go.ChangeAt Go.RowKit
theorem guard_pattern_own : ownKnob Tryz.prog.godebug = none := by kernel_rfl
theorem guard_pattern_law (l1 l2 : List Int) (h1 : ∀ z ∈ l1, 0 ≤ z ∧ z ≤ 255) (_ : ∀ z ∈ l2, 0 ≤ z ∧ z ≤ 255) : CallsD Tryz.prog 5 [.slice 1 (List.map (rK .u8) l1), .slice 1 (List.map (rK .u8) l2)] (fun d => d = eB true) :=
  c_laws_FnGuardPattern NN l1 l2 true (law_guard_pattern l1 l2 h1)
set_option maxRecDepth 100000 in
theorem guard_pattern_lifted (os : Os) (started : os.Started) (H : Type) (enc : TypeId × Value → H) :
    ReturnsInHanded {} Tryz.checked os 5 .any (Rows.fnGuardPatternSpec.pre6 enc Tryz.prog Tryz.f5 Rows.fnGuardPatternRow.domain false) (Rows.fnGuardPatternSpec.post enc Tryz.prog Tryz.f5 false true false false) := by
  refine returnsInHanded_of_change (C := Tryz.checked) guard_pattern_own started (by kernel_rfl) Tryz.func5
    (ChangeSpec.witness6 (enc := enc) (C := Tryz.checked) false ⟨#[], #[.slice none 0 0, .slice none 0 0], []⟩ 8 (by kernel_rfl) (by kernel_rfl) (by kernel_rfl) (by kernel_rfl)) ?_
  intro W base args ds gs before hval hW _ _
  exact law2 (t := 22) (e := 5) (tb := 4) (fun _ _ _ => rfl) rfl rfl rfl (by kernel_rfl) (by kernel_rfl) (by kernel_rfl) (by kernel_rfl) guard_pattern_law hval hW
set_option maxRecDepth 100000 in
set_option maxHeartbeats 0 in
theorem guard_pattern_facts : joinedFacts Tryz.checked.prog 5 Tryz.f5 Rows.fnGuardPatternSpec Rows.fnGuardPatternRow = true := by
  unfold joinedFacts
  simp only [Bool.and_eq_true]
  iterate 31 refine ⟨?_, by as_aux_lemma => kernel_rfl⟩
  as_aux_lemma => kernel_rfl
set_option maxRecDepth 100000 in
theorem guard_pattern_called : (Tryz.checked.prog).funcNamed Rows.fnGuardPatternRow.func = some 5 := by kernel_rfl
theorem guard_pattern_plain : (Tryz.f5).isInstance Tryz.checked.prog Rows.fnGuardPatternRow.origin Rows.fnGuardPatternRow.targs := of_decide_eq_true (by kernel_rfl)
theorem guard_pattern_wrap : (Tryz.f5).isWrapper Tryz.checked.prog Rows.fnGuardPatternRow.wrapper Rows.fnGuardPatternRow.mainSum := by
  unfold Func.isWrapper
  first | (rw [if_pos (by decide +kernel)]; kernel_rfl) | (rw [if_neg (by decide +kernel)]; exact ⟨rfl, rfl⟩)
theorem guard_pattern_proved : Rows.FnGuardPatternSaid :=
  OpenClaim.holds_of_wide 5 Tryz.f5 rfl rfl rfl rfl rfl rfl rfl ⟨rfl, rfl, rfl, rfl, rfl⟩ rfl rfl rfl rfl rfl guard_pattern_called Tryz.func5 guard_pattern_facts
    guard_pattern_plain guard_pattern_wrap
    (fun os started H enc _ => guard_pattern_lifted os started H enc)
end Go.Proofs.YtmkamncbkkahjaaGreat
