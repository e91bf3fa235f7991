/- Trees of no clauses and of a clause that takes all: the law FnTreeEmpty returns true for all arguments and leaves them as they were. Conditions: none beyond the given statement's own. -/
import Derived.Test.YtmkamncbkkahjaaGreatJClm
import Derived.Test.YtmkamncbkkahjaaGreatJP1
import Derived.Test.YtmkamncbkkahjaaGreatJC9
set_option linter.unusedSimpArgs false
set_option linter.unusedVariables false
namespace Go.Proofs.YtmkamncbkkahjaaGreat
open Go Go.ChangeShapes Go.WideShapes Go.ChangeAt Go.RowKit
theorem tree_empty_own : ownKnob Tryz.prog.godebug = none := by kernel_rfl
theorem tree_empty_law (l1 : List Int) (h1 : ∀ z ∈ l1, 0 ≤ z ∧ z ≤ 255) : CallsD Tryz.prog 7 [.slice 1 (List.map (rK .u8) l1)] (fun d => d = eB true) :=
  c_laws_FnTreeEmpty NN l1 true (law_tree_empty l1 h1)
set_option maxRecDepth 100000 in
theorem tree_empty_lifted (os : Os) (started : os.Started) (H : Type) (enc : TypeId × Value → H) :
    ReturnsInHanded {} Tryz.checked os 7 .any (Rows.fnTreeEmptySpec.pre6 enc Tryz.prog Tryz.f7 Rows.fnTreeEmptyRow.domain false) (Rows.fnTreeEmptySpec.post enc Tryz.prog Tryz.f7 false true false false) := by
  refine returnsInHanded_of_change (C := Tryz.checked) tree_empty_own started (by kernel_rfl) Tryz.func7
    (ChangeSpec.witness6 (enc := enc) (C := Tryz.checked) false ⟨#[], #[.slice none 0 0], []⟩ 8 (by kernel_rfl) (by kernel_rfl) (by kernel_rfl) (by kernel_rfl)) ?_
  intro W base args ds gs before hval hW _ _
  exact law1 (t := 22) (e := 5) (tb := 4) (fun _ _ => rfl) rfl rfl rfl (by kernel_rfl) (by kernel_rfl) (by kernel_rfl) (by kernel_rfl) tree_empty_law hval hW
set_option maxRecDepth 100000 in
set_option maxHeartbeats 0 in
theorem tree_empty_facts : joinedFacts Tryz.checked.prog 7 Tryz.f7 Rows.fnTreeEmptySpec Rows.fnTreeEmptyRow = true := by
  unfold joinedFacts
  simp only [Bool.and_eq_true]
  iterate 31 refine ⟨?_, by as_aux_lemma => kernel_rfl⟩
  as_aux_lemma => kernel_rfl
set_option maxRecDepth 100000 in
theorem tree_empty_called : (Tryz.checked.prog).funcNamed Rows.fnTreeEmptyRow.func = some 7 := by kernel_rfl
theorem tree_empty_plain : (Tryz.f7).isInstance Tryz.checked.prog Rows.fnTreeEmptyRow.origin Rows.fnTreeEmptyRow.targs := of_decide_eq_true (by kernel_rfl)
theorem tree_empty_wrap : (Tryz.f7).isWrapper Tryz.checked.prog Rows.fnTreeEmptyRow.wrapper Rows.fnTreeEmptyRow.mainSum := by
  unfold Func.isWrapper
  first | (rw [if_pos (by decide +kernel)]; kernel_rfl) | (rw [if_neg (by decide +kernel)]; exact ⟨rfl, rfl⟩)
theorem tree_empty_proved : Rows.FnTreeEmptySaid :=
  OpenClaim.holds_of_wide 7 Tryz.f7 rfl rfl rfl rfl rfl rfl rfl ⟨rfl, rfl, rfl, rfl, rfl⟩ rfl rfl rfl rfl rfl tree_empty_called Tryz.func7 tree_empty_facts
    tree_empty_plain tree_empty_wrap
    (fun os started H enc _ => tree_empty_lifted os started H enc)
end Go.Proofs.YtmkamncbkkahjaaGreat
