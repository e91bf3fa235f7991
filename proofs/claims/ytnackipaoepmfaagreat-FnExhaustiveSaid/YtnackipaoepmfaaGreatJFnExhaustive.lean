/- Exhaustive clauses: the law FnExhaustive returns true for all arguments and leaves them as they were. Conditions: none beyond the given statement's own. -/
import Derived.Test.YtnackipaoepmfaaGreatJClm
import Derived.Test.YtnackipaoepmfaaGreatJP1
import Derived.Test.YtnackipaoepmfaaGreatJCl1
set_option linter.unusedSimpArgs false
set_option linter.unusedVariables false
namespace Go.Proofs.YtnackipaoepmfaaGreat
open Go Go.ChangeShapes Go.WideShapes Go.ChangeAt Go.RowKit
theorem exhaustive_own : ownKnob Tryz.prog.godebug = none := by kernel_rfl
theorem exhaustive_law (l1 l2 : List Int) (h1 : ∀ z ∈ l1, 0 ≤ z ∧ z ≤ 255) (_ : ∀ z ∈ l2, 0 ≤ z ∧ z ≤ 255) : CallsD Tryz.prog 4 [.slice 1 (List.map (rK .u8) l1), .slice 1 (List.map (rK .u8) l2)] (fun d => d = eB true) :=
  c_laws_FnExhaustive NN l1 l2 true (law_exhaustive l1 l2 h1)
set_option maxRecDepth 100000 in
theorem exhaustive_lifted (os : Os) (started : os.Started) (H : Type) (enc : TypeId × Value → H) :
    ReturnsInHanded {} Tryz.checked os 4 .any (Rows.fnExhaustiveSpec.pre6 enc Tryz.prog Tryz.f4 Rows.fnExhaustiveRow.domain false) (Rows.fnExhaustiveSpec.post enc Tryz.prog Tryz.f4 false true false false) := by
  refine returnsInHanded_of_change (C := Tryz.checked) exhaustive_own started (by kernel_rfl) Tryz.func4
    (ChangeSpec.witness6 (enc := enc) (C := Tryz.checked) false ⟨#[], #[.slice none 0 0, .slice none 0 0], []⟩ 8 (by kernel_rfl) (by kernel_rfl) (by kernel_rfl) (by kernel_rfl)) ?_
  intro W base args ds gs before hval hW _ _
  exact law2 (t := 22) (e := 5) (tb := 4) (fun _ _ _ => rfl) rfl rfl rfl (by kernel_rfl) (by kernel_rfl) (by kernel_rfl) (by kernel_rfl) exhaustive_law hval hW
set_option maxRecDepth 100000 in
set_option maxHeartbeats 0 in
theorem exhaustive_facts : joinedFacts Tryz.checked.prog 4 Tryz.f4 Rows.fnExhaustiveSpec Rows.fnExhaustiveRow = true := by
  unfold joinedFacts
  simp only [Bool.and_eq_true]
  iterate 31 refine ⟨?_, by as_aux_lemma => kernel_rfl⟩
  as_aux_lemma => kernel_rfl
set_option maxRecDepth 100000 in
theorem exhaustive_called : (Tryz.checked.prog).funcNamed Rows.fnExhaustiveRow.func = some 4 := by kernel_rfl
theorem exhaustive_plain : (Tryz.f4).isInstance Tryz.checked.prog Rows.fnExhaustiveRow.origin Rows.fnExhaustiveRow.targs := of_decide_eq_true (by kernel_rfl)
theorem exhaustive_wrap : (Tryz.f4).isWrapper Tryz.checked.prog Rows.fnExhaustiveRow.wrapper Rows.fnExhaustiveRow.mainSum := by
  unfold Func.isWrapper
  first | (rw [if_pos (by decide +kernel)]; kernel_rfl) | (rw [if_neg (by decide +kernel)]; exact ⟨rfl, rfl⟩)
theorem exhaustive_proved : Rows.FnExhaustiveSaid :=
  OpenClaim.holds_of_wide 4 Tryz.f4 rfl rfl rfl rfl rfl rfl rfl ⟨rfl, rfl, rfl, rfl, rfl⟩ rfl rfl rfl rfl rfl exhaustive_called Tryz.func4 exhaustive_facts
    exhaustive_plain exhaustive_wrap
    (fun os started H enc _ => exhaustive_lifted os started H enc)
end Go.Proofs.YtnackipaoepmfaaGreat
