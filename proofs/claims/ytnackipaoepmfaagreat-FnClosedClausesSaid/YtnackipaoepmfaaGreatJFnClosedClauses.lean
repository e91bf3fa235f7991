/- Closed clauses: the law FnClosedClauses returns true for all arguments and leaves them as they were. Conditions: none beyond the given statement's own. -/
import Derived.Test.YtnackipaoepmfaaGreatJClm
import Derived.Test.YtnackipaoepmfaaGreatJP1
import Derived.Test.YtnackipaoepmfaaGreatJCl1
set_option linter.unusedSimpArgs false
set_option linter.unusedVariables false
namespace Go.Proofs.YtnackipaoepmfaaGreat
open Go Go.ChangeShapes Go.WideShapes Go.ChangeAt Go.RowKit
theorem closed_clauses_own : ownKnob Tryz.prog.godebug = none := by kernel_rfl
theorem closed_clauses_law (l1 l2 : List Int) (h1 : ∀ z ∈ l1, 0 ≤ z ∧ z ≤ 255) (_ : ∀ z ∈ l2, 0 ≤ z ∧ z ≤ 255) : CallsD Tryz.prog 6 [.slice 1 (List.map (rK .u8) l1), .slice 1 (List.map (rK .u8) l2)] (fun d => d = eB true) :=
  c_laws_FnClosedClauses NN l1 l2 true (law_closed l1 l2 h1)
set_option maxRecDepth 100000 in
theorem closed_clauses_lifted (os : Os) (started : os.Started) (H : Type) (enc : TypeId × Value → H) :
    ReturnsInHanded {} Tryz.checked os 6 .any (Rows.fnClosedClausesSpec.pre6 enc Tryz.prog Tryz.f6 Rows.fnClosedClausesRow.domain false) (Rows.fnClosedClausesSpec.post enc Tryz.prog Tryz.f6 false true false false) := by
  refine returnsInHanded_of_change (C := Tryz.checked) closed_clauses_own started (by kernel_rfl) Tryz.func6
    (ChangeSpec.witness6 (enc := enc) (C := Tryz.checked) false ⟨#[], #[.slice none 0 0, .slice none 0 0], []⟩ 8 (by kernel_rfl) (by kernel_rfl) (by kernel_rfl) (by kernel_rfl)) ?_
  intro W base args ds gs before hval hW _ _
  exact law2 (t := 22) (e := 5) (tb := 4) (fun _ _ _ => rfl) rfl rfl rfl (by kernel_rfl) (by kernel_rfl) (by kernel_rfl) (by kernel_rfl) closed_clauses_law hval hW
set_option maxRecDepth 100000 in
set_option maxHeartbeats 0 in
theorem closed_clauses_facts : joinedFacts Tryz.checked.prog 6 Tryz.f6 Rows.fnClosedClausesSpec Rows.fnClosedClausesRow = true := by
  unfold joinedFacts
  simp only [Bool.and_eq_true]
  iterate 31 refine ⟨?_, by as_aux_lemma => kernel_rfl⟩
  as_aux_lemma => kernel_rfl
set_option maxRecDepth 100000 in
theorem closed_clauses_called : (Tryz.checked.prog).funcNamed Rows.fnClosedClausesRow.func = some 6 := by kernel_rfl
theorem closed_clauses_plain : (Tryz.f6).isInstance Tryz.checked.prog Rows.fnClosedClausesRow.origin Rows.fnClosedClausesRow.targs := of_decide_eq_true (by kernel_rfl)
theorem closed_clauses_wrap : (Tryz.f6).isWrapper Tryz.checked.prog Rows.fnClosedClausesRow.wrapper Rows.fnClosedClausesRow.mainSum := by
  unfold Func.isWrapper
  first | (rw [if_pos (by decide +kernel)]; kernel_rfl) | (rw [if_neg (by decide +kernel)]; exact ⟨rfl, rfl⟩)
theorem closed_clauses_proved : Rows.FnClosedClausesSaid :=
  OpenClaim.holds_of_wide 6 Tryz.f6 rfl rfl rfl rfl rfl rfl rfl ⟨rfl, rfl, rfl, rfl, rfl⟩ rfl rfl rfl rfl rfl closed_clauses_called Tryz.func6 closed_clauses_facts
    closed_clauses_plain closed_clauses_wrap
    (fun os started H enc _ => closed_clauses_lifted os started H enc)
end Go.Proofs.YtnackipaoepmfaaGreat
