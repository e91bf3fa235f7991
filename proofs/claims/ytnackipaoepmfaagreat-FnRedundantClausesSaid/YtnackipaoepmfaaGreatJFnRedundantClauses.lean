/- Redundant clauses: the law FnRedundantClauses returns true for all arguments and leaves them as they were. Conditions: none beyond the given statement's own. -/
import Derived.Test.YtnackipaoepmfaaGreatJClm
import Derived.Test.YtnackipaoepmfaaGreatJP1
import Derived.Test.YtnackipaoepmfaaGreatJC6a0
set_option linter.unusedSimpArgs false
set_option linter.unusedVariables false
namespace Go.Proofs.YtnackipaoepmfaaGreat
open Go Go.ChangeShapes Go.WideShapes Go.ChangeAt Go.RowKit
theorem Q9y : ownKnob Tryz.prog.godebug = none := by kernel_rfl
theorem Q9z (l1 l2 : List Int) (h1 : ∀ z ∈ l1, 0 ≤ z ∧ z ≤ 255) (_ : ∀ z ∈ l2, 0 ≤ z ∧ z ≤ 255) : Q9 Tryz.prog 8 [.slice 1 (List.map (rK .u8) l1), .slice 1 (List.map (rK .u8) l2)] (fun d => d = eB true) :=
 Q87 NN l1 l2 true (Z9p l1 l2 h1)
set_option maxRecDepth 100000 in
theorem Q8d (os : Os) (started : os.Started) (H : Type) (enc : TypeId × Value → H) :
  ReturnsInHanded {} Tryz.checked os 8 .any (Rows.fnRedundantClausesSpec.pre6 enc Tryz.prog Tryz.f8 Rows.fnRedundantClausesRow.domain false) (Rows.fnRedundantClausesSpec.post enc Tryz.prog Tryz.f8 false true false false) := by
 refine returnsInHanded_of_change (C := Tryz.checked) Q9y started (by kernel_rfl) Tryz.func8
  (ChangeSpec.witness6 (enc := enc) (C := Tryz.checked) false ⟨#[], #[.slice none 0 0, .slice none 0 0], []⟩ 8 (by kernel_rfl) (by kernel_rfl) (by kernel_rfl) (by kernel_rfl)) ?_
 intro W base args ds gs before hval hW _ _
 exact law2 (t := 22) (e := 5) (tb := 4) (fun _ _ _ => rfl) rfl rfl rfl (by kernel_rfl) (by kernel_rfl) (by kernel_rfl) (by kernel_rfl) Q9z hval hW
set_option maxRecDepth 100000 in
set_option maxHeartbeats 0 in
theorem Q8s : joinedFacts Tryz.checked.prog 8 Tryz.f8 Rows.fnRedundantClausesSpec Rows.fnRedundantClausesRow = true := by
 unfold joinedFacts
 simp only [Bool.and_eq_true]
 iterate 31 refine ⟨?_, by as_aux_lemma => kernel_rfl⟩
 as_aux_lemma => kernel_rfl
set_option maxRecDepth 100000 in
theorem Q8e : (Tryz.checked.prog).funcNamed Rows.fnRedundantClausesRow.func = some 8 := by kernel_rfl
theorem Q8r : (Tryz.f8).isInstance Tryz.checked.prog Rows.fnRedundantClausesRow.origin Rows.fnRedundantClausesRow.targs := of_decide_eq_true (by kernel_rfl)
theorem Q9j : (Tryz.f8).isWrapper Tryz.checked.prog Rows.fnRedundantClausesRow.wrapper Rows.fnRedundantClausesRow.mainSum := by
 unfold Func.isWrapper
 first | (rw [if_pos (by decide +kernel)]; kernel_rfl) | (rw [if_neg (by decide +kernel)]; exact ⟨rfl, rfl⟩)
theorem redundant_clauses_proved : Rows.FnRedundantClausesSaid :=
 OpenClaim.holds_of_wide 8 Tryz.f8 rfl rfl rfl rfl rfl rfl rfl ⟨rfl, rfl, rfl, rfl, rfl⟩ rfl rfl rfl rfl rfl Q8e Tryz.func8 Q8s
  Q8r Q9j
  (fun os started H enc _ => Q8d os started H enc)
end Go.Proofs.YtnackipaoepmfaaGreat
