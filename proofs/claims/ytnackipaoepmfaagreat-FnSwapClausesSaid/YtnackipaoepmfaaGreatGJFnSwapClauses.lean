/- Disjoint clauses can be exchanged: the law FnSwapClauses returns true for all arguments and leaves them as they were. Conditions: none beyond the given statement's own. -/
import Derived.Test.YtnackipaoepmfaaGreatGJClm
import Derived.Test.YtnackipaoepmfaaGreatGJP1
import Derived.Test.YtnackipaoepmfaaGreatGJC6a0
set_option linter.unusedSimpArgs false
set_option linter.unusedVariables false
namespace Go.Proofs.YtnackipaoepmfaaGreat
open Go Go.ChangeShapes Go.WideShapes Go.ChangeAt Go.RowKit
theorem Z4a : ownKnob Tryz.prog.godebug = none := by kernel_rfl
theorem Z4b (l1 l2 : List Int) (h1 : ∀ z ∈ l1, 0 ≤ z ∧ z ≤ 255) (_ : ∀ z ∈ l2, 0 ≤ z ∧ z ≤ 255) : Q9 Tryz.prog 9 [.slice 1 (List.map (rK .u8) l1), .slice 1 (List.map (rK .u8) l2)] (fun d => d = eB true) :=
 Z0v NN l1 l2 true (W5h l1 l2 h1)
set_option maxRecDepth 100000 in
theorem Z16 (os : Os) (started : os.Started) (H : Type) (enc : TypeId × Value → H) :
  ReturnsInHanded {} Tryz.checked os 9 .any (Rows.fnSwapClausesSpec.pre6 enc Tryz.prog Tryz.f9 Rows.fnSwapClausesRow.domain false) (Rows.fnSwapClausesSpec.post enc Tryz.prog Tryz.f9 false true false false) := by
 refine returnsInHanded_of_change (C := Tryz.checked) Z4a started (by kernel_rfl) Tryz.func9
  (ChangeSpec.witness6 (enc := enc) (C := Tryz.checked) false ⟨#[], #[.slice none 0 0, .slice none 0 0], []⟩ 8 (by kernel_rfl) (by kernel_rfl) (by kernel_rfl) (by kernel_rfl)) ?_
 intro W base args ds gs before hval hW _ _
 exact law2 (t := 22) (e := 5) (tb := 4) (fun _ _ _ => rfl) rfl rfl rfl (by kernel_rfl) (by kernel_rfl) (by kernel_rfl) (by kernel_rfl) Z4b hval hW
set_option maxRecDepth 100000 in
set_option maxHeartbeats 0 in
theorem Z1r : joinedFacts Tryz.checked.prog 9 Tryz.f9 Rows.fnSwapClausesSpec Rows.fnSwapClausesRow = true := by
 unfold joinedFacts
 simp only [Bool.and_eq_true]
 iterate 31 refine ⟨?_, by as_aux_lemma => kernel_rfl⟩
 as_aux_lemma => kernel_rfl
set_option maxRecDepth 100000 in
theorem Z17 : (Tryz.checked.prog).funcNamed Rows.fnSwapClausesRow.func = some 9 := by kernel_rfl
theorem Z1q : (Tryz.f9).isInstance Tryz.checked.prog Rows.fnSwapClausesRow.origin Rows.fnSwapClausesRow.targs := of_decide_eq_true (by kernel_rfl)
theorem Z31 : (Tryz.f9).isWrapper Tryz.checked.prog Rows.fnSwapClausesRow.wrapper Rows.fnSwapClausesRow.mainSum := by
 unfold Func.isWrapper
 first | (rw [if_pos (by decide +kernel)]; kernel_rfl) | (rw [if_neg (by decide +kernel)]; exact ⟨rfl, rfl⟩)
theorem swap_clauses_proved : Rows.FnSwapClausesSaid :=
 OpenClaim.holds_of_wide 9 Tryz.f9 rfl rfl rfl rfl rfl rfl rfl ⟨rfl, rfl, rfl, rfl, rfl⟩ rfl rfl rfl rfl rfl Z17 Tryz.func9 Z1r
  Z1q Z31
  (fun os started H enc _ => Z16 os started H enc)
end Go.Proofs.YtnackipaoepmfaaGreat
