/- Redundant clauses are dropped: the law FnDropRedundant returns true for all arguments and leaves them as they were. Conditions: none beyond the given statement's own. -/
import Derived.Test.YtnackipaoepmfaaGreatJClm
import Derived.Test.YtnackipaoepmfaaGreatJP1
import Derived.Test.YtnackipaoepmfaaGreatJC6a0
set_option linter.unusedSimpArgs false
set_option linter.unusedVariables false
namespace Go.Proofs.YtnackipaoepmfaaGreat
open Go Go.ChangeShapes Go.WideShapes Go.ChangeAt Go.RowKit
theorem Z33 : ownKnob Tryz.prog.godebug = none := by kernel_rfl
theorem Z34 (l1 l2 : List Int) (h1 : ∀ z ∈ l1, 0 ≤ z ∧ z ≤ 255) (_ : ∀ z ∈ l2, 0 ≤ z ∧ z ≤ 255) : Q9 Tryz.prog 12 [.slice 1 (List.map (rK .u8) l1), .slice 1 (List.map (rK .u8) l2)] (fun d => d = eB true) :=
 Q9n NN l1 l2 true (Z2o l1 l2 h1)
set_option maxRecDepth 100000 in
theorem Z0l (os : Os) (started : os.Started) (H : Type) (enc : TypeId × Value → H) :
  ReturnsInHanded {} Tryz.checked os 12 .any (Rows.fnDropRedundantSpec.pre6 enc Tryz.prog Tryz.f12 Rows.fnDropRedundantRow.domain false) (Rows.fnDropRedundantSpec.post enc Tryz.prog Tryz.f12 false true false false) := by
 refine returnsInHanded_of_change (C := Tryz.checked) Z33 started (by kernel_rfl) Tryz.func12
  (ChangeSpec.witness6 (enc := enc) (C := Tryz.checked) false ⟨#[], #[.slice none 0 0, .slice none 0 0], []⟩ 8 (by kernel_rfl) (by kernel_rfl) (by kernel_rfl) (by kernel_rfl)) ?_
 intro W base args ds gs before hval hW _ _
 exact law2 (t := 22) (e := 5) (tb := 4) (fun _ _ _ => rfl) rfl rfl rfl (by kernel_rfl) (by kernel_rfl) (by kernel_rfl) (by kernel_rfl) Z34 hval hW
set_option maxRecDepth 100000 in
set_option maxHeartbeats 0 in
theorem Z18 : joinedFacts Tryz.checked.prog 12 Tryz.f12 Rows.fnDropRedundantSpec Rows.fnDropRedundantRow = true := by
 unfold joinedFacts
 simp only [Bool.and_eq_true]
 iterate 31 refine ⟨?_, by as_aux_lemma => kernel_rfl⟩
 as_aux_lemma => kernel_rfl
set_option maxRecDepth 100000 in
theorem Z0m : (Tryz.checked.prog).funcNamed Rows.fnDropRedundantRow.func = some 12 := by kernel_rfl
theorem Z17 : (Tryz.f12).isInstance Tryz.checked.prog Rows.fnDropRedundantRow.origin Rows.fnDropRedundantRow.targs := of_decide_eq_true (by kernel_rfl)
theorem Z1w : (Tryz.f12).isWrapper Tryz.checked.prog Rows.fnDropRedundantRow.wrapper Rows.fnDropRedundantRow.mainSum := by
 unfold Func.isWrapper
 first | (rw [if_pos (by decide +kernel)]; kernel_rfl) | (rw [if_neg (by decide +kernel)]; exact ⟨rfl, rfl⟩)
theorem drop_redundant_proved : Rows.FnDropRedundantSaid :=
 OpenClaim.holds_of_wide 12 Tryz.f12 rfl rfl rfl rfl rfl rfl rfl ⟨rfl, rfl, rfl, rfl, rfl⟩ rfl rfl rfl rfl rfl Z0m Tryz.func12 Z18
  Z17 Z1w
  (fun os started H enc _ => Z0l os started H enc)
end Go.Proofs.YtnackipaoepmfaaGreat
