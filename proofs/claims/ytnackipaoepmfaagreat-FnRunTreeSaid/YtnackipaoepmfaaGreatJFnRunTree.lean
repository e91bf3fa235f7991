/- Runs of trees: the law FnRunTree returns true for all arguments and leaves them as they were. Conditions: none beyond the given statement's own. -/
import Derived.Test.YtnackipaoepmfaaGreatJClm
import Derived.Test.YtnackipaoepmfaaGreatJP1
import Derived.Test.YtnackipaoepmfaaGreatJCl1
set_option linter.unusedSimpArgs false
set_option linter.unusedVariables false
namespace Go.Proofs.YtnackipaoepmfaaGreat
open Go Go.ChangeShapes Go.WideShapes Go.ChangeAt Go.RowKit
theorem X25 : ownKnob Tryz.prog.godebug = none := by kernel_rfl
theorem X26 (l1 : List Int) (h1 : ∀ z ∈ l1, 0 ≤ z ∧ z ≤ 255) : Z1 Tryz.prog 11 [.slice 1 (List.map (rK .u8) l1)] (fun d => d = eB true) :=
 Z5k NN l1 true (X2l l1 h1)
set_option maxRecDepth 100000 in
theorem Z65 (os : Os) (started : os.Started) (H : Type) (enc : TypeId × Value → H) :
  ReturnsInHanded {} Tryz.checked os 11 .any (Rows.fnRunTreeSpec.pre6 enc Tryz.prog Tryz.f11 Rows.fnRunTreeRow.domain false) (Rows.fnRunTreeSpec.post enc Tryz.prog Tryz.f11 false true false false) := by
 refine returnsInHanded_of_change (C := Tryz.checked) X25 started (by kernel_rfl) Tryz.func11
  (ChangeSpec.witness6 (enc := enc) (C := Tryz.checked) false ⟨#[], #[.slice none 0 0], []⟩ 8 (by kernel_rfl) (by kernel_rfl) (by kernel_rfl) (by kernel_rfl)) ?_
 intro W base args ds gs before hval hW _ _
 exact law1 (t := 22) (e := 5) (tb := 4) (fun _ _ => rfl) rfl rfl rfl (by kernel_rfl) (by kernel_rfl) (by kernel_rfl) (by kernel_rfl) X26 hval hW
set_option maxRecDepth 100000 in
set_option maxHeartbeats 0 in
theorem Z8a : joinedFacts Tryz.checked.prog 11 Tryz.f11 Rows.fnRunTreeSpec Rows.fnRunTreeRow = true := by
 unfold joinedFacts
 simp only [Bool.and_eq_true]
 iterate 31 refine ⟨?_, by as_aux_lemma => kernel_rfl⟩
 as_aux_lemma => kernel_rfl
set_option maxRecDepth 100000 in
theorem Z66 : (Tryz.checked.prog).funcNamed Rows.fnRunTreeRow.func = some 11 := by kernel_rfl
theorem Z89 : (Tryz.f11).isInstance Tryz.checked.prog Rows.fnRunTreeRow.origin Rows.fnRunTreeRow.targs := of_decide_eq_true (by kernel_rfl)
theorem Z9x : (Tryz.f11).isWrapper Tryz.checked.prog Rows.fnRunTreeRow.wrapper Rows.fnRunTreeRow.mainSum := by
 unfold Func.isWrapper
 first | (rw [if_pos (by decide +kernel)]; kernel_rfl) | (rw [if_neg (by decide +kernel)]; exact ⟨rfl, rfl⟩)
theorem run_tree_proved : Rows.FnRunTreeSaid :=
 OpenClaim.holds_of_wide 11 Tryz.f11 rfl rfl rfl rfl rfl rfl rfl ⟨rfl, rfl, rfl, rfl, rfl⟩ rfl rfl rfl rfl rfl Z66 Tryz.func11 Z8a
  Z89 Z9x
  (fun os started H enc _ => Z65 os started H enc)
end Go.Proofs.YtnackipaoepmfaaGreat
