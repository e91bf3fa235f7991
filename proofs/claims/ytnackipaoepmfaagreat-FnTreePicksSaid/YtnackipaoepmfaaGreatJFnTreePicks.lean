/- Ways to pick: the law FnTreePicks returns true for all arguments and leaves them as they were. Conditions: none beyond the given statement's own. -/
import Derived.Test.YtnackipaoepmfaaGreatJClm
import Derived.Test.YtnackipaoepmfaaGreatJP1
import Derived.Test.YtnackipaoepmfaaGreatJCl1
set_option linter.unusedSimpArgs false
set_option linter.unusedVariables false
namespace Go.Proofs.YtnackipaoepmfaaGreat
open Go Go.ChangeShapes Go.WideShapes Go.ChangeAt Go.RowKit
theorem Z86 : ownKnob Tryz.prog.godebug = none := by kernel_rfl
theorem Z87 (l1 : List Int) (h1 : ∀ z ∈ l1, 0 ≤ z ∧ z ≤ 255) : Z1 Tryz.prog 7 [.slice 1 (List.map (rK .u8) l1)] (fun d => d = eB true) :=
 Z3j NN l1 true (Z8c l1 h1)
set_option maxRecDepth 100000 in
theorem Z3q (os : Os) (started : os.Started) (H : Type) (enc : TypeId × Value → H) :
  ReturnsInHanded {} Tryz.checked os 7 .any (Rows.fnTreePicksSpec.pre6 enc Tryz.prog Tryz.f7 Rows.fnTreePicksRow.domain false) (Rows.fnTreePicksSpec.post enc Tryz.prog Tryz.f7 false true false false) := by
 refine returnsInHanded_of_change (C := Tryz.checked) Z86 started (by kernel_rfl) Tryz.func7
  (ChangeSpec.witness6 (enc := enc) (C := Tryz.checked) false ⟨#[], #[.slice none 0 0], []⟩ 8 (by kernel_rfl) (by kernel_rfl) (by kernel_rfl) (by kernel_rfl)) ?_
 intro W base args ds gs before hval hW _ _
 exact law1 (t := 22) (e := 5) (tb := 4) (fun _ _ => rfl) rfl rfl rfl (by kernel_rfl) (by kernel_rfl) (by kernel_rfl) (by kernel_rfl) Z87 hval hW
set_option maxRecDepth 100000 in
set_option maxHeartbeats 0 in
theorem Z59 : joinedFacts Tryz.checked.prog 7 Tryz.f7 Rows.fnTreePicksSpec Rows.fnTreePicksRow = true := by
 unfold joinedFacts
 simp only [Bool.and_eq_true]
 iterate 31 refine ⟨?_, by as_aux_lemma => kernel_rfl⟩
 as_aux_lemma => kernel_rfl
set_option maxRecDepth 100000 in
theorem Z3r : (Tryz.checked.prog).funcNamed Rows.fnTreePicksRow.func = some 7 := by kernel_rfl
theorem Z58 : (Tryz.f7).isInstance Tryz.checked.prog Rows.fnTreePicksRow.origin Rows.fnTreePicksRow.targs := of_decide_eq_true (by kernel_rfl)
theorem Z5x : (Tryz.f7).isWrapper Tryz.checked.prog Rows.fnTreePicksRow.wrapper Rows.fnTreePicksRow.mainSum := by
 unfold Func.isWrapper
 first | (rw [if_pos (by decide +kernel)]; kernel_rfl) | (rw [if_neg (by decide +kernel)]; exact ⟨rfl, rfl⟩)
theorem tree_picks_proved : Rows.FnTreePicksSaid :=
 OpenClaim.holds_of_wide 7 Tryz.f7 rfl rfl rfl rfl rfl rfl rfl ⟨rfl, rfl, rfl, rfl, rfl⟩ rfl rfl rfl rfl rfl Z3r Tryz.func7 Z59
  Z58 Z5x
  (fun os started H enc _ => Z3q os started H enc)
end Go.Proofs.YtnackipaoepmfaaGreat
