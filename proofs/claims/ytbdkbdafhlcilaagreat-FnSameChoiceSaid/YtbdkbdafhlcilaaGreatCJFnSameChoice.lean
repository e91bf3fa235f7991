/- Choices are compared: the law FnSameChoice returns true for all arguments and leaves them as they were. Conditions: none beyond the given statement's own. -/
import Derived.Test.YtbdkbdafhlcilaaGreatCJClm
import Derived.Test.YtbdkbdafhlcilaaGreatRows
import Derived.Test.YtbdkbdafhlcilaaGreatCJDat
import Derived.Test.YtbdkbdafhlcilaaGreatCJE1
import Derived.Test.YtbdkbdafhlcilaaGreatCJE0
import Derived.Test.YtbdkbdafhlcilaaGreatCJPb0
import Derived.Test.YtbdkbdafhlcilaaGreatCJP1
import Derived.Test.YtbdkbdafhlcilaaGreatCJP0
import Derived.Test.YtbdkbdafhlcilaaGreatCJMir
import Derived.Test.YtbdkbdafhlcilaaGreatCJMb0
import Derived.Test.YtbdkbdafhlcilaaGreatCJZ0
import Derived.Test.YtbdkbdafhlcilaaGreatCJCb0
import Derived.Test.YtbdkbdafhlcilaaGreatCJAuto
import Derived.Test.YtbdkbdafhlcilaaGreatCJAuI
import Derived.Test.YtbdkbdafhlcilaaGreatCJAut
import Derived.Test.YtbdkbdafhlcilaaGreatCJZap
import Derived.Test.YtbdkbdafhlcilaaGreatCJZip
import Derived.Test.YtbdkbdafhlcilaaGreatCJTys
import Derived.Test.YtbdkbdafhlcilaaGreatProg
import Derived.Test.YtbdkbdafhlcilaaGreatCJC1d0
import Derived.Test.YtbdkbdafhlcilaaGreatCJC0c0
import Derived.Test.YtbdkbdafhlcilaaGreatCJC0a0
import Derived.Test.YtbdkbdafhlcilaaGreatCJC6b0
import Derived.Test.YtbdkbdafhlcilaaGreatCJC1c0
import Derived.Test.YtbdkbdafhlcilaaGreatCJC2d0
import Derived.Test.YtbdkbdafhlcilaaGreatCJC1b0
import Derived.Test.YtbdkbdafhlcilaaGreatCJC0b0
import Derived.Test.YtbdkbdafhlcilaaGreatCJC5b0
import Derived.Test.YtbdkbdafhlcilaaGreatCJC3d0
import Derived.Test.YtbdkbdafhlcilaaGreatCJC4d0
import Derived.Test.YtbdkbdafhlcilaaGreatCJC3c0
import Derived.Test.YtbdkbdafhlcilaaGreatCJC3a0
import Derived.Test.YtbdkbdafhlcilaaGreatCJC2b0
import Derived.Test.YtbdkbdafhlcilaaGreatCJC3b0
import Derived.Test.YtbdkbdafhlcilaaGreatCJC5a0
import Derived.Test.YtbdkbdafhlcilaaGreatCJC1a0
import Derived.Test.YtbdkbdafhlcilaaGreatCJC2a0
import Derived.Test.YtbdkbdafhlcilaaGreatCJC0d0
import Derived.Test.YtbdkbdafhlcilaaGreatCJC4c0
import Derived.Test.YtbdkbdafhlcilaaGreatCJC6a0
import Derived.Test.YtbdkbdafhlcilaaGreatCJC5c0
import Derived.Test.YtbdkbdafhlcilaaGreatCJC4a0
import Derived.Test.YtbdkbdafhlcilaaGreatCJC2c0
import Derived.Test.YtbdkbdafhlcilaaGreatCJC5d0
import Derived.Test.YtbdkbdafhlcilaaGreatCJC4b0
import Derived.Test.YtbdkbdafhlcilaaGreatCJC6c0
set_option linter.unusedSimpArgs false
set_option linter.unusedVariables false
namespace Go.Proofs.YtbdkbdafhlcilaaGreat
open Go Go.ChangeShapes Go.WideShapes Go.ChangeAt Go.RowKit
theorem Z6g : ownKnob Tryz.prog.godebug = none := by kernel_rfl
theorem Z6h (l1 l2 : List Int) (h1 : ∀ z ∈ l1, 0 ≤ z ∧ z ≤ 255) (_ : ∀ z ∈ l2, 0 ≤ z ∧ z ≤ 255) : Q7 Tryz.prog 8 [.slice 1 (List.map (rK .u8) l1), .slice 1 (List.map (rK .u8) l2)] (fun d => d = eB true) :=
 Z2k NN l1 l2 true (W71 l1 l2 h1)
set_option maxRecDepth 100000 in
theorem Z31 (os : Os) (started : os.Started) (H : Type) (enc : TypeId × Value → H) :
  ReturnsInHanded {} Tryz.checked os 8 .any (Rows.fnSameChoiceSpec.pre6 enc Tryz.prog Tryz.f8 Rows.fnSameChoiceRow.domain false) (Rows.fnSameChoiceSpec.post enc Tryz.prog Tryz.f8 false true false false) := by
 refine returnsInHanded_of_change (C := Tryz.checked) Z6g started (by kernel_rfl) Tryz.func8
  (ChangeSpec.witness6 (enc := enc) (C := Tryz.checked) false ⟨#[], #[.slice none 0 0, .slice none 0 0], []⟩ 8 (by kernel_rfl) (by kernel_rfl) (by kernel_rfl) (by kernel_rfl)) ?_
 intro W base args ds gs before hval hW _ _
 exact law2 (t := 22) (e := 5) (tb := 4) (fun _ _ _ => rfl) rfl rfl rfl (by kernel_rfl) (by kernel_rfl) (by kernel_rfl) (by kernel_rfl) Z6h hval hW
set_option maxRecDepth 100000 in
set_option maxHeartbeats 0 in
theorem Z44 : joinedFacts Tryz.checked.prog 8 Tryz.f8 Rows.fnSameChoiceSpec Rows.fnSameChoiceRow = true := by
 unfold joinedFacts
 simp only [Bool.and_eq_true]
 iterate 31 refine ⟨?_, by as_aux_lemma => kernel_rfl⟩
 as_aux_lemma => kernel_rfl
set_option maxRecDepth 100000 in
theorem Z32 : (Tryz.checked.prog).funcNamed Rows.fnSameChoiceRow.func = some 8 := by kernel_rfl
theorem Z43 : (Tryz.f8).isInstance Tryz.checked.prog Rows.fnSameChoiceRow.origin Rows.fnSameChoiceRow.targs := of_decide_eq_true (by kernel_rfl)
theorem Z5e : (Tryz.f8).isWrapper Tryz.checked.prog Rows.fnSameChoiceRow.wrapper Rows.fnSameChoiceRow.mainSum := by
 unfold Func.isWrapper
 first | (rw [if_pos (by decide +kernel)]; kernel_rfl) | (rw [if_neg (by decide +kernel)]; exact ⟨rfl, rfl⟩)
theorem same_choice_proved : Rows.FnSameChoiceSaid :=
 OpenClaim.holds_of_wide 8 Tryz.f8 rfl rfl rfl rfl rfl rfl rfl ⟨rfl, rfl, rfl, rfl, rfl⟩ rfl rfl rfl rfl rfl Z32 Tryz.func8 Z44
  Z43 Z5e
  (fun os started H enc _ => Z31 os started H enc)
end Go.Proofs.YtbdkbdafhlcilaaGreat
