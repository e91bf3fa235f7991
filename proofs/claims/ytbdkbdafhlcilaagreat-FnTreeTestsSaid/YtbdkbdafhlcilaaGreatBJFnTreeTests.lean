/- Tests of trees: the law FnTreeTests returns true for all arguments and leaves them as they were. Conditions: none beyond the given statement's own. -/
import Derived.Test.YtbdkbdafhlcilaaGreatBJClm
import Derived.Test.YtbdkbdafhlcilaaGreatRows
import Derived.Test.YtbdkbdafhlcilaaGreatBJDat
import Derived.Test.YtbdkbdafhlcilaaGreatBJE1
import Derived.Test.YtbdkbdafhlcilaaGreatBJE0
import Derived.Test.YtbdkbdafhlcilaaGreatBJPb0
import Derived.Test.YtbdkbdafhlcilaaGreatBJP1
import Derived.Test.YtbdkbdafhlcilaaGreatBJP0
import Derived.Test.YtbdkbdafhlcilaaGreatBJMir
import Derived.Test.YtbdkbdafhlcilaaGreatBJMb0
import Derived.Test.YtbdkbdafhlcilaaGreatBJZb0
import Derived.Test.YtbdkbdafhlcilaaGreatBJCb0
import Derived.Test.YtbdkbdafhlcilaaGreatBJAuto
import Derived.Test.YtbdkbdafhlcilaaGreatBJAuI
import Derived.Test.YtbdkbdafhlcilaaGreatBJAut
import Derived.Test.YtbdkbdafhlcilaaGreatBJZap
import Derived.Test.YtbdkbdafhlcilaaGreatBJZip
import Derived.Test.YtbdkbdafhlcilaaGreatBJTys
import Derived.Test.YtbdkbdafhlcilaaGreatProg
import Derived.Test.YtbdkbdafhlcilaaGreatBJC6c0
import Derived.Test.YtbdkbdafhlcilaaGreatBJC1a0
import Derived.Test.YtbdkbdafhlcilaaGreatBJC0d0
import Derived.Test.YtbdkbdafhlcilaaGreatBJC5d0
import Derived.Test.YtbdkbdafhlcilaaGreatBJC4b0
import Derived.Test.YtbdkbdafhlcilaaGreatBJC2a0
import Derived.Test.YtbdkbdafhlcilaaGreatBJC0a0
import Derived.Test.YtbdkbdafhlcilaaGreatBJC1c0
import Derived.Test.YtbdkbdafhlcilaaGreatBJC0b0
import Derived.Test.YtbdkbdafhlcilaaGreatBJC0c0
import Derived.Test.YtbdkbdafhlcilaaGreatBJC1b0
import Derived.Test.YtbdkbdafhlcilaaGreatBJC3a0
import Derived.Test.YtbdkbdafhlcilaaGreatBJC1d0
import Derived.Test.YtbdkbdafhlcilaaGreatBJC2b0
import Derived.Test.YtbdkbdafhlcilaaGreatBJC4c0
import Derived.Test.YtbdkbdafhlcilaaGreatBJC3c0
import Derived.Test.YtbdkbdafhlcilaaGreatBJC2c0
import Derived.Test.YtbdkbdafhlcilaaGreatBJC3b0
import Derived.Test.YtbdkbdafhlcilaaGreatBJC4a0
import Derived.Test.YtbdkbdafhlcilaaGreatBJC2d0
import Derived.Test.YtbdkbdafhlcilaaGreatBJC3d0
import Derived.Test.YtbdkbdafhlcilaaGreatBJC6a0
import Derived.Test.YtbdkbdafhlcilaaGreatBJC5a0
import Derived.Test.YtbdkbdafhlcilaaGreatBJC5c0
import Derived.Test.YtbdkbdafhlcilaaGreatBJC4d0
import Derived.Test.YtbdkbdafhlcilaaGreatBJC6b0
import Derived.Test.YtbdkbdafhlcilaaGreatBJC5b0
set_option linter.unusedSimpArgs false
set_option linter.unusedVariables false
namespace Go.Proofs.YtbdkbdafhlcilaaGreat
open Go Go.ChangeShapes Go.WideShapes Go.ChangeAt Go.RowKit
theorem Z81 : ownKnob Tryz.prog.godebug = none := by kernel_rfl
theorem Z82 (l1 l2 : List Int) (h1 : ∀ z ∈ l1, 0 ≤ z ∧ z ≤ 255) (h2 : ∀ z ∈ l2, 0 ≤ z ∧ z ≤ 255) : Z1 Tryz.prog 6 [.slice 1 (List.map (rK .u8) l1), .slice 1 (List.map (rK .u8) l2)] (fun d => d = eB true) :=
 Z3f NN l1 l2 true (Z85 l1 l2 h1 h2)
set_option maxRecDepth 100000 in
theorem Z3p (os : Os) (started : os.Started) (H : Type) (enc : TypeId × Value → H) :
  ReturnsInHanded {} Tryz.checked os 6 .any (Rows.fnTreeTestsSpec.pre6 enc Tryz.prog Tryz.f6 Rows.fnTreeTestsRow.domain false) (Rows.fnTreeTestsSpec.post enc Tryz.prog Tryz.f6 false true false false) := by
 refine returnsInHanded_of_change (C := Tryz.checked) Z81 started (by kernel_rfl) Tryz.func6
  (ChangeSpec.witness6 (enc := enc) (C := Tryz.checked) false ⟨#[], #[.slice none 0 0, .slice none 0 0], []⟩ 8 (by kernel_rfl) (by kernel_rfl) (by kernel_rfl) (by kernel_rfl)) ?_
 intro W base args ds gs before hval hW _ _
 exact law2 (t := 22) (e := 5) (tb := 4) (fun _ _ _ => rfl) rfl rfl rfl (by kernel_rfl) (by kernel_rfl) (by kernel_rfl) (by kernel_rfl) Z82 hval hW
set_option maxRecDepth 100000 in
set_option maxHeartbeats 0 in
theorem Z57 : joinedFacts Tryz.checked.prog 6 Tryz.f6 Rows.fnTreeTestsSpec Rows.fnTreeTestsRow = true := by
 unfold joinedFacts
 simp only [Bool.and_eq_true]
 iterate 31 refine ⟨?_, by as_aux_lemma => kernel_rfl⟩
 as_aux_lemma => kernel_rfl
set_option maxRecDepth 100000 in
theorem Z3q : (Tryz.checked.prog).funcNamed Rows.fnTreeTestsRow.func = some 6 := by kernel_rfl
theorem Z56 : (Tryz.f6).isInstance Tryz.checked.prog Rows.fnTreeTestsRow.origin Rows.fnTreeTestsRow.targs := of_decide_eq_true (by kernel_rfl)
theorem Z5t : (Tryz.f6).isWrapper Tryz.checked.prog Rows.fnTreeTestsRow.wrapper Rows.fnTreeTestsRow.mainSum := by
 unfold Func.isWrapper
 first | (rw [if_pos (by decide +kernel)]; kernel_rfl) | (rw [if_neg (by decide +kernel)]; exact ⟨rfl, rfl⟩)
theorem tree_tests_proved : Rows.FnTreeTestsSaid :=
 OpenClaim.holds_of_wide 6 Tryz.f6 rfl rfl rfl rfl rfl rfl rfl ⟨rfl, rfl, rfl, rfl, rfl⟩ rfl rfl rfl rfl rfl Z3q Tryz.func6 Z57
  Z56 Z5t
  (fun os started H enc _ => Z3p os started H enc)
end Go.Proofs.YtbdkbdafhlcilaaGreat
