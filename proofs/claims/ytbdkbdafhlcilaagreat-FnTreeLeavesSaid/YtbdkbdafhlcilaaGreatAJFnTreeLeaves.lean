/- Leaves of trees: the law FnTreeLeaves returns true for all arguments and leaves them as they were. Conditions: none beyond the given statement's own. -/
import Derived.Test.YtbdkbdafhlcilaaGreatAJClm
import Derived.Test.YtbdkbdafhlcilaaGreatRows
import Derived.Test.YtbdkbdafhlcilaaGreatAJDat
import Derived.Test.YtbdkbdafhlcilaaGreatAJE1
import Derived.Test.YtbdkbdafhlcilaaGreatAJE0
import Derived.Test.YtbdkbdafhlcilaaGreatAJPa0
import Derived.Test.YtbdkbdafhlcilaaGreatAJP1
import Derived.Test.YtbdkbdafhlcilaaGreatAJP0
import Derived.Test.YtbdkbdafhlcilaaGreatAJMir
import Derived.Test.YtbdkbdafhlcilaaGreatAJMa0
import Derived.Test.YtbdkbdafhlcilaaGreatAJCa0
import Derived.Test.YtbdkbdafhlcilaaGreatAJAuto
import Derived.Test.YtbdkbdafhlcilaaGreatAJAuI
import Derived.Test.YtbdkbdafhlcilaaGreatAJAut
import Derived.Test.YtbdkbdafhlcilaaGreatAJZap
import Derived.Test.YtbdkbdafhlcilaaGreatAJZip
import Derived.Test.YtbdkbdafhlcilaaGreatAJTys
import Derived.Test.YtbdkbdafhlcilaaGreatProg
import Derived.Test.YtbdkbdafhlcilaaGreatAJC0d0
import Derived.Test.YtbdkbdafhlcilaaGreatAJC0b0
import Derived.Test.YtbdkbdafhlcilaaGreatAJC6d0
import Derived.Test.YtbdkbdafhlcilaaGreatAJC5d0
import Derived.Test.YtbdkbdafhlcilaaGreatAJC4b0
import Derived.Test.YtbdkbdafhlcilaaGreatAJC2b0
import Derived.Test.YtbdkbdafhlcilaaGreatAJC0a0
import Derived.Test.YtbdkbdafhlcilaaGreatAJC1a0
import Derived.Test.YtbdkbdafhlcilaaGreatAJC0c0
import Derived.Test.YtbdkbdafhlcilaaGreatAJC3c0
import Derived.Test.YtbdkbdafhlcilaaGreatAJC1c0
import Derived.Test.YtbdkbdafhlcilaaGreatAJC2c0
import Derived.Test.YtbdkbdafhlcilaaGreatAJC1b0
import Derived.Test.YtbdkbdafhlcilaaGreatAJC6c0
import Derived.Test.YtbdkbdafhlcilaaGreatAJC2d0
import Derived.Test.YtbdkbdafhlcilaaGreatAJC4c0
import Derived.Test.YtbdkbdafhlcilaaGreatAJC3a0
import Derived.Test.YtbdkbdafhlcilaaGreatAJC1d0
import Derived.Test.YtbdkbdafhlcilaaGreatAJC4d0
import Derived.Test.YtbdkbdafhlcilaaGreatAJC3b0
import Derived.Test.YtbdkbdafhlcilaaGreatAJC2a0
import Derived.Test.YtbdkbdafhlcilaaGreatAJC6a0
import Derived.Test.YtbdkbdafhlcilaaGreatAJC3d0
import Derived.Test.YtbdkbdafhlcilaaGreatAJC5a0
import Derived.Test.YtbdkbdafhlcilaaGreatAJC5c0
import Derived.Test.YtbdkbdafhlcilaaGreatAJC4a0
import Derived.Test.YtbdkbdafhlcilaaGreatAJC6b0
import Derived.Test.YtbdkbdafhlcilaaGreatAJC5b0
set_option linter.unusedSimpArgs false
set_option linter.unusedVariables false
namespace Go.Proofs.YtbdkbdafhlcilaaGreat
open Go Go.ChangeShapes Go.WideShapes Go.ChangeAt Go.RowKit
theorem Z6c : ownKnob Tryz.prog.godebug = none := by kernel_rfl
theorem Z6d (l1 : List Int) (h1 : ∀ z ∈ l1, 0 ≤ z ∧ z ≤ 255) : Z0 Tryz.prog 7 [.slice 1 (List.map (rK .u8) l1)] (fun d => d = eB true) :=
 Z2h NN l1 true (Z79 l1 h1)
set_option maxRecDepth 100000 in
theorem Z2m (os : Os) (started : os.Started) (H : Type) (enc : TypeId × Value → H) :
  ReturnsInHanded {} Tryz.checked os 7 .any (Rows.fnTreeLeavesSpec.pre6 enc Tryz.prog Tryz.f7 Rows.fnTreeLeavesRow.domain false) (Rows.fnTreeLeavesSpec.post enc Tryz.prog Tryz.f7 false true false false) := by
 refine returnsInHanded_of_change (C := Tryz.checked) Z6c started (by kernel_rfl) Tryz.func7
  (ChangeSpec.witness6 (enc := enc) (C := Tryz.checked) false ⟨#[], #[.slice none 0 0], []⟩ 8 (by kernel_rfl) (by kernel_rfl) (by kernel_rfl) (by kernel_rfl)) ?_
 intro W base args ds gs before hval hW _ _
 exact law1 (t := 22) (e := 5) (tb := 4) (fun _ _ => rfl) rfl rfl rfl (by kernel_rfl) (by kernel_rfl) (by kernel_rfl) (by kernel_rfl) Z6d hval hW
set_option maxRecDepth 100000 in
set_option maxHeartbeats 0 in
theorem Z46 : joinedFacts Tryz.checked.prog 7 Tryz.f7 Rows.fnTreeLeavesSpec Rows.fnTreeLeavesRow = true := by
 unfold joinedFacts
 simp only [Bool.and_eq_true]
 iterate 31 refine ⟨?_, by as_aux_lemma => kernel_rfl⟩
 as_aux_lemma => kernel_rfl
set_option maxRecDepth 100000 in
theorem Z2n : (Tryz.checked.prog).funcNamed Rows.fnTreeLeavesRow.func = some 7 := by kernel_rfl
theorem Z45 : (Tryz.f7).isInstance Tryz.checked.prog Rows.fnTreeLeavesRow.origin Rows.fnTreeLeavesRow.targs := of_decide_eq_true (by kernel_rfl)
theorem Z5m : (Tryz.f7).isWrapper Tryz.checked.prog Rows.fnTreeLeavesRow.wrapper Rows.fnTreeLeavesRow.mainSum := by
 unfold Func.isWrapper
 first | (rw [if_pos (by decide +kernel)]; kernel_rfl) | (rw [if_neg (by decide +kernel)]; exact ⟨rfl, rfl⟩)
theorem tree_leaves_proved : Rows.FnTreeLeavesSaid :=
 OpenClaim.holds_of_wide 7 Tryz.f7 rfl rfl rfl rfl rfl rfl rfl ⟨rfl, rfl, rfl, rfl, rfl⟩ rfl rfl rfl rfl rfl Z2n Tryz.func7 Z46
  Z45 Z5m
  (fun os started H enc _ => Z2m os started H enc)
end Go.Proofs.YtbdkbdafhlcilaaGreat
