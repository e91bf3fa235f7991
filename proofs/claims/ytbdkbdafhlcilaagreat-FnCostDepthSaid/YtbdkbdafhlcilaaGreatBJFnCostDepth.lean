/- Costs and depth: the law FnCostDepth returns true for all arguments and leaves them as they were. Conditions: none beyond the given statement's own. -/
import Derived.Test.YtbdkbdafhlcilaaGreatBJClm
import Derived.Test.YtbdkbdafhlcilaaGreatRows
import Derived.Test.YtbdkbdafhlcilaaGreatBJDat
import Derived.Test.YtbdkbdafhlcilaaGreatBJE1
import Derived.Test.YtbdkbdafhlcilaaGreatBJE0
import Derived.Test.YtbdkbdafhlcilaaGreatBJPa0
import Derived.Test.YtbdkbdafhlcilaaGreatBJP1
import Derived.Test.YtbdkbdafhlcilaaGreatBJP0
import Derived.Test.YtbdkbdafhlcilaaGreatBJMir
import Derived.Test.YtbdkbdafhlcilaaGreatBJMa0
import Derived.Test.YtbdkbdafhlcilaaGreatBJCa0
import Derived.Test.YtbdkbdafhlcilaaGreatBJAuto
import Derived.Test.YtbdkbdafhlcilaaGreatBJAuI
import Derived.Test.YtbdkbdafhlcilaaGreatBJAut
import Derived.Test.YtbdkbdafhlcilaaGreatBJZap
import Derived.Test.YtbdkbdafhlcilaaGreatBJZip
import Derived.Test.YtbdkbdafhlcilaaGreatBJTys
import Derived.Test.YtbdkbdafhlcilaaGreatProg
import Derived.Test.YtbdkbdafhlcilaaGreatBJC6c0
import Derived.Test.YtbdkbdafhlcilaaGreatBJC1a0
import Derived.Test.YtbdkbdafhlcilaaGreatBJC0d0
import Derived.Test.YtbdkbdafhlcilaaGreatBJC5d0
import Derived.Test.YtbdkbdafhlcilaaGreatBJC4b0
import Derived.Test.YtbdkbdafhlcilaaGreatBJC2a0
import Derived.Test.YtbdkbdafhlcilaaGreatBJC0a0
import Derived.Test.YtbdkbdafhlcilaaGreatBJC1c0
import Derived.Test.YtbdkbdafhlcilaaGreatBJC0b0
import Derived.Test.YtbdkbdafhlcilaaGreatBJC0c0
import Derived.Test.YtbdkbdafhlcilaaGreatBJC1b0
import Derived.Test.YtbdkbdafhlcilaaGreatBJC3a0
import Derived.Test.YtbdkbdafhlcilaaGreatBJC1d0
import Derived.Test.YtbdkbdafhlcilaaGreatBJC2b0
import Derived.Test.YtbdkbdafhlcilaaGreatBJC4c0
import Derived.Test.YtbdkbdafhlcilaaGreatBJC3c0
import Derived.Test.YtbdkbdafhlcilaaGreatBJC2c0
import Derived.Test.YtbdkbdafhlcilaaGreatBJC3b0
import Derived.Test.YtbdkbdafhlcilaaGreatBJC4a0
import Derived.Test.YtbdkbdafhlcilaaGreatBJC2d0
import Derived.Test.YtbdkbdafhlcilaaGreatBJC6b0
import Derived.Test.YtbdkbdafhlcilaaGreatBJC5b0
import Derived.Test.YtbdkbdafhlcilaaGreatBJC4d0
import Derived.Test.YtbdkbdafhlcilaaGreatBJC3d0
import Derived.Test.YtbdkbdafhlcilaaGreatBJC5c0
import Derived.Test.YtbdkbdafhlcilaaGreatBJC6a0
import Derived.Test.YtbdkbdafhlcilaaGreatBJC5a0
set_option linter.unusedSimpArgs false
set_option linter.unusedVariables false
namespace Go.Proofs.YtbdkbdafhlcilaaGreat
open Go Go.ChangeShapes Go.WideShapes Go.ChangeAt Go.RowKit
theorem Z8l : ownKnob Tryz.prog.godebug = none := by kernel_rfl
theorem Z8m (l1 : List Int) (h1 : ∀ z ∈ l1, 0 ≤ z ∧ z ≤ 255) : Z1 Tryz.prog 5 [.slice 1 (List.map (rK .u8) l1)] (fun d => d = eB true) :=
 Z3g NN l1 true (Z86 l1 h1)
set_option maxRecDepth 100000 in
theorem Z47 (os : Os) (started : os.Started) (H : Type) (enc : TypeId × Value → H) :
  ReturnsInHanded {} Tryz.checked os 5 .any (Rows.fnCostDepthSpec.pre6 enc Tryz.prog Tryz.f5 Rows.fnCostDepthRow.domain false) (Rows.fnCostDepthSpec.post enc Tryz.prog Tryz.f5 false true false false) := by
 refine returnsInHanded_of_change (C := Tryz.checked) Z8l started (by kernel_rfl) Tryz.func5
  (ChangeSpec.witness6 (enc := enc) (C := Tryz.checked) false ⟨#[], #[.slice none 0 0], []⟩ 8 (by kernel_rfl) (by kernel_rfl) (by kernel_rfl) (by kernel_rfl)) ?_
 intro W base args ds gs before hval hW _ _
 exact law1 (t := 22) (e := 5) (tb := 4) (fun _ _ => rfl) rfl rfl rfl (by kernel_rfl) (by kernel_rfl) (by kernel_rfl) (by kernel_rfl) Z8m hval hW
set_option maxRecDepth 100000 in
set_option maxHeartbeats 0 in
theorem Z5h : joinedFacts Tryz.checked.prog 5 Tryz.f5 Rows.fnCostDepthSpec Rows.fnCostDepthRow = true := by
 unfold joinedFacts
 simp only [Bool.and_eq_true]
 iterate 31 refine ⟨?_, by as_aux_lemma => kernel_rfl⟩
 as_aux_lemma => kernel_rfl
set_option maxRecDepth 100000 in
theorem Z48 : (Tryz.checked.prog).funcNamed Rows.fnCostDepthRow.func = some 5 := by kernel_rfl
theorem Z5g : (Tryz.f5).isInstance Tryz.checked.prog Rows.fnCostDepthRow.origin Rows.fnCostDepthRow.targs := of_decide_eq_true (by kernel_rfl)
theorem Z7k : (Tryz.f5).isWrapper Tryz.checked.prog Rows.fnCostDepthRow.wrapper Rows.fnCostDepthRow.mainSum := by
 unfold Func.isWrapper
 first | (rw [if_pos (by decide +kernel)]; kernel_rfl) | (rw [if_neg (by decide +kernel)]; exact ⟨rfl, rfl⟩)
theorem cost_depth_proved : Rows.FnCostDepthSaid :=
 OpenClaim.holds_of_wide 5 Tryz.f5 rfl rfl rfl rfl rfl rfl rfl ⟨rfl, rfl, rfl, rfl, rfl⟩ rfl rfl rfl rfl rfl Z48 Tryz.func5 Z5h
  Z5g Z7k
  (fun os started H enc _ => Z47 os started H enc)
end Go.Proofs.YtbdkbdafhlcilaaGreat
