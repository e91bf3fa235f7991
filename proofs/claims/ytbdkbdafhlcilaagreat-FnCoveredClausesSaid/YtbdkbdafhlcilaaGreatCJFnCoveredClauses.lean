/- Values cover clauses: the law FnCoveredClauses returns true for all arguments and leaves them as they were. Conditions: none beyond the given statement's own. -/
import Derived.Test.YtbdkbdafhlcilaaGreatCJClm
import Derived.Test.YtbdkbdafhlcilaaGreatRows
import Derived.Test.YtbdkbdafhlcilaaGreatCJDat
import Derived.Test.YtbdkbdafhlcilaaGreatCJE1
import Derived.Test.YtbdkbdafhlcilaaGreatCJE0
import Derived.Test.YtbdkbdafhlcilaaGreatCJPa0
import Derived.Test.YtbdkbdafhlcilaaGreatCJP1
import Derived.Test.YtbdkbdafhlcilaaGreatCJZa0
import Derived.Test.YtbdkbdafhlcilaaGreatCJZ0
import Derived.Test.YtbdkbdafhlcilaaGreatCJP0
import Derived.Test.YtbdkbdafhlcilaaGreatCJMir
import Derived.Test.YtbdkbdafhlcilaaGreatCJMa0
import Derived.Test.YtbdkbdafhlcilaaGreatCJCa0
import Derived.Test.YtbdkbdafhlcilaaGreatCJAuto
import Derived.Test.YtbdkbdafhlcilaaGreatCJAuI
import Derived.Test.YtbdkbdafhlcilaaGreatCJAut
import Derived.Test.YtbdkbdafhlcilaaGreatCJZap
import Derived.Test.YtbdkbdafhlcilaaGreatCJZip
import Derived.Test.YtbdkbdafhlcilaaGreatCJTys
import Derived.Test.YtbdkbdafhlcilaaGreatProg
import Derived.Test.YtbdkbdafhlcilaaGreatCJC0a0
import Derived.Test.YtbdkbdafhlcilaaGreatCJC6b0
import Derived.Test.YtbdkbdafhlcilaaGreatCJC1d0
import Derived.Test.YtbdkbdafhlcilaaGreatCJC0c0
import Derived.Test.YtbdkbdafhlcilaaGreatCJC1c0
import Derived.Test.YtbdkbdafhlcilaaGreatCJC3a0
import Derived.Test.YtbdkbdafhlcilaaGreatCJC1b0
import Derived.Test.YtbdkbdafhlcilaaGreatCJC0b0
import Derived.Test.YtbdkbdafhlcilaaGreatCJC2b0
import Derived.Test.YtbdkbdafhlcilaaGreatCJC3b0
import Derived.Test.YtbdkbdafhlcilaaGreatCJC5a0
import Derived.Test.YtbdkbdafhlcilaaGreatCJC3d0
import Derived.Test.YtbdkbdafhlcilaaGreatCJC1a0
import Derived.Test.YtbdkbdafhlcilaaGreatCJC2a0
import Derived.Test.YtbdkbdafhlcilaaGreatCJC0d0
import Derived.Test.YtbdkbdafhlcilaaGreatCJC4c0
import Derived.Test.YtbdkbdafhlcilaaGreatCJC3c0
import Derived.Test.YtbdkbdafhlcilaaGreatCJC2d0
import Derived.Test.YtbdkbdafhlcilaaGreatCJC5b0
import Derived.Test.YtbdkbdafhlcilaaGreatCJC4d0
import Derived.Test.YtbdkbdafhlcilaaGreatCJC6a0
import Derived.Test.YtbdkbdafhlcilaaGreatCJC5c0
import Derived.Test.YtbdkbdafhlcilaaGreatCJC4a0
import Derived.Test.YtbdkbdafhlcilaaGreatCJC2c0
import Derived.Test.YtbdkbdafhlcilaaGreatCJC5d0
import Derived.Test.YtbdkbdafhlcilaaGreatCJC4b0
import Derived.Test.YtbdkbdafhlcilaaGreatCJC6c0
set_option linter.unusedSimpArgs false
set_option linter.unusedVariables false
namespace Go.Proofs.YtbdkbdafhlcilaaGreat
open Go Go.ChangeShapes Go.WideShapes Go.ChangeAt Go.RowKit
theorem Z2i : ownKnob Tryz.prog.godebug = none := by kernel_rfl
theorem Z2j (l1 : List Int) (h1 : ∀ z ∈ l1, 0 ≤ z ∧ z ≤ 255) : Q7 Tryz.prog 3 [.slice 1 (List.map (rK .u8) l1)] (fun d => d = eB true) :=
 Z06 NN l1 true (X57 l1 h1)
set_option maxRecDepth 100000 in
theorem Z0a (os : Os) (started : os.Started) (H : Type) (enc : TypeId × Value → H) :
  ReturnsInHanded {} Tryz.checked os 3 .any (Rows.fnCoveredClausesSpec.pre6 enc Tryz.prog Tryz.f3 Rows.fnCoveredClausesRow.domain false) (Rows.fnCoveredClausesSpec.post enc Tryz.prog Tryz.f3 false true false false) := by
 refine returnsInHanded_of_change (C := Tryz.checked) Z2i started (by kernel_rfl) Tryz.func3
  (ChangeSpec.witness6 (enc := enc) (C := Tryz.checked) false ⟨#[], #[.slice none 0 0], []⟩ 8 (by kernel_rfl) (by kernel_rfl) (by kernel_rfl) (by kernel_rfl)) ?_
 intro W base args ds gs before hval hW _ _
 exact law1 (t := 22) (e := 5) (tb := 4) (fun _ _ => rfl) rfl rfl rfl (by kernel_rfl) (by kernel_rfl) (by kernel_rfl) (by kernel_rfl) Z2j hval hW
set_option maxRecDepth 100000 in
set_option maxHeartbeats 0 in
theorem Z15 : joinedFacts Tryz.checked.prog 3 Tryz.f3 Rows.fnCoveredClausesSpec Rows.fnCoveredClausesRow = true := by
 unfold joinedFacts
 simp only [Bool.and_eq_true]
 iterate 31 refine ⟨?_, by as_aux_lemma => kernel_rfl⟩
 as_aux_lemma => kernel_rfl
set_option maxRecDepth 100000 in
theorem Z0b : (Tryz.checked.prog).funcNamed Rows.fnCoveredClausesRow.func = some 3 := by kernel_rfl
theorem Z14 : (Tryz.f3).isInstance Tryz.checked.prog Rows.fnCoveredClausesRow.origin Rows.fnCoveredClausesRow.targs := of_decide_eq_true (by kernel_rfl)
theorem Z1u : (Tryz.f3).isWrapper Tryz.checked.prog Rows.fnCoveredClausesRow.wrapper Rows.fnCoveredClausesRow.mainSum := by
 unfold Func.isWrapper
 first | (rw [if_pos (by decide +kernel)]; kernel_rfl) | (rw [if_neg (by decide +kernel)]; exact ⟨rfl, rfl⟩)
theorem covered_clauses_proved : Rows.FnCoveredClausesSaid :=
 OpenClaim.holds_of_wide 3 Tryz.f3 rfl rfl rfl rfl rfl rfl rfl ⟨rfl, rfl, rfl, rfl, rfl⟩ rfl rfl rfl rfl rfl Z0b Tryz.func3 Z15
  Z14 Z1u
  (fun os started H enc _ => Z0a os started H enc)
end Go.Proofs.YtbdkbdafhlcilaaGreat
