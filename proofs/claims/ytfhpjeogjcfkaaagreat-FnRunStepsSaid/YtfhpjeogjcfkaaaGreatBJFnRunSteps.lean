/- Code chooses the same clauses: the law FnRunSteps returns true for all arguments and leaves them as they were. Conditions: none beyond the given statement's own. -/
import Derived.Test.YtfhpjeogjcfkaaaGreatBJClm
import Derived.Test.YtfhpjeogjcfkaaaGreatBJPa0
import Derived.Test.YtfhpjeogjcfkaaaGreatBJCa0
set_option linter.unusedSimpArgs false
set_option linter.unusedVariables false
namespace Go.Proofs.YtfhpjeogjcfkaaaGreat
open Go Go.ChangeShapes Go.WideShapes Go.ChangeAt Go.RowKit
theorem X4r:ownKnob Tryz.prog.godebug=none:=by kernel_rfl
theorem X4s (l1:List Int)(h1:∀ z∈l1,0≤z∧z≤255):Q8 Tryz.prog 3 [.slice 1 (List.map (rK .u8) l1)] (fun d=>d=eB true):=
 Z84 NN l1 true (X54 l1 h1)
set_option maxRecDepth 100000 in
theorem Z94 (os:Os)(started:os.Started)(H:Type)(enc:TypeId×Value→H) :
  ReturnsInHanded {} Tryz.checked os 3 .any (Rows.fnRunStepsSpec.pre6 enc Tryz.prog Tryz.f3 Rows.fnRunStepsRow.domain false) (Rows.fnRunStepsSpec.post enc Tryz.prog Tryz.f3 false true false false):=by
 refine returnsInHanded_of_change (C:=Tryz.checked) X4r started (by kernel_rfl) Tryz.func3
  (ChangeSpec.witness6 (enc:=enc) (C:=Tryz.checked) false ⟨#[],#[.slice none 0 0],[]⟩ 8 (by kernel_rfl) (by kernel_rfl) (by kernel_rfl) (by kernel_rfl)) ?_
 intro W base args ds gs before hval hW _ _
 exact law1 (t:=22) (e:=5) (tb:=4) (fun _ _=>rfl) rfl rfl rfl (by kernel_rfl) (by kernel_rfl) (by kernel_rfl) (by kernel_rfl) X4s hval hW
set_option maxRecDepth 100000 in
set_option maxHeartbeats 0 in
theorem X0a:joinedFacts Tryz.checked.prog 3 Tryz.f3 Rows.fnRunStepsSpec Rows.fnRunStepsRow=true:=by
 unfold joinedFacts
 simp only [Bool.and_eq_true]
 iterate 31 refine ⟨?_,by as_aux_lemma=>kernel_rfl⟩
 as_aux_lemma=>kernel_rfl
set_option maxRecDepth 100000 in
theorem Z95:(Tryz.checked.prog).funcNamed Rows.fnRunStepsRow.func=some 3:=by kernel_rfl
theorem X09:(Tryz.f3).isInstance Tryz.checked.prog Rows.fnRunStepsRow.origin Rows.fnRunStepsRow.targs:=of_decide_eq_true (by kernel_rfl)
theorem X2o:(Tryz.f3).isWrapper Tryz.checked.prog Rows.fnRunStepsRow.wrapper Rows.fnRunStepsRow.mainSum:=by
 unfold Func.isWrapper
 first | (rw [if_pos (by decide +kernel)];kernel_rfl) | (rw [if_neg (by decide +kernel)];exact ⟨rfl,rfl⟩)
theorem run_steps_proved:Rows.FnRunStepsSaid:=
 OpenClaim.holds_of_wide 3 Tryz.f3 rfl rfl rfl rfl rfl rfl rfl ⟨rfl,rfl,rfl,rfl,rfl⟩ rfl rfl rfl rfl rfl Z95 Tryz.func3 X0a
  X09 X2o
  (fun os started H enc _=>Z94 os started H enc)
end Go.Proofs.YtfhpjeogjcfkaaaGreat
