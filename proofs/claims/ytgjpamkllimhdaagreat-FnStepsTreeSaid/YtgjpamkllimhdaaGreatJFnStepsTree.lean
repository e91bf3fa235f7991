/- Trees test no more than code: the law FnStepsTree returns true for all arguments and leaves them as they were. Conditions: none beyond the given statement's own. -/
import Derived.Test.YtgjpamkllimhdaaGreatJClm
import Derived.Test.YtgjpamkllimhdaaGreatJPa0
import Derived.Test.YtgjpamkllimhdaaGreatJCa0
set_option linter.unusedSimpArgs false
set_option linter.unusedVariables false
namespace Go.Proofs.YtgjpamkllimhdaaGreat
open Go Go.ChangeShapes Go.WideShapes Go.ChangeAt Go.RowKit
theorem X17:ownKnob Tryz.prog.godebug=none:=by kernel_rfl
theorem X18 (l1:List Int)(h1:∀ z∈l1,0≤z∧z≤255):Z1 Tryz.prog 3 [.slice 1 (List.map (rK .u8) l1)] (fun d=>d=eB true):=
 Z5m NN l1 true (X1b l1 h1)
set_option maxRecDepth 100000 in
theorem Z5v (os:Os)(started:os.Started)(H:Type)(enc:TypeId×Value→H) :
  ReturnsInHanded {} Tryz.checked os 3 .any (Rows.fnStepsTreeSpec.pre6 enc Tryz.prog Tryz.f3 Rows.fnStepsTreeRow.domain false) (Rows.fnStepsTreeSpec.post enc Tryz.prog Tryz.f3 false true false false):=by
 refine returnsInHanded_of_change (C:=Tryz.checked) X17 started (by kernel_rfl) Tryz.func3
  (ChangeSpec.witness6 (enc:=enc) (C:=Tryz.checked) false ⟨#[],#[.slice none 0 0],[]⟩ 8 (by kernel_rfl) (by kernel_rfl) (by kernel_rfl) (by kernel_rfl)) ?_
 intro W base args ds gs before hval hW _ _
 exact law1 (t:=22) (e:=5) (tb:=4) (fun _ _=>rfl) rfl rfl rfl (by kernel_rfl) (by kernel_rfl) (by kernel_rfl) (by kernel_rfl) X18 hval hW
set_option maxRecDepth 100000 in
set_option maxHeartbeats 0 in
theorem Z7o:joinedFacts Tryz.checked.prog 3 Tryz.f3 Rows.fnStepsTreeSpec Rows.fnStepsTreeRow=true:=by
 unfold joinedFacts
 simp only [Bool.and_eq_true]
 iterate 31 refine ⟨?_,by as_aux_lemma=>kernel_rfl⟩
 as_aux_lemma=>kernel_rfl
set_option maxRecDepth 100000 in
theorem Z5w:(Tryz.checked.prog).funcNamed Rows.fnStepsTreeRow.func=some 3:=by kernel_rfl
theorem Z7n:(Tryz.f3).isInstance Tryz.checked.prog Rows.fnStepsTreeRow.origin Rows.fnStepsTreeRow.targs:=of_decide_eq_true (by kernel_rfl)
theorem Z8m:(Tryz.f3).isWrapper Tryz.checked.prog Rows.fnStepsTreeRow.wrapper Rows.fnStepsTreeRow.mainSum:=by
 unfold Func.isWrapper
 first | (rw [if_pos (by decide +kernel)];kernel_rfl) | (rw [if_neg (by decide +kernel)];exact ⟨rfl,rfl⟩)
theorem steps_tree_proved:Rows.FnStepsTreeSaid:=
 OpenClaim.holds_of_wide 3 Tryz.f3 rfl rfl rfl rfl rfl rfl rfl ⟨rfl,rfl,rfl,rfl,rfl⟩ rfl rfl rfl rfl rfl Z5w Tryz.func3 Z7o
  Z7n Z8m
  (fun os started H enc _=>Z5v os started H enc)
end Go.Proofs.YtgjpamkllimhdaaGreat
