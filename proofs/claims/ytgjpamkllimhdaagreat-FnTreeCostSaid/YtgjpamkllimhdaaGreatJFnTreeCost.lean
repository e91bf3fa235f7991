/- Trees cost no more than code: the law FnTreeCost returns true for all arguments and leaves them as they were. Conditions: none beyond the given statement's own. -/
import Derived.Test.YtgjpamkllimhdaaGreatJClm
import Derived.Test.YtgjpamkllimhdaaGreatJPb0
import Derived.Test.YtgjpamkllimhdaaGreatJCb0
set_option linter.unusedSimpArgs false
set_option linter.unusedVariables false
namespace Go.Proofs.YtgjpamkllimhdaaGreat
open Go Go.ChangeShapes Go.WideShapes Go.ChangeAt Go.RowKit
theorem X31:ownKnob Tryz.prog.godebug=none:=by kernel_rfl
theorem X32 (l1:List Int)(h1:∀ z∈l1,0≤z∧z≤255):Z1 Tryz.prog 5 [.slice 1 (List.map (rK .u8) l1)] (fun d=>d=eB true):=
 Z6m NN l1 true (X3k l1 h1)
set_option maxRecDepth 100000 in
theorem Z7l (os:Os)(started:os.Started)(H:Type)(enc:TypeId×Value→H) :
  ReturnsInHanded {} Tryz.checked os 5 .any (Rows.fnTreeCostSpec.pre6 enc Tryz.prog Tryz.f5 Rows.fnTreeCostRow.domain false) (Rows.fnTreeCostSpec.post enc Tryz.prog Tryz.f5 false true false false):=by
 refine returnsInHanded_of_change (C:=Tryz.checked) X31 started (by kernel_rfl) Tryz.func5
  (ChangeSpec.witness6 (enc:=enc) (C:=Tryz.checked) false ⟨#[],#[.slice none 0 0],[]⟩ 8 (by kernel_rfl) (by kernel_rfl) (by kernel_rfl) (by kernel_rfl)) ?_
 intro W base args ds gs before hval hW _ _
 exact law1 (t:=22) (e:=5) (tb:=4) (fun _ _=>rfl) rfl rfl rfl (by kernel_rfl) (by kernel_rfl) (by kernel_rfl) (by kernel_rfl) X32 hval hW
set_option maxRecDepth 100000 in
set_option maxHeartbeats 0 in
theorem Z8f:joinedFacts Tryz.checked.prog 5 Tryz.f5 Rows.fnTreeCostSpec Rows.fnTreeCostRow=true:=by
 unfold joinedFacts
 simp only [Bool.and_eq_true]
 iterate 31 refine ⟨?_,by as_aux_lemma=>kernel_rfl⟩
 as_aux_lemma=>kernel_rfl
set_option maxRecDepth 100000 in
theorem Z7m:(Tryz.checked.prog).funcNamed Rows.fnTreeCostRow.func=some 5:=by kernel_rfl
theorem Z8e:(Tryz.f5).isInstance Tryz.checked.prog Rows.fnTreeCostRow.origin Rows.fnTreeCostRow.targs:=of_decide_eq_true (by kernel_rfl)
theorem X16:(Tryz.f5).isWrapper Tryz.checked.prog Rows.fnTreeCostRow.wrapper Rows.fnTreeCostRow.mainSum:=by
 unfold Func.isWrapper
 first | (rw [if_pos (by decide +kernel)];kernel_rfl) | (rw [if_neg (by decide +kernel)];exact ⟨rfl,rfl⟩)
theorem tree_cost_proved:Rows.FnTreeCostSaid:=
 OpenClaim.holds_of_wide 5 Tryz.f5 rfl rfl rfl rfl rfl rfl rfl ⟨rfl,rfl,rfl,rfl,rfl⟩ rfl rfl rfl rfl rfl Z7m Tryz.func5 Z8f
  Z8e X16
  (fun os started H enc _=>Z7l os started H enc)
end Go.Proofs.YtgjpamkllimhdaaGreat
