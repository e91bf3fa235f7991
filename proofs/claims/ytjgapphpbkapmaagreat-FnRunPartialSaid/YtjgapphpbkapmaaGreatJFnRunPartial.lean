/- What is known decides: the law FnRunPartial returns true for all arguments and leaves them as they were. Conditions: none beyond the given statement's own. -/
import Derived.Test.YtjgapphpbkapmaaGreatJClm
import Derived.Test.YtjgapphpbkapmaaGreatJPb0
import Derived.Test.YtjgapphpbkapmaaGreatJCb0
set_option linter.unusedSimpArgs false
set_option linter.unusedVariables false
namespace Go.Proofs.YtjgapphpbkapmaaGreat
open Go Go.ChangeShapes Go.WideShapes Go.ChangeAt Go.RowKit
theorem Z71:ownKnob Tryz.prog.godebug=none:=by kernel_rfl
theorem Z72 (l1 l2:List Int) (h1:∀ z∈l1,0≤z∧z≤255) (h2:∀ z∈l2,0≤z∧z≤255):Z2 Tryz.prog 10 [.slice 1 (List.map (rK .u8) l1),.slice 1 (List.map (rK .u8) l2)] (fun d=>d=eB true):=
 Z34 NN l1 l2 true (Z7q l1 l2 h1 h2)
set_option maxRecDepth 100000 in
theorem Z3n (os:Os) (started:os.Started) (H:Type) (enc:TypeId×Value→H) :
  ReturnsInHanded {} Tryz.checked os 10 .any (Rows.fnRunPartialSpec.pre6 enc Tryz.prog Tryz.f10 Rows.fnRunPartialRow.domain false) (Rows.fnRunPartialSpec.post enc Tryz.prog Tryz.f10 false true false false):=by
 refine returnsInHanded_of_change (C:=Tryz.checked) Z71 started (by kernel_rfl) Tryz.func10
  (ChangeSpec.witness6 (enc:=enc) (C:=Tryz.checked) false ⟨#[],#[.slice none 0 0,.slice none 0 0],[]⟩ 8 (by kernel_rfl) (by kernel_rfl) (by kernel_rfl) (by kernel_rfl)) ?_
 intro W base args ds gs before hval hW _ _
 exact law2 (t:=22) (e:=5) (tb:=4) (fun _ _ _=>rfl) rfl rfl rfl (by kernel_rfl) (by kernel_rfl) (by kernel_rfl) (by kernel_rfl) Z72 hval hW
set_option maxRecDepth 100000 in
set_option maxHeartbeats 0 in
theorem Z4w:joinedFacts Tryz.checked.prog 10 Tryz.f10 Rows.fnRunPartialSpec Rows.fnRunPartialRow=true:=by
 unfold joinedFacts
 simp only [Bool.and_eq_true]
 iterate 31 refine ⟨?_,by as_aux_lemma=>kernel_rfl⟩
 as_aux_lemma=>kernel_rfl
set_option maxRecDepth 100000 in
theorem Z3o:(Tryz.checked.prog).funcNamed Rows.fnRunPartialRow.func=some 10:=by kernel_rfl
theorem Z4v:(Tryz.f10).isInstance Tryz.checked.prog Rows.fnRunPartialRow.origin Rows.fnRunPartialRow.targs:=of_decide_eq_true (by kernel_rfl)
theorem Z67:(Tryz.f10).isWrapper Tryz.checked.prog Rows.fnRunPartialRow.wrapper Rows.fnRunPartialRow.mainSum:=by
 unfold Func.isWrapper
 first | (rw [if_pos (by decide +kernel)];kernel_rfl) | (rw [if_neg (by decide +kernel)];exact ⟨rfl,rfl⟩)
theorem run_partial_proved:Rows.FnRunPartialSaid:=
 OpenClaim.holds_of_wide 10 Tryz.f10 rfl rfl rfl rfl rfl rfl rfl ⟨rfl,rfl,rfl,rfl,rfl⟩ rfl rfl rfl rfl rfl Z3o Tryz.func10 Z4w
  Z4v Z67
  (fun os started H enc _=>Z3n os started H enc)
end Go.Proofs.YtjgapphpbkapmaaGreat
