/- Values of expressions: the law FnEvalValue returns true for all arguments and leaves them as they were. Conditions: none beyond the given statement's own. -/
import Derived.Test.YtenmmbjgnlflnaaGreatBJClm
import Derived.Test.YtenmmbjgnlflnaaGreatBJPb0
import Derived.Test.YtenmmbjgnlflnaaGreatBJCb0
set_option linter.unusedSimpArgs false
set_option linter.unusedVariables false
namespace Go.Proofs.YtenmmbjgnlflnaaGreat
open Go Go.ChangeShapes Go.WideShapes Go.ChangeAt Go.RowKit
theorem X2s:ownKnob Tryz.prog.godebug=none:=by kernel_rfl
theorem X2t (l1:List Int)(h1:∀ z∈l1,0≤z∧z≤255):Q7 Tryz.prog 9 [.slice 1 (List.map (rK .u8) l1)] (fun d=>d=eB true):=
 Z6t NN l1 true (X2f l1 h1)
set_option maxRecDepth 100000 in
theorem Z7o (os:Os)(started:os.Started)(H:Type)(enc:TypeId×Value→H) :
  ReturnsInHanded {} Tryz.checked os 9 .any (Rows.fnEvalValueSpec.pre6 enc Tryz.prog Tryz.f9 Rows.fnEvalValueRow.domain false) (Rows.fnEvalValueSpec.post enc Tryz.prog Tryz.f9 false true false false):=by
 refine returnsInHanded_of_change (C:=Tryz.checked) X2s started (by kernel_rfl) Tryz.func9
  (ChangeSpec.witness6 (enc:=enc) (C:=Tryz.checked) false ⟨#[],#[.slice none 0 0],[]⟩ 8 (by kernel_rfl) (by kernel_rfl) (by kernel_rfl) (by kernel_rfl)) ?_
 intro W base args ds gs before hval hW _ _
 exact law1 (t:=22) (e:=5) (tb:=4) (fun _ _=>rfl) rfl rfl rfl (by kernel_rfl) (by kernel_rfl) (by kernel_rfl) (by kernel_rfl) X2t hval hW
set_option maxRecDepth 100000 in
set_option maxHeartbeats 0 in
theorem Z93:joinedFacts Tryz.checked.prog 9 Tryz.f9 Rows.fnEvalValueSpec Rows.fnEvalValueRow=true:=by
 unfold joinedFacts
 simp only [Bool.and_eq_true]
 iterate 31 refine ⟨?_,by as_aux_lemma=>kernel_rfl⟩
 as_aux_lemma=>kernel_rfl
set_option maxRecDepth 100000 in
theorem Z7p:(Tryz.checked.prog).funcNamed Rows.fnEvalValueRow.func=some 9:=by kernel_rfl
theorem Z92:(Tryz.f9).isInstance Tryz.checked.prog Rows.fnEvalValueRow.origin Rows.fnEvalValueRow.targs:=of_decide_eq_true (by kernel_rfl)
theorem X18:(Tryz.f9).isWrapper Tryz.checked.prog Rows.fnEvalValueRow.wrapper Rows.fnEvalValueRow.mainSum:=by
 unfold Func.isWrapper
 first | (rw [if_pos (by decide +kernel)];kernel_rfl) | (rw [if_neg (by decide +kernel)];exact ⟨rfl,rfl⟩)
theorem eval_value_proved:Rows.FnEvalValueSaid:=
 OpenClaim.holds_of_wide 9 Tryz.f9 rfl rfl rfl rfl rfl rfl rfl ⟨rfl,rfl,rfl,rfl,rfl⟩ rfl rfl rfl rfl rfl Z7p Tryz.func9 Z93
  Z92 X18
  (fun os started H enc _=>Z7o os started H enc)
end Go.Proofs.YtenmmbjgnlflnaaGreat
