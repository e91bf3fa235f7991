/- Runs of functions: the law FnRunMore returns true for all arguments and leaves them as they were. Conditions: none beyond the given statement's own. -/
import Derived.Test.YtenmmbjgnlflnaaGreatJClm
import Derived.Test.YtenmmbjgnlflnaaGreatJPb0
import Derived.Test.YtenmmbjgnlflnaaGreatJCb0
set_option linter.unusedSimpArgs false
set_option linter.unusedVariables false
namespace Go.Proofs.YtenmmbjgnlflnaaGreat
open Go Go.ChangeShapes Go.WideShapes Go.ChangeAt Go.RowKit
theorem Z9t:ownKnob Tryz.prog.godebug=none:=by kernel_rfl
theorem Z9u (l1:List Int)(h1:∀ z∈l1,0≤z∧z≤255):Q6 Tryz.prog 6 [.slice 1 (List.map (rK .u8) l1)] (fun d=>d=eB true):=
 Z3w NN l1 true (X09 l1 h1)
set_option maxRecDepth 100000 in
theorem Z4l (os:Os)(started:os.Started)(H:Type)(enc:TypeId×Value→H) :
  ReturnsInHanded {} Tryz.checked os 6 .any (Rows.fnRunMoreSpec.pre6 enc Tryz.prog Tryz.f6 Rows.fnRunMoreRow.domain false) (Rows.fnRunMoreSpec.post enc Tryz.prog Tryz.f6 false true false false):=by
 refine returnsInHanded_of_change (C:=Tryz.checked) Z9t started (by kernel_rfl) Tryz.func6
  (ChangeSpec.witness6 (enc:=enc) (C:=Tryz.checked) false ⟨#[],#[.slice none 0 0],[]⟩ 8 (by kernel_rfl) (by kernel_rfl) (by kernel_rfl) (by kernel_rfl)) ?_
 intro W base args ds gs before hval hW _ _
 exact law1 (t:=22) (e:=5) (tb:=4) (fun _ _=>rfl) rfl rfl rfl (by kernel_rfl) (by kernel_rfl) (by kernel_rfl) (by kernel_rfl) Z9u hval hW
set_option maxRecDepth 100000 in
set_option maxHeartbeats 0 in
theorem Z6h:joinedFacts Tryz.checked.prog 6 Tryz.f6 Rows.fnRunMoreSpec Rows.fnRunMoreRow=true:=by
 unfold joinedFacts
 simp only [Bool.and_eq_true]
 iterate 31 refine ⟨?_,by as_aux_lemma=>kernel_rfl⟩
 as_aux_lemma=>kernel_rfl
set_option maxRecDepth 100000 in
theorem Z4m:(Tryz.checked.prog).funcNamed Rows.fnRunMoreRow.func=some 6:=by kernel_rfl
theorem Z6g:(Tryz.f6).isInstance Tryz.checked.prog Rows.fnRunMoreRow.origin Rows.fnRunMoreRow.targs:=of_decide_eq_true (by kernel_rfl)
theorem Z7z:(Tryz.f6).isWrapper Tryz.checked.prog Rows.fnRunMoreRow.wrapper Rows.fnRunMoreRow.mainSum:=by
 unfold Func.isWrapper
 first | (rw [if_pos (by decide +kernel)];kernel_rfl) | (rw [if_neg (by decide +kernel)];exact ⟨rfl,rfl⟩)
theorem run_more_proved:Rows.FnRunMoreSaid:=
 OpenClaim.holds_of_wide 6 Tryz.f6 rfl rfl rfl rfl rfl rfl rfl ⟨rfl,rfl,rfl,rfl,rfl⟩ rfl rfl rfl rfl rfl Z4m Tryz.func6 Z6h
  Z6g Z7z
  (fun os started H enc _=>Z4l os started H enc)
end Go.Proofs.YtenmmbjgnlflnaaGreat
