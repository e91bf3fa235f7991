/- Total functions: the law FnTotalFuns returns true for all arguments and leaves them as they were. Conditions: none beyond the given statement's own. -/
import Derived.Test.YtenmmbjgnlflnaaGreatBJClm
import Derived.Test.YtenmmbjgnlflnaaGreatBJPd0
import Derived.Test.YtenmmbjgnlflnaaGreatBJCd0
set_option linter.unusedSimpArgs false
set_option linter.unusedVariables false
namespace Go.Proofs.YtenmmbjgnlflnaaGreat
open Go Go.ChangeShapes Go.WideShapes Go.ChangeAt Go.RowKit
theorem X28:ownKnob Tryz.prog.godebug=none:=by kernel_rfl
theorem X29 (l1:List Int)(h1:∀ z∈l1,0≤z∧z≤255):Q7 Tryz.prog 10 [.slice 1 (List.map (rK .u8) l1)] (fun d=>d=eB true):=
 Z6s NN l1 true (X2e l1 h1)
set_option maxRecDepth 100000 in
theorem Z74 (os:Os)(started:os.Started)(H:Type)(enc:TypeId×Value→H) :
  ReturnsInHanded {} Tryz.checked os 10 .any (Rows.fnTotalFunsSpec.pre6 enc Tryz.prog Tryz.f10 Rows.fnTotalFunsRow.domain false) (Rows.fnTotalFunsSpec.post enc Tryz.prog Tryz.f10 false true false false):=by
 refine returnsInHanded_of_change (C:=Tryz.checked) X28 started (by kernel_rfl) Tryz.func10
  (ChangeSpec.witness6 (enc:=enc) (C:=Tryz.checked) false ⟨#[],#[.slice none 0 0],[]⟩ 8 (by kernel_rfl) (by kernel_rfl) (by kernel_rfl) (by kernel_rfl)) ?_
 intro W base args ds gs before hval hW _ _
 exact law1 (t:=22) (e:=5) (tb:=4) (fun _ _=>rfl) rfl rfl rfl (by kernel_rfl) (by kernel_rfl) (by kernel_rfl) (by kernel_rfl) X29 hval hW
set_option maxRecDepth 100000 in
set_option maxHeartbeats 0 in
theorem Z8p:joinedFacts Tryz.checked.prog 10 Tryz.f10 Rows.fnTotalFunsSpec Rows.fnTotalFunsRow=true:=by
 unfold joinedFacts
 simp only [Bool.and_eq_true]
 iterate 31 refine ⟨?_,by as_aux_lemma=>kernel_rfl⟩
 as_aux_lemma=>kernel_rfl
set_option maxRecDepth 100000 in
theorem Z75:(Tryz.checked.prog).funcNamed Rows.fnTotalFunsRow.func=some 10:=by kernel_rfl
theorem Z8o:(Tryz.f10).isInstance Tryz.checked.prog Rows.fnTotalFunsRow.origin Rows.fnTotalFunsRow.targs:=of_decide_eq_true (by kernel_rfl)
theorem Z9l:(Tryz.f10).isWrapper Tryz.checked.prog Rows.fnTotalFunsRow.wrapper Rows.fnTotalFunsRow.mainSum:=by
 unfold Func.isWrapper
 first | (rw [if_pos (by decide +kernel)];kernel_rfl) | (rw [if_neg (by decide +kernel)];exact ⟨rfl,rfl⟩)
theorem total_funs_proved:Rows.FnTotalFunsSaid:=
 OpenClaim.holds_of_wide 10 Tryz.f10 rfl rfl rfl rfl rfl rfl rfl ⟨rfl,rfl,rfl,rfl,rfl⟩ rfl rfl rfl rfl rfl Z75 Tryz.func10 Z8p
  Z8o Z9l
  (fun os started H enc _=>Z74 os started H enc)
end Go.Proofs.YtenmmbjgnlflnaaGreat
