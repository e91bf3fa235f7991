/- Runs of functions: the law FnRunFun returns true for all arguments and leaves them as they were. Conditions: none beyond the given statement's own. -/
import Derived.Test.YtenmmbjgnlflnaaGreatJClm
import Derived.Test.YtenmmbjgnlflnaaGreatJPa0
import Derived.Test.YtenmmbjgnlflnaaGreatJCa0
set_option linter.unusedSimpArgs false
set_option linter.unusedVariables false
namespace Go.Proofs.YtenmmbjgnlflnaaGreat
open Go Go.ChangeShapes Go.WideShapes Go.ChangeAt Go.RowKit
theorem X24:ownKnob Tryz.prog.godebug=none:=by kernel_rfl
theorem X25 (l1:List Int)(h1:∀ z∈l1,0≤z∧z≤255):Q6 Tryz.prog 7 [.slice 1 (List.map (rK .u8) l1)] (fun d=>d=eB true):=
 Z66 NN l1 true (X2e l1 h1)
set_option maxRecDepth 100000 in
theorem Z6i (os:Os)(started:os.Started)(H:Type)(enc:TypeId×Value→H) :
  ReturnsInHanded {} Tryz.checked os 7 .any (Rows.fnRunFunSpec.pre6 enc Tryz.prog Tryz.f7 Rows.fnRunFunRow.domain false) (Rows.fnRunFunSpec.post enc Tryz.prog Tryz.f7 false true false false):=by
 refine returnsInHanded_of_change (C:=Tryz.checked) X24 started (by kernel_rfl) Tryz.func7
  (ChangeSpec.witness6 (enc:=enc) (C:=Tryz.checked) false ⟨#[],#[.slice none 0 0],[]⟩ 8 (by kernel_rfl) (by kernel_rfl) (by kernel_rfl) (by kernel_rfl)) ?_
 intro W base args ds gs before hval hW _ _
 exact law1 (t:=22) (e:=5) (tb:=4) (fun _ _=>rfl) rfl rfl rfl (by kernel_rfl) (by kernel_rfl) (by kernel_rfl) (by kernel_rfl) X25 hval hW
set_option maxRecDepth 100000 in
set_option maxHeartbeats 0 in
theorem Z81:joinedFacts Tryz.checked.prog 7 Tryz.f7 Rows.fnRunFunSpec Rows.fnRunFunRow=true:=by
 unfold joinedFacts
 simp only [Bool.and_eq_true]
 iterate 31 refine ⟨?_,by as_aux_lemma=>kernel_rfl⟩
 as_aux_lemma=>kernel_rfl
set_option maxRecDepth 100000 in
theorem Z6j:(Tryz.checked.prog).funcNamed Rows.fnRunFunRow.func=some 7:=by kernel_rfl
theorem Z80:(Tryz.f7).isInstance Tryz.checked.prog Rows.fnRunFunRow.origin Rows.fnRunFunRow.targs:=of_decide_eq_true (by kernel_rfl)
theorem Z9v:(Tryz.f7).isWrapper Tryz.checked.prog Rows.fnRunFunRow.wrapper Rows.fnRunFunRow.mainSum:=by
 unfold Func.isWrapper
 first | (rw [if_pos (by decide +kernel)];kernel_rfl) | (rw [if_neg (by decide +kernel)];exact ⟨rfl,rfl⟩)
theorem run_fun_proved:Rows.FnRunFunSaid:=
 OpenClaim.holds_of_wide 7 Tryz.f7 rfl rfl rfl rfl rfl rfl rfl ⟨rfl,rfl,rfl,rfl,rfl⟩ rfl rfl rfl rfl rfl Z6j Tryz.func7 Z81
  Z80 Z9v
  (fun os started H enc _=>Z6i os started H enc)
end Go.Proofs.YtenmmbjgnlflnaaGreat
