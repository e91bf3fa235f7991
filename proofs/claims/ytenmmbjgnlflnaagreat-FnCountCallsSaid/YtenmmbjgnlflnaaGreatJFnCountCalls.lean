/- Runs of functions: the law FnCountCalls returns true for all arguments and leaves them as they were. Conditions: none beyond the given statement's own. -/
import Derived.Test.YtenmmbjgnlflnaaGreatJClm
import Derived.Test.YtenmmbjgnlflnaaGreatJPc0
import Derived.Test.YtenmmbjgnlflnaaGreatJCc0
set_option linter.unusedSimpArgs false
set_option linter.unusedVariables false
namespace Go.Proofs.YtenmmbjgnlflnaaGreat
open Go Go.ChangeShapes Go.WideShapes Go.ChangeAt Go.RowKit
theorem Z5x:ownKnob Tryz.prog.godebug=none:=by kernel_rfl
theorem Z5y (l1:List Int)(h1:∀ z∈l1,0≤z∧z≤255):Q6 Tryz.prog 5 [.slice 1 (List.map (rK .u8) l1)] (fun d=>d=eB true):=
 Z0v NN l1 true (Z55 l1 h1)
set_option maxRecDepth 100000 in
theorem Z1v (os:Os)(started:os.Started)(H:Type)(enc:TypeId×Value→H) :
  ReturnsInHanded {} Tryz.checked os 5 .any (Rows.fnCountCallsSpec.pre6 enc Tryz.prog Tryz.f5 Rows.fnCountCallsRow.domain false) (Rows.fnCountCallsSpec.post enc Tryz.prog Tryz.f5 false true false false):=by
 refine returnsInHanded_of_change (C:=Tryz.checked) Z5x started (by kernel_rfl) Tryz.func5
  (ChangeSpec.witness6 (enc:=enc) (C:=Tryz.checked) false ⟨#[],#[.slice none 0 0],[]⟩ 8 (by kernel_rfl) (by kernel_rfl) (by kernel_rfl) (by kernel_rfl)) ?_
 intro W base args ds gs before hval hW _ _
 exact law1 (t:=22) (e:=5) (tb:=4) (fun _ _=>rfl) rfl rfl rfl (by kernel_rfl) (by kernel_rfl) (by kernel_rfl) (by kernel_rfl) Z5y hval hW
set_option maxRecDepth 100000 in
set_option maxHeartbeats 0 in
theorem Z2s:joinedFacts Tryz.checked.prog 5 Tryz.f5 Rows.fnCountCallsSpec Rows.fnCountCallsRow=true:=by
 unfold joinedFacts
 simp only [Bool.and_eq_true]
 iterate 31 refine ⟨?_,by as_aux_lemma=>kernel_rfl⟩
 as_aux_lemma=>kernel_rfl
set_option maxRecDepth 100000 in
theorem Z1w:(Tryz.checked.prog).funcNamed Rows.fnCountCallsRow.func=some 5:=by kernel_rfl
theorem Z2r:(Tryz.f5).isInstance Tryz.checked.prog Rows.fnCountCallsRow.origin Rows.fnCountCallsRow.targs:=of_decide_eq_true (by kernel_rfl)
theorem Z3u:(Tryz.f5).isWrapper Tryz.checked.prog Rows.fnCountCallsRow.wrapper Rows.fnCountCallsRow.mainSum:=by
 unfold Func.isWrapper
 first | (rw [if_pos (by decide +kernel)];kernel_rfl) | (rw [if_neg (by decide +kernel)];exact ⟨rfl,rfl⟩)
theorem count_calls_proved:Rows.FnCountCallsSaid:=
 OpenClaim.holds_of_wide 5 Tryz.f5 rfl rfl rfl rfl rfl rfl rfl ⟨rfl,rfl,rfl,rfl,rfl⟩ rfl rfl rfl rfl rfl Z1w Tryz.func5 Z2s
  Z2r Z3u
  (fun os started H enc _=>Z1v os started H enc)
end Go.Proofs.YtenmmbjgnlflnaaGreat
