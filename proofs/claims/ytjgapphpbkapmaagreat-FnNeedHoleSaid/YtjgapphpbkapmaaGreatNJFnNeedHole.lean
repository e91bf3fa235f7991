/- Holes are needed: the law FnNeedHole returns true for all arguments and leaves them as they were. Conditions: none beyond the given statement's own. -/
import Derived.Test.YtjgapphpbkapmaaGreatNJClm
import Derived.Test.YtjgapphpbkapmaaGreatNJP1
import Derived.Test.YtjgapphpbkapmaaGreatNJC6a0
set_option linter.unusedSimpArgs false
set_option linter.unusedVariables false
namespace Go.Proofs.YtjgapphpbkapmaaGreat
open Go Go.ChangeShapes Go.WideShapes Go.ChangeAt Go.RowKit
theorem Z7j:ownKnob Tryz.prog.godebug=none:=by kernel_rfl
theorem Z7k (l1:List Int)(h1:∀ z∈l1,0≤z∧z≤255):Z1 Tryz.prog 6 [.slice 1 (List.map (rK .u8) l1)] (fun d=>d=eB true):=
 Z2o NN l1 true (Z7m l1 h1)
set_option maxRecDepth 100000 in
theorem Z38 (os:Os)(started:os.Started)(H:Type)(enc:TypeId×Value→H) :
  ReturnsInHanded {} Tryz.checked os 6 .any (Rows.fnNeedHoleSpec.pre6 enc Tryz.prog Tryz.f6 Rows.fnNeedHoleRow.domain false) (Rows.fnNeedHoleSpec.post enc Tryz.prog Tryz.f6 false true false false):=by
 refine returnsInHanded_of_change (C:=Tryz.checked) Z7j started (by kernel_rfl) Tryz.func6
  (ChangeSpec.witness6 (enc:=enc) (C:=Tryz.checked) false ⟨#[],#[.slice none 0 0],[]⟩ 8 (by kernel_rfl) (by kernel_rfl) (by kernel_rfl) (by kernel_rfl)) ?_
 intro W base args ds gs before hval hW _ _
 exact law1 (t:=22) (e:=5) (tb:=4) (fun _ _=>rfl) rfl rfl rfl (by kernel_rfl) (by kernel_rfl) (by kernel_rfl) (by kernel_rfl) Z7k hval hW
set_option maxRecDepth 100000 in
set_option maxHeartbeats 0 in
theorem Z4d:joinedFacts Tryz.checked.prog 6 Tryz.f6 Rows.fnNeedHoleSpec Rows.fnNeedHoleRow=true:=by
 unfold joinedFacts
 simp only [Bool.and_eq_true]
 iterate 31 refine ⟨?_,by as_aux_lemma=>kernel_rfl⟩
 as_aux_lemma=>kernel_rfl
set_option maxRecDepth 100000 in
theorem Z39:(Tryz.checked.prog).funcNamed Rows.fnNeedHoleRow.func=some 6:=by kernel_rfl
theorem Z4c:(Tryz.f6).isInstance Tryz.checked.prog Rows.fnNeedHoleRow.origin Rows.fnNeedHoleRow.targs:=of_decide_eq_true (by kernel_rfl)
theorem Z5t:(Tryz.f6).isWrapper Tryz.checked.prog Rows.fnNeedHoleRow.wrapper Rows.fnNeedHoleRow.mainSum:=by
 unfold Func.isWrapper
 first | (rw [if_pos (by decide +kernel)];kernel_rfl) | (rw [if_neg (by decide +kernel)];exact ⟨rfl,rfl⟩)
theorem need_hole_proved:Rows.FnNeedHoleSaid:=
 OpenClaim.holds_of_wide 6 Tryz.f6 rfl rfl rfl rfl rfl rfl rfl ⟨rfl,rfl,rfl,rfl,rfl⟩ rfl rfl rfl rfl rfl Z39 Tryz.func6 Z4d
  Z4c Z5t
  (fun os started H enc _=>Z38 os started H enc)
end Go.Proofs.YtjgapphpbkapmaaGreat
