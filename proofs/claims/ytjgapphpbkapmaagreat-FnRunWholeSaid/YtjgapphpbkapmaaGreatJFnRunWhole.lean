/- Whole values decide: the law FnRunWhole returns true for all arguments and leaves them as they were. Conditions: none beyond the given statement's own. -/
import Derived.Test.YtjgapphpbkapmaaGreatJClm
import Derived.Test.YtjgapphpbkapmaaGreatJPa0
import Derived.Test.YtjgapphpbkapmaaGreatJCa0
set_option linter.unusedSimpArgs false
set_option linter.unusedVariables false
namespace Go.Proofs.YtjgapphpbkapmaaGreat
open Go Go.ChangeShapes Go.WideShapes Go.ChangeAt Go.RowKit
theorem X12:ownKnob Tryz.prog.godebug=none:=by kernel_rfl
theorem X13 (l1:List Int) (h1:∀ z∈l1,0≤z∧z≤255):Z2 Tryz.prog 8 [.slice 1 (List.map (rK .u8) l1)] (fun d=>d=eB true):=
 Q9t NN l1 true (X1g l1 h1)
set_option maxRecDepth 100000 in
theorem Z65 (os:Os) (started:os.Started) (H:Type) (enc:TypeId×Value→H) :
  ReturnsInHanded {} Tryz.checked os 8 .any (Rows.fnRunWholeSpec.pre6 enc Tryz.prog Tryz.f8 Rows.fnRunWholeRow.domain false) (Rows.fnRunWholeSpec.post enc Tryz.prog Tryz.f8 false true false false):=by
 refine returnsInHanded_of_change (C:=Tryz.checked) X12 started (by kernel_rfl) Tryz.func8
  (ChangeSpec.witness6 (enc:=enc) (C:=Tryz.checked) false ⟨#[],#[.slice none 0 0],[]⟩ 8 (by kernel_rfl) (by kernel_rfl) (by kernel_rfl) (by kernel_rfl)) ?_
 intro W base args ds gs before hval hW _ _
 exact law1 (t:=22) (e:=5) (tb:=4) (fun _ _=>rfl) rfl rfl rfl (by kernel_rfl) (by kernel_rfl) (by kernel_rfl) (by kernel_rfl) X13 hval hW
set_option maxRecDepth 100000 in
set_option maxHeartbeats 0 in
theorem Z70:joinedFacts Tryz.checked.prog 8 Tryz.f8 Rows.fnRunWholeSpec Rows.fnRunWholeRow=true:=by
 unfold joinedFacts
 simp only [Bool.and_eq_true]
 iterate 31 refine ⟨?_,by as_aux_lemma=>kernel_rfl⟩
 as_aux_lemma=>kernel_rfl
set_option maxRecDepth 100000 in
theorem Z66:(Tryz.checked.prog).funcNamed Rows.fnRunWholeRow.func=some 8:=by kernel_rfl
theorem Z6z:(Tryz.f8).isInstance Tryz.checked.prog Rows.fnRunWholeRow.origin Rows.fnRunWholeRow.targs:=of_decide_eq_true (by kernel_rfl)
theorem Z98:(Tryz.f8).isWrapper Tryz.checked.prog Rows.fnRunWholeRow.wrapper Rows.fnRunWholeRow.mainSum:=by
 unfold Func.isWrapper
 first | (rw [if_pos (by decide +kernel)];kernel_rfl) | (rw [if_neg (by decide +kernel)];exact ⟨rfl,rfl⟩)
theorem run_whole_proved:Rows.FnRunWholeSaid:=
 OpenClaim.holds_of_wide 8 Tryz.f8 rfl rfl rfl rfl rfl rfl rfl ⟨rfl,rfl,rfl,rfl,rfl⟩ rfl rfl rfl rfl rfl Z66 Tryz.func8 Z70
  Z6z Z98
  (fun os started H enc _=>Z65 os started H enc)
end Go.Proofs.YtjgapphpbkapmaaGreat
