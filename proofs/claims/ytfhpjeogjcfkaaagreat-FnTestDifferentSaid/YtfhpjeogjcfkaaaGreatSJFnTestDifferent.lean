/- Test values are different: the law FnTestDifferent returns true for all arguments and leaves them as they were. Conditions: none beyond the given statement's own. -/
import Derived.Test.YtfhpjeogjcfkaaaGreatSJClm
import Derived.Test.YtfhpjeogjcfkaaaGreatSJPb0
import Derived.Test.YtfhpjeogjcfkaaaGreatSJCb0
set_option linter.unusedSimpArgs false
set_option linter.unusedVariables false
namespace Go.Proofs.YtfhpjeogjcfkaaaGreat
open Go Go.ChangeShapes Go.WideShapes Go.ChangeAt Go.RowKit
theorem Z2u:ownKnob Tryz.prog.godebug=none:=by kernel_rfl
theorem Z2v (l1:List Int)(h1:∀ z∈l1,0≤z∧z≤255):Q6 Tryz.prog 8 [.slice 1 (List.map (rK .u8) l1)] (fun d=>d=eB true):=
 Z09 NN l1 true (Z3j l1 h1)
set_option maxRecDepth 100000 in
theorem Z0d (os:Os)(started:os.Started)(H:Type)(enc:TypeId×Value→H) :
  ReturnsInHanded {} Tryz.checked os 8 .any (Rows.fnTestDifferentSpec.pre6 enc Tryz.prog Tryz.f8 Rows.fnTestDifferentRow.domain false) (Rows.fnTestDifferentSpec.post enc Tryz.prog Tryz.f8 false true false false):=by
 refine returnsInHanded_of_change (C:=Tryz.checked) Z2u started (by kernel_rfl) Tryz.func8
  (ChangeSpec.witness6 (enc:=enc) (C:=Tryz.checked) false ⟨#[],#[.slice none 0 0],[]⟩ 8 (by kernel_rfl) (by kernel_rfl) (by kernel_rfl) (by kernel_rfl)) ?_
 intro W base args ds gs before hval hW _ _
 exact law1 (t:=22) (e:=5) (tb:=4) (fun _ _=>rfl) rfl rfl rfl (by kernel_rfl) (by kernel_rfl) (by kernel_rfl) (by kernel_rfl) Z2v hval hW
set_option maxRecDepth 100000 in
set_option maxHeartbeats 0 in
theorem Z1k:joinedFacts Tryz.checked.prog 8 Tryz.f8 Rows.fnTestDifferentSpec Rows.fnTestDifferentRow=true:=by
 unfold joinedFacts
 simp only [Bool.and_eq_true]
 iterate 31 refine ⟨?_,by as_aux_lemma=>kernel_rfl⟩
 as_aux_lemma=>kernel_rfl
set_option maxRecDepth 100000 in
theorem Z0e:(Tryz.checked.prog).funcNamed Rows.fnTestDifferentRow.func=some 8:=by kernel_rfl
theorem Z1j:(Tryz.f8).isInstance Tryz.checked.prog Rows.fnTestDifferentRow.origin Rows.fnTestDifferentRow.targs:=of_decide_eq_true (by kernel_rfl)
theorem Z24:(Tryz.f8).isWrapper Tryz.checked.prog Rows.fnTestDifferentRow.wrapper Rows.fnTestDifferentRow.mainSum:=by
 unfold Func.isWrapper
 first | (rw [if_pos (by decide +kernel)];kernel_rfl) | (rw [if_neg (by decide +kernel)];exact ⟨rfl,rfl⟩)
theorem test_different_proved:Rows.FnTestDifferentSaid:=
 OpenClaim.holds_of_wide 8 Tryz.f8 rfl rfl rfl rfl rfl rfl rfl ⟨rfl,rfl,rfl,rfl,rfl⟩ rfl rfl rfl rfl rfl Z0e Tryz.func8 Z1k
  Z1j Z24
  (fun os started H enc _=>Z0d os started H enc)
end Go.Proofs.YtfhpjeogjcfkaaaGreat
