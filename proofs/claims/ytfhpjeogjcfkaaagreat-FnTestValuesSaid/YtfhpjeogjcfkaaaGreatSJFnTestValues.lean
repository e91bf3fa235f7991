/- Test values cover clauses: the law FnTestValues returns true for all arguments and leaves them as they were. Conditions: none beyond the given statement's own. -/
import Derived.Test.YtfhpjeogjcfkaaaGreatSJClm
import Derived.Test.YtfhpjeogjcfkaaaGreatSJPc0
import Derived.Test.YtfhpjeogjcfkaaaGreatSJCc0
set_option linter.unusedSimpArgs false
set_option linter.unusedVariables false
namespace Go.Proofs.YtfhpjeogjcfkaaaGreat
open Go Go.ChangeShapes Go.WideShapes Go.ChangeAt Go.RowKit
theorem Z6p:ownKnob Tryz.prog.godebug=none:=by kernel_rfl
theorem Z6q (l1:List Int)(h1:∀ z∈l1,0≤z∧z≤255):Q6 Tryz.prog 9 [.slice 1 (List.map (rK .u8) l1)] (fun d=>d=eB true):=
 Z2i NN l1 true (Z7m l1 h1)
set_option maxRecDepth 100000 in
theorem Z2s (os:Os)(started:os.Started)(H:Type)(enc:TypeId×Value→H) :
  ReturnsInHanded {} Tryz.checked os 9 .any (Rows.fnTestValuesSpec.pre6 enc Tryz.prog Tryz.f9 Rows.fnTestValuesRow.domain false) (Rows.fnTestValuesSpec.post enc Tryz.prog Tryz.f9 false true false false):=by
 refine returnsInHanded_of_change (C:=Tryz.checked) Z6p started (by kernel_rfl) Tryz.func9
  (ChangeSpec.witness6 (enc:=enc) (C:=Tryz.checked) false ⟨#[],#[.slice none 0 0],[]⟩ 8 (by kernel_rfl) (by kernel_rfl) (by kernel_rfl) (by kernel_rfl)) ?_
 intro W base args ds gs before hval hW _ _
 exact law1 (t:=22) (e:=5) (tb:=4) (fun _ _=>rfl) rfl rfl rfl (by kernel_rfl) (by kernel_rfl) (by kernel_rfl) (by kernel_rfl) Z6q hval hW
set_option maxRecDepth 100000 in
set_option maxHeartbeats 0 in
theorem Z4b:joinedFacts Tryz.checked.prog 9 Tryz.f9 Rows.fnTestValuesSpec Rows.fnTestValuesRow=true:=by
 unfold joinedFacts
 simp only [Bool.and_eq_true]
 iterate 31 refine ⟨?_,by as_aux_lemma=>kernel_rfl⟩
 as_aux_lemma=>kernel_rfl
set_option maxRecDepth 100000 in
theorem Z2t:(Tryz.checked.prog).funcNamed Rows.fnTestValuesRow.func=some 9:=by kernel_rfl
theorem Z4a:(Tryz.f9).isInstance Tryz.checked.prog Rows.fnTestValuesRow.origin Rows.fnTestValuesRow.targs:=of_decide_eq_true (by kernel_rfl)
theorem Z5q:(Tryz.f9).isWrapper Tryz.checked.prog Rows.fnTestValuesRow.wrapper Rows.fnTestValuesRow.mainSum:=by
 unfold Func.isWrapper
 first | (rw [if_pos (by decide +kernel)];kernel_rfl) | (rw [if_neg (by decide +kernel)];exact ⟨rfl,rfl⟩)
theorem test_values_proved:Rows.FnTestValuesSaid:=
 OpenClaim.holds_of_wide 9 Tryz.f9 rfl rfl rfl rfl rfl rfl rfl ⟨rfl,rfl,rfl,rfl,rfl⟩ rfl rfl rfl rfl rfl Z2t Tryz.func9 Z4b
  Z4a Z5q
  (fun os started H enc _=>Z2s os started H enc)
end Go.Proofs.YtfhpjeogjcfkaaaGreat
