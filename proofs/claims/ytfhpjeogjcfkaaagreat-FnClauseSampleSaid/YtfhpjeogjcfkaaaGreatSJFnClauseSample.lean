/- Samples choose their clauses: the law FnClauseSample returns true for all arguments and leaves them as they were. Conditions: none beyond the given statement's own. -/
import Derived.Test.YtfhpjeogjcfkaaaGreatSJClm
import Derived.Test.YtfhpjeogjcfkaaaGreatSJPa0
import Derived.Test.YtfhpjeogjcfkaaaGreatSJCa0
set_option linter.unusedSimpArgs false
set_option linter.unusedVariables false
namespace Go.Proofs.YtfhpjeogjcfkaaaGreat
open Go Go.ChangeShapes Go.WideShapes Go.ChangeAt Go.RowKit
theorem Z4x:ownKnob Tryz.prog.godebug=none:=by kernel_rfl
theorem Z4y (l1:List Int)(h1:∀ z∈l1,0≤z∧z≤255):Q6 Tryz.prog 7 [.slice 1 (List.map (rK .u8) l1)] (fun d=>d=eB true):=
 Z16 NN l1 true (Z4i l1 h1)
set_option maxRecDepth 100000 in
theorem Z1p (os:Os)(started:os.Started)(H:Type)(enc:TypeId×Value→H) :
  ReturnsInHanded {} Tryz.checked os 7 .any (Rows.fnClauseSampleSpec.pre6 enc Tryz.prog Tryz.f7 Rows.fnClauseSampleRow.domain false) (Rows.fnClauseSampleSpec.post enc Tryz.prog Tryz.f7 false true false false):=by
 refine returnsInHanded_of_change (C:=Tryz.checked) Z4x started (by kernel_rfl) Tryz.func7
  (ChangeSpec.witness6 (enc:=enc) (C:=Tryz.checked) false ⟨#[],#[.slice none 0 0],[]⟩ 8 (by kernel_rfl) (by kernel_rfl) (by kernel_rfl) (by kernel_rfl)) ?_
 intro W base args ds gs before hval hW _ _
 exact law1 (t:=22) (e:=5) (tb:=4) (fun _ _=>rfl) rfl rfl rfl (by kernel_rfl) (by kernel_rfl) (by kernel_rfl) (by kernel_rfl) Z4y hval hW
set_option maxRecDepth 100000 in
set_option maxHeartbeats 0 in
theorem Z2h:joinedFacts Tryz.checked.prog 7 Tryz.f7 Rows.fnClauseSampleSpec Rows.fnClauseSampleRow=true:=by
 unfold joinedFacts
 simp only [Bool.and_eq_true]
 iterate 31 refine ⟨?_,by as_aux_lemma=>kernel_rfl⟩
 as_aux_lemma=>kernel_rfl
set_option maxRecDepth 100000 in
theorem Z1q:(Tryz.checked.prog).funcNamed Rows.fnClauseSampleRow.func=some 7:=by kernel_rfl
theorem Z2g:(Tryz.f7).isInstance Tryz.checked.prog Rows.fnClauseSampleRow.origin Rows.fnClauseSampleRow.targs:=of_decide_eq_true (by kernel_rfl)
theorem Z43:(Tryz.f7).isWrapper Tryz.checked.prog Rows.fnClauseSampleRow.wrapper Rows.fnClauseSampleRow.mainSum:=by
 unfold Func.isWrapper
 first | (rw [if_pos (by decide +kernel)];kernel_rfl) | (rw [if_neg (by decide +kernel)];exact ⟨rfl,rfl⟩)
theorem clause_sample_proved:Rows.FnClauseSampleSaid:=
 OpenClaim.holds_of_wide 7 Tryz.f7 rfl rfl rfl rfl rfl rfl rfl ⟨rfl,rfl,rfl,rfl,rfl⟩ rfl rfl rfl rfl rfl Z1q Tryz.func7 Z2h
  Z2g Z43
  (fun os started H enc _=>Z1p os started H enc)
end Go.Proofs.YtfhpjeogjcfkaaaGreat
