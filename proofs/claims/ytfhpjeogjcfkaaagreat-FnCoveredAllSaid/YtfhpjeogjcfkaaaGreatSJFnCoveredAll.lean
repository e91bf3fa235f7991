/- Enumeration covers: the law FnCoveredAll returns true for all arguments and leaves them as they were. Conditions: none beyond the given statement's own. -/
import Derived.Test.YtfhpjeogjcfkaaaGreatSJClm
import Derived.Test.YtfhpjeogjcfkaaaGreatSJPd0
import Derived.Test.YtfhpjeogjcfkaaaGreatSJCd0
set_option linter.unusedSimpArgs false
set_option linter.unusedVariables false
namespace Go.Proofs.YtfhpjeogjcfkaaaGreat
open Go Go.ChangeShapes Go.WideShapes Go.ChangeAt Go.RowKit
theorem Z8i:ownKnob Tryz.prog.godebug=none:=by kernel_rfl
theorem Z8j (l1:List Int)(h1:∀ z∈l1,0≤z∧z≤255):Q6 Tryz.prog 10 [.slice 1 (List.map (rK .u8) l1)] (fun d=>d=eB true):=
 Z2j NN l1 true (Z7n l1 h1)
set_option maxRecDepth 100000 in
theorem Z41 (os:Os)(started:os.Started)(H:Type)(enc:TypeId×Value→H) :
  ReturnsInHanded {} Tryz.checked os 10 .any (Rows.fnCoveredAllSpec.pre6 enc Tryz.prog Tryz.f10 Rows.fnCoveredAllRow.domain false) (Rows.fnCoveredAllSpec.post enc Tryz.prog Tryz.f10 false true false false):=by
 refine returnsInHanded_of_change (C:=Tryz.checked) Z8i started (by kernel_rfl) Tryz.func10
  (ChangeSpec.witness6 (enc:=enc) (C:=Tryz.checked) false ⟨#[],#[.slice none 0 0],[]⟩ 8 (by kernel_rfl) (by kernel_rfl) (by kernel_rfl) (by kernel_rfl)) ?_
 intro W base args ds gs before hval hW _ _
 exact law1 (t:=22) (e:=5) (tb:=4) (fun _ _=>rfl) rfl rfl rfl (by kernel_rfl) (by kernel_rfl) (by kernel_rfl) (by kernel_rfl) Z8j hval hW
set_option maxRecDepth 100000 in
set_option maxHeartbeats 0 in
theorem Z4t:joinedFacts Tryz.checked.prog 10 Tryz.f10 Rows.fnCoveredAllSpec Rows.fnCoveredAllRow=true:=by
 unfold joinedFacts
 simp only [Bool.and_eq_true]
 iterate 31 refine ⟨?_,by as_aux_lemma=>kernel_rfl⟩
 as_aux_lemma=>kernel_rfl
set_option maxRecDepth 100000 in
theorem Z42:(Tryz.checked.prog).funcNamed Rows.fnCoveredAllRow.func=some 10:=by kernel_rfl
theorem Z4s:(Tryz.f10).isInstance Tryz.checked.prog Rows.fnCoveredAllRow.origin Rows.fnCoveredAllRow.targs:=of_decide_eq_true (by kernel_rfl)
theorem Z62:(Tryz.f10).isWrapper Tryz.checked.prog Rows.fnCoveredAllRow.wrapper Rows.fnCoveredAllRow.mainSum:=by
 unfold Func.isWrapper
 first | (rw [if_pos (by decide +kernel)];kernel_rfl) | (rw [if_neg (by decide +kernel)];exact ⟨rfl,rfl⟩)
theorem covered_all_proved:Rows.FnCoveredAllSaid:=
 OpenClaim.holds_of_wide 10 Tryz.f10 rfl rfl rfl rfl rfl rfl rfl ⟨rfl,rfl,rfl,rfl,rfl⟩ rfl rfl rfl rfl rfl Z42 Tryz.func10 Z4t
  Z4s Z62
  (fun os started H enc _=>Z41 os started H enc)
end Go.Proofs.YtfhpjeogjcfkaaaGreat
