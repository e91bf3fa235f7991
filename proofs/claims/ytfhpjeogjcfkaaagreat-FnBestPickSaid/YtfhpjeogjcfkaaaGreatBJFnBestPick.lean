/- The best way to choose: the law FnBestPick returns true for all arguments and leaves them as they were. Conditions: none beyond the given statement's own. -/
import Derived.Test.YtfhpjeogjcfkaaaGreatBJClm
import Derived.Test.YtfhpjeogjcfkaaaGreatBJPb0
import Derived.Test.YtfhpjeogjcfkaaaGreatBJCb0
set_option linter.unusedSimpArgs false
set_option linter.unusedVariables false
namespace Go.Proofs.YtfhpjeogjcfkaaaGreat
open Go Go.ChangeShapes Go.WideShapes Go.ChangeAt Go.RowKit
theorem X66:ownKnob Tryz.prog.godebug=none:=by kernel_rfl
theorem X67 (l1:List Int)(h1:∀ z∈l1,0≤z∧z≤255):Q8 Tryz.prog 4 [.slice 1 (List.map (rK .u8) l1)] (fun d=>d=eB true):=
 Z85 NN l1 true (X55 l1 h1)
set_option maxRecDepth 100000 in
theorem Z9h (os:Os)(started:os.Started)(H:Type)(enc:TypeId×Value→H) :
  ReturnsInHanded {} Tryz.checked os 4 .any (Rows.fnBestPickSpec.pre6 enc Tryz.prog Tryz.f4 Rows.fnBestPickRow.domain false) (Rows.fnBestPickSpec.post enc Tryz.prog Tryz.f4 false true false false):=by
 refine returnsInHanded_of_change (C:=Tryz.checked) X66 started (by kernel_rfl) Tryz.func4
  (ChangeSpec.witness6 (enc:=enc) (C:=Tryz.checked) false ⟨#[],#[.slice none 0 0],[]⟩ 8 (by kernel_rfl) (by kernel_rfl) (by kernel_rfl) (by kernel_rfl)) ?_
 intro W base args ds gs before hval hW _ _
 exact law1 (t:=22) (e:=5) (tb:=4) (fun _ _=>rfl) rfl rfl rfl (by kernel_rfl) (by kernel_rfl) (by kernel_rfl) (by kernel_rfl) X67 hval hW
set_option maxRecDepth 100000 in
set_option maxHeartbeats 0 in
theorem X29:joinedFacts Tryz.checked.prog 4 Tryz.f4 Rows.fnBestPickSpec Rows.fnBestPickRow=true:=by
 unfold joinedFacts
 simp only [Bool.and_eq_true]
 iterate 31 refine ⟨?_,by as_aux_lemma=>kernel_rfl⟩
 as_aux_lemma=>kernel_rfl
set_option maxRecDepth 100000 in
theorem Z9i:(Tryz.checked.prog).funcNamed Rows.fnBestPickRow.func=some 4:=by kernel_rfl
theorem X28:(Tryz.f4).isInstance Tryz.checked.prog Rows.fnBestPickRow.origin Rows.fnBestPickRow.targs:=of_decide_eq_true (by kernel_rfl)
theorem X39:(Tryz.f4).isWrapper Tryz.checked.prog Rows.fnBestPickRow.wrapper Rows.fnBestPickRow.mainSum:=by
 unfold Func.isWrapper
 first | (rw [if_pos (by decide +kernel)];kernel_rfl) | (rw [if_neg (by decide +kernel)];exact ⟨rfl,rfl⟩)
theorem best_pick_proved:Rows.FnBestPickSaid:=
 OpenClaim.holds_of_wide 4 Tryz.f4 rfl rfl rfl rfl rfl rfl rfl ⟨rfl,rfl,rfl,rfl,rfl⟩ rfl rfl rfl rfl rfl Z9i Tryz.func4 X29
  X28 X39
  (fun os started H enc _=>Z9h os started H enc)
end Go.Proofs.YtfhpjeogjcfkaaaGreat
