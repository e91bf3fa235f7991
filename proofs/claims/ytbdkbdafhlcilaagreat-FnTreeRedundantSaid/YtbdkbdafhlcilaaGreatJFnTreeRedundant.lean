/- Redundant clauses and trees: the law FnTreeRedundant returns true for all arguments and leaves them as they were. Conditions: none beyond the given statement's own. -/
import Derived.Test.YtbdkbdafhlcilaaGreatJClm
import Derived.Test.YtbdkbdafhlcilaaGreatJP2
import Derived.Test.YtbdkbdafhlcilaaGreatJC6a0
set_option linter.unusedSimpArgs false
set_option linter.unusedVariables false
namespace Go.Proofs.YtbdkbdafhlcilaaGreat
open Go Go.ChangeShapes Go.WideShapes Go.ChangeAt Go.RowKit
theorem Z4v:ownKnob Tryz.prog.godebug=none:=by kernel_rfl
theorem Z4w (l1:List Int)(h1:∀ z∈l1,0≤z∧z≤255):Z1 Tryz.prog 9 [.slice 1 (List.map (rK .u8) l1)] (fun d=>d=eB true):=
 Z22 NN l1 true (Z5s l1 h1)
set_option maxRecDepth 100000 in
theorem Z24 (os:Os)(started:os.Started)(H:Type)(enc:TypeId×Value→H) :
  ReturnsInHanded {} Tryz.checked os 9 .any (Rows.fnTreeRedundantSpec.pre6 enc Tryz.prog Tryz.f9 Rows.fnTreeRedundantRow.domain false) (Rows.fnTreeRedundantSpec.post enc Tryz.prog Tryz.f9 false true false false):=by
 refine returnsInHanded_of_change (C:=Tryz.checked) Z4v started (by kernel_rfl) Tryz.func9
  (ChangeSpec.witness6 (enc:=enc) (C:=Tryz.checked) false ⟨#[],#[.slice none 0 0],[]⟩ 8 (by kernel_rfl) (by kernel_rfl) (by kernel_rfl) (by kernel_rfl)) ?_
 intro W base args ds gs before hval hW _ _
 exact law1 (t:=22) (e:=5) (tb:=4) (fun _ _=>rfl) rfl rfl rfl (by kernel_rfl) (by kernel_rfl) (by kernel_rfl) (by kernel_rfl) Z4w hval hW
set_option maxRecDepth 100000 in
set_option maxHeartbeats 0 in
theorem Z3i:joinedFacts Tryz.checked.prog 9 Tryz.f9 Rows.fnTreeRedundantSpec Rows.fnTreeRedundantRow=true:=by
 unfold joinedFacts
 simp only [Bool.and_eq_true]
 iterate 31 refine ⟨?_,by as_aux_lemma=>kernel_rfl⟩
 as_aux_lemma=>kernel_rfl
set_option maxRecDepth 100000 in
theorem Z25:(Tryz.checked.prog).funcNamed Rows.fnTreeRedundantRow.func=some 9:=by kernel_rfl
theorem Z3h:(Tryz.f9).isInstance Tryz.checked.prog Rows.fnTreeRedundantRow.origin Rows.fnTreeRedundantRow.targs:=of_decide_eq_true (by kernel_rfl)
theorem Z42:(Tryz.f9).isWrapper Tryz.checked.prog Rows.fnTreeRedundantRow.wrapper Rows.fnTreeRedundantRow.mainSum:=by
 unfold Func.isWrapper
 first | (rw [if_pos (by decide +kernel)];kernel_rfl) | (rw [if_neg (by decide +kernel)];exact ⟨rfl,rfl⟩)
theorem tree_redundant_proved:Rows.FnTreeRedundantSaid:=
 OpenClaim.holds_of_wide 9 Tryz.f9 rfl rfl rfl rfl rfl rfl rfl ⟨rfl,rfl,rfl,rfl,rfl⟩ rfl rfl rfl rfl rfl Z25 Tryz.func9 Z3i
  Z3h Z42
  (fun os started H enc _=>Z24 os started H enc)
end Go.Proofs.YtbdkbdafhlcilaaGreat
