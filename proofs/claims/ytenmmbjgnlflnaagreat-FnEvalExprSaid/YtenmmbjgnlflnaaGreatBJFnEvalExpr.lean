/- Evaluated expressions: the law FnEvalExpr returns true for all arguments and leaves them as they were. Conditions: none beyond the given statement's own. -/
import Derived.Test.YtenmmbjgnlflnaaGreatBJClm
import Derived.Test.YtenmmbjgnlflnaaGreatBJPa0
import Derived.Test.YtenmmbjgnlflnaaGreatBJCa0
set_option linter.unusedSimpArgs false
set_option linter.unusedVariables false
namespace Go.Proofs.YtenmmbjgnlflnaaGreat
open Go Go.ChangeShapes Go.WideShapes Go.ChangeAt Go.RowKit
theorem X50:ownKnob Tryz.prog.godebug=none:=by kernel_rfl
theorem X51 (l1:List Int)(h1:∀ z∈l1,0≤z∧z≤255):Q7 Tryz.prog 8 [.slice 1 (List.map (rK .u8) l1)] (fun d=>d=eB true):=
 Z7w NN l1 true (X4f l1 h1)
set_option maxRecDepth 100000 in
theorem Z94 (os:Os)(started:os.Started)(H:Type)(enc:TypeId×Value→H) :
  ReturnsInHanded {} Tryz.checked os 8 .any (Rows.fnEvalExprSpec.pre6 enc Tryz.prog Tryz.f8 Rows.fnEvalExprRow.domain false) (Rows.fnEvalExprSpec.post enc Tryz.prog Tryz.f8 false true false false):=by
 refine returnsInHanded_of_change (C:=Tryz.checked) X50 started (by kernel_rfl) Tryz.func8
  (ChangeSpec.witness6 (enc:=enc) (C:=Tryz.checked) false ⟨#[],#[.slice none 0 0],[]⟩ 8 (by kernel_rfl) (by kernel_rfl) (by kernel_rfl) (by kernel_rfl)) ?_
 intro W base args ds gs before hval hW _ _
 exact law1 (t:=22) (e:=5) (tb:=4) (fun _ _=>rfl) rfl rfl rfl (by kernel_rfl) (by kernel_rfl) (by kernel_rfl) (by kernel_rfl) X51 hval hW
set_option maxRecDepth 100000 in
set_option maxHeartbeats 0 in
theorem X1a:joinedFacts Tryz.checked.prog 8 Tryz.f8 Rows.fnEvalExprSpec Rows.fnEvalExprRow=true:=by
 unfold joinedFacts
 simp only [Bool.and_eq_true]
 iterate 31 refine ⟨?_,by as_aux_lemma=>kernel_rfl⟩
 as_aux_lemma=>kernel_rfl
set_option maxRecDepth 100000 in
theorem Z95:(Tryz.checked.prog).funcNamed Rows.fnEvalExprRow.func=some 8:=by kernel_rfl
theorem X19:(Tryz.f8).isInstance Tryz.checked.prog Rows.fnEvalExprRow.origin Rows.fnEvalExprRow.targs:=of_decide_eq_true (by kernel_rfl)
theorem X2u:(Tryz.f8).isWrapper Tryz.checked.prog Rows.fnEvalExprRow.wrapper Rows.fnEvalExprRow.mainSum:=by
 unfold Func.isWrapper
 first | (rw [if_pos (by decide +kernel)];kernel_rfl) | (rw [if_neg (by decide +kernel)];exact ⟨rfl,rfl⟩)
theorem eval_expr_proved:Rows.FnEvalExprSaid:=
 OpenClaim.holds_of_wide 8 Tryz.f8 rfl rfl rfl rfl rfl rfl rfl ⟨rfl,rfl,rfl,rfl,rfl⟩ rfl rfl rfl rfl rfl Z95 Tryz.func8 X1a
  X19 X2u
  (fun os started H enc _=>Z94 os started H enc)
end Go.Proofs.YtenmmbjgnlflnaaGreat
