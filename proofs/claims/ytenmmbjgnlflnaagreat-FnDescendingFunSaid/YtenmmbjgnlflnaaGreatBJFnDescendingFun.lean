/- Functions that descend: the law FnDescendingFun returns true for all arguments and leaves them as they were. Conditions: none beyond the given statement's own. -/
import Derived.Test.YtenmmbjgnlflnaaGreatBJClm
import Derived.Test.YtenmmbjgnlflnaaGreatBJPc0
import Derived.Test.YtenmmbjgnlflnaaGreatBJCc0
set_option linter.unusedSimpArgs false
set_option linter.unusedVariables false
namespace Go.Proofs.YtenmmbjgnlflnaaGreat
open Go Go.ChangeShapes Go.WideShapes Go.ChangeAt Go.RowKit
theorem Z6n:ownKnob Tryz.prog.godebug=none:=by kernel_rfl
theorem Z6o (l1:List Int)(h1:∀ z∈l1,0≤z∧z≤255):Q7 Tryz.prog 3 [.slice 1 (List.map (rK .u8) l1)] (fun d=>d=eB true):=
 Z32 NN l1 true (X2g l1 h1)
set_option maxRecDepth 100000 in
theorem Z45 (os:Os)(started:os.Started)(H:Type)(enc:TypeId×Value→H) :
  ReturnsInHanded {} Tryz.checked os 3 .any (Rows.fnDescendingFunSpec.pre6 enc Tryz.prog Tryz.f3 Rows.fnDescendingFunRow.domain false) (Rows.fnDescendingFunSpec.post enc Tryz.prog Tryz.f3 false true false false):=by
 refine returnsInHanded_of_change (C:=Tryz.checked) Z6n started (by kernel_rfl) Tryz.func3
  (ChangeSpec.witness6 (enc:=enc) (C:=Tryz.checked) false ⟨#[],#[.slice none 0 0],[]⟩ 8 (by kernel_rfl) (by kernel_rfl) (by kernel_rfl) (by kernel_rfl)) ?_
 intro W base args ds gs before hval hW _ _
 exact law1 (t:=22) (e:=5) (tb:=4) (fun _ _=>rfl) rfl rfl rfl (by kernel_rfl) (by kernel_rfl) (by kernel_rfl) (by kernel_rfl) Z6o hval hW
set_option maxRecDepth 100000 in
set_option maxHeartbeats 0 in
theorem Z4v:joinedFacts Tryz.checked.prog 3 Tryz.f3 Rows.fnDescendingFunSpec Rows.fnDescendingFunRow=true:=by
 unfold joinedFacts
 simp only [Bool.and_eq_true]
 iterate 31 refine ⟨?_,by as_aux_lemma=>kernel_rfl⟩
 as_aux_lemma=>kernel_rfl
set_option maxRecDepth 100000 in
theorem Z46:(Tryz.checked.prog).funcNamed Rows.fnDescendingFunRow.func=some 3:=by kernel_rfl
theorem Z4u:(Tryz.f3).isInstance Tryz.checked.prog Rows.fnDescendingFunRow.origin Rows.fnDescendingFunRow.targs:=of_decide_eq_true (by kernel_rfl)
theorem Z5g:(Tryz.f3).isWrapper Tryz.checked.prog Rows.fnDescendingFunRow.wrapper Rows.fnDescendingFunRow.mainSum:=by
 unfold Func.isWrapper
 first | (rw [if_pos (by decide +kernel)];kernel_rfl) | (rw [if_neg (by decide +kernel)];exact ⟨rfl,rfl⟩)
theorem descending_fun_proved:Rows.FnDescendingFunSaid:=
 OpenClaim.holds_of_wide 3 Tryz.f3 rfl rfl rfl rfl rfl rfl rfl ⟨rfl,rfl,rfl,rfl,rfl⟩ rfl rfl rfl rfl rfl Z46 Tryz.func3 Z4v
  Z4u Z5g
  (fun os started H enc _=>Z45 os started H enc)
end Go.Proofs.YtenmmbjgnlflnaaGreat
