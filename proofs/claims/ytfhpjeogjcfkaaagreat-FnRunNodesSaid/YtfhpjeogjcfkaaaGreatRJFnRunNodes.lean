/- Runs of shared nodes: the law FnRunNodes returns true for all arguments and leaves them as they were. Conditions: none beyond the given statement's own. -/
import Derived.Test.YtfhpjeogjcfkaaaGreatRJClm
import Derived.Test.YtfhpjeogjcfkaaaGreatRJP1
import Derived.Test.YtfhpjeogjcfkaaaGreatRJC6a0
set_option linter.unusedSimpArgs false
set_option linter.unusedVariables false
namespace Go.Proofs.YtfhpjeogjcfkaaaGreat
open Go Go.ChangeShapes Go.WideShapes Go.ChangeAt Go.RowKit
theorem Z94:ownKnob Tryz.prog.godebug=none:=by kernel_rfl
theorem Z95 (l1:List Int)(h1:∀ z∈l1,0≤z∧z≤255):Z2 Tryz.prog 5 [.slice 1 (List.map (rK .u8) l1)] (fun d=>d=eB true):=
 Z3x NN l1 true (Z9g l1 h1)
set_option maxRecDepth 100000 in
theorem Z4p (os:Os)(started:os.Started)(H:Type)(enc:TypeId×Value→H) :
  ReturnsInHanded {} Tryz.checked os 5 .any (Rows.fnRunNodesSpec.pre6 enc Tryz.prog Tryz.f5 Rows.fnRunNodesRow.domain false) (Rows.fnRunNodesSpec.post enc Tryz.prog Tryz.f5 false true false false):=by
 refine returnsInHanded_of_change (C:=Tryz.checked) Z94 started (by kernel_rfl) Tryz.func5
  (ChangeSpec.witness6 (enc:=enc) (C:=Tryz.checked) false ⟨#[],#[.slice none 0 0],[]⟩ 8 (by kernel_rfl) (by kernel_rfl) (by kernel_rfl) (by kernel_rfl)) ?_
 intro W base args ds gs before hval hW _ _
 exact law1 (t:=22) (e:=5) (tb:=4) (fun _ _=>rfl) rfl rfl rfl (by kernel_rfl) (by kernel_rfl) (by kernel_rfl) (by kernel_rfl) Z95 hval hW
set_option maxRecDepth 100000 in
set_option maxHeartbeats 0 in
theorem Z5m:joinedFacts Tryz.checked.prog 5 Tryz.f5 Rows.fnRunNodesSpec Rows.fnRunNodesRow=true:=by
 unfold joinedFacts
 simp only [Bool.and_eq_true]
 iterate 31 refine ⟨?_,by as_aux_lemma=>kernel_rfl⟩
 as_aux_lemma=>kernel_rfl
set_option maxRecDepth 100000 in
theorem Z4q:(Tryz.checked.prog).funcNamed Rows.fnRunNodesRow.func=some 5:=by kernel_rfl
theorem Z5l:(Tryz.f5).isInstance Tryz.checked.prog Rows.fnRunNodesRow.origin Rows.fnRunNodesRow.targs:=of_decide_eq_true (by kernel_rfl)
theorem Z7g:(Tryz.f5).isWrapper Tryz.checked.prog Rows.fnRunNodesRow.wrapper Rows.fnRunNodesRow.mainSum:=by
 unfold Func.isWrapper
 first | (rw [if_pos (by decide +kernel)];kernel_rfl) | (rw [if_neg (by decide +kernel)];exact ⟨rfl,rfl⟩)
theorem run_nodes_proved:Rows.FnRunNodesSaid:=
 OpenClaim.holds_of_wide 5 Tryz.f5 rfl rfl rfl rfl rfl rfl rfl ⟨rfl,rfl,rfl,rfl,rfl⟩ rfl rfl rfl rfl rfl Z4q Tryz.func5 Z5m
  Z5l Z7g
  (fun os started H enc _=>Z4p os started H enc)
end Go.Proofs.YtfhpjeogjcfkaaaGreat
