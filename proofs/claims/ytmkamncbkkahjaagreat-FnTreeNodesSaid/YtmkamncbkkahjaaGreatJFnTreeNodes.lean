/- Nodes of trees: the law FnTreeNodes returns true for all arguments and leaves them as they were. Conditions: none beyond the given statement's own. -/
import Derived.Test.YtmkamncbkkahjaaGreatJClm
import Derived.Test.YtmkamncbkkahjaaGreatJP1
import Derived.Test.YtmkamncbkkahjaaGreatJC8
set_option linter.unusedSimpArgs false
set_option linter.unusedVariables false
namespace Go.Proofs.YtmkamncbkkahjaaGreat
open Go Go.ChangeShapes Go.WideShapes Go.ChangeAt Go.RowKit
theorem tree_nodes_own : ownKnob Tryz.prog.godebug = none := by kernel_rfl
theorem tree_nodes_law (l1 : List Int) (h1 : ∀ z ∈ l1, 0 ≤ z ∧ z ≤ 255) : CallsD Tryz.prog 8 [.slice 1 (List.map (rK .u8) l1)] (fun d => d = eB true) :=
  c_laws_FnTreeNodes NN l1 true (law_tree_nodes l1 h1)
set_option maxRecDepth 100000 in
theorem tree_nodes_lifted (os : Os) (started : os.Started) (H : Type) (enc : TypeId × Value → H) :
    ReturnsInHanded {} Tryz.checked os 8 .any (Rows.fnTreeNodesSpec.pre6 enc Tryz.prog Tryz.f8 Rows.fnTreeNodesRow.domain false) (Rows.fnTreeNodesSpec.post enc Tryz.prog Tryz.f8 false true false false) := by
  refine returnsInHanded_of_change (C := Tryz.checked) tree_nodes_own started (by kernel_rfl) Tryz.func8
    (ChangeSpec.witness6 (enc := enc) (C := Tryz.checked) false ⟨#[], #[.slice none 0 0], []⟩ 8 (by kernel_rfl) (by kernel_rfl) (by kernel_rfl) (by kernel_rfl)) ?_
  intro W base args ds gs before hval hW _ _
  exact law1 (t := 22) (e := 5) (tb := 4) (fun _ _ => rfl) rfl rfl rfl (by kernel_rfl) (by kernel_rfl) (by kernel_rfl) (by kernel_rfl) tree_nodes_law hval hW
set_option maxRecDepth 100000 in
set_option maxHeartbeats 0 in
theorem tree_nodes_facts : joinedFacts Tryz.checked.prog 8 Tryz.f8 Rows.fnTreeNodesSpec Rows.fnTreeNodesRow = true := by
  unfold joinedFacts
  simp only [Bool.and_eq_true]
  iterate 31 refine ⟨?_, by as_aux_lemma => kernel_rfl⟩
  as_aux_lemma => kernel_rfl
set_option maxRecDepth 100000 in
theorem tree_nodes_called : (Tryz.checked.prog).funcNamed Rows.fnTreeNodesRow.func = some 8 := by kernel_rfl
theorem tree_nodes_plain : (Tryz.f8).isInstance Tryz.checked.prog Rows.fnTreeNodesRow.origin Rows.fnTreeNodesRow.targs := of_decide_eq_true (by kernel_rfl)
theorem tree_nodes_wrap : (Tryz.f8).isWrapper Tryz.checked.prog Rows.fnTreeNodesRow.wrapper Rows.fnTreeNodesRow.mainSum := by
  unfold Func.isWrapper
  first | (rw [if_pos (by decide +kernel)]; kernel_rfl) | (rw [if_neg (by decide +kernel)]; exact ⟨rfl, rfl⟩)
theorem tree_nodes_proved : Rows.FnTreeNodesSaid :=
  OpenClaim.holds_of_wide 8 Tryz.f8 rfl rfl rfl rfl rfl rfl rfl ⟨rfl, rfl, rfl, rfl, rfl⟩ rfl rfl rfl rfl rfl tree_nodes_called Tryz.func8 tree_nodes_facts
    tree_nodes_plain tree_nodes_wrap
    (fun os started H enc _ => tree_nodes_lifted os started H enc)
end Go.Proofs.YtmkamncbkkahjaaGreat
