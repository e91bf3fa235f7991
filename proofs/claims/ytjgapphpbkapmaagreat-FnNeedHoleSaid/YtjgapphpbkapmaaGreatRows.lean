/-
  No cell of these rows narrows 'for every input' (looked for: loops, veiled, ifaces, maps, wideKeys, modest, calm, conditions, laid).
  DERIVED. THE GIVEN ROWS OF THIS SEAT. 8 by the template 'for every input the law returns true; each argument reads behind the call as it read before'; 0 by the template 'total and deterministic' (their statements: YtjgapphpbkapmaaGreatTotals.lean).
  GIVEN WITH THE SEED: the statements are not yours to turn. If you find one false, say at which input.
  Laid BY PROGRAM, IN A SANDBOX (cutbox-rows.mjs): the forced cells as the released guide's own fill.sh prints them over the translation 76276600d16fe6b0… (all of the seat's roots in one cut). By AI agents, Wed Nov 11 2026. No macro, syntax, notation, axiom, sorry.
-/
import Derived.Test.YtjgapphpbkapmaaGreatChecked
import GoSem.Claim
import GoSem.ClaimJoined
import GoSem.ClaimMapViews
import Derived.JoinedTies
import Derived.KernelRfl
namespace Go.Proofs.YtjgapphpbkapmaaGreat
/- THE CELL 'sum', in the pinned program and in every row, IS THE sha256 OF THE DUMP (.gsa) THAT YtjgapphpbkapmaaGreatProg.lean LOADS. Nothing in Lean hashes anything: it is a label: what it is worth is what the hold of that sum in a sandbox is worth. -/
noncomputable def Tryz.pinned : Pinned := { name := "ytjgapphpbkapmaagreat", sum := "76276600d16fe6b033b3faa41dda3560f3a3d5a835e9cc4a166fbabb1c3f77d7", checked := Tryz.checked }
namespace Rows
def none {H : Type} : Left H := { results := [], args := [] }

/-- 'laws.FnRunSteps': WHATEVER THE INPUT: true; the input reads as it did. -/
def fnRunStepsSpec : ChangeSpec := { name := "fnRunSteps", fn := fun _ => fun
  | [d] => { results := [.lit (.bool true)], args := [d] }
  | _ => none }
def fnRunStepsRow : OpenClaim := { program := "ytjgapphpbkapmaagreat", sum := "76276600d16fe6b033b3faa41dda3560f3a3d5a835e9cc4a166fbabb1c3f77d7", func := "loop.example/matchcompiler/laws.FnRunSteps", spec := "fnRunSteps", unfollowed := true, recurses := true, apart := false }
def FnRunStepsSaid : Prop := fnRunStepsRow.holds Tryz.pinned (OpenSpec.ofChange fnRunStepsSpec)

/-- ITS FALSE NEIGHBOUR: 'it returns false'. Refute it at one input. -/
def fnRunStepsWrong : ChangeSpec := { name := "fnRunSteps", fn := fun _ => fun
  | [d] => { results := [.lit (.bool false)], args := [d] }
  | _ => none }
def FnRunStepsWrongFalsely : Prop := fnRunStepsRow.holds Tryz.pinned (OpenSpec.ofChange fnRunStepsWrong)

/-- 'laws.FnBestPick': WHATEVER THE INPUT: true; the input reads as it did. -/
def fnBestPickSpec : ChangeSpec := { name := "fnBestPick", fn := fun _ => fun
  | [d] => { results := [.lit (.bool true)], args := [d] }
  | _ => none }
def fnBestPickRow : OpenClaim := { program := "ytjgapphpbkapmaagreat", sum := "76276600d16fe6b033b3faa41dda3560f3a3d5a835e9cc4a166fbabb1c3f77d7", func := "loop.example/matchcompiler/laws.FnBestPick", spec := "fnBestPick", unfollowed := true, recurses := true, apart := false }
def FnBestPickSaid : Prop := fnBestPickRow.holds Tryz.pinned (OpenSpec.ofChange fnBestPickSpec)

/-- ITS FALSE NEIGHBOUR: 'it returns false'. Refute it at one input. -/
def fnBestPickWrong : ChangeSpec := { name := "fnBestPick", fn := fun _ => fun
  | [d] => { results := [.lit (.bool false)], args := [d] }
  | _ => none }
def FnBestPickWrongFalsely : Prop := fnBestPickRow.holds Tryz.pinned (OpenSpec.ofChange fnBestPickWrong)

/-- 'laws.FnStepsTree': WHATEVER THE INPUT: true; the input reads as it did. -/
def fnStepsTreeSpec : ChangeSpec := { name := "fnStepsTree", fn := fun _ => fun
  | [d] => { results := [.lit (.bool true)], args := [d] }
  | _ => none }
def fnStepsTreeRow : OpenClaim := { program := "ytjgapphpbkapmaagreat", sum := "76276600d16fe6b033b3faa41dda3560f3a3d5a835e9cc4a166fbabb1c3f77d7", func := "loop.example/matchcompiler/laws.FnStepsTree", spec := "fnStepsTree", unfollowed := true, recurses := true, apart := false }
def FnStepsTreeSaid : Prop := fnStepsTreeRow.holds Tryz.pinned (OpenSpec.ofChange fnStepsTreeSpec)

/-- ITS FALSE NEIGHBOUR: 'it returns false'. Refute it at one input. -/
def fnStepsTreeWrong : ChangeSpec := { name := "fnStepsTree", fn := fun _ => fun
  | [d] => { results := [.lit (.bool false)], args := [d] }
  | _ => none }
def FnStepsTreeWrongFalsely : Prop := fnStepsTreeRow.holds Tryz.pinned (OpenSpec.ofChange fnStepsTreeWrong)

/-- 'laws.FnNeedHole': WHATEVER THE INPUT: true; the input reads as it did. -/
def fnNeedHoleSpec : ChangeSpec := { name := "fnNeedHole", fn := fun _ => fun
  | [d] => { results := [.lit (.bool true)], args := [d] }
  | _ => none }
def fnNeedHoleRow : OpenClaim := { program := "ytjgapphpbkapmaagreat", sum := "76276600d16fe6b033b3faa41dda3560f3a3d5a835e9cc4a166fbabb1c3f77d7", func := "loop.example/matchcompiler/laws.FnNeedHole", spec := "fnNeedHole", unfollowed := true, recurses := true, apart := false }
def FnNeedHoleSaid : Prop := fnNeedHoleRow.holds Tryz.pinned (OpenSpec.ofChange fnNeedHoleSpec)

/-- ITS FALSE NEIGHBOUR: 'it returns false'. Refute it at one input. -/
def fnNeedHoleWrong : ChangeSpec := { name := "fnNeedHole", fn := fun _ => fun
  | [d] => { results := [.lit (.bool false)], args := [d] }
  | _ => none }
def FnNeedHoleWrongFalsely : Prop := fnNeedHoleRow.holds Tryz.pinned (OpenSpec.ofChange fnNeedHoleWrong)

/-- 'laws.FnRunNodes': WHATEVER THE INPUT: true; the input reads as it did. -/
def fnRunNodesSpec : ChangeSpec := { name := "fnRunNodes", fn := fun _ => fun
  | [d] => { results := [.lit (.bool true)], args := [d] }
  | _ => none }
def fnRunNodesRow : OpenClaim := { program := "ytjgapphpbkapmaagreat", sum := "76276600d16fe6b033b3faa41dda3560f3a3d5a835e9cc4a166fbabb1c3f77d7", func := "loop.example/matchcompiler/laws.FnRunNodes", spec := "fnRunNodes", unfollowed := true, recurses := true, apart := false }
def FnRunNodesSaid : Prop := fnRunNodesRow.holds Tryz.pinned (OpenSpec.ofChange fnRunNodesSpec)

/-- ITS FALSE NEIGHBOUR: 'it returns false'. Refute it at one input. -/
def fnRunNodesWrong : ChangeSpec := { name := "fnRunNodes", fn := fun _ => fun
  | [d] => { results := [.lit (.bool false)], args := [d] }
  | _ => none }
def FnRunNodesWrongFalsely : Prop := fnRunNodesRow.holds Tryz.pinned (OpenSpec.ofChange fnRunNodesWrong)

/-- 'laws.FnRunWhole': WHATEVER THE INPUT: true; the input reads as it did. -/
def fnRunWholeSpec : ChangeSpec := { name := "fnRunWhole", fn := fun _ => fun
  | [d] => { results := [.lit (.bool true)], args := [d] }
  | _ => none }
def fnRunWholeRow : OpenClaim := { program := "ytjgapphpbkapmaagreat", sum := "76276600d16fe6b033b3faa41dda3560f3a3d5a835e9cc4a166fbabb1c3f77d7", func := "loop.example/matchcompiler/laws.FnRunWhole", spec := "fnRunWhole", unfollowed := true, recurses := true, apart := false }
def FnRunWholeSaid : Prop := fnRunWholeRow.holds Tryz.pinned (OpenSpec.ofChange fnRunWholeSpec)

/-- ITS FALSE NEIGHBOUR: 'it returns false'. Refute it at one input. -/
def fnRunWholeWrong : ChangeSpec := { name := "fnRunWhole", fn := fun _ => fun
  | [d] => { results := [.lit (.bool false)], args := [d] }
  | _ => none }
def FnRunWholeWrongFalsely : Prop := fnRunWholeRow.holds Tryz.pinned (OpenSpec.ofChange fnRunWholeWrong)

/-- 'laws.FnForcedPaths': WHATEVER THE INPUT: true; the input reads as it did. -/
def fnForcedPathsSpec : ChangeSpec := { name := "fnForcedPaths", fn := fun _ => fun
  | [d] => { results := [.lit (.bool true)], args := [d] }
  | _ => none }
def fnForcedPathsRow : OpenClaim := { program := "ytjgapphpbkapmaagreat", sum := "76276600d16fe6b033b3faa41dda3560f3a3d5a835e9cc4a166fbabb1c3f77d7", func := "loop.example/matchcompiler/laws.FnForcedPaths", spec := "fnForcedPaths", unfollowed := true, recurses := true, apart := false }
def FnForcedPathsSaid : Prop := fnForcedPathsRow.holds Tryz.pinned (OpenSpec.ofChange fnForcedPathsSpec)

/-- ITS FALSE NEIGHBOUR: 'it returns false'. Refute it at one input. -/
def fnForcedPathsWrong : ChangeSpec := { name := "fnForcedPaths", fn := fun _ => fun
  | [d] => { results := [.lit (.bool false)], args := [d] }
  | _ => none }
def FnForcedPathsWrongFalsely : Prop := fnForcedPathsRow.holds Tryz.pinned (OpenSpec.ofChange fnForcedPathsWrong)

/-- 'laws.FnRunPartial': WHATEVER THE INPUT: true; the input reads as it did. -/
def fnRunPartialSpec : ChangeSpec := { name := "fnRunPartial", fn := fun _ => fun
  | [d1, d2] => { results := [.lit (.bool true)], args := [d1, d2] }
  | _ => none }
def fnRunPartialRow : OpenClaim := { program := "ytjgapphpbkapmaagreat", sum := "76276600d16fe6b033b3faa41dda3560f3a3d5a835e9cc4a166fbabb1c3f77d7", func := "loop.example/matchcompiler/laws.FnRunPartial", spec := "fnRunPartial", unfollowed := true, recurses := true, apart := false }
def FnRunPartialSaid : Prop := fnRunPartialRow.holds Tryz.pinned (OpenSpec.ofChange fnRunPartialSpec)

/-- ITS FALSE NEIGHBOUR: 'it returns false'. Refute it at one input. -/
def fnRunPartialWrong : ChangeSpec := { name := "fnRunPartial", fn := fun _ => fun
  | [d1, d2] => { results := [.lit (.bool false)], args := [d1, d2] }
  | _ => none }
def FnRunPartialWrongFalsely : Prop := fnRunPartialRow.holds Tryz.pinned (OpenSpec.ofChange fnRunPartialWrong)

/- THE SECOND FORM. 'bulk': how many values and letters a reading holds, each counted each time it is reached (what is shared counts as often as it is met; a slice's spare places count too). A statement '..UptoSaid' is the law's where the arguments, and the package variables that the reading takes, are together of bulk at most 1048576: NARROWER than '..Said'. Prove '..Said' where nothing that the law and all that it calls make is longer than what came in: it says more and counts as full. Else prove '..UptoSaid'. A law counts once. -/
mutual
def uptoBulk {H : Type} : DataW H → Nat
  | .lit (.string bytes) => bytes.length + 1
  | .lit _ => 1
  | .nil => 1
  | .ptr d => uptoBulk d + 1
  | .slice elems spare => uptoBulkAll elems + uptoBulkAll spare + 1
  | .agg parts => uptoBulkAll parts + 1
  | .iface _ d => uptoBulk d + 1
  | .map entries => uptoBulkEntries entries + 1
  | .held _ => 1
def uptoBulkAll {H : Type} : List (DataW H) → Nat
  | [] => 0
  | d :: r => uptoBulk d + uptoBulkAll r
def uptoBulkEntries {H : Type} : List (Lit × DataW H) → Nat
  | [] => 0
  | x :: r => uptoBulkEntry x + uptoBulkEntries r
def uptoBulkEntry {H : Type} : Lit × DataW H → Nat
  | (.string bytes, d) => bytes.length + uptoBulk d + 1
  | (_, d) => uptoBulk d + 1
 end
def uptoSmall : (H : Type) → List (DataW H) → Bool := fun _ ds => decide (uptoBulkAll ds ≤ 1048576)
def OpenSpec.upto (s : _root_.Go.ChangeSpec) : _root_.Go.OpenSpec := { _root_.Go.OpenSpec.ofChange s with cond := some uptoSmall }

/-- 'laws.FnRunSteps', WHERE WHAT IT READS IS OF BULK AT MOST 1048576: true; the input reads as it did. -/
def fnRunStepsUptoRow : OpenClaim := { program := "ytjgapphpbkapmaagreat", sum := "76276600d16fe6b033b3faa41dda3560f3a3d5a835e9cc4a166fbabb1c3f77d7", func := "loop.example/matchcompiler/laws.FnRunSteps", spec := "fnRunSteps", unfollowed := true, recurses := true, apart := false, narrowed := true }
def FnRunStepsUptoSaid : Prop := fnRunStepsUptoRow.holds Tryz.pinned (OpenSpec.upto fnRunStepsSpec)

/-- 'laws.FnBestPick', WHERE WHAT IT READS IS OF BULK AT MOST 1048576: true; the input reads as it did. -/
def fnBestPickUptoRow : OpenClaim := { program := "ytjgapphpbkapmaagreat", sum := "76276600d16fe6b033b3faa41dda3560f3a3d5a835e9cc4a166fbabb1c3f77d7", func := "loop.example/matchcompiler/laws.FnBestPick", spec := "fnBestPick", unfollowed := true, recurses := true, apart := false, narrowed := true }
def FnBestPickUptoSaid : Prop := fnBestPickUptoRow.holds Tryz.pinned (OpenSpec.upto fnBestPickSpec)

/-- 'laws.FnStepsTree', WHERE WHAT IT READS IS OF BULK AT MOST 1048576: true; the input reads as it did. -/
def fnStepsTreeUptoRow : OpenClaim := { program := "ytjgapphpbkapmaagreat", sum := "76276600d16fe6b033b3faa41dda3560f3a3d5a835e9cc4a166fbabb1c3f77d7", func := "loop.example/matchcompiler/laws.FnStepsTree", spec := "fnStepsTree", unfollowed := true, recurses := true, apart := false, narrowed := true }
def FnStepsTreeUptoSaid : Prop := fnStepsTreeUptoRow.holds Tryz.pinned (OpenSpec.upto fnStepsTreeSpec)

/-- 'laws.FnNeedHole', WHERE WHAT IT READS IS OF BULK AT MOST 1048576: true; the input reads as it did. -/
def fnNeedHoleUptoRow : OpenClaim := { program := "ytjgapphpbkapmaagreat", sum := "76276600d16fe6b033b3faa41dda3560f3a3d5a835e9cc4a166fbabb1c3f77d7", func := "loop.example/matchcompiler/laws.FnNeedHole", spec := "fnNeedHole", unfollowed := true, recurses := true, apart := false, narrowed := true }
def FnNeedHoleUptoSaid : Prop := fnNeedHoleUptoRow.holds Tryz.pinned (OpenSpec.upto fnNeedHoleSpec)

/-- 'laws.FnRunNodes', WHERE WHAT IT READS IS OF BULK AT MOST 1048576: true; the input reads as it did. -/
def fnRunNodesUptoRow : OpenClaim := { program := "ytjgapphpbkapmaagreat", sum := "76276600d16fe6b033b3faa41dda3560f3a3d5a835e9cc4a166fbabb1c3f77d7", func := "loop.example/matchcompiler/laws.FnRunNodes", spec := "fnRunNodes", unfollowed := true, recurses := true, apart := false, narrowed := true }
def FnRunNodesUptoSaid : Prop := fnRunNodesUptoRow.holds Tryz.pinned (OpenSpec.upto fnRunNodesSpec)

/-- 'laws.FnRunWhole', WHERE WHAT IT READS IS OF BULK AT MOST 1048576: true; the input reads as it did. -/
def fnRunWholeUptoRow : OpenClaim := { program := "ytjgapphpbkapmaagreat", sum := "76276600d16fe6b033b3faa41dda3560f3a3d5a835e9cc4a166fbabb1c3f77d7", func := "loop.example/matchcompiler/laws.FnRunWhole", spec := "fnRunWhole", unfollowed := true, recurses := true, apart := false, narrowed := true }
def FnRunWholeUptoSaid : Prop := fnRunWholeUptoRow.holds Tryz.pinned (OpenSpec.upto fnRunWholeSpec)

/-- 'laws.FnForcedPaths', WHERE WHAT IT READS IS OF BULK AT MOST 1048576: true; the input reads as it did. -/
def fnForcedPathsUptoRow : OpenClaim := { program := "ytjgapphpbkapmaagreat", sum := "76276600d16fe6b033b3faa41dda3560f3a3d5a835e9cc4a166fbabb1c3f77d7", func := "loop.example/matchcompiler/laws.FnForcedPaths", spec := "fnForcedPaths", unfollowed := true, recurses := true, apart := false, narrowed := true }
def FnForcedPathsUptoSaid : Prop := fnForcedPathsUptoRow.holds Tryz.pinned (OpenSpec.upto fnForcedPathsSpec)

/-- 'laws.FnRunPartial', WHERE WHAT IT READS IS OF BULK AT MOST 1048576: true; the input reads as it did. -/
def fnRunPartialUptoRow : OpenClaim := { program := "ytjgapphpbkapmaagreat", sum := "76276600d16fe6b033b3faa41dda3560f3a3d5a835e9cc4a166fbabb1c3f77d7", func := "loop.example/matchcompiler/laws.FnRunPartial", spec := "fnRunPartial", unfollowed := true, recurses := true, apart := false, narrowed := true }
def FnRunPartialUptoSaid : Prop := fnRunPartialUptoRow.holds Tryz.pinned (OpenSpec.upto fnRunPartialSpec)

end Rows
end Go.Proofs.YtjgapphpbkapmaaGreat
