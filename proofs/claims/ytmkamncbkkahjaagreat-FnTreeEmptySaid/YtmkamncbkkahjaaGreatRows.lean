/-
  No cell of these rows narrows 'for every input' (looked for: loops, veiled, ifaces, maps, wideKeys, modest, calm, conditions, laid).
  DERIVED. THE GIVEN ROWS OF THIS SEAT. 6 by the template 'for every input the law returns true; each argument reads behind the call as it read before'; 0 by the template 'total and deterministic' (their statements: YtmkamncbkkahjaaGreatTotals.lean).
  GIVEN WITH THE SEED: the statements are not yours to turn. If you find one false, say at which input.
  Laid BY PROGRAM, IN A SANDBOX (cutbox-rows.mjs): the forced cells as the released guide's own fill.sh prints them over the translation 2af33355ff06d294… (all of the seat's roots in one cut). By AI agents, Wed Nov 11 2026. No macro, syntax, notation, axiom, sorry.
-/
import Derived.Test.YtmkamncbkkahjaaGreatChecked
import GoSem.Claim
import GoSem.ClaimJoined
import GoSem.ClaimMapViews
import Derived.JoinedTies
import Derived.KernelRfl
namespace Go.Proofs.YtmkamncbkkahjaaGreat
/- THE CELL 'sum', in the pinned program and in every row, IS THE sha256 OF THE DUMP (.gsa) THAT YtmkamncbkkahjaaGreatProg.lean LOADS. Nothing in Lean hashes anything: it is a label: what it is worth is what the hold of that sum in a sandbox is worth. -/
noncomputable def Tryz.pinned : Pinned := { name := "ytmkamncbkkahjaagreat", sum := "2af33355ff06d294c10d2f9c95b6d37e1a6a36900221a0997a254b03c60067ce", checked := Tryz.checked }
namespace Rows
def none {H : Type} : Left H := { results := [], args := [] }

/-- 'laws.FnRunSteps': WHATEVER THE INPUT: true; the input reads as it did. -/
def fnRunStepsSpec : ChangeSpec := { name := "fnRunSteps", fn := fun _ => fun
  | [d] => { results := [.lit (.bool true)], args := [d] }
  | _ => none }
def fnRunStepsRow : OpenClaim := { program := "ytmkamncbkkahjaagreat", sum := "2af33355ff06d294c10d2f9c95b6d37e1a6a36900221a0997a254b03c60067ce", func := "loop.example/matchcompiler/laws.FnRunSteps", spec := "fnRunSteps", unfollowed := true, recurses := true, apart := false }
def FnRunStepsSaid : Prop := fnRunStepsRow.holds Tryz.pinned (OpenSpec.ofChange fnRunStepsSpec)

/-- ITS FALSE NEIGHBOUR: 'it returns false'. Refute it at one input. -/
def fnRunStepsWrong : ChangeSpec := { name := "fnRunSteps", fn := fun _ => fun
  | [d] => { results := [.lit (.bool false)], args := [d] }
  | _ => none }
def FnRunStepsWrongFalsely : Prop := fnRunStepsRow.holds Tryz.pinned (OpenSpec.ofChange fnRunStepsWrong)

/-- 'laws.FnGuardNever': WHATEVER THE INPUT: true; the input reads as it did. -/
def fnGuardNeverSpec : ChangeSpec := { name := "fnGuardNever", fn := fun _ => fun
  | [d1, d2] => { results := [.lit (.bool true)], args := [d1, d2] }
  | _ => none }
def fnGuardNeverRow : OpenClaim := { program := "ytmkamncbkkahjaagreat", sum := "2af33355ff06d294c10d2f9c95b6d37e1a6a36900221a0997a254b03c60067ce", func := "loop.example/matchcompiler/laws.FnGuardNever", spec := "fnGuardNever", unfollowed := true, recurses := true, apart := false }
def FnGuardNeverSaid : Prop := fnGuardNeverRow.holds Tryz.pinned (OpenSpec.ofChange fnGuardNeverSpec)

/-- ITS FALSE NEIGHBOUR: 'it returns false'. Refute it at one input. -/
def fnGuardNeverWrong : ChangeSpec := { name := "fnGuardNever", fn := fun _ => fun
  | [d1, d2] => { results := [.lit (.bool false)], args := [d1, d2] }
  | _ => none }
def FnGuardNeverWrongFalsely : Prop := fnGuardNeverRow.holds Tryz.pinned (OpenSpec.ofChange fnGuardNeverWrong)

/-- 'laws.FnGuardPattern': WHATEVER THE INPUT: true; the input reads as it did. -/
def fnGuardPatternSpec : ChangeSpec := { name := "fnGuardPattern", fn := fun _ => fun
  | [d1, d2] => { results := [.lit (.bool true)], args := [d1, d2] }
  | _ => none }
def fnGuardPatternRow : OpenClaim := { program := "ytmkamncbkkahjaagreat", sum := "2af33355ff06d294c10d2f9c95b6d37e1a6a36900221a0997a254b03c60067ce", func := "loop.example/matchcompiler/laws.FnGuardPattern", spec := "fnGuardPattern", unfollowed := true, recurses := true, apart := false }
def FnGuardPatternSaid : Prop := fnGuardPatternRow.holds Tryz.pinned (OpenSpec.ofChange fnGuardPatternSpec)

/-- ITS FALSE NEIGHBOUR: 'it returns false'. Refute it at one input. -/
def fnGuardPatternWrong : ChangeSpec := { name := "fnGuardPattern", fn := fun _ => fun
  | [d1, d2] => { results := [.lit (.bool false)], args := [d1, d2] }
  | _ => none }
def FnGuardPatternWrongFalsely : Prop := fnGuardPatternRow.holds Tryz.pinned (OpenSpec.ofChange fnGuardPatternWrong)

/-- 'laws.FnCoveredClauses': WHATEVER THE INPUT: true; the input reads as it did. -/
def fnCoveredClausesSpec : ChangeSpec := { name := "fnCoveredClauses", fn := fun _ => fun
  | [d] => { results := [.lit (.bool true)], args := [d] }
  | _ => none }
def fnCoveredClausesRow : OpenClaim := { program := "ytmkamncbkkahjaagreat", sum := "2af33355ff06d294c10d2f9c95b6d37e1a6a36900221a0997a254b03c60067ce", func := "loop.example/matchcompiler/laws.FnCoveredClauses", spec := "fnCoveredClauses", unfollowed := true, recurses := true, apart := false }
def FnCoveredClausesSaid : Prop := fnCoveredClausesRow.holds Tryz.pinned (OpenSpec.ofChange fnCoveredClausesSpec)

/-- ITS FALSE NEIGHBOUR: 'it returns false'. Refute it at one input. -/
def fnCoveredClausesWrong : ChangeSpec := { name := "fnCoveredClauses", fn := fun _ => fun
  | [d] => { results := [.lit (.bool false)], args := [d] }
  | _ => none }
def FnCoveredClausesWrongFalsely : Prop := fnCoveredClausesRow.holds Tryz.pinned (OpenSpec.ofChange fnCoveredClausesWrong)

/-- 'laws.FnTreeEmpty': WHATEVER THE INPUT: true; the input reads as it did. -/
def fnTreeEmptySpec : ChangeSpec := { name := "fnTreeEmpty", fn := fun _ => fun
  | [d] => { results := [.lit (.bool true)], args := [d] }
  | _ => none }
def fnTreeEmptyRow : OpenClaim := { program := "ytmkamncbkkahjaagreat", sum := "2af33355ff06d294c10d2f9c95b6d37e1a6a36900221a0997a254b03c60067ce", func := "loop.example/matchcompiler/laws.FnTreeEmpty", spec := "fnTreeEmpty", unfollowed := true, recurses := true, apart := false }
def FnTreeEmptySaid : Prop := fnTreeEmptyRow.holds Tryz.pinned (OpenSpec.ofChange fnTreeEmptySpec)

/-- ITS FALSE NEIGHBOUR: 'it returns false'. Refute it at one input. -/
def fnTreeEmptyWrong : ChangeSpec := { name := "fnTreeEmpty", fn := fun _ => fun
  | [d] => { results := [.lit (.bool false)], args := [d] }
  | _ => none }
def FnTreeEmptyWrongFalsely : Prop := fnTreeEmptyRow.holds Tryz.pinned (OpenSpec.ofChange fnTreeEmptyWrong)

/-- 'laws.FnTreeNodes': WHATEVER THE INPUT: true; the input reads as it did. -/
def fnTreeNodesSpec : ChangeSpec := { name := "fnTreeNodes", fn := fun _ => fun
  | [d] => { results := [.lit (.bool true)], args := [d] }
  | _ => none }
def fnTreeNodesRow : OpenClaim := { program := "ytmkamncbkkahjaagreat", sum := "2af33355ff06d294c10d2f9c95b6d37e1a6a36900221a0997a254b03c60067ce", func := "loop.example/matchcompiler/laws.FnTreeNodes", spec := "fnTreeNodes", unfollowed := true, recurses := true, apart := false }
def FnTreeNodesSaid : Prop := fnTreeNodesRow.holds Tryz.pinned (OpenSpec.ofChange fnTreeNodesSpec)

/-- ITS FALSE NEIGHBOUR: 'it returns false'. Refute it at one input. -/
def fnTreeNodesWrong : ChangeSpec := { name := "fnTreeNodes", fn := fun _ => fun
  | [d] => { results := [.lit (.bool false)], args := [d] }
  | _ => none }
def FnTreeNodesWrongFalsely : Prop := fnTreeNodesRow.holds Tryz.pinned (OpenSpec.ofChange fnTreeNodesWrong)

/- THE SECOND FORM. 'bulk': how many values and letters a reading holds, each counted each time it is reached (what is shared counts as often as it is met; a slice's spare places count too). A statement '..UptoSaid' is the law's where the arguments, and the package variables that the reading takes, are together of bulk at most 1048576: NARROWER than '..Said'. Prove '..Said' where nothing that the law and all that it calls make is longer than what came in: it says more and counts as full. Else prove '..UptoSaid'. A law counts once. -/
mutual
def uptoBulk {H : Type} : DataW H → Nat
  | .lit (.string bytes) => bytes.length + 1
  | .lit _ => 1
  | .nil => 1
  | .ptr d => uptoBulk d + 1
  | .slice elems spare => uptoBulkAll elems + uptoBulkAll spare + 1
  | .agg parts => uptoBulkAll parts + 1
  | .iface _ d => uptoBulk d + 1
  | .map entries => uptoBulkEntries entries + 1
  | .held _ => 1
def uptoBulkAll {H : Type} : List (DataW H) → Nat
  | [] => 0
  | d :: r => uptoBulk d + uptoBulkAll r
def uptoBulkEntries {H : Type} : List (Lit × DataW H) → Nat
  | [] => 0
  | x :: r => uptoBulkEntry x + uptoBulkEntries r
def uptoBulkEntry {H : Type} : Lit × DataW H → Nat
  | (.string bytes, d) => bytes.length + uptoBulk d + 1
  | (_, d) => uptoBulk d + 1
 end
def uptoSmall : (H : Type) → List (DataW H) → Bool := fun _ ds => decide (uptoBulkAll ds ≤ 1048576)
def OpenSpec.upto (s : _root_.Go.ChangeSpec) : _root_.Go.OpenSpec := { _root_.Go.OpenSpec.ofChange s with cond := some uptoSmall }

/-- 'laws.FnRunSteps', WHERE WHAT IT READS IS OF BULK AT MOST 1048576: true; the input reads as it did. -/
def fnRunStepsUptoRow : OpenClaim := { program := "ytmkamncbkkahjaagreat", sum := "2af33355ff06d294c10d2f9c95b6d37e1a6a36900221a0997a254b03c60067ce", func := "loop.example/matchcompiler/laws.FnRunSteps", spec := "fnRunSteps", unfollowed := true, recurses := true, apart := false, narrowed := true }
def FnRunStepsUptoSaid : Prop := fnRunStepsUptoRow.holds Tryz.pinned (OpenSpec.upto fnRunStepsSpec)

/-- 'laws.FnGuardNever', WHERE WHAT IT READS IS OF BULK AT MOST 1048576: true; the input reads as it did. -/
def fnGuardNeverUptoRow : OpenClaim := { program := "ytmkamncbkkahjaagreat", sum := "2af33355ff06d294c10d2f9c95b6d37e1a6a36900221a0997a254b03c60067ce", func := "loop.example/matchcompiler/laws.FnGuardNever", spec := "fnGuardNever", unfollowed := true, recurses := true, apart := false, narrowed := true }
def FnGuardNeverUptoSaid : Prop := fnGuardNeverUptoRow.holds Tryz.pinned (OpenSpec.upto fnGuardNeverSpec)

/-- 'laws.FnGuardPattern', WHERE WHAT IT READS IS OF BULK AT MOST 1048576: true; the input reads as it did. -/
def fnGuardPatternUptoRow : OpenClaim := { program := "ytmkamncbkkahjaagreat", sum := "2af33355ff06d294c10d2f9c95b6d37e1a6a36900221a0997a254b03c60067ce", func := "loop.example/matchcompiler/laws.FnGuardPattern", spec := "fnGuardPattern", unfollowed := true, recurses := true, apart := false, narrowed := true }
def FnGuardPatternUptoSaid : Prop := fnGuardPatternUptoRow.holds Tryz.pinned (OpenSpec.upto fnGuardPatternSpec)

/-- 'laws.FnCoveredClauses', WHERE WHAT IT READS IS OF BULK AT MOST 1048576: true; the input reads as it did. -/
def fnCoveredClausesUptoRow : OpenClaim := { program := "ytmkamncbkkahjaagreat", sum := "2af33355ff06d294c10d2f9c95b6d37e1a6a36900221a0997a254b03c60067ce", func := "loop.example/matchcompiler/laws.FnCoveredClauses", spec := "fnCoveredClauses", unfollowed := true, recurses := true, apart := false, narrowed := true }
def FnCoveredClausesUptoSaid : Prop := fnCoveredClausesUptoRow.holds Tryz.pinned (OpenSpec.upto fnCoveredClausesSpec)

/-- 'laws.FnTreeEmpty', WHERE WHAT IT READS IS OF BULK AT MOST 1048576: true; the input reads as it did. -/
def fnTreeEmptyUptoRow : OpenClaim := { program := "ytmkamncbkkahjaagreat", sum := "2af33355ff06d294c10d2f9c95b6d37e1a6a36900221a0997a254b03c60067ce", func := "loop.example/matchcompiler/laws.FnTreeEmpty", spec := "fnTreeEmpty", unfollowed := true, recurses := true, apart := false, narrowed := true }
def FnTreeEmptyUptoSaid : Prop := fnTreeEmptyUptoRow.holds Tryz.pinned (OpenSpec.upto fnTreeEmptySpec)

/-- 'laws.FnTreeNodes', WHERE WHAT IT READS IS OF BULK AT MOST 1048576: true; the input reads as it did. -/
def fnTreeNodesUptoRow : OpenClaim := { program := "ytmkamncbkkahjaagreat", sum := "2af33355ff06d294c10d2f9c95b6d37e1a6a36900221a0997a254b03c60067ce", func := "loop.example/matchcompiler/laws.FnTreeNodes", spec := "fnTreeNodes", unfollowed := true, recurses := true, apart := false, narrowed := true }
def FnTreeNodesUptoSaid : Prop := fnTreeNodesUptoRow.holds Tryz.pinned (OpenSpec.upto fnTreeNodesSpec)

end Rows
end Go.Proofs.YtmkamncbkkahjaaGreat
