/-
  No cell of these rows narrows 'for every input' (looked for: loops, veiled, ifaces, maps, wideKeys, modest, calm, conditions, laid).
  DERIVED. THE GIVEN ROWS OF THIS SEAT. 7 by the template 'for every input the law returns true; each argument reads behind the call as it read before'; 0 by the template 'total and deterministic' (their statements: YtbdkbdafhlcilaaGreatTotals.lean).
  GIVEN WITH THE SEED: the statements are not yours to turn. If you find one false, say at which input.
  Laid BY PROGRAM, IN A SANDBOX (cutbox-rows.mjs): the forced cells as the released guide's own fill.sh prints them over the translation c8d28ebed10d4553… (all of the seat's roots in one cut). By AI agents, Wed Nov 11 2026. No macro, syntax, notation, axiom, sorry.
-/
import Derived.Test.YtbdkbdafhlcilaaGreatChecked
import GoSem.Claim
import GoSem.ClaimJoined
import GoSem.ClaimMapViews
import Derived.JoinedTies
import Derived.KernelRfl
namespace Go.Proofs.YtbdkbdafhlcilaaGreat
/- THE CELL 'sum', in the pinned program and in every row, IS THE sha256 OF THE DUMP (.gsa) THAT YtbdkbdafhlcilaaGreatProg.lean LOADS. Nothing in Lean hashes anything: it is a label: what it is worth is what the hold of that sum in a sandbox is worth. -/
noncomputable def Tryz.pinned : Pinned := { name := "ytbdkbdafhlcilaagreat", sum := "c8d28ebed10d455349194cece7e823ba7df6776b93ab4d2e408bcc8e3cdc6775", checked := Tryz.checked }
namespace Rows
def none {H : Type} : Left H := { results := [], args := [] }

/-- 'laws.FnCoveredClauses': WHATEVER THE INPUT: true; the input reads as it did. -/
def fnCoveredClausesSpec : ChangeSpec := { name := "fnCoveredClauses", fn := fun _ => fun
  | [d] => { results := [.lit (.bool true)], args := [d] }
  | _ => none }
def fnCoveredClausesRow : OpenClaim := { program := "ytbdkbdafhlcilaagreat", sum := "c8d28ebed10d455349194cece7e823ba7df6776b93ab4d2e408bcc8e3cdc6775", func := "loop.example/matchcompiler/laws.FnCoveredClauses", spec := "fnCoveredClauses", unfollowed := true, recurses := true, apart := false }
def FnCoveredClausesSaid : Prop := fnCoveredClausesRow.holds Tryz.pinned (OpenSpec.ofChange fnCoveredClausesSpec)

/-- ITS FALSE NEIGHBOUR: 'it returns false'. Refute it at one input. -/
def fnCoveredClausesWrong : ChangeSpec := { name := "fnCoveredClauses", fn := fun _ => fun
  | [d] => { results := [.lit (.bool false)], args := [d] }
  | _ => none }
def FnCoveredClausesWrongFalsely : Prop := fnCoveredClausesRow.holds Tryz.pinned (OpenSpec.ofChange fnCoveredClausesWrong)

/-- 'laws.FnTreeFail': WHATEVER THE INPUT: true; the input reads as it did. -/
def fnTreeFailSpec : ChangeSpec := { name := "fnTreeFail", fn := fun _ => fun
  | [d] => { results := [.lit (.bool true)], args := [d] }
  | _ => none }
def fnTreeFailRow : OpenClaim := { program := "ytbdkbdafhlcilaagreat", sum := "c8d28ebed10d455349194cece7e823ba7df6776b93ab4d2e408bcc8e3cdc6775", func := "loop.example/matchcompiler/laws.FnTreeFail", spec := "fnTreeFail", unfollowed := true, recurses := true, apart := false }
def FnTreeFailSaid : Prop := fnTreeFailRow.holds Tryz.pinned (OpenSpec.ofChange fnTreeFailSpec)

/-- ITS FALSE NEIGHBOUR: 'it returns false'. Refute it at one input. -/
def fnTreeFailWrong : ChangeSpec := { name := "fnTreeFail", fn := fun _ => fun
  | [d] => { results := [.lit (.bool false)], args := [d] }
  | _ => none }
def FnTreeFailWrongFalsely : Prop := fnTreeFailRow.holds Tryz.pinned (OpenSpec.ofChange fnTreeFailWrong)

/-- 'laws.FnCostDepth': WHATEVER THE INPUT: true; the input reads as it did. -/
def fnCostDepthSpec : ChangeSpec := { name := "fnCostDepth", fn := fun _ => fun
  | [d] => { results := [.lit (.bool true)], args := [d] }
  | _ => none }
def fnCostDepthRow : OpenClaim := { program := "ytbdkbdafhlcilaagreat", sum := "c8d28ebed10d455349194cece7e823ba7df6776b93ab4d2e408bcc8e3cdc6775", func := "loop.example/matchcompiler/laws.FnCostDepth", spec := "fnCostDepth", unfollowed := true, recurses := true, apart := false }
def FnCostDepthSaid : Prop := fnCostDepthRow.holds Tryz.pinned (OpenSpec.ofChange fnCostDepthSpec)

/-- ITS FALSE NEIGHBOUR: 'it returns false'. Refute it at one input. -/
def fnCostDepthWrong : ChangeSpec := { name := "fnCostDepth", fn := fun _ => fun
  | [d] => { results := [.lit (.bool false)], args := [d] }
  | _ => none }
def FnCostDepthWrongFalsely : Prop := fnCostDepthRow.holds Tryz.pinned (OpenSpec.ofChange fnCostDepthWrong)

/-- 'laws.FnTreeTests': WHATEVER THE INPUT: true; the input reads as it did. -/
def fnTreeTestsSpec : ChangeSpec := { name := "fnTreeTests", fn := fun _ => fun
  | [d1, d2] => { results := [.lit (.bool true)], args := [d1, d2] }
  | _ => none }
def fnTreeTestsRow : OpenClaim := { program := "ytbdkbdafhlcilaagreat", sum := "c8d28ebed10d455349194cece7e823ba7df6776b93ab4d2e408bcc8e3cdc6775", func := "loop.example/matchcompiler/laws.FnTreeTests", spec := "fnTreeTests", unfollowed := true, recurses := true, apart := false }
def FnTreeTestsSaid : Prop := fnTreeTestsRow.holds Tryz.pinned (OpenSpec.ofChange fnTreeTestsSpec)

/-- ITS FALSE NEIGHBOUR: 'it returns false'. Refute it at one input. -/
def fnTreeTestsWrong : ChangeSpec := { name := "fnTreeTests", fn := fun _ => fun
  | [d1, d2] => { results := [.lit (.bool false)], args := [d1, d2] }
  | _ => none }
def FnTreeTestsWrongFalsely : Prop := fnTreeTestsRow.holds Tryz.pinned (OpenSpec.ofChange fnTreeTestsWrong)

/-- 'laws.FnTreeLeaves': WHATEVER THE INPUT: true; the input reads as it did. -/
def fnTreeLeavesSpec : ChangeSpec := { name := "fnTreeLeaves", fn := fun _ => fun
  | [d] => { results := [.lit (.bool true)], args := [d] }
  | _ => none }
def fnTreeLeavesRow : OpenClaim := { program := "ytbdkbdafhlcilaagreat", sum := "c8d28ebed10d455349194cece7e823ba7df6776b93ab4d2e408bcc8e3cdc6775", func := "loop.example/matchcompiler/laws.FnTreeLeaves", spec := "fnTreeLeaves", unfollowed := true, recurses := true, apart := false }
def FnTreeLeavesSaid : Prop := fnTreeLeavesRow.holds Tryz.pinned (OpenSpec.ofChange fnTreeLeavesSpec)

/-- ITS FALSE NEIGHBOUR: 'it returns false'. Refute it at one input. -/
def fnTreeLeavesWrong : ChangeSpec := { name := "fnTreeLeaves", fn := fun _ => fun
  | [d] => { results := [.lit (.bool false)], args := [d] }
  | _ => none }
def FnTreeLeavesWrongFalsely : Prop := fnTreeLeavesRow.holds Tryz.pinned (OpenSpec.ofChange fnTreeLeavesWrong)

/-- 'laws.FnSameChoice': WHATEVER THE INPUT: true; the input reads as it did. -/
def fnSameChoiceSpec : ChangeSpec := { name := "fnSameChoice", fn := fun _ => fun
  | [d1, d2] => { results := [.lit (.bool true)], args := [d1, d2] }
  | _ => none }
def fnSameChoiceRow : OpenClaim := { program := "ytbdkbdafhlcilaagreat", sum := "c8d28ebed10d455349194cece7e823ba7df6776b93ab4d2e408bcc8e3cdc6775", func := "loop.example/matchcompiler/laws.FnSameChoice", spec := "fnSameChoice", unfollowed := true, recurses := true, apart := false }
def FnSameChoiceSaid : Prop := fnSameChoiceRow.holds Tryz.pinned (OpenSpec.ofChange fnSameChoiceSpec)

/-- ITS FALSE NEIGHBOUR: 'it returns false'. Refute it at one input. -/
def fnSameChoiceWrong : ChangeSpec := { name := "fnSameChoice", fn := fun _ => fun
  | [d1, d2] => { results := [.lit (.bool false)], args := [d1, d2] }
  | _ => none }
def FnSameChoiceWrongFalsely : Prop := fnSameChoiceRow.holds Tryz.pinned (OpenSpec.ofChange fnSameChoiceWrong)

/-- 'laws.FnTreeRedundant': WHATEVER THE INPUT: true; the input reads as it did. -/
def fnTreeRedundantSpec : ChangeSpec := { name := "fnTreeRedundant", fn := fun _ => fun
  | [d] => { results := [.lit (.bool true)], args := [d] }
  | _ => none }
def fnTreeRedundantRow : OpenClaim := { program := "ytbdkbdafhlcilaagreat", sum := "c8d28ebed10d455349194cece7e823ba7df6776b93ab4d2e408bcc8e3cdc6775", func := "loop.example/matchcompiler/laws.FnTreeRedundant", spec := "fnTreeRedundant", unfollowed := true, recurses := true, apart := false }
def FnTreeRedundantSaid : Prop := fnTreeRedundantRow.holds Tryz.pinned (OpenSpec.ofChange fnTreeRedundantSpec)

/-- ITS FALSE NEIGHBOUR: 'it returns false'. Refute it at one input. -/
def fnTreeRedundantWrong : ChangeSpec := { name := "fnTreeRedundant", fn := fun _ => fun
  | [d] => { results := [.lit (.bool false)], args := [d] }
  | _ => none }
def FnTreeRedundantWrongFalsely : Prop := fnTreeRedundantRow.holds Tryz.pinned (OpenSpec.ofChange fnTreeRedundantWrong)

/- THE SECOND FORM. 'bulk': how many values and letters a reading holds, each counted each time it is reached (what is shared counts as often as it is met; a slice's spare places count too). A statement '..UptoSaid' is the law's where the arguments, and the package variables that the reading takes, are together of bulk at most 1048576: NARROWER than '..Said'. Prove '..Said' where nothing that the law and all that it calls make is longer than what came in: it says more and counts as full. Else prove '..UptoSaid'. A law counts once. -/
mutual
def uptoBulk {H : Type} : DataW H → Nat
  | .lit (.string bytes) => bytes.length + 1
  | .lit _ => 1
  | .nil => 1
  | .ptr d => uptoBulk d + 1
  | .slice elems spare => uptoBulkAll elems + uptoBulkAll spare + 1
  | .agg parts => uptoBulkAll parts + 1
  | .iface _ d => uptoBulk d + 1
  | .map entries => uptoBulkEntries entries + 1
  | .held _ => 1
def uptoBulkAll {H : Type} : List (DataW H) → Nat
  | [] => 0
  | d :: r => uptoBulk d + uptoBulkAll r
def uptoBulkEntries {H : Type} : List (Lit × DataW H) → Nat
  | [] => 0
  | x :: r => uptoBulkEntry x + uptoBulkEntries r
def uptoBulkEntry {H : Type} : Lit × DataW H → Nat
  | (.string bytes, d) => bytes.length + uptoBulk d + 1
  | (_, d) => uptoBulk d + 1
 end
def uptoSmall : (H : Type) → List (DataW H) → Bool := fun _ ds => decide (uptoBulkAll ds ≤ 1048576)
def OpenSpec.upto (s : _root_.Go.ChangeSpec) : _root_.Go.OpenSpec := { _root_.Go.OpenSpec.ofChange s with cond := some uptoSmall }

/-- 'laws.FnCoveredClauses', WHERE WHAT IT READS IS OF BULK AT MOST 1048576: true; the input reads as it did. -/
def fnCoveredClausesUptoRow : OpenClaim := { program := "ytbdkbdafhlcilaagreat", sum := "c8d28ebed10d455349194cece7e823ba7df6776b93ab4d2e408bcc8e3cdc6775", func := "loop.example/matchcompiler/laws.FnCoveredClauses", spec := "fnCoveredClauses", unfollowed := true, recurses := true, apart := false, narrowed := true }
def FnCoveredClausesUptoSaid : Prop := fnCoveredClausesUptoRow.holds Tryz.pinned (OpenSpec.upto fnCoveredClausesSpec)

/-- 'laws.FnTreeFail', WHERE WHAT IT READS IS OF BULK AT MOST 1048576: true; the input reads as it did. -/
def fnTreeFailUptoRow : OpenClaim := { program := "ytbdkbdafhlcilaagreat", sum := "c8d28ebed10d455349194cece7e823ba7df6776b93ab4d2e408bcc8e3cdc6775", func := "loop.example/matchcompiler/laws.FnTreeFail", spec := "fnTreeFail", unfollowed := true, recurses := true, apart := false, narrowed := true }
def FnTreeFailUptoSaid : Prop := fnTreeFailUptoRow.holds Tryz.pinned (OpenSpec.upto fnTreeFailSpec)

/-- 'laws.FnCostDepth', WHERE WHAT IT READS IS OF BULK AT MOST 1048576: true; the input reads as it did. -/
def fnCostDepthUptoRow : OpenClaim := { program := "ytbdkbdafhlcilaagreat", sum := "c8d28ebed10d455349194cece7e823ba7df6776b93ab4d2e408bcc8e3cdc6775", func := "loop.example/matchcompiler/laws.FnCostDepth", spec := "fnCostDepth", unfollowed := true, recurses := true, apart := false, narrowed := true }
def FnCostDepthUptoSaid : Prop := fnCostDepthUptoRow.holds Tryz.pinned (OpenSpec.upto fnCostDepthSpec)

/-- 'laws.FnTreeTests', WHERE WHAT IT READS IS OF BULK AT MOST 1048576: true; the input reads as it did. -/
def fnTreeTestsUptoRow : OpenClaim := { program := "ytbdkbdafhlcilaagreat", sum := "c8d28ebed10d455349194cece7e823ba7df6776b93ab4d2e408bcc8e3cdc6775", func := "loop.example/matchcompiler/laws.FnTreeTests", spec := "fnTreeTests", unfollowed := true, recurses := true, apart := false, narrowed := true }
def FnTreeTestsUptoSaid : Prop := fnTreeTestsUptoRow.holds Tryz.pinned (OpenSpec.upto fnTreeTestsSpec)

/-- 'laws.FnTreeLeaves', WHERE WHAT IT READS IS OF BULK AT MOST 1048576: true; the input reads as it did. -/
def fnTreeLeavesUptoRow : OpenClaim := { program := "ytbdkbdafhlcilaagreat", sum := "c8d28ebed10d455349194cece7e823ba7df6776b93ab4d2e408bcc8e3cdc6775", func := "loop.example/matchcompiler/laws.FnTreeLeaves", spec := "fnTreeLeaves", unfollowed := true, recurses := true, apart := false, narrowed := true }
def FnTreeLeavesUptoSaid : Prop := fnTreeLeavesUptoRow.holds Tryz.pinned (OpenSpec.upto fnTreeLeavesSpec)

/-- 'laws.FnSameChoice', WHERE WHAT IT READS IS OF BULK AT MOST 1048576: true; the input reads as it did. -/
def fnSameChoiceUptoRow : OpenClaim := { program := "ytbdkbdafhlcilaagreat", sum := "c8d28ebed10d455349194cece7e823ba7df6776b93ab4d2e408bcc8e3cdc6775", func := "loop.example/matchcompiler/laws.FnSameChoice", spec := "fnSameChoice", unfollowed := true, recurses := true, apart := false, narrowed := true }
def FnSameChoiceUptoSaid : Prop := fnSameChoiceUptoRow.holds Tryz.pinned (OpenSpec.upto fnSameChoiceSpec)

/-- 'laws.FnTreeRedundant', WHERE WHAT IT READS IS OF BULK AT MOST 1048576: true; the input reads as it did. -/
def fnTreeRedundantUptoRow : OpenClaim := { program := "ytbdkbdafhlcilaagreat", sum := "c8d28ebed10d455349194cece7e823ba7df6776b93ab4d2e408bcc8e3cdc6775", func := "loop.example/matchcompiler/laws.FnTreeRedundant", spec := "fnTreeRedundant", unfollowed := true, recurses := true, apart := false, narrowed := true }
def FnTreeRedundantUptoSaid : Prop := fnTreeRedundantUptoRow.holds Tryz.pinned (OpenSpec.upto fnTreeRedundantSpec)

end Rows
end Go.Proofs.YtbdkbdafhlcilaaGreat
