/-
  No cell of these rows narrows 'for every input' (looked for: loops, veiled, ifaces, maps, wideKeys, modest, calm, conditions, laid).
  DERIVED. THE GIVEN ROWS OF THIS SEAT. 8 by the template 'for every input the law returns true; each argument reads behind the call as it read before'; 0 by the template 'total and deterministic' (their statements: YtfhpjeogjcfkaaaGreatTotals.lean).
  GIVEN WITH THE SEED: the statements are not yours to turn. If you find one false, say at which input.
  Laid BY PROGRAM, IN A SANDBOX (cutbox-rows.mjs): the forced cells as the released guide's own fill.sh prints them over the translation 6b6787553a3383bb… (all of the seat's roots in one cut). By AI agents, Wed Nov 11 2026. No macro, syntax, notation, axiom, sorry.
-/
import Derived.Test.YtfhpjeogjcfkaaaGreatChecked
import GoSem.Claim
import GoSem.ClaimJoined
import GoSem.ClaimMapViews
import Derived.JoinedTies
import Derived.KernelRfl
namespace Go.Proofs.YtfhpjeogjcfkaaaGreat
/- THE CELL 'sum', in the pinned program and in every row, IS THE sha256 OF THE DUMP (.gsa) THAT YtfhpjeogjcfkaaaGreatProg.lean LOADS. Nothing in Lean hashes anything: it is a label: what it is worth is what the hold of that sum in a sandbox is worth. -/
noncomputable def Tryz.pinned : Pinned := { name := "ytfhpjeogjcfkaaagreat", sum := "6b6787553a3383bb279c368cd1a049c0a0df2491808d80d4d9aacf792d5cf51e", checked := Tryz.checked }
namespace Rows
def none {H : Type} : Left H := { results := [], args := [] }

/-- 'laws.FnRunSteps': WHATEVER THE INPUT: true; the input reads as it did. -/
def fnRunStepsSpec : ChangeSpec := { name := "fnRunSteps", fn := fun _ => fun
  | [d] => { results := [.lit (.bool true)], args := [d] }
  | _ => none }
def fnRunStepsRow : OpenClaim := { program := "ytfhpjeogjcfkaaagreat", sum := "6b6787553a3383bb279c368cd1a049c0a0df2491808d80d4d9aacf792d5cf51e", func := "loop.example/matchcompiler/laws.FnRunSteps", spec := "fnRunSteps", unfollowed := true, recurses := true, apart := false }
def FnRunStepsSaid : Prop := fnRunStepsRow.holds Tryz.pinned (OpenSpec.ofChange fnRunStepsSpec)

/-- ITS FALSE NEIGHBOUR: 'it returns false'. Refute it at one input. -/
def fnRunStepsWrong : ChangeSpec := { name := "fnRunSteps", fn := fun _ => fun
  | [d] => { results := [.lit (.bool false)], args := [d] }
  | _ => none }
def FnRunStepsWrongFalsely : Prop := fnRunStepsRow.holds Tryz.pinned (OpenSpec.ofChange fnRunStepsWrong)

/-- 'laws.FnBestPick': WHATEVER THE INPUT: true; the input reads as it did. -/
def fnBestPickSpec : ChangeSpec := { name := "fnBestPick", fn := fun _ => fun
  | [d] => { results := [.lit (.bool true)], args := [d] }
  | _ => none }
def fnBestPickRow : OpenClaim := { program := "ytfhpjeogjcfkaaagreat", sum := "6b6787553a3383bb279c368cd1a049c0a0df2491808d80d4d9aacf792d5cf51e", func := "loop.example/matchcompiler/laws.FnBestPick", spec := "fnBestPick", unfollowed := true, recurses := true, apart := false }
def FnBestPickSaid : Prop := fnBestPickRow.holds Tryz.pinned (OpenSpec.ofChange fnBestPickSpec)

/-- ITS FALSE NEIGHBOUR: 'it returns false'. Refute it at one input. -/
def fnBestPickWrong : ChangeSpec := { name := "fnBestPick", fn := fun _ => fun
  | [d] => { results := [.lit (.bool false)], args := [d] }
  | _ => none }
def FnBestPickWrongFalsely : Prop := fnBestPickRow.holds Tryz.pinned (OpenSpec.ofChange fnBestPickWrong)

/-- 'laws.FnRunNodes': WHATEVER THE INPUT: true; the input reads as it did. -/
def fnRunNodesSpec : ChangeSpec := { name := "fnRunNodes", fn := fun _ => fun
  | [d] => { results := [.lit (.bool true)], args := [d] }
  | _ => none }
def fnRunNodesRow : OpenClaim := { program := "ytfhpjeogjcfkaaagreat", sum := "6b6787553a3383bb279c368cd1a049c0a0df2491808d80d4d9aacf792d5cf51e", func := "loop.example/matchcompiler/laws.FnRunNodes", spec := "fnRunNodes", unfollowed := true, recurses := true, apart := false }
def FnRunNodesSaid : Prop := fnRunNodesRow.holds Tryz.pinned (OpenSpec.ofChange fnRunNodesSpec)

/-- ITS FALSE NEIGHBOUR: 'it returns false'. Refute it at one input. -/
def fnRunNodesWrong : ChangeSpec := { name := "fnRunNodes", fn := fun _ => fun
  | [d] => { results := [.lit (.bool false)], args := [d] }
  | _ => none }
def FnRunNodesWrongFalsely : Prop := fnRunNodesRow.holds Tryz.pinned (OpenSpec.ofChange fnRunNodesWrong)

/-- 'laws.FnForcedPaths': WHATEVER THE INPUT: true; the input reads as it did. -/
def fnForcedPathsSpec : ChangeSpec := { name := "fnForcedPaths", fn := fun _ => fun
  | [d] => { results := [.lit (.bool true)], args := [d] }
  | _ => none }
def fnForcedPathsRow : OpenClaim := { program := "ytfhpjeogjcfkaaagreat", sum := "6b6787553a3383bb279c368cd1a049c0a0df2491808d80d4d9aacf792d5cf51e", func := "loop.example/matchcompiler/laws.FnForcedPaths", spec := "fnForcedPaths", unfollowed := true, recurses := true, apart := false }
def FnForcedPathsSaid : Prop := fnForcedPathsRow.holds Tryz.pinned (OpenSpec.ofChange fnForcedPathsSpec)

/-- ITS FALSE NEIGHBOUR: 'it returns false'. Refute it at one input. -/
def fnForcedPathsWrong : ChangeSpec := { name := "fnForcedPaths", fn := fun _ => fun
  | [d] => { results := [.lit (.bool false)], args := [d] }
  | _ => none }
def FnForcedPathsWrongFalsely : Prop := fnForcedPathsRow.holds Tryz.pinned (OpenSpec.ofChange fnForcedPathsWrong)

/-- 'laws.FnClauseSample': WHATEVER THE INPUT: true; the input reads as it did. -/
def fnClauseSampleSpec : ChangeSpec := { name := "fnClauseSample", fn := fun _ => fun
  | [d] => { results := [.lit (.bool true)], args := [d] }
  | _ => none }
def fnClauseSampleRow : OpenClaim := { program := "ytfhpjeogjcfkaaagreat", sum := "6b6787553a3383bb279c368cd1a049c0a0df2491808d80d4d9aacf792d5cf51e", func := "loop.example/matchcompiler/laws.FnClauseSample", spec := "fnClauseSample", unfollowed := true, recurses := true, apart := false }
def FnClauseSampleSaid : Prop := fnClauseSampleRow.holds Tryz.pinned (OpenSpec.ofChange fnClauseSampleSpec)

/-- ITS FALSE NEIGHBOUR: 'it returns false'. Refute it at one input. -/
def fnClauseSampleWrong : ChangeSpec := { name := "fnClauseSample", fn := fun _ => fun
  | [d] => { results := [.lit (.bool false)], args := [d] }
  | _ => none }
def FnClauseSampleWrongFalsely : Prop := fnClauseSampleRow.holds Tryz.pinned (OpenSpec.ofChange fnClauseSampleWrong)

/-- 'laws.FnTestDifferent': WHATEVER THE INPUT: true; the input reads as it did. -/
def fnTestDifferentSpec : ChangeSpec := { name := "fnTestDifferent", fn := fun _ => fun
  | [d] => { results := [.lit (.bool true)], args := [d] }
  | _ => none }
def fnTestDifferentRow : OpenClaim := { program := "ytfhpjeogjcfkaaagreat", sum := "6b6787553a3383bb279c368cd1a049c0a0df2491808d80d4d9aacf792d5cf51e", func := "loop.example/matchcompiler/laws.FnTestDifferent", spec := "fnTestDifferent", unfollowed := true, recurses := true, apart := false }
def FnTestDifferentSaid : Prop := fnTestDifferentRow.holds Tryz.pinned (OpenSpec.ofChange fnTestDifferentSpec)

/-- ITS FALSE NEIGHBOUR: 'it returns false'. Refute it at one input. -/
def fnTestDifferentWrong : ChangeSpec := { name := "fnTestDifferent", fn := fun _ => fun
  | [d] => { results := [.lit (.bool false)], args := [d] }
  | _ => none }
def FnTestDifferentWrongFalsely : Prop := fnTestDifferentRow.holds Tryz.pinned (OpenSpec.ofChange fnTestDifferentWrong)

/-- 'laws.FnTestValues': WHATEVER THE INPUT: true; the input reads as it did. -/
def fnTestValuesSpec : ChangeSpec := { name := "fnTestValues", fn := fun _ => fun
  | [d] => { results := [.lit (.bool true)], args := [d] }
  | _ => none }
def fnTestValuesRow : OpenClaim := { program := "ytfhpjeogjcfkaaagreat", sum := "6b6787553a3383bb279c368cd1a049c0a0df2491808d80d4d9aacf792d5cf51e", func := "loop.example/matchcompiler/laws.FnTestValues", spec := "fnTestValues", unfollowed := true, recurses := true, apart := false }
def FnTestValuesSaid : Prop := fnTestValuesRow.holds Tryz.pinned (OpenSpec.ofChange fnTestValuesSpec)

/-- ITS FALSE NEIGHBOUR: 'it returns false'. Refute it at one input. -/
def fnTestValuesWrong : ChangeSpec := { name := "fnTestValues", fn := fun _ => fun
  | [d] => { results := [.lit (.bool false)], args := [d] }
  | _ => none }
def FnTestValuesWrongFalsely : Prop := fnTestValuesRow.holds Tryz.pinned (OpenSpec.ofChange fnTestValuesWrong)

/-- 'laws.FnCoveredAll': WHATEVER THE INPUT: true; the input reads as it did. -/
def fnCoveredAllSpec : ChangeSpec := { name := "fnCoveredAll", fn := fun _ => fun
  | [d] => { results := [.lit (.bool true)], args := [d] }
  | _ => none }
def fnCoveredAllRow : OpenClaim := { program := "ytfhpjeogjcfkaaagreat", sum := "6b6787553a3383bb279c368cd1a049c0a0df2491808d80d4d9aacf792d5cf51e", func := "loop.example/matchcompiler/laws.FnCoveredAll", spec := "fnCoveredAll", unfollowed := true, recurses := true, apart := false }
def FnCoveredAllSaid : Prop := fnCoveredAllRow.holds Tryz.pinned (OpenSpec.ofChange fnCoveredAllSpec)

/-- ITS FALSE NEIGHBOUR: 'it returns false'. Refute it at one input. -/
def fnCoveredAllWrong : ChangeSpec := { name := "fnCoveredAll", fn := fun _ => fun
  | [d] => { results := [.lit (.bool false)], args := [d] }
  | _ => none }
def FnCoveredAllWrongFalsely : Prop := fnCoveredAllRow.holds Tryz.pinned (OpenSpec.ofChange fnCoveredAllWrong)

/- THE SECOND FORM. 'bulk': how many values and letters a reading holds, each counted each time it is reached (what is shared counts as often as it is met; a slice's spare places count too). A statement '..UptoSaid' is the law's where the arguments, and the package variables that the reading takes, are together of bulk at most 1048576: NARROWER than '..Said'. Prove '..Said' where nothing that the law and all that it calls make is longer than what came in: it says more and counts as full. Else prove '..UptoSaid'. A law counts once. -/
mutual
def uptoBulk {H : Type} : DataW H → Nat
  | .lit (.string bytes) => bytes.length + 1
  | .lit _ => 1
  | .nil => 1
  | .ptr d => uptoBulk d + 1
  | .slice elems spare => uptoBulkAll elems + uptoBulkAll spare + 1
  | .agg parts => uptoBulkAll parts + 1
  | .iface _ d => uptoBulk d + 1
  | .map entries => uptoBulkEntries entries + 1
  | .held _ => 1
def uptoBulkAll {H : Type} : List (DataW H) → Nat
  | [] => 0
  | d :: r => uptoBulk d + uptoBulkAll r
def uptoBulkEntries {H : Type} : List (Lit × DataW H) → Nat
  | [] => 0
  | x :: r => uptoBulkEntry x + uptoBulkEntries r
def uptoBulkEntry {H : Type} : Lit × DataW H → Nat
  | (.string bytes, d) => bytes.length + uptoBulk d + 1
  | (_, d) => uptoBulk d + 1
 end
def uptoSmall : (H : Type) → List (DataW H) → Bool := fun _ ds => decide (uptoBulkAll ds ≤ 1048576)
def OpenSpec.upto (s : _root_.Go.ChangeSpec) : _root_.Go.OpenSpec := { _root_.Go.OpenSpec.ofChange s with cond := some uptoSmall }

/-- 'laws.FnRunSteps', WHERE WHAT IT READS IS OF BULK AT MOST 1048576: true; the input reads as it did. -/
def fnRunStepsUptoRow : OpenClaim := { program := "ytfhpjeogjcfkaaagreat", sum := "6b6787553a3383bb279c368cd1a049c0a0df2491808d80d4d9aacf792d5cf51e", func := "loop.example/matchcompiler/laws.FnRunSteps", spec := "fnRunSteps", unfollowed := true, recurses := true, apart := false, narrowed := true }
def FnRunStepsUptoSaid : Prop := fnRunStepsUptoRow.holds Tryz.pinned (OpenSpec.upto fnRunStepsSpec)

/-- 'laws.FnBestPick', WHERE WHAT IT READS IS OF BULK AT MOST 1048576: true; the input reads as it did. -/
def fnBestPickUptoRow : OpenClaim := { program := "ytfhpjeogjcfkaaagreat", sum := "6b6787553a3383bb279c368cd1a049c0a0df2491808d80d4d9aacf792d5cf51e", func := "loop.example/matchcompiler/laws.FnBestPick", spec := "fnBestPick", unfollowed := true, recurses := true, apart := false, narrowed := true }
def FnBestPickUptoSaid : Prop := fnBestPickUptoRow.holds Tryz.pinned (OpenSpec.upto fnBestPickSpec)

/-- 'laws.FnRunNodes', WHERE WHAT IT READS IS OF BULK AT MOST 1048576: true; the input reads as it did. -/
def fnRunNodesUptoRow : OpenClaim := { program := "ytfhpjeogjcfkaaagreat", sum := "6b6787553a3383bb279c368cd1a049c0a0df2491808d80d4d9aacf792d5cf51e", func := "loop.example/matchcompiler/laws.FnRunNodes", spec := "fnRunNodes", unfollowed := true, recurses := true, apart := false, narrowed := true }
def FnRunNodesUptoSaid : Prop := fnRunNodesUptoRow.holds Tryz.pinned (OpenSpec.upto fnRunNodesSpec)

/-- 'laws.FnForcedPaths', WHERE WHAT IT READS IS OF BULK AT MOST 1048576: true; the input reads as it did. -/
def fnForcedPathsUptoRow : OpenClaim := { program := "ytfhpjeogjcfkaaagreat", sum := "6b6787553a3383bb279c368cd1a049c0a0df2491808d80d4d9aacf792d5cf51e", func := "loop.example/matchcompiler/laws.FnForcedPaths", spec := "fnForcedPaths", unfollowed := true, recurses := true, apart := false, narrowed := true }
def FnForcedPathsUptoSaid : Prop := fnForcedPathsUptoRow.holds Tryz.pinned (OpenSpec.upto fnForcedPathsSpec)

/-- 'laws.FnClauseSample', WHERE WHAT IT READS IS OF BULK AT MOST 1048576: true; the input reads as it did. -/
def fnClauseSampleUptoRow : OpenClaim := { program := "ytfhpjeogjcfkaaagreat", sum := "6b6787553a3383bb279c368cd1a049c0a0df2491808d80d4d9aacf792d5cf51e", func := "loop.example/matchcompiler/laws.FnClauseSample", spec := "fnClauseSample", unfollowed := true, recurses := true, apart := false, narrowed := true }
def FnClauseSampleUptoSaid : Prop := fnClauseSampleUptoRow.holds Tryz.pinned (OpenSpec.upto fnClauseSampleSpec)

/-- 'laws.FnTestDifferent', WHERE WHAT IT READS IS OF BULK AT MOST 1048576: true; the input reads as it did. -/
def fnTestDifferentUptoRow : OpenClaim := { program := "ytfhpjeogjcfkaaagreat", sum := "6b6787553a3383bb279c368cd1a049c0a0df2491808d80d4d9aacf792d5cf51e", func := "loop.example/matchcompiler/laws.FnTestDifferent", spec := "fnTestDifferent", unfollowed := true, recurses := true, apart := false, narrowed := true }
def FnTestDifferentUptoSaid : Prop := fnTestDifferentUptoRow.holds Tryz.pinned (OpenSpec.upto fnTestDifferentSpec)

/-- 'laws.FnTestValues', WHERE WHAT IT READS IS OF BULK AT MOST 1048576: true; the input reads as it did. -/
def fnTestValuesUptoRow : OpenClaim := { program := "ytfhpjeogjcfkaaagreat", sum := "6b6787553a3383bb279c368cd1a049c0a0df2491808d80d4d9aacf792d5cf51e", func := "loop.example/matchcompiler/laws.FnTestValues", spec := "fnTestValues", unfollowed := true, recurses := true, apart := false, narrowed := true }
def FnTestValuesUptoSaid : Prop := fnTestValuesUptoRow.holds Tryz.pinned (OpenSpec.upto fnTestValuesSpec)

/-- 'laws.FnCoveredAll', WHERE WHAT IT READS IS OF BULK AT MOST 1048576: true; the input reads as it did. -/
def fnCoveredAllUptoRow : OpenClaim := { program := "ytfhpjeogjcfkaaagreat", sum := "6b6787553a3383bb279c368cd1a049c0a0df2491808d80d4d9aacf792d5cf51e", func := "loop.example/matchcompiler/laws.FnCoveredAll", spec := "fnCoveredAll", unfollowed := true, recurses := true, apart := false, narrowed := true }
def FnCoveredAllUptoSaid : Prop := fnCoveredAllUptoRow.holds Tryz.pinned (OpenSpec.upto fnCoveredAllSpec)

end Rows
end Go.Proofs.YtfhpjeogjcfkaaaGreat
