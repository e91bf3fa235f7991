/-
  NARROWER THAN 'FOR EVERY INPUT', by the rows' own cells (each row's printed sentence says how): FnExactCompileClauses: loops.
  DERIVED. THE GIVEN ROWS OF THIS SEAT. 12 by the template 'for every input the law returns true; each argument reads behind the call as it read before'; 0 by the template 'total and deterministic' (their statements: YtnackipaoepmfaaGreatTotals.lean).
  GIVEN WITH THE SEED: the statements are not yours to turn. If you find one false, say at which input.
  Laid BY PROGRAM, IN A SANDBOX (cutbox-rows.mjs): the forced cells as the released guide's own fill.sh prints them over the translation 93183b07e4e1f731… (all of the seat's roots in one cut). By AI agents, Wed Nov 11 2026. No macro, syntax, notation, axiom, sorry.
-/
import Derived.Test.YtnackipaoepmfaaGreatChecked
import GoSem.Claim
import GoSem.ClaimJoined
import GoSem.ClaimMapViews
import Derived.JoinedTies
import Derived.KernelRfl
namespace Go.Proofs.YtnackipaoepmfaaGreat
/- THE CELL 'sum', in the pinned program and in every row, IS THE sha256 OF THE DUMP (.gsa) THAT YtnackipaoepmfaaGreatProg.lean LOADS. Nothing in Lean hashes anything: it is a label: what it is worth is what the hold of that sum in a sandbox is worth. -/
noncomputable def Tryz.pinned : Pinned := { name := "ytnackipaoepmfaagreat", sum := "93183b07e4e1f7311dee4482a221a2fdc1e3ab3e7e33abad754d509323c52829", checked := Tryz.checked }
namespace Rows
def none {H : Type} : Left H := { results := [], args := [] }

/-- 'laws.FnCoveredClauses': WHATEVER THE INPUT: true; the input reads as it did. -/
def fnCoveredClausesSpec : ChangeSpec := { name := "fnCoveredClauses", fn := fun _ => fun
  | [d] => { results := [.lit (.bool true)], args := [d] }
  | _ => none }
def fnCoveredClausesRow : OpenClaim := { program := "ytnackipaoepmfaagreat", sum := "93183b07e4e1f7311dee4482a221a2fdc1e3ab3e7e33abad754d509323c52829", func := "loop.example/matchcompiler/laws.FnCoveredClauses", spec := "fnCoveredClauses", unfollowed := true, recurses := true, apart := false }
def FnCoveredClausesSaid : Prop := fnCoveredClausesRow.holds Tryz.pinned (OpenSpec.ofChange fnCoveredClausesSpec)

/-- ITS FALSE NEIGHBOUR: 'it returns false'. Refute it at one input. -/
def fnCoveredClausesWrong : ChangeSpec := { name := "fnCoveredClauses", fn := fun _ => fun
  | [d] => { results := [.lit (.bool false)], args := [d] }
  | _ => none }
def FnCoveredClausesWrongFalsely : Prop := fnCoveredClausesRow.holds Tryz.pinned (OpenSpec.ofChange fnCoveredClausesWrong)

/-- 'laws.FnExhaustive': WHATEVER THE INPUT: true; the input reads as it did. -/
def fnExhaustiveSpec : ChangeSpec := { name := "fnExhaustive", fn := fun _ => fun
  | [d1, d2] => { results := [.lit (.bool true)], args := [d1, d2] }
  | _ => none }
def fnExhaustiveRow : OpenClaim := { program := "ytnackipaoepmfaagreat", sum := "93183b07e4e1f7311dee4482a221a2fdc1e3ab3e7e33abad754d509323c52829", func := "loop.example/matchcompiler/laws.FnExhaustive", spec := "fnExhaustive", unfollowed := true, recurses := true, apart := false }
def FnExhaustiveSaid : Prop := fnExhaustiveRow.holds Tryz.pinned (OpenSpec.ofChange fnExhaustiveSpec)

/-- ITS FALSE NEIGHBOUR: 'it returns false'. Refute it at one input. -/
def fnExhaustiveWrong : ChangeSpec := { name := "fnExhaustive", fn := fun _ => fun
  | [d1, d2] => { results := [.lit (.bool false)], args := [d1, d2] }
  | _ => none }
def FnExhaustiveWrongFalsely : Prop := fnExhaustiveRow.holds Tryz.pinned (OpenSpec.ofChange fnExhaustiveWrong)

/-- 'laws.FnClausesMeet': WHATEVER THE INPUT: true; the input reads as it did. -/
def fnClausesMeetSpec : ChangeSpec := { name := "fnClausesMeet", fn := fun _ => fun
  | [d1, d2] => { results := [.lit (.bool true)], args := [d1, d2] }
  | _ => none }
def fnClausesMeetRow : OpenClaim := { program := "ytnackipaoepmfaagreat", sum := "93183b07e4e1f7311dee4482a221a2fdc1e3ab3e7e33abad754d509323c52829", func := "loop.example/matchcompiler/laws.FnClausesMeet", spec := "fnClausesMeet", unfollowed := true, recurses := true, apart := false }
def FnClausesMeetSaid : Prop := fnClausesMeetRow.holds Tryz.pinned (OpenSpec.ofChange fnClausesMeetSpec)

/-- ITS FALSE NEIGHBOUR: 'it returns false'. Refute it at one input. -/
def fnClausesMeetWrong : ChangeSpec := { name := "fnClausesMeet", fn := fun _ => fun
  | [d1, d2] => { results := [.lit (.bool false)], args := [d1, d2] }
  | _ => none }
def FnClausesMeetWrongFalsely : Prop := fnClausesMeetRow.holds Tryz.pinned (OpenSpec.ofChange fnClausesMeetWrong)

/-- 'laws.FnClosedClauses': WHATEVER THE INPUT: true; the input reads as it did. -/
def fnClosedClausesSpec : ChangeSpec := { name := "fnClosedClauses", fn := fun _ => fun
  | [d1, d2] => { results := [.lit (.bool true)], args := [d1, d2] }
  | _ => none }
def fnClosedClausesRow : OpenClaim := { program := "ytnackipaoepmfaagreat", sum := "93183b07e4e1f7311dee4482a221a2fdc1e3ab3e7e33abad754d509323c52829", func := "loop.example/matchcompiler/laws.FnClosedClauses", spec := "fnClosedClauses", unfollowed := true, recurses := true, apart := false }
def FnClosedClausesSaid : Prop := fnClosedClausesRow.holds Tryz.pinned (OpenSpec.ofChange fnClosedClausesSpec)

/-- ITS FALSE NEIGHBOUR: 'it returns false'. Refute it at one input. -/
def fnClosedClausesWrong : ChangeSpec := { name := "fnClosedClauses", fn := fun _ => fun
  | [d1, d2] => { results := [.lit (.bool false)], args := [d1, d2] }
  | _ => none }
def FnClosedClausesWrongFalsely : Prop := fnClosedClausesRow.holds Tryz.pinned (OpenSpec.ofChange fnClosedClausesWrong)

/-- 'laws.FnTreePicks': WHATEVER THE INPUT: true; the input reads as it did. -/
def fnTreePicksSpec : ChangeSpec := { name := "fnTreePicks", fn := fun _ => fun
  | [d] => { results := [.lit (.bool true)], args := [d] }
  | _ => none }
def fnTreePicksRow : OpenClaim := { program := "ytnackipaoepmfaagreat", sum := "93183b07e4e1f7311dee4482a221a2fdc1e3ab3e7e33abad754d509323c52829", func := "loop.example/matchcompiler/laws.FnTreePicks", spec := "fnTreePicks", unfollowed := true, recurses := true, apart := false }
def FnTreePicksSaid : Prop := fnTreePicksRow.holds Tryz.pinned (OpenSpec.ofChange fnTreePicksSpec)

/-- ITS FALSE NEIGHBOUR: 'it returns false'. Refute it at one input. -/
def fnTreePicksWrong : ChangeSpec := { name := "fnTreePicks", fn := fun _ => fun
  | [d] => { results := [.lit (.bool false)], args := [d] }
  | _ => none }
def FnTreePicksWrongFalsely : Prop := fnTreePicksRow.holds Tryz.pinned (OpenSpec.ofChange fnTreePicksWrong)

/-- 'laws.FnRedundantClauses': WHATEVER THE INPUT: true; the input reads as it did. -/
def fnRedundantClausesSpec : ChangeSpec := { name := "fnRedundantClauses", fn := fun _ => fun
  | [d1, d2] => { results := [.lit (.bool true)], args := [d1, d2] }
  | _ => none }
def fnRedundantClausesRow : OpenClaim := { program := "ytnackipaoepmfaagreat", sum := "93183b07e4e1f7311dee4482a221a2fdc1e3ab3e7e33abad754d509323c52829", func := "loop.example/matchcompiler/laws.FnRedundantClauses", spec := "fnRedundantClauses", unfollowed := true, recurses := true, apart := false }
def FnRedundantClausesSaid : Prop := fnRedundantClausesRow.holds Tryz.pinned (OpenSpec.ofChange fnRedundantClausesSpec)

/-- ITS FALSE NEIGHBOUR: 'it returns false'. Refute it at one input. -/
def fnRedundantClausesWrong : ChangeSpec := { name := "fnRedundantClauses", fn := fun _ => fun
  | [d1, d2] => { results := [.lit (.bool false)], args := [d1, d2] }
  | _ => none }
def FnRedundantClausesWrongFalsely : Prop := fnRedundantClausesRow.holds Tryz.pinned (OpenSpec.ofChange fnRedundantClausesWrong)

/-- 'laws.FnSwapClauses': WHATEVER THE INPUT: true; the input reads as it did. -/
def fnSwapClausesSpec : ChangeSpec := { name := "fnSwapClauses", fn := fun _ => fun
  | [d1, d2] => { results := [.lit (.bool true)], args := [d1, d2] }
  | _ => none }
def fnSwapClausesRow : OpenClaim := { program := "ytnackipaoepmfaagreat", sum := "93183b07e4e1f7311dee4482a221a2fdc1e3ab3e7e33abad754d509323c52829", func := "loop.example/matchcompiler/laws.FnSwapClauses", spec := "fnSwapClauses", unfollowed := true, recurses := true, apart := false }
def FnSwapClausesSaid : Prop := fnSwapClausesRow.holds Tryz.pinned (OpenSpec.ofChange fnSwapClausesSpec)

/-- ITS FALSE NEIGHBOUR: 'it returns false'. Refute it at one input. -/
def fnSwapClausesWrong : ChangeSpec := { name := "fnSwapClauses", fn := fun _ => fun
  | [d1, d2] => { results := [.lit (.bool false)], args := [d1, d2] }
  | _ => none }
def FnSwapClausesWrongFalsely : Prop := fnSwapClausesRow.holds Tryz.pinned (OpenSpec.ofChange fnSwapClausesWrong)

/-- 'laws.FnCostDepth': WHATEVER THE INPUT: true; the input reads as it did. -/
def fnCostDepthSpec : ChangeSpec := { name := "fnCostDepth", fn := fun _ => fun
  | [d] => { results := [.lit (.bool true)], args := [d] }
  | _ => none }
def fnCostDepthRow : OpenClaim := { program := "ytnackipaoepmfaagreat", sum := "93183b07e4e1f7311dee4482a221a2fdc1e3ab3e7e33abad754d509323c52829", func := "loop.example/matchcompiler/laws.FnCostDepth", spec := "fnCostDepth", unfollowed := true, recurses := true, apart := false }
def FnCostDepthSaid : Prop := fnCostDepthRow.holds Tryz.pinned (OpenSpec.ofChange fnCostDepthSpec)

/-- ITS FALSE NEIGHBOUR: 'it returns false'. Refute it at one input. -/
def fnCostDepthWrong : ChangeSpec := { name := "fnCostDepth", fn := fun _ => fun
  | [d] => { results := [.lit (.bool false)], args := [d] }
  | _ => none }
def FnCostDepthWrongFalsely : Prop := fnCostDepthRow.holds Tryz.pinned (OpenSpec.ofChange fnCostDepthWrong)

/-- 'laws.FnRunTree': WHATEVER THE INPUT: true; the input reads as it did. -/
def fnRunTreeSpec : ChangeSpec := { name := "fnRunTree", fn := fun _ => fun
  | [d] => { results := [.lit (.bool true)], args := [d] }
  | _ => none }
def fnRunTreeRow : OpenClaim := { program := "ytnackipaoepmfaagreat", sum := "93183b07e4e1f7311dee4482a221a2fdc1e3ab3e7e33abad754d509323c52829", func := "loop.example/matchcompiler/laws.FnRunTree", spec := "fnRunTree", unfollowed := true, recurses := true, apart := false }
def FnRunTreeSaid : Prop := fnRunTreeRow.holds Tryz.pinned (OpenSpec.ofChange fnRunTreeSpec)

/-- ITS FALSE NEIGHBOUR: 'it returns false'. Refute it at one input. -/
def fnRunTreeWrong : ChangeSpec := { name := "fnRunTree", fn := fun _ => fun
  | [d] => { results := [.lit (.bool false)], args := [d] }
  | _ => none }
def FnRunTreeWrongFalsely : Prop := fnRunTreeRow.holds Tryz.pinned (OpenSpec.ofChange fnRunTreeWrong)

/-- 'laws.FnDropRedundant': WHATEVER THE INPUT: true; the input reads as it did. -/
def fnDropRedundantSpec : ChangeSpec := { name := "fnDropRedundant", fn := fun _ => fun
  | [d1, d2] => { results := [.lit (.bool true)], args := [d1, d2] }
  | _ => none }
def fnDropRedundantRow : OpenClaim := { program := "ytnackipaoepmfaagreat", sum := "93183b07e4e1f7311dee4482a221a2fdc1e3ab3e7e33abad754d509323c52829", func := "loop.example/matchcompiler/laws.FnDropRedundant", spec := "fnDropRedundant", unfollowed := true, recurses := true, apart := false }
def FnDropRedundantSaid : Prop := fnDropRedundantRow.holds Tryz.pinned (OpenSpec.ofChange fnDropRedundantSpec)

/-- ITS FALSE NEIGHBOUR: 'it returns false'. Refute it at one input. -/
def fnDropRedundantWrong : ChangeSpec := { name := "fnDropRedundant", fn := fun _ => fun
  | [d1, d2] => { results := [.lit (.bool false)], args := [d1, d2] }
  | _ => none }
def FnDropRedundantWrongFalsely : Prop := fnDropRedundantRow.holds Tryz.pinned (OpenSpec.ofChange fnDropRedundantWrong)

/-- 'laws.FnExactCompileClauses': WHATEVER THE INPUT: true; the input reads as it did. -/
def fnExactCompileClausesSpec : ChangeSpec := { name := "fnExactCompileClauses", fn := fun _ => fun
  | [d1, d2, d3, d4] => { results := [.lit (.bool true)], args := [d1, d2, d3, d4] }
  | _ => none }
def fnExactCompileClausesRow : OpenClaim := { program := "ytnackipaoepmfaagreat", sum := "93183b07e4e1f7311dee4482a221a2fdc1e3ab3e7e33abad754d509323c52829", func := "loop.example/matchcompiler/laws.FnExactCompileClauses", spec := "fnExactCompileClauses", unfollowed := true, recurses := true, loops := true, apart := false }
def FnExactCompileClausesSaid : Prop := fnExactCompileClausesRow.holds Tryz.pinned (OpenSpec.ofChange fnExactCompileClausesSpec)

/-- ITS FALSE NEIGHBOUR: 'it returns false'. Refute it at one input. -/
def fnExactCompileClausesWrong : ChangeSpec := { name := "fnExactCompileClauses", fn := fun _ => fun
  | [d1, d2, d3, d4] => { results := [.lit (.bool false)], args := [d1, d2, d3, d4] }
  | _ => none }
def FnExactCompileClausesWrongFalsely : Prop := fnExactCompileClausesRow.holds Tryz.pinned (OpenSpec.ofChange fnExactCompileClausesWrong)

/-- 'laws.FnSameChoice': WHATEVER THE INPUT: true; the input reads as it did. -/
def fnSameChoiceSpec : ChangeSpec := { name := "fnSameChoice", fn := fun _ => fun
  | [d1, d2] => { results := [.lit (.bool true)], args := [d1, d2] }
  | _ => none }
def fnSameChoiceRow : OpenClaim := { program := "ytnackipaoepmfaagreat", sum := "93183b07e4e1f7311dee4482a221a2fdc1e3ab3e7e33abad754d509323c52829", func := "loop.example/matchcompiler/laws.FnSameChoice", spec := "fnSameChoice", unfollowed := true, recurses := true, apart := false }
def FnSameChoiceSaid : Prop := fnSameChoiceRow.holds Tryz.pinned (OpenSpec.ofChange fnSameChoiceSpec)

/-- ITS FALSE NEIGHBOUR: 'it returns false'. Refute it at one input. -/
def fnSameChoiceWrong : ChangeSpec := { name := "fnSameChoice", fn := fun _ => fun
  | [d1, d2] => { results := [.lit (.bool false)], args := [d1, d2] }
  | _ => none }
def FnSameChoiceWrongFalsely : Prop := fnSameChoiceRow.holds Tryz.pinned (OpenSpec.ofChange fnSameChoiceWrong)

/- THE SECOND FORM. 'bulk': how many values and letters a reading holds, each counted each time it is reached (what is shared counts as often as it is met; a slice's spare places count too). A statement '..UptoSaid' is the law's where the arguments, and the package variables that the reading takes, are together of bulk at most 1048576: NARROWER than '..Said'. Prove '..Said' where nothing that the law and all that it calls make is longer than what came in: it says more and counts as full. Else prove '..UptoSaid'. A law counts once. -/
mutual
def uptoBulk {H : Type} : DataW H → Nat
  | .lit (.string bytes) => bytes.length + 1
  | .lit _ => 1
  | .nil => 1
  | .ptr d => uptoBulk d + 1
  | .slice elems spare => uptoBulkAll elems + uptoBulkAll spare + 1
  | .agg parts => uptoBulkAll parts + 1
  | .iface _ d => uptoBulk d + 1
  | .map entries => uptoBulkEntries entries + 1
  | .held _ => 1
def uptoBulkAll {H : Type} : List (DataW H) → Nat
  | [] => 0
  | d :: r => uptoBulk d + uptoBulkAll r
def uptoBulkEntries {H : Type} : List (Lit × DataW H) → Nat
  | [] => 0
  | x :: r => uptoBulkEntry x + uptoBulkEntries r
def uptoBulkEntry {H : Type} : Lit × DataW H → Nat
  | (.string bytes, d) => bytes.length + uptoBulk d + 1
  | (_, d) => uptoBulk d + 1
 end
def uptoSmall : (H : Type) → List (DataW H) → Bool := fun _ ds => decide (uptoBulkAll ds ≤ 1048576)
def OpenSpec.upto (s : _root_.Go.ChangeSpec) : _root_.Go.OpenSpec := { _root_.Go.OpenSpec.ofChange s with cond := some uptoSmall }

/-- 'laws.FnCoveredClauses', WHERE WHAT IT READS IS OF BULK AT MOST 1048576: true; the input reads as it did. -/
def fnCoveredClausesUptoRow : OpenClaim := { program := "ytnackipaoepmfaagreat", sum := "93183b07e4e1f7311dee4482a221a2fdc1e3ab3e7e33abad754d509323c52829", func := "loop.example/matchcompiler/laws.FnCoveredClauses", spec := "fnCoveredClauses", unfollowed := true, recurses := true, apart := false, narrowed := true }
def FnCoveredClausesUptoSaid : Prop := fnCoveredClausesUptoRow.holds Tryz.pinned (OpenSpec.upto fnCoveredClausesSpec)

/-- 'laws.FnExhaustive', WHERE WHAT IT READS IS OF BULK AT MOST 1048576: true; the input reads as it did. -/
def fnExhaustiveUptoRow : OpenClaim := { program := "ytnackipaoepmfaagreat", sum := "93183b07e4e1f7311dee4482a221a2fdc1e3ab3e7e33abad754d509323c52829", func := "loop.example/matchcompiler/laws.FnExhaustive", spec := "fnExhaustive", unfollowed := true, recurses := true, apart := false, narrowed := true }
def FnExhaustiveUptoSaid : Prop := fnExhaustiveUptoRow.holds Tryz.pinned (OpenSpec.upto fnExhaustiveSpec)

/-- 'laws.FnClausesMeet', WHERE WHAT IT READS IS OF BULK AT MOST 1048576: true; the input reads as it did. -/
def fnClausesMeetUptoRow : OpenClaim := { program := "ytnackipaoepmfaagreat", sum := "93183b07e4e1f7311dee4482a221a2fdc1e3ab3e7e33abad754d509323c52829", func := "loop.example/matchcompiler/laws.FnClausesMeet", spec := "fnClausesMeet", unfollowed := true, recurses := true, apart := false, narrowed := true }
def FnClausesMeetUptoSaid : Prop := fnClausesMeetUptoRow.holds Tryz.pinned (OpenSpec.upto fnClausesMeetSpec)

/-- 'laws.FnClosedClauses', WHERE WHAT IT READS IS OF BULK AT MOST 1048576: true; the input reads as it did. -/
def fnClosedClausesUptoRow : OpenClaim := { program := "ytnackipaoepmfaagreat", sum := "93183b07e4e1f7311dee4482a221a2fdc1e3ab3e7e33abad754d509323c52829", func := "loop.example/matchcompiler/laws.FnClosedClauses", spec := "fnClosedClauses", unfollowed := true, recurses := true, apart := false, narrowed := true }
def FnClosedClausesUptoSaid : Prop := fnClosedClausesUptoRow.holds Tryz.pinned (OpenSpec.upto fnClosedClausesSpec)

/-- 'laws.FnTreePicks', WHERE WHAT IT READS IS OF BULK AT MOST 1048576: true; the input reads as it did. -/
def fnTreePicksUptoRow : OpenClaim := { program := "ytnackipaoepmfaagreat", sum := "93183b07e4e1f7311dee4482a221a2fdc1e3ab3e7e33abad754d509323c52829", func := "loop.example/matchcompiler/laws.FnTreePicks", spec := "fnTreePicks", unfollowed := true, recurses := true, apart := false, narrowed := true }
def FnTreePicksUptoSaid : Prop := fnTreePicksUptoRow.holds Tryz.pinned (OpenSpec.upto fnTreePicksSpec)

/-- 'laws.FnRedundantClauses', WHERE WHAT IT READS IS OF BULK AT MOST 1048576: true; the input reads as it did. -/
def fnRedundantClausesUptoRow : OpenClaim := { program := "ytnackipaoepmfaagreat", sum := "93183b07e4e1f7311dee4482a221a2fdc1e3ab3e7e33abad754d509323c52829", func := "loop.example/matchcompiler/laws.FnRedundantClauses", spec := "fnRedundantClauses", unfollowed := true, recurses := true, apart := false, narrowed := true }
def FnRedundantClausesUptoSaid : Prop := fnRedundantClausesUptoRow.holds Tryz.pinned (OpenSpec.upto fnRedundantClausesSpec)

/-- 'laws.FnSwapClauses', WHERE WHAT IT READS IS OF BULK AT MOST 1048576: true; the input reads as it did. -/
def fnSwapClausesUptoRow : OpenClaim := { program := "ytnackipaoepmfaagreat", sum := "93183b07e4e1f7311dee4482a221a2fdc1e3ab3e7e33abad754d509323c52829", func := "loop.example/matchcompiler/laws.FnSwapClauses", spec := "fnSwapClauses", unfollowed := true, recurses := true, apart := false, narrowed := true }
def FnSwapClausesUptoSaid : Prop := fnSwapClausesUptoRow.holds Tryz.pinned (OpenSpec.upto fnSwapClausesSpec)

/-- 'laws.FnCostDepth', WHERE WHAT IT READS IS OF BULK AT MOST 1048576: true; the input reads as it did. -/
def fnCostDepthUptoRow : OpenClaim := { program := "ytnackipaoepmfaagreat", sum := "93183b07e4e1f7311dee4482a221a2fdc1e3ab3e7e33abad754d509323c52829", func := "loop.example/matchcompiler/laws.FnCostDepth", spec := "fnCostDepth", unfollowed := true, recurses := true, apart := false, narrowed := true }
def FnCostDepthUptoSaid : Prop := fnCostDepthUptoRow.holds Tryz.pinned (OpenSpec.upto fnCostDepthSpec)

/-- 'laws.FnRunTree', WHERE WHAT IT READS IS OF BULK AT MOST 1048576: true; the input reads as it did. -/
def fnRunTreeUptoRow : OpenClaim := { program := "ytnackipaoepmfaagreat", sum := "93183b07e4e1f7311dee4482a221a2fdc1e3ab3e7e33abad754d509323c52829", func := "loop.example/matchcompiler/laws.FnRunTree", spec := "fnRunTree", unfollowed := true, recurses := true, apart := false, narrowed := true }
def FnRunTreeUptoSaid : Prop := fnRunTreeUptoRow.holds Tryz.pinned (OpenSpec.upto fnRunTreeSpec)

/-- 'laws.FnDropRedundant', WHERE WHAT IT READS IS OF BULK AT MOST 1048576: true; the input reads as it did. -/
def fnDropRedundantUptoRow : OpenClaim := { program := "ytnackipaoepmfaagreat", sum := "93183b07e4e1f7311dee4482a221a2fdc1e3ab3e7e33abad754d509323c52829", func := "loop.example/matchcompiler/laws.FnDropRedundant", spec := "fnDropRedundant", unfollowed := true, recurses := true, apart := false, narrowed := true }
def FnDropRedundantUptoSaid : Prop := fnDropRedundantUptoRow.holds Tryz.pinned (OpenSpec.upto fnDropRedundantSpec)

/-- 'laws.FnExactCompileClauses', WHERE WHAT IT READS IS OF BULK AT MOST 1048576: true; the input reads as it did. -/
def fnExactCompileClausesUptoRow : OpenClaim := { program := "ytnackipaoepmfaagreat", sum := "93183b07e4e1f7311dee4482a221a2fdc1e3ab3e7e33abad754d509323c52829", func := "loop.example/matchcompiler/laws.FnExactCompileClauses", spec := "fnExactCompileClauses", unfollowed := true, recurses := true, loops := true, apart := false, narrowed := true }
def FnExactCompileClausesUptoSaid : Prop := fnExactCompileClausesUptoRow.holds Tryz.pinned (OpenSpec.upto fnExactCompileClausesSpec)

/-- 'laws.FnSameChoice', WHERE WHAT IT READS IS OF BULK AT MOST 1048576: true; the input reads as it did. -/
def fnSameChoiceUptoRow : OpenClaim := { program := "ytnackipaoepmfaagreat", sum := "93183b07e4e1f7311dee4482a221a2fdc1e3ab3e7e33abad754d509323c52829", func := "loop.example/matchcompiler/laws.FnSameChoice", spec := "fnSameChoice", unfollowed := true, recurses := true, apart := false, narrowed := true }
def FnSameChoiceUptoSaid : Prop := fnSameChoiceUptoRow.holds Tryz.pinned (OpenSpec.upto fnSameChoiceSpec)

end Rows
end Go.Proofs.YtnackipaoepmfaaGreat
