/-
  No cell of these rows narrows 'for every input' (looked for: loops, veiled, ifaces, maps, wideKeys, modest, calm, conditions, laid).
  DERIVED. THE GIVEN ROWS OF THIS SEAT. 3 by the template 'for every input the law returns true; each argument reads behind the call as it read before'; 0 by the template 'total and deterministic' (their statements: YtgjpamkllimhdaaGreatTotals.lean).
  GIVEN WITH THE SEED: the statements are not yours to turn. If you find one false, say at which input.
  Laid BY PROGRAM, IN A SANDBOX (cutbox-rows.mjs): the forced cells as the released guide's own fill.sh prints them over the translation 08836947f37e3504… (all of the seat's roots in one cut). By AI agents, Wed Nov 11 2026. No macro, syntax, notation, axiom, sorry.
-/
import Derived.Test.YtgjpamkllimhdaaGreatChecked
import GoSem.Claim
import GoSem.ClaimJoined
import GoSem.ClaimMapViews
import Derived.JoinedTies
import Derived.KernelRfl
namespace Go.Proofs.YtgjpamkllimhdaaGreat
/- THE CELL 'sum', in the pinned program and in every row, IS THE sha256 OF THE DUMP (.gsa) THAT YtgjpamkllimhdaaGreatProg.lean LOADS. Nothing in Lean hashes anything: it is a label: what it is worth is what the hold of that sum in a sandbox is worth. -/
noncomputable def Tryz.pinned : Pinned := { name := "ytgjpamkllimhdaagreat", sum := "08836947f37e350484c46ff62b0832d07cd04203779367f84d3200c6fa034424", checked := Tryz.checked }
namespace Rows
def none {H : Type} : Left H := { results := [], args := [] }

/-- 'laws.FnStepsTree': WHATEVER THE INPUT: true; the input reads as it did. -/
def fnStepsTreeSpec : ChangeSpec := { name := "fnStepsTree", fn := fun _ => fun
  | [d] => { results := [.lit (.bool true)], args := [d] }
  | _ => none }
def fnStepsTreeRow : OpenClaim := { program := "ytgjpamkllimhdaagreat", sum := "08836947f37e350484c46ff62b0832d07cd04203779367f84d3200c6fa034424", func := "loop.example/matchcompiler/laws.FnStepsTree", spec := "fnStepsTree", unfollowed := true, recurses := true, apart := false }
def FnStepsTreeSaid : Prop := fnStepsTreeRow.holds Tryz.pinned (OpenSpec.ofChange fnStepsTreeSpec)

/-- ITS FALSE NEIGHBOUR: 'it returns false'. Refute it at one input. -/
def fnStepsTreeWrong : ChangeSpec := { name := "fnStepsTree", fn := fun _ => fun
  | [d] => { results := [.lit (.bool false)], args := [d] }
  | _ => none }
def FnStepsTreeWrongFalsely : Prop := fnStepsTreeRow.holds Tryz.pinned (OpenSpec.ofChange fnStepsTreeWrong)

/-- 'laws.FnForcedFirst': WHATEVER THE INPUT: true; the input reads as it did. -/
def fnForcedFirstSpec : ChangeSpec := { name := "fnForcedFirst", fn := fun _ => fun
  | [d] => { results := [.lit (.bool true)], args := [d] }
  | _ => none }
def fnForcedFirstRow : OpenClaim := { program := "ytgjpamkllimhdaagreat", sum := "08836947f37e350484c46ff62b0832d07cd04203779367f84d3200c6fa034424", func := "loop.example/matchcompiler/laws.FnForcedFirst", spec := "fnForcedFirst", unfollowed := true, recurses := true, apart := false }
def FnForcedFirstSaid : Prop := fnForcedFirstRow.holds Tryz.pinned (OpenSpec.ofChange fnForcedFirstSpec)

/-- ITS FALSE NEIGHBOUR: 'it returns false'. Refute it at one input. -/
def fnForcedFirstWrong : ChangeSpec := { name := "fnForcedFirst", fn := fun _ => fun
  | [d] => { results := [.lit (.bool false)], args := [d] }
  | _ => none }
def FnForcedFirstWrongFalsely : Prop := fnForcedFirstRow.holds Tryz.pinned (OpenSpec.ofChange fnForcedFirstWrong)

/-- 'laws.FnTreeCost': WHATEVER THE INPUT: true; the input reads as it did. -/
def fnTreeCostSpec : ChangeSpec := { name := "fnTreeCost", fn := fun _ => fun
  | [d] => { results := [.lit (.bool true)], args := [d] }
  | _ => none }
def fnTreeCostRow : OpenClaim := { program := "ytgjpamkllimhdaagreat", sum := "08836947f37e350484c46ff62b0832d07cd04203779367f84d3200c6fa034424", func := "loop.example/matchcompiler/laws.FnTreeCost", spec := "fnTreeCost", unfollowed := true, recurses := true, apart := false }
def FnTreeCostSaid : Prop := fnTreeCostRow.holds Tryz.pinned (OpenSpec.ofChange fnTreeCostSpec)

/-- ITS FALSE NEIGHBOUR: 'it returns false'. Refute it at one input. -/
def fnTreeCostWrong : ChangeSpec := { name := "fnTreeCost", fn := fun _ => fun
  | [d] => { results := [.lit (.bool false)], args := [d] }
  | _ => none }
def FnTreeCostWrongFalsely : Prop := fnTreeCostRow.holds Tryz.pinned (OpenSpec.ofChange fnTreeCostWrong)

/- THE SECOND FORM. 'bulk': how many values and letters a reading holds, each counted each time it is reached (what is shared counts as often as it is met; a slice's spare places count too). A statement '..UptoSaid' is the law's where the arguments, and the package variables that the reading takes, are together of bulk at most 1048576: NARROWER than '..Said'. Prove '..Said' where nothing that the law and all that it calls make is longer than what came in: it says more and counts as full. Else prove '..UptoSaid'. A law counts once. -/
mutual
def uptoBulk {H : Type} : DataW H → Nat
  | .lit (.string bytes) => bytes.length + 1
  | .lit _ => 1
  | .nil => 1
  | .ptr d => uptoBulk d + 1
  | .slice elems spare => uptoBulkAll elems + uptoBulkAll spare + 1
  | .agg parts => uptoBulkAll parts + 1
  | .iface _ d => uptoBulk d + 1
  | .map entries => uptoBulkEntries entries + 1
  | .held _ => 1
def uptoBulkAll {H : Type} : List (DataW H) → Nat
  | [] => 0
  | d :: r => uptoBulk d + uptoBulkAll r
def uptoBulkEntries {H : Type} : List (Lit × DataW H) → Nat
  | [] => 0
  | x :: r => uptoBulkEntry x + uptoBulkEntries r
def uptoBulkEntry {H : Type} : Lit × DataW H → Nat
  | (.string bytes, d) => bytes.length + uptoBulk d + 1
  | (_, d) => uptoBulk d + 1
 end
def uptoSmall : (H : Type) → List (DataW H) → Bool := fun _ ds => decide (uptoBulkAll ds ≤ 1048576)
def OpenSpec.upto (s : _root_.Go.ChangeSpec) : _root_.Go.OpenSpec := { _root_.Go.OpenSpec.ofChange s with cond := some uptoSmall }

/-- 'laws.FnStepsTree', WHERE WHAT IT READS IS OF BULK AT MOST 1048576: true; the input reads as it did. -/
def fnStepsTreeUptoRow : OpenClaim := { program := "ytgjpamkllimhdaagreat", sum := "08836947f37e350484c46ff62b0832d07cd04203779367f84d3200c6fa034424", func := "loop.example/matchcompiler/laws.FnStepsTree", spec := "fnStepsTree", unfollowed := true, recurses := true, apart := false, narrowed := true }
def FnStepsTreeUptoSaid : Prop := fnStepsTreeUptoRow.holds Tryz.pinned (OpenSpec.upto fnStepsTreeSpec)

/-- 'laws.FnForcedFirst', WHERE WHAT IT READS IS OF BULK AT MOST 1048576: true; the input reads as it did. -/
def fnForcedFirstUptoRow : OpenClaim := { program := "ytgjpamkllimhdaagreat", sum := "08836947f37e350484c46ff62b0832d07cd04203779367f84d3200c6fa034424", func := "loop.example/matchcompiler/laws.FnForcedFirst", spec := "fnForcedFirst", unfollowed := true, recurses := true, apart := false, narrowed := true }
def FnForcedFirstUptoSaid : Prop := fnForcedFirstUptoRow.holds Tryz.pinned (OpenSpec.upto fnForcedFirstSpec)

/-- 'laws.FnTreeCost', WHERE WHAT IT READS IS OF BULK AT MOST 1048576: true; the input reads as it did. -/
def fnTreeCostUptoRow : OpenClaim := { program := "ytgjpamkllimhdaagreat", sum := "08836947f37e350484c46ff62b0832d07cd04203779367f84d3200c6fa034424", func := "loop.example/matchcompiler/laws.FnTreeCost", spec := "fnTreeCost", unfollowed := true, recurses := true, apart := false, narrowed := true }
def FnTreeCostUptoSaid : Prop := fnTreeCostUptoRow.holds Tryz.pinned (OpenSpec.upto fnTreeCostSpec)

end Rows
end Go.Proofs.YtgjpamkllimhdaaGreat
