/-
  No cell of these rows narrows 'for every input' (looked for: loops, veiled, ifaces, maps, wideKeys, modest, calm, conditions, laid).
  DERIVED. THE GIVEN ROWS OF THIS SEAT. 8 by the template 'for every input the law returns true; each argument reads behind the call as it read before'; 0 by the template 'total and deterministic' (their statements: YtenmmbjgnlflnaaGreatTotals.lean).
  GIVEN WITH THE SEED: the statements are not yours to turn. If you find one false, say at which input.
  Laid BY PROGRAM, IN A SANDBOX (cutbox-rows.mjs): the forced cells as the released guide's own fill.sh prints them over the translation a23cc912fda8d08e… (all of the seat's roots in one cut). By AI agents, Wed Nov 11 2026. No macro, syntax, notation, axiom, sorry.
-/
import Derived.Test.YtenmmbjgnlflnaaGreatChecked
import GoSem.Claim
import GoSem.ClaimJoined
import GoSem.ClaimMapViews
import Derived.JoinedTies
import Derived.KernelRfl
namespace Go.Proofs.YtenmmbjgnlflnaaGreat
/- THE CELL 'sum', in the pinned program and in every row, IS THE sha256 OF THE DUMP (.gsa) THAT YtenmmbjgnlflnaaGreatProg.lean LOADS. Nothing in Lean hashes anything: it is a label: what it is worth is what the hold of that sum in a sandbox is worth. -/
noncomputable def Tryz.pinned : Pinned := { name := "ytenmmbjgnlflnaagreat", sum := "a23cc912fda8d08e1569cf8cd999ed233827f9fd83f559dde7ff576d0db0250c", checked := Tryz.checked }
namespace Rows
def none {H : Type} : Left H := { results := [], args := [] }

/-- 'laws.FnDescendingFun': WHATEVER THE INPUT: true; the input reads as it did. -/
def fnDescendingFunSpec : ChangeSpec := { name := "fnDescendingFun", fn := fun _ => fun
  | [d] => { results := [.lit (.bool true)], args := [d] }
  | _ => none }
def fnDescendingFunRow : OpenClaim := { program := "ytenmmbjgnlflnaagreat", sum := "a23cc912fda8d08e1569cf8cd999ed233827f9fd83f559dde7ff576d0db0250c", func := "loop.example/matchcompiler/laws.FnDescendingFun", spec := "fnDescendingFun", unfollowed := true, recurses := true, apart := false }
def FnDescendingFunSaid : Prop := fnDescendingFunRow.holds Tryz.pinned (OpenSpec.ofChange fnDescendingFunSpec)

/-- ITS FALSE NEIGHBOUR: 'it returns false'. Refute it at one input. -/
def fnDescendingFunWrong : ChangeSpec := { name := "fnDescendingFun", fn := fun _ => fun
  | [d] => { results := [.lit (.bool false)], args := [d] }
  | _ => none }
def FnDescendingFunWrongFalsely : Prop := fnDescendingFunRow.holds Tryz.pinned (OpenSpec.ofChange fnDescendingFunWrong)

/-- 'laws.FnForcedFirst': WHATEVER THE INPUT: true; the input reads as it did. -/
def fnForcedFirstSpec : ChangeSpec := { name := "fnForcedFirst", fn := fun _ => fun
  | [d] => { results := [.lit (.bool true)], args := [d] }
  | _ => none }
def fnForcedFirstRow : OpenClaim := { program := "ytenmmbjgnlflnaagreat", sum := "a23cc912fda8d08e1569cf8cd999ed233827f9fd83f559dde7ff576d0db0250c", func := "loop.example/matchcompiler/laws.FnForcedFirst", spec := "fnForcedFirst", unfollowed := true, recurses := true, apart := false }
def FnForcedFirstSaid : Prop := fnForcedFirstRow.holds Tryz.pinned (OpenSpec.ofChange fnForcedFirstSpec)

/-- ITS FALSE NEIGHBOUR: 'it returns false'. Refute it at one input. -/
def fnForcedFirstWrong : ChangeSpec := { name := "fnForcedFirst", fn := fun _ => fun
  | [d] => { results := [.lit (.bool false)], args := [d] }
  | _ => none }
def FnForcedFirstWrongFalsely : Prop := fnForcedFirstRow.holds Tryz.pinned (OpenSpec.ofChange fnForcedFirstWrong)

/-- 'laws.FnCountCalls': WHATEVER THE INPUT: true; the input reads as it did. -/
def fnCountCallsSpec : ChangeSpec := { name := "fnCountCalls", fn := fun _ => fun
  | [d] => { results := [.lit (.bool true)], args := [d] }
  | _ => none }
def fnCountCallsRow : OpenClaim := { program := "ytenmmbjgnlflnaagreat", sum := "a23cc912fda8d08e1569cf8cd999ed233827f9fd83f559dde7ff576d0db0250c", func := "loop.example/matchcompiler/laws.FnCountCalls", spec := "fnCountCalls", unfollowed := true, recurses := true, apart := false }
def FnCountCallsSaid : Prop := fnCountCallsRow.holds Tryz.pinned (OpenSpec.ofChange fnCountCallsSpec)

/-- ITS FALSE NEIGHBOUR: 'it returns false'. Refute it at one input. -/
def fnCountCallsWrong : ChangeSpec := { name := "fnCountCalls", fn := fun _ => fun
  | [d] => { results := [.lit (.bool false)], args := [d] }
  | _ => none }
def FnCountCallsWrongFalsely : Prop := fnCountCallsRow.holds Tryz.pinned (OpenSpec.ofChange fnCountCallsWrong)

/-- 'laws.FnRunMore': WHATEVER THE INPUT: true; the input reads as it did. -/
def fnRunMoreSpec : ChangeSpec := { name := "fnRunMore", fn := fun _ => fun
  | [d] => { results := [.lit (.bool true)], args := [d] }
  | _ => none }
def fnRunMoreRow : OpenClaim := { program := "ytenmmbjgnlflnaagreat", sum := "a23cc912fda8d08e1569cf8cd999ed233827f9fd83f559dde7ff576d0db0250c", func := "loop.example/matchcompiler/laws.FnRunMore", spec := "fnRunMore", unfollowed := true, recurses := true, apart := false }
def FnRunMoreSaid : Prop := fnRunMoreRow.holds Tryz.pinned (OpenSpec.ofChange fnRunMoreSpec)

/-- ITS FALSE NEIGHBOUR: 'it returns false'. Refute it at one input. -/
def fnRunMoreWrong : ChangeSpec := { name := "fnRunMore", fn := fun _ => fun
  | [d] => { results := [.lit (.bool false)], args := [d] }
  | _ => none }
def FnRunMoreWrongFalsely : Prop := fnRunMoreRow.holds Tryz.pinned (OpenSpec.ofChange fnRunMoreWrong)

/-- 'laws.FnRunFun': WHATEVER THE INPUT: true; the input reads as it did. -/
def fnRunFunSpec : ChangeSpec := { name := "fnRunFun", fn := fun _ => fun
  | [d] => { results := [.lit (.bool true)], args := [d] }
  | _ => none }
def fnRunFunRow : OpenClaim := { program := "ytenmmbjgnlflnaagreat", sum := "a23cc912fda8d08e1569cf8cd999ed233827f9fd83f559dde7ff576d0db0250c", func := "loop.example/matchcompiler/laws.FnRunFun", spec := "fnRunFun", unfollowed := true, recurses := true, apart := false }
def FnRunFunSaid : Prop := fnRunFunRow.holds Tryz.pinned (OpenSpec.ofChange fnRunFunSpec)

/-- ITS FALSE NEIGHBOUR: 'it returns false'. Refute it at one input. -/
def fnRunFunWrong : ChangeSpec := { name := "fnRunFun", fn := fun _ => fun
  | [d] => { results := [.lit (.bool false)], args := [d] }
  | _ => none }
def FnRunFunWrongFalsely : Prop := fnRunFunRow.holds Tryz.pinned (OpenSpec.ofChange fnRunFunWrong)

/-- 'laws.FnEvalExpr': WHATEVER THE INPUT: true; the input reads as it did. -/
def fnEvalExprSpec : ChangeSpec := { name := "fnEvalExpr", fn := fun _ => fun
  | [d] => { results := [.lit (.bool true)], args := [d] }
  | _ => none }
def fnEvalExprRow : OpenClaim := { program := "ytenmmbjgnlflnaagreat", sum := "a23cc912fda8d08e1569cf8cd999ed233827f9fd83f559dde7ff576d0db0250c", func := "loop.example/matchcompiler/laws.FnEvalExpr", spec := "fnEvalExpr", unfollowed := true, recurses := true, apart := false }
def FnEvalExprSaid : Prop := fnEvalExprRow.holds Tryz.pinned (OpenSpec.ofChange fnEvalExprSpec)

/-- ITS FALSE NEIGHBOUR: 'it returns false'. Refute it at one input. -/
def fnEvalExprWrong : ChangeSpec := { name := "fnEvalExpr", fn := fun _ => fun
  | [d] => { results := [.lit (.bool false)], args := [d] }
  | _ => none }
def FnEvalExprWrongFalsely : Prop := fnEvalExprRow.holds Tryz.pinned (OpenSpec.ofChange fnEvalExprWrong)

/-- 'laws.FnEvalValue': WHATEVER THE INPUT: true; the input reads as it did. -/
def fnEvalValueSpec : ChangeSpec := { name := "fnEvalValue", fn := fun _ => fun
  | [d] => { results := [.lit (.bool true)], args := [d] }
  | _ => none }
def fnEvalValueRow : OpenClaim := { program := "ytenmmbjgnlflnaagreat", sum := "a23cc912fda8d08e1569cf8cd999ed233827f9fd83f559dde7ff576d0db0250c", func := "loop.example/matchcompiler/laws.FnEvalValue", spec := "fnEvalValue", unfollowed := true, recurses := true, apart := false }
def FnEvalValueSaid : Prop := fnEvalValueRow.holds Tryz.pinned (OpenSpec.ofChange fnEvalValueSpec)

/-- ITS FALSE NEIGHBOUR: 'it returns false'. Refute it at one input. -/
def fnEvalValueWrong : ChangeSpec := { name := "fnEvalValue", fn := fun _ => fun
  | [d] => { results := [.lit (.bool false)], args := [d] }
  | _ => none }
def FnEvalValueWrongFalsely : Prop := fnEvalValueRow.holds Tryz.pinned (OpenSpec.ofChange fnEvalValueWrong)

/-- 'laws.FnTotalFuns': WHATEVER THE INPUT: true; the input reads as it did. -/
def fnTotalFunsSpec : ChangeSpec := { name := "fnTotalFuns", fn := fun _ => fun
  | [d] => { results := [.lit (.bool true)], args := [d] }
  | _ => none }
def fnTotalFunsRow : OpenClaim := { program := "ytenmmbjgnlflnaagreat", sum := "a23cc912fda8d08e1569cf8cd999ed233827f9fd83f559dde7ff576d0db0250c", func := "loop.example/matchcompiler/laws.FnTotalFuns", spec := "fnTotalFuns", unfollowed := true, recurses := true, apart := false }
def FnTotalFunsSaid : Prop := fnTotalFunsRow.holds Tryz.pinned (OpenSpec.ofChange fnTotalFunsSpec)

/-- ITS FALSE NEIGHBOUR: 'it returns false'. Refute it at one input. -/
def fnTotalFunsWrong : ChangeSpec := { name := "fnTotalFuns", fn := fun _ => fun
  | [d] => { results := [.lit (.bool false)], args := [d] }
  | _ => none }
def FnTotalFunsWrongFalsely : Prop := fnTotalFunsRow.holds Tryz.pinned (OpenSpec.ofChange fnTotalFunsWrong)

/- THE SECOND FORM. 'bulk': how many values and letters a reading holds, each counted each time it is reached (what is shared counts as often as it is met; a slice's spare places count too). A statement '..UptoSaid' is the law's where the arguments, and the package variables that the reading takes, are together of bulk at most 1048576: NARROWER than '..Said'. Prove '..Said' where nothing that the law and all that it calls make is longer than what came in: it says more and counts as full. Else prove '..UptoSaid'. A law counts once. -/
mutual
def uptoBulk {H : Type} : DataW H → Nat
  | .lit (.string bytes) => bytes.length + 1
  | .lit _ => 1
  | .nil => 1
  | .ptr d => uptoBulk d + 1
  | .slice elems spare => uptoBulkAll elems + uptoBulkAll spare + 1
  | .agg parts => uptoBulkAll parts + 1
  | .iface _ d => uptoBulk d + 1
  | .map entries => uptoBulkEntries entries + 1
  | .held _ => 1
def uptoBulkAll {H : Type} : List (DataW H) → Nat
  | [] => 0
  | d :: r => uptoBulk d + uptoBulkAll r
def uptoBulkEntries {H : Type} : List (Lit × DataW H) → Nat
  | [] => 0
  | x :: r => uptoBulkEntry x + uptoBulkEntries r
def uptoBulkEntry {H : Type} : Lit × DataW H → Nat
  | (.string bytes, d) => bytes.length + uptoBulk d + 1
  | (_, d) => uptoBulk d + 1
 end
def uptoSmall : (H : Type) → List (DataW H) → Bool := fun _ ds => decide (uptoBulkAll ds ≤ 1048576)
def OpenSpec.upto (s : _root_.Go.ChangeSpec) : _root_.Go.OpenSpec := { _root_.Go.OpenSpec.ofChange s with cond := some uptoSmall }

/-- 'laws.FnDescendingFun', WHERE WHAT IT READS IS OF BULK AT MOST 1048576: true; the input reads as it did. -/
def fnDescendingFunUptoRow : OpenClaim := { program := "ytenmmbjgnlflnaagreat", sum := "a23cc912fda8d08e1569cf8cd999ed233827f9fd83f559dde7ff576d0db0250c", func := "loop.example/matchcompiler/laws.FnDescendingFun", spec := "fnDescendingFun", unfollowed := true, recurses := true, apart := false, narrowed := true }
def FnDescendingFunUptoSaid : Prop := fnDescendingFunUptoRow.holds Tryz.pinned (OpenSpec.upto fnDescendingFunSpec)

/-- 'laws.FnForcedFirst', WHERE WHAT IT READS IS OF BULK AT MOST 1048576: true; the input reads as it did. -/
def fnForcedFirstUptoRow : OpenClaim := { program := "ytenmmbjgnlflnaagreat", sum := "a23cc912fda8d08e1569cf8cd999ed233827f9fd83f559dde7ff576d0db0250c", func := "loop.example/matchcompiler/laws.FnForcedFirst", spec := "fnForcedFirst", unfollowed := true, recurses := true, apart := false, narrowed := true }
def FnForcedFirstUptoSaid : Prop := fnForcedFirstUptoRow.holds Tryz.pinned (OpenSpec.upto fnForcedFirstSpec)

/-- 'laws.FnCountCalls', WHERE WHAT IT READS IS OF BULK AT MOST 1048576: true; the input reads as it did. -/
def fnCountCallsUptoRow : OpenClaim := { program := "ytenmmbjgnlflnaagreat", sum := "a23cc912fda8d08e1569cf8cd999ed233827f9fd83f559dde7ff576d0db0250c", func := "loop.example/matchcompiler/laws.FnCountCalls", spec := "fnCountCalls", unfollowed := true, recurses := true, apart := false, narrowed := true }
def FnCountCallsUptoSaid : Prop := fnCountCallsUptoRow.holds Tryz.pinned (OpenSpec.upto fnCountCallsSpec)

/-- 'laws.FnRunMore', WHERE WHAT IT READS IS OF BULK AT MOST 1048576: true; the input reads as it did. -/
def fnRunMoreUptoRow : OpenClaim := { program := "ytenmmbjgnlflnaagreat", sum := "a23cc912fda8d08e1569cf8cd999ed233827f9fd83f559dde7ff576d0db0250c", func := "loop.example/matchcompiler/laws.FnRunMore", spec := "fnRunMore", unfollowed := true, recurses := true, apart := false, narrowed := true }
def FnRunMoreUptoSaid : Prop := fnRunMoreUptoRow.holds Tryz.pinned (OpenSpec.upto fnRunMoreSpec)

/-- 'laws.FnRunFun', WHERE WHAT IT READS IS OF BULK AT MOST 1048576: true; the input reads as it did. -/
def fnRunFunUptoRow : OpenClaim := { program := "ytenmmbjgnlflnaagreat", sum := "a23cc912fda8d08e1569cf8cd999ed233827f9fd83f559dde7ff576d0db0250c", func := "loop.example/matchcompiler/laws.FnRunFun", spec := "fnRunFun", unfollowed := true, recurses := true, apart := false, narrowed := true }
def FnRunFunUptoSaid : Prop := fnRunFunUptoRow.holds Tryz.pinned (OpenSpec.upto fnRunFunSpec)

/-- 'laws.FnEvalExpr', WHERE WHAT IT READS IS OF BULK AT MOST 1048576: true; the input reads as it did. -/
def fnEvalExprUptoRow : OpenClaim := { program := "ytenmmbjgnlflnaagreat", sum := "a23cc912fda8d08e1569cf8cd999ed233827f9fd83f559dde7ff576d0db0250c", func := "loop.example/matchcompiler/laws.FnEvalExpr", spec := "fnEvalExpr", unfollowed := true, recurses := true, apart := false, narrowed := true }
def FnEvalExprUptoSaid : Prop := fnEvalExprUptoRow.holds Tryz.pinned (OpenSpec.upto fnEvalExprSpec)

/-- 'laws.FnEvalValue', WHERE WHAT IT READS IS OF BULK AT MOST 1048576: true; the input reads as it did. -/
def fnEvalValueUptoRow : OpenClaim := { program := "ytenmmbjgnlflnaagreat", sum := "a23cc912fda8d08e1569cf8cd999ed233827f9fd83f559dde7ff576d0db0250c", func := "loop.example/matchcompiler/laws.FnEvalValue", spec := "fnEvalValue", unfollowed := true, recurses := true, apart := false, narrowed := true }
def FnEvalValueUptoSaid : Prop := fnEvalValueUptoRow.holds Tryz.pinned (OpenSpec.upto fnEvalValueSpec)

/-- 'laws.FnTotalFuns', WHERE WHAT IT READS IS OF BULK AT MOST 1048576: true; the input reads as it did. -/
def fnTotalFunsUptoRow : OpenClaim := { program := "ytenmmbjgnlflnaagreat", sum := "a23cc912fda8d08e1569cf8cd999ed233827f9fd83f559dde7ff576d0db0250c", func := "loop.example/matchcompiler/laws.FnTotalFuns", spec := "fnTotalFuns", unfollowed := true, recurses := true, apart := false, narrowed := true }
def FnTotalFunsUptoSaid : Prop := fnTotalFunsUptoRow.holds Tryz.pinned (OpenSpec.upto fnTotalFunsSpec)

end Rows
end Go.Proofs.YtenmmbjgnlflnaaGreat
