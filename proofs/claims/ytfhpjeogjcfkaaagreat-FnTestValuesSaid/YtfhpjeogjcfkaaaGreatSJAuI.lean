import Derived.Test.YtfhpjeogjcfkaaaGreatSJAut
set_option linter.unusedSimpArgs false
set_option linter.unusedVariables false
namespace Go.Proofs.YtfhpjeogjcfkaaaGreat
open Go Go.RowKit
instance:FrR rI:=⟨fun _=>by simp⟩
instance:FrR rB:=⟨fun _=>by simp⟩
instance:FrR rS:=⟨fun _=>by simp⟩
instance {k:IntKind} : FrR (rK k):=⟨fun _=>by simp⟩
instance:FrR rSB:=⟨fun _=>by simp [rSB]⟩
instance {sz:Nat}{α:Type}{r:α→List D} [i:FrR r]:FrR (rL sz r):=⟨fun x d hd=>by simp at hd;subst hd;exact X5 (Q8 i.pf x)⟩
instance:FrR Z2:=⟨Q9v⟩
instance:FrR Z5:=⟨Q7d⟩
instance:FrR Q0v:=⟨Z0y⟩
instance:FrR Q5m:=⟨Z1e⟩
instance:FrR Q8h:=⟨Z3r⟩
instance:FrR Z76:=⟨X1f⟩
instance:FrR Q11:=⟨Q9y⟩
instance:FrR Q2:=⟨Q5j⟩
instance:FrR X62:=⟨X75⟩
instance:FrR Q7f:=⟨Z82⟩
instance:FrR X4:=⟨Q70⟩
instance:FrR Q6j:=⟨Q9x⟩
instance:FrR Z8:=⟨Q9w⟩
instance:FrR Q1u:=⟨Z4o⟩
instance:FrR Q69:=⟨Q9u⟩
instance:FrR Q9g:=⟨Z4p⟩
instance:FrR Z3a:=⟨X1h⟩
instance:FrR Z77:=⟨X1g⟩
instance:FrR Y7:=⟨Z81⟩
instance:FrR Q6w:=⟨Z0x⟩
instance:FrR V0:=⟨Q6a⟩
instance:FrR Z27:=⟨Z80⟩
end Go.Proofs.YtfhpjeogjcfkaaaGreat
