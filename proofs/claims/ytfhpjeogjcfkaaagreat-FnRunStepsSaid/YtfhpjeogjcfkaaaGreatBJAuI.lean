import Derived.Test.YtfhpjeogjcfkaaaGreatBJAut
set_option linter.unusedSimpArgs false
set_option linter.unusedVariables false
namespace Go.Proofs.YtfhpjeogjcfkaaaGreat
open Go Go.RowKit
instance:FrR rI:=⟨fun _=>by simp⟩
instance:FrR rB:=⟨fun _=>by simp⟩
instance:FrR rS:=⟨fun _=>by simp⟩
instance {k:IntKind} : FrR (rK k):=⟨fun _=>by simp⟩
instance:FrR rSB:=⟨fun _=>by simp [rSB]⟩
instance {sz:Nat}{α:Type}{r:α→List D} [i:FrR r]:FrR (rL sz r):=⟨fun x d hd=>by simp at hd;subst hd;exact V0 (Z0 i.pf x)⟩
instance:FrR W3:=⟨Z2r⟩
instance:FrR X4:=⟨Q9r⟩
instance:FrR Q6:=⟨Q9s⟩
instance:FrR Q02:=⟨Z4d⟩
instance:FrR Q0t:=⟨Z6v⟩
instance:FrR Q2z:=⟨X5o⟩
instance:FrR Q15:=⟨Z2u⟩
instance:FrR Z2:=⟨Q6o⟩
instance:FrR Q5a:=⟨X1e⟩
instance:FrR Q8c:=⟨X1h⟩
instance:FrR X9:=⟨Q9b⟩
instance:FrR Q8d:=⟨Z2t⟩
instance:FrR W5:=⟨Z2s⟩
instance:FrR Q9e:=⟨Z7w⟩
instance:FrR J4:=⟨Z2q⟩
instance:FrR Q1u:=⟨Z7x⟩
instance:FrR Z1u:=⟨X5q⟩
instance:FrR Q5n:=⟨X5p⟩
instance:FrR J1:=⟨X1g⟩
instance:FrR Q2b:=⟨Z3s⟩
instance:FrR Y8:=⟨Q7w⟩
instance:FrR Q2n:=⟨X1f⟩
end Go.Proofs.YtfhpjeogjcfkaaaGreat
