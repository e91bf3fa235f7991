import Derived.Test.YtfhpjeogjcfkaaaGreatRJAut
set_option linter.unusedSimpArgs false
set_option linter.unusedVariables false
namespace Go.Proofs.YtfhpjeogjcfkaaaGreat
open Go Go.RowKit
instance:FrR rI:=⟨fun _=>by simp⟩
instance:FrR rB:=⟨fun _=>by simp⟩
instance:FrR rS:=⟨fun _=>by simp⟩
instance {k:IntKind} : FrR (rK k):=⟨fun _=>by simp⟩
instance:FrR rSB:=⟨fun _=>by simp [rSB]⟩
instance {sz:Nat}{α:Type}{r:α→List D} [i:FrR r]:FrR (rL sz r):=⟨fun x d hd=>by simp at hd;subst hd;exact X3 (Q4 i.pf x)⟩
instance:FrR W6:=⟨Q97⟩
instance:FrR W4:=⟨Q6t⟩
instance:FrR Q7:=⟨Q6u⟩
instance:FrR J3:=⟨Z0r⟩
instance:FrR Q33:=⟨Z2w⟩
instance:FrR Z5s:=⟨Z9y⟩
instance:FrR Q48:=⟨Q9a⟩
instance:FrR Z0:=⟨Q4i⟩
instance:FrR Q3j:=⟨Z6c⟩
instance:FrR Q6y:=⟨Z6f⟩
instance:FrR V6:=⟨Q6h⟩
instance:FrR Q5r:=⟨Q99⟩
instance:FrR W8:=⟨Q98⟩
instance:FrR Q6l:=⟨Z3n⟩
instance:FrR Y0:=⟨Q96⟩
instance:FrR Q0v:=⟨Z3o⟩
instance:FrR Q9z:=⟨X00⟩
instance:FrR Q7z:=⟨Z9z⟩
instance:FrR V9:=⟨Z6e⟩
instance:FrR Q15:=⟨Z08⟩
instance:FrR V4:=⟨Q5g⟩
instance:FrR Q1e:=⟨Z6d⟩
end Go.Proofs.YtfhpjeogjcfkaaaGreat
