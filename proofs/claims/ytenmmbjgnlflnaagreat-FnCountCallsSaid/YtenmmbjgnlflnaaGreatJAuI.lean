import Derived.Test.YtenmmbjgnlflnaaGreatJAut
set_option linter.unusedSimpArgs false
set_option linter.unusedVariables false
namespace Go.Proofs.YtenmmbjgnlflnaaGreat
open Go Go.RowKit
instance:FrR rI:=⟨fun _=>by simp⟩
instance:FrR rB:=⟨fun _=>by simp⟩
instance:FrR rS:=⟨fun _=>by simp⟩
instance {k:IntKind} : FrR (rK k):=⟨fun _=>by simp⟩
instance:FrR rSB:=⟨fun _=>by simp [rSB]⟩
instance {sz:Nat}{α:Type}{r:α→List D} [i:FrR r]:FrR (rL sz r):=⟨fun x d hd=>by simp at hd;subst hd;exact Z7 (Q4 i.pf x)⟩
instance:FrR Z2:=⟨Q85⟩
instance:FrR Z6:=⟨Z1j⟩
instance:FrR W1:=⟨Z0t⟩
instance:FrR Q00:=⟨Z46⟩
instance:FrR X7:=⟨Q5q⟩
instance:FrR Q5j:=⟨Z5h⟩
instance:FrR V7:=⟨Q86⟩
instance:FrR J1:=⟨Q8w⟩
instance:FrR Q0t:=⟨Q9q⟩
instance:FrR Z4t:=⟨Z8l⟩
instance:FrR Q3o:=⟨Z03⟩
instance:FrR Q4v:=⟨Z1k⟩
instance:FrR Q54:=⟨Z1m⟩
instance:FrR Z5:=⟨Z1l⟩
instance:FrR Q03:=⟨Z0s⟩
instance:FrR Q0g:=⟨Z2k⟩
instance:FrR Z8:=⟨Q7b⟩
instance:FrR Q53:=⟨Z5f⟩
instance:FrR X27:=⟨X38⟩
instance:FrR Q6i:=⟨Z2j⟩
instance:FrR Q4m:=⟨Q8v⟩
instance:FrR Q8i:=⟨Z2l⟩
instance:FrR V9:=⟨Z1n⟩
instance:FrR J8:=⟨Z5g⟩
end Go.Proofs.YtenmmbjgnlflnaaGreat
