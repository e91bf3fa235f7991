import Derived.Test.YtenmmbjgnlflnaaGreatBJAut
set_option linter.unusedSimpArgs false
set_option linter.unusedVariables false
namespace Go.Proofs.YtenmmbjgnlflnaaGreat
open Go Go.RowKit
instance:FrR rI:=⟨fun _=>by simp⟩
instance:FrR rB:=⟨fun _=>by simp⟩
instance:FrR rS:=⟨fun _=>by simp⟩
instance {k:IntKind} : FrR (rK k):=⟨fun _=>by simp⟩
instance:FrR rSB:=⟨fun _=>by simp [rSB]⟩
instance {sz:Nat}{α:Type}{r:α→List D} [i:FrR r]:FrR (rL sz r):=⟨fun x d hd=>by simp at hd;subst hd;exact X5 (Q6 i.pf x)⟩
instance:FrR X0:=⟨Q95⟩
instance:FrR Z7:=⟨Z2j⟩
instance:FrR W8:=⟨Z5f⟩
instance:FrR V8:=⟨Z9e⟩
instance:FrR Q3:=⟨Q6u⟩
instance:FrR Q8q:=⟨X14⟩
instance:FrR V6:=⟨Q8u⟩
instance:FrR Q0d:=⟨Z2k⟩
instance:FrR Q2h:=⟨Z3y⟩
instance:FrR X0a:=⟨X4w⟩
instance:FrR Q6e:=⟨Z4k⟩
instance:FrR Q80:=⟨Z6g⟩
instance:FrR Q8c:=⟨Z2m⟩
instance:FrR Z8:=⟨Z2l⟩
instance:FrR Q18:=⟨Z5e⟩
instance:FrR Q1t:=⟨Z7l⟩
instance:FrR X6:=⟨Q7w⟩
instance:FrR Q8b:=⟨X12⟩
instance:FrR X9i:=⟨W0n⟩
instance:FrR Q3b:=⟨Z7k⟩
instance:FrR Q7r:=⟨Z2i⟩
instance:FrR Z22:=⟨Z7m⟩
instance:FrR Q02:=⟨Z2n⟩
instance:FrR Q01:=⟨X13⟩
end Go.Proofs.YtenmmbjgnlflnaaGreat
