import Derived.Test.YtgjpamkllimhdaaGreatJAut
set_option linter.unusedSimpArgs false
set_option linter.unusedVariables false
namespace Go.Proofs.YtgjpamkllimhdaaGreat
open Go Go.RowKit
instance:FrR rI:=⟨fun _=>by simp⟩
instance:FrR rB:=⟨fun _=>by simp⟩
instance:FrR rS:=⟨fun _=>by simp⟩
instance {k:IntKind} : FrR (rK k):=⟨fun _=>by simp⟩
instance:FrR rSB:=⟨fun _=>by simp [rSB]⟩
instance {sz:Nat}{α:Type}{r:α→List D} [i:FrR r]:FrR (rL sz r):=⟨fun x d hd=>by simp at hd;subst hd;exact V3 (Q8 i.pf x)⟩
instance:FrR W0:=⟨Z1d⟩
instance:FrR X2:=⟨Q8e⟩
instance:FrR Z0:=⟨Q8f⟩
instance:FrR Q21:=⟨X44⟩
instance:FrR Q04:=⟨Z31⟩
instance:FrR Q3b:=⟨Z5c⟩
instance:FrR Q9:=⟨Q5y⟩
instance:FrR Q8i:=⟨X01⟩
instance:FrR X9:=⟨Q81⟩
instance:FrR Q4x:=⟨Z9y⟩
instance:FrR Q7d:=⟨Z1f⟩
instance:FrR W1:=⟨Z1e⟩
instance:FrR Q84:=⟨Z6d⟩
instance:FrR J5:=⟨Z1c⟩
instance:FrR Q1i:=⟨Z6e⟩
instance:FrR Q5n:=⟨Z1g⟩
instance:FrR J3:=⟨X00⟩
instance:FrR Q1s:=⟨Z2g⟩
instance:FrR Q25:=⟨Z9z⟩
instance:FrR Y7:=⟨Q6y⟩
end Go.Proofs.YtgjpamkllimhdaaGreat
