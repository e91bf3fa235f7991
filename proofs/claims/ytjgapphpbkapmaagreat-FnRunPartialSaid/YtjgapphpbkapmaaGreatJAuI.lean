import Derived.Test.YtjgapphpbkapmaaGreatJAut
set_option linter.unusedSimpArgs false
set_option linter.unusedVariables false
namespace Go.Proofs.YtjgapphpbkapmaaGreat
open Go Go.RowKit
instance:FrR rI:=⟨fun _=>by simp⟩
instance:FrR rB:=⟨fun _=>by simp⟩
instance:FrR rS:=⟨fun _=>by simp⟩
instance {k:IntKind} : FrR (rK k):=⟨fun _=>by simp⟩
instance:FrR rSB:=⟨fun _=>by simp [rSB]⟩
instance {sz:Nat} {α:Type} {r:α→List D} [i:FrR r]:FrR (rL sz r):=⟨fun x d hd=>by simp at hd;subst hd;exact W5 (Q7 i.pf x)⟩
instance:FrR W0:=⟨Z0d⟩
instance:FrR X1:=⟨Q7o⟩
instance:FrR Z3:=⟨Q7p⟩
instance:FrR J5:=⟨Z1w⟩
instance:FrR Q2s:=⟨Z4a⟩
instance:FrR Z79:=⟨X1y⟩
instance:FrR Q1m:=⟨Z0g⟩
instance:FrR Z0:=⟨Q5e⟩
instance:FrR Q4b:=⟨Z82⟩
instance:FrR Q77:=⟨Z85⟩
instance:FrR V1:=⟨Q7d⟩
instance:FrR Q6m:=⟨Z0f⟩
instance:FrR W2:=⟨Z0e⟩
instance:FrR Q7e:=⟨Z5a⟩
instance:FrR Y8:=⟨Z0c⟩
instance:FrR Q1e:=⟨Z5b⟩
instance:FrR Z3u:=⟨X20⟩
instance:FrR Z7a:=⟨X1z⟩
instance:FrR Y1:=⟨Z84⟩
instance:FrR Q1w:=⟨Z1e⟩
instance:FrR Y2:=⟨Q6b⟩
instance:FrR Q29:=⟨Z83⟩
end Go.Proofs.YtjgapphpbkapmaaGreat
