import Derived.Test.YtjgapphpbkapmaaGreatNJAut
set_option linter.unusedSimpArgs false
set_option linter.unusedVariables false
namespace Go.Proofs.YtjgapphpbkapmaaGreat
open Go Go.RowKit
instance:FrR rI:=⟨fun _=>by simp⟩
instance:FrR rB:=⟨fun _=>by simp⟩
instance:FrR rS:=⟨fun _=>by simp⟩
instance {k:IntKind} : FrR (rK k):=⟨fun _=>by simp⟩
instance:FrR rSB:=⟨fun _=>by simp [rSB]⟩
instance {sz:Nat}{α:Type}{r:α→List D} [i:FrR r]:FrR (rL sz r):=⟨fun x d hd=>by simp at hd;subst hd;exact X3 (Q2 i.pf x)⟩
instance:FrR W1:=⟨Q8i⟩
instance:FrR V2:=⟨Q65⟩
instance:FrR Q8:=⟨Q66⟩
instance:FrR Y8:=⟨Z00⟩
instance:FrR Q22:=⟨Z1r⟩
instance:FrR Z45:=⟨Z83⟩
instance:FrR Q98:=⟨Q8l⟩
instance:FrR Q7:=⟨Q41⟩
instance:FrR Q37:=⟨Z4r⟩
instance:FrR Q5p:=⟨Z4u⟩
instance:FrR V6:=⟨Q5u⟩
instance:FrR Q57:=⟨Q8k⟩
instance:FrR W2:=⟨Q8j⟩
instance:FrR Q5x:=⟨Z2g⟩
instance:FrR V8:=⟨Q8h⟩
instance:FrR Q0o:=⟨Z2h⟩
instance:FrR Z1g:=⟨Z85⟩
instance:FrR Z46:=⟨Z84⟩
instance:FrR V0:=⟨Z4t⟩
instance:FrR Q0z:=⟨Q9j⟩
instance:FrR V1:=⟨Q4w⟩
instance:FrR Q15:=⟨Z4s⟩
end Go.Proofs.YtjgapphpbkapmaaGreat
