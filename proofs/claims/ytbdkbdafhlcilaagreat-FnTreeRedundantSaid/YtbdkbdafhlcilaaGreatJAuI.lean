import Derived.Test.YtbdkbdafhlcilaaGreatJAut
set_option linter.unusedSimpArgs false
set_option linter.unusedVariables false
namespace Go.Proofs.YtbdkbdafhlcilaaGreat
open Go Go.RowKit
instance:FrR rI:=⟨fun _=>by simp⟩
instance:FrR rB:=⟨fun _=>by simp⟩
instance:FrR rS:=⟨fun _=>by simp⟩
instance {k:IntKind} : FrR (rK k):=⟨fun _=>by simp⟩
instance:FrR rSB:=⟨fun _=>by simp [rSB]⟩
instance {sz:Nat}{α:Type}{r:α→List D} [i:FrR r]:FrR (rL sz r):=⟨fun x d hd=>by simp at hd;subst hd;exact V1 (Q8 i.pf x)⟩
instance:FrR X9:=⟨Z1b⟩
instance:FrR Z8:=⟨Q8e⟩
instance:FrR Q1s:=⟨Z3b⟩
instance:FrR Q5j:=⟨Z61⟩
instance:FrR Q07:=⟨Q8d⟩
instance:FrR Q1:=⟨Q5y⟩
instance:FrR Q4w:=⟨X08⟩
instance:FrR Q94:=⟨X0b⟩
instance:FrR W0:=⟨Q7z⟩
instance:FrR Q7e:=⟨Z1d⟩
instance:FrR V0:=⟨Z1c⟩
instance:FrR Q2s:=⟨Z6x⟩
instance:FrR J3:=⟨Z1a⟩
instance:FrR Q1y:=⟨Z6y⟩
instance:FrR Q87:=⟨Z1e⟩
instance:FrR J2:=⟨X0a⟩
instance:FrR Q7t:=⟨Z2r⟩
instance:FrR Z48:=⟨X09⟩
instance:FrR Y4:=⟨Q6y⟩
end Go.Proofs.YtbdkbdafhlcilaaGreat
