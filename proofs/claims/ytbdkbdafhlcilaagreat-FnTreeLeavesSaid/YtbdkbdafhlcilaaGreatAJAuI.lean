import Derived.Test.YtbdkbdafhlcilaaGreatAJAut
set_option linter.unusedSimpArgs false
set_option linter.unusedVariables false
namespace Go.Proofs.YtbdkbdafhlcilaaGreat
open Go Go.RowKit
instance : FrR rI := ⟨fun _ => by simp⟩
instance : FrR rB := ⟨fun _ => by simp⟩
instance : FrR rS := ⟨fun _ => by simp⟩
instance {k : IntKind} : FrR (rK k) := ⟨fun _ => by simp⟩
instance : FrR rSB := ⟨fun _ => by simp [rSB]⟩
instance {sz : Nat} {α : Type} {r : α → List D} [i : FrR r] : FrR (rL sz r) := ⟨fun x d hd => by simp at hd; subst hd; exact W1 (Q7 i.pf x)⟩
instance : FrR X0 := ⟨Q9w⟩
instance : FrR Z2 := ⟨Q74⟩
instance : FrR J4 := ⟨Z1j⟩
instance : FrR Q1g := ⟨Z3n⟩
instance : FrR Q4m := ⟨Q73⟩
instance : FrR Q1 := ⟨Q50⟩
instance : FrR Q47 := ⟨Z7n⟩
instance : FrR Q9j := ⟨Z7q⟩
instance : FrR W6 := ⟨Q6t⟩
instance : FrR Q68 := ⟨Q9y⟩
instance : FrR W3 := ⟨Q9x⟩
instance : FrR Q20 := ⟨Z4m⟩
instance : FrR V8 := ⟨Q9v⟩
instance : FrR Q1b := ⟨Z4n⟩
instance : FrR Z6v := ⟨Q9z⟩
instance : FrR Y4 := ⟨Z7p⟩
instance : FrR Q1n := ⟨Z0z⟩
instance : FrR Q1w := ⟨Z7o⟩
instance : FrR V3 := ⟨Q5v⟩
end Go.Proofs.YtbdkbdafhlcilaaGreat
