import Derived.Test.YtbdkbdafhlcilaaGreatCJAut
set_option linter.unusedSimpArgs false
set_option linter.unusedVariables false
namespace Go.Proofs.YtbdkbdafhlcilaaGreat
open Go Go.RowKit
instance : FrR rI := ⟨fun _ => by simp⟩
instance : FrR rB := ⟨fun _ => by simp⟩
instance : FrR rS := ⟨fun _ => by simp⟩
instance {k : IntKind} : FrR (rK k) := ⟨fun _ => by simp⟩
instance : FrR rSB := ⟨fun _ => by simp [rSB]⟩
instance {sz : Nat} {α : Type} {r : α → List D} [i : FrR r] : FrR (rL sz r) := ⟨fun x d hd => by simp at hd; subst hd; exact W9 (Q9 i.pf x)⟩
instance : FrR Z6 := ⟨Q9x⟩
instance : FrR Q28 := ⟨Z0z⟩
instance : FrR Q5d := ⟨Z1g⟩
instance : FrR Q8i := ⟨Z3l⟩
instance : FrR W3 := ⟨Q7a⟩
instance : FrR Q1 := ⟨Q5a⟩
instance : FrR X4y := ⟨X5v⟩
instance : FrR Q7g := ⟨Z7c⟩
instance : FrR X5 := ⟨Q6z⟩
instance : FrR Q6i := ⟨Q9z⟩
instance : FrR X2 := ⟨Q9y⟩
instance : FrR Q1v := ⟨Z4e⟩
instance : FrR Q65 := ⟨Q9w⟩
instance : FrR Q9j := ⟨Z4f⟩
instance : FrR Q0w := ⟨Z00⟩
instance : FrR V4 := ⟨Z7b⟩
instance : FrR Q6u := ⟨Z0y⟩
instance : FrR Z29 := ⟨Z7a⟩
instance : FrR V5 := ⟨Q66⟩
end Go.Proofs.YtbdkbdafhlcilaaGreat
