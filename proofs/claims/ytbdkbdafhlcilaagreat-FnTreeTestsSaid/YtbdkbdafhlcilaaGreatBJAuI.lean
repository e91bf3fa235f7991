import Derived.Test.YtbdkbdafhlcilaaGreatBJAut
set_option linter.unusedSimpArgs false
set_option linter.unusedVariables false
namespace Go.Proofs.YtbdkbdafhlcilaaGreat
open Go Go.RowKit
instance : FrR rI := ⟨fun _ => by simp⟩
instance : FrR rB := ⟨fun _ => by simp⟩
instance : FrR rS := ⟨fun _ => by simp⟩
instance {k : IntKind} : FrR (rK k) := ⟨fun _ => by simp⟩
instance : FrR rSB := ⟨fun _ => by simp [rSB]⟩
instance {sz : Nat} {α : Type} {r : α → List D} [i : FrR r] : FrR (rL sz r) := ⟨fun x d hd => by simp at hd; subst hd; exact W6 (Q7 i.pf x)⟩
instance : FrR X7 := ⟨Q9f⟩
instance : FrR Z3 := ⟨Q6z⟩
instance : FrR J1 := ⟨Z0z⟩
instance : FrR Q16 := ⟨Z36⟩
instance : FrR X0 := ⟨Q6y⟩
instance : FrR Q8 := ⟨Q4t⟩
instance : FrR Q41 := ⟨Z6y⟩
instance : FrR Q74 := ⟨Z71⟩
instance : FrR V0 := ⟨Q6n⟩
instance : FrR Q61 := ⟨Q9h⟩
instance : FrR X9 := ⟨Q9g⟩
instance : FrR Q6p := ⟨Z42⟩
instance : FrR Y1 := ⟨Q9e⟩
instance : FrR Q15 := ⟨Z43⟩
instance : FrR Q5p := ⟨Q9i⟩
instance : FrR Y0 := ⟨Z70⟩
instance : FrR Q1h := ⟨Z0g⟩
instance : FrR Q1n := ⟨Z6z⟩
instance : FrR V5 := ⟨Q5n⟩
end Go.Proofs.YtbdkbdafhlcilaaGreat
