import Derived.Test.YtnackipaoepmfaaGreatJAut
set_option linter.unusedSimpArgs false
set_option linter.unusedVariables false
namespace Go.Proofs.YtnackipaoepmfaaGreat
open Go Go.RowKit
instance : FrR rI := ⟨fun _ => by simp⟩
instance : FrR rB := ⟨fun _ => by simp⟩
instance : FrR rS := ⟨fun _ => by simp⟩
instance {k : IntKind} : FrR (rK k) := ⟨fun _ => by simp⟩
instance : FrR rSB := ⟨fun _ => by simp [rSB]⟩
instance {sz : Nat} {α : Type} {r : α → List D} [i : FrR r] : FrR (rL sz r) := ⟨fun x d hd => by simp at hd; subst hd; exact X2 (Q4 i.pf x)⟩
instance : FrR W9 := ⟨Q9b⟩
instance : FrR W2 := ⟨Q6p⟩
instance : FrR Q8 := ⟨Q4m⟩
instance : FrR Q6t := ⟨Z74⟩
instance : FrR V6 := ⟨Q6f⟩
instance : FrR Q8y := ⟨Z71⟩
instance : FrR Z2 := ⟨Q6q⟩
instance : FrR J7 := ⟨Z0t⟩
instance : FrR Q2e := ⟨Z37⟩
instance : FrR Q0k := ⟨Q9e⟩
instance : FrR Q90 := ⟨Z73⟩
instance : FrR Z1k := ⟨Z72⟩
instance : FrR Q1s := ⟨Q83⟩
instance : FrR Q8z := ⟨Z48⟩
instance : FrR Q7g := ⟨Z1x⟩
instance : FrR Q5u := ⟨Q9d⟩
instance : FrR V0 := ⟨Q9c⟩
instance : FrR Q3n := ⟨Z6y⟩
instance : FrR Q6i := ⟨Z46⟩
instance : FrR Y2 := ⟨Q9a⟩
instance : FrR Q11 := ⟨Z47⟩
instance : FrR Y1 := ⟨Z70⟩
instance : FrR Q1c := ⟨Z0a⟩
instance : FrR Q1n := ⟨Z6z⟩
instance : FrR V4 := ⟨Q5j⟩
end Go.Proofs.YtnackipaoepmfaaGreat
