import Derived.Test.YtnackipaoepmfaaGreatDJAut
set_option linter.unusedSimpArgs false
set_option linter.unusedVariables false
namespace Go.Proofs.YtnackipaoepmfaaGreat
open Go Go.RowKit
instance : FrR rI := ⟨fun _ => by simp⟩
instance : FrR rB := ⟨fun _ => by simp⟩
instance : FrR rS := ⟨fun _ => by simp⟩
instance {k : IntKind} : FrR (rK k) := ⟨fun _ => by simp⟩
instance : FrR rSB := ⟨fun _ => by simp [rSB]⟩
instance {sz : Nat} {α : Type} {r : α → List D} [i : FrR r] : FrR (rL sz r) := ⟨fun x d hd => by simp at hd; subst hd; exact X1 (Q7 i.pf x)⟩
instance : FrR Z2 := ⟨Q8w⟩
instance : FrR X3 := ⟨Q6a⟩
instance : FrR Q1 := ⟨Q49⟩
instance : FrR Q72 := ⟨Z66⟩
instance : FrR Z8 := ⟨Q60⟩
instance : FrR Q8g := ⟨Z63⟩
instance : FrR Q1l := ⟨Q9x⟩
instance : FrR Q4c := ⟨Z0d⟩
instance : FrR Q7h := ⟨Z2d⟩
instance : FrR Q0q := ⟨Q8z⟩
instance : FrR Q8i := ⟨Z65⟩
instance : FrR Z12 := ⟨Z64⟩
instance : FrR Q1m := ⟨Q7o⟩
instance : FrR Q8h := ⟨Z3a⟩
instance : FrR Q71 := ⟨Z18⟩
instance : FrR Q5f := ⟨Q8y⟩
instance : FrR Z6 := ⟨Q8x⟩
instance : FrR X32 := ⟨X42⟩
instance : FrR Q1k := ⟨Z38⟩
instance : FrR Q51 := ⟨Q8v⟩
instance : FrR Q8f := ⟨Z39⟩
instance : FrR Q08 := ⟨Z62⟩
instance : FrR Q5w := ⟨Q9w⟩
instance : FrR Z10 := ⟨Z61⟩
instance : FrR W9 := ⟨Q52⟩
end Go.Proofs.YtnackipaoepmfaaGreat
