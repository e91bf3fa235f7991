import Derived.Test.YtnackipaoepmfaaGreatJAut
set_option linter.unusedSimpArgs false
set_option linter.unusedVariables false
namespace Go.Proofs.YtnackipaoepmfaaGreat
open Go Go.RowKit
instance : FrR rI := ⟨fun _ => by simp⟩
instance : FrR rB := ⟨fun _ => by simp⟩
instance : FrR rS := ⟨fun _ => by simp⟩
instance {k : IntKind} : FrR (rK k) := ⟨fun _ => by simp⟩
instance : FrR rSB := ⟨fun _ => by simp [rSB]⟩
instance {sz : Nat} {α : Type} {r : α → List D} [i : FrR r] : FrR (rL sz r) := ⟨fun x d hd => by simp at hd; subst hd; exact Z8 (Q6 i.pf x)⟩
instance : FrR Z5 := ⟨Q98⟩
instance : FrR V2 := ⟨Q6j⟩
instance : FrR Q1 := ⟨Q4j⟩
instance : FrR Q7a := ⟨Z6q⟩
instance : FrR Z7 := ⟨Q6a⟩
instance : FrR Q8u := ⟨Z6n⟩
instance : FrR Q1q := ⟨Z0g⟩
instance : FrR Q4n := ⟨Z0w⟩
instance : FrR Q7p := ⟨Z2v⟩
instance : FrR Q1l := ⟨Q9b⟩
instance : FrR Q8w := ⟨Z6p⟩
instance : FrR Z1q := ⟨Z6o⟩
instance : FrR Q1r := ⟨Q7u⟩
instance : FrR Q8v := ⟨Z3r⟩
instance : FrR Q79 := ⟨Z1v⟩
instance : FrR Q5r := ⟨Q9a⟩
instance : FrR X2 := ⟨Q99⟩
instance : FrR X4h := ⟨X5f⟩
instance : FrR Q1p := ⟨Z3p⟩
instance : FrR Q5e := ⟨Q97⟩
instance : FrR Q8t := ⟨Z3q⟩
instance : FrR Y3 := ⟨Z6m⟩
instance : FrR Q65 := ⟨Z0f⟩
instance : FrR Z1o := ⟨Z6l⟩
instance : FrR V0 := ⟨Q5g⟩
end Go.Proofs.YtnackipaoepmfaaGreat
