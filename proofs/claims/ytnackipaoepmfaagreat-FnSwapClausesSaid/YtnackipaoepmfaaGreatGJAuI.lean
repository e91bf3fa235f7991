import Derived.Test.YtnackipaoepmfaaGreatGJAut
set_option linter.unusedSimpArgs false
set_option linter.unusedVariables false
namespace Go.Proofs.YtnackipaoepmfaaGreat
open Go Go.RowKit
instance : FrR rI := ⟨fun _ => by simp⟩
instance : FrR rB := ⟨fun _ => by simp⟩
instance : FrR rS := ⟨fun _ => by simp⟩
instance {k : IntKind} : FrR (rK k) := ⟨fun _ => by simp⟩
instance : FrR rSB := ⟨fun _ => by simp [rSB]⟩
instance {sz : Nat} {α : Type} {r : α → List D} [i : FrR r] : FrR (rL sz r) := ⟨fun x d hd => by simp at hd; subst hd; exact Z9 (Q6 i.pf x)⟩
instance : FrR Z6 := ⟨Q91⟩
instance : FrR V0 := ⟨Q6h⟩
instance : FrR Q1 := ⟨Q4l⟩
instance : FrR Q77 := ⟨Z6b⟩
instance : FrR Z8 := ⟨Q6a⟩
instance : FrR Q8l := ⟨Z68⟩
instance : FrR Q1o := ⟨Z01⟩
instance : FrR Q4o := ⟨Z0g⟩
instance : FrR Q7m := ⟨Z2l⟩
instance : FrR Q1h := ⟨Q94⟩
instance : FrR Q8n := ⟨Z6a⟩
instance : FrR Z1c := ⟨Z69⟩
instance : FrR Q1p := ⟨Q7s⟩
instance : FrR Q8m := ⟨Z3g⟩
instance : FrR Q76 := ⟨Z1i⟩
instance : FrR Q5r := ⟨Q93⟩
instance : FrR X0 := ⟨Q92⟩
instance : FrR X3q := ⟨X4r⟩
instance : FrR Q1n := ⟨Z3e⟩
instance : FrR Q5d := ⟨Q90⟩
instance : FrR Q8k := ⟨Z3f⟩
instance : FrR Y3 := ⟨Z67⟩
instance : FrR Q65 := ⟨Z00⟩
instance : FrR Z1a := ⟨Z66⟩
instance : FrR W8 := ⟨Q5e⟩
end Go.Proofs.YtnackipaoepmfaaGreat
