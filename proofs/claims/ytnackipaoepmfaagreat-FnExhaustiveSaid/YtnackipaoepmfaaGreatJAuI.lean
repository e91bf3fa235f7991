import Derived.Test.YtnackipaoepmfaaGreatJAut
set_option linter.unusedSimpArgs false
set_option linter.unusedVariables false
namespace Go.Proofs.YtnackipaoepmfaaGreat
open Go Go.RowKit
instance : FrR rI := ⟨fun _ => by simp⟩
instance : FrR rB := ⟨fun _ => by simp⟩
instance : FrR rS := ⟨fun _ => by simp⟩
instance {k : IntKind} : FrR (rK k) := ⟨fun _ => by simp⟩
instance : FrR rSB := ⟨fun _ => by simp [rSB]⟩
instance {sz : Nat} {α : Type} {r : α → List D} [i : FrR r] : FrR (rL sz r) := ⟨fun x d hd => by simp at hd; subst hd; exact free_slice (free_rows_of i.pf x)⟩
instance : FrR rGType := ⟨fr_GType⟩
instance : FrR rGValue := ⟨fr_GValue⟩
instance : FrR rGPattern := ⟨fr_GPattern⟩
instance : FrR rGGuard := ⟨fr_GGuard⟩
instance : FrR rGClause := ⟨fr_GClause⟩
instance : FrR rGLType := ⟨fr_GLType⟩
instance : FrR rGPathBind := ⟨fr_GPathBind⟩
instance : FrR rGBranch := ⟨fr_GBranch⟩
instance : FrR rGTree := ⟨fr_GTree⟩
instance : FrR rGBind := ⟨fr_GBind⟩
instance : FrR rGLCtor := ⟨fr_GLCtor⟩
instance : FrR rGLData := ⟨fr_GLData⟩
instance : FrR rGLPattern := ⟨fr_GLPattern⟩
instance : FrR rGLGuard := ⟨fr_GLGuard⟩
instance : FrR rGLClause := ⟨fr_GLClause⟩
instance : FrR rGCtor := ⟨fr_GCtor⟩
instance : FrR rGData := ⟨fr_GData⟩
instance : FrR rGrow := ⟨fr_Grow⟩
instance : FrR rGspaces := ⟨fr_Gspaces⟩
instance : FrR rGcompiling := ⟨fr_Gcompiling⟩
instance : FrR rGcolumn := ⟨fr_Gcolumn⟩
instance : FrR rGl17Rd := ⟨fr_Gl17Rd⟩
instance : FrR rGl7Column := ⟨fr_Gl7Column⟩
instance : FrR rGl7Row := ⟨fr_Gl7Row⟩
instance : FrR rGVarType := ⟨fr_GVarType⟩
end Go.Proofs.YtnackipaoepmfaaGreat
