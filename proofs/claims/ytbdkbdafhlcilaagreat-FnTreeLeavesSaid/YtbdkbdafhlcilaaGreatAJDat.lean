import Derived.Test.YtbdkbdafhlcilaaGreatAJE1
set_option linter.unusedSimpArgs false
set_option linter.unusedVariables false
namespace Go.Proofs.YtbdkbdafhlcilaaGreat
open Go Go.RowKit
theorem Q7 {α : Type} {f : α → List D} (h : ∀ x, ∀ d ∈ f x, Free d) (l : List α) : ∀ row ∈ List.map f l, ∀ d ∈ row, Free d := fun row hr d hd => by
 simp only [List.mem_map] at hr
 obtain ⟨x, _, rfl⟩ := hr
 exact h x d hd
abbrev eI (n : Int) : D := .val (.int .i64 n)
abbrev eB (b : Bool) : D := .val (.bool b)
abbrev eS (s : ByteArray) : D := .val (.string s)
abbrev cI : Int → D := fun n => .val (.int .i64 n)
abbrev cB : Bool → D := fun n => .val (.bool n)
def rI (n : Int) : List D := [eI n]
def rK (k : IntKind) (n : Int) : List D := [.val (.int k n)]
def rB (n : Bool) : List D := [eB n]
def rS (n : ByteArray) : List D := [eS n]
def rL {α : Type} (sz : Nat) (r : α → List D) (l : List α) : List D := [.slice sz (List.map r l)]
@[simp] theorem rI_eq (n : Int) : rI n = [eI n] := rfl
@[simp] theorem W04 (sz : Nat) (l : List Int) : Free (.slice sz (List.map (rI) l)) := W1 (fun row hr d hd => by simp only [List.mem_map] at hr; obtain ⟨x, _, rfl⟩ := hr; simp at hd; subst hd; exact Q4b _)
@[simp] theorem rK_eq (k : IntKind) (n : Int) : rK k n = [.val (.int k n)] := rfl
@[simp] theorem V2m (k : IntKind) (sz : Nat) (l : List Int) : Free (.slice sz (List.map (rK k) l)) := W1 (fun row hr d hd => by simp only [List.mem_map] at hr; obtain ⟨x, _, rfl⟩ := hr; simp at hd; subst hd; exact Q4b _)
@[simp] theorem rB_eq (n : Bool) : rB n = [eB n] := rfl
@[simp] theorem W05 (sz : Nat) (l : List Bool) : Free (.slice sz (List.map (rB) l)) := W1 (fun row hr d hd => by simp only [List.mem_map] at hr; obtain ⟨x, _, rfl⟩ := hr; simp at hd; subst hd; exact Q4b _)
@[simp] theorem V9q (n : ByteArray) : rS n = [eS n] := rfl
@[simp] theorem X9y (sz : Nat) (l : List ByteArray) : Free (.slice sz (List.map (rS) l)) := W1 (fun row hr d hd => by simp only [List.mem_map] at hr; obtain ⟨x, _, rfl⟩ := hr; simp at hd; subst hd; exact Q4b _)
@[simp] theorem rL_eq {α : Type} (sz : Nat) (r : α → List D) (l : List α) : rL sz r l = [.slice sz (List.map r l)] := rfl
theorem Q01 {α : Type} (sz sz2 : Nat) (r : α → List D) (h : ∀ l, Free (.slice sz2 (List.map r l))) (l : List (List α)) : Free (.slice sz (List.map (rL sz2 r) l)) := W1 (fun row hr d hd => by simp only [List.mem_map] at hr; obtain ⟨x, _, rfl⟩ := hr; simp at hd; subst hd; exact h x)
@[simp] theorem W9x (sz : Nat) (row : List D) (rows : List (List D)) (h : ∀ r ∈ row :: rows, ∀ d ∈ r, Free d) : Free (.slice sz (row :: rows)) := W1 h
@[simp] theorem V1e (sz : Nat) : Free (.slice sz []) := W1 (fun _ h => by simp at h)
@[simp] theorem V2o {ds : List D} (h : ∀ d ∈ ds, Free d) : Free (.agg ds) := Z65 h
@[simp] theorem V2l {ds : List D} (h : ∀ d ∈ ds, Free d) : Free (.tup ds) := W80 h
@[simp] theorem V1h {ds : List D} (h : ∀ d ∈ ds, Free d) : Free (.cptr ds) := X3x h
@[simp] theorem V1i {f : FuncId} {ds : List D} (h : ∀ d ∈ ds, Free d) : Free (.clos f ds) := X3y h
@[simp] theorem V2n : Free .any := W85
theorem Q0q {sz : Nat} {α : Type} {r : α → List D} (hr : ∀ x, ∀ d ∈ r x, Free d) (xs : List α) {rows : List (List D)} (h : ∀ row ∈ rows, ∀ d ∈ row, Free d) : Free (.slice sz (List.map r xs ++ rows)) := X68 hr h
@[simp] theorem V1j (l : List Int) : Free (.agg (List.map cI l)) := Z65 fun d h => by simp only [List.mem_map] at h; obtain ⟨x, _, rfl⟩ := h; exact Q4b _
@[simp] theorem V1k (l : List Bool) : Free (.agg (List.map cB l)) := Z65 fun d h => by simp only [List.mem_map] at h; obtain ⟨x, _, rfl⟩ := h; exact Q4b _
@[simp] theorem V1f (l : List Int) : ∀ d ∈ List.map cI l, Free d := fun d h => by simp only [List.mem_map] at h; obtain ⟨x, _, rfl⟩ := h; exact Q4b _
@[simp] theorem V1g (l : List Bool) : ∀ d ∈ List.map cB l, Free d := fun d h => by simp only [List.mem_map] at h; obtain ⟨x, _, rfl⟩ := h; exact Q4b _
@[simp] theorem W82 (sz sz2 : Nat) (l : List (List Int)) : Free (.slice sz (List.map (rL sz2 rI) l)) := Q01 sz sz2 rI (fun l => W04 sz2 l) l
@[simp] theorem W81 (sz sz2 : Nat) (l : List (List ByteArray)) : Free (.slice sz (List.map (rL sz2 rS) l)) := Q01 sz sz2 rS (fun l => X9y sz2 l) l
@[simp] theorem W83 (sz sz2 : Nat) (l : List (List Bool)) : Free (.slice sz (List.map (rL sz2 rB) l)) := Q01 sz sz2 rB (fun l => W05 sz2 l) l
structure Q2 where
 data : Int
 index : Int
 deriving Inhabited
def X0 (x : Q2) : List D := [(eI x.data), (eI x.index)]
@[simp] theorem V5h (x : Q2) : X0 x = [(eI x.data), (eI x.index)] := rfl
theorem Q9w (x : Q2) : ∀ d ∈ X0 x, Free d := by simp
@[simp] theorem Z92 (sz : Nat) (l : List Q2) : Free (.slice sz (List.map X0 l)) := W1 (Q7 Q9w l)
@[simp] theorem X9t (sz : Nat) (l : List Q2) (rows : List (List D)) (h : ∀ row ∈ rows, ∀ d ∈ row, Free d) : Free (.slice sz (List.map X0 l ++ rows)) := Q0q Q9w l h
@[simp] theorem X9z (sz sz2 : Nat) (l : List (List Q2)) : Free (.slice sz (List.map (rL sz2 X0) l)) := Q01 sz sz2 X0 (fun l => Z92 sz2 l) l
structure Q4 where
 var : Int
 path : List Int
 deriving Inhabited
def Z2 (x : Q4) : List D := [(eI x.var), (.slice 1 (List.map rI x.path))]
@[simp] theorem W6h (x : Q4) : Z2 x = [(eI x.var), (.slice 1 (List.map rI x.path))] := rfl
theorem Q74 (x : Q4) : ∀ d ∈ Z2 x, Free d := by simp
@[simp] theorem Z3m (sz : Nat) (l : List Q4) : Free (.slice sz (List.map Z2 l)) := W1 (Q7 Q74 l)
@[simp] theorem X3u (sz : Nat) (l : List Q4) (rows : List (List D)) (h : ∀ row ∈ rows, ∀ d ∈ row, Free d) : Free (.slice sz (List.map Z2 l ++ rows)) := Q0q Q74 l h
@[simp] theorem X3w (sz sz2 : Nat) (l : List (List Q4)) : Free (.slice sz (List.map (rL sz2 Z2) l)) := Q01 sz sz2 Z2 (fun l => Z3m sz2 l) l
mutual
structure Z1 where
 ctor : Int
 n : Int
 m : Int
 tree : X4
structure X4 where
 op : Int
 clause : Int
 binds : List Q4
 path : List Int
 branches : List Z1
 else_ : List X4
end
instance : Inhabited X4 := ⟨⟨default, default, [], [], [], []⟩⟩
instance : Inhabited Z1 := ⟨⟨default, default, default, default⟩⟩
mutual
def J4 : Z1 → List D
 | ⟨ctor, n, m, tree⟩ => [(eI ctor), (eI n), (eI m)] ++ Q1g tree
def Q6x : List Z1 → List (List D)
 | [] => []
 | x :: l => J4 x :: Q6x l
def Q1g : X4 → List D
 | ⟨op, clause, binds, path, branches, else_⟩ => [(eI op), (eI clause), (.slice 2 (List.map Z2 binds)), (.slice 1 (List.map rI path)), .slice 9 (Q6x branches), .slice 6 (Z0p else_)]
def Z0p : List X4 → List (List D)
 | [] => []
 | x :: l => Q1g x :: Z0p l
end
theorem Q9k : ∀ l, Q6x l = List.map J4 l
 | [] => by simp [Q6x]
 | x :: l => by simp [Q6x, Q9k l]
theorem Z23 : ∀ l, Z0p l = List.map Q1g l
 | [] => by simp [Z0p]
 | x :: l => by simp [Z0p, Z23 l]
@[simp] theorem V5i (x : X4) : Q1g x = [(eI x.op), (eI x.clause), (.slice 2 (List.map Z2 x.binds)), (.slice 1 (List.map rI x.path)), (.slice 9 (List.map J4 x.branches)), (.slice 6 (List.map Q1g x.else_))] := by cases x; simp [Q1g, Q9k, Z23]
@[simp] theorem V0u (x : Z1) : J4 x = [(eI x.ctor), (eI x.n), (eI x.m), (eI x.tree.op), (eI x.tree.clause), (.slice 2 (List.map Z2 x.tree.binds)), (.slice 1 (List.map rI x.tree.path)), (.slice 9 (List.map J4 x.tree.branches)), (.slice 6 (List.map Q1g x.tree.else_))] := by cases x; simp [J4, Q9k, Z23]
mutual
theorem Z1j : ∀ (x : Z1), ∀ d ∈ J4 x, Free d
 | ⟨ctor, n, m, tree⟩, d, h => by
  rw [J4] at h
  simp only [List.mem_append] at h
  rcases h with h | h
  ·simp only [List.mem_cons, List.not_mem_nil, or_false] at h
   rcases h with rfl | rfl | rfl
   ·simp
   ·simp
   ·simp
  ·exact Z3n tree d h
theorem Z7r : ∀ (l : List Z1), ∀ row ∈ Q6x l, ∀ d ∈ row, Free d
 | [], row, h, _, _ => by simp [Q6x] at h
 | p :: l, row, h, d, hd => by
  rw [Q6x, List.mem_cons] at h
  rcases h with rfl | h
  ·exact Z1j p d hd
  ·exact Z7r l row h d hd
theorem Z3n : ∀ (x : X4), ∀ d ∈ Q1g x, Free d
 | ⟨op, clause, binds, path, branches, else_⟩, d, h => by
  rw [Q1g] at h
  simp only [List.mem_cons, List.not_mem_nil, or_false] at h
  rcases h with rfl | rfl | rfl | rfl | rfl | rfl
  ·simp
  ·simp
  ·simp
  ·simp
  ·exact W1 (Z7r branches)
  ·exact W1 (X3z else_)
theorem X3z : ∀ (l : List X4), ∀ row ∈ Z0p l, ∀ d ∈ row, Free d
 | [], row, h, _, _ => by simp [Z0p] at h
 | p :: l, row, h, d, hd => by
  rw [Z0p, List.mem_cons] at h
  rcases h with rfl | h
  ·exact Z3n p d hd
  ·exact X3z l row h d hd
end
@[simp] theorem Z5w (sz : Nat) (l : List Z1) : Free (.slice sz (List.map J4 l)) := W1 (Q7 Z1j l)
@[simp] theorem X63 (sz : Nat) (l : List Z1) (rows : List (List D)) (h : ∀ row ∈ rows, ∀ d ∈ row, Free d) : Free (.slice sz (List.map J4 l ++ rows)) := Q0q Z1j l h
@[simp] theorem X67 (sz sz2 : Nat) (l : List (List Z1)) : Free (.slice sz (List.map (rL sz2 J4) l)) := Q01 sz sz2 J4 (fun l => Z5w sz2 l) l
@[simp] theorem Z93 (sz : Nat) (l : List X4) : Free (.slice sz (List.map Q1g l)) := W1 (Q7 Z3n l)
@[simp] theorem X9u (sz : Nat) (l : List X4) (rows : List (List D)) (h : ∀ row ∈ rows, ∀ d ∈ row, Free d) : Free (.slice sz (List.map Q1g l ++ rows)) := Q0q Z3n l h
@[simp] theorem W00 (sz sz2 : Nat) (l : List (List X4)) : Free (.slice sz (List.map (rL sz2 Q1g) l)) := Q01 sz sz2 Q1g (fun l => Z93 sz2 l) l
structure Z4 where
 ctor : Int
 n : Int
 kids : List Z4
 deriving Inhabited
mutual
def Q4m : Z4 → List D
 | ⟨ctor, n, kids⟩ => [(eI ctor), (eI n), .slice 3 (Q8g kids)]
def Q8g : List Z4 → List (List D)
 | [] => []
 | x :: l => Q4m x :: Q8g l
end
theorem Z58 : ∀ l, Q8g l = List.map Q4m l
 | [] => by simp [Q8g]
 | x :: l => by simp [Q8g, Z58 l]
@[simp] theorem X91 (x : Z4) : Q4m x = [(eI x.ctor), (eI x.n), (.slice 3 (List.map Q4m x.kids))] := by cases x; simp [Q4m, Z58]
mutual
theorem Q73 : ∀ (x : Z4), ∀ d ∈ Q4m x, Free d
 | ⟨ctor, n, kids⟩, d, h => by
  simp only [Q4m, List.mem_cons, List.not_mem_nil, or_false] at h
  rcases h with rfl | rfl | rfl
  ·simp
  ·simp
  ·exact W1 (Z9u kids)
theorem Z9u : ∀ (l : List Z4), ∀ row ∈ Q8g l, ∀ d ∈ row, Free d
 | [], row, h, _, _ => by simp [Q8g] at h
 | p :: l, row, h, d, hd => by
  rw [Q8g, List.mem_cons] at h
  rcases h with rfl | h
  ·exact Q73 p d hd
  ·exact Z9u l row h d hd
end
@[simp] theorem Z7l (sz : Nat) (l : List Z4) : Free (.slice sz (List.map Q4m l)) := W1 (Q7 Q73 l)
@[simp] theorem X7z (sz : Nat) (l : List Z4) (rows : List (List D)) (h : ∀ row ∈ rows, ∀ d ∈ row, Free d) : Free (.slice sz (List.map Q4m l ++ rows)) := Q0q Q73 l h
@[simp] theorem X83 (sz sz2 : Nat) (l : List (List Z4)) : Free (.slice sz (List.map (rL sz2 Q4m) l)) := Q01 sz sz2 Q4m (fun l => Z7l sz2 l) l
structure Q0 where
 op : Int
 ctor : Int
 n : Int
 m : Int
 var : Int
 kids : List Q0
 deriving Inhabited
mutual
def Q1 : Q0 → List D
 | ⟨op, ctor, n, m, var, kids⟩ => [(eI op), (eI ctor), (eI n), (eI m), (eI var), .slice 6 (Q5w kids)]
def Q5w : List Q0 → List (List D)
 | [] => []
 | x :: l => Q1 x :: Q5w l
end
theorem Z1u : ∀ l, Q5w l = List.map Q1 l
 | [] => by simp [Q5w]
 | x :: l => by simp [Q5w, Z1u l]
@[simp] theorem X2w (x : Q0) : Q1 x = [(eI x.op), (eI x.ctor), (eI x.n), (eI x.m), (eI x.var), (.slice 6 (List.map Q1 x.kids))] := by cases x; simp [Q1, Z1u]
mutual
theorem Q50 : ∀ (x : Q0), ∀ d ∈ Q1 x, Free d
 | ⟨op, ctor, n, m, var, kids⟩, d, h => by
  simp only [Q1, List.mem_cons, List.not_mem_nil, or_false] at h
  rcases h with rfl | rfl | rfl | rfl | rfl | rfl
  ·simp
  ·simp
  ·simp
  ·simp
  ·simp
  ·exact W1 (Z5e kids)
theorem Z5e : ∀ (l : List Q0), ∀ row ∈ Q5w l, ∀ d ∈ row, Free d
 | [], row, h, _, _ => by simp [Q5w] at h
 | p :: l, row, h, d, hd => by
  rw [Q5w, List.mem_cons] at h
  rcases h with rfl | h
  ·exact Q50 p d hd
  ·exact Z5e l row h d hd
end
@[simp] theorem Z4l (sz : Nat) (l : List Q0) : Free (.slice sz (List.map Q1 l)) := W1 (Q7 Q50 l)
@[simp] theorem X52 (sz : Nat) (l : List Q0) (rows : List (List D)) (h : ∀ row ∈ rows, ∀ d ∈ row, Free d) : Free (.slice sz (List.map Q1 l ++ rows)) := Q0q Q50 l h
@[simp] theorem X54 (sz sz2 : Nat) (l : List (List Q0)) : Free (.slice sz (List.map (rL sz2 Q1) l)) := Q01 sz sz2 Q1 (fun l => Z4l sz2 l) l
structure Grow where
 clause : Int
 pats : List Q0
 binds : List Q4
 deriving Inhabited
def Q47 (x : Grow) : List D := [(eI x.clause), (.slice 6 (List.map Q1 x.pats)), (.slice 2 (List.map Z2 x.binds))]
@[simp] theorem V7l (x : Grow) : Q47 x = [(eI x.clause), (.slice 6 (List.map Q1 x.pats)), (.slice 2 (List.map Z2 x.binds))] := rfl
theorem Z7n (x : Grow) : ∀ d ∈ Q47 x, Free d := by simp
@[simp] theorem X13 (sz : Nat) (l : List Grow) : Free (.slice sz (List.map Q47 l)) := W1 (Q7 Z7n l)
@[simp] theorem W11 (sz : Nat) (l : List Grow) (rows : List (List D)) (h : ∀ row ∈ rows, ∀ d ∈ row, Free d) : Free (.slice sz (List.map Q47 l ++ rows)) := Q0q Z7n l h
@[simp] theorem W12 (sz sz2 : Nat) (l : List (List Grow)) : Free (.slice sz (List.map (rL sz2 Q47) l)) := Q01 sz sz2 Q47 (fun l => X13 sz2 l) l
structure Q6l where
 op : Int
 var : Int
 n : Int
 deriving Inhabited
def Q9j (x : Q6l) : List D := [(eI x.op), (eI x.var), (eI x.n)]
@[simp] theorem V2i (x : Q6l) : Q9j x = [(eI x.op), (eI x.var), (eI x.n)] := rfl
theorem Z7q (x : Q6l) : ∀ d ∈ Q9j x, Free d := by simp
@[simp] theorem Z7m (sz : Nat) (l : List Q6l) : Free (.slice sz (List.map Q9j l)) := W1 (Q7 Z7q l)
@[simp] theorem X80 (sz : Nat) (l : List Q6l) (rows : List (List D)) (h : ∀ row ∈ rows, ∀ d ∈ row, Free d) : Free (.slice sz (List.map Q9j l ++ rows)) := Q0q Z7q l h
@[simp] theorem X84 (sz sz2 : Nat) (l : List (List Q6l)) : Free (.slice sz (List.map (rL sz2 Q9j) l)) := Q01 sz sz2 Q9j (fun l => Z7m sz2 l) l
structure Q6 where
 pat : Q0
 guard : Q6l
 deriving Inhabited
def W6 (x : Q6) : List D := [(eI x.pat.op), (eI x.pat.ctor), (eI x.pat.n), (eI x.pat.m), (eI x.pat.var), (.slice 6 (List.map Q1 x.pat.kids)), (eI x.guard.op), (eI x.guard.var), (eI x.guard.n)]
@[simp] theorem X5j (x : Q6) : W6 x = [(eI x.pat.op), (eI x.pat.ctor), (eI x.pat.n), (eI x.pat.m), (eI x.pat.var), (.slice 6 (List.map Q1 x.pat.kids)), (eI x.guard.op), (eI x.guard.var), (eI x.guard.n)] := rfl
theorem Q6t (x : Q6) : ∀ d ∈ W6 x, Free d := by simp
@[simp] theorem Z5v (sz : Nat) (l : List Q6) : Free (.slice sz (List.map W6 l)) := W1 (Q7 Q6t l)
@[simp] theorem X62 (sz : Nat) (l : List Q6) (rows : List (List D)) (h : ∀ row ∈ rows, ∀ d ∈ row, Free d) : Free (.slice sz (List.map W6 l ++ rows)) := Q0q Q6t l h
@[simp] theorem X66 (sz sz2 : Nat) (l : List (List Q6)) : Free (.slice sz (List.map (rL sz2 W6) l)) := Q01 sz sz2 W6 (fun l => Z5v sz2 l) l
structure Q75 where
 name : ByteArray
 args : List Q2
 index : Int
 deriving Inhabited
def Q68 (x : Q75) : List D := [(eS x.name), (.slice 2 (List.map X0 x.args)), (eI x.index)]
@[simp] theorem W2b (x : Q75) : Q68 x = [(eS x.name), (.slice 2 (List.map X0 x.args)), (eI x.index)] := rfl
theorem Q9y (x : Q75) : ∀ d ∈ Q68 x, Free d := by simp
@[simp] theorem Z95 (sz : Nat) (l : List Q75) : Free (.slice sz (List.map Q68 l)) := W1 (Q7 Q9y l)
@[simp] theorem X9w (sz : Nat) (l : List Q75) (rows : List (List D)) (h : ∀ row ∈ rows, ∀ d ∈ row, Free d) : Free (.slice sz (List.map Q68 l ++ rows)) := Q0q Q9y l h
@[simp] theorem W02 (sz sz2 : Nat) (l : List (List Q75)) : Free (.slice sz (List.map (rL sz2 Q68) l)) := Q01 sz sz2 Q68 (fun l => Z95 sz2 l) l
structure Q3 where
 name : ByteArray
 ctors : List Q75
 deriving Inhabited
def W3 (x : Q3) : List D := [(eS x.name), (.slice 3 (List.map Q68 x.ctors))]
@[simp] theorem W2a (x : Q3) : W3 x = [(eS x.name), (.slice 3 (List.map Q68 x.ctors))] := rfl
theorem Q9x (x : Q3) : ∀ d ∈ W3 x, Free d := by simp
@[simp] theorem Z94 (sz : Nat) (l : List Q3) : Free (.slice sz (List.map W3 l)) := W1 (Q7 Q9x l)
@[simp] theorem X9v (sz : Nat) (l : List Q3) (rows : List (List D)) (h : ∀ row ∈ rows, ∀ d ∈ row, Free d) : Free (.slice sz (List.map W3 l ++ rows)) := Q0q Q9x l h
@[simp] theorem W01 (sz sz2 : Nat) (l : List (List Q3)) : Free (.slice sz (List.map (rL sz2 W3) l)) := Q01 sz sz2 W3 (fun l => Z94 sz2 l) l
structure Q1e where
 w : List Q3
 d : List Int
 deriving Inhabited
def Q20 (x : Q1e) : List D := [(.slice 2 (List.map W3 x.w)), (.cptr (List.map cI x.d))]
@[simp] theorem V0s (x : Q1e) : Q20 x = [(.slice 2 (List.map W3 x.w)), (.cptr (List.map cI x.d))] := rfl
theorem Z4m (x : Q1e) : ∀ d ∈ Q20 x, Free d := by simp
@[simp] theorem Z5t (sz : Nat) (l : List Q1e) : Free (.slice sz (List.map Q20 l)) := W1 (Q7 Z4m l)
@[simp] theorem X60 (sz : Nat) (l : List Q1e) (rows : List (List D)) (h : ∀ row ∈ rows, ∀ d ∈ row, Free d) : Free (.slice sz (List.map Q20 l ++ rows)) := Q0q Z4m l h
@[simp] theorem X64 (sz sz2 : Nat) (l : List (List Q1e)) : Free (.slice sz (List.map (rL sz2 Q20) l)) := Q01 sz sz2 Q20 (fun l => Z5t sz2 l) l
structure Z7 where
 spaces : Q1e
 list : List Q6
 pick : Int
 count : Int
 deriving Inhabited
def V8 (x : Z7) : List D := [(.cptr (Q20 x.spaces)), (.slice 9 (List.map W6 x.list)), (eI x.pick), (eI x.count)]
@[simp] theorem W4y (x : Z7) : V8 x = [(.cptr (Q20 x.spaces)), (.slice 9 (List.map W6 x.list)), (eI x.pick), (eI x.count)] := rfl
theorem Q9v (x : Z7) : ∀ d ∈ V8 x, Free d := by simp
@[simp] theorem Z2d (sz : Nat) (l : List Z7) : Free (.slice sz (List.map V8 l)) := W1 (Q7 Q9v l)
@[simp] theorem X1y (sz : Nat) (l : List Z7) (rows : List (List D)) (h : ∀ row ∈ rows, ∀ d ∈ row, Free d) : Free (.slice sz (List.map V8 l ++ rows)) := Q0q Q9v l h
@[simp] theorem X1z (sz sz2 : Nat) (l : List (List Z7)) : Free (.slice sz (List.map (rL sz2 V8) l)) := Q01 sz sz2 V8 (fun l => Z2d sz2 l) l
structure Z3 where
 path : List Int
 t : Q2
 deriving Inhabited
def Q1b (x : Z3) : List D := [(.slice 1 (List.map rI x.path)), (eI x.t.data), (eI x.t.index)]
@[simp] theorem V0t (x : Z3) : Q1b x = [(.slice 1 (List.map rI x.path)), (eI x.t.data), (eI x.t.index)] := rfl
theorem Z4n (x : Z3) : ∀ d ∈ Q1b x, Free d := by simp
@[simp] theorem Z5u (sz : Nat) (l : List Z3) : Free (.slice sz (List.map Q1b l)) := W1 (Q7 Z4n l)
@[simp] theorem X61 (sz : Nat) (l : List Z3) (rows : List (List D)) (h : ∀ row ∈ rows, ∀ d ∈ row, Free d) : Free (.slice sz (List.map Q1b l ++ rows)) := Q0q Z4n l h
@[simp] theorem X65 (sz sz2 : Nat) (l : List (List Z3)) : Free (.slice sz (List.map (rL sz2 Q1b) l)) := Q01 sz sz2 Q1b (fun l => Z5u sz2 l) l
structure Q7j where
 var : Int
 value : Z4
 deriving Inhabited
def Z6v (x : Q7j) : List D := [(eI x.var), (eI x.value.ctor), (eI x.value.n), (.slice 3 (List.map Q4m x.value.kids))]
@[simp] theorem V5j (x : Q7j) : Z6v x = [(eI x.var), (eI x.value.ctor), (eI x.value.n), (.slice 3 (List.map Q4m x.value.kids))] := rfl
theorem Q9z (x : Q7j) : ∀ d ∈ Z6v x, Free d := by simp
@[simp] theorem Z96 (sz : Nat) (l : List Q7j) : Free (.slice sz (List.map Z6v l)) := W1 (Q7 Q9z l)
@[simp] theorem X9x (sz : Nat) (l : List Q7j) (rows : List (List D)) (h : ∀ row ∈ rows, ∀ d ∈ row, Free d) : Free (.slice sz (List.map Z6v l ++ rows)) := Q0q Q9z l h
@[simp] theorem W03 (sz sz2 : Nat) (l : List (List Q7j)) : Free (.slice sz (List.map (rL sz2 Z6v) l)) := Q01 sz sz2 Z6v (fun l => Z96 sz2 l) l
structure Z8 where
 b : List Int
 p : Int
 deriving Inhabited
def Y4 (x : Z8) : List D := [(.slice 1 (List.map (rK .u8) x.b)), (eI x.p)]
@[simp] theorem V2h (x : Z8) : Y4 x = [(.slice 1 (List.map (rK .u8) x.b)), (eI x.p)] := rfl
theorem Z7p (x : Z8) : ∀ d ∈ Y4 x, Free d := by simp
@[simp] theorem Z7k (sz : Nat) (l : List Z8) : Free (.slice sz (List.map Y4 l)) := W1 (Q7 Z7p l)
@[simp] theorem X7y (sz : Nat) (l : List Z8) (rows : List (List D)) (h : ∀ row ∈ rows, ∀ d ∈ row, Free d) : Free (.slice sz (List.map Y4 l ++ rows)) := Q0q Z7p l h
@[simp] theorem X82 (sz sz2 : Nat) (l : List (List Z8)) : Free (.slice sz (List.map (rL sz2 Y4) l)) := Q01 sz sz2 Y4 (fun l => Z7k sz2 l) l
structure Y2 where
 path : List Int
 kind : Q2
 deriving Inhabited
def Q1n (x : Y2) : List D := [(.slice 1 (List.map rI x.path)), (eI x.kind.data), (eI x.kind.index)]
@[simp] theorem W6g (x : Y2) : Q1n x = [(.slice 1 (List.map rI x.path)), (eI x.kind.data), (eI x.kind.index)] := rfl
theorem Z0z (x : Y2) : ∀ d ∈ Q1n x, Free d := by simp
@[simp] theorem Z3l (sz : Nat) (l : List Y2) : Free (.slice sz (List.map Q1n l)) := W1 (Q7 Z0z l)
@[simp] theorem X3t (sz : Nat) (l : List Y2) (rows : List (List D)) (h : ∀ row ∈ rows, ∀ d ∈ row, Free d) : Free (.slice sz (List.map Q1n l ++ rows)) := Q0q Z0z l h
@[simp] theorem X3v (sz sz2 : Nat) (l : List (List Y2)) : Free (.slice sz (List.map (rL sz2 Q1n) l)) := Q01 sz sz2 Q1n (fun l => Z3l sz2 l) l
structure V1 where
 clause : Int
 pats : List Q0
 binds : List Q4
 deriving Inhabited
def Q1w (x : V1) : List D := [(eI x.clause), (.slice 6 (List.map Q1 x.pats)), (.slice 2 (List.map Z2 x.binds))]
@[simp] theorem V2g (x : V1) : Q1w x = [(eI x.clause), (.slice 6 (List.map Q1 x.pats)), (.slice 2 (List.map Z2 x.binds))] := rfl
theorem Z7o (x : V1) : ∀ d ∈ Q1w x, Free d := by simp
@[simp] theorem Z7j (sz : Nat) (l : List V1) : Free (.slice sz (List.map Q1w l)) := W1 (Q7 Z7o l)
@[simp] theorem X7x (sz : Nat) (l : List V1) (rows : List (List D)) (h : ∀ row ∈ rows, ∀ d ∈ row, Free d) : Free (.slice sz (List.map Q1w l ++ rows)) := Q0q Z7o l h
@[simp] theorem X81 (sz sz2 : Nat) (l : List (List V1)) : Free (.slice sz (List.map (rL sz2 Q1w) l)) := Q01 sz sz2 Q1w (fun l => Z7j sz2 l) l
structure Q8 where
 var : Int
 typ : Q2
 deriving Inhabited
def V3 (x : Q8) : List D := [(eI x.var), (eI x.typ.data), (eI x.typ.index)]
@[simp] theorem W9g (x : Q8) : V3 x = [(eI x.var), (eI x.typ.data), (eI x.typ.index)] := rfl
theorem Q5v (x : Q8) : ∀ d ∈ V3 x, Free d := by simp
@[simp] theorem Z4k (sz : Nat) (l : List Q8) : Free (.slice sz (List.map V3 l)) := W1 (Q7 Q5v l)
@[simp] theorem X51 (sz : Nat) (l : List Q8) (rows : List (List D)) (h : ∀ row ∈ rows, ∀ d ∈ row, Free d) : Free (.slice sz (List.map V3 l ++ rows)) := Q0q Q5v l h
@[simp] theorem X53 (sz sz2 : Nat) (l : List (List Q8)) : Free (.slice sz (List.map (rL sz2 V3) l)) := Q01 sz sz2 V3 (fun l => Z4k sz2 l) l
end Go.Proofs.YtbdkbdafhlcilaaGreat
