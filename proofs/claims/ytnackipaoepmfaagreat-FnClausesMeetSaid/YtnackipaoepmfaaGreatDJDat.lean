import Derived.Test.YtnackipaoepmfaaGreatDJE1
set_option linter.unusedSimpArgs false
set_option linter.unusedVariables false
namespace Go.Proofs.YtnackipaoepmfaaGreat
open Go Go.RowKit
theorem Q7 {α : Type} {f : α → List D} (h : ∀ x, ∀ d ∈ f x, Free d) (l : List α) : ∀ row ∈ List.map f l, ∀ d ∈ row, Free d := fun row hr d hd => by
 simp only [List.mem_map] at hr
 obtain ⟨x, _, rfl⟩ := hr
 exact h x d hd
abbrev eI (n : Int) : D := .val (.int .i64 n)
abbrev eB (b : Bool) : D := .val (.bool b)
abbrev eS (s : ByteArray) : D := .val (.string s)
abbrev cI : Int → D := fun n => .val (.int .i64 n)
abbrev cB : Bool → D := fun n => .val (.bool n)
def rI (n : Int) : List D := [eI n]
def rK (k : IntKind) (n : Int) : List D := [.val (.int k n)]
def rB (n : Bool) : List D := [eB n]
def rS (n : ByteArray) : List D := [eS n]
def rL {α : Type} (sz : Nat) (r : α → List D) (l : List α) : List D := [.slice sz (List.map r l)]
@[simp] theorem rI_eq (n : Int) : rI n = [eI n] := rfl
@[simp] theorem X86 (sz : Nat) (l : List Int) : Free (.slice sz (List.map (rI) l)) := X1 (fun row hr d hd => by simp only [List.mem_map] at hr; obtain ⟨x, _, rfl⟩ := hr; simp at hd; subst hd; exact Q3k _)
@[simp] theorem rK_eq (k : IntKind) (n : Int) : rK k n = [.val (.int k n)] := rfl
@[simp] theorem V04 (k : IntKind) (sz : Nat) (l : List Int) : Free (.slice sz (List.map (rK k) l)) := X1 (fun row hr d hd => by simp only [List.mem_map] at hr; obtain ⟨x, _, rfl⟩ := hr; simp at hd; subst hd; exact Q3k _)
@[simp] theorem rB_eq (n : Bool) : rB n = [eB n] := rfl
@[simp] theorem X87 (sz : Nat) (l : List Bool) : Free (.slice sz (List.map (rB) l)) := X1 (fun row hr d hd => by simp only [List.mem_map] at hr; obtain ⟨x, _, rfl⟩ := hr; simp at hd; subst hd; exact Q3k _)
@[simp] theorem V7y (n : ByteArray) : rS n = [eS n] := rfl
@[simp] theorem X80 (sz : Nat) (l : List ByteArray) : Free (.slice sz (List.map (rS) l)) := X1 (fun row hr d hd => by simp only [List.mem_map] at hr; obtain ⟨x, _, rfl⟩ := hr; simp at hd; subst hd; exact Q3k _)
@[simp] theorem rL_eq {α : Type} (sz : Nat) (r : α → List D) (l : List α) : rL sz r l = [.slice sz (List.map r l)] := rfl
theorem V0 {α : Type} (sz sz2 : Nat) (r : α → List D) (h : ∀ l, Free (.slice sz2 (List.map r l))) (l : List (List α)) : Free (.slice sz (List.map (rL sz2 r) l)) := X1 (fun row hr d hd => by simp only [List.mem_map] at hr; obtain ⟨x, _, rfl⟩ := hr; simp at hd; subst hd; exact h x)
@[simp] theorem W75 (sz : Nat) (row : List D) (rows : List (List D)) (h : ∀ r ∈ row :: rows, ∀ d ∈ r, Free d) : Free (.slice sz (row :: rows)) := X1 h
@[simp] theorem W8p (sz : Nat) : Free (.slice sz []) := X1 (fun _ h => by simp at h)
@[simp] theorem V06 {ds : List D} (h : ∀ d ∈ ds, Free d) : Free (.agg ds) := Z4r h
@[simp] theorem V03 {ds : List D} (h : ∀ d ∈ ds, Free d) : Free (.tup ds) := W57 h
@[simp] theorem W8s {ds : List D} (h : ∀ d ∈ ds, Free d) : Free (.cptr ds) := X1i h
@[simp] theorem W8t {f : FuncId} {ds : List D} (h : ∀ d ∈ ds, Free d) : Free (.clos f ds) := X1j h
@[simp] theorem V05 : Free .any := W5c
theorem Y7 {sz : Nat} {α : Type} {r : α → List D} (hr : ∀ x, ∀ d ∈ r x, Free d) (xs : List α) {rows : List (List D)} (h : ∀ row ∈ rows, ∀ d ∈ row, Free d) : Free (.slice sz (List.map r xs ++ rows)) := X41 hr h
@[simp] theorem W8u (l : List Int) : Free (.agg (List.map cI l)) := Z4r fun d h => by simp only [List.mem_map] at h; obtain ⟨x, _, rfl⟩ := h; exact Q3k _
@[simp] theorem W8v (l : List Bool) : Free (.agg (List.map cB l)) := Z4r fun d h => by simp only [List.mem_map] at h; obtain ⟨x, _, rfl⟩ := h; exact Q3k _
@[simp] theorem W8q (l : List Int) : ∀ d ∈ List.map cI l, Free d := fun d h => by simp only [List.mem_map] at h; obtain ⟨x, _, rfl⟩ := h; exact Q3k _
@[simp] theorem W8r (l : List Bool) : ∀ d ∈ List.map cB l, Free d := fun d h => by simp only [List.mem_map] at h; obtain ⟨x, _, rfl⟩ := h; exact Q3k _
@[simp] theorem W59 (sz sz2 : Nat) (l : List (List Int)) : Free (.slice sz (List.map (rL sz2 rI) l)) := V0 sz sz2 rI (fun l => X86 sz2 l) l
@[simp] theorem W58 (sz sz2 : Nat) (l : List (List ByteArray)) : Free (.slice sz (List.map (rL sz2 rS) l)) := V0 sz sz2 rS (fun l => X80 sz2 l) l
@[simp] theorem W5a (sz sz2 : Nat) (l : List (List Bool)) : Free (.slice sz (List.map (rL sz2 rB) l)) := V0 sz sz2 rB (fun l => X87 sz2 l) l
structure Q2 where
 data : Int
 index : Int
 deriving Inhabited
def Z2 (x : Q2) : List D := [(eI x.data), (eI x.index)]
@[simp] theorem V3a (x : Q2) : Z2 x = [(eI x.data), (eI x.index)] := rfl
theorem Q8w (x : Q2) : ∀ d ∈ Z2 x, Free d := by simp
@[simp] theorem Z7b (sz : Nat) (l : List Q2) : Free (.slice sz (List.map Z2 l)) := X1 (Q7 Q8w l)
@[simp] theorem X7v (sz : Nat) (l : List Q2) (rows : List (List D)) (h : ∀ row ∈ rows, ∀ d ∈ row, Free d) : Free (.slice sz (List.map Z2 l ++ rows)) := Y7 Q8w l h
@[simp] theorem X81 (sz sz2 : Nat) (l : List (List Q2)) : Free (.slice sz (List.map (rL sz2 Z2) l)) := V0 sz sz2 Z2 (fun l => Z7b sz2 l) l
structure Q6 where
 ctor : Int
 n : Int
 kids : List Q6
 deriving Inhabited
mutual
def X3 : Q6 → List D
 | ⟨ctor, n, kids⟩ => [(eI ctor), (eI n), .slice 3 (Q7g kids)]
def Q7g : List Q6 → List (List D)
 | [] => []
 | x :: l => X3 x :: Q7g l
end
theorem Z3t : ∀ l, Q7g l = List.map X3 l
 | [] => by simp [Q7g]
 | x :: l => by simp [Q7g, Z3t l]
@[simp] theorem X74 (x : Q6) : X3 x = [(eI x.ctor), (eI x.n), (.slice 3 (List.map X3 x.kids))] := by cases x; simp [X3, Z3t]
mutual
theorem Q6a : ∀ (x : Q6), ∀ d ∈ X3 x, Free d
 | ⟨ctor, n, kids⟩, d, h => by
  simp only [X3, List.mem_cons, List.not_mem_nil, or_false] at h
  rcases h with rfl | rfl | rfl
  ·simp
  ·simp
  ·exact X1 (Z89 kids)
theorem Z89 : ∀ (l : List Q6), ∀ row ∈ Q7g l, ∀ d ∈ row, Free d
 | [], row, h, _, _ => by simp [Q7g] at h
 | p :: l, row, h, d, hd => by
  rw [Q7g, List.mem_cons] at h
  rcases h with rfl | h
  ·exact Q6a p d hd
  ·exact Z89 l row h d hd
end
@[simp] theorem Z5w (sz : Nat) (l : List Q6) : Free (.slice sz (List.map X3 l)) := X1 (Q7 Q6a l)
@[simp] theorem X64 (sz : Nat) (l : List Q6) (rows : List (List D)) (h : ∀ row ∈ rows, ∀ d ∈ row, Free d) : Free (.slice sz (List.map X3 l ++ rows)) := Y7 Q6a l h
@[simp] theorem X6b (sz sz2 : Nat) (l : List (List Q6)) : Free (.slice sz (List.map (rL sz2 X3) l)) := V0 sz sz2 X3 (fun l => Z5w sz2 l) l
structure Q0 where
 op : Int
 ctor : Int
 n : Int
 m : Int
 var : Int
 kids : List Q0
 deriving Inhabited
mutual
def Q1 : Q0 → List D
 | ⟨op, ctor, n, m, var, kids⟩ => [(eI op), (eI ctor), (eI n), (eI m), (eI var), .slice 6 (Q55 kids)]
def Q55 : List Q0 → List (List D)
 | [] => []
 | x :: l => Q1 x :: Q55 l
end
theorem Z0s : ∀ l, Q55 l = List.map Q1 l
 | [] => by simp [Q55]
 | x :: l => by simp [Q55, Z0s l]
@[simp] theorem X0n (x : Q0) : Q1 x = [(eI x.op), (eI x.ctor), (eI x.n), (eI x.m), (eI x.var), (.slice 6 (List.map Q1 x.kids))] := by cases x; simp [Q1, Z0s]
mutual
theorem Q49 : ∀ (x : Q0), ∀ d ∈ Q1 x, Free d
 | ⟨op, ctor, n, m, var, kids⟩, d, h => by
  simp only [Q1, List.mem_cons, List.not_mem_nil, or_false] at h
  rcases h with rfl | rfl | rfl | rfl | rfl | rfl
  ·simp
  ·simp
  ·simp
  ·simp
  ·simp
  ·exact X1 (Z3y kids)
theorem Z3y : ∀ (l : List Q0), ∀ row ∈ Q55 l, ∀ d ∈ row, Free d
 | [], row, h, _, _ => by simp [Q55] at h
 | p :: l, row, h, d, hd => by
  rw [Q55, List.mem_cons] at h
  rcases h with rfl | h
  ·exact Q49 p d hd
  ·exact Z3y l row h d hd
end
@[simp] theorem Z36 (sz : Nat) (l : List Q0) : Free (.slice sz (List.map Q1 l)) := X1 (Q7 Q49 l)
@[simp] theorem X2i (sz : Nat) (l : List Q0) (rows : List (List D)) (h : ∀ row ∈ rows, ∀ d ∈ row, Free d) : Free (.slice sz (List.map Q1 l ++ rows)) := Y7 Q49 l h
@[simp] theorem X2l (sz sz2 : Nat) (l : List (List Q0)) : Free (.slice sz (List.map (rL sz2 Q1) l)) := V0 sz sz2 Q1 (fun l => Z36 sz2 l) l
structure Q40 where
 op : Int
 var : Int
 n : Int
 deriving Inhabited
def Q72 (x : Q40) : List D := [(eI x.op), (eI x.var), (eI x.n)]
@[simp] theorem W9z (x : Q40) : Q72 x = [(eI x.op), (eI x.var), (eI x.n)] := rfl
theorem Z66 (x : Q40) : ∀ d ∈ Q72 x, Free d := by simp
@[simp] theorem Z60 (sz : Nat) (l : List Q40) : Free (.slice sz (List.map Q72 l)) := X1 (Q7 Z66 l)
@[simp] theorem X68 (sz : Nat) (l : List Q40) (rows : List (List D)) (h : ∀ row ∈ rows, ∀ d ∈ row, Free d) : Free (.slice sz (List.map Q72 l ++ rows)) := Y7 Z66 l h
@[simp] theorem X6f (sz sz2 : Nat) (l : List (List Q40)) : Free (.slice sz (List.map (rL sz2 Q72) l)) := V0 sz sz2 Q72 (fun l => Z60 sz2 l) l
structure Z5 where
 pat : Q0
 guard : Q40
 deriving Inhabited
def Z8 (x : Z5) : List D := [(eI x.pat.op), (eI x.pat.ctor), (eI x.pat.n), (eI x.pat.m), (eI x.pat.var), (.slice 6 (List.map Q1 x.pat.kids)), (eI x.guard.op), (eI x.guard.var), (eI x.guard.n)]
@[simp] theorem X33 (x : Z5) : Z8 x = [(eI x.pat.op), (eI x.pat.ctor), (eI x.pat.n), (eI x.pat.m), (eI x.pat.var), (.slice 6 (List.map Q1 x.pat.kids)), (eI x.guard.op), (eI x.guard.var), (eI x.guard.n)] := rfl
theorem Q60 (x : Z5) : ∀ d ∈ Z8 x, Free d := by simp
@[simp] theorem Z4f (sz : Nat) (l : List Z5) : Free (.slice sz (List.map Z8 l)) := X1 (Q7 Q60 l)
@[simp] theorem X3u (sz : Nat) (l : List Z5) (rows : List (List D)) (h : ∀ row ∈ rows, ∀ d ∈ row, Free d) : Free (.slice sz (List.map Z8 l ++ rows)) := Y7 Q60 l h
@[simp] theorem X3z (sz sz2 : Nat) (l : List (List Z5)) : Free (.slice sz (List.map (rL sz2 Z8) l)) := V0 sz sz2 Z8 (fun l => Z4f sz2 l) l
structure Z6w where
 data : Int
 index : Int
 deriving Inhabited
def Q8g (x : Z6w) : List D := [(eI x.data), (eI x.index)]
@[simp] theorem W9w (x : Z6w) : Q8g x = [(eI x.data), (eI x.index)] := rfl
theorem Z63 (x : Z6w) : ∀ d ∈ Q8g x, Free d := by simp
@[simp] theorem Z5x (sz : Nat) (l : List Z6w) : Free (.slice sz (List.map Q8g l)) := X1 (Q7 Z63 l)
@[simp] theorem X65 (sz : Nat) (l : List Z6w) (rows : List (List D)) (h : ∀ row ∈ rows, ∀ d ∈ row, Free d) : Free (.slice sz (List.map Q8g l ++ rows)) := Y7 Z63 l h
@[simp] theorem X6c (sz sz2 : Nat) (l : List (List Z6w)) : Free (.slice sz (List.map (rL sz2 Q8g) l)) := V0 sz sz2 Q8g (fun l => Z5x sz2 l) l
structure Q5t where
 var : Int
 path : List Int
 deriving Inhabited
def Q1l (x : Q5t) : List D := [(eI x.var), (.slice 1 (List.map rI x.path))]
@[simp] theorem W3r (x : Q5t) : Q1l x = [(eI x.var), (.slice 1 (List.map rI x.path))] := rfl
theorem Q9x (x : Q5t) : ∀ d ∈ Q1l x, Free d := by simp
@[simp] theorem Z2b (sz : Nat) (l : List Q5t) : Free (.slice sz (List.map Q1l l)) := X1 (Q7 Q9x l)
@[simp] theorem X1d (sz : Nat) (l : List Q5t) (rows : List (List D)) (h : ∀ row ∈ rows, ∀ d ∈ row, Free d) : Free (.slice sz (List.map Q1l l ++ rows)) := Y7 Q9x l h
@[simp] theorem X1g (sz sz2 : Nat) (l : List (List Q5t)) : Free (.slice sz (List.map (rL sz2 Q1l) l)) := V0 sz sz2 Q1l (fun l => Z2b sz2 l) l
mutual
structure Q7y where
 ctor : Int
 n : Int
 m : Int
 tree : Z6v
structure Z6v where
 op : Int
 clause : Int
 binds : List Q5t
 path : List Int
 branches : List Q7y
 else_ : List Z6v
end
instance : Inhabited Z6v := ⟨⟨default, default, [], [], [], []⟩⟩
instance : Inhabited Q7y := ⟨⟨default, default, default, default⟩⟩
mutual
def Q4c : Q7y → List D
 | ⟨ctor, n, m, tree⟩ => [(eI ctor), (eI n), (eI m)] ++ Q7h tree
def Q64 : List Q7y → List (List D)
 | [] => []
 | x :: l => Q4c x :: Q64 l
def Q7h : Z6v → List D
 | ⟨op, clause, binds, path, branches, else_⟩ => [(eI op), (eI clause), (.slice 2 (List.map Q1l binds)), (.slice 1 (List.map rI path)), .slice 9 (Q64 branches), .slice 6 (Q9i else_)]
def Q9i : List Z6v → List (List D)
 | [] => []
 | x :: l => Q7h x :: Q9i l
end
theorem Q8j : ∀ l, Q64 l = List.map Q4c l
 | [] => by simp [Q64]
 | x :: l => by simp [Q64, Q8j l]
theorem Z11 : ∀ l, Q9i l = List.map Q7h l
 | [] => by simp [Q9i]
 | x :: l => by simp [Q9i, Z11 l]
@[simp] theorem V3b (x : Z6v) : Q7h x = [(eI x.op), (eI x.clause), (.slice 2 (List.map Q1l x.binds)), (.slice 1 (List.map rI x.path)), (.slice 9 (List.map Q4c x.branches)), (.slice 6 (List.map Q7h x.else_))] := by cases x; simp [Q7h, Q8j, Z11]
@[simp] theorem W81 (x : Q7y) : Q4c x = [(eI x.ctor), (eI x.n), (eI x.m), (eI x.tree.op), (eI x.tree.clause), (.slice 2 (List.map Q1l x.tree.binds)), (.slice 1 (List.map rI x.tree.path)), (.slice 9 (List.map Q4c x.tree.branches)), (.slice 6 (List.map Q7h x.tree.else_))] := by cases x; simp [Q4c, Q8j, Z11]
mutual
theorem Z0d : ∀ (x : Q7y), ∀ d ∈ Q4c x, Free d
 | ⟨ctor, n, m, tree⟩, d, h => by
  rw [Q4c] at h
  simp only [List.mem_append] at h
  rcases h with h | h
  ·simp only [List.mem_cons, List.not_mem_nil, or_false] at h
   rcases h with rfl | rfl | rfl
   ·simp
   ·simp
   ·simp
  ·exact Z2d tree d h
theorem Z67 : ∀ (l : List Q7y), ∀ row ∈ Q64 l, ∀ d ∈ row, Free d
 | [], row, h, _, _ => by simp [Q64] at h
 | p :: l, row, h, d, hd => by
  rw [Q64, List.mem_cons] at h
  rcases h with rfl | h
  ·exact Z0d p d hd
  ·exact Z67 l row h d hd
theorem Z2d : ∀ (x : Z6v), ∀ d ∈ Q7h x, Free d
 | ⟨op, clause, binds, path, branches, else_⟩, d, h => by
  rw [Q7h] at h
  simp only [List.mem_cons, List.not_mem_nil, or_false] at h
  rcases h with rfl | rfl | rfl | rfl | rfl | rfl
  ·simp
  ·simp
  ·simp
  ·simp
  ·exact X1 (Z67 branches)
  ·exact X1 (X1k else_)
theorem X1k : ∀ (l : List Z6v), ∀ row ∈ Q9i l, ∀ d ∈ row, Free d
 | [], row, h, _, _ => by simp [Q9i] at h
 | p :: l, row, h, d, hd => by
  rw [Q9i, List.mem_cons] at h
  rcases h with rfl | h
  ·exact Z2d p d hd
  ·exact X1k l row h d hd
end
@[simp] theorem Z4g (sz : Nat) (l : List Q7y) : Free (.slice sz (List.map Q4c l)) := X1 (Q7 Z0d l)
@[simp] theorem X3v (sz : Nat) (l : List Q7y) (rows : List (List D)) (h : ∀ row ∈ rows, ∀ d ∈ row, Free d) : Free (.slice sz (List.map Q4c l ++ rows)) := Y7 Z0d l h
@[simp] theorem X40 (sz sz2 : Nat) (l : List (List Q7y)) : Free (.slice sz (List.map (rL sz2 Q4c) l)) := V0 sz sz2 Q4c (fun l => Z4g sz2 l) l
@[simp] theorem Z7c (sz : Nat) (l : List Z6v) : Free (.slice sz (List.map Q7h l)) := X1 (Q7 Z2d l)
@[simp] theorem X7w (sz : Nat) (l : List Z6v) (rows : List (List D)) (h : ∀ row ∈ rows, ∀ d ∈ row, Free d) : Free (.slice sz (List.map Q7h l ++ rows)) := Y7 Z2d l h
@[simp] theorem X82 (sz sz2 : Nat) (l : List (List Z6v)) : Free (.slice sz (List.map (rL sz2 Q7h) l)) := V0 sz sz2 Q7h (fun l => Z7c sz2 l) l
structure W6 where
 var : Int
 value : Q6
 deriving Inhabited
def Q0q (x : W6) : List D := [(eI x.var), (eI x.value.ctor), (eI x.value.n), (.slice 3 (List.map X3 x.value.kids))]
@[simp] theorem V3c (x : W6) : Q0q x = [(eI x.var), (eI x.value.ctor), (eI x.value.n), (.slice 3 (List.map X3 x.value.kids))] := rfl
theorem Q8z (x : W6) : ∀ d ∈ Q0q x, Free d := by simp
@[simp] theorem Z7f (sz : Nat) (l : List W6) : Free (.slice sz (List.map Q0q l)) := X1 (Q7 Q8z l)
@[simp] theorem X7z (sz : Nat) (l : List W6) (rows : List (List D)) (h : ∀ row ∈ rows, ∀ d ∈ row, Free d) : Free (.slice sz (List.map Q0q l ++ rows)) := Y7 Q8z l h
@[simp] theorem X85 (sz sz2 : Nat) (l : List (List W6)) : Free (.slice sz (List.map (rL sz2 Q0q) l)) := V0 sz sz2 Q0q (fun l => Z7f sz2 l) l
structure Z6x where
 name : ByteArray
 args : List Z6w
 index : Int
 deriving Inhabited
def Q8i (x : Z6x) : List D := [(eS x.name), (.slice 2 (List.map Q8g x.args)), (eI x.index)]
@[simp] theorem W9y (x : Z6x) : Q8i x = [(eS x.name), (.slice 2 (List.map Q8g x.args)), (eI x.index)] := rfl
theorem Z65 (x : Z6x) : ∀ d ∈ Q8i x, Free d := by simp
@[simp] theorem Z5z (sz : Nat) (l : List Z6x) : Free (.slice sz (List.map Q8i l)) := X1 (Q7 Z65 l)
@[simp] theorem X67 (sz : Nat) (l : List Z6x) (rows : List (List D)) (h : ∀ row ∈ rows, ∀ d ∈ row, Free d) : Free (.slice sz (List.map Q8i l ++ rows)) := Y7 Z65 l h
@[simp] theorem X6e (sz sz2 : Nat) (l : List (List Z6x)) : Free (.slice sz (List.map (rL sz2 Q8i) l)) := V0 sz sz2 Q8i (fun l => Z5z sz2 l) l
structure Z8h where
 name : ByteArray
 ctors : List Z6x
 deriving Inhabited
def Z12 (x : Z8h) : List D := [(eS x.name), (.slice 3 (List.map Q8i x.ctors))]
@[simp] theorem W9x (x : Z8h) : Z12 x = [(eS x.name), (.slice 3 (List.map Q8i x.ctors))] := rfl
theorem Z64 (x : Z8h) : ∀ d ∈ Z12 x, Free d := by simp
@[simp] theorem Z5y (sz : Nat) (l : List Z8h) : Free (.slice sz (List.map Z12 l)) := X1 (Q7 Z64 l)
@[simp] theorem X66 (sz : Nat) (l : List Z8h) (rows : List (List D)) (h : ∀ row ∈ rows, ∀ d ∈ row, Free d) : Free (.slice sz (List.map Z12 l ++ rows)) := Y7 Z64 l h
@[simp] theorem X6d (sz sz2 : Nat) (l : List (List Z8h)) : Free (.slice sz (List.map (rL sz2 Z12) l)) := V0 sz sz2 Z12 (fun l => Z5y sz2 l) l
structure Q4x where
 op : Int
 ctor : Int
 n : Int
 m : Int
 var : Int
 kids : List Q4x
 deriving Inhabited
mutual
def Q1m : Q4x → List D
 | ⟨op, ctor, n, m, var, kids⟩ => [(eI op), (eI ctor), (eI n), (eI m), (eI var), .slice 6 (Q41 kids)]
def Q41 : List Q4x → List (List D)
 | [] => []
 | x :: l => Q1m x :: Q41 l
end
theorem Q9j : ∀ l, Q41 l = List.map Q1m l
 | [] => by simp [Q41]
 | x :: l => by simp [Q41, Q9j l]
@[simp] theorem W3s (x : Q4x) : Q1m x = [(eI x.op), (eI x.ctor), (eI x.n), (eI x.m), (eI x.var), (.slice 6 (List.map Q1m x.kids))] := by cases x; simp [Q1m, Q9j]
mutual
theorem Q7o : ∀ (x : Q4x), ∀ d ∈ Q1m x, Free d
 | ⟨op, ctor, n, m, var, kids⟩, d, h => by
  simp only [Q1m, List.mem_cons, List.not_mem_nil, or_false] at h
  rcases h with rfl | rfl | rfl | rfl | rfl | rfl
  ·simp
  ·simp
  ·simp
  ·simp
  ·simp
  ·exact X1 (Z2e kids)
theorem Z2e : ∀ (l : List Q4x), ∀ row ∈ Q41 l, ∀ d ∈ row, Free d
 | [], row, h, _, _ => by simp [Q41] at h
 | p :: l, row, h, d, hd => by
  rw [Q41, List.mem_cons] at h
  rcases h with rfl | h
  ·exact Q7o p d hd
  ·exact Z2e l row h d hd
end
@[simp] theorem Z2c (sz : Nat) (l : List Q4x) : Free (.slice sz (List.map Q1m l)) := X1 (Q7 Q7o l)
@[simp] theorem X1e (sz : Nat) (l : List Q4x) (rows : List (List D)) (h : ∀ row ∈ rows, ∀ d ∈ row, Free d) : Free (.slice sz (List.map Q1m l ++ rows)) := Y7 Q7o l h
@[simp] theorem X1h (sz sz2 : Nat) (l : List (List Q4x)) : Free (.slice sz (List.map (rL sz2 Q1m) l)) := V0 sz sz2 Q1m (fun l => Z2c sz2 l) l
structure Z1c where
 op : Int
 var : Int
 n : Int
 deriving Inhabited
def Q8h (x : Z1c) : List D := [(eI x.op), (eI x.var), (eI x.n)]
@[simp] theorem W80 (x : Z1c) : Q8h x = [(eI x.op), (eI x.var), (eI x.n)] := rfl
theorem Z3a (x : Z1c) : ∀ d ∈ Q8h x, Free d := by simp
@[simp] theorem Z4e (sz : Nat) (l : List Z1c) : Free (.slice sz (List.map Q8h l)) := X1 (Q7 Z3a l)
@[simp] theorem X3t (sz : Nat) (l : List Z1c) (rows : List (List D)) (h : ∀ row ∈ rows, ∀ d ∈ row, Free d) : Free (.slice sz (List.map Q8h l ++ rows)) := Y7 Z3a l h
@[simp] theorem X3y (sz sz2 : Nat) (l : List (List Z1c)) : Free (.slice sz (List.map (rL sz2 Q8h) l)) := V0 sz sz2 Q8h (fun l => Z4e sz2 l) l
structure Z0i where
 pat : Q4x
 guard : Z1c
 deriving Inhabited
def Q71 (x : Z0i) : List D := [(eI x.pat.op), (eI x.pat.ctor), (eI x.pat.n), (eI x.pat.m), (eI x.pat.var), (.slice 6 (List.map Q1m x.pat.kids)), (eI x.guard.op), (eI x.guard.var), (eI x.guard.n)]
@[simp] theorem W6m (x : Z0i) : Q71 x = [(eI x.pat.op), (eI x.pat.ctor), (eI x.pat.n), (eI x.pat.m), (eI x.pat.var), (.slice 6 (List.map Q1m x.pat.kids)), (eI x.guard.op), (eI x.guard.var), (eI x.guard.n)] := rfl
theorem Z18 (x : Z0i) : ∀ d ∈ Q71 x, Free d := by simp
@[simp] theorem Z37 (sz : Nat) (l : List Z0i) : Free (.slice sz (List.map Q71 l)) := X1 (Q7 Z18 l)
@[simp] theorem X2j (sz : Nat) (l : List Z0i) (rows : List (List D)) (h : ∀ row ∈ rows, ∀ d ∈ row, Free d) : Free (.slice sz (List.map Q71 l ++ rows)) := Y7 Z18 l h
@[simp] theorem X2m (sz sz2 : Nat) (l : List (List Z0i)) : Free (.slice sz (List.map (rL sz2 Q71) l)) := V0 sz sz2 Q71 (fun l => Z37 sz2 l) l
structure Q6b where
 name : ByteArray
 args : List Q2
 index : Int
 deriving Inhabited
def Q5f (x : Q6b) : List D := [(eS x.name), (.slice 2 (List.map Z2 x.args)), (eI x.index)]
@[simp] theorem W07 (x : Q6b) : Q5f x = [(eS x.name), (.slice 2 (List.map Z2 x.args)), (eI x.index)] := rfl
theorem Q8y (x : Q6b) : ∀ d ∈ Q5f x, Free d := by simp
@[simp] theorem Z7e (sz : Nat) (l : List Q6b) : Free (.slice sz (List.map Q5f l)) := X1 (Q7 Q8y l)
@[simp] theorem X7y (sz : Nat) (l : List Q6b) (rows : List (List D)) (h : ∀ row ∈ rows, ∀ d ∈ row, Free d) : Free (.slice sz (List.map Q5f l ++ rows)) := Y7 Q8y l h
@[simp] theorem X84 (sz sz2 : Nat) (l : List (List Q6b)) : Free (.slice sz (List.map (rL sz2 Q5f) l)) := V0 sz sz2 Q5f (fun l => Z7e sz2 l) l
structure Q3 where
 name : ByteArray
 ctors : List Q6b
 deriving Inhabited
def Z6 (x : Q3) : List D := [(eS x.name), (.slice 3 (List.map Q5f x.ctors))]
@[simp] theorem W06 (x : Q3) : Z6 x = [(eS x.name), (.slice 3 (List.map Q5f x.ctors))] := rfl
theorem Q8x (x : Q3) : ∀ d ∈ Z6 x, Free d := by simp
@[simp] theorem Z7d (sz : Nat) (l : List Q3) : Free (.slice sz (List.map Z6 l)) := X1 (Q7 Q8x l)
@[simp] theorem X7x (sz : Nat) (l : List Q3) (rows : List (List D)) (h : ∀ row ∈ rows, ∀ d ∈ row, Free d) : Free (.slice sz (List.map Z6 l ++ rows)) := Y7 Q8x l h
@[simp] theorem X83 (sz sz2 : Nat) (l : List (List Q3)) : Free (.slice sz (List.map (rL sz2 Z6) l)) := V0 sz sz2 Z6 (fun l => Z7d sz2 l) l
structure Grow where
 clause : Int
 pats : List Q0
 binds : List Q5t
 deriving Inhabited
def X32 (x : Grow) : List D := [(eI x.clause), (.slice 6 (List.map Q1 x.pats)), (.slice 2 (List.map Q1l x.binds))]
@[simp] theorem V5i (x : Grow) : X32 x = [(eI x.clause), (.slice 6 (List.map Q1 x.pats)), (.slice 2 (List.map Q1l x.binds))] := rfl
theorem X42 (x : Grow) : ∀ d ∈ X32 x, Free d := by simp
@[simp] theorem Z91 (sz : Nat) (l : List Grow) : Free (.slice sz (List.map X32 l)) := X1 (Q7 X42 l)
@[simp] theorem X90 (sz : Nat) (l : List Grow) (rows : List (List D)) (h : ∀ row ∈ rows, ∀ d ∈ row, Free d) : Free (.slice sz (List.map X32 l ++ rows)) := Y7 X42 l h
@[simp] theorem X91 (sz sz2 : Nat) (l : List (List Grow)) : Free (.slice sz (List.map (rL sz2 X32) l)) := V0 sz sz2 X32 (fun l => Z91 sz2 l) l
structure Q0w where
 w : List Q3
 d : List Int
 deriving Inhabited
def Q1k (x : Q0w) : List D := [(.slice 2 (List.map Z6 x.w)), (.cptr (List.map cI x.d))]
@[simp] theorem W7y (x : Q0w) : Q1k x = [(.slice 2 (List.map Z6 x.w)), (.cptr (List.map cI x.d))] := rfl
theorem Z38 (x : Q0w) : ∀ d ∈ Q1k x, Free d := by simp
@[simp] theorem Z4c (sz : Nat) (l : List Q0w) : Free (.slice sz (List.map Q1k l)) := X1 (Q7 Z38 l)
@[simp] theorem X3r (sz : Nat) (l : List Q0w) (rows : List (List D)) (h : ∀ row ∈ rows, ∀ d ∈ row, Free d) : Free (.slice sz (List.map Q1k l ++ rows)) := Y7 Z38 l h
@[simp] theorem X3w (sz sz2 : Nat) (l : List (List Q0w)) : Free (.slice sz (List.map (rL sz2 Q1k) l)) := V0 sz sz2 Q1k (fun l => Z4c sz2 l) l
structure Q6u where
 spaces : Q0w
 list : List Z5
 pick : Int
 count : Int
 deriving Inhabited
def Q51 (x : Q6u) : List D := [(.cptr (Q1k x.spaces)), (.slice 9 (List.map Z8 x.list)), (eI x.pick), (eI x.count)]
@[simp] theorem W2g (x : Q6u) : Q51 x = [(.cptr (Q1k x.spaces)), (.slice 9 (List.map Z8 x.list)), (eI x.pick), (eI x.count)] := rfl
theorem Q8v (x : Q6u) : ∀ d ∈ Q51 x, Free d := by simp
@[simp] theorem Z17 (sz : Nat) (l : List Q6u) : Free (.slice sz (List.map Q51 l)) := X1 (Q7 Q8v l)
@[simp] theorem Z9v (sz : Nat) (l : List Q6u) (rows : List (List D)) (h : ∀ row ∈ rows, ∀ d ∈ row, Free d) : Free (.slice sz (List.map Q51 l ++ rows)) := Y7 Q8v l h
@[simp] theorem Z9w (sz sz2 : Nat) (l : List (List Q6u)) : Free (.slice sz (List.map (rL sz2 Q51) l)) := V0 sz sz2 Q51 (fun l => Z17 sz2 l) l
structure Z3k where
 path : List Int
 t : Q2
 deriving Inhabited
def Q8f (x : Z3k) : List D := [(.slice 1 (List.map rI x.path)), (eI x.t.data), (eI x.t.index)]
@[simp] theorem W7z (x : Z3k) : Q8f x = [(.slice 1 (List.map rI x.path)), (eI x.t.data), (eI x.t.index)] := rfl
theorem Z39 (x : Z3k) : ∀ d ∈ Q8f x, Free d := by simp
@[simp] theorem Z4d (sz : Nat) (l : List Z3k) : Free (.slice sz (List.map Q8f l)) := X1 (Q7 Z39 l)
@[simp] theorem X3s (sz : Nat) (l : List Z3k) (rows : List (List D)) (h : ∀ row ∈ rows, ∀ d ∈ row, Free d) : Free (.slice sz (List.map Q8f l ++ rows)) := Y7 Z39 l h
@[simp] theorem X3x (sz sz2 : Nat) (l : List (List Z3k)) : Free (.slice sz (List.map (rL sz2 Q8f) l)) := V0 sz sz2 Q8f (fun l => Z4d sz2 l) l
structure X0 where
 b : List Int
 p : Int
 deriving Inhabited
def Q08 (x : X0) : List D := [(.slice 1 (List.map (rK .u8) x.b)), (eI x.p)]
@[simp] theorem W9v (x : X0) : Q08 x = [(.slice 1 (List.map (rK .u8) x.b)), (eI x.p)] := rfl
theorem Z62 (x : X0) : ∀ d ∈ Q08 x, Free d := by simp
@[simp] theorem Z5v (sz : Nat) (l : List X0) : Free (.slice sz (List.map Q08 l)) := X1 (Q7 Z62 l)
@[simp] theorem X63 (sz : Nat) (l : List X0) (rows : List (List D)) (h : ∀ row ∈ rows, ∀ d ∈ row, Free d) : Free (.slice sz (List.map Q08 l ++ rows)) := Y7 Z62 l h
@[simp] theorem X6a (sz sz2 : Nat) (l : List (List X0)) : Free (.slice sz (List.map (rL sz2 Q08) l)) := V0 sz sz2 Q08 (fun l => Z5v sz2 l) l
structure Q8c where
 path : List Int
 kind : Q2
 deriving Inhabited
def Q5w (x : Q8c) : List D := [(.slice 1 (List.map rI x.path)), (eI x.kind.data), (eI x.kind.index)]
@[simp] theorem W3q (x : Q8c) : Q5w x = [(.slice 1 (List.map rI x.path)), (eI x.kind.data), (eI x.kind.index)] := rfl
theorem Q9w (x : Q8c) : ∀ d ∈ Q5w x, Free d := by simp
@[simp] theorem Z2a (sz : Nat) (l : List Q8c) : Free (.slice sz (List.map Q5w l)) := X1 (Q7 Q9w l)
@[simp] theorem X1c (sz : Nat) (l : List Q8c) (rows : List (List D)) (h : ∀ row ∈ rows, ∀ d ∈ row, Free d) : Free (.slice sz (List.map Q5w l ++ rows)) := Y7 Q9w l h
@[simp] theorem X1f (sz sz2 : Nat) (l : List (List Q8c)) : Free (.slice sz (List.map (rL sz2 Q5w) l)) := V0 sz sz2 Q5w (fun l => Z2a sz2 l) l
structure Z8g where
 clause : Int
 pats : List Q0
 binds : List Q5t
 deriving Inhabited
def Z10 (x : Z8g) : List D := [(eI x.clause), (.slice 6 (List.map Q1 x.pats)), (.slice 2 (List.map Q1l x.binds))]
@[simp] theorem W9u (x : Z8g) : Z10 x = [(eI x.clause), (.slice 6 (List.map Q1 x.pats)), (.slice 2 (List.map Q1l x.binds))] := rfl
theorem Z61 (x : Z8g) : ∀ d ∈ Z10 x, Free d := by simp
@[simp] theorem Z5u (sz : Nat) (l : List Z8g) : Free (.slice sz (List.map Z10 l)) := X1 (Q7 Z61 l)
@[simp] theorem X62 (sz : Nat) (l : List Z8g) (rows : List (List D)) (h : ∀ row ∈ rows, ∀ d ∈ row, Free d) : Free (.slice sz (List.map Z10 l ++ rows)) := Y7 Z61 l h
@[simp] theorem X69 (sz sz2 : Nat) (l : List (List Z8g)) : Free (.slice sz (List.map (rL sz2 Z10) l)) := V0 sz sz2 Z10 (fun l => Z5u sz2 l) l
structure Q8 where
 var : Int
 typ : Q2
 deriving Inhabited
def W9 (x : Q8) : List D := [(eI x.var), (eI x.typ.data), (eI x.typ.index)]
@[simp] theorem W6l (x : Q8) : W9 x = [(eI x.var), (eI x.typ.data), (eI x.typ.index)] := rfl
theorem Q52 (x : Q8) : ∀ d ∈ W9 x, Free d := by simp
@[simp] theorem Z35 (sz : Nat) (l : List Q8) : Free (.slice sz (List.map W9 l)) := X1 (Q7 Q52 l)
@[simp] theorem X2h (sz : Nat) (l : List Q8) (rows : List (List D)) (h : ∀ row ∈ rows, ∀ d ∈ row, Free d) : Free (.slice sz (List.map W9 l ++ rows)) := Y7 Q52 l h
@[simp] theorem X2k (sz sz2 : Nat) (l : List (List Q8)) : Free (.slice sz (List.map (rL sz2 W9) l)) := V0 sz sz2 W9 (fun l => Z35 sz2 l) l
end Go.Proofs.YtnackipaoepmfaaGreat
