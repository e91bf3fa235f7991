import Derived.Test.YtbdkbdafhlcilaaGreatCJE1
set_option linter.unusedSimpArgs false
set_option linter.unusedVariables false
namespace Go.Proofs.YtbdkbdafhlcilaaGreat
open Go Go.RowKit
theorem Q9 {α : Type} {f : α → List D} (h : ∀ x, ∀ d ∈ f x, Free d) (l : List α) : ∀ row ∈ List.map f l, ∀ d ∈ row, Free d := fun row hr d hd => by
 simp only [List.mem_map] at hr
 obtain ⟨x, _, rfl⟩ := hr
 exact h x d hd
abbrev eI (n : Int) : D := .val (.int .i64 n)
abbrev eB (b : Bool) : D := .val (.bool b)
abbrev eS (s : ByteArray) : D := .val (.string s)
abbrev cI : Int → D := fun n => .val (.int .i64 n)
abbrev cB : Bool → D := fun n => .val (.bool n)
def rI (n : Int) : List D := [eI n]
def rK (k : IntKind) (n : Int) : List D := [.val (.int k n)]
def rB (n : Bool) : List D := [eB n]
def rS (n : ByteArray) : List D := [eS n]
def rL {α : Type} (sz : Nat) (r : α → List D) (l : List α) : List D := [.slice sz (List.map r l)]
@[simp] theorem rI_eq (n : Int) : rI n = [eI n] := rfl
@[simp] theorem W09 (sz : Nat) (l : List Int) : Free (.slice sz (List.map (rI) l)) := W9 (fun row hr d hd => by simp only [List.mem_map] at hr; obtain ⟨x, _, rfl⟩ := hr; simp at hd; subst hd; exact Q4l _)
@[simp] theorem rK_eq (k : IntKind) (n : Int) : rK k n = [.val (.int k n)] := rfl
@[simp] theorem V37 (k : IntKind) (sz : Nat) (l : List Int) : Free (.slice sz (List.map (rK k) l)) := W9 (fun row hr d hd => by simp only [List.mem_map] at hr; obtain ⟨x, _, rfl⟩ := hr; simp at hd; subst hd; exact Q4l _)
@[simp] theorem rB_eq (n : Bool) : rB n = [eB n] := rfl
@[simp] theorem W0a (sz : Nat) (l : List Bool) : Free (.slice sz (List.map (rB) l)) := W9 (fun row hr d hd => by simp only [List.mem_map] at hr; obtain ⟨x, _, rfl⟩ := hr; simp at hd; subst hd; exact Q4l _)
@[simp] theorem Y11 (n : ByteArray) : rS n = [eS n] := rfl
@[simp] theorem W03 (sz : Nat) (l : List ByteArray) : Free (.slice sz (List.map (rS) l)) := W9 (fun row hr d hd => by simp only [List.mem_map] at hr; obtain ⟨x, _, rfl⟩ := hr; simp at hd; subst hd; exact Q4l _)
@[simp] theorem rL_eq {α : Type} (sz : Nat) (r : α → List D) (l : List α) : rL sz r l = [.slice sz (List.map r l)] := rfl
theorem Q01 {α : Type} (sz sz2 : Nat) (r : α → List D) (h : ∀ l, Free (.slice sz2 (List.map r l))) (l : List (List α)) : Free (.slice sz (List.map (rL sz2 r) l)) := W9 (fun row hr d hd => by simp only [List.mem_map] at hr; obtain ⟨x, _, rfl⟩ := hr; simp at hd; subst hd; exact h x)
@[simp] theorem V05 (sz : Nat) (row : List D) (rows : List (List D)) (h : ∀ r ∈ row :: rows, ∀ d ∈ r, Free d) : Free (.slice sz (row :: rows)) := W9 h
@[simp] theorem V1v (sz : Nat) : Free (.slice sz []) := W9 (fun _ h => by simp at h)
@[simp] theorem V39 {ds : List D} (h : ∀ d ∈ ds, Free d) : Free (.agg ds) := Z60 h
@[simp] theorem V36 {ds : List D} (h : ∀ d ∈ ds, Free d) : Free (.tup ds) := W86 h
@[simp] theorem V1y {ds : List D} (h : ∀ d ∈ ds, Free d) : Free (.cptr ds) := X3h h
@[simp] theorem V1z {f : FuncId} {ds : List D} (h : ∀ d ∈ ds, Free d) : Free (.clos f ds) := X3i h
@[simp] theorem V38 : Free .any := W8b
theorem Q0o {sz : Nat} {α : Type} {r : α → List D} (hr : ∀ x, ∀ d ∈ r x, Free d) (xs : List α) {rows : List (List D)} (h : ∀ row ∈ rows, ∀ d ∈ row, Free d) : Free (.slice sz (List.map r xs ++ rows)) := X5u hr h
@[simp] theorem V20 (l : List Int) : Free (.agg (List.map cI l)) := Z60 fun d h => by simp only [List.mem_map] at h; obtain ⟨x, _, rfl⟩ := h; exact Q4l _
@[simp] theorem V21 (l : List Bool) : Free (.agg (List.map cB l)) := Z60 fun d h => by simp only [List.mem_map] at h; obtain ⟨x, _, rfl⟩ := h; exact Q4l _
@[simp] theorem V1w (l : List Int) : ∀ d ∈ List.map cI l, Free d := fun d h => by simp only [List.mem_map] at h; obtain ⟨x, _, rfl⟩ := h; exact Q4l _
@[simp] theorem V1x (l : List Bool) : ∀ d ∈ List.map cB l, Free d := fun d h => by simp only [List.mem_map] at h; obtain ⟨x, _, rfl⟩ := h; exact Q4l _
@[simp] theorem W88 (sz sz2 : Nat) (l : List (List Int)) : Free (.slice sz (List.map (rL sz2 rI) l)) := Q01 sz sz2 rI (fun l => W09 sz2 l) l
@[simp] theorem W87 (sz sz2 : Nat) (l : List (List ByteArray)) : Free (.slice sz (List.map (rL sz2 rS) l)) := Q01 sz sz2 rS (fun l => W03 sz2 l) l
@[simp] theorem W89 (sz sz2 : Nat) (l : List (List Bool)) : Free (.slice sz (List.map (rL sz2 rB) l)) := Q01 sz sz2 rB (fun l => W0a sz2 l) l
structure Q2 where
 data : Int
 index : Int
 deriving Inhabited
def Z6 (x : Q2) : List D := [(eI x.data), (eI x.index)]
@[simp] theorem V63 (x : Q2) : Z6 x = [(eI x.data), (eI x.index)] := rfl
theorem Q9x (x : Q2) : ∀ d ∈ Z6 x, Free d := by simp
@[simp] theorem Z8j (sz : Nat) (l : List Q2) : Free (.slice sz (List.map Z6 l)) := W9 (Q9 Q9x l)
@[simp] theorem X9y (sz : Nat) (l : List Q2) (rows : List (List D)) (h : ∀ row ∈ rows, ∀ d ∈ row, Free d) : Free (.slice sz (List.map Z6 l ++ rows)) := Q0o Q9x l h
@[simp] theorem W04 (sz sz2 : Nat) (l : List (List Q2)) : Free (.slice sz (List.map (rL sz2 Z6) l)) := Q01 sz sz2 Z6 (fun l => Z8j sz2 l) l
structure Q6s where
 var : Int
 path : List Int
 deriving Inhabited
def Q28 (x : Q6s) : List D := [(eI x.var), (.slice 1 (List.map rI x.path))]
@[simp] theorem W6k (x : Q6s) : Q28 x = [(eI x.var), (.slice 1 (List.map rI x.path))] := rfl
theorem Z0z (x : Q6s) : ∀ d ∈ Q28 x, Free d := by simp
@[simp] theorem Z3k (sz : Nat) (l : List Q6s) : Free (.slice sz (List.map Q28 l)) := W9 (Q9 Z0z l)
@[simp] theorem X3e (sz : Nat) (l : List Q6s) (rows : List (List D)) (h : ∀ row ∈ rows, ∀ d ∈ row, Free d) : Free (.slice sz (List.map Q28 l ++ rows)) := Q0o Z0z l h
@[simp] theorem X3g (sz sz2 : Nat) (l : List (List Q6s)) : Free (.slice sz (List.map (rL sz2 Q28) l)) := Q01 sz sz2 Q28 (fun l => Z3k sz2 l) l
mutual
structure Q8x where
 ctor : Int
 n : Int
 m : Int
 tree : Z84
structure Z84 where
 op : Int
 clause : Int
 binds : List Q6s
 path : List Int
 branches : List Q8x
 else_ : List Z84
end
instance : Inhabited Z84 := ⟨⟨default, default, [], [], [], []⟩⟩
instance : Inhabited Q8x := ⟨⟨default, default, default, default⟩⟩
mutual
def Q5d : Q8x → List D
 | ⟨ctor, n, m, tree⟩ => [(eI ctor), (eI n), (eI m)] ++ Q8i tree
def Q74 : List Q8x → List (List D)
 | [] => []
 | x :: l => Q5d x :: Q74 l
def Q8i : Z84 → List D
 | ⟨op, clause, binds, path, branches, else_⟩ => [(eI op), (eI clause), (.slice 2 (List.map Q28 binds)), (.slice 1 (List.map rI path)), .slice 9 (Q74 branches), .slice 6 (Z0m else_)]
def Z0m : List Z84 → List (List D)
 | [] => []
 | x :: l => Q8i x :: Z0m l
end
theorem Q9k : ∀ l, Q74 l = List.map Q5d l
 | [] => by simp [Q74]
 | x :: l => by simp [Q74, Q9k l]
theorem Z2a : ∀ l, Z0m l = List.map Q8i l
 | [] => by simp [Z0m]
 | x :: l => by simp [Z0m, Z2a l]
@[simp] theorem V64 (x : Z84) : Q8i x = [(eI x.op), (eI x.clause), (.slice 2 (List.map Q28 x.binds)), (.slice 1 (List.map rI x.path)), (.slice 9 (List.map Q5d x.branches)), (.slice 6 (List.map Q8i x.else_))] := by cases x; simp [Q8i, Q9k, Z2a]
@[simp] theorem V13 (x : Q8x) : Q5d x = [(eI x.ctor), (eI x.n), (eI x.m), (eI x.tree.op), (eI x.tree.clause), (.slice 2 (List.map Q28 x.tree.binds)), (.slice 1 (List.map rI x.tree.path)), (.slice 9 (List.map Q5d x.tree.branches)), (.slice 6 (List.map Q8i x.tree.else_))] := by cases x; simp [Q5d, Q9k, Z2a]
mutual
theorem Z1g : ∀ (x : Q8x), ∀ d ∈ Q5d x, Free d
 | ⟨ctor, n, m, tree⟩, d, h => by
  rw [Q5d] at h
  simp only [List.mem_append] at h
  rcases h with h | h
  ·simp only [List.mem_cons, List.not_mem_nil, or_false] at h
   rcases h with rfl | rfl | rfl
   ·simp
   ·simp
   ·simp
  ·exact Z3l tree d h
theorem Z7d : ∀ (l : List Q8x), ∀ row ∈ Q74 l, ∀ d ∈ row, Free d
 | [], row, h, _, _ => by simp [Q74] at h
 | p :: l, row, h, d, hd => by
  rw [Q74, List.mem_cons] at h
  rcases h with rfl | h
  ·exact Z1g p d hd
  ·exact Z7d l row h d hd
theorem Z3l : ∀ (x : Z84), ∀ d ∈ Q8i x, Free d
 | ⟨op, clause, binds, path, branches, else_⟩, d, h => by
  rw [Q8i] at h
  simp only [List.mem_cons, List.not_mem_nil, or_false] at h
  rcases h with rfl | rfl | rfl | rfl | rfl | rfl
  ·simp
  ·simp
  ·simp
  ·simp
  ·exact W9 (Z7d branches)
  ·exact W9 (X3j else_)
theorem X3j : ∀ (l : List Z84), ∀ row ∈ Z0m l, ∀ d ∈ row, Free d
 | [], row, h, _, _ => by simp [Z0m] at h
 | p :: l, row, h, d, hd => by
  rw [Z0m, List.mem_cons] at h
  rcases h with rfl | h
  ·exact Z3l p d hd
  ·exact X3j l row h d hd
end
@[simp] theorem Z5n (sz : Nat) (l : List Q8x) : Free (.slice sz (List.map Q5d l)) := W9 (Q9 Z1g l)
@[simp] theorem X5p (sz : Nat) (l : List Q8x) (rows : List (List D)) (h : ∀ row ∈ rows, ∀ d ∈ row, Free d) : Free (.slice sz (List.map Q5d l ++ rows)) := Q0o Z1g l h
@[simp] theorem X5t (sz sz2 : Nat) (l : List (List Q8x)) : Free (.slice sz (List.map (rL sz2 Q5d) l)) := Q01 sz sz2 Q5d (fun l => Z5n sz2 l) l
@[simp] theorem Z8k (sz : Nat) (l : List Z84) : Free (.slice sz (List.map Q8i l)) := W9 (Q9 Z3l l)
@[simp] theorem X9z (sz : Nat) (l : List Z84) (rows : List (List D)) (h : ∀ row ∈ rows, ∀ d ∈ row, Free d) : Free (.slice sz (List.map Q8i l ++ rows)) := Q0o Z3l l h
@[simp] theorem W05 (sz sz2 : Nat) (l : List (List Z84)) : Free (.slice sz (List.map (rL sz2 Q8i) l)) := Q01 sz sz2 Q8i (fun l => Z8k sz2 l) l
structure Q4 where
 ctor : Int
 n : Int
 kids : List Q4
 deriving Inhabited
mutual
def W3 : Q4 → List D
 | ⟨ctor, n, kids⟩ => [(eI ctor), (eI n), .slice 3 (Q8h kids)]
def Q8h : List Q4 → List (List D)
 | [] => []
 | x :: l => W3 x :: Q8h l
end
theorem Z50 : ∀ l, Q8h l = List.map W3 l
 | [] => by simp [Q8h]
 | x :: l => by simp [Q8h, Z50 l]
@[simp] theorem X90 (x : Q4) : W3 x = [(eI x.ctor), (eI x.n), (.slice 3 (List.map W3 x.kids))] := by cases x; simp [W3, Z50]
mutual
theorem Q7a : ∀ (x : Q4), ∀ d ∈ W3 x, Free d
 | ⟨ctor, n, kids⟩, d, h => by
  simp only [W3, List.mem_cons, List.not_mem_nil, or_false] at h
  rcases h with rfl | rfl | rfl
  ·simp
  ·simp
  ·exact W9 (Z9m kids)
theorem Z9m : ∀ (l : List Q4), ∀ row ∈ Q8h l, ∀ d ∈ row, Free d
 | [], row, h, _, _ => by simp [Q8h] at h
 | p :: l, row, h, d, hd => by
  rw [Q8h, List.mem_cons] at h
  rcases h with rfl | h
  ·exact Q7a p d hd
  ·exact Z9m l row h d hd
end
@[simp] theorem Z78 (sz : Nat) (l : List Q4) : Free (.slice sz (List.map W3 l)) := W9 (Q9 Q7a l)
@[simp] theorem X81 (sz : Nat) (l : List Q4) (rows : List (List D)) (h : ∀ row ∈ rows, ∀ d ∈ row, Free d) : Free (.slice sz (List.map W3 l ++ rows)) := Q0o Q7a l h
@[simp] theorem X85 (sz sz2 : Nat) (l : List (List Q4)) : Free (.slice sz (List.map (rL sz2 W3) l)) := Q01 sz sz2 W3 (fun l => Z78 sz2 l) l
structure Q0 where
 op : Int
 ctor : Int
 n : Int
 m : Int
 var : Int
 kids : List Q0
 deriving Inhabited
mutual
def Q1 : Q0 → List D
 | ⟨op, ctor, n, m, var, kids⟩ => [(eI op), (eI ctor), (eI n), (eI m), (eI var), .slice 6 (Q68 kids)]
def Q68 : List Q0 → List (List D)
 | [] => []
 | x :: l => Q1 x :: Q68 l
end
theorem Z1z : ∀ l, Q68 l = List.map Q1 l
 | [] => by simp [Q68]
 | x :: l => by simp [Q68, Z1z l]
@[simp] theorem X2l (x : Q0) : Q1 x = [(eI x.op), (eI x.ctor), (eI x.n), (eI x.m), (eI x.var), (.slice 6 (List.map Q1 x.kids))] := by cases x; simp [Q1, Z1z]
mutual
theorem Q5a : ∀ (x : Q0), ∀ d ∈ Q1 x, Free d
 | ⟨op, ctor, n, m, var, kids⟩, d, h => by
  simp only [Q1, List.mem_cons, List.not_mem_nil, or_false] at h
  rcases h with rfl | rfl | rfl | rfl | rfl | rfl
  ·simp
  ·simp
  ·simp
  ·simp
  ·simp
  ·exact W9 (Z55 kids)
theorem Z55 : ∀ (l : List Q0), ∀ row ∈ Q68 l, ∀ d ∈ row, Free d
 | [], row, h, _, _ => by simp [Q68] at h
 | p :: l, row, h, d, hd => by
  rw [Q68, List.mem_cons] at h
  rcases h with rfl | h
  ·exact Q5a p d hd
  ·exact Z55 l row h d hd
end
@[simp] theorem Z4d (sz : Nat) (l : List Q0) : Free (.slice sz (List.map Q1 l)) := W9 (Q9 Q5a l)
@[simp] theorem X4f (sz : Nat) (l : List Q0) (rows : List (List D)) (h : ∀ row ∈ rows, ∀ d ∈ row, Free d) : Free (.slice sz (List.map Q1 l ++ rows)) := Q0o Q5a l h
@[simp] theorem X4h (sz sz2 : Nat) (l : List (List Q0)) : Free (.slice sz (List.map (rL sz2 Q1) l)) := Q01 sz sz2 Q1 (fun l => Z4d sz2 l) l
structure Grow where
 clause : Int
 pats : List Q0
 binds : List Q6s
 deriving Inhabited
def X4y (x : Grow) : List D := [(eI x.clause), (.slice 6 (List.map Q1 x.pats)), (.slice 2 (List.map Q28 x.binds))]
@[simp] theorem V8w (x : Grow) : X4y x = [(eI x.clause), (.slice 6 (List.map Q1 x.pats)), (.slice 2 (List.map Q28 x.binds))] := rfl
theorem X5v (x : Grow) : ∀ d ∈ X4y x, Free d := by simp
@[simp] theorem X0p (sz : Nat) (l : List Grow) : Free (.slice sz (List.map X4y l)) := W9 (Q9 X5v l)
@[simp] theorem W14 (sz : Nat) (l : List Grow) (rows : List (List D)) (h : ∀ row ∈ rows, ∀ d ∈ row, Free d) : Free (.slice sz (List.map X4y l ++ rows)) := Q0o X5v l h
@[simp] theorem W15 (sz sz2 : Nat) (l : List (List Grow)) : Free (.slice sz (List.map (rL sz2 X4y) l)) := Q01 sz sz2 X4y (fun l => X0p sz2 l) l
structure Q2z where
 op : Int
 var : Int
 n : Int
 deriving Inhabited
def Q7g (x : Q2z) : List D := [(eI x.op), (eI x.var), (eI x.n)]
@[simp] theorem V32 (x : Q2z) : Q7g x = [(eI x.op), (eI x.var), (eI x.n)] := rfl
theorem Z7c (x : Q2z) : ∀ d ∈ Q7g x, Free d := by simp
@[simp] theorem Z79 (sz : Nat) (l : List Q2z) : Free (.slice sz (List.map Q7g l)) := W9 (Q9 Z7c l)
@[simp] theorem X82 (sz : Nat) (l : List Q2z) (rows : List (List D)) (h : ∀ row ∈ rows, ∀ d ∈ row, Free d) : Free (.slice sz (List.map Q7g l ++ rows)) := Q0o Z7c l h
@[simp] theorem X86 (sz sz2 : Nat) (l : List (List Q2z)) : Free (.slice sz (List.map (rL sz2 Q7g) l)) := Q01 sz sz2 Q7g (fun l => Z79 sz2 l) l
structure Q5 where
 pat : Q0
 guard : Q2z
 deriving Inhabited
def X5 (x : Q5) : List D := [(eI x.pat.op), (eI x.pat.ctor), (eI x.pat.n), (eI x.pat.m), (eI x.pat.var), (.slice 6 (List.map Q1 x.pat.kids)), (eI x.guard.op), (eI x.guard.var), (eI x.guard.n)]
@[simp] theorem X4z (x : Q5) : X5 x = [(eI x.pat.op), (eI x.pat.ctor), (eI x.pat.n), (eI x.pat.m), (eI x.pat.var), (.slice 6 (List.map Q1 x.pat.kids)), (eI x.guard.op), (eI x.guard.var), (eI x.guard.n)] := rfl
theorem Q6z (x : Q5) : ∀ d ∈ X5 x, Free d := by simp
@[simp] theorem Z5m (sz : Nat) (l : List Q5) : Free (.slice sz (List.map X5 l)) := W9 (Q9 Q6z l)
@[simp] theorem X5o (sz : Nat) (l : List Q5) (rows : List (List D)) (h : ∀ row ∈ rows, ∀ d ∈ row, Free d) : Free (.slice sz (List.map X5 l ++ rows)) := Q0o Q6z l h
@[simp] theorem X5s (sz sz2 : Nat) (l : List (List Q5)) : Free (.slice sz (List.map (rL sz2 X5) l)) := Q01 sz sz2 X5 (fun l => Z5m sz2 l) l
structure Q7d where
 name : ByteArray
 args : List Q2
 index : Int
 deriving Inhabited
def Q6i (x : Q7d) : List D := [(eS x.name), (.slice 2 (List.map Z6 x.args)), (eI x.index)]
@[simp] theorem W2f (x : Q7d) : Q6i x = [(eS x.name), (.slice 2 (List.map Z6 x.args)), (eI x.index)] := rfl
theorem Q9z (x : Q7d) : ∀ d ∈ Q6i x, Free d := by simp
@[simp] theorem Z8m (sz : Nat) (l : List Q7d) : Free (.slice sz (List.map Q6i l)) := W9 (Q9 Q9z l)
@[simp] theorem W01 (sz : Nat) (l : List Q7d) (rows : List (List D)) (h : ∀ row ∈ rows, ∀ d ∈ row, Free d) : Free (.slice sz (List.map Q6i l ++ rows)) := Q0o Q9z l h
@[simp] theorem W07 (sz sz2 : Nat) (l : List (List Q7d)) : Free (.slice sz (List.map (rL sz2 Q6i) l)) := Q01 sz sz2 Q6i (fun l => Z8m sz2 l) l
structure Q3 where
 name : ByteArray
 ctors : List Q7d
 deriving Inhabited
def X2 (x : Q3) : List D := [(eS x.name), (.slice 3 (List.map Q6i x.ctors))]
@[simp] theorem W2e (x : Q3) : X2 x = [(eS x.name), (.slice 3 (List.map Q6i x.ctors))] := rfl
theorem Q9y (x : Q3) : ∀ d ∈ X2 x, Free d := by simp
@[simp] theorem Z8l (sz : Nat) (l : List Q3) : Free (.slice sz (List.map X2 l)) := W9 (Q9 Q9y l)
@[simp] theorem W00 (sz : Nat) (l : List Q3) (rows : List (List D)) (h : ∀ row ∈ rows, ∀ d ∈ row, Free d) : Free (.slice sz (List.map X2 l ++ rows)) := Q0o Q9y l h
@[simp] theorem W06 (sz sz2 : Nat) (l : List (List Q3)) : Free (.slice sz (List.map (rL sz2 X2) l)) := Q01 sz sz2 X2 (fun l => Z8l sz2 l) l
structure Q13 where
 w : List Q3
 d : List Int
 deriving Inhabited
def Q1v (x : Q13) : List D := [(.slice 2 (List.map X2 x.w)), (.cptr (List.map cI x.d))]
@[simp] theorem V11 (x : Q13) : Q1v x = [(.slice 2 (List.map X2 x.w)), (.cptr (List.map cI x.d))] := rfl
theorem Z4e (x : Q13) : ∀ d ∈ Q1v x, Free d := by simp
@[simp] theorem Z5k (sz : Nat) (l : List Q13) : Free (.slice sz (List.map Q1v l)) := W9 (Q9 Z4e l)
@[simp] theorem X5m (sz : Nat) (l : List Q13) (rows : List (List D)) (h : ∀ row ∈ rows, ∀ d ∈ row, Free d) : Free (.slice sz (List.map Q1v l ++ rows)) := Q0o Z4e l h
@[simp] theorem X5q (sz sz2 : Nat) (l : List (List Q13)) : Free (.slice sz (List.map (rL sz2 Q1v) l)) := Q01 sz sz2 Q1v (fun l => Z5k sz2 l) l
structure Q7x where
 spaces : Q13
 list : List Q5
 pick : Int
 count : Int
 deriving Inhabited
def Q65 (x : Q7x) : List D := [(.cptr (Q1v x.spaces)), (.slice 9 (List.map X5 x.list)), (eI x.pick), (eI x.count)]
@[simp] theorem W51 (x : Q7x) : Q65 x = [(.cptr (Q1v x.spaces)), (.slice 9 (List.map X5 x.list)), (eI x.pick), (eI x.count)] := rfl
theorem Q9w (x : Q7x) : ∀ d ∈ Q65 x, Free d := by simp
@[simp] theorem Z2g (sz : Nat) (l : List Q7x) : Free (.slice sz (List.map Q65 l)) := W9 (Q9 Q9w l)
@[simp] theorem X1o (sz : Nat) (l : List Q7x) (rows : List (List D)) (h : ∀ row ∈ rows, ∀ d ∈ row, Free d) : Free (.slice sz (List.map Q65 l ++ rows)) := Q0o Q9w l h
@[simp] theorem X1p (sz sz2 : Nat) (l : List (List Q7x)) : Free (.slice sz (List.map (rL sz2 Q65) l)) := Q01 sz sz2 Q65 (fun l => Z2g sz2 l) l
structure Z4n where
 path : List Int
 t : Q2
 deriving Inhabited
def Q9j (x : Z4n) : List D := [(.slice 1 (List.map rI x.path)), (eI x.t.data), (eI x.t.index)]
@[simp] theorem V12 (x : Z4n) : Q9j x = [(.slice 1 (List.map rI x.path)), (eI x.t.data), (eI x.t.index)] := rfl
theorem Z4f (x : Z4n) : ∀ d ∈ Q9j x, Free d := by simp
@[simp] theorem Z5l (sz : Nat) (l : List Z4n) : Free (.slice sz (List.map Q9j l)) := W9 (Q9 Z4f l)
@[simp] theorem X5n (sz : Nat) (l : List Z4n) (rows : List (List D)) (h : ∀ row ∈ rows, ∀ d ∈ row, Free d) : Free (.slice sz (List.map Q9j l ++ rows)) := Q0o Z4f l h
@[simp] theorem X5r (sz sz2 : Nat) (l : List (List Z4n)) : Free (.slice sz (List.map (rL sz2 Q9j) l)) := Q01 sz sz2 Q9j (fun l => Z5l sz2 l) l
structure X3 where
 var : Int
 value : Q4
 deriving Inhabited
def Q0w (x : X3) : List D := [(eI x.var), (eI x.value.ctor), (eI x.value.n), (.slice 3 (List.map W3 x.value.kids))]
@[simp] theorem V65 (x : X3) : Q0w x = [(eI x.var), (eI x.value.ctor), (eI x.value.n), (.slice 3 (List.map W3 x.value.kids))] := rfl
theorem Z00 (x : X3) : ∀ d ∈ Q0w x, Free d := by simp
@[simp] theorem Z8n (sz : Nat) (l : List X3) : Free (.slice sz (List.map Q0w l)) := W9 (Q9 Z00 l)
@[simp] theorem W02 (sz : Nat) (l : List X3) (rows : List (List D)) (h : ∀ row ∈ rows, ∀ d ∈ row, Free d) : Free (.slice sz (List.map Q0w l ++ rows)) := Q0o Z00 l h
@[simp] theorem W08 (sz sz2 : Nat) (l : List (List X3)) : Free (.slice sz (List.map (rL sz2 Q0w) l)) := Q01 sz sz2 Q0w (fun l => Z8n sz2 l) l
structure Z0 where
 b : List Int
 p : Int
 deriving Inhabited
def V4 (x : Z0) : List D := [(.slice 1 (List.map (rK .u8) x.b)), (eI x.p)]
@[simp] theorem V31 (x : Z0) : V4 x = [(.slice 1 (List.map (rK .u8) x.b)), (eI x.p)] := rfl
theorem Z7b (x : Z0) : ∀ d ∈ V4 x, Free d := by simp
@[simp] theorem Z77 (sz : Nat) (l : List Z0) : Free (.slice sz (List.map V4 l)) := W9 (Q9 Z7b l)
@[simp] theorem X80 (sz : Nat) (l : List Z0) (rows : List (List D)) (h : ∀ row ∈ rows, ∀ d ∈ row, Free d) : Free (.slice sz (List.map V4 l ++ rows)) := Q0o Z7b l h
@[simp] theorem X84 (sz sz2 : Nat) (l : List (List Z0)) : Free (.slice sz (List.map (rL sz2 V4) l)) := Q01 sz sz2 V4 (fun l => Z77 sz2 l) l
structure Q9b where
 path : List Int
 kind : Q2
 deriving Inhabited
def Q6u (x : Q9b) : List D := [(.slice 1 (List.map rI x.path)), (eI x.kind.data), (eI x.kind.index)]
@[simp] theorem W6j (x : Q9b) : Q6u x = [(.slice 1 (List.map rI x.path)), (eI x.kind.data), (eI x.kind.index)] := rfl
theorem Z0y (x : Q9b) : ∀ d ∈ Q6u x, Free d := by simp
@[simp] theorem Z3j (sz : Nat) (l : List Q9b) : Free (.slice sz (List.map Q6u l)) := W9 (Q9 Z0y l)
@[simp] theorem X3d (sz : Nat) (l : List Q9b) (rows : List (List D)) (h : ∀ row ∈ rows, ∀ d ∈ row, Free d) : Free (.slice sz (List.map Q6u l ++ rows)) := Q0o Z0y l h
@[simp] theorem X3f (sz sz2 : Nat) (l : List (List Q9b)) : Free (.slice sz (List.map (rL sz2 Q6u) l)) := Q01 sz sz2 Q6u (fun l => Z3j sz2 l) l
structure Z9v where
 clause : Int
 pats : List Q0
 binds : List Q6s
 deriving Inhabited
def Z29 (x : Z9v) : List D := [(eI x.clause), (.slice 6 (List.map Q1 x.pats)), (.slice 2 (List.map Q28 x.binds))]
@[simp] theorem V30 (x : Z9v) : Z29 x = [(eI x.clause), (.slice 6 (List.map Q1 x.pats)), (.slice 2 (List.map Q28 x.binds))] := rfl
theorem Z7a (x : Z9v) : ∀ d ∈ Z29 x, Free d := by simp
@[simp] theorem Z76 (sz : Nat) (l : List Z9v) : Free (.slice sz (List.map Z29 l)) := W9 (Q9 Z7a l)
@[simp] theorem X7z (sz : Nat) (l : List Z9v) (rows : List (List D)) (h : ∀ row ∈ rows, ∀ d ∈ row, Free d) : Free (.slice sz (List.map Z29 l ++ rows)) := Q0o Z7a l h
@[simp] theorem X83 (sz sz2 : Nat) (l : List (List Z9v)) : Free (.slice sz (List.map (rL sz2 Z29) l)) := Q01 sz sz2 Z29 (fun l => Z76 sz2 l) l
structure Q8 where
 var : Int
 typ : Q2
 deriving Inhabited
def V5 (x : Q8) : List D := [(eI x.var), (eI x.typ.data), (eI x.typ.index)]
@[simp] theorem W9l (x : Q8) : V5 x = [(eI x.var), (eI x.typ.data), (eI x.typ.index)] := rfl
theorem Q66 (x : Q8) : ∀ d ∈ V5 x, Free d := by simp
@[simp] theorem Z4c (sz : Nat) (l : List Q8) : Free (.slice sz (List.map V5 l)) := W9 (Q9 Q66 l)
@[simp] theorem X4e (sz : Nat) (l : List Q8) (rows : List (List D)) (h : ∀ row ∈ rows, ∀ d ∈ row, Free d) : Free (.slice sz (List.map V5 l ++ rows)) := Q0o Q66 l h
@[simp] theorem X4g (sz sz2 : Nat) (l : List (List Q8)) : Free (.slice sz (List.map (rL sz2 V5) l)) := Q01 sz sz2 V5 (fun l => Z4c sz2 l) l
end Go.Proofs.YtbdkbdafhlcilaaGreat
