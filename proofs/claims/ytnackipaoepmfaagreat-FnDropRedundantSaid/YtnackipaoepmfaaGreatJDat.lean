import Derived.Test.YtnackipaoepmfaaGreatJE1
set_option linter.unusedSimpArgs false
set_option linter.unusedVariables false
namespace Go.Proofs.YtnackipaoepmfaaGreat
open Go Go.RowKit
theorem Q6 {α : Type} {f : α → List D} (h : ∀ x, ∀ d ∈ f x, Free d) (l : List α) : ∀ row ∈ List.map f l, ∀ d ∈ row, Free d := fun row hr d hd => by
 simp only [List.mem_map] at hr
 obtain ⟨x, _, rfl⟩ := hr
 exact h x d hd
abbrev eI (n : Int) : D := .val (.int .i64 n)
abbrev eB (b : Bool) : D := .val (.bool b)
abbrev eS (s : ByteArray) : D := .val (.string s)
abbrev cI : Int → D := fun n => .val (.int .i64 n)
abbrev cB : Bool → D := fun n => .val (.bool n)
def rI (n : Int) : List D := [eI n]
def rK (k : IntKind) (n : Int) : List D := [.val (.int k n)]
def rB (n : Bool) : List D := [eB n]
def rS (n : ByteArray) : List D := [eS n]
def rL {α : Type} (sz : Nat) (r : α → List D) (l : List α) : List D := [.slice sz (List.map r l)]
@[simp] theorem rI_eq (n : Int) : rI n = [eI n] := rfl
@[simp] theorem X9c (sz : Nat) (l : List Int) : Free (.slice sz (List.map (rI) l)) := Z8 (fun row hr d hd => by simp only [List.mem_map] at hr; obtain ⟨x, _, rfl⟩ := hr; simp at hd; subst hd; exact Q3o _)
@[simp] theorem rK_eq (k : IntKind) (n : Int) : rK k n = [.val (.int k n)] := rfl
@[simp] theorem V1c (k : IntKind) (sz : Nat) (l : List Int) : Free (.slice sz (List.map (rK k) l)) := Z8 (fun row hr d hd => by simp only [List.mem_map] at hr; obtain ⟨x, _, rfl⟩ := hr; simp at hd; subst hd; exact Q3o _)
@[simp] theorem rB_eq (n : Bool) : rB n = [eB n] := rfl
@[simp] theorem X9d (sz : Nat) (l : List Bool) : Free (.slice sz (List.map (rB) l)) := Z8 (fun row hr d hd => by simp only [List.mem_map] at hr; obtain ⟨x, _, rfl⟩ := hr; simp at hd; subst hd; exact Q3o _)
@[simp] theorem V95 (n : ByteArray) : rS n = [eS n] := rfl
@[simp] theorem X96 (sz : Nat) (l : List ByteArray) : Free (.slice sz (List.map (rS) l)) := Z8 (fun row hr d hd => by simp only [List.mem_map] at hr; obtain ⟨x, _, rfl⟩ := hr; simp at hd; subst hd; exact Q3o _)
@[simp] theorem rL_eq {α : Type} (sz : Nat) (r : α → List D) (l : List α) : rL sz r l = [.slice sz (List.map r l)] := rfl
theorem V1 {α : Type} (sz sz2 : Nat) (r : α → List D) (h : ∀ l, Free (.slice sz2 (List.map r l))) (l : List (List α)) : Free (.slice sz (List.map (rL sz2 r) l)) := Z8 (fun row hr d hd => by simp only [List.mem_map] at hr; obtain ⟨x, _, rfl⟩ := hr; simp at hd; subst hd; exact h x)
@[simp] theorem W8e (sz : Nat) (row : List D) (rows : List (List D)) (h : ∀ r ∈ row :: rows, ∀ d ∈ r, Free d) : Free (.slice sz (row :: rows)) := Z8 h
@[simp] theorem W9x (sz : Nat) : Free (.slice sz []) := Z8 (fun _ h => by simp at h)
@[simp] theorem V1e {ds : List D} (h : ∀ d ∈ ds, Free d) : Free (.agg ds) := Z55 h
@[simp] theorem V1b {ds : List D} (h : ∀ d ∈ ds, Free d) : Free (.tup ds) := W6j h
@[simp] theorem V00 {ds : List D} (h : ∀ d ∈ ds, Free d) : Free (.cptr ds) := X2s h
@[simp] theorem V01 {f : FuncId} {ds : List D} (h : ∀ d ∈ ds, Free d) : Free (.clos f ds) := X2t h
@[simp] theorem V1d : Free .any := W6o
theorem Y6 {sz : Nat} {α : Type} {r : α → List D} (hr : ∀ x, ∀ d ∈ r x, Free d) (xs : List α) {rows : List (List D)} (h : ∀ row ∈ rows, ∀ d ∈ row, Free d) : Free (.slice sz (List.map r xs ++ rows)) := X5e hr h
@[simp] theorem V02 (l : List Int) : Free (.agg (List.map cI l)) := Z55 fun d h => by simp only [List.mem_map] at h; obtain ⟨x, _, rfl⟩ := h; exact Q3o _
@[simp] theorem V03 (l : List Bool) : Free (.agg (List.map cB l)) := Z55 fun d h => by simp only [List.mem_map] at h; obtain ⟨x, _, rfl⟩ := h; exact Q3o _
@[simp] theorem W9y (l : List Int) : ∀ d ∈ List.map cI l, Free d := fun d h => by simp only [List.mem_map] at h; obtain ⟨x, _, rfl⟩ := h; exact Q3o _
@[simp] theorem W9z (l : List Bool) : ∀ d ∈ List.map cB l, Free d := fun d h => by simp only [List.mem_map] at h; obtain ⟨x, _, rfl⟩ := h; exact Q3o _
@[simp] theorem W6l (sz sz2 : Nat) (l : List (List Int)) : Free (.slice sz (List.map (rL sz2 rI) l)) := V1 sz sz2 rI (fun l => X9c sz2 l) l
@[simp] theorem W6k (sz sz2 : Nat) (l : List (List ByteArray)) : Free (.slice sz (List.map (rL sz2 rS) l)) := V1 sz sz2 rS (fun l => X96 sz2 l) l
@[simp] theorem W6m (sz sz2 : Nat) (l : List (List Bool)) : Free (.slice sz (List.map (rL sz2 rB) l)) := V1 sz sz2 rB (fun l => X9d sz2 l) l
structure Q2 where
 data : Int
 index : Int
 deriving Inhabited
def Z5 (x : Q2) : List D := [(eI x.data), (eI x.index)]
@[simp] theorem V4i (x : Q2) : Z5 x = [(eI x.data), (eI x.index)] := rfl
theorem Q98 (x : Q2) : ∀ d ∈ Z5 x, Free d := by simp
@[simp] theorem Z7y (sz : Nat) (l : List Q2) : Free (.slice sz (List.map Z5 l)) := Z8 (Q6 Q98 l)
@[simp] theorem X91 (sz : Nat) (l : List Q2) (rows : List (List D)) (h : ∀ row ∈ rows, ∀ d ∈ row, Free d) : Free (.slice sz (List.map Z5 l ++ rows)) := Y6 Q98 l h
@[simp] theorem X97 (sz sz2 : Nat) (l : List (List Q2)) : Free (.slice sz (List.map (rL sz2 Z5) l)) := V1 sz sz2 Z5 (fun l => Z7y sz2 l) l
structure Q5 where
 ctor : Int
 n : Int
 kids : List Q5
 deriving Inhabited
mutual
def V2 : Q5 → List D
 | ⟨ctor, n, kids⟩ => [(eI ctor), (eI n), .slice 3 (Q7o kids)]
def Q7o : List Q5 → List (List D)
 | [] => []
 | x :: l => V2 x :: Q7o l
end
theorem Z4b : ∀ l, Q7o l = List.map V2 l
 | [] => by simp [Q7o]
 | x :: l => by simp [Q7o, Z4b l]
@[simp] theorem X87 (x : Q5) : V2 x = [(eI x.ctor), (eI x.n), (.slice 3 (List.map V2 x.kids))] := by cases x; simp [V2, Z4b]
mutual
theorem Q6j : ∀ (x : Q5), ∀ d ∈ V2 x, Free d
 | ⟨ctor, n, kids⟩, d, h => by
  simp only [V2, List.mem_cons, List.not_mem_nil, or_false] at h
  rcases h with rfl | rfl | rfl
  ·simp
  ·simp
  ·exact Z8 (Z93 kids)
theorem Z93 : ∀ (l : List Q5), ∀ row ∈ Q7o l, ∀ d ∈ row, Free d
 | [], row, h, _, _ => by simp [Q7o] at h
 | p :: l, row, h, d, hd => by
  rw [Q7o, List.mem_cons] at h
  rcases h with rfl | h
  ·exact Q6j p d hd
  ·exact Z93 l row h d hd
end
@[simp] theorem Z6g (sz : Nat) (l : List Q5) : Free (.slice sz (List.map V2 l)) := Z8 (Q6 Q6j l)
@[simp] theorem X79 (sz : Nat) (l : List Q5) (rows : List (List D)) (h : ∀ row ∈ rows, ∀ d ∈ row, Free d) : Free (.slice sz (List.map V2 l ++ rows)) := Y6 Q6j l h
@[simp] theorem X7g (sz sz2 : Nat) (l : List (List Q5)) : Free (.slice sz (List.map (rL sz2 V2) l)) := V1 sz sz2 V2 (fun l => Z6g sz2 l) l
structure Q0 where
 op : Int
 ctor : Int
 n : Int
 m : Int
 var : Int
 kids : List Q0
 deriving Inhabited
mutual
def Q1 : Q0 → List D
 | ⟨op, ctor, n, m, var, kids⟩ => [(eI op), (eI ctor), (eI n), (eI m), (eI var), .slice 6 (Q5j kids)]
def Q5j : List Q0 → List (List D)
 | [] => []
 | x :: l => Q1 x :: Q5j l
end
theorem Z1d : ∀ l, Q5j l = List.map Q1 l
 | [] => by simp [Q5j]
 | x :: l => by simp [Q5j, Z1d l]
@[simp] theorem X1v (x : Q0) : Q1 x = [(eI x.op), (eI x.ctor), (eI x.n), (eI x.m), (eI x.var), (.slice 6 (List.map Q1 x.kids))] := by cases x; simp [Q1, Z1d]
mutual
theorem Q4j : ∀ (x : Q0), ∀ d ∈ Q1 x, Free d
 | ⟨op, ctor, n, m, var, kids⟩, d, h => by
  simp only [Q1, List.mem_cons, List.not_mem_nil, or_false] at h
  rcases h with rfl | rfl | rfl | rfl | rfl | rfl
  ·simp
  ·simp
  ·simp
  ·simp
  ·simp
  ·exact Z8 (Z4g kids)
theorem Z4g : ∀ (l : List Q0), ∀ row ∈ Q5j l, ∀ d ∈ row, Free d
 | [], row, h, _, _ => by simp [Q5j] at h
 | p :: l, row, h, d, hd => by
  rw [Q5j, List.mem_cons] at h
  rcases h with rfl | h
  ·exact Q4j p d hd
  ·exact Z4g l row h d hd
end
@[simp] theorem Z3n (sz : Nat) (l : List Q0) : Free (.slice sz (List.map Q1 l)) := Z8 (Q6 Q4j l)
@[simp] theorem X3v (sz : Nat) (l : List Q0) (rows : List (List D)) (h : ∀ row ∈ rows, ∀ d ∈ row, Free d) : Free (.slice sz (List.map Q1 l ++ rows)) := Y6 Q4j l h
@[simp] theorem X3y (sz sz2 : Nat) (l : List (List Q0)) : Free (.slice sz (List.map (rL sz2 Q1) l)) := V1 sz sz2 Q1 (fun l => Z3n sz2 l) l
structure Q3f where
 op : Int
 var : Int
 n : Int
 deriving Inhabited
def Q7a (x : Q3f) : List D := [(eI x.op), (eI x.var), (eI x.n)]
@[simp] theorem V17 (x : Q3f) : Q7a x = [(eI x.op), (eI x.var), (eI x.n)] := rfl
theorem Z6q (x : Q3f) : ∀ d ∈ Q7a x, Free d := by simp
@[simp] theorem Z6k (sz : Nat) (l : List Q3f) : Free (.slice sz (List.map Q7a l)) := Z8 (Q6 Z6q l)
@[simp] theorem X7d (sz : Nat) (l : List Q3f) (rows : List (List D)) (h : ∀ row ∈ rows, ∀ d ∈ row, Free d) : Free (.slice sz (List.map Q7a l ++ rows)) := Y6 Z6q l h
@[simp] theorem X7k (sz sz2 : Nat) (l : List (List Q3f)) : Free (.slice sz (List.map (rL sz2 Q7a) l)) := V1 sz sz2 Q7a (fun l => Z6k sz2 l) l
structure Q4 where
 pat : Q0
 guard : Q3f
 deriving Inhabited
def Z7 (x : Q4) : List D := [(eI x.pat.op), (eI x.pat.ctor), (eI x.pat.n), (eI x.pat.m), (eI x.pat.var), (.slice 6 (List.map Q1 x.pat.kids)), (eI x.guard.op), (eI x.guard.var), (eI x.guard.n)]
@[simp] theorem X4i (x : Q4) : Z7 x = [(eI x.pat.op), (eI x.pat.ctor), (eI x.pat.n), (eI x.pat.m), (eI x.pat.var), (.slice 6 (List.map Q1 x.pat.kids)), (eI x.guard.op), (eI x.guard.var), (eI x.guard.n)] := rfl
theorem Q6a (x : Q4) : ∀ d ∈ Z7 x, Free d := by simp
@[simp] theorem Z4v (sz : Nat) (l : List Q4) : Free (.slice sz (List.map Z7 l)) := Z8 (Q6 Q6a l)
@[simp] theorem X57 (sz : Nat) (l : List Q4) (rows : List (List D)) (h : ∀ row ∈ rows, ∀ d ∈ row, Free d) : Free (.slice sz (List.map Z7 l ++ rows)) := Y6 Q6a l h
@[simp] theorem X5c (sz sz2 : Nat) (l : List (List Q4)) : Free (.slice sz (List.map (rL sz2 Z7) l)) := V1 sz sz2 Z7 (fun l => Z4v sz2 l) l
structure Z7j where
 data : Int
 index : Int
 deriving Inhabited
def Q8u (x : Z7j) : List D := [(eI x.data), (eI x.index)]
@[simp] theorem V14 (x : Z7j) : Q8u x = [(eI x.data), (eI x.index)] := rfl
theorem Z6n (x : Z7j) : ∀ d ∈ Q8u x, Free d := by simp
@[simp] theorem Z6h (sz : Nat) (l : List Z7j) : Free (.slice sz (List.map Q8u l)) := Z8 (Q6 Z6n l)
@[simp] theorem X7a (sz : Nat) (l : List Z7j) (rows : List (List D)) (h : ∀ row ∈ rows, ∀ d ∈ row, Free d) : Free (.slice sz (List.map Q8u l ++ rows)) := Y6 Z6n l h
@[simp] theorem X7h (sz sz2 : Nat) (l : List (List Z7j)) : Free (.slice sz (List.map (rL sz2 Q8u) l)) := V1 sz sz2 Q8u (fun l => Z6h sz2 l) l
structure Q61 where
 var : Int
 path : List Int
 deriving Inhabited
def Q1q (x : Q61) : List D := [(eI x.var), (.slice 1 (List.map rI x.path))]
@[simp] theorem W53 (x : Q61) : Q1q x = [(eI x.var), (.slice 1 (List.map rI x.path))] := rfl
theorem Z0g (x : Q61) : ∀ d ∈ Q1q x, Free d := by simp
@[simp] theorem Z2t (sz : Nat) (l : List Q61) : Free (.slice sz (List.map Q1q l)) := Z8 (Q6 Z0g l)
@[simp] theorem X2n (sz : Nat) (l : List Q61) (rows : List (List D)) (h : ∀ row ∈ rows, ∀ d ∈ row, Free d) : Free (.slice sz (List.map Q1q l ++ rows)) := Y6 Z0g l h
@[simp] theorem X2q (sz sz2 : Nat) (l : List (List Q61)) : Free (.slice sz (List.map (rL sz2 Q1q) l)) := V1 sz sz2 Q1q (fun l => Z2t sz2 l) l
mutual
structure Q88 where
 ctor : Int
 n : Int
 m : Int
 tree : Z7i
structure Z7i where
 op : Int
 clause : Int
 binds : List Q61
 path : List Int
 branches : List Q88
 else_ : List Z7i
end
instance : Inhabited Z7i := ⟨⟨default, default, [], [], [], []⟩⟩
instance : Inhabited Q88 := ⟨⟨default, default, default, default⟩⟩
mutual
def Q4n : Q88 → List D
 | ⟨ctor, n, m, tree⟩ => [(eI ctor), (eI n), (eI m)] ++ Q7p tree
def Q6f : List Q88 → List (List D)
 | [] => []
 | x :: l => Q4n x :: Q6f l
def Q7p : Z7i → List D
 | ⟨op, clause, binds, path, branches, else_⟩ => [(eI op), (eI clause), (.slice 2 (List.map Q1q binds)), (.slice 1 (List.map rI path)), .slice 9 (Q6f branches), .slice 6 (Z01 else_)]
def Z01 : List Z7i → List (List D)
 | [] => []
 | x :: l => Q7p x :: Z01 l
end
theorem Q8x : ∀ l, Q6f l = List.map Q4n l
 | [] => by simp [Q6f]
 | x :: l => by simp [Q6f, Q8x l]
theorem Z1p : ∀ l, Z01 l = List.map Q7p l
 | [] => by simp [Z01]
 | x :: l => by simp [Z01, Z1p l]
@[simp] theorem V4j (x : Z7i) : Q7p x = [(eI x.op), (eI x.clause), (.slice 2 (List.map Q1q x.binds)), (.slice 1 (List.map rI x.path)), (.slice 9 (List.map Q4n x.branches)), (.slice 6 (List.map Q7p x.else_))] := by cases x; simp [Q7p, Q8x, Z1p]
@[simp] theorem W9b (x : Q88) : Q4n x = [(eI x.ctor), (eI x.n), (eI x.m), (eI x.tree.op), (eI x.tree.clause), (.slice 2 (List.map Q1q x.tree.binds)), (.slice 1 (List.map rI x.tree.path)), (.slice 9 (List.map Q4n x.tree.branches)), (.slice 6 (List.map Q7p x.tree.else_))] := by cases x; simp [Q4n, Q8x, Z1p]
mutual
theorem Z0w : ∀ (x : Q88), ∀ d ∈ Q4n x, Free d
 | ⟨ctor, n, m, tree⟩, d, h => by
  rw [Q4n] at h
  simp only [List.mem_append] at h
  rcases h with h | h
  ·simp only [List.mem_cons, List.not_mem_nil, or_false] at h
   rcases h with rfl | rfl | rfl
   ·simp
   ·simp
   ·simp
  ·exact Z2v tree d h
theorem Z6r : ∀ (l : List Q88), ∀ row ∈ Q6f l, ∀ d ∈ row, Free d
 | [], row, h, _, _ => by simp [Q6f] at h
 | p :: l, row, h, d, hd => by
  rw [Q6f, List.mem_cons] at h
  rcases h with rfl | h
  ·exact Z0w p d hd
  ·exact Z6r l row h d hd
theorem Z2v : ∀ (x : Z7i), ∀ d ∈ Q7p x, Free d
 | ⟨op, clause, binds, path, branches, else_⟩, d, h => by
  rw [Q7p] at h
  simp only [List.mem_cons, List.not_mem_nil, or_false] at h
  rcases h with rfl | rfl | rfl | rfl | rfl | rfl
  ·simp
  ·simp
  ·simp
  ·simp
  ·exact Z8 (Z6r branches)
  ·exact Z8 (X2u else_)
theorem X2u : ∀ (l : List Z7i), ∀ row ∈ Z01 l, ∀ d ∈ row, Free d
 | [], row, h, _, _ => by simp [Z01] at h
 | p :: l, row, h, d, hd => by
  rw [Z01, List.mem_cons] at h
  rcases h with rfl | h
  ·exact Z2v p d hd
  ·exact X2u l row h d hd
end
@[simp] theorem Z4w (sz : Nat) (l : List Q88) : Free (.slice sz (List.map Q4n l)) := Z8 (Q6 Z0w l)
@[simp] theorem X58 (sz : Nat) (l : List Q88) (rows : List (List D)) (h : ∀ row ∈ rows, ∀ d ∈ row, Free d) : Free (.slice sz (List.map Q4n l ++ rows)) := Y6 Z0w l h
@[simp] theorem X5d (sz sz2 : Nat) (l : List (List Q88)) : Free (.slice sz (List.map (rL sz2 Q4n) l)) := V1 sz sz2 Q4n (fun l => Z4w sz2 l) l
@[simp] theorem Z7z (sz : Nat) (l : List Z7i) : Free (.slice sz (List.map Q7p l)) := Z8 (Q6 Z2v l)
@[simp] theorem X92 (sz : Nat) (l : List Z7i) (rows : List (List D)) (h : ∀ row ∈ rows, ∀ d ∈ row, Free d) : Free (.slice sz (List.map Q7p l ++ rows)) := Y6 Z2v l h
@[simp] theorem X98 (sz sz2 : Nat) (l : List (List Z7i)) : Free (.slice sz (List.map (rL sz2 Q7p) l)) := V1 sz sz2 Q7p (fun l => Z7z sz2 l) l
structure W4 where
 var : Int
 value : Q5
 deriving Inhabited
def Q1l (x : W4) : List D := [(eI x.var), (eI x.value.ctor), (eI x.value.n), (.slice 3 (List.map V2 x.value.kids))]
@[simp] theorem V4k (x : W4) : Q1l x = [(eI x.var), (eI x.value.ctor), (eI x.value.n), (.slice 3 (List.map V2 x.value.kids))] := rfl
theorem Q9b (x : W4) : ∀ d ∈ Q1l x, Free d := by simp
@[simp] theorem Z82 (sz : Nat) (l : List W4) : Free (.slice sz (List.map Q1l l)) := Z8 (Q6 Q9b l)
@[simp] theorem X95 (sz : Nat) (l : List W4) (rows : List (List D)) (h : ∀ row ∈ rows, ∀ d ∈ row, Free d) : Free (.slice sz (List.map Q1l l ++ rows)) := Y6 Q9b l h
@[simp] theorem X9b (sz sz2 : Nat) (l : List (List W4)) : Free (.slice sz (List.map (rL sz2 Q1l) l)) := V1 sz sz2 Q1l (fun l => Z82 sz2 l) l
structure Z7k where
 name : ByteArray
 args : List Z7j
 index : Int
 deriving Inhabited
def Q8w (x : Z7k) : List D := [(eS x.name), (.slice 2 (List.map Q8u x.args)), (eI x.index)]
@[simp] theorem V16 (x : Z7k) : Q8w x = [(eS x.name), (.slice 2 (List.map Q8u x.args)), (eI x.index)] := rfl
theorem Z6p (x : Z7k) : ∀ d ∈ Q8w x, Free d := by simp
@[simp] theorem Z6j (sz : Nat) (l : List Z7k) : Free (.slice sz (List.map Q8w l)) := Z8 (Q6 Z6p l)
@[simp] theorem X7c (sz : Nat) (l : List Z7k) (rows : List (List D)) (h : ∀ row ∈ rows, ∀ d ∈ row, Free d) : Free (.slice sz (List.map Q8w l ++ rows)) := Y6 Z6p l h
@[simp] theorem X7j (sz sz2 : Nat) (l : List (List Z7k)) : Free (.slice sz (List.map (rL sz2 Q8w) l)) := V1 sz sz2 Q8w (fun l => Z6j sz2 l) l
structure Z9b where
 name : ByteArray
 ctors : List Z7k
 deriving Inhabited
def Z1q (x : Z9b) : List D := [(eS x.name), (.slice 3 (List.map Q8w x.ctors))]
@[simp] theorem V15 (x : Z9b) : Z1q x = [(eS x.name), (.slice 3 (List.map Q8w x.ctors))] := rfl
theorem Z6o (x : Z9b) : ∀ d ∈ Z1q x, Free d := by simp
@[simp] theorem Z6i (sz : Nat) (l : List Z9b) : Free (.slice sz (List.map Z1q l)) := Z8 (Q6 Z6o l)
@[simp] theorem X7b (sz : Nat) (l : List Z9b) (rows : List (List D)) (h : ∀ row ∈ rows, ∀ d ∈ row, Free d) : Free (.slice sz (List.map Z1q l ++ rows)) := Y6 Z6o l h
@[simp] theorem X7i (sz sz2 : Nat) (l : List (List Z9b)) : Free (.slice sz (List.map (rL sz2 Z1q) l)) := V1 sz sz2 Z1q (fun l => Z6i sz2 l) l
structure Q5b where
 op : Int
 ctor : Int
 n : Int
 m : Int
 var : Int
 kids : List Q5b
 deriving Inhabited
mutual
def Q1r : Q5b → List D
 | ⟨op, ctor, n, m, var, kids⟩ => [(eI op), (eI ctor), (eI n), (eI m), (eI var), .slice 6 (Q47 kids)]
def Q47 : List Q5b → List (List D)
 | [] => []
 | x :: l => Q1r x :: Q47 l
end
theorem Z02 : ∀ l, Q47 l = List.map Q1r l
 | [] => by simp [Q47]
 | x :: l => by simp [Q47, Z02 l]
@[simp] theorem W54 (x : Q5b) : Q1r x = [(eI x.op), (eI x.ctor), (eI x.n), (eI x.m), (eI x.var), (.slice 6 (List.map Q1r x.kids))] := by cases x; simp [Q1r, Z02]
mutual
theorem Q7u : ∀ (x : Q5b), ∀ d ∈ Q1r x, Free d
 | ⟨op, ctor, n, m, var, kids⟩, d, h => by
  simp only [Q1r, List.mem_cons, List.not_mem_nil, or_false] at h
  rcases h with rfl | rfl | rfl | rfl | rfl | rfl
  ·simp
  ·simp
  ·simp
  ·simp
  ·simp
  ·exact Z8 (Z2w kids)
theorem Z2w : ∀ (l : List Q5b), ∀ row ∈ Q47 l, ∀ d ∈ row, Free d
 | [], row, h, _, _ => by simp [Q47] at h
 | p :: l, row, h, d, hd => by
  rw [Q47, List.mem_cons] at h
  rcases h with rfl | h
  ·exact Q7u p d hd
  ·exact Z2w l row h d hd
end
@[simp] theorem Z2u (sz : Nat) (l : List Q5b) : Free (.slice sz (List.map Q1r l)) := Z8 (Q6 Q7u l)
@[simp] theorem X2o (sz : Nat) (l : List Q5b) (rows : List (List D)) (h : ∀ row ∈ rows, ∀ d ∈ row, Free d) : Free (.slice sz (List.map Q1r l ++ rows)) := Y6 Q7u l h
@[simp] theorem X2r (sz sz2 : Nat) (l : List (List Q5b)) : Free (.slice sz (List.map (rL sz2 Q1r) l)) := V1 sz sz2 Q1r (fun l => Z2u sz2 l) l
structure Z1y where
 op : Int
 var : Int
 n : Int
 deriving Inhabited
def Q8v (x : Z1y) : List D := [(eI x.op), (eI x.var), (eI x.n)]
@[simp] theorem W9a (x : Z1y) : Q8v x = [(eI x.op), (eI x.var), (eI x.n)] := rfl
theorem Z3r (x : Z1y) : ∀ d ∈ Q8v x, Free d := by simp
@[simp] theorem Z4u (sz : Nat) (l : List Z1y) : Free (.slice sz (List.map Q8v l)) := Z8 (Q6 Z3r l)
@[simp] theorem X56 (sz : Nat) (l : List Z1y) (rows : List (List D)) (h : ∀ row ∈ rows, ∀ d ∈ row, Free d) : Free (.slice sz (List.map Q8v l ++ rows)) := Y6 Z3r l h
@[simp] theorem X5b (sz sz2 : Nat) (l : List (List Z1y)) : Free (.slice sz (List.map (rL sz2 Q8v) l)) := V1 sz sz2 Q8v (fun l => Z4u sz2 l) l
structure Z11 where
 pat : Q5b
 guard : Z1y
 deriving Inhabited
def Q79 (x : Z11) : List D := [(eI x.pat.op), (eI x.pat.ctor), (eI x.pat.n), (eI x.pat.m), (eI x.pat.var), (.slice 6 (List.map Q1r x.pat.kids)), (eI x.guard.op), (eI x.guard.var), (eI x.guard.n)]
@[simp] theorem W7w (x : Z11) : Q79 x = [(eI x.pat.op), (eI x.pat.ctor), (eI x.pat.n), (eI x.pat.m), (eI x.pat.var), (.slice 6 (List.map Q1r x.pat.kids)), (eI x.guard.op), (eI x.guard.var), (eI x.guard.n)] := rfl
theorem Z1v (x : Z11) : ∀ d ∈ Q79 x, Free d := by simp
@[simp] theorem Z3o (sz : Nat) (l : List Z11) : Free (.slice sz (List.map Q79 l)) := Z8 (Q6 Z1v l)
@[simp] theorem X3w (sz : Nat) (l : List Z11) (rows : List (List D)) (h : ∀ row ∈ rows, ∀ d ∈ row, Free d) : Free (.slice sz (List.map Q79 l ++ rows)) := Y6 Z1v l h
@[simp] theorem X3z (sz sz2 : Nat) (l : List (List Z11)) : Free (.slice sz (List.map (rL sz2 Q79) l)) := V1 sz sz2 Q79 (fun l => Z3o sz2 l) l
structure Q6k where
 name : ByteArray
 args : List Q2
 index : Int
 deriving Inhabited
def Q5r (x : Q6k) : List D := [(eS x.name), (.slice 2 (List.map Z5 x.args)), (eI x.index)]
@[simp] theorem W1c (x : Q6k) : Q5r x = [(eS x.name), (.slice 2 (List.map Z5 x.args)), (eI x.index)] := rfl
theorem Q9a (x : Q6k) : ∀ d ∈ Q5r x, Free d := by simp
@[simp] theorem Z81 (sz : Nat) (l : List Q6k) : Free (.slice sz (List.map Q5r l)) := Z8 (Q6 Q9a l)
@[simp] theorem X94 (sz : Nat) (l : List Q6k) (rows : List (List D)) (h : ∀ row ∈ rows, ∀ d ∈ row, Free d) : Free (.slice sz (List.map Q5r l ++ rows)) := Y6 Q9a l h
@[simp] theorem X9a (sz sz2 : Nat) (l : List (List Q6k)) : Free (.slice sz (List.map (rL sz2 Q5r) l)) := V1 sz sz2 Q5r (fun l => Z81 sz2 l) l
structure Q3 where
 name : ByteArray
 ctors : List Q6k
 deriving Inhabited
def X2 (x : Q3) : List D := [(eS x.name), (.slice 3 (List.map Q5r x.ctors))]
@[simp] theorem W1b (x : Q3) : X2 x = [(eS x.name), (.slice 3 (List.map Q5r x.ctors))] := rfl
theorem Q99 (x : Q3) : ∀ d ∈ X2 x, Free d := by simp
@[simp] theorem Z80 (sz : Nat) (l : List Q3) : Free (.slice sz (List.map X2 l)) := Z8 (Q6 Q99 l)
@[simp] theorem X93 (sz : Nat) (l : List Q3) (rows : List (List D)) (h : ∀ row ∈ rows, ∀ d ∈ row, Free d) : Free (.slice sz (List.map X2 l ++ rows)) := Y6 Q99 l h
@[simp] theorem X99 (sz sz2 : Nat) (l : List (List Q3)) : Free (.slice sz (List.map (rL sz2 X2) l)) := V1 sz sz2 X2 (fun l => Z80 sz2 l) l
structure Grow where
 clause : Int
 pats : List Q0
 binds : List Q61
 deriving Inhabited
def X4h (x : Grow) : List D := [(eI x.clause), (.slice 6 (List.map Q1 x.pats)), (.slice 2 (List.map Q1q x.binds))]
@[simp] theorem V6p (x : Grow) : X4h x = [(eI x.clause), (.slice 6 (List.map Q1 x.pats)), (.slice 2 (List.map Q1q x.binds))] := rfl
theorem X5f (x : Grow) : ∀ d ∈ X4h x, Free d := by simp
@[simp] theorem X03 (sz : Nat) (l : List Grow) : Free (.slice sz (List.map X4h l)) := Z8 (Q6 X5f l)
@[simp] theorem W05 (sz : Nat) (l : List Grow) (rows : List (List D)) (h : ∀ row ∈ rows, ∀ d ∈ row, Free d) : Free (.slice sz (List.map X4h l ++ rows)) := Y6 X5f l h
@[simp] theorem W06 (sz sz2 : Nat) (l : List (List Grow)) : Free (.slice sz (List.map (rL sz2 X4h) l)) := V1 sz sz2 X4h (fun l => X03 sz2 l) l
structure Q14 where
 w : List Q3
 d : List Int
 deriving Inhabited
def Q1p (x : Q14) : List D := [(.slice 2 (List.map X2 x.w)), (.cptr (List.map cI x.d))]
@[simp] theorem W98 (x : Q14) : Q1p x = [(.slice 2 (List.map X2 x.w)), (.cptr (List.map cI x.d))] := rfl
theorem Z3p (x : Q14) : ∀ d ∈ Q1p x, Free d := by simp
@[simp] theorem Z4s (sz : Nat) (l : List Q14) : Free (.slice sz (List.map Q1p l)) := Z8 (Q6 Z3p l)
@[simp] theorem X54 (sz : Nat) (l : List Q14) (rows : List (List D)) (h : ∀ row ∈ rows, ∀ d ∈ row, Free d) : Free (.slice sz (List.map Q1p l ++ rows)) := Y6 Z3p l h
@[simp] theorem X59 (sz sz2 : Nat) (l : List (List Q14)) : Free (.slice sz (List.map (rL sz2 Q1p) l)) := V1 sz sz2 Q1p (fun l => Z4s sz2 l) l
structure Q73 where
 spaces : Q14
 list : List Q4
 pick : Int
 count : Int
 deriving Inhabited
def Q5e (x : Q73) : List D := [(.cptr (Q1p x.spaces)), (.slice 9 (List.map Z7 x.list)), (eI x.pick), (eI x.count)]
@[simp] theorem W3n (x : Q73) : Q5e x = [(.cptr (Q1p x.spaces)), (.slice 9 (List.map Z7 x.list)), (eI x.pick), (eI x.count)] := rfl
theorem Q97 (x : Q73) : ∀ d ∈ Q5e x, Free d := by simp
@[simp] theorem Z1u (sz : Nat) (l : List Q73) : Free (.slice sz (List.map Q5e l)) := Z8 (Q6 Q97 l)
@[simp] theorem X0z (sz : Nat) (l : List Q73) (rows : List (List D)) (h : ∀ row ∈ rows, ∀ d ∈ row, Free d) : Free (.slice sz (List.map Q5e l ++ rows)) := Y6 Q97 l h
@[simp] theorem X10 (sz sz2 : Nat) (l : List (List Q73)) : Free (.slice sz (List.map (rL sz2 Q5e) l)) := V1 sz sz2 Q5e (fun l => Z1u sz2 l) l
structure Z40 where
 path : List Int
 t : Q2
 deriving Inhabited
def Q8t (x : Z40) : List D := [(.slice 1 (List.map rI x.path)), (eI x.t.data), (eI x.t.index)]
@[simp] theorem W99 (x : Z40) : Q8t x = [(.slice 1 (List.map rI x.path)), (eI x.t.data), (eI x.t.index)] := rfl
theorem Z3q (x : Z40) : ∀ d ∈ Q8t x, Free d := by simp
@[simp] theorem Z4t (sz : Nat) (l : List Z40) : Free (.slice sz (List.map Q8t l)) := Z8 (Q6 Z3q l)
@[simp] theorem X55 (sz : Nat) (l : List Z40) (rows : List (List D)) (h : ∀ row ∈ rows, ∀ d ∈ row, Free d) : Free (.slice sz (List.map Q8t l ++ rows)) := Y6 Z3q l h
@[simp] theorem X5a (sz sz2 : Nat) (l : List (List Z40)) : Free (.slice sz (List.map (rL sz2 Q8t) l)) := V1 sz sz2 Q8t (fun l => Z4t sz2 l) l
structure Z1 where
 b : List Int
 p : Int
 deriving Inhabited
def Y3 (x : Z1) : List D := [(.slice 1 (List.map (rK .u8) x.b)), (eI x.p)]
@[simp] theorem V13 (x : Z1) : Y3 x = [(.slice 1 (List.map (rK .u8) x.b)), (eI x.p)] := rfl
theorem Z6m (x : Z1) : ∀ d ∈ Y3 x, Free d := by simp
@[simp] theorem Z6f (sz : Nat) (l : List Z1) : Free (.slice sz (List.map Y3 l)) := Z8 (Q6 Z6m l)
@[simp] theorem X78 (sz : Nat) (l : List Z1) (rows : List (List D)) (h : ∀ row ∈ rows, ∀ d ∈ row, Free d) : Free (.slice sz (List.map Y3 l ++ rows)) := Y6 Z6m l h
@[simp] theorem X7f (sz sz2 : Nat) (l : List (List Z1)) : Free (.slice sz (List.map (rL sz2 Y3) l)) := V1 sz sz2 Y3 (fun l => Z6f sz2 l) l
structure Q8n where
 path : List Int
 kind : Q2
 deriving Inhabited
def Q65 (x : Q8n) : List D := [(.slice 1 (List.map rI x.path)), (eI x.kind.data), (eI x.kind.index)]
@[simp] theorem W52 (x : Q8n) : Q65 x = [(.slice 1 (List.map rI x.path)), (eI x.kind.data), (eI x.kind.index)] := rfl
theorem Z0f (x : Q8n) : ∀ d ∈ Q65 x, Free d := by simp
@[simp] theorem Z2s (sz : Nat) (l : List Q8n) : Free (.slice sz (List.map Q65 l)) := Z8 (Q6 Z0f l)
@[simp] theorem X2m (sz : Nat) (l : List Q8n) (rows : List (List D)) (h : ∀ row ∈ rows, ∀ d ∈ row, Free d) : Free (.slice sz (List.map Q65 l ++ rows)) := Y6 Z0f l h
@[simp] theorem X2p (sz sz2 : Nat) (l : List (List Q8n)) : Free (.slice sz (List.map (rL sz2 Q65) l)) := V1 sz sz2 Q65 (fun l => Z2s sz2 l) l
structure Z9a where
 clause : Int
 pats : List Q0
 binds : List Q61
 deriving Inhabited
def Z1o (x : Z9a) : List D := [(eI x.clause), (.slice 6 (List.map Q1 x.pats)), (.slice 2 (List.map Q1q x.binds))]
@[simp] theorem V12 (x : Z9a) : Z1o x = [(eI x.clause), (.slice 6 (List.map Q1 x.pats)), (.slice 2 (List.map Q1q x.binds))] := rfl
theorem Z6l (x : Z9a) : ∀ d ∈ Z1o x, Free d := by simp
@[simp] theorem Z6e (sz : Nat) (l : List Z9a) : Free (.slice sz (List.map Z1o l)) := Z8 (Q6 Z6l l)
@[simp] theorem X77 (sz : Nat) (l : List Z9a) (rows : List (List D)) (h : ∀ row ∈ rows, ∀ d ∈ row, Free d) : Free (.slice sz (List.map Z1o l ++ rows)) := Y6 Z6l l h
@[simp] theorem X7e (sz sz2 : Nat) (l : List (List Z9a)) : Free (.slice sz (List.map (rL sz2 Z1o) l)) := V1 sz sz2 Z1o (fun l => Z6e sz2 l) l
structure Q7 where
 var : Int
 typ : Q2
 deriving Inhabited
def V0 (x : Q7) : List D := [(eI x.var), (eI x.typ.data), (eI x.typ.index)]
@[simp] theorem W7v (x : Q7) : V0 x = [(eI x.var), (eI x.typ.data), (eI x.typ.index)] := rfl
theorem Q5g (x : Q7) : ∀ d ∈ V0 x, Free d := by simp
@[simp] theorem Z3m (sz : Nat) (l : List Q7) : Free (.slice sz (List.map V0 l)) := Z8 (Q6 Q5g l)
@[simp] theorem X3u (sz : Nat) (l : List Q7) (rows : List (List D)) (h : ∀ row ∈ rows, ∀ d ∈ row, Free d) : Free (.slice sz (List.map V0 l ++ rows)) := Y6 Q5g l h
@[simp] theorem X3x (sz sz2 : Nat) (l : List (List Q7)) : Free (.slice sz (List.map (rL sz2 V0) l)) := V1 sz sz2 V0 (fun l => Z3m sz2 l) l
end Go.Proofs.YtnackipaoepmfaaGreat
