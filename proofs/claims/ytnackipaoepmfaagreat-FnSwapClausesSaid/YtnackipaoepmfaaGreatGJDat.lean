import Derived.Test.YtnackipaoepmfaaGreatGJE1
set_option linter.unusedSimpArgs false
set_option linter.unusedVariables false
namespace Go.Proofs.YtnackipaoepmfaaGreat
open Go Go.RowKit
theorem Q6 {α : Type} {f : α → List D} (h : ∀ x, ∀ d ∈ f x, Free d) (l : List α) : ∀ row ∈ List.map f l, ∀ d ∈ row, Free d := fun row hr d hd => by
 simp only [List.mem_map] at hr
 obtain ⟨x, _, rfl⟩ := hr
 exact h x d hd
abbrev eI (n : Int) : D := .val (.int .i64 n)
abbrev eB (b : Bool) : D := .val (.bool b)
abbrev eS (s : ByteArray) : D := .val (.string s)
abbrev cI : Int → D := fun n => .val (.int .i64 n)
abbrev cB : Bool → D := fun n => .val (.bool n)
def rI (n : Int) : List D := [eI n]
def rK (k : IntKind) (n : Int) : List D := [.val (.int k n)]
def rB (n : Bool) : List D := [eB n]
def rS (n : ByteArray) : List D := [eS n]
def rL {α : Type} (sz : Nat) (r : α → List D) (l : List α) : List D := [.slice sz (List.map r l)]
@[simp] theorem rI_eq (n : Int) : rI n = [eI n] := rfl
@[simp] theorem X94 (sz : Nat) (l : List Int) : Free (.slice sz (List.map (rI) l)) := Z9 (fun row hr d hd => by simp only [List.mem_map] at hr; obtain ⟨x, _, rfl⟩ := hr; simp at hd; subst hd; exact Q3t _)
@[simp] theorem rK_eq (k : IntKind) (n : Int) : rK k n = [.val (.int k n)] := rfl
@[simp] theorem V1g (k : IntKind) (sz : Nat) (l : List Int) : Free (.slice sz (List.map (rK k) l)) := Z9 (fun row hr d hd => by simp only [List.mem_map] at hr; obtain ⟨x, _, rfl⟩ := hr; simp at hd; subst hd; exact Q3t _)
@[simp] theorem rB_eq (n : Bool) : rB n = [eB n] := rfl
@[simp] theorem X95 (sz : Nat) (l : List Bool) : Free (.slice sz (List.map (rB) l)) := Z9 (fun row hr d hd => by simp only [List.mem_map] at hr; obtain ⟨x, _, rfl⟩ := hr; simp at hd; subst hd; exact Q3t _)
@[simp] theorem V9b (n : ByteArray) : rS n = [eS n] := rfl
@[simp] theorem X8y (sz : Nat) (l : List ByteArray) : Free (.slice sz (List.map (rS) l)) := Z9 (fun row hr d hd => by simp only [List.mem_map] at hr; obtain ⟨x, _, rfl⟩ := hr; simp at hd; subst hd; exact Q3t _)
@[simp] theorem rL_eq {α : Type} (sz : Nat) (r : α → List D) (l : List α) : rL sz r l = [.slice sz (List.map r l)] := rfl
theorem W9 {α : Type} (sz sz2 : Nat) (r : α → List D) (h : ∀ l, Free (.slice sz2 (List.map r l))) (l : List (List α)) : Free (.slice sz (List.map (rL sz2 r) l)) := Z9 (fun row hr d hd => by simp only [List.mem_map] at hr; obtain ⟨x, _, rfl⟩ := hr; simp at hd; subst hd; exact h x)
@[simp] theorem W8f (sz : Nat) (row : List D) (rows : List (List D)) (h : ∀ r ∈ row :: rows, ∀ d ∈ r, Free d) : Free (.slice sz (row :: rows)) := Z9 h
@[simp] theorem W9z (sz : Nat) : Free (.slice sz []) := Z9 (fun _ h => by simp at h)
@[simp] theorem V1i {ds : List D} (h : ∀ d ∈ ds, Free d) : Free (.agg ds) := Z4u h
@[simp] theorem V1f {ds : List D} (h : ∀ d ∈ ds, Free d) : Free (.tup ds) := W6i h
@[simp] theorem V02 {ds : List D} (h : ∀ d ∈ ds, Free d) : Free (.cptr ds) := X25 h
@[simp] theorem V03 {f : FuncId} {ds : List D} (h : ∀ d ∈ ds, Free d) : Free (.clos f ds) := X26 h
@[simp] theorem V1h : Free .any := W6n
theorem Y6 {sz : Nat} {α : Type} {r : α → List D} (hr : ∀ x, ∀ d ∈ r x, Free d) (xs : List α) {rows : List (List D)} (h : ∀ row ∈ rows, ∀ d ∈ row, Free d) : Free (.slice sz (List.map r xs ++ rows)) := X4q hr h
@[simp] theorem V04 (l : List Int) : Free (.agg (List.map cI l)) := Z4u fun d h => by simp only [List.mem_map] at h; obtain ⟨x, _, rfl⟩ := h; exact Q3t _
@[simp] theorem V05 (l : List Bool) : Free (.agg (List.map cB l)) := Z4u fun d h => by simp only [List.mem_map] at h; obtain ⟨x, _, rfl⟩ := h; exact Q3t _
@[simp] theorem V00 (l : List Int) : ∀ d ∈ List.map cI l, Free d := fun d h => by simp only [List.mem_map] at h; obtain ⟨x, _, rfl⟩ := h; exact Q3t _
@[simp] theorem V01 (l : List Bool) : ∀ d ∈ List.map cB l, Free d := fun d h => by simp only [List.mem_map] at h; obtain ⟨x, _, rfl⟩ := h; exact Q3t _
@[simp] theorem W6k (sz sz2 : Nat) (l : List (List Int)) : Free (.slice sz (List.map (rL sz2 rI) l)) := W9 sz sz2 rI (fun l => X94 sz2 l) l
@[simp] theorem W6j (sz sz2 : Nat) (l : List (List ByteArray)) : Free (.slice sz (List.map (rL sz2 rS) l)) := W9 sz sz2 rS (fun l => X8y sz2 l) l
@[simp] theorem W6l (sz sz2 : Nat) (l : List (List Bool)) : Free (.slice sz (List.map (rL sz2 rB) l)) := W9 sz sz2 rB (fun l => X95 sz2 l) l
structure Q2 where
 data : Int
 index : Int
 deriving Inhabited
def Z6 (x : Q2) : List D := [(eI x.data), (eI x.index)]
@[simp] theorem V4m (x : Q2) : Z6 x = [(eI x.data), (eI x.index)] := rfl
theorem Q91 (x : Q2) : ∀ d ∈ Z6 x, Free d := by simp
@[simp] theorem Z7j (sz : Nat) (l : List Q2) : Free (.slice sz (List.map Z6 l)) := Z9 (Q6 Q91 l)
@[simp] theorem X8t (sz : Nat) (l : List Q2) (rows : List (List D)) (h : ∀ row ∈ rows, ∀ d ∈ row, Free d) : Free (.slice sz (List.map Z6 l ++ rows)) := Y6 Q91 l h
@[simp] theorem X8z (sz sz2 : Nat) (l : List (List Q2)) : Free (.slice sz (List.map (rL sz2 Z6) l)) := W9 sz sz2 Z6 (fun l => Z7j sz2 l) l
structure Q4 where
 ctor : Int
 n : Int
 kids : List Q4
 deriving Inhabited
mutual
def V0 : Q4 → List D
 | ⟨ctor, n, kids⟩ => [(eI ctor), (eI n), .slice 3 (Q7l kids)]
def Q7l : List Q4 → List (List D)
 | [] => []
 | x :: l => V0 x :: Q7l l
end
theorem Z3y : ∀ l, Q7l l = List.map V0 l
 | [] => by simp [Q7l]
 | x :: l => by simp [Q7l, Z3y l]
@[simp] theorem X7y (x : Q4) : V0 x = [(eI x.ctor), (eI x.n), (.slice 3 (List.map V0 x.kids))] := by cases x; simp [V0, Z3y]
mutual
theorem Q6h : ∀ (x : Q4), ∀ d ∈ V0 x, Free d
 | ⟨ctor, n, kids⟩, d, h => by
  simp only [V0, List.mem_cons, List.not_mem_nil, or_false] at h
  rcases h with rfl | rfl | rfl
  ·simp
  ·simp
  ·exact Z9 (Z8n kids)
theorem Z8n : ∀ (l : List Q4), ∀ row ∈ Q7l l, ∀ d ∈ row, Free d
 | [], row, h, _, _ => by simp [Q7l] at h
 | p :: l, row, h, d, hd => by
  rw [Q7l, List.mem_cons] at h
  rcases h with rfl | h
  ·exact Q6h p d hd
  ·exact Z8n l row h d hd
end
@[simp] theorem Z61 (sz : Nat) (l : List Q4) : Free (.slice sz (List.map V0 l)) := Z9 (Q6 Q6h l)
@[simp] theorem X6w (sz : Nat) (l : List Q4) (rows : List (List D)) (h : ∀ row ∈ rows, ∀ d ∈ row, Free d) : Free (.slice sz (List.map V0 l ++ rows)) := Y6 Q6h l h
@[simp] theorem X73 (sz sz2 : Nat) (l : List (List Q4)) : Free (.slice sz (List.map (rL sz2 V0) l)) := W9 sz sz2 V0 (fun l => Z61 sz2 l) l
structure Q0 where
 op : Int
 ctor : Int
 n : Int
 m : Int
 var : Int
 kids : List Q0
 deriving Inhabited
mutual
def Q1 : Q0 → List D
 | ⟨op, ctor, n, m, var, kids⟩ => [(eI op), (eI ctor), (eI n), (eI m), (eI var), .slice 6 (Q5h kids)]
def Q5h : List Q0 → List (List D)
 | [] => []
 | x :: l => Q1 x :: Q5h l
end
theorem Z0z : ∀ l, Q5h l = List.map Q1 l
 | [] => by simp [Q5h]
 | x :: l => by simp [Q5h, Z0z l]
@[simp] theorem X19 (x : Q0) : Q1 x = [(eI x.op), (eI x.ctor), (eI x.n), (eI x.m), (eI x.var), (.slice 6 (List.map Q1 x.kids))] := by cases x; simp [Q1, Z0z]
mutual
theorem Q4l : ∀ (x : Q0), ∀ d ∈ Q1 x, Free d
 | ⟨op, ctor, n, m, var, kids⟩, d, h => by
  simp only [Q1, List.mem_cons, List.not_mem_nil, or_false] at h
  rcases h with rfl | rfl | rfl | rfl | rfl | rfl
  ·simp
  ·simp
  ·simp
  ·simp
  ·simp
  ·exact Z9 (Z42 kids)
theorem Z42 : ∀ (l : List Q0), ∀ row ∈ Q5h l, ∀ d ∈ row, Free d
 | [], row, h, _, _ => by simp [Q5h] at h
 | p :: l, row, h, d, hd => by
  rw [Q5h, List.mem_cons] at h
  rcases h with rfl | h
  ·exact Q4l p d hd
  ·exact Z42 l row h d hd
end
@[simp] theorem Z3c (sz : Nat) (l : List Q0) : Free (.slice sz (List.map Q1 l)) := Z9 (Q6 Q4l l)
@[simp] theorem X36 (sz : Nat) (l : List Q0) (rows : List (List D)) (h : ∀ row ∈ rows, ∀ d ∈ row, Free d) : Free (.slice sz (List.map Q1 l ++ rows)) := Y6 Q4l l h
@[simp] theorem X39 (sz sz2 : Nat) (l : List (List Q0)) : Free (.slice sz (List.map (rL sz2 Q1) l)) := W9 sz sz2 Q1 (fun l => Z3c sz2 l) l
structure Q3j where
 op : Int
 var : Int
 n : Int
 deriving Inhabited
def Q77 (x : Q3j) : List D := [(eI x.op), (eI x.var), (eI x.n)]
@[simp] theorem V1b (x : Q3j) : Q77 x = [(eI x.op), (eI x.var), (eI x.n)] := rfl
theorem Z6b (x : Q3j) : ∀ d ∈ Q77 x, Free d := by simp
@[simp] theorem Z65 (sz : Nat) (l : List Q3j) : Free (.slice sz (List.map Q77 l)) := Z9 (Q6 Z6b l)
@[simp] theorem X70 (sz : Nat) (l : List Q3j) (rows : List (List D)) (h : ∀ row ∈ rows, ∀ d ∈ row, Free d) : Free (.slice sz (List.map Q77 l ++ rows)) := Y6 Z6b l h
@[simp] theorem X77 (sz sz2 : Nat) (l : List (List Q3j)) : Free (.slice sz (List.map (rL sz2 Q77) l)) := W9 sz sz2 Q77 (fun l => Z65 sz2 l) l
structure Q5 where
 pat : Q0
 guard : Q3j
 deriving Inhabited
def Z8 (x : Q5) : List D := [(eI x.pat.op), (eI x.pat.ctor), (eI x.pat.n), (eI x.pat.m), (eI x.pat.var), (.slice 6 (List.map Q1 x.pat.kids)), (eI x.guard.op), (eI x.guard.var), (eI x.guard.n)]
@[simp] theorem X3r (x : Q5) : Z8 x = [(eI x.pat.op), (eI x.pat.ctor), (eI x.pat.n), (eI x.pat.m), (eI x.pat.var), (.slice 6 (List.map Q1 x.pat.kids)), (eI x.guard.op), (eI x.guard.var), (eI x.guard.n)] := rfl
theorem Q6a (x : Q5) : ∀ d ∈ Z8 x, Free d := by simp
@[simp] theorem Z4j (sz : Nat) (l : List Q5) : Free (.slice sz (List.map Z8 l)) := Z9 (Q6 Q6a l)
@[simp] theorem X4j (sz : Nat) (l : List Q5) (rows : List (List D)) (h : ∀ row ∈ rows, ∀ d ∈ row, Free d) : Free (.slice sz (List.map Z8 l ++ rows)) := Y6 Q6a l h
@[simp] theorem X4o (sz sz2 : Nat) (l : List (List Q5)) : Free (.slice sz (List.map (rL sz2 Z8) l)) := W9 sz sz2 Z8 (fun l => Z4j sz2 l) l
structure Z72 where
 data : Int
 index : Int
 deriving Inhabited
def Q8l (x : Z72) : List D := [(eI x.data), (eI x.index)]
@[simp] theorem V18 (x : Z72) : Q8l x = [(eI x.data), (eI x.index)] := rfl
theorem Z68 (x : Z72) : ∀ d ∈ Q8l x, Free d := by simp
@[simp] theorem Z62 (sz : Nat) (l : List Z72) : Free (.slice sz (List.map Q8l l)) := Z9 (Q6 Z68 l)
@[simp] theorem X6x (sz : Nat) (l : List Z72) (rows : List (List D)) (h : ∀ row ∈ rows, ∀ d ∈ row, Free d) : Free (.slice sz (List.map Q8l l ++ rows)) := Y6 Z68 l h
@[simp] theorem X74 (sz sz2 : Nat) (l : List (List Z72)) : Free (.slice sz (List.map (rL sz2 Q8l) l)) := W9 sz sz2 Q8l (fun l => Z62 sz2 l) l
structure Q61 where
 var : Int
 path : List Int
 deriving Inhabited
def Q1o (x : Q61) : List D := [(eI x.var), (.slice 1 (List.map rI x.path))]
@[simp] theorem W4y (x : Q61) : Q1o x = [(eI x.var), (.slice 1 (List.map rI x.path))] := rfl
theorem Z01 (x : Q61) : ∀ d ∈ Q1o x, Free d := by simp
@[simp] theorem Z2j (sz : Nat) (l : List Q61) : Free (.slice sz (List.map Q1o l)) := Z9 (Q6 Z01 l)
@[simp] theorem X20 (sz : Nat) (l : List Q61) (rows : List (List D)) (h : ∀ row ∈ rows, ∀ d ∈ row, Free d) : Free (.slice sz (List.map Q1o l ++ rows)) := Y6 Z01 l h
@[simp] theorem X23 (sz sz2 : Nat) (l : List (List Q61)) : Free (.slice sz (List.map (rL sz2 Q1o) l)) := W9 sz sz2 Q1o (fun l => Z2j sz2 l) l
mutual
structure Q82 where
 ctor : Int
 n : Int
 m : Int
 tree : Z71
structure Z71 where
 op : Int
 clause : Int
 binds : List Q61
 path : List Int
 branches : List Q82
 else_ : List Z71
end
instance : Inhabited Z71 := ⟨⟨default, default, [], [], [], []⟩⟩
instance : Inhabited Q82 := ⟨⟨default, default, default, default⟩⟩
mutual
def Q4o : Q82 → List D
 | ⟨ctor, n, m, tree⟩ => [(eI ctor), (eI n), (eI m)] ++ Q7m tree
def Q6d : List Q82 → List (List D)
 | [] => []
 | x :: l => Q4o x :: Q6d l
def Q7m : Z71 → List D
 | ⟨op, clause, binds, path, branches, else_⟩ => [(eI op), (eI clause), (.slice 2 (List.map Q1o binds)), (.slice 1 (List.map rI path)), .slice 9 (Q6d branches), .slice 6 (Q9n else_)]
def Q9n : List Z71 → List (List D)
 | [] => []
 | x :: l => Q7m x :: Q9n l
end
theorem Q8o : ∀ l, Q6d l = List.map Q4o l
 | [] => by simp [Q6d]
 | x :: l => by simp [Q6d, Q8o l]
theorem Z1b : ∀ l, Q9n l = List.map Q7m l
 | [] => by simp [Q9n]
 | x :: l => by simp [Q9n, Z1b l]
@[simp] theorem V4n (x : Z71) : Q7m x = [(eI x.op), (eI x.clause), (.slice 2 (List.map Q1o x.binds)), (.slice 1 (List.map rI x.path)), (.slice 9 (List.map Q4o x.branches)), (.slice 6 (List.map Q7m x.else_))] := by cases x; simp [Q7m, Q8o, Z1b]
@[simp] theorem W9c (x : Q82) : Q4o x = [(eI x.ctor), (eI x.n), (eI x.m), (eI x.tree.op), (eI x.tree.clause), (.slice 2 (List.map Q1o x.tree.binds)), (.slice 1 (List.map rI x.tree.path)), (.slice 9 (List.map Q4o x.tree.branches)), (.slice 6 (List.map Q7m x.tree.else_))] := by cases x; simp [Q4o, Q8o, Z1b]
mutual
theorem Z0g : ∀ (x : Q82), ∀ d ∈ Q4o x, Free d
 | ⟨ctor, n, m, tree⟩, d, h => by
  rw [Q4o] at h
  simp only [List.mem_append] at h
  rcases h with h | h
  ·simp only [List.mem_cons, List.not_mem_nil, or_false] at h
   rcases h with rfl | rfl | rfl
   ·simp
   ·simp
   ·simp
  ·exact Z2l tree d h
theorem Z6c : ∀ (l : List Q82), ∀ row ∈ Q6d l, ∀ d ∈ row, Free d
 | [], row, h, _, _ => by simp [Q6d] at h
 | p :: l, row, h, d, hd => by
  rw [Q6d, List.mem_cons] at h
  rcases h with rfl | h
  ·exact Z0g p d hd
  ·exact Z6c l row h d hd
theorem Z2l : ∀ (x : Z71), ∀ d ∈ Q7m x, Free d
 | ⟨op, clause, binds, path, branches, else_⟩, d, h => by
  rw [Q7m] at h
  simp only [List.mem_cons, List.not_mem_nil, or_false] at h
  rcases h with rfl | rfl | rfl | rfl | rfl | rfl
  ·simp
  ·simp
  ·simp
  ·simp
  ·exact Z9 (Z6c branches)
  ·exact Z9 (X27 else_)
theorem X27 : ∀ (l : List Z71), ∀ row ∈ Q9n l, ∀ d ∈ row, Free d
 | [], row, h, _, _ => by simp [Q9n] at h
 | p :: l, row, h, d, hd => by
  rw [Q9n, List.mem_cons] at h
  rcases h with rfl | h
  ·exact Z2l p d hd
  ·exact X27 l row h d hd
end
@[simp] theorem Z4k (sz : Nat) (l : List Q82) : Free (.slice sz (List.map Q4o l)) := Z9 (Q6 Z0g l)
@[simp] theorem X4k (sz : Nat) (l : List Q82) (rows : List (List D)) (h : ∀ row ∈ rows, ∀ d ∈ row, Free d) : Free (.slice sz (List.map Q4o l ++ rows)) := Y6 Z0g l h
@[simp] theorem X4p (sz sz2 : Nat) (l : List (List Q82)) : Free (.slice sz (List.map (rL sz2 Q4o) l)) := W9 sz sz2 Q4o (fun l => Z4k sz2 l) l
@[simp] theorem Z7k (sz : Nat) (l : List Z71) : Free (.slice sz (List.map Q7m l)) := Z9 (Q6 Z2l l)
@[simp] theorem X8u (sz : Nat) (l : List Z71) (rows : List (List D)) (h : ∀ row ∈ rows, ∀ d ∈ row, Free d) : Free (.slice sz (List.map Q7m l ++ rows)) := Y6 Z2l l h
@[simp] theorem X90 (sz sz2 : Nat) (l : List (List Z71)) : Free (.slice sz (List.map (rL sz2 Q7m) l)) := W9 sz sz2 Q7m (fun l => Z7k sz2 l) l
structure W4 where
 var : Int
 value : Q4
 deriving Inhabited
def Q1h (x : W4) : List D := [(eI x.var), (eI x.value.ctor), (eI x.value.n), (.slice 3 (List.map V0 x.value.kids))]
@[simp] theorem V4o (x : W4) : Q1h x = [(eI x.var), (eI x.value.ctor), (eI x.value.n), (.slice 3 (List.map V0 x.value.kids))] := rfl
theorem Q94 (x : W4) : ∀ d ∈ Q1h x, Free d := by simp
@[simp] theorem Z7n (sz : Nat) (l : List W4) : Free (.slice sz (List.map Q1h l)) := Z9 (Q6 Q94 l)
@[simp] theorem X8x (sz : Nat) (l : List W4) (rows : List (List D)) (h : ∀ row ∈ rows, ∀ d ∈ row, Free d) : Free (.slice sz (List.map Q1h l ++ rows)) := Y6 Q94 l h
@[simp] theorem X93 (sz sz2 : Nat) (l : List (List W4)) : Free (.slice sz (List.map (rL sz2 Q1h) l)) := W9 sz sz2 Q1h (fun l => Z7n sz2 l) l
structure Z73 where
 name : ByteArray
 args : List Z72
 index : Int
 deriving Inhabited
def Q8n (x : Z73) : List D := [(eS x.name), (.slice 2 (List.map Q8l x.args)), (eI x.index)]
@[simp] theorem V1a (x : Z73) : Q8n x = [(eS x.name), (.slice 2 (List.map Q8l x.args)), (eI x.index)] := rfl
theorem Z6a (x : Z73) : ∀ d ∈ Q8n x, Free d := by simp
@[simp] theorem Z64 (sz : Nat) (l : List Z73) : Free (.slice sz (List.map Q8n l)) := Z9 (Q6 Z6a l)
@[simp] theorem X6z (sz : Nat) (l : List Z73) (rows : List (List D)) (h : ∀ row ∈ rows, ∀ d ∈ row, Free d) : Free (.slice sz (List.map Q8n l ++ rows)) := Y6 Z6a l h
@[simp] theorem X76 (sz sz2 : Nat) (l : List (List Z73)) : Free (.slice sz (List.map (rL sz2 Q8n) l)) := W9 sz sz2 Q8n (fun l => Z64 sz2 l) l
structure Z8v where
 name : ByteArray
 ctors : List Z73
 deriving Inhabited
def Z1c (x : Z8v) : List D := [(eS x.name), (.slice 3 (List.map Q8n x.ctors))]
@[simp] theorem V19 (x : Z8v) : Z1c x = [(eS x.name), (.slice 3 (List.map Q8n x.ctors))] := rfl
theorem Z69 (x : Z8v) : ∀ d ∈ Z1c x, Free d := by simp
@[simp] theorem Z63 (sz : Nat) (l : List Z8v) : Free (.slice sz (List.map Z1c l)) := Z9 (Q6 Z69 l)
@[simp] theorem X6y (sz : Nat) (l : List Z8v) (rows : List (List D)) (h : ∀ row ∈ rows, ∀ d ∈ row, Free d) : Free (.slice sz (List.map Z1c l ++ rows)) := Y6 Z69 l h
@[simp] theorem X75 (sz sz2 : Nat) (l : List (List Z8v)) : Free (.slice sz (List.map (rL sz2 Z1c) l)) := W9 sz sz2 Z1c (fun l => Z63 sz2 l) l
structure Q59 where
 op : Int
 ctor : Int
 n : Int
 m : Int
 var : Int
 kids : List Q59
 deriving Inhabited
mutual
def Q1p : Q59 → List D
 | ⟨op, ctor, n, m, var, kids⟩ => [(eI op), (eI ctor), (eI n), (eI m), (eI var), .slice 6 (Q4d kids)]
def Q4d : List Q59 → List (List D)
 | [] => []
 | x :: l => Q1p x :: Q4d l
end
theorem Q9o : ∀ l, Q4d l = List.map Q1p l
 | [] => by simp [Q4d]
 | x :: l => by simp [Q4d, Q9o l]
@[simp] theorem W4z (x : Q59) : Q1p x = [(eI x.op), (eI x.ctor), (eI x.n), (eI x.m), (eI x.var), (.slice 6 (List.map Q1p x.kids))] := by cases x; simp [Q1p, Q9o]
mutual
theorem Q7s : ∀ (x : Q59), ∀ d ∈ Q1p x, Free d
 | ⟨op, ctor, n, m, var, kids⟩, d, h => by
  simp only [Q1p, List.mem_cons, List.not_mem_nil, or_false] at h
  rcases h with rfl | rfl | rfl | rfl | rfl | rfl
  ·simp
  ·simp
  ·simp
  ·simp
  ·simp
  ·exact Z9 (Z2m kids)
theorem Z2m : ∀ (l : List Q59), ∀ row ∈ Q4d l, ∀ d ∈ row, Free d
 | [], row, h, _, _ => by simp [Q4d] at h
 | p :: l, row, h, d, hd => by
  rw [Q4d, List.mem_cons] at h
  rcases h with rfl | h
  ·exact Q7s p d hd
  ·exact Z2m l row h d hd
end
@[simp] theorem Z2k (sz : Nat) (l : List Q59) : Free (.slice sz (List.map Q1p l)) := Z9 (Q6 Q7s l)
@[simp] theorem X21 (sz : Nat) (l : List Q59) (rows : List (List D)) (h : ∀ row ∈ rows, ∀ d ∈ row, Free d) : Free (.slice sz (List.map Q1p l ++ rows)) := Y6 Q7s l h
@[simp] theorem X24 (sz sz2 : Nat) (l : List (List Q59)) : Free (.slice sz (List.map (rL sz2 Q1p) l)) := W9 sz sz2 Q1p (fun l => Z2k sz2 l) l
structure Z1k where
 op : Int
 var : Int
 n : Int
 deriving Inhabited
def Q8m (x : Z1k) : List D := [(eI x.op), (eI x.var), (eI x.n)]
@[simp] theorem W9b (x : Z1k) : Q8m x = [(eI x.op), (eI x.var), (eI x.n)] := rfl
theorem Z3g (x : Z1k) : ∀ d ∈ Q8m x, Free d := by simp
@[simp] theorem Z4i (sz : Nat) (l : List Z1k) : Free (.slice sz (List.map Q8m l)) := Z9 (Q6 Z3g l)
@[simp] theorem X4i (sz : Nat) (l : List Z1k) (rows : List (List D)) (h : ∀ row ∈ rows, ∀ d ∈ row, Free d) : Free (.slice sz (List.map Q8m l ++ rows)) := Y6 Z3g l h
@[simp] theorem X4n (sz sz2 : Nat) (l : List (List Z1k)) : Free (.slice sz (List.map (rL sz2 Q8m) l)) := W9 sz sz2 Q8m (fun l => Z4i sz2 l) l
structure Z0m where
 pat : Q59
 guard : Z1k
 deriving Inhabited
def Q76 (x : Z0m) : List D := [(eI x.pat.op), (eI x.pat.ctor), (eI x.pat.n), (eI x.pat.m), (eI x.pat.var), (.slice 6 (List.map Q1p x.pat.kids)), (eI x.guard.op), (eI x.guard.var), (eI x.guard.n)]
@[simp] theorem W7w (x : Z0m) : Q76 x = [(eI x.pat.op), (eI x.pat.ctor), (eI x.pat.n), (eI x.pat.m), (eI x.pat.var), (.slice 6 (List.map Q1p x.pat.kids)), (eI x.guard.op), (eI x.guard.var), (eI x.guard.n)] := rfl
theorem Z1i (x : Z0m) : ∀ d ∈ Q76 x, Free d := by simp
@[simp] theorem Z3d (sz : Nat) (l : List Z0m) : Free (.slice sz (List.map Q76 l)) := Z9 (Q6 Z1i l)
@[simp] theorem X37 (sz : Nat) (l : List Z0m) (rows : List (List D)) (h : ∀ row ∈ rows, ∀ d ∈ row, Free d) : Free (.slice sz (List.map Q76 l ++ rows)) := Y6 Z1i l h
@[simp] theorem X3a (sz sz2 : Nat) (l : List (List Z0m)) : Free (.slice sz (List.map (rL sz2 Q76) l)) := W9 sz sz2 Q76 (fun l => Z3d sz2 l) l
structure Q6j where
 name : ByteArray
 args : List Q2
 index : Int
 deriving Inhabited
def Q5r (x : Q6j) : List D := [(eS x.name), (.slice 2 (List.map Z6 x.args)), (eI x.index)]
@[simp] theorem W18 (x : Q6j) : Q5r x = [(eS x.name), (.slice 2 (List.map Z6 x.args)), (eI x.index)] := rfl
theorem Q93 (x : Q6j) : ∀ d ∈ Q5r x, Free d := by simp
@[simp] theorem Z7m (sz : Nat) (l : List Q6j) : Free (.slice sz (List.map Q5r l)) := Z9 (Q6 Q93 l)
@[simp] theorem X8w (sz : Nat) (l : List Q6j) (rows : List (List D)) (h : ∀ row ∈ rows, ∀ d ∈ row, Free d) : Free (.slice sz (List.map Q5r l ++ rows)) := Y6 Q93 l h
@[simp] theorem X92 (sz sz2 : Nat) (l : List (List Q6j)) : Free (.slice sz (List.map (rL sz2 Q5r) l)) := W9 sz sz2 Q5r (fun l => Z7m sz2 l) l
structure Q3 where
 name : ByteArray
 ctors : List Q6j
 deriving Inhabited
def X0 (x : Q3) : List D := [(eS x.name), (.slice 3 (List.map Q5r x.ctors))]
@[simp] theorem W17 (x : Q3) : X0 x = [(eS x.name), (.slice 3 (List.map Q5r x.ctors))] := rfl
theorem Q92 (x : Q3) : ∀ d ∈ X0 x, Free d := by simp
@[simp] theorem Z7l (sz : Nat) (l : List Q3) : Free (.slice sz (List.map X0 l)) := Z9 (Q6 Q92 l)
@[simp] theorem X8v (sz : Nat) (l : List Q3) (rows : List (List D)) (h : ∀ row ∈ rows, ∀ d ∈ row, Free d) : Free (.slice sz (List.map X0 l ++ rows)) := Y6 Q92 l h
@[simp] theorem X91 (sz sz2 : Nat) (l : List (List Q3)) : Free (.slice sz (List.map (rL sz2 X0) l)) := W9 sz sz2 X0 (fun l => Z7l sz2 l) l
structure Grow where
 clause : Int
 pats : List Q0
 binds : List Q61
 deriving Inhabited
def X3q (x : Grow) : List D := [(eI x.clause), (.slice 6 (List.map Q1 x.pats)), (.slice 2 (List.map Q1o x.binds))]
@[simp] theorem V6v (x : Grow) : X3q x = [(eI x.clause), (.slice 6 (List.map Q1 x.pats)), (.slice 2 (List.map Q1o x.binds))] := rfl
theorem X4r (x : Grow) : ∀ d ∈ X3q x, Free d := by simp
@[simp] theorem Z9i (sz : Nat) (l : List Grow) : Free (.slice sz (List.map X3q l)) := Z9 (Q6 X4r l)
@[simp] theorem X9y (sz : Nat) (l : List Grow) (rows : List (List D)) (h : ∀ row ∈ rows, ∀ d ∈ row, Free d) : Free (.slice sz (List.map X3q l ++ rows)) := Y6 X4r l h
@[simp] theorem X9z (sz sz2 : Nat) (l : List (List Grow)) : Free (.slice sz (List.map (rL sz2 X3q) l)) := W9 sz sz2 X3q (fun l => Z9i sz2 l) l
structure Q0t where
 w : List Q3
 d : List Int
 deriving Inhabited
def Q1n (x : Q0t) : List D := [(.slice 2 (List.map X0 x.w)), (.cptr (List.map cI x.d))]
@[simp] theorem W99 (x : Q0t) : Q1n x = [(.slice 2 (List.map X0 x.w)), (.cptr (List.map cI x.d))] := rfl
theorem Z3e (x : Q0t) : ∀ d ∈ Q1n x, Free d := by simp
@[simp] theorem Z4g (sz : Nat) (l : List Q0t) : Free (.slice sz (List.map Q1n l)) := Z9 (Q6 Z3e l)
@[simp] theorem X4g (sz : Nat) (l : List Q0t) (rows : List (List D)) (h : ∀ row ∈ rows, ∀ d ∈ row, Free d) : Free (.slice sz (List.map Q1n l ++ rows)) := Y6 Z3e l h
@[simp] theorem X4l (sz sz2 : Nat) (l : List (List Q0t)) : Free (.slice sz (List.map (rL sz2 Q1n) l)) := W9 sz sz2 Q1n (fun l => Z4g sz2 l) l
structure Q71 where
 spaces : Q0t
 list : List Q5
 pick : Int
 count : Int
 deriving Inhabited
def Q5d (x : Q71) : List D := [(.cptr (Q1n x.spaces)), (.slice 9 (List.map Z8 x.list)), (eI x.pick), (eI x.count)]
@[simp] theorem W3j (x : Q71) : Q5d x = [(.cptr (Q1n x.spaces)), (.slice 9 (List.map Z8 x.list)), (eI x.pick), (eI x.count)] := rfl
theorem Q90 (x : Q71) : ∀ d ∈ Q5d x, Free d := by simp
@[simp] theorem Z1h (sz : Nat) (l : List Q71) : Free (.slice sz (List.map Q5d l)) := Z9 (Q6 Q90 l)
@[simp] theorem X0d (sz : Nat) (l : List Q71) (rows : List (List D)) (h : ∀ row ∈ rows, ∀ d ∈ row, Free d) : Free (.slice sz (List.map Q5d l ++ rows)) := Y6 Q90 l h
@[simp] theorem X0e (sz sz2 : Nat) (l : List (List Q71)) : Free (.slice sz (List.map (rL sz2 Q5d) l)) := W9 sz sz2 Q5d (fun l => Z1h sz2 l) l
structure Z3p where
 path : List Int
 t : Q2
 deriving Inhabited
def Q8k (x : Z3p) : List D := [(.slice 1 (List.map rI x.path)), (eI x.t.data), (eI x.t.index)]
@[simp] theorem W9a (x : Z3p) : Q8k x = [(.slice 1 (List.map rI x.path)), (eI x.t.data), (eI x.t.index)] := rfl
theorem Z3f (x : Z3p) : ∀ d ∈ Q8k x, Free d := by simp
@[simp] theorem Z4h (sz : Nat) (l : List Z3p) : Free (.slice sz (List.map Q8k l)) := Z9 (Q6 Z3f l)
@[simp] theorem X4h (sz : Nat) (l : List Z3p) (rows : List (List D)) (h : ∀ row ∈ rows, ∀ d ∈ row, Free d) : Free (.slice sz (List.map Q8k l ++ rows)) := Y6 Z3f l h
@[simp] theorem X4m (sz sz2 : Nat) (l : List (List Z3p)) : Free (.slice sz (List.map (rL sz2 Q8k) l)) := W9 sz sz2 Q8k (fun l => Z4h sz2 l) l
structure Z1 where
 b : List Int
 p : Int
 deriving Inhabited
def Y3 (x : Z1) : List D := [(.slice 1 (List.map (rK .u8) x.b)), (eI x.p)]
@[simp] theorem V17 (x : Z1) : Y3 x = [(.slice 1 (List.map (rK .u8) x.b)), (eI x.p)] := rfl
theorem Z67 (x : Z1) : ∀ d ∈ Y3 x, Free d := by simp
@[simp] theorem Z60 (sz : Nat) (l : List Z1) : Free (.slice sz (List.map Y3 l)) := Z9 (Q6 Z67 l)
@[simp] theorem X6v (sz : Nat) (l : List Z1) (rows : List (List D)) (h : ∀ row ∈ rows, ∀ d ∈ row, Free d) : Free (.slice sz (List.map Y3 l ++ rows)) := Y6 Z67 l h
@[simp] theorem X72 (sz sz2 : Nat) (l : List (List Z1)) : Free (.slice sz (List.map (rL sz2 Y3) l)) := W9 sz sz2 Y3 (fun l => Z60 sz2 l) l
structure Q8f where
 path : List Int
 kind : Q2
 deriving Inhabited
def Q65 (x : Q8f) : List D := [(.slice 1 (List.map rI x.path)), (eI x.kind.data), (eI x.kind.index)]
@[simp] theorem W4x (x : Q8f) : Q65 x = [(.slice 1 (List.map rI x.path)), (eI x.kind.data), (eI x.kind.index)] := rfl
theorem Z00 (x : Q8f) : ∀ d ∈ Q65 x, Free d := by simp
@[simp] theorem Z2i (sz : Nat) (l : List Q8f) : Free (.slice sz (List.map Q65 l)) := Z9 (Q6 Z00 l)
@[simp] theorem X1z (sz : Nat) (l : List Q8f) (rows : List (List D)) (h : ∀ row ∈ rows, ∀ d ∈ row, Free d) : Free (.slice sz (List.map Q65 l ++ rows)) := Y6 Z00 l h
@[simp] theorem X22 (sz sz2 : Nat) (l : List (List Q8f)) : Free (.slice sz (List.map (rL sz2 Q65) l)) := W9 sz sz2 Q65 (fun l => Z2i sz2 l) l
structure Z8u where
 clause : Int
 pats : List Q0
 binds : List Q61
 deriving Inhabited
def Z1a (x : Z8u) : List D := [(eI x.clause), (.slice 6 (List.map Q1 x.pats)), (.slice 2 (List.map Q1o x.binds))]
@[simp] theorem V16 (x : Z8u) : Z1a x = [(eI x.clause), (.slice 6 (List.map Q1 x.pats)), (.slice 2 (List.map Q1o x.binds))] := rfl
theorem Z66 (x : Z8u) : ∀ d ∈ Z1a x, Free d := by simp
@[simp] theorem Z5z (sz : Nat) (l : List Z8u) : Free (.slice sz (List.map Z1a l)) := Z9 (Q6 Z66 l)
@[simp] theorem X6u (sz : Nat) (l : List Z8u) (rows : List (List D)) (h : ∀ row ∈ rows, ∀ d ∈ row, Free d) : Free (.slice sz (List.map Z1a l ++ rows)) := Y6 Z66 l h
@[simp] theorem X71 (sz sz2 : Nat) (l : List (List Z8u)) : Free (.slice sz (List.map (rL sz2 Z1a) l)) := W9 sz sz2 Z1a (fun l => Z5z sz2 l) l
structure Q7 where
 var : Int
 typ : Q2
 deriving Inhabited
def W8 (x : Q7) : List D := [(eI x.var), (eI x.typ.data), (eI x.typ.index)]
@[simp] theorem W7v (x : Q7) : W8 x = [(eI x.var), (eI x.typ.data), (eI x.typ.index)] := rfl
theorem Q5e (x : Q7) : ∀ d ∈ W8 x, Free d := by simp
@[simp] theorem Z3b (sz : Nat) (l : List Q7) : Free (.slice sz (List.map W8 l)) := Z9 (Q6 Q5e l)
@[simp] theorem X35 (sz : Nat) (l : List Q7) (rows : List (List D)) (h : ∀ row ∈ rows, ∀ d ∈ row, Free d) : Free (.slice sz (List.map W8 l ++ rows)) := Y6 Q5e l h
@[simp] theorem X38 (sz sz2 : Nat) (l : List (List Q7)) : Free (.slice sz (List.map (rL sz2 W8) l)) := W9 sz sz2 W8 (fun l => Z3b sz2 l) l
end Go.Proofs.YtnackipaoepmfaaGreat
