import Derived.Test.YtnackipaoepmfaaGreatJE1
set_option linter.unusedSimpArgs false
set_option linter.unusedVariables false
namespace Go.Proofs.YtnackipaoepmfaaGreat
open Go Go.RowKit
theorem Q4 {α : Type} {f : α → List D} (h : ∀ x, ∀ d ∈ f x, Free d) (l : List α) : ∀ row ∈ List.map f l, ∀ d ∈ row, Free d := fun row hr d hd => by
 simp only [List.mem_map] at hr
 obtain ⟨x, _, rfl⟩ := hr
 exact h x d hd
abbrev eI (n : Int) : D := .val (.int .i64 n)
abbrev eB (b : Bool) : D := .val (.bool b)
abbrev eS (s : ByteArray) : D := .val (.string s)
abbrev cI : Int → D := fun n => .val (.int .i64 n)
abbrev cB : Bool → D := fun n => .val (.bool n)
def rI (n : Int) : List D := [eI n]
def rK (k : IntKind) (n : Int) : List D := [.val (.int k n)]
def rB (n : Bool) : List D := [eB n]
def rS (n : ByteArray) : List D := [eS n]
def rL {α : Type} (sz : Nat) (r : α → List D) (l : List α) : List D := [.slice sz (List.map r l)]
@[simp] theorem rI_eq (n : Int) : rI n = [eI n] := rfl
@[simp] theorem X98 (sz : Nat) (l : List Int) : Free (.slice sz (List.map (rI) l)) := X2 (fun row hr d hd => by simp only [List.mem_map] at hr; obtain ⟨x, _, rfl⟩ := hr; simp at hd; subst hd; exact Q3t _)
@[simp] theorem rK_eq (k : IntKind) (n : Int) : rK k n = [.val (.int k n)] := rfl
@[simp] theorem V1u (k : IntKind) (sz : Nat) (l : List Int) : Free (.slice sz (List.map (rK k) l)) := X2 (fun row hr d hd => by simp only [List.mem_map] at hr; obtain ⟨x, _, rfl⟩ := hr; simp at hd; subst hd; exact Q3t _)
@[simp] theorem rB_eq (n : Bool) : rB n = [eB n] := rfl
@[simp] theorem X99 (sz : Nat) (l : List Bool) : Free (.slice sz (List.map (rB) l)) := X2 (fun row hr d hd => by simp only [List.mem_map] at hr; obtain ⟨x, _, rfl⟩ := hr; simp at hd; subst hd; exact Q3t _)
@[simp] theorem V9w (n : ByteArray) : rS n = [eS n] := rfl
@[simp] theorem X92 (sz : Nat) (l : List ByteArray) : Free (.slice sz (List.map (rS) l)) := X2 (fun row hr d hd => by simp only [List.mem_map] at hr; obtain ⟨x, _, rfl⟩ := hr; simp at hd; subst hd; exact Q3t _)
@[simp] theorem rL_eq {α : Type} (sz : Nat) (r : α → List D) (l : List α) : rL sz r l = [.slice sz (List.map r l)] := rfl
theorem V5 {α : Type} (sz sz2 : Nat) (r : α → List D) (h : ∀ l, Free (.slice sz2 (List.map r l))) (l : List (List α)) : Free (.slice sz (List.map (rL sz2 r) l)) := X2 (fun row hr d hd => by simp only [List.mem_map] at hr; obtain ⟨x, _, rfl⟩ := hr; simp at hd; subst hd; exact h x)
@[simp] theorem W8r (sz : Nat) (row : List D) (rows : List (List D)) (h : ∀ r ∈ row :: rows, ∀ d ∈ r, Free d) : Free (.slice sz (row :: rows)) := X2 h
@[simp] theorem V0h (sz : Nat) : Free (.slice sz []) := X2 (fun _ h => by simp at h)
@[simp] theorem V1w {ds : List D} (h : ∀ d ∈ ds, Free d) : Free (.agg ds) := Z5r h
@[simp] theorem V1t {ds : List D} (h : ∀ d ∈ ds, Free d) : Free (.tup ds) := W6v h
@[simp] theorem V0k {ds : List D} (h : ∀ d ∈ ds, Free d) : Free (.cptr ds) := X36 h
@[simp] theorem V0l {f : FuncId} {ds : List D} (h : ∀ d ∈ ds, Free d) : Free (.clos f ds) := X37 h
@[simp] theorem V1v : Free .any := W70
theorem J1 {sz : Nat} {α : Type} {r : α → List D} (hr : ∀ x, ∀ d ∈ r x, Free d) (xs : List α) {rows : List (List D)} (h : ∀ row ∈ rows, ∀ d ∈ row, Free d) : Free (.slice sz (List.map r xs ++ rows)) := X5c hr h
@[simp] theorem V0m (l : List Int) : Free (.agg (List.map cI l)) := Z5r fun d h => by simp only [List.mem_map] at h; obtain ⟨x, _, rfl⟩ := h; exact Q3t _
@[simp] theorem V0n (l : List Bool) : Free (.agg (List.map cB l)) := Z5r fun d h => by simp only [List.mem_map] at h; obtain ⟨x, _, rfl⟩ := h; exact Q3t _
@[simp] theorem V0i (l : List Int) : ∀ d ∈ List.map cI l, Free d := fun d h => by simp only [List.mem_map] at h; obtain ⟨x, _, rfl⟩ := h; exact Q3t _
@[simp] theorem V0j (l : List Bool) : ∀ d ∈ List.map cB l, Free d := fun d h => by simp only [List.mem_map] at h; obtain ⟨x, _, rfl⟩ := h; exact Q3t _
@[simp] theorem W6x (sz sz2 : Nat) (l : List (List Int)) : Free (.slice sz (List.map (rL sz2 rI) l)) := V5 sz sz2 rI (fun l => X98 sz2 l) l
@[simp] theorem W6w (sz sz2 : Nat) (l : List (List ByteArray)) : Free (.slice sz (List.map (rL sz2 rS) l)) := V5 sz sz2 rS (fun l => X92 sz2 l) l
@[simp] theorem W6y (sz sz2 : Nat) (l : List (List Bool)) : Free (.slice sz (List.map (rL sz2 rB) l)) := V5 sz sz2 rB (fun l => X99 sz2 l) l
structure Q5 where
 data : Int
 index : Int
 deriving Inhabited
def W9 (x : Q5) : List D := [(eI x.data), (eI x.index)]
@[simp] theorem V52 (x : Q5) : W9 x = [(eI x.data), (eI x.index)] := rfl
theorem Q9b (x : Q5) : ∀ d ∈ W9 x, Free d := by simp
@[simp] theorem Z8j (sz : Nat) (l : List Q5) : Free (.slice sz (List.map W9 l)) := X2 (Q4 Q9b l)
@[simp] theorem X8x (sz : Nat) (l : List Q5) (rows : List (List D)) (h : ∀ row ∈ rows, ∀ d ∈ row, Free d) : Free (.slice sz (List.map W9 l ++ rows)) := J1 Q9b l h
@[simp] theorem X93 (sz sz2 : Nat) (l : List (List Q5)) : Free (.slice sz (List.map (rL sz2 W9) l)) := V5 sz sz2 W9 (fun l => Z8j sz2 l) l
structure Q2 where
 ctor : Int
 n : Int
 kids : List Q2
 deriving Inhabited
mutual
def W2 : Q2 → List D
 | ⟨ctor, n, kids⟩ => [(eI ctor), (eI n), .slice 3 (Q7x kids)]
def Q7x : List Q2 → List (List D)
 | [] => []
 | x :: l => W2 x :: Q7x l
end
theorem Z4s : ∀ l, Q7x l = List.map W2 l
 | [] => by simp [Q7x]
 | x :: l => by simp [Q7x, Z4s l]
@[simp] theorem X83 (x : Q2) : W2 x = [(eI x.ctor), (eI x.n), (.slice 3 (List.map W2 x.kids))] := by cases x; simp [W2, Z4s]
mutual
theorem Q6p : ∀ (x : Q2), ∀ d ∈ W2 x, Free d
 | ⟨ctor, n, kids⟩, d, h => by
  simp only [W2, List.mem_cons, List.not_mem_nil, or_false] at h
  rcases h with rfl | rfl | rfl
  ·simp
  ·simp
  ·exact X2 (Z9f kids)
theorem Z9f : ∀ (l : List Q2), ∀ row ∈ Q7x l, ∀ d ∈ row, Free d
 | [], row, h, _, _ => by simp [Q7x] at h
 | p :: l, row, h, d, hd => by
  rw [Q7x, List.mem_cons] at h
  rcases h with rfl | h
  ·exact Q6p p d hd
  ·exact Z9f l row h d hd
end
@[simp] theorem Z6t (sz : Nat) (l : List Q2) : Free (.slice sz (List.map W2 l)) := X2 (Q4 Q6p l)
@[simp] theorem X6y (sz : Nat) (l : List Q2) (rows : List (List D)) (h : ∀ row ∈ rows, ∀ d ∈ row, Free d) : Free (.slice sz (List.map W2 l ++ rows)) := J1 Q6p l h
@[simp] theorem X75 (sz sz2 : Nat) (l : List (List Q2)) : Free (.slice sz (List.map (rL sz2 W2) l)) := V5 sz sz2 W2 (fun l => Z6t sz2 l) l
structure Q0 where
 op : Int
 ctor : Int
 n : Int
 m : Int
 var : Int
 kids : List Q0
 deriving Inhabited
mutual
def Q8 : Q0 → List D
 | ⟨op, ctor, n, m, var, kids⟩ => [(eI op), (eI ctor), (eI n), (eI m), (eI var), .slice 6 (Q5l kids)]
def Q5l : List Q0 → List (List D)
 | [] => []
 | x :: l => Q8 x :: Q5l l
end
theorem Z16 : ∀ l, Q5l l = List.map Q8 l
 | [] => by simp [Q5l]
 | x :: l => by simp [Q5l, Z16 l]
@[simp] theorem X2e (x : Q0) : Q8 x = [(eI x.op), (eI x.ctor), (eI x.n), (eI x.m), (eI x.var), (.slice 6 (List.map Q8 x.kids))] := by cases x; simp [Q8, Z16]
mutual
theorem Q4m : ∀ (x : Q0), ∀ d ∈ Q8 x, Free d
 | ⟨op, ctor, n, m, var, kids⟩, d, h => by
  simp only [Q8, List.mem_cons, List.not_mem_nil, or_false] at h
  rcases h with rfl | rfl | rfl | rfl | rfl | rfl
  ·simp
  ·simp
  ·simp
  ·simp
  ·simp
  ·exact X2 (Z4v kids)
theorem Z4v : ∀ (l : List Q0), ∀ row ∈ Q5l l, ∀ d ∈ row, Free d
 | [], row, h, _, _ => by simp [Q5l] at h
 | p :: l, row, h, d, hd => by
  rw [Q5l, List.mem_cons] at h
  rcases h with rfl | h
  ·exact Q4m p d hd
  ·exact Z4v l row h d hd
end
@[simp] theorem Z44 (sz : Nat) (l : List Q0) : Free (.slice sz (List.map Q8 l)) := X2 (Q4 Q4m l)
@[simp] theorem X40 (sz : Nat) (l : List Q0) (rows : List (List D)) (h : ∀ row ∈ rows, ∀ d ∈ row, Free d) : Free (.slice sz (List.map Q8 l ++ rows)) := J1 Q4m l h
@[simp] theorem X43 (sz sz2 : Nat) (l : List (List Q0)) : Free (.slice sz (List.map (rL sz2 Q8) l)) := V5 sz sz2 Q8 (fun l => Z44 sz2 l) l
structure Q2i where
 op : Int
 var : Int
 n : Int
 deriving Inhabited
def Q6t (x : Q2i) : List D := [(eI x.op), (eI x.var), (eI x.n)]
@[simp] theorem V1p (x : Q2i) : Q6t x = [(eI x.op), (eI x.var), (eI x.n)] := rfl
theorem Z74 (x : Q2i) : ∀ d ∈ Q6t x, Free d := by simp
@[simp] theorem Z6x (sz : Nat) (l : List Q2i) : Free (.slice sz (List.map Q6t l)) := X2 (Q4 Z74 l)
@[simp] theorem X72 (sz : Nat) (l : List Q2i) (rows : List (List D)) (h : ∀ row ∈ rows, ∀ d ∈ row, Free d) : Free (.slice sz (List.map Q6t l ++ rows)) := J1 Z74 l h
@[simp] theorem X79 (sz sz2 : Nat) (l : List (List Q2i)) : Free (.slice sz (List.map (rL sz2 Q6t) l)) := V5 sz sz2 Q6t (fun l => Z6x sz2 l) l
structure Q7 where
 pat : Q0
 guard : Q2i
 deriving Inhabited
def V6 (x : Q7) : List D := [(eI x.pat.op), (eI x.pat.ctor), (eI x.pat.n), (eI x.pat.m), (eI x.pat.var), (.slice 6 (List.map Q8 x.pat.kids)), (eI x.guard.op), (eI x.guard.var), (eI x.guard.n)]
@[simp] theorem X4l (x : Q7) : V6 x = [(eI x.pat.op), (eI x.pat.ctor), (eI x.pat.n), (eI x.pat.m), (eI x.pat.var), (.slice 6 (List.map Q8 x.pat.kids)), (eI x.guard.op), (eI x.guard.var), (eI x.guard.n)] := rfl
theorem Q6f (x : Q7) : ∀ d ∈ V6 x, Free d := by simp
@[simp] theorem Z5h (sz : Nat) (l : List Q7) : Free (.slice sz (List.map V6 l)) := X2 (Q4 Q6f l)
@[simp] theorem X55 (sz : Nat) (l : List Q7) (rows : List (List D)) (h : ∀ row ∈ rows, ∀ d ∈ row, Free d) : Free (.slice sz (List.map V6 l ++ rows)) := J1 Q6f l h
@[simp] theorem X5a (sz sz2 : Nat) (l : List (List Q7)) : Free (.slice sz (List.map (rL sz2 V6) l)) := V5 sz sz2 V6 (fun l => Z5h sz2 l) l
structure Z7z where
 data : Int
 index : Int
 deriving Inhabited
def Q8y (x : Z7z) : List D := [(eI x.data), (eI x.index)]
@[simp] theorem V1m (x : Z7z) : Q8y x = [(eI x.data), (eI x.index)] := rfl
theorem Z71 (x : Z7z) : ∀ d ∈ Q8y x, Free d := by simp
@[simp] theorem Z6u (sz : Nat) (l : List Z7z) : Free (.slice sz (List.map Q8y l)) := X2 (Q4 Z71 l)
@[simp] theorem X6z (sz : Nat) (l : List Z7z) (rows : List (List D)) (h : ∀ row ∈ rows, ∀ d ∈ row, Free d) : Free (.slice sz (List.map Q8y l ++ rows)) := J1 Z71 l h
@[simp] theorem X76 (sz sz2 : Nat) (l : List (List Z7z)) : Free (.slice sz (List.map (rL sz2 Q8y) l)) := V5 sz sz2 Q8y (fun l => Z6u sz2 l) l
structure Q1 where
 var : Int
 path : List Int
 deriving Inhabited
def Z2 (x : Q1) : List D := [(eI x.var), (.slice 1 (List.map rI x.path))]
@[simp] theorem W5e (x : Q1) : Z2 x = [(eI x.var), (.slice 1 (List.map rI x.path))] := rfl
theorem Q6q (x : Q1) : ∀ d ∈ Z2 x, Free d := by simp
@[simp] theorem Z35 (sz : Nat) (l : List Q1) : Free (.slice sz (List.map Z2 l)) := X2 (Q4 Q6q l)
@[simp] theorem X31 (sz : Nat) (l : List Q1) (rows : List (List D)) (h : ∀ row ∈ rows, ∀ d ∈ row, Free d) : Free (.slice sz (List.map Z2 l ++ rows)) := J1 Q6q l h
@[simp] theorem X34 (sz sz2 : Nat) (l : List (List Q1)) : Free (.slice sz (List.map (rL sz2 Z2) l)) := V5 sz sz2 Z2 (fun l => Z35 sz2 l) l
mutual
structure Z0 where
 ctor : Int
 n : Int
 m : Int
 tree : W5
structure W5 where
 op : Int
 clause : Int
 binds : List Q1
 path : List Int
 branches : List Z0
 else_ : List W5
end
instance : Inhabited W5 := ⟨⟨default, default, [], [], [], []⟩⟩
instance : Inhabited Z0 := ⟨⟨default, default, default, default⟩⟩
mutual
def J7 : Z0 → List D
 | ⟨ctor, n, m, tree⟩ => [(eI ctor), (eI n), (eI m)] ++ Q2e tree
def Q6k : List Z0 → List (List D)
 | [] => []
 | x :: l => J7 x :: Q6k l
def Q2e : W5 → List D
 | ⟨op, clause, binds, path, branches, else_⟩ => [(eI op), (eI clause), (.slice 2 (List.map Z2 binds)), (.slice 1 (List.map rI path)), .slice 9 (Q6k branches), .slice 6 (Z00 else_)]
def Z00 : List W5 → List (List D)
 | [] => []
 | x :: l => Q2e x :: Z00 l
end
theorem Q91 : ∀ l, Q6k l = List.map J7 l
 | [] => by simp [Q6k]
 | x :: l => by simp [Q6k, Q91 l]
theorem Z1j : ∀ l, Z00 l = List.map Q2e l
 | [] => by simp [Z00]
 | x :: l => by simp [Z00, Z1j l]
@[simp] theorem V53 (x : W5) : Q2e x = [(eI x.op), (eI x.clause), (.slice 2 (List.map Z2 x.binds)), (.slice 1 (List.map rI x.path)), (.slice 9 (List.map J7 x.branches)), (.slice 6 (List.map Q2e x.else_))] := by cases x; simp [Q2e, Q91, Z1j]
@[simp] theorem W9q (x : Z0) : J7 x = [(eI x.ctor), (eI x.n), (eI x.m), (eI x.tree.op), (eI x.tree.clause), (.slice 2 (List.map Z2 x.tree.binds)), (.slice 1 (List.map rI x.tree.path)), (.slice 9 (List.map J7 x.tree.branches)), (.slice 6 (List.map Q2e x.tree.else_))] := by cases x; simp [J7, Q91, Z1j]
mutual
theorem Z0t : ∀ (x : Z0), ∀ d ∈ J7 x, Free d
 | ⟨ctor, n, m, tree⟩, d, h => by
  rw [J7] at h
  simp only [List.mem_append] at h
  rcases h with h | h
  ·simp only [List.mem_cons, List.not_mem_nil, or_false] at h
   rcases h with rfl | rfl | rfl
   ·simp
   ·simp
   ·simp
  ·exact Z37 tree d h
theorem Z75 : ∀ (l : List Z0), ∀ row ∈ Q6k l, ∀ d ∈ row, Free d
 | [], row, h, _, _ => by simp [Q6k] at h
 | p :: l, row, h, d, hd => by
  rw [Q6k, List.mem_cons] at h
  rcases h with rfl | h
  ·exact Z0t p d hd
  ·exact Z75 l row h d hd
theorem Z37 : ∀ (x : W5), ∀ d ∈ Q2e x, Free d
 | ⟨op, clause, binds, path, branches, else_⟩, d, h => by
  rw [Q2e] at h
  simp only [List.mem_cons, List.not_mem_nil, or_false] at h
  rcases h with rfl | rfl | rfl | rfl | rfl | rfl
  ·simp
  ·simp
  ·simp
  ·simp
  ·exact X2 (Z75 branches)
  ·exact X2 (X38 else_)
theorem X38 : ∀ (l : List W5), ∀ row ∈ Z00 l, ∀ d ∈ row, Free d
 | [], row, h, _, _ => by simp [Z00] at h
 | p :: l, row, h, d, hd => by
  rw [Z00, List.mem_cons] at h
  rcases h with rfl | h
  ·exact Z37 p d hd
  ·exact X38 l row h d hd
end
@[simp] theorem Z5i (sz : Nat) (l : List Z0) : Free (.slice sz (List.map J7 l)) := X2 (Q4 Z0t l)
@[simp] theorem X56 (sz : Nat) (l : List Z0) (rows : List (List D)) (h : ∀ row ∈ rows, ∀ d ∈ row, Free d) : Free (.slice sz (List.map J7 l ++ rows)) := J1 Z0t l h
@[simp] theorem X5b (sz sz2 : Nat) (l : List (List Z0)) : Free (.slice sz (List.map (rL sz2 J7) l)) := V5 sz sz2 J7 (fun l => Z5i sz2 l) l
@[simp] theorem Z8k (sz : Nat) (l : List W5) : Free (.slice sz (List.map Q2e l)) := X2 (Q4 Z37 l)
@[simp] theorem X8y (sz : Nat) (l : List W5) (rows : List (List D)) (h : ∀ row ∈ rows, ∀ d ∈ row, Free d) : Free (.slice sz (List.map Q2e l ++ rows)) := J1 Z37 l h
@[simp] theorem X94 (sz sz2 : Nat) (l : List (List W5)) : Free (.slice sz (List.map (rL sz2 Q2e) l)) := V5 sz sz2 Q2e (fun l => Z8k sz2 l) l
structure X0 where
 var : Int
 value : Q2
 deriving Inhabited
def Q0k (x : X0) : List D := [(eI x.var), (eI x.value.ctor), (eI x.value.n), (.slice 3 (List.map W2 x.value.kids))]
@[simp] theorem V54 (x : X0) : Q0k x = [(eI x.var), (eI x.value.ctor), (eI x.value.n), (.slice 3 (List.map W2 x.value.kids))] := rfl
theorem Q9e (x : X0) : ∀ d ∈ Q0k x, Free d := by simp
@[simp] theorem Z8n (sz : Nat) (l : List X0) : Free (.slice sz (List.map Q0k l)) := X2 (Q4 Q9e l)
@[simp] theorem X91 (sz : Nat) (l : List X0) (rows : List (List D)) (h : ∀ row ∈ rows, ∀ d ∈ row, Free d) : Free (.slice sz (List.map Q0k l ++ rows)) := J1 Q9e l h
@[simp] theorem X97 (sz sz2 : Nat) (l : List (List X0)) : Free (.slice sz (List.map (rL sz2 Q0k) l)) := V5 sz sz2 Q0k (fun l => Z8n sz2 l) l
structure Z80 where
 name : ByteArray
 args : List Z7z
 index : Int
 deriving Inhabited
def Q90 (x : Z80) : List D := [(eS x.name), (.slice 2 (List.map Q8y x.args)), (eI x.index)]
@[simp] theorem V1o (x : Z80) : Q90 x = [(eS x.name), (.slice 2 (List.map Q8y x.args)), (eI x.index)] := rfl
theorem Z73 (x : Z80) : ∀ d ∈ Q90 x, Free d := by simp
@[simp] theorem Z6w (sz : Nat) (l : List Z80) : Free (.slice sz (List.map Q90 l)) := X2 (Q4 Z73 l)
@[simp] theorem X71 (sz : Nat) (l : List Z80) (rows : List (List D)) (h : ∀ row ∈ rows, ∀ d ∈ row, Free d) : Free (.slice sz (List.map Q90 l ++ rows)) := J1 Z73 l h
@[simp] theorem X78 (sz sz2 : Nat) (l : List (List Z80)) : Free (.slice sz (List.map (rL sz2 Q90) l)) := V5 sz sz2 Q90 (fun l => Z6w sz2 l) l
structure Z9q where
 name : ByteArray
 ctors : List Z80
 deriving Inhabited
def Z1k (x : Z9q) : List D := [(eS x.name), (.slice 3 (List.map Q90 x.ctors))]
@[simp] theorem V1n (x : Z9q) : Z1k x = [(eS x.name), (.slice 3 (List.map Q90 x.ctors))] := rfl
theorem Z72 (x : Z9q) : ∀ d ∈ Z1k x, Free d := by simp
@[simp] theorem Z6v (sz : Nat) (l : List Z9q) : Free (.slice sz (List.map Z1k l)) := X2 (Q4 Z72 l)
@[simp] theorem X70 (sz : Nat) (l : List Z9q) (rows : List (List D)) (h : ∀ row ∈ rows, ∀ d ∈ row, Free d) : Free (.slice sz (List.map Z1k l ++ rows)) := J1 Z72 l h
@[simp] theorem X77 (sz sz2 : Nat) (l : List (List Z9q)) : Free (.slice sz (List.map (rL sz2 Z1k) l)) := V5 sz sz2 Z1k (fun l => Z6v sz2 l) l
structure Q59 where
 op : Int
 ctor : Int
 n : Int
 m : Int
 var : Int
 kids : List Q59
 deriving Inhabited
mutual
def Q1s : Q59 → List D
 | ⟨op, ctor, n, m, var, kids⟩ => [(eI op), (eI ctor), (eI n), (eI m), (eI var), .slice 6 (Q4d kids)]
def Q4d : List Q59 → List (List D)
 | [] => []
 | x :: l => Q1s x :: Q4d l
end
theorem Z01 : ∀ l, Q4d l = List.map Q1s l
 | [] => by simp [Q4d]
 | x :: l => by simp [Q4d, Z01 l]
@[simp] theorem W5f (x : Q59) : Q1s x = [(eI x.op), (eI x.ctor), (eI x.n), (eI x.m), (eI x.var), (.slice 6 (List.map Q1s x.kids))] := by cases x; simp [Q1s, Z01]
mutual
theorem Q83 : ∀ (x : Q59), ∀ d ∈ Q1s x, Free d
 | ⟨op, ctor, n, m, var, kids⟩, d, h => by
  simp only [Q1s, List.mem_cons, List.not_mem_nil, or_false] at h
  rcases h with rfl | rfl | rfl | rfl | rfl | rfl
  ·simp
  ·simp
  ·simp
  ·simp
  ·simp
  ·exact X2 (Z38 kids)
theorem Z38 : ∀ (l : List Q59), ∀ row ∈ Q4d l, ∀ d ∈ row, Free d
 | [], row, h, _, _ => by simp [Q4d] at h
 | p :: l, row, h, d, hd => by
  rw [Q4d, List.mem_cons] at h
  rcases h with rfl | h
  ·exact Q83 p d hd
  ·exact Z38 l row h d hd
end
@[simp] theorem Z36 (sz : Nat) (l : List Q59) : Free (.slice sz (List.map Q1s l)) := X2 (Q4 Q83 l)
@[simp] theorem X32 (sz : Nat) (l : List Q59) (rows : List (List D)) (h : ∀ row ∈ rows, ∀ d ∈ row, Free d) : Free (.slice sz (List.map Q1s l ++ rows)) := J1 Q83 l h
@[simp] theorem X35 (sz sz2 : Nat) (l : List (List Q59)) : Free (.slice sz (List.map (rL sz2 Q1s) l)) := V5 sz sz2 Q1s (fun l => Z36 sz2 l) l
structure Z24 where
 op : Int
 var : Int
 n : Int
 deriving Inhabited
def Q8z (x : Z24) : List D := [(eI x.op), (eI x.var), (eI x.n)]
@[simp] theorem W9p (x : Z24) : Q8z x = [(eI x.op), (eI x.var), (eI x.n)] := rfl
theorem Z48 (x : Z24) : ∀ d ∈ Q8z x, Free d := by simp
@[simp] theorem Z5g (sz : Nat) (l : List Z24) : Free (.slice sz (List.map Q8z l)) := X2 (Q4 Z48 l)
@[simp] theorem X54 (sz : Nat) (l : List Z24) (rows : List (List D)) (h : ∀ row ∈ rows, ∀ d ∈ row, Free d) : Free (.slice sz (List.map Q8z l ++ rows)) := J1 Z48 l h
@[simp] theorem X59 (sz sz2 : Nat) (l : List (List Z24)) : Free (.slice sz (List.map (rL sz2 Q8z) l)) := V5 sz sz2 Q8z (fun l => Z5g sz2 l) l
structure Z0z where
 pat : Q59
 guard : Z24
 deriving Inhabited
def Q7g (x : Z0z) : List D := [(eI x.pat.op), (eI x.pat.ctor), (eI x.pat.n), (eI x.pat.m), (eI x.pat.var), (.slice 6 (List.map Q1s x.pat.kids)), (eI x.guard.op), (eI x.guard.var), (eI x.guard.n)]
@[simp] theorem W8a (x : Z0z) : Q7g x = [(eI x.pat.op), (eI x.pat.ctor), (eI x.pat.n), (eI x.pat.m), (eI x.pat.var), (.slice 6 (List.map Q1s x.pat.kids)), (eI x.guard.op), (eI x.guard.var), (eI x.guard.n)] := rfl
theorem Z1x (x : Z0z) : ∀ d ∈ Q7g x, Free d := by simp
@[simp] theorem Z45 (sz : Nat) (l : List Z0z) : Free (.slice sz (List.map Q7g l)) := X2 (Q4 Z1x l)
@[simp] theorem X41 (sz : Nat) (l : List Z0z) (rows : List (List D)) (h : ∀ row ∈ rows, ∀ d ∈ row, Free d) : Free (.slice sz (List.map Q7g l ++ rows)) := J1 Z1x l h
@[simp] theorem X44 (sz sz2 : Nat) (l : List (List Z0z)) : Free (.slice sz (List.map (rL sz2 Q7g) l)) := V5 sz sz2 Q7g (fun l => Z45 sz2 l) l
structure Q6r where
 name : ByteArray
 args : List Q5
 index : Int
 deriving Inhabited
def Q5u (x : Q6r) : List D := [(eS x.name), (.slice 2 (List.map W9 x.args)), (eI x.index)]
@[simp] theorem W18 (x : Q6r) : Q5u x = [(eS x.name), (.slice 2 (List.map W9 x.args)), (eI x.index)] := rfl
theorem Q9d (x : Q6r) : ∀ d ∈ Q5u x, Free d := by simp
@[simp] theorem Z8m (sz : Nat) (l : List Q6r) : Free (.slice sz (List.map Q5u l)) := X2 (Q4 Q9d l)
@[simp] theorem X90 (sz : Nat) (l : List Q6r) (rows : List (List D)) (h : ∀ row ∈ rows, ∀ d ∈ row, Free d) : Free (.slice sz (List.map Q5u l ++ rows)) := J1 Q9d l h
@[simp] theorem X96 (sz sz2 : Nat) (l : List (List Q6r)) : Free (.slice sz (List.map (rL sz2 Q5u) l)) := V5 sz sz2 Q5u (fun l => Z8m sz2 l) l
structure Q3 where
 name : ByteArray
 ctors : List Q6r
 deriving Inhabited
def V0 (x : Q3) : List D := [(eS x.name), (.slice 3 (List.map Q5u x.ctors))]
@[simp] theorem W17 (x : Q3) : V0 x = [(eS x.name), (.slice 3 (List.map Q5u x.ctors))] := rfl
theorem Q9c (x : Q3) : ∀ d ∈ V0 x, Free d := by simp
@[simp] theorem Z8l (sz : Nat) (l : List Q3) : Free (.slice sz (List.map V0 l)) := X2 (Q4 Q9c l)
@[simp] theorem X8z (sz : Nat) (l : List Q3) (rows : List (List D)) (h : ∀ row ∈ rows, ∀ d ∈ row, Free d) : Free (.slice sz (List.map V0 l ++ rows)) := J1 Q9c l h
@[simp] theorem X95 (sz sz2 : Nat) (l : List (List Q3)) : Free (.slice sz (List.map (rL sz2 V0) l)) := V5 sz sz2 V0 (fun l => Z8l sz2 l) l
structure Grow where
 clause : Int
 pats : List Q0
 binds : List Q1
 deriving Inhabited
def Q3n (x : Grow) : List D := [(eI x.clause), (.slice 6 (List.map Q8 x.pats)), (.slice 2 (List.map Z2 x.binds))]
@[simp] theorem V7g (x : Grow) : Q3n x = [(eI x.clause), (.slice 6 (List.map Q8 x.pats)), (.slice 2 (List.map Z2 x.binds))] := rfl
theorem Z6y (x : Grow) : ∀ d ∈ Q3n x, Free d := by simp
@[simp] theorem X0l (sz : Nat) (l : List Grow) : Free (.slice sz (List.map Q3n l)) := X2 (Q4 Z6y l)
@[simp] theorem W03 (sz : Nat) (l : List Grow) (rows : List (List D)) (h : ∀ row ∈ rows, ∀ d ∈ row, Free d) : Free (.slice sz (List.map Q3n l ++ rows)) := J1 Z6y l h
@[simp] theorem W04 (sz sz2 : Nat) (l : List (List Grow)) : Free (.slice sz (List.map (rL sz2 Q3n) l)) := V5 sz sz2 Q3n (fun l => X0l sz2 l) l
structure Q9q where
 w : List Q3
 d : List Int
 deriving Inhabited
def Q6i (x : Q9q) : List D := [(.slice 2 (List.map V0 x.w)), (.cptr (List.map cI x.d))]
@[simp] theorem W9n (x : Q9q) : Q6i x = [(.slice 2 (List.map V0 x.w)), (.cptr (List.map cI x.d))] := rfl
theorem Z46 (x : Q9q) : ∀ d ∈ Q6i x, Free d := by simp
@[simp] theorem Z5e (sz : Nat) (l : List Q9q) : Free (.slice sz (List.map Q6i l)) := X2 (Q4 Z46 l)
@[simp] theorem X52 (sz : Nat) (l : List Q9q) (rows : List (List D)) (h : ∀ row ∈ rows, ∀ d ∈ row, Free d) : Free (.slice sz (List.map Q6i l ++ rows)) := J1 Z46 l h
@[simp] theorem X57 (sz sz2 : Nat) (l : List (List Q9q)) : Free (.slice sz (List.map (rL sz2 Q6i) l)) := V5 sz sz2 Q6i (fun l => Z5e sz2 l) l
structure Z9 where
 spaces : Q9q
 list : List Q7
 pick : Int
 count : Int
 deriving Inhabited
def Y2 (x : Z9) : List D := [(.cptr (Q6i x.spaces)), (.slice 9 (List.map V6 x.list)), (eI x.pick), (eI x.count)]
@[simp] theorem W3l (x : Z9) : Y2 x = [(.cptr (Q6i x.spaces)), (.slice 9 (List.map V6 x.list)), (eI x.pick), (eI x.count)] := rfl
theorem Q9a (x : Z9) : ∀ d ∈ Y2 x, Free d := by simp
@[simp] theorem Z1w (sz : Nat) (l : List Z9) : Free (.slice sz (List.map Y2 l)) := X2 (Q4 Q9a l)
@[simp] theorem X1f (sz : Nat) (l : List Z9) (rows : List (List D)) (h : ∀ row ∈ rows, ∀ d ∈ row, Free d) : Free (.slice sz (List.map Y2 l ++ rows)) := J1 Q9a l h
@[simp] theorem X1g (sz sz2 : Nat) (l : List (List Z9)) : Free (.slice sz (List.map (rL sz2 Y2) l)) := V5 sz sz2 Y2 (fun l => Z1w sz2 l) l
structure Z6 where
 path : List Int
 t : Q5
 deriving Inhabited
def Q11 (x : Z6) : List D := [(.slice 1 (List.map rI x.path)), (eI x.t.data), (eI x.t.index)]
@[simp] theorem W9o (x : Z6) : Q11 x = [(.slice 1 (List.map rI x.path)), (eI x.t.data), (eI x.t.index)] := rfl
theorem Z47 (x : Z6) : ∀ d ∈ Q11 x, Free d := by simp
@[simp] theorem Z5f (sz : Nat) (l : List Z6) : Free (.slice sz (List.map Q11 l)) := X2 (Q4 Z47 l)
@[simp] theorem X53 (sz : Nat) (l : List Z6) (rows : List (List D)) (h : ∀ row ∈ rows, ∀ d ∈ row, Free d) : Free (.slice sz (List.map Q11 l ++ rows)) := J1 Z47 l h
@[simp] theorem X58 (sz sz2 : Nat) (l : List (List Z6)) : Free (.slice sz (List.map (rL sz2 Q11) l)) := V5 sz sz2 Q11 (fun l => Z5f sz2 l) l
structure Z8 where
 b : List Int
 p : Int
 deriving Inhabited
def Y1 (x : Z8) : List D := [(.slice 1 (List.map (rK .u8) x.b)), (eI x.p)]
@[simp] theorem V1l (x : Z8) : Y1 x = [(.slice 1 (List.map (rK .u8) x.b)), (eI x.p)] := rfl
theorem Z70 (x : Z8) : ∀ d ∈ Y1 x, Free d := by simp
@[simp] theorem Z6s (sz : Nat) (l : List Z8) : Free (.slice sz (List.map Y1 l)) := X2 (Q4 Z70 l)
@[simp] theorem X6x (sz : Nat) (l : List Z8) (rows : List (List D)) (h : ∀ row ∈ rows, ∀ d ∈ row, Free d) : Free (.slice sz (List.map Y1 l ++ rows)) := J1 Z70 l h
@[simp] theorem X74 (sz sz2 : Nat) (l : List (List Z8)) : Free (.slice sz (List.map (rL sz2 Y1) l)) := V5 sz sz2 Y1 (fun l => Z6s sz2 l) l
structure Y8 where
 path : List Int
 kind : Q5
 deriving Inhabited
def Q1c (x : Y8) : List D := [(.slice 1 (List.map rI x.path)), (eI x.kind.data), (eI x.kind.index)]
@[simp] theorem W5d (x : Y8) : Q1c x = [(.slice 1 (List.map rI x.path)), (eI x.kind.data), (eI x.kind.index)] := rfl
theorem Z0a (x : Y8) : ∀ d ∈ Q1c x, Free d := by simp
@[simp] theorem Z34 (sz : Nat) (l : List Y8) : Free (.slice sz (List.map Q1c l)) := X2 (Q4 Z0a l)
@[simp] theorem X30 (sz : Nat) (l : List Y8) (rows : List (List D)) (h : ∀ row ∈ rows, ∀ d ∈ row, Free d) : Free (.slice sz (List.map Q1c l ++ rows)) := J1 Z0a l h
@[simp] theorem X33 (sz sz2 : Nat) (l : List (List Y8)) : Free (.slice sz (List.map (rL sz2 Q1c) l)) := V5 sz sz2 Q1c (fun l => Z34 sz2 l) l
structure V3 where
 clause : Int
 pats : List Q0
 binds : List Q1
 deriving Inhabited
def Q1n (x : V3) : List D := [(eI x.clause), (.slice 6 (List.map Q8 x.pats)), (.slice 2 (List.map Z2 x.binds))]
@[simp] theorem V1k (x : V3) : Q1n x = [(eI x.clause), (.slice 6 (List.map Q8 x.pats)), (.slice 2 (List.map Z2 x.binds))] := rfl
theorem Z6z (x : V3) : ∀ d ∈ Q1n x, Free d := by simp
@[simp] theorem Z6r (sz : Nat) (l : List V3) : Free (.slice sz (List.map Q1n l)) := X2 (Q4 Z6z l)
@[simp] theorem X6w (sz : Nat) (l : List V3) (rows : List (List D)) (h : ∀ row ∈ rows, ∀ d ∈ row, Free d) : Free (.slice sz (List.map Q1n l ++ rows)) := J1 Z6z l h
@[simp] theorem X73 (sz sz2 : Nat) (l : List (List V3)) : Free (.slice sz (List.map (rL sz2 Q1n) l)) := V5 sz sz2 Q1n (fun l => Z6r sz2 l) l
structure Q9 where
 var : Int
 typ : Q5
 deriving Inhabited
def V4 (x : Q9) : List D := [(eI x.var), (eI x.typ.data), (eI x.typ.index)]
@[simp] theorem W89 (x : Q9) : V4 x = [(eI x.var), (eI x.typ.data), (eI x.typ.index)] := rfl
theorem Q5j (x : Q9) : ∀ d ∈ V4 x, Free d := by simp
@[simp] theorem Z43 (sz : Nat) (l : List Q9) : Free (.slice sz (List.map V4 l)) := X2 (Q4 Q5j l)
@[simp] theorem X3z (sz : Nat) (l : List Q9) (rows : List (List D)) (h : ∀ row ∈ rows, ∀ d ∈ row, Free d) : Free (.slice sz (List.map V4 l ++ rows)) := J1 Q5j l h
@[simp] theorem X42 (sz sz2 : Nat) (l : List (List Q9)) : Free (.slice sz (List.map (rL sz2 V4) l)) := V5 sz sz2 V4 (fun l => Z43 sz2 l) l
end Go.Proofs.YtnackipaoepmfaaGreat
