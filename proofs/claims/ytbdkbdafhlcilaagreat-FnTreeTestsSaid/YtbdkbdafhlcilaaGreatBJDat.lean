import Derived.Test.YtbdkbdafhlcilaaGreatBJE1
set_option linter.unusedSimpArgs false
set_option linter.unusedVariables false
namespace Go.Proofs.YtbdkbdafhlcilaaGreat
open Go Go.RowKit
theorem Q7 {α : Type} {f : α → List D} (h : ∀ x, ∀ d ∈ f x, Free d) (l : List α) : ∀ row ∈ List.map f l, ∀ d ∈ row, Free d := fun row hr d hd => by
 simp only [List.mem_map] at hr
 obtain ⟨x, _, rfl⟩ := hr
 exact h x d hd
abbrev eI (n : Int) : D := .val (.int .i64 n)
abbrev eB (b : Bool) : D := .val (.bool b)
abbrev eS (s : ByteArray) : D := .val (.string s)
abbrev cI : Int → D := fun n => .val (.int .i64 n)
abbrev cB : Bool → D := fun n => .val (.bool n)
def rI (n : Int) : List D := [eI n]
def rK (k : IntKind) (n : Int) : List D := [.val (.int k n)]
def rB (n : Bool) : List D := [eB n]
def rS (n : ByteArray) : List D := [eS n]
def rL {α : Type} (sz : Nat) (r : α → List D) (l : List α) : List D := [.slice sz (List.map r l)]
@[simp] theorem rI_eq (n : Int) : rI n = [eI n] := rfl
@[simp] theorem X9t (sz : Nat) (l : List Int) : Free (.slice sz (List.map (rI) l)) := W6 (fun row hr d hd => by simp only [List.mem_map] at hr; obtain ⟨x, _, rfl⟩ := hr; simp at hd; subst hd; exact Q45 _)
@[simp] theorem rK_eq (k : IntKind) (n : Int) : rK k n = [.val (.int k n)] := rfl
@[simp] theorem V2a (k : IntKind) (sz : Nat) (l : List Int) : Free (.slice sz (List.map (rK k) l)) := W6 (fun row hr d hd => by simp only [List.mem_map] at hr; obtain ⟨x, _, rfl⟩ := hr; simp at hd; subst hd; exact Q45 _)
@[simp] theorem rB_eq (n : Bool) : rB n = [eB n] := rfl
@[simp] theorem X9u (sz : Nat) (l : List Bool) : Free (.slice sz (List.map (rB) l)) := W6 (fun row hr d hd => by simp only [List.mem_map] at hr; obtain ⟨x, _, rfl⟩ := hr; simp at hd; subst hd; exact Q45 _)
@[simp] theorem V9r (n : ByteArray) : rS n = [eS n] := rfl
@[simp] theorem X9n (sz : Nat) (l : List ByteArray) : Free (.slice sz (List.map (rS) l)) := W6 (fun row hr d hd => by simp only [List.mem_map] at hr; obtain ⟨x, _, rfl⟩ := hr; simp at hd; subst hd; exact Q45 _)
@[simp] theorem rL_eq {α : Type} (sz : Nat) (r : α → List D) (l : List α) : rL sz r l = [.slice sz (List.map r l)] := rfl
theorem Q08 {α : Type} (sz sz2 : Nat) (r : α → List D) (h : ∀ l, Free (.slice sz2 (List.map r l))) (l : List (List α)) : Free (.slice sz (List.map (rL sz2 r) l)) := W6 (fun row hr d hd => by simp only [List.mem_map] at hr; obtain ⟨x, _, rfl⟩ := hr; simp at hd; subst hd; exact h x)
@[simp] theorem W9g (sz : Nat) (row : List D) (rows : List (List D)) (h : ∀ r ∈ row :: rows, ∀ d ∈ r, Free d) : Free (.slice sz (row :: rows)) := W6 h
@[simp] theorem V12 (sz : Nat) : Free (.slice sz []) := W6 (fun _ h => by simp at h)
@[simp] theorem V2c {ds : List D} (h : ∀ d ∈ ds, Free d) : Free (.agg ds) := Z5n h
@[simp] theorem V29 {ds : List D} (h : ∀ d ∈ ds, Free d) : Free (.tup ds) := W7m h
@[simp] theorem V15 {ds : List D} (h : ∀ d ∈ ds, Free d) : Free (.cptr ds) := X37 h
@[simp] theorem V16 {f : FuncId} {ds : List D} (h : ∀ d ∈ ds, Free d) : Free (.clos f ds) := X38 h
@[simp] theorem V2b : Free .any := W7r
theorem Q0p {sz : Nat} {α : Type} {r : α → List D} (hr : ∀ x, ∀ d ∈ r x, Free d) (xs : List α) {rows : List (List D)} (h : ∀ row ∈ rows, ∀ d ∈ row, Free d) : Free (.slice sz (List.map r xs ++ rows)) := X5g hr h
@[simp] theorem V17 (l : List Int) : Free (.agg (List.map cI l)) := Z5n fun d h => by simp only [List.mem_map] at h; obtain ⟨x, _, rfl⟩ := h; exact Q45 _
@[simp] theorem V18 (l : List Bool) : Free (.agg (List.map cB l)) := Z5n fun d h => by simp only [List.mem_map] at h; obtain ⟨x, _, rfl⟩ := h; exact Q45 _
@[simp] theorem V13 (l : List Int) : ∀ d ∈ List.map cI l, Free d := fun d h => by simp only [List.mem_map] at h; obtain ⟨x, _, rfl⟩ := h; exact Q45 _
@[simp] theorem V14 (l : List Bool) : ∀ d ∈ List.map cB l, Free d := fun d h => by simp only [List.mem_map] at h; obtain ⟨x, _, rfl⟩ := h; exact Q45 _
@[simp] theorem W7o (sz sz2 : Nat) (l : List (List Int)) : Free (.slice sz (List.map (rL sz2 rI) l)) := Q08 sz sz2 rI (fun l => X9t sz2 l) l
@[simp] theorem W7n (sz sz2 : Nat) (l : List (List ByteArray)) : Free (.slice sz (List.map (rL sz2 rS) l)) := Q08 sz sz2 rS (fun l => X9n sz2 l) l
@[simp] theorem W7p (sz sz2 : Nat) (l : List (List Bool)) : Free (.slice sz (List.map (rL sz2 rB) l)) := Q08 sz sz2 rB (fun l => X9u sz2 l) l
structure Q5 where
 data : Int
 index : Int
 deriving Inhabited
def X7 (x : Q5) : List D := [(eI x.data), (eI x.index)]
@[simp] theorem V56 (x : Q5) : X7 x = [(eI x.data), (eI x.index)] := rfl
theorem Q9f (x : Q5) : ∀ d ∈ X7 x, Free d := by simp
@[simp] theorem Z8d (sz : Nat) (l : List Q5) : Free (.slice sz (List.map X7 l)) := W6 (Q7 Q9f l)
@[simp] theorem X9i (sz : Nat) (l : List Q5) (rows : List (List D)) (h : ∀ row ∈ rows, ∀ d ∈ row, Free d) : Free (.slice sz (List.map X7 l ++ rows)) := Q0p Q9f l h
@[simp] theorem X9o (sz sz2 : Nat) (l : List (List Q5)) : Free (.slice sz (List.map (rL sz2 X7) l)) := Q08 sz sz2 X7 (fun l => Z8d sz2 l) l
structure Q2 where
 var : Int
 path : List Int
 deriving Inhabited
def Z3 (x : Q2) : List D := [(eI x.var), (.slice 1 (List.map rI x.path))]
@[simp] theorem W66 (x : Q2) : Z3 x = [(eI x.var), (.slice 1 (List.map rI x.path))] := rfl
theorem Q6z (x : Q2) : ∀ d ∈ Z3 x, Free d := by simp
@[simp] theorem Z35 (sz : Nat) (l : List Q2) : Free (.slice sz (List.map Z3 l)) := W6 (Q7 Q6z l)
@[simp] theorem X34 (sz : Nat) (l : List Q2) (rows : List (List D)) (h : ∀ row ∈ rows, ∀ d ∈ row, Free d) : Free (.slice sz (List.map Z3 l ++ rows)) := Q0p Q6z l h
@[simp] theorem X36 (sz sz2 : Nat) (l : List (List Q2)) : Free (.slice sz (List.map (rL sz2 Z3) l)) := Q08 sz sz2 Z3 (fun l => Z35 sz2 l) l
mutual
structure Z0 where
 ctor : Int
 n : Int
 m : Int
 tree : Z9
structure Z9 where
 op : Int
 clause : Int
 binds : List Q2
 path : List Int
 branches : List Z0
 else_ : List Z9
end
instance : Inhabited Z9 := ⟨⟨default, default, [], [], [], []⟩⟩
instance : Inhabited Z0 := ⟨⟨default, default, default, default⟩⟩
mutual
def J1 : Z0 → List D
 | ⟨ctor, n, m, tree⟩ => [(eI ctor), (eI n), (eI m)] ++ Q16 tree
def Q6s : List Z0 → List (List D)
 | [] => []
 | x :: l => J1 x :: Q6s l
def Q16 : Z9 → List D
 | ⟨op, clause, binds, path, branches, else_⟩ => [(eI op), (eI clause), (.slice 2 (List.map Z3 binds)), (.slice 1 (List.map rI path)), .slice 9 (Q6s branches), .slice 6 (Z06 else_)]
def Z06 : List Z9 → List (List D)
 | [] => []
 | x :: l => Q16 x :: Z06 l
end
theorem Q95 : ∀ l, Q6s l = List.map J1 l
 | [] => by simp [Q6s]
 | x :: l => by simp [Q6s, Q95 l]
theorem Z1m : ∀ l, Z06 l = List.map Q16 l
 | [] => by simp [Z06]
 | x :: l => by simp [Z06, Z1m l]
@[simp] theorem V57 (x : Z9) : Q16 x = [(eI x.op), (eI x.clause), (.slice 2 (List.map Z3 x.binds)), (.slice 1 (List.map rI x.path)), (.slice 9 (List.map J1 x.branches)), (.slice 6 (List.map Q16 x.else_))] := by cases x; simp [Q16, Q95, Z1m]
@[simp] theorem V0d (x : Z0) : J1 x = [(eI x.ctor), (eI x.n), (eI x.m), (eI x.tree.op), (eI x.tree.clause), (.slice 2 (List.map Z3 x.tree.binds)), (.slice 1 (List.map rI x.tree.path)), (.slice 9 (List.map J1 x.tree.branches)), (.slice 6 (List.map Q16 x.tree.else_))] := by cases x; simp [J1, Q95, Z1m]
mutual
theorem Z0z : ∀ (x : Z0), ∀ d ∈ J1 x, Free d
 | ⟨ctor, n, m, tree⟩, d, h => by
  rw [J1] at h
  simp only [List.mem_append] at h
  rcases h with h | h
  ·simp only [List.mem_cons, List.not_mem_nil, or_false] at h
   rcases h with rfl | rfl | rfl
   ·simp
   ·simp
   ·simp
  ·exact Z36 tree d h
theorem Z72 : ∀ (l : List Z0), ∀ row ∈ Q6s l, ∀ d ∈ row, Free d
 | [], row, h, _, _ => by simp [Q6s] at h
 | p :: l, row, h, d, hd => by
  rw [Q6s, List.mem_cons] at h
  rcases h with rfl | h
  ·exact Z0z p d hd
  ·exact Z72 l row h d hd
theorem Z36 : ∀ (x : Z9), ∀ d ∈ Q16 x, Free d
 | ⟨op, clause, binds, path, branches, else_⟩, d, h => by
  rw [Q16] at h
  simp only [List.mem_cons, List.not_mem_nil, or_false] at h
  rcases h with rfl | rfl | rfl | rfl | rfl | rfl
  ·simp
  ·simp
  ·simp
  ·simp
  ·exact W6 (Z72 branches)
  ·exact W6 (X39 else_)
theorem X39 : ∀ (l : List Z9), ∀ row ∈ Z06 l, ∀ d ∈ row, Free d
 | [], row, h, _, _ => by simp [Z06] at h
 | p :: l, row, h, d, hd => by
  rw [Z06, List.mem_cons] at h
  rcases h with rfl | h
  ·exact Z36 p d hd
  ·exact X39 l row h d hd
end
@[simp] theorem Z5e (sz : Nat) (l : List Z0) : Free (.slice sz (List.map J1 l)) := W6 (Q7 Z0z l)
@[simp] theorem X5b (sz : Nat) (l : List Z0) (rows : List (List D)) (h : ∀ row ∈ rows, ∀ d ∈ row, Free d) : Free (.slice sz (List.map J1 l ++ rows)) := Q0p Z0z l h
@[simp] theorem X5f (sz sz2 : Nat) (l : List (List Z0)) : Free (.slice sz (List.map (rL sz2 J1) l)) := Q08 sz sz2 J1 (fun l => Z5e sz2 l) l
@[simp] theorem Z8e (sz : Nat) (l : List Z9) : Free (.slice sz (List.map Q16 l)) := W6 (Q7 Z36 l)
@[simp] theorem X9j (sz : Nat) (l : List Z9) (rows : List (List D)) (h : ∀ row ∈ rows, ∀ d ∈ row, Free d) : Free (.slice sz (List.map Q16 l ++ rows)) := Q0p Z36 l h
@[simp] theorem X9p (sz sz2 : Nat) (l : List (List Z9)) : Free (.slice sz (List.map (rL sz2 Q16) l)) := Q08 sz sz2 Q16 (fun l => Z8e sz2 l) l
structure Q1 where
 ctor : Int
 n : Int
 kids : List Q1
 deriving Inhabited
mutual
def X0 : Q1 → List D
 | ⟨ctor, n, kids⟩ => [(eI ctor), (eI n), .slice 3 (Q89 kids)]
def Q89 : List Q1 → List (List D)
 | [] => []
 | x :: l => X0 x :: Q89 l
end
theorem Z4t : ∀ l, Q89 l = List.map X0 l
 | [] => by simp [Q89]
 | x :: l => by simp [Q89, Z4t l]
@[simp] theorem X8q (x : Q1) : X0 x = [(eI x.ctor), (eI x.n), (.slice 3 (List.map X0 x.kids))] := by cases x; simp [X0, Z4t]
mutual
theorem Q6y : ∀ (x : Q1), ∀ d ∈ X0 x, Free d
 | ⟨ctor, n, kids⟩, d, h => by
  simp only [X0, List.mem_cons, List.not_mem_nil, or_false] at h
  rcases h with rfl | rfl | rfl
  ·simp
  ·simp
  ·exact W6 (Z9d kids)
theorem Z9d : ∀ (l : List Q1), ∀ row ∈ Q89 l, ∀ d ∈ row, Free d
 | [], row, h, _, _ => by simp [Q89] at h
 | p :: l, row, h, d, hd => by
  rw [Q89, List.mem_cons] at h
  rcases h with rfl | h
  ·exact Q6y p d hd
  ·exact Z9d l row h d hd
end
@[simp] theorem Z6w (sz : Nat) (l : List Q1) : Free (.slice sz (List.map X0 l)) := W6 (Q7 Q6y l)
@[simp] theorem X7i (sz : Nat) (l : List Q1) (rows : List (List D)) (h : ∀ row ∈ rows, ∀ d ∈ row, Free d) : Free (.slice sz (List.map X0 l ++ rows)) := Q0p Q6y l h
@[simp] theorem X7m (sz sz2 : Nat) (l : List (List Q1)) : Free (.slice sz (List.map (rL sz2 X0) l)) := Q08 sz sz2 X0 (fun l => Z6w sz2 l) l
structure Q0 where
 op : Int
 ctor : Int
 n : Int
 m : Int
 var : Int
 kids : List Q0
 deriving Inhabited
mutual
def Q8 : Q0 → List D
 | ⟨op, ctor, n, m, var, kids⟩ => [(eI op), (eI ctor), (eI n), (eI m), (eI var), .slice 6 (Q5o kids)]
def Q5o : List Q0 → List (List D)
 | [] => []
 | x :: l => Q8 x :: Q5o l
end
theorem Z1c : ∀ l, Q5o l = List.map Q8 l
 | [] => by simp [Q5o]
 | x :: l => by simp [Q5o, Z1c l]
@[simp] theorem X2h (x : Q0) : Q8 x = [(eI x.op), (eI x.ctor), (eI x.n), (eI x.m), (eI x.var), (.slice 6 (List.map Q8 x.kids))] := by cases x; simp [Q8, Z1c]
mutual
theorem Q4t : ∀ (x : Q0), ∀ d ∈ Q8 x, Free d
 | ⟨op, ctor, n, m, var, kids⟩, d, h => by
  simp only [Q8, List.mem_cons, List.not_mem_nil, or_false] at h
  rcases h with rfl | rfl | rfl | rfl | rfl | rfl
  ·simp
  ·simp
  ·simp
  ·simp
  ·simp
  ·exact W6 (Z4w kids)
theorem Z4w : ∀ (l : List Q0), ∀ row ∈ Q5o l, ∀ d ∈ row, Free d
 | [], row, h, _, _ => by simp [Q5o] at h
 | p :: l, row, h, d, hd => by
  rw [Q5o, List.mem_cons] at h
  rcases h with rfl | h
  ·exact Q4t p d hd
  ·exact Z4w l row h d hd
end
@[simp] theorem Z41 (sz : Nat) (l : List Q0) : Free (.slice sz (List.map Q8 l)) := W6 (Q7 Q4t l)
@[simp] theorem X45 (sz : Nat) (l : List Q0) (rows : List (List D)) (h : ∀ row ∈ rows, ∀ d ∈ row, Free d) : Free (.slice sz (List.map Q8 l ++ rows)) := Q0p Q4t l h
@[simp] theorem X47 (sz sz2 : Nat) (l : List (List Q0)) : Free (.slice sz (List.map (rL sz2 Q8) l)) := Q08 sz sz2 Q8 (fun l => Z41 sz2 l) l
structure Grow where
 clause : Int
 pats : List Q0
 binds : List Q2
 deriving Inhabited
def Q41 (x : Grow) : List D := [(eI x.clause), (.slice 6 (List.map Q8 x.pats)), (.slice 2 (List.map Z3 x.binds))]
@[simp] theorem V7m (x : Grow) : Q41 x = [(eI x.clause), (.slice 6 (List.map Q8 x.pats)), (.slice 2 (List.map Z3 x.binds))] := rfl
theorem Z6y (x : Grow) : ∀ d ∈ Q41 x, Free d := by simp
@[simp] theorem X0k (sz : Nat) (l : List Grow) : Free (.slice sz (List.map Q41 l)) := W6 (Q7 Z6y l)
@[simp] theorem W0p (sz : Nat) (l : List Grow) (rows : List (List D)) (h : ∀ row ∈ rows, ∀ d ∈ row, Free d) : Free (.slice sz (List.map Q41 l ++ rows)) := Q0p Z6y l h
@[simp] theorem W0q (sz sz2 : Nat) (l : List (List Grow)) : Free (.slice sz (List.map (rL sz2 Q41) l)) := Q08 sz sz2 Q41 (fun l => X0k sz2 l) l
structure Q2q where
 op : Int
 var : Int
 n : Int
 deriving Inhabited
def Q74 (x : Q2q) : List D := [(eI x.op), (eI x.var), (eI x.n)]
@[simp] theorem V26 (x : Q2q) : Q74 x = [(eI x.op), (eI x.var), (eI x.n)] := rfl
theorem Z71 (x : Q2q) : ∀ d ∈ Q74 x, Free d := by simp
@[simp] theorem Z6x (sz : Nat) (l : List Q2q) : Free (.slice sz (List.map Q74 l)) := W6 (Q7 Z71 l)
@[simp] theorem X7j (sz : Nat) (l : List Q2q) (rows : List (List D)) (h : ∀ row ∈ rows, ∀ d ∈ row, Free d) : Free (.slice sz (List.map Q74 l ++ rows)) := Q0p Z71 l h
@[simp] theorem X7n (sz sz2 : Nat) (l : List (List Q2q)) : Free (.slice sz (List.map (rL sz2 Q74) l)) := Q08 sz sz2 Q74 (fun l => Z6x sz2 l) l
structure Q6 where
 pat : Q0
 guard : Q2q
 deriving Inhabited
def V0 (x : Q6) : List D := [(eI x.pat.op), (eI x.pat.ctor), (eI x.pat.n), (eI x.pat.m), (eI x.pat.var), (.slice 6 (List.map Q8 x.pat.kids)), (eI x.guard.op), (eI x.guard.var), (eI x.guard.n)]
@[simp] theorem X4p (x : Q6) : V0 x = [(eI x.pat.op), (eI x.pat.ctor), (eI x.pat.n), (eI x.pat.m), (eI x.pat.var), (.slice 6 (List.map Q8 x.pat.kids)), (eI x.guard.op), (eI x.guard.var), (eI x.guard.n)] := rfl
theorem Q6n (x : Q6) : ∀ d ∈ V0 x, Free d := by simp
@[simp] theorem Z5d (sz : Nat) (l : List Q6) : Free (.slice sz (List.map V0 l)) := W6 (Q7 Q6n l)
@[simp] theorem X5a (sz : Nat) (l : List Q6) (rows : List (List D)) (h : ∀ row ∈ rows, ∀ d ∈ row, Free d) : Free (.slice sz (List.map V0 l ++ rows)) := Q0p Q6n l h
@[simp] theorem X5e (sz sz2 : Nat) (l : List (List Q6)) : Free (.slice sz (List.map (rL sz2 V0) l)) := Q08 sz sz2 V0 (fun l => Z5d sz2 l) l
structure Q70 where
 name : ByteArray
 args : List Q5
 index : Int
 deriving Inhabited
def Q61 (x : Q70) : List D := [(eS x.name), (.slice 2 (List.map X7 x.args)), (eI x.index)]
@[simp] theorem W1w (x : Q70) : Q61 x = [(eS x.name), (.slice 2 (List.map X7 x.args)), (eI x.index)] := rfl
theorem Q9h (x : Q70) : ∀ d ∈ Q61 x, Free d := by simp
@[simp] theorem Z8g (sz : Nat) (l : List Q70) : Free (.slice sz (List.map Q61 l)) := W6 (Q7 Q9h l)
@[simp] theorem X9l (sz : Nat) (l : List Q70) (rows : List (List D)) (h : ∀ row ∈ rows, ∀ d ∈ row, Free d) : Free (.slice sz (List.map Q61 l ++ rows)) := Q0p Q9h l h
@[simp] theorem X9r (sz sz2 : Nat) (l : List (List Q70)) : Free (.slice sz (List.map (rL sz2 Q61) l)) := Q08 sz sz2 Q61 (fun l => Z8g sz2 l) l
structure Q3 where
 name : ByteArray
 ctors : List Q70
 deriving Inhabited
def X9 (x : Q3) : List D := [(eS x.name), (.slice 3 (List.map Q61 x.ctors))]
@[simp] theorem W1v (x : Q3) : X9 x = [(eS x.name), (.slice 3 (List.map Q61 x.ctors))] := rfl
theorem Q9g (x : Q3) : ∀ d ∈ X9 x, Free d := by simp
@[simp] theorem Z8f (sz : Nat) (l : List Q3) : Free (.slice sz (List.map X9 l)) := W6 (Q7 Q9g l)
@[simp] theorem X9k (sz : Nat) (l : List Q3) (rows : List (List D)) (h : ∀ row ∈ rows, ∀ d ∈ row, Free d) : Free (.slice sz (List.map X9 l ++ rows)) := Q0p Q9g l h
@[simp] theorem X9q (sz sz2 : Nat) (l : List (List Q3)) : Free (.slice sz (List.map (rL sz2 X9) l)) := Q08 sz sz2 X9 (fun l => Z8f sz2 l) l
structure Q9u where
 w : List Q3
 d : List Int
 deriving Inhabited
def Q6p (x : Q9u) : List D := [(.slice 2 (List.map X9 x.w)), (.cptr (List.map cI x.d))]
@[simp] theorem V0b (x : Q9u) : Q6p x = [(.slice 2 (List.map X9 x.w)), (.cptr (List.map cI x.d))] := rfl
theorem Z42 (x : Q9u) : ∀ d ∈ Q6p x, Free d := by simp
@[simp] theorem Z5b (sz : Nat) (l : List Q9u) : Free (.slice sz (List.map Q6p l)) := W6 (Q7 Z42 l)
@[simp] theorem X58 (sz : Nat) (l : List Q9u) (rows : List (List D)) (h : ∀ row ∈ rows, ∀ d ∈ row, Free d) : Free (.slice sz (List.map Q6p l ++ rows)) := Q0p Z42 l h
@[simp] theorem X5c (sz sz2 : Nat) (l : List (List Q9u)) : Free (.slice sz (List.map (rL sz2 Q6p) l)) := Q08 sz sz2 Q6p (fun l => Z5b sz2 l) l
structure Z8 where
 spaces : Q9u
 list : List Q6
 pick : Int
 count : Int
 deriving Inhabited
def Y1 (x : Z8) : List D := [(.cptr (Q6p x.spaces)), (.slice 9 (List.map V0 x.list)), (eI x.pick), (eI x.count)]
@[simp] theorem W4d (x : Z8) : Y1 x = [(.cptr (Q6p x.spaces)), (.slice 9 (List.map V0 x.list)), (eI x.pick), (eI x.count)] := rfl
theorem Q9e (x : Z8) : ∀ d ∈ Y1 x, Free d := by simp
@[simp] theorem Z1w (sz : Nat) (l : List Z8) : Free (.slice sz (List.map Y1 l)) := W6 (Q7 Q9e l)
@[simp] theorem X1d (sz : Nat) (l : List Z8) (rows : List (List D)) (h : ∀ row ∈ rows, ∀ d ∈ row, Free d) : Free (.slice sz (List.map Y1 l ++ rows)) := Q0p Q9e l h
@[simp] theorem X1e (sz sz2 : Nat) (l : List (List Z8)) : Free (.slice sz (List.map (rL sz2 Y1) l)) := Q08 sz sz2 Y1 (fun l => Z1w sz2 l) l
structure Z6 where
 path : List Int
 t : Q5
 deriving Inhabited
def Q15 (x : Z6) : List D := [(.slice 1 (List.map rI x.path)), (eI x.t.data), (eI x.t.index)]
@[simp] theorem V0c (x : Z6) : Q15 x = [(.slice 1 (List.map rI x.path)), (eI x.t.data), (eI x.t.index)] := rfl
theorem Z43 (x : Z6) : ∀ d ∈ Q15 x, Free d := by simp
@[simp] theorem Z5c (sz : Nat) (l : List Z6) : Free (.slice sz (List.map Q15 l)) := W6 (Q7 Z43 l)
@[simp] theorem X59 (sz : Nat) (l : List Z6) (rows : List (List D)) (h : ∀ row ∈ rows, ∀ d ∈ row, Free d) : Free (.slice sz (List.map Q15 l ++ rows)) := Q0p Z43 l h
@[simp] theorem X5d (sz sz2 : Nat) (l : List (List Z6)) : Free (.slice sz (List.map (rL sz2 Q15) l)) := Q08 sz sz2 Q15 (fun l => Z5c sz2 l) l
structure J7 where
 var : Int
 value : Q1
 deriving Inhabited
def Q5p (x : J7) : List D := [(eI x.var), (eI x.value.ctor), (eI x.value.n), (.slice 3 (List.map X0 x.value.kids))]
@[simp] theorem V58 (x : J7) : Q5p x = [(eI x.var), (eI x.value.ctor), (eI x.value.n), (.slice 3 (List.map X0 x.value.kids))] := rfl
theorem Q9i (x : J7) : ∀ d ∈ Q5p x, Free d := by simp
@[simp] theorem Z8h (sz : Nat) (l : List J7) : Free (.slice sz (List.map Q5p l)) := W6 (Q7 Q9i l)
@[simp] theorem X9m (sz : Nat) (l : List J7) (rows : List (List D)) (h : ∀ row ∈ rows, ∀ d ∈ row, Free d) : Free (.slice sz (List.map Q5p l ++ rows)) := Q0p Q9i l h
@[simp] theorem X9s (sz sz2 : Nat) (l : List (List J7)) : Free (.slice sz (List.map (rL sz2 Q5p) l)) := Q08 sz sz2 Q5p (fun l => Z8h sz2 l) l
structure Z7 where
 b : List Int
 p : Int
 deriving Inhabited
def Y0 (x : Z7) : List D := [(.slice 1 (List.map (rK .u8) x.b)), (eI x.p)]
@[simp] theorem V25 (x : Z7) : Y0 x = [(.slice 1 (List.map (rK .u8) x.b)), (eI x.p)] := rfl
theorem Z70 (x : Z7) : ∀ d ∈ Y0 x, Free d := by simp
@[simp] theorem Z6v (sz : Nat) (l : List Z7) : Free (.slice sz (List.map Y0 l)) := W6 (Q7 Z70 l)
@[simp] theorem X7h (sz : Nat) (l : List Z7) (rows : List (List D)) (h : ∀ row ∈ rows, ∀ d ∈ row, Free d) : Free (.slice sz (List.map Y0 l ++ rows)) := Q0p Z70 l h
@[simp] theorem X7l (sz sz2 : Nat) (l : List (List Z7)) : Free (.slice sz (List.map (rL sz2 Y0) l)) := Q08 sz sz2 Y0 (fun l => Z6v sz2 l) l
structure Y8 where
 path : List Int
 kind : Q5
 deriving Inhabited
def Q1h (x : Y8) : List D := [(.slice 1 (List.map rI x.path)), (eI x.kind.data), (eI x.kind.index)]
@[simp] theorem W65 (x : Y8) : Q1h x = [(.slice 1 (List.map rI x.path)), (eI x.kind.data), (eI x.kind.index)] := rfl
theorem Z0g (x : Y8) : ∀ d ∈ Q1h x, Free d := by simp
@[simp] theorem Z34 (sz : Nat) (l : List Y8) : Free (.slice sz (List.map Q1h l)) := W6 (Q7 Z0g l)
@[simp] theorem X33 (sz : Nat) (l : List Y8) (rows : List (List D)) (h : ∀ row ∈ rows, ∀ d ∈ row, Free d) : Free (.slice sz (List.map Q1h l ++ rows)) := Q0p Z0g l h
@[simp] theorem X35 (sz sz2 : Nat) (l : List (List Y8)) : Free (.slice sz (List.map (rL sz2 Q1h) l)) := Q08 sz sz2 Q1h (fun l => Z34 sz2 l) l
structure V4 where
 clause : Int
 pats : List Q0
 binds : List Q2
 deriving Inhabited
def Q1n (x : V4) : List D := [(eI x.clause), (.slice 6 (List.map Q8 x.pats)), (.slice 2 (List.map Z3 x.binds))]
@[simp] theorem V24 (x : V4) : Q1n x = [(eI x.clause), (.slice 6 (List.map Q8 x.pats)), (.slice 2 (List.map Z3 x.binds))] := rfl
theorem Z6z (x : V4) : ∀ d ∈ Q1n x, Free d := by simp
@[simp] theorem Z6u (sz : Nat) (l : List V4) : Free (.slice sz (List.map Q1n l)) := W6 (Q7 Z6z l)
@[simp] theorem X7g (sz : Nat) (l : List V4) (rows : List (List D)) (h : ∀ row ∈ rows, ∀ d ∈ row, Free d) : Free (.slice sz (List.map Q1n l ++ rows)) := Q0p Z6z l h
@[simp] theorem X7k (sz sz2 : Nat) (l : List (List V4)) : Free (.slice sz (List.map (rL sz2 Q1n) l)) := Q08 sz sz2 Q1n (fun l => Z6u sz2 l) l
structure Q9 where
 var : Int
 typ : Q5
 deriving Inhabited
def V5 (x : Q9) : List D := [(eI x.var), (eI x.typ.data), (eI x.typ.index)]
@[simp] theorem W90 (x : Q9) : V5 x = [(eI x.var), (eI x.typ.data), (eI x.typ.index)] := rfl
theorem Q5n (x : Q9) : ∀ d ∈ V5 x, Free d := by simp
@[simp] theorem Z40 (sz : Nat) (l : List Q9) : Free (.slice sz (List.map V5 l)) := W6 (Q7 Q5n l)
@[simp] theorem X44 (sz : Nat) (l : List Q9) (rows : List (List D)) (h : ∀ row ∈ rows, ∀ d ∈ row, Free d) : Free (.slice sz (List.map V5 l ++ rows)) := Q0p Q5n l h
@[simp] theorem X46 (sz sz2 : Nat) (l : List (List Q9)) : Free (.slice sz (List.map (rL sz2 V5) l)) := Q08 sz sz2 V5 (fun l => Z40 sz2 l) l
end Go.Proofs.YtbdkbdafhlcilaaGreat
