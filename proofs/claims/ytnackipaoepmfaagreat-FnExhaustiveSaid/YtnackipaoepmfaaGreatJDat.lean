import Derived.Test.YtnackipaoepmfaaGreatJE1
set_option linter.unusedSimpArgs false
set_option linter.unusedVariables false
namespace Go.Proofs.YtnackipaoepmfaaGreat
open Go Go.RowKit
theorem free_rows_of {α : Type} {f : α → List D} (h : ∀ x, ∀ d ∈ f x, Free d) (l : List α) : ∀ row ∈ List.map f l, ∀ d ∈ row, Free d := fun row hr d hd => by
  simp only [List.mem_map] at hr
  obtain ⟨x, _, rfl⟩ := hr
  exact h x d hd
abbrev eI (n : Int) : D := .val (.int .i64 n)
abbrev eB (b : Bool) : D := .val (.bool b)
abbrev eS (s : ByteArray) : D := .val (.string s)
abbrev cI : Int → D := fun n => .val (.int .i64 n)
abbrev cB : Bool → D := fun n => .val (.bool n)
def rI (n : Int) : List D := [eI n]
def rK (k : IntKind) (n : Int) : List D := [.val (.int k n)]
def rB (n : Bool) : List D := [eB n]
def rS (n : ByteArray) : List D := [eS n]
def rL {α : Type} (sz : Nat) (r : α → List D) (l : List α) : List D := [.slice sz (List.map r l)]
@[simp] theorem rI_eq (n : Int) : rI n = [eI n] := rfl
@[simp] theorem free_sl_rI (sz : Nat) (l : List Int) : Free (.slice sz (List.map (rI) l)) := free_slice (fun row hr d hd => by simp only [List.mem_map] at hr; obtain ⟨x, _, rfl⟩ := hr; simp at hd; subst hd; exact free_val _)
@[simp] theorem rK_eq (k : IntKind) (n : Int) : rK k n = [.val (.int k n)] := rfl
@[simp] theorem free_sl_rK (k : IntKind) (sz : Nat) (l : List Int) : Free (.slice sz (List.map (rK k) l)) := free_slice (fun row hr d hd => by simp only [List.mem_map] at hr; obtain ⟨x, _, rfl⟩ := hr; simp at hd; subst hd; exact free_val _)
@[simp] theorem rB_eq (n : Bool) : rB n = [eB n] := rfl
@[simp] theorem free_sl_rB (sz : Nat) (l : List Bool) : Free (.slice sz (List.map (rB) l)) := free_slice (fun row hr d hd => by simp only [List.mem_map] at hr; obtain ⟨x, _, rfl⟩ := hr; simp at hd; subst hd; exact free_val _)
@[simp] theorem rS_eq (n : ByteArray) : rS n = [eS n] := rfl
@[simp] theorem free_sl_rS (sz : Nat) (l : List ByteArray) : Free (.slice sz (List.map (rS) l)) := free_slice (fun row hr d hd => by simp only [List.mem_map] at hr; obtain ⟨x, _, rfl⟩ := hr; simp at hd; subst hd; exact free_val _)
@[simp] theorem rL_eq {α : Type} (sz : Nat) (r : α → List D) (l : List α) : rL sz r l = [.slice sz (List.map r l)] := rfl
theorem free_sl_rL {α : Type} (sz sz2 : Nat) (r : α → List D) (h : ∀ l, Free (.slice sz2 (List.map r l))) (l : List (List α)) : Free (.slice sz (List.map (rL sz2 r) l)) := free_slice (fun row hr d hd => by simp only [List.mem_map] at hr; obtain ⟨x, _, rfl⟩ := hr; simp at hd; subst hd; exact h x)
@[simp] theorem free_sl_cons (sz : Nat) (row : List D) (rows : List (List D)) (h : ∀ r ∈ row :: rows, ∀ d ∈ r, Free d) : Free (.slice sz (row :: rows)) := free_slice h
@[simp] theorem free_sl_nil (sz : Nat) : Free (.slice sz []) := free_slice (fun _ h => by simp at h)
@[simp] theorem free_agg_s {ds : List D} (h : ∀ d ∈ ds, Free d) : Free (.agg ds) := free_agg h
@[simp] theorem free_tup_s {ds : List D} (h : ∀ d ∈ ds, Free d) : Free (.tup ds) := free_tup h
@[simp] theorem free_cptr_s {ds : List D} (h : ∀ d ∈ ds, Free d) : Free (.cptr ds) := free_cptr h
@[simp] theorem free_clos_s {f : FuncId} {ds : List D} (h : ∀ d ∈ ds, Free d) : Free (.clos f ds) := free_clos h
@[simp] theorem free_any_s : Free .any := free_any
theorem free_slapp {sz : Nat} {α : Type} {r : α → List D} (hr : ∀ x, ∀ d ∈ r x, Free d) (xs : List α) {rows : List (List D)} (h : ∀ row ∈ rows, ∀ d ∈ row, Free d) : Free (.slice sz (List.map r xs ++ rows)) := free_sl_app hr h
@[simp] theorem free_agg_cI (l : List Int) : Free (.agg (List.map cI l)) := free_agg fun d h => by simp only [List.mem_map] at h; obtain ⟨x, _, rfl⟩ := h; exact free_val _
@[simp] theorem free_agg_cB (l : List Bool) : Free (.agg (List.map cB l)) := free_agg fun d h => by simp only [List.mem_map] at h; obtain ⟨x, _, rfl⟩ := h; exact free_val _
@[simp] theorem free_map_cI (l : List Int) : ∀ d ∈ List.map cI l, Free d := fun d h => by simp only [List.mem_map] at h; obtain ⟨x, _, rfl⟩ := h; exact free_val _
@[simp] theorem free_map_cB (l : List Bool) : ∀ d ∈ List.map cB l, Free d := fun d h => by simp only [List.mem_map] at h; obtain ⟨x, _, rfl⟩ := h; exact free_val _
@[simp] theorem free_sl_rL_rI (sz sz2 : Nat) (l : List (List Int)) : Free (.slice sz (List.map (rL sz2 rI) l)) := free_sl_rL sz sz2 rI (fun l => free_sl_rI sz2 l) l
@[simp] theorem free_sl_rL_rS (sz sz2 : Nat) (l : List (List ByteArray)) : Free (.slice sz (List.map (rL sz2 rS) l)) := free_sl_rL sz sz2 rS (fun l => free_sl_rS sz2 l) l
@[simp] theorem free_sl_rL_rB (sz sz2 : Nat) (l : List (List Bool)) : Free (.slice sz (List.map (rL sz2 rB) l)) := free_sl_rL sz sz2 rB (fun l => free_sl_rB sz2 l) l
structure GType where
  data : Int
  index : Int
  deriving Inhabited
def rGType (x : GType) : List D := [(eI x.data), (eI x.index)]
@[simp] theorem rGType_eq (x : GType) : rGType x = [(eI x.data), (eI x.index)] := rfl
theorem fr_GType (x : GType) : ∀ d ∈ rGType x, Free d := by simp
@[simp] theorem free_sl_rGType (sz : Nat) (l : List GType) : Free (.slice sz (List.map rGType l)) := free_slice (free_rows_of fr_GType l)
@[simp] theorem free_slapp_rGType (sz : Nat) (l : List GType) (rows : List (List D)) (h : ∀ row ∈ rows, ∀ d ∈ row, Free d) : Free (.slice sz (List.map rGType l ++ rows)) := free_slapp fr_GType l h
@[simp] theorem free_sl_rL_rGType (sz sz2 : Nat) (l : List (List GType)) : Free (.slice sz (List.map (rL sz2 rGType) l)) := free_sl_rL sz sz2 rGType (fun l => free_sl_rGType sz2 l) l
structure GValue where
  ctor : Int
  n : Int
  kids : List GValue
  deriving Inhabited
mutual
def rGValue : GValue → List D
  | ⟨ctor, n, kids⟩ => [(eI ctor), (eI n), .slice 3 (rGValues kids)]
def rGValues : List GValue → List (List D)
  | [] => []
  | x :: l => rGValue x :: rGValues l
end
theorem rGValues_map : ∀ l, rGValues l = List.map rGValue l
  | [] => by simp [rGValues]
  | x :: l => by simp [rGValues, rGValues_map l]
@[simp] theorem rGValue_eq (x : GValue) : rGValue x = [(eI x.ctor), (eI x.n), (.slice 3 (List.map rGValue x.kids))] := by cases x; simp [rGValue, rGValues_map]
mutual
theorem fr_GValue : ∀ (x : GValue), ∀ d ∈ rGValue x, Free d
  | ⟨ctor, n, kids⟩, d, h => by
    simp only [rGValue, List.mem_cons, List.not_mem_nil, or_false] at h
    rcases h with rfl | rfl | rfl
    · simp
    · simp
    · exact free_slice (fr_GValues kids)
theorem fr_GValues : ∀ (l : List GValue), ∀ row ∈ rGValues l, ∀ d ∈ row, Free d
  | [], row, h, _, _ => by simp [rGValues] at h
  | p :: l, row, h, d, hd => by
    rw [rGValues, List.mem_cons] at h
    rcases h with rfl | h
    · exact fr_GValue p d hd
    · exact fr_GValues l row h d hd
end
@[simp] theorem free_sl_rGValue (sz : Nat) (l : List GValue) : Free (.slice sz (List.map rGValue l)) := free_slice (free_rows_of fr_GValue l)
@[simp] theorem free_slapp_rGValue (sz : Nat) (l : List GValue) (rows : List (List D)) (h : ∀ row ∈ rows, ∀ d ∈ row, Free d) : Free (.slice sz (List.map rGValue l ++ rows)) := free_slapp fr_GValue l h
@[simp] theorem free_sl_rL_rGValue (sz sz2 : Nat) (l : List (List GValue)) : Free (.slice sz (List.map (rL sz2 rGValue) l)) := free_sl_rL sz sz2 rGValue (fun l => free_sl_rGValue sz2 l) l
structure GPattern where
  op : Int
  ctor : Int
  n : Int
  m : Int
  var : Int
  kids : List GPattern
  deriving Inhabited
mutual
def rGPattern : GPattern → List D
  | ⟨op, ctor, n, m, var, kids⟩ => [(eI op), (eI ctor), (eI n), (eI m), (eI var), .slice 6 (rGPatterns kids)]
def rGPatterns : List GPattern → List (List D)
  | [] => []
  | x :: l => rGPattern x :: rGPatterns l
end
theorem rGPatterns_map : ∀ l, rGPatterns l = List.map rGPattern l
  | [] => by simp [rGPatterns]
  | x :: l => by simp [rGPatterns, rGPatterns_map l]
@[simp] theorem rGPattern_eq (x : GPattern) : rGPattern x = [(eI x.op), (eI x.ctor), (eI x.n), (eI x.m), (eI x.var), (.slice 6 (List.map rGPattern x.kids))] := by cases x; simp [rGPattern, rGPatterns_map]
mutual
theorem fr_GPattern : ∀ (x : GPattern), ∀ d ∈ rGPattern x, Free d
  | ⟨op, ctor, n, m, var, kids⟩, d, h => by
    simp only [rGPattern, List.mem_cons, List.not_mem_nil, or_false] at h
    rcases h with rfl | rfl | rfl | rfl | rfl | rfl
    · simp
    · simp
    · simp
    · simp
    · simp
    · exact free_slice (fr_GPatterns kids)
theorem fr_GPatterns : ∀ (l : List GPattern), ∀ row ∈ rGPatterns l, ∀ d ∈ row, Free d
  | [], row, h, _, _ => by simp [rGPatterns] at h
  | p :: l, row, h, d, hd => by
    rw [rGPatterns, List.mem_cons] at h
    rcases h with rfl | h
    · exact fr_GPattern p d hd
    · exact fr_GPatterns l row h d hd
end
@[simp] theorem free_sl_rGPattern (sz : Nat) (l : List GPattern) : Free (.slice sz (List.map rGPattern l)) := free_slice (free_rows_of fr_GPattern l)
@[simp] theorem free_slapp_rGPattern (sz : Nat) (l : List GPattern) (rows : List (List D)) (h : ∀ row ∈ rows, ∀ d ∈ row, Free d) : Free (.slice sz (List.map rGPattern l ++ rows)) := free_slapp fr_GPattern l h
@[simp] theorem free_sl_rL_rGPattern (sz sz2 : Nat) (l : List (List GPattern)) : Free (.slice sz (List.map (rL sz2 rGPattern) l)) := free_sl_rL sz sz2 rGPattern (fun l => free_sl_rGPattern sz2 l) l
structure GGuard where
  op : Int
  var : Int
  n : Int
  deriving Inhabited
def rGGuard (x : GGuard) : List D := [(eI x.op), (eI x.var), (eI x.n)]
@[simp] theorem rGGuard_eq (x : GGuard) : rGGuard x = [(eI x.op), (eI x.var), (eI x.n)] := rfl
theorem fr_GGuard (x : GGuard) : ∀ d ∈ rGGuard x, Free d := by simp
@[simp] theorem free_sl_rGGuard (sz : Nat) (l : List GGuard) : Free (.slice sz (List.map rGGuard l)) := free_slice (free_rows_of fr_GGuard l)
@[simp] theorem free_slapp_rGGuard (sz : Nat) (l : List GGuard) (rows : List (List D)) (h : ∀ row ∈ rows, ∀ d ∈ row, Free d) : Free (.slice sz (List.map rGGuard l ++ rows)) := free_slapp fr_GGuard l h
@[simp] theorem free_sl_rL_rGGuard (sz sz2 : Nat) (l : List (List GGuard)) : Free (.slice sz (List.map (rL sz2 rGGuard) l)) := free_sl_rL sz sz2 rGGuard (fun l => free_sl_rGGuard sz2 l) l
structure GClause where
  pat : GPattern
  guard : GGuard
  deriving Inhabited
def rGClause (x : GClause) : List D := [(eI x.pat.op), (eI x.pat.ctor), (eI x.pat.n), (eI x.pat.m), (eI x.pat.var), (.slice 6 (List.map rGPattern x.pat.kids)), (eI x.guard.op), (eI x.guard.var), (eI x.guard.n)]
@[simp] theorem rGClause_eq (x : GClause) : rGClause x = [(eI x.pat.op), (eI x.pat.ctor), (eI x.pat.n), (eI x.pat.m), (eI x.pat.var), (.slice 6 (List.map rGPattern x.pat.kids)), (eI x.guard.op), (eI x.guard.var), (eI x.guard.n)] := rfl
theorem fr_GClause (x : GClause) : ∀ d ∈ rGClause x, Free d := by simp
@[simp] theorem free_sl_rGClause (sz : Nat) (l : List GClause) : Free (.slice sz (List.map rGClause l)) := free_slice (free_rows_of fr_GClause l)
@[simp] theorem free_slapp_rGClause (sz : Nat) (l : List GClause) (rows : List (List D)) (h : ∀ row ∈ rows, ∀ d ∈ row, Free d) : Free (.slice sz (List.map rGClause l ++ rows)) := free_slapp fr_GClause l h
@[simp] theorem free_sl_rL_rGClause (sz sz2 : Nat) (l : List (List GClause)) : Free (.slice sz (List.map (rL sz2 rGClause) l)) := free_sl_rL sz sz2 rGClause (fun l => free_sl_rGClause sz2 l) l
structure GLType where
  data : Int
  index : Int
  deriving Inhabited
def rGLType (x : GLType) : List D := [(eI x.data), (eI x.index)]
@[simp] theorem rGLType_eq (x : GLType) : rGLType x = [(eI x.data), (eI x.index)] := rfl
theorem fr_GLType (x : GLType) : ∀ d ∈ rGLType x, Free d := by simp
@[simp] theorem free_sl_rGLType (sz : Nat) (l : List GLType) : Free (.slice sz (List.map rGLType l)) := free_slice (free_rows_of fr_GLType l)
@[simp] theorem free_slapp_rGLType (sz : Nat) (l : List GLType) (rows : List (List D)) (h : ∀ row ∈ rows, ∀ d ∈ row, Free d) : Free (.slice sz (List.map rGLType l ++ rows)) := free_slapp fr_GLType l h
@[simp] theorem free_sl_rL_rGLType (sz sz2 : Nat) (l : List (List GLType)) : Free (.slice sz (List.map (rL sz2 rGLType) l)) := free_sl_rL sz sz2 rGLType (fun l => free_sl_rGLType sz2 l) l
structure GPathBind where
  var : Int
  path : List Int
  deriving Inhabited
def rGPathBind (x : GPathBind) : List D := [(eI x.var), (.slice 1 (List.map rI x.path))]
@[simp] theorem rGPathBind_eq (x : GPathBind) : rGPathBind x = [(eI x.var), (.slice 1 (List.map rI x.path))] := rfl
theorem fr_GPathBind (x : GPathBind) : ∀ d ∈ rGPathBind x, Free d := by simp
@[simp] theorem free_sl_rGPathBind (sz : Nat) (l : List GPathBind) : Free (.slice sz (List.map rGPathBind l)) := free_slice (free_rows_of fr_GPathBind l)
@[simp] theorem free_slapp_rGPathBind (sz : Nat) (l : List GPathBind) (rows : List (List D)) (h : ∀ row ∈ rows, ∀ d ∈ row, Free d) : Free (.slice sz (List.map rGPathBind l ++ rows)) := free_slapp fr_GPathBind l h
@[simp] theorem free_sl_rL_rGPathBind (sz sz2 : Nat) (l : List (List GPathBind)) : Free (.slice sz (List.map (rL sz2 rGPathBind) l)) := free_sl_rL sz sz2 rGPathBind (fun l => free_sl_rGPathBind sz2 l) l
mutual
structure GBranch where
  ctor : Int
  n : Int
  m : Int
  tree : GTree
structure GTree where
  op : Int
  clause : Int
  binds : List GPathBind
  path : List Int
  branches : List GBranch
  else_ : List GTree
end
instance : Inhabited GTree := ⟨⟨default, default, [], [], [], []⟩⟩
instance : Inhabited GBranch := ⟨⟨default, default, default, default⟩⟩
mutual
def rGBranch : GBranch → List D
  | ⟨ctor, n, m, tree⟩ => [(eI ctor), (eI n), (eI m)] ++ rGTree tree
def rGBranchs : List GBranch → List (List D)
  | [] => []
  | x :: l => rGBranch x :: rGBranchs l
def rGTree : GTree → List D
  | ⟨op, clause, binds, path, branches, else_⟩ => [(eI op), (eI clause), (.slice 2 (List.map rGPathBind binds)), (.slice 1 (List.map rI path)), .slice 9 (rGBranchs branches), .slice 6 (rGTrees else_)]
def rGTrees : List GTree → List (List D)
  | [] => []
  | x :: l => rGTree x :: rGTrees l
end
theorem rGBranchs_map : ∀ l, rGBranchs l = List.map rGBranch l
  | [] => by simp [rGBranchs]
  | x :: l => by simp [rGBranchs, rGBranchs_map l]
theorem rGTrees_map : ∀ l, rGTrees l = List.map rGTree l
  | [] => by simp [rGTrees]
  | x :: l => by simp [rGTrees, rGTrees_map l]
@[simp] theorem rGTree_eq (x : GTree) : rGTree x = [(eI x.op), (eI x.clause), (.slice 2 (List.map rGPathBind x.binds)), (.slice 1 (List.map rI x.path)), (.slice 9 (List.map rGBranch x.branches)), (.slice 6 (List.map rGTree x.else_))] := by cases x; simp [rGTree, rGBranchs_map, rGTrees_map]
@[simp] theorem rGBranch_eq (x : GBranch) : rGBranch x = [(eI x.ctor), (eI x.n), (eI x.m), (eI x.tree.op), (eI x.tree.clause), (.slice 2 (List.map rGPathBind x.tree.binds)), (.slice 1 (List.map rI x.tree.path)), (.slice 9 (List.map rGBranch x.tree.branches)), (.slice 6 (List.map rGTree x.tree.else_))] := by cases x; simp [rGBranch, rGBranchs_map, rGTrees_map]
mutual
theorem fr_GBranch : ∀ (x : GBranch), ∀ d ∈ rGBranch x, Free d
  | ⟨ctor, n, m, tree⟩, d, h => by
    rw [rGBranch] at h
    simp only [List.mem_append] at h
    rcases h with h | h
    · simp only [List.mem_cons, List.not_mem_nil, or_false] at h
      rcases h with rfl | rfl | rfl
      · simp
      · simp
      · simp
    · exact fr_GTree tree d h
theorem fr_GBranchs : ∀ (l : List GBranch), ∀ row ∈ rGBranchs l, ∀ d ∈ row, Free d
  | [], row, h, _, _ => by simp [rGBranchs] at h
  | p :: l, row, h, d, hd => by
    rw [rGBranchs, List.mem_cons] at h
    rcases h with rfl | h
    · exact fr_GBranch p d hd
    · exact fr_GBranchs l row h d hd
theorem fr_GTree : ∀ (x : GTree), ∀ d ∈ rGTree x, Free d
  | ⟨op, clause, binds, path, branches, else_⟩, d, h => by
    rw [rGTree] at h
    simp only [List.mem_cons, List.not_mem_nil, or_false] at h
    rcases h with rfl | rfl | rfl | rfl | rfl | rfl
    · simp
    · simp
    · simp
    · simp
    · exact free_slice (fr_GBranchs branches)
    · exact free_slice (fr_GTrees else_)
theorem fr_GTrees : ∀ (l : List GTree), ∀ row ∈ rGTrees l, ∀ d ∈ row, Free d
  | [], row, h, _, _ => by simp [rGTrees] at h
  | p :: l, row, h, d, hd => by
    rw [rGTrees, List.mem_cons] at h
    rcases h with rfl | h
    · exact fr_GTree p d hd
    · exact fr_GTrees l row h d hd
end
@[simp] theorem free_sl_rGBranch (sz : Nat) (l : List GBranch) : Free (.slice sz (List.map rGBranch l)) := free_slice (free_rows_of fr_GBranch l)
@[simp] theorem free_slapp_rGBranch (sz : Nat) (l : List GBranch) (rows : List (List D)) (h : ∀ row ∈ rows, ∀ d ∈ row, Free d) : Free (.slice sz (List.map rGBranch l ++ rows)) := free_slapp fr_GBranch l h
@[simp] theorem free_sl_rL_rGBranch (sz sz2 : Nat) (l : List (List GBranch)) : Free (.slice sz (List.map (rL sz2 rGBranch) l)) := free_sl_rL sz sz2 rGBranch (fun l => free_sl_rGBranch sz2 l) l
@[simp] theorem free_sl_rGTree (sz : Nat) (l : List GTree) : Free (.slice sz (List.map rGTree l)) := free_slice (free_rows_of fr_GTree l)
@[simp] theorem free_slapp_rGTree (sz : Nat) (l : List GTree) (rows : List (List D)) (h : ∀ row ∈ rows, ∀ d ∈ row, Free d) : Free (.slice sz (List.map rGTree l ++ rows)) := free_slapp fr_GTree l h
@[simp] theorem free_sl_rL_rGTree (sz sz2 : Nat) (l : List (List GTree)) : Free (.slice sz (List.map (rL sz2 rGTree) l)) := free_sl_rL sz sz2 rGTree (fun l => free_sl_rGTree sz2 l) l
structure GBind where
  var : Int
  value : GValue
  deriving Inhabited
def rGBind (x : GBind) : List D := [(eI x.var), (eI x.value.ctor), (eI x.value.n), (.slice 3 (List.map rGValue x.value.kids))]
@[simp] theorem rGBind_eq (x : GBind) : rGBind x = [(eI x.var), (eI x.value.ctor), (eI x.value.n), (.slice 3 (List.map rGValue x.value.kids))] := rfl
theorem fr_GBind (x : GBind) : ∀ d ∈ rGBind x, Free d := by simp
@[simp] theorem free_sl_rGBind (sz : Nat) (l : List GBind) : Free (.slice sz (List.map rGBind l)) := free_slice (free_rows_of fr_GBind l)
@[simp] theorem free_slapp_rGBind (sz : Nat) (l : List GBind) (rows : List (List D)) (h : ∀ row ∈ rows, ∀ d ∈ row, Free d) : Free (.slice sz (List.map rGBind l ++ rows)) := free_slapp fr_GBind l h
@[simp] theorem free_sl_rL_rGBind (sz sz2 : Nat) (l : List (List GBind)) : Free (.slice sz (List.map (rL sz2 rGBind) l)) := free_sl_rL sz sz2 rGBind (fun l => free_sl_rGBind sz2 l) l
structure GLCtor where
  name : ByteArray
  args : List GLType
  index : Int
  deriving Inhabited
def rGLCtor (x : GLCtor) : List D := [(eS x.name), (.slice 2 (List.map rGLType x.args)), (eI x.index)]
@[simp] theorem rGLCtor_eq (x : GLCtor) : rGLCtor x = [(eS x.name), (.slice 2 (List.map rGLType x.args)), (eI x.index)] := rfl
theorem fr_GLCtor (x : GLCtor) : ∀ d ∈ rGLCtor x, Free d := by simp
@[simp] theorem free_sl_rGLCtor (sz : Nat) (l : List GLCtor) : Free (.slice sz (List.map rGLCtor l)) := free_slice (free_rows_of fr_GLCtor l)
@[simp] theorem free_slapp_rGLCtor (sz : Nat) (l : List GLCtor) (rows : List (List D)) (h : ∀ row ∈ rows, ∀ d ∈ row, Free d) : Free (.slice sz (List.map rGLCtor l ++ rows)) := free_slapp fr_GLCtor l h
@[simp] theorem free_sl_rL_rGLCtor (sz sz2 : Nat) (l : List (List GLCtor)) : Free (.slice sz (List.map (rL sz2 rGLCtor) l)) := free_sl_rL sz sz2 rGLCtor (fun l => free_sl_rGLCtor sz2 l) l
structure GLData where
  name : ByteArray
  ctors : List GLCtor
  deriving Inhabited
def rGLData (x : GLData) : List D := [(eS x.name), (.slice 3 (List.map rGLCtor x.ctors))]
@[simp] theorem rGLData_eq (x : GLData) : rGLData x = [(eS x.name), (.slice 3 (List.map rGLCtor x.ctors))] := rfl
theorem fr_GLData (x : GLData) : ∀ d ∈ rGLData x, Free d := by simp
@[simp] theorem free_sl_rGLData (sz : Nat) (l : List GLData) : Free (.slice sz (List.map rGLData l)) := free_slice (free_rows_of fr_GLData l)
@[simp] theorem free_slapp_rGLData (sz : Nat) (l : List GLData) (rows : List (List D)) (h : ∀ row ∈ rows, ∀ d ∈ row, Free d) : Free (.slice sz (List.map rGLData l ++ rows)) := free_slapp fr_GLData l h
@[simp] theorem free_sl_rL_rGLData (sz sz2 : Nat) (l : List (List GLData)) : Free (.slice sz (List.map (rL sz2 rGLData) l)) := free_sl_rL sz sz2 rGLData (fun l => free_sl_rGLData sz2 l) l
structure GLPattern where
  op : Int
  ctor : Int
  n : Int
  m : Int
  var : Int
  kids : List GLPattern
  deriving Inhabited
mutual
def rGLPattern : GLPattern → List D
  | ⟨op, ctor, n, m, var, kids⟩ => [(eI op), (eI ctor), (eI n), (eI m), (eI var), .slice 6 (rGLPatterns kids)]
def rGLPatterns : List GLPattern → List (List D)
  | [] => []
  | x :: l => rGLPattern x :: rGLPatterns l
end
theorem rGLPatterns_map : ∀ l, rGLPatterns l = List.map rGLPattern l
  | [] => by simp [rGLPatterns]
  | x :: l => by simp [rGLPatterns, rGLPatterns_map l]
@[simp] theorem rGLPattern_eq (x : GLPattern) : rGLPattern x = [(eI x.op), (eI x.ctor), (eI x.n), (eI x.m), (eI x.var), (.slice 6 (List.map rGLPattern x.kids))] := by cases x; simp [rGLPattern, rGLPatterns_map]
mutual
theorem fr_GLPattern : ∀ (x : GLPattern), ∀ d ∈ rGLPattern x, Free d
  | ⟨op, ctor, n, m, var, kids⟩, d, h => by
    simp only [rGLPattern, List.mem_cons, List.not_mem_nil, or_false] at h
    rcases h with rfl | rfl | rfl | rfl | rfl | rfl
    · simp
    · simp
    · simp
    · simp
    · simp
    · exact free_slice (fr_GLPatterns kids)
theorem fr_GLPatterns : ∀ (l : List GLPattern), ∀ row ∈ rGLPatterns l, ∀ d ∈ row, Free d
  | [], row, h, _, _ => by simp [rGLPatterns] at h
  | p :: l, row, h, d, hd => by
    rw [rGLPatterns, List.mem_cons] at h
    rcases h with rfl | h
    · exact fr_GLPattern p d hd
    · exact fr_GLPatterns l row h d hd
end
@[simp] theorem free_sl_rGLPattern (sz : Nat) (l : List GLPattern) : Free (.slice sz (List.map rGLPattern l)) := free_slice (free_rows_of fr_GLPattern l)
@[simp] theorem free_slapp_rGLPattern (sz : Nat) (l : List GLPattern) (rows : List (List D)) (h : ∀ row ∈ rows, ∀ d ∈ row, Free d) : Free (.slice sz (List.map rGLPattern l ++ rows)) := free_slapp fr_GLPattern l h
@[simp] theorem free_sl_rL_rGLPattern (sz sz2 : Nat) (l : List (List GLPattern)) : Free (.slice sz (List.map (rL sz2 rGLPattern) l)) := free_sl_rL sz sz2 rGLPattern (fun l => free_sl_rGLPattern sz2 l) l
structure GLGuard where
  op : Int
  var : Int
  n : Int
  deriving Inhabited
def rGLGuard (x : GLGuard) : List D := [(eI x.op), (eI x.var), (eI x.n)]
@[simp] theorem rGLGuard_eq (x : GLGuard) : rGLGuard x = [(eI x.op), (eI x.var), (eI x.n)] := rfl
theorem fr_GLGuard (x : GLGuard) : ∀ d ∈ rGLGuard x, Free d := by simp
@[simp] theorem free_sl_rGLGuard (sz : Nat) (l : List GLGuard) : Free (.slice sz (List.map rGLGuard l)) := free_slice (free_rows_of fr_GLGuard l)
@[simp] theorem free_slapp_rGLGuard (sz : Nat) (l : List GLGuard) (rows : List (List D)) (h : ∀ row ∈ rows, ∀ d ∈ row, Free d) : Free (.slice sz (List.map rGLGuard l ++ rows)) := free_slapp fr_GLGuard l h
@[simp] theorem free_sl_rL_rGLGuard (sz sz2 : Nat) (l : List (List GLGuard)) : Free (.slice sz (List.map (rL sz2 rGLGuard) l)) := free_sl_rL sz sz2 rGLGuard (fun l => free_sl_rGLGuard sz2 l) l
structure GLClause where
  pat : GLPattern
  guard : GLGuard
  deriving Inhabited
def rGLClause (x : GLClause) : List D := [(eI x.pat.op), (eI x.pat.ctor), (eI x.pat.n), (eI x.pat.m), (eI x.pat.var), (.slice 6 (List.map rGLPattern x.pat.kids)), (eI x.guard.op), (eI x.guard.var), (eI x.guard.n)]
@[simp] theorem rGLClause_eq (x : GLClause) : rGLClause x = [(eI x.pat.op), (eI x.pat.ctor), (eI x.pat.n), (eI x.pat.m), (eI x.pat.var), (.slice 6 (List.map rGLPattern x.pat.kids)), (eI x.guard.op), (eI x.guard.var), (eI x.guard.n)] := rfl
theorem fr_GLClause (x : GLClause) : ∀ d ∈ rGLClause x, Free d := by simp
@[simp] theorem free_sl_rGLClause (sz : Nat) (l : List GLClause) : Free (.slice sz (List.map rGLClause l)) := free_slice (free_rows_of fr_GLClause l)
@[simp] theorem free_slapp_rGLClause (sz : Nat) (l : List GLClause) (rows : List (List D)) (h : ∀ row ∈ rows, ∀ d ∈ row, Free d) : Free (.slice sz (List.map rGLClause l ++ rows)) := free_slapp fr_GLClause l h
@[simp] theorem free_sl_rL_rGLClause (sz sz2 : Nat) (l : List (List GLClause)) : Free (.slice sz (List.map (rL sz2 rGLClause) l)) := free_sl_rL sz sz2 rGLClause (fun l => free_sl_rGLClause sz2 l) l
structure GCtor where
  name : ByteArray
  args : List GType
  index : Int
  deriving Inhabited
def rGCtor (x : GCtor) : List D := [(eS x.name), (.slice 2 (List.map rGType x.args)), (eI x.index)]
@[simp] theorem rGCtor_eq (x : GCtor) : rGCtor x = [(eS x.name), (.slice 2 (List.map rGType x.args)), (eI x.index)] := rfl
theorem fr_GCtor (x : GCtor) : ∀ d ∈ rGCtor x, Free d := by simp
@[simp] theorem free_sl_rGCtor (sz : Nat) (l : List GCtor) : Free (.slice sz (List.map rGCtor l)) := free_slice (free_rows_of fr_GCtor l)
@[simp] theorem free_slapp_rGCtor (sz : Nat) (l : List GCtor) (rows : List (List D)) (h : ∀ row ∈ rows, ∀ d ∈ row, Free d) : Free (.slice sz (List.map rGCtor l ++ rows)) := free_slapp fr_GCtor l h
@[simp] theorem free_sl_rL_rGCtor (sz sz2 : Nat) (l : List (List GCtor)) : Free (.slice sz (List.map (rL sz2 rGCtor) l)) := free_sl_rL sz sz2 rGCtor (fun l => free_sl_rGCtor sz2 l) l
structure GData where
  name : ByteArray
  ctors : List GCtor
  deriving Inhabited
def rGData (x : GData) : List D := [(eS x.name), (.slice 3 (List.map rGCtor x.ctors))]
@[simp] theorem rGData_eq (x : GData) : rGData x = [(eS x.name), (.slice 3 (List.map rGCtor x.ctors))] := rfl
theorem fr_GData (x : GData) : ∀ d ∈ rGData x, Free d := by simp
@[simp] theorem free_sl_rGData (sz : Nat) (l : List GData) : Free (.slice sz (List.map rGData l)) := free_slice (free_rows_of fr_GData l)
@[simp] theorem free_slapp_rGData (sz : Nat) (l : List GData) (rows : List (List D)) (h : ∀ row ∈ rows, ∀ d ∈ row, Free d) : Free (.slice sz (List.map rGData l ++ rows)) := free_slapp fr_GData l h
@[simp] theorem free_sl_rL_rGData (sz sz2 : Nat) (l : List (List GData)) : Free (.slice sz (List.map (rL sz2 rGData) l)) := free_sl_rL sz sz2 rGData (fun l => free_sl_rGData sz2 l) l
structure Grow where
  clause : Int
  pats : List GPattern
  binds : List GPathBind
  deriving Inhabited
def rGrow (x : Grow) : List D := [(eI x.clause), (.slice 6 (List.map rGPattern x.pats)), (.slice 2 (List.map rGPathBind x.binds))]
@[simp] theorem rGrow_eq (x : Grow) : rGrow x = [(eI x.clause), (.slice 6 (List.map rGPattern x.pats)), (.slice 2 (List.map rGPathBind x.binds))] := rfl
theorem fr_Grow (x : Grow) : ∀ d ∈ rGrow x, Free d := by simp
@[simp] theorem free_sl_rGrow (sz : Nat) (l : List Grow) : Free (.slice sz (List.map rGrow l)) := free_slice (free_rows_of fr_Grow l)
@[simp] theorem free_slapp_rGrow (sz : Nat) (l : List Grow) (rows : List (List D)) (h : ∀ row ∈ rows, ∀ d ∈ row, Free d) : Free (.slice sz (List.map rGrow l ++ rows)) := free_slapp fr_Grow l h
@[simp] theorem free_sl_rL_rGrow (sz sz2 : Nat) (l : List (List Grow)) : Free (.slice sz (List.map (rL sz2 rGrow) l)) := free_sl_rL sz sz2 rGrow (fun l => free_sl_rGrow sz2 l) l
structure Gspaces where
  w : List GData
  d : List Int
  deriving Inhabited
def rGspaces (x : Gspaces) : List D := [(.slice 2 (List.map rGData x.w)), (.cptr (List.map cI x.d))]
@[simp] theorem rGspaces_eq (x : Gspaces) : rGspaces x = [(.slice 2 (List.map rGData x.w)), (.cptr (List.map cI x.d))] := rfl
theorem fr_Gspaces (x : Gspaces) : ∀ d ∈ rGspaces x, Free d := by simp
@[simp] theorem free_sl_rGspaces (sz : Nat) (l : List Gspaces) : Free (.slice sz (List.map rGspaces l)) := free_slice (free_rows_of fr_Gspaces l)
@[simp] theorem free_slapp_rGspaces (sz : Nat) (l : List Gspaces) (rows : List (List D)) (h : ∀ row ∈ rows, ∀ d ∈ row, Free d) : Free (.slice sz (List.map rGspaces l ++ rows)) := free_slapp fr_Gspaces l h
@[simp] theorem free_sl_rL_rGspaces (sz sz2 : Nat) (l : List (List Gspaces)) : Free (.slice sz (List.map (rL sz2 rGspaces) l)) := free_sl_rL sz sz2 rGspaces (fun l => free_sl_rGspaces sz2 l) l
structure Gcompiling where
  spaces : Gspaces
  list : List GClause
  pick : Int
  count : Int
  deriving Inhabited
def rGcompiling (x : Gcompiling) : List D := [(.cptr (rGspaces x.spaces)), (.slice 9 (List.map rGClause x.list)), (eI x.pick), (eI x.count)]
@[simp] theorem rGcompiling_eq (x : Gcompiling) : rGcompiling x = [(.cptr (rGspaces x.spaces)), (.slice 9 (List.map rGClause x.list)), (eI x.pick), (eI x.count)] := rfl
theorem fr_Gcompiling (x : Gcompiling) : ∀ d ∈ rGcompiling x, Free d := by simp
@[simp] theorem free_sl_rGcompiling (sz : Nat) (l : List Gcompiling) : Free (.slice sz (List.map rGcompiling l)) := free_slice (free_rows_of fr_Gcompiling l)
@[simp] theorem free_slapp_rGcompiling (sz : Nat) (l : List Gcompiling) (rows : List (List D)) (h : ∀ row ∈ rows, ∀ d ∈ row, Free d) : Free (.slice sz (List.map rGcompiling l ++ rows)) := free_slapp fr_Gcompiling l h
@[simp] theorem free_sl_rL_rGcompiling (sz sz2 : Nat) (l : List (List Gcompiling)) : Free (.slice sz (List.map (rL sz2 rGcompiling) l)) := free_sl_rL sz sz2 rGcompiling (fun l => free_sl_rGcompiling sz2 l) l
structure Gcolumn where
  path : List Int
  t : GType
  deriving Inhabited
def rGcolumn (x : Gcolumn) : List D := [(.slice 1 (List.map rI x.path)), (eI x.t.data), (eI x.t.index)]
@[simp] theorem rGcolumn_eq (x : Gcolumn) : rGcolumn x = [(.slice 1 (List.map rI x.path)), (eI x.t.data), (eI x.t.index)] := rfl
theorem fr_Gcolumn (x : Gcolumn) : ∀ d ∈ rGcolumn x, Free d := by simp
@[simp] theorem free_sl_rGcolumn (sz : Nat) (l : List Gcolumn) : Free (.slice sz (List.map rGcolumn l)) := free_slice (free_rows_of fr_Gcolumn l)
@[simp] theorem free_slapp_rGcolumn (sz : Nat) (l : List Gcolumn) (rows : List (List D)) (h : ∀ row ∈ rows, ∀ d ∈ row, Free d) : Free (.slice sz (List.map rGcolumn l ++ rows)) := free_slapp fr_Gcolumn l h
@[simp] theorem free_sl_rL_rGcolumn (sz sz2 : Nat) (l : List (List Gcolumn)) : Free (.slice sz (List.map (rL sz2 rGcolumn) l)) := free_sl_rL sz sz2 rGcolumn (fun l => free_sl_rGcolumn sz2 l) l
structure Gl17Rd where
  b : List Int
  p : Int
  deriving Inhabited
def rGl17Rd (x : Gl17Rd) : List D := [(.slice 1 (List.map (rK .u8) x.b)), (eI x.p)]
@[simp] theorem rGl17Rd_eq (x : Gl17Rd) : rGl17Rd x = [(.slice 1 (List.map (rK .u8) x.b)), (eI x.p)] := rfl
theorem fr_Gl17Rd (x : Gl17Rd) : ∀ d ∈ rGl17Rd x, Free d := by simp
@[simp] theorem free_sl_rGl17Rd (sz : Nat) (l : List Gl17Rd) : Free (.slice sz (List.map rGl17Rd l)) := free_slice (free_rows_of fr_Gl17Rd l)
@[simp] theorem free_slapp_rGl17Rd (sz : Nat) (l : List Gl17Rd) (rows : List (List D)) (h : ∀ row ∈ rows, ∀ d ∈ row, Free d) : Free (.slice sz (List.map rGl17Rd l ++ rows)) := free_slapp fr_Gl17Rd l h
@[simp] theorem free_sl_rL_rGl17Rd (sz sz2 : Nat) (l : List (List Gl17Rd)) : Free (.slice sz (List.map (rL sz2 rGl17Rd) l)) := free_sl_rL sz sz2 rGl17Rd (fun l => free_sl_rGl17Rd sz2 l) l
structure Gl7Column where
  path : List Int
  kind : GType
  deriving Inhabited
def rGl7Column (x : Gl7Column) : List D := [(.slice 1 (List.map rI x.path)), (eI x.kind.data), (eI x.kind.index)]
@[simp] theorem rGl7Column_eq (x : Gl7Column) : rGl7Column x = [(.slice 1 (List.map rI x.path)), (eI x.kind.data), (eI x.kind.index)] := rfl
theorem fr_Gl7Column (x : Gl7Column) : ∀ d ∈ rGl7Column x, Free d := by simp
@[simp] theorem free_sl_rGl7Column (sz : Nat) (l : List Gl7Column) : Free (.slice sz (List.map rGl7Column l)) := free_slice (free_rows_of fr_Gl7Column l)
@[simp] theorem free_slapp_rGl7Column (sz : Nat) (l : List Gl7Column) (rows : List (List D)) (h : ∀ row ∈ rows, ∀ d ∈ row, Free d) : Free (.slice sz (List.map rGl7Column l ++ rows)) := free_slapp fr_Gl7Column l h
@[simp] theorem free_sl_rL_rGl7Column (sz sz2 : Nat) (l : List (List Gl7Column)) : Free (.slice sz (List.map (rL sz2 rGl7Column) l)) := free_sl_rL sz sz2 rGl7Column (fun l => free_sl_rGl7Column sz2 l) l
structure Gl7Row where
  clause : Int
  pats : List GPattern
  binds : List GPathBind
  deriving Inhabited
def rGl7Row (x : Gl7Row) : List D := [(eI x.clause), (.slice 6 (List.map rGPattern x.pats)), (.slice 2 (List.map rGPathBind x.binds))]
@[simp] theorem rGl7Row_eq (x : Gl7Row) : rGl7Row x = [(eI x.clause), (.slice 6 (List.map rGPattern x.pats)), (.slice 2 (List.map rGPathBind x.binds))] := rfl
theorem fr_Gl7Row (x : Gl7Row) : ∀ d ∈ rGl7Row x, Free d := by simp
@[simp] theorem free_sl_rGl7Row (sz : Nat) (l : List Gl7Row) : Free (.slice sz (List.map rGl7Row l)) := free_slice (free_rows_of fr_Gl7Row l)
@[simp] theorem free_slapp_rGl7Row (sz : Nat) (l : List Gl7Row) (rows : List (List D)) (h : ∀ row ∈ rows, ∀ d ∈ row, Free d) : Free (.slice sz (List.map rGl7Row l ++ rows)) := free_slapp fr_Gl7Row l h
@[simp] theorem free_sl_rL_rGl7Row (sz sz2 : Nat) (l : List (List Gl7Row)) : Free (.slice sz (List.map (rL sz2 rGl7Row) l)) := free_sl_rL sz sz2 rGl7Row (fun l => free_sl_rGl7Row sz2 l) l
structure GVarType where
  var : Int
  typ : GType
  deriving Inhabited
def rGVarType (x : GVarType) : List D := [(eI x.var), (eI x.typ.data), (eI x.typ.index)]
@[simp] theorem rGVarType_eq (x : GVarType) : rGVarType x = [(eI x.var), (eI x.typ.data), (eI x.typ.index)] := rfl
theorem fr_GVarType (x : GVarType) : ∀ d ∈ rGVarType x, Free d := by simp
@[simp] theorem free_sl_rGVarType (sz : Nat) (l : List GVarType) : Free (.slice sz (List.map rGVarType l)) := free_slice (free_rows_of fr_GVarType l)
@[simp] theorem free_slapp_rGVarType (sz : Nat) (l : List GVarType) (rows : List (List D)) (h : ∀ row ∈ rows, ∀ d ∈ row, Free d) : Free (.slice sz (List.map rGVarType l ++ rows)) := free_slapp fr_GVarType l h
@[simp] theorem free_sl_rL_rGVarType (sz sz2 : Nat) (l : List (List GVarType)) : Free (.slice sz (List.map (rL sz2 rGVarType) l)) := free_sl_rL sz sz2 rGVarType (fun l => free_sl_rGVarType sz2 l) l
end Go.Proofs.YtnackipaoepmfaaGreat
