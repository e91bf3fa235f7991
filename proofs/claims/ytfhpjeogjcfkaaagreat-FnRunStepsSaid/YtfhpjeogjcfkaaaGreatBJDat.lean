import Derived.Test.YtfhpjeogjcfkaaaGreatBJE1
set_option linter.unusedSimpArgs false
set_option linter.unusedVariables false
namespace Go.Proofs.YtfhpjeogjcfkaaaGreat
open Go Go.RowKit
theorem Z0 {α:Type}{f:α→List D}(h:∀ x,∀ d∈f x,Free d)(l:List α):∀ row∈List.map f l,∀ d∈row,Free d:=fun row hr d hd=>by
 simp only [U10] at hr
 obtain ⟨x,_,rfl⟩:=hr
 exact h x d hd
abbrev eI (n:Int):D:=.val (.int .i64 n)
abbrev eB (b:Bool):D:=.val (.bool b)
abbrev eS (s:ByteArray):D:=.val (.string s)
abbrev cI:Int→D:=fun n=>.val (.int .i64 n)
abbrev cB:Bool→D:=fun n=>.val (.bool n)
def rI (n:Int):List D:=[eI n]
def rK (k:IntKind)(n:Int):List D:=[.val (.int k n)]
def rB (n:Bool):List D:=[eB n]
def rS (n:ByteArray):List D:=[eS n]
def rL {α:Type}(sz:Nat)(r:α→List D)(l:List α):List D:=[.slice sz (List.map r l)]
@[simp] theorem rI_eq (n:Int):rI n=[eI n]:=rfl
@[simp] theorem W68 (sz:Nat) (l:List Int):Free (.slice sz (List.map (rI) l)):=V0 (fun row hr d hd=>by simp only [U10] at hr;obtain ⟨x,_,rfl⟩:=hr;simp at hd;subst hd;exact Q5k _)
@[simp] theorem rK_eq (k:IntKind) (n:Int):rK k n=[.val (.int k n)]:=rfl
@[simp] theorem Y0x (k:IntKind) (sz:Nat) (l:List Int):Free (.slice sz (List.map (rK k) l)):=V0 (fun row hr d hd=>by simp only [U10] at hr;obtain ⟨x,_,rfl⟩:=hr;simp at hd;subst hd;exact Q5k _)
@[simp] theorem rB_eq (n:Bool):rB n=[eB n]:=rfl
@[simp] theorem W69 (sz:Nat) (l:List Bool):Free (.slice sz (List.map (rB) l)):=V0 (fun row hr d hd=>by simp only [U10] at hr;obtain ⟨x,_,rfl⟩:=hr;simp at hd;subst hd;exact Q5k _)
@[simp] theorem Y8w (n:ByteArray):rS n=[eS n]:=rfl
@[simp] theorem W5z (sz:Nat) (l:List ByteArray):Free (.slice sz (List.map (rS) l)):=V0 (fun row hr d hd=>by simp only [U10] at hr;obtain ⟨x,_,rfl⟩:=hr;simp at hd;subst hd;exact Q5k _)
@[simp] theorem rL_eq {α:Type} (sz:Nat) (r:α→List D) (l:List α):rL sz r l=[.slice sz (List.map r l)]:=rfl
theorem Q04 {α:Type}(sz sz2:Nat)(r:α→List D)(h:∀ l,Free (.slice sz2 (List.map r l)))(l:List (List α)):Free (.slice sz (List.map (rL sz2 r) l)):=V0 (fun row hr d hd=>by simp only [U10] at hr;obtain ⟨x,_,rfl⟩:=hr;simp at hd;subst hd;exact h x)
@[simp] theorem V7z (sz:Nat) (row:List D) (rows:List (List D)) (h:∀ r∈row::rows,∀ d∈r,Free d):Free (.slice sz (row::rows)):=V0 h
@[simp] theorem V9o (sz:Nat):Free (.slice sz []):=V0 (fun _ h=>by simp at h)
@[simp] theorem Y0z {ds:List D} (h:∀ d∈ds,Free d):Free (.agg ds):=Z9p h
@[simp] theorem Y0w {ds:List D} (h:∀ d∈ds,Free d):Free (.tup ds):=V5u h
@[simp] theorem V9r {ds:List D} (h:∀ d∈ds,Free d):Free (.cptr ds):=X8v h
@[simp] theorem V9s {f:FuncId} {ds:List D} (h:∀ d∈ds,Free d):Free (.clos f ds):=X8w h
@[simp] theorem Y0y:Free .any:=V5z
theorem Q0k {sz:Nat}{α:Type}{r:α→List D}(hr:∀ x,∀ d∈r x,Free d)(xs:List α){rows:List (List D)}(h:∀ row∈rows,∀ d∈row,Free d):Free (.slice sz (List.map r xs++rows)):=W1k hr h
@[simp] theorem V9t (l:List Int):Free (.agg (List.map cI l)):=Z9p fun d h=>by simp only [U10] at h;obtain ⟨x,_,rfl⟩:=h;exact Q5k _
@[simp] theorem V9u (l:List Bool):Free (.agg (List.map cB l)):=Z9p fun d h=>by simp only [U10] at h;obtain ⟨x,_,rfl⟩:=h;exact Q5k _
@[simp] theorem V9p (l:List Int):∀ d∈List.map cI l,Free d:=fun d h=>by simp only [U10] at h;obtain ⟨x,_,rfl⟩:=h;exact Q5k _
@[simp] theorem V9q (l:List Bool):∀ d∈List.map cB l,Free d:=fun d h=>by simp only [U10] at h;obtain ⟨x,_,rfl⟩:=h;exact Q5k _
@[simp] theorem V5w (sz sz2:Nat) (l:List (List Int)):Free (.slice sz (List.map (rL sz2 rI) l)):=Q04 sz sz2 rI (fun l=>W68 sz2 l) l
@[simp] theorem V5v (sz sz2:Nat) (l:List (List ByteArray)):Free (.slice sz (List.map (rL sz2 rS) l)):=Q04 sz sz2 rS (fun l=>W5z sz2 l) l
@[simp] theorem V5x (sz sz2:Nat) (l:List (List Bool)):Free (.slice sz (List.map (rL sz2 rB) l)):=Q04 sz sz2 rB (fun l=>W69 sz2 l) l
structure Q7 where
 data:Int
 index:Int
 deriving Inhabited
def W3 (x:Q7):List D:=[(eI x.data),(eI x.index)]
@[simp] theorem Y42 (x:Q7):W3 x=[(eI x.data),(eI x.index)]:=rfl
theorem Z2r (x:Q7):∀ d∈W3 x,Free d:=by simp
@[simp] theorem X2y (sz:Nat) (l:List Q7):Free (.slice sz (List.map W3 l)):=V0 (Z0 Z2r l)
@[simp] theorem W5r (sz:Nat) (l:List Q7) (rows:List (List D)) (h:∀ row∈rows,∀ d∈row,Free d):Free (.slice sz (List.map W3 l++rows)):=Q0k Z2r l h
@[simp] theorem W60 (sz sz2:Nat) (l:List (List Q7)):Free (.slice sz (List.map (rL sz2 W3) l)):=Q04 sz sz2 W3 (fun l=>X2y sz2 l) l
structure Q2 where
 ctor:Int
 n:Int
 kids:List Q2
 deriving Inhabited
mutual
def X4:Q2→List D
 | ⟨ctor,n,kids⟩=>[(eI ctor),(eI n),.slice 3 (Z17 kids)]
def Z17:List Q2→List (List D)
 | []=>[]
 | x::l=>X4 x::Z17 l
end
theorem Z8n:∀ l,Z17 l=List.map X4 l
 | []=>by simp [Z17]
 | x::l=>by simp [Z17,Z8n l]
@[simp] theorem W4p (x:Q2):X4 x=[(eI x.ctor),(eI x.n),(.slice 3 (List.map X4 x.kids))]:=by cases x;simp [X4,Z8n]
mutual
theorem Q9r:∀ (x:Q2),∀ d∈X4 x,Free d
 | ⟨ctor,n,kids⟩,d,h=>by
  simp only [X4,U8,List.not_mem_nil,or_false] at h
  rcases h with rfl | rfl | rfl
  ·simp
  ·simp
  ·exact V0 (X41 kids)
theorem X41:∀ (l:List Q2),∀ row∈Z17 l,∀ d∈row,Free d
 | [],row,h,_,_=>by simp [Z17] at h
 | p::l,row,h,d,hd=>by
  rw [Z17,U8] at h
  rcases h with rfl | h
  ·exact Q9r p d hd
  ·exact X41 l row h d hd
end
@[simp] theorem X1c (sz:Nat) (l:List Q2):Free (.slice sz (List.map X4 l)):=V0 (Z0 Q9r l)
@[simp] theorem W3l (sz:Nat) (l:List Q2) (rows:List (List D)) (h:∀ row∈rows,∀ d∈row,Free d):Free (.slice sz (List.map X4 l++rows)):=Q0k Q9r l h
@[simp] theorem W3p (sz sz2:Nat) (l:List (List Q2)):Free (.slice sz (List.map (rL sz2 X4) l)):=Q04 sz sz2 X4 (fun l=>X1c sz2 l) l
structure Q1 where
 var:Int
 path:List Int
 deriving Inhabited
def Q6 (x:Q1):List D:=[(eI x.var),(.slice 1 (List.map rI x.path))]
@[simp] theorem V43 (x:Q1):Q6 x=[(eI x.var),(.slice 1 (List.map rI x.path))]:=rfl
theorem Q9s (x:Q1):∀ d∈Q6 x,Free d:=by simp
@[simp] theorem Z6u (sz:Nat) (l:List Q1):Free (.slice sz (List.map Q6 l)):=V0 (Z0 Q9s l)
@[simp] theorem X8s (sz:Nat) (l:List Q1) (rows:List (List D)) (h:∀ row∈rows,∀ d∈row,Free d):Free (.slice sz (List.map Q6 l++rows)):=Q0k Q9s l h
@[simp] theorem X8u (sz sz2:Nat) (l:List (List Q1)):Free (.slice sz (List.map (rL sz2 Q6) l)):=Q04 sz sz2 Q6 (fun l=>Z6u sz2 l) l
mutual
structure Z1 where
 ctor:Int
 n:Int
 m:Int
 tree:X0
structure X0 where
 op:Int
 clause:Int
 binds:List Q1
 path:List Int
 branches:List Z1
 else_:List X0
end
instance:Inhabited X0:=⟨⟨default,default,[],[],[],[]⟩⟩
instance:Inhabited Z1:=⟨⟨default,default,default,default⟩⟩
mutual
def Q02:Z1→List D
 | ⟨ctor,n,m,tree⟩=>[(eI ctor),(eI n),(eI m)]++Q0t tree
def Q9l:List Z1→List (List D)
 | []=>[]
 | x::l=>Q02 x::Q9l l
def Q0t:X0→List D
 | ⟨op,clause,binds,path,branches,else_⟩=>[(eI op),(eI clause),(.slice 2 (List.map Q6 binds)),(.slice 1 (List.map rI path)),.slice 9 (Q9l branches),.slice 6 (Z3g else_)]
def Z3g:List X0→List (List D)
 | []=>[]
 | x::l=>Q0t x::Z3g l
end
theorem Z2b:∀ l,Q9l l=List.map Q02 l
 | []=>by simp [Q9l]
 | x::l=>by simp [Q9l,Z2b l]
theorem Z5a:∀ l,Z3g l=List.map Q0t l
 | []=>by simp [Z3g]
 | x::l=>by simp [Z3g,Z5a l]
@[simp] theorem Y43 (x:X0):Q0t x=[(eI x.op),(eI x.clause),(.slice 2 (List.map Q6 x.binds)),(.slice 1 (List.map rI x.path)),(.slice 9 (List.map Q02 x.branches)),(.slice 6 (List.map Q0t x.else_))]:=by cases x;simp [Q0t,Z2b,Z5a]
@[simp] theorem V8y (x:Z1):Q02 x=[(eI x.ctor),(eI x.n),(eI x.m),(eI x.tree.op),(eI x.tree.clause),(.slice 2 (List.map Q6 x.tree.binds)),(.slice 1 (List.map rI x.tree.path)),(.slice 9 (List.map Q02 x.tree.branches)),(.slice 6 (List.map Q0t x.tree.else_))]:=by cases x;simp [Q02,Z2b,Z5a]
mutual
theorem Z4d:∀ (x:Z1),∀ d∈Q02 x,Free d
 | ⟨ctor,n,m,tree⟩,d,h=>by
  rw [Q02] at h
  simp only [List.mem_append] at h
  rcases h with h | h
  ·simp only [U8,List.not_mem_nil,or_false] at h
   rcases h with rfl | rfl | rfl
   ·simp
   ·simp
   ·simp
  ·exact Z6v tree d h
theorem X1i:∀ (l:List Z1),∀ row∈Q9l l,∀ d∈row,Free d
 | [],row,h,_,_=>by simp [Q9l] at h
 | p::l,row,h,d,hd=>by
  rw [Q9l,U8] at h
  rcases h with rfl | h
  ·exact Z4d p d hd
  ·exact X1i l row h d hd
theorem Z6v:∀ (x:X0),∀ d∈Q0t x,Free d
 | ⟨op,clause,binds,path,branches,else_⟩,d,h=>by
  rw [Q0t] at h
  simp only [U8,List.not_mem_nil,or_false] at h
  rcases h with rfl | rfl | rfl | rfl | rfl | rfl
  ·simp
  ·simp
  ·simp
  ·simp
  ·exact V0 (X1i branches)
  ·exact V0 (X8x else_)
theorem X8x:∀ (l:List X0),∀ row∈Z3g l,∀ d∈row,Free d
 | [],row,h,_,_=>by simp [Z3g] at h
 | p::l,row,h,d,hd=>by
  rw [Z3g,U8] at h
  rcases h with rfl | h
  ·exact Z6v p d hd
  ·exact X8x l row h d hd
end
@[simp] theorem Z9d (sz:Nat) (l:List Z1):Free (.slice sz (List.map Q02 l)):=V0 (Z0 Z4d l)
@[simp] theorem W1f (sz:Nat) (l:List Z1) (rows:List (List D)) (h:∀ row∈rows,∀ d∈row,Free d):Free (.slice sz (List.map Q02 l++rows)):=Q0k Z4d l h
@[simp] theorem W1j (sz sz2:Nat) (l:List (List Z1)):Free (.slice sz (List.map (rL sz2 Q02) l)):=Q04 sz sz2 Q02 (fun l=>Z9d sz2 l) l
@[simp] theorem X2z (sz:Nat) (l:List X0):Free (.slice sz (List.map Q0t l)):=V0 (Z0 Z6v l)
@[simp] theorem W5s (sz:Nat) (l:List X0) (rows:List (List D)) (h:∀ row∈rows,∀ d∈row,Free d):Free (.slice sz (List.map Q0t l++rows)):=Q0k Z6v l h
@[simp] theorem W61 (sz sz2:Nat) (l:List (List X0)):Free (.slice sz (List.map (rL sz2 Q0t) l)):=Q04 sz sz2 Q0t (fun l=>X2z sz2 l) l
structure X8 where
 op:Int
 path:List Int
 ctor:Int
 n:Int
 m:Int
 clause:Int
 binds:List Q1
 to:Int
 deriving Inhabited
def Q2z (x:X8):List D:=[(eI x.op),(.slice 1 (List.map rI x.path)),(eI x.ctor),(eI x.n),(eI x.m),(eI x.clause),(.slice 2 (List.map Q6 x.binds)),(eI x.to)]
@[simp] theorem Y44 (x:X8):Q2z x=[(eI x.op),(.slice 1 (List.map rI x.path)),(eI x.ctor),(eI x.n),(eI x.m),(eI x.clause),(.slice 2 (List.map Q6 x.binds)),(eI x.to)]:=rfl
theorem X5o (x:X8):∀ d∈Q2z x,Free d:=by simp
@[simp] theorem X30 (sz:Nat) (l:List X8):Free (.slice sz (List.map Q2z l)):=V0 (Z0 X5o l)
@[simp] theorem W5t (sz:Nat) (l:List X8) (rows:List (List D)) (h:∀ row∈rows,∀ d∈row,Free d):Free (.slice sz (List.map Q2z l++rows)):=Q0k X5o l h
@[simp] theorem W62 (sz sz2:Nat) (l:List (List X8)):Free (.slice sz (List.map (rL sz2 Q2z) l)):=Q04 sz sz2 Q2z (fun l=>X30 sz2 l) l
structure X3 where
 var:Int
 value:Q2
 deriving Inhabited
def Q15 (x:X3):List D:=[(eI x.var),(eI x.value.ctor),(eI x.value.n),(.slice 3 (List.map X4 x.value.kids))]
@[simp] theorem Y47 (x:X3):Q15 x=[(eI x.var),(eI x.value.ctor),(eI x.value.n),(.slice 3 (List.map X4 x.value.kids))]:=rfl
theorem Z2u (x:X3):∀ d∈Q15 x,Free d:=by simp
@[simp] theorem X35 (sz:Nat) (l:List X3):Free (.slice sz (List.map Q15 l)):=V0 (Z0 Z2u l)
@[simp] theorem W5y (sz:Nat) (l:List X3) (rows:List (List D)) (h:∀ row∈rows,∀ d∈row,Free d):Free (.slice sz (List.map Q15 l++rows)):=Q0k Z2u l h
@[simp] theorem W67 (sz sz2:Nat) (l:List (List X3)):Free (.slice sz (List.map (rL sz2 Q15) l)):=Q04 sz sz2 Q15 (fun l=>X35 sz2 l) l
structure Q0 where
 op:Int
 ctor:Int
 n:Int
 m:Int
 var:Int
 kids:List Q0
 deriving Inhabited
mutual
def Z2:Q0→List D
 | ⟨op,ctor,n,m,var,kids⟩=>[(eI op),(eI ctor),(eI n),(eI m),(eI var),.slice 6 (Q81 kids)]
def Q81:List Q0→List (List D)
 | []=>[]
 | x::l=>Z2 x::Q81 l
end
theorem Z4x:∀ l,Q81 l=List.map Z2 l
 | []=>by simp [Q81]
 | x::l=>by simp [Q81,Z4x l]
@[simp] theorem X7r (x:Q0):Z2 x=[(eI x.op),(eI x.ctor),(eI x.n),(eI x.m),(eI x.var),(.slice 6 (List.map Z2 x.kids))]:=by cases x;simp [Z2,Z4x]
mutual
theorem Q6o:∀ (x:Q0),∀ d∈Z2 x,Free d
 | ⟨op,ctor,n,m,var,kids⟩,d,h=>by
  simp only [Z2,U8,List.not_mem_nil,or_false] at h
  rcases h with rfl | rfl | rfl | rfl | rfl | rfl
  ·simp
  ·simp
  ·simp
  ·simp
  ·simp
  ·exact V0 (Z8r kids)
theorem Z8r:∀ (l:List Q0),∀ row∈Q81 l,∀ d∈row,Free d
 | [],row,h,_,_=>by simp [Q81] at h
 | p::l,row,h,d,hd=>by
  rw [Q81,U8] at h
  rcases h with rfl | h
  ·exact Q6o p d hd
  ·exact Z8r l row h d hd
end
@[simp] theorem Z7v (sz:Nat) (l:List Q0):Free (.slice sz (List.map Z2 l)):=V0 (Z0 Q6o l)
@[simp] theorem X9u (sz:Nat) (l:List Q0) (rows:List (List D)) (h:∀ row∈rows,∀ d∈row,Free d):Free (.slice sz (List.map Z2 l++rows)):=Q0k Q6o l h
@[simp] theorem X9w (sz sz2:Nat) (l:List (List Q0)):Free (.slice sz (List.map (rL sz2 Z2) l)):=Q04 sz sz2 Z2 (fun l=>Z7v sz2 l) l
structure Grow where
 clause:Int
 pats:List Q0
 binds:List Q1
 deriving Inhabited
def Q5a (x:Grow):List D:=[(eI x.clause),(.slice 6 (List.map Z2 x.pats)),(.slice 2 (List.map Q6 x.binds))]
@[simp] theorem Y6k (x:Grow):Q5a x=[(eI x.clause),(.slice 6 (List.map Z2 x.pats)),(.slice 2 (List.map Q6 x.binds))]:=rfl
theorem X1e (x:Grow):∀ d∈Q5a x,Free d:=by simp
@[simp] theorem X5m (sz:Nat) (l:List Grow):Free (.slice sz (List.map Q5a l)):=V0 (Z0 X1e l)
@[simp] theorem W7g (sz:Nat) (l:List Grow) (rows:List (List D)) (h:∀ row∈rows,∀ d∈row,Free d):Free (.slice sz (List.map Q5a l++rows)):=Q0k X1e l h
@[simp] theorem W7h (sz sz2:Nat) (l:List (List Grow)):Free (.slice sz (List.map (rL sz2 Q5a) l)):=Q04 sz sz2 Q5a (fun l=>X5m sz2 l) l
structure Q27 where
 op:Int
 var:Int
 n:Int
 deriving Inhabited
def Q8c (x:Q27):List D:=[(eI x.op),(eI x.var),(eI x.n)]
@[simp] theorem Y0t (x:Q27):Q8c x=[(eI x.op),(eI x.var),(eI x.n)]:=rfl
theorem X1h (x:Q27):∀ d∈Q8c x,Free d:=by simp
@[simp] theorem X1d (sz:Nat) (l:List Q27):Free (.slice sz (List.map Q8c l)):=V0 (Z0 X1h l)
@[simp] theorem W3m (sz:Nat) (l:List Q27) (rows:List (List D)) (h:∀ row∈rows,∀ d∈row,Free d):Free (.slice sz (List.map Q8c l++rows)):=Q0k X1h l h
@[simp] theorem W3q (sz sz2:Nat) (l:List (List Q27)):Free (.slice sz (List.map (rL sz2 Q8c) l)):=Q04 sz sz2 Q8c (fun l=>X1d sz2 l) l
structure Q3 where
 pat:Q0
 guard:Q27
 deriving Inhabited
def X9 (x:Q3):List D:=[(eI x.pat.op),(eI x.pat.ctor),(eI x.pat.n),(eI x.pat.m),(eI x.pat.var),(.slice 6 (List.map Z2 x.pat.kids)),(eI x.guard.op),(eI x.guard.var),(eI x.guard.n)]
@[simp] theorem W0h (x:Q3):X9 x=[(eI x.pat.op),(eI x.pat.ctor),(eI x.pat.n),(eI x.pat.m),(eI x.pat.var),(.slice 6 (List.map Z2 x.pat.kids)),(eI x.guard.op),(eI x.guard.var),(eI x.guard.n)]:=rfl
theorem Q9b (x:Q3):∀ d∈X9 x,Free d:=by simp
@[simp] theorem Z9c (sz:Nat) (l:List Q3):Free (.slice sz (List.map X9 l)):=V0 (Z0 Q9b l)
@[simp] theorem W1e (sz:Nat) (l:List Q3) (rows:List (List D)) (h:∀ row∈rows,∀ d∈row,Free d):Free (.slice sz (List.map X9 l++rows)):=Q0k Q9b l h
@[simp] theorem W1i (sz sz2:Nat) (l:List (List Q3)):Free (.slice sz (List.map (rL sz2 X9) l)):=Q04 sz sz2 X9 (fun l=>Z9c sz2 l) l
structure Q9t where
 name:ByteArray
 args:List Q7
 index:Int
 deriving Inhabited
def Q8d (x:Q9t):List D:=[(eS x.name),(.slice 2 (List.map W3 x.args)),(eI x.index)]
@[simp] theorem W8x (x:Q9t):Q8d x=[(eS x.name),(.slice 2 (List.map W3 x.args)),(eI x.index)]:=rfl
theorem Z2t (x:Q9t):∀ d∈Q8d x,Free d:=by simp
@[simp] theorem X34 (sz:Nat) (l:List Q9t):Free (.slice sz (List.map Q8d l)):=V0 (Z0 Z2t l)
@[simp] theorem W5x (sz:Nat) (l:List Q9t) (rows:List (List D)) (h:∀ row∈rows,∀ d∈row,Free d):Free (.slice sz (List.map Q8d l++rows)):=Q0k Z2t l h
@[simp] theorem W66 (sz sz2:Nat) (l:List (List Q9t)):Free (.slice sz (List.map (rL sz2 Q8d) l)):=Q04 sz sz2 Q8d (fun l=>X34 sz2 l) l
structure Q4 where
 name:ByteArray
 ctors:List Q9t
 deriving Inhabited
def W5 (x:Q4):List D:=[(eS x.name),(.slice 3 (List.map Q8d x.ctors))]
@[simp] theorem W8w (x:Q4):W5 x=[(eS x.name),(.slice 3 (List.map Q8d x.ctors))]:=rfl
theorem Z2s (x:Q4):∀ d∈W5 x,Free d:=by simp
@[simp] theorem X33 (sz:Nat) (l:List Q4):Free (.slice sz (List.map W5 l)):=V0 (Z0 Z2s l)
@[simp] theorem W5w (sz:Nat) (l:List Q4) (rows:List (List D)) (h:∀ row∈rows,∀ d∈row,Free d):Free (.slice sz (List.map W5 l++rows)):=Q0k Z2s l h
@[simp] theorem W65 (sz sz2:Nat) (l:List (List Q4)):Free (.slice sz (List.map (rL sz2 W5) l)):=Q04 sz sz2 W5 (fun l=>X33 sz2 l) l
structure Z34 where
 w:List Q4
 d:List Int
 deriving Inhabited
def Q9e (x:Z34):List D:=[(.slice 2 (List.map W5 x.w)),(.cptr (List.map cI x.d))]
@[simp] theorem V8w (x:Z34):Q9e x=[(.slice 2 (List.map W5 x.w)),(.cptr (List.map cI x.d))]:=rfl
theorem Z7w (x:Z34):∀ d∈Q9e x,Free d:=by simp
@[simp] theorem Z9a (sz:Nat) (l:List Z34):Free (.slice sz (List.map Q9e l)):=V0 (Z0 Z7w l)
@[simp] theorem W1c (sz:Nat) (l:List Z34) (rows:List (List D)) (h:∀ row∈rows,∀ d∈row,Free d):Free (.slice sz (List.map Q9e l++rows)):=Q0k Z7w l h
@[simp] theorem W1g (sz sz2:Nat) (l:List (List Z34)):Free (.slice sz (List.map (rL sz2 Q9e) l)):=Q04 sz sz2 Q9e (fun l=>Z9a sz2 l) l
structure X5 where
 spaces:Z34
 list:List Q3
 pick:Int
 count:Int
 deriving Inhabited
def J4 (x:X5):List D:=[(.cptr (Q9e x.spaces)),(.slice 9 (List.map X9 x.list)),(eI x.pick),(eI x.count)]
@[simp] theorem V20 (x:X5):J4 x=[(.cptr (Q9e x.spaces)),(.slice 9 (List.map X9 x.list)),(eI x.pick),(eI x.count)]:=rfl
theorem Z2q (x:X5):∀ d∈J4 x,Free d:=by simp
@[simp] theorem Z5l (sz:Nat) (l:List X5):Free (.slice sz (List.map J4 l)):=V0 (Z0 Z2q l)
@[simp] theorem X6q (sz:Nat) (l:List X5) (rows:List (List D)) (h:∀ row∈rows,∀ d∈row,Free d):Free (.slice sz (List.map J4 l++rows)):=Q0k Z2q l h
@[simp] theorem X6r (sz sz2:Nat) (l:List (List X5)):Free (.slice sz (List.map (rL sz2 J4) l)):=Q04 sz sz2 J4 (fun l=>Z5l sz2 l) l
structure Z7 where
 path:List Int
 t:Q7
 deriving Inhabited
def Q1u (x:Z7):List D:=[(.slice 1 (List.map rI x.path)),(eI x.t.data),(eI x.t.index)]
@[simp] theorem V8x (x:Z7):Q1u x=[(.slice 1 (List.map rI x.path)),(eI x.t.data),(eI x.t.index)]:=rfl
theorem Z7x (x:Z7):∀ d∈Q1u x,Free d:=by simp
@[simp] theorem Z9b (sz:Nat) (l:List Z7):Free (.slice sz (List.map Q1u l)):=V0 (Z0 Z7x l)
@[simp] theorem W1d (sz:Nat) (l:List Z7) (rows:List (List D)) (h:∀ row∈rows,∀ d∈row,Free d):Free (.slice sz (List.map Q1u l++rows)):=Q0k Z7x l h
@[simp] theorem W1h (sz sz2:Nat) (l:List (List Z7)):Free (.slice sz (List.map (rL sz2 Q1u) l)):=Q04 sz sz2 Q1u (fun l=>Z9b sz2 l) l
structure Z11 where
 ctor:Int
 n:Int
 m:Int
 to:Int
 deriving Inhabited
def Z1u (x:Z11):List D:=[(eI x.ctor),(eI x.n),(eI x.m),(eI x.to)]
@[simp] theorem Y46 (x:Z11):Z1u x=[(eI x.ctor),(eI x.n),(eI x.m),(eI x.to)]:=rfl
theorem X5q (x:Z11):∀ d∈Z1u x,Free d:=by simp
@[simp] theorem X32 (sz:Nat) (l:List Z11):Free (.slice sz (List.map Z1u l)):=V0 (Z0 X5q l)
@[simp] theorem W5v (sz:Nat) (l:List Z11) (rows:List (List D)) (h:∀ row∈rows,∀ d∈row,Free d):Free (.slice sz (List.map Z1u l++rows)):=Q0k X5q l h
@[simp] theorem W64 (sz sz2:Nat) (l:List (List Z11)):Free (.slice sz (List.map (rL sz2 Z1u) l)):=Q04 sz sz2 Z1u (fun l=>X32 sz2 l) l
structure Q0a where
 op:Int
 clause:Int
 binds:List Q1
 path:List Int
 edges:List Z11
 else_:Int
 deriving Inhabited
def Q5n (x:Q0a):List D:=[(eI x.op),(eI x.clause),(.slice 2 (List.map Q6 x.binds)),(.slice 1 (List.map rI x.path)),(.slice 4 (List.map Z1u x.edges)),(eI x.else_)]
@[simp] theorem Y45 (x:Q0a):Q5n x=[(eI x.op),(eI x.clause),(.slice 2 (List.map Q6 x.binds)),(.slice 1 (List.map rI x.path)),(.slice 4 (List.map Z1u x.edges)),(eI x.else_)]:=rfl
theorem X5p (x:Q0a):∀ d∈Q5n x,Free d:=by simp
@[simp] theorem X31 (sz:Nat) (l:List Q0a):Free (.slice sz (List.map Q5n l)):=V0 (Z0 X5p l)
@[simp] theorem W5u (sz:Nat) (l:List Q0a) (rows:List (List D)) (h:∀ row∈rows,∀ d∈row,Free d):Free (.slice sz (List.map Q5n l++rows)):=Q0k X5p l h
@[simp] theorem W63 (sz sz2:Nat) (l:List (List Q0a)):Free (.slice sz (List.map (rL sz2 Q5n) l)):=Q04 sz sz2 Q5n (fun l=>X31 sz2 l) l
structure X1 where
 b:List Int
 p:Int
 deriving Inhabited
def J1 (x:X1):List D:=[(.slice 1 (List.map (rK .u8) x.b)),(eI x.p)]
@[simp] theorem Y0s (x:X1):J1 x=[(.slice 1 (List.map (rK .u8) x.b)),(eI x.p)]:=rfl
theorem X1g (x:X1):∀ d∈J1 x,Free d:=by simp
@[simp] theorem X1b (sz:Nat) (l:List X1):Free (.slice sz (List.map J1 l)):=V0 (Z0 X1g l)
@[simp] theorem W3k (sz:Nat) (l:List X1) (rows:List (List D)) (h:∀ row∈rows,∀ d∈row,Free d):Free (.slice sz (List.map J1 l++rows)):=Q0k X1g l h
@[simp] theorem W3o (sz sz2:Nat) (l:List (List X1)):Free (.slice sz (List.map (rL sz2 J1) l)):=Q04 sz sz2 J1 (fun l=>X1b sz2 l) l
structure Q01 where
 path:List Int
 kind:Q7
 deriving Inhabited
def Q2b (x:Q01):List D:=[(.slice 1 (List.map rI x.path)),(eI x.kind.data),(eI x.kind.index)]
@[simp] theorem V42 (x:Q01):Q2b x=[(.slice 1 (List.map rI x.path)),(eI x.kind.data),(eI x.kind.index)]:=rfl
theorem Z3s (x:Q01):∀ d∈Q2b x,Free d:=by simp
@[simp] theorem Z6t (sz:Nat) (l:List Q01):Free (.slice sz (List.map Q2b l)):=V0 (Z0 Z3s l)
@[simp] theorem X8r (sz:Nat) (l:List Q01) (rows:List (List D)) (h:∀ row∈rows,∀ d∈row,Free d):Free (.slice sz (List.map Q2b l++rows)):=Q0k Z3s l h
@[simp] theorem X8t (sz sz2:Nat) (l:List (List Q01)):Free (.slice sz (List.map (rL sz2 Q2b) l)):=Q04 sz sz2 Q2b (fun l=>Z6t sz2 l) l
structure Z4 where
 var:Int
 typ:Q7
 deriving Inhabited
def Y8 (x:Z4):List D:=[(eI x.var),(eI x.typ.data),(eI x.typ.index)]
@[simp] theorem V7c (x:Z4):Y8 x=[(eI x.var),(eI x.typ.data),(eI x.typ.index)]:=rfl
theorem Q7w (x:Z4):∀ d∈Y8 x,Free d:=by simp
@[simp] theorem Z7u (sz:Nat) (l:List Z4):Free (.slice sz (List.map Y8 l)):=V0 (Z0 Q7w l)
@[simp] theorem X9t (sz:Nat) (l:List Z4) (rows:List (List D)) (h:∀ row∈rows,∀ d∈row,Free d):Free (.slice sz (List.map Y8 l++rows)):=Q0k Q7w l h
@[simp] theorem X9v (sz sz2:Nat) (l:List (List Z4)):Free (.slice sz (List.map (rL sz2 Y8) l)):=Q04 sz sz2 Y8 (fun l=>Z7u sz2 l) l
structure Y3 where
 clause:Int
 pats:List Q0
 binds:List Q1
 deriving Inhabited
def Q2n (x:Y3):List D:=[(eI x.clause),(.slice 6 (List.map Z2 x.pats)),(.slice 2 (List.map Q6 x.binds))]
@[simp] theorem Y0r (x:Y3):Q2n x=[(eI x.clause),(.slice 6 (List.map Z2 x.pats)),(.slice 2 (List.map Q6 x.binds))]:=rfl
theorem X1f (x:Y3):∀ d∈Q2n x,Free d:=by simp
@[simp] theorem X1a (sz:Nat) (l:List Y3):Free (.slice sz (List.map Q2n l)):=V0 (Z0 X1f l)
@[simp] theorem W3j (sz:Nat) (l:List Y3) (rows:List (List D)) (h:∀ row∈rows,∀ d∈row,Free d):Free (.slice sz (List.map Q2n l++rows)):=Q0k X1f l h
@[simp] theorem W3n (sz sz2:Nat) (l:List (List Y3)):Free (.slice sz (List.map (rL sz2 Q2n) l)):=Q04 sz sz2 Q2n (fun l=>X1a sz2 l) l
end Go.Proofs.YtfhpjeogjcfkaaaGreat
