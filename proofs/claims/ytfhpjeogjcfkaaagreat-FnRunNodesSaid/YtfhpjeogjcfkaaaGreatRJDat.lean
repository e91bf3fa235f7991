import Derived.Test.YtfhpjeogjcfkaaaGreatRJE1
set_option linter.unusedSimpArgs false
set_option linter.unusedVariables false
namespace Go.Proofs.YtfhpjeogjcfkaaaGreat
open Go Go.RowKit
theorem Q4 {α:Type}{f:α→List D}(h:∀ x,∀ d∈f x,Free d)(l:List α):∀ row∈List.map f l,∀ d∈row,Free d:=fun row hr d hd=>by
 simp only [U10] at hr
 obtain ⟨x,_,rfl⟩:=hr
 exact h x d hd
abbrev eI (n:Int):D:=.val (.int .i64 n)
abbrev eB (b:Bool):D:=.val (.bool b)
abbrev eS (s:ByteArray):D:=.val (.string s)
abbrev cI:Int→D:=fun n=>.val (.int .i64 n)
abbrev cB:Bool→D:=fun n=>.val (.bool n)
def rI (n:Int):List D:=[eI n]
def rK (k:IntKind)(n:Int):List D:=[.val (.int k n)]
def rB (n:Bool):List D:=[eB n]
def rS (n:ByteArray):List D:=[eS n]
def rL {α:Type}(sz:Nat)(r:α→List D)(l:List α):List D:=[.slice sz (List.map r l)]
@[simp] theorem rI_eq (n:Int):rI n=[eI n]:=rfl
@[simp] theorem X8u (sz:Nat) (l:List Int):Free (.slice sz (List.map (rI) l)):=X3 (fun row hr d hd=>by simp only [U10] at hr;obtain ⟨x,_,rfl⟩:=hr;simp at hd;subst hd;exact Q3p _)
@[simp] theorem rK_eq (k:IntKind) (n:Int):rK k n=[.val (.int k n)]:=rfl
@[simp] theorem V1l (k:IntKind) (sz:Nat) (l:List Int):Free (.slice sz (List.map (rK k) l)):=X3 (fun row hr d hd=>by simp only [U10] at hr;obtain ⟨x,_,rfl⟩:=hr;simp at hd;subst hd;exact Q3p _)
@[simp] theorem rB_eq (n:Bool):rB n=[eB n]:=rfl
@[simp] theorem X8v (sz:Nat) (l:List Bool):Free (.slice sz (List.map (rB) l)):=X3 (fun row hr d hd=>by simp only [U10] at hr;obtain ⟨x,_,rfl⟩:=hr;simp at hd;subst hd;exact Q3p _)
@[simp] theorem V9j (n:ByteArray):rS n=[eS n]:=rfl
@[simp] theorem X8l (sz:Nat) (l:List ByteArray):Free (.slice sz (List.map (rS) l)):=X3 (fun row hr d hd=>by simp only [U10] at hr;obtain ⟨x,_,rfl⟩:=hr;simp at hd;subst hd;exact Q3p _)
@[simp] theorem rL_eq {α:Type} (sz:Nat) (r:α→List D) (l:List α):rL sz r l=[.slice sz (List.map r l)]:=rfl
theorem Y7 {α:Type}(sz sz2:Nat)(r:α→List D)(h:∀ l,Free (.slice sz2 (List.map r l)))(l:List (List α)):Free (.slice sz (List.map (rL sz2 r) l)):=X3 (fun row hr d hd=>by simp only [U10] at hr;obtain ⟨x,_,rfl⟩:=hr;simp at hd;subst hd;exact h x)
@[simp] theorem W8p (sz:Nat) (row:List D) (rows:List (List D)) (h:∀ r∈row::rows,∀ d∈r,Free d):Free (.slice sz (row::rows)):=X3 h
@[simp] theorem V0b (sz:Nat):Free (.slice sz []):=X3 (fun _ h=>by simp at h)
@[simp] theorem V1n {ds:List D} (h:∀ d∈ds,Free d):Free (.agg ds):=Z54 h
@[simp] theorem V1k {ds:List D} (h:∀ d∈ds,Free d):Free (.tup ds):=W6t h
@[simp] theorem V0e {ds:List D} (h:∀ d∈ds,Free d):Free (.cptr ds):=X2g h
@[simp] theorem V0f {f:FuncId} {ds:List D} (h:∀ d∈ds,Free d):Free (.clos f ds):=X2h h
@[simp] theorem V1m:Free .any:=W6y
theorem Q00 {sz:Nat}{α:Type}{r:α→List D}(hr:∀ x,∀ d∈r x,Free d)(xs:List α){rows:List (List D)}(h:∀ row∈rows,∀ d∈row,Free d):Free (.slice sz (List.map r xs++rows)):=X4n hr h
@[simp] theorem V0g (l:List Int):Free (.agg (List.map cI l)):=Z54 fun d h=>by simp only [U10] at h;obtain ⟨x,_,rfl⟩:=h;exact Q3p _
@[simp] theorem V0h (l:List Bool):Free (.agg (List.map cB l)):=Z54 fun d h=>by simp only [U10] at h;obtain ⟨x,_,rfl⟩:=h;exact Q3p _
@[simp] theorem V0c (l:List Int):∀ d∈List.map cI l,Free d:=fun d h=>by simp only [U10] at h;obtain ⟨x,_,rfl⟩:=h;exact Q3p _
@[simp] theorem V0d (l:List Bool):∀ d∈List.map cB l,Free d:=fun d h=>by simp only [U10] at h;obtain ⟨x,_,rfl⟩:=h;exact Q3p _
@[simp] theorem W6v (sz sz2:Nat) (l:List (List Int)):Free (.slice sz (List.map (rL sz2 rI) l)):=Y7 sz sz2 rI (fun l=>X8u sz2 l) l
@[simp] theorem W6u (sz sz2:Nat) (l:List (List ByteArray)):Free (.slice sz (List.map (rL sz2 rS) l)):=Y7 sz sz2 rS (fun l=>X8l sz2 l) l
@[simp] theorem W6w (sz sz2:Nat) (l:List (List Bool)):Free (.slice sz (List.map (rL sz2 rB) l)):=Y7 sz sz2 rB (fun l=>X8v sz2 l) l
structure Q6 where
 data:Int
 index:Int
 deriving Inhabited
def W6 (x:Q6):List D:=[(eI x.data),(eI x.index)]
@[simp] theorem V4o (x:Q6):W6 x=[(eI x.data),(eI x.index)]:=rfl
theorem Q97 (x:Q6):∀ d∈W6 x,Free d:=by simp
@[simp] theorem Z7p (sz:Nat) (l:List Q6):Free (.slice sz (List.map W6 l)):=X3 (Q4 Q97 l)
@[simp] theorem X8d (sz:Nat) (l:List Q6) (rows:List (List D)) (h:∀ row∈rows,∀ d∈row,Free d):Free (.slice sz (List.map W6 l++rows)):=Q00 Q97 l h
@[simp] theorem X8m (sz sz2:Nat) (l:List (List Q6)):Free (.slice sz (List.map (rL sz2 W6) l)):=Y7 sz sz2 W6 (fun l=>Z7p sz2 l) l
structure Q2 where
 ctor:Int
 n:Int
 kids:List Q2
 deriving Inhabited
mutual
def W4:Q2→List D
 | ⟨ctor,n,kids⟩=>[(eI ctor),(eI n),.slice 3 (Q7y kids)]
def Q7y:List Q2→List (List D)
 | []=>[]
 | x::l=>W4 x::Q7y l
end
theorem Z4c:∀ l,Q7y l=List.map W4 l
 | []=>by simp [Q7y]
 | x::l=>by simp [Q7y,Z4c l]
@[simp] theorem X7j (x:Q2):W4 x=[(eI x.ctor),(eI x.n),(.slice 3 (List.map W4 x.kids))]:=by cases x;simp [W4,Z4c]
mutual
theorem Q6t:∀ (x:Q2),∀ d∈W4 x,Free d
 | ⟨ctor,n,kids⟩,d,h=>by
  simp only [W4,U8,List.not_mem_nil,or_false] at h
  rcases h with rfl | rfl | rfl
  ·simp
  ·simp
  ·exact X3 (Z8m kids)
theorem Z8m:∀ (l:List Q2),∀ row∈Q7y l,∀ d∈row,Free d
 | [],row,h,_,_=>by simp [Q7y] at h
 | p::l,row,h,d,hd=>by
  rw [Q7y,U8] at h
  rcases h with rfl | h
  ·exact Q6t p d hd
  ·exact Z8m l row h d hd
end
@[simp] theorem Z6a (sz:Nat) (l:List Q2):Free (.slice sz (List.map W4 l)):=X3 (Q4 Q6t l)
@[simp] theorem X6f (sz:Nat) (l:List Q2) (rows:List (List D)) (h:∀ row∈rows,∀ d∈row,Free d):Free (.slice sz (List.map W4 l++rows)):=Q00 Q6t l h
@[simp] theorem X6j (sz sz2:Nat) (l:List (List Q2)):Free (.slice sz (List.map (rL sz2 W4) l)):=Y7 sz sz2 W4 (fun l=>Z6a sz2 l) l
structure Q1 where
 var:Int
 path:List Int
 deriving Inhabited
def Q7 (x:Q1):List D:=[(eI x.var),(.slice 1 (List.map rI x.path))]
@[simp] theorem W5a (x:Q1):Q7 x=[(eI x.var),(.slice 1 (List.map rI x.path))]:=rfl
theorem Q6u (x:Q1):∀ d∈Q7 x,Free d:=by simp
@[simp] theorem Z2v (sz:Nat) (l:List Q1):Free (.slice sz (List.map Q7 l)):=X3 (Q4 Q6u l)
@[simp] theorem X2d (sz:Nat) (l:List Q1) (rows:List (List D)) (h:∀ row∈rows,∀ d∈row,Free d):Free (.slice sz (List.map Q7 l++rows)):=Q00 Q6u l h
@[simp] theorem X2f (sz sz2:Nat) (l:List (List Q1)):Free (.slice sz (List.map (rL sz2 Q7) l)):=Y7 sz sz2 Q7 (fun l=>Z2v sz2 l) l
mutual
structure Q8 where
 ctor:Int
 n:Int
 m:Int
 tree:X0
structure X0 where
 op:Int
 clause:Int
 binds:List Q1
 path:List Int
 branches:List Q8
 else_:List X0
end
instance:Inhabited X0:=⟨⟨default,default,[],[],[],[]⟩⟩
instance:Inhabited Q8:=⟨⟨default,default,default,default⟩⟩
mutual
def J3:Q8→List D
 | ⟨ctor,n,m,tree⟩=>[(eI ctor),(eI n),(eI m)]++Q33 tree
def Q6n:List Q8→List (List D)
 | []=>[]
 | x::l=>J3 x::Q6n l
def Q33:X0→List D
 | ⟨op,clause,binds,path,branches,else_⟩=>[(eI op),(eI clause),(.slice 2 (List.map Q7 binds)),(.slice 1 (List.map rI path)),.slice 9 (Q6n branches),.slice 6 (Q9y else_)]
def Q9y:List X0→List (List D)
 | []=>[]
 | x::l=>Q33 x::Q9y l
end
theorem Q8x:∀ l,Q6n l=List.map J3 l
 | []=>by simp [Q6n]
 | x::l=>by simp [Q6n,Q8x l]
theorem Z1d:∀ l,Q9y l=List.map Q33 l
 | []=>by simp [Q9y]
 | x::l=>by simp [Q9y,Z1d l]
@[simp] theorem V4p (x:X0):Q33 x=[(eI x.op),(eI x.clause),(.slice 2 (List.map Q7 x.binds)),(.slice 1 (List.map rI x.path)),(.slice 9 (List.map J3 x.branches)),(.slice 6 (List.map Q33 x.else_))]:=by cases x;simp [Q33,Q8x,Z1d]
@[simp] theorem W9l (x:Q8):J3 x=[(eI x.ctor),(eI x.n),(eI x.m),(eI x.tree.op),(eI x.tree.clause),(.slice 2 (List.map Q7 x.tree.binds)),(.slice 1 (List.map rI x.tree.path)),(.slice 9 (List.map J3 x.tree.branches)),(.slice 6 (List.map Q33 x.tree.else_))]:=by cases x;simp [J3,Q8x,Z1d]
mutual
theorem Z0r:∀ (x:Q8),∀ d∈J3 x,Free d
 | ⟨ctor,n,m,tree⟩,d,h=>by
  rw [J3] at h
  simp only [List.mem_append] at h
  rcases h with h | h
  ·simp only [U8,List.not_mem_nil,or_false] at h
   rcases h with rfl | rfl | rfl
   ·simp
   ·simp
   ·simp
  ·exact Z2w tree d h
theorem Z6g:∀ (l:List Q8),∀ row∈Q6n l,∀ d∈row,Free d
 | [],row,h,_,_=>by simp [Q6n] at h
 | p::l,row,h,d,hd=>by
  rw [Q6n,U8] at h
  rcases h with rfl | h
  ·exact Z0r p d hd
  ·exact Z6g l row h d hd
theorem Z2w:∀ (x:X0),∀ d∈Q33 x,Free d
 | ⟨op,clause,binds,path,branches,else_⟩,d,h=>by
  rw [Q33] at h
  simp only [U8,List.not_mem_nil,or_false] at h
  rcases h with rfl | rfl | rfl | rfl | rfl | rfl
  ·simp
  ·simp
  ·simp
  ·simp
  ·exact X3 (Z6g branches)
  ·exact X3 (X2i else_)
theorem X2i:∀ (l:List X0),∀ row∈Q9y l,∀ d∈row,Free d
 | [],row,h,_,_=>by simp [Q9y] at h
 | p::l,row,h,d,hd=>by
  rw [Q9y,U8] at h
  rcases h with rfl | h
  ·exact Z2w p d hd
  ·exact X2i l row h d hd
end
@[simp] theorem Z4x (sz:Nat) (l:List Q8):Free (.slice sz (List.map J3 l)):=X3 (Q4 Z0r l)
@[simp] theorem X4i (sz:Nat) (l:List Q8) (rows:List (List D)) (h:∀ row∈rows,∀ d∈row,Free d):Free (.slice sz (List.map J3 l++rows)):=Q00 Z0r l h
@[simp] theorem X4m (sz sz2:Nat) (l:List (List Q8)):Free (.slice sz (List.map (rL sz2 J3) l)):=Y7 sz sz2 J3 (fun l=>Z4x sz2 l) l
@[simp] theorem Z7q (sz:Nat) (l:List X0):Free (.slice sz (List.map Q33 l)):=X3 (Q4 Z2w l)
@[simp] theorem X8e (sz:Nat) (l:List X0) (rows:List (List D)) (h:∀ row∈rows,∀ d∈row,Free d):Free (.slice sz (List.map Q33 l++rows)):=Q00 Z2w l h
@[simp] theorem X8n (sz sz2:Nat) (l:List (List X0)):Free (.slice sz (List.map (rL sz2 Q33) l)):=Y7 sz sz2 Q33 (fun l=>Z7q sz2 l) l
structure X9e where
 op:Int
 path:List Int
 ctor:Int
 n:Int
 m:Int
 clause:Int
 binds:List Q1
 to:Int
 deriving Inhabited
def Z5s (x:X9e):List D:=[(eI x.op),(.slice 1 (List.map rI x.path)),(eI x.ctor),(eI x.n),(eI x.m),(eI x.clause),(.slice 2 (List.map Q7 x.binds)),(eI x.to)]
@[simp] theorem V4q (x:X9e):Z5s x=[(eI x.op),(.slice 1 (List.map rI x.path)),(eI x.ctor),(eI x.n),(eI x.m),(eI x.clause),(.slice 2 (List.map Q7 x.binds)),(eI x.to)]:=rfl
theorem Z9y (x:X9e):∀ d∈Z5s x,Free d:=by simp
@[simp] theorem Z7r (sz:Nat) (l:List X9e):Free (.slice sz (List.map Z5s l)):=X3 (Q4 Z9y l)
@[simp] theorem X8f (sz:Nat) (l:List X9e) (rows:List (List D)) (h:∀ row∈rows,∀ d∈row,Free d):Free (.slice sz (List.map Z5s l++rows)):=Q00 Z9y l h
@[simp] theorem X8o (sz sz2:Nat) (l:List (List X9e)):Free (.slice sz (List.map (rL sz2 Z5s) l)):=Y7 sz sz2 Z5s (fun l=>Z7r sz2 l) l
structure V5 where
 var:Int
 value:Q2
 deriving Inhabited
def Q48 (x:V5):List D:=[(eI x.var),(eI x.value.ctor),(eI x.value.n),(.slice 3 (List.map W4 x.value.kids))]
@[simp] theorem V4t (x:V5):Q48 x=[(eI x.var),(eI x.value.ctor),(eI x.value.n),(.slice 3 (List.map W4 x.value.kids))]:=rfl
theorem Q9a (x:V5):∀ d∈Q48 x,Free d:=by simp
@[simp] theorem Z7w (sz:Nat) (l:List V5):Free (.slice sz (List.map Q48 l)):=X3 (Q4 Q9a l)
@[simp] theorem X8k (sz:Nat) (l:List V5) (rows:List (List D)) (h:∀ row∈rows,∀ d∈row,Free d):Free (.slice sz (List.map Q48 l++rows)):=Q00 Q9a l h
@[simp] theorem X8t (sz sz2:Nat) (l:List (List V5)):Free (.slice sz (List.map (rL sz2 Q48) l)):=Y7 sz sz2 Q48 (fun l=>Z7w sz2 l) l
structure Q0 where
 op:Int
 ctor:Int
 n:Int
 m:Int
 var:Int
 kids:List Q0
 deriving Inhabited
mutual
def Z0:Q0→List D
 | ⟨op,ctor,n,m,var,kids⟩=>[(eI op),(eI ctor),(eI n),(eI m),(eI var),.slice 6 (Q5h kids)]
def Q5h:List Q0→List (List D)
 | []=>[]
 | x::l=>Z0 x::Q5h l
end
theorem Z13:∀ l,Q5h l=List.map Z0 l
 | []=>by simp [Q5h]
 | x::l=>by simp [Q5h,Z13 l]
@[simp] theorem X1p (x:Q0):Z0 x=[(eI x.op),(eI x.ctor),(eI x.n),(eI x.m),(eI x.var),(.slice 6 (List.map Z0 x.kids))]:=by cases x;simp [Z0,Z13]
mutual
theorem Q4i:∀ (x:Q0),∀ d∈Z0 x,Free d
 | ⟨op,ctor,n,m,var,kids⟩,d,h=>by
  simp only [Z0,U8,List.not_mem_nil,or_false] at h
  rcases h with rfl | rfl | rfl | rfl | rfl | rfl
  ·simp
  ·simp
  ·simp
  ·simp
  ·simp
  ·exact X3 (Z4e kids)
theorem Z4e:∀ (l:List Q0),∀ row∈Q5h l,∀ d∈row,Free d
 | [],row,h,_,_=>by simp [Q5h] at h
 | p::l,row,h,d,hd=>by
  rw [Q5h,U8] at h
  rcases h with rfl | h
  ·exact Q4i p d hd
  ·exact Z4e l row h d hd
end
@[simp] theorem Z3m (sz:Nat) (l:List Q0):Free (.slice sz (List.map Z0 l)):=X3 (Q4 Q4i l)
@[simp] theorem X3e (sz:Nat) (l:List Q0) (rows:List (List D)) (h:∀ row∈rows,∀ d∈row,Free d):Free (.slice sz (List.map Z0 l++rows)):=Q00 Q4i l h
@[simp] theorem X3g (sz sz2:Nat) (l:List (List Q0)):Free (.slice sz (List.map (rL sz2 Z0) l)):=Y7 sz sz2 Z0 (fun l=>Z3m sz2 l) l
structure Grow where
 clause:Int
 pats:List Q0
 binds:List Q1
 deriving Inhabited
def Q3j (x:Grow):List D:=[(eI x.clause),(.slice 6 (List.map Z0 x.pats)),(.slice 2 (List.map Q7 x.binds))]
@[simp] theorem V78 (x:Grow):Q3j x=[(eI x.clause),(.slice 6 (List.map Z0 x.pats)),(.slice 2 (List.map Q7 x.binds))]:=rfl
theorem Z6c (x:Grow):∀ d∈Q3j x,Free d:=by simp
@[simp] theorem Z9w (sz:Nat) (l:List Grow):Free (.slice sz (List.map Q3j l)):=X3 (Q4 Z6c l)
@[simp] theorem X9t (sz:Nat) (l:List Grow) (rows:List (List D)) (h:∀ row∈rows,∀ d∈row,Free d):Free (.slice sz (List.map Q3j l++rows)):=Q00 Z6c l h
@[simp] theorem X9u (sz sz2:Nat) (l:List (List Grow)):Free (.slice sz (List.map (rL sz2 Q3j) l)):=Y7 sz sz2 Q3j (fun l=>Z9w sz2 l) l
structure Q2q where
 op:Int
 var:Int
 n:Int
 deriving Inhabited
def Q6y (x:Q2q):List D:=[(eI x.op),(eI x.var),(eI x.n)]
@[simp] theorem V1h (x:Q2q):Q6y x=[(eI x.op),(eI x.var),(eI x.n)]:=rfl
theorem Z6f (x:Q2q):∀ d∈Q6y x,Free d:=by simp
@[simp] theorem Z6b (sz:Nat) (l:List Q2q):Free (.slice sz (List.map Q6y l)):=X3 (Q4 Z6f l)
@[simp] theorem X6g (sz:Nat) (l:List Q2q) (rows:List (List D)) (h:∀ row∈rows,∀ d∈row,Free d):Free (.slice sz (List.map Q6y l++rows)):=Q00 Z6f l h
@[simp] theorem X6k (sz sz2:Nat) (l:List (List Q2q)):Free (.slice sz (List.map (rL sz2 Q6y) l)):=Y7 sz sz2 Q6y (fun l=>Z6b sz2 l) l
structure Z1 where
 pat:Q0
 guard:Q2q
 deriving Inhabited
def V6 (x:Z1):List D:=[(eI x.pat.op),(eI x.pat.ctor),(eI x.pat.n),(eI x.pat.m),(eI x.pat.var),(.slice 6 (List.map Z0 x.pat.kids)),(eI x.guard.op),(eI x.guard.var),(eI x.guard.n)]
@[simp] theorem X3v (x:Z1):V6 x=[(eI x.pat.op),(eI x.pat.ctor),(eI x.pat.n),(eI x.pat.m),(eI x.pat.var),(.slice 6 (List.map Z0 x.pat.kids)),(eI x.guard.op),(eI x.guard.var),(eI x.guard.n)]:=rfl
theorem Q6h (x:Z1):∀ d∈V6 x,Free d:=by simp
@[simp] theorem Z4w (sz:Nat) (l:List Z1):Free (.slice sz (List.map V6 l)):=X3 (Q4 Q6h l)
@[simp] theorem X4h (sz:Nat) (l:List Z1) (rows:List (List D)) (h:∀ row∈rows,∀ d∈row,Free d):Free (.slice sz (List.map V6 l++rows)):=Q00 Q6h l h
@[simp] theorem X4l (sz sz2:Nat) (l:List (List Z1)):Free (.slice sz (List.map (rL sz2 V6) l)):=Y7 sz sz2 V6 (fun l=>Z4w sz2 l) l
structure Q6w where
 name:ByteArray
 args:List Q6
 index:Int
 deriving Inhabited
def Q5r (x:Q6w):List D:=[(eS x.name),(.slice 2 (List.map W6 x.args)),(eI x.index)]
@[simp] theorem W0y (x:Q6w):Q5r x=[(eS x.name),(.slice 2 (List.map W6 x.args)),(eI x.index)]:=rfl
theorem Q99 (x:Q6w):∀ d∈Q5r x,Free d:=by simp
@[simp] theorem Z7v (sz:Nat) (l:List Q6w):Free (.slice sz (List.map Q5r l)):=X3 (Q4 Q99 l)
@[simp] theorem X8j (sz:Nat) (l:List Q6w) (rows:List (List D)) (h:∀ row∈rows,∀ d∈row,Free d):Free (.slice sz (List.map Q5r l++rows)):=Q00 Q99 l h
@[simp] theorem X8s (sz sz2:Nat) (l:List (List Q6w)):Free (.slice sz (List.map (rL sz2 Q5r) l)):=Y7 sz sz2 Q5r (fun l=>Z7v sz2 l) l
structure Q3 where
 name:ByteArray
 ctors:List Q6w
 deriving Inhabited
def W8 (x:Q3):List D:=[(eS x.name),(.slice 3 (List.map Q5r x.ctors))]
@[simp] theorem W0x (x:Q3):W8 x=[(eS x.name),(.slice 3 (List.map Q5r x.ctors))]:=rfl
theorem Q98 (x:Q3):∀ d∈W8 x,Free d:=by simp
@[simp] theorem Z7u (sz:Nat) (l:List Q3):Free (.slice sz (List.map W8 l)):=X3 (Q4 Q98 l)
@[simp] theorem X8i (sz:Nat) (l:List Q3) (rows:List (List D)) (h:∀ row∈rows,∀ d∈row,Free d):Free (.slice sz (List.map W8 l++rows)):=Q00 Q98 l h
@[simp] theorem X8r (sz sz2:Nat) (l:List (List Q3)):Free (.slice sz (List.map (rL sz2 W8) l)):=Y7 sz sz2 W8 (fun l=>Z7u sz2 l) l
structure Q9l where
 w:List Q3
 d:List Int
 deriving Inhabited
def Q6l (x:Q9l):List D:=[(.slice 2 (List.map W8 x.w)),(.cptr (List.map cI x.d))]
@[simp] theorem W9j (x:Q9l):Q6l x=[(.slice 2 (List.map W8 x.w)),(.cptr (List.map cI x.d))]:=rfl
theorem Z3n (x:Q9l):∀ d∈Q6l x,Free d:=by simp
@[simp] theorem Z4u (sz:Nat) (l:List Q9l):Free (.slice sz (List.map Q6l l)):=X3 (Q4 Z3n l)
@[simp] theorem X4f (sz:Nat) (l:List Q9l) (rows:List (List D)) (h:∀ row∈rows,∀ d∈row,Free d):Free (.slice sz (List.map Q6l l++rows)):=Q00 Z3n l h
@[simp] theorem X4j (sz sz2:Nat) (l:List (List Q9l)):Free (.slice sz (List.map (rL sz2 Q6l) l)):=Y7 sz sz2 Q6l (fun l=>Z4u sz2 l) l
structure Z9 where
 spaces:Q9l
 list:List Z1
 pick:Int
 count:Int
 deriving Inhabited
def Y0 (x:Z9):List D:=[(.cptr (Q6l x.spaces)),(.slice 9 (List.map V6 x.list)),(eI x.pick),(eI x.count)]
@[simp] theorem W3j (x:Z9):Y0 x=[(.cptr (Q6l x.spaces)),(.slice 9 (List.map V6 x.list)),(eI x.pick),(eI x.count)]:=rfl
theorem Q96 (x:Z9):∀ d∈Y0 x,Free d:=by simp
@[simp] theorem Z1p (sz:Nat) (l:List Z9):Free (.slice sz (List.map Y0 l)):=X3 (Q4 Q96 l)
@[simp] theorem X0s (sz:Nat) (l:List Z9) (rows:List (List D)) (h:∀ row∈rows,∀ d∈row,Free d):Free (.slice sz (List.map Y0 l++rows)):=Q00 Q96 l h
@[simp] theorem X0t (sz sz2:Nat) (l:List (List Z9)):Free (.slice sz (List.map (rL sz2 Y0) l)):=Y7 sz sz2 Y0 (fun l=>Z1p sz2 l) l
structure Z5 where
 path:List Int
 t:Q6
 deriving Inhabited
def Q0v (x:Z5):List D:=[(.slice 1 (List.map rI x.path)),(eI x.t.data),(eI x.t.index)]
@[simp] theorem W9k (x:Z5):Q0v x=[(.slice 1 (List.map rI x.path)),(eI x.t.data),(eI x.t.index)]:=rfl
theorem Z3o (x:Z5):∀ d∈Q0v x,Free d:=by simp
@[simp] theorem Z4v (sz:Nat) (l:List Z5):Free (.slice sz (List.map Q0v l)):=X3 (Q4 Z3o l)
@[simp] theorem X4g (sz:Nat) (l:List Z5) (rows:List (List D)) (h:∀ row∈rows,∀ d∈row,Free d):Free (.slice sz (List.map Q0v l++rows)):=Q00 Z3o l h
@[simp] theorem X4k (sz sz2:Nat) (l:List (List Z5)):Free (.slice sz (List.map (rL sz2 Q0v) l)):=Y7 sz sz2 Q0v (fun l=>Z4v sz2 l) l
structure Q7w where
 ctor:Int
 n:Int
 m:Int
 to:Int
 deriving Inhabited
def Q9z (x:Q7w):List D:=[(eI x.ctor),(eI x.n),(eI x.m),(eI x.to)]
@[simp] theorem V4s (x:Q7w):Q9z x=[(eI x.ctor),(eI x.n),(eI x.m),(eI x.to)]:=rfl
theorem X00 (x:Q7w):∀ d∈Q9z x,Free d:=by simp
@[simp] theorem Z7t (sz:Nat) (l:List Q7w):Free (.slice sz (List.map Q9z l)):=X3 (Q4 X00 l)
@[simp] theorem X8h (sz:Nat) (l:List Q7w) (rows:List (List D)) (h:∀ row∈rows,∀ d∈row,Free d):Free (.slice sz (List.map Q9z l++rows)):=Q00 X00 l h
@[simp] theorem X8q (sz sz2:Nat) (l:List (List Q7w)):Free (.slice sz (List.map (rL sz2 Q9z) l)):=Y7 sz sz2 Q9z (fun l=>Z7t sz2 l) l
structure Q05 where
 op:Int
 clause:Int
 binds:List Q1
 path:List Int
 edges:List Q7w
 else_:Int
 deriving Inhabited
def Q7z (x:Q05):List D:=[(eI x.op),(eI x.clause),(.slice 2 (List.map Q7 x.binds)),(.slice 1 (List.map rI x.path)),(.slice 4 (List.map Q9z x.edges)),(eI x.else_)]
@[simp] theorem V4r (x:Q05):Q7z x=[(eI x.op),(eI x.clause),(.slice 2 (List.map Q7 x.binds)),(.slice 1 (List.map rI x.path)),(.slice 4 (List.map Q9z x.edges)),(eI x.else_)]:=rfl
theorem Z9z (x:Q05):∀ d∈Q7z x,Free d:=by simp
@[simp] theorem Z7s (sz:Nat) (l:List Q05):Free (.slice sz (List.map Q7z l)):=X3 (Q4 Z9z l)
@[simp] theorem X8g (sz:Nat) (l:List Q05) (rows:List (List D)) (h:∀ row∈rows,∀ d∈row,Free d):Free (.slice sz (List.map Q7z l++rows)):=Q00 Z9z l h
@[simp] theorem X8p (sz sz2:Nat) (l:List (List Q05)):Free (.slice sz (List.map (rL sz2 Q7z) l)):=Y7 sz sz2 Q7z (fun l=>Z7s sz2 l) l
structure Z7 where
 b:List Int
 p:Int
 deriving Inhabited
def V9 (x:Z7):List D:=[(.slice 1 (List.map (rK .u8) x.b)),(eI x.p)]
@[simp] theorem V1g (x:Z7):V9 x=[(.slice 1 (List.map (rK .u8) x.b)),(eI x.p)]:=rfl
theorem Z6e (x:Z7):∀ d∈V9 x,Free d:=by simp
@[simp] theorem Z69 (sz:Nat) (l:List Z7):Free (.slice sz (List.map V9 l)):=X3 (Q4 Z6e l)
@[simp] theorem X6e (sz:Nat) (l:List Z7) (rows:List (List D)) (h:∀ row∈rows,∀ d∈row,Free d):Free (.slice sz (List.map V9 l++rows)):=Q00 Z6e l h
@[simp] theorem X6i (sz sz2:Nat) (l:List (List Z7)):Free (.slice sz (List.map (rL sz2 V9) l)):=Y7 sz sz2 V9 (fun l=>Z69 sz2 l) l
structure Y5 where
 path:List Int
 kind:Q6
 deriving Inhabited
def Q15 (x:Y5):List D:=[(.slice 1 (List.map rI x.path)),(eI x.kind.data),(eI x.kind.index)]
@[simp] theorem W59 (x:Y5):Q15 x=[(.slice 1 (List.map rI x.path)),(eI x.kind.data),(eI x.kind.index)]:=rfl
theorem Z08 (x:Y5):∀ d∈Q15 x,Free d:=by simp
@[simp] theorem Z2u (sz:Nat) (l:List Y5):Free (.slice sz (List.map Q15 l)):=X3 (Q4 Z08 l)
@[simp] theorem X2c (sz:Nat) (l:List Y5) (rows:List (List D)) (h:∀ row∈rows,∀ d∈row,Free d):Free (.slice sz (List.map Q15 l++rows)):=Q00 Z08 l h
@[simp] theorem X2e (sz sz2:Nat) (l:List (List Y5)):Free (.slice sz (List.map (rL sz2 Q15) l)):=Y7 sz sz2 Q15 (fun l=>Z2u sz2 l) l
structure Q9 where
 var:Int
 typ:Q6
 deriving Inhabited
def V4 (x:Q9):List D:=[(eI x.var),(eI x.typ.data),(eI x.typ.index)]
@[simp] theorem W89 (x:Q9):V4 x=[(eI x.var),(eI x.typ.data),(eI x.typ.index)]:=rfl
theorem Q5g (x:Q9):∀ d∈V4 x,Free d:=by simp
@[simp] theorem Z3l (sz:Nat) (l:List Q9):Free (.slice sz (List.map V4 l)):=X3 (Q4 Q5g l)
@[simp] theorem X3d (sz:Nat) (l:List Q9) (rows:List (List D)) (h:∀ row∈rows,∀ d∈row,Free d):Free (.slice sz (List.map V4 l++rows)):=Q00 Q5g l h
@[simp] theorem X3f (sz sz2:Nat) (l:List (List Q9)):Free (.slice sz (List.map (rL sz2 V4) l)):=Y7 sz sz2 V4 (fun l=>Z3l sz2 l) l
structure V2 where
 clause:Int
 pats:List Q0
 binds:List Q1
 deriving Inhabited
def Q1e (x:V2):List D:=[(eI x.clause),(.slice 6 (List.map Z0 x.pats)),(.slice 2 (List.map Q7 x.binds))]
@[simp] theorem V1f (x:V2):Q1e x=[(eI x.clause),(.slice 6 (List.map Z0 x.pats)),(.slice 2 (List.map Q7 x.binds))]:=rfl
theorem Z6d (x:V2):∀ d∈Q1e x,Free d:=by simp
@[simp] theorem Z68 (sz:Nat) (l:List V2):Free (.slice sz (List.map Q1e l)):=X3 (Q4 Z6d l)
@[simp] theorem X6d (sz:Nat) (l:List V2) (rows:List (List D)) (h:∀ row∈rows,∀ d∈row,Free d):Free (.slice sz (List.map Q1e l++rows)):=Q00 Z6d l h
@[simp] theorem X6h (sz sz2:Nat) (l:List (List V2)):Free (.slice sz (List.map (rL sz2 Q1e) l)):=Y7 sz sz2 Q1e (fun l=>Z68 sz2 l) l
end Go.Proofs.YtfhpjeogjcfkaaaGreat
