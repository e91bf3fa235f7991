import Derived.Test.YtfhpjeogjcfkaaaGreatSJE1
set_option linter.unusedSimpArgs false
set_option linter.unusedVariables false
namespace Go.Proofs.YtfhpjeogjcfkaaaGreat
open Go Go.RowKit
theorem Q8 {α:Type}{f:α→List D}(h:∀ x,∀ d∈f x,Free d)(l:List α):∀ row∈List.map f l,∀ d∈row,Free d:=fun row hr d hd=>by
 simp only [U10] at hr
 obtain ⟨x,_,rfl⟩:=hr
 exact h x d hd
abbrev eI (n:Int):D:=.val (.int .i64 n)
abbrev eB (b:Bool):D:=.val (.bool b)
abbrev eS (s:ByteArray):D:=.val (.string s)
abbrev cI:Int→D:=fun n=>.val (.int .i64 n)
abbrev cB:Bool→D:=fun n=>.val (.bool n)
def rI (n:Int):List D:=[eI n]
def rK (k:IntKind)(n:Int):List D:=[.val (.int k n)]
def rB (n:Bool):List D:=[eB n]
def rS (n:ByteArray):List D:=[eS n]
def rL {α:Type}(sz:Nat)(r:α→List D)(l:List α):List D:=[.slice sz (List.map r l)]
@[simp] theorem rI_eq (n:Int):rI n=[eI n]:=rfl
@[simp] theorem W1c (sz:Nat) (l:List Int):Free (.slice sz (List.map (rI) l)):=X5 (fun row hr d hd=>by simp only [U10] at hr;obtain ⟨x,_,rfl⟩:=hr;simp at hd;subst hd;exact Q4r _)
@[simp] theorem rK_eq (k:IntKind) (n:Int):rK k n=[.val (.int k n)]:=rfl
@[simp] theorem V43 (k:IntKind) (sz:Nat) (l:List Int):Free (.slice sz (List.map (rK k) l)):=X5 (fun row hr d hd=>by simp only [U10] at hr;obtain ⟨x,_,rfl⟩:=hr;simp at hd;subst hd;exact Q4r _)
@[simp] theorem rB_eq (n:Bool):rB n=[eB n]:=rfl
@[simp] theorem W1d (sz:Nat) (l:List Bool):Free (.slice sz (List.map (rB) l)):=X5 (fun row hr d hd=>by simp only [U10] at hr;obtain ⟨x,_,rfl⟩:=hr;simp at hd;subst hd;exact Q4r _)
@[simp] theorem Y1w (n:ByteArray):rS n=[eS n]:=rfl
@[simp] theorem W13 (sz:Nat) (l:List ByteArray):Free (.slice sz (List.map (rS) l)):=X5 (fun row hr d hd=>by simp only [U10] at hr;obtain ⟨x,_,rfl⟩:=hr;simp at hd;subst hd;exact Q4r _)
@[simp] theorem rL_eq {α:Type} (sz:Nat) (r:α→List D) (l:List α):rL sz r l=[.slice sz (List.map r l)]:=rfl
theorem Y8 {α:Type}(sz sz2:Nat)(r:α→List D)(h:∀ l,Free (.slice sz2 (List.map r l)))(l:List (List α)):Free (.slice sz (List.map (rL sz2 r) l)):=X5 (fun row hr d hd=>by simp only [U10] at hr;obtain ⟨x,_,rfl⟩:=hr;simp at hd;subst hd;exact h x)
@[simp] theorem V15 (sz:Nat) (row:List D) (rows:List (List D)) (h:∀ r∈row::rows,∀ d∈r,Free d):Free (.slice sz (row::rows)):=X5 h
@[simp] theorem V2s (sz:Nat):Free (.slice sz []):=X5 (fun _ h=>by simp at h)
@[simp] theorem V45 {ds:List D} (h:∀ d∈ds,Free d):Free (.agg ds):=Z6d h
@[simp] theorem V42 {ds:List D} (h:∀ d∈ds,Free d):Free (.tup ds):=W93 h
@[simp] theorem V2v {ds:List D} (h:∀ d∈ds,Free d):Free (.cptr ds):=X4f h
@[simp] theorem V2w {f:FuncId} {ds:List D} (h:∀ d∈ds,Free d):Free (.clos f ds):=X4g h
@[simp] theorem V44:Free .any:=W98
theorem Q00 {sz:Nat}{α:Type}{r:α→List D}(hr:∀ x,∀ d∈r x,Free d)(xs:List α){rows:List (List D)}(h:∀ row∈rows,∀ d∈row,Free d):Free (.slice sz (List.map r xs++rows)):=X74 hr h
@[simp] theorem V2x (l:List Int):Free (.agg (List.map cI l)):=Z6d fun d h=>by simp only [U10] at h;obtain ⟨x,_,rfl⟩:=h;exact Q4r _
@[simp] theorem V2y (l:List Bool):Free (.agg (List.map cB l)):=Z6d fun d h=>by simp only [U10] at h;obtain ⟨x,_,rfl⟩:=h;exact Q4r _
@[simp] theorem V2t (l:List Int):∀ d∈List.map cI l,Free d:=fun d h=>by simp only [U10] at h;obtain ⟨x,_,rfl⟩:=h;exact Q4r _
@[simp] theorem V2u (l:List Bool):∀ d∈List.map cB l,Free d:=fun d h=>by simp only [U10] at h;obtain ⟨x,_,rfl⟩:=h;exact Q4r _
@[simp] theorem W95 (sz sz2:Nat) (l:List (List Int)):Free (.slice sz (List.map (rL sz2 rI) l)):=Y8 sz sz2 rI (fun l=>W1c sz2 l) l
@[simp] theorem W94 (sz sz2:Nat) (l:List (List ByteArray)):Free (.slice sz (List.map (rL sz2 rS) l)):=Y8 sz sz2 rS (fun l=>W13 sz2 l) l
@[simp] theorem W96 (sz sz2:Nat) (l:List (List Bool)):Free (.slice sz (List.map (rL sz2 rB) l)):=Y8 sz sz2 rB (fun l=>W1d sz2 l) l
structure Q1 where
 data:Int
 index:Int
 deriving Inhabited
def Z2 (x:Q1):List D:=[(eI x.data),(eI x.index)]
@[simp] theorem V73 (x:Q1):Z2 x=[(eI x.data),(eI x.index)]:=rfl
theorem Q9v (x:Q1):∀ d∈Z2 x,Free d:=by simp
@[simp] theorem Z98 (sz:Nat) (l:List Q1):Free (.slice sz (List.map Z2 l)):=X5 (Q8 Q9v l)
@[simp] theorem W0v (sz:Nat) (l:List Q1) (rows:List (List D)) (h:∀ row∈rows,∀ d∈row,Free d):Free (.slice sz (List.map Z2 l++rows)):=Q00 Q9v l h
@[simp] theorem W14 (sz sz2:Nat) (l:List (List Q1)):Free (.slice sz (List.map (rL sz2 Z2) l)):=Y8 sz sz2 Z2 (fun l=>Z98 sz2 l) l
structure Q3 where
 ctor:Int
 n:Int
 kids:List Q3
 deriving Inhabited
mutual
def Z5:Q3→List D
 | ⟨ctor,n,kids⟩=>[(eI ctor),(eI n),.slice 3 (Q8g kids)]
def Q8g:List Q3→List (List D)
 | []=>[]
 | x::l=>Z5 x::Q8g l
end
theorem Z5f:∀ l,Q8g l=List.map Z5 l
 | []=>by simp [Q8g]
 | x::l=>by simp [Q8g,Z5f l]
@[simp] theorem X9y (x:Q3):Z5 x=[(eI x.ctor),(eI x.n),(.slice 3 (List.map Z5 x.kids))]:=by cases x;simp [Z5,Z5f]
mutual
theorem Q7d:∀ (x:Q3),∀ d∈Z5 x,Free d
 | ⟨ctor,n,kids⟩,d,h=>by
  simp only [Z5,U8,List.not_mem_nil,or_false] at h
  rcases h with rfl | rfl | rfl
  ·simp
  ·simp
  ·exact X5 (X0d kids)
theorem X0d:∀ (l:List Q3),∀ row∈Q8g l,∀ d∈row,Free d
 | [],row,h,_,_=>by simp [Q8g] at h
 | p::l,row,h,d,hd=>by
  rw [Q8g,U8] at h
  rcases h with rfl | h
  ·exact Q7d p d hd
  ·exact X0d l row h d hd
end
@[simp] theorem Z7y (sz:Nat) (l:List Q3):Free (.slice sz (List.map Z5 l)):=X5 (Q8 Q7d l)
@[simp] theorem X93 (sz:Nat) (l:List Q3) (rows:List (List D)) (h:∀ row∈rows,∀ d∈row,Free d):Free (.slice sz (List.map Z5 l++rows)):=Q00 Q7d l h
@[simp] theorem X97 (sz sz2:Nat) (l:List (List Q3)):Free (.slice sz (List.map (rL sz2 Z5) l)):=Y8 sz sz2 Z5 (fun l=>Z7y sz2 l) l
structure Q5l where
 var:Int
 path:List Int
 deriving Inhabited
def Q0v (x:Q5l):List D:=[(eI x.var),(.slice 1 (List.map rI x.path))]
@[simp] theorem W7l (x:Q5l):Q0v x=[(eI x.var),(.slice 1 (List.map rI x.path))]:=rfl
theorem Z0y (x:Q5l):∀ d∈Q0v x,Free d:=by simp
@[simp] theorem Z3q (sz:Nat) (l:List Q5l):Free (.slice sz (List.map Q0v l)):=X5 (Q8 Z0y l)
@[simp] theorem X4c (sz:Nat) (l:List Q5l) (rows:List (List D)) (h:∀ row∈rows,∀ d∈row,Free d):Free (.slice sz (List.map Q0v l++rows)):=Q00 Z0y l h
@[simp] theorem X4e (sz sz2:Nat) (l:List (List Q5l)):Free (.slice sz (List.map (rL sz2 Q0v) l)):=Y8 sz sz2 Q0v (fun l=>Z3q sz2 l) l
mutual
structure Q8x where
 ctor:Int
 n:Int
 m:Int
 tree:Z8u
structure Z8u where
 op:Int
 clause:Int
 binds:List Q5l
 path:List Int
 branches:List Q8x
 else_:List Z8u
end
instance:Inhabited Z8u:=⟨⟨default,default,[],[],[],[]⟩⟩
instance:Inhabited Q8x:=⟨⟨default,default,default,default⟩⟩
mutual
def Q5m:Q8x→List D
 | ⟨ctor,n,m,tree⟩=>[(eI ctor),(eI n),(eI m)]++Q8h tree
def Q79:List Q8x→List (List D)
 | []=>[]
 | x::l=>Q5m x::Q79 l
def Q8h:Z8u→List D
 | ⟨op,clause,binds,path,branches,else_⟩=>[(eI op),(eI clause),(.slice 2 (List.map Q0v binds)),(.slice 1 (List.map rI path)),.slice 9 (Q79 branches),.slice 6 (Z0j else_)]
def Z0j:List Z8u→List (List D)
 | []=>[]
 | x::l=>Q8h x::Z0j l
end
theorem Q9h:∀ l,Q79 l=List.map Q5m l
 | []=>by simp [Q79]
 | x::l=>by simp [Q79,Q9h l]
theorem Z28:∀ l,Z0j l=List.map Q8h l
 | []=>by simp [Z0j]
 | x::l=>by simp [Z0j,Z28 l]
@[simp] theorem V74 (x:Z8u):Q8h x=[(eI x.op),(eI x.clause),(.slice 2 (List.map Q0v x.binds)),(.slice 1 (List.map rI x.path)),(.slice 9 (List.map Q5m x.branches)),(.slice 6 (List.map Q8h x.else_))]:=by cases x;simp [Q8h,Q9h,Z28]
@[simp] theorem V24 (x:Q8x):Q5m x=[(eI x.ctor),(eI x.n),(eI x.m),(eI x.tree.op),(eI x.tree.clause),(.slice 2 (List.map Q0v x.tree.binds)),(.slice 1 (List.map rI x.tree.path)),(.slice 9 (List.map Q5m x.tree.branches)),(.slice 6 (List.map Q8h x.tree.else_))]:=by cases x;simp [Q5m,Q9h,Z28]
mutual
theorem Z1e:∀ (x:Q8x),∀ d∈Q5m x,Free d
 | ⟨ctor,n,m,tree⟩,d,h=>by
  rw [Q5m] at h
  simp only [List.mem_append] at h
  rcases h with h | h
  ·simp only [U8,List.not_mem_nil,or_false] at h
   rcases h with rfl | rfl | rfl
   ·simp
   ·simp
   ·simp
  ·exact Z3r tree d h
theorem Z83:∀ (l:List Q8x),∀ row∈Q79 l,∀ d∈row,Free d
 | [],row,h,_,_=>by simp [Q79] at h
 | p::l,row,h,d,hd=>by
  rw [Q79,U8] at h
  rcases h with rfl | h
  ·exact Z1e p d hd
  ·exact Z83 l row h d hd
theorem Z3r:∀ (x:Z8u),∀ d∈Q8h x,Free d
 | ⟨op,clause,binds,path,branches,else_⟩,d,h=>by
  rw [Q8h] at h
  simp only [U8,List.not_mem_nil,or_false] at h
  rcases h with rfl | rfl | rfl | rfl | rfl | rfl
  ·simp
  ·simp
  ·simp
  ·simp
  ·exact X5 (Z83 branches)
  ·exact X5 (X4h else_)
theorem X4h:∀ (l:List Z8u),∀ row∈Z0j l,∀ d∈row,Free d
 | [],row,h,_,_=>by simp [Z0j] at h
 | p::l,row,h,d,hd=>by
  rw [Z0j,U8] at h
  rcases h with rfl | h
  ·exact Z3r p d hd
  ·exact X4h l row h d hd
end
@[simp] theorem Z60 (sz:Nat) (l:List Q8x):Free (.slice sz (List.map Q5m l)):=X5 (Q8 Z1e l)
@[simp] theorem X6z (sz:Nat) (l:List Q8x) (rows:List (List D)) (h:∀ row∈rows,∀ d∈row,Free d):Free (.slice sz (List.map Q5m l++rows)):=Q00 Z1e l h
@[simp] theorem X73 (sz sz2:Nat) (l:List (List Q8x)):Free (.slice sz (List.map (rL sz2 Q5m) l)):=Y8 sz sz2 Q5m (fun l=>Z60 sz2 l) l
@[simp] theorem Z99 (sz:Nat) (l:List Z8u):Free (.slice sz (List.map Q8h l)):=X5 (Q8 Z3r l)
@[simp] theorem W0w (sz:Nat) (l:List Z8u) (rows:List (List D)) (h:∀ row∈rows,∀ d∈row,Free d):Free (.slice sz (List.map Q8h l++rows)):=Q00 Z3r l h
@[simp] theorem W15 (sz sz2:Nat) (l:List (List Z8u)):Free (.slice sz (List.map (rL sz2 Q8h) l)):=Y8 sz sz2 Q8h (fun l=>Z99 sz2 l) l
structure W1w where
 op:Int
 path:List Int
 ctor:Int
 n:Int
 m:Int
 clause:Int
 binds:List Q5l
 to:Int
 deriving Inhabited
def Z76 (x:W1w):List D:=[(eI x.op),(.slice 1 (List.map rI x.path)),(eI x.ctor),(eI x.n),(eI x.m),(eI x.clause),(.slice 2 (List.map Q0v x.binds)),(eI x.to)]
@[simp] theorem V75 (x:W1w):Z76 x=[(eI x.op),(.slice 1 (List.map rI x.path)),(eI x.ctor),(eI x.n),(eI x.m),(eI x.clause),(.slice 2 (List.map Q0v x.binds)),(eI x.to)]:=rfl
theorem X1f (x:W1w):∀ d∈Z76 x,Free d:=by simp
@[simp] theorem Z9a (sz:Nat) (l:List W1w):Free (.slice sz (List.map Z76 l)):=X5 (Q8 X1f l)
@[simp] theorem W0x (sz:Nat) (l:List W1w) (rows:List (List D)) (h:∀ row∈rows,∀ d∈row,Free d):Free (.slice sz (List.map Z76 l++rows)):=Q00 X1f l h
@[simp] theorem W16 (sz sz2:Nat) (l:List (List W1w)):Free (.slice sz (List.map (rL sz2 Z76) l)):=Y8 sz sz2 Z76 (fun l=>Z9a sz2 l) l
structure X3 where
 var:Int
 value:Q3
 deriving Inhabited
def Q11 (x:X3):List D:=[(eI x.var),(eI x.value.ctor),(eI x.value.n),(.slice 3 (List.map Z5 x.value.kids))]
@[simp] theorem V78 (x:X3):Q11 x=[(eI x.var),(eI x.value.ctor),(eI x.value.n),(.slice 3 (List.map Z5 x.value.kids))]:=rfl
theorem Q9y (x:X3):∀ d∈Q11 x,Free d:=by simp
@[simp] theorem Z9f (sz:Nat) (l:List X3):Free (.slice sz (List.map Q11 l)):=X5 (Q8 Q9y l)
@[simp] theorem W12 (sz:Nat) (l:List X3) (rows:List (List D)) (h:∀ row∈rows,∀ d∈row,Free d):Free (.slice sz (List.map Q11 l++rows)):=Q00 Q9y l h
@[simp] theorem W1b (sz sz2:Nat) (l:List (List X3)):Free (.slice sz (List.map (rL sz2 Q11) l)):=Y8 sz sz2 Q11 (fun l=>Z9f sz2 l) l
structure Q0 where
 op:Int
 ctor:Int
 n:Int
 m:Int
 var:Int
 kids:List Q0
 deriving Inhabited
mutual
def Q2:Q0→List D
 | ⟨op,ctor,n,m,var,kids⟩=>[(eI op),(eI ctor),(eI n),(eI m),(eI var),.slice 6 (Q6b kids)]
def Q6b:List Q0→List (List D)
 | []=>[]
 | x::l=>Q2 x::Q6b l
end
theorem Z1w:∀ l,Q6b l=List.map Q2 l
 | []=>by simp [Q6b]
 | x::l=>by simp [Q6b,Z1w l]
@[simp] theorem X3c (x:Q0):Q2 x=[(eI x.op),(eI x.ctor),(eI x.n),(eI x.m),(eI x.var),(.slice 6 (List.map Q2 x.kids))]:=by cases x;simp [Q2,Z1w]
mutual
theorem Q5j:∀ (x:Q0),∀ d∈Q2 x,Free d
 | ⟨op,ctor,n,m,var,kids⟩,d,h=>by
  simp only [Q2,U8,List.not_mem_nil,or_false] at h
  rcases h with rfl | rfl | rfl | rfl | rfl | rfl
  ·simp
  ·simp
  ·simp
  ·simp
  ·simp
  ·exact X5 (Z5j kids)
theorem Z5j:∀ (l:List Q0),∀ row∈Q6b l,∀ d∈row,Free d
 | [],row,h,_,_=>by simp [Q6b] at h
 | p::l,row,h,d,hd=>by
  rw [Q6b,U8] at h
  rcases h with rfl | h
  ·exact Q5j p d hd
  ·exact Z5j l row h d hd
end
@[simp] theorem Z4n (sz:Nat) (l:List Q0):Free (.slice sz (List.map Q2 l)):=X5 (Q8 Q5j l)
@[simp] theorem X5j (sz:Nat) (l:List Q0) (rows:List (List D)) (h:∀ row∈rows,∀ d∈row,Free d):Free (.slice sz (List.map Q2 l++rows)):=Q00 Q5j l h
@[simp] theorem X5l (sz sz2:Nat) (l:List (List Q0)):Free (.slice sz (List.map (rL sz2 Q2) l)):=Y8 sz sz2 Q2 (fun l=>Z4n sz2 l) l
structure Grow where
 clause:Int
 pats:List Q0
 binds:List Q5l
 deriving Inhabited
def X62 (x:Grow):List D:=[(eI x.clause),(.slice 6 (List.map Q2 x.pats)),(.slice 2 (List.map Q0v x.binds))]
@[simp] theorem V9l (x:Grow):X62 x=[(eI x.clause),(.slice 6 (List.map Q2 x.pats)),(.slice 2 (List.map Q0v x.binds))]:=rfl
theorem X75 (x:Grow):∀ d∈X62 x,Free d:=by simp
@[simp] theorem X1d (sz:Nat) (l:List Grow):Free (.slice sz (List.map X62 l)):=X5 (Q8 X75 l)
@[simp] theorem W2b (sz:Nat) (l:List Grow) (rows:List (List D)) (h:∀ row∈rows,∀ d∈row,Free d):Free (.slice sz (List.map X62 l++rows)):=Q00 X75 l h
@[simp] theorem W2c (sz sz2:Nat) (l:List (List Grow)):Free (.slice sz (List.map (rL sz2 X62) l)):=Y8 sz sz2 X62 (fun l=>X1d sz2 l) l
structure Q34 where
 op:Int
 var:Int
 n:Int
 deriving Inhabited
def Q7f (x:Q34):List D:=[(eI x.op),(eI x.var),(eI x.n)]
@[simp] theorem V3y (x:Q34):Q7f x=[(eI x.op),(eI x.var),(eI x.n)]:=rfl
theorem Z82 (x:Q34):∀ d∈Q7f x,Free d:=by simp
@[simp] theorem Z7z (sz:Nat) (l:List Q34):Free (.slice sz (List.map Q7f l)):=X5 (Q8 Z82 l)
@[simp] theorem X94 (sz:Nat) (l:List Q34) (rows:List (List D)) (h:∀ row∈rows,∀ d∈row,Free d):Free (.slice sz (List.map Q7f l++rows)):=Q00 Z82 l h
@[simp] theorem X98 (sz sz2:Nat) (l:List (List Q34)):Free (.slice sz (List.map (rL sz2 Q7f) l)):=Y8 sz sz2 Q7f (fun l=>Z7z sz2 l) l
structure Q5 where
 pat:Q0
 guard:Q34
 deriving Inhabited
def X4 (x:Q5):List D:=[(eI x.pat.op),(eI x.pat.ctor),(eI x.pat.n),(eI x.pat.m),(eI x.pat.var),(.slice 6 (List.map Q2 x.pat.kids)),(eI x.guard.op),(eI x.guard.var),(eI x.guard.n)]
@[simp] theorem X63 (x:Q5):X4 x=[(eI x.pat.op),(eI x.pat.ctor),(eI x.pat.n),(eI x.pat.m),(eI x.pat.var),(.slice 6 (List.map Q2 x.pat.kids)),(eI x.guard.op),(eI x.guard.var),(eI x.guard.n)]:=rfl
theorem Q70 (x:Q5):∀ d∈X4 x,Free d:=by simp
@[simp] theorem Z5z (sz:Nat) (l:List Q5):Free (.slice sz (List.map X4 l)):=X5 (Q8 Q70 l)
@[simp] theorem X6y (sz:Nat) (l:List Q5) (rows:List (List D)) (h:∀ row∈rows,∀ d∈row,Free d):Free (.slice sz (List.map X4 l++rows)):=Q00 Q70 l h
@[simp] theorem X72 (sz sz2:Nat) (l:List (List Q5)):Free (.slice sz (List.map (rL sz2 X4) l)):=Y8 sz sz2 X4 (fun l=>Z5z sz2 l) l
structure Q7e where
 name:ByteArray
 args:List Q1
 index:Int
 deriving Inhabited
def Q6j (x:Q7e):List D:=[(eS x.name),(.slice 2 (List.map Z2 x.args)),(eI x.index)]
@[simp] theorem W3o (x:Q7e):Q6j x=[(eS x.name),(.slice 2 (List.map Z2 x.args)),(eI x.index)]:=rfl
theorem Q9x (x:Q7e):∀ d∈Q6j x,Free d:=by simp
@[simp] theorem Z9e (sz:Nat) (l:List Q7e):Free (.slice sz (List.map Q6j l)):=X5 (Q8 Q9x l)
@[simp] theorem W11 (sz:Nat) (l:List Q7e) (rows:List (List D)) (h:∀ row∈rows,∀ d∈row,Free d):Free (.slice sz (List.map Q6j l++rows)):=Q00 Q9x l h
@[simp] theorem W1a (sz sz2:Nat) (l:List (List Q7e)):Free (.slice sz (List.map (rL sz2 Q6j) l)):=Y8 sz sz2 Q6j (fun l=>Z9e sz2 l) l
structure Q4 where
 name:ByteArray
 ctors:List Q7e
 deriving Inhabited
def Z8 (x:Q4):List D:=[(eS x.name),(.slice 3 (List.map Q6j x.ctors))]
@[simp] theorem W3n (x:Q4):Z8 x=[(eS x.name),(.slice 3 (List.map Q6j x.ctors))]:=rfl
theorem Q9w (x:Q4):∀ d∈Z8 x,Free d:=by simp
@[simp] theorem Z9d (sz:Nat) (l:List Q4):Free (.slice sz (List.map Z8 l)):=X5 (Q8 Q9w l)
@[simp] theorem W10 (sz:Nat) (l:List Q4) (rows:List (List D)) (h:∀ row∈rows,∀ d∈row,Free d):Free (.slice sz (List.map Z8 l++rows)):=Q00 Q9w l h
@[simp] theorem W19 (sz sz2:Nat) (l:List (List Q4)):Free (.slice sz (List.map (rL sz2 Z8) l)):=Y8 sz sz2 Z8 (fun l=>Z9d sz2 l) l
structure Q0s where
 w:List Q4
 d:List Int
 deriving Inhabited
def Q1u (x:Q0s):List D:=[(.slice 2 (List.map Z8 x.w)),(.cptr (List.map cI x.d))]
@[simp] theorem V22 (x:Q0s):Q1u x=[(.slice 2 (List.map Z8 x.w)),(.cptr (List.map cI x.d))]:=rfl
theorem Z4o (x:Q0s):∀ d∈Q1u x,Free d:=by simp
@[simp] theorem Z5x (sz:Nat) (l:List Q0s):Free (.slice sz (List.map Q1u l)):=X5 (Q8 Z4o l)
@[simp] theorem X6w (sz:Nat) (l:List Q0s) (rows:List (List D)) (h:∀ row∈rows,∀ d∈row,Free d):Free (.slice sz (List.map Q1u l++rows)):=Q00 Z4o l h
@[simp] theorem X70 (sz sz2:Nat) (l:List (List Q0s)):Free (.slice sz (List.map (rL sz2 Q1u) l)):=Y8 sz sz2 Q1u (fun l=>Z5x sz2 l) l
structure Q7w where
 spaces:Q0s
 list:List Q5
 pick:Int
 count:Int
 deriving Inhabited
def Q69 (x:Q7w):List D:=[(.cptr (Q1u x.spaces)),(.slice 9 (List.map X4 x.list)),(eI x.pick),(eI x.count)]
@[simp] theorem W60 (x:Q7w):Q69 x=[(.cptr (Q1u x.spaces)),(.slice 9 (List.map X4 x.list)),(eI x.pick),(eI x.count)]:=rfl
theorem Q9u (x:Q7w):∀ d∈Q69 x,Free d:=by simp
@[simp] theorem Z2f (sz:Nat) (l:List Q7w):Free (.slice sz (List.map Q69 l)):=X5 (Q8 Q9u l)
@[simp] theorem X2d (sz:Nat) (l:List Q7w) (rows:List (List D)) (h:∀ row∈rows,∀ d∈row,Free d):Free (.slice sz (List.map Q69 l++rows)):=Q00 Q9u l h
@[simp] theorem X2e (sz sz2:Nat) (l:List (List Q7w)):Free (.slice sz (List.map (rL sz2 Q69) l)):=Y8 sz sz2 Q69 (fun l=>Z2f sz2 l) l
structure Z51 where
 path:List Int
 t:Q1
 deriving Inhabited
def Q9g (x:Z51):List D:=[(.slice 1 (List.map rI x.path)),(eI x.t.data),(eI x.t.index)]
@[simp] theorem V23 (x:Z51):Q9g x=[(.slice 1 (List.map rI x.path)),(eI x.t.data),(eI x.t.index)]:=rfl
theorem Z4p (x:Z51):∀ d∈Q9g x,Free d:=by simp
@[simp] theorem Z5y (sz:Nat) (l:List Z51):Free (.slice sz (List.map Q9g l)):=X5 (Q8 Z4p l)
@[simp] theorem X6x (sz:Nat) (l:List Z51) (rows:List (List D)) (h:∀ row∈rows,∀ d∈row,Free d):Free (.slice sz (List.map Q9g l++rows)):=Q00 Z4p l h
@[simp] theorem X71 (sz sz2:Nat) (l:List (List Z51)):Free (.slice sz (List.map (rL sz2 Q9g) l)):=Y8 sz sz2 Q9g (fun l=>Z5y sz2 l) l
structure X7t where
 ctor:Int
 n:Int
 m:Int
 to:Int
 deriving Inhabited
def Z3a (x:X7t):List D:=[(eI x.ctor),(eI x.n),(eI x.m),(eI x.to)]
@[simp] theorem V77 (x:X7t):Z3a x=[(eI x.ctor),(eI x.n),(eI x.m),(eI x.to)]:=rfl
theorem X1h (x:X7t):∀ d∈Z3a x,Free d:=by simp
@[simp] theorem Z9c (sz:Nat) (l:List X7t):Free (.slice sz (List.map Z3a l)):=X5 (Q8 X1h l)
@[simp] theorem W0z (sz:Nat) (l:List X7t) (rows:List (List D)) (h:∀ row∈rows,∀ d∈row,Free d):Free (.slice sz (List.map Z3a l++rows)):=Q00 X1h l h
@[simp] theorem W18 (sz sz2:Nat) (l:List (List X7t)):Free (.slice sz (List.map (rL sz2 Z3a) l)):=Y8 sz sz2 Z3a (fun l=>Z9c sz2 l) l
structure W1x where
 op:Int
 clause:Int
 binds:List Q5l
 path:List Int
 edges:List X7t
 else_:Int
 deriving Inhabited
def Z77 (x:W1x):List D:=[(eI x.op),(eI x.clause),(.slice 2 (List.map Q0v x.binds)),(.slice 1 (List.map rI x.path)),(.slice 4 (List.map Z3a x.edges)),(eI x.else_)]
@[simp] theorem V76 (x:W1x):Z77 x=[(eI x.op),(eI x.clause),(.slice 2 (List.map Q0v x.binds)),(.slice 1 (List.map rI x.path)),(.slice 4 (List.map Z3a x.edges)),(eI x.else_)]:=rfl
theorem X1g (x:W1x):∀ d∈Z77 x,Free d:=by simp
@[simp] theorem Z9b (sz:Nat) (l:List W1x):Free (.slice sz (List.map Z77 l)):=X5 (Q8 X1g l)
@[simp] theorem W0y (sz:Nat) (l:List W1x) (rows:List (List D)) (h:∀ row∈rows,∀ d∈row,Free d):Free (.slice sz (List.map Z77 l++rows)):=Q00 X1g l h
@[simp] theorem W17 (sz sz2:Nat) (l:List (List W1x)):Free (.slice sz (List.map (rL sz2 Z77) l)):=Y8 sz sz2 Z77 (fun l=>Z9b sz2 l) l
structure Z0 where
 b:List Int
 p:Int
 deriving Inhabited
def Y7 (x:Z0):List D:=[(.slice 1 (List.map (rK .u8) x.b)),(eI x.p)]
@[simp] theorem V3x (x:Z0):Y7 x=[(.slice 1 (List.map (rK .u8) x.b)),(eI x.p)]:=rfl
theorem Z81 (x:Z0):∀ d∈Y7 x,Free d:=by simp
@[simp] theorem Z7x (sz:Nat) (l:List Z0):Free (.slice sz (List.map Y7 l)):=X5 (Q8 Z81 l)
@[simp] theorem X92 (sz:Nat) (l:List Z0) (rows:List (List D)) (h:∀ row∈rows,∀ d∈row,Free d):Free (.slice sz (List.map Y7 l++rows)):=Q00 Z81 l h
@[simp] theorem X96 (sz sz2:Nat) (l:List (List Z0)):Free (.slice sz (List.map (rL sz2 Y7) l)):=Y8 sz sz2 Y7 (fun l=>Z7x sz2 l) l
structure Q9a where
 path:List Int
 kind:Q1
 deriving Inhabited
def Q6w (x:Q9a):List D:=[(.slice 1 (List.map rI x.path)),(eI x.kind.data),(eI x.kind.index)]
@[simp] theorem W7k (x:Q9a):Q6w x=[(.slice 1 (List.map rI x.path)),(eI x.kind.data),(eI x.kind.index)]:=rfl
theorem Z0x (x:Q9a):∀ d∈Q6w x,Free d:=by simp
@[simp] theorem Z3p (sz:Nat) (l:List Q9a):Free (.slice sz (List.map Q6w l)):=X5 (Q8 Z0x l)
@[simp] theorem X4b (sz:Nat) (l:List Q9a) (rows:List (List D)) (h:∀ row∈rows,∀ d∈row,Free d):Free (.slice sz (List.map Q6w l++rows)):=Q00 Z0x l h
@[simp] theorem X4d (sz sz2:Nat) (l:List (List Q9a)):Free (.slice sz (List.map (rL sz2 Q6w) l)):=Y8 sz sz2 Q6w (fun l=>Z3p sz2 l) l
structure Q9 where
 var:Int
 typ:Q1
 deriving Inhabited
def V0 (x:Q9):List D:=[(eI x.var),(eI x.typ.data),(eI x.typ.index)]
@[simp] theorem V0k (x:Q9):V0 x=[(eI x.var),(eI x.typ.data),(eI x.typ.index)]:=rfl
theorem Q6a (x:Q9):∀ d∈V0 x,Free d:=by simp
@[simp] theorem Z4m (sz:Nat) (l:List Q9):Free (.slice sz (List.map V0 l)):=X5 (Q8 Q6a l)
@[simp] theorem X5i (sz:Nat) (l:List Q9) (rows:List (List D)) (h:∀ row∈rows,∀ d∈row,Free d):Free (.slice sz (List.map V0 l++rows)):=Q00 Q6a l h
@[simp] theorem X5k (sz sz2:Nat) (l:List (List Q9)):Free (.slice sz (List.map (rL sz2 V0) l)):=Y8 sz sz2 V0 (fun l=>Z4m sz2 l) l
structure X0l where
 clause:Int
 pats:List Q0
 binds:List Q5l
 deriving Inhabited
def Z27 (x:X0l):List D:=[(eI x.clause),(.slice 6 (List.map Q2 x.pats)),(.slice 2 (List.map Q0v x.binds))]
@[simp] theorem V3w (x:X0l):Z27 x=[(eI x.clause),(.slice 6 (List.map Q2 x.pats)),(.slice 2 (List.map Q0v x.binds))]:=rfl
theorem Z80 (x:X0l):∀ d∈Z27 x,Free d:=by simp
@[simp] theorem Z7w (sz:Nat) (l:List X0l):Free (.slice sz (List.map Z27 l)):=X5 (Q8 Z80 l)
@[simp] theorem X91 (sz:Nat) (l:List X0l) (rows:List (List D)) (h:∀ row∈rows,∀ d∈row,Free d):Free (.slice sz (List.map Z27 l++rows)):=Q00 Z80 l h
@[simp] theorem X95 (sz sz2:Nat) (l:List (List X0l)):Free (.slice sz (List.map (rL sz2 Z27) l)):=Y8 sz sz2 Z27 (fun l=>Z7w sz2 l) l
end Go.Proofs.YtfhpjeogjcfkaaaGreat
