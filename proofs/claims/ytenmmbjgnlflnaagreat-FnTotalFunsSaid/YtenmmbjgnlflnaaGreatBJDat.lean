import Derived.Test.YtenmmbjgnlflnaaGreatBJE1
set_option linter.unusedSimpArgs false
set_option linter.unusedVariables false
namespace Go.Proofs.YtenmmbjgnlflnaaGreat
open Go Go.RowKit
theorem Q6 {α:Type}{f:α→List D}(h:∀ x,∀ d∈f x,Free d)(l:List α):∀ row∈List.map f l,∀ d∈row,Free d:=fun row hr d hd=>by
 simp only [U11] at hr
 obtain ⟨x,_,rfl⟩:=hr
 exact h x d hd
abbrev eI (n:Int):D:=.val (.int .i64 n)
abbrev eB (b:Bool):D:=.val (.bool b)
abbrev eS (s:ByteArray):D:=.val (.string s)
abbrev cI:Int→D:=fun n=>.val (.int .i64 n)
abbrev cB:Bool→D:=fun n=>.val (.bool n)
def rI (n:Int):List D:=[eI n]
def rK (k:IntKind)(n:Int):List D:=[.val (.int k n)]
def rB (n:Bool):List D:=[eB n]
def rS (n:ByteArray):List D:=[eS n]
def rL {α:Type}(sz:Nat)(r:α→List D)(l:List α):List D:=[.slice sz (List.map r l)]
@[simp] theorem rI_eq (n:Int):rI n=[eI n]:=rfl
@[simp] theorem W56 (sz:Nat) (l:List Int):Free (.slice sz (List.map (rI) l)):=X5 (fun row hr d hd=>by simp only [U11] at hr;obtain ⟨x,_,rfl⟩:=hr;simp at hd;subst hd;exact Q5t _)
@[simp] theorem rK_eq (k:IntKind) (n:Int):rK k n=[.val (.int k n)]:=rfl
@[simp] theorem V9x (k:IntKind) (sz:Nat) (l:List Int):Free (.slice sz (List.map (rK k) l)):=X5 (fun row hr d hd=>by simp only [U11] at hr;obtain ⟨x,_,rfl⟩:=hr;simp at hd;subst hd;exact Q5t _)
@[simp] theorem rB_eq (n:Bool):rB n=[eB n]:=rfl
@[simp] theorem W57 (sz:Nat) (l:List Bool):Free (.slice sz (List.map (rB) l)):=X5 (fun row hr d hd=>by simp only [U11] at hr;obtain ⟨x,_,rfl⟩:=hr;simp at hd;subst hd;exact Q5t _)
@[simp] theorem Y80 (n:ByteArray):rS n=[eS n]:=rfl
@[simp] theorem W4y (sz:Nat) (l:List ByteArray):Free (.slice sz (List.map (rS) l)):=X5 (fun row hr d hd=>by simp only [U11] at hr;obtain ⟨x,_,rfl⟩:=hr;simp at hd;subst hd;exact Q5t _)
@[simp] theorem X9h {α:Type} (sz:Nat) (r:α→List D) (l:List α):rL sz r l=[.slice sz (List.map r l)]:=rfl
theorem Y1 {α:Type}(sz sz2:Nat)(r:α→List D)(h:∀ l,Free (.slice sz2 (List.map r l)))(l:List (List α)):Free (.slice sz (List.map (rL sz2 r) l)):=X5 (fun row hr d hd=>by simp only [U11] at hr;obtain ⟨x,_,rfl⟩:=hr;simp at hd;subst hd;exact h x)
@[simp] theorem V6h (sz:Nat) (row:List D) (rows:List (List D)) (h:∀ r∈row::rows,∀ d∈r,Free d):Free (.slice sz (row::rows)):=X5 h
@[simp] theorem V8f (sz:Nat):Free (.slice sz []):=X5 (fun _ h=>by simp at h)
@[simp] theorem V9z {ds:List D} (h:∀ d∈ds,Free d):Free (.agg ds):=Z9d h
@[simp] theorem V9w {ds:List D} (h:∀ d∈ds,Free d):Free (.tup ds):=V47 h
@[simp] theorem V8i {ds:List D} (h:∀ d∈ds,Free d):Free (.cptr ds):=X7o h
@[simp] theorem V8j {f:FuncId} {ds:List D} (h:∀ d∈ds,Free d):Free (.clos f ds):=X7p h
@[simp] theorem V9y:Free .any:=V4c
theorem J7 {sz:Nat}{α:Type}{r:α→List D}(hr:∀ x,∀ d∈r x,Free d)(xs:List α){rows:List (List D)}(h:∀ row∈rows,∀ d∈row,Free d):Free (.slice sz (List.map r xs++rows)):=W0m hr h
@[simp] theorem V8k (l:List Int):Free (.agg (List.map cI l)):=Z9d fun d h=>by simp only [U11] at h;obtain ⟨x,_,rfl⟩:=h;exact Q5t _
@[simp] theorem V8l (l:List Bool):Free (.agg (List.map cB l)):=Z9d fun d h=>by simp only [U11] at h;obtain ⟨x,_,rfl⟩:=h;exact Q5t _
@[simp] theorem V8g (l:List Int):∀ d∈List.map cI l,Free d:=fun d h=>by simp only [U11] at h;obtain ⟨x,_,rfl⟩:=h;exact Q5t _
@[simp] theorem V8h (l:List Bool):∀ d∈List.map cB l,Free d:=fun d h=>by simp only [U11] at h;obtain ⟨x,_,rfl⟩:=h;exact Q5t _
@[simp] theorem V49 (sz sz2:Nat) (l:List (List Int)):Free (.slice sz (List.map (rL sz2 rI) l)):=Y1 sz sz2 rI (fun l=>W56 sz2 l) l
@[simp] theorem V48 (sz sz2:Nat) (l:List (List ByteArray)):Free (.slice sz (List.map (rL sz2 rS) l)):=Y1 sz sz2 rS (fun l=>W4y sz2 l) l
@[simp] theorem V4a (sz sz2:Nat) (l:List (List Bool)):Free (.slice sz (List.map (rL sz2 rB) l)):=Y1 sz sz2 rB (fun l=>W57 sz2 l) l
structure Q1 where
 ctor:Int
 n:Int
 kids:List Q1
 deriving Inhabited
mutual
def X0:Q1→List D
 | ⟨ctor,n,kids⟩=>[(eI ctor),(eI n),.slice 3 (Z0z kids)]
def Z0z:List Q1→List (List D)
 | []=>[]
 | x::l=>X0 x::Z0z l
end
theorem Z89:∀ l,Z0z l=List.map X0 l
 | []=>by simp [Z0z]
 | x::l=>by simp [Z0z,Z89 l]
@[simp] theorem W3p (x:Q1):X0 x=[(eI x.ctor),(eI x.n),(.slice 3 (List.map X0 x.kids))]:=by cases x;simp [X0,Z89]
mutual
theorem Q95:∀ (x:Q1),∀ d∈X0 x,Free d
 | ⟨ctor,n,kids⟩,d,h=>by
  simp only [X0,U8,List.not_mem_nil,or_false] at h
  rcases h with rfl | rfl | rfl
  ·simp
  ·simp
  ·exact X5 (X3n kids)
theorem X3n:∀ (l:List Q1),∀ row∈Z0z l,∀ d∈row,Free d
 | [],row,h,_,_=>by simp [Z0z] at h
 | p::l,row,h,d,hd=>by
  rw [Z0z,U8] at h
  rcases h with rfl | h
  ·exact Q95 p d hd
  ·exact X3n l row h d hd
end
@[simp] theorem X10 (sz:Nat) (l:List Q1):Free (.slice sz (List.map X0 l)):=X5 (Q6 Q95 l)
@[simp] theorem W2k (sz:Nat) (l:List Q1) (rows:List (List D)) (h:∀ row∈rows,∀ d∈row,Free d):Free (.slice sz (List.map X0 l++rows)):=J7 Q95 l h
@[simp] theorem W2o (sz sz2:Nat) (l:List (List Q1)):Free (.slice sz (List.map (rL sz2 X0) l)):=Y1 sz sz2 X0 (fun l=>X10 sz2 l) l
structure Q2 where
 data:Int
 index:Int
 deriving Inhabited
def Z7 (x:Q2):List D:=[(eI x.data),(eI x.index)]
@[simp] theorem Y31 (x:Q2):Z7 x=[(eI x.data),(eI x.index)]:=rfl
theorem Z2j (x:Q2):∀ d∈Z7 x,Free d:=by simp
@[simp] theorem X2l (sz:Nat) (l:List Q2):Free (.slice sz (List.map Z7 l)):=X5 (Q6 Z2j l)
@[simp] theorem W4r (sz:Nat) (l:List Q2) (rows:List (List D)) (h:∀ row∈rows,∀ d∈row,Free d):Free (.slice sz (List.map Z7 l++rows)):=J7 Z2j l h
@[simp] theorem W4z (sz sz2:Nat) (l:List (List Q2)):Free (.slice sz (List.map (rL sz2 Z7) l)):=Y1 sz sz2 Z7 (fun l=>X2l sz2 l) l
structure Z0 where
 arg:Q2
 res:Q2
 deriving Inhabited
def W8 (x:Z0):List D:=[(eI x.arg.data),(eI x.arg.index),(eI x.res.data),(eI x.res.index)]
@[simp] theorem V5q (x:Z0):W8 x=[(eI x.arg.data),(eI x.arg.index),(eI x.res.data),(eI x.res.index)]:=rfl
theorem Z5f (x:Z0):∀ d∈W8 x,Free d:=by simp
@[simp] theorem Z7j (sz:Nat) (l:List Z0):Free (.slice sz (List.map W8 l)):=X5 (Q6 Z5f l)
@[simp] theorem X8s (sz:Nat) (l:List Z0) (rows:List (List D)) (h:∀ row∈rows,∀ d∈row,Free d):Free (.slice sz (List.map W8 l++rows)):=J7 Z5f l h
@[simp] theorem X8w (sz sz2:Nat) (l:List (List Z0)):Free (.slice sz (List.map (rL sz2 W8) l)):=Y1 sz sz2 W8 (fun l=>Z7j sz2 l) l
structure Z1 where
 op:Int
 n:Int
 ctor:Int
 kids:List Z1
 deriving Inhabited
mutual
def V8:Z1→List D
 | ⟨op,n,ctor,kids⟩=>[(eI op),(eI n),(eI ctor),.slice 4 (Z3g kids)]
def Z3g:List Z1→List (List D)
 | []=>[]
 | x::l=>V8 x::Z3g l
end
theorem X0b:∀ l,Z3g l=List.map V8 l
 | []=>by simp [Z3g]
 | x::l=>by simp [Z3g,X0b l]
@[simp] theorem Y34 (x:Z1):V8 x=[(eI x.op),(eI x.n),(eI x.ctor),(.slice 4 (List.map V8 x.kids))]:=by cases x;simp [V8,X0b]
mutual
theorem Z9e:∀ (x:Z1),∀ d∈V8 x,Free d
 | ⟨op,n,ctor,kids⟩,d,h=>by
  simp only [V8,U8,List.not_mem_nil,or_false] at h
  rcases h with rfl | rfl | rfl | rfl
  ·simp
  ·simp
  ·simp
  ·exact X5 (X7r kids)
theorem X7r:∀ (l:List Z1),∀ row∈Z3g l,∀ d∈row,Free d
 | [],row,h,_,_=>by simp [Z3g] at h
 | p::l,row,h,d,hd=>by
  rw [Z3g,U8] at h
  rcases h with rfl | h
  ·exact Z9e p d hd
  ·exact X7r l row h d hd
end
@[simp] theorem X2o (sz:Nat) (l:List Z1):Free (.slice sz (List.map V8 l)):=X5 (Q6 Z9e l)
@[simp] theorem W4u (sz:Nat) (l:List Z1) (rows:List (List D)) (h:∀ row∈rows,∀ d∈row,Free d):Free (.slice sz (List.map V8 l++rows)):=J7 Z9e l h
@[simp] theorem W52 (sz sz2:Nat) (l:List (List Z1)):Free (.slice sz (List.map (rL sz2 V8) l)):=Y1 sz sz2 V8 (fun l=>X2o sz2 l) l
structure Q0 where
 op:Int
 ctor:Int
 n:Int
 m:Int
 var:Int
 kids:List Q0
 deriving Inhabited
mutual
def Q3:Q0→List D
 | ⟨op,ctor,n,m,var,kids⟩=>[(eI op),(eI ctor),(eI n),(eI m),(eI var),.slice 6 (Q81 kids)]
def Q81:List Q0→List (List D)
 | []=>[]
 | x::l=>Q3 x::Q81 l
end
theorem Z51:∀ l,Q81 l=List.map Q3 l
 | []=>by simp [Q81]
 | x::l=>by simp [Q81,Z51 l]
@[simp] theorem X6s (x:Q0):Q3 x=[(eI x.op),(eI x.ctor),(eI x.n),(eI x.m),(eI x.var),(.slice 6 (List.map Q3 x.kids))]:=by cases x;simp [Q3,Z51]
mutual
theorem Q6u:∀ (x:Q0),∀ d∈Q3 x,Free d
 | ⟨op,ctor,n,m,var,kids⟩,d,h=>by
  simp only [Q3,U8,List.not_mem_nil,or_false] at h
  rcases h with rfl | rfl | rfl | rfl | rfl | rfl
  ·simp
  ·simp
  ·simp
  ·simp
  ·simp
  ·exact X5 (Z8e kids)
theorem Z8e:∀ (l:List Q0),∀ row∈Q81 l,∀ d∈row,Free d
 | [],row,h,_,_=>by simp [Q81] at h
 | p::l,row,h,d,hd=>by
  rw [Q81,U8] at h
  rcases h with rfl | h
  ·exact Q6u p d hd
  ·exact Z8e l row h d hd
end
@[simp] theorem Z7i (sz:Nat) (l:List Q0):Free (.slice sz (List.map Q3 l)):=X5 (Q6 Q6u l)
@[simp] theorem X8r (sz:Nat) (l:List Q0) (rows:List (List D)) (h:∀ row∈rows,∀ d∈row,Free d):Free (.slice sz (List.map Q3 l++rows)):=J7 Q6u l h
@[simp] theorem X8v (sz sz2:Nat) (l:List (List Q0)):Free (.slice sz (List.map (rL sz2 Q3) l)):=Y1 sz sz2 Q3 (fun l=>Z7i sz2 l) l
structure Q4u where
 op:Int
 var:Int
 n:Int
 deriving Inhabited
def Q8q (x:Q4u):List D:=[(eI x.op),(eI x.var),(eI x.n)]
@[simp] theorem V9t (x:Q4u):Q8q x=[(eI x.op),(eI x.var),(eI x.n)]:=rfl
theorem X14 (x:Q4u):∀ d∈Q8q x,Free d:=by simp
@[simp] theorem X11 (sz:Nat) (l:List Q4u):Free (.slice sz (List.map Q8q l)):=X5 (Q6 X14 l)
@[simp] theorem W2l (sz:Nat) (l:List Q4u) (rows:List (List D)) (h:∀ row∈rows,∀ d∈row,Free d):Free (.slice sz (List.map Q8q l++rows)):=J7 X14 l h
@[simp] theorem W2p (sz sz2:Nat) (l:List (List Q4u)):Free (.slice sz (List.map (rL sz2 Q8q) l)):=Y1 sz sz2 Q8q (fun l=>X11 sz2 l) l
structure Z6 where
 pat:Q0
 guard:Q4u
 deriving Inhabited
def V6 (x:Z6):List D:=[(eI x.pat.op),(eI x.pat.ctor),(eI x.pat.n),(eI x.pat.m),(eI x.pat.var),(.slice 6 (List.map Q3 x.pat.kids)),(eI x.guard.op),(eI x.guard.var),(eI x.guard.n)]
@[simp] theorem X9j (x:Z6):V6 x=[(eI x.pat.op),(eI x.pat.ctor),(eI x.pat.n),(eI x.pat.m),(eI x.pat.var),(.slice 6 (List.map Q3 x.pat.kids)),(eI x.guard.op),(eI x.guard.var),(eI x.guard.n)]:=rfl
theorem Q8u (x:Z6):∀ d∈V6 x,Free d:=by simp
@[simp] theorem Z90 (sz:Nat) (l:List Z6):Free (.slice sz (List.map V6 l)):=X5 (Q6 Q8u l)
@[simp] theorem W0f (sz:Nat) (l:List Z6) (rows:List (List D)) (h:∀ row∈rows,∀ d∈row,Free d):Free (.slice sz (List.map V6 l++rows)):=J7 Q8u l h
@[simp] theorem W0k (sz sz2:Nat) (l:List (List Z6)):Free (.slice sz (List.map (rL sz2 V6) l)):=Y1 sz sz2 V6 (fun l=>Z90 sz2 l) l
structure GFun where
 typ:Z0
 clauses:List Z6
 bodies:List Z1
 deriving Inhabited
def Q0d (x:GFun):List D:=[(eI x.typ.arg.data),(eI x.typ.arg.index),(eI x.typ.res.data),(eI x.typ.res.index),(.slice 9 (List.map V6 x.clauses)),(.slice 4 (List.map V8 x.bodies))]
@[simp] theorem Y5n (x:GFun):Q0d x=[(eI x.typ.arg.data),(eI x.typ.arg.index),(eI x.typ.res.data),(eI x.typ.res.index),(.slice 9 (List.map V6 x.clauses)),(.slice 4 (List.map V8 x.bodies))]:=rfl
theorem Z2k (x:GFun):∀ d∈Q0d x,Free d:=by simp
@[simp] theorem X4u (sz:Nat) (l:List GFun):Free (.slice sz (List.map Q0d l)):=X5 (Q6 Z2k l)
@[simp] theorem W6e (sz:Nat) (l:List GFun) (rows:List (List D)) (h:∀ row∈rows,∀ d∈row,Free d):Free (.slice sz (List.map Q0d l++rows)):=J7 Z2k l h
@[simp] theorem W6g (sz sz2:Nat) (l:List (List GFun)):Free (.slice sz (List.map (rL sz2 Q0d) l)):=Y1 sz sz2 Q0d (fun l=>X4u sz2 l) l
structure Q6y where
 var:Int
 path:List Int
 deriving Inhabited
def Q2h (x:Q6y):List D:=[(eI x.var),(.slice 1 (List.map rI x.path))]
@[simp] theorem V2i (x:Q6y):Q2h x=[(eI x.var),(.slice 1 (List.map rI x.path))]:=rfl
theorem Z3y (x:Q6y):∀ d∈Q2h x,Free d:=by simp
@[simp] theorem Z6f (sz:Nat) (l:List Q6y):Free (.slice sz (List.map Q2h l)):=X5 (Q6 Z3y l)
@[simp] theorem X7m (sz:Nat) (l:List Q6y) (rows:List (List D)) (h:∀ row∈rows,∀ d∈row,Free d):Free (.slice sz (List.map Q2h l++rows)):=J7 Z3y l h
@[simp] theorem X7n (sz sz2:Nat) (l:List (List Q6y)):Free (.slice sz (List.map (rL sz2 Q2h) l)):=Y1 sz sz2 Q2h (fun l=>Z6f sz2 l) l
structure W5p where
 op:Int
 path:List Int
 ctor:Int
 n:Int
 m:Int
 clause:Int
 binds:List Q6y
 to:Int
 deriving Inhabited
def X0a (x:W5p):List D:=[(eI x.op),(.slice 1 (List.map rI x.path)),(eI x.ctor),(eI x.n),(eI x.m),(eI x.clause),(.slice 2 (List.map Q2h x.binds)),(eI x.to)]
@[simp] theorem Y33 (x:W5p):X0a x=[(eI x.op),(.slice 1 (List.map rI x.path)),(eI x.ctor),(eI x.n),(eI x.m),(eI x.clause),(.slice 2 (List.map Q2h x.binds)),(eI x.to)]:=rfl
theorem X4w (x:W5p):∀ d∈X0a x,Free d:=by simp
@[simp] theorem X2n (sz:Nat) (l:List W5p):Free (.slice sz (List.map X0a l)):=X5 (Q6 X4w l)
@[simp] theorem W4t (sz:Nat) (l:List W5p) (rows:List (List D)) (h:∀ row∈rows,∀ d∈row,Free d):Free (.slice sz (List.map X0a l++rows)):=J7 X4w l h
@[simp] theorem W51 (sz sz2:Nat) (l:List (List W5p)):Free (.slice sz (List.map (rL sz2 X0a) l)):=Y1 sz sz2 X0a (fun l=>X2n sz2 l) l
mutual
structure Q9f where
 ctor:Int
 n:Int
 m:Int
 tree:Z2u
structure Z2u where
 op:Int
 clause:Int
 binds:List Q6y
 path:List Int
 branches:List Q9f
 else_:List Z2u
end
instance:Inhabited Z2u:=⟨⟨default,default,[],[],[],[]⟩⟩
instance:Inhabited Q9f:=⟨⟨default,default,default,default⟩⟩
mutual
def Q6e:Q9f→List D
 | ⟨ctor,n,m,tree⟩=>[(eI ctor),(eI n),(eI m)]++Q80 tree
def Q91:List Q9f→List (List D)
 | []=>[]
 | x::l=>Q6e x::Q91 l
def Q80:Z2u→List D
 | ⟨op,clause,binds,path,branches,else_⟩=>[(eI op),(eI clause),(.slice 2 (List.map Q2h binds)),(.slice 1 (List.map rI path)),.slice 9 (Q91 branches),.slice 6 (Z3f else_)]
def Z3f:List Z2u→List (List D)
 | []=>[]
 | x::l=>Q80 x::Z3f l
end
theorem Z23:∀ l,Q91 l=List.map Q6e l
 | []=>by simp [Q91]
 | x::l=>by simp [Q91,Z23 l]
theorem Z59:∀ l,Z3f l=List.map Q80 l
 | []=>by simp [Z3f]
 | x::l=>by simp [Z3f,Z59 l]
@[simp] theorem Y32 (x:Z2u):Q80 x=[(eI x.op),(eI x.clause),(.slice 2 (List.map Q2h x.binds)),(.slice 1 (List.map rI x.path)),(.slice 9 (List.map Q6e x.branches)),(.slice 6 (List.map Q80 x.else_))]:=by cases x;simp [Q80,Z23,Z59]
@[simp] theorem V7o (x:Q9f):Q6e x=[(eI x.ctor),(eI x.n),(eI x.m),(eI x.tree.op),(eI x.tree.clause),(.slice 2 (List.map Q2h x.tree.binds)),(.slice 1 (List.map rI x.tree.path)),(.slice 9 (List.map Q6e x.tree.branches)),(.slice 6 (List.map Q80 x.tree.else_))]:=by cases x;simp [Q6e,Z23,Z59]
mutual
theorem Z4k:∀ (x:Q9f),∀ d∈Q6e x,Free d
 | ⟨ctor,n,m,tree⟩,d,h=>by
  rw [Q6e] at h
  simp only [U9] at h
  rcases h with h | h
  ·simp only [U8,List.not_mem_nil,or_false] at h
   rcases h with rfl | rfl | rfl
   ·simp
   ·simp
   ·simp
  ·exact Z6g tree d h
theorem X15:∀ (l:List Q9f),∀ row∈Q91 l,∀ d∈row,Free d
 | [],row,h,_,_=>by simp [Q91] at h
 | p::l,row,h,d,hd=>by
  rw [Q91,U8] at h
  rcases h with rfl | h
  ·exact Z4k p d hd
  ·exact X15 l row h d hd
theorem Z6g:∀ (x:Z2u),∀ d∈Q80 x,Free d
 | ⟨op,clause,binds,path,branches,else_⟩,d,h=>by
  rw [Q80] at h
  simp only [U8,List.not_mem_nil,or_false] at h
  rcases h with rfl | rfl | rfl | rfl | rfl | rfl
  ·simp
  ·simp
  ·simp
  ·simp
  ·exact X5 (X15 branches)
  ·exact X5 (X7q else_)
theorem X7q:∀ (l:List Z2u),∀ row∈Z3f l,∀ d∈row,Free d
 | [],row,h,_,_=>by simp [Z3f] at h
 | p::l,row,h,d,hd=>by
  rw [Z3f,U8] at h
  rcases h with rfl | h
  ·exact Z6g p d hd
  ·exact X7q l row h d hd
end
@[simp] theorem Z91 (sz:Nat) (l:List Q9f):Free (.slice sz (List.map Q6e l)):=X5 (Q6 Z4k l)
@[simp] theorem W0g (sz:Nat) (l:List Q9f) (rows:List (List D)) (h:∀ row∈rows,∀ d∈row,Free d):Free (.slice sz (List.map Q6e l++rows)):=J7 Z4k l h
@[simp] theorem W0l (sz sz2:Nat) (l:List (List Q9f)):Free (.slice sz (List.map (rL sz2 Q6e) l)):=Y1 sz sz2 Q6e (fun l=>Z91 sz2 l) l
@[simp] theorem X2m (sz:Nat) (l:List Z2u):Free (.slice sz (List.map Q80 l)):=X5 (Q6 Z6g l)
@[simp] theorem W4s (sz:Nat) (l:List Z2u) (rows:List (List D)) (h:∀ row∈rows,∀ d∈row,Free d):Free (.slice sz (List.map Q80 l++rows)):=J7 Z6g l h
@[simp] theorem W50 (sz sz2:Nat) (l:List (List Z2u)):Free (.slice sz (List.map (rL sz2 Q80) l)):=Y1 sz sz2 Q80 (fun l=>X2m sz2 l) l
structure Q96 where
 name:ByteArray
 args:List Q2
 index:Int
 deriving Inhabited
def Q8c (x:Q96):List D:=[(eS x.name),(.slice 2 (List.map Z7 x.args)),(eI x.index)]
@[simp] theorem W7h (x:Q96):Q8c x=[(eS x.name),(.slice 2 (List.map Z7 x.args)),(eI x.index)]:=rfl
theorem Z2m (x:Q96):∀ d∈Q8c x,Free d:=by simp
@[simp] theorem X2q (sz:Nat) (l:List Q96):Free (.slice sz (List.map Q8c l)):=X5 (Q6 Z2m l)
@[simp] theorem W4w (sz:Nat) (l:List Q96) (rows:List (List D)) (h:∀ row∈rows,∀ d∈row,Free d):Free (.slice sz (List.map Q8c l++rows)):=J7 Z2m l h
@[simp] theorem W54 (sz sz2:Nat) (l:List (List Q96)):Free (.slice sz (List.map (rL sz2 Q8c) l)):=Y1 sz sz2 Q8c (fun l=>X2q sz2 l) l
structure Q4 where
 name:ByteArray
 ctors:List Q96
 deriving Inhabited
def Z8 (x:Q4):List D:=[(eS x.name),(.slice 3 (List.map Q8c x.ctors))]
@[simp] theorem W7g (x:Q4):Z8 x=[(eS x.name),(.slice 3 (List.map Q8c x.ctors))]:=rfl
theorem Z2l (x:Q4):∀ d∈Z8 x,Free d:=by simp
@[simp] theorem X2p (sz:Nat) (l:List Q4):Free (.slice sz (List.map Z8 l)):=X5 (Q6 Z2l l)
@[simp] theorem W4v (sz:Nat) (l:List Q4) (rows:List (List D)) (h:∀ row∈rows,∀ d∈row,Free d):Free (.slice sz (List.map Z8 l++rows)):=J7 Z2l l h
@[simp] theorem W53 (sz sz2:Nat) (l:List (List Q4)):Free (.slice sz (List.map (rL sz2 Z8) l)):=Y1 sz sz2 Z8 (fun l=>X2p sz2 l) l
structure Q06 where
 w:List Q4
 list:List GFun
 fuel:Int
 count:Int
 tests:Int
 code:Int
 choose:List GFun
 deriving Inhabited
def Q18 (x:Q06):List D:=[(.slice 2 (List.map Z8 x.w)),(.slice 6 (List.map Q0d x.list)),(eI x.fuel),(eI x.count),(eI x.tests),(eI x.code),(.clos 0o00145 [.cptr [(.slice 6 (List.map Q0d x.choose))]])]
@[simp] theorem V5o (x:Q06):Q18 x=[(.slice 2 (List.map Z8 x.w)),(.slice 6 (List.map Q0d x.list)),(eI x.fuel),(eI x.count),(eI x.tests),(eI x.code),(.clos 0o00145 [.cptr [(.slice 6 (List.map Q0d x.choose))]])]:=rfl
theorem Z5e (x:Q06):∀ d∈Q18 x,Free d:=by simp
@[simp] theorem Z7g (sz:Nat) (l:List Q06):Free (.slice sz (List.map Q18 l)):=X5 (Q6 Z5e l)
@[simp] theorem X8p (sz:Nat) (l:List Q06) (rows:List (List D)) (h:∀ row∈rows,∀ d∈row,Free d):Free (.slice sz (List.map Q18 l++rows)):=J7 Z5e l h
@[simp] theorem X8t (sz sz2:Nat) (l:List (List Q06)):Free (.slice sz (List.map (rL sz2 Q18) l)):=Y1 sz sz2 Q18 (fun l=>Z7g sz2 l) l
structure Q05 where
 w:List Q4
 list:List GFun
 trees:List Z2u
 fuel:Int
 calls:Int
 tests:Int
 end_:Int
 deriving Inhabited
def Q1t (x:Q05):List D:=[(.slice 2 (List.map Z8 x.w)),(.slice 6 (List.map Q0d x.list)),(.slice 6 (List.map Q80 x.trees)),(eI x.fuel),(eI x.calls),(eI x.tests),(eI x.end_)]
@[simp] theorem V7m (x:Q05):Q1t x=[(.slice 2 (List.map Z8 x.w)),(.slice 6 (List.map Q0d x.list)),(.slice 6 (List.map Q80 x.trees)),(eI x.fuel),(eI x.calls),(eI x.tests),(eI x.end_)]:=rfl
theorem Z7l (x:Q05):∀ d∈Q1t x,Free d:=by simp
@[simp] theorem Z8y (sz:Nat) (l:List Q05):Free (.slice sz (List.map Q1t l)):=X5 (Q6 Z7l l)
@[simp] theorem W0d (sz:Nat) (l:List Q05) (rows:List (List D)) (h:∀ row∈rows,∀ d∈row,Free d):Free (.slice sz (List.map Q1t l++rows)):=J7 Z7l l h
@[simp] theorem W0i (sz sz2:Nat) (l:List (List Q05)):Free (.slice sz (List.map (rL sz2 Q1t) l)):=Y1 sz sz2 Q1t (fun l=>Z8y sz2 l) l
structure Q5 where
 var:Int
 typ:Q2
 deriving Inhabited
def X6 (x:Q5):List D:=[(eI x.var),(eI x.typ.data),(eI x.typ.index)]
@[simp] theorem V5p (x:Q5):X6 x=[(eI x.var),(eI x.typ.data),(eI x.typ.index)]:=rfl
theorem Q7w (x:Q5):∀ d∈X6 x,Free d:=by simp
@[simp] theorem Z7h (sz:Nat) (l:List Q5):Free (.slice sz (List.map X6 l)):=X5 (Q6 Q7w l)
@[simp] theorem X8q (sz:Nat) (l:List Q5) (rows:List (List D)) (h:∀ row∈rows,∀ d∈row,Free d):Free (.slice sz (List.map X6 l++rows)):=J7 Q7w l h
@[simp] theorem X8u (sz sz2:Nat) (l:List (List Q5)):Free (.slice sz (List.map (rL sz2 X6) l)):=Y1 sz sz2 X6 (fun l=>Z7h sz2 l) l
structure Q4t where
 w:List Q4
 funs:List Z0
 vars:List Q5
 deriving Inhabited
def Q8b (x:Q4t):List D:=[(.slice 2 (List.map Z8 x.w)),(.slice 4 (List.map W8 x.funs)),(.slice 3 (List.map X6 x.vars))]
@[simp] theorem V9r (x:Q4t):Q8b x=[(.slice 2 (List.map Z8 x.w)),(.slice 4 (List.map W8 x.funs)),(.slice 3 (List.map X6 x.vars))]:=rfl
theorem X12 (x:Q4t):∀ d∈Q8b x,Free d:=by simp
@[simp] theorem X0y (sz:Nat) (l:List Q4t):Free (.slice sz (List.map Q8b l)):=X5 (Q6 X12 l)
@[simp] theorem W2i (sz:Nat) (l:List Q4t) (rows:List (List D)) (h:∀ row∈rows,∀ d∈row,Free d):Free (.slice sz (List.map Q8b l++rows)):=J7 X12 l h
@[simp] theorem W2m (sz sz2:Nat) (l:List (List Q4t)):Free (.slice sz (List.map (rL sz2 Q8b) l)):=Y1 sz sz2 Q8b (fun l=>X0y sz2 l) l
structure Grow where
 clause:Int
 pats:List Q0
 binds:List Q6y
 deriving Inhabited
def X9i (x:Grow):List D:=[(eI x.clause),(.slice 6 (List.map Q3 x.pats)),(.slice 2 (List.map Q2h x.binds))]
@[simp] theorem Y5m (x:Grow):X9i x=[(eI x.clause),(.slice 6 (List.map Q3 x.pats)),(.slice 2 (List.map Q2h x.binds))]:=rfl
theorem W0n (x:Grow):∀ d∈X9i x,Free d:=by simp
@[simp] theorem X4t (sz:Nat) (l:List Grow):Free (.slice sz (List.map X9i l)):=X5 (Q6 W0n l)
@[simp] theorem W6d (sz:Nat) (l:List Grow) (rows:List (List D)) (h:∀ row∈rows,∀ d∈row,Free d):Free (.slice sz (List.map X9i l++rows)):=J7 W0n l h
@[simp] theorem W6f (sz sz2:Nat) (l:List (List Grow)):Free (.slice sz (List.map (rL sz2 X9i) l)):=Y1 sz sz2 X9i (fun l=>X4t sz2 l) l
structure Q2p where
 w:List Q4
 d:List Int
 deriving Inhabited
def Q3b (x:Q2p):List D:=[(.slice 2 (List.map Z8 x.w)),(.cptr (List.map cI x.d))]
@[simp] theorem V7l (x:Q2p):Q3b x=[(.slice 2 (List.map Z8 x.w)),(.cptr (List.map cI x.d))]:=rfl
theorem Z7k (x:Q2p):∀ d∈Q3b x,Free d:=by simp
@[simp] theorem Z8x (sz:Nat) (l:List Q2p):Free (.slice sz (List.map Q3b l)):=X5 (Q6 Z7k l)
@[simp] theorem W0c (sz:Nat) (l:List Q2p) (rows:List (List D)) (h:∀ row∈rows,∀ d∈row,Free d):Free (.slice sz (List.map Q3b l++rows)):=J7 Z7k l h
@[simp] theorem W0h (sz sz2:Nat) (l:List (List Q2p)):Free (.slice sz (List.map (rL sz2 Q3b) l)):=Y1 sz sz2 Q3b (fun l=>Z8x sz2 l) l
structure Z04 where
 spaces:Q2p
 list:List Z6
 pick:Int
 count:Int
 deriving Inhabited
def Q7r (x:Z04):List D:=[(.cptr (Q3b x.spaces)),(.slice 9 (List.map V6 x.list)),(eI x.pick),(eI x.count)]
@[simp] theorem V0u (x:Z04):Q7r x=[(.cptr (Q3b x.spaces)),(.slice 9 (List.map V6 x.list)),(eI x.pick),(eI x.count)]:=rfl
theorem Z2i (x:Z04):∀ d∈Q7r x,Free d:=by simp
@[simp] theorem Z5d (sz:Nat) (l:List Z04):Free (.slice sz (List.map Q7r l)):=X5 (Q6 Z2i l)
@[simp] theorem X5v (sz:Nat) (l:List Z04) (rows:List (List D)) (h:∀ row∈rows,∀ d∈row,Free d):Free (.slice sz (List.map Q7r l++rows)):=J7 Z2i l h
@[simp] theorem X5w (sz sz2:Nat) (l:List (List Z04)):Free (.slice sz (List.map (rL sz2 Q7r) l)):=Y1 sz sz2 Q7r (fun l=>Z5d sz2 l) l
structure Z80 where
 path:List Int
 t:Q2
 deriving Inhabited
def Z22 (x:Z80):List D:=[(.slice 1 (List.map rI x.path)),(eI x.t.data),(eI x.t.index)]
@[simp] theorem V7n (x:Z80):Z22 x=[(.slice 1 (List.map rI x.path)),(eI x.t.data),(eI x.t.index)]:=rfl
theorem Z7m (x:Z80):∀ d∈Z22 x,Free d:=by simp
@[simp] theorem Z8z (sz:Nat) (l:List Z80):Free (.slice sz (List.map Z22 l)):=X5 (Q6 Z7m l)
@[simp] theorem W0e (sz:Nat) (l:List Z80) (rows:List (List D)) (h:∀ row∈rows,∀ d∈row,Free d):Free (.slice sz (List.map Z22 l++rows)):=J7 Z7m l h
@[simp] theorem W0j (sz sz2:Nat) (l:List (List Z80)):Free (.slice sz (List.map (rL sz2 Z22) l)):=Y1 sz sz2 Z22 (fun l=>Z8z sz2 l) l
structure X1 where
 var:Int
 value:Q1
 deriving Inhabited
def Q02 (x:X1):List D:=[(eI x.var),(eI x.value.ctor),(eI x.value.n),(.slice 3 (List.map X0 x.value.kids))]
@[simp] theorem Y35 (x:X1):Q02 x=[(eI x.var),(eI x.value.ctor),(eI x.value.n),(.slice 3 (List.map X0 x.value.kids))]:=rfl
theorem Z2n (x:X1):∀ d∈Q02 x,Free d:=by simp
@[simp] theorem X2r (sz:Nat) (l:List X1):Free (.slice sz (List.map Q02 l)):=X5 (Q6 Z2n l)
@[simp] theorem W4x (sz:Nat) (l:List X1) (rows:List (List D)) (h:∀ row∈rows,∀ d∈row,Free d):Free (.slice sz (List.map Q02 l++rows)):=J7 Z2n l h
@[simp] theorem W55 (sz sz2:Nat) (l:List (List X1)):Free (.slice sz (List.map (rL sz2 Q02) l)):=Y1 sz sz2 Q02 (fun l=>X2r sz2 l) l
structure X3 where
 b:List Int
 p:Int
 deriving Inhabited
def Q01 (x:X3):List D:=[(.slice 1 (List.map (rK .u8) x.b)),(eI x.p)]
@[simp] theorem V9s (x:X3):Q01 x=[(.slice 1 (List.map (rK .u8) x.b)),(eI x.p)]:=rfl
theorem X13 (x:X3):∀ d∈Q01 x,Free d:=by simp
@[simp] theorem X0z (sz:Nat) (l:List X3):Free (.slice sz (List.map Q01 l)):=X5 (Q6 X13 l)
@[simp] theorem W2j (sz:Nat) (l:List X3) (rows:List (List D)) (h:∀ row∈rows,∀ d∈row,Free d):Free (.slice sz (List.map Q01 l++rows)):=J7 X13 l h
@[simp] theorem W2n (sz sz2:Nat) (l:List (List X3)):Free (.slice sz (List.map (rL sz2 Q01) l)):=Y1 sz sz2 Q01 (fun l=>X0z sz2 l) l
end Go.Proofs.YtenmmbjgnlflnaaGreat
