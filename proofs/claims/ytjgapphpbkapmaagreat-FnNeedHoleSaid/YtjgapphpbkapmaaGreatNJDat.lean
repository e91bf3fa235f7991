import Derived.Test.YtjgapphpbkapmaaGreatNJE1
set_option linter.unusedSimpArgs false
set_option linter.unusedVariables false
namespace Go.Proofs.YtjgapphpbkapmaaGreat
open Go Go.RowKit
theorem Q2 {α:Type}{f:α→List D}(h:∀ x,∀ d∈f x,Free d)(l:List α):∀ row∈List.map f l,∀ d∈row,Free d:=fun row hr d hd=>by
 simp only [U10] at hr
 obtain ⟨x,_,rfl⟩:=hr
 exact h x d hd
abbrev eI (n:Int):D:=.val (.int .i64 n)
abbrev eB (b:Bool):D:=.val (.bool b)
abbrev eS (s:ByteArray):D:=.val (.string s)
abbrev cI:Int→D:=fun n=>.val (.int .i64 n)
abbrev cB:Bool→D:=fun n=>.val (.bool n)
def rI (n:Int):List D:=[eI n]
def rK (k:IntKind)(n:Int):List D:=[.val (.int k n)]
def rB (n:Bool):List D:=[eB n]
def rS (n:ByteArray):List D:=[eS n]
def rL {α:Type}(sz:Nat)(r:α→List D)(l:List α):List D:=[.slice sz (List.map r l)]
@[simp] theorem rI_eq (n:Int):rI n=[eI n]:=rfl
@[simp] theorem X6e (sz:Nat) (l:List Int):Free (.slice sz (List.map (rI) l)):=X3 (fun row hr d hd=>by simp only [U10] at hr;obtain ⟨x,_,rfl⟩:=hr;simp at hd;subst hd;exact Q3e _)
@[simp] theorem rK_eq (k:IntKind) (n:Int):rK k n=[.val (.int k n)]:=rfl
@[simp] theorem W8i (k:IntKind) (sz:Nat) (l:List Int):Free (.slice sz (List.map (rK k) l)):=X3 (fun row hr d hd=>by simp only [U10] at hr;obtain ⟨x,_,rfl⟩:=hr;simp at hd;subst hd;exact Q3e _)
@[simp] theorem rB_eq (n:Bool):rB n=[eB n]:=rfl
@[simp] theorem X6f (sz:Nat) (l:List Bool):Free (.slice sz (List.map (rB) l)):=X3 (fun row hr d hd=>by simp only [U10] at hr;obtain ⟨x,_,rfl⟩:=hr;simp at hd;subst hd;exact Q3e _)
@[simp] theorem V65 (n:ByteArray):rS n=[eS n]:=rfl
@[simp] theorem X65 (sz:Nat) (l:List ByteArray):Free (.slice sz (List.map (rS) l)):=X3 (fun row hr d hd=>by simp only [U10] at hr;obtain ⟨x,_,rfl⟩:=hr;simp at hd;subst hd;exact Q3e _)
@[simp] theorem rL_eq {α:Type} (sz:Nat) (r:α→List D) (l:List α):rL sz r l=[.slice sz (List.map r l)]:=rfl
theorem Y3 {α:Type}(sz sz2:Nat)(r:α→List D)(h:∀ l,Free (.slice sz2 (List.map r l)))(l:List (List α)):Free (.slice sz (List.map (rL sz2 r) l)):=X3 (fun row hr d hd=>by simp only [U10] at hr;obtain ⟨x,_,rfl⟩:=hr;simp at hd;subst hd;exact h x)
@[simp] theorem W5v (sz:Nat) (row:List D) (rows:List (List D)) (h:∀ r∈row::rows,∀ d∈r,Free d):Free (.slice sz (row::rows)):=X3 h
@[simp] theorem W7c (sz:Nat):Free (.slice sz []):=X3 (fun _ h=>by simp at h)
@[simp] theorem W8k {ds:List D} (h:∀ d∈ds,Free d):Free (.agg ds):=Z3o h
@[simp] theorem W8h {ds:List D} (h:∀ d∈ds,Free d):Free (.tup ds):=W45 h
@[simp] theorem W7f {ds:List D} (h:∀ d∈ds,Free d):Free (.cptr ds):=X0h h
@[simp] theorem W7g {f:FuncId} {ds:List D} (h:∀ d∈ds,Free d):Free (.clos f ds):=X0i h
@[simp] theorem W8j:Free .any:=W4a
theorem J6 {sz:Nat}{α:Type}{r:α→List D}(hr:∀ x,∀ d∈r x,Free d)(xs:List α){rows:List (List D)}(h:∀ row∈rows,∀ d∈row,Free d):Free (.slice sz (List.map r xs++rows)):=X2n hr h
@[simp] theorem W7h (l:List Int):Free (.agg (List.map cI l)):=Z3o fun d h=>by simp only [U10] at h;obtain ⟨x,_,rfl⟩:=h;exact Q3e _
@[simp] theorem W7i (l:List Bool):Free (.agg (List.map cB l)):=Z3o fun d h=>by simp only [U10] at h;obtain ⟨x,_,rfl⟩:=h;exact Q3e _
@[simp] theorem W7d (l:List Int):∀ d∈List.map cI l,Free d:=fun d h=>by simp only [U10] at h;obtain ⟨x,_,rfl⟩:=h;exact Q3e _
@[simp] theorem W7e (l:List Bool):∀ d∈List.map cB l,Free d:=fun d h=>by simp only [U10] at h;obtain ⟨x,_,rfl⟩:=h;exact Q3e _
@[simp] theorem W47 (sz sz2:Nat) (l:List (List Int)):Free (.slice sz (List.map (rL sz2 rI) l)):=Y3 sz sz2 rI (fun l=>X6e sz2 l) l
@[simp] theorem W46 (sz sz2:Nat) (l:List (List ByteArray)):Free (.slice sz (List.map (rL sz2 rS) l)):=Y3 sz sz2 rS (fun l=>X65 sz2 l) l
@[simp] theorem W48 (sz sz2:Nat) (l:List (List Bool)):Free (.slice sz (List.map (rL sz2 rB) l)):=Y3 sz sz2 rB (fun l=>X6f sz2 l) l
structure Q5 where
 data:Int
 index:Int
 deriving Inhabited
def W1 (x:Q5):List D:=[(eI x.data),(eI x.index)]
@[simp] theorem V1f (x:Q5):W1 x=[(eI x.data),(eI x.index)]:=rfl
theorem Q8i (x:Q5):∀ d∈W1 x,Free d:=by simp
@[simp] theorem Z60 (sz:Nat) (l:List Q5):Free (.slice sz (List.map W1 l)):=X3 (Q2 Q8i l)
@[simp] theorem X5x (sz:Nat) (l:List Q5) (rows:List (List D)) (h:∀ row∈rows,∀ d∈row,Free d):Free (.slice sz (List.map W1 l++rows)):=J6 Q8i l h
@[simp] theorem X66 (sz sz2:Nat) (l:List (List Q5)):Free (.slice sz (List.map (rL sz2 W1) l)):=Y3 sz sz2 W1 (fun l=>Z60 sz2 l) l
structure Z2 where
 ctor:Int
 n:Int
 kids:List Z2
 deriving Inhabited
mutual
def V2:Z2→List D
 | ⟨ctor,n,kids⟩=>[(eI ctor),(eI n),.slice 3 (Q7b kids)]
def Q7b:List Z2→List (List D)
 | []=>[]
 | x::l=>V2 x::Q7b l
end
theorem Z2y:∀ l,Q7b l=List.map V2 l
 | []=>by simp [Q7b]
 | x::l=>by simp [Q7b,Z2y l]
@[simp] theorem X5b (x:Z2):V2 x=[(eI x.ctor),(eI x.n),(.slice 3 (List.map V2 x.kids))]:=by cases x;simp [V2,Z2y]
mutual
theorem Q65:∀ (x:Z2),∀ d∈V2 x,Free d
 | ⟨ctor,n,kids⟩,d,h=>by
  simp only [V2,U8,List.not_mem_nil,or_false] at h
  rcases h with rfl | rfl | rfl
  ·simp
  ·simp
  ·exact X3 (Z6t kids)
theorem Z6t:∀ (l:List Z2),∀ row∈Q7b l,∀ d∈row,Free d
 | [],row,h,_,_=>by simp [Q7b] at h
 | p::l,row,h,d,hd=>by
  rw [Q7b,U8] at h
  rcases h with rfl | h
  ·exact Q65 p d hd
  ·exact Z6t l row h d hd
end
@[simp] theorem Z4p (sz:Nat) (l:List Z2):Free (.slice sz (List.map V2 l)):=X3 (Q2 Q65 l)
@[simp] theorem X48 (sz:Nat) (l:List Z2) (rows:List (List D)) (h:∀ row∈rows,∀ d∈row,Free d):Free (.slice sz (List.map V2 l++rows)):=J6 Q65 l h
@[simp] theorem X4c (sz sz2:Nat) (l:List (List Z2)):Free (.slice sz (List.map (rL sz2 V2) l)):=Y3 sz sz2 V2 (fun l=>Z4p sz2 l) l
structure Q1 where
 var:Int
 path:List Int
 deriving Inhabited
def Q8 (x:Q1):List D:=[(eI x.var),(.slice 1 (List.map rI x.path))]
@[simp] theorem W2n (x:Q1):Q8 x=[(eI x.var),(.slice 1 (List.map rI x.path))]:=rfl
theorem Q66 (x:Q1):∀ d∈Q8 x,Free d:=by simp
@[simp] theorem Z1q (sz:Nat) (l:List Q1):Free (.slice sz (List.map Q8 l)):=X3 (Q2 Q66 l)
@[simp] theorem X0e (sz:Nat) (l:List Q1) (rows:List (List D)) (h:∀ row∈rows,∀ d∈row,Free d):Free (.slice sz (List.map Q8 l++rows)):=J6 Q66 l h
@[simp] theorem X0g (sz sz2:Nat) (l:List (List Q1)):Free (.slice sz (List.map (rL sz2 Q8) l)):=Y3 sz sz2 Q8 (fun l=>Z1q sz2 l) l
mutual
structure Q9 where
 ctor:Int
 n:Int
 m:Int
 tree:X7
structure X7 where
 op:Int
 clause:Int
 binds:List Q1
 path:List Int
 branches:List Q9
 else_:List X7
end
instance:Inhabited X7:=⟨⟨default,default,[],[],[],[]⟩⟩
instance:Inhabited Q9:=⟨⟨default,default,default,default⟩⟩
mutual
def Y8:Q9→List D
 | ⟨ctor,n,m,tree⟩=>[(eI ctor),(eI n),(eI m)]++Q22 tree
def Q5z:List Q9→List (List D)
 | []=>[]
 | x::l=>Y8 x::Q5z l
def Q22:X7→List D
 | ⟨op,clause,binds,path,branches,else_⟩=>[(eI op),(eI clause),(.slice 2 (List.map Q8 binds)),(.slice 1 (List.map rI path)),.slice 9 (Q5z branches),.slice 6 (Q97 else_)]
def Q97:List X7→List (List D)
 | []=>[]
 | x::l=>Q22 x::Q97 l
end
theorem Q87:∀ l,Q5z l=List.map Y8 l
 | []=>by simp [Q5z]
 | x::l=>by simp [Q5z,Q87 l]
theorem Z0l:∀ l,Q97 l=List.map Q22 l
 | []=>by simp [Q97]
 | x::l=>by simp [Q97,Z0l l]
@[simp] theorem V1g (x:X7):Q22 x=[(eI x.op),(eI x.clause),(.slice 2 (List.map Q8 x.binds)),(.slice 1 (List.map rI x.path)),(.slice 9 (List.map Y8 x.branches)),(.slice 6 (List.map Q22 x.else_))]:=by cases x;simp [Q22,Q87,Z0l]
@[simp] theorem W6p (x:Q9):Y8 x=[(eI x.ctor),(eI x.n),(eI x.m),(eI x.tree.op),(eI x.tree.clause),(.slice 2 (List.map Q8 x.tree.binds)),(.slice 1 (List.map rI x.tree.path)),(.slice 9 (List.map Y8 x.tree.branches)),(.slice 6 (List.map Q22 x.tree.else_))]:=by cases x;simp [Y8,Q87,Z0l]
mutual
theorem Z00:∀ (x:Q9),∀ d∈Y8 x,Free d
 | ⟨ctor,n,m,tree⟩,d,h=>by
  rw [Y8] at h
  simp only [List.mem_append] at h
  rcases h with h | h
  ·simp only [U8,List.not_mem_nil,or_false] at h
   rcases h with rfl | rfl | rfl
   ·simp
   ·simp
   ·simp
  ·exact Z1r tree d h
theorem Z4v:∀ (l:List Q9),∀ row∈Q5z l,∀ d∈row,Free d
 | [],row,h,_,_=>by simp [Q5z] at h
 | p::l,row,h,d,hd=>by
  rw [Q5z,U8] at h
  rcases h with rfl | h
  ·exact Z00 p d hd
  ·exact Z4v l row h d hd
theorem Z1r:∀ (x:X7),∀ d∈Q22 x,Free d
 | ⟨op,clause,binds,path,branches,else_⟩,d,h=>by
  rw [Q22] at h
  simp only [U8,List.not_mem_nil,or_false] at h
  rcases h with rfl | rfl | rfl | rfl | rfl | rfl
  ·simp
  ·simp
  ·simp
  ·simp
  ·exact X3 (Z4v branches)
  ·exact X3 (X0j else_)
theorem X0j:∀ (l:List X7),∀ row∈Q97 l,∀ d∈row,Free d
 | [],row,h,_,_=>by simp [Q97] at h
 | p::l,row,h,d,hd=>by
  rw [Q97,U8] at h
  rcases h with rfl | h
  ·exact Z1r p d hd
  ·exact X0j l row h d hd
end
@[simp] theorem Z3g (sz:Nat) (l:List Q9):Free (.slice sz (List.map Y8 l)):=X3 (Q2 Z00 l)
@[simp] theorem X2i (sz:Nat) (l:List Q9) (rows:List (List D)) (h:∀ row∈rows,∀ d∈row,Free d):Free (.slice sz (List.map Y8 l++rows)):=J6 Z00 l h
@[simp] theorem X2m (sz sz2:Nat) (l:List (List Q9)):Free (.slice sz (List.map (rL sz2 Y8) l)):=Y3 sz sz2 Y8 (fun l=>Z3g sz2 l) l
@[simp] theorem Z61 (sz:Nat) (l:List X7):Free (.slice sz (List.map Q22 l)):=X3 (Q2 Z1r l)
@[simp] theorem X5y (sz:Nat) (l:List X7) (rows:List (List D)) (h:∀ row∈rows,∀ d∈row,Free d):Free (.slice sz (List.map Q22 l++rows)):=J6 Z1r l h
@[simp] theorem X67 (sz sz2:Nat) (l:List (List X7)):Free (.slice sz (List.map (rL sz2 Q22) l)):=Y3 sz sz2 Q22 (fun l=>Z61 sz2 l) l
structure X6t where
 op:Int
 path:List Int
 ctor:Int
 n:Int
 m:Int
 clause:Int
 binds:List Q1
 to:Int
 deriving Inhabited
def Z45 (x:X6t):List D:=[(eI x.op),(.slice 1 (List.map rI x.path)),(eI x.ctor),(eI x.n),(eI x.m),(eI x.clause),(.slice 2 (List.map Q8 x.binds)),(eI x.to)]
@[simp] theorem V1h (x:X6t):Z45 x=[(eI x.op),(.slice 1 (List.map rI x.path)),(eI x.ctor),(eI x.n),(eI x.m),(eI x.clause),(.slice 2 (List.map Q8 x.binds)),(eI x.to)]:=rfl
theorem Z83 (x:X6t):∀ d∈Z45 x,Free d:=by simp
@[simp] theorem Z62 (sz:Nat) (l:List X6t):Free (.slice sz (List.map Z45 l)):=X3 (Q2 Z83 l)
@[simp] theorem X5z (sz:Nat) (l:List X6t) (rows:List (List D)) (h:∀ row∈rows,∀ d∈row,Free d):Free (.slice sz (List.map Z45 l++rows)):=J6 Z83 l h
@[simp] theorem X68 (sz sz2:Nat) (l:List (List X6t)):Free (.slice sz (List.map (rL sz2 Z45) l)):=Y3 sz sz2 Z45 (fun l=>Z62 sz2 l) l
structure Q8z where
 var:Int
 value:Z2
 deriving Inhabited
def Q98 (x:Q8z):List D:=[(eI x.var),(eI x.value.ctor),(eI x.value.n),(.slice 3 (List.map V2 x.value.kids))]
@[simp] theorem V1k (x:Q8z):Q98 x=[(eI x.var),(eI x.value.ctor),(eI x.value.n),(.slice 3 (List.map V2 x.value.kids))]:=rfl
theorem Q8l (x:Q8z):∀ d∈Q98 x,Free d:=by simp
@[simp] theorem Z67 (sz:Nat) (l:List Q8z):Free (.slice sz (List.map Q98 l)):=X3 (Q2 Q8l l)
@[simp] theorem X64 (sz:Nat) (l:List Q8z) (rows:List (List D)) (h:∀ row∈rows,∀ d∈row,Free d):Free (.slice sz (List.map Q98 l++rows)):=J6 Q8l l h
@[simp] theorem X6d (sz sz2:Nat) (l:List (List Q8z)):Free (.slice sz (List.map (rL sz2 Q98) l)):=Y3 sz sz2 Q98 (fun l=>Z67 sz2 l) l
structure Q0 where
 op:Int
 ctor:Int
 n:Int
 m:Int
 var:Int
 kids:List Q0
 deriving Inhabited
mutual
def Q7:Q0→List D
 | ⟨op,ctor,n,m,var,kids⟩=>[(eI op),(eI ctor),(eI n),(eI m),(eI var),.slice 6 (Q4x kids)]
def Q4x:List Q0→List (List D)
 | []=>[]
 | x::l=>Q7 x::Q4x l
end
theorem Z0e:∀ l,Q4x l=List.map Q7 l
 | []=>by simp [Q4x]
 | x::l=>by simp [Q4x,Z0e l]
@[simp] theorem Z9n (x:Q0):Q7 x=[(eI x.op),(eI x.ctor),(eI x.n),(eI x.m),(eI x.var),(.slice 6 (List.map Q7 x.kids))]:=by cases x;simp [Q7,Z0e]
mutual
theorem Q41:∀ (x:Q0),∀ d∈Q7 x,Free d
 | ⟨op,ctor,n,m,var,kids⟩,d,h=>by
  simp only [Q7,U8,List.not_mem_nil,or_false] at h
  rcases h with rfl | rfl | rfl | rfl | rfl | rfl
  ·simp
  ·simp
  ·simp
  ·simp
  ·simp
  ·exact X3 (Z30 kids)
theorem Z30:∀ (l:List Q0),∀ row∈Q4x l,∀ d∈row,Free d
 | [],row,h,_,_=>by simp [Q4x] at h
 | p::l,row,h,d,hd=>by
  rw [Q4x,U8] at h
  rcases h with rfl | h
  ·exact Q41 p d hd
  ·exact Z30 l row h d hd
end
@[simp] theorem Z2f (sz:Nat) (l:List Q0):Free (.slice sz (List.map Q7 l)):=X3 (Q2 Q41 l)
@[simp] theorem X1b (sz:Nat) (l:List Q0) (rows:List (List D)) (h:∀ row∈rows,∀ d∈row,Free d):Free (.slice sz (List.map Q7 l++rows)):=J6 Q41 l h
@[simp] theorem X1d (sz sz2:Nat) (l:List (List Q0)):Free (.slice sz (List.map (rL sz2 Q7) l)):=Y3 sz sz2 Q7 (fun l=>Z2f sz2 l) l
structure Grow where
 clause:Int
 pats:List Q0
 binds:List Q1
 deriving Inhabited
def Q37 (x:Grow):List D:=[(eI x.clause),(.slice 6 (List.map Q7 x.pats)),(.slice 2 (List.map Q8 x.binds))]
@[simp] theorem V3y (x:Grow):Q37 x=[(eI x.clause),(.slice 6 (List.map Q7 x.pats)),(.slice 2 (List.map Q8 x.binds))]:=rfl
theorem Z4r (x:Grow):∀ d∈Q37 x,Free d:=by simp
@[simp] theorem Z81 (sz:Nat) (l:List Grow):Free (.slice sz (List.map Q37 l)):=X3 (Q2 Z4r l)
@[simp] theorem X78 (sz:Nat) (l:List Grow) (rows:List (List D)) (h:∀ row∈rows,∀ d∈row,Free d):Free (.slice sz (List.map Q37 l++rows)):=J6 Z4r l h
@[simp] theorem X79 (sz sz2:Nat) (l:List (List Grow)):Free (.slice sz (List.map (rL sz2 Q37) l)):=Y3 sz sz2 Q37 (fun l=>Z81 sz2 l) l
structure Q20 where
 op:Int
 var:Int
 n:Int
 deriving Inhabited
def Q5p (x:Q20):List D:=[(eI x.op),(eI x.var),(eI x.n)]
@[simp] theorem W8e (x:Q20):Q5p x=[(eI x.op),(eI x.var),(eI x.n)]:=rfl
theorem Z4u (x:Q20):∀ d∈Q5p x,Free d:=by simp
@[simp] theorem Z4q (sz:Nat) (l:List Q20):Free (.slice sz (List.map Q5p l)):=X3 (Q2 Z4u l)
@[simp] theorem X49 (sz:Nat) (l:List Q20) (rows:List (List D)) (h:∀ row∈rows,∀ d∈row,Free d):Free (.slice sz (List.map Q5p l++rows)):=J6 Z4u l h
@[simp] theorem X4d (sz sz2:Nat) (l:List (List Q20)):Free (.slice sz (List.map (rL sz2 Q5p) l)):=Y3 sz sz2 Q5p (fun l=>Z4q sz2 l) l
structure Z0 where
 pat:Q0
 guard:Q20
 deriving Inhabited
def V6 (x:Z0):List D:=[(eI x.pat.op),(eI x.pat.ctor),(eI x.pat.n),(eI x.pat.m),(eI x.pat.var),(.slice 6 (List.map Q7 x.pat.kids)),(eI x.guard.op),(eI x.guard.var),(eI x.guard.n)]
@[simp] theorem X1u (x:Z0):V6 x=[(eI x.pat.op),(eI x.pat.ctor),(eI x.pat.n),(eI x.pat.m),(eI x.pat.var),(.slice 6 (List.map Q7 x.pat.kids)),(eI x.guard.op),(eI x.guard.var),(eI x.guard.n)]:=rfl
theorem Q5u (x:Z0):∀ d∈V6 x,Free d:=by simp
@[simp] theorem Z3f (sz:Nat) (l:List Z0):Free (.slice sz (List.map V6 l)):=X3 (Q2 Q5u l)
@[simp] theorem X2h (sz:Nat) (l:List Z0) (rows:List (List D)) (h:∀ row∈rows,∀ d∈row,Free d):Free (.slice sz (List.map V6 l++rows)):=J6 Q5u l h
@[simp] theorem X2l (sz sz2:Nat) (l:List (List Z0)):Free (.slice sz (List.map (rL sz2 V6) l)):=Y3 sz sz2 V6 (fun l=>Z3f sz2 l) l
structure Q67 where
 name:ByteArray
 args:List Q5
 index:Int
 deriving Inhabited
def Q57 (x:Q67):List D:=[(eS x.name),(.slice 2 (List.map W1 x.args)),(eI x.index)]
@[simp] theorem X8f (x:Q67):Q57 x=[(eS x.name),(.slice 2 (List.map W1 x.args)),(eI x.index)]:=rfl
theorem Q8k (x:Q67):∀ d∈Q57 x,Free d:=by simp
@[simp] theorem Z66 (sz:Nat) (l:List Q67):Free (.slice sz (List.map Q57 l)):=X3 (Q2 Q8k l)
@[simp] theorem X63 (sz:Nat) (l:List Q67) (rows:List (List D)) (h:∀ row∈rows,∀ d∈row,Free d):Free (.slice sz (List.map Q57 l++rows)):=J6 Q8k l h
@[simp] theorem X6c (sz sz2:Nat) (l:List (List Q67)):Free (.slice sz (List.map (rL sz2 Q57) l)):=Y3 sz sz2 Q57 (fun l=>Z66 sz2 l) l
structure Q3 where
 name:ByteArray
 ctors:List Q67
 deriving Inhabited
def W2 (x:Q3):List D:=[(eS x.name),(.slice 3 (List.map Q57 x.ctors))]
@[simp] theorem X8e (x:Q3):W2 x=[(eS x.name),(.slice 3 (List.map Q57 x.ctors))]:=rfl
theorem Q8j (x:Q3):∀ d∈W2 x,Free d:=by simp
@[simp] theorem Z65 (sz:Nat) (l:List Q3):Free (.slice sz (List.map W2 l)):=X3 (Q2 Q8j l)
@[simp] theorem X62 (sz:Nat) (l:List Q3) (rows:List (List D)) (h:∀ row∈rows,∀ d∈row,Free d):Free (.slice sz (List.map W2 l++rows)):=J6 Q8j l h
@[simp] theorem X6b (sz sz2:Nat) (l:List (List Q3)):Free (.slice sz (List.map (rL sz2 W2) l)):=Y3 sz sz2 W2 (fun l=>Z65 sz2 l) l
structure Q8u where
 w:List Q3
 d:List Int
 deriving Inhabited
def Q5x (x:Q8u):List D:=[(.slice 2 (List.map W2 x.w)),(.cptr (List.map cI x.d))]
@[simp] theorem W6n (x:Q8u):Q5x x=[(.slice 2 (List.map W2 x.w)),(.cptr (List.map cI x.d))]:=rfl
theorem Z2g (x:Q8u):∀ d∈Q5x x,Free d:=by simp
@[simp] theorem Z3d (sz:Nat) (l:List Q8u):Free (.slice sz (List.map Q5x l)):=X3 (Q2 Z2g l)
@[simp] theorem X2f (sz:Nat) (l:List Q8u) (rows:List (List D)) (h:∀ row∈rows,∀ d∈row,Free d):Free (.slice sz (List.map Q5x l++rows)):=J6 Z2g l h
@[simp] theorem X2j (sz sz2:Nat) (l:List (List Q8u)):Free (.slice sz (List.map (rL sz2 Q5x) l)):=Y3 sz sz2 Q5x (fun l=>Z3d sz2 l) l
structure Z9 where
 spaces:Q8u
 list:List Z0
 pick:Int
 count:Int
 deriving Inhabited
def V8 (x:Z9):List D:=[(.cptr (Q5x x.spaces)),(.slice 9 (List.map V6 x.list)),(eI x.pick),(eI x.count)]
@[simp] theorem W0x (x:Z9):V8 x=[(.cptr (Q5x x.spaces)),(.slice 9 (List.map V6 x.list)),(eI x.pick),(eI x.count)]:=rfl
theorem Q8h (x:Z9):∀ d∈V8 x,Free d:=by simp
@[simp] theorem Z0s (sz:Nat) (l:List Z9):Free (.slice sz (List.map V8 l)):=X3 (Q2 Q8h l)
@[simp] theorem Z8t (sz:Nat) (l:List Z9) (rows:List (List D)) (h:∀ row∈rows,∀ d∈row,Free d):Free (.slice sz (List.map V8 l++rows)):=J6 Q8h l h
@[simp] theorem Z8u (sz sz2:Nat) (l:List (List Z9)):Free (.slice sz (List.map (rL sz2 V8) l)):=Y3 sz sz2 V8 (fun l=>Z0s sz2 l) l
structure Z6 where
 path:List Int
 t:Q5
 deriving Inhabited
def Q0o (x:Z6):List D:=[(.slice 1 (List.map rI x.path)),(eI x.t.data),(eI x.t.index)]
@[simp] theorem W6o (x:Z6):Q0o x=[(.slice 1 (List.map rI x.path)),(eI x.t.data),(eI x.t.index)]:=rfl
theorem Z2h (x:Z6):∀ d∈Q0o x,Free d:=by simp
@[simp] theorem Z3e (sz:Nat) (l:List Z6):Free (.slice sz (List.map Q0o l)):=X3 (Q2 Z2h l)
@[simp] theorem X2g (sz:Nat) (l:List Z6) (rows:List (List D)) (h:∀ row∈rows,∀ d∈row,Free d):Free (.slice sz (List.map Q0o l++rows)):=J6 Z2h l h
@[simp] theorem X2k (sz sz2:Nat) (l:List (List Z6)):Free (.slice sz (List.map (rL sz2 Q0o) l)):=Y3 sz sz2 Q0o (fun l=>Z3e sz2 l) l
structure X3b where
 ctor:Int
 n:Int
 m:Int
 to:Int
 deriving Inhabited
def Z1g (x:X3b):List D:=[(eI x.ctor),(eI x.n),(eI x.m),(eI x.to)]
@[simp] theorem V1j (x:X3b):Z1g x=[(eI x.ctor),(eI x.n),(eI x.m),(eI x.to)]:=rfl
theorem Z85 (x:X3b):∀ d∈Z1g x,Free d:=by simp
@[simp] theorem Z64 (sz:Nat) (l:List X3b):Free (.slice sz (List.map Z1g l)):=X3 (Q2 Z85 l)
@[simp] theorem X61 (sz:Nat) (l:List X3b) (rows:List (List D)) (h:∀ row∈rows,∀ d∈row,Free d):Free (.slice sz (List.map Z1g l++rows)):=J6 Z85 l h
@[simp] theorem X6a (sz sz2:Nat) (l:List (List X3b)):Free (.slice sz (List.map (rL sz2 Z1g) l)):=Y3 sz sz2 Z1g (fun l=>Z64 sz2 l) l
structure X6u where
 op:Int
 clause:Int
 binds:List Q1
 path:List Int
 edges:List X3b
 else_:Int
 deriving Inhabited
def Z46 (x:X6u):List D:=[(eI x.op),(eI x.clause),(.slice 2 (List.map Q8 x.binds)),(.slice 1 (List.map rI x.path)),(.slice 4 (List.map Z1g x.edges)),(eI x.else_)]
@[simp] theorem V1i (x:X6u):Z46 x=[(eI x.op),(eI x.clause),(.slice 2 (List.map Q8 x.binds)),(.slice 1 (List.map rI x.path)),(.slice 4 (List.map Z1g x.edges)),(eI x.else_)]:=rfl
theorem Z84 (x:X6u):∀ d∈Z46 x,Free d:=by simp
@[simp] theorem Z63 (sz:Nat) (l:List X6u):Free (.slice sz (List.map Z46 l)):=X3 (Q2 Z84 l)
@[simp] theorem X60 (sz:Nat) (l:List X6u) (rows:List (List D)) (h:∀ row∈rows,∀ d∈row,Free d):Free (.slice sz (List.map Z46 l++rows)):=J6 Z84 l h
@[simp] theorem X69 (sz sz2:Nat) (l:List (List X6u)):Free (.slice sz (List.map (rL sz2 Z46) l)):=Y3 sz sz2 Z46 (fun l=>Z63 sz2 l) l
structure Z7 where
 b:List Int
 p:Int
 deriving Inhabited
def V0 (x:Z7):List D:=[(.slice 1 (List.map (rK .u8) x.b)),(eI x.p)]
@[simp] theorem W8d (x:Z7):V0 x=[(.slice 1 (List.map (rK .u8) x.b)),(eI x.p)]:=rfl
theorem Z4t (x:Z7):∀ d∈V0 x,Free d:=by simp
@[simp] theorem Z4o (sz:Nat) (l:List Z7):Free (.slice sz (List.map V0 l)):=X3 (Q2 Z4t l)
@[simp] theorem X47 (sz:Nat) (l:List Z7) (rows:List (List D)) (h:∀ row∈rows,∀ d∈row,Free d):Free (.slice sz (List.map V0 l++rows)):=J6 Z4t l h
@[simp] theorem X4b (sz sz2:Nat) (l:List (List Z7)):Free (.slice sz (List.map (rL sz2 V0) l)):=Y3 sz sz2 V0 (fun l=>Z4o sz2 l) l
structure Y1 where
 path:List Int
 kind:Q5
 deriving Inhabited
def Q0z (x:Y1):List D:=[(.slice 1 (List.map rI x.path)),(eI x.kind.data),(eI x.kind.index)]
@[simp] theorem W2m (x:Y1):Q0z x=[(.slice 1 (List.map rI x.path)),(eI x.kind.data),(eI x.kind.index)]:=rfl
theorem Q9j (x:Y1):∀ d∈Q0z x,Free d:=by simp
@[simp] theorem Z1p (sz:Nat) (l:List Y1):Free (.slice sz (List.map Q0z l)):=X3 (Q2 Q9j l)
@[simp] theorem X0d (sz:Nat) (l:List Y1) (rows:List (List D)) (h:∀ row∈rows,∀ d∈row,Free d):Free (.slice sz (List.map Q0z l++rows)):=J6 Q9j l h
@[simp] theorem X0f (sz sz2:Nat) (l:List (List Y1)):Free (.slice sz (List.map (rL sz2 Q0z) l)):=Y3 sz sz2 Q0z (fun l=>Z1p sz2 l) l
structure Q6 where
 var:Int
 typ:Q5
 deriving Inhabited
def V1 (x:Q6):List D:=[(eI x.var),(eI x.typ.data),(eI x.typ.index)]
@[simp] theorem W5g (x:Q6):V1 x=[(eI x.var),(eI x.typ.data),(eI x.typ.index)]:=rfl
theorem Q4w (x:Q6):∀ d∈V1 x,Free d:=by simp
@[simp] theorem Z2e (sz:Nat) (l:List Q6):Free (.slice sz (List.map V1 l)):=X3 (Q2 Q4w l)
@[simp] theorem X1a (sz:Nat) (l:List Q6) (rows:List (List D)) (h:∀ row∈rows,∀ d∈row,Free d):Free (.slice sz (List.map V1 l++rows)):=J6 Q4w l h
@[simp] theorem X1c (sz sz2:Nat) (l:List (List Q6)):Free (.slice sz (List.map (rL sz2 V1) l)):=Y3 sz sz2 V1 (fun l=>Z2e sz2 l) l
structure W8 where
 clause:Int
 pats:List Q0
 binds:List Q1
 deriving Inhabited
def Q15 (x:W8):List D:=[(eI x.clause),(.slice 6 (List.map Q7 x.pats)),(.slice 2 (List.map Q8 x.binds))]
@[simp] theorem W8c (x:W8):Q15 x=[(eI x.clause),(.slice 6 (List.map Q7 x.pats)),(.slice 2 (List.map Q8 x.binds))]:=rfl
theorem Z4s (x:W8):∀ d∈Q15 x,Free d:=by simp
@[simp] theorem Z4n (sz:Nat) (l:List W8):Free (.slice sz (List.map Q15 l)):=X3 (Q2 Z4s l)
@[simp] theorem X46 (sz:Nat) (l:List W8) (rows:List (List D)) (h:∀ row∈rows,∀ d∈row,Free d):Free (.slice sz (List.map Q15 l++rows)):=J6 Z4s l h
@[simp] theorem X4a (sz sz2:Nat) (l:List (List W8)):Free (.slice sz (List.map (rL sz2 Q15) l)):=Y3 sz sz2 Q15 (fun l=>Z4n sz2 l) l
end Go.Proofs.YtjgapphpbkapmaaGreat
