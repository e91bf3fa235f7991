import Derived.Test.YtenmmbjgnlflnaaGreatJE1
set_option linter.unusedSimpArgs false
set_option linter.unusedVariables false
namespace Go.Proofs.YtenmmbjgnlflnaaGreat
open Go Go.RowKit
theorem Q4 {α:Type}{f:α→List D}(h:∀ x,∀ d∈f x,Free d)(l:List α):∀ row∈List.map f l,∀ d∈row,Free d:=fun row hr d hd=>by
 simp only [U9] at hr
 obtain ⟨x,_,rfl⟩:=hr
 exact h x d hd
abbrev eI (n:Int):D:=.val (.int .i64 n)
abbrev eB (b:Bool):D:=.val (.bool b)
abbrev eS (s:ByteArray):D:=.val (.string s)
abbrev cI:Int→D:=fun n=>.val (.int .i64 n)
abbrev cB:Bool→D:=fun n=>.val (.bool n)
def rI (n:Int):List D:=[eI n]
def rK (k:IntKind)(n:Int):List D:=[.val (.int k n)]
def rB (n:Bool):List D:=[eB n]
def rS (n:ByteArray):List D:=[eS n]
def rL {α:Type}(sz:Nat)(r:α→List D)(l:List α):List D:=[.slice sz (List.map r l)]
@[simp] theorem rI_eq (n:Int):rI n=[eI n]:=rfl
@[simp] theorem X6s (sz:Nat) (l:List Int):Free (.slice sz (List.map (rI) l)):=Z7 (fun row hr d hd=>by simp only [U9] at hr;obtain ⟨x,_,rfl⟩:=hr;simp at hd;subst hd;exact Q39 _)
@[simp] theorem rK_eq (k:IntKind) (n:Int):rK k n=[.val (.int k n)]:=rfl
@[simp] theorem W91 (k:IntKind) (sz:Nat) (l:List Int):Free (.slice sz (List.map (rK k) l)):=Z7 (fun row hr d hd=>by simp only [U9] at hr;obtain ⟨x,_,rfl⟩:=hr;simp at hd;subst hd;exact Q39 _)
@[simp] theorem rB_eq (n:Bool):rB n=[eB n]:=rfl
@[simp] theorem X6t (sz:Nat) (l:List Bool):Free (.slice sz (List.map (rB) l)):=Z7 (fun row hr d hd=>by simp only [U9] at hr;obtain ⟨x,_,rfl⟩:=hr;simp at hd;subst hd;exact Q39 _)
@[simp] theorem V71 (n:ByteArray):rS n=[eS n]:=rfl
@[simp] theorem X6k (sz:Nat) (l:List ByteArray):Free (.slice sz (List.map (rS) l)):=Z7 (fun row hr d hd=>by simp only [U9] at hr;obtain ⟨x,_,rfl⟩:=hr;simp at hd;subst hd;exact Q39 _)
@[simp] theorem X26 {α:Type} (sz:Nat) (r:α→List D) (l:List α):rL sz r l=[.slice sz (List.map r l)]:=rfl
theorem W8 {α:Type}(sz sz2:Nat)(r:α→List D)(h:∀ l,Free (.slice sz2 (List.map r l)))(l:List (List α)):Free (.slice sz (List.map (rL sz2 r) l)):=Z7 (fun row hr d hd=>by simp only [U9] at hr;obtain ⟨x,_,rfl⟩:=hr;simp at hd;subst hd;exact h x)
@[simp] theorem W61 (sz:Nat) (row:List D) (rows:List (List D)) (h:∀ r∈row::rows,∀ d∈r,Free d):Free (.slice sz (row::rows)):=Z7 h
@[simp] theorem W7q (sz:Nat):Free (.slice sz []):=Z7 (fun _ h=>by simp at h)
@[simp] theorem W93 {ds:List D} (h:∀ d∈ds,Free d):Free (.agg ds):=Z45 h
@[simp] theorem W90 {ds:List D} (h:∀ d∈ds,Free d):Free (.tup ds):=W3x h
@[simp] theorem W7t {ds:List D} (h:∀ d∈ds,Free d):Free (.cptr ds):=X0m h
@[simp] theorem W7u {f:FuncId} {ds:List D} (h:∀ d∈ds,Free d):Free (.clos f ds):=X0n h
@[simp] theorem W92:Free .any:=W42
theorem V6 {sz:Nat}{α:Type}{r:α→List D}(hr:∀ x,∀ d∈r x,Free d)(xs:List α){rows:List (List D)}(h:∀ row∈rows,∀ d∈row,Free d):Free (.slice sz (List.map r xs++rows)):=X37 hr h
@[simp] theorem W7v (l:List Int):Free (.agg (List.map cI l)):=Z45 fun d h=>by simp only [U9] at h;obtain ⟨x,_,rfl⟩:=h;exact Q39 _
@[simp] theorem W7w (l:List Bool):Free (.agg (List.map cB l)):=Z45 fun d h=>by simp only [U9] at h;obtain ⟨x,_,rfl⟩:=h;exact Q39 _
@[simp] theorem W7r (l:List Int):∀ d∈List.map cI l,Free d:=fun d h=>by simp only [U9] at h;obtain ⟨x,_,rfl⟩:=h;exact Q39 _
@[simp] theorem W7s (l:List Bool):∀ d∈List.map cB l,Free d:=fun d h=>by simp only [U9] at h;obtain ⟨x,_,rfl⟩:=h;exact Q39 _
@[simp] theorem W3z (sz sz2:Nat) (l:List (List Int)):Free (.slice sz (List.map (rL sz2 rI) l)):=W8 sz sz2 rI (fun l=>X6s sz2 l) l
@[simp] theorem W3y (sz sz2:Nat) (l:List (List ByteArray)):Free (.slice sz (List.map (rL sz2 rS) l)):=W8 sz sz2 rS (fun l=>X6k sz2 l) l
@[simp] theorem W40 (sz sz2:Nat) (l:List (List Bool)):Free (.slice sz (List.map (rL sz2 rB) l)):=W8 sz sz2 rB (fun l=>X6t sz2 l) l
structure Q0 where
 ctor:Int
 n:Int
 kids:List Q0
 deriving Inhabited
mutual
def Z2:Q0→List D
 | ⟨ctor,n,kids⟩=>[(eI ctor),(eI n),.slice 3 (Q7m kids)]
def Q7m:List Q0→List (List D)
 | []=>[]
 | x::l=>Z2 x::Q7m l
end
theorem Z36:∀ l,Q7m l=List.map Z2 l
 | []=>by simp [Q7m]
 | x::l=>by simp [Q7m,Z36 l]
@[simp] theorem W8w (x:Q0):Z2 x=[(eI x.ctor),(eI x.n),(.slice 3 (List.map Z2 x.kids))]:=by cases x;simp [Z2,Z36]
mutual
theorem Q85:∀ (x:Q0),∀ d∈Z2 x,Free d
 | ⟨ctor,n,kids⟩,d,h=>by
  simp only [Z2,U7,List.not_mem_nil,or_false] at h
  rcases h with rfl | rfl | rfl
  ·simp
  ·simp
  ·exact Z7 (Z7l kids)
theorem Z7l:∀ (l:List Q0),∀ row∈Q7m l,∀ d∈row,Free d
 | [],row,h,_,_=>by simp [Q7m] at h
 | p::l,row,h,d,hd=>by
  rw [Q7m,U7] at h
  rcases h with rfl | h
  ·exact Q85 p d hd
  ·exact Z7l l row h d hd
end
@[simp] theorem Z5d (sz:Nat) (l:List Q0):Free (.slice sz (List.map Z2 l)):=Z7 (Q4 Q85 l)
@[simp] theorem X4r (sz:Nat) (l:List Q0) (rows:List (List D)) (h:∀ row∈rows,∀ d∈row,Free d):Free (.slice sz (List.map Z2 l++rows)):=V6 Q85 l h
@[simp] theorem X4v (sz sz2:Nat) (l:List (List Q0)):Free (.slice sz (List.map (rL sz2 Z2) l)):=W8 sz sz2 Z2 (fun l=>Z5d sz2 l) l
structure Q3 where
 data:Int
 index:Int
 deriving Inhabited
def Z6 (x:Q3):List D:=[(eI x.data),(eI x.index)]
@[simp] theorem V24 (x:Q3):Z6 x=[(eI x.data),(eI x.index)]:=rfl
theorem Z1j (x:Q3):∀ d∈Z6 x,Free d:=by simp
@[simp] theorem Z6n (sz:Nat) (l:List Q3):Free (.slice sz (List.map Z6 l)):=Z7 (Q4 Z1j l)
@[simp] theorem X6d (sz:Nat) (l:List Q3) (rows:List (List D)) (h:∀ row∈rows,∀ d∈row,Free d):Free (.slice sz (List.map Z6 l++rows)):=V6 Z1j l h
@[simp] theorem X6l (sz sz2:Nat) (l:List (List Q3)):Free (.slice sz (List.map (rL sz2 Z6) l)):=W8 sz sz2 Z6 (fun l=>Z6n sz2 l) l
structure Q8 where
 arg:Q3
 res:Q3
 deriving Inhabited
def W1 (x:Q8):List D:=[(eI x.arg.data),(eI x.arg.index),(eI x.res.data),(eI x.res.index)]
@[simp] theorem W5i (x:Q8):W1 x=[(eI x.arg.data),(eI x.arg.index),(eI x.res.data),(eI x.res.index)]:=rfl
theorem Z0t (x:Q8):∀ d∈W1 x,Free d:=by simp
@[simp] theorem Z2i (sz:Nat) (l:List Q8):Free (.slice sz (List.map W1 l)):=Z7 (Q4 Z0t l)
@[simp] theorem X1i (sz:Nat) (l:List Q8) (rows:List (List D)) (h:∀ row∈rows,∀ d∈row,Free d):Free (.slice sz (List.map W1 l++rows)):=V6 Z0t l h
@[simp] theorem X1m (sz sz2:Nat) (l:List (List Q8)):Free (.slice sz (List.map (rL sz2 W1) l)):=W8 sz sz2 W1 (fun l=>Z2i sz2 l) l
structure Z4 where
 op:Int
 n:Int
 ctor:Int
 kids:List Z4
 deriving Inhabited
mutual
def Q00:Z4→List D
 | ⟨op,n,ctor,kids⟩=>[(eI op),(eI n),(eI ctor),.slice 4 (Q9c kids)]
def Q9c:List Z4→List (List D)
 | []=>[]
 | x::l=>Q00 x::Q9c l
end
theorem Z4u:∀ l,Q9c l=List.map Q00 l
 | []=>by simp [Q9c]
 | x::l=>by simp [Q9c,Z4u l]
@[simp] theorem V27 (x:Z4):Q00 x=[(eI x.op),(eI x.n),(eI x.ctor),(.slice 4 (List.map Q00 x.kids))]:=by cases x;simp [Q00,Z4u]
mutual
theorem Z46:∀ (x:Z4),∀ d∈Q00 x,Free d
 | ⟨op,n,ctor,kids⟩,d,h=>by
  simp only [Q00,U7,List.not_mem_nil,or_false] at h
  rcases h with rfl | rfl | rfl | rfl
  ·simp
  ·simp
  ·simp
  ·exact Z7 (X0p kids)
theorem X0p:∀ (l:List Z4),∀ row∈Q9c l,∀ d∈row,Free d
 | [],row,h,_,_=>by simp [Q9c] at h
 | p::l,row,h,d,hd=>by
  rw [Q9c,U7] at h
  rcases h with rfl | h
  ·exact Z46 p d hd
  ·exact X0p l row h d hd
end
@[simp] theorem Z6q (sz:Nat) (l:List Z4):Free (.slice sz (List.map Q00 l)):=Z7 (Q4 Z46 l)
@[simp] theorem X6g (sz:Nat) (l:List Z4) (rows:List (List D)) (h:∀ row∈rows,∀ d∈row,Free d):Free (.slice sz (List.map Q00 l++rows)):=V6 Z46 l h
@[simp] theorem X6o (sz sz2:Nat) (l:List (List Z4)):Free (.slice sz (List.map (rL sz2 Q00) l)):=W8 sz sz2 Q00 (fun l=>Z6q sz2 l) l
structure Q5 where
 op:Int
 ctor:Int
 n:Int
 m:Int
 var:Int
 kids:List Q5
 deriving Inhabited
mutual
def X7:Q5→List D
 | ⟨op,ctor,n,m,var,kids⟩=>[(eI op),(eI ctor),(eI n),(eI m),(eI var),.slice 6 (Q4w kids)]
def Q4w:List Q5→List (List D)
 | []=>[]
 | x::l=>X7 x::Q4w l
end
theorem Z0d:∀ l,Q4w l=List.map X7 l
 | []=>by simp [Q4w]
 | x::l=>by simp [Q4w,Z0d l]
@[simp] theorem W5h (x:Q5):X7 x=[(eI x.op),(eI x.ctor),(eI x.n),(eI x.m),(eI x.var),(.slice 6 (List.map X7 x.kids))]:=by cases x;simp [X7,Z0d]
mutual
theorem Q5q:∀ (x:Q5),∀ d∈X7 x,Free d
 | ⟨op,ctor,n,m,var,kids⟩,d,h=>by
  simp only [X7,U7,List.not_mem_nil,or_false] at h
  rcases h with rfl | rfl | rfl | rfl | rfl | rfl
  ·simp
  ·simp
  ·simp
  ·simp
  ·simp
  ·exact Z7 (Z39 kids)
theorem Z39:∀ (l:List Q5),∀ row∈Q4w l,∀ d∈row,Free d
 | [],row,h,_,_=>by simp [Q4w] at h
 | p::l,row,h,d,hd=>by
  rw [Q4w,U7] at h
  rcases h with rfl | h
  ·exact Q5q p d hd
  ·exact Z39 l row h d hd
end
@[simp] theorem Z2h (sz:Nat) (l:List Q5):Free (.slice sz (List.map X7 l)):=Z7 (Q4 Q5q l)
@[simp] theorem X1h (sz:Nat) (l:List Q5) (rows:List (List D)) (h:∀ row∈rows,∀ d∈row,Free d):Free (.slice sz (List.map X7 l++rows)):=V6 Q5q l h
@[simp] theorem X1l (sz sz2:Nat) (l:List (List Q5)):Free (.slice sz (List.map (rL sz2 X7) l)):=W8 sz sz2 X7 (fun l=>Z2h sz2 l) l
structure Q2i where
 op:Int
 var:Int
 n:Int
 deriving Inhabited
def Q5j (x:Q2i):List D:=[(eI x.op),(eI x.var),(eI x.n)]
@[simp] theorem W8x (x:Q2i):Q5j x=[(eI x.op),(eI x.var),(eI x.n)]:=rfl
theorem Z5h (x:Q2i):∀ d∈Q5j x,Free d:=by simp
@[simp] theorem Z5e (sz:Nat) (l:List Q2i):Free (.slice sz (List.map Q5j l)):=Z7 (Q4 Z5h l)
@[simp] theorem X4s (sz:Nat) (l:List Q2i) (rows:List (List D)) (h:∀ row∈rows,∀ d∈row,Free d):Free (.slice sz (List.map Q5j l++rows)):=V6 Z5h l h
@[simp] theorem X4w (sz sz2:Nat) (l:List (List Q2i)):Free (.slice sz (List.map (rL sz2 Q5j) l)):=W8 sz sz2 Q5j (fun l=>Z5e sz2 l) l
structure X1 where
 pat:Q5
 guard:Q2i
 deriving Inhabited
def V7 (x:X1):List D:=[(eI x.pat.op),(eI x.pat.ctor),(eI x.pat.n),(eI x.pat.m),(eI x.pat.var),(.slice 6 (List.map X7 x.pat.kids)),(eI x.guard.op),(eI x.guard.var),(eI x.guard.n)]
@[simp] theorem W70 (x:X1):V7 x=[(eI x.pat.op),(eI x.pat.ctor),(eI x.pat.n),(eI x.pat.m),(eI x.pat.var),(.slice 6 (List.map X7 x.pat.kids)),(eI x.guard.op),(eI x.guard.var),(eI x.guard.n)]:=rfl
theorem Q86 (x:X1):∀ d∈V7 x,Free d:=by simp
@[simp] theorem Z3s (sz:Nat) (l:List X1):Free (.slice sz (List.map V7 l)):=Z7 (Q4 Q86 l)
@[simp] theorem X30 (sz:Nat) (l:List X1) (rows:List (List D)) (h:∀ row∈rows,∀ d∈row,Free d):Free (.slice sz (List.map V7 l++rows)):=V6 Q86 l h
@[simp] theorem X35 (sz sz2:Nat) (l:List (List X1)):Free (.slice sz (List.map (rL sz2 V7) l)):=W8 sz sz2 V7 (fun l=>Z3s sz2 l) l
structure GFun where
 typ:Q8
 clauses:List X1
 bodies:List Z4
 deriving Inhabited
def J1 (x:GFun):List D:=[(eI x.typ.arg.data),(eI x.typ.arg.index),(eI x.typ.res.data),(eI x.typ.res.index),(.slice 9 (List.map V7 x.clauses)),(.slice 4 (List.map Q00 x.bodies))]
@[simp] theorem V4p (x:GFun):J1 x=[(eI x.typ.arg.data),(eI x.typ.arg.index),(eI x.typ.res.data),(eI x.typ.res.index),(.slice 9 (List.map V7 x.clauses)),(.slice 4 (List.map Q00 x.bodies))]:=rfl
theorem Q8w (x:GFun):∀ d∈J1 x,Free d:=by simp
@[simp] theorem Z8k (sz:Nat) (l:List GFun):Free (.slice sz (List.map J1 l)):=Z7 (Q4 Q8w l)
@[simp] theorem X7l (sz:Nat) (l:List GFun) (rows:List (List D)) (h:∀ row∈rows,∀ d∈row,Free d):Free (.slice sz (List.map J1 l++rows)):=V6 Q8w l h
@[simp] theorem X7n (sz sz2:Nat) (l:List (List GFun)):Free (.slice sz (List.map (rL sz2 J1) l)):=W8 sz sz2 J1 (fun l=>Z8k sz2 l) l
structure Q41 where
 var:Int
 path:List Int
 deriving Inhabited
def Q0t (x:Q41):List D:=[(eI x.var),(.slice 1 (List.map rI x.path))]
@[simp] theorem W2n (x:Q41):Q0t x=[(eI x.var),(.slice 1 (List.map rI x.path))]:=rfl
theorem Q9q (x:Q41):∀ d∈Q0t x,Free d:=by simp
@[simp] theorem Z1i (sz:Nat) (l:List Q41):Free (.slice sz (List.map Q0t l)):=Z7 (Q4 Q9q l)
@[simp] theorem X0k (sz:Nat) (l:List Q41) (rows:List (List D)) (h:∀ row∈rows,∀ d∈row,Free d):Free (.slice sz (List.map Q0t l++rows)):=V6 Q9q l h
@[simp] theorem X0l (sz sz2:Nat) (l:List (List Q41)):Free (.slice sz (List.map (rL sz2 Q0t) l)):=W8 sz sz2 Q0t (fun l=>Z1i sz2 l) l
structure X73 where
 op:Int
 path:List Int
 ctor:Int
 n:Int
 m:Int
 clause:Int
 binds:List Q41
 to:Int
 deriving Inhabited
def Z4t (x:X73):List D:=[(eI x.op),(.slice 1 (List.map rI x.path)),(eI x.ctor),(eI x.n),(eI x.m),(eI x.clause),(.slice 2 (List.map Q0t x.binds)),(eI x.to)]
@[simp] theorem V26 (x:X73):Z4t x=[(eI x.op),(.slice 1 (List.map rI x.path)),(eI x.ctor),(eI x.n),(eI x.m),(eI x.clause),(.slice 2 (List.map Q0t x.binds)),(eI x.to)]:=rfl
theorem Z8l (x:X73):∀ d∈Z4t x,Free d:=by simp
@[simp] theorem Z6p (sz:Nat) (l:List X73):Free (.slice sz (List.map Z4t l)):=Z7 (Q4 Z8l l)
@[simp] theorem X6f (sz:Nat) (l:List X73) (rows:List (List D)) (h:∀ row∈rows,∀ d∈row,Free d):Free (.slice sz (List.map Z4t l++rows)):=V6 Z8l l h
@[simp] theorem X6n (sz sz2:Nat) (l:List (List X73)):Free (.slice sz (List.map (rL sz2 Z4t) l)):=W8 sz sz2 Z4t (fun l=>Z6p sz2 l) l
mutual
structure Q6c where
 ctor:Int
 n:Int
 m:Int
 tree:Q91
structure Q91 where
 op:Int
 clause:Int
 binds:List Q41
 path:List Int
 branches:List Q6c
 else_:List Q91
end
instance:Inhabited Q91:=⟨⟨default,default,[],[],[],[]⟩⟩
instance:Inhabited Q6c:=⟨⟨default,default,default,default⟩⟩
mutual
def Q3o:Q6c→List D
 | ⟨ctor,n,m,tree⟩=>[(eI ctor),(eI n),(eI m)]++Q4v tree
def Q5x:List Q6c→List (List D)
 | []=>[]
 | x::l=>Q3o x::Q5x l
def Q4v:Q91→List D
 | ⟨op,clause,binds,path,branches,else_⟩=>[(eI op),(eI clause),(.slice 2 (List.map Q0t binds)),(.slice 1 (List.map rI path)),.slice 9 (Q5x branches),.slice 6 (Q9b else_)]
def Q9b:List Q91→List (List D)
 | []=>[]
 | x::l=>Q4v x::Q9b l
end
theorem Q8j:∀ l,Q5x l=List.map Q3o l
 | []=>by simp [Q5x]
 | x::l=>by simp [Q5x,Q8j l]
theorem Z0m:∀ l,Q9b l=List.map Q4v l
 | []=>by simp [Q9b]
 | x::l=>by simp [Q9b,Z0m l]
@[simp] theorem V25 (x:Q91):Q4v x=[(eI x.op),(eI x.clause),(.slice 2 (List.map Q0t x.binds)),(.slice 1 (List.map rI x.path)),(.slice 9 (List.map Q3o x.branches)),(.slice 6 (List.map Q4v x.else_))]:=by cases x;simp [Q4v,Q8j,Z0m]
@[simp] theorem W71 (x:Q6c):Q3o x=[(eI x.ctor),(eI x.n),(eI x.m),(eI x.tree.op),(eI x.tree.clause),(.slice 2 (List.map Q0t x.tree.binds)),(.slice 1 (List.map rI x.tree.path)),(.slice 9 (List.map Q3o x.tree.branches)),(.slice 6 (List.map Q4v x.tree.else_))]:=by cases x;simp [Q3o,Q8j,Z0m]
mutual
theorem Z03:∀ (x:Q6c),∀ d∈Q3o x,Free d
 | ⟨ctor,n,m,tree⟩,d,h=>by
  rw [Q3o] at h
  simp only [List.mem_append] at h
  rcases h with h | h
  ·simp only [U7,List.not_mem_nil,or_false] at h
   rcases h with rfl | rfl | rfl
   ·simp
   ·simp
   ·simp
  ·exact Z1k tree d h
theorem Z5i:∀ (l:List Q6c),∀ row∈Q5x l,∀ d∈row,Free d
 | [],row,h,_,_=>by simp [Q5x] at h
 | p::l,row,h,d,hd=>by
  rw [Q5x,U7] at h
  rcases h with rfl | h
  ·exact Z03 p d hd
  ·exact Z5i l row h d hd
theorem Z1k:∀ (x:Q91),∀ d∈Q4v x,Free d
 | ⟨op,clause,binds,path,branches,else_⟩,d,h=>by
  rw [Q4v] at h
  simp only [U7,List.not_mem_nil,or_false] at h
  rcases h with rfl | rfl | rfl | rfl | rfl | rfl
  ·simp
  ·simp
  ·simp
  ·simp
  ·exact Z7 (Z5i branches)
  ·exact Z7 (X0o else_)
theorem X0o:∀ (l:List Q91),∀ row∈Q9b l,∀ d∈row,Free d
 | [],row,h,_,_=>by simp [Q9b] at h
 | p::l,row,h,d,hd=>by
  rw [Q9b,U7] at h
  rcases h with rfl | h
  ·exact Z1k p d hd
  ·exact X0o l row h d hd
end
@[simp] theorem Z3t (sz:Nat) (l:List Q6c):Free (.slice sz (List.map Q3o l)):=Z7 (Q4 Z03 l)
@[simp] theorem X31 (sz:Nat) (l:List Q6c) (rows:List (List D)) (h:∀ row∈rows,∀ d∈row,Free d):Free (.slice sz (List.map Q3o l++rows)):=V6 Z03 l h
@[simp] theorem X36 (sz sz2:Nat) (l:List (List Q6c)):Free (.slice sz (List.map (rL sz2 Q3o) l)):=W8 sz sz2 Q3o (fun l=>Z3t sz2 l) l
@[simp] theorem Z6o (sz:Nat) (l:List Q91):Free (.slice sz (List.map Q4v l)):=Z7 (Q4 Z1k l)
@[simp] theorem X6e (sz:Nat) (l:List Q91) (rows:List (List D)) (h:∀ row∈rows,∀ d∈row,Free d):Free (.slice sz (List.map Q4v l++rows)):=V6 Z1k l h
@[simp] theorem X6m (sz sz2:Nat) (l:List (List Q91)):Free (.slice sz (List.map (rL sz2 Q4v) l)):=W8 sz sz2 Q4v (fun l=>Z6o sz2 l) l
structure Q64 where
 name:ByteArray
 args:List Q3
 index:Int
 deriving Inhabited
def Q54 (x:Q64):List D:=[(eS x.name),(.slice 2 (List.map Z6 x.args)),(eI x.index)]
@[simp] theorem V29 (x:Q64):Q54 x=[(eS x.name),(.slice 2 (List.map Z6 x.args)),(eI x.index)]:=rfl
theorem Z1m (x:Q64):∀ d∈Q54 x,Free d:=by simp
@[simp] theorem Z6s (sz:Nat) (l:List Q64):Free (.slice sz (List.map Q54 l)):=Z7 (Q4 Z1m l)
@[simp] theorem X6i (sz:Nat) (l:List Q64) (rows:List (List D)) (h:∀ row∈rows,∀ d∈row,Free d):Free (.slice sz (List.map Q54 l++rows)):=V6 Z1m l h
@[simp] theorem X6q (sz sz2:Nat) (l:List (List Q64)):Free (.slice sz (List.map (rL sz2 Q54) l)):=W8 sz sz2 Q54 (fun l=>Z6s sz2 l) l
structure Q2 where
 name:ByteArray
 ctors:List Q64
 deriving Inhabited
def Z5 (x:Q2):List D:=[(eS x.name),(.slice 3 (List.map Q54 x.ctors))]
@[simp] theorem V28 (x:Q2):Z5 x=[(eS x.name),(.slice 3 (List.map Q54 x.ctors))]:=rfl
theorem Z1l (x:Q2):∀ d∈Z5 x,Free d:=by simp
@[simp] theorem Z6r (sz:Nat) (l:List Q2):Free (.slice sz (List.map Z5 l)):=Z7 (Q4 Z1l l)
@[simp] theorem X6h (sz:Nat) (l:List Q2) (rows:List (List D)) (h:∀ row∈rows,∀ d∈row,Free d):Free (.slice sz (List.map Z5 l++rows)):=V6 Z1l l h
@[simp] theorem X6p (sz sz2:Nat) (l:List (List Q2)):Free (.slice sz (List.map (rL sz2 Z5) l)):=W8 sz sz2 Z5 (fun l=>Z6r sz2 l) l
structure Y2 where
 w:List Q2
 list:List GFun
 fuel:Int
 count:Int
 tests:Int
 code:Int
 choose:List GFun
 deriving Inhabited
def Q03 (x:Y2):List D:=[(.slice 2 (List.map Z5 x.w)),(.slice 6 (List.map J1 x.list)),(eI x.fuel),(eI x.count),(eI x.tests),(eI x.code),(.clos 0o00145 [.cptr [(.slice 6 (List.map J1 x.choose))]])]
@[simp] theorem W5f (x:Y2):Q03 x=[(.slice 2 (List.map Z5 x.w)),(.slice 6 (List.map J1 x.list)),(eI x.fuel),(eI x.count),(eI x.tests),(eI x.code),(.clos 0o00145 [.cptr [(.slice 6 (List.map J1 x.choose))]])]:=rfl
theorem Z0s (x:Y2):∀ d∈Q03 x,Free d:=by simp
@[simp] theorem Z2f (sz:Nat) (l:List Y2):Free (.slice sz (List.map Q03 l)):=Z7 (Q4 Z0s l)
@[simp] theorem X1f (sz:Nat) (l:List Y2) (rows:List (List D)) (h:∀ row∈rows,∀ d∈row,Free d):Free (.slice sz (List.map Q03 l++rows)):=V6 Z0s l h
@[simp] theorem X1j (sz sz2:Nat) (l:List (List Y2)):Free (.slice sz (List.map (rL sz2 Q03) l)):=W8 sz sz2 Q03 (fun l=>Z2f sz2 l) l
structure Y1 where
 w:List Q2
 list:List GFun
 trees:List Q91
 fuel:Int
 calls:Int
 tests:Int
 end_:Int
 deriving Inhabited
def Q0g (x:Y1):List D:=[(.slice 2 (List.map Z5 x.w)),(.slice 6 (List.map J1 x.list)),(.slice 6 (List.map Q4v x.trees)),(eI x.fuel),(eI x.calls),(eI x.tests),(eI x.end_)]
@[simp] theorem W6y (x:Y1):Q0g x=[(.slice 2 (List.map Z5 x.w)),(.slice 6 (List.map J1 x.list)),(.slice 6 (List.map Q4v x.trees)),(eI x.fuel),(eI x.calls),(eI x.tests),(eI x.end_)]:=rfl
theorem Z2k (x:Y1):∀ d∈Q0g x,Free d:=by simp
@[simp] theorem Z3q (sz:Nat) (l:List Y1):Free (.slice sz (List.map Q0g l)):=Z7 (Q4 Z2k l)
@[simp] theorem X2y (sz:Nat) (l:List Y1) (rows:List (List D)) (h:∀ row∈rows,∀ d∈row,Free d):Free (.slice sz (List.map Q0g l++rows)):=V6 Z2k l h
@[simp] theorem X33 (sz sz2:Nat) (l:List (List Y1)):Free (.slice sz (List.map (rL sz2 Q0g) l)):=W8 sz sz2 Q0g (fun l=>Z3q sz2 l) l
structure Q1 where
 var:Int
 typ:Q3
 deriving Inhabited
def Z8 (x:Q1):List D:=[(eI x.var),(eI x.typ.data),(eI x.typ.index)]
@[simp] theorem W5g (x:Q1):Z8 x=[(eI x.var),(eI x.typ.data),(eI x.typ.index)]:=rfl
theorem Q7b (x:Q1):∀ d∈Z8 x,Free d:=by simp
@[simp] theorem Z2g (sz:Nat) (l:List Q1):Free (.slice sz (List.map Z8 l)):=Z7 (Q4 Q7b l)
@[simp] theorem X1g (sz:Nat) (l:List Q1) (rows:List (List D)) (h:∀ row∈rows,∀ d∈row,Free d):Free (.slice sz (List.map Z8 l++rows)):=V6 Q7b l h
@[simp] theorem X1k (sz sz2:Nat) (l:List (List Q1)):Free (.slice sz (List.map (rL sz2 Z8) l)):=W8 sz sz2 Z8 (fun l=>Z2g sz2 l) l
structure Q30 where
 w:List Q2
 funs:List Q8
 vars:List Q1
 deriving Inhabited
def Q53 (x:Q30):List D:=[(.slice 2 (List.map Z5 x.w)),(.slice 4 (List.map W1 x.funs)),(.slice 3 (List.map Z8 x.vars))]
@[simp] theorem W8u (x:Q30):Q53 x=[(.slice 2 (List.map Z5 x.w)),(.slice 4 (List.map W1 x.funs)),(.slice 3 (List.map Z8 x.vars))]:=rfl
theorem Z5f (x:Q30):∀ d∈Q53 x,Free d:=by simp
@[simp] theorem Z5b (sz:Nat) (l:List Q30):Free (.slice sz (List.map Q53 l)):=Z7 (Q4 Z5f l)
@[simp] theorem X4p (sz:Nat) (l:List Q30) (rows:List (List D)) (h:∀ row∈rows,∀ d∈row,Free d):Free (.slice sz (List.map Q53 l++rows)):=V6 Z5f l h
@[simp] theorem X4t (sz sz2:Nat) (l:List (List Q30)):Free (.slice sz (List.map (rL sz2 Q53) l)):=W8 sz sz2 Q53 (fun l=>Z5b sz2 l) l
structure Grow where
 clause:Int
 pats:List Q5
 binds:List Q41
 deriving Inhabited
def X27 (x:Grow):List D:=[(eI x.clause),(.slice 6 (List.map X7 x.pats)),(.slice 2 (List.map Q0t x.binds))]
@[simp] theorem V4o (x:Grow):X27 x=[(eI x.clause),(.slice 6 (List.map X7 x.pats)),(.slice 2 (List.map Q0t x.binds))]:=rfl
theorem X38 (x:Grow):∀ d∈X27 x,Free d:=by simp
@[simp] theorem Z8j (sz:Nat) (l:List Grow):Free (.slice sz (List.map X27 l)):=Z7 (Q4 X38 l)
@[simp] theorem X7k (sz:Nat) (l:List Grow) (rows:List (List D)) (h:∀ row∈rows,∀ d∈row,Free d):Free (.slice sz (List.map X27 l++rows)):=V6 X38 l h
@[simp] theorem X7m (sz sz2:Nat) (l:List (List Grow)):Free (.slice sz (List.map (rL sz2 X27) l)):=W8 sz sz2 X27 (fun l=>Z8j sz2 l) l
structure Z0z where
 w:List Q2
 d:List Int
 deriving Inhabited
def Q6i (x:Z0z):List D:=[(.slice 2 (List.map Z5 x.w)),(.cptr (List.map cI x.d))]
@[simp] theorem W6x (x:Z0z):Q6i x=[(.slice 2 (List.map Z5 x.w)),(.cptr (List.map cI x.d))]:=rfl
theorem Z2j (x:Z0z):∀ d∈Q6i x,Free d:=by simp
@[simp] theorem Z3p (sz:Nat) (l:List Z0z):Free (.slice sz (List.map Q6i l)):=Z7 (Q4 Z2j l)
@[simp] theorem X2x (sz:Nat) (l:List Z0z) (rows:List (List D)) (h:∀ row∈rows,∀ d∈row,Free d):Free (.slice sz (List.map Q6i l++rows)):=V6 Z2j l h
@[simp] theorem X32 (sz sz2:Nat) (l:List (List Z0z)):Free (.slice sz (List.map (rL sz2 Q6i) l)):=W8 sz sz2 Q6i (fun l=>Z3p sz2 l) l
structure Q6v where
 spaces:Z0z
 list:List X1
 pick:Int
 count:Int
 deriving Inhabited
def Q4m (x:Q6v):List D:=[(.cptr (Q6i x.spaces)),(.slice 9 (List.map V7 x.list)),(eI x.pick),(eI x.count)]
@[simp] theorem W18 (x:Q6v):Q4m x=[(.cptr (Q6i x.spaces)),(.slice 9 (List.map V7 x.list)),(eI x.pick),(eI x.count)]:=rfl
theorem Q8v (x:Q6v):∀ d∈Q4m x,Free d:=by simp
@[simp] theorem Z0r (sz:Nat) (l:List Q6v):Free (.slice sz (List.map Q4m l)):=Z7 (Q4 Q8v l)
@[simp] theorem Z96 (sz:Nat) (l:List Q6v) (rows:List (List D)) (h:∀ row∈rows,∀ d∈row,Free d):Free (.slice sz (List.map Q4m l++rows)):=V6 Q8v l h
@[simp] theorem Z97 (sz sz2:Nat) (l:List (List Q6v)):Free (.slice sz (List.map (rL sz2 Q4m) l)):=W8 sz sz2 Q4m (fun l=>Z0r sz2 l) l
structure Z30 where
 path:List Int
 t:Q3
 deriving Inhabited
def Q8i (x:Z30):List D:=[(.slice 1 (List.map rI x.path)),(eI x.t.data),(eI x.t.index)]
@[simp] theorem W6z (x:Z30):Q8i x=[(.slice 1 (List.map rI x.path)),(eI x.t.data),(eI x.t.index)]:=rfl
theorem Z2l (x:Z30):∀ d∈Q8i x,Free d:=by simp
@[simp] theorem Z3r (sz:Nat) (l:List Z30):Free (.slice sz (List.map Q8i l)):=Z7 (Q4 Z2l l)
@[simp] theorem X2z (sz:Nat) (l:List Z30) (rows:List (List D)) (h:∀ row∈rows,∀ d∈row,Free d):Free (.slice sz (List.map Q8i l++rows)):=V6 Z2l l h
@[simp] theorem X34 (sz sz2:Nat) (l:List (List Z30)):Free (.slice sz (List.map (rL sz2 Q8i) l)):=W8 sz sz2 Q8i (fun l=>Z3r sz2 l) l
structure Z3 where
 var:Int
 value:Q0
 deriving Inhabited
def V9 (x:Z3):List D:=[(eI x.var),(eI x.value.ctor),(eI x.value.n),(.slice 3 (List.map Z2 x.value.kids))]
@[simp] theorem V2a (x:Z3):V9 x=[(eI x.var),(eI x.value.ctor),(eI x.value.n),(.slice 3 (List.map Z2 x.value.kids))]:=rfl
theorem Z1n (x:Z3):∀ d∈V9 x,Free d:=by simp
@[simp] theorem Z6t (sz:Nat) (l:List Z3):Free (.slice sz (List.map V9 l)):=Z7 (Q4 Z1n l)
@[simp] theorem X6j (sz:Nat) (l:List Z3) (rows:List (List D)) (h:∀ row∈rows,∀ d∈row,Free d):Free (.slice sz (List.map V9 l++rows)):=V6 Z1n l h
@[simp] theorem X6r (sz sz2:Nat) (l:List (List Z3)):Free (.slice sz (List.map (rL sz2 V9) l)):=W8 sz sz2 V9 (fun l=>Z6t sz2 l) l
structure X3 where
 b:List Int
 p:Int
 deriving Inhabited
def J8 (x:X3):List D:=[(.slice 1 (List.map (rK .u8) x.b)),(eI x.p)]
@[simp] theorem W8v (x:X3):J8 x=[(.slice 1 (List.map (rK .u8) x.b)),(eI x.p)]:=rfl
theorem Z5g (x:X3):∀ d∈J8 x,Free d:=by simp
@[simp] theorem Z5c (sz:Nat) (l:List X3):Free (.slice sz (List.map J8 l)):=Z7 (Q4 Z5g l)
@[simp] theorem X4q (sz:Nat) (l:List X3) (rows:List (List D)) (h:∀ row∈rows,∀ d∈row,Free d):Free (.slice sz (List.map J8 l++rows)):=V6 Z5g l h
@[simp] theorem X4u (sz sz2:Nat) (l:List (List X3)):Free (.slice sz (List.map (rL sz2 J8) l)):=W8 sz sz2 J8 (fun l=>Z5c sz2 l) l
end Go.Proofs.YtenmmbjgnlflnaaGreat
