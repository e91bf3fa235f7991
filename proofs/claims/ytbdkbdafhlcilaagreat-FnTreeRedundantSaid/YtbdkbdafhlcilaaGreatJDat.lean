import Derived.Test.YtbdkbdafhlcilaaGreatJE1
set_option linter.unusedSimpArgs false
set_option linter.unusedVariables false
namespace Go.Proofs.YtbdkbdafhlcilaaGreat
open Go Go.RowKit
theorem Q8 {α:Type}{f:α→List D}(h:∀ x,∀ d∈f x,Free d)(l:List α):∀ row∈List.map f l,∀ d∈row,Free d:=fun row hr d hd=>by
 simp only [U11] at hr
 obtain ⟨x,_,rfl⟩:=hr
 exact h x d hd
abbrev eI (n:Int):D:=.val (.int .i64 n)
abbrev eB (b:Bool):D:=.val (.bool b)
abbrev eS (s:ByteArray):D:=.val (.string s)
abbrev cI:Int→D:=fun n=>.val (.int .i64 n)
abbrev cB:Bool→D:=fun n=>.val (.bool n)
def rI (n:Int):List D:=[eI n]
def rK (k:IntKind)(n:Int):List D:=[.val (.int k n)]
def rB (n:Bool):List D:=[eB n]
def rS (n:ByteArray):List D:=[eS n]
def rL {α:Type}(sz:Nat)(r:α→List D)(l:List α):List D:=[.slice sz (List.map r l)]
@[simp] theorem rI_eq (n:Int):rI n=[eI n]:=rfl
@[simp] theorem W4k (sz:Nat) (l:List Int):Free (.slice sz (List.map (rI) l)):=V1 (fun row hr d hd=>by simp only [U11] at hr;obtain ⟨x,_,rfl⟩:=hr;simp at hd;subst hd;exact Q53 _)
@[simp] theorem rK_eq (k:IntKind) (n:Int):rK k n=[.val (.int k n)]:=rfl
@[simp] theorem V84 (k:IntKind) (sz:Nat) (l:List Int):Free (.slice sz (List.map (rK k) l)):=V1 (fun row hr d hd=>by simp only [U11] at hr;obtain ⟨x,_,rfl⟩:=hr;simp at hd;subst hd;exact Q53 _)
@[simp] theorem rB_eq (n:Bool):rB n=[eB n]:=rfl
@[simp] theorem W4l (sz:Nat) (l:List Bool):Free (.slice sz (List.map (rB) l)):=V1 (fun row hr d hd=>by simp only [U11] at hr;obtain ⟨x,_,rfl⟩:=hr;simp at hd;subst hd;exact Q53 _)
@[simp] theorem Y5z (n:ByteArray):rS n=[eS n]:=rfl
@[simp] theorem W4e (sz:Nat) (l:List ByteArray):Free (.slice sz (List.map (rS) l)):=V1 (fun row hr d hd=>by simp only [U11] at hr;obtain ⟨x,_,rfl⟩:=hr;simp at hd;subst hd;exact Q53 _)
@[simp] theorem rL_eq {α:Type} (sz:Nat) (r:α→List D) (l:List α):rL sz r l=[.slice sz (List.map r l)]:=rfl
theorem Q0f {α:Type}(sz sz2:Nat)(r:α→List D)(h:∀ l,Free (.slice sz2 (List.map r l)))(l:List (List α)):Free (.slice sz (List.map (rL sz2 r) l)):=V1 (fun row hr d hd=>by simp only [U11] at hr;obtain ⟨x,_,rfl⟩:=hr;simp at hd;subst hd;exact h x)
@[simp] theorem V4w (sz:Nat) (row:List D) (rows:List (List D)) (h:∀ r∈row::rows,∀ d∈r,Free d):Free (.slice sz (row::rows)):=V1 h
@[simp] theorem V6s (sz:Nat):Free (.slice sz []):=V1 (fun _ h=>by simp at h)
@[simp] theorem V86 {ds:List D} (h:∀ d∈ds,Free d):Free (.agg ds):=Z8n h
@[simp] theorem V83 {ds:List D} (h:∀ d∈ds,Free d):Free (.tup ds):=V2y h
@[simp] theorem V6v {ds:List D} (h:∀ d∈ds,Free d):Free (.cptr ds):=X7b h
@[simp] theorem V6w {f:FuncId} {ds:List D} (h:∀ d∈ds,Free d):Free (.clos f ds):=X7c h
@[simp] theorem V85:Free .any:=V33
theorem Q19 {sz:Nat}{α:Type}{r:α→List D}(hr:∀ x,∀ d∈r x,Free d)(xs:List α){rows:List (List D)}(h:∀ row∈rows,∀ d∈row,Free d):Free (.slice sz (List.map r xs++rows)):=X9v hr h
@[simp] theorem V6x (l:List Int):Free (.agg (List.map cI l)):=Z8n fun d h=>by simp only [U11] at h;obtain ⟨x,_,rfl⟩:=h;exact Q53 _
@[simp] theorem V6y (l:List Bool):Free (.agg (List.map cB l)):=Z8n fun d h=>by simp only [U11] at h;obtain ⟨x,_,rfl⟩:=h;exact Q53 _
@[simp] theorem V6t (l:List Int):∀ d∈List.map cI l,Free d:=fun d h=>by simp only [U11] at h;obtain ⟨x,_,rfl⟩:=h;exact Q53 _
@[simp] theorem V6u (l:List Bool):∀ d∈List.map cB l,Free d:=fun d h=>by simp only [U11] at h;obtain ⟨x,_,rfl⟩:=h;exact Q53 _
@[simp] theorem V30 (sz sz2:Nat) (l:List (List Int)):Free (.slice sz (List.map (rL sz2 rI) l)):=Q0f sz sz2 rI (fun l=>W4k sz2 l) l
@[simp] theorem V2z (sz sz2:Nat) (l:List (List ByteArray)):Free (.slice sz (List.map (rL sz2 rS) l)):=Q0f sz sz2 rS (fun l=>W4e sz2 l) l
@[simp] theorem V31 (sz sz2:Nat) (l:List (List Bool)):Free (.slice sz (List.map (rL sz2 rB) l)):=Q0f sz sz2 rB (fun l=>W4l sz2 l) l
structure Q2 where
 data:Int
 index:Int
 deriving Inhabited
def X9 (x:Q2):List D:=[(eI x.data),(eI x.index)]
@[simp] theorem Y12 (x:Q2):X9 x=[(eI x.data),(eI x.index)]:=rfl
theorem Z1b (x:Q2):∀ d∈X9 x,Free d:=by simp
@[simp] theorem X1q (sz:Nat) (l:List Q2):Free (.slice sz (List.map X9 l)):=V1 (Q8 Z1b l)
@[simp] theorem W49 (sz:Nat) (l:List Q2) (rows:List (List D)) (h:∀ row∈rows,∀ d∈row,Free d):Free (.slice sz (List.map X9 l++rows)):=Q19 Z1b l h
@[simp] theorem W4f (sz sz2:Nat) (l:List (List Q2)):Free (.slice sz (List.map (rL sz2 X9) l)):=Q0f sz sz2 X9 (fun l=>X1q sz2 l) l
structure Q7 where
 var:Int
 path:List Int
 deriving Inhabited
def Z8 (x:Q7):List D:=[(eI x.var),(.slice 1 (List.map rI x.path))]
@[simp] theorem V1k (x:Q7):Z8 x=[(eI x.var),(.slice 1 (List.map rI x.path))]:=rfl
theorem Q8e (x:Q7):∀ d∈Z8 x,Free d:=by simp
@[simp] theorem Z60 (sz:Nat) (l:List Q7):Free (.slice sz (List.map Z8 l)):=V1 (Q8 Q8e l)
@[simp] theorem X78 (sz:Nat) (l:List Q7) (rows:List (List D)) (h:∀ row∈rows,∀ d∈row,Free d):Free (.slice sz (List.map Z8 l++rows)):=Q19 Q8e l h
@[simp] theorem X7a (sz sz2:Nat) (l:List (List Q7)):Free (.slice sz (List.map (rL sz2 Z8) l)):=Q0f sz sz2 Z8 (fun l=>Z60 sz2 l) l
mutual
structure Z2 where
 ctor:Int
 n:Int
 m:Int
 tree:V4
structure V4 where
 op:Int
 clause:Int
 binds:List Q7
 path:List Int
 branches:List Z2
 else_:List V4
end
instance:Inhabited V4:=⟨⟨default,default,[],[],[],[]⟩⟩
instance:Inhabited Z2:=⟨⟨default,default,default,default⟩⟩
mutual
def Q1s:Z2→List D
 | ⟨ctor,n,m,tree⟩=>[(eI ctor),(eI n),(eI m)]++Q5j tree
def Q86:List Z2→List (List D)
 | []=>[]
 | x::l=>Q1s x::Q86 l
def Q5j:V4→List D
 | ⟨op,clause,binds,path,branches,else_⟩=>[(eI op),(eI clause),(.slice 2 (List.map Z8 binds)),(.slice 1 (List.map rI path)),.slice 9 (Q86 branches),.slice 6 (Z2d else_)]
def Z2d:List V4→List (List D)
 | []=>[]
 | x::l=>Q5j x::Z2d l
end
theorem Z0x:∀ l,Q86 l=List.map Q1s l
 | []=>by simp [Q86]
 | x::l=>by simp [Q86,Z0x l]
theorem Z49:∀ l,Z2d l=List.map Q5j l
 | []=>by simp [Z2d]
 | x::l=>by simp [Z2d,Z49 l]
@[simp] theorem Y13 (x:V4):Q5j x=[(eI x.op),(eI x.clause),(.slice 2 (List.map Z8 x.binds)),(.slice 1 (List.map rI x.path)),(.slice 9 (List.map Q1s x.branches)),(.slice 6 (List.map Q5j x.else_))]:=by cases x;simp [Q5j,Z0x,Z49]
@[simp] theorem V61 (x:Z2):Q1s x=[(eI x.ctor),(eI x.n),(eI x.m),(eI x.tree.op),(eI x.tree.clause),(.slice 2 (List.map Z8 x.tree.binds)),(.slice 1 (List.map rI x.tree.path)),(.slice 9 (List.map Q1s x.tree.branches)),(.slice 6 (List.map Q5j x.tree.else_))]:=by cases x;simp [Q1s,Z0x,Z49]
mutual
theorem Z3b:∀ (x:Z2),∀ d∈Q1s x,Free d
 | ⟨ctor,n,m,tree⟩,d,h=>by
  rw [Q1s] at h
  simp only [U9] at h
  rcases h with h | h
  ·simp only [U8,List.not_mem_nil,or_false] at h
   rcases h with rfl | rfl | rfl
   ·simp
   ·simp
   ·simp
  ·exact Z61 tree d h
theorem X0c:∀ (l:List Z2),∀ row∈Q86 l,∀ d∈row,Free d
 | [],row,h,_,_=>by simp [Q86] at h
 | p::l,row,h,d,hd=>by
  rw [Q86,U8] at h
  rcases h with rfl | h
  ·exact Z3b p d hd
  ·exact X0c l row h d hd
theorem Z61:∀ (x:V4),∀ d∈Q5j x,Free d
 | ⟨op,clause,binds,path,branches,else_⟩,d,h=>by
  rw [Q5j] at h
  simp only [U8,List.not_mem_nil,or_false] at h
  rcases h with rfl | rfl | rfl | rfl | rfl | rfl
  ·simp
  ·simp
  ·simp
  ·simp
  ·exact V1 (X0c branches)
  ·exact V1 (X7d else_)
theorem X7d:∀ (l:List V4),∀ row∈Z2d l,∀ d∈row,Free d
 | [],row,h,_,_=>by simp [Z2d] at h
 | p::l,row,h,d,hd=>by
  rw [Z2d,U8] at h
  rcases h with rfl | h
  ·exact Z61 p d hd
  ·exact X7d l row h d hd
end
@[simp] theorem Z8e (sz:Nat) (l:List Z2):Free (.slice sz (List.map Q1s l)):=V1 (Q8 Z3b l)
@[simp] theorem X9q (sz:Nat) (l:List Z2) (rows:List (List D)) (h:∀ row∈rows,∀ d∈row,Free d):Free (.slice sz (List.map Q1s l++rows)):=Q19 Z3b l h
@[simp] theorem X9u (sz sz2:Nat) (l:List (List Z2)):Free (.slice sz (List.map (rL sz2 Q1s) l)):=Q0f sz sz2 Q1s (fun l=>Z8e sz2 l) l
@[simp] theorem X1r (sz:Nat) (l:List V4):Free (.slice sz (List.map Q5j l)):=V1 (Q8 Z61 l)
@[simp] theorem W4a (sz:Nat) (l:List V4) (rows:List (List D)) (h:∀ row∈rows,∀ d∈row,Free d):Free (.slice sz (List.map Q5j l++rows)):=Q19 Z61 l h
@[simp] theorem W4g (sz sz2:Nat) (l:List (List V4)):Free (.slice sz (List.map (rL sz2 Q5j) l)):=Q0f sz sz2 Q5j (fun l=>X1r sz2 l) l
structure Q4 where
 ctor:Int
 n:Int
 kids:List Q4
 deriving Inhabited
mutual
def Q07:Q4→List D
 | ⟨ctor,n,kids⟩=>[(eI ctor),(eI n),.slice 3 (Q9r kids)]
def Q9r:List Q4→List (List D)
 | []=>[]
 | x::l=>Q07 x::Q9r l
end
theorem Z7o:∀ l,Q9r l=List.map Q07 l
 | []=>by simp [Q9r]
 | x::l=>by simp [Q9r,Z7o l]
@[simp] theorem W3e (x:Q4):Q07 x=[(eI x.ctor),(eI x.n),(.slice 3 (List.map Q07 x.kids))]:=by cases x;simp [Q07,Z7o]
mutual
theorem Q8d:∀ (x:Q4),∀ d∈Q07 x,Free d
 | ⟨ctor,n,kids⟩,d,h=>by
  simp only [Q07,U8,List.not_mem_nil,or_false] at h
  rcases h with rfl | rfl | rfl
  ·simp
  ·simp
  ·exact V1 (X2u kids)
theorem X2u:∀ (l:List Q4),∀ row∈Q9r l,∀ d∈row,Free d
 | [],row,h,_,_=>by simp [Q9r] at h
 | p::l,row,h,d,hd=>by
  rw [Q9r,U8] at h
  rcases h with rfl | h
  ·exact Q8d p d hd
  ·exact X2u l row h d hd
end
@[simp] theorem X06 (sz:Nat) (l:List Q4):Free (.slice sz (List.map Q07 l)):=V1 (Q8 Q8d l)
@[simp] theorem W21 (sz:Nat) (l:List Q4) (rows:List (List D)) (h:∀ row∈rows,∀ d∈row,Free d):Free (.slice sz (List.map Q07 l++rows)):=Q19 Q8d l h
@[simp] theorem W25 (sz sz2:Nat) (l:List (List Q4)):Free (.slice sz (List.map (rL sz2 Q07) l)):=Q0f sz sz2 Q07 (fun l=>X06 sz2 l) l
structure Q0 where
 op:Int
 ctor:Int
 n:Int
 m:Int
 var:Int
 kids:List Q0
 deriving Inhabited
mutual
def Q1:Q0→List D
 | ⟨op,ctor,n,m,var,kids⟩=>[(eI op),(eI ctor),(eI n),(eI m),(eI var),.slice 6 (Q71 kids)]
def Q71:List Q0→List (List D)
 | []=>[]
 | x::l=>Q1 x::Q71 l
end
theorem Z3s:∀ l,Q71 l=List.map Q1 l
 | []=>by simp [Q71]
 | x::l=>by simp [Q71,Z3s l]
@[simp] theorem X6c (x:Q0):Q1 x=[(eI x.op),(eI x.ctor),(eI x.n),(eI x.m),(eI x.var),(.slice 6 (List.map Q1 x.kids))]:=by cases x;simp [Q1,Z3s]
mutual
theorem Q5y:∀ (x:Q0),∀ d∈Q1 x,Free d
 | ⟨op,ctor,n,m,var,kids⟩,d,h=>by
  simp only [Q1,U8,List.not_mem_nil,or_false] at h
  rcases h with rfl | rfl | rfl | rfl | rfl | rfl
  ·simp
  ·simp
  ·simp
  ·simp
  ·simp
  ·exact V1 (Z7u kids)
theorem Z7u:∀ (l:List Q0),∀ row∈Q71 l,∀ d∈row,Free d
 | [],row,h,_,_=>by simp [Q71] at h
 | p::l,row,h,d,hd=>by
  rw [Q71,U8] at h
  rcases h with rfl | h
  ·exact Q5y p d hd
  ·exact Z7u l row h d hd
end
@[simp] theorem Z6w (sz:Nat) (l:List Q0):Free (.slice sz (List.map Q1 l)):=V1 (Q8 Q5y l)
@[simp] theorem X8f (sz:Nat) (l:List Q0) (rows:List (List D)) (h:∀ row∈rows,∀ d∈row,Free d):Free (.slice sz (List.map Q1 l++rows)):=Q19 Q5y l h
@[simp] theorem X8h (sz sz2:Nat) (l:List (List Q0)):Free (.slice sz (List.map (rL sz2 Q1) l)):=Q0f sz sz2 Q1 (fun l=>Z6w sz2 l) l
structure Grow where
 clause:Int
 pats:List Q0
 binds:List Q7
 deriving Inhabited
def Q4w (x:Grow):List D:=[(eI x.clause),(.slice 6 (List.map Q1 x.pats)),(.slice 2 (List.map Z8 x.binds))]
@[simp] theorem Y3u (x:Grow):Q4w x=[(eI x.clause),(.slice 6 (List.map Q1 x.pats)),(.slice 2 (List.map Z8 x.binds))]:=rfl
theorem X08 (x:Grow):∀ d∈Q4w x,Free d:=by simp
@[simp] theorem X4c (sz:Nat) (l:List Grow):Free (.slice sz (List.map Q4w l)):=V1 (Q8 X08 l)
@[simp] theorem W5l (sz:Nat) (l:List Grow) (rows:List (List D)) (h:∀ row∈rows,∀ d∈row,Free d):Free (.slice sz (List.map Q4w l++rows)):=Q19 X08 l h
@[simp] theorem W5m (sz sz2:Nat) (l:List (List Grow)):Free (.slice sz (List.map (rL sz2 Q4w) l)):=Q0f sz sz2 Q4w (fun l=>X4c sz2 l) l
structure Q4g where
 op:Int
 var:Int
 n:Int
 deriving Inhabited
def Q94 (x:Q4g):List D:=[(eI x.op),(eI x.var),(eI x.n)]
@[simp] theorem V80 (x:Q4g):Q94 x=[(eI x.op),(eI x.var),(eI x.n)]:=rfl
theorem X0b (x:Q4g):∀ d∈Q94 x,Free d:=by simp
@[simp] theorem X07 (sz:Nat) (l:List Q4g):Free (.slice sz (List.map Q94 l)):=V1 (Q8 X0b l)
@[simp] theorem W22 (sz:Nat) (l:List Q4g) (rows:List (List D)) (h:∀ row∈rows,∀ d∈row,Free d):Free (.slice sz (List.map Q94 l++rows)):=Q19 X0b l h
@[simp] theorem W26 (sz sz2:Nat) (l:List (List Q4g)):Free (.slice sz (List.map (rL sz2 Q94) l)):=Q0f sz sz2 Q94 (fun l=>X07 sz2 l) l
structure Q5 where
 pat:Q0
 guard:Q4g
 deriving Inhabited
def W0 (x:Q5):List D:=[(eI x.pat.op),(eI x.pat.ctor),(eI x.pat.n),(eI x.pat.m),(eI x.pat.var),(.slice 6 (List.map Q1 x.pat.kids)),(eI x.guard.op),(eI x.guard.var),(eI x.guard.n)]
@[simp] theorem X8z (x:Q5):W0 x=[(eI x.pat.op),(eI x.pat.ctor),(eI x.pat.n),(eI x.pat.m),(eI x.pat.var),(.slice 6 (List.map Q1 x.pat.kids)),(eI x.guard.op),(eI x.guard.var),(eI x.guard.n)]:=rfl
theorem Q7z (x:Q5):∀ d∈W0 x,Free d:=by simp
@[simp] theorem Z8d (sz:Nat) (l:List Q5):Free (.slice sz (List.map W0 l)):=V1 (Q8 Q7z l)
@[simp] theorem X9p (sz:Nat) (l:List Q5) (rows:List (List D)) (h:∀ row∈rows,∀ d∈row,Free d):Free (.slice sz (List.map W0 l++rows)):=Q19 Q7z l h
@[simp] theorem X9t (sz sz2:Nat) (l:List (List Q5)):Free (.slice sz (List.map (rL sz2 W0) l)):=Q0f sz sz2 W0 (fun l=>Z8d sz2 l) l
structure Q8f where
 name:ByteArray
 args:List Q2
 index:Int
 deriving Inhabited
def Q7e (x:Q8f):List D:=[(eS x.name),(.slice 2 (List.map X9 x.args)),(eI x.index)]
@[simp] theorem W6x (x:Q8f):Q7e x=[(eS x.name),(.slice 2 (List.map X9 x.args)),(eI x.index)]:=rfl
theorem Z1d (x:Q8f):∀ d∈Q7e x,Free d:=by simp
@[simp] theorem X1t (sz:Nat) (l:List Q8f):Free (.slice sz (List.map Q7e l)):=V1 (Q8 Z1d l)
@[simp] theorem W4c (sz:Nat) (l:List Q8f) (rows:List (List D)) (h:∀ row∈rows,∀ d∈row,Free d):Free (.slice sz (List.map Q7e l++rows)):=Q19 Z1d l h
@[simp] theorem W4i (sz sz2:Nat) (l:List (List Q8f)):Free (.slice sz (List.map (rL sz2 Q7e) l)):=Q0f sz sz2 Q7e (fun l=>X1t sz2 l) l
structure Q3 where
 name:ByteArray
 ctors:List Q8f
 deriving Inhabited
def V0 (x:Q3):List D:=[(eS x.name),(.slice 3 (List.map Q7e x.ctors))]
@[simp] theorem W6w (x:Q3):V0 x=[(eS x.name),(.slice 3 (List.map Q7e x.ctors))]:=rfl
theorem Z1c (x:Q3):∀ d∈V0 x,Free d:=by simp
@[simp] theorem X1s (sz:Nat) (l:List Q3):Free (.slice sz (List.map V0 l)):=V1 (Q8 Z1c l)
@[simp] theorem W4b (sz:Nat) (l:List Q3) (rows:List (List D)) (h:∀ row∈rows,∀ d∈row,Free d):Free (.slice sz (List.map V0 l++rows)):=Q19 Z1c l h
@[simp] theorem W4h (sz sz2:Nat) (l:List (List Q3)):Free (.slice sz (List.map (rL sz2 V0) l)):=Q0f sz sz2 V0 (fun l=>X1s sz2 l) l
structure Q24 where
 w:List Q3
 d:List Int
 deriving Inhabited
def Q2s (x:Q24):List D:=[(.slice 2 (List.map V0 x.w)),(.cptr (List.map cI x.d))]
@[simp] theorem V5z (x:Q24):Q2s x=[(.slice 2 (List.map V0 x.w)),(.cptr (List.map cI x.d))]:=rfl
theorem Z6x (x:Q24):∀ d∈Q2s x,Free d:=by simp
@[simp] theorem Z8b (sz:Nat) (l:List Q24):Free (.slice sz (List.map Q2s l)):=V1 (Q8 Z6x l)
@[simp] theorem X9n (sz:Nat) (l:List Q24) (rows:List (List D)) (h:∀ row∈rows,∀ d∈row,Free d):Free (.slice sz (List.map Q2s l++rows)):=Q19 Z6x l h
@[simp] theorem X9r (sz sz2:Nat) (l:List (List Q24)):Free (.slice sz (List.map (rL sz2 Q2s) l)):=Q0f sz sz2 Q2s (fun l=>Z8b sz2 l) l
structure X0 where
 spaces:Q24
 list:List Q5
 pick:Int
 count:Int
 deriving Inhabited
def J3 (x:X0):List D:=[(.cptr (Q2s x.spaces)),(.slice 9 (List.map W0 x.list)),(eI x.pick),(eI x.count)]
@[simp] theorem W9r (x:X0):J3 x=[(.cptr (Q2s x.spaces)),(.slice 9 (List.map W0 x.list)),(eI x.pick),(eI x.count)]:=rfl
theorem Z1a (x:X0):∀ d∈J3 x,Free d:=by simp
@[simp] theorem Z4j (sz:Nat) (l:List X0):Free (.slice sz (List.map J3 l)):=V1 (Q8 Z1a l)
@[simp] theorem X59 (sz:Nat) (l:List X0) (rows:List (List D)) (h:∀ row∈rows,∀ d∈row,Free d):Free (.slice sz (List.map J3 l++rows)):=Q19 Z1a l h
@[simp] theorem X5a (sz sz2:Nat) (l:List (List X0)):Free (.slice sz (List.map (rL sz2 J3) l)):=Q0f sz sz2 J3 (fun l=>Z4j sz2 l) l
structure Z5 where
 path:List Int
 t:Q2
 deriving Inhabited
def Q1y (x:Z5):List D:=[(.slice 1 (List.map rI x.path)),(eI x.t.data),(eI x.t.index)]
@[simp] theorem V60 (x:Z5):Q1y x=[(.slice 1 (List.map rI x.path)),(eI x.t.data),(eI x.t.index)]:=rfl
theorem Z6y (x:Z5):∀ d∈Q1y x,Free d:=by simp
@[simp] theorem Z8c (sz:Nat) (l:List Z5):Free (.slice sz (List.map Q1y l)):=V1 (Q8 Z6y l)
@[simp] theorem X9o (sz:Nat) (l:List Z5) (rows:List (List D)) (h:∀ row∈rows,∀ d∈row,Free d):Free (.slice sz (List.map Q1y l++rows)):=Q19 Z6y l h
@[simp] theorem X9s (sz sz2:Nat) (l:List (List Z5)):Free (.slice sz (List.map (rL sz2 Q1y) l)):=Q0f sz sz2 Q1y (fun l=>Z8c sz2 l) l
structure Y3 where
 var:Int
 value:Q4
 deriving Inhabited
def Q87 (x:Y3):List D:=[(eI x.var),(eI x.value.ctor),(eI x.value.n),(.slice 3 (List.map Q07 x.value.kids))]
@[simp] theorem Y14 (x:Y3):Q87 x=[(eI x.var),(eI x.value.ctor),(eI x.value.n),(.slice 3 (List.map Q07 x.value.kids))]:=rfl
theorem Z1e (x:Y3):∀ d∈Q87 x,Free d:=by simp
@[simp] theorem X1u (sz:Nat) (l:List Y3):Free (.slice sz (List.map Q87 l)):=V1 (Q8 Z1e l)
@[simp] theorem W4d (sz:Nat) (l:List Y3) (rows:List (List D)) (h:∀ row∈rows,∀ d∈row,Free d):Free (.slice sz (List.map Q87 l++rows)):=Q19 Z1e l h
@[simp] theorem W4j (sz sz2:Nat) (l:List (List Y3)):Free (.slice sz (List.map (rL sz2 Q87) l)):=Q0f sz sz2 Q87 (fun l=>X1u sz2 l) l
structure Z4 where
 b:List Int
 p:Int
 deriving Inhabited
def J2 (x:Z4):List D:=[(.slice 1 (List.map (rK .u8) x.b)),(eI x.p)]
@[simp] theorem V7z (x:Z4):J2 x=[(.slice 1 (List.map (rK .u8) x.b)),(eI x.p)]:=rfl
theorem X0a (x:Z4):∀ d∈J2 x,Free d:=by simp
@[simp] theorem X05 (sz:Nat) (l:List Z4):Free (.slice sz (List.map J2 l)):=V1 (Q8 X0a l)
@[simp] theorem W20 (sz:Nat) (l:List Z4) (rows:List (List D)) (h:∀ row∈rows,∀ d∈row,Free d):Free (.slice sz (List.map J2 l++rows)):=Q19 X0a l h
@[simp] theorem W24 (sz sz2:Nat) (l:List (List Z4)):Free (.slice sz (List.map (rL sz2 J2) l)):=Q0f sz sz2 J2 (fun l=>X05 sz2 l) l
structure Q1c where
 path:List Int
 kind:Q2
 deriving Inhabited
def Q7t (x:Q1c):List D:=[(.slice 1 (List.map rI x.path)),(eI x.kind.data),(eI x.kind.index)]
@[simp] theorem V1j (x:Q1c):Q7t x=[(.slice 1 (List.map rI x.path)),(eI x.kind.data),(eI x.kind.index)]:=rfl
theorem Z2r (x:Q1c):∀ d∈Q7t x,Free d:=by simp
@[simp] theorem Z5z (sz:Nat) (l:List Q1c):Free (.slice sz (List.map Q7t l)):=V1 (Q8 Z2r l)
@[simp] theorem X77 (sz:Nat) (l:List Q1c) (rows:List (List D)) (h:∀ row∈rows,∀ d∈row,Free d):Free (.slice sz (List.map Q7t l++rows)):=Q19 Z2r l h
@[simp] theorem X79 (sz sz2:Nat) (l:List (List Q1c)):Free (.slice sz (List.map (rL sz2 Q7t) l)):=Q0f sz sz2 Q7t (fun l=>Z5z sz2 l) l
structure Q0q where
 clause:Int
 pats:List Q0
 binds:List Q7
 deriving Inhabited
def Z48 (x:Q0q):List D:=[(eI x.clause),(.slice 6 (List.map Q1 x.pats)),(.slice 2 (List.map Z8 x.binds))]
@[simp] theorem V7y (x:Q0q):Z48 x=[(eI x.clause),(.slice 6 (List.map Q1 x.pats)),(.slice 2 (List.map Z8 x.binds))]:=rfl
theorem X09 (x:Q0q):∀ d∈Z48 x,Free d:=by simp
@[simp] theorem X04 (sz:Nat) (l:List Q0q):Free (.slice sz (List.map Z48 l)):=V1 (Q8 X09 l)
@[simp] theorem W1z (sz:Nat) (l:List Q0q) (rows:List (List D)) (h:∀ row∈rows,∀ d∈row,Free d):Free (.slice sz (List.map Z48 l++rows)):=Q19 X09 l h
@[simp] theorem W23 (sz sz2:Nat) (l:List (List Q0q)):Free (.slice sz (List.map (rL sz2 Z48) l)):=Q0f sz sz2 Z48 (fun l=>X04 sz2 l) l
structure Z0 where
 var:Int
 typ:Q2
 deriving Inhabited
def Y4 (x:Z0):List D:=[(eI x.var),(eI x.typ.data),(eI x.typ.index)]
@[simp] theorem V4f (x:Z0):Y4 x=[(eI x.var),(eI x.typ.data),(eI x.typ.index)]:=rfl
theorem Q6y (x:Z0):∀ d∈Y4 x,Free d:=by simp
@[simp] theorem Z6v (sz:Nat) (l:List Z0):Free (.slice sz (List.map Y4 l)):=V1 (Q8 Q6y l)
@[simp] theorem X8e (sz:Nat) (l:List Z0) (rows:List (List D)) (h:∀ row∈rows,∀ d∈row,Free d):Free (.slice sz (List.map Y4 l++rows)):=Q19 Q6y l h
@[simp] theorem X8g (sz sz2:Nat) (l:List (List Z0)):Free (.slice sz (List.map (rL sz2 Y4) l)):=Q0f sz sz2 Y4 (fun l=>Z6v sz2 l) l
end Go.Proofs.YtbdkbdafhlcilaaGreat
