import Derived.Test.YtjgapphpbkapmaaGreatJE1
set_option linter.unusedSimpArgs false
set_option linter.unusedVariables false
namespace Go.Proofs.YtjgapphpbkapmaaGreat
open Go Go.RowKit
theorem Q7 {α:Type} {f:α→List D} (h:∀ x,∀ d∈f x,Free d) (l:List α):∀ row∈List.map f l,∀ d∈row,Free d:=fun row hr d hd=>by
 simp only [U10] at hr
 obtain ⟨x,_,rfl⟩:=hr
 exact h x d hd
abbrev eI (n:Int):D:=.val (.int .i64 n)
abbrev eB (b:Bool):D:=.val (.bool b)
abbrev eS (s:ByteArray):D:=.val (.string s)
abbrev cI:Int→D:=fun n=>.val (.int .i64 n)
abbrev cB:Bool→D:=fun n=>.val (.bool n)
def rI (n:Int):List D:=[eI n]
def rK (k:IntKind) (n:Int):List D:=[.val (.int k n)]
def rB (n:Bool):List D:=[eB n]
def rS (n:ByteArray):List D:=[eS n]
def rL {α:Type} (sz:Nat) (r:α→List D) (l:List α):List D:=[.slice sz (List.map r l)]
@[simp] theorem rI_eq (n:Int):rI n=[eI n]:=rfl
@[simp] theorem W1k (sz:Nat) (l:List Int):Free (.slice sz (List.map (rI) l)):=W5 (fun row hr d hd=>by simp only [U10] at hr;obtain ⟨x,_,rfl⟩:=hr;simp at hd;subst hd;exact Q4h _)
@[simp] theorem rK_eq (k:IntKind) (n:Int):rK k n=[.val (.int k n)]:=rfl
@[simp] theorem V4n (k:IntKind) (sz:Nat) (l:List Int):Free (.slice sz (List.map (rK k) l)):=W5 (fun row hr d hd=>by simp only [U10] at hr;obtain ⟨x,_,rfl⟩:=hr;simp at hd;subst hd;exact Q4h _)
@[simp] theorem rB_eq (n:Bool):rB n=[eB n]:=rfl
@[simp] theorem W1l (sz:Nat) (l:List Bool):Free (.slice sz (List.map (rB) l)):=W5 (fun row hr d hd=>by simp only [U10] at hr;obtain ⟨x,_,rfl⟩:=hr;simp at hd;subst hd;exact Q4h _)
@[simp] theorem Y29 (n:ByteArray):rS n=[eS n]:=rfl
@[simp] theorem W1b (sz:Nat) (l:List ByteArray):Free (.slice sz (List.map (rS) l)):=W5 (fun row hr d hd=>by simp only [U10] at hr;obtain ⟨x,_,rfl⟩:=hr;simp at hd;subst hd;exact Q4h _)
@[simp] theorem rL_eq {α:Type} (sz:Nat) (r:α→List D) (l:List α):rL sz r l=[.slice sz (List.map r l)]:=rfl
theorem J4 {α:Type} (sz sz2:Nat) (r:α→List D) (h:∀ l,Free (.slice sz2 (List.map r l))) (l:List (List α)):Free (.slice sz (List.map (rL sz2 r) l)):=W5 (fun row hr d hd=>by simp only [U10] at hr;obtain ⟨x,_,rfl⟩:=hr;simp at hd;subst hd;exact h x)
@[simp] theorem V1p (sz:Nat) (row:List D) (rows:List (List D)) (h:∀ r∈row::rows,∀ d∈r,Free d):Free (.slice sz (row::rows)):=W5 h
@[simp] theorem V3d (sz:Nat):Free (.slice sz []):=W5 (fun _ h=>by simp at h)
@[simp] theorem V4p {ds:List D} (h:∀ d∈ds,Free d):Free (.agg ds):=Z6m h
@[simp] theorem V4m {ds:List D} (h:∀ d∈ds,Free d):Free (.tup ds):=W9p h
@[simp] theorem V3g {ds:List D} (h:∀ d∈ds,Free d):Free (.cptr ds):=X4u h
@[simp] theorem V3h {f:FuncId} {ds:List D} (h:∀ d∈ds,Free d):Free (.clos f ds):=X4v h
@[simp] theorem V4o:Free .any:=W9u
theorem Q08 {sz:Nat} {α:Type} {r:α→List D} (hr:∀ x,∀ d∈r x,Free d) (xs:List α) {rows:List (List D)} (h:∀ row∈rows,∀ d∈row,Free d):Free (.slice sz (List.map r xs++rows)):=X79 hr h
@[simp] theorem V3i (l:List Int):Free (.agg (List.map cI l)):=Z6m fun d h=>by simp only [U10] at h;obtain ⟨x,_,rfl⟩:=h;exact Q4h _
@[simp] theorem V3j (l:List Bool):Free (.agg (List.map cB l)):=Z6m fun d h=>by simp only [U10] at h;obtain ⟨x,_,rfl⟩:=h;exact Q4h _
@[simp] theorem V3e (l:List Int):∀ d∈List.map cI l,Free d:=fun d h=>by simp only [U10] at h;obtain ⟨x,_,rfl⟩:=h;exact Q4h _
@[simp] theorem V3f (l:List Bool):∀ d∈List.map cB l,Free d:=fun d h=>by simp only [U10] at h;obtain ⟨x,_,rfl⟩:=h;exact Q4h _
@[simp] theorem W9r (sz sz2:Nat) (l:List (List Int)):Free (.slice sz (List.map (rL sz2 rI) l)):=J4 sz sz2 rI (fun l=>W1k sz2 l) l
@[simp] theorem W9q (sz sz2:Nat) (l:List (List ByteArray)):Free (.slice sz (List.map (rL sz2 rS) l)):=J4 sz sz2 rS (fun l=>W1b sz2 l) l
@[simp] theorem W9s (sz sz2:Nat) (l:List (List Bool)):Free (.slice sz (List.map (rL sz2 rB) l)):=J4 sz sz2 rB (fun l=>W1l sz2 l) l
structure Q4 where
 data:Int
 index:Int
 deriving Inhabited
def W0 (x:Q4):List D:=[(eI x.data),(eI x.index)]
@[simp] theorem V7m (x:Q4):W0 x=[(eI x.data),(eI x.index)]:=rfl
theorem Z0d (x:Q4):∀ d∈W0 x,Free d:=by simp
@[simp] theorem Z9i (sz:Nat) (l:List Q4):Free (.slice sz (List.map W0 l)):=W5 (Q7 Z0d l)
@[simp] theorem W13 (sz:Nat) (l:List Q4) (rows:List (List D)) (h:∀ row∈rows,∀ d∈row,Free d):Free (.slice sz (List.map W0 l++rows)):=Q08 Z0d l h
@[simp] theorem W1c (sz sz2:Nat) (l:List (List Q4)):Free (.slice sz (List.map (rL sz2 W0) l)):=J4 sz sz2 W0 (fun l=>Z9i sz2 l) l
structure Q1 where
 ctor:Int
 n:Int
 kids:List Q1
 deriving Inhabited
mutual
def X1:Q1→List D
 | ⟨ctor,n,kids⟩=>[(eI ctor),(eI n),.slice 3 (Q95 kids)]
def Q95:List Q1→List (List D)
 | []=>[]
 | x::l=>X1 x::Q95 l
end
theorem Z5t:∀ l,Q95 l=List.map X1 l
 | []=>by simp [Q95]
 | x::l=>by simp [Q95,Z5t l]
@[simp] theorem W09 (x:Q1):X1 x=[(eI x.ctor),(eI x.n),(.slice 3 (List.map X1 x.kids))]:=by cases x;simp [X1,Z5t]
mutual
theorem Q7o:∀ (x:Q1),∀ d∈X1 x,Free d
 | ⟨ctor,n,kids⟩,d,h=>by
  simp only [X1,U8,List.not_mem_nil,or_false] at h
  rcases h with rfl | rfl | rfl
  ·simp
  ·simp
  ·exact W5 (X0k kids)
theorem X0k:∀ (l:List Q1),∀ row∈Q95 l,∀ d∈row,Free d
 | [],row,h,_,_=>by simp [Q95] at h
 | p::l,row,h,d,hd=>by
  rw [Q95,U8] at h
  rcases h with rfl | h
  ·exact Q7o p d hd
  ·exact X0k l row h d hd
end
@[simp] theorem Z80 (sz:Nat) (l:List Q1):Free (.slice sz (List.map X1 l)):=W5 (Q7 Q7o l)
@[simp] theorem X94 (sz:Nat) (l:List Q1) (rows:List (List D)) (h:∀ row∈rows,∀ d∈row,Free d):Free (.slice sz (List.map X1 l++rows)):=Q08 Q7o l h
@[simp] theorem X98 (sz sz2:Nat) (l:List (List Q1)):Free (.slice sz (List.map (rL sz2 X1) l)):=J4 sz sz2 X1 (fun l=>Z80 sz2 l) l
structure Q2 where
 var:Int
 path:List Int
 deriving Inhabited
def Z3 (x:Q2):List D:=[(eI x.var),(.slice 1 (List.map rI x.path))]
@[simp] theorem W84 (x:Q2):Z3 x=[(eI x.var),(.slice 1 (List.map rI x.path))]:=rfl
theorem Q7p (x:Q2):∀ d∈Z3 x,Free d:=by simp
@[simp] theorem Z49 (sz:Nat) (l:List Q2):Free (.slice sz (List.map Z3 l)):=W5 (Q7 Q7p l)
@[simp] theorem X4r (sz:Nat) (l:List Q2) (rows:List (List D)) (h:∀ row∈rows,∀ d∈row,Free d):Free (.slice sz (List.map Z3 l++rows)):=Q08 Q7p l h
@[simp] theorem X4t (sz sz2:Nat) (l:List (List Q2)):Free (.slice sz (List.map (rL sz2 Z3) l)):=J4 sz sz2 Z3 (fun l=>Z49 sz2 l) l
mutual
structure Q9 where
 ctor:Int
 n:Int
 m:Int
 tree:X9
structure X9 where
 op:Int
 clause:Int
 binds:List Q2
 path:List Int
 branches:List Q9
 else_:List X9
end
instance:Inhabited X9:=⟨⟨default,default,[],[],[],[]⟩⟩
instance:Inhabited Q9:=⟨⟨default,default,default,default⟩⟩
mutual
def J5:Q9→List D
 | ⟨ctor,n,m,tree⟩=>[(eI ctor),(eI n),(eI m)]++Q2s tree
def Q7h:List Q9→List (List D)
 | []=>[]
 | x::l=>J5 x::Q7h l
def Q2s:X9→List D
 | ⟨op,clause,binds,path,branches,else_⟩=>[(eI op),(eI clause),(.slice 2 (List.map Z3 binds)),(.slice 1 (List.map rI path)),.slice 9 (Q7h branches),.slice 6 (Z15 else_)]
def Z15:List X9→List (List D)
 | []=>[]
 | x::l=>Q2s x::Z15 l
end
theorem Z02:∀ l,Q7h l=List.map J5 l
 | []=>by simp [Q7h]
 | x::l=>by simp [Q7h,Z02 l]
theorem Z2l:∀ l,Z15 l=List.map Q2s l
 | []=>by simp [Z15]
 | x::l=>by simp [Z15,Z2l l]
@[simp] theorem V7n (x:X9):Q2s x=[(eI x.op),(eI x.clause),(.slice 2 (List.map Z3 x.binds)),(.slice 1 (List.map rI x.path)),(.slice 9 (List.map J5 x.branches)),(.slice 6 (List.map Q2s x.else_))]:=by cases x;simp [Q2s,Z02,Z2l]
@[simp] theorem V2n (x:Q9):J5 x=[(eI x.ctor),(eI x.n),(eI x.m),(eI x.tree.op),(eI x.tree.clause),(.slice 2 (List.map Z3 x.tree.binds)),(.slice 1 (List.map rI x.tree.path)),(.slice 9 (List.map J5 x.tree.branches)),(.slice 6 (List.map Q2s x.tree.else_))]:=by cases x;simp [J5,Z02,Z2l]
mutual
theorem Z1w:∀ (x:Q9),∀ d∈J5 x,Free d
 | ⟨ctor,n,m,tree⟩,d,h=>by
  rw [J5] at h
  simp only [List.mem_append] at h
  rcases h with h | h
  ·simp only [U8,List.not_mem_nil,or_false] at h
   rcases h with rfl | rfl | rfl
   ·simp
   ·simp
   ·simp
  ·exact Z4a tree d h
theorem Z86:∀ (l:List Q9),∀ row∈Q7h l,∀ d∈row,Free d
 | [],row,h,_,_=>by simp [Q7h] at h
 | p::l,row,h,d,hd=>by
  rw [Q7h,U8] at h
  rcases h with rfl | h
  ·exact Z1w p d hd
  ·exact Z86 l row h d hd
theorem Z4a:∀ (x:X9),∀ d∈Q2s x,Free d
 | ⟨op,clause,binds,path,branches,else_⟩,d,h=>by
  rw [Q2s] at h
  simp only [U8,List.not_mem_nil,or_false] at h
  rcases h with rfl | rfl | rfl | rfl | rfl | rfl
  ·simp
  ·simp
  ·simp
  ·simp
  ·exact W5 (Z86 branches)
  ·exact W5 (X4w else_)
theorem X4w:∀ (l:List X9),∀ row∈Z15 l,∀ d∈row,Free d
 | [],row,h,_,_=>by simp [Z15] at h
 | p::l,row,h,d,hd=>by
  rw [Z15,U8] at h
  rcases h with rfl | h
  ·exact Z4a p d hd
  ·exact X4w l row h d hd
end
@[simp] theorem Z6e (sz:Nat) (l:List Q9):Free (.slice sz (List.map J5 l)):=W5 (Q7 Z1w l)
@[simp] theorem X74 (sz:Nat) (l:List Q9) (rows:List (List D)) (h:∀ row∈rows,∀ d∈row,Free d):Free (.slice sz (List.map J5 l++rows)):=Q08 Z1w l h
@[simp] theorem X78 (sz sz2:Nat) (l:List (List Q9)):Free (.slice sz (List.map (rL sz2 J5) l)):=J4 sz sz2 J5 (fun l=>Z6e sz2 l) l
@[simp] theorem Z9j (sz:Nat) (l:List X9):Free (.slice sz (List.map Q2s l)):=W5 (Q7 Z4a l)
@[simp] theorem W14 (sz:Nat) (l:List X9) (rows:List (List D)) (h:∀ row∈rows,∀ d∈row,Free d):Free (.slice sz (List.map Q2s l++rows)):=Q08 Z4a l h
@[simp] theorem W1d (sz sz2:Nat) (l:List (List X9)):Free (.slice sz (List.map (rL sz2 Q2s) l)):=J4 sz sz2 Q2s (fun l=>Z9j sz2 l) l
structure W21 where
 op:Int
 path:List Int
 ctor:Int
 n:Int
 m:Int
 clause:Int
 binds:List Q2
 to:Int
 deriving Inhabited
def Z79 (x:W21):List D:=[(eI x.op),(.slice 1 (List.map rI x.path)),(eI x.ctor),(eI x.n),(eI x.m),(eI x.clause),(.slice 2 (List.map Z3 x.binds)),(eI x.to)]
@[simp] theorem V7o (x:W21):Z79 x=[(eI x.op),(.slice 1 (List.map rI x.path)),(eI x.ctor),(eI x.n),(eI x.m),(eI x.clause),(.slice 2 (List.map Z3 x.binds)),(eI x.to)]:=rfl
theorem X1y (x:W21):∀ d∈Z79 x,Free d:=by simp
@[simp] theorem Z9k (sz:Nat) (l:List W21):Free (.slice sz (List.map Z79 l)):=W5 (Q7 X1y l)
@[simp] theorem W15 (sz:Nat) (l:List W21) (rows:List (List D)) (h:∀ row∈rows,∀ d∈row,Free d):Free (.slice sz (List.map Z79 l++rows)):=Q08 X1y l h
@[simp] theorem W1e (sz sz2:Nat) (l:List (List W21)):Free (.slice sz (List.map (rL sz2 Z79) l)):=J4 sz sz2 Z79 (fun l=>Z9k sz2 l) l
structure X8 where
 var:Int
 value:Q1
 deriving Inhabited
def Q1m (x:X8):List D:=[(eI x.var),(eI x.value.ctor),(eI x.value.n),(.slice 3 (List.map X1 x.value.kids))]
@[simp] theorem V7r (x:X8):Q1m x=[(eI x.var),(eI x.value.ctor),(eI x.value.n),(.slice 3 (List.map X1 x.value.kids))]:=rfl
theorem Z0g (x:X8):∀ d∈Q1m x,Free d:=by simp
@[simp] theorem Z9p (sz:Nat) (l:List X8):Free (.slice sz (List.map Q1m l)):=W5 (Q7 Z0g l)
@[simp] theorem W1a (sz:Nat) (l:List X8) (rows:List (List D)) (h:∀ row∈rows,∀ d∈row,Free d):Free (.slice sz (List.map Q1m l++rows)):=Q08 Z0g l h
@[simp] theorem W1j (sz sz2:Nat) (l:List (List X8)):Free (.slice sz (List.map (rL sz2 Q1m) l)):=J4 sz sz2 Q1m (fun l=>Z9p sz2 l) l
structure Q0 where
 op:Int
 ctor:Int
 n:Int
 m:Int
 var:Int
 kids:List Q0
 deriving Inhabited
mutual
def Z0:Q0→List D
 | ⟨op,ctor,n,m,var,kids⟩=>[(eI op),(eI ctor),(eI n),(eI m),(eI var),.slice 6 (Q6c kids)]
def Q6c:List Q0→List (List D)
 | []=>[]
 | x::l=>Z0 x::Q6c l
end
theorem Z2a:∀ l,Q6c l=List.map Z0 l
 | []=>by simp [Q6c]
 | x::l=>by simp [Q6c,Z2a l]
@[simp] theorem X3v (x:Q0):Z0 x=[(eI x.op),(eI x.ctor),(eI x.n),(eI x.m),(eI x.var),(.slice 6 (List.map Z0 x.kids))]:=by cases x;simp [Z0,Z2a]
mutual
theorem Q5e:∀ (x:Q0),∀ d∈Z0 x,Free d
 | ⟨op,ctor,n,m,var,kids⟩,d,h=>by
  simp only [Z0,U8,List.not_mem_nil,or_false] at h
  rcases h with rfl | rfl | rfl | rfl | rfl | rfl
  ·simp
  ·simp
  ·simp
  ·simp
  ·simp
  ·exact W5 (Z5w kids)
theorem Z5w:∀ (l:List Q0),∀ row∈Q6c l,∀ d∈row,Free d
 | [],row,h,_,_=>by simp [Q6c] at h
 | p::l,row,h,d,hd=>by
  rw [Q6c,U8] at h
  rcases h with rfl | h
  ·exact Q5e p d hd
  ·exact Z5w l row h d hd
end
@[simp] theorem Z59 (sz:Nat) (l:List Q0):Free (.slice sz (List.map Z0 l)):=W5 (Q7 Q5e l)
@[simp] theorem X5v (sz:Nat) (l:List Q0) (rows:List (List D)) (h:∀ row∈rows,∀ d∈row,Free d):Free (.slice sz (List.map Z0 l++rows)):=Q08 Q5e l h
@[simp] theorem X5x (sz sz2:Nat) (l:List (List Q0)):Free (.slice sz (List.map (rL sz2 Z0) l)):=J4 sz sz2 Z0 (fun l=>Z59 sz2 l) l
structure Grow where
 clause:Int
 pats:List Q0
 binds:List Q2
 deriving Inhabited
def Q4b (x:Grow):List D:=[(eI x.clause),(.slice 6 (List.map Z0 x.pats)),(.slice 2 (List.map Z3 x.binds))]
@[simp] theorem Y02 (x:Grow):Q4b x=[(eI x.clause),(.slice 6 (List.map Z0 x.pats)),(.slice 2 (List.map Z3 x.binds))]:=rfl
theorem Z82 (x:Grow):∀ d∈Q4b x,Free d:=by simp
@[simp] theorem X1w (sz:Nat) (l:List Grow):Free (.slice sz (List.map Q4b l)):=W5 (Q7 Z82 l)
@[simp] theorem W2j (sz:Nat) (l:List Grow) (rows:List (List D)) (h:∀ row∈rows,∀ d∈row,Free d):Free (.slice sz (List.map Q4b l++rows)):=Q08 Z82 l h
@[simp] theorem W2k (sz sz2:Nat) (l:List (List Grow)):Free (.slice sz (List.map (rL sz2 Q4b) l)):=J4 sz sz2 Q4b (fun l=>X1w sz2 l) l
structure Q2i where
 op:Int
 var:Int
 n:Int
 deriving Inhabited
def Q77 (x:Q2i):List D:=[(eI x.op),(eI x.var),(eI x.n)]
@[simp] theorem V4i (x:Q2i):Q77 x=[(eI x.op),(eI x.var),(eI x.n)]:=rfl
theorem Z85 (x:Q2i):∀ d∈Q77 x,Free d:=by simp
@[simp] theorem Z81 (sz:Nat) (l:List Q2i):Free (.slice sz (List.map Q77 l)):=W5 (Q7 Z85 l)
@[simp] theorem X95 (sz:Nat) (l:List Q2i) (rows:List (List D)) (h:∀ row∈rows,∀ d∈row,Free d):Free (.slice sz (List.map Q77 l++rows)):=Q08 Z85 l h
@[simp] theorem X99 (sz sz2:Nat) (l:List (List Q2i)):Free (.slice sz (List.map (rL sz2 Q77) l)):=J4 sz sz2 Q77 (fun l=>Z81 sz2 l) l
structure Q6 where
 pat:Q0
 guard:Q2i
 deriving Inhabited
def V1 (x:Q6):List D:=[(eI x.pat.op),(eI x.pat.ctor),(eI x.pat.n),(eI x.pat.m),(eI x.pat.var),(.slice 6 (List.map Z0 x.pat.kids)),(eI x.guard.op),(eI x.guard.var),(eI x.guard.n)]
@[simp] theorem X6e (x:Q6):V1 x=[(eI x.pat.op),(eI x.pat.ctor),(eI x.pat.n),(eI x.pat.m),(eI x.pat.var),(.slice 6 (List.map Z0 x.pat.kids)),(eI x.guard.op),(eI x.guard.var),(eI x.guard.n)]:=rfl
theorem Q7d (x:Q6):∀ d∈V1 x,Free d:=by simp
@[simp] theorem Z6d (sz:Nat) (l:List Q6):Free (.slice sz (List.map V1 l)):=W5 (Q7 Q7d l)
@[simp] theorem X73 (sz:Nat) (l:List Q6) (rows:List (List D)) (h:∀ row∈rows,∀ d∈row,Free d):Free (.slice sz (List.map V1 l++rows)):=Q08 Q7d l h
@[simp] theorem X77 (sz sz2:Nat) (l:List (List Q6)):Free (.slice sz (List.map (rL sz2 V1) l)):=J4 sz sz2 V1 (fun l=>Z6d sz2 l) l
structure Q7r where
 name:ByteArray
 args:List Q4
 index:Int
 deriving Inhabited
def Q6m (x:Q7r):List D:=[(eS x.name),(.slice 2 (List.map W0 x.args)),(eI x.index)]
@[simp] theorem W3s (x:Q7r):Q6m x=[(eS x.name),(.slice 2 (List.map W0 x.args)),(eI x.index)]:=rfl
theorem Z0f (x:Q7r):∀ d∈Q6m x,Free d:=by simp
@[simp] theorem Z9o (sz:Nat) (l:List Q7r):Free (.slice sz (List.map Q6m l)):=W5 (Q7 Z0f l)
@[simp] theorem W19 (sz:Nat) (l:List Q7r) (rows:List (List D)) (h:∀ row∈rows,∀ d∈row,Free d):Free (.slice sz (List.map Q6m l++rows)):=Q08 Z0f l h
@[simp] theorem W1i (sz sz2:Nat) (l:List (List Q7r)):Free (.slice sz (List.map (rL sz2 Q6m) l)):=J4 sz sz2 Q6m (fun l=>Z9o sz2 l) l
structure Q3 where
 name:ByteArray
 ctors:List Q7r
 deriving Inhabited
def W2 (x:Q3):List D:=[(eS x.name),(.slice 3 (List.map Q6m x.ctors))]
@[simp] theorem W3r (x:Q3):W2 x=[(eS x.name),(.slice 3 (List.map Q6m x.ctors))]:=rfl
theorem Z0e (x:Q3):∀ d∈W2 x,Free d:=by simp
@[simp] theorem Z9n (sz:Nat) (l:List Q3):Free (.slice sz (List.map W2 l)):=W5 (Q7 Z0e l)
@[simp] theorem W18 (sz:Nat) (l:List Q3) (rows:List (List D)) (h:∀ row∈rows,∀ d∈row,Free d):Free (.slice sz (List.map W2 l++rows)):=Q08 Z0e l h
@[simp] theorem W1h (sz sz2:Nat) (l:List (List Q3)):Free (.slice sz (List.map (rL sz2 W2) l)):=J4 sz sz2 W2 (fun l=>Z9n sz2 l) l
structure Z0r where
 w:List Q3
 d:List Int
 deriving Inhabited
def Q7e (x:Z0r):List D:=[(.slice 2 (List.map W2 x.w)),(.cptr (List.map cI x.d))]
@[simp] theorem V2l (x:Z0r):Q7e x=[(.slice 2 (List.map W2 x.w)),(.cptr (List.map cI x.d))]:=rfl
theorem Z5a (x:Z0r):∀ d∈Q7e x,Free d:=by simp
@[simp] theorem Z6b (sz:Nat) (l:List Z0r):Free (.slice sz (List.map Q7e l)):=W5 (Q7 Z5a l)
@[simp] theorem X71 (sz:Nat) (l:List Z0r) (rows:List (List D)) (h:∀ row∈rows,∀ d∈row,Free d):Free (.slice sz (List.map Q7e l++rows)):=Q08 Z5a l h
@[simp] theorem X75 (sz sz2:Nat) (l:List (List Z0r)):Free (.slice sz (List.map (rL sz2 Q7e) l)):=J4 sz sz2 Q7e (fun l=>Z6b sz2 l) l
structure X2 where
 spaces:Z0r
 list:List Q6
 pick:Int
 count:Int
 deriving Inhabited
def Y8 (x:X2):List D:=[(.cptr (Q7e x.spaces)),(.slice 9 (List.map V1 x.list)),(eI x.pick),(eI x.count)]
@[simp] theorem W6a (x:X2):Y8 x=[(.cptr (Q7e x.spaces)),(.slice 9 (List.map V1 x.list)),(eI x.pick),(eI x.count)]:=rfl
theorem Z0c (x:X2):∀ d∈Y8 x,Free d:=by simp
@[simp] theorem Z2y (sz:Nat) (l:List X2):Free (.slice sz (List.map Y8 l)):=W5 (Q7 Z0c l)
@[simp] theorem X2v (sz:Nat) (l:List X2) (rows:List (List D)) (h:∀ row∈rows,∀ d∈row,Free d):Free (.slice sz (List.map Y8 l++rows)):=Q08 Z0c l h
@[simp] theorem X2w (sz sz2:Nat) (l:List (List X2)):Free (.slice sz (List.map (rL sz2 Y8) l)):=J4 sz sz2 Y8 (fun l=>Z2y sz2 l) l
structure Z5 where
 path:List Int
 t:Q4
 deriving Inhabited
def Q1e (x:Z5):List D:=[(.slice 1 (List.map rI x.path)),(eI x.t.data),(eI x.t.index)]
@[simp] theorem V2m (x:Z5):Q1e x=[(.slice 1 (List.map rI x.path)),(eI x.t.data),(eI x.t.index)]:=rfl
theorem Z5b (x:Z5):∀ d∈Q1e x,Free d:=by simp
@[simp] theorem Z6c (sz:Nat) (l:List Z5):Free (.slice sz (List.map Q1e l)):=W5 (Q7 Z5b l)
@[simp] theorem X72 (sz:Nat) (l:List Z5) (rows:List (List D)) (h:∀ row∈rows,∀ d∈row,Free d):Free (.slice sz (List.map Q1e l++rows)):=Q08 Z5b l h
@[simp] theorem X76 (sz sz2:Nat) (l:List (List Z5)):Free (.slice sz (List.map (rL sz2 Q1e) l)):=J4 sz sz2 Q1e (fun l=>Z6c sz2 l) l
structure X7y where
 ctor:Int
 n:Int
 m:Int
 to:Int
 deriving Inhabited
def Z3u (x:X7y):List D:=[(eI x.ctor),(eI x.n),(eI x.m),(eI x.to)]
@[simp] theorem V7q (x:X7y):Z3u x=[(eI x.ctor),(eI x.n),(eI x.m),(eI x.to)]:=rfl
theorem X20 (x:X7y):∀ d∈Z3u x,Free d:=by simp
@[simp] theorem Z9m (sz:Nat) (l:List X7y):Free (.slice sz (List.map Z3u l)):=W5 (Q7 X20 l)
@[simp] theorem W17 (sz:Nat) (l:List X7y) (rows:List (List D)) (h:∀ row∈rows,∀ d∈row,Free d):Free (.slice sz (List.map Z3u l++rows)):=Q08 X20 l h
@[simp] theorem W1g (sz sz2:Nat) (l:List (List X7y)):Free (.slice sz (List.map (rL sz2 Z3u) l)):=J4 sz sz2 Z3u (fun l=>Z9m sz2 l) l
structure W22 where
 op:Int
 clause:Int
 binds:List Q2
 path:List Int
 edges:List X7y
 else_:Int
 deriving Inhabited
def Z7a (x:W22):List D:=[(eI x.op),(eI x.clause),(.slice 2 (List.map Z3 x.binds)),(.slice 1 (List.map rI x.path)),(.slice 4 (List.map Z3u x.edges)),(eI x.else_)]
@[simp] theorem V7p (x:W22):Z7a x=[(eI x.op),(eI x.clause),(.slice 2 (List.map Z3 x.binds)),(.slice 1 (List.map rI x.path)),(.slice 4 (List.map Z3u x.edges)),(eI x.else_)]:=rfl
theorem X1z (x:W22):∀ d∈Z7a x,Free d:=by simp
@[simp] theorem Z9l (sz:Nat) (l:List W22):Free (.slice sz (List.map Z7a l)):=W5 (Q7 X1z l)
@[simp] theorem W16 (sz:Nat) (l:List W22) (rows:List (List D)) (h:∀ row∈rows,∀ d∈row,Free d):Free (.slice sz (List.map Z7a l++rows)):=Q08 X1z l h
@[simp] theorem W1f (sz sz2:Nat) (l:List (List W22)):Free (.slice sz (List.map (rL sz2 Z7a) l)):=J4 sz sz2 Z7a (fun l=>Z9l sz2 l) l
structure X0 where
 b:List Int
 p:Int
 deriving Inhabited
def Y1 (x:X0):List D:=[(.slice 1 (List.map (rK .u8) x.b)),(eI x.p)]
@[simp] theorem V4h (x:X0):Y1 x=[(.slice 1 (List.map (rK .u8) x.b)),(eI x.p)]:=rfl
theorem Z84 (x:X0):∀ d∈Y1 x,Free d:=by simp
@[simp] theorem Z7z (sz:Nat) (l:List X0):Free (.slice sz (List.map Y1 l)):=W5 (Q7 Z84 l)
@[simp] theorem X93 (sz:Nat) (l:List X0) (rows:List (List D)) (h:∀ row∈rows,∀ d∈row,Free d):Free (.slice sz (List.map Y1 l++rows)):=Q08 Z84 l h
@[simp] theorem X97 (sz sz2:Nat) (l:List (List X0)):Free (.slice sz (List.map (rL sz2 Y1) l)):=J4 sz sz2 Y1 (fun l=>Z7z sz2 l) l
structure J2 where
 path:List Int
 kind:Q4
 deriving Inhabited
def Q1w (x:J2):List D:=[(.slice 1 (List.map rI x.path)),(eI x.kind.data),(eI x.kind.index)]
@[simp] theorem W83 (x:J2):Q1w x=[(.slice 1 (List.map rI x.path)),(eI x.kind.data),(eI x.kind.index)]:=rfl
theorem Z1e (x:J2):∀ d∈Q1w x,Free d:=by simp
@[simp] theorem Z48 (sz:Nat) (l:List J2):Free (.slice sz (List.map Q1w l)):=W5 (Q7 Z1e l)
@[simp] theorem X4q (sz:Nat) (l:List J2) (rows:List (List D)) (h:∀ row∈rows,∀ d∈row,Free d):Free (.slice sz (List.map Q1w l++rows)):=Q08 Z1e l h
@[simp] theorem X4s (sz sz2:Nat) (l:List (List J2)):Free (.slice sz (List.map (rL sz2 Q1w) l)):=J4 sz sz2 Q1w (fun l=>Z48 sz2 l) l
structure Z1 where
 var:Int
 typ:Q4
 deriving Inhabited
def Y2 (x:Z1):List D:=[(eI x.var),(eI x.typ.data),(eI x.typ.index)]
@[simp] theorem V16 (x:Z1):Y2 x=[(eI x.var),(eI x.typ.data),(eI x.typ.index)]:=rfl
theorem Q6b (x:Z1):∀ d∈Y2 x,Free d:=by simp
@[simp] theorem Z58 (sz:Nat) (l:List Z1):Free (.slice sz (List.map Y2 l)):=W5 (Q7 Q6b l)
@[simp] theorem X5u (sz:Nat) (l:List Z1) (rows:List (List D)) (h:∀ row∈rows,∀ d∈row,Free d):Free (.slice sz (List.map Y2 l++rows)):=Q08 Q6b l h
@[simp] theorem X5w (sz sz2:Nat) (l:List (List Z1)):Free (.slice sz (List.map (rL sz2 Y2) l)):=J4 sz sz2 Y2 (fun l=>Z58 sz2 l) l
structure V9 where
 clause:Int
 pats:List Q0
 binds:List Q2
 deriving Inhabited
def Q29 (x:V9):List D:=[(eI x.clause),(.slice 6 (List.map Z0 x.pats)),(.slice 2 (List.map Z3 x.binds))]
@[simp] theorem V4g (x:V9):Q29 x=[(eI x.clause),(.slice 6 (List.map Z0 x.pats)),(.slice 2 (List.map Z3 x.binds))]:=rfl
theorem Z83 (x:V9):∀ d∈Q29 x,Free d:=by simp
@[simp] theorem Z7y (sz:Nat) (l:List V9):Free (.slice sz (List.map Q29 l)):=W5 (Q7 Z83 l)
@[simp] theorem X92 (sz:Nat) (l:List V9) (rows:List (List D)) (h:∀ row∈rows,∀ d∈row,Free d):Free (.slice sz (List.map Q29 l++rows)):=Q08 Z83 l h
@[simp] theorem X96 (sz sz2:Nat) (l:List (List V9)):Free (.slice sz (List.map (rL sz2 Q29) l)):=J4 sz sz2 Q29 (fun l=>Z7y sz2 l) l
end Go.Proofs.YtjgapphpbkapmaaGreat
