import Derived.Test.YtgjpamkllimhdaaGreatJE1
set_option linter.unusedSimpArgs false
set_option linter.unusedVariables false
namespace Go.Proofs.YtgjpamkllimhdaaGreat
open Go Go.RowKit
theorem Q8 {α:Type}{f:α→List D}(h:∀ x,∀ d∈f x,Free d)(l:List α):∀ row∈List.map f l,∀ d∈row,Free d:=fun row hr d hd=>by
 simp only [U10] at hr
 obtain ⟨x,_,rfl⟩:=hr
 exact h x d hd
abbrev eI (n:Int):D:=.val (.int .i64 n)
abbrev eB (b:Bool):D:=.val (.bool b)
abbrev eS (s:ByteArray):D:=.val (.string s)
abbrev cI:Int→D:=fun n=>.val (.int .i64 n)
abbrev cB:Bool→D:=fun n=>.val (.bool n)
def rI (n:Int):List D:=[eI n]
def rK (k:IntKind)(n:Int):List D:=[.val (.int k n)]
def rB (n:Bool):List D:=[eB n]
def rS (n:ByteArray):List D:=[eS n]
def rL {α:Type}(sz:Nat)(r:α→List D)(l:List α):List D:=[.slice sz (List.map r l)]
@[simp] theorem rI_eq (n:Int):rI n=[eI n]:=rfl
@[simp] theorem W43 (sz:Nat) (l:List Int):Free (.slice sz (List.map (rI) l)):=V3 (fun row hr d hd=>by simp only [U10] at hr;obtain ⟨x,_,rfl⟩:=hr;simp at hd;subst hd;exact Q56 _)
@[simp] theorem rK_eq (k:IntKind) (n:Int):rK k n=[.val (.int k n)]:=rfl
@[simp] theorem V77 (k:IntKind) (sz:Nat) (l:List Int):Free (.slice sz (List.map (rK k) l)):=V3 (fun row hr d hd=>by simp only [U10] at hr;obtain ⟨x,_,rfl⟩:=hr;simp at hd;subst hd;exact Q56 _)
@[simp] theorem rB_eq (n:Bool):rB n=[eB n]:=rfl
@[simp] theorem W44 (sz:Nat) (l:List Bool):Free (.slice sz (List.map (rB) l)):=V3 (fun row hr d hd=>by simp only [U10] at hr;obtain ⟨x,_,rfl⟩:=hr;simp at hd;subst hd;exact Q56 _)
@[simp] theorem Y4k (n:ByteArray):rS n=[eS n]:=rfl
@[simp] theorem W3w (sz:Nat) (l:List ByteArray):Free (.slice sz (List.map (rS) l)):=V3 (fun row hr d hd=>by simp only [U10] at hr;obtain ⟨x,_,rfl⟩:=hr;simp at hd;subst hd;exact Q56 _)
@[simp] theorem rL_eq {α:Type} (sz:Nat) (r:α→List D) (l:List α):rL sz r l=[.slice sz (List.map r l)]:=rfl
theorem Q0b {α:Type}(sz sz2:Nat)(r:α→List D)(h:∀ l,Free (.slice sz2 (List.map r l)))(l:List (List α)):Free (.slice sz (List.map (rL sz2 r) l)):=V3 (fun row hr d hd=>by simp only [U10] at hr;obtain ⟨x,_,rfl⟩:=hr;simp at hd;subst hd;exact h x)
@[simp] theorem V4a (sz:Nat) (row:List D) (rows:List (List D)) (h:∀ r∈row::rows,∀ d∈r,Free d):Free (.slice sz (row::rows)):=V3 h
@[simp] theorem V5x (sz:Nat):Free (.slice sz []):=V3 (fun _ h=>by simp at h)
@[simp] theorem V79 {ds:List D} (h:∀ d∈ds,Free d):Free (.agg ds):=Z85 h
@[simp] theorem V76 {ds:List D} (h:∀ d∈ds,Free d):Free (.tup ds):=V2a h
@[simp] theorem V60 {ds:List D} (h:∀ d∈ds,Free d):Free (.cptr ds):=X72 h
@[simp] theorem V61 {f:FuncId} {ds:List D} (h:∀ d∈ds,Free d):Free (.clos f ds):=X73 h
@[simp] theorem V78:Free .any:=V2f
theorem Q0p {sz:Nat}{α:Type}{r:α→List D}(hr:∀ x,∀ d∈r x,Free d)(xs:List α){rows:List (List D)}(h:∀ row∈rows,∀ d∈row,Free d):Free (.slice sz (List.map r xs++rows)):=X9k hr h
@[simp] theorem V62 (l:List Int):Free (.agg (List.map cI l)):=Z85 fun d h=>by simp only [U10] at h;obtain ⟨x,_,rfl⟩:=h;exact Q56 _
@[simp] theorem V63 (l:List Bool):Free (.agg (List.map cB l)):=Z85 fun d h=>by simp only [U10] at h;obtain ⟨x,_,rfl⟩:=h;exact Q56 _
@[simp] theorem V5y (l:List Int):∀ d∈List.map cI l,Free d:=fun d h=>by simp only [U10] at h;obtain ⟨x,_,rfl⟩:=h;exact Q56 _
@[simp] theorem V5z (l:List Bool):∀ d∈List.map cB l,Free d:=fun d h=>by simp only [U10] at h;obtain ⟨x,_,rfl⟩:=h;exact Q56 _
@[simp] theorem V2c (sz sz2:Nat) (l:List (List Int)):Free (.slice sz (List.map (rL sz2 rI) l)):=Q0b sz sz2 rI (fun l=>W43 sz2 l) l
@[simp] theorem V2b (sz sz2:Nat) (l:List (List ByteArray)):Free (.slice sz (List.map (rL sz2 rS) l)):=Q0b sz sz2 rS (fun l=>W3w sz2 l) l
@[simp] theorem V2d (sz sz2:Nat) (l:List (List Bool)):Free (.slice sz (List.map (rL sz2 rB) l)):=Q0b sz sz2 rB (fun l=>W44 sz2 l) l
structure Q6 where
 data:Int
 index:Int
 deriving Inhabited
def W0 (x:Q6):List D:=[(eI x.data),(eI x.index)]
@[simp] theorem Y01 (x:Q6):W0 x=[(eI x.data),(eI x.index)]:=rfl
theorem Z1d (x:Q6):∀ d∈W0 x,Free d:=by simp
@[simp] theorem X1i (sz:Nat) (l:List Q6):Free (.slice sz (List.map W0 l)):=V3 (Q8 Z1d l)
@[simp] theorem W3q (sz:Nat) (l:List Q6) (rows:List (List D)) (h:∀ row∈rows,∀ d∈row,Free d):Free (.slice sz (List.map W0 l++rows)):=Q0p Z1d l h
@[simp] theorem W3x (sz sz2:Nat) (l:List (List Q6)):Free (.slice sz (List.map (rL sz2 W0) l)):=Q0b sz sz2 W0 (fun l=>X1i sz2 l) l
structure Q1 where
 ctor:Int
 n:Int
 kids:List Q1
 deriving Inhabited
mutual
def X2:Q1→List D
 | ⟨ctor,n,kids⟩=>[(eI ctor),(eI n),.slice 3 (Q9s kids)]
def Q9s:List Q1→List (List D)
 | []=>[]
 | x::l=>X2 x::Q9s l
end
theorem Z76:∀ l,Q9s l=List.map X2 l
 | []=>by simp [Q9s]
 | x::l=>by simp [Q9s,Z76 l]
@[simp] theorem W2t (x:Q1):X2 x=[(eI x.ctor),(eI x.n),(.slice 3 (List.map X2 x.kids))]:=by cases x;simp [X2,Z76]
mutual
theorem Q8e:∀ (x:Q1),∀ d∈X2 x,Free d
 | ⟨ctor,n,kids⟩,d,h=>by
  simp only [X2,U8,List.not_mem_nil,or_false] at h
  rcases h with rfl | rfl | rfl
  ·simp
  ·simp
  ·exact V3 (X2l kids)
theorem X2l:∀ (l:List Q1),∀ row∈Q9s l,∀ d∈row,Free d
 | [],row,h,_,_=>by simp [Q9s] at h
 | p::l,row,h,d,hd=>by
  rw [Q9s,U8] at h
  rcases h with rfl | h
  ·exact Q8e p d hd
  ·exact X2l l row h d hd
end
@[simp] theorem Z9w (sz:Nat) (l:List Q1):Free (.slice sz (List.map X2 l)):=V3 (Q8 Q8e l)
@[simp] theorem W1o (sz:Nat) (l:List Q1) (rows:List (List D)) (h:∀ row∈rows,∀ d∈row,Free d):Free (.slice sz (List.map X2 l++rows)):=Q0p Q8e l h
@[simp] theorem W1s (sz sz2:Nat) (l:List (List Q1)):Free (.slice sz (List.map (rL sz2 X2) l)):=Q0b sz sz2 X2 (fun l=>Z9w sz2 l) l
structure Q2 where
 var:Int
 path:List Int
 deriving Inhabited
def Z0 (x:Q2):List D:=[(eI x.var),(.slice 1 (List.map rI x.path))]
@[simp] theorem V0r (x:Q2):Z0 x=[(eI x.var),(.slice 1 (List.map rI x.path))]:=rfl
theorem Q8f (x:Q2):∀ d∈Z0 x,Free d:=by simp
@[simp] theorem Z5b (sz:Nat) (l:List Q2):Free (.slice sz (List.map Z0 l)):=V3 (Q8 Q8f l)
@[simp] theorem X6z (sz:Nat) (l:List Q2) (rows:List (List D)) (h:∀ row∈rows,∀ d∈row,Free d):Free (.slice sz (List.map Z0 l++rows)):=Q0p Q8f l h
@[simp] theorem X71 (sz sz2:Nat) (l:List (List Q2)):Free (.slice sz (List.map (rL sz2 Z0) l)):=Q0b sz sz2 Z0 (fun l=>Z5b sz2 l) l
structure X0 where
 op:Int
 path:List Int
 ctor:Int
 n:Int
 m:Int
 clause:Int
 binds:List Q2
 to:Int
 deriving Inhabited
def Q21 (x:X0):List D:=[(eI x.op),(.slice 1 (List.map rI x.path)),(eI x.ctor),(eI x.n),(eI x.m),(eI x.clause),(.slice 2 (List.map Z0 x.binds)),(eI x.to)]
@[simp] theorem Y03 (x:X0):Q21 x=[(eI x.op),(.slice 1 (List.map rI x.path)),(eI x.ctor),(eI x.n),(eI x.m),(eI x.clause),(.slice 2 (List.map Z0 x.binds)),(eI x.to)]:=rfl
theorem X44 (x:X0):∀ d∈Q21 x,Free d:=by simp
@[simp] theorem X1k (sz:Nat) (l:List X0):Free (.slice sz (List.map Q21 l)):=V3 (Q8 X44 l)
@[simp] theorem W3s (sz:Nat) (l:List X0) (rows:List (List D)) (h:∀ row∈rows,∀ d∈row,Free d):Free (.slice sz (List.map Q21 l++rows)):=Q0p X44 l h
@[simp] theorem W3z (sz sz2:Nat) (l:List (List X0)):Free (.slice sz (List.map (rL sz2 Q21) l)):=Q0b sz sz2 Q21 (fun l=>X1k sz2 l) l
mutual
structure Z3 where
 ctor:Int
 n:Int
 m:Int
 tree:W3
structure W3 where
 op:Int
 clause:Int
 binds:List Q2
 path:List Int
 branches:List Z3
 else_:List W3
end
instance:Inhabited W3:=⟨⟨default,default,[],[],[],[]⟩⟩
instance:Inhabited Z3:=⟨⟨default,default,default,default⟩⟩
mutual
def Q04:Z3→List D
 | ⟨ctor,n,m,tree⟩=>[(eI ctor),(eI n),(eI m)]++Q3b tree
def Q88:List Z3→List (List D)
 | []=>[]
 | x::l=>Q04 x::Q88 l
def Q3b:W3→List D
 | ⟨op,clause,binds,path,branches,else_⟩=>[(eI op),(eI clause),(.slice 2 (List.map Z0 binds)),(.slice 1 (List.map rI path)),.slice 9 (Q88 branches),.slice 6 (Z27 else_)]
def Z27:List W3→List (List D)
 | []=>[]
 | x::l=>Q3b x::Z27 l
end
theorem Z10:∀ l,Q88 l=List.map Q04 l
 | []=>by simp [Q88]
 | x::l=>by simp [Q88,Z10 l]
theorem Z3u:∀ l,Z27 l=List.map Q3b l
 | []=>by simp [Z27]
 | x::l=>by simp [Z27,Z3u l]
@[simp] theorem Y02 (x:W3):Q3b x=[(eI x.op),(eI x.clause),(.slice 2 (List.map Z0 x.binds)),(.slice 1 (List.map rI x.path)),(.slice 9 (List.map Q04 x.branches)),(.slice 6 (List.map Q3b x.else_))]:=by cases x;simp [Q3b,Z10,Z3u]
@[simp] theorem V59 (x:Z3):Q04 x=[(eI x.ctor),(eI x.n),(eI x.m),(eI x.tree.op),(eI x.tree.clause),(.slice 2 (List.map Z0 x.tree.binds)),(.slice 1 (List.map rI x.tree.path)),(.slice 9 (List.map Q04 x.tree.branches)),(.slice 6 (List.map Q3b x.tree.else_))]:=by cases x;simp [Q04,Z10,Z3u]
mutual
theorem Z31:∀ (x:Z3),∀ d∈Q04 x,Free d
 | ⟨ctor,n,m,tree⟩,d,h=>by
  rw [Q04] at h
  simp only [List.mem_append] at h
  rcases h with h | h
  ·simp only [U8,List.not_mem_nil,or_false] at h
   rcases h with rfl | rfl | rfl
   ·simp
   ·simp
   ·simp
  ·exact Z5c tree d h
theorem X02:∀ (l:List Z3),∀ row∈Q88 l,∀ d∈row,Free d
 | [],row,h,_,_=>by simp [Q88] at h
 | p::l,row,h,d,hd=>by
  rw [Q88,U8] at h
  rcases h with rfl | h
  ·exact Z31 p d hd
  ·exact X02 l row h d hd
theorem Z5c:∀ (x:W3),∀ d∈Q3b x,Free d
 | ⟨op,clause,binds,path,branches,else_⟩,d,h=>by
  rw [Q3b] at h
  simp only [U8,List.not_mem_nil,or_false] at h
  rcases h with rfl | rfl | rfl | rfl | rfl | rfl
  ·simp
  ·simp
  ·simp
  ·simp
  ·exact V3 (X02 branches)
  ·exact V3 (X74 else_)
theorem X74:∀ (l:List W3),∀ row∈Z27 l,∀ d∈row,Free d
 | [],row,h,_,_=>by simp [Z27] at h
 | p::l,row,h,d,hd=>by
  rw [Z27,U8] at h
  rcases h with rfl | h
  ·exact Z5c p d hd
  ·exact X74 l row h d hd
end
@[simp] theorem Z7v (sz:Nat) (l:List Z3):Free (.slice sz (List.map Q04 l)):=V3 (Q8 Z31 l)
@[simp] theorem X9f (sz:Nat) (l:List Z3) (rows:List (List D)) (h:∀ row∈rows,∀ d∈row,Free d):Free (.slice sz (List.map Q04 l++rows)):=Q0p Z31 l h
@[simp] theorem X9j (sz sz2:Nat) (l:List (List Z3)):Free (.slice sz (List.map (rL sz2 Q04) l)):=Q0b sz sz2 Q04 (fun l=>Z7v sz2 l) l
@[simp] theorem X1j (sz:Nat) (l:List W3):Free (.slice sz (List.map Q3b l)):=V3 (Q8 Z5c l)
@[simp] theorem W3r (sz:Nat) (l:List W3) (rows:List (List D)) (h:∀ row∈rows,∀ d∈row,Free d):Free (.slice sz (List.map Q3b l++rows)):=Q0p Z5c l h
@[simp] theorem W3y (sz sz2:Nat) (l:List (List W3)):Free (.slice sz (List.map (rL sz2 Q3b) l)):=Q0b sz sz2 Q3b (fun l=>X1j sz2 l) l
structure Q0 where
 op:Int
 ctor:Int
 n:Int
 m:Int
 var:Int
 kids:List Q0
 deriving Inhabited
mutual
def Q9:Q0→List D
 | ⟨op,ctor,n,m,var,kids⟩=>[(eI op),(eI ctor),(eI n),(eI m),(eI var),.slice 6 (Q70 kids)]
def Q70:List Q0→List (List D)
 | []=>[]
 | x::l=>Q9 x::Q70 l
end
theorem Z3h:∀ l,Q70 l=List.map Q9 l
 | []=>by simp [Q70]
 | x::l=>by simp [Q70,Z3h l]
@[simp] theorem X68 (x:Q0):Q9 x=[(eI x.op),(eI x.ctor),(eI x.n),(eI x.m),(eI x.var),(.slice 6 (List.map Q9 x.kids))]:=by cases x;simp [Q9,Z3h]
mutual
theorem Q5y:∀ (x:Q0),∀ d∈Q9 x,Free d
 | ⟨op,ctor,n,m,var,kids⟩,d,h=>by
  simp only [Q9,U8,List.not_mem_nil,or_false] at h
  rcases h with rfl | rfl | rfl | rfl | rfl | rfl
  ·simp
  ·simp
  ·simp
  ·simp
  ·simp
  ·exact V3 (Z7b kids)
theorem Z7b:∀ (l:List Q0),∀ row∈Q70 l,∀ d∈row,Free d
 | [],row,h,_,_=>by simp [Q70] at h
 | p::l,row,h,d,hd=>by
  rw [Q70,U8] at h
  rcases h with rfl | h
  ·exact Q5y p d hd
  ·exact Z7b l row h d hd
end
@[simp] theorem Z6c (sz:Nat) (l:List Q0):Free (.slice sz (List.map Q9 l)):=V3 (Q8 Q5y l)
@[simp] theorem X84 (sz:Nat) (l:List Q0) (rows:List (List D)) (h:∀ row∈rows,∀ d∈row,Free d):Free (.slice sz (List.map Q9 l++rows)):=Q0p Q5y l h
@[simp] theorem X86 (sz sz2:Nat) (l:List (List Q0)):Free (.slice sz (List.map (rL sz2 Q9) l)):=Q0b sz sz2 Q9 (fun l=>Z6c sz2 l) l
structure Q37 where
 op:Int
 var:Int
 n:Int
 deriving Inhabited
def Q8i (x:Q37):List D:=[(eI x.op),(eI x.var),(eI x.n)]
@[simp] theorem V74 (x:Q37):Q8i x=[(eI x.op),(eI x.var),(eI x.n)]:=rfl
theorem X01 (x:Q37):∀ d∈Q8i x,Free d:=by simp
@[simp] theorem Z9x (sz:Nat) (l:List Q37):Free (.slice sz (List.map Q8i l)):=V3 (Q8 X01 l)
@[simp] theorem W1p (sz:Nat) (l:List Q37) (rows:List (List D)) (h:∀ row∈rows,∀ d∈row,Free d):Free (.slice sz (List.map Q8i l++rows)):=Q0p X01 l h
@[simp] theorem W1t (sz sz2:Nat) (l:List (List Q37)):Free (.slice sz (List.map (rL sz2 Q8i) l)):=Q0b sz sz2 Q8i (fun l=>Z9x sz2 l) l
structure Q3 where
 pat:Q0
 guard:Q37
 deriving Inhabited
def X9 (x:Q3):List D:=[(eI x.pat.op),(eI x.pat.ctor),(eI x.pat.n),(eI x.pat.m),(eI x.pat.var),(.slice 6 (List.map Q9 x.pat.kids)),(eI x.guard.op),(eI x.guard.var),(eI x.guard.n)]
@[simp] theorem X8p (x:Q3):X9 x=[(eI x.pat.op),(eI x.pat.ctor),(eI x.pat.n),(eI x.pat.m),(eI x.pat.var),(.slice 6 (List.map Q9 x.pat.kids)),(eI x.guard.op),(eI x.guard.var),(eI x.guard.n)]:=rfl
theorem Q81 (x:Q3):∀ d∈X9 x,Free d:=by simp
@[simp] theorem Z7u (sz:Nat) (l:List Q3):Free (.slice sz (List.map X9 l)):=V3 (Q8 Q81 l)
@[simp] theorem X9e (sz:Nat) (l:List Q3) (rows:List (List D)) (h:∀ row∈rows,∀ d∈row,Free d):Free (.slice sz (List.map X9 l++rows)):=Q0p Q81 l h
@[simp] theorem X9i (sz sz2:Nat) (l:List (List Q3)):Free (.slice sz (List.map (rL sz2 X9) l)):=Q0b sz sz2 X9 (fun l=>Z7u sz2 l) l
structure Grow where
 clause:Int
 pats:List Q0
 binds:List Q2
 deriving Inhabited
def Q4x (x:Grow):List D:=[(eI x.clause),(.slice 6 (List.map Q9 x.pats)),(.slice 2 (List.map Z0 x.binds))]
@[simp] theorem Y2i (x:Grow):Q4x x=[(eI x.clause),(.slice 6 (List.map Q9 x.pats)),(.slice 2 (List.map Z0 x.binds))]:=rfl
theorem Z9y (x:Grow):∀ d∈Q4x x,Free d:=by simp
@[simp] theorem X42 (sz:Nat) (l:List Grow):Free (.slice sz (List.map Q4x l)):=V3 (Q8 Z9y l)
@[simp] theorem W58 (sz:Nat) (l:List Grow) (rows:List (List D)) (h:∀ row∈rows,∀ d∈row,Free d):Free (.slice sz (List.map Q4x l++rows)):=Q0p Z9y l h
@[simp] theorem W59 (sz sz2:Nat) (l:List (List Grow)):Free (.slice sz (List.map (rL sz2 Q4x) l)):=Q0b sz sz2 Q4x (fun l=>X42 sz2 l) l
structure Q8g where
 name:ByteArray
 args:List Q6
 index:Int
 deriving Inhabited
def Q7d (x:Q8g):List D:=[(eS x.name),(.slice 2 (List.map W0 x.args)),(eI x.index)]
@[simp] theorem W6h (x:Q8g):Q7d x=[(eS x.name),(.slice 2 (List.map W0 x.args)),(eI x.index)]:=rfl
theorem Z1f (x:Q8g):∀ d∈Q7d x,Free d:=by simp
@[simp] theorem X1m (sz:Nat) (l:List Q8g):Free (.slice sz (List.map Q7d l)):=V3 (Q8 Z1f l)
@[simp] theorem W3u (sz:Nat) (l:List Q8g) (rows:List (List D)) (h:∀ row∈rows,∀ d∈row,Free d):Free (.slice sz (List.map Q7d l++rows)):=Q0p Z1f l h
@[simp] theorem W41 (sz sz2:Nat) (l:List (List Q8g)):Free (.slice sz (List.map (rL sz2 Q7d) l)):=Q0b sz sz2 Q7d (fun l=>X1m sz2 l) l
structure Q4 where
 name:ByteArray
 ctors:List Q8g
 deriving Inhabited
def W1 (x:Q4):List D:=[(eS x.name),(.slice 3 (List.map Q7d x.ctors))]
@[simp] theorem W6g (x:Q4):W1 x=[(eS x.name),(.slice 3 (List.map Q7d x.ctors))]:=rfl
theorem Z1e (x:Q4):∀ d∈W1 x,Free d:=by simp
@[simp] theorem X1l (sz:Nat) (l:List Q4):Free (.slice sz (List.map W1 l)):=V3 (Q8 Z1e l)
@[simp] theorem W3t (sz:Nat) (l:List Q4) (rows:List (List D)) (h:∀ row∈rows,∀ d∈row,Free d):Free (.slice sz (List.map W1 l++rows)):=Q0p Z1e l h
@[simp] theorem W40 (sz sz2:Nat) (l:List (List Q4)):Free (.slice sz (List.map (rL sz2 W1) l)):=Q0b sz sz2 W1 (fun l=>X1l sz2 l) l
structure Z1o where
 w:List Q4
 d:List Int
 deriving Inhabited
def Q84 (x:Z1o):List D:=[(.slice 2 (List.map W1 x.w)),(.cptr (List.map cI x.d))]
@[simp] theorem V57 (x:Z1o):Q84 x=[(.slice 2 (List.map W1 x.w)),(.cptr (List.map cI x.d))]:=rfl
theorem Z6d (x:Z1o):∀ d∈Q84 x,Free d:=by simp
@[simp] theorem Z7s (sz:Nat) (l:List Z1o):Free (.slice sz (List.map Q84 l)):=V3 (Q8 Z6d l)
@[simp] theorem X9c (sz:Nat) (l:List Z1o) (rows:List (List D)) (h:∀ row∈rows,∀ d∈row,Free d):Free (.slice sz (List.map Q84 l++rows)):=Q0p Z6d l h
@[simp] theorem X9g (sz sz2:Nat) (l:List (List Z1o)):Free (.slice sz (List.map (rL sz2 Q84) l)):=Q0b sz sz2 Q84 (fun l=>Z7s sz2 l) l
structure X3 where
 spaces:Z1o
 list:List Q3
 pick:Int
 count:Int
 deriving Inhabited
def J5 (x:X3):List D:=[(.cptr (Q84 x.spaces)),(.slice 9 (List.map X9 x.list)),(eI x.pick),(eI x.count)]
@[simp] theorem W91 (x:X3):J5 x=[(.cptr (Q84 x.spaces)),(.slice 9 (List.map X9 x.list)),(eI x.pick),(eI x.count)]:=rfl
theorem Z1c (x:X3):∀ d∈J5 x,Free d:=by simp
@[simp] theorem Z45 (sz:Nat) (l:List X3):Free (.slice sz (List.map J5 l)):=V3 (Q8 Z1c l)
@[simp] theorem X53 (sz:Nat) (l:List X3) (rows:List (List D)) (h:∀ row∈rows,∀ d∈row,Free d):Free (.slice sz (List.map J5 l++rows)):=Q0p Z1c l h
@[simp] theorem X54 (sz sz2:Nat) (l:List (List X3)):Free (.slice sz (List.map (rL sz2 J5) l)):=Q0b sz sz2 J5 (fun l=>Z45 sz2 l) l
structure Z5 where
 path:List Int
 t:Q6
 deriving Inhabited
def Q1i (x:Z5):List D:=[(.slice 1 (List.map rI x.path)),(eI x.t.data),(eI x.t.index)]
@[simp] theorem V58 (x:Z5):Q1i x=[(.slice 1 (List.map rI x.path)),(eI x.t.data),(eI x.t.index)]:=rfl
theorem Z6e (x:Z5):∀ d∈Q1i x,Free d:=by simp
@[simp] theorem Z7t (sz:Nat) (l:List Z5):Free (.slice sz (List.map Q1i l)):=V3 (Q8 Z6e l)
@[simp] theorem X9d (sz:Nat) (l:List Z5) (rows:List (List D)) (h:∀ row∈rows,∀ d∈row,Free d):Free (.slice sz (List.map Q1i l++rows)):=Q0p Z6e l h
@[simp] theorem X9h (sz sz2:Nat) (l:List (List Z5)):Free (.slice sz (List.map (rL sz2 Q1i) l)):=Q0b sz sz2 Q1i (fun l=>Z7t sz2 l) l
structure W9 where
 var:Int
 value:Q1
 deriving Inhabited
def Q5n (x:W9):List D:=[(eI x.var),(eI x.value.ctor),(eI x.value.n),(.slice 3 (List.map X2 x.value.kids))]
@[simp] theorem Y04 (x:W9):Q5n x=[(eI x.var),(eI x.value.ctor),(eI x.value.n),(.slice 3 (List.map X2 x.value.kids))]:=rfl
theorem Z1g (x:W9):∀ d∈Q5n x,Free d:=by simp
@[simp] theorem X1n (sz:Nat) (l:List W9):Free (.slice sz (List.map Q5n l)):=V3 (Q8 Z1g l)
@[simp] theorem W3v (sz:Nat) (l:List W9) (rows:List (List D)) (h:∀ row∈rows,∀ d∈row,Free d):Free (.slice sz (List.map Q5n l++rows)):=Q0p Z1g l h
@[simp] theorem W42 (sz sz2:Nat) (l:List (List W9)):Free (.slice sz (List.map (rL sz2 Q5n) l)):=Q0b sz sz2 Q5n (fun l=>X1n sz2 l) l
structure Z9 where
 b:List Int
 p:Int
 deriving Inhabited
def J3 (x:Z9):List D:=[(.slice 1 (List.map (rK .u8) x.b)),(eI x.p)]
@[simp] theorem V73 (x:Z9):J3 x=[(.slice 1 (List.map (rK .u8) x.b)),(eI x.p)]:=rfl
theorem X00 (x:Z9):∀ d∈J3 x,Free d:=by simp
@[simp] theorem Z9v (sz:Nat) (l:List Z9):Free (.slice sz (List.map J3 l)):=V3 (Q8 X00 l)
@[simp] theorem W1n (sz:Nat) (l:List Z9) (rows:List (List D)) (h:∀ row∈rows,∀ d∈row,Free d):Free (.slice sz (List.map J3 l++rows)):=Q0p X00 l h
@[simp] theorem W1r (sz sz2:Nat) (l:List (List Z9)):Free (.slice sz (List.map (rL sz2 J3) l)):=Q0b sz sz2 J3 (fun l=>Z9v sz2 l) l
structure J8 where
 path:List Int
 kind:Q6
 deriving Inhabited
def Q1s (x:J8):List D:=[(.slice 1 (List.map rI x.path)),(eI x.kind.data),(eI x.kind.index)]
@[simp] theorem V0q (x:J8):Q1s x=[(.slice 1 (List.map rI x.path)),(eI x.kind.data),(eI x.kind.index)]:=rfl
theorem Z2g (x:J8):∀ d∈Q1s x,Free d:=by simp
@[simp] theorem Z5a (sz:Nat) (l:List J8):Free (.slice sz (List.map Q1s l)):=V3 (Q8 Z2g l)
@[simp] theorem X6y (sz:Nat) (l:List J8) (rows:List (List D)) (h:∀ row∈rows,∀ d∈row,Free d):Free (.slice sz (List.map Q1s l++rows)):=Q0p Z2g l h
@[simp] theorem X70 (sz sz2:Nat) (l:List (List J8)):Free (.slice sz (List.map (rL sz2 Q1s) l)):=Q0b sz sz2 Q1s (fun l=>Z5a sz2 l) l
structure Y3 where
 clause:Int
 pats:List Q0
 binds:List Q2
 deriving Inhabited
def Q25 (x:Y3):List D:=[(eI x.clause),(.slice 6 (List.map Q9 x.pats)),(.slice 2 (List.map Z0 x.binds))]
@[simp] theorem V72 (x:Y3):Q25 x=[(eI x.clause),(.slice 6 (List.map Q9 x.pats)),(.slice 2 (List.map Z0 x.binds))]:=rfl
theorem Z9z (x:Y3):∀ d∈Q25 x,Free d:=by simp
@[simp] theorem Z9u (sz:Nat) (l:List Y3):Free (.slice sz (List.map Q25 l)):=V3 (Q8 Z9z l)
@[simp] theorem W1m (sz:Nat) (l:List Y3) (rows:List (List D)) (h:∀ row∈rows,∀ d∈row,Free d):Free (.slice sz (List.map Q25 l++rows)):=Q0p Z9z l h
@[simp] theorem W1q (sz sz2:Nat) (l:List (List Y3)):Free (.slice sz (List.map (rL sz2 Q25) l)):=Q0b sz sz2 Q25 (fun l=>Z9u sz2 l) l
structure Z2 where
 var:Int
 typ:Q6
 deriving Inhabited
def Y7 (x:Z2):List D:=[(eI x.var),(eI x.typ.data),(eI x.typ.index)]
@[simp] theorem V3s (x:Z2):Y7 x=[(eI x.var),(eI x.typ.data),(eI x.typ.index)]:=rfl
theorem Q6y (x:Z2):∀ d∈Y7 x,Free d:=by simp
@[simp] theorem Z6b (sz:Nat) (l:List Z2):Free (.slice sz (List.map Y7 l)):=V3 (Q8 Q6y l)
@[simp] theorem X83 (sz:Nat) (l:List Z2) (rows:List (List D)) (h:∀ row∈rows,∀ d∈row,Free d):Free (.slice sz (List.map Y7 l++rows)):=Q0p Q6y l h
@[simp] theorem X85 (sz sz2:Nat) (l:List (List Z2)):Free (.slice sz (List.map (rL sz2 Y7) l)):=Q0b sz sz2 Y7 (fun l=>Z6b sz2 l) l
end Go.Proofs.YtgjpamkllimhdaaGreat
