import Derived.KernelRfl
import Derived.Test.YtfhpjeogjcfkaaaGreatSJMir
set_option linter.unusedSimpArgs false
set_option linter.unusedVariables false
namespace Go.Proofs.YtfhpjeogjcfkaaaGreat
open Go Go.RowKit
def Ret {α:Type}(x:Option α)(Q:α→Prop):Prop:=∃ a,x=some a∧Q a
theorem Ret.some {α:Type}{a:α}{Q:α→Prop}(h:Q a):Ret (some a) Q:=⟨a,rfl,h⟩
theorem Ret.bind {α β:Type}{x:Option α}{f:α→Option β}{P:α→Prop}{Q:β→Prop}(hx:Ret x P)(hf:∀ a,P a→Ret (f a) Q):Ret (x.bind f) Q:=by
 obtain ⟨a,rfl,ha⟩:=hx
 exact hf a ha
theorem Ret.bindE {α β:Type}{x:Option α}{f:α→Option β}{a:α}{Q:β→Prop}(hx:x=Option.some a)(hf:Ret (f a) Q):Ret (x.bind f) Q:=by
 subst hx
 exact hf
theorem Ret.mono {α:Type}{x:Option α}{P Q:α→Prop}(h:∀ a,P a→Q a)(hx:Ret x P):Ret x Q:=by
 obtain ⟨a,e,ha⟩:=hx
 exact ⟨a,e,h a ha⟩
theorem Ret.ite {α:Type}{b:Bool}{x y:Option α}{Q:α→Prop}(h1:b=true→Ret x Q)(h2:b=false→Ret y Q):Ret (if b=true then x else y) Q:=by
 cases b
 ·exact h2 rfl
 ·exact h1 rfl
theorem Ret.of {α:Type}{x:Option α}{a:α}{Q:α→Prop}(h:x=Option.some a)(hq:Q a):Ret x Q:=⟨a,h,hq⟩
theorem Ret.get {α:Type}{x:Option α}{Q:α→Prop}{a:α}(h:Ret x Q)(e:x=Option.some a):Q a:=by
 obtain ⟨b,e2,hb⟩:=h
 rw [e] at e2
 cases e2
 exact hb
def CtlQ {ρ σ:Type}(R:ρ→Prop)(B:σ→Prop):Ctl ρ σ→Prop
 | .ret r=>R r
 | .brk s=>B s
 | .go _=>False
def RndQ {ρ σ:Type}(R:ρ→Prop)(B G:σ→Prop):Ctl ρ σ→Prop
 | .ret r=>R r
 | .brk s=>B s
 | .go s=>G s
@[simp] theorem X89 {ρ σ:Type} (R:ρ→Prop) (B G:σ→Prop) (r:ρ):RndQ R B G (.ret r)=R r:=rfl
@[simp] theorem Z67 {ρ σ:Type} (R:ρ→Prop) (B G:σ→Prop) (s:σ):RndQ R B G (.brk s)=B s:=rfl
@[simp] theorem Q2r {ρ σ:Type} (R:ρ→Prop) (B G:σ→Prop) (s:σ):RndQ R B G (.go s)=G s:=rfl
@[simp] theorem V9q {ρ σ:Type} (R:ρ→Prop) (B:σ→Prop) (r:ρ):CtlQ R B (.ret r)=R r:=rfl
@[simp] theorem Z01 {ρ σ:Type} (R:ρ→Prop) (B:σ→Prop) (s:σ):CtlQ R B (.brk s)=B s:=rfl
theorem Z1 {α σ ρ:Type}{f:Nat→α→σ→Option (Ctl ρ σ)}(xs:List α){s0:σ}(I:Nat→σ→Prop)(R:ρ→Prop)(B:σ→Prop)
  (h0:I 0 s0) (step:∀ k x s,xs[k]?=some x→I k s→Ret (f k x s) (RndQ R B (I (k+1)))) (stop:∀ s,I xs.length s→B s) :
  Ret (forL f 0 xs s0) (CtlQ R B):=by
 have key:∀ (ys:List α) (k:Nat) (s:σ),xs.drop k=ys→k≤xs.length→I k s→Ret (forL f k ys s) (CtlQ R B):=by
  intro ys
  induction ys with
  | nil=>
   intro k s hd hk hs
   have:k=xs.length:=by
    have:=congrArg List.length hd
    simp at this
    omega
   subst this
   exact .some (stop s hs)
  | cons y ys ih=>
   intro k s hd hk hs
   have hlt:k<xs.length:=by
    have:=congrArg List.length hd
    simp at this
    omega
   rw [List.drop_eq_getElem_cons hlt] at hd
   injection hd with h1 h2
   have hx:xs[k]?=some y:=by rw [U9 hlt,h1]
   obtain ⟨o,ho,hq⟩:=step k y s hx hs
   unfold forL
   rw [ho]
   cases o with
   | ret r=>exact .some hq
   | brk s'=>exact .some hq
   | go s'=>exact ih (k+1) s' h2 hlt hq
 exact key xs 0 s0 rfl (Nat.zero_le _) h0
theorem Q4f {σ ρ:Type}{f:σ→Option (Ctl ρ σ)}{s0:σ}(I:σ→Prop)(μ:σ→Nat)(R:ρ→Prop)(B:σ→Prop)(h0:I s0)
  (step:∀ s,I s→Ret (f s) (RndQ R B (fun s'=>I s'∧μ s'<μ s))):∀ n,μ s0<n→Ret (whileL f n s0) (CtlQ R B):=by
 have key:∀ n s,I s→μ s<n→Ret (whileL f n s) (CtlQ R B):=by
  intro n
  induction n with
  | zero=>intro s _ h;omega
  | succ n ih=>
   intro s hs hn
   obtain ⟨o,ho,hq⟩:=step s hs
   unfold whileL
   rw [ho]
   cases o with
   | ret r=>exact .some hq
   | brk s'=>exact .some hq
   | go s'=>exact ih s' hq.1 (by have:=hq.2;omega)
 exact fun n hn=>key n s0 h0 hn
theorem Ret.ctl {ρ σ τ:Type}{x:Option (Ctl ρ σ)}{g:Ctl ρ σ→Option τ}{R:ρ→Prop}{B:σ→Prop}{Q:τ→Prop}(h:Ret x (CtlQ R B))(hr:∀ r,R r→Ret (g (.ret r)) Q)(hb:∀ s,B s→Ret (g (.brk s)) Q):Ret (x.bind g) Q:=by
 obtain ⟨o,rfl,ho⟩:=h
 cases o with
 | ret r=>exact hr r ho
 | brk s=>exact hb s ho
 | go s=>exact ho.elim
theorem W5 {α:Type}{xs ys:List α}(h:xs.length+ys.length≤Q7):app xs ys=some (xs++ys):=by simp [app,h]
theorem Q1m {α:Type}{xs:List α}{i:Nat}{x:α}(h:xs[i]?=some x):idx xs (i:Int)=some x:=by simp [idx,h]
theorem W4e {α:Type}{xs:List α}{i:Int}{x:α}(h0:0≤i)(h:xs[i.toNat]?=some x):idx xs i=some x:=by simp [idx,h,h0]
theorem Q5h {α:Type}{xs:List α}{i:Int}(h0:0≤i)(h:i<xs.length):∃ x,idx xs i=some x∧x∈xs:=by
 have hl:i.toNat<xs.length:=by omega
 exact ⟨xs[i.toNat],by simp [idx,h0,hl],List.getElem_mem hl⟩
theorem X0h {b:Bool}(h:b=true):chk b=some ():=by simp [chk,h]
theorem X2 {a b:Int} : (ieq a b=true)=(a=b):=by simp [ieq]
theorem X0 {a b:Int} : (ieq a b=false)=(a≠b):=by simp [ieq]
theorem Z9 {a b:Int} : (ilt a b=true)=(a<b):=by simp [ilt]
theorem J0 {a b:Int} : (ilt a b=false)=(b≤a):=by simp [ilt]
theorem J1 {a b:Int} : (ile a b=true)=(a≤b):=by simp [ile]
theorem Q1z {a b:Int} : (ile a b=false)=(b<a):=by simp [ile]
theorem Q10 {a b:Int}(h1 : -9223372036854775808≤a+b)(h2:a+b≤9223372036854775807):wadd .i64 a b=a+b:=by unfold wadd;exact Z6j h1 h2
theorem Q3z {a b:Int}(h1 : -9223372036854775808≤a-b)(h2:a-b≤9223372036854775807):wsub .i64 a b=a-b:=by unfold wsub;exact Z6j h1 h2
theorem Z23 {a b:Int}(h1 : -9223372036854775808≤a * b)(h2:a * b≤9223372036854775807):wmul .i64 a b=a * b:=by unfold wmul;exact Z6j h1 h2
theorem W2h {a:Int}(h1 : -9223372036854775808≤a)(h2:a≤9223372036854775807):wcv .i64 a=a:=by unfold wcv;exact Z6j h1 h2
theorem W2f {a b:Int}(h1 : -9223372036854775808≤a.tdiv b)(h2:a.tdiv b≤9223372036854775807):wquo .i64 a b=a.tdiv b:=by unfold wquo;exact Z6j h1 h2
theorem Q0e (n:Nat):lenZ n=(n:Int):=rfl
abbrev NN:Nat:=30000000
instance:DecidableEq Q1:=fun a b=>decidable_of_iff (a.data=b.data∧a.index=b.index) ⟨fun h=>by cases a;cases b;simp at h;simp [h],fun h=>by subst h;simp⟩
def by_ (l:List Nat):ByteArray:=⟨(l.map UInt8.ofNat).toArray⟩
def tI:Q1:=⟨-1,0⟩
def tD (d i:Int):Q1:=⟨d,i⟩
def w0:List Q4:=[⟨by_ [76],[⟨by_ [78,105,108],[],0⟩,⟨by_ [67,111,110,115],[tI,tD 0 0],0⟩]⟩]
def w1:List Q4:=[⟨by_ [66],[⟨by_ [84,114,117],[],0⟩,⟨by_ [70,108,115],[],0⟩]⟩,⟨by_ [84],[⟨by_ [76,101,97,102],[],0⟩,⟨by_ [78,111,100,101],[tD 1 0,tD 0 0,tD 1 0],0⟩]⟩]
def w2:List Q4:=[⟨by_ [69],[⟨by_ [78,117,109],[tI],1⟩,⟨by_ [66,111,108],[tD 1 0],2⟩,⟨by_ [65,100,100],[tD 0 1,tD 0 1],1⟩,⟨by_ [73,102],[tD 0 2,tD 0 (-1),tD 0 (-1)],0⟩]⟩,⟨by_ [66],[⟨by_ [84,114,117],[],0⟩,⟨by_ [70,108,115],[],0⟩]⟩]
def w3:List Q4:=[⟨by_ [79],[⟨by_ [78,111,110],[],0⟩,⟨by_ [83,111,109],[tI],0⟩]⟩,⟨by_ [80],[⟨by_ [80,97,105,114],[tD 0 0,tD 0 0],0⟩]⟩]
def w4:List Q4:=[⟨by_ [86],[⟨by_ [69,110,100],[],1⟩,⟨by_ [83,111,109,101],[tI,tD 0 1],2⟩,⟨by_ [84,119,111],[tD 0 (-1)],0⟩]⟩]
def w5:List Q4:=[⟨by_ [78],[⟨by_ [78,101,118,101,114],[tD 0 0],0⟩]⟩,⟨by_ [66],[⟨by_ [84,114,117],[],0⟩,⟨by_ [70,108,115],[],0⟩,⟨by_ [77,97,121],[tD 0 0],0⟩]⟩]
def w6:List Q4:=[⟨by_ [83],[⟨by_ [82,101,100],[],0⟩,⟨by_ [71,114,101,101,110],[],0⟩,⟨by_ [66,108,117,101],[],0⟩,⟨by_ [77,105,120],[tD 0 0,tD 0 0],0⟩]⟩]
def Q0a:List (List Q4):=[w0,w1,w2,w3,w4,w5,w6]
def X1o (i:Nat):Option (List Q4×Bool):=Q51.bind fun r=>(idx r (i:Int)).bind fun x=>Q5q NN x
theorem V8e:X1o 0=some (w0,true):=by kernel_rfl
theorem V8d:X1o 1=some (w1,true):=by kernel_rfl
theorem V8c:X1o 2=some (w2,true):=by kernel_rfl
theorem V8b:X1o 3=some (w3,true):=by kernel_rfl
theorem V8a:X1o 4=some (w4,true):=by kernel_rfl
theorem V89:X1o 5=some (w5,true):=by kernel_rfl
theorem V88:X1o 6=some (w6,true):=by kernel_rfl
theorem W9j {i:Nat}(h:i<7):∃ w,X1o i=some (w,true)∧w∈Q0a:=by
 match i,h with
 | 0,_=>exact ⟨_,V8e,by simp [Q0a]⟩
 | 1,_=>exact ⟨_,V8d,by simp [Q0a]⟩
 | 2,_=>exact ⟨_,V8c,by simp [Q0a]⟩
 | 3,_=>exact ⟨_,V8b,by simp [Q0a]⟩
 | 4,_=>exact ⟨_,V8a,by simp [Q0a]⟩
 | 5,_=>exact ⟨_,V89,by simp [Q0a]⟩
 | 6,_=>exact ⟨_,V88,by simp [Q0a]⟩
def tys (w:List Q4):List Q1:=tI::(List.range w.length).flatMap fun (d:Nat)=>(List.range 4).map fun (i:Nat)=>tD d i
def X1 (w:List Q4)(t:Q1):List Int:=(Q08 w t).getD []
def Z6 (w:List Q4)(t:Q1)(k:Int):List Q1:=(J4 w t k).getD []
def tabP (w:List Q4):List Int:=(Q12 NN w).getD []
def depP (w:List Q4)(t:Q1):Int:=(Q07 (tabP w) t).getD 0
def Q5z (w:List Q4)(t:Q1)(k:Int):Int:=(Q3g w (tabP w) t k).getD 0
def chkT (w:List Q4)(t:Q1):Bool:=
 decide (Q08 w t=some (X1 w t))&&decide (Q0n w t=some (X1 w t)) &&
 (X1 w t).all (fun k=>decide (J4 w t k=some (Z6 w t k))&&decide (Y9 w t k=some (Z6 w t k))&&(Z6 w t k).all (fun a=>decide (a∈tys w))&&decide ((Z6 w t k).length≤3) &&
  decide (Q3g w (tabP w) t k=some (Q5z w t k))&&decide (0≤Q5z w t k)&&(decide (Q5z w t k=0)||(Z6 w t k).all (fun a=>decide (1≤depP w a)&&decide (depP w a<Q5z w t k)))) &&
 decide (Q6q w t=some true)&&decide (Q87 w t=some true)&&decide (Q07 (tabP w) t=some (depP w t))&&decide (0≤depP w t)&&decide (depP w t≤4)&&decide ((X1 w t).length≤4) &&
 (decide (t.data = -1)||decide (depP w t=0)||(X1 w t).any (fun k=>decide (Q5z w t k=depP w t)))&&(decide (t.data≠-1)||(decide (t=tI)&&decide (depP w t=1)))
def chkW (w:List Q4):Bool:=
 (tys w).all (chkT w)&&decide (Q12 NN w=some (tabP w))&&decide (Q47 NN w=some true)&&decide (Q2o NN w=some true)&&decide (0<w.length)&&decide (w.length≤2)
theorem W5m:Q0a.all chkW=true:=by kernel_rfl
structure WT (w:List Q4) (t:Q1):Prop where
 c1:Q08 w t=some (X1 w t)
 c2:Q0n w t=some (X1 w t)
 a1:∀ k∈X1 w t,J4 w t k=some (Z6 w t k)
 a2:∀ k∈X1 w t,Y9 w t k=some (Z6 w t k)
 at_:∀ k∈X1 w t,∀ a∈Z6 w t k,a∈tys w
 al:∀ k∈X1 w t,(Z6 w t k).length≤3
 m1:∀ k∈X1 w t,Q3g w (tabP w) t k=some (Q5z w t k)
 m0:∀ k∈X1 w t,0≤Q5z w t k
 ma:∀ k∈X1 w t,Q5z w t k≠0→∀ a∈Z6 w t k,1≤depP w a∧depP w a<Q5z w t k
 t1:Q6q w t=some true
 t2:Q87 w t=some true
 d1:Q07 (tabP w) t=some (depP w t)
 d0:0≤depP w t
 d4:depP w t≤4
 cl:(X1 w t).length≤4
 dm:t.data≠-1→depP w t≠0→∃ k∈X1 w t,Q5z w t k=depP w t
 ti:t.data = -1→t=tI∧depP w t=1
structure WW (w:List Q4):Prop where
 ty:∀ t∈tys w,WT w t
 tab:Q12 NN w=some (tabP w)
 v1:Q47 NN w=some true
 v2:Q2o NN w=some true
 pos:0<w.length
 le:w.length≤2
theorem V39 {w:List Q4}{t:Q1}(h:chkT w t=true):WT w t:=by
 simp only [chkT,Bool.and_eq_true,Bool.or_eq_true,decide_eq_true_eq,List.all_eq_true,List.any_eq_true] at h
 obtain ⟨⟨⟨⟨⟨⟨⟨⟨⟨⟨h1,h2⟩,h3⟩,h4⟩,h5⟩,h6⟩,h7⟩,h8⟩,h9⟩,h10⟩,h11⟩:=h
 have hk:∀ k∈X1 w t,_:=h3
 refine ⟨h1,h2,fun k hk=>(h3 k hk).1.1.1.1.1.1,fun k hk=>(h3 k hk).1.1.1.1.1.2,fun k hk=>(h3 k hk).1.1.1.1.2,fun k hk=>(h3 k hk).1.1.1.2,fun k hk=>(h3 k hk).1.1.2,fun k hk=>(h3 k hk).1.2,fun k hk hm a ha=>?_,h4,h5,h6,h7,h8,h9,fun hd h0=>?_,fun hd=>?_⟩
 ·rcases (h3 k hk).2 with h | h
  ·exact absurd h hm
  ·exact h a ha
 ·rcases h10 with (h | h) | h
  ·exact absurd h hd
  ·exact absurd h h0
  ·exact h
 ·rcases h11 with h | h
  ·exact absurd hd h
  ·exact h
theorem ww {w:List Q4}(h:w∈Q0a):WW w:=by
 have h:=List.all_eq_true.1 W5m w h
 simp only [chkW,Bool.and_eq_true,decide_eq_true_eq,List.all_eq_true] at h
 obtain ⟨⟨⟨⟨⟨h1,h2⟩,h3⟩,h4⟩,h5⟩,h6⟩:=h
 exact ⟨fun t ht=>V39 (h1 t ht),h2,h3,h4,h5,h6⟩
instance:DecidableEq Q9:=fun a b=>decidable_of_iff (a.var=b.var∧a.typ=b.typ) ⟨fun h=>by cases a;cases b;simp at h;simp [h],fun h=>by subst h;simp⟩
theorem V14 (l:List Int)(x:Int):Q59 l x=some (decide (x∈l)):=by
 have h:Ret (Q59 l x) (fun b=>b=decide (x∈l)):=by
  unfold Q59
  refine Ret.ctl (Z1 l (fun k _=>∀ j,j<k→l[j]?≠some x) (fun r=>r=true∧x∈l) (fun _=>x∉l) (fun j hj=>by omega) (fun k y s hy hI=>?_) (fun s hI=>?_)) (fun r hr=>?_) (fun s hs=>?_)
  ·refine Ret.ite (fun h=>?_) (fun h=>?_)
   ·rw [X2] at h
    exact .some ⟨rfl,h▸U1 hy⟩
   ·rw [X0] at h
    refine .some (fun j hj=>?_)
    by_cases hjk:j=k
    ·subst hjk
     rw [hy]
     simpa using h
    ·exact hI j (by omega)
  ·intro hm
   obtain ⟨j,hj⟩:=List.mem_iff_getElem?.1 hm
   exact hI j ((List.getElem?_eq_some_iff.1 hj).1) hj
  ·obtain ⟨rfl,hx⟩:=hr
   exact .some (by simp [hx])
  ·exact .some (by simp [hs])
 obtain ⟨b,hb,rfl⟩:=h
 exact hb
theorem Z15 (l:List Int)(x:Int):J6 l x=some (decide (x∈l)):=by
 have h:Ret (J6 l x) (fun b=>b=decide (x∈l)):=by
  unfold J6
  refine Ret.bind (P:=fun r=>(0≤r∧x∈l)∨(r = -1∧x∉l)) ?_ (fun a ha=>?_)
  ·unfold Q55
   refine Ret.ctl (Z1 l (fun k _=>∀ j,j<k→l[j]?≠some x) (fun r=>0≤r∧x∈l) (fun _=>x∉l) (fun j hj=>by omega) (fun k y s hy hI=>?_) (fun s hI=>?_)) (fun r hr=>?_) (fun s hs=>?_)
   ·refine Ret.ite (fun h=>?_) (fun h=>?_)
    ·rw [X2] at h
     exact .some ⟨by omega,h▸U1 hy⟩
    ·rw [X0] at h
     refine .some (fun j hj=>?_)
     by_cases hjk:j=k
     ·subst hjk
      rw [hy]
      simpa using fun e=>h e.symm
     ·exact hI j (by omega)
   ·intro hm
    obtain ⟨j,hj⟩:=List.mem_iff_getElem?.1 hm
    exact hI j ((List.getElem?_eq_some_iff.1 hj).1) hj
   ·exact .some (.inl hr)
   ·exact .some (.inr ⟨rfl,hs⟩)
  ·rcases ha with ⟨h1,h2⟩ | ⟨rfl,h2⟩
   ·exact .some (by simp [ile,h1,h2])
   ·exact .some (by simp [ile,h2])
 obtain ⟨b,hb,rfl⟩:=h
 exact hb
theorem Q7t {α:Type}(l:List α)(f:α→Option Bool)(g:α→Bool)(hf:∀ x∈l,f x=some (g x)) :
  Ret ((forL (fun (k:Nat) (x:α) (s:Unit)=>((f x).bind fun r=>(if r=true then some (Ctl.ret (k:Int)) else some (Ctl.go ())))) 0 l ()).bind fun (o:Ctl Int Unit)=>match o with
   | .ret r=>some r
   | .go _=>none
   | .brk _=>some (-1)) (fun i=>(∃ k x,i=((k:Nat):Int)∧l[k]?=some x∧g x=true)∨(i = -1∧∀ x∈l,g x=false)):=by
 refine Ret.ctl (Z1 l (fun k _=>∀ j x,j<k→l[j]?=some x→g x=false) (fun i=>∃ k x,i=((k:Nat):Int)∧l[k]?=some x∧g x=true) (fun _=>∀ x∈l,g x=false) (fun j x hj=>by omega) (fun k y s hy hI=>?_) (fun s hI=>?_)) (fun r hr=>?_) (fun s hs=>?_)
 ·rw [hf y (U1 hy)]
  show Ret (if g y=true then _ else _) _
  refine Ret.ite (fun h=>?_) (fun h=>?_)
  ·exact .some ⟨k,y,rfl,hy,h⟩
  ·refine .some (fun j x hj hx=>?_)
   by_cases hjk:j=k
   ·subst hjk
    rw [hy] at hx
    cases hx
    exact h
   ·exact hI j x (by omega) hx
 ·intro x hm
  obtain ⟨j,hj⟩:=List.mem_iff_getElem?.1 hm
  exact hI j x ((List.getElem?_eq_some_iff.1 hj).1) hj
 ·exact .some (.inl hr)
 ·exact .some (.inr ⟨rfl,hs⟩)
theorem X55 {α:Type}{l:List α}{g:α→Bool}{x:Option Int}(h:Ret x (fun i=>(∃ k x,i=((k:Nat):Int)∧l[k]?=some x∧g x=true)∨(i = -1∧∀ x∈l,g x=false))):(x.bind fun r=>some (ile 0 r))=some (l.any g):=by
 obtain ⟨i,rfl,h⟩:=h
 rcases h with ⟨k,x,rfl,h2,h3⟩ | ⟨rfl,h2⟩
 ·have:l.any g=true:=List.any_eq_true.2 ⟨x,U1 h2,h3⟩
  rw [this]
  simp [ile]
 ·have:l.any g=false:=by simpa using h2
  rw [this]
  simp [ile]
theorem Z63 (l:List Q5)(f:Q5→Option Bool)(g:Q5→Bool)(hf:∀ x∈l,f x=some (g x)):Q1i l f=some (l.any g):=X55 (Q7t l f g hf)
theorem Z4u (l:List Q9)(f:Q9→Option Bool)(g:Q9→Bool)(hf:∀ x∈l,f x=some (g x)):Q16 l f=some (l.any g):=X55 (Q7t l f g hf)
theorem W9i (a b:Q9):Q7j [ieq a.var b.var,ieq a.typ.data b.typ.data,ieq a.typ.index b.typ.index]=decide (a=b):=by
 obtain ⟨v,d,i⟩:=a
 obtain ⟨v',d',i'⟩:=b
 simp [Q7j,ieq]
theorem Z8l (l:List Q9)(x:Q9):Q09 l x=some (decide (x∈l)):=by
 have:=X55 (Q7t l (fun y=>some (decide (x=y))) (fun y=>decide (x=y)) (fun _ _=>rfl))
 have e:l.any (fun y=>decide (x=y))=decide (x∈l):=by
  rw [Bool.eq_iff_iff]
  simp
 rw [e] at this
 unfold Q09 Q31
 simp only [W9i]
 exact this
theorem X5z (a b:List Q9):Q5c a b=some (decide (a.length=b.length)&&a.all fun v=>decide (v∈b)):=by
 unfold Q5c
 by_cases h:a.length=b.length
 ·have h1:ieq (lenZ a.length) (lenZ b.length)=true:=by rw [X2];simp [lenZ,h]
  rw [if_pos h1,Z4u a _ (fun v=>!decide (v∈b)) (fun x _=>by unfold Q5r;rw [Z8l];rfl)]
  simp only [U0,h,decide_true,Bool.true_and,Option.some.injEq]
  rw [Bool.eq_iff_iff]
  simp
 ·have h1:¬ieq (lenZ a.length) (lenZ b.length)=true:=by rw [X2];simp only [lenZ];omega
  rw [if_neg h1]
  simp [h]
def Q9j (w:List Q4)(t:Q1)(p:Q0):Bool:=
 (if p.op=2∨p.op=6 then decide (0≤p.var)&&decide (p.var≤5) else decide (p.var=0))&&(decide (p.op=3)||(decide (p.n=0)&&decide (p.m=0)))&&(decide (p.op=4)||decide (p.ctor=0)) &&
 (decide (p.op=1∨p.op=2∨p.op=5∨p.op=6)||(decide (p.op=3)&&decide (t.data = -1)&&decide (0≤p.n)&&decide (p.n≤p.m)&&decide (p.m≤9))||(decide (p.op=4)&&decide (p.ctor∈X1 w t)))
def Y2 (w:List Q4)(t:Q1)(p:Q0):List Q1:=if p.op=4 then Z6 w t p.ctor else if p.op=5 then [t,t] else if p.op=6 then [t] else []
def Q7a (w:List Q4)(t:Q1)(p:Q0):Bool:=Q9j w t p&&decide (p.kids.length=(Y2 w t p).length)
theorem Q77 (a b c:Int):V2 a b c=some (decide (b≤a)&&decide (a≤c)):=by
 unfold V2
 by_cases h:b≤a<;>simp [ile,h]
theorem V7c {w:List Q4}{t:Q1}(hw:WT w t)(p:Q0):Q7b w t p=some (Q9j w t p):=by
 obtain ⟨op,ctor,n,m,v,kids⟩:=p
 unfold Q7b Q9j
 simp only [hw.c1,U0,V14]
 by_cases h1:op=1
 ·subst h1;simp [ieq,ilt,ile];(repeat' split)<;>simp_all
 by_cases h2:op=2
 ·subst h2;simp [ieq,ilt,ile];(repeat' split)<;>simp_all<;>omega
 by_cases h3:op=3
 ·subst h3;simp [ieq,ilt,ile];(repeat' split)<;>simp_all<;>(intros;omega)
 by_cases h4:op=4
 ·subst h4;simp [ieq,ilt,ile];(repeat' split)<;>simp_all
 by_cases h5:op=5
 ·subst h5;simp [ieq,ilt,ile];(repeat' split)<;>simp_all
 by_cases h6:op=6
 ·subst h6;simp [ieq,ilt,ile];(repeat' split)<;>simp_all<;>omega
 simp [ieq,ilt,ile,h1,h2,h3,h4,h5,h6];(repeat' split)<;>simp_all
theorem V26 (p:Q0)(a b c:Bool)(k:Int):Q3v p a b c k=some ((a||decide (p.ctor=0))&&(b||(decide (p.n=0)&&decide (p.m=0)))&&(c||decide (p.var=0))&&decide ((p.kids.length:Int)=k)):=by
 unfold Q3v
 by_cases h1:p.ctor=0<;>by_cases h2:p.n=0<;>by_cases h3:p.m=0<;>by_cases h4:p.var=0<;>cases a<;>cases b<;>cases c<;>simp [ieq,lenZ,h1,h2,h3,h4]<;>exact decide_eq_decide.2 Iff.rfl
theorem W82 (v:Int):Q6d v=some (decide (0≤v)&&decide (v≤5)):=by
 unfold Q6d
 rw [Q77]
 rfl
theorem X83 {w:List Q4}{t:Q1}(hw:WT w t)(p:Q0):∃ ts,Q6c w t p=some (ts,Q7a w t p)∧(Q7a w t p=true→ts=Y2 w t p):=by
 obtain ⟨op,ctor,n,m,v,kids⟩:=p
 unfold Q6c Q7a Q9j Y2
 simp only [hw.c2,U0,Z15,V26,W82]
 by_cases h1:op=1
 ·subst h1;exact ⟨[],by simp [ieq];rw [Bool.eq_iff_iff];simp;grind,by simp⟩
 by_cases h2:op=2
 ·subst h2;exact ⟨[],by simp [ieq];split<;>simp<;>grind,by simp⟩
 by_cases h3:op=3
 ·subst h3;exact ⟨[],by simp [ieq,ile];(repeat' split)<;>simp<;>grind,by simp⟩
 by_cases h4:op=4
 ·subst h4
  by_cases hc:ctor∈X1 w t
  ·refine ⟨Z6 w t ctor,?_,by simp⟩
   simp [ieq,hc,hw.a2 ctor hc,lenZ]
   grind
  ·exact ⟨[],by simp [ieq,hc],by simp [hc]⟩
 by_cases h5:op=5
 ·subst h5;exact ⟨[t,t],by simp [ieq];grind,by simp⟩
 by_cases h6:op=6
 ·subst h6;exact ⟨[t],by simp [ieq];split<;>simp<;>grind,by simp⟩
 exact ⟨[],by simp [ieq,h1,h2,h3,h4,h5,h6],by simp [h1,h2,h3,h4,h5,h6]⟩
theorem X6b (op:Int):Q6l op=some (if op=5 then 2 else if op=6 then 1 else if op=4 then -1 else 0):=by
 unfold Q6l
 by_cases h1:op=5<;>by_cases h2:op=6<;>by_cases h3:op=4<;>simp [ieq,h1,h2,h3]
theorem Z2p {w:List Q4}{t:Q1}(hw:WT w t)(p:Q0)(h:p.op=4→p.ctor∈X1 w t){n:Nat}(hn:4≤n):Q2l n w t p=some (Y2 w t p):=by
 obtain ⟨m,rfl⟩:∃ m,n=m+4:=⟨n-4,by omega⟩
 unfold Q2l Y2
 by_cases h4:p.op=4
 ·simp [ieq,h4,hw.a1 p.ctor (h h4)]
 ·have w1:wadd .i64 0 1=1:=rfl
  have w2:wadd .i64 1 1=2:=rfl
  by_cases h5:p.op=5
  ·simp [ieq,h5,whileL,X6b,ilt,app,w1,w2,Q7]
  ·by_cases h6:p.op=6
   ·simp [ieq,h6,whileL,X6b,ilt,app,w1,w2,Q7]
   ·simp [ieq,h4,h5,h6,whileL,X6b,ilt]
def Q18 (w:List Q4):Nat→Q1→Q0→Bool
 | 0,_,_=>false
 | d+1,t,p=>Q7a w t p&&((Y2 w t p).zip p.kids).all fun x=>Q18 w d x.1 x.2
def ownV (t:Q1)(p:Q0):List Q9:=if p.op=2∨p.op=6 then [⟨p.var,t⟩] else []
def Q3a (w:List Q4):Nat→Q1→Q0→List Q9
 | 0,_,_=>[]
 | d+1,t,p=>ownV t p++(((Y2 w t p).zip p.kids).take (if p.op=5 then 1 else p.kids.length)).flatMap fun x=>Q3a w d x.1 x.2
def Q27 (l:List Q9):Bool:=decide (l.map (·.var)).Nodup
def Q96 (a b:List Q9):Bool:=decide (a.length=b.length)&&a.all fun v=>decide (v∈b)
def kv (w:List Q4)(d:Nat)(t:Q1)(p:Q0)(i:Nat):List Q9:=((Y2 w t p).zip p.kids)[i]?.elim [] fun x=>Q3a w d x.1 x.2
def linD (w:List Q4):Nat→Q1→Q0→Bool
 | 0,_,_=>true
 | d+1,t,p=>(((Y2 w t p).zip p.kids).all fun x=>linD w d x.1 x.2)&&if p.op=5 then Q96 (kv w d t p 0) (kv w d t p 1) else Q27 (Q3a w (d+1) t p)
theorem Q4a {w:List Q4}{d:Nat}{t:Q1}{p:Q0}(h:Q18 w d t p=true):Q7a w t p=true:=by
 cases d with
 | zero=>cases h
 | succ d=>simp only [Q18,Bool.and_eq_true] at h;exact h.1
theorem Q54 {w:List Q4}{t:Q1}{p:Q0}(h:Q7a w t p=true):Q9j w t p=true∧p.kids.length=(Y2 w t p).length:=by
 simp only [Q7a,Bool.and_eq_true,decide_eq_true_eq] at h
 exact h
theorem Q9i {w:List Q4}{t:Q1}{p:Q0}(h:Q9j w t p=true):p.op=4→p.ctor∈X1 w t:=fun h4=>by
 simp [Q9j,h4] at h
 exact h.2
theorem Q7c {w:List Q4}{t:Q1}(hw:WT w t)(ht:t∈tys w){p:Q0}(h:Q9j w t p=true):∀ a∈Y2 w t p,a∈tys w:=fun a ha=>by
 unfold Y2 at ha
 split at ha
 ·rename_i h4;exact hw.at_ _ (Q9i h h4) a ha
 ·split at ha
  ·simp at ha;rw [ha];exact ht
  ·split at ha
   ·simp at ha;rw [ha];exact ht
   ·simp at ha
theorem W49 {w:List Q4}{t:Q1}(hw:WT w t){p:Q0}(h:Q9j w t p=true):(Y2 w t p).length≤3:=by
 unfold Y2
 split
 ·rename_i h4;exact hw.al _ (Q9i h h4)
 ·split
  ·simp
  ·split<;>simp
theorem Q9b {α β:Type}{l:List α}{m:List β}{k:Nat}{a:α}{b:β}(h1:l[k]?=some a)(h2:m[k]?=some b):(l.zip m)[k]?=some (a,b):=by
 rw [List.getElem?_zip_eq_some];exact ⟨h1,h2⟩
theorem Q26 {w:List Q4}{d:Nat}{t:Q1}{p:Q0}(h:Q18 w (d+1) t p=true){k:Nat}{a:Q1}{q:Q0}(h1:(Y2 w t p)[k]?=some a)(h2:p.kids[k]?=some q):Q18 w d a q=true:=by
 simp only [Q18,Bool.and_eq_true,List.all_eq_true] at h
 exact h.2 (a,q) (U1 (Q9b h1 h2))
theorem X2t {w:List Q4}(hw:WW w):∀ (d n:Nat) (t:Q1) (p:Q0),t∈tys w→d+4≤n→d≤100→Q2m n w t p (d:Int)=some (Q18 w d t p):=by
 intro d
 induction d with
 | zero=>
  intro n t p ht hn hd
  obtain ⟨m,rfl⟩:∃ m,n=m+1:=⟨n-1,by omega⟩
  simp [Q2m,ilt,Q18]
 | succ d ih=>
  intro n t p ht hn hd
  obtain ⟨m,rfl⟩:∃ m,n=m+1:=⟨n-1,by omega⟩
  have hT:=hw.ty t ht
  unfold Q2m Q18
  have h1:¬ilt ((d+1:Nat):Int) 1=true:=by rw [Z9];omega
  rw [if_neg h1,V7c hT]
  simp only [U0]
  cases ho:Q9j w t p with
  | false=>simp [Q7a,ho]
  | true=>
   simp only [Bool.not_true,U2,if_false]
   rw [Z2p hT p (Q9i ho) (by omega)]
   simp only [U0]
   by_cases hl:p.kids.length=(Y2 w t p).length
   ·have h2:¬(!ieq (lenZ p.kids.length) (lenZ (Y2 w t p).length))=true:=by simp [ieq,lenZ,hl]
    rw [if_neg h2]
    have hnode:Q7a w t p=true:=by simp [Q7a,ho,hl]
    rw [hnode,Bool.true_and]
    have hws:wsub .i64 ((d+1:Nat):Int) 1=(d:Int):=by
     rw [Q3z (by omega) (by omega)];omega
    have key:Ret ((forL (fun k102 x103 (s96:Unit)=>
      ((idx p.kids (k102:Int)).bind fun x111=>
      ((Q2m m w x103 x111 (wsub .i64 ((d+1:Nat):Int) 1)).bind fun r112=>
      (if (!r112)=true then
      some (Ctl.ret (false))
      else
      some (Ctl.go ()))))) 0 (Y2 w t p) ())) (CtlQ (fun b=>b=false∧(((Y2 w t p).zip p.kids).all fun x=>Q18 w d x.1 x.2)=false) (fun _=>(((Y2 w t p).zip p.kids).all fun x=>Q18 w d x.1 x.2)=true)):=by
     refine Z1 (Y2 w t p) (fun k _=>∀ j a q,j<k→(Y2 w t p)[j]?=some a→p.kids[j]?=some q→Q18 w d a q=true) _ _ (fun j a q hj=>by omega) (fun k a s ha hI=>?_) (fun s hI=>?_)
     ·have hlt:k<p.kids.length:=by have:=(List.getElem?_eq_some_iff.1 ha).1;omega
      have hq:p.kids[k]?=some p.kids[k]:=by simp [hlt]
      rw [Q1m hq]
      simp only [U0]
      rw [hws,ih m a p.kids[k] (Q7c hT ht ho a (U1 ha)) (by omega) (by omega)]
      simp only [U0]
      cases hg:Q18 w d a p.kids[k] with
      | false=>
       refine .some ⟨rfl,?_⟩
       rw [List.all_eq_false]
       exact ⟨(a,p.kids[k]),U1 (Q9b ha hq),by simp [hg]⟩
      | true=>
       refine .some (fun j a' q' hj ha' hq'=>?_)
       by_cases hjk:j=k
       ·subst hjk
        rw [ha] at ha'
        rw [hq] at hq'
        cases ha'
        cases hq'
        exact hg
       ·exact hI j a' q' (by omega) ha' hq'
     ·rw [List.all_eq_true]
      intro x hx
      obtain ⟨j,hj⟩:=List.mem_iff_getElem?.1 hx
      obtain ⟨h3,h4⟩:=List.getElem?_zip_eq_some.1 hj
      exact hI j x.1 x.2 ((List.getElem?_eq_some_iff.1 h3).1) h3 h4
    have:=Ret.ctl (Q:=fun b=>b=(((Y2 w t p).zip p.kids).all fun x=>Q18 w d x.1 x.2)) key (g:=fun (o95:Ctl Bool Unit)=>match o95 with
     | .ret r=>some r
     | .go _=>none
     | .brk s106=>some (true)) (fun r hr=>.some (by rw [hr.1,hr.2])) (fun s hs=>.some (by rw [hs]))
    obtain ⟨b,e,rfl⟩:=this
    exact e
   ·have h2:(!ieq (lenZ p.kids.length) (lenZ (Y2 w t p).length))=true:=by rw [Bool.not_eq_true',X0];simp only [lenZ];omega
    rw [if_pos h2]
    simp [Q7a,hl]
def cntP:Q0→Nat
 | ⟨_,_,_,_,_,kids⟩=>1+cntPs kids
where cntPs:List Q0→Nat
 | []=>0
 | p::l=>cntP p+cntPs l
theorem Q36 (p:Q0):cntP p=1+cntP.cntPs p.kids:=by cases p;rw [cntP]
theorem Q5u:∀ (l:List Q0) (k:Nat) (q:Q0),l[k]?=some q→cntP.cntPs (l.take (k+1))=cntP.cntPs (l.take k)+cntP q
 | [],k,q,h=>by simp at h
 | p::l,0,q,h=>by simp at h;subst h;simp [cntP.cntPs]
 | p::l,k+1,q,h=>by
  have:=Q5u l k q (by simpa using h)
  simp only [List.take_succ_cons,cntP.cntPs]
  omega
theorem Q28:∀ (l:List Q0) (k:Nat),cntP.cntPs (l.take k)≤cntP.cntPs l
 | [],k=>by simp
 | p::l,0=>by simp [cntP.cntPs]
 | p::l,k+1=>by
  have:=Q28 l k
  simp only [List.take_succ_cons,cntP.cntPs]
  omega
theorem Q7m (p:Q0):1≤cntP p:=by rw [Q36];omega
theorem X2y:∀ (n:Nat) (p:Q0) (most:Nat),most<n→most≤1000→Q3r n p (most:Int)=some ((min (cntP p) (most+1):Nat):Int):=by
 intro n
 induction n with
 | zero=>intro p most h;omega
 | succ n ih=>
  intro p most hn hm
  unfold Q3r
  have key:=Z1 (ρ:=Int) (f:=fun k94 x95 (s88:Int)=>
   (if (ile s88 (most:Int))=true then
   ((Q3r n x95 (wsub .i64 (most:Int) s88)).bind fun r103=>
   some (Ctl.go (wadd .i64 s88 r103)))
   else
   some (Ctl.brk s88))) p.kids (s0:=1) (fun k s=>∃ m:Nat,s=(m:Int)∧m=min (1+cntP.cntPs (p.kids.take k)) (most+1)) (fun _=>False) (fun s=>s=((min (cntP p) (most+1):Nat):Int)) ⟨1,rfl,by simp [cntP.cntPs]⟩ (fun k q s hq hI=>?_) (fun s hI=>?_)
  ·have:=Ret.ctl (Q:=fun b=>b=((min (cntP p) (most+1):Nat):Int)) key (g:=fun (o:Ctl Int Int)=>match o with
    | .ret r=>some r
    | .go _=>none
    | .brk s=>some s) (fun r hr=>hr.elim) (fun s hs=>.some hs)
   obtain ⟨b,e,rfl⟩:=this
   exact e
  ·obtain ⟨m,rfl,hm2⟩:=hI
   refine Ret.ite (fun h=>?_) (fun h=>?_)
   ·rw [J1] at h
    have hle:m≤most:=by omega
    have hws:wsub .i64 (most:Int) (m:Int)=((most-m:Nat):Int):=by rw [Q3z (by omega) (by omega)];omega
    rw [hws,ih q (most-m) (by omega) (by omega)]
    simp only [U0]
    rw [Q10 (by omega) (by omega)]
    refine .some ⟨m+min (cntP q) (most-m+1),by push_cast;rfl,?_⟩
    rw [Q5u p.kids k q hq]
    omega
   ·rw [Q1z] at h
    refine .some ?_
    have h1:=Q28 p.kids k
    have h2:=Q36 p
    show (m:Int)=_
    have:m=min (cntP p) (most+1):=by omega
    rw [this]
  ·obtain ⟨m,rfl,hm2⟩:=hI
   rw [List.take_length] at hm2
   have h2:=Q36 p
   have:m=min (cntP p) (most+1):=by omega
   rw [this]
theorem Q6v {w:List Q4}(hw:WW w):∀ (d n:Nat) (t:Q1) (p:Q0) (out:List Q9),t∈tys w→Q18 w d t p=true→d+4≤n→out.length+cntP p≤100000→Q14 n out w t p=some (out++Q3a w d t p)∧(Q3a w d t p).length≤cntP p:=by
 intro d
 induction d with
 | zero=>intro n t p out ht hg;cases hg
 | succ d ih=>
  intro n t p out ht hg hn hout
  obtain ⟨m,rfl⟩:∃ m,n=m+1:=⟨n-1,by omega⟩
  have hT:=hw.ty t ht
  obtain ⟨ho,hl⟩:=Q54 (Q4a hg)
  unfold Q14
  have hfirst:(((if (ieq p.op 2)=true then
    ((app out [(Q9.mk p.var t)]).bind fun x20=>some (Ctl.brk x20))
    else
    (if (ieq p.op 6)=true then
    ((app out [(Q9.mk p.var t)]).bind fun x22=>some (Ctl.brk x22))
    else
    some (Ctl.brk out)))):Option (Ctl (List Q9) (List Q9)))=some (Ctl.brk (out++ownV t p)):=by
   have ha:app out [(Q9.mk p.var t)]=some (out++[(Q9.mk p.var t)]):=W5 (by simp [Q7];omega)
   by_cases h2:p.op=2
   ·simp [ieq,h2,ha,ownV]
   ·by_cases h6:p.op=6
    ·simp [ieq,h6,ha,ownV]
    ·simp [ieq,h2,h6,ownV]
  rw [hfirst]
  simp only [U0]
  rw [Z2p hT p (Q9i ho) (by omega)]
  simp only [U0]
  have hcnt:=Q36 p
  have hown:(ownV t p).length≤1:=by unfold ownV;split<;>simp
  have key:=Z1 (ρ:=List Q9) (f:=fun k179 x180 (s173:List Q9)=>
   (((if (ieq (k179:Int) 0)=true then
   some (Ctl.brk ())
   else
   (if (!ieq p.op 5)=true then
   some (Ctl.brk ())
   else
   some (Ctl.ret (Ctl.brk s173))))).bind fun (o190:Ctl (Ctl (List Q9) (List Q9)) (Unit))=>match o190 with
   | .ret r=>some r
   | .go _=>none
   | .brk s189=>
   ((idx p.kids (k179:Int)).bind fun x201=>
   ((Q14 m s173 w x180 x201).bind fun r202=>
   some (Ctl.go r202))))) (Y2 w t p) (s0:=out++ownV t p)
   (fun k s=>s=out++(ownV t p++(((Y2 w t p).zip p.kids).take k).flatMap fun x=>Q3a w d x.1 x.2)∧k≤(if p.op=5 then 1 else p.kids.length)∧s.length≤out.length+1+cntP.cntPs (p.kids.take k))
   (fun _=>False) (fun s=>s=out++Q3a w (d+1) t p∧s.length≤out.length+cntP p) ⟨by simp,by split<;>omega,by simp;omega⟩ (fun k a s ha hI=>?_) (fun s hI=>?_)
  ·have:=Ret.ctl (Q:=fun b=>b=out++Q3a w (d+1) t p∧b.length≤out.length+cntP p) key (g:=fun (o:Ctl (List Q9) (List Q9))=>match o with
    | .ret r=>some r
    | .go _=>none
    | .brk s=>some s) (fun r hr=>hr.elim) (fun s hs=>.some hs)
   obtain ⟨b,e,rfl,h2⟩:=this
   refine ⟨e,?_⟩
   rw [U5] at h2
   omega
  ·obtain ⟨hs,hk,hlen⟩:=hI
   have hlt:k<p.kids.length:=by have:=(List.getElem?_eq_some_iff.1 ha).1;omega
   have hq:p.kids[k]?=some p.kids[k]:=by simp [hlt]
   have h1:=Q5u p.kids k _ hq
   have h2:=Q28 p.kids (k+1)
   have hpos:=Q7m p.kids[k]
   have go:∀ (hk2:k+1≤(if p.op=5 then 1 else p.kids.length)),Ret ((idx p.kids (k:Int)).bind fun x201=>
     ((Q14 m s w a x201).bind fun r202=>
     some (Ctl.go (ρ:=List Q9) r202))) (RndQ (fun _=>False) (fun s=>s=out++Q3a w (d+1) t p∧s.length≤out.length+cntP p) (fun s=>s=out++(ownV t p++(((Y2 w t p).zip p.kids).take (k+1)).flatMap fun x=>Q3a w d x.1 x.2)∧k+1≤(if p.op=5 then 1 else p.kids.length)∧s.length≤out.length+1+cntP.cntPs (p.kids.take (k+1)))):=fun hk2=>by
    rw [Q1m hq]
    simp only [U0]
    obtain ⟨e1,e2⟩:=ih m a p.kids[k] s (Q7c hT ht ho a (U1 ha)) (Q26 hg ha hq) (by omega) (by omega)
    rw [e1]
    refine .some ⟨?_,hk2,?_⟩
    ·rw [List.take_add_one,Q9b ha hq,hs]
     simp
    ·rw [U5]
     omega
   by_cases h5:p.op=5
   ·by_cases hk0:k=0
    ·subst hk0
     have h0:ieq ((0:Nat):Int) 0=true:=rfl
     rw [if_pos h0]
     exact go (by rw [if_pos h5];omega)
    ·rw [if_pos h5] at hk
     have hk1:k=1:=by omega
     subst hk1
     have h0:¬ieq ((1:Nat):Int) 0=true:=by decide
     have h50:¬(!ieq p.op 5)=true:=by simp [ieq,h5]
     rw [if_neg h0,if_neg h50]
     refine .some ⟨?_,?_⟩
     ·rw [hs]
      simp only [Q3a,if_pos h5]
     ·have:=Q28 p.kids 1
      omega
   ·have h50:(!ieq p.op 5)=true:=by simp [ieq,h5]
    have:(if (ieq (k:Int) 0)=true then some (Ctl.brk (ρ:=Ctl (List Q9) (List Q9)) ()) else (if (!ieq p.op 5)=true then some (Ctl.brk ()) else some (Ctl.ret (Ctl.brk s))))=some (Ctl.brk ()):=by
     rw [if_pos h50]
     split<;>rfl
    rw [this]
    exact go (by rw [if_neg h5];omega)
  ·obtain ⟨hs,hk,hlen⟩:=hI
   rw [←hl] at hs hk hlen
   by_cases h5:p.op=5
   ·rw [if_pos h5] at hk
    have:(Y2 w t p).length=2:=by simp [Y2,h5]
    omega
   ·refine ⟨?_,?_⟩
    ·rw [hs]
     simp only [Q3a,if_neg h5]
    ·rw [List.take_length] at hlen
     omega
theorem X76 (l:List Q9)(v:Int):Ret (Q3d l v) (fun i=>(∃ k x,i=((k:Nat):Int)∧l[k]?=some x∧x.var=v∧∀ j y,j<k→l[j]?=some y→y.var≠v)∨(i = -1∧∀ x∈l,x.var≠v)):=by
 unfold Q3d
 refine Ret.ctl (Z1 l (fun k _=>∀ j x,j<k→l[j]?=some x→x.var≠v) (fun i=>∃ k x,i=((k:Nat):Int)∧l[k]?=some x∧x.var=v∧∀ j y,j<k→l[j]?=some y→y.var≠v) (fun _=>∀ x∈l,x.var≠v) (fun j x hj=>by omega) (fun k y s hy hI=>?_) (fun s hI=>?_)) (fun r hr=>?_) (fun s hs=>?_)
 ·refine Ret.ite (fun h=>?_) (fun h=>?_)
  ·rw [X2] at h
   exact .some ⟨k,y,rfl,hy,h,hI⟩
  ·rw [X0] at h
   refine .some (fun j x hj hx=>?_)
   by_cases hjk:j=k
   ·subst hjk
    rw [hy] at hx
    cases hx
    exact h
   ·exact hI j x (by omega) hx
 ·intro x hm
  obtain ⟨j,hj⟩:=List.mem_iff_getElem?.1 hm
  exact hI j x ((List.getElem?_eq_some_iff.1 hj).1) hj
 ·exact .some (.inl hr)
 ·exact .some (.inr ⟨rfl,hs⟩)
theorem Q8n {l:List Q9}(h:Q27 l=true){i j:Nat}{x y:Q9}(hi:l[i]?=some x)(hj:l[j]?=some y)(he:x.var=y.var):i=j:=by
 unfold Q27 at h
 have h:=of_decide_eq_true h
 have hi':(l.map (·.var))[i]?=some x.var:=by simp [hi]
 have hj':(l.map (·.var))[j]?=some x.var:=by simp [hj,he]
 have hil:=(List.getElem?_eq_some_iff.1 hi').1
 exact (List.getElem?_inj hil h).1 (hi'.trans hj'.symm)
theorem Z8h {l:List Q9}(h:∀ (i j:Nat) (x y:Q9),l[i]?=some x→l[j]?=some y→x.var=y.var→i=j):Q27 l=true:=by
 unfold Q27
 refine decide_eq_true (List.pairwise_iff_getElem.2 fun i j hi hj hij he=>?_)
 simp only [U7] at hi hj
 simp only [List.getElem_map] at he
 have:=h i j l[i] l[j] (by simp [hi]) (by simp [hj]) he
 omega
theorem V03 (a b:List Q9)(hb:Q27 b=true):Q4z a b=some (Q96 a b):=by
 have h:Ret (Q4z a b) (fun r=>r=Q96 a b):=by
  unfold Q4z
  refine Ret.ctl (Z1 a (fun k _=>∀ j x,j<k→a[j]?=some x→x∈b) (fun r=>r=false∧∃ x∈a,x∉b) (fun _=>∀ x∈a,x∈b) (fun j x hj=>by omega) (fun k y s hy hI=>?_) (fun s hI=>?_)) (fun r hr=>?_) (fun s hs=>?_)
  ·refine Ret.bind (X76 b y.var) (fun i hi=>?_)
   rcases hi with ⟨q,x,rfl,hx,hv,_⟩ | ⟨rfl,hno⟩
   ·have h1:¬ilt ((q:Nat):Int) 0=true:=by rw [Z9];omega
    rw [if_neg h1,Q1m hx]
    simp only [U0]
    by_cases ht:x.typ=y.typ
    ·have hxy:x=y:=by cases x;cases y;simp_all
     have h2:¬(!Q7j [ieq x.typ.data y.typ.data,ieq x.typ.index y.typ.index])=true:=by rw [ht];simp [Q7j,ieq]
     rw [if_neg h2]
     refine .some (fun j z hj hz=>?_)
     by_cases hjk:j=k
     ·subst hjk
      rw [hy] at hz
      cases hz
      rw [←hxy]
      exact U1 hx
     ·exact hI j z (by omega) hz
    ·have h2:(!Q7j [ieq x.typ.data y.typ.data,ieq x.typ.index y.typ.index])=true:=by
      have:¬(x.typ.data=y.typ.data∧x.typ.index=y.typ.index):=fun e=>ht (by cases hx:x.typ;cases hy:y.typ;rw [hx,hy] at e;simp_all)
      simp only [Q7j,ieq,List.all_cons,List.all_nil,id,Bool.and_true,Bool.not_eq_true',Bool.and_eq_false_iff,decide_eq_false_iff_not]
      exact Decidable.not_and_iff_or_not.1 this
     rw [if_pos h2]
     refine .some ⟨rfl,y,U1 hy,fun hm=>?_⟩
     obtain ⟨j,hj⟩:=List.mem_iff_getElem?.1 hm
     have:=Q8n hb hx hj hv
     subst this
     rw [hx] at hj
     cases hj
     exact ht rfl
   ·have h1:ilt (-1) 0=true:=rfl
    rw [if_pos h1]
    exact .some ⟨rfl,y,U1 hy,fun hm=>hno y hm rfl⟩
  ·intro x hm
   obtain ⟨j,hj⟩:=List.mem_iff_getElem?.1 hm
   exact hI j x ((List.getElem?_eq_some_iff.1 hj).1) hj
  ·obtain ⟨rfl,x,hx,hxb⟩:=hr
   refine .some ?_
   symm
   unfold Q96
   rw [Bool.and_eq_false_iff]
   right
   rw [List.all_eq_false]
   exact ⟨x,hx,by simpa using hxb⟩
  ·refine .some ?_
   unfold Q96
   have:a.all (fun v=>decide (v∈b))=true:=by rw [List.all_eq_true];intro x hx;simpa using hs x hx
   rw [this,Bool.and_true]
   simp only [ieq,lenZ]
   exact decide_eq_decide.2 (by omega)
 obtain ⟨r,e,rfl⟩:=h
 exact e
theorem Q6e {w:List Q4} : ∀ (d:Nat) (t:Q1) (p:Q0),Q18 w d t p=true→linD w d t p=true→Q27 (Q3a w d t p)=true:=by
 intro d
 induction d with
 | zero=>intro t p hg;cases hg
 | succ d ih=>
  intro t p hg hl
  simp only [linD,Bool.and_eq_true,List.all_eq_true] at hl
  by_cases h5:p.op=5
  ·obtain ⟨ho,hlen⟩:=Q54 (Q4a hg)
   have hk:Y2 w t p=[t,t]:=by simp [Y2,h5]
   rw [hk] at hlen
   simp only [Q3a,if_pos h5,hk]
   have hown:ownV t p=[]:=by simp [ownV,h5]
   match hkids:p.kids,hlen with
   | [a,b],_=>
    rw [hkids,hk] at hl
    have h1:=hl.1 (t,a) (by simp)
    have h2:=ih t a (Q26 hg (k:=0) (by rw [hk];rfl) (by rw [hkids];rfl)) h1
    simpa [hown] using h2
  ·have:=hl.2
   rw [if_neg h5] at this
   exact this
theorem kid0 {w:List Q4}{t:Q1}{p:Q0}(h5:p.op=5)(hl:p.kids.length=(Y2 w t p).length):∃ a b,p.kids=[a,b]∧Y2 w t p=[t,t]:=by
 have hk:Y2 w t p=[t,t]:=by simp [Y2,h5]
 rw [hk] at hl
 match hkids:p.kids,hl with
 | [a,b],_=>exact ⟨a,b,rfl,hk⟩
theorem Q7k {p:Q0}{k:Nat}{q:Q0}(h:p.kids[k]?=some q):cntP q<cntP p:=by
 have h1:=Q5u p.kids k q h
 have h2:=Q28 p.kids (k+1)
 have h3:=Q36 p
 omega
theorem X9t {w:List Q4}(hw:WW w):∀ (d n:Nat) (t:Q1) (p:Q0),t∈tys w→Q18 w d t p=true→d+5≤n→cntP p≤1000→Q2u n w t p=some (linD w d t p):=by
 intro d
 induction d with
 | zero=>intro n t p ht hg;cases hg
 | succ d ih=>
  intro n t p ht hg hn hc
  obtain ⟨m,rfl⟩:∃ m,n=m+1:=⟨n-1,by omega⟩
  have hT:=hw.ty t ht
  obtain ⟨ho,hl⟩:=Q54 (Q4a hg)
  unfold Q2u
  rw [Z2p hT p (Q9i ho) (by omega)]
  simp only [U0]
  have h:Ret ((forL (fun k79 x80 (s73:Unit)=>
    ((idx p.kids (k79:Int)).bind fun x88=>
    ((Q2u m w x80 x88).bind fun r89=>
    (if (!r89)=true then
    some (Ctl.ret (false))
    else
    some (Ctl.go ()))))) 0 (Y2 w t p) ())) (CtlQ (fun b=>b=false∧(((Y2 w t p).zip p.kids).all fun x=>linD w d x.1 x.2)=false) (fun _=>(((Y2 w t p).zip p.kids).all fun x=>linD w d x.1 x.2)=true)):=by
   refine Z1 (Y2 w t p) (fun k _=>∀ j a q,j<k→(Y2 w t p)[j]?=some a→p.kids[j]?=some q→linD w d a q=true) _ _ (fun j a q hj=>by omega) (fun k a s ha hI=>?_) (fun s hI=>?_)
   ·have hlt:k<p.kids.length:=by have:=(List.getElem?_eq_some_iff.1 ha).1;omega
    have hq:p.kids[k]?=some p.kids[k]:=by simp [hlt]
    rw [Q1m hq]
    simp only [U0]
    rw [ih m a p.kids[k] (Q7c hT ht ho a (U1 ha)) (Q26 hg ha hq) (by omega) (by have:=Q7k hq;omega)]
    simp only [U0]
    cases hgl:linD w d a p.kids[k] with
    | false=>
     refine .some ⟨rfl,?_⟩
     rw [List.all_eq_false]
     exact ⟨(a,p.kids[k]),U1 (Q9b ha hq),by simp [hgl]⟩
    | true=>
     refine .some (fun j a' q' hj ha' hq'=>?_)
     by_cases hjk:j=k
     ·subst hjk
      rw [ha] at ha'
      rw [hq] at hq'
      cases ha'
      cases hq'
      exact hgl
     ·exact hI j a' q' (by omega) ha' hq'
   ·rw [List.all_eq_true]
    intro x hx
    obtain ⟨j,hj⟩:=List.mem_iff_getElem?.1 hx
    obtain ⟨h3,h4⟩:=List.getElem?_zip_eq_some.1 hj
    exact hI j x.1 x.2 ((List.getElem?_eq_some_iff.1 h3).1) h3 h4
  obtain ⟨o,e,ho2⟩:=h
  rw [e]
  simp only [U0]
  cases o with
  | go s=>exact ho2.elim
  | ret r=>
   obtain ⟨rfl,hr⟩:=ho2
   simp only [linD,hr,Bool.false_and]
  | brk s=>
   have hall:(((Y2 w t p).zip p.kids).all fun x=>linD w d x.1 x.2)=true:=ho2
   simp only [linD,hall,Bool.true_and]
   by_cases h5:p.op=5
   ·have h50:ieq p.op 5=true:=by rw [X2];exact h5
    rw [if_pos h50,if_pos h5]
    obtain ⟨a,b,hkids,hk⟩:=kid0 h5 hl
    have ga:=Q26 hg (k:=0) (by rw [hk];rfl) (by rw [hkids];rfl)
    have gb:=Q26 hg (k:=1) (by rw [hk];rfl) (by rw [hkids];rfl)
    have ca:=Q7k (p:=p) (k:=0) (by rw [hkids];rfl)
    have cb:=Q7k (p:=p) (k:=1) (by rw [hkids];rfl)
    have k0:kv w d t p 0=Q3a w d t a:=by simp [kv,hkids,hk]
    have k1:kv w d t p 1=Q3a w d t b:=by simp [kv,hkids,hk]
    rw [k0,k1]
    rw [hkids,hk] at hall
    rw [hkids]
    have i0:idx [a,b] 0=some a:=rfl
    have i1:idx [a,b] 1=some b:=rfl
    rw [i0,i1]
    simp only [U0]
    rw [(Q6v hw d m t a [] ht ga (by omega) (by simp;omega)).1,(Q6v hw d m t b [] ht gb (by omega) (by simp;omega)).1]
    simp only [U0,List.nil_append]
    simp at hall
    rw [V03 _ _ (Q6e d t b gb hall.2)]
    rfl
   ·have h50:¬ieq p.op 5=true:=by rw [X2];exact h5
    rw [if_neg h50,if_neg h5]
    rw [(Q6v hw (d+1) m t p [] ht hg (by omega) (by simp;omega)).1]
    simp only [U0,List.nil_append]
    generalize Q3a w (d+1) t p=l
    have h:Ret ((forL (fun k178 x179 (s172:Unit)=>
      ((Q3d l x179.var).bind fun r186=>
      (if (!ieq r186 (k178:Int))=true then
      some (Ctl.ret (false))
      else
      some (Ctl.go ())))) 0 l ())) (CtlQ (fun b=>b=false∧Q27 l=false) (fun _=>Q27 l=true)):=by
     refine Z1 l (fun k _=>∀ i j x y,i<k→l[i]?=some x→l[j]?=some y→x.var=y.var→i≤j) _ _ (fun i j x y hi=>by omega) (fun k a s ha hI=>?_) (fun s hI=>?_)
     ·refine Ret.bind (X76 l a.var) (fun i hi=>?_)
      rcases hi with ⟨q,x,rfl,hx,hv,hfirst⟩ | ⟨rfl,hno⟩
      ·by_cases hqk:q=k
       ·subst hqk
        have h1:¬(!ieq ((q:Nat):Int) (q:Int))=true:=by simp [ieq]
        rw [if_neg h1]
        refine .some (fun i j x' y' hi hx' hy' hv'=>?_)
        by_cases hiq:i=q
        ·subst hiq
         rw [ha] at hx'
         cases hx'
         rcases Nat.lt_or_ge j i with hji | hji
         ·exact absurd hv'.symm (hfirst j y' hji hy')
         ·exact hji
        ·exact hI i j x' y' (by omega) hx' hy' hv'
       ·have h1:(!ieq ((q:Nat):Int) (k:Int))=true:=by simp [ieq];omega
        rw [if_pos h1]
        refine .some ⟨rfl,?_⟩
        cases hd:Q27 l with
        | false=>rfl
        | true=>exact absurd (Q8n hd hx ha hv) hqk
      ·exact absurd rfl (hno a (U1 ha))
     ·refine Z8h fun i j x y hx hy hv=>?_
      have:=hI i j x y ((List.getElem?_eq_some_iff.1 hx).1) hx hy hv
      have:=hI j i y x ((List.getElem?_eq_some_iff.1 hy).1) hy hx hv.symm
      omega
    obtain ⟨o,e,ho3⟩:=h
    rw [e]
    simp only [U0]
    cases o with
    | go s=>exact ho3.elim
    | ret r=>
     obtain ⟨rfl,hr⟩:=ho3
     rw [hr]
    | brk s=>
     have:Q27 l=true:=ho3
     rw [this]
def Q0u (w:List Q4)(t:Q1)(p:Q0):Bool:=Q18 w 10 t p&&(decide (cntP p≤60)&&linD w 10 t p)
theorem Z31 {w:List Q4}(hw:WW w){n:Nat}(hn:100≤n)(t:Q1)(p:Q0)(ht:t∈tys w):Q4k n w t p=some (Q0u w t p):=by
 unfold Q4k Q0u
 have h1:=X2t hw 10 n t p ht (by omega) (by omega)
 have e10:((10:Nat):Int)=10:=rfl
 rw [e10] at h1
 rw [h1]
 simp only [U0]
 cases hg:Q18 w 10 t p with
 | false=>simp
 | true=>
  have h2:=X2y n p 60 (by omega) (by omega)
  have e60:((60:Nat):Int)=60:=rfl
  rw [e60] at h2
  rw [h2]
  simp only [U0,if_true,Bool.true_and]
  by_cases hc:cntP p≤60
  ·have:ile ((min (cntP p) (60+1):Nat):Int) 60=true:=by rw [J1];omega
   rw [if_pos this,X9t hw 10 n t p ht hg (by omega) (by omega)]
   simp [hc]
  ·have:¬ile ((min (cntP p) (60+1):Nat):Int) 60=true:=by rw [J1];omega
   rw [if_neg this]
   simp [hc]
theorem Z48 {w:List Q4} : ∀ (d:Nat) (t:Q1) (p:Q0),Q18 w d t p=true→∀ v∈Q3a w d t p,0≤v.var∧v.var≤5:=by
 intro d
 induction d with
 | zero=>intro t p hg;cases hg
 | succ d ih=>
  intro t p hg v hv
  simp only [Q3a,List.mem_append,List.mem_flatMap] at hv
  rcases hv with hv | ⟨x,hx,hv⟩
  ·obtain ⟨ho,_⟩:=Q54 (Q4a hg)
   unfold ownV at hv
   split at hv
   ·rename_i h
    simp at hv
    subst hv
    simp [Q9j,h] at ho
    exact ho.1.1.1
   ·simp at hv
  ·have hx:=List.mem_of_mem_take hx
   obtain ⟨j,hj⟩:=List.mem_iff_getElem?.1 hx
   obtain ⟨h3,h4⟩:=List.getElem?_zip_eq_some.1 hj
   exact ih x.1 x.2 (Q26 hg h3 h4) v hv
theorem V7f (l:List Q9)(hr:∀ v∈l,0≤v.var∧v.var≤5){R:List Q9×Bool×Int} :
  Ret (forL (fun k423 (x424:Q9) (s417:(List Bool))=>
   ((aget 6 s417 x424.var).bind fun x435=>
   (if x435=true then
   some (Ctl.ret R)
   else
   ((aset 6 s417 x424.var true).bind fun x437=>
   some (Ctl.go x437))))) 0 l [false,false,false,false,false,false]) (CtlQ (fun r=>r=R∧Q27 l=false) (fun _=>Q27 l=true)):=by
 refine Z1 l (fun k s=>s.length=6∧(∀ i:Nat,i<6→(s[i]?=some true↔∃ (j:Nat) (x:Q9),j<k∧l[j]?=some x∧x.var=(i:Int)))∧∀ (i j:Nat) (x y:Q9),i<k→j<k→l[i]?=some x→l[j]?=some y→x.var=y.var→i=j) _ _ ⟨rfl,fun i hi=>?_,fun i j x y hi=>by omega⟩ (fun k a s ha hI=>?_) (fun s hI=>?_)
 ·constructor
  ·intro h
   match i,hi with
   | 0,_=>simp at h
   | 1,_=>simp at h
   | 2,_=>simp at h
   | 3,_=>simp at h
   | 4,_=>simp at h
   | 5,_=>simp at h
  ·rintro ⟨j,x,hj,_⟩;omega
 ·obtain ⟨hlen,hmet,hdis⟩:=hI
  obtain ⟨r1,r2⟩:=hr a (U1 ha)
  obtain ⟨v,hv⟩:∃ v:Nat,a.var=(v:Int):=⟨a.var.toNat,by omega⟩
  have hv6:v<6:=by omega
  have hsv:s[v]?=some s[v]:=by simp [hlen,hv6]
  have hget:aget 6 s a.var=some s[v]:=by simp only [aget,hlen,if_true,hv];exact Q1m hsv
  rw [hget]
  simp only [U0]
  cases hb:s[v] with
  | true=>
   rw [hb] at hsv
   obtain ⟨j,x,hj,hx,hxv⟩:=(hmet v hv6).1 hsv
   refine .some ⟨rfl,?_⟩
   cases hd:Q27 l with
   | false=>rfl
   | true=>
    have:=Q8n hd hx ha (by rw [hxv,hv])
    omega
  | false=>
   have hset:aset 6 s a.var true=some (s.set v true):=by
    simp only [aset,hlen,if_true,hv,setI]
    rw [if_pos ⟨by omega,by simpa using by omega⟩]
    simp
   simp only [U2,if_false]
   rw [hset]
   refine .some ⟨by simp [hlen],fun i hi=>?_,fun i j x y hi hj hx hy he=>?_⟩
   ·by_cases hiv:i=v
    ·subst hiv
     rw [List.getElem?_set_self (by omega)]
     exact ⟨fun _=>⟨k,a,by omega,ha,hv⟩,fun _=>rfl⟩
    ·rw [List.getElem?_set_ne (by omega)]
     rw [hmet i hi]
     constructor
     ·rintro ⟨j,x,h1,h2,h3⟩;exact ⟨j,x,by omega,h2,h3⟩
     ·rintro ⟨j,x,h1,h2,h3⟩
      refine ⟨j,x,?_,h2,h3⟩
      rcases Nat.lt_or_ge j k with h | h
      ·exact h
      ·have:j=k:=by omega
       subst this
       rw [ha] at h2
       cases h2
       rw [hv] at h3
       omega
   ·have nomet:∀ (j:Nat) (x:Q9),j<k→l[j]?=some x→x.var=a.var→False:=fun j x h1 h2 h3=>by
     have:=(hmet v hv6).2 ⟨j,x,h1,h2,by rw [h3,hv]⟩
     rw [hsv,hb] at this
     cases this
    by_cases hik:i=k
    ·by_cases hjk:j=k
     ·omega
     ·subst hik
      rw [ha] at hx
      cases hx
      exact (nomet j y (by omega) hy he.symm).elim
    ·by_cases hjk:j=k
     ·subst hjk
      rw [ha] at hy
      cases hy
      exact (nomet i x (by omega) hx he).elim
     ·exact hdis i j x y (by omega) (by omega) hx hy he
 ·obtain ⟨_,_,hdis⟩:=hI
  exact Z8h fun i j x y hx hy he=>hdis i j x y ((List.getElem?_eq_some_iff.1 hx).1) ((List.getElem?_eq_some_iff.1 hy).1) hx hy he
theorem Z9l {α β:Type}(l:List α)(g:α→List β):(l.take 1).flatMap g=l[0]?.elim [] g:=by
 cases l with
 | nil=>rfl
 | cons a l=>simp
def okD (w:List Q4)(d:Nat)(t:Q1)(p:Q0)(c:Nat):Bool:=Q18 w d t p&&(decide (c+cntP p≤60)&&linD w d t p)
theorem V1y {w:List Q4}(hw:WW w):∀ (d n:Nat) (t:Q1) (p:Q0) (c:Nat),t∈tys w→c≤60→d+5≤n→d≤10→
  Ret (Q1l n w t p (11-(d:Int)) (c:Int)) (fun r=>r.2.1=okD w d t p c∧(okD w d t p c=true→r.1=Q3a w d t p∧r.2.2=((c+cntP p:Nat):Int))):=by
 intro d
 induction d with
 | zero=>
  intro n t p c ht hc hn hd
  obtain ⟨m,rfl⟩:∃ m,n=m+1:=⟨n-1,by omega⟩
  unfold Q1l
  refine Ret.ite (fun h=>?_) (fun h=>?_)
  ·exact .some ⟨by simp [okD,Q18],by simp [okD,Q18]⟩
  ·have:ilt 10 (11-((0:Nat):Int))=true:=rfl
   rw [if_pos this]
   exact .some ⟨by simp [okD,Q18],by simp [okD,Q18]⟩
 | succ d ih=>
  intro n t p c ht hc hn hd
  obtain ⟨m,rfl⟩:∃ m,n=m+1:=⟨n-1,by omega⟩
  have hT:=hw.ty t ht
  have hcp:=Q36 p
  unfold Q1l
  have hc1:wadd .i64 (c:Int) 1=((c+1:Nat):Int):=by rw [Q10 (by omega) (by omega)];rfl
  rw [hc1]
  refine Ret.ite (fun h=>?_) (fun h=>?_)
  ·rw [Z9] at h
   have:¬c+cntP p≤60:=by omega
   exact .some ⟨by simp [okD,this],by simp [okD,this]⟩
  ·rw [J0] at h
   have h2:¬ilt 10 (11-((d+1:Nat):Int))=true:=by rw [Z9];omega
   rw [if_neg h2]
   obtain ⟨ts,hs,hts⟩:=X83 hT p
   rw [hs]
   simp only [U0]
   cases hnode:Q7a w t p with
   | false=>exact .some ⟨by simp [okD,Q18,hnode],by simp [okD,Q18,hnode]⟩
   | true=>
    obtain rfl:=hts hnode
    obtain ⟨ho,hl⟩:=Q54 hnode
    simp only [Bool.not_true,U2,if_false]
    refine Ret.ctl (R:=fun _=>False) (B:=fun s=>s=ownV t p) ?_ (fun r hr=>hr.elim) (fun s hs=>?_)
    ·have ha:app [] [(Q9.mk p.var t)]=some [(Q9.mk p.var t)]:=W5 (by simp [Q7])
     by_cases h2:p.op=2
     ·exact ⟨_,by simp [ieq,h2,ha];rfl,by simp [ownV,h2]⟩
     ·by_cases h6:p.op=6
      ·exact ⟨_,by simp [ieq,h6,ha];rfl,by simp [ownV,h6]⟩
      ·exact ⟨_,by simp [ieq,h2,h6];rfl,by simp [ownV,h2,h6]⟩
    subst hs
    have hown1:(ownV t p).length≤1:=by unfold ownV;split<;>simp
    have hkn:∀ k,k<p.kids.length→∃ a q,(Y2 w t p)[k]?=some a∧p.kids[k]?=some q:=fun k hk=>⟨(Y2 w t p)[k]'(by omega),p.kids[k],by simp,by simp⟩
    have allgood:∀ (P:Q1→Q0→Bool),(∀ (j:Nat) (a:Q1) (q:Q0),j<p.kids.length→(Y2 w t p)[j]?=some a→p.kids[j]?=some q→P a q=true)→(((Y2 w t p).zip p.kids).all fun x=>P x.1 x.2)=true:=fun P hP=>by
     rw [List.all_eq_true]
     intro x hx
     obtain ⟨j,hj⟩:=List.mem_iff_getElem?.1 hx
     obtain ⟨h3,h4⟩:=List.getElem?_zip_eq_some.1 hj
     exact hP j x.1 x.2 ((List.getElem?_eq_some_iff.1 h4).1) h3 h4
    have notall:∀ (P:Q1→Q0→Bool) (k:Nat) (a:Q1) (q:Q0),(Y2 w t p)[k]?=some a→p.kids[k]?=some q→P a q=false→(((Y2 w t p).zip p.kids).all fun x=>P x.1 x.2)=false:=fun P k a q h1 h2 h3=>by
     rw [List.all_eq_false]
     exact ⟨(a,q),U1 (Q9b h1 h2),by simp [h3]⟩
    refine Ret.ctl (Z1 p.kids
     (fun k s=>s.1=((c+1+cntP.cntPs (p.kids.take k):Nat):Int)∧c+1+cntP.cntPs (p.kids.take k)≤60∧s.2=ownV t p++(((Y2 w t p).zip p.kids).take (min k (if p.op=5 then 1 else p.kids.length))).flatMap (fun x=>Q3a w d x.1 x.2)∧
      (∀ (j:Nat) (a:Q1) (q:Q0),j<k→(Y2 w t p)[j]?=some a→p.kids[j]?=some q→Q18 w d a q=true∧linD w d a q=true)∧s.2.length≤1+cntP.cntPs (p.kids.take k)∧
      (p.op=5→2≤k→Q96 (kv w d t p 0) (kv w d t p 1)=true))
     (fun r=>r.2.1=false∧okD w (d+1) t p c=false)
     (fun s=>s.1=((c+cntP p:Nat):Int)∧c+cntP p≤60∧s.2=Q3a w (d+1) t p∧Q18 w (d+1) t p=true∧(((Y2 w t p).zip p.kids).all fun x=>linD w d x.1 x.2)=true∧
      (p.op=5→Q96 (kv w d t p 0) (kv w d t p 1)=true))
     ⟨by simp [cntP.cntPs],by simp [cntP.cntPs];omega,by simp,fun j a q hj=>by omega,by simp;omega,fun _ h=>by omega⟩ (fun k q s hq hI=>?_) (fun s hI=>?_)) (fun r hr=>?_) (fun s hs=>?_)
    ·obtain ⟨i1,i2,i3,i4,i5,i6⟩:=hI
     have hlt:=(List.getElem?_eq_some_iff.1 hq).1
     obtain ⟨a,q',ha,hq'⟩:=hkn k hlt
     rw [hq] at hq'
     cases hq'
     have hcd:=Q5u p.kids k q hq
     have hct:=Q28 p.kids (k+1)
     have hpos:=Q7m q
     refine Ret.ctl (R:=fun (r:Ctl (List Q9×Bool×Int) (Int×List Q9))=>∃ x,r=.ret x∧x.2.1=false∧okD w (d+1) t p c=false)
      (B:=fun (s:Int×List Q9)=>s.1=((c+1+cntP.cntPs (p.kids.take (k+1)):Nat):Int)∧c+1+cntP.cntPs (p.kids.take (k+1))≤60∧s.2=ownV t p++(((Y2 w t p).zip p.kids).take (min (k+1) (if p.op=5 then 1 else p.kids.length))).flatMap (fun x=>Q3a w d x.1 x.2)∧
      (∀ (j:Nat) (a:Q1) (q:Q0),j<k+1→(Y2 w t p)[j]?=some a→p.kids[j]?=some q→Q18 w d a q=true∧linD w d a q=true)∧s.2.length≤1+cntP.cntPs (p.kids.take (k+1))∧
      (p.op=5→2≤k+1→Q96 (kv w d t p 0) (kv w d t p 1)=true))
      ?_ (fun r hr=>?_) (fun s hs=>⟨_,rfl,hs⟩)
     ·rw [Q1m ha]
      simp only [U0]
      have hdeep:wadd .i64 (11-((d+1:Nat):Int)) 1=11-(d:Int):=by rw [Q10 (by omega) (by omega)];omega
      rw [hdeep,i1]
      refine Ret.bind (ih m a q _ (Q7c hT ht ho a (U1 ha)) i2 (by omega) (by omega)) (fun r hr=>?_)
      obtain ⟨hr1,hr2⟩:=hr
      rw [hr1]
      cases hok:okD w d a q (c+1+cntP.cntPs (p.kids.take k)) with
      | false=>
       refine .some ⟨_,rfl,rfl,?_⟩
       simp only [okD,Bool.and_eq_false_iff] at hok
       rcases hok with h1 | h1 | h1
       ·simp only [okD,Q18,notall _ k a q ha hq h1,Bool.and_false,Bool.false_and]
       ·have h1:=of_decide_eq_false h1
        have:¬c+cntP p≤60:=by omega
        simp [okD,this]
       ·simp only [okD,linD,notall _ k a q ha hq h1,Bool.and_false,Bool.false_and]
      | true=>
       obtain ⟨e1,e2⟩:=hr2 hok
       simp only [okD,Bool.and_eq_true,decide_eq_true_eq] at hok
       obtain ⟨g1,g2,g3⟩:=hok
       have hvl:=(Q6v hw d (d+4) a q [] (Q7c hT ht ho a (U1 ha)) g1 (by omega) (by simp;omega)).2
       have hboth:∀ (j:Nat) (a':Q1) (q':Q0),j<k+1→(Y2 w t p)[j]?=some a'→p.kids[j]?=some q'→Q18 w d a' q'=true∧linD w d a' q'=true:=fun j a' q' hj h1 h2=>by
        by_cases hjk:j=k
        ·subst hjk
         rw [ha] at h1
         rw [hq] at h2
         cases h1
         cases h2
         exact ⟨g1,g3⟩
        ·exact i4 j a' q' (by omega) h1 h2
       simp only [Bool.not_true,U2,if_false]
       have hcount:r.2.2=((c+1+cntP.cntPs (p.kids.take (k+1)):Nat):Int):=by rw [e2,hcd];congr 1;omega
       have happ:app s.2 r.1=some (s.2++Q3a w d a q):=by rw [e1];exact W5 (by simp only [Q7];omega)
       have hzip:=Q9b ha hq
       by_cases h5:p.op=5
       ·have h50:ieq p.op 5=true:=by rw [X2];exact h5
        rw [if_pos h50]
        obtain ⟨x0,x1,hkids,hkt⟩:=kid0 h5 hl
        by_cases hk1:k=1
        ·subst hk1
         have h10:ieq ((1:Nat):Int) 1=true:=rfl
         rw [if_pos h10,X5z,e1]
         simp only [U0]
         have hs2:s.2=kv w d t p 0:=by
          rw [i3,if_pos h5,show ownV t p=[] by simp [ownV,h5]]
          simp only [Nat.min_self,List.nil_append]
          exact Z9l _ _
         have hz1:(kv w d t p 1)=Q3a w d a q:=by unfold kv;rw [hzip];rfl
         refine Ret.ite (fun h=>?_) (fun h=>?_)
         ·refine .some ⟨_,rfl,rfl,?_⟩
          have:Q96 (kv w d t p 0) (kv w d t p 1)=false:=by
           rw [hz1,←hs2]
           rw [Bool.not_eq_true'] at h
           exact h
          simp only [okD,linD,if_pos h5,this,Bool.and_false]
         ·refine .some ⟨hcount,by omega,?_,hboth,by simp only;omega,fun _ _=>?_⟩
          ·rw [i3,if_pos h5]
           rfl
          ·rw [hz1,←hs2]
           simpa [Q96] using h
        ·have hk0:k=0:=by rw [hkids] at hlt;simp at hlt;omega
         subst hk0
         have h10:¬ieq ((0:Nat):Int) 1=true:=by decide
         rw [if_neg h10,happ]
         refine .some ⟨hcount,by omega,?_,hboth,by simp only [U5];omega,fun _ h=>by omega⟩
         simp only
         rw [i3,if_pos h5]
         simp only [Nat.zero_min,List.take_zero,List.flatMap_nil,List.append_nil,Nat.min_self]
         rw [show (0+1)=1 from rfl,Z9l,hzip]
         rfl
       ·have h50:¬ieq p.op 5=true:=by rw [X2];exact h5
        rw [if_neg h50,happ]
        refine .some ⟨hcount,by omega,?_,hboth,by simp only [U5];omega,fun h=>absurd h h5⟩
        simp only
        rw [i3,if_neg h5,Nat.min_eq_left (by omega),Nat.min_eq_left (by omega),List.take_add_one,hzip]
        simp
     ·obtain ⟨x,rfl,h1,h2⟩:=hr
      exact .some ⟨h1,h2⟩
    ·obtain ⟨i1,i2,i3,i4,i5,i6⟩:=hI
     rw [List.take_length] at i1 i2
     refine ⟨by rw [i1];congr 1;omega,by omega,?_,?_,allgood _ fun j a q hj h1 h2=>(i4 j a q hj h1 h2).2,fun h5=>i6 h5 ?_⟩
     ·rw [i3]
      have:min p.kids.length (if p.op=5 then 1 else p.kids.length)=(if p.op=5 then 1 else p.kids.length):=by
       split
       ·rename_i h5
        obtain ⟨x0,x1,hkids,hkt⟩:=kid0 h5 hl
        rw [hkids]
        simp
       ·simp
      rw [this]
      rfl
     ·simp only [Q18,hnode,Bool.true_and]
      exact allgood _ fun j a q hj h1 h2=>(i4 j a q hj h1 h2).1
     ·obtain ⟨x0,x1,hkids,hkt⟩:=kid0 h5 hl
      rw [hkids]
      simp
    ·exact .some ⟨by rw [hr.1,hr.2],fun h=>by rw [hr.2] at h;cases h⟩
    ·obtain ⟨b1,b2,b3,b4,b5,b6⟩:=hs
     refine Ret.ctl (V7f s.2 (fun v hv=>by rw [b3] at hv;exact Z48 (d+1) t p b4 v hv)) (fun r hr=>?_) (fun s' hs'=>?_)
     ·obtain ⟨rfl,hd0⟩:=hr
      have:okD w (d+1) t p c=false:=by
       by_cases h5:p.op=5
       ·have hlin:linD w (d+1) t p=true:=by simp only [linD,b5,if_pos h5,b6 h5,Bool.and_self]
        have:=Q6e (d+1) t p b4 hlin
        rw [b3,this] at hd0
        cases hd0
       ·rw [b3] at hd0
        simp only [okD,linD,if_neg h5,hd0,Bool.and_false]
      exact .some ⟨by rw [this],fun h=>by rw [this] at h;cases h⟩
     ·have hlin:linD w (d+1) t p=true:=by
       by_cases h5:p.op=5
       ·simp only [linD,b5,if_pos h5,b6 h5,Bool.and_self]
       ·rw [b3] at hs'
        simp only [linD,b5,if_neg h5,hs',Bool.and_self]
      have:okD w (d+1) t p c=true:=by simp [okD,b4,b2,hlin]
      exact .some ⟨by rw [this],fun _=>⟨b3,b1⟩⟩
theorem W3u (w:List Q4)(t:Q1)(p:Q0):okD w 10 t p 0=Q0u w t p:=by simp [okD,Q0u]
theorem W70 {w:List Q4}(hw:WW w):∀ (d:Nat) (t:Q1) (p:Q0),t∈tys w→Q18 w d t p=true→∀ v∈Q3a w d t p,v.typ∈tys w:=by
 intro d
 induction d with
 | zero=>intro t p ht hg;cases hg
 | succ d ih=>
  intro t p ht hg v hv
  obtain ⟨ho,_⟩:=Q54 (Q4a hg)
  simp only [Q3a,List.mem_append,List.mem_flatMap] at hv
  rcases hv with hv | ⟨x,hx,hv⟩
  ·unfold ownV at hv
   split at hv
   ·simp at hv
    subst hv
    exact ht
   ·simp at hv
  ·have hx:=List.mem_of_mem_take hx
   obtain ⟨j,hj⟩:=List.mem_iff_getElem?.1 hx
   obtain ⟨h3,h4⟩:=List.getElem?_zip_eq_some.1 hj
   exact ih x.1 x.2 (Q7c (hw.ty t ht) ht ho x.1 (U1 h3)) (Q26 hg h3 h4) v hv
def X0c (g:Q34)(vars:List Q9):Bool:=if g.op=0 then decide (g.var=0)&&decide (g.n=0) else decide (g.op=1∨g.op=2)&&(decide (0≤g.n)&&decide (g.n≤9))&&decide (⟨g.var,tI⟩∈vars)
def Q72 (w:List Q4)(t:Q1)(c:Q5):Bool:=Q0u w t c.pat&&X0c c.guard (Q3a w 10 t c.pat)
def Y5 (w:List Q4)(t:Q1)(l:List Q5):Bool:=decide (l.length≤8)&&l.all (Q72 w t)
theorem X40 (g:Q34)(vars:List Q9):Q65 g vars=some (X0c g vars):=by
 unfold Q65 X0c
 simp only [Q77,Z8l,U0]
 by_cases h0:g.op=0
 ·simp [ieq,h0,Q7j]
 ·rw [if_neg (by rw [X2];exact h0),if_neg h0]
  have e:(decide (1≤g.op)&&decide (g.op≤2))=decide (g.op=1∨g.op=2):=by
   rw [←Bool.decide_and]
   exact decide_eq_decide.2 (by omega)
  rw [e]
  have et:(Q1.mk (-1) 0)=tI:=rfl
  rw [et]
  cases decide (g.op=1∨g.op=2)<;>cases (decide (0≤g.n)&&decide (g.n≤9))<;>rfl
theorem X2w {w:List Q4}(hw:WW w)(g:Q34)(vars:List Q9)(hd:Q27 vars=true)(ht:∀ v∈vars,v.typ∈tys w):Q4y g vars=some (X0c g vars):=by
 have h:Ret (Q4y g vars) (fun r=>r=X0c g vars):=by
  unfold Q4y X0c
  by_cases h0:g.op=0
  ·rw [if_pos (by rw [X2];exact h0),if_pos h0]
   by_cases h1:g.var=0<;>simp [ieq,h1,Ret]
  ·rw [if_neg (by rw [X2];exact h0),if_neg h0]
   refine Ret.ctl (R:=fun r=>r=false∧(decide (g.op=1∨g.op=2)&&(decide (0≤g.n)&&decide (g.n≤9)))=false) (B:=fun _=>(decide (g.op=1∨g.op=2)&&(decide (0≤g.n)&&decide (g.n≤9)))=true) ?_ (fun r hr=>?_) (fun s hs=>?_)
   ·by_cases h1:g.op=1<;>by_cases h2:g.op=2<;>by_cases h3:g.n<0<;>by_cases h4:9<g.n<;>simp [ieq,ilt,h1,h2,h3,h4,Ret]<;>omega
   ·obtain ⟨rfl,hr⟩:=hr
    exact .some (by rw [hr];rfl)
   ·rw [hs,Bool.true_and]
    refine Ret.bind (X76 vars g.var) (fun i hi=>?_)
    rcases hi with ⟨q,x,rfl,hx,hv,_⟩ | ⟨rfl,hno⟩
    ·have h1:ile 0 ((q:Nat):Int)=true:=by rw [J1];omega
     rw [if_pos h1,Q1m hx]
     refine .some ?_
     have hxm:=U1 hx
     simp only [ieq]
     refine decide_eq_decide.2 ⟨fun hdt=>?_,fun hm=>?_⟩
     ·have:=((hw.ty x.typ (ht x hxm)).ti hdt).1
      have:x=⟨g.var,tI⟩:=by cases x;simp at hv this;simp [hv,this]
      rw [←this]
      exact hxm
     ·obtain ⟨j,hj⟩:=List.mem_iff_getElem?.1 hm
      have:=Q8n hd hx hj hv
      subst this
      rw [hx] at hj
      cases hj
      rfl
    ·have h1:¬ile 0 (-1)=true:=by decide
     rw [if_neg h1]
     refine .some ?_
     symm
     exact decide_eq_false fun hm=>hno _ hm rfl
 obtain ⟨r,e,rfl⟩:=h
 exact e
theorem Z1x {w:List Q4}(hw:WW w){n:Nat}(hn:100≤n)(t:Q1)(p:Q0)(ht:t∈tys w):Ret (Q2d n w t p) (fun r=>r.2=Q0u w t p∧(Q0u w t p=true→r.1=Q3a w 10 t p)):=by
 unfold Q2d
 have h:=V1y hw 10 n t p 0 ht (by omega) (by omega) (by omega)
 have e1:(11:Int)-((10:Nat):Int)=1:=rfl
 rw [e1] at h
 refine Ret.bind h (fun r hr=>.some ?_)
 rw [W3u] at hr
 exact ⟨hr.1,fun hv=>(hr.2 hv).1⟩
theorem X13 {w:List Q4}(hw:WW w){n:Nat}(hn:100≤n)(t:Q1)(c:Q5)(ht:t∈tys w):Q46 n w t c=some (Q72 w t c):=by
 have h:Ret (Q46 n w t c) (fun r=>r=Q72 w t c):=by
  unfold Q46 Q72
  refine Ret.bind (Z1x hw hn t c.pat ht) (fun r hr=>?_)
  obtain ⟨h1,h2⟩:=hr
  rw [h1]
  cases hv:Q0u w t c.pat with
  | false=>exact .some rfl
  | true=>
   rw [if_pos rfl,X40,h2 hv]
   exact .some rfl
 obtain ⟨r,e,rfl⟩:=h
 exact e
theorem Q4w {w:List Q4}{t:Q1}{p:Q0}(h:Q0u w t p=true):Q18 w 10 t p=true∧cntP p≤60∧linD w 10 t p=true:=by
 simpa [Q0u] using h
theorem X0q {w:List Q4}(hw:WW w){n:Nat}(hn:100≤n)(t:Q1)(c:Q5)(ht:t∈tys w):Q84 n w t c=some (Q72 w t c):=by
 unfold Q84 Q72
 rw [Z31 hw hn t c.pat ht]
 simp only [U0]
 cases hv:Q0u w t c.pat with
 | false=>rfl
 | true=>
  obtain ⟨g1,g2,g3⟩:=Q4w hv
  rw [if_pos rfl,(Q6v hw 10 n t c.pat [] ht g1 (by omega) (by simp;omega)).1]
  simp only [U0,List.nil_append]
  rw [X2w hw c.guard _ (Q6e 10 t c.pat g1 g3) (W70 hw 10 t c.pat ht g1)]
  rfl
theorem Z0s {w:List Q4}(hw:WW w){t:Q1}(ht:t∈tys w):Q1s NN w t=some true:=by
 unfold Q1s
 rw [hw.v1]
 simp only [U0,if_true]
 rw [(hw.ty t ht).t1]
 rfl
theorem X2r {w:List Q4}(hw:WW w){t:Q1}(ht:t∈tys w):Q38 NN w t=some true:=by
 unfold Q38
 rw [hw.v2]
 simp only [U0,if_true]
 rw [(hw.ty t ht).t2]
 rfl
theorem Q3x {w:List Q4}(hw:WW w){t:Q1}(ht:t∈tys w)(l:List Q5):J2 NN w t l=some (Y5 w t l):=by
 unfold J2 Y5
 rw [Z0s hw ht]
 simp only [U0,if_true]
 by_cases hl:l.length≤8
 ·rw [if_pos (by rw [J1];simp only [lenZ];omega)]
  rw [Z63 l _ (fun c=>!Q72 w t c) (fun c _=>by unfold Q3l;rw [X13 hw (by decide) t c ht];rfl)]
  simp only [U0,hl,decide_true,Bool.true_and,Option.some.injEq]
  rw [Bool.eq_iff_iff]
  simp
 ·rw [if_neg (by rw [J1];simp only [lenZ];omega)]
  simp [hl]
theorem Q74 {w:List Q4}(hw:WW w){t:Q1}(ht:t∈tys w)(l:List Q5):Q01 NN w t l=some (Y5 w t l):=by
 have h:Ret (Q01 NN w t l) (fun r=>r=Y5 w t l):=by
  unfold Q01 Y5
  rw [X2r hw ht]
  simp only [U0,Bool.not_true,U2,if_false]
  by_cases hl:l.length≤8
  ·rw [if_neg (by rw [Z9];simp only [lenZ];omega)]
   simp only [hl,decide_true,Bool.true_and]
   refine Ret.ctl (Z1 l (fun k _=>∀ j c,j<k→l[j]?=some c→Q72 w t c=true) (fun r=>r=false∧l.all (Q72 w t)=false) (fun _=>l.all (Q72 w t)=true) (fun j c hj=>by omega) (fun k c s hc hI=>?_) (fun s hI=>?_)) (fun r hr=>?_) (fun s hs=>?_)
   ·rw [X0q hw (by decide) t c ht]
    simp only [U0]
    cases hb:Q72 w t c with
    | false=>
     refine .some ⟨rfl,?_⟩
     rw [List.all_eq_false]
     exact ⟨c,U1 hc,by simp [hb]⟩
    | true=>
     refine .some (fun j c' hj hc'=>?_)
     by_cases hjk:j=k
     ·subst hjk
      rw [hc] at hc'
      cases hc'
      exact hb
     ·exact hI j c' (by omega) hc'
   ·rw [List.all_eq_true]
    intro c hc
    obtain ⟨j,hj⟩:=List.mem_iff_getElem?.1 hc
    exact hI j c ((List.getElem?_eq_some_iff.1 hj).1) hj
   ·exact .some (by rw [hr.1,hr.2])
   ·exact .some hs.symm
  ·rw [if_pos (by rw [Z9];simp only [lenZ];omega)]
   exact .some (by simp [hl])
 obtain ⟨r,e,rfl⟩:=h
 exact e
def Q1j (w:List Q4):Nat→Q1→Q3→Prop
 | 0,_,_=>False
 | d+1,t,v=>if t.data = -1 then v.ctor = -1∧0≤v.n∧v.n≤9∧v.kids=[] else v.n=0∧v.ctor∈X1 w t∧v.kids.length=(Z6 w t v.ctor).length∧∀ (j:Nat) (a:Q1) (x:Q3),(Z6 w t v.ctor)[j]?=some a→v.kids[j]?=some x→Q1j w d a x
def Q4u (f:Q0→Q3→Option (List X3)):List Q0→List Q3→Option (List X3)
 | [],_=>some []
 | _::_,[]=>none
 | p::ps,v::vs=>match f p v with
  | none=>none
  | some l=>match Q4u f ps vs with
   | none=>none
   | some m=>some (l++m)
def V5:Nat→Q0→Q3→Option (List X3)
 | 0,_,_=>none
 | d+1,p,v=>
  if p.op=1 then some []
  else if p.op=2 then some [⟨p.var,v⟩]
  else if p.op=3 then (if p.n≤v.n∧v.n≤p.m then some [] else none)
  else if p.op=5 then (match p.kids with
   | [a,b]=>(match V5 d a v with | some l=>some l | none=>V5 d b v)
   | _=>none)
  else if p.op=6 then (match p.kids with
   | [a]=>(V5 d a v).map (fun l=>⟨p.var,v⟩::l)
   | _=>none)
  else if p.ctor=v.ctor then Q4u (V5 d) p.kids v.kids else none
theorem X6c {w:List Q4}{t:Q1}{p:Q0}(h6:p.op=6)(hl:p.kids.length=(Y2 w t p).length):∃ a,p.kids=[a]∧Y2 w t p=[t]:=by
 have hk:Y2 w t p=[t]:=by simp [Y2,h6]
 rw [hk] at hl
 match hkids:p.kids,hl with
 | [a],_=>exact ⟨a,rfl,hk⟩
theorem W7w {w:List Q4}(hw:WW w):∀ (d n:Nat) (t:Q1) (p:Q0) (v:Q3) (e:Nat),t∈tys w→Q18 w d t p=true→Q1j w e t v→d+2≤n→cntP p≤1000→
  Ret (Q3k n p v) (fun r=>r.1.length≤cntP p∧r.2=(V5 d p v).isSome∧∀ l,V5 d p v=some l→r.1=l):=by
 intro d
 induction d with
 | zero=>intro n t p v e ht h;cases h
 | succ d ih=>
  intro n t p v e ht hg hv hn hc
  obtain ⟨n,rfl⟩:∃ k,n=k+1:=⟨n-1,by omega⟩
  obtain ⟨ho,hl⟩:=Q54 (Q4a hg)
  have hT:=hw.ty t ht
  have hpos:=Q7m p
  unfold Q3k
  refine Ret.ite (fun h=>?_) (fun h1=>?_)
  ·rw [X2] at h
   exact .some ⟨by simp,by simp [V5,h],fun l hl=>by simp [V5,h] at hl;exact hl.symm⟩
  rw [X0] at h1
  refine Ret.ite (fun h=>?_) (fun h2=>?_)
  ·rw [X2] at h
   exact .some ⟨by simp;omega,by simp [V5,h],fun l hl=>by simp [V5,h] at hl;exact hl⟩
  rw [X0] at h2
  refine Ret.ite (fun h=>?_) (fun h3=>?_)
  ·rw [X2] at h
   rw [Q77]
   refine .some ⟨by simp,?_,fun l hl=>?_⟩
   ·by_cases hr:p.n≤v.n∧v.n≤p.m
    ·simp [V5,h,hr]
    ·simp only [V5,h]
     simp [hr]
     simpa using hr
   ·simp only [V5,h] at hl
    simp at hl
    exact hl.2.symm
  rw [X0] at h3
  refine Ret.ite (fun h=>?_) (fun h5=>?_)
  ·rw [X2] at h
   obtain ⟨a,b,hkids,hk⟩:=kid0 h hl
   have ca:=Q7k (p:=p) (k:=0) (by rw [hkids];rfl)
   have cb:=Q7k (p:=p) (k:=1) (by rw [hkids];rfl)
   have ga:=Q26 hg (k:=0) (by rw [hk];rfl) (by rw [hkids];rfl)
   have gb:=Q26 hg (k:=1) (by rw [hk];rfl) (by rw [hkids];rfl)
   have i0:idx [a,b] 0=some a:=rfl
   have i1:idx [a,b] 1=some b:=rfl
   rw [hkids,i0,i1]
   simp only [U0]
   have hm:V5 (d+1) p v=(match V5 d a v with | some l=>some l | none=>V5 d b v):=by
    simp [V5,h,hkids]<;>rfl
   rw [hm]
   refine Ret.bind (ih n t a v e ht ga hv (by omega) (by omega)) (fun r hr=>?_)
   obtain ⟨r0,r1,r2⟩:=hr
   rw [r1]
   cases hma:V5 d a v with
   | some l=>exact .some ⟨by simp only;omega,rfl,fun l' hl'=>by cases hl';exact r2 l hma⟩
   | none=>
    simp only [Option.isSome_none,U2,if_false]
    refine Ret.bind (ih n t b v e ht gb hv (by omega) (by omega)) (fun s hs=>?_)
    obtain ⟨s0,s1,s2⟩:=hs
    exact .some ⟨by simp only;omega,s1,fun l' hl'=>s2 l' hl'⟩
  rw [X0] at h5
  refine Ret.ite (fun h=>?_) (fun h6=>?_)
  ·rw [X2] at h
   obtain ⟨a,hkids,hk⟩:=X6c h hl
   have ca:=Q7k (p:=p) (k:=0) (by rw [hkids];rfl)
   have ga:=Q26 hg (k:=0) (by rw [hk];rfl) (by rw [hkids];rfl)
   have i0:idx [a] 0=some a:=rfl
   rw [hkids,i0]
   simp only [U0]
   have hm:V5 (d+1) p v=(V5 d a v).map (fun l=>⟨p.var,v⟩::l):=by
    simp [V5,h,hkids]
   rw [hm]
   refine Ret.bind (ih n t a v e ht ga hv (by omega) (by omega)) (fun r hr=>?_)
   obtain ⟨r0,r1,r2⟩:=hr
   rw [W5 (by simp [Q7];omega)]
   refine .some ⟨by simp;omega,by rw [r1];simp,fun l' hl'=>?_⟩
   simp only [U11] at hl'
   obtain ⟨l,e1,rfl⟩:=hl'
   rw [r2 l e1]
   rfl
  rw [X0] at h6
  have h4:p.op=4:=by
   simp [Q9j,h1,h2,h3,h5,h6] at ho
   exact ho.2.1
  have hcm:=Q9i ho h4
  have hm:V5 (d+1) p v=if p.ctor=v.ctor then Q4u (V5 d) p.kids v.kids else none:=by
   simp [V5,h4]
  rw [hm]
  refine Ret.ite (fun h=>?_) (fun h=>?_)
  ·rw [Bool.not_eq_true',X0] at h
   rw [if_neg h]
   exact .some ⟨by simp,rfl,fun l hl=>by cases hl⟩
  ·rw [Bool.not_eq_false',X2] at h
   rw [if_pos h]
   have hkt:Y2 w t p=Z6 w t p.ctor:=by simp [Y2,h4]
   obtain ⟨e,rfl⟩:∃ e',e=e'+1:=by cases e with
    | zero=>exact hv.elim
    | succ e=>exact ⟨e,rfl⟩
   have hdata:t.data≠-1:=fun hd=>by
    obtain ⟨rfl,_⟩:=hT.ti hd
    have:X1 w tI=[]:=rfl
    rw [this] at hcm
    cases hcm
   simp only [Q1j,if_neg hdata] at hv
   obtain ⟨v1,v2,v3,v4⟩:=hv
   rw [←h] at v3 v4
   have hlen:p.kids.length=v.kids.length:=by rw [v3,hl,hkt]
   refine Ret.ctl (Z1 p.kids (fun k s=>Q4u (V5 d) p.kids v.kids=(Q4u (V5 d) (p.kids.drop k) (v.kids.drop k)).map (fun l=>s++l)∧s.length≤cntP.cntPs (p.kids.take k)) (fun r=>r=([],false)∧Q4u (V5 d) p.kids v.kids=none)
    (fun s=>Q4u (V5 d) p.kids v.kids=some s∧s.length≤cntP.cntPs p.kids) ⟨by simp,by simp⟩ (fun k q s hq hI=>?_) (fun s hI=>?_)) (fun r hr=>?_) (fun s hs=>?_)
   ·obtain ⟨i1,i2⟩:=hI
    have hlt:=(List.getElem?_eq_some_iff.1 hq).1
    have hx:v.kids[k]?=some (v.kids[k]'(by omega)):=by simp
    have ha:(Y2 w t p)[k]?=some ((Y2 w t p)[k]'(by omega)):=by simp
    rw [Q1m hx]
    simp only [U0]
    have cq:=Q7k hq
    have hcd:=Q5u p.kids k q hq
    have hct:=Q28 p.kids (k+1)
    have hcp:=Q36 p
    refine Ret.bind (ih n _ q _ e (Q7c hT ht ho _ (U1 ha)) (Q26 hg ha hq) (v4 k _ _ (by rw [←hkt];exact ha) hx) (by omega) (by omega)) (fun r hr=>?_)
    obtain ⟨r0,r1,r2⟩:=hr
    have hd1:p.kids.drop k=q::p.kids.drop (k+1):=by
     rw [List.drop_eq_getElem_cons hlt]
     rw [U9 hlt] at hq
     cases hq
     rfl
    have hd2:v.kids.drop k=v.kids[k]'(by omega)::v.kids.drop (k+1):=List.drop_eq_getElem_cons (by omega)
    rw [hd1,hd2] at i1
    simp only [Q4u] at i1
    cases hmq:V5 d q (v.kids[k]'(by omega)) with
    | none=>
     rw [hmq] at i1 r1
     rw [r1]
     exact .some ⟨rfl,i1⟩
    | some l=>
     rw [hmq] at i1 r1
     have e1:=r2 l hmq
     rw [r1]
     simp only [Option.isSome_some,Bool.not_true,U2,if_false]
     rw [W5 (by simp only [Q7];omega),e1]
     refine .some ⟨?_,by rw [U5,←e1];omega⟩
     rw [i1]
     cases Q4u (V5 d) (p.kids.drop (k+1)) (v.kids.drop (k+1)) with
     | none=>rfl
     | some m=>simp
   ·obtain ⟨i1,i2⟩:=hI
    rw [List.take_length] at i2
    refine ⟨?_,i2⟩
    rw [i1,List.drop_length]
    simp [Q4u]
   ·obtain ⟨rfl,hr⟩:=hr
    exact .some ⟨by simp,by rw [hr];rfl,fun l hl=>by rw [hr] at hl;cases hl⟩
   ·have hcp:=Q36 p
    exact .some ⟨by simp only;omega,by rw [hs.1];rfl,fun l hl=>by rw [hs.1] at hl;cases hl;rfl⟩
def W1p:Nat→Q0→Prop
 | 0,_=>False
 | d+1,p=>∀ q∈p.kids,W1p d q
theorem Q0.ext' {a b:Q0}(h1:a.op=b.op)(h2:a.ctor=b.ctor)(h3:a.n=b.n)(h4:a.m=b.m)(h5:a.var=b.var)(h6:a.kids=b.kids):a=b:=by
 cases a;cases b;simp_all
theorem Z3o {w:List Q4} : ∀ (d:Nat) (t:Q1) (p:Q0),Q18 w d t p=true→W1p d p:=by
 intro d
 induction d with
 | zero=>intro t p h;cases h
 | succ d ih=>
  intro t p h q hq
  obtain ⟨ho,hl⟩:=Q54 (Q4a h)
  obtain ⟨j,hj⟩:=List.mem_iff_getElem?.1 hq
  have hjl:=(List.getElem?_eq_some_iff.1 hj).1
  exact ih _ q (Q26 h (show (Y2 w t p)[j]?=some ((Y2 w t p)[j]'(by omega)) by simp) hj)
theorem W09:∀ (d n:Nat) (p:Q0),W1p d p→d≤n→cntP p≤1000→Q1c n p=some p:=by
 intro d
 induction d with
 | zero=>intro n p h;exact h.elim
 | succ d ih=>
  intro n p h hn hc
  obtain ⟨n,rfl⟩:∃ k,n=k+1:=⟨n-1,by omega⟩
  have hcp:=Q36 p
  have hr:Ret (Q1c (n+1) p) (fun r=>r=p):=by
   unfold Q1c
   refine Ret.ctl (Z1 p.kids (fun k s=>s=p.kids.take k∧s.length≤cntP.cntPs (p.kids.take k)) (fun _=>False) (fun s=>s=p.kids) ⟨by simp,by simp⟩ (fun k q s hq hI=>?_) (fun s hI=>?_)) (fun r hr=>hr.elim) (fun s hs=>.some (Q0.ext' rfl rfl rfl rfl rfl hs))
   ·obtain ⟨i1,i2⟩:=hI
    have hct:=Q28 p.kids (k+1)
    have hcd:=Q5u p.kids k q hq
    have hq1:=Q7m q
    rw [ih n q (h q (U1 hq)) (by omega) (by omega)]
    simp only [U0]
    rw [W5 (by simp only [Q7,U3,U4];omega)]
    exact .some ⟨by rw [i1,List.take_add_one,hq];rfl,by simp;omega⟩
   ·rw [hI.1,List.take_length]
  obtain ⟨r,e,rfl⟩:=hr
  exact e
theorem X5u:∀ (d n:Nat) (p:Q0),W1p d p→d≤n→cntP p≤1000→Q3e n p=some p:=by
 intro d
 induction d with
 | zero=>intro n p h;exact h.elim
 | succ d ih=>
  intro n p h hn hc
  obtain ⟨n,rfl⟩:∃ k,n=k+1:=⟨n-1,by omega⟩
  have hcp:=Q36 p
  have hr:Ret (Q3e (n+1) p) (fun r=>r=p):=by
   unfold Q3e
   refine Ret.ctl (Z1 p.kids (fun k s=>s=p.kids.take k∧s.length≤cntP.cntPs (p.kids.take k)) (fun _=>False) (fun s=>s=p.kids) ⟨by simp,by simp⟩ (fun k q s hq hI=>?_) (fun s hI=>?_)) (fun r hr=>hr.elim) (fun s hs=>.some (Q0.ext' rfl rfl rfl rfl rfl hs))
   ·obtain ⟨i1,i2⟩:=hI
    have hct:=Q28 p.kids (k+1)
    have hcd:=Q5u p.kids k q hq
    have hq1:=Q7m q
    rw [ih n q (h q (U1 hq)) (by omega) (by omega)]
    simp only [U0]
    rw [W5 (by simp only [Q7,U3,U4];omega)]
    exact .some ⟨by rw [i1,List.take_add_one,hq];rfl,by simp;omega⟩
   ·rw [hI.1,List.take_length]
  obtain ⟨r,e,rfl⟩:=hr
  exact e
def tupD (out:List (List Q0))(l:List Q0):List (List Q0):=out.flatMap fun q=>l.map fun c=>q++[c]
def Q8r (p:Q0)(ks:List Q0):Q0:=Q0.mk p.op p.ctor p.n p.m p.var ks
def Z3:Nat→Q0→List Q0
 | 0,_=>[]
 | d+1,p=>if p.op=5 then p.kids.flatMap (Z3 d) else ((p.kids.map (Z3 d)).foldl tupD [[]]).map (Q8r p)
def orOk:Nat→Q0→Prop
 | 0,_=>False
 | d+1,p=>p.kids.length≤3∧(p.op=5→p.kids.length=2)∧∀ x∈p.kids,orOk d x
def Q7g (l:List Nat):Nat:=l.foldl (· * ·) 1
theorem Z85 (l:List Nat):∀ a,l.foldl (· * ·) a=a * l.foldl (· * ·) 1:=by
 induction l with
 | nil=>intro a;simp
 | cons x l ih=>intro a;simp only [List.foldl_cons];rw [ih (a * x),ih (1 * x)];rw [Nat.one_mul,Nat.mul_assoc]
theorem W00 (l:List Nat)(x:Nat):Q7g (l++[x])=Q7g l * x:=by simp [Q7g]
theorem Z3c {l:List Nat}(h:∀ x∈l,1≤x):1≤Q7g l:=by
 induction l with
 | nil=>simp [Q7g]
 | cons x l ih=>
  have h1:=h x (by simp)
  have h2:=ih fun y hy=>h y (by simp [hy])
  have:Q7g (x::l)=x * Q7g l:=by simp only [Q7g,List.foldl_cons];rw [Z85,Nat.one_mul]
  rw [this];exact Nat.mul_pos h1 h2
theorem Z3b {l:List Nat}(h:∀ x∈l,1≤x):∀ k,Q7g (l.take k)≤Q7g l:=by
 induction l with
 | nil=>intro k;simp
 | cons x l ih=>
  intro k
  have c:∀ m,Q7g (x::m)=x * Q7g m:=fun m=>by simp only [Q7g,List.foldl_cons];rw [Z85,Nat.one_mul]
  cases k with
  | zero=>simp only [List.take_zero];show 1≤_;exact Z3c h
  | succ k=>simp only [List.take_succ_cons,c];exact Nat.mul_le_mul_left _ (ih (fun y hy=>h y (by simp [hy])) k)
theorem X5o (out:List (List Q0))(l:List Q0):(tupD out l).length=out.length * l.length:=by
 unfold tupD
 induction out with
 | nil=>simp
 | cons q out ih=>simp only [List.flatMap_cons,U5,ih,U7,U3];rw [Nat.add_mul,Nat.one_mul,Nat.add_comm]
theorem X0n:∀ (ls:List (List Q0)) (out:List (List Q0)),(ls.foldl tupD out).length=out.length * Q7g (ls.map List.length)
 | [],out=>by simp [Q7g]
 | l::ls,out=>by
  rw [List.foldl_cons,X0n ls,X5o,List.map_cons]
  have:Q7g (l.length::ls.map List.length)=l.length * Q7g (ls.map List.length):=by simp only [Q7g,List.foldl_cons];rw [Z85,Nat.one_mul]
  rw [this,Nat.mul_assoc]
theorem Z2x (d:Nat)(p:Q0):(Z3 (d+1) p).length=if p.op=5 then (p.kids.map fun x=>(Z3 d x).length).sum else Q7g (p.kids.map fun x=>(Z3 d x).length):=by
 simp only [Z3]
 split
 ·rw [List.length_flatMap]
 ·rw [U7,X0n];simp [List.map_map,Function.comp_def]
theorem Z0f:∀ (d:Nat) (p:Q0),orOk d p→1≤(Z3 d p).length:=by
 intro d
 induction d with
 | zero=>intro p h;exact h.elim
 | succ d ih=>
  intro p h
  obtain ⟨h1,h2,h3⟩:=h
  rw [Z2x]
  split
  ·rename_i h5
   have hl:=h2 h5
   match hk:p.kids,hl with
   | [a,b],_=>
    have ha:=ih a (h3 a (by simp [hk]))
    simp
    omega
  ·refine Z3c fun x hx=>?_
   obtain ⟨q,hq,rfl⟩:=U10.1 hx
   exact ih q (h3 q hq)
theorem V2a {a b m:Nat}(ha:1≤a)(hb:1≤b):min (min a m * min b m) m=min (a * b) m:=by
 rcases Nat.le_total a m with h1 | h1<;>rcases Nat.le_total b m with h2 | h2
 ·rw [Nat.min_eq_left h1,Nat.min_eq_left h2]
 ·rw [Nat.min_eq_left h1,Nat.min_eq_right h2,Nat.min_eq_right,Nat.min_eq_right]
  ·exact Nat.le_trans h2 (Nat.le_mul_of_pos_left _ ha)
  ·exact Nat.le_mul_of_pos_left _ ha
 ·rw [Nat.min_eq_right h1,Nat.min_eq_left h2,Nat.min_eq_right,Nat.min_eq_right]
  ·exact Nat.le_trans h1 (Nat.le_mul_of_pos_right _ hb)
  ·exact Nat.le_mul_of_pos_right _ hb
 ·rw [Nat.min_eq_right h1,Nat.min_eq_right h2]
  rcases Nat.eq_zero_or_pos m with rfl | hm
  ·simp
  ·rw [Nat.min_eq_right (Nat.le_mul_of_pos_left _ hm),Nat.min_eq_right (Nat.le_trans h2 (Nat.le_mul_of_pos_left _ ha))]
theorem W4c (a b:Nat):imin (a:Int) (b:Int)=((min a b:Nat):Int):=by
 unfold imin
 split<;>omega
theorem X1q:∀ (d n:Nat) (p:Q0),orOk d p→d≤n→Q1d n p=some ((min (Z3 d p).length 401:Nat):Int):=by
 intro d
 induction d with
 | zero=>intro n p h;exact h.elim
 | succ d ih=>
  intro n p h hn
  obtain ⟨n,rfl⟩:∃ k,n=k+1:=⟨n-1,by omega⟩
  obtain ⟨h1,h2,h3⟩:=h
  have hl:∀ k q,p.kids[k]?=some q→(p.kids.map fun x=>(Z3 d x).length).take (k+1)=(p.kids.map fun x=>(Z3 d x).length).take k++[(Z3 d q).length]:=fun k q hq=>by
   rw [List.take_add_one];simp [hq]
  have hpos:∀ x∈(p.kids.map fun x=>(Z3 d x).length),1≤x:=fun x hx=>by
   obtain ⟨q,hq,rfl⟩:=U10.1 hx
   exact Z0f d q (h3 q hq)
  have hr:Ret (Q1d (n+1) p) (fun r=>r=((min (Z3 (d+1) p).length 401:Nat):Int)):=by
   unfold Q1d
   rw [Z2x]
   by_cases h5:p.op=5
   ·have e5:ieq p.op 5=true:=by simp [ieq,h5]
    simp only [e5,if_true,U0]
    rw [if_pos h5]
    refine Ret.ctl (Z1 p.kids (fun k s=>s=((min ((p.kids.map fun x=>(Z3 d x).length).take k).sum 401:Nat):Int)) (fun _=>False) (fun s=>s=((min (p.kids.map fun x=>(Z3 d x).length).sum 401:Nat):Int)) (by simp) (fun k q s hq hI=>?_) (fun s hI=>?_)) (fun r hr=>hr.elim) (fun s hs=>.some hs)
    ·rw [ih n q (h3 q (U1 hq)) (by omega)]
     simp only [U0]
     refine .some ?_
     simp only [Q2r]
     rw [hl k q hq,hI,List.sum_append,Q10 (by omega) (by omega)]
     have e:((min (List.take k (p.kids.map fun x=>(Z3 d x).length)).sum 401:Nat):Int)+((min (Z3 d q).length 401:Nat):Int)=((min (List.take k (p.kids.map fun x=>(Z3 d x).length)).sum 401+min (Z3 d q).length 401:Nat):Int):=by omega
     rw [e,show (401:Int)=((401:Nat):Int) from rfl,W4c]
     congr 1
     simp only [List.sum_cons,List.sum_nil]
     omega
    ·rw [hI,List.take_of_length_le (by simp)]
   ·have e5:ieq p.op 5=false:=by simp [ieq,h5]
    simp only [e5,U2,if_false,U0]
    rw [if_neg h5]
    refine Ret.ctl (Z1 p.kids (fun k s=>s=((min (Q7g ((p.kids.map fun x=>(Z3 d x).length).take k)) 401:Nat):Int)) (fun _=>False) (fun s=>s=((min (Q7g (p.kids.map fun x=>(Z3 d x).length)) 401:Nat):Int)) (by simp [Q7g]) (fun k q s hq hI=>?_) (fun s hI=>?_)) (fun r hr=>hr.elim) (fun s hs=>.some hs)
    ·rw [ih n q (h3 q (U1 hq)) (by omega)]
     simp only [U0]
     refine .some ?_
     simp only [Q2r]
     have ha:1≤Q7g ((p.kids.map fun x=>(Z3 d x).length).take k):=Z3c fun x hx=>hpos x (List.mem_of_mem_take hx)
     have hb:=Z0f d q (h3 q (U1 hq))
     rw [hl k q hq,hI,W00]
     generalize Q7g ((p.kids.map fun x=>(Z3 d x).length).take k)=a at ha
     generalize (Z3 d q).length=b at hb
     have hm:min a 401 * min b 401≤401 * 401:=Nat.mul_le_mul (Nat.min_le_right _ _) (Nat.min_le_right _ _)
     have e:((min a 401:Nat):Int) * ((min b 401:Nat):Int)=((min a 401 * min b 401:Nat):Int):=by simp
     rw [Z23 (by rw [e];omega) (by rw [e];omega),e,show (401:Int)=((401:Nat):Int) from rfl,W4c,V2a ha hb]
    ·rw [hI,List.take_of_length_le (by simp)]
  obtain ⟨r,e,rfl⟩:=hr
  exact e
theorem X1r (l:List Q0)(h:l.length≤Q7):Y1 l=some l:=by
 unfold Y1
 rw [W5 (by simpa using h)]
 rfl
theorem X3y:∀ (d n:Nat) (p:Q0),orOk d p→d≤n→(Z3 d p).length≤1000→Q2n n p=some (Z3 d p):=by
 intro d
 induction d with
 | zero=>intro n p h;exact h.elim
 | succ d ih=>
  intro n p h hn hc
  obtain ⟨n,rfl⟩:∃ k,n=k+1:=⟨n-1,by omega⟩
  obtain ⟨h1,h2,h3⟩:=h
  by_cases h5:p.op=5
  ·have e5:ieq p.op 5=true:=by simp [ieq,h5]
   unfold Q2n
   rw [if_pos e5]
   rw [Z2x,if_pos h5] at hc
   match hk:p.kids,h2 h5 with
   | [a,b],_=>
    rw [hk] at h3 hc
    simp only [List.map_cons,List.map_nil,List.sum_cons,List.sum_nil] at hc
    rw [show idx [a,b] 0=some a from rfl,show idx [a,b] 1=some b from rfl]
    simp only [U0]
    rw [ih n a (h3 a (by simp)) (by omega) (by omega),ih n b (h3 b (by simp)) (by omega) (by omega)]
    simp only [U0]
    rw [W5 (by simp only [Q7];omega)]
    simp [Z3,h5,hk]
  ·have e5:¬ieq p.op 5=true:=by simp [ieq,h5]
   rw [Z2x,if_neg h5] at hc
   have hpos:∀ x∈(p.kids.map fun x=>(Z3 d x).length),1≤x:=fun x hx=>by
    obtain ⟨q,hq,rfl⟩:=U10.1 hx
    exact Z0f d q (h3 q hq)
   have hlen:∀ k,(((p.kids.map (Z3 d)).take k).foldl tupD [[]]).length=Q7g ((p.kids.map fun x=>(Z3 d x).length).take k):=fun k=>by
    rw [X0n];simp [List.map_take,List.map_map,Function.comp_def]
   suffices hr:Ret (Q2n (n+1) p) (fun r=>r=Z3 (d+1) p) by
    obtain ⟨r,e,rfl⟩:=hr
    exact e
   unfold Q2n
   rw [if_neg e5]
   refine Ret.ctl (Z1 p.kids (fun k s=>s=(((p.kids.map (Z3 d)).take k).foldl tupD [[]]).map (Q8r p)) (fun _=>False) (fun s=>s=Z3 (d+1) p) (by simp [Q8r]) (fun k q s hq hI=>?_) (fun s hI=>?_)) (fun r hr=>hr.elim) (fun s hs=>.some hs)
   ·have hqm:=U1 hq
    have hkl:=(List.getElem?_eq_some_iff.1 hq).1
    have hnx:((p.kids.map (Z3 d)).take (k+1)).foldl tupD [[]]=tupD (((p.kids.map (Z3 d)).take k).foldl tupD [[]]) (Z3 d q):=by
     rw [List.take_add_one,List.getElem?_map,hq];simp
    have hb1:(((p.kids.map (Z3 d)).take (k+1)).foldl tupD [[]]).length≤1000:=by rw [hlen];exact Nat.le_trans (Z3b hpos _) hc
    have hb0:(((p.kids.map (Z3 d)).take k).foldl tupD [[]]).length≤1000:=by rw [hlen];exact Nat.le_trans (Z3b hpos _) hc
    have hq1:=Z0f d q (h3 q hqm)
    have ho1:1≤(((p.kids.map (Z3 d)).take k).foldl tupD [[]]).length:=by rw [hlen];exact Z3c fun x hx=>hpos x (List.mem_of_mem_take hx)
    rw [hnx,X5o] at hb1
    have hq2:(Z3 d q).length≤1000:=Nat.le_trans (Nat.le_mul_of_pos_left _ ho1) hb1
    rw [ih n q (h3 q hqm) (by omega) hq2]
    simp only [U0]
    have kl:∀ ks∈((p.kids.map (Z3 d)).take k).foldl tupD [[]],ks.length≤k:=by
     have gen:∀ (ls:List (List Q0)) (out:List (List Q0)) (m:Nat),(∀ ks∈out,ks.length≤m)→∀ ks∈ls.foldl tupD out,ks.length≤m+ls.length:=by
      intro ls
      induction ls with
      | nil=>intro out m h ks hks;simpa using h ks hks
      | cons l ls ih2=>
       intro out m h ks hks
       rw [List.foldl_cons] at hks
       have:=ih2 (tupD out l) (m+1) (fun ks hk2=>by
        simp only [tupD,List.mem_flatMap,U10] at hk2
        obtain ⟨q2,hq2,c,_,rfl⟩:=hk2
        have:=h q2 hq2
        simp;omega) ks hks
       simp only [U3];omega
     intro ks hks
     have:=gen _ [[]] 0 (by simp) ks hks
     rw [U6] at this
     omega
    generalize ho:((p.kids.map (Z3 d)).take k).foldl tupD [[]]=out at *
    rw [hnx]
    refine Ret.ctl (Z1 s (fun j u=>u=(tupD (out.take j) (Z3 d q)).map (Q8r p)) (fun _=>False) (fun u=>u=(tupD out (Z3 d q)).map (Q8r p)) (by simp [tupD]) (fun j x u hx hJ=>?_) (fun u hJ=>?_)) (fun r hr=>hr.elim) (fun u hu=>.some hu)
    ·rw [hI,List.getElem?_map] at hx
     obtain ⟨ks,hks,rfl⟩:=U11.1 hx
     have hks3:=kl ks (U1 hks)
     have hjl:=(List.getElem?_eq_some_iff.1 hks).1
     have hnj:tupD (out.take (j+1)) (Z3 d q)=tupD (out.take j) (Z3 d q)++(Z3 d q).map (fun c=>ks++[c]):=by
      rw [List.take_add_one,hks];simp [tupD]
     rw [hnj]
     refine Ret.ctl (Z1 (Z3 d q) (fun i v=>v=(tupD (out.take j) (Z3 d q)++((Z3 d q).take i).map (fun c=>ks++[c])).map (Q8r p)) (fun _=>False) (fun v=>v=(tupD (out.take j) (Z3 d q)++(Z3 d q).map (fun c=>ks++[c])).map (Q8r p)) (by simp [hJ]) (fun i c v hc2 hK=>?_) (fun v hK=>?_)) (fun r hr=>hr.elim) (fun v hv=>.some hv)
     ·simp only [Q8r]
      rw [X1r _ (by simp only [Q7];omega)]
      simp only [U0]
      rw [W5 (by simp only [Q7,U3,U4];omega)]
      simp only [U0]
      have hil:=(List.getElem?_eq_some_iff.1 hc2).1
      have hvl:v.length≤1000 * 1000+1000:=by
       rw [hK,U7,U5,X5o,U7,U6,U6]
       have:=Nat.mul_le_mul (show min j out.length≤1000 by omega) hq2
       omega
      rw [W5 (by simp only [Q7,U3,U4];omega)]
      refine .some ?_
      simp only [Q2r]
      rw [hK,List.take_add_one,hc2]
      simp [Q8r]
     ·rw [hK,List.take_length]
    ·rw [hJ,hI,U7,List.take_length]
   ·rw [hI,List.take_of_length_le (by simp)];simp [Z3,h5]
def fitP:Q0→Q3→Bool
 | ⟨op,ctor,n,m,_,kids⟩,v=>if op=1 then true else if op=3 then decide (n≤v.n∧v.n≤m) else decide (ctor=v.ctor)&&fitPs kids v.kids
where fitPs:List Q0→List Q3→Bool
 | [],[]=>true
 | p::ps,v::vs=>fitP p v&&fitPs ps vs
 | _,_=>false
abbrev fitL:=fitP.fitPs
theorem Q71 {p:Q0}(h:p.op=1)(v:Q3):fitP p v=true:=by
 cases p;simp only at h;subst h;simp [fitP]
theorem Q6r {p:Q0}(h:p.op=3)(v:Q3):fitP p v=decide (p.n≤v.n∧v.n≤p.m):=by
 cases p;simp only at h;subst h;simp [fitP]
theorem Q2e {p:Q0}(h:p.op=4)(v:Q3):fitP p v=(decide (p.ctor=v.ctor)&&fitL p.kids v.kids):=by
 cases p;simp only at h;subst h;simp [fitP]
@[simp] theorem Z6f:fitL [] []=true:=by simp [fitP.fitPs]
@[simp] theorem Q66 (p:Q0) (ps:List Q0) (v:Q3) (vs:List Q3):fitL (p::ps) (v::vs)=(fitP p v&&fitL ps vs):=by simp [fitP.fitPs]
def Z7 (w:List Q4):Nat→Q1→Q0→Prop
 | 0,_,_=>False
 | d+1,t,p=>p=Q0.mk 1 0 0 0 0 []∨(∃ n m,p=Q0.mk 3 0 n m 0 []∧t.data = -1∧0≤n∧n≤m∧m≤9)∨
  (∃ c ks,p=Q0.mk 4 c 0 0 0 ks∧t.data≠-1∧c∈X1 w t∧ks.length=(Z6 w t c).length∧∀ (j:Nat) (a:Q1) (q:Q0),(Z6 w t c)[j]?=some a→ks[j]?=some q→Z7 w d a q)
theorem Q75 (w:List Q4)(d:Nat)(t:Q1):Z7 w (d+1) t (Q0.mk 1 0 0 0 0 []):=.inl rfl
theorem Q5y {w:List Q4} : ∀ (d:Nat) (t:Q1) (p:Q0),Z7 w d t p→Z7 w (d+1) t p
 | 0,_,_,h=>h.elim
 | d+1,t,p,h=>by
  rcases h with h | h | ⟨c,ks,e,h1,h2,h3,h4⟩
  ·exact .inl h
  ·exact .inr (.inl h)
  ·exact .inr (.inr ⟨c,ks,e,h1,h2,h3,fun j a q ha hq=>Q5y d a q (h4 j a q ha hq)⟩)
theorem X66 {w:List Q4}{d e:Nat}{t:Q1}{p:Q0}(h:Z7 w d t p)(he:d≤e):Z7 w e t p:=by
 induction he with
 | refl=>exact h
 | step _ ih=>exact Q5y _ t p ih
def Q4t (f:Q0→Q0→Option Q0):List Q0→List Q0→Option (List Q0)
 | a::as,b::bs=>(f a b).bind fun x=>(Q4t f as bs).map (x::·)
 | _,_=>some []
def Q0c:Nat→Q0→Q0→Option Q0
 | 0,_,_=>none
 | d+1,a,b=>
  if a.op=1 then some b else if b.op=1 then some a
  else if a.op=3 then (if max a.n b.n≤min a.m b.m then some (Q0.mk 3 0 (max a.n b.n) (min a.m b.m) 0 []) else none)
  else if a.ctor=b.ctor then (Q4t (Q0c d) a.kids b.kids).map (fun ks=>Q0.mk 4 a.ctor 0 0 0 ks) else none
theorem X3p {f:Q0→Q0→Option Q0} : ∀ (as bs:List Q0) (vs:List Q3),as.length=vs.length→bs.length=vs.length→
  (∀ (j:Nat) (a b:Q0) (v:Q3),as[j]?=some a→bs[j]?=some b→vs[j]?=some v→((fitP a v=true∧fitP b v=true)↔∃ m,f a b=some m∧fitP m v=true))→
  ((fitL as vs=true∧fitL bs vs=true)↔∃ ms,Q4t f as bs=some ms∧fitL ms vs=true)
 | [],[],[],_,_,_=>by simp [Q4t]
 | a::as,b::bs,v::vs,h1,h2,h=>by
  have h0:=h 0 a b v rfl rfl rfl
  have ih:=X3p as bs vs (by simpa using h1) (by simpa using h2) fun j x y z e1 e2 e3=>h (j+1) x y z e1 e2 e3
  simp only [Q66,Bool.and_eq_true,Q4t]
  constructor
  ·rintro ⟨⟨g1,g2⟩,g3,g4⟩
   obtain ⟨m,e1,e2⟩:=h0.1 ⟨g1,g3⟩
   obtain ⟨ms,e3,e4⟩:=ih.1 ⟨g2,g4⟩
   exact ⟨m::ms,by simp [e1,e3],by simp [e2,e4]⟩
  ·rintro ⟨ms,e1,e2⟩
   cases hm:f a b with
   | none=>simp [hm] at e1
   | some m=>
    cases hms:Q4t f as bs with
    | none=>simp [hm,hms] at e1
    | some ms'=>
     simp [hm,hms] at e1
     subst e1
     simp only [Q66,Bool.and_eq_true] at e2
     obtain ⟨g1,g3⟩:=h0.2 ⟨m,hm,e2.1⟩
     obtain ⟨g2,g4⟩:=ih.2 ⟨ms',hms,e2.2⟩
     exact ⟨⟨g1,g2⟩,g3,g4⟩
 | [],[],_::_,h,_,_=>by simp at h
 | [],_::_,[],_,h,_=>by simp at h
 | [],_::_,_::_,h,_,_=>by simp at h
 | _::_,[],[],h,_,_=>by simp at h
 | _::_,[],_::_,_,h,_=>by simp at h
 | _::_,_::_,[],h,_,_=>by simp at h
theorem Q7v {w:List Q4}{e:Nat}{t:Q1}{v:Q3}(h:Q1j w e t v)(hd:t.data≠-1):∃ e',e=e'+1∧v.ctor∈X1 w t∧v.kids.length=(Z6 w t v.ctor).length∧∀ (j:Nat) (a:Q1) (x:Q3),(Z6 w t v.ctor)[j]?=some a→v.kids[j]?=some x→Q1j w e' a x:=by
 cases e with
 | zero=>exact h.elim
 | succ e=>
  simp only [Q1j,if_neg hd] at h
  exact ⟨e,rfl,h.2.1,h.2.2.1,h.2.2.2⟩
theorem W4z {w:List Q4}{e:Nat}{t:Q1}{v:Q3}(h:Q1j w e t v)(hd:t.data = -1):0≤v.n∧v.n≤9:=by
 cases e with
 | zero=>exact h.elim
 | succ e=>
  simp only [Q1j,if_pos hd] at h
  exact ⟨h.2.1,h.2.2.1⟩
theorem Q0z {α:Type}{l:List α}{n j:Nat}(h:l.length=n)(hj:j<n):∃ x,l[j]?=some x:=⟨l[j]'(by omega),by simp⟩
theorem X8i {w:List Q4} : ∀ (d e:Nat) (t:Q1) (a b:Q0) (x:Nat),Z7 w x t a→Z7 w d t b→∀ v,Q1j w e t v→((fitP a v=true∧fitP b v=true)↔∃ m,Q0c d a b=some m∧fitP m v=true):=by
 intro d
 induction d with
 | zero=>intro e t a b x _ h;exact h.elim
 | succ d ih=>
  intro e t a b x ha hb v hv
  cases x with
  | zero=>exact ha.elim
  | succ x=>
  rcases ha with rfl | ⟨n,m,rfl,ht,h0,h1,h2⟩ | ⟨c,ks,rfl,ht,hc,hl,hk⟩
  ·simp [Q0c,Q71]
  ·rcases hb with rfl | ⟨n',m',rfl,_,h0',h1',h2'⟩ | ⟨c',ks',rfl,ht',_⟩
   ·simp [Q0c,Q71]
   ·rw [Q6r rfl,Q6r rfl]
    simp only [Q0c]
    have e1:¬(3:Int)=1:=by decide
    simp only [e1,if_false,if_true,decide_eq_true_eq]
    split
    ·rename_i hle
     constructor
     ·intro h
      exact ⟨_,rfl,by rw [Q6r rfl];simp only [decide_eq_true_eq];omega⟩
     ·rintro ⟨m2,e2,h⟩
      cases e2
      rw [Q6r rfl] at h
      simp only [decide_eq_true_eq] at h
      omega
    ·rename_i hle
     constructor
     ·intro h;exfalso;omega
     ·rintro ⟨_,e2,_⟩;cases e2
   ·exact absurd ht ht'
  ·rcases hb with rfl | ⟨n',m',rfl,ht',_⟩ | ⟨c',ks',rfl,_,hc',hl',hk'⟩
   ·simp [Q0c,Q71]
   ·exact absurd ht' ht
   ·rw [Q2e rfl,Q2e rfl]
    simp only [Q0c]
    have e1:¬(4:Int)=1:=by decide
    have e3:¬(4:Int)=3:=by decide
    simp only [e1,e3,if_false,Bool.and_eq_true,decide_eq_true_eq]
    obtain ⟨e',rfl,gv1,gv2,gv3⟩:=Q7v hv ht
    by_cases hcc:c=c'
    ·subst hcc
     simp only [if_true]
     by_cases hcv:c=v.ctor
     ·subst hcv
      have hL:=X3p (f:=Q0c d) ks ks' v.kids (hl.trans gv2.symm) (hl'.trans gv2.symm) fun j p q u e1 e2 e3=>by
       have hj:j<(Z6 w t v.ctor).length:=by rw [←gv2];exact (List.getElem?_eq_some_iff.1 e3).1
       obtain ⟨y,hy⟩:=Q0z (l:=Z6 w t v.ctor) rfl hj
       exact ih e' y p q x (hk j y p hy e1) (hk' j y q hy e2) u (gv3 j y u hy e3)
      constructor
      ·rintro ⟨⟨_,g1⟩,_,g2⟩
       obtain ⟨ms,e1,e2⟩:=hL.1 ⟨g1,g2⟩
       exact ⟨_,by rw [e1];rfl,by rw [Q2e rfl];simp [e2]⟩
      ·rintro ⟨m,e1,e2⟩
       cases hm:Q4t (Q0c d) ks ks' with
       | none=>rw [hm] at e1;cases e1
       | some ms=>
        rw [hm] at e1
        cases e1
        rw [Q2e rfl] at e2
        simp only [Bool.and_eq_true] at e2
        obtain ⟨g1,g2⟩:=hL.2 ⟨ms,hm,e2.2⟩
        exact ⟨⟨rfl,g1⟩,rfl,g2⟩
     ·constructor
      ·rintro ⟨⟨g,_⟩,_⟩;exact absurd g hcv
      ·rintro ⟨m,e1,e2⟩
       cases hm:Q4t (Q0c d) ks ks' with
       | none=>rw [hm] at e1;cases e1
       | some ms=>
        rw [hm] at e1
        cases e1
        rw [Q2e rfl] at e2
        simp only [Bool.and_eq_true,decide_eq_true_eq] at e2
        exact absurd e2.1 hcv
    ·simp only [if_neg hcc]
     constructor
     ·rintro ⟨⟨g1,_⟩,g2,_⟩;exact absurd (g1.trans g2.symm) hcc
     ·rintro ⟨_,e1,_⟩;cases e1
def kmD (fm:Q1→Q0→Q0→List Q0)(fj:Q0→Q0→Option Q0):List Q1→List Q0→List Q0→List (List Q0)
 | t::ts,a::as,b::bs=>(fm t a b).map (fun x=>x::as)++(match fj a b with | none=>[] | some m=>(kmD fm fj ts as bs).map (m::·))
 | _,_,_=>[]
def Z1l (n m n' m':Int):List Q0:=
 (if n≤min m (n'-1) then [Q0.mk 3 0 n (min m (n'-1)) 0 []] else [])++(if max n (m'+1)≤m then [Q0.mk 3 0 (max n (m'+1)) m 0 []] else [])
def cmD (w:List Q4)(fm:Q1→Q0→Q0→List Q0)(fj:Q0→Q0→Option Q0)(t:Q1)(a b:Q0):List Q0:=
 if a.ctor=b.ctor then (kmD fm fj (Z6 w t a.ctor) a.kids b.kids).map (fun ks=>Q0.mk 4 a.ctor 0 0 0 ks) else [a]
def Q5v (w:List Q4)(t:Q1)(c:Int):Q0:=Q0.mk 4 c 0 0 0 ((Z6 w t c).map fun _=>Q0.mk 1 0 0 0 0 [])
def W0 (w:List Q4):Nat→Q1→Q0→Q0→List Q0
 | 0,_,_,_=>[]
 | d+1,t,a,b=>if b.op=1 then [] else if b.op=3 then (if a.op=1 then Z1l 0 9 b.n b.m else Z1l a.n a.m b.n b.m)
  else if a.op=1 then (X1 w t).flatMap fun c=>cmD w (W0 w d) (Q0c d) t (Q5v w t c) b
  else cmD w (W0 w d) (Q0c d) t a b
theorem V0m {fm:Q1→Q0→Q0→List Q0}{fj:Q0→Q0→Option Q0} : ∀ (ts:List Q1) (as bs:List Q0) (vs:List Q3),as.length=ts.length→bs.length=ts.length→vs.length=ts.length→
  (∀ (j:Nat) (t:Q1) (a b:Q0) (v:Q3),ts[j]?=some t→as[j]?=some a→bs[j]?=some b→vs[j]?=some v→
   ((fitP a v=true∧fitP b v=true)↔∃ m,fj a b=some m∧fitP m v=true)∧((fitP a v=true∧fitP b v=false)↔∃ x∈fm t a b,fitP x v=true))→
  ((fitL as vs=true∧fitL bs vs=false)↔∃ ks∈kmD fm fj ts as bs,fitL ks vs=true)
 | [],[],[],[],_,_,_,_=>by simp [kmD]
 | t::ts,a::as,b::bs,v::vs,h1,h2,h3,h=>by
  obtain ⟨hj,hm⟩:=h 0 t a b v rfl rfl rfl rfl
  have ih:=V0m ts as bs vs (by simpa using h1) (by simpa using h2) (by simpa using h3) fun j x y z u e1 e2 e3 e4=>h (j+1) x y z u e1 e2 e3 e4
  simp only [Q66,Bool.and_eq_true,kmD,List.mem_append,U10]
  constructor
  ·rintro ⟨⟨g1,g2⟩,g3⟩
   cases hb:fitP b v with
   | false=>
    obtain ⟨x,hx,gx⟩:=hm.1 ⟨g1,hb⟩
    exact ⟨x::as,.inl ⟨x,hx,rfl⟩,by simp [gx,g2]⟩
   | true=>
    rw [hb] at g3
    obtain ⟨m,e1,e2⟩:=hj.1 ⟨g1,hb⟩
    obtain ⟨ks,hk,gk⟩:=ih.1 ⟨g2,by simpa using g3⟩
    refine ⟨m::ks,.inr ?_,by simp [e2,gk]⟩
    rw [e1]
    exact U10.2 ⟨ks,hk,rfl⟩
  ·rintro ⟨ks,hk | hk,gk⟩
   ·obtain ⟨x,hx,rfl⟩:=hk
    simp only [Q66,Bool.and_eq_true] at gk
    obtain ⟨g1,g2⟩:=hm.2 ⟨x,hx,gk.1⟩
    exact ⟨⟨g1,gk.2⟩,by simp [g2]⟩
   ·cases e1:fj a b with
    | none=>rw [e1] at hk;simp at hk
    | some m=>
     rw [e1] at hk
     obtain ⟨ks',hk',rfl⟩:=U10.1 hk
     simp only [Q66,Bool.and_eq_true] at gk
     obtain ⟨g1,g2⟩:=hj.2 ⟨m,e1,gk.1⟩
     obtain ⟨g3,g4⟩:=ih.2 ⟨ks',hk',gk.2⟩
     exact ⟨⟨g1,g3⟩,by simp [g4]⟩
 | [],_::_,_,_,h,_,_,_=>by simp at h
 | [],[],_::_,_,_,h,_,_=>by simp at h
 | [],[],[],_::_,_,_,h,_=>by simp at h
 | _::_,[],_,_,h,_,_,_=>by simp at h
 | _::_,_::_,[],_,_,h,_,_=>by simp at h
 | _::_,_::_,_::_,[],_,_,h,_=>by simp at h
theorem X88 {n m n' m':Int}{v:Q3} : ((n≤v.n∧v.n≤m)∧¬(n'≤v.n∧v.n≤m'))↔∃ x∈Z1l n m n' m',fitP x v=true:=by
 simp only [Z1l,List.mem_append]
 constructor
 ·rintro ⟨h1,h2⟩
  by_cases h:n'≤v.n
  ·refine ⟨Q0.mk 3 0 (max n (m'+1)) m 0 [],.inr ?_,?_⟩
   ·rw [if_pos (by omega)];simp
   ·rw [Q6r rfl];simp only [decide_eq_true_eq];omega
  ·refine ⟨Q0.mk 3 0 n (min m (n'-1)) 0 [],.inl ?_,?_⟩
   ·rw [if_pos (by omega)];simp
   ·rw [Q6r rfl];simp only [decide_eq_true_eq];omega
 ·rintro ⟨x,hx,h⟩
  rcases hx with hx | hx<;>split at hx<;>simp at hx<;>subst hx<;>rw [Q6r rfl] at h<;>simp only [decide_eq_true_eq] at h<;>omega
theorem W2g {w:List Q4}{t:Q1}{c:Int}{v:Q3}(hl:v.ctor=c→v.kids.length=(Z6 w t c).length):fitP (Q5v w t c) v=decide (c=v.ctor):=by
 rw [Q5v,Q2e rfl]
 simp only
 by_cases h:c=v.ctor
 ·have hl:=hl h.symm
  have:∀ (l:List Q1) (vs:List Q3),vs.length=l.length→fitL (l.map fun _=>Q0.mk 1 0 0 0 0 []) vs=true:=by
   intro l
   induction l with
   | nil=>intro vs h;cases vs<;>simp at h ⊢
   | cons a l ih=>
    intro vs h
    cases vs with
    | nil=>simp at h
    | cons v vs=>simp [Q71,ih vs (by simpa using h)]
  simp [h,this _ _ (h▸hl)]
 ·simp [h]
theorem V1e {w:List Q4}{d e x:Nat}(hM:∀ (e:Nat) (t:Q1) (a b:Q0) (x:Nat),Z7 w x t a→Z7 w d t b→∀ v,Q1j w e t v→((fitP a v=true∧fitP b v=false)↔∃ y∈W0 w d t a b,fitP y v=true))
  {t:Q1} {c c':Int} {ks ks':List Q0} (ht:t.data≠-1) (hl:ks.length=(Z6 w t c).length) (hk:∀ (j:Nat) (a:Q1) (q:Q0),(Z6 w t c)[j]?=some a→ks[j]?=some q→Z7 w x a q)
  (hl':ks'.length=(Z6 w t c').length) (hk':∀ (j:Nat) (a:Q1) (q:Q0),(Z6 w t c')[j]?=some a→ks'[j]?=some q→Z7 w d a q) {v:Q3} (hv:Q1j w e t v) :
  ((fitP (Q0.mk 4 c 0 0 0 ks) v=true∧fitP (Q0.mk 4 c' 0 0 0 ks') v=false)↔∃ y∈cmD w (W0 w d) (Q0c d) t (Q0.mk 4 c 0 0 0 ks) (Q0.mk 4 c' 0 0 0 ks'),fitP y v=true):=by
 rw [Q2e rfl,Q2e rfl]
 simp only [cmD,Bool.and_eq_true,decide_eq_true_eq,Bool.and_eq_false_iff,decide_eq_false_iff_not]
 obtain ⟨e',rfl,gv1,gv2,gv3⟩:=Q7v hv ht
 by_cases hcc:c=c'
 ·subst hcc
  simp only [if_true,U10]
  by_cases hcv:c=v.ctor
  ·subst hcv
   have hL:=V0m (fm:=W0 w d) (fj:=Q0c d) (Z6 w t v.ctor) ks ks' v.kids hl hl' gv2 fun j y p q u e1 e2 e3 e4=>
    ⟨X8i d e' y p q x (hk j y p e1 e2) (hk' j y q e1 e3) u (gv3 j y u e1 e4),hM e' y p q x (hk j y p e1 e2) (hk' j y q e1 e3) u (gv3 j y u e1 e4)⟩
   constructor
   ·rintro ⟨⟨_,g1⟩,g2⟩
    rcases g2 with g2 | g2
    ·exact absurd rfl g2
    ·obtain ⟨k,hk1,hk2⟩:=hL.1 ⟨g1,g2⟩
     exact ⟨_,⟨k,hk1,rfl⟩,by rw [Q2e rfl];simp [hk2]⟩
   ·rintro ⟨_,⟨k,hk1,rfl⟩,h⟩
    rw [Q2e rfl] at h
    simp only [Bool.and_eq_true] at h
    obtain ⟨g1,g2⟩:=hL.2 ⟨k,hk1,h.2⟩
    exact ⟨⟨rfl,g1⟩,.inr g2⟩
  ·constructor
   ·rintro ⟨⟨g,_⟩,_⟩;exact absurd g hcv
   ·rintro ⟨_,⟨k,hk1,rfl⟩,h⟩
    rw [Q2e rfl] at h
    simp only [Bool.and_eq_true,decide_eq_true_eq] at h
    exact absurd h.1 hcv
 ·simp only [if_neg hcc,List.mem_singleton,exists_eq_left]
  rw [Q2e rfl]
  simp only [Bool.and_eq_true,decide_eq_true_eq]
  constructor
  ·exact fun h=>h.1
  ·exact fun h=>⟨h,.inl fun e2=>hcc (h.1.trans e2.symm)⟩
theorem Z0p {w:List Q4} : ∀ (d e:Nat) (t:Q1) (a b:Q0) (x:Nat),Z7 w x t a→Z7 w d t b→∀ v,Q1j w e t v→((fitP a v=true∧fitP b v=false)↔∃ y∈W0 w d t a b,fitP y v=true):=by
 intro d
 induction d with
 | zero=>intro e t a b x _ h;exact h.elim
 | succ d ih=>
  intro e t a b x ha hb v hv
  cases x with
  | zero=>exact ha.elim
  | succ x=>
  rcases hb with rfl | ⟨n',m',rfl,ht',_⟩ | ⟨c',ks',rfl,ht',hc',hl',hk'⟩
  ·simp [W0,Q71]
  ·have e1:¬(3:Int)=1:=by decide
   simp only [W0,e1,if_false,if_true]
   rcases ha with rfl | ⟨n,m,rfl,_⟩ | ⟨c,ks,rfl,ht,_⟩
   ·simp only [if_true]
    rw [←X88,Q71 rfl,Q6r rfl]
    have:=W4z hv ht'
    simp only [true_and,decide_eq_false_iff_not]
    exact ⟨fun h=>⟨this,h⟩,fun h=>h.2⟩
   ·simp only [e1,if_false]
    rw [←X88,Q6r rfl,Q6r rfl]
    simp only [decide_eq_true_eq,decide_eq_false_iff_not]
   ·exact absurd ht' ht
  ·have e1:¬(4:Int)=1:=by decide
   have e3:¬(4:Int)=3:=by decide
   simp only [W0,e1,e3,if_false]
   rcases ha with rfl | ⟨n,m,rfl,ht,_⟩ | ⟨c,ks,rfl,_,hc,hl,hk⟩
   ·simp only [if_true,List.mem_flatMap]
    obtain ⟨e',rfl,gv1,gv2,gv3⟩:=Q7v hv ht'
    have hcm:∀ c∈X1 w t,((fitP (Q5v w t c) v=true∧fitP (Q0.mk 4 c' 0 0 0 ks') v=false)↔∃ y∈cmD w (W0 w d) (Q0c d) t (Q5v w t c) (Q0.mk 4 c' 0 0 0 ks'),fitP y v=true):=fun c _=>
     V1e (x:=1) ih ht' (by simp) (fun j a q ha hq=>by
      rw [List.getElem?_map,ha] at hq
      cases hq
      exact Q75 w 0 a) hl' hk' hv
    have hw:∀ c,fitP (Q5v w t c) v=decide (c=v.ctor):=fun c=>W2g fun h=>h▸gv2
    constructor
    ·rintro ⟨_,h⟩
     obtain ⟨y,hy,gy⟩:=(hcm v.ctor gv1).1 ⟨by rw [hw];simp,h⟩
     exact ⟨y,⟨v.ctor,gv1,hy⟩,gy⟩
    ·rintro ⟨y,⟨c,hc,hy⟩,gy⟩
     exact ⟨Q71 rfl v,((hcm c hc).2 ⟨y,hy,gy⟩).2⟩
   ·exact absurd ht ht'
   ·simp only [e1,if_false]
    exact V1e ih ht' hl hk hl' hk' hv
def V3b (w:List Q4)(t:Q1):Bool:=
 (decide (depP w t≠0)||(X1 w t).all (fun k=>(Z6 w t k).any (fun a=>decide (depP w a=0))))&&decide ((X1 w t).Nodup)
def chkE (w:List Q4):Bool:=(tys w).all (V3b w)
theorem W1v:Q0a.all chkE=true:=by kernel_rfl
structure WE (w:List Q4):Prop where
 e0:∀ t∈tys w,depP w t=0→∀ k∈X1 w t,∃ a∈Z6 w t k,depP w a=0
 nd:∀ t∈tys w,(X1 w t).Nodup
theorem we {w:List Q4}(h:w∈Q0a):WE w:=by
 have h:=List.all_eq_true.1 W1v w h
 simp only [chkE,List.all_eq_true] at h
 refine ⟨fun t ht h0 k hk=>?_,fun t ht=>?_⟩
 ·have:=h t ht
  simp only [V3b,Bool.and_eq_true,Bool.or_eq_true,decide_eq_true_eq,List.all_eq_true,List.any_eq_true] at this
  rcases this.1 with h1 | h1
  ·exact absurd h0 h1
  ·exact h1 k hk
 ·have:=h t ht
  simp only [V3b,Bool.and_eq_true,decide_eq_true_eq] at this
  exact this.2
theorem X8z {w:List Q4}(hw:WW w)(he:WE w):∀ (e:Nat) (t:Q1) (v:Q3),t∈tys w→Q1j w e t v→depP w t≠0
 | 0,_,_,_,h=>h.elim
 | e+1,t,v,ht,h=>fun h0=>by
  by_cases hd:t.data = -1
  ·have:=((hw.ty t ht).ti hd).2;omega
  ·obtain ⟨e',e1,g1,g2,g3⟩:=Q7v h hd
   cases e1
   obtain ⟨a,ha,ha0⟩:=he.e0 t ht h0 _ g1
   obtain ⟨j,hj⟩:=List.mem_iff_getElem?.1 ha
   obtain ⟨x,hx⟩:=Q0z g2 (List.getElem?_eq_some_iff.1 hj).1
   exact X8z hw he e a x ((hw.ty t ht).at_ _ g1 a ha) (g3 j a x hj hx) ha0
def W1 (w:List Q4):Nat→Q1→Q0→Bool
 | 0,_,_=>false
 | d+1,t,p=>if p.op=1 then decide (depP w t=0) else if p.op=4 then ((Z6 w t p.ctor).zip p.kids).any fun x=>W1 w d x.1 x.2 else false
theorem Q4b {w:List Q4}{d:Nat}{t:Q1}{c:Int}{ks:List Q0} : W1 w (d+1) t (Q0.mk 4 c 0 0 0 ks)=true↔∃ (j:Nat) (a:Q1) (q:Q0),(Z6 w t c)[j]?=some a∧ks[j]?=some q∧W1 w d a q=true:=by
 have e1:¬(4:Int)=1:=by decide
 simp only [W1,e1,if_false,if_true,List.any_eq_true]
 constructor
 ·rintro ⟨x,hx,h⟩
  obtain ⟨j,hj⟩:=List.mem_iff_getElem?.1 hx
  rw [List.getElem?_zip_eq_some] at hj
  exact ⟨j,x.1,x.2,hj.1,hj.2,h⟩
 ·rintro ⟨j,a,q,h1,h2,h3⟩
  exact ⟨(a,q),U1 (i:=j) (by rw [List.getElem?_zip_eq_some];exact ⟨h1,h2⟩),h3⟩
theorem X4t {w:List Q4}(hw:WW w)(he:WE w):∀ (x e:Nat) (t:Q1) (p:Q0) (v:Q3),t∈tys w→Z7 w x t p→W1 w x t p=true→Q1j w e t v→fitP p v=false
 | 0,_,_,_,_,_,h,_,_=>h.elim
 | x+1,e,t,p,v,ht,hp,hem,hv=>by
  rcases hp with rfl | ⟨n,m,rfl,_⟩ | ⟨c,ks,rfl,hd,hc,hl,hk⟩
  ·simp only [W1,if_true,decide_eq_true_eq] at hem
   exact absurd hem (X8z hw he e t v ht hv)
  ·simp [W1] at hem
  ·obtain ⟨j,a,q,h1,h2,h3⟩:=Q4b.1 hem
   rw [Q2e rfl]
   simp only
   by_cases hcv:c=v.ctor
   ·subst hcv
    obtain ⟨e',rfl,g1,g2,g3⟩:=Q7v hv hd
    obtain ⟨u,hu⟩:=Q0z g2 (List.getElem?_eq_some_iff.1 h1).1
    have hf:=X4t hw he x e' a q u ((hw.ty t ht).at_ _ hc a (U1 h1)) (hk j a q h1 h2) h3 (g3 j a u h1 hu)
    have:∀ (ps:List Q0) (vs:List Q3) (j:Nat),ps[j]?=some q→vs[j]?=some u→fitL ps vs=false:=by
     intro ps
     induction ps with
     | nil=>intro vs j h;simp at h
     | cons p ps ih=>
      intro vs j h h'
      cases vs with
      | nil=>simp at h'
      | cons v vs=>
       cases j with
       | zero=>simp at h h';subst h;subst h';simp [hf]
       | succ j=>simp [ih vs j (by simpa using h) (by simpa using h')]
    simp [this ks v.kids j h2 hu]
   ·simp [hcv]
theorem Z8f {w:List Q4}(hw:WW w)(he:WE w):∀ (x:Nat) (t:Q1) (p:Q0),t∈tys w→Z7 w x t p→depP w t=0→W1 w x t p=true
 | 0,_,_,_,h,_=>h.elim
 | x+1,t,p,ht,hp,h0=>by
  rcases hp with rfl | ⟨n,m,rfl,hd,_⟩ | ⟨c,ks,rfl,hd,hc,hl,hk⟩
  ·simp [W1,h0]
  ·have:=((hw.ty t ht).ti hd).2;omega
  ·obtain ⟨a,ha,ha0⟩:=he.e0 t ht h0 c hc
   obtain ⟨j,hj⟩:=List.mem_iff_getElem?.1 ha
   obtain ⟨q,hq⟩:=Q0z hl (List.getElem?_eq_some_iff.1 hj).1
   exact Q4b.2 ⟨j,a,q,hj,hq,Z8f hw he x a q ((hw.ty t ht).at_ _ hc a ha) (hk j a q hj hq) ha0⟩
theorem Z3g {f:Q0→Q0→Option Q0} : ∀ (as bs ms:List Q0),as.length=bs.length→Q4t f as bs=some ms→ms.length=as.length∧∀ (j:Nat) (a b:Q0),as[j]?=some a→bs[j]?=some b→∃ m,f a b=some m∧ms[j]?=some m
 | [],[],ms,_,h=>by simp [Q4t] at h;subst h;simp
 | a::as,b::bs,ms,hl,h=>by
  simp only [Q4t] at h
  cases hm:f a b with
  | none=>simp [hm] at h
  | some m=>
   cases hr:Q4t f as bs with
   | none=>simp [hm,hr] at h
   | some r=>
    simp [hm,hr] at h
    subst h
    obtain ⟨h1,h2⟩:=Z3g as bs r (by simpa using hl) hr
    refine ⟨by simp [h1],fun j x y e1 e2=>?_⟩
    cases j with
    | zero=>simp at e1 e2;subst e1;subst e2;exact ⟨m,hm,rfl⟩
    | succ j=>exact h2 j x y (by simpa using e1) (by simpa using e2)
 | [],_::_,_,h,_=>by simp at h
 | _::_,[],_,h,_=>by simp at h
theorem Z7i {w:List Q4} : ∀ (d x:Nat) (t:Q1) (a b m:Q0),d≤x→Z7 w x t a→Z7 w d t b→Q0c d a b=some m→Z7 w x t m
 | 0,_,_,_,_,_,_,_,h,_=>h.elim
 | d+1,0,_,_,_,_,h,_,_,_=>by omega
 | d+1,x+1,t,a,b,m,hx,ha,hb,hm=>by
  rcases ha with rfl | ⟨n,n2,rfl,ht,h0,h1,h2⟩ | ⟨c,ks,rfl,ht,hc,hl,hk⟩
  ·simp [Q0c] at hm;subst hm;exact X66 hb hx
  ·rcases hb with rfl | ⟨n',m',rfl,_,h0',h1',h2'⟩ | ⟨c',ks',rfl,ht',_⟩
   ·simp [Q0c] at hm;subst hm;exact .inr (.inl ⟨n,n2,rfl,ht,h0,h1,h2⟩)
   ·have e1:¬(3:Int)=1:=by decide
    simp only [Q0c,e1,if_false,if_true] at hm
    split at hm
    ·cases hm;exact .inr (.inl ⟨_,_,rfl,ht,by omega,by assumption,by omega⟩)
    ·cases hm
   ·exact absurd ht ht'
  ·rcases hb with rfl | ⟨n',m',rfl,ht',_⟩ | ⟨c',ks',rfl,_,hc',hl',hk'⟩
   ·simp [Q0c] at hm;subst hm;exact .inr (.inr ⟨c,ks,rfl,ht,hc,hl,hk⟩)
   ·exact absurd ht' ht
   ·have e1:¬(4:Int)=1:=by decide
    have e3:¬(4:Int)=3:=by decide
    simp only [Q0c,e1,e3,if_false] at hm
    split at hm
    ·rename_i hcc
     subst hcc
     obtain ⟨ms,h1,h2⟩:=U11.1 hm
     subst h2
     obtain ⟨g1,g2⟩:=Z3g ks ks' ms (hl.trans hl'.symm) h1
     refine .inr (.inr ⟨c,ms,rfl,ht,hc,g1.trans hl,fun j a q ha hq=>?_⟩)
     obtain ⟨p,hp⟩:=Q0z hl (List.getElem?_eq_some_iff.1 ha).1
     obtain ⟨p',hp'⟩:=Q0z hl' (List.getElem?_eq_some_iff.1 ha).1
     obtain ⟨m,k1,k2⟩:=g2 j p p' hp hp'
     rw [hq] at k2
     cases k2
     exact Z7i d x a p p' q (by omega) (hk j a p ha hp) (hk' j a p' ha hp') k1
    ·cases hm
theorem X05 {w:List Q4}(hw:WW w)(he:WE w):∀ (d x:Nat) (t:Q1) (a b m:Q0),t∈tys w→d≤x→Z7 w x t a→Z7 w d t b→W1 w x t a=true→Q0c d a b=some m→W1 w x t m=true
 | 0,_,_,_,_,_,_,_,_,h,_,_=>h.elim
 | d+1,0,_,_,_,_,_,h,_,_,_,_=>by omega
 | d+1,x+1,t,a,b,m,htw,hx,ha,hb,hem,hm=>by
  have hmp:=Z7i (d+1) (x+1) t a b m hx ha hb hm
  rcases ha with rfl | ⟨n,n2,rfl,ht,h0,h1,h2⟩ | ⟨c,ks,rfl,ht,hc,hl,hk⟩
  ·simp only [W1,if_true,decide_eq_true_eq] at hem
   exact Z8f hw he _ t m htw hmp hem
  ·simp [W1] at hem
  ·rcases hb with rfl | ⟨n',m',rfl,ht',_⟩ | ⟨c',ks',rfl,_,hc',hl',hk'⟩
   ·simp [Q0c] at hm;subst hm;exact hem
   ·exact absurd ht' ht
   ·have e1:¬(4:Int)=1:=by decide
    have e3:¬(4:Int)=3:=by decide
    simp only [Q0c,e1,e3,if_false] at hm
    split at hm
    ·rename_i hcc
     subst hcc
     obtain ⟨ms,h1,h2⟩:=U11.1 hm
     subst h2
     obtain ⟨g1,g2⟩:=Z3g ks ks' ms (hl.trans hl'.symm) h1
     obtain ⟨j,a,q,k1,k2,k3⟩:=Q4b.1 hem
     obtain ⟨p',hp'⟩:=Q0z hl' (List.getElem?_eq_some_iff.1 k1).1
     obtain ⟨m,k4,k5⟩:=g2 j q p' k2 hp'
     exact Q4b.2 ⟨j,a,m,k1,k5,X05 hw he d x a q p' m ((hw.ty t htw).at_ _ hc a (U1 k1)) (by omega) (hk j a q k1 k2) (hk' j a p' k1 hp') k3 k4⟩
    ·cases hm
theorem X8m {fm:Q1→Q0→Q0→List Q0}{fj:Q0→Q0→Option Q0} : ∀ (ts:List Q1) (as bs:List Q0),as.length=ts.length→bs.length=ts.length→∀ ks∈kmD fm fj ts as bs,
  ks.length=ts.length∧∃ i,i<ts.length∧∀ (j:Nat) (t:Q1) (a b q:Q0),ts[j]?=some t→as[j]?=some a→bs[j]?=some b→ks[j]?=some q→(j<i→fj a b=some q)∧(j=i→q∈fm t a b)∧(i<j→q=a)
 | [],as,bs,_,_,ks,h=>by simp [kmD] at h
 | t::ts,[],_,h,_,_,_=>by simp at h
 | t::ts,_::_,[],_,h,_,_=>by simp at h
 | t::ts,a::as,b::bs,h1,h2,ks,h=>by
  simp only [kmD,List.mem_append,U10] at h
  rcases h with ⟨x,hx,rfl⟩ | h
  ·refine ⟨by simpa using h1,0,by simp,fun j t' a' b' q e1 e2 e3 e4=>⟨fun h=>by omega,fun h=>?_,fun h=>?_⟩⟩
   ·subst h;simp at e1 e2 e3 e4;subst e1;subst e2;subst e3;subst e4;exact hx
   ·cases j with
    | zero=>omega
    | succ j=>simp at e2 e4;rw [e2] at e4;cases e4;rfl
  ·cases hm:fj a b with
   | none=>rw [hm] at h;simp at h
   | some m=>
    rw [hm] at h
    obtain ⟨ks',hk',rfl⟩:=U10.1 h
    obtain ⟨g1,i,g2,g3⟩:=X8m ts as bs (by simpa using h1) (by simpa using h2) ks' hk'
    refine ⟨by simp [g1],i+1,by simpa using g2,fun j t' a' b' q e1 e2 e3 e4=>?_⟩
    cases j with
    | zero=>simp at e2 e3 e4;subst e2;subst e3;subst e4;exact ⟨fun _=>hm,fun h=>by omega,fun h=>by omega⟩
    | succ j=>
     obtain ⟨k1,k2,k3⟩:=g3 j t' a' b' q (by simpa using e1) (by simpa using e2) (by simpa using e3) (by simpa using e4)
     exact ⟨fun h=>k1 (by omega),fun h=>k2 (by omega),fun h=>k3 (by omega)⟩
theorem W5j {w:List Q4}{d x:Nat}{t:Q1}(hx:d+1≤x)(hM:∀ (t:Q1) (a b:Q0),Z7 w x t a→Z7 w d t b→∀ y∈W0 w d t a b,Z7 w x t y)(ht:t.data≠-1){c c':Int}{ks ks':List Q0}(hc:c∈X1 w t)
  (hl:ks.length=(Z6 w t c).length) (hk:∀ (j:Nat) (a:Q1) (q:Q0),(Z6 w t c)[j]?=some a→ks[j]?=some q→Z7 w x a q)
  (hl':ks'.length=(Z6 w t c').length) (hk':∀ (j:Nat) (a:Q1) (q:Q0),(Z6 w t c')[j]?=some a→ks'[j]?=some q→Z7 w d a q) :
  ∀ y∈cmD w (W0 w d) (Q0c d) t (Q0.mk 4 c 0 0 0 ks) (Q0.mk 4 c' 0 0 0 ks'),Z7 w (x+1) t y:=fun y hy=>by
 simp only [cmD] at hy
 split at hy
 ·rename_i hcc
  subst hcc
  obtain ⟨k,hk1,rfl⟩:=U10.1 hy
  obtain ⟨g1,i,g2,g3⟩:=X8m (Z6 w t c) ks ks' hl hl' k hk1
  refine .inr (.inr ⟨c,k,rfl,ht,hc,g1,fun j a q ha hq=>?_⟩)
  obtain ⟨p,hp⟩:=Q0z hl (List.getElem?_eq_some_iff.1 ha).1
  obtain ⟨p',hp'⟩:=Q0z hl' (List.getElem?_eq_some_iff.1 ha).1
  obtain ⟨k1,k2,k3⟩:=g3 j a p p' q ha hp hp' hq
  rcases Nat.lt_trichotomy j i with h | h | h
  ·exact Z7i d x a p p' q (by omega) (hk j a p ha hp) (hk' j a p' ha hp') (k1 h)
  ·exact hM a p p' (hk j a p ha hp) (hk' j a p' ha hp') q (k2 h)
  ·rw [k3 h];exact hk j a p ha hp
 ·simp at hy
  subst hy
  exact .inr (.inr ⟨c,ks,rfl,ht,hc,hl,hk⟩)
theorem Q7s {w:List Q4} : ∀ (d x:Nat) (t:Q1) (a b:Q0),d+1≤x→Z7 w x t a→Z7 w d t b→∀ y∈W0 w d t a b,Z7 w x t y
 | 0,_,_,_,_,_,_,h,_,_=>h.elim
 | d+1,0,_,_,_,h,_,_,_,_=>by omega
 | d+1,x+1,t,a,b,hx,ha,hb,y,hy=>by
  rcases hb with rfl | ⟨n',m',rfl,ht',g0,g1,g2⟩ | ⟨c',ks',rfl,ht',hc',hl',hk'⟩
  ·simp [W0] at hy
  ·have e1:¬(3:Int)=1:=by decide
   simp only [W0,e1,if_false,if_true] at hy
   have hr:∀ n m,0≤n→m≤9→∀ y∈Z1l n m n' m',Z7 w (x+1) t y:=fun n m h0 h9 y hy=>by
    simp only [Z1l,List.mem_append] at hy
    rcases hy with hy | hy<;>split at hy<;>simp at hy<;>subst hy
    ·exact .inr (.inl ⟨_,_,rfl,ht',h0,by assumption,by omega⟩)
    ·exact .inr (.inl ⟨_,_,rfl,ht',by omega,by assumption,h9⟩)
   rcases ha with rfl | ⟨n,m,rfl,_,h0,_,h9⟩ | ⟨c,ks,rfl,ht,_⟩
   ·simp only [if_true] at hy;exact hr 0 9 (by omega) (by omega) y hy
   ·simp only [e1,if_false] at hy;exact hr n m h0 h9 y hy
   ·exact absurd ht' ht
  ·have e1:¬(4:Int)=1:=by decide
   have e3:¬(4:Int)=3:=by decide
   simp only [W0,e1,e3,if_false] at hy
   have hM:=fun (t:Q1) (a b:Q0)=>Q7s (w:=w) d x t a b (by omega)
   rcases ha with rfl | ⟨n,m,rfl,ht,_⟩ | ⟨c,ks,rfl,_,hc,hl,hk⟩
   ·simp only [if_true,List.mem_flatMap] at hy
    obtain ⟨c,hc,hy⟩:=hy
    exact W5j (by omega) hM ht' hc (by simp) (fun j a q ha hq=>by
     rw [List.getElem?_map,ha] at hq
     cases hq
     exact X66 (Q75 w 0 a) (by omega)) hl' hk' y hy
   ·exact absurd ht ht'
   ·simp only [e1,if_false] at hy
    exact W5j (by omega) hM ht' hc hl hk hl' hk' y hy
theorem W9u {w:List Q4}(hw:WW w)(he:WE w){d x:Nat}{t:Q1}(htw:t∈tys w)(hx:d+1≤x)(hM:∀ (t:Q1) (a b:Q0),t∈tys w→Z7 w x t a→Z7 w d t b→W1 w x t a=true→∀ y∈W0 w d t a b,W1 w x t y=true){c c':Int}{ks ks':List Q0}(hc:c∈X1 w t)
  (hl:ks.length=(Z6 w t c).length) (hk:∀ (j:Nat) (a:Q1) (q:Q0),(Z6 w t c)[j]?=some a→ks[j]?=some q→Z7 w x a q)
  (hl':ks'.length=(Z6 w t c').length) (hk':∀ (j:Nat) (a:Q1) (q:Q0),(Z6 w t c')[j]?=some a→ks'[j]?=some q→Z7 w d a q) (hem:W1 w (x+1) t (Q0.mk 4 c 0 0 0 ks)=true) :
  ∀ y∈cmD w (W0 w d) (Q0c d) t (Q0.mk 4 c 0 0 0 ks) (Q0.mk 4 c' 0 0 0 ks'),W1 w (x+1) t y=true:=fun y hy=>by
 simp only [cmD] at hy
 split at hy
 ·rename_i hcc
  subst hcc
  obtain ⟨k,hk1,rfl⟩:=U10.1 hy
  obtain ⟨g1,i,g2,g3⟩:=X8m (Z6 w t c) ks ks' hl hl' k hk1
  obtain ⟨j,a,p,k1,k2,k3⟩:=Q4b.1 hem
  obtain ⟨p',hp'⟩:=Q0z hl' (List.getElem?_eq_some_iff.1 k1).1
  obtain ⟨q,hq⟩:=Q0z g1 (List.getElem?_eq_some_iff.1 k1).1
  obtain ⟨m1,m2,m3⟩:=g3 j a p p' q k1 k2 hp' hq
  have haw:=(hw.ty t htw).at_ _ hc a (U1 k1)
  refine Q4b.2 ⟨j,a,q,k1,hq,?_⟩
  rcases Nat.lt_trichotomy j i with h | h | h
  ·exact X05 hw he d x a p p' q haw (by omega) (hk j a p k1 k2) (hk' j a p' k1 hp') k3 (m1 h)
  ·exact hM a p p' haw (hk j a p k1 k2) (hk' j a p' k1 hp') k3 q (m2 h)
  ·rw [m3 h];exact k3
 ·simp at hy
  subst hy
  exact hem
theorem Z7f {w:List Q4}(hw:WW w)(he:WE w):∀ (d x:Nat) (t:Q1) (a b:Q0),t∈tys w→d+1≤x→Z7 w x t a→Z7 w d t b→W1 w x t a=true→∀ y∈W0 w d t a b,W1 w x t y=true
 | 0,_,_,_,_,_,_,_,h,_,_,_=>h.elim
 | d+1,0,_,_,_,_,h,_,_,_,_,_=>by omega
 | d+1,x+1,t,a,b,htw,hx,ha,hb,hem,y,hy=>by
  have hyp:=Q7s (d+1) (x+1) t a b hx ha hb y hy
  rcases ha with rfl | ⟨n,m,rfl,ht,_⟩ | ⟨c,ks,rfl,ht,hc,hl,hk⟩
  ·simp only [W1,if_true,decide_eq_true_eq] at hem
   exact Z8f hw he _ t y htw hyp hem
  ·simp [W1] at hem
  ·rcases hb with rfl | ⟨n',m',rfl,ht',_⟩ | ⟨c',ks',rfl,_,hc',hl',hk'⟩
   ·simp [W0] at hy
   ·exact absurd ht' ht
   ·have e1:¬(4:Int)=1:=by decide
    have e3:¬(4:Int)=3:=by decide
    simp only [W0,e1,e3,if_false] at hy
    exact W9u hw he htw (by omega) (fun t a b h1 h2 h3 h4=>Z7f hw he d x t a b h1 (by omega) h2 h3 h4) hc hl hk hl' hk' hem y hy
def Q6z (w:List Q4)(x:Nat)(t:Q1)(l:List Q0):List Q0:=l.filter fun p=>!W1 w x t p
def Q3b (w:List Q4)(d x:Nat)(t:Q1)(l:List Q0)(b:Q0):List Q0:=Q6z w x t (l.flatMap fun a=>W0 w d t a b)
def Q57 (w:List Q4)(d x:Nat)(t:Q1):List Q0→List Q0→Option (List Q0)
 | l,[]=>some l
 | l,b::bs=>if 400<(Q3b w d x t l b).length then none else Q57 w d x t (Q3b w d x t l b) bs
def Q0t (w:List Q4)(d x:Nat)(t:Q1)(l bs:List Q0):Option (List Q0):=Q57 w d x t (Q6z w x t l) bs
theorem X2n {w:List Q4}(hw:WW w)(he:WE w){d x:Nat}{t:Q1}(ht:t∈tys w)(hx:d+1≤x){b:Q0}(hb:Z7 w d t b):∀ {l:List Q0},(∀ a∈l,Z7 w x t a)→Q3b w d x t (Q6z w x t l) b=Q3b w d x t l b
 | [],_=>rfl
 | a::l,h=>by
  have ih:=X2n hw he ht hx hb (l:=l) fun a ha=>h a (by simp [ha])
  simp only [Q3b,Q6z,List.filter_cons,List.flatMap_cons,List.filter_append] at ih ⊢
  cases hem:W1 w x t a with
  | false=>simp only [Bool.not_false,if_true,List.flatMap_cons,List.filter_append,ih]
  | true=>
   have:(W0 w d t a b).filter (fun p=>!W1 w x t p)=[]:=by
    rw [List.filter_eq_nil_iff]
    intro y hy
    simp [Z7f hw he d x t a b ht hx (h a (by simp)) hb hem y hy]
   simp [ih,this]
theorem X5r {w:List Q4}{d x:Nat}{t:Q1}{l:List Q0}{b:Q0} : Q6z w x t (Q3b w d x t l b)=Q3b w d x t l b:=by
 simp [Q3b,Q6z,List.filter_filter]
theorem Q7y {w:List Q4}{d x:Nat}{t:Q1}(hx:d+1≤x){b:Q0}(hb:Z7 w d t b){l:List Q0}(h:∀ a∈l,Z7 w x t a):∀ y∈Q3b w d x t l b,Z7 w x t y:=fun y hy=>by
 obtain ⟨a,ha,hy⟩:=List.mem_flatMap.1 (List.mem_filter.1 hy).1
 exact Q7s d x t a b hx (h a ha) hb y hy
theorem Z8r {w:List Q4}{d x:Nat}{t:Q1}(hx:d+1≤x):∀ (bs l r:List Q0),(∀ b∈bs,Z7 w d t b)→(∀ a∈l,Z7 w x t a)→Q57 w d x t l bs=some r→∀ y∈r,Z7 w x t y
 | [],l,r,_,h,e=>by simp [Q57] at e;subst e;exact h
 | b::bs,l,r,hb,h,e=>by
  simp only [Q57] at e
  split at e
  ·cases e
  ·exact Z8r hx bs _ r (fun b hb'=>hb b (by simp [hb'])) (Q7y hx (hb b (by simp)) h) e
theorem Z0b {w:List Q4}{d x:Nat}{t:Q1}(hx:d+1≤x){l bs r:List Q0}(hb:∀ b∈bs,Z7 w d t b)(h:∀ a∈l,Z7 w x t a)(e:Q0t w d x t l bs=some r):∀ y∈r,Z7 w x t y:=
 Z8r hx bs _ r hb (fun a ha=>h a (List.mem_filter.1 ha).1) e
theorem X9d {w:List Q4}(hw:WW w)(he:WE w){x e:Nat}{t:Q1}(ht:t∈tys w){l:List Q0}(h:∀ a∈l,Z7 w x t a){v:Q3}(hv:Q1j w e t v):(∃ y∈Q6z w x t l,fitP y v=true)↔∃ y∈l,fitP y v=true:=by
 constructor
 ·rintro ⟨y,hy,g⟩;exact ⟨y,(List.mem_filter.1 hy).1,g⟩
 ·rintro ⟨y,hy,g⟩
  refine ⟨y,List.mem_filter.2 ⟨hy,?_⟩,g⟩
  cases hem:W1 w x t y with
  | false=>rfl
  | true=>rw [X4t hw he x e t y v ht (h y hy) hem hv] at g;cases g
theorem X9j {w:List Q4}(hw:WW w)(he:WE w){d x e:Nat}{t:Q1}(ht:t∈tys w)(hx:d+1≤x){v:Q3}(hv:Q1j w e t v):∀ (bs l r:List Q0),(∀ b∈bs,Z7 w d t b)→(∀ a∈l,Z7 w x t a)→Q57 w d x t l bs=some r→
  ((∃ y∈r,fitP y v=true)↔(∃ a∈l,fitP a v=true)∧∀ b∈bs,fitP b v=false)
 | [],l,r,_,h,e1=>by simp [Q57] at e1;subst e1;simp
 | b::bs,l,r,hb,h,e1=>by
  simp only [Q57] at e1
  split at e1
  ·cases e1
  ·have hb0:=hb b (by simp)
   rw [X9j hw he ht hx hv bs _ r (fun b hb'=>hb b (by simp [hb'])) (Q7y hx hb0 h) e1]
   have hmp:∀ y∈l.flatMap (fun a=>W0 w d t a b),Z7 w x t y:=fun y hy=>by
    obtain ⟨a,ha,hy⟩:=List.mem_flatMap.1 hy
    exact Q7s d x t a b hx (h a ha) hb0 y hy
   have h1:=X9d hw he ht hmp hv
   simp only [Q3b]
   rw [h1]
   constructor
   ·rintro ⟨⟨y,hy,g⟩,h2⟩
    obtain ⟨a,ha,hy⟩:=List.mem_flatMap.1 hy
    obtain ⟨g1,g2⟩:=(Z0p d e t a b x (h a ha) hb0 v hv).2 ⟨y,hy,g⟩
    refine ⟨⟨a,ha,g1⟩,fun b' hb'=>?_⟩
    rcases U8.1 hb' with rfl | hb'
    ·exact g2
    ·exact h2 b' hb'
   ·rintro ⟨⟨a,ha,g1⟩,h2⟩
    obtain ⟨y,hy,g⟩:=(Z0p d e t a b x (h a ha) hb0 v hv).1 ⟨g1,h2 b (by simp)⟩
    exact ⟨⟨y,List.mem_flatMap.2 ⟨a,ha,hy⟩,g⟩,fun b' hb'=>h2 b' (by simp [hb'])⟩
theorem Z6k {w:List Q4}(hw:WW w)(he:WE w){d x e:Nat}{t:Q1}(ht:t∈tys w)(hx:d+1≤x){v:Q3}(hv:Q1j w e t v){l bs r:List Q0}(hb:∀ b∈bs,Z7 w d t b)(h:∀ a∈l,Z7 w x t a)(e1:Q0t w d x t l bs=some r) :
  (∃ y∈r,fitP y v=true)↔(∃ a∈l,fitP a v=true)∧∀ b∈bs,fitP b v=false:=by
 rw [X9j hw he ht hx hv bs (Q6z w x t l) r hb (fun a ha=>h a (List.mem_filter.1 ha).1) e1,X9d hw he ht h hv]
theorem X8l {fm:Q1→Q0→Q0→List Q0}{fj:Q0→Q0→Option Q0} : ∀ (ts:List Q1) (as bs:List Q0),(∀ (j:Nat) (t:Q1) (a b:Q0),ts[j]?=some t→bs[j]?=some b→(fm t a b).length≤3 * cntP b)→(kmD fm fj ts as bs).length≤3 * cntP.cntPs bs
 | [],as,bs,_=>by simp [kmD]
 | t::ts,[],bs,_=>by simp [kmD]
 | t::ts,a::as,[],_=>by simp [kmD]
 | t::ts,a::as,b::bs,h=>by
  have h0:=h 0 t a b rfl rfl
  have ih:=X8l (fj:=fj) ts as bs fun j t a b h1 h2=>h (j+1) t a b (by simpa using h1) (by simpa using h2)
  simp only [kmD,U5,U7,cntP.cntPs]
  cases fj a b with
  | none=>simp;omega
  | some m=>simp only [U7];omega
theorem X87 (n m n' m':Int):(Z1l n m n' m').length≤2:=by
 simp only [Z1l,U5]
 split<;>split<;>simp
theorem X9b {α β:Type}{f:α→List β} : ∀ {l:List α},(∀ x∈l,(f x).length≤1)→(l.flatMap f).length≤l.length
 | [],_=>by simp
 | x::l,h=>by
  have h1:=h x (by simp)
  have h2:=X9b (l:=l) fun y hy=>h y (by simp [hy])
  simp only [List.flatMap_cons,U5,U3]
  omega
theorem W52 {α β:Type}{f:α→List β}{c:α}{B:Nat}(hc:(f c).length≤B):∀ {l:List α},c∈l→(∀ x∈l,x≠c→(f x).length≤1)→l.Nodup→(l.flatMap f).length+1≤l.length+B
 | [],h,_,_=>by simp at h
 | x::l,hcl,hn,hd=>by
  obtain ⟨h1,h2⟩:=List.nodup_cons.1 hd
  simp only [List.flatMap_cons,U5,U3]
  by_cases hx:x=c
  ·subst hx
   have:=X9b (f:=f) (l:=l) fun y hy=>hn y (by simp [hy]) fun e=>h1 (e▸hy)
   omega
  ·have h3:=hn x (by simp) hx
   have hcl:c∈l:=by
    rcases U8.1 hcl with rfl | h
    ·exact absurd rfl hx
    ·exact h
   have:=W52 hc hcl (fun z hz=>hn z (by simp [hz])) h2
   omega
theorem Q83 {w:List Q4}(hw:WW w)(he:WE w):∀ (d:Nat) (t:Q1) (a b:Q0),t∈tys w→Z7 w d t b→(W0 w d t a b).length≤3 * cntP b
 | 0,_,_,_,_,h=>h.elim
 | d+1,t,a,b,ht,hb=>by
  rcases hb with rfl | ⟨n',m',rfl,ht',_⟩ | ⟨c',ks',rfl,ht',hc',hl',hk'⟩
  ·simp [W0]
  ·have e1:¬(3:Int)=1:=by decide
   simp only [W0,e1,if_false,if_true]
   have h1:=Q7m (Q0.mk 3 0 n' m' 0 [])
   split
   ·have:=X87 0 9 n' m';omega
   ·have:=X87 a.n a.m n' m';omega
  ·have e1:¬(4:Int)=1:=by decide
   have e3:¬(4:Int)=3:=by decide
   simp only [W0,e1,e3,if_false]
   have hkm:∀ (as:List Q0),(kmD (W0 w d) (Q0c d) (Z6 w t c') as ks').length≤3 * cntP.cntPs ks':=fun as=>
    X8l (Z6 w t c') as ks' fun j u p q h1 h2=>Q83 hw he d u p q ((hw.ty t ht).at_ _ hc' u (U1 h1)) (hk' j u q h1 h2)
   have hcm:∀ a':Q0,(a'.ctor≠c'→(cmD w (W0 w d) (Q0c d) t a' (Q0.mk 4 c' 0 0 0 ks')).length≤1)∧(a'.ctor=c'→(cmD w (W0 w d) (Q0c d) t a' (Q0.mk 4 c' 0 0 0 ks')).length≤3 * cntP.cntPs ks'):=fun a'=>by
    refine ⟨fun h=>by simp [cmD,h],fun h=>?_⟩
    simp only [cmD,h,if_true,U7]
    exact hkm a'.kids
   have hcnt:cntP (Q0.mk 4 c' 0 0 0 ks')=1+cntP.cntPs ks':=Q36 _
   split
   ·have:=W52 (f:=fun c=>cmD w (W0 w d) (Q0c d) t (Q5v w t c) (Q0.mk 4 c' 0 0 0 ks')) (c:=c') ((hcm (Q5v w t c')).2 rfl) hc' (fun x _ hx=>(hcm (Q5v w t x)).1 hx) (he.nd t ht)
    have:=(hw.ty t ht).cl
    omega
   ·by_cases h:a.ctor=c'
    ·have:=(hcm a).2 h;omega
    ·have:=(hcm a).1 h;omega
theorem X2o {w:List Q4}(hw:WW w)(he:WE w){d:Nat}{t:Q1}(ht:t∈tys w){b:Q0}(hb:Z7 w d t b):∀ (l:List Q0),(l.flatMap fun a=>W0 w d t a b).length≤l.length * (3 * cntP b)
 | []=>by simp
 | a::l=>by
  have h1:=Q83 hw he d t a b ht hb
  have h2:=X2o hw he ht hb l
  simp only [List.flatMap_cons,U5,U3,Nat.add_mul,Nat.one_mul]
  omega
def W7:Nat→Q0→Q0
 | 0,p=>p
 | d+1,p=>if p.op=2 then Q0.mk 1 0 0 0 0 [] else if p.op=6∧p.kids≠[] then W7 d (p.kids.headD p) else Q0.mk p.op p.ctor p.n p.m p.var (p.kids.map (W7 d))
def altD (w:List Q4):Nat→Q1→Q0→Prop
 | 0,_,_=>False
 | d+1,t,p=>p=Q0.mk 1 0 0 0 0 []∨(∃ n m,p=Q0.mk 3 0 n m 0 []∧t.data = -1∧0≤n∧n≤m∧m≤9)∨
  (∃ c ks,p=Q0.mk 4 c 0 0 0 ks∧t.data≠-1∧c∈X1 w t∧ks.length=(Z6 w t c).length∧∀ (j:Nat) (a:Q1) (q:Q0),(Z6 w t c)[j]?=some a→ks[j]?=some q→altD w d a q)∨
  (∃ a b,p=Q0.mk 5 0 0 0 0 [a,b]∧altD w d t a∧altD w d t b)
theorem Z6h {w:List Q4} : ∀ (d:Nat) (t:Q1) (p:Q0),altD w d t p→altD w (d+1) t p
 | 0,_,_,h=>h.elim
 | d+1,t,p,h=>by
  rcases h with h | h | ⟨c,ks,e,h1,h2,h3,h4⟩ | ⟨a,b,e,h1,h2⟩
  ·exact .inl h
  ·exact .inr (.inl h)
  ·exact .inr (.inr (.inl ⟨c,ks,e,h1,h2,h3,fun j a q ha hq=>Z6h d a q (h4 j a q ha hq)⟩))
  ·exact .inr (.inr (.inr ⟨a,b,e,Z6h d t a h1,Z6h d t b h2⟩))
theorem W0t {w:List Q4}{d:Nat}{t:Q1}{p:Q0}(h0:t.data = -1→X1 w t=[])(g:Q18 w (d+1) t p=true) :
  p=Q0.mk 1 0 0 0 0 []∨(∃ v,p=Q0.mk 2 0 0 0 v [])∨(∃ n m,p=Q0.mk 3 0 n m 0 []∧t.data = -1∧0≤n∧n≤m∧m≤9)∨
  (∃ c ks,p=Q0.mk 4 c 0 0 0 ks∧t.data≠-1∧c∈X1 w t∧ks.length=(Z6 w t c).length∧∀ (j:Nat) (a:Q1) (q:Q0),(Z6 w t c)[j]?=some a→ks[j]?=some q→Q18 w d a q=true)∨
  (∃ a b,p=Q0.mk 5 0 0 0 0 [a,b]∧Q18 w d t a=true∧Q18 w d t b=true)∨(∃ v a,p=Q0.mk 6 0 0 0 v [a]∧Q18 w d t a=true):=by
 have hn:=Q54 (Q4a g)
 have hkid:=fun (j:Nat) (a:Q1) (q:Q0)=>Q26 (k:=j) (a:=a) (q:=q) g
 obtain ⟨op,ctor,n,m,var,kids⟩:=p
 have ho:=hn.1
 simp only [Q9j,Bool.and_eq_true,Bool.or_eq_true,decide_eq_true_eq] at ho
 obtain ⟨⟨⟨k1,k2⟩,k3⟩,k4⟩:=ho
 have hop:op=1∨op=2∨op=3∨op=4∨op=5∨op=6:=by
  rcases k4 with (h | h) | h
  ·rcases h with h | h | h | h<;>simp [h]
  ·simp [h.1.1.1.1]
  ·simp [h.1]
 rcases hop with rfl | rfl | rfl | rfl | rfl | rfl
 ·have hl:=hn.2
  simp [Y2] at hl k1 k2 k3
  subst hl;obtain ⟨rfl,rfl⟩:=k2;subst k1;subst k3
  exact .inl rfl
 ·have hl:=hn.2
  simp [Y2] at hl k2 k3
  subst hl;obtain ⟨rfl,rfl⟩:=k2;subst k3
  exact .inr (.inl ⟨var,rfl⟩)
 ·have hl:=hn.2
  simp [Y2] at hl k1 k3 k4
  subst hl;subst k1;subst k3
  exact .inr (.inr (.inl ⟨n,m,rfl,k4.1.1.1,k4.1.1.2,k4.1.2,k4.2⟩))
 ·have hl:=hn.2
  simp [Y2] at hl k1 k2 k4
  obtain ⟨rfl,rfl⟩:=k2;subst k1
  refine .inr (.inr (.inr (.inl ⟨ctor,kids,rfl,fun hd=>?_,k4,hl,fun j a q ha hq=>hkid j a q (by simpa [Y2] using ha) hq⟩)))
  rw [h0 hd] at k4
  simp at k4
 ·have hl:=hn.2
  simp [Y2] at hl k1 k2 k3
  obtain ⟨rfl,rfl⟩:=k2;subst k1;subst k3
  match kids,hl with
  | [a,b],_=>exact .inr (.inr (.inr (.inr (.inl ⟨a,b,rfl,hkid 0 t a (by simp [Y2]) rfl,hkid 1 t b (by simp [Y2]) rfl⟩))))
 ·have hl:=hn.2
  simp [Y2] at hl k2 k3
  obtain ⟨rfl,rfl⟩:=k2;subst k3
  match kids,hl with
  | [a],_=>exact .inr (.inr (.inr (.inr (.inr ⟨var,a,rfl,hkid 0 t a (by simp [Y2]) rfl⟩))))
theorem Q7n {w:List Q4}(h0:∀ t,t.data = -1→X1 w t=[]):∀ (d:Nat) (t:Q1) (p:Q0),Q18 w d t p=true→altD w d t (W7 d p)
 | 0,_,_,h=>by simp [Q18] at h
 | d+1,t,p,g=>by
  rcases W0t (h0 t) g with rfl | ⟨v,rfl⟩ | ⟨n,m,rfl,h⟩ | ⟨c,ks,rfl,h1,h2,h3,h4⟩ | ⟨a,b,rfl,h1,h2⟩ | ⟨v,a,rfl,h1⟩
  ·exact .inl (by simp [W7])
  ·exact .inl (by simp [W7])
  ·exact .inr (.inl ⟨n,m,by simp [W7],h⟩)
  ·refine .inr (.inr (.inl ⟨c,ks.map (W7 d),by simp [W7],h1,h2,by simpa using h3,fun j a q ha hq=>?_⟩))
   rw [List.getElem?_map] at hq
   obtain ⟨q',e1,e2⟩:=U11.1 hq
   subst e2
   exact Q7n h0 d a q' (h4 j a q' ha e1)
  ·exact .inr (.inr (.inr ⟨W7 d a,W7 d b,by simp [W7],Q7n h0 d t a h1,Q7n h0 d t b h2⟩))
  ·have:W7 (d+1) (Q0.mk 6 0 0 0 v [a])=W7 d a:=by simp [W7]
   rw [this]
   exact Z6h d t _ (Q7n h0 d t a h1)
def MemL (cs:List Q0)(ls:List (List Q0)):Prop:=cs.length=ls.length∧∀ (j:Nat) (c:Q0) (l:List Q0),cs[j]?=some c→ls[j]?=some l→c∈l
theorem Z7h {c:Q0}{cs:List Q0}{l:List Q0}{ls:List (List Q0)} : MemL (c::cs) (l::ls)↔c∈l∧MemL cs ls:=by
 constructor
 ·rintro ⟨h1,h2⟩
  exact ⟨h2 0 c l rfl rfl,by simpa using h1,fun j x y e1 e2=>h2 (j+1) x y (by simpa using e1) (by simpa using e2)⟩
 ·rintro ⟨h0,h1,h2⟩
  refine ⟨by simp [h1],fun j x y e1 e2=>?_⟩
  cases j with
  | zero=>simp at e1 e2;subst e1;subst e2;exact h0
  | succ j=>exact h2 j x y (by simpa using e1) (by simpa using e2)
theorem X8h:∀ (ls out:List (List Q0)) (ks:List Q0),ks∈ls.foldl tupD out↔∃ o∈out,∃ cs,MemL cs ls∧ks=o++cs
 | [],out,ks=>by
  simp only [List.foldl_nil]
  constructor
  ·exact fun h=>⟨ks,h,[],⟨rfl,fun j c l h=>by simp at h⟩,by simp⟩
  ·rintro ⟨o,ho,cs,h,rfl⟩
   have:cs=[]:=List.eq_nil_of_length_eq_zero (by simpa using h.1)
   subst this
   simpa using ho
 | l::ls,out,ks=>by
  simp only [List.foldl_cons]
  rw [X8h ls (tupD out l) ks]
  constructor
  ·rintro ⟨o,ho,cs,h,rfl⟩
   obtain ⟨q,hq,ho⟩:=List.mem_flatMap.1 ho
   obtain ⟨c,hc,rfl⟩:=U10.1 ho
   exact ⟨q,hq,c::cs,Z7h.2 ⟨hc,h⟩,by simp⟩
  ·rintro ⟨o,ho,cs,h,rfl⟩
   cases cs with
   | nil=>have:=h.1;simp at this
   | cons c cs=>
    obtain ⟨hc,h⟩:=Z7h.1 h
    exact ⟨o++[c],List.mem_flatMap.2 ⟨o,ho,U10.2 ⟨c,hc,rfl⟩⟩,cs,h,by simp⟩
theorem X3n {ls:List (List Q0)}{ks:List Q0} : ks∈ls.foldl tupD [[]]↔MemL ks ls:=by
 rw [X8h]
 constructor
 ·rintro ⟨o,ho,cs,h,rfl⟩
  simp at ho
  subst ho
  simpa using h
 ·exact fun h=>⟨[],by simp,ks,h,by simp⟩
theorem Q8z {w:List Q4} : ∀ (d:Nat) (t:Q1) (p:Q0),altD w d t p→∀ q∈Z3 d p,Z7 w d t q
 | 0,_,_,h,_,_=>h.elim
 | d+1,t,p,h,q,hq=>by
  rcases h with rfl | ⟨n,m,rfl,h⟩ | ⟨c,ks,rfl,h1,h2,h3,h4⟩ | ⟨a,b,rfl,h1,h2⟩
  ·simp [Z3,Q8r] at hq;subst hq;exact .inl rfl
  ·simp [Z3,Q8r] at hq;subst hq;exact .inr (.inl ⟨n,m,rfl,h⟩)
  ·have e5:¬(4:Int)=5:=by decide
   simp only [Z3,e5,if_false,U10] at hq
   obtain ⟨cs,hcs,rfl⟩:=hq
   obtain ⟨g1,g2⟩:=X3n.1 hcs
   refine .inr (.inr ⟨c,cs,rfl,h1,h2,by simpa [h3] using g1,fun j a q ha hq=>?_⟩)
   obtain ⟨k,hk⟩:=Q0z h3 (List.getElem?_eq_some_iff.1 ha).1
   exact Q8z d a k (h4 j a k ha hk) q (g2 j q (Z3 d k) hq (by rw [List.getElem?_map,hk];rfl))
  ·simp only [Z3,if_true,List.flatMap_cons,List.flatMap_nil,List.append_nil,List.mem_append] at hq
   rcases hq with hq | hq
   ·exact Q5y d t q (Q8z d t a h1 q hq)
   ·exact Q5y d t q (Q8z d t b h2 q hq)
def dimP (w:List Q4):List Int:=(Q5f NN w).getD []
def W7z (w:List Q4)(t:Q1)(k:Int):Bool:=decide (0<(Q0r (dimP w) w t k).getD 0)
def V0a (w:List Q4)(t:Q1)(k:Int):Bool:=match Q4h w t k with
 | some p=>decide (Q0m NN w (tabP w) t p=some (W7z w t k))
 | none=>false
def chkL (w:List Q4):Bool:=decide (Q5f NN w=some (dimP w)) &&
 (tys w).all fun t=>decide (t.data = -1)||(X1 w t).all fun k=>(Q0r (dimP w) w t k).isSome&&(V0a w t k&&decide (k≠-1))
theorem Y2n:Q0a.all chkL=true:=by kernel_rfl
structure WL (w:List Q4):Prop where
 dim:Q2g NN w=some ⟨w,dimP w⟩
 ctor:∀ t∈tys w,t.data≠-1→∀ k∈X1 w t,∃ r,Q0r (dimP w) w t k=some r∧W7z w t k=decide (0<r)
 wide:∀ t∈tys w,t.data≠-1→∀ k∈X1 w t,∃ p,Q4h w t k=some p∧Q0m NN w (tabP w) t p=some (W7z w t k)
 pos:∀ t∈tys w,t.data≠-1→∀ k∈X1 w t,k≠-1
theorem wl {w:List Q4}(h:w∈Q0a):WL w:=by
 have h:=List.all_eq_true.1 Y2n w h
 simp only [chkL,Bool.and_eq_true,Bool.or_eq_true,decide_eq_true_eq,List.all_eq_true,Option.isSome_iff_exists] at h
 obtain ⟨h1,h2⟩:=h
 have h3:∀ t∈tys w,t.data≠-1→∀ k∈X1 w t,_:=fun t ht hd k hk=>((h2 t ht).resolve_left hd) k hk
 refine ⟨by unfold Q2g;rw [h1];rfl,fun t ht hd k hk=>?_,fun t ht hd k hk=>?_,fun t ht hd k hk=>(h3 t ht hd k hk).2.2⟩
 ·obtain ⟨⟨r,hr⟩,_⟩:=h3 t ht hd k hk
  exact ⟨r,hr,by rw [W7z,hr];rfl⟩
 ·obtain ⟨_,hw,_⟩:=h3 t ht hd k hk
  unfold V0a at hw
  split at hw
  ·rename_i p hp
   exact ⟨p,hp,by simpa using hw⟩
  ·cases hw
theorem Q4v {α β ρ:Type}{f:Nat→α→List β→Option (Ctl ρ (List β))}(g:α→List β)(M:Nat):∀ (xs:List α) (k:Nat) (s:List β),(∀ k,∀ x∈xs,∀ s:List β,s.length+(g x).length≤M→f k x s=some (.go (s++g x)))→s.length+(xs.flatMap g).length≤M→forL f k xs s=some (.brk (s++xs.flatMap g))
 | [],k,s,_,_=>by simp [forL]
 | x::xs,k,s,h,hM=>by
  simp only [List.flatMap_cons,U5] at hM
  unfold forL
  rw [h k x (by simp) s (by omega)]
  simp only
  rw [Q4v g M xs (k+1) (s++g x) (fun k y hy=>h k y (by simp [hy])) (by simp only [U5];omega)]
  simp
theorem Q3y {α:Type}{l l':List α}{k:Nat}{a:α}(h:l.drop k=a::l'):l[k]?=some a∧l.drop (k+1)=l':=by
 constructor
 ·have:=congrArg (fun m=>m[0]?) h
  simpa [List.getElem?_drop] using this
 ·have:=congrArg (fun m=>m.drop 1) h
  simpa [List.drop_drop,Nat.add_comm] using this
theorem W92 {n:Int}(h0:0≤n)(h:n≤100000):Q2b n=some []:=by
 unfold Q2b
 have e:ilt n 0=false:=by rw [J0];exact h0
 have e0:wsub .i64 0 (lenZ 0)=0:=rfl
 have e1:wsub .i64 n 0=n:=by rw [Q3z]<;>omega
 simp only [e,U2,if_false,e0,e1]
 by_cases hn:0<n
 ·have e2:ilt 0 n=true:=by rw [Z9];exact hn
  have e3:mkS n (Q0.mk 0 0 0 0 0 [])=some (List.replicate n.toNat (Q0.mk 0 0 0 0 0 [])):=by
   unfold mkS;rw [if_pos ⟨h0,by simp [Q7];omega⟩]
  rw [if_pos e2,e3]
  rfl
 ·have e2:ilt 0 n=false:=by rw [J0];omega
  rw [if_neg (by rw [e2];simp)]
  rfl
theorem W1r {a b c:List Q0}(h:a.length+b.length+c.length≤100000):Q02 [a,b,c]=some (a++b++c):=by
 unfold Q02
 have hA:wadd .i64 0 (lenZ a.length)=(a.length:Int):=by rw [Q10]<;>simp only [lenZ]<;>omega
 have hB:wadd .i64 (a.length:Int) (lenZ b.length)=(a.length:Int)+b.length:=by rw [Q10]<;>simp only [lenZ]<;>omega
 have hC:wadd .i64 ((a.length:Int)+b.length) (lenZ c.length)=(a.length:Int)+b.length+c.length:=by rw [Q10]<;>simp only [lenZ]<;>omega
 have l1:ilt (a.length:Int) 0=false:=by rw [J0];omega
 have l2:ilt ((a.length:Int)+b.length) 0=false:=by rw [J0];omega
 have l3:ilt ((a.length:Int)+b.length+c.length) 0=false:=by rw [J0];omega
 simp only [forL,hA,hB,hC,l1,l2,l3,U2,if_false,U0]
 rw [W92 (by omega) (by omega)]
 simp only [U0]
 rw [W5 (by simp [Q7];omega)]
 simp only [U0,List.nil_append]
 rw [W5 (by simp only [Q7];omega)]
 simp only [U0]
 rw [W5 (by simp only [U5,Q7];omega)]
 rfl
theorem V0o (a b:Int):imax a b=max a b:=by unfold imax;omega
theorem V0n (a b:Int):imin a b=min a b:=by unfold imin;omega
def i3 (a b:Int):List Q0:=if a≤b then [Q0.mk 3 0 a b 0 []] else []
theorem V21 {n:Nat}(hn:2≤n)(a b:Int):Q2k n [a,b]=some (i3 a b):=by
 obtain ⟨m,rfl⟩:∃ m,n=m+2:=⟨n-2,by omega⟩
 have w1:wadd .i64 0 1=1:=rfl
 have w2:wadd .i64 0 2=2:=rfl
 unfold Q2k i3
 by_cases h:a≤b<;>simp [whileL,idx,ilt,ile,app,w1,w2,h,lenZ,Q7]
theorem V20 {n:Nat}(hn:3≤n)(a b c e:Int):Q2k n [a,b,c,e]=some (i3 a b++i3 c e):=by
 obtain ⟨m,rfl⟩:∃ m,n=m+3:=⟨n-3,by omega⟩
 have w1:wadd .i64 0 1=1:=rfl
 have w2:wadd .i64 0 2=2:=rfl
 have w3:wadd .i64 2 1=3:=rfl
 have w4:wadd .i64 2 2=4:=rfl
 unfold Q2k i3
 by_cases h:a≤b<;>by_cases h':c≤e<;>simp [whileL,idx,ilt,ile,app,w1,w2,w3,w4,h,h',lenZ,Q7]
def zP:Q0:=Q0.mk 0 0 0 0 0 []
def Z3f:Option Q0→Q0×Bool
 | some m=>(m,true)
 | none=>(zP,false)
theorem Z0k {w:List Q4}{d:Nat}{t:Q1}{p:Q0}(h:Z7 w d t p):∃ e,d=e+1∧(p=Q0.mk 1 0 0 0 0 []∨(∃ n m,p=Q0.mk 3 0 n m 0 []∧t.data = -1∧0≤n∧n≤m∧m≤9)∨
  (∃ c ks,p=Q0.mk 4 c 0 0 0 ks∧t.data≠-1∧c∈X1 w t∧ks.length=(Z6 w t c).length∧∀ (j:Nat) (a:Q1) (q:Q0),(Z6 w t c)[j]?=some a→ks[j]?=some q→Z7 w e a q)):=by
 cases d with
 | zero=>exact h.elim
 | succ e=>exact ⟨e,rfl,h⟩
theorem Z7q {w:List Q4}(hw:WW w)(S:List Int):∀ (d n x:Nat) (t:Q1) (a b:Q0),t∈tys w→Z7 w x t a→Z7 w d t b→d+3≤n→W8 n ⟨w,S⟩ t a b=some (Z3f (Q0c d a b))
 | 0,_,_,_,_,_,_,_,h,_=>h.elim
 | d+1,n,x,t,a,b,ht,ha,hb,hn=>by
  obtain ⟨n,rfl⟩:∃ m,n=m+1:=⟨n-1,by omega⟩
  obtain ⟨x,rfl,ha⟩:=Z0k ha
  have i11:ieq 1 1=true:=rfl
  have i31:ieq 3 1=false:=rfl
  have i33:ieq 3 3=true:=rfl
  have i41:ieq 4 1=false:=rfl
  have i43:ieq 4 3=false:=rfl
  have e31:¬(3:Int)=1:=by decide
  have e41:¬(4:Int)=1:=by decide
  have e43:¬(4:Int)=3:=by decide
  rcases ha with rfl | ⟨n1,m1,rfl,hd,_⟩ | ⟨c,ks,rfl,hd,hc,hl,hk⟩
  ·simp [W8,Q0c,Z3f,i11]
  ·rcases hb with rfl | ⟨n2,m2,rfl,_⟩ | ⟨c',ks',rfl,hd',_⟩
   ·simp [W8,Q0c,Z3f,i11,i31]
   ·simp only [W8,Q0c,i31,i33,e31,U2,if_false,if_true]
    rw [V21 (by omega),V0o,V0n]
    by_cases h:max n1 n2≤min m1 m2
    ·simp [i3,h,idx,ieq,lenZ,Z3f]
    ·simp [i3,h,ieq,lenZ,Z3f,zP]
   ·exact absurd hd hd'
  ·rcases hb with rfl | ⟨n2,m2,rfl,hd',_⟩ | ⟨c',ks',rfl,_,hc',hl',hk'⟩
   ·simp [W8,Q0c,Z3f,i11,i41]
   ·exact absurd hd' hd
   ·simp only [W8,Q0c,i41,i43,e41,e43,U2,if_false]
    by_cases hcc:c=c'
    ·subst hcc
     have ec:(!ieq c c)=false:=by simp [ieq]
     simp only [ec,U2,if_false,if_true]
     rw [(hw.ty t ht).a2 c hc]
     simp only [U0]
     have hal:=(hw.ty t ht).al c hc
     have hlp:∀ (ts:List Q1) (k:Nat) (s:List Q0) (as' bs':List Q0),(Z6 w t c).drop k=ts→ks.drop k=as'→ks'.drop k=bs'→s.length+ts.length≤100→
       forL (fun k131 x132 (s125:(List Q0))=>
        ((idx ks (k131:Int)).bind fun x143=>
        ((idx ks' (k131:Int)).bind fun x144=>
        ((W8 n ⟨w,S⟩ x132 x143 x144).bind fun r145=>
        (if (!r145.2)=true then
        some (Ctl.ret (((Q0.mk 0 0 0 0 0 []),false)))
        else
        ((app s125 [r145.1]).bind fun x148=>
        some (Ctl.go x148))))))) k ts s=some (match Q4t (Q0c d) as' bs' with | some ms=>.brk (s++ms) | none=>.ret (zP,false)):=by
      intro ts
      induction ts with
      | nil=>
       intro k s as' bs' h0 h1 h2 _
       have hge:(Z6 w t c).length≤k:=by have:=congrArg List.length h0;simp at this;omega
       have e1:as'=[]:=by rw [←h1];exact List.drop_eq_nil_of_le (by omega)
       have e2:bs'=[]:=by rw [←h2];exact List.drop_eq_nil_of_le (by omega)
       subst e1;subst e2
       simp [forL,Q4t]
      | cons u ts ih=>
       intro k s as' bs' h0 h1 h2 hs
       obtain ⟨u1,u2⟩:=Q3y h0
       have hkl:=(List.getElem?_eq_some_iff.1 u1).1
       cases as' with
       | nil=>have:=congrArg List.length h1;simp at this;omega
       | cons a as'=>
       cases bs' with
       | nil=>have:=congrArg List.length h2;simp at this;omega
       | cons b bs'=>
       obtain ⟨a1,a2⟩:=Q3y h1
       obtain ⟨b1,b2⟩:=Q3y h2
       simp only [U3] at hs
       unfold forL
       rw [Q1m a1,Q1m b1]
       simp only [U0]
       rw [Z7q hw S d n x u a b ((hw.ty t ht).at_ _ hc u (U1 u1)) (hk k u a u1 a1) (hk' k u b u1 b1) (by omega)]
       simp only [U0,Q4t]
       cases hm:Q0c d a b with
       | none=>simp [Z3f,zP]
       | some m=>
        simp only [Z3f,Bool.not_true,U2,if_false,U0]
        rw [W5 (by simp only [U3,U4,Q7];omega)]
        simp only [U0]
        rw [ih (k+1) (s++[m]) as' bs' u2 a2 b2 (by simp;omega)]
        cases Q4t (Q0c d) as' bs' with
        | none=>simp
        | some ms=>simp
     have:=hlp (Z6 w t c) 0 [] ks ks' rfl rfl rfl (by simp;omega)
     rw [this]
     cases Q4t (Q0c d) ks ks' with
     | none=>simp [Z3f]
     | some ms=>simp [Z3f]
    ·have ec:(!ieq c c')=true:=by simp [ieq,hcc]
     simp [ec,hcc,Z3f,zP]
theorem W6z {w:List Q4}(hw:WW w)(S:List Int){t:Q1}(ht:t∈tys w){c:Int}(hc:c∈X1 w t):Q2x ⟨w,S⟩ t c=some (Q5v w t c):=by
 unfold Q2x
 simp only
 rw [(hw.ty t ht).a2 c hc]
 simp only [U0]
 have hal:=(hw.ty t ht).al c hc
 rw [Q4v (fun _=>[Q0.mk 1 0 0 0 0 []]) 100 (Z6 w t c) 0 [] (fun k x _ s hs=>by
  have:Q1e=some (Q0.mk 1 0 0 0 0 []):=rfl
  rw [this]
  simp only [U0]
  simp only [U3,U4] at hs
  rw [W5 (by simp only [U3,U4,Q7];omega)]
  rfl) (by
   have:∀ l:List Q1,(l.flatMap fun _=>[Q0.mk 1 0 0 0 0 []]).length=l.length:=fun l=>by induction l with | nil=>rfl | cons a l ih=>simp [ih]
   rw [this];simp;omega)]
 simp only [U0,List.nil_append,Q5v]
 congr 2
 induction Z6 w t c with
 | nil=>rfl
 | cons a l ih=>simp [ih]
theorem Z9z (p:Q0):Q64 p=some (if p.op=1 then (0,9) else (p.n,p.m)):=by
 unfold Q64
 by_cases h:p.op=1
 ·have:ieq p.op 1=true:=by rw [X2];exact h
  rw [if_pos this,if_pos h]
 ·have:ieq p.op 1=false:=by rw [X0];exact h
  rw [if_neg (by rw [this];simp),if_neg h]
theorem W48 {w:List Q4}{S:List Int}{n c0:Nat}{c:Int}{ks ks':List Q0}{fm:Q1→Q0→Q0→List Q0}{fj:Q0→Q0→Option Q0}{args:List Q1}
  (hl:ks.length=args.length) (hl':ks'.length=args.length) (ha3:args.length≤3)
  (hmin:∀ (k:Nat) (u:Q1) (a b:Q0),args[k]?=some u→ks[k]?=some a→ks'[k]?=some b→X7 n ⟨w,S⟩ u a b=some (fm u a b)∧W8 n ⟨w,S⟩ u a b=some (Z3f (fj a b))) :
  ∀ (ts:List Q1) (k:Nat) (out front as' bs':List Q0),args.drop k=ts→ks.drop k=as'→ks'.drop k=bs'→front.length=k→out.length+(kmD fm fj ts as' bs').length≤50000→c0=c0→
  ∃ fr,forL (fun k1426 x1427 (s1422:(List Q0)×(List Q0))=>
   ((idx ks (k1426:Int)).bind fun x1558=>
   ((idx ks' (k1426:Int)).bind fun x1559=>
   ((X7 n ⟨w,S⟩ x1427 x1558 x1559).bind fun r1560=>
   ((forL (fun k1588 x1589 (s1584:(List Q0))=>
   ((Z61 ks (wadd .i64 (k1426:Int) 1)).bind fun x1596=>
   ((Q02 [s1422.2,[x1589],x1596]).bind fun r1597=>
   ((app s1584 [(Q0.mk 4 c 0 0 0 r1597)]).bind fun x1598=>
   some (Ctl.go x1598))))) 0 r1560 s1422.1).bind fun (o1583:Ctl (Ctl (List Q0) ((List Q0)×(List Q0))) ((List Q0)))=>match o1583 with
   | .ret r=>some r
   | .go _=>none
   | .brk s1592=>
   ((W8 n ⟨w,S⟩ x1427 x1558 x1559).bind fun r1599=>
   (if (!r1599.2)=true then
   some (Ctl.brk (s1592,s1422.2))
   else
   ((app s1422.2 [r1599.1]).bind fun x1602=>
   some (Ctl.go (s1592,x1602)))))))))) k ts (out,front)=some (.brk (out++(kmD fm fj ts as' bs').map (fun q=>Q0.mk 4 c 0 0 0 (front++q)),fr)):=by
 intro ts
 induction ts with
 | nil=>
  intro k out front as' bs' h0 h1 h2 hf hs _
  exact ⟨front,by simp [forL,kmD]⟩
 | cons u ts ih=>
  intro k out front as' bs' h0 h1 h2 hf hs _
  obtain ⟨u1,u2⟩:=Q3y h0
  have hkl:=(List.getElem?_eq_some_iff.1 u1).1
  cases as' with
  | nil=>have:=congrArg List.length h1;simp at this;omega
  | cons a as'=>
  cases bs' with
  | nil=>have:=congrArg List.length h2;simp at this;omega
  | cons b bs'=>
  obtain ⟨a1,a2⟩:=Q3y h1
  obtain ⟨b1,b2⟩:=Q3y h2
  obtain ⟨m1,m2⟩:=hmin k u a b u1 a1 b1
  simp only [kmD,U5,U7] at hs
  have hw1:wadd .i64 (k:Int) 1=((k+1:Nat):Int):=by rw [Q10]<;>omega
  have hdrop:Z61 ks ((k+1:Nat):Int)=some as':=by
   unfold Z61
   rw [if_pos ⟨by omega,by omega⟩]
   simp [←a2]
  have has:as'.length≤3:=by rw [←a2];simp;omega
  unfold forL
  simp only [Q1m a1,Q1m b1,U0,m1,hw1,hdrop]
  have hin:=Q4v (ρ:=Ctl (List Q0) ((List Q0)×(List Q0))) (f:=fun (k1588:Nat) x1589 (s1584:(List Q0))=>
    ((Q02 [front,[x1589],as']).bind fun r1597=>
    ((app s1584 [(Q0.mk 4 c 0 0 0 r1597)]).bind fun x1598=>
    some (Ctl.go x1598)))) (fun x=>[Q0.mk 4 c 0 0 0 (front++x::as')]) 100000 (fm u a b) 0 out (fun k x _ s hs=>by
   simp only [U3,U4] at hs
   rw [W1r (by simp only [U3,U4];omega)]
   simp only [U0]
   rw [W5 (by simp only [U3,U4,Q7];omega)]
   simp) (by
    have:∀ l:List Q0,(l.flatMap fun x=>[Q0.mk 4 c 0 0 0 (front++x::as')]).length=l.length:=fun l=>by induction l with | nil=>rfl | cons a l ih=>simp [ih]
    rw [this];omega)
  have hfl:∀ l:List Q0,(l.flatMap fun x=>[Q0.mk 4 c 0 0 0 (front++x::as')])=l.map fun x=>Q0.mk 4 c 0 0 0 (front++x::as'):=fun l=>by induction l with | nil=>rfl | cons a l ih=>simp [ih]
  rw [hfl] at hin
  rw [hin]
  simp only [U0,m2]
  cases hm:fj a b with
  | none=>
   simp only [Z3f,Bool.not_false,if_true]
   refine ⟨front,?_⟩
   simp only [kmD,hm,List.append_nil,List.map_map]
   rfl
  | some m=>
   simp only [Z3f,Bool.not_true,U2,if_false]
   rw [W5 (by simp only [U3,U4,Q7];omega)]
   simp only [U0]
   rw [hm] at hs
   simp only [U7] at hs
   obtain ⟨fr,e⟩:=ih (k+1) (out++(fm u a b).map fun x=>Q0.mk 4 c 0 0 0 (front++x::as')) (front++[m]) as' bs' u2 a2 b2 (by simp;omega) (by simp only [U5,U7];omega) rfl
   refine ⟨fr,?_⟩
   rw [e]
   simp only [kmD,hm,List.map_append,List.map_map,List.append_assoc]
   congr 5
theorem Z5h {w:List Q4}(hw:WW w)(he:WE w)(S:List Int):∀ (d n x:Nat) (t:Q1) (a b:Q0),t∈tys w→Z7 w x t a→Z7 w d t b→cntP b≤10000→2 * d+5≤n→X7 n ⟨w,S⟩ t a b=some (W0 w d t a b)
 | 0,_,_,_,_,_,_,_,h,_,_=>h.elim
 | d+1,n,x,t,a,b,ht,ha,hb,hcnt,hn=>by
  obtain ⟨n,rfl⟩:∃ m,n=m+1:=⟨n-1,by omega⟩
  have i11:ieq 1 1=true:=rfl
  have i31:ieq 3 1=false:=rfl
  have i33:ieq 3 3=true:=rfl
  have i41:ieq 4 1=false:=rfl
  have i43:ieq 4 3=false:=rfl
  have e31:¬(3:Int)=1:=by decide
  have e41:¬(4:Int)=1:=by decide
  have e43:¬(4:Int)=3:=by decide
  obtain ⟨x,rfl,ha'⟩:=Z0k ha
  have hb0:=hb
  rcases hb with rfl | ⟨n2,m2,rfl,hd',g0,g1,g2⟩ | ⟨c',ks',rfl,hd',hc',hl',hk'⟩
  ·simp [X7,W0,i11]
  ·have hrg:∀ n1 m1:Int,0≤n1→m1≤9→Q2k n [n1,imin m1 (wsub .i64 n2 1),imax n1 (wadd .i64 m2 1),m1]=some (Z1l n1 m1 n2 m2):=fun n1 m1 h0 h9=>by
    rw [V20 (by omega),V0n,V0o,Q3z (by omega) (by omega),Q10 (by omega) (by omega)]
    rfl
   rcases ha' with rfl | ⟨n1,m1,rfl,hd,h0,_,h9⟩ | ⟨c,ks,rfl,hd,_⟩
   ·simp only [X7,W0,i31,i33,e31,U2,if_false,if_true,Z9z,U0]
    rw [hrg 0 9 (by omega) (by omega)]
    rfl
   ·simp only [X7,W0,i31,i33,e31,U2,if_false,if_true,Z9z,U0]
    rw [hrg n1 m1 h0 h9]
    rfl
   ·exact absurd hd' hd
  ·have hcn:cntP (Q0.mk 4 c' 0 0 0 ks')=1+cntP.cntPs ks':=Q36 _
   have hkc:∀ q∈ks',cntP q≤10000:=fun q hq=>by
    have:=Q7k (p:=Q0.mk 4 c' 0 0 0 ks') (List.mem_iff_getElem?.1 hq).choose_spec
    omega
   have hA:∀ (N:Nat) (c:Int) (ks:List Q0) (y:Nat),2 * d+5≤N→c∈X1 w t→ks.length=(Z6 w t c).length→(∀ (j:Nat) (a:Q1) (q:Q0),(Z6 w t c)[j]?=some a→ks[j]?=some q→Z7 w y a q)→
     X7 (N+1) ⟨w,S⟩ t (Q0.mk 4 c 0 0 0 ks) (Q0.mk 4 c' 0 0 0 ks')=some (cmD w (W0 w d) (Q0c d) t (Q0.mk 4 c 0 0 0 ks) (Q0.mk 4 c' 0 0 0 ks')):=fun N c ks y hN hc hl hk=>by
    simp only [X7,i41,i43,U2,if_false,cmD]
    by_cases hcc:c=c'
    ·subst hcc
     have ec:(!ieq c c)=false:=by simp [ieq]
     simp only [ec,U2,if_false,if_true]
     rw [(hw.ty t ht).a2 c hc]
     simp only [U0]
     have hlen:(kmD (W0 w d) (Q0c d) (Z6 w t c) ks ks').length≤3 * cntP.cntPs ks':=
      X8l (Z6 w t c) ks ks' fun j u p q h1 h2=>Q83 hw he d u p q ((hw.ty t ht).at_ _ hc u (U1 h1)) (hk' j u q h1 h2)
     obtain ⟨fr,e⟩:=W48 (w:=w) (S:=S) (n:=N) (c0:=0) (c:=c) (fm:=W0 w d) (fj:=Q0c d) hl hl' ((hw.ty t ht).al c hc) (fun k u p q h1 h2 h3=>
      have hu:=(hw.ty t ht).at_ _ hc u (U1 h1)
      ⟨Z5h hw he S d N y u p q hu (hk k u p h1 h2) (hk' k u q h1 h3) (hkc q (U1 h3)) (by omega),Z7q hw S d N y u p q hu (hk k u p h1 h2) (hk' k u q h1 h3) (by omega)⟩)
      (Z6 w t c) 0 [] [] ks ks' rfl rfl rfl rfl (by simp only [U4];omega) rfl
     have e':=congrArg (fun z:Option (Ctl (List Q0) ((List Q0)×(List Q0)))=>z.bind fun o=>match o with | .ret r=>some r | .go _=>none | .brk s=>some s.1) e
     exact e'.trans (by simp)
    ·have ec:(!ieq c c')=true:=by simp [ieq,hcc]
     simp [ec,hcc]
   rcases ha' with rfl | ⟨n1,m1,rfl,hd,_⟩ | ⟨c,ks,rfl,hd,hc,hl,hk⟩
   ·simp only [X7,W0,i11,i41,i43,e41,e43,U2,if_false,if_true]
    rw [(hw.ty t ht).c2]
    simp only [U0]
    obtain ⟨N,rfl⟩:∃ m,n=m+1:=⟨n-1,by omega⟩
    have hlen:=Q83 hw he (d+1) t (Q0.mk 1 0 0 0 0 []) (Q0.mk 4 c' 0 0 0 ks') ht hb0
    simp only [W0,e41,e43,if_false,if_true] at hlen
    rw [Q4v (fun c=>cmD w (W0 w d) (Q0c d) t (Q5v w t c) (Q0.mk 4 c' 0 0 0 ks')) 1000000 (X1 w t) 0 [] (fun k c hc s hs=>by
     rw [W6z hw S ht hc]
     simp only [U0]
     rw [Q5v,hA N c _ 1 (by omega) hc (by simp) (fun j a q ha hq=>by
      rw [List.getElem?_map,ha] at hq
      cases hq
      exact Q75 w 0 a)]
     simp only [U0]
     rw [W5 (by simp only [Q7];simp only [Q5v] at hs;omega)]
     rfl) (by simp only [U4];omega)]
    simp
   ·exact absurd hd hd'
   ·rw [hA n c ks x (by omega) hc hl hk]
    simp [W0]
theorem V6y {α:Type}{xs:List α}{i:Int}{x:α}(h0:0≤i)(h:i<xs.length):setI xs i x=some (xs.set i.toNat x):=by
 unfold setI
 rw [if_pos ⟨h0,by omega⟩]
theorem V1o {α:Type}{xs:List α}{i:Nat}(h:i≤xs.length):Q7x xs (i:Int)=some (xs.take i):=by
 unfold Q7x
 rw [if_pos ⟨by omega,by omega⟩]
 rfl
theorem X3w (f:Q0→Option Bool)(g:Q0→Bool):∀ (l:List Q0) (k:Nat),(∀ x∈l,f x=some (g x))→∃ i:Nat,
  (forL (ρ:=Int) (fun k70 x71 (_:Unit)=>((f x71).bind fun r78=>(if r78=true then some (Ctl.ret ((k70:Int))) else some (Ctl.go ())))) k l ()=some (.ret ((k+i:Nat):Int))∧(∃ x,l[i]?=some x∧g x=true)∧∀ x∈l.take i,g x=false)∨
  (forL (ρ:=Int) (fun k70 x71 (_:Unit)=>((f x71).bind fun r78=>(if r78=true then some (Ctl.ret ((k70:Int))) else some (Ctl.go ())))) k l ()=some (.brk ())∧∀ x∈l,g x=false)
 | [],k,_=>⟨0,.inr ⟨rfl,fun x hx=>by simp at hx⟩⟩
 | x::l,k,h=>by
  unfold forL
  rw [h x (by simp)]
  simp only [U0]
  cases hg:g x with
  | true=>exact ⟨0,.inl ⟨by simp,⟨x,rfl,hg⟩,by simp⟩⟩
  | false=>
   simp only [U2,if_false]
   obtain ⟨i,hi⟩:=X3w f g l (k+1) fun y hy=>h y (by simp [hy])
   rcases hi with ⟨e,⟨y,hy,gy⟩,hn⟩ | ⟨e,hn⟩
   ·refine ⟨i+1,.inl ⟨by rw [e];congr 3;omega,⟨y,by simpa using hy,gy⟩,fun z hz=>?_⟩⟩
    simp only [List.take_succ_cons,U8] at hz
    rcases hz with rfl | hz
    ·exact hg
    ·exact hn z hz
   ·exact ⟨0,.inr ⟨e,fun z hz=>by
     rcases U8.1 hz with rfl | hz
     ·exact hg
     ·exact hn z hz⟩⟩
theorem W1o {n:Nat}{l:List Q0}(f:Q0→Option Bool)(g:Q0→Bool)(hf:∀ x∈l,f x=some (g x))(hl:l.length≤10000000)(hn:l.length+5≤n):J5 n l f=some (l.filter fun x=>!g x):=by
 suffices hs:Ret (J5 n l f) (fun r=>r=l.filter fun x=>!g x) by
  obtain ⟨a,e,rfl⟩:=hs
  exact e
 unfold J5
 have hix:∃ r,J8 l f=some r∧((∃ i:Nat,r=(i:Int)∧(∃ x,l[i]?=some x∧g x=true)∧∀ x∈l.take i,g x=false)∨(r = -1∧∀ x∈l,g x=false)):=by
  obtain ⟨i,h⟩:=X3w f g l 0 hf
  unfold J8
  rcases h with ⟨e,h1,h2⟩ | ⟨e,h1⟩
  ·have e':=congrArg (fun z:Option (Ctl Int Unit)=>z.bind fun o=>match o with | .ret r=>some r | .go _=>none | .brk _=>some (-1)) e
   exact ⟨_,e',.inl ⟨i,by simp,h1,h2⟩⟩
  ·have e':=congrArg (fun z:Option (Ctl Int Unit)=>z.bind fun o=>match o with | .ret r=>some r | .go _=>none | .brk _=>some (-1)) e
   exact ⟨_,e',.inr ⟨rfl,h1⟩⟩
 obtain ⟨r,e,hr⟩:=hix
 rw [e]
 simp only [U0]
 rcases hr with ⟨i0,rfl,⟨x0,hx0,g0⟩,hn0⟩ | ⟨rfl,hno⟩
 ·have e1:ieq (i0:Int) (-1)=false:=by rw [X0];omega
  have hi0:=(List.getElem?_eq_some_iff.1 hx0).1
  simp only [e1,U2,if_false]
  rw [Q10 (by omega) (by omega)]
  refine Ret.ctl (Q4f (fun s=>∃ i j:Nat,s.2.1=(i:Int)∧s.2.2=(j:Int)∧i≤j∧j≤l.length∧s.1.length=l.length∧s.1.take i=(l.take j).filter (fun x=>!g x)∧(∀ m,j≤m→s.1[m]?=l[m]?)∧i<l.length) (fun s=>l.length-s.2.2.toNat) (fun _=>False) (fun s=>∃ i:Nat,s.2.1=(i:Int)∧i≤s.1.length∧s.1.take i=l.filter (fun x=>!g x)) ?_ (fun s hI=>?_) n (by simp;omega)) (fun r hr=>hr.elim) (fun s hs=>?_)
  ·refine ⟨i0,i0+1,rfl,by simp,by omega,by omega,rfl,?_,fun m _=>rfl,hi0⟩
   have h1:(l.take i0).filter (fun x=>!g x)=l.take i0:=List.filter_eq_self.2 fun x hx=>by simp [hn0 x hx]
   rw [List.take_add_one,hx0,List.filter_append,h1]
   simp [g0]
  ·obtain ⟨i,j,e1,e2,h1,h2,h4,h5,h6,h7⟩:=hI
   obtain ⟨m,wi,rj⟩:=s
   simp only at e1 e2 h4 h5 h6
   subst e1 e2
   dsimp only
   rw [h4]
   by_cases hj:j<l.length
   ·have e:ilt (j:Int) (lenZ l.length)=true:=by rw [Z9,Q0e];omega
    simp only [e,if_true]
    obtain ⟨x,hx⟩:∃ x,l[j]?=some x:=⟨_,U9 hj⟩
    rw [Q1m (by rw [h6 j (Nat.le_refl _)];exact hx)]
    simp only [U0]
    rw [hf x (U1 hx)]
    simp only [U0]
    have hstep:(l.take (j+1)).filter (fun x=>!g x)=(l.take j).filter (fun x=>!g x)++(if g x=true then [] else [x]):=by
     rw [List.take_add_one,hx,List.filter_append]
     cases hc:g x<;>simp [hc]
    rw [Q10 (a:=(j:Int)) (by omega) (by omega)]
    cases hc:g x with
    | true=>
     simp only [Bool.not_true,U2,if_false,U0]
     refine .some ⟨⟨i,j+1,rfl,by simp,by omega,by omega,h4,?_,fun m hm=>h6 m (by omega),h7⟩,by simp only;omega⟩
     rw [hstep,if_pos hc,h5];simp
    | false=>
     simp only [Bool.not_false,if_true]
     obtain ⟨y,hy⟩:∃ y,m[i]?=some y:=⟨_,U9 (by omega)⟩
     rw [Q1m hy]
     simp only [U0]
     rw [V6y (by omega) (by omega),Q10 (by omega) (by omega)]
     simp only [U0]
     have hfl:=List.length_filter_le (fun x=>!g x) (l.take j)
     have hil:i+1≤l.length:=by omega
     by_cases hi1:i+1<l.length
     ·refine .some ⟨⟨i+1,j+1,by simp,by simp,by omega,by omega,by simp [h4],?_,fun m' hm=>?_,hi1⟩,by simp only;omega⟩
      ·simp only
       rw [hstep,if_neg (by rw [hc];simp),←h5,List.take_add_one,List.take_set_of_le (by simp)]
       simp [show i<m.length by omega]
      ·simp only
       rw [List.getElem?_set_ne (by simp;omega)]
       exact h6 m' (by omega)
     ·exfalso
      have hij:i=j:=by omega
      have hk:((l.take j).filter fun x=>!g x).length=i:=by rw [←h5];simp;omega
      have hall:(l.take j).filter (fun x=>!g x)=l.take j:=(List.filter_sublist).eq_of_length (by rw [hk];simp;omega)
      have hj0:i0<j∨i0=j:=by omega
      rcases hj0 with hj0 | hj0
      ·have hm:x0∈l.take j:=U1 (i:=i0) (by rw [List.getElem?_take_of_lt hj0];exact hx0)
       rw [←hall] at hm
       have:=(List.mem_filter.1 hm).2
       simp [g0] at this
      ·subst hj0
       rw [hx] at hx0
       cases hx0
       rw [hc] at g0
       cases g0
   ·have e:ilt (j:Int) (lenZ l.length)=false:=by rw [J0,Q0e];omega
    simp only [e,U2,if_false]
    refine .some ⟨i,rfl,by simp only;omega,?_⟩
    simp only
    rw [h5,show j=l.length by omega,List.take_length]
  ·obtain ⟨i,e1,h1,h2⟩:=hs
   dsimp only
   rw [e1,V1o h1]
   exact .some h2
 ·have e1:ieq (-1) (-1)=true:=rfl
  simp only [e1,if_true]
  exact .some (List.filter_eq_self.2 fun x hx=>by simp [hno x hx]).symm
theorem W5l {l:List Q0}(h:l.length≤10000000):Y1 l=some l:=by
 unfold Y1
 rw [W5 (by simp [Q7];omega)]
 rfl
def chkF (w:List Q4):Bool:=(tys w).all fun t=>decide (Q05 (dimP w) t=some (depP w t))
theorem W1u:Q0a.all chkF=true:=by kernel_rfl
theorem W5e {w:List Q4}(h:w∈Q0a){t:Q1}(ht:t∈tys w):Q05 (dimP w) t=some (depP w t):=by
 have:=List.all_eq_true.1 W1u w h
 simp only [chkF,List.all_eq_true,decide_eq_true_eq] at this
 exact this t ht
theorem X3f {w:List Q4}{d:Nat}{t:Q1}{p:Q0}(h:Z7 w d t p):Q7a w t p=true∧Y2 w t p=(if p.op=4 then Z6 w t p.ctor else []):=by
 obtain ⟨e,rfl,h⟩:=Z0k h
 rcases h with rfl | ⟨n,m,rfl,hd,h0,h1,h2⟩ | ⟨c,ks,rfl,hd,hc,hl,hk⟩
 ·simp [Q7a,Q9j,Y2]
 ·simp [Q7a,Q9j,Y2,hd,h0,h1,h2]
 ·simp [Q7a,Q9j,Y2,hc,hl]
theorem Z3k {w:List Q4}(hw:WW w){d:Nat}{t:Q1}{p:Q0}(ht:t∈tys w)(h:Z7 w d t p):Q44 w t p=some (if p.op=4 then Z6 w t p.ctor else []):=by
 obtain ⟨h1,h2⟩:=X3f h
 obtain ⟨ts,e1,e2⟩:=X83 (hw.ty t ht) p
 unfold Q44
 rw [e1]
 simp only [U0]
 rw [e2 h1,h2]
theorem Z0t {w:List Q4}(hww:w∈Q0a)(hw:WW w):∀ (d n:Nat) (t:Q1) (p:Q0),t∈tys w→Z7 w d t p→d+1≤n→W6 n ⟨w,dimP w⟩ t p=some (W1 w d t p)
 | 0,_,_,_,_,h,_=>h.elim
 | d+1,n,t,p,ht,hp,hn=>by
  obtain ⟨n,rfl⟩:∃ m,n=m+1:=⟨n-1,by omega⟩
  have hkt:=Z3k hw ht hp
  have i11:ieq 1 1=true:=rfl
  have i31:ieq 3 1=false:=rfl
  have i32:ieq 3 2=false:=rfl
  have i35:ieq 3 5=false:=rfl
  have i41:ieq 4 1=false:=rfl
  have i42:ieq 4 2=false:=rfl
  have i45:ieq 4 5=false:=rfl
  have e31:¬(3:Int)=1:=by decide
  have e34:¬(3:Int)=4:=by decide
  have e41:¬(4:Int)=1:=by decide
  rcases hp with rfl | ⟨n1,m1,rfl,hd,_⟩ | ⟨c,ks,rfl,hd,hc,hl,hk⟩
  ·simp only [W6,i11,if_true,U0,W5e hww ht,W1]
   rfl
  ·simp only [W6,i31,i32,i35,U2,if_false,U0,W1,e31,e34]
   rw [hkt]
   simp [e34,forL]
  ·simp only [W6,i41,i42,i45,U2,if_false,U0,W1,e41,if_true]
   rw [hkt]
   simp only [if_true,U0]
   have hlp:∀ (ts:List Q1) (k:Nat) (ks':List Q0),(Z6 w t c).drop k=ts→ks.drop k=ks'→
     forL (ρ:=Bool) (fun k133 x134 (_:Unit)=>((idx ks (k133:Int)).bind fun x142=>((W6 n ⟨w,dimP w⟩ x134 x142).bind fun r143=>(if r143=true then some (Ctl.ret (true)) else some (Ctl.go ()))))) k ts ()=some (if ((ts.zip ks').any fun x=>W1 w d x.1 x.2)=true then .ret true else .brk ()):=by
    intro ts
    induction ts with
    | nil=>intro k ks' _ _;simp [forL]
    | cons u ts ih=>
     intro k ks' h0 h1
     obtain ⟨u1,u2⟩:=Q3y h0
     have hkl:=(List.getElem?_eq_some_iff.1 u1).1
     cases ks' with
     | nil=>have:=congrArg List.length h1;simp at this;omega
     | cons q ks'=>
     obtain ⟨q1,q2⟩:=Q3y h1
     unfold forL
     simp only [Q1m q1,U0]
     rw [Z0t hww hw d n u q ((hw.ty t ht).at_ _ hc u (U1 u1)) (hk k u q u1 q1) (by omega)]
     simp only [U0,List.zip_cons_cons,List.any_cons]
     rcases Bool.eq_false_or_eq_true (W1 w d u q) with hem | hem
     ·simp [hem]
     ·simp only [hem,U2,if_false,Bool.false_or]
      exact ih (k+1) ks' u2 q2
   have e:=hlp (Z6 w t c) 0 ks rfl rfl
   have e':=congrArg (fun z:Option (Ctl Bool Unit)=>z.bind fun o=>match o with | .ret r=>some r | .go _=>none | .brk _=>some false) e
   refine e'.trans ?_
   cases ((Z6 w t c).zip ks).any fun x=>W1 w d x.1 x.2<;>simp
theorem Z3m {w:List Q4}(hww:w∈Q0a)(hw:WW w){d n:Nat}{t:Q1}(ht:t∈tys w){l:List Q0}(h:∀ a∈l,Z7 w d t a)(hl:l.length≤10000000)(hn:l.length+d+5≤n):Q0q n ⟨w,dimP w⟩ t l=some (Q6z w d t l):=by
 unfold Q0q
 rw [W5l hl]
 simp only [U0]
 rw [W1o _ (fun p=>W1 w d t p) (fun x hx=>by
  unfold Q33
  rw [Z0t hww hw d n t x ht (h x hx) (by omega)]
  rfl) hl (by omega)]
 rfl
def optR:Option (List Q0)→List Q0×Bool
 | some r=>(r,true)
 | none=>([],false)
theorem Z69 (w:List Q4)(x:Nat)(t:Q1)(l:List Q0):(Q6z w x t l).length≤l.length:=List.length_filter_le _ _
theorem Q8w {w:List Q4}(hww:w∈Q0a)(hw:WW w)(he:WE w){d x n:Nat}{t:Q1}(ht:t∈tys w)(hx:d+1≤x)(hx2:x≤100){l bs:List Q0}(hb:∀ b∈bs,Z7 w d t b∧cntP b≤130)(h:∀ a∈l,Z7 w x t a)(hl:l.length≤20000)(hn:20000000≤n) :
  Q0k n ⟨w,dimP w⟩ t l bs=some (optR (Q0t w d x t l bs)):=by
 unfold Q0k Q0t
 rw [Z3m hww hw ht h (by omega) (by omega)]
 simp only [U0]
 have hk:=Z69 w x t l
 have hkp:∀ a∈Q6z w x t l,Z7 w x t a:=fun a ha=>h a (List.mem_filter.1 ha).1
 generalize Q6z w x t l=s at hk hkp
 have hs:s.length≤20000:=by omega
 clear hk h hl
 have hlp:∀ (bs:List Q0) (k:Nat) (s:List Q0),(∀ b∈bs,Z7 w d t b∧cntP b≤130)→(∀ a∈s,Z7 w x t a)→s.length≤20000→
   forL (fun k871 x872 (s865:(List Q0))=>
   ((forL (fun k1028 x1029 (s1022:(List Q0))=>
   ((X7 n ⟨w,dimP w⟩ t x1029 x872).bind fun r1036=>
   ((app s1022 r1036).bind fun x1037=>
   some (Ctl.go x1037)))) 0 s865 []).bind fun (o1021:Ctl (Ctl ((List Q0)×Bool) ((List Q0))) ((List Q0)))=>match o1021 with
   | .ret r=>some r
   | .go _=>none
   | .brk s1032=>
   ((Q0q n ⟨w,dimP w⟩ t s1032).bind fun r1039=>
   (if (ilt 400 (lenZ r1039.length))=true then
   some (Ctl.ret (([],false)))
   else
   some (Ctl.go r1039))))) k bs s=some (match Q57 w d x t s bs with | some r=>.brk r | none=>.ret ([],false)):=by
  intro bs
  induction bs with
  | nil=>intro k s _ _ _;simp [forL,Q57]
  | cons b bs ih=>
   intro k s hb hs hl
   obtain ⟨hb1,hb2⟩:=hb b (by simp)
   have hfl:=X2o hw he ht hb1 s
   have hfl2:(s.flatMap fun a=>W0 w d t a b).length≤7800000:=by
    have:s.length * (3 * cntP b)≤20000 * 390:=Nat.mul_le_mul (by omega) (by omega)
    omega
   unfold forL
   rw [Q4v (fun a=>W0 w d t a b) 10000000 s 0 [] (fun k a ha s' hs'=>by
    rw [Z5h hw he (dimP w) d n x t a b ht (hs a ha) hb1 (by omega) (by omega)]
    simp only [U0]
    rw [W5 (by simp only [Q7];omega)]
    rfl) (by simp only [U4];omega)]
   simp only [U0,List.nil_append]
   have hmp:∀ y∈s.flatMap (fun a=>W0 w d t a b),Z7 w x t y:=fun y hy=>by
    obtain ⟨a,ha,hy⟩:=List.mem_flatMap.1 hy
    exact Q7s d x t a b hx (hs a ha) hb1 y hy
   rw [Z3m hww hw ht hmp (by omega) (by omega)]
   simp only [U0,Q57]
   have hst:Q6z w x t (s.flatMap fun a=>W0 w d t a b)=Q3b w d x t s b:=rfl
   rw [hst]
   by_cases hc:400<(Q3b w d x t s b).length
   ·have e:ilt 400 (lenZ (Q3b w d x t s b).length)=true:=by rw [Z9,Q0e];omega
    simp only [e,if_true,if_pos hc]
   ·have e:ilt 400 (lenZ (Q3b w d x t s b).length)=false:=by rw [J0,Q0e];omega
    simp only [e,U2,if_false,if_neg hc]
    exact ih (k+1) _ (fun b hb'=>hb b (by simp [hb'])) (Q7y hx hb1 hs) (by omega)
 have e:=hlp bs 0 s hb hkp hs
 have e':=congrArg (fun z:Option (Ctl ((List Q0)×Bool) (List Q0))=>z.bind fun o=>match o with | .ret r=>some r | .go _=>none | .brk s=>some (s,true)) e
 refine e'.trans ?_
 cases Q57 w d x t s bs<;>simp [optR]
theorem W5s:∀ (d n:Nat) (p:Q0),W1p d p→d≤n→cntP p≤1000→V7 n p=some (W7 d p)
 | 0,_,_,h,_,_=>h.elim
 | d+1,n,p,h,hn,hc=>by
  obtain ⟨n,rfl⟩:∃ m,n=m+1:=⟨n-1,by omega⟩
  have hcp:=Q36 p
  have hkid:∀ q∈p.kids,V7 n q=some (W7 d q):=fun q hq=>by
   obtain ⟨j,hj⟩:=List.mem_iff_getElem?.1 hq
   have:=Q7k hj
   exact W5s d n q (h q hq) (by omega) (by omega)
  have hlen:p.kids.length≤1000:=by
   have:∀ l:List Q0,l.length≤cntP.cntPs l:=fun l=>by
    induction l with
    | nil=>simp
    | cons a l ih=>have:=Q7m a;simp only [U3,cntP.cntPs];omega
   have:=this p.kids
   omega
  have hloop:=Q4v (ρ:=Q0) (f:=fun (k102:Nat) x103 (s96:(List Q0))=>((V7 n x103).bind fun r110=>((app s96 [r110]).bind fun x111=>some (Ctl.go x111)))) (fun q=>[W7 d q]) 100000 p.kids 0 [] (fun k q hq s hs=>by
   rw [hkid q hq]
   simp only [U0]
   simp only [U3,U4] at hs
   rw [W5 (by simp only [U3,U4,Q7];omega)]
   rfl) (by
    have:∀ l:List Q0,(l.flatMap fun q=>[W7 d q]).length=l.length:=fun l=>by induction l with | nil=>rfl | cons a l ih=>simp [ih]
    rw [this];simp only [U4];omega)
  have hfl:∀ l:List Q0,(l.flatMap fun q=>[W7 d q])=l.map (W7 d):=fun l=>by induction l with | nil=>rfl | cons a l ih=>simp [ih]
  rw [hfl] at hloop
  have hany:Q1e=some (Q0.mk 1 0 0 0 0 []):=rfl
  by_cases h2:p.op=2
  ·have e:ieq p.op 2=true:=by rw [X2];exact h2
   have hb:W7 (d+1) p=Q0.mk 1 0 0 0 0 []:=by simp [W7,h2]
   rw [hb]
   simp only [V7,e,if_true,hany,U0]
  ·have e:ieq p.op 2=false:=by rw [X0];exact h2
   by_cases h6:p.op=6
   ·have e6:ieq p.op 6=true:=by rw [X2];exact h6
    cases hk:p.kids with
    | nil=>
     have e0:ilt 0 (lenZ p.kids.length)=false:=by rw [J0,hk,Q0e];simp
     rw [hk] at hloop
     simp only [V7,e,e6,e0,U2,if_false,if_true,U0,W7,h2,hk]
     have e':=congrArg (fun z:Option (Ctl Q0 (List Q0))=>z.bind fun o=>match o with | .ret r=>some r | .go _=>none | .brk s=>some (Q0.mk p.op p.ctor p.n p.m p.var s)) hloop
     refine e'.trans ?_
     simp
    | cons q ks=>
     have e0:ilt 0 (lenZ p.kids.length)=true:=by rw [Z9,hk,Q0e];simp
     have hq:=hkid q (by simp [hk])
     have hix:idx p.kids 0=some q:=Q1m (i:=0) (by simp [hk])
     have hb:W7 (d+1) p=W7 d q:=by simp [W7,h6,hk]
     rw [hb]
     simp only [V7,e,e6,e0,U2,if_false,if_true,hix,U0,hq]
   ·have e6:ieq p.op 6=false:=by rw [X0];exact h6
    simp only [V7,e,e6,U2,if_false,U0,W7,h2,h6,false_and]
    have e':=congrArg (fun z:Option (Ctl Q0 (List Q0))=>z.bind fun o=>match o with | .ret r=>some r | .go _=>none | .brk s=>some (Q0.mk p.op p.ctor p.n p.m p.var s)) hloop
    refine e'.trans ?_
    simp
theorem Z44 {w:List Q4}(hw:WW w):∀ (d:Nat) (t:Q1) (p:Q0),t∈tys w→altD w d t p→orOk d p
 | 0,_,_,_,h=>h.elim
 | d+1,t,p,ht,h=>by
  rcases h with rfl | ⟨n,m,rfl,h⟩ | ⟨c,ks,rfl,h1,h2,h3,h4⟩ | ⟨a,b,rfl,h1,h2⟩
  ·exact ⟨by simp,by simp,by simp⟩
  ·exact ⟨by simp,by simp,by simp⟩
  ·refine ⟨by simp only;rw [h3];exact (hw.ty t ht).al c h2,by simp,fun q hq=>?_⟩
   obtain ⟨j,hj⟩:=List.mem_iff_getElem?.1 hq
   obtain ⟨a,ha⟩:=Q0z h3.symm (List.getElem?_eq_some_iff.1 hj).1
   exact Z44 hw d a q ((hw.ty t ht).at_ _ h2 a (U1 ha)) (h4 j a q ha hj)
  ·refine ⟨by simp,by simp,fun q hq=>?_⟩
   simp at hq
   rcases hq with rfl | rfl
   ·exact Z44 hw d t _ ht h1
   ·exact Z44 hw d t _ ht h2
theorem Z14 {w:List Q4}(t:Q1)(h:t.data = -1):X1 w t=[]:=by
 unfold X1 Q08
 have:ieq t.data (-1)=true:=by rw [X2];exact h
 rw [if_pos this]
 rfl
def Q6t (p:Q0):Option (List Q0):=if 40<(Z3 10 (W7 10 p)).length then none else some (Z3 10 (W7 10 p))
theorem Z5g {w:List Q4}(hw:WW w){n:Nat}{t:Q1}{p:Q0}(ht:t∈tys w)(g:Q18 w 10 t p=true)(hc:cntP p≤1000)(hn:100≤n):Q5d n p=some (optR (Q6t p)):=by
 have ha:=Q7n Z14 10 t p g
 have ho:=Z44 hw 10 t _ ht ha
 unfold Q5d Q6t
 rw [W5s 10 n p (Z3o 10 t p g) (by omega) hc]
 simp only [U0]
 rw [X1q 10 n _ ho (by omega)]
 simp only [U0]
 by_cases h:40<(Z3 10 (W7 10 p)).length
 ·have e:ilt 40 ((min (Z3 10 (W7 10 p)).length 401:Nat):Int)=true:=by rw [Z9];omega
  simp only [e,if_true,if_pos h]
  rfl
 ·have e:ilt 40 ((min (Z3 10 (W7 10 p)).length 401:Nat):Int)=false:=by rw [J0];omega
  simp only [e,U2,if_false,if_neg h]
  rw [X3y 10 n _ ho (by omega) (by omega)]
  rfl
theorem Z4v (l:List Q0)(f:Q0→Option Bool)(g:Q0→Bool)(hf:∀ x∈l,f x=some (g x)):Q17 l f=some (l.any g):=X55 (Q7t l f g hf)
def Q2h:List Q5→Option (List Q0)
 | []=>some []
 | c::cs=>if c.guard.op=0 then (Q6t c.pat).bind fun l=>(Q2h cs).map (l++·) else Q2h cs
theorem Q91 {p:Q0}{l:List Q0}(h:Q6t p=some l):l.length≤40∧l=Z3 10 (W7 10 p):=by
 unfold Q6t at h
 split at h
 ·cases h
 ·cases h;exact ⟨by omega,rfl⟩
theorem Z5i {w:List Q4}(hw:WW w){n:Nat}{t:Q1}(ht:t∈tys w)(hn:100≤n):∀ (cs:List Q5),(∀ c∈cs,Q18 w 10 t c.pat=true∧cntP c.pat≤1000)→cs.length≤1000→Q45 n cs=some (optR (Q2h cs)):=fun cs h hl=>by
 have hlp:∀ (cs:List Q5) (k:Nat) (s:List Q0),(∀ c∈cs,Q18 w 10 t c.pat=true∧cntP c.pat≤1000)→s.length+40 * cs.length≤100000→
   forL (fun k130 x131 (s124:(List Q0))=>
   (((if (!ieq x131.guard.op 0)=true then
   some (Ctl.brk s124)
   else
   ((Q5d n x131.pat).bind fun r148=>
   (if (!r148.2)=true then
   some (Ctl.ret (Ctl.ret (([],false))))
   else
   ((app s124 r148.1).bind fun x151=>
   some (Ctl.brk x151)))))).bind fun (o143:Ctl (Ctl ((List Q0)×Bool) ((List Q0))) ((List Q0)))=>match o143 with
   | .ret r=>some r
   | .go _=>none
   | .brk s142=>
   some (Ctl.go s142))) k cs s=some (match Q2h cs with | some r=>.brk (s++r) | none=>.ret ([],false)):=by
  intro cs
  induction cs with
  | nil=>intro k s _ _;simp [forL,Q2h]
  | cons c cs ih=>
   intro k s h hs
   obtain ⟨g,hc⟩:=h c (by simp)
   simp only [U3] at hs
   unfold forL
   by_cases hg:c.guard.op=0
   ·have e:(!ieq c.guard.op 0)=false:=by simp [ieq,hg]
    simp only [e,U2,if_false]
    rw [Z5g hw ht g hc hn]
    simp only [U0,Q2h,if_pos hg]
    cases hp:Q6t c.pat with
    | none=>simp [optR]
    | some l=>
     have hl:=(Q91 hp).1
     simp only [optR,Bool.not_true,U2,if_false,U0]
     rw [W5 (by simp only [Q7];omega)]
     simp only [U0]
     rw [ih (k+1) (s++l) (fun c hc=>h c (by simp [hc])) (by simp only [U5];omega)]
     cases Q2h cs with
     | none=>simp
     | some r=>simp
   ·have e:(!ieq c.guard.op 0)=true:=by simp [ieq,hg]
    simp only [e,if_true,U0,Q2h,if_neg hg]
    exact ih (k+1) s (fun c hc=>h c (by simp [hc])) (by omega)
 have e:=hlp cs 0 [] h (by simp only [U4];omega)
 unfold Q45
 have e':=congrArg (fun z:Option (Ctl ((List Q0)×Bool) (List Q0))=>z.bind fun o=>match o with | .ret r=>some r | .go _=>none | .brk s=>some (s,true)) e
 refine e'.trans ?_
 cases Q2h cs<;>simp [optR]
theorem Z3d {w:List Q4}(hw:WW w){n:Nat}(hn:100≤n){t:Q1}(ht:t∈tys w)(p:Q0):Q39 n w t p=some (Q0u w t p):=by
 unfold Q39
 obtain ⟨r,e,h1,_⟩:=Z1x hw hn t p ht
 rw [e]
 simp only [U0,h1]
theorem W01 {w:List Q4}{t:Q1}{n:Nat}(hn:10≤n):∀ {l:List Q0},(∀ p∈l,Q0u w t p=true)→l.length≤100000→Q3j n l=some l:=fun {l} h hl=>by
 unfold Q3j
 have hloop:=Q4v (ρ:=List Q0) (f:=fun (k70:Nat) x71 (s64:(List Q0))=>((Q1c n x71).bind fun r78=>((app s64 [r78]).bind fun x79=>some (Ctl.go x79)))) (fun q=>[q]) 1000000 l 0 [] (fun k q hq s hs=>by
  obtain ⟨g,hc,_⟩:=Q4w (h q hq)
  rw [W09 10 n q (Z3o 10 t q g) hn (by omega)]
  simp only [U0]
  simp only [U3,U4] at hs
  rw [W5 (by simp only [U3,U4,Q7];omega)]
  rfl) (by
   have:∀ l:List Q0,(l.flatMap fun q=>[q]).length=l.length:=fun l=>by induction l with | nil=>rfl | cons a l ih=>simp [ih]
   rw [this];simp only [U4];omega)
 have hfl:∀ l:List Q0,(l.flatMap fun q=>[q])=l:=fun l=>by induction l with | nil=>rfl | cons a l ih=>simp [ih]
 rw [hfl] at hloop
 have e':=congrArg (fun z:Option (Ctl (List Q0) (List Q0))=>z.bind fun o=>match o with | .ret r=>some r | .go _=>none | .brk s=>some s) hloop
 exact e'.trans (by simp)
def Q78 (w:List Q4)(t:Q1):Option (List Q0)→Option (List Q0)
 | none=>none
 | some l=>if l.all (Q0u w t)=true then some l else none
theorem Q9t {w:List Q4}(hw:WW w){S:List Int}{n:Nat}(hn:100≤n){t:Q1}(ht:t∈tys w)(o:Option (List Q0))(ho:∀ l,o=some l→l.length≤100000) :
  Q1p n ⟨w,S⟩ t (optR o).1 (optR o).2=some (optR (Q78 w t o)):=by
 unfold Q1p
 cases o with
 | none=>simp [optR,Q78]
 | some l=>
  simp only [optR,Bool.not_true,U2,if_false]
  rw [Z4v l _ (fun p=>!Q0u w t p) (fun p _=>by
   unfold Q32
   rw [Z3d hw hn ht p]
   rfl)]
  simp only [U0,Q78]
  by_cases h:l.all (Q0u w t)=true
  ·have e:(l.any fun p=>!Q0u w t p)=false:=by
    rw [List.any_eq_false]
    intro p hp
    simp [List.all_eq_true.1 h p hp]
   simp only [e,U2,if_false,if_pos h]
   rw [W01 (by omega) (fun p hp=>List.all_eq_true.1 h p hp) (ho l rfl)]
   rfl
  ·have e:(l.any fun p=>!Q0u w t p)=true:=by
    rw [List.any_eq_true]
    simp only [List.all_eq_true,Classical.not_forall] at h
    obtain ⟨p,hp,h⟩:=h
    exact ⟨p,hp,by simpa using h⟩
   simp only [e,if_true,if_neg h]
theorem Z5a {w:List Q4}(hw:WW w):∀ (d n:Nat) (t:Q1) (p:Q0),t∈tys w→Z7 w d t p→d+1≤n→Q0m n w (tabP w) t p=some (!W1 w d t p)
 | 0,_,_,_,_,h,_=>h.elim
 | d+1,n,t,p,ht,hp,hn=>by
  obtain ⟨n,rfl⟩:∃ m,n=m+1:=⟨n-1,by omega⟩
  have i11:ieq 1 1=true:=rfl
  have i31:ieq 3 1=false:=rfl
  have i33:ieq 3 3=true:=rfl
  have i41:ieq 4 1=false:=rfl
  have i43:ieq 4 3=false:=rfl
  have e31:¬(3:Int)=1:=by decide
  have e34:¬(3:Int)=4:=by decide
  have e41:¬(4:Int)=1:=by decide
  rcases hp with rfl | ⟨n1,m1,rfl,hd,_⟩ | ⟨c,ks,rfl,hd,hc,hl,hk⟩
  ·simp only [Q0m,i11,if_true,U0,(hw.ty t ht).d1,W1]
   have:=(hw.ty t ht).d0
   by_cases h:depP w t=0
   ·simp [h,ilt]
   ·have e:ilt 0 (depP w t)=true:=by rw [Z9];omega
    simp [h,e]
  ·simp [Q0m,i31,i33,W1,e34]
  ·simp only [Q0m,i41,i43,U2,if_false,W1,e41,if_true]
   rw [(hw.ty t ht).a1 c hc]
   simp only [U0]
   have hlp:∀ (ts:List Q1) (k:Nat) (ks':List Q0),(Z6 w t c).drop k=ts→ks.drop k=ks'→
     forL (ρ:=Bool) (fun k87 x88 (s81:Unit)=>((idx ks (k87:Int)).bind fun x96=>((Q0m n w (tabP w) x88 x96).bind fun r97=>(if (!r97)=true then some (Ctl.ret (false)) else some (Ctl.go ()))))) k ts ()=some (if ((ts.zip ks').any fun x=>W1 w d x.1 x.2)=true then .ret false else .brk ()):=by
    intro ts
    induction ts with
    | nil=>intro k ks' _ _;simp [forL]
    | cons u ts ih=>
     intro k ks' h0 h1
     obtain ⟨u1,u2⟩:=Q3y h0
     have hkl:=(List.getElem?_eq_some_iff.1 u1).1
     cases ks' with
     | nil=>have:=congrArg List.length h1;simp at this;omega
     | cons q ks'=>
     obtain ⟨q1,q2⟩:=Q3y h1
     unfold forL
     simp only [Q1m q1,U0]
     rw [Z5a hw d n u q ((hw.ty t ht).at_ _ hc u (U1 u1)) (hk k u q u1 q1) (by omega)]
     simp only [U0,List.zip_cons_cons,List.any_cons]
     rcases Bool.eq_false_or_eq_true (W1 w d u q) with hem | hem
     ·simp [hem]
     ·simp only [hem,Bool.not_false,Bool.not_true,U2,if_false,Bool.false_or]
      exact ih (k+1) ks' u2 q2
   have e:=hlp (Z6 w t c) 0 ks rfl rfl
   have e':=congrArg (fun z:Option (Ctl Bool Unit)=>z.bind fun o=>match o with | .ret r=>some r | .go _=>none | .brk _=>some true) e
   refine e'.trans ?_
   cases ((Z6 w t c).zip ks).any fun x=>W1 w d x.1 x.2<;>simp
theorem Z58 {w:List Q4}(hw:WW w){d n:Nat}{t:Q1}(ht:t∈tys w){l:List Q0}(h:∀ a∈l,Z7 w d t a)(hl:l.length≤1000000)(hn:d+1≤n):Q3c n w (tabP w) t l=some (Q6z w d t l):=by
 have hlp:∀ (l:List Q0) (k:Nat) (s:List Q0),(∀ a∈l,Z7 w d t a)→s.length+l.length≤1000000→
   forL (ρ:=List Q0) (fun k100 x101 (s94:(List Q0))=>
   ((((Q0m n w (tabP w) t x101).bind fun r113=>
   (if r113=true then
   ((app s94 [x101]).bind fun x115=>
   some (Ctl.brk x115))
   else
   some (Ctl.brk s94)))).bind fun (o110:Ctl (Ctl (List Q0) (List Q0)) ((List Q0)))=>match o110 with
   | .ret r=>some r
   | .go _=>none
   | .brk s109=>
   some (Ctl.go s109))) k l s=some (.brk (s++Q6z w d t l)):=by
  intro l
  induction l with
  | nil=>intro k s _ _;simp [forL,Q6z]
  | cons a l ih=>
   intro k s h hs
   simp only [U3] at hs
   unfold forL
   rw [Z5a hw d n t a ht (h a (by simp)) hn]
   simp only [U0]
   rcases Bool.eq_false_or_eq_true (W1 w d t a) with hem | hem
   ·simp only [hem,Bool.not_true,U2,if_false,U0]
    rw [ih (k+1) s (fun a ha=>h a (by simp [ha])) (by omega)]
    simp [Q6z,hem]
   ·simp only [hem,Bool.not_false,if_true]
    rw [W5 (by simp only [U3,U4,Q7];omega)]
    simp only [U0]
    rw [ih (k+1) (s++[a]) (fun a ha=>h a (by simp [ha])) (by simp only [U5,U3,U4];omega)]
    simp [Q6z,hem]
 have e:=hlp l 0 [] h (by simp only [U4];omega)
 have e':=congrArg (fun z:Option (Ctl (List Q0) (List Q0))=>z.bind fun o=>match o with | .ret r=>some r | .go _=>none | .brk s=>some s) e
 exact e'.trans (by simp)
theorem Z6w {w:List Q4}(hw:WW w):∀ (d n x:Nat) (t:Q1) (a b:Q0),t∈tys w→Z7 w x t a→Z7 w d t b→d+3≤n→∃ q,Q0o n a b=some (match Q0c d a b with | some m=>(m,true) | none=>(q,false))
 | 0,_,_,_,_,_,_,_,h,_=>h.elim
 | d+1,n,x,t,a,b,ht,ha,hb,hn=>by
  obtain ⟨n,rfl⟩:∃ m,n=m+1:=⟨n-1,by omega⟩
  obtain ⟨x,rfl,ha⟩:=Z0k ha
  have i11:ieq 1 1=true:=rfl
  have i31:ieq 3 1=false:=rfl
  have i33:ieq 3 3=true:=rfl
  have i41:ieq 4 1=false:=rfl
  have i43:ieq 4 3=false:=rfl
  have e31:¬(3:Int)=1:=by decide
  have e41:¬(4:Int)=1:=by decide
  have e43:¬(4:Int)=3:=by decide
  rcases ha with rfl | ⟨n1,m1,rfl,hd,_⟩ | ⟨c,ks,rfl,hd,hc,hl,hk⟩
  ·exact ⟨zP,by simp [Q0o,Q0c,i11]⟩
  ·rcases hb with rfl | ⟨n2,m2,rfl,_⟩ | ⟨c',ks',rfl,hd',_⟩
   ·exact ⟨zP,by simp [Q0o,Q0c,i11,i31]⟩
   ·refine ⟨Q0.mk 3 0 (max n1 n2) (min m1 m2) 0 [],?_⟩
    simp only [Q0o,Q0c,i31,i33,e31,U2,if_false,if_true]
    have h1:(if ilt n1 n2=true then some (Ctl.brk n2) else some (Ctl.brk n1):Option (Ctl (Q0×Bool) Int))=some (Ctl.brk (max n1 n2)):=by
     by_cases h:n1<n2
     ·rw [if_pos (by rw [Z9];exact h)];congr 2;omega
     ·rw [if_neg (by rw [Z9];exact h)];congr 2;omega
    have h2:(if ilt m2 m1=true then some (Ctl.brk m2) else some (Ctl.brk m1):Option (Ctl (Q0×Bool) Int))=some (Ctl.brk (min m1 m2)):=by
     by_cases h:m2<m1
     ·rw [if_pos (by rw [Z9];exact h)];congr 2;omega
     ·rw [if_neg (by rw [Z9];exact h)];congr 2;omega
    rw [h1,h2]
    simp only [U0]
    by_cases h:max n1 n2≤min m1 m2
    ·have:ile (max n1 n2) (min m1 m2)=true:=by rw [J1];exact h
     simp [h,this]
    ·have:ile (max n1 n2) (min m1 m2)=false:=by rw [Q1z];omega
     simp [h,this]
   ·exact absurd hd hd'
  ·rcases hb with rfl | ⟨n2,m2,rfl,hd',_⟩ | ⟨c',ks',rfl,_,hc',hl',hk'⟩
   ·exact ⟨zP,by simp [Q0o,Q0c,i11,i41]⟩
   ·exact absurd hd' hd
   ·refine ⟨zP,?_⟩
    simp only [Q0o,Q0c,i41,i43,e41,e43,U2,if_false]
    by_cases hcc:c=c'
    ·subst hcc
     have ec:(!ieq c c)=false:=by simp [ieq]
     simp only [ec,U2,if_false,if_true]
     have hal:=(hw.ty t ht).al c hc
     have hlp:∀ (as':List Q0) (k:Nat) (s:List Q0) (bs':List Q0),ks.drop k=as'→ks'.drop k=bs'→s.length+as'.length≤100→
       forL (fun k132 x133 (s126:(List Q0))=>
        ((idx ks' (k132:Int)).bind fun x143=>
        ((Q0o n x133 x143).bind fun r144=>
        (if (!r144.2)=true then
        some (Ctl.ret (((Q0.mk 0 0 0 0 0 []),false)))
        else
        ((app s126 [r144.1]).bind fun x147=>
        some (Ctl.go x147)))))) k as' s=some (match Q4t (Q0c d) as' bs' with | some ms=>.brk (s++ms) | none=>.ret (zP,false)):=by
      intro as'
      induction as' with
      | nil=>
       intro k s bs' h1 h2 _
       simp [forL,Q4t]
      | cons a as' ih=>
       intro k s bs' h1 h2 hs
       obtain ⟨a1,a2⟩:=Q3y h1
       have hkl:=(List.getElem?_eq_some_iff.1 a1).1
       cases bs' with
       | nil=>have:=congrArg List.length h2;simp at this;omega
       | cons b bs'=>
       obtain ⟨b1,b2⟩:=Q3y h2
       obtain ⟨u,u1⟩:=Q0z (l:=Z6 w t c) (j:=k) rfl (by omega)
       simp only [U3] at hs
       unfold forL
       rw [Q1m b1]
       simp only [U0]
       obtain ⟨q,e⟩:=Z6w hw d n x u a b ((hw.ty t ht).at_ _ hc u (U1 u1)) (hk k u a u1 a1) (hk' k u b u1 b1) (by omega)
       rw [e]
       simp only [U0,Q4t]
       cases hm:Q0c d a b with
       | none=>simp [zP]
       | some m=>
        simp only [Bool.not_true,U2,if_false,U0]
        rw [W5 (by simp only [U3,U4,Q7];omega)]
        simp only [U0]
        rw [ih (k+1) (s++[m]) bs' a2 b2 (by simp;omega)]
        cases Q4t (Q0c d) as' bs' with
        | none=>simp
        | some ms=>simp
     have:=hlp ks 0 [] ks' rfl rfl (by simp;omega)
     rw [this]
     cases Q4t (Q0c d) ks ks' with
     | none=>simp
     | some ms=>simp
    ·have ec:(!ieq c c')=true:=by simp [ieq,hcc]
     simp [ec,hcc,zP]
theorem Z30 {n1 m1 n2 m2:Int}{a b:Q0}(ha:a.n=n1∧a.m=m1)(hb:b.n=n2∧b.m=m2)(h1:0≤n2)(h2:n2≤9)(h3:0≤m2)(h4:m2≤9):Q41 a b=some (Z1l n1 m1 n2 m2):=by
 obtain ⟨rfl,rfl⟩:=ha
 obtain ⟨rfl,rfl⟩:=hb
 unfold Q41 Z1l
 have w1:wsub .i64 b.n 1=b.n-1:=Q3z (by omega) (by omega)
 have w2:wadd .i64 b.m 1=b.m+1:=Q10 (by omega) (by omega)
 simp only [w1,w2]
 have g1:(if ilt (b.n-1) a.m=true then some (Ctl.brk (b.n-1)) else some (Ctl.brk a.m):Option (Ctl (List Q0) Int))=some (Ctl.brk (min a.m (b.n-1))):=by
  by_cases h:b.n-1<a.m
  ·rw [if_pos (by rw [Z9];exact h)];congr 2;omega
  ·rw [if_neg (by rw [Z9];exact h)];congr 2;omega
 have g2:(if ilt a.n (b.m+1)=true then some (Ctl.brk (b.m+1)) else some (Ctl.brk a.n):Option (Ctl (List Q0) Int))=some (Ctl.brk (max a.n (b.m+1))):=by
  by_cases h:a.n<b.m+1
  ·rw [if_pos (by rw [Z9];exact h)];congr 2;omega
  ·rw [if_neg (by rw [Z9];exact h)];congr 2;omega
 rw [g1,g2]
 simp only [U0]
 by_cases c1:a.n≤min a.m (b.n-1)
 ·by_cases c2:max a.n (b.m+1)≤a.m
  ·have e1:ile a.n (min a.m (b.n-1))=true:=by rw [J1];exact c1
   have e2:ile (max a.n (b.m+1)) a.m=true:=by rw [J1];exact c2
   simp [e1,e2,c1,c2,app,Q7]
  ·have e1:ile a.n (min a.m (b.n-1))=true:=by rw [J1];exact c1
   have e2:ile (max a.n (b.m+1)) a.m=false:=by rw [Q1z];omega
   simp [e1,e2,c1,c2,app,Q7]
 ·by_cases c2:max a.n (b.m+1)≤a.m
  ·have e1:ile a.n (min a.m (b.n-1))=false:=by rw [Q1z];omega
   have e2:ile (max a.n (b.m+1)) a.m=true:=by rw [J1];exact c2
   simp [e1,e2,c1,c2,app,Q7]
  ·have e1:ile a.n (min a.m (b.n-1))=false:=by rw [Q1z];omega
   have e2:ile (max a.n (b.m+1)) a.m=false:=by rw [Q1z];omega
   simp [e1,e2,c1,c2,app,Q7]
theorem V1k {w:List Q4}(hw:WW w){t:Q1}(ht:t∈tys w){c:Int}(hc:c∈X1 w t):Q4h w t c=some (Q5v w t c):=by
 unfold Q4h
 rw [(hw.ty t ht).a1 c hc]
 simp only [U0]
 have hal:=(hw.ty t ht).al c hc
 rw [Q4v (fun _=>[Q0.mk 1 0 0 0 0 []]) 100 (Z6 w t c) 0 [] (fun k x _ s hs=>by
  have:Q4d=some (Q0.mk 1 0 0 0 0 []):=rfl
  rw [this]
  simp only [U0]
  simp only [U3,U4] at hs
  rw [W5 (by simp only [U3,U4,Q7];omega)]
  rfl) (by
   have:∀ l:List Q1,(l.flatMap fun _=>[Q0.mk 1 0 0 0 0 []]).length=l.length:=fun l=>by induction l with | nil=>rfl | cons a l ih=>simp [ih]
   rw [this];simp;omega)]
 simp only [U0,List.nil_append,Q5v]
 congr 2
 induction Z6 w t c with
 | nil=>rfl
 | cons a l ih=>simp [ih]
theorem Z8z {n:Nat}{c:Int}{ks ks':List Q0}{fm:Q1→Q0→Q0→List Q0}{fj:Q0→Q0→Option Q0}{args:List Q1}{w:List Q4}
  (hl:ks.length=args.length) (hl':ks'.length=args.length) (ha3:args.length≤3)
  (hmin:∀ (k:Nat) (u:Q1) (a b:Q0),args[k]?=some u→ks[k]?=some a→ks'[k]?=some b→V4 n w u a b=some (fm u a b)∧∃ q,Q0o n a b=some (match fj a b with | some m=>(m,true) | none=>(q,false))) :
  ∀ (ts:List Q1) (k:Nat) (out front as' bs':List Q0),args.drop k=ts→ks.drop k=as'→ks'.drop k=bs'→front.length=k→out.length+(kmD fm fj ts as' bs').length≤50000→
  ∃ o:Ctl (List Q0) ((List Q0)×(List Q0)),(match o with | .ret r=>some r | .go _=>none | .brk s=>some s.1)=some (out++(kmD fm fj ts as' bs').map (fun q=>Q0.mk 4 c 0 0 0 (front++q)))∧
  forL (fun k1173 x1174 (s1167:(List Q0)×(List Q0))=>
  ((idx ks (k1173:Int)).bind fun x1291=>
  ((idx ks' (k1173:Int)).bind fun x1292=>
  ((V4 n w x1174 x1291 x1292).bind fun r1293=>
  ((forL (fun k1383 x1384 (s1377:(List Q0))=>
  ((app [] s1167.2).bind fun x1393=>
  ((app s1167.2 [x1384]).bind fun x1394=>
  ((Z61 ks (wadd .i64 (k1173:Int) 1)).bind fun x1395=>
  ((app x1394 x1395).bind fun x1396=>
  ((app s1377 [(Q0.mk 4 c 0 0 0 x1396)]).bind fun x1397=>
  some (Ctl.go (s1377++[(Q0.mk 4 c 0 0 0 x1396)])))))))) 0 r1293 s1167.1).bind fun (o1376:Ctl (Ctl (List Q0) ((List Q0)×(List Q0))) ((List Q0)))=>match o1376 with
  | .ret r=>some r
  | .go _=>none
  | .brk s1387=>
  ((Q0o n x1291 x1292).bind fun r1398=>
  (if (!r1398.2)=true then
  some (Ctl.ret (s1387))
  else
  ((app s1167.2 [r1398.1]).bind fun x1401=>
  some (Ctl.go (s1387,x1401)))))))))) k ts (out,front)=some o:=by
 intro ts
 induction ts with
 | nil=>
  intro k out front as' bs' h0 h1 h2 hf hs
  exact ⟨.brk (out,front),by simp [kmD],by simp [forL]⟩
 | cons u ts ih=>
  intro k out front as' bs' h0 h1 h2 hf hs
  obtain ⟨u1,u2⟩:=Q3y h0
  have hkl:=(List.getElem?_eq_some_iff.1 u1).1
  cases as' with
  | nil=>have:=congrArg List.length h1;simp at this;omega
  | cons a as'=>
  cases bs' with
  | nil=>have:=congrArg List.length h2;simp at this;omega
  | cons b bs'=>
  obtain ⟨a1,a2⟩:=Q3y h1
  obtain ⟨b1,b2⟩:=Q3y h2
  obtain ⟨m1,q,m2⟩:=hmin k u a b u1 a1 b1
  simp only [kmD,U5,U7] at hs
  have hw1:wadd .i64 (k:Int) 1=((k+1:Nat):Int):=by rw [Q10]<;>omega
  have hdrop:Z61 ks ((k+1:Nat):Int)=some as':=by
   unfold Z61
   rw [if_pos ⟨by omega,by omega⟩]
   simp [←a2]
  have has:as'.length≤3:=by rw [←a2];simp;omega
  unfold forL
  simp only [Q1m a1,Q1m b1,U0,m1,hw1,hdrop]
  have hin:=Q4v (ρ:=Ctl (List Q0) ((List Q0)×(List Q0))) (f:=fun (k1383:Nat) x1384 (s1377:(List Q0))=>
    ((app [] front).bind fun x1393=>
    ((app front [x1384]).bind fun x1394=>
    ((app x1394 as').bind fun x1396=>
    ((app s1377 [(Q0.mk 4 c 0 0 0 x1396)]).bind fun x1397=>
    some (Ctl.go (s1377++[(Q0.mk 4 c 0 0 0 x1396)]))))))) (fun x=>[Q0.mk 4 c 0 0 0 (front++x::as')]) 100000 (fm u a b) 0 out (fun k x _ s hs=>by
   simp only [U3,U4] at hs
   rw [W5 (by simp only [U4,Q7];omega),W5 (by simp only [U3,U4,Q7];omega)]
   simp only [U0]
   rw [W5 (by simp only [U5,U3,U4,Q7];omega)]
   simp only [U0]
   rw [W5 (by simp only [U3,U4,Q7];omega)]
   simp) (by
    have:∀ l:List Q0,(l.flatMap fun x=>[Q0.mk 4 c 0 0 0 (front++x::as')]).length=l.length:=fun l=>by induction l with | nil=>rfl | cons a l ih=>simp [ih]
    rw [this];omega)
  have hfl:∀ l:List Q0,(l.flatMap fun x=>[Q0.mk 4 c 0 0 0 (front++x::as')])=l.map fun x=>Q0.mk 4 c 0 0 0 (front++x::as'):=fun l=>by induction l with | nil=>rfl | cons a l ih=>simp [ih]
  rw [hfl] at hin
  rw [hin]
  simp only [U0,m2]
  cases hm:fj a b with
  | none=>
   simp only [Bool.not_false,if_true]
   refine ⟨_,?_,rfl⟩
   simp only [kmD,hm,List.append_nil,List.map_map]
   rfl
  | some m=>
   simp only [Bool.not_true,U2,if_false]
   rw [W5 (by simp only [U3,U4,Q7];omega)]
   simp only [U0]
   rw [hm] at hs
   simp only [U7] at hs
   obtain ⟨o,e1,e⟩:=ih (k+1) (out++(fm u a b).map fun x=>Q0.mk 4 c 0 0 0 (front++x::as')) (front++[m]) as' bs' u2 a2 b2 (by simp;omega) (by simp only [U5,U7];omega)
   refine ⟨o,?_,e⟩
   rw [e1]
   simp only [kmD,hm,List.map_append,List.map_map,List.append_assoc]
   congr 5
theorem Z57 {w:List Q4}(hw:WW w)(he:WE w):∀ (d n x:Nat) (t:Q1) (a b:Q0),t∈tys w→Z7 w x t a→Z7 w d t b→cntP b≤10000→3 * d+6≤n→V4 n w t a b=some (W0 w d t a b)
 | 0,_,_,_,_,_,_,_,h,_,_=>h.elim
 | d+1,n,x,t,a,b,ht,ha,hb,hcnt,hn=>by
  obtain ⟨n,rfl⟩:∃ m,n=m+1:=⟨n-1,by omega⟩
  have i11:ieq 1 1=true:=rfl
  have i14:ieq 1 4=false:=rfl
  have i31:ieq 3 1=false:=rfl
  have i33:ieq 3 3=true:=rfl
  have i41:ieq 4 1=false:=rfl
  have i43:ieq 4 3=false:=rfl
  have i44:ieq 4 4=true:=rfl
  have e31:¬(3:Int)=1:=by decide
  have e41:¬(4:Int)=1:=by decide
  have e43:¬(4:Int)=3:=by decide
  obtain ⟨x,rfl,ha'⟩:=Z0k ha
  have hb0:=hb
  rcases hb with rfl | ⟨n2,m2,rfl,hd',g0,g1,g2⟩ | ⟨c',ks',rfl,hd',hc',hl',hk'⟩
  ·simp [V4,W0,i11]
  ·rcases ha' with rfl | ⟨n1,m1,rfl,hd,h0,_,h9⟩ | ⟨c,ks,rfl,hd,_⟩
   ·simp only [V4,W0,i31,i33,i11,e31,U2,if_false,if_true,U0]
    rw [Z30 (n1:=0) (m1:=9) (n2:=n2) (m2:=m2) ⟨rfl,rfl⟩ ⟨rfl,rfl⟩ (by omega) (by omega) (by omega) (by omega)]
    rfl
   ·simp only [V4,W0,i31,i33,e31,U2,if_false,if_true,U0]
    rw [Z30 (n1:=n1) (m1:=m1) (n2:=n2) (m2:=m2) ⟨rfl,rfl⟩ ⟨rfl,rfl⟩ (by omega) (by omega) (by omega) (by omega)]
    rfl
   ·exact absurd hd' hd
  ·have hcn:cntP (Q0.mk 4 c' 0 0 0 ks')=1+cntP.cntPs ks':=Q36 _
   have hkc:∀ q∈ks',cntP q≤10000:=fun q hq=>by
    have:=Q7k (p:=Q0.mk 4 c' 0 0 0 ks') (List.mem_iff_getElem?.1 hq).choose_spec
    omega
   have hA:∀ (N:Nat) (c:Int) (ks:List Q0) (y:Nat),3 * d+7≤N→c∈X1 w t→ks.length=(Z6 w t c).length→(∀ (j:Nat) (a:Q1) (q:Q0),(Z6 w t c)[j]?=some a→ks[j]?=some q→Z7 w y a q)→
     V4 (N+1) w t (Q0.mk 4 c 0 0 0 ks) (Q0.mk 4 c' 0 0 0 ks')=some (cmD w (W0 w d) (Q0c d) t (Q0.mk 4 c 0 0 0 ks) (Q0.mk 4 c' 0 0 0 ks')):=fun N c ks y hN hc hl hk=>by
    obtain ⟨N,rfl⟩:∃ m,N=m+1:=⟨N-1,by omega⟩
    simp only [V4,i41,i43,i44,U2,if_false,if_true,cmD]
    by_cases hcc:c=c'
    ·subst hcc
     have ec:(!ieq c c)=false:=by simp [ieq]
     simp only [ec,U2,if_false,if_true,Q6k]
     rw [(hw.ty t ht).a1 c hc]
     simp only [U0]
     have hlen:(kmD (W0 w d) (Q0c d) (Z6 w t c) ks ks').length≤3 * cntP.cntPs ks':=
      X8l (Z6 w t c) ks ks' fun j u p q h1 h2=>Q83 hw he d u p q ((hw.ty t ht).at_ _ hc u (U1 h1)) (hk' j u q h1 h2)
     obtain ⟨o,e1,e⟩:=Z8z (w:=w) (n:=N) (c:=c) (fm:=W0 w d) (fj:=Q0c d) hl hl' ((hw.ty t ht).al c hc) (fun k u p q h1 h2 h3=>
      have hu:=(hw.ty t ht).at_ _ hc u (U1 h1)
      ⟨Z57 hw he d N y u p q hu (hk k u p h1 h2) (hk' k u q h1 h3) (hkc q (U1 h3)) (by omega),Z6w hw d N y u p q hu (hk k u p h1 h2) (hk' k u q h1 h3) (by omega)⟩)
      (Z6 w t c) 0 [] [] ks ks' rfl rfl rfl rfl (by simp only [U4];omega)
     have e':=congrArg (fun z:Option (Ctl (List Q0) ((List Q0)×(List Q0)))=>(z.bind fun o=>match o with | .ret r=>some r | .go _=>none | .brk s=>some s.1).bind fun r=>some r) e
     refine e'.trans ?_
     simp only [U0,e1]
     simp
    ·have ec:(!ieq c c')=true:=by simp [ieq,hcc]
     simp [ec,hcc]
   rcases ha' with rfl | ⟨n1,m1,rfl,hd,_⟩ | ⟨c,ks,rfl,hd,hc,hl,hk⟩
   ·simp only [V4,W0,i11,i14,i41,i43,e41,e43,U2,if_false,if_true]
    rw [(hw.ty t ht).c1]
    simp only [U0]
    obtain ⟨N,rfl⟩:∃ m,n=m+1:=⟨n-1,by omega⟩
    have hlen:=Q83 hw he (d+1) t (Q0.mk 1 0 0 0 0 []) (Q0.mk 4 c' 0 0 0 ks') ht hb0
    simp only [W0,e41,e43,if_false,if_true] at hlen
    rw [Q4v (fun c=>cmD w (W0 w d) (Q0c d) t (Q5v w t c) (Q0.mk 4 c' 0 0 0 ks')) 1000000 (X1 w t) 0 [] (fun k c hc s hs=>by
     rw [V1k hw ht hc]
     simp only [U0]
     rw [Q5v,hA N c _ 1 (by omega) hc (by simp) (fun j a q ha hq=>by
      rw [List.getElem?_map,ha] at hq
      cases hq
      exact Q75 w 0 a)]
     simp only [U0]
     rw [W5 (by simp only [Q7];simp only [Q5v] at hs;omega)]
     rfl) (by simp only [U4];omega)]
    simp
   ·exact absurd hd hd'
   ·rw [hA n c ks x (by omega) hc hl hk]
    simp [W0]
theorem X50 {w:List Q4}(hw:WW w)(he:WE w){d x:Nat}{t:Q1}(ht:t∈tys w)(hx:d+1≤x):∀ (bs l:List Q0),(∀ b∈bs,Z7 w d t b)→(∀ a∈l,Z7 w x t a)→(Q57 w d x t l bs).map (Q6z w x t)=Q0t w d x t l bs
 | [],l,_,_=>rfl
 | b::bs,l,hb,hl=>by
  have e:=X2n hw he ht hx (hb b (by simp)) hl
  simp only [Q0t,Q57,e]
  by_cases hc:400<(Q3b w d x t l b).length
  ·simp [hc]
  ·simp only [if_neg hc]
   rw [X50 hw he ht hx bs (Q3b w d x t l b) (fun b hb'=>hb b (by simp [hb'])) (Q7y hx (hb b (by simp)) hl)]
   simp only [Q0t,X5r]
theorem Q80 {w:List Q4}(hw:WW w)(he:WE w){d x n:Nat}{t:Q1}(ht:t∈tys w)(hx:d+1≤x)(hx2:x≤100){l bs:List Q0}(hb:∀ b∈bs,Z7 w d t b∧cntP b≤130)(h:∀ a∈l,Z7 w x t a)(hl:l.length≤1000)(hn:2000≤n) :
  Q42 n w (tabP w) t l bs=some (optR (Q0t w d x t l bs)):=by
 have hin:∀ (b:Q0),Z7 w d t b→cntP b≤130→∀ (s:List Q0) (k:Nat) (acc:List Q0),(∀ a∈s,Z7 w x t a)→acc.length≤1000→
   ∃ r,forL (ρ:=Ctl (List Q0×Bool) (List Q0)) (fun k1807 x1808 (s1801:(List Q0))=>
   (if (ile (lenZ s1801.length) 400)=true then
   ((V4 n w t x1808 b).bind fun r1819=>
   ((Q3c n w (tabP w) t r1819).bind fun r1820=>
   ((app s1801 r1820).bind fun x1821=>
   some (Ctl.go x1821))))
   else
   some (Ctl.brk s1801))) k s acc=some (.brk r)∧((acc++Q3b w d x t s b).length≤400→r=acc++Q3b w d x t s b)∧(400<(acc++Q3b w d x t s b).length→400<r.length):=by
  intro b hb hcb s
  induction s with
  | nil=>intro k acc _ _;exact ⟨acc,by simp [forL],by simp [Q3b,Q6z],by simp [Q3b,Q6z]⟩
  | cons a s ih=>
   intro k acc hs hacc
   have hstep:Q3b w d x t (a::s) b=Q6z w x t (W0 w d t a b)++Q3b w d x t s b:=by simp [Q3b,Q6z]
   rw [hstep]
   have hlen:=Q83 hw he d t a b ht hb
   have hkl:=Z69 w x t (W0 w d t a b)
   unfold forL
   by_cases hc:acc.length≤400
   ·have e:ile (lenZ acc.length) 400=true:=by rw [J1,Q0e];omega
    simp only [e,if_true]
    rw [Z57 hw he d n x t a b ht (hs a (by simp)) hb (by omega) (by omega)]
    simp only [U0]
    rw [Z58 hw ht (fun y hy=>Q7s d x t a b hx (hs a (by simp)) hb y hy) (by omega) (by omega)]
    simp only [U0]
    rw [W5 (by simp only [Q7];omega)]
    simp only [U0]
    obtain ⟨r,e1,e2,e3⟩:=ih (k+1) (acc++Q6z w x t (W0 w d t a b)) (fun a ha=>hs a (by simp [ha])) (by simp only [U5];omega)
    rw [List.append_assoc] at e2 e3
    exact ⟨r,e1,e2,e3⟩
   ·have e:ile (lenZ acc.length) 400=false:=by rw [Q1z,Q0e];omega
    simp only [e,U2,if_false]
    refine ⟨acc,rfl,fun h=>?_,fun _=>by omega⟩
    simp only [U5] at h
    omega
 have hlp:∀ (bs:List Q0) (k:Nat) (s:List Q0),(∀ b∈bs,Z7 w d t b∧cntP b≤130)→(∀ a∈s,Z7 w x t a)→
   forL (fun k1538 x1539 (s1532:(List Q0))=>
   ((forL (fun k1807 x1808 (s1801:(List Q0))=>
   (if (ile (lenZ s1801.length) 400)=true then
   ((V4 n w t x1808 x1539).bind fun r1819=>
   ((Q3c n w (tabP w) t r1819).bind fun r1820=>
   ((app s1801 r1820).bind fun x1821=>
   some (Ctl.go x1821))))
   else
   some (Ctl.brk s1801))) 0 s1532 []).bind fun (o1800:Ctl (Ctl (List Q0×Bool) (List Q0)) ((List Q0)))=>match o1800 with
   | .ret r=>some r
   | .go _=>none
   | .brk s1811=>
   (if (ilt 400 (lenZ s1811.length))=true then
   some (Ctl.ret (([],false)))
   else
   some (Ctl.go s1811)))) k bs s=some (match Q57 w d x t s bs with | some r=>.brk r | none=>.ret ([],false)):=by
  intro bs
  induction bs with
  | nil=>intro k s _ _;simp [forL,Q57]
  | cons b bs ih=>
   intro k s hb hs
   obtain ⟨hb1,hb2⟩:=hb b (by simp)
   unfold forL
   obtain ⟨r,e1,e2,e3⟩:=hin b hb1 hb2 s 0 [] hs (by simp)
   rw [e1]
   simp only [List.nil_append] at e2 e3
   simp only [U0,Q57]
   by_cases hc:400<(Q3b w d x t s b).length
   ·have hr:=e3 hc
    have e:ilt 400 (lenZ r.length)=true:=by rw [Z9,Q0e];omega
    simp only [e,if_true,if_pos hc]
   ·have hr:=e2 (by omega)
    subst hr
    have e:ilt 400 (lenZ (Q3b w d x t s b).length)=false:=by rw [J0,Q0e];omega
    simp only [e,U2,if_false,if_neg hc]
    exact ih (k+1) _ (fun b hb'=>hb b (by simp [hb'])) (Q7y hx hb1 hs)
 have e:=hlp bs 0 l hb h
 have hk:=X50 hw he ht hx bs l (fun b hb'=>(hb b hb').1) h
 have hln:∀ (bs l r:List Q0),l.length≤1000→Q57 w d x t l bs=some r→r.length≤1000:=by
  intro bs
  induction bs with
  | nil=>intro l r h e;simp only [Q57,Option.some.injEq] at e;subst e;exact h
  | cons b bs ih=>
   intro l r h e
   simp only [Q57] at e
   split at e
   ·cases e
   ·exact ih _ r (by omega) e
 have e':=congrArg (fun z:Option (Ctl ((List Q0)×Bool) (List Q0))=>z.bind fun o=>match o with | .ret r=>some r | .go _=>none | .brk s=>(Q3c n w (tabP w) t s).bind fun r=>some (r,true)) e
 refine e'.trans ?_
 rw [←hk]
 cases hr:Q57 w d x t l bs with
 | none=>simp [optR]
 | some r=>
  have hl':=hln bs l r hl hr
  have hp:=Z8r hx bs l r (fun b hb'=>(hb b hb').1) h hr
  simp only [U0,Option.map_some,optR]
  rw [Z58 hw ht hp (by omega) (by omega)]
  rfl
theorem Z54 {α β:Type}(f:α→List β):∀ (X:List α) (m M:Nat),m≤M→(X.flatMap fun q=>(f q).take M).take m=(X.flatMap f).take m
 | [],m,M,_=>by simp
 | q::X,m,M,h=>by
  simp only [List.flatMap_cons,List.take_append,List.take_take,U6]
  rw [Nat.min_eq_left h]
  congr 1
  rcases Nat.le_total (f q).length M with h1 | h1
  ·rw [Nat.min_eq_right h1];exact Z54 f X _ M (by omega)
  ·rw [Nat.min_eq_left h1,show m-M=0 by omega,show m-(f q).length=0 by omega];simp
theorem Z2w {α β:Type}(f:α→List β):∀ (X:List α) (m j:Nat),(∀ q∈X,1≤(f q).length)→j≤m→((X.take m).flatMap f).take j=(X.flatMap f).take j
 | [],m,j,_,_=>by simp
 | q::X,0,j,_,h=>by rw [show j=0 by omega];simp
 | q::X,m+1,j,hq,h=>by
  simp only [List.take_succ_cons,List.flatMap_cons,List.take_append]
  congr 1
  have:=hq q (by simp)
  exact Z2w f X m _ (fun x hx=>hq x (by simp [hx])) (by omega)
theorem W76 {α:Type}{a b:List α}(m:Nat)(h:m≤a.length):(a++b).take m=a.take m:=by rw [List.take_append_of_le_length h]
theorem W75 {l:List Q0}(hl:l≠[])(X:List (List Q0))(m:Nat)(hm:1≤m):(tupD (X.take m) (l.take m)).take m=(tupD X l).take m:=by
 have hlen:1≤l.length:=by cases l<;>simp_all
 unfold tupD
 rw [Z2w _ X m m (fun q _=>by rw [U7,U6];omega) (Nat.le_refl m)]
 have e:(fun q:List Q0=>(l.take m).map fun c=>q++[c])=fun q=>(l.map fun c=>q++[c]).take m:=by funext q;rw [List.map_take]
 rw [e]
 exact Z54 _ X m m (Nat.le_refl m)
theorem W4y {α:Type}{X:List α}{v:List α}{y:α}(hv:v=X.take 401)(h:v.length≤400):v++[y]=(X++[y]).take 401:=by
 have hX:X.length≤400:=by rw [hv,U6] at h;omega
 rw [hv,List.take_of_length_le (show X.length≤401 by omega),List.take_of_length_le (by simp;omega)]
theorem X4a {α:Type}{X Y:List α}{v:List α}(hv:v=X.take 401)(h:¬v.length≤400):v=(X++Y).take 401:=by
 have hX:401≤X.length:=by rw [hv,U6] at h;omega
 rw [W76 401 hX,hv]
theorem W2s (ls:List (List Q0))(hp:∀ l∈ls,l≠[])(hk:ls.length≤3):Q43 (ls.map (·.take 401))=some ((ls.foldl tupD [[]]).take 401):=by
 suffices hr:Ret (Q43 (ls.map (·.take 401))) (fun r=>r=(ls.foldl tupD [[]]).take 401) by
  obtain ⟨r,e,rfl⟩:=hr
  exact e
 have kl:∀ k,∀ ks∈(ls.take k).foldl tupD [[]],ks.length≤k:=by
  have gen:∀ (ls:List (List Q0)) (out:List (List Q0)) (m:Nat),(∀ ks∈out,ks.length≤m)→∀ ks∈ls.foldl tupD out,ks.length≤m+ls.length:=by
   intro ls
   induction ls with
   | nil=>intro out m h ks hks;simpa using h ks hks
   | cons l ls ih2=>
    intro out m h ks hks
    rw [List.foldl_cons] at hks
    have:=ih2 (tupD out l) (m+1) (fun ks hk2=>by
     simp only [tupD,List.mem_flatMap,U10] at hk2
     obtain ⟨q2,hq2,c,_,rfl⟩:=hk2
     have:=h q2 hq2
     simp;omega) ks hks
    simp only [U3];omega
  intro k ks hks
  have:=gen _ [[]] 0 (by simp) ks hks
  rw [U6] at this
  omega
 unfold Q43
 refine Ret.ctl (Z1 (ls.map (·.take 401)) (fun k s=>s=((ls.take k).foldl tupD [[]]).take 401) (fun _=>False) (fun s=>s=(ls.foldl tupD [[]]).take 401) (by simp) (fun k l0 s hl0 hI=>?_) (fun s hI=>?_)) (fun r hr=>hr.elim) (fun s hs=>.some hs)
 ·rw [List.getElem?_map] at hl0
  obtain ⟨l,hl,rfl⟩:=U11.1 hl0
  have hne:=hp l (U1 hl)
  have hnx:(ls.take (k+1)).foldl tupD [[]]=tupD ((ls.take k).foldl tupD [[]]) l:=by rw [List.take_add_one,hl];simp
  have hkl:=(List.getElem?_eq_some_iff.1 hl).1
  rw [hnx]
  have kk:=kl k
  generalize (ls.take k).foldl tupD [[]]=X at *
  have hs:s.length≤401:=by rw [hI,U6];omega
  have hsk:∀ q∈s,q.length≤3:=fun q hq=>by
   rw [hI] at hq
   have:=kk q (List.mem_of_mem_take hq)
   omega
  have hl4:(l.take 401).length≤401:=by rw [U6];omega
  refine Ret.ctl (Z1 s (fun j v=>v=(tupD (s.take j) (l.take 401)).take 401) (fun _=>False) (fun v=>v=(tupD s (l.take 401)).take 401) (by simp [tupD]) (fun j q v hq hJ=>?_) (fun v hJ=>?_)) (fun r hr=>hr.elim) (fun v hv=>.some ?_)
  ·have hnj:tupD (s.take (j+1)) (l.take 401)=tupD (s.take j) (l.take 401)++(l.take 401).map (fun c=>q++[c]):=by rw [List.take_add_one,hq];simp [tupD]
   refine Ret.ite (fun hle=>?_) (fun hgt=>.some ?_)
   ·rw [J1] at hle
    refine Ret.ctl (Z1 (l.take 401) (fun i u=>u=(tupD (s.take j) (l.take 401)++((l.take 401).take i).map (fun c=>q++[c])).take 401) (fun _=>False) (fun u=>u=(tupD (s.take (j+1)) (l.take 401)).take 401) (by simpa using hJ) (fun i c u hc hK=>?_) (fun u hK=>?_)) (fun r hr=>hr.elim) (fun u hu=>.some hu)
    ·have hci:(l.take 401).take (i+1)=(l.take 401).take i++[c]:=by rw [List.take_add_one,hc];simp
     refine Ret.ite (fun hl2=>?_) (fun hg2=>.some ?_)
     ·rw [J1,Q0e] at hl2
      have hq3:=hsk q (U1 hq)
      rw [W5 (by simp only [Q7,U4];omega)]
      simp only [U0]
      rw [W5 (by simp only [Q7,U3,U4];omega)]
      simp only [U0]
      rw [W5 (by simp only [Q7,U3,U4];omega)]
      refine .some ?_
      simp only [Q2r]
      rw [hci,List.map_append,←List.append_assoc]
      exact W4y hK (by omega)
     ·rw [Q1z,Q0e] at hg2
      simp only [Z67]
      rw [hnj]
      have e:(l.take 401).map (fun c=>q++[c])=((l.take 401).take i).map (fun c=>q++[c])++((l.take 401).drop i).map (fun c=>q++[c]):=by rw [←List.map_append,List.take_append_drop]
      rw [e,←List.append_assoc]
      exact X4a hK (by omega)
    ·rw [hK,hnj,List.take_of_length_le (Nat.le_refl _)]
   ·rw [Q1z,Q0e] at hgt
    simp only [Z67]
    have e:tupD s (l.take 401)=tupD (s.take j) (l.take 401)++tupD (s.drop j) (l.take 401):=by
     unfold tupD;rw [←List.flatMap_append,List.take_append_drop]
    rw [e]
    exact X4a hJ (by omega)
  ·rw [hJ,List.take_length]
  ·simp only [Q2r]
   rw [hv,hI]
   exact W75 hne X 401 (by omega)
 ·rw [hI,U7,List.take_length]
theorem X2s:∀ (d n:Nat) (p:Q0),orOk d p→d≤n→Q1k n p=some ((Z3 d p).take 401):=by
 intro d
 induction d with
 | zero=>intro n p h;exact h.elim
 | succ d ih=>
  intro n p h hn
  obtain ⟨n,rfl⟩:∃ k,n=k+1:=⟨n-1,by omega⟩
  obtain ⟨h1,h2,h3⟩:=h
  have hl4:∀ x,((Z3 d x).take 401).length≤401:=fun x=>by rw [U6];omega
  by_cases h5:p.op=5
  ·have e5:ieq p.op 5=true:=by simp [ieq,h5]
   unfold Q1k
   rw [if_pos e5]
   match hk:p.kids,h2 h5 with
   | [a,b],_=>
    rw [hk] at h3
    rw [show idx [a,b] 0=some a from rfl,show idx [a,b] 1=some b from rfl]
    simp only [U0]
    rw [ih n a (h3 a (by simp)) (by omega),ih n b (h3 b (by simp)) (by omega)]
    simp only [U0]
    have ha:=hl4 a
    have hb:=hl4 b
    rw [W5 (by simp only [Q7];omega)]
    have hs:Z3 (d+1) p=Z3 d a++Z3 d b:=by simp [Z3,h5,hk]
    have key:((Z3 d a).take 401++(Z3 d b).take 401).take 401=(Z3 (d+1) p).take 401:=by
     rw [hs,List.take_append,List.take_append,List.take_take,U6]
     simp only [Nat.min_self]
     congr 1
     rcases Nat.le_total (Z3 d a).length 401 with q | q
     ·rw [Nat.min_eq_right q,List.take_take,Nat.min_eq_left (by omega)]
     ·rw [Nat.min_eq_left q,show 401-401=0 from rfl,show 401-(Z3 d a).length=0 by omega];simp
    simp only [U0]
    by_cases hgt:ilt 401 (lenZ ((Z3 d a).take 401++(Z3 d b).take 401).length)=true
    ·rw [if_pos hgt]
     rw [Z9,Q0e] at hgt
     have ht:Q7x ((Z3 d a).take 401++(Z3 d b).take 401) 401=some (((Z3 d a).take 401++(Z3 d b).take 401).take 401):=by
      unfold Q7x;rw [if_pos ⟨by omega,by omega⟩];rfl
     rw [ht,key];rfl
    ·rw [if_neg hgt,←key]
     simp only [Bool.not_eq_true] at hgt
     rw [J0,Q0e] at hgt
     rw [List.take_of_length_le (i:=401) (l:=(Z3 d a).take 401++(Z3 d b).take 401) (by omega)]
  ·have e5:¬ieq p.op 5=true:=by simp [ieq,h5]
   suffices hr:Ret (Q1k (n+1) p) (fun r=>r=(Z3 (d+1) p).take 401) by
    obtain ⟨r,e,rfl⟩:=hr
    exact e
   unfold Q1k
   rw [if_neg e5]
   refine Ret.ctl (Z1 p.kids (fun k s=>s=((p.kids.take k).map (Z3 d)).map (·.take 401)) (fun _=>False) (fun s=>s=(p.kids.map (Z3 d)).map (·.take 401)) (by simp) (fun k q s hq hI=>?_) (fun s hI=>?_)) (fun r hr=>hr.elim) (fun s hs=>?_)
   ·rw [ih n q (h3 q (U1 hq)) (by omega)]
    simp only [U0]
    have hkl:=(List.getElem?_eq_some_iff.1 hq).1
    rw [W5 (by rw [hI];simp only [Q7,U3,U4,U7,U6];omega)]
    have hk1:p.kids.take (k+1)=p.kids.take k++[q]:=by rw [List.take_add_one,hq];rfl
    exact .some (by simp only [Q2r];rw [hI,hk1];simp)
   ·rw [hI,List.take_length]
   ·subst hs
    dsimp only
    rw [W2s _ (fun l hl=>by
     obtain ⟨q,hq,rfl⟩:=U10.1 hl
     have:=Z0f d q (h3 q hq)
     intro e;rw [e] at this;simp at this) (by simpa using h1)]
    simp only [U0]
    have hlen:(((p.kids.map (Z3 d)).foldl tupD [[]]).take 401).length≤401:=by rw [U6];omega
    have hB:(Z3 (d+1) p).take 401=(((p.kids.map (Z3 d)).foldl tupD [[]]).take 401).map (Q8r p):=by simp only [Z3,if_neg h5,List.map_take]
    rw [hB]
    generalize ((p.kids.map (Z3 d)).foldl tupD [[]]).take 401=X at hlen
    refine Ret.ctl (Z1 X (fun k u=>u=(X.take k).map (Q8r p)) (fun _=>False) (fun u=>u=X.map (Q8r p)) (by simp) (fun k q u hq hJ=>?_) (fun u hJ=>?_)) (fun r hr=>hr.elim) (fun u hu=>.some hu)
    ·have hkl:=(List.getElem?_eq_some_iff.1 hq).1
     rw [W5 (by rw [hJ];simp only [Q7,U3,U4,U7,U6];omega)]
     have hk1:X.take (k+1)=X.take k++[q]:=by rw [List.take_add_one,hq];rfl
     exact .some (by simp only [Q2r];rw [hJ,hk1];simp [Q8r])
    ·rw [hJ,List.take_length]
theorem Z6x:∀ (d n:Nat) (p:Q0),W1p d p→d≤n→cntP p≤1000→V6 n p=some (W7 d p)
 | 0,_,_,h,_,_=>h.elim
 | d+1,n,p,h,hn,hc=>by
  obtain ⟨n,rfl⟩:∃ m,n=m+1:=⟨n-1,by omega⟩
  have hcp:=Q36 p
  have hkid:∀ q∈p.kids,V6 n q=some (W7 d q):=fun q hq=>by
   obtain ⟨j,hj⟩:=List.mem_iff_getElem?.1 hq
   have:=Q7k hj
   exact Z6x d n q (h q hq) (by omega) (by omega)
  have hlen:p.kids.length≤1000:=by
   have:∀ l:List Q0,l.length≤cntP.cntPs l:=fun l=>by
    induction l with
    | nil=>simp
    | cons a l ih=>have:=Q7m a;simp only [U3,cntP.cntPs];omega
   have:=this p.kids
   omega
  have hloop:=Q4v (ρ:=Q0) (f:=fun (k102:Nat) x103 (s96:(List Q0))=>((V6 n x103).bind fun r110=>((app s96 [r110]).bind fun x111=>some (Ctl.go x111)))) (fun q=>[W7 d q]) 100000 p.kids 0 [] (fun k q hq s hs=>by
   rw [hkid q hq]
   simp only [U0]
   simp only [U3,U4] at hs
   rw [W5 (by simp only [U3,U4,Q7];omega)]
   rfl) (by
    have:∀ l:List Q0,(l.flatMap fun q=>[W7 d q]).length=l.length:=fun l=>by induction l with | nil=>rfl | cons a l ih=>simp [ih]
    rw [this];simp only [U4];omega)
  have hfl:∀ l:List Q0,(l.flatMap fun q=>[W7 d q])=l.map (W7 d):=fun l=>by induction l with | nil=>rfl | cons a l ih=>simp [ih]
  rw [hfl] at hloop
  by_cases h2:p.op=2
  ·have e:ieq p.op 2=true:=by rw [X2];exact h2
   have hb:W7 (d+1) p=Q0.mk 1 0 0 0 0 []:=by simp [W7,h2]
   rw [hb]
   simp only [V6,e,if_true,U0]
  ·have e:ieq p.op 2=false:=by rw [X0];exact h2
   by_cases h6:p.op=6
   ·have e6:ieq p.op 6=true:=by rw [X2];exact h6
    cases hk:p.kids with
    | nil=>
     have e0:ilt 0 (lenZ p.kids.length)=false:=by rw [J0,hk,Q0e];simp
     rw [hk] at hloop
     simp only [V6,e,e6,e0,U2,if_false,if_true,U0,W7,h2,hk]
     have e':=congrArg (fun z:Option (Ctl Q0 (List Q0))=>z.bind fun o=>match o with | .ret r=>some r | .go _=>none | .brk s=>some (Q0.mk p.op p.ctor p.n p.m p.var s)) hloop
     refine e'.trans ?_
     simp
    | cons q ks=>
     have e0:ilt 0 (lenZ p.kids.length)=true:=by rw [Z9,hk,Q0e];simp
     have hq:=hkid q (by simp [hk])
     have hix:idx p.kids 0=some q:=Q1m (i:=0) (by simp [hk])
     have hb:W7 (d+1) p=W7 d q:=by simp [W7,h6,hk]
     rw [hb]
     simp only [V6,e,e6,e0,U2,if_false,if_true,hix,U0,hq]
   ·have e6:ieq p.op 6=false:=by rw [X0];exact h6
    simp only [V6,e,e6,U2,if_false,U0,W7,h2,h6,false_and]
    have e':=congrArg (fun z:Option (Ctl Q0 (List Q0))=>z.bind fun o=>match o with | .ret r=>some r | .go _=>none | .brk s=>some (Q0.mk p.op p.ctor p.n p.m p.var s)) hloop
    refine e'.trans ?_
    simp
theorem Z56 {w:List Q4}(hw:WW w){n:Nat}{t:Q1}{p:Q0}(ht:t∈tys w)(g:Q18 w 10 t p=true)(hc:cntP p≤1000)(hn:100≤n):Q3p n p=some ((Z3 10 (W7 10 p)).take 401):=by
 have ha:=Q7n Z14 10 t p g
 have ho:=Z44 hw 10 t _ ht ha
 unfold Q3p
 rw [Z6x 10 n p (Z3o 10 t p g) (by omega) hc]
 simp only [U0]
 rw [X2s 10 n _ ho (by omega)]
 rfl
theorem Z59 {w:List Q4}(hw:WW w){t:Q1}(ht:t∈tys w){cs:List Q5}{k:Nat}(hk:k≤cs.length)(h:∀ c∈cs,Q18 w 10 t c.pat=true∧cntP c.pat≤1000)(hl:cs.length≤1000):Q60 NN cs (k:Int)=some (optR (Q2h (cs.take k))):=by
 have hlp:∀ (rest:List Q5) (i n:Nat) (s:List Q0),(cs.take k).drop i=rest→i≤k→rest.length+1≤n→s.length+40 * rest.length≤100000→
   whileL (fun (s138:(List Q0)×Int)=>
   (if (ilt s138.2 (k:Int))=true then
   ((((idx cs s138.2).bind fun x166=>
   (if (!ieq x166.guard.op 0)=true then
   some (Ctl.brk s138.1)
   else
   ((Q3p NN x166.pat).bind fun r168=>
   (if (ilt 40 (lenZ r168.length))=true then
   some (Ctl.ret (Ctl.ret (([],false))))
   else
   ((app s138.1 r168).bind fun x171=>
   some (Ctl.brk x171))))))).bind fun (o161:Ctl (Ctl (List Q0×Bool) ((List Q0)×Int)) ((List Q0)))=>match o161 with
   | .ret r=>some r
   | .go _=>none
   | .brk s160=>
   some (Ctl.go (s160,wadd .i64 s138.2 1)))
   else
   some (Ctl.brk (s138.1,s138.2)))) n (s,(i:Int))=some (match Q2h rest with | some r=>.brk (s++r,(k:Int)) | none=>.ret ([],false)):=by
  intro rest
  induction rest with
  | nil=>
   intro i n s h0 hi hn hs
   have hge:k≤i:=by
    have:=congrArg List.length h0
    simp only [List.length_drop,U6,U4] at this
    omega
   have:i=k:=by omega
   subst this
   obtain ⟨n,rfl⟩:∃ m,n=m+1:=⟨n-1,by simp only [U4] at hn;omega⟩
   have e:ilt (i:Int) (i:Int)=false:=by rw [J0];omega
   simp [whileL,e,Q2h]
  | cons c rest ih=>
   intro i n s h0 hi hn hs
   obtain ⟨c1,c2⟩:=Q3y h0
   have hik:i<k:=by
    have:=(List.getElem?_eq_some_iff.1 c1).1
    simp only [U6] at this
    omega
   have c3:cs[i]?=some c:=by
    rw [List.getElem?_take] at c1
    rw [if_pos hik] at c1
    exact c1
   simp only [U3] at hn hs
   obtain ⟨n,rfl⟩:∃ m,n=m+1:=⟨n-1,by omega⟩
   obtain ⟨g,hc⟩:=h c (U1 c3)
   have e:ilt (i:Int) (k:Int)=true:=by rw [Z9];omega
   have hw1:wadd .i64 (i:Int) 1=((i+1:Nat):Int):=by rw [Q10]<;>omega
   unfold whileL
   simp only [e,if_true,Q1m c3,U0,hw1]
   by_cases hg:c.guard.op=0
   ·have e0:(!ieq c.guard.op 0)=false:=by simp [ieq,hg]
    simp only [e0,U2,if_false]
    rw [Z56 hw ht g hc (by simp only [NN];omega)]
    simp only [U0,Q2h,if_pos hg,Q6t]
    by_cases hlen:40<(Z3 10 (W7 10 c.pat)).length
    ·have e4:ilt 40 (lenZ ((Z3 10 (W7 10 c.pat)).take 401).length)=true:=by rw [Z9,Q0e];simp only [U6];omega
     simp only [e4,if_true,if_pos hlen,U0,Option.bind_none]
    ·have e5:(Z3 10 (W7 10 c.pat)).take 401=Z3 10 (W7 10 c.pat):=List.take_of_length_le (by omega)
     have e4:ilt 40 (lenZ ((Z3 10 (W7 10 c.pat))).length)=false:=by rw [J0,Q0e];omega
     rw [e5]
     simp only [e4,U2,if_false,if_neg hlen,U0]
     rw [W5 (by simp only [Q7];omega)]
     simp only [U0]
     rw [ih (i+1) n (s++Z3 10 (W7 10 c.pat)) c2 (by omega) (by omega) (by simp only [U5];omega)]
     cases Q2h rest with
     | none=>simp
     | some r=>simp
   ·have e0:(!ieq c.guard.op 0)=true:=by simp [ieq,hg]
    simp only [e0,if_true,U0,Q2h,if_neg hg]
    exact ih (i+1) n s c2 (by omega) (by omega) (by omega)
 have e:=hlp (cs.take k) 0 NN [] rfl (by omega) (by simp only [U6,NN];omega) (by simp only [U4,U6];omega)
 unfold Q60
 have e':=congrArg (fun z:Option (Ctl ((List Q0)×Bool) ((List Q0)×Int))=>z.bind fun o=>match o with | .ret r=>some r | .go _=>none | .brk s=>some (s.1,true)) e
 refine e'.trans ?_
 cases Q2h (cs.take k)<;>simp [optR]
theorem X9u {w:List Q4}{t:Q1}{n:Nat}(hn:10≤n):∀ {l:List Q0},(∀ p∈l,Q0u w t p=true)→l.length≤100000→Q4e n l=some l:=fun {l} h hl=>by
 unfold Q4e
 have hloop:=Q4v (ρ:=List Q0) (f:=fun (k70:Nat) x71 (s64:(List Q0))=>((Q3e n x71).bind fun r78=>((app s64 [r78]).bind fun x79=>some (Ctl.go x79)))) (fun q=>[q]) 1000000 l 0 [] (fun k q hq s hs=>by
  obtain ⟨g,hc,_⟩:=Q4w (h q hq)
  rw [X5u 10 n q (Z3o 10 t q g) hn (by omega)]
  simp only [U0]
  simp only [U3,U4] at hs
  rw [W5 (by simp only [U3,U4,Q7];omega)]
  rfl) (by
   have:∀ l:List Q0,(l.flatMap fun q=>[q]).length=l.length:=fun l=>by induction l with | nil=>rfl | cons a l ih=>simp [ih]
   rw [this];simp only [U4];omega)
 have hfl:∀ l:List Q0,(l.flatMap fun q=>[q])=l:=fun l=>by induction l with | nil=>rfl | cons a l ih=>simp [ih]
 rw [hfl] at hloop
 have e':=congrArg (fun z:Option (Ctl (List Q0) (List Q0))=>z.bind fun o=>match o with | .ret r=>some r | .go _=>none | .brk s=>some s) hloop
 exact e'.trans (by simp)
theorem Z55 {w:List Q4}(hw:WW w){n:Nat}(hn:100≤n){t:Q1}(ht:t∈tys w)(o:Option (List Q0))(ho:∀ l,o=some l→l.length≤100000) :
  Q61 n w t (optR o).1 (optR o).2=some (optR (Q78 w t o)):=by
 have hlp:∀ (l:List Q0) (k:Nat),forL (ρ:=(List Q0)×Bool) (fun k68 x69 (s62:Unit)=>
   ((Q4k n w t x69).bind fun r76=>
   (if (!r76)=true then
   some (Ctl.ret (([],false)))
   else
   some (Ctl.go ())))) k l ()=some (if l.all (Q0u w t)=true then .brk () else .ret ([],false)):=by
  intro l
  induction l with
  | nil=>intro k;simp [forL]
  | cons a l ih=>
   intro k
   unfold forL
   rw [Z31 hw hn t a ht]
   simp only [U0,List.all_cons]
   rcases Bool.eq_false_or_eq_true (Q0u w t a) with hv | hv
   ·simp only [hv,Bool.not_true,U2,if_false,Bool.true_and]
    exact ih (k+1)
   ·simp [hv]
 unfold Q61
 cases o with
 | none=>
  have hnil:Q4e n []=some []:=by simp [Q4e,forL]
  simp [optR,Q78,forL,hnil]
 | some l=>
  simp only [optR,Q78]
  have e':=congrArg (fun z:Option (Ctl (List Q0×Bool) Unit)=>z.bind fun o=>match o with | .ret r=>some r | .go _=>none | .brk _=>(Q4e n l).bind fun r=>some (r,true)) (hlp l 0)
  refine e'.trans ?_
  by_cases h:l.all (Q0u w t)=true
  ·simp only [if_pos h,U0]
   rw [X9u (by omega) (fun p hp=>List.all_eq_true.1 h p hp) (ho l rfl)]
   rfl
  ·simp only [if_neg h,U0,optR]
def X0z (w:List Q4)(t:Q1)(cs:List Q5):Option (List Q0):=
 if Y5 w t cs=true then (Q2h cs).bind fun l=>Q78 w t (Q0t w 10 11 t [Q0.mk 1 0 0 0 0 []] l) else none
theorem Q6g {w:List Q4}{t:Q1} : ∀ {cs:List Q5} {l:List Q0},(∀ c∈cs,Q18 w 10 t c.pat=true)→Q2h cs=some l→∀ b∈l,Z7 w 10 t b
 | [],l,_,e=>by simp only [Q2h,Option.some.injEq] at e;subst e;simp
 | c::cs,l,h,e=>by
  simp only [Q2h] at e
  split at e
  ·cases hp:Q6t c.pat with
   | none=>rw [hp] at e;simp at e
   | some m=>
    rw [hp] at e
    cases hc:Q2h cs with
    | none=>rw [hc] at e;simp at e
    | some r=>
     rw [hc] at e
     simp only [U0,Option.map_some,Option.some.injEq] at e
     subst e
     intro b hb
     rcases List.mem_append.1 hb with hb | hb
     ·rw [(Q91 hp).2] at hb
      exact Q8z 10 t _ (Q7n Z14 10 t c.pat (h c (by simp))) b hb
     ·exact Q6g (fun c hc=>h c (by simp [hc])) hc b hb
  ·exact Q6g (fun c hc=>h c (by simp [hc])) e
theorem X1t:∀ (d:Nat) (p:Q0),cntP (W7 d p)≤cntP p
 | 0,p=>by simp [W7]
 | d+1,p=>by
  have hp:=Q36 p
  simp only [W7]
  split
  ·simp only [cntP,cntP.cntPs];omega
  ·split
   ·rename_i h
    cases hk:p.kids with
    | nil=>exact absurd hk h.2
    | cons q ks=>
     have:=X1t d q
     rw [hk] at hp
     simp only [cntP.cntPs] at hp
     simp only [List.headD_cons]
     omega
   ·have:∀ l:List Q0,cntP.cntPs (l.map (W7 d))≤cntP.cntPs l:=fun l=>by
     induction l with
     | nil=>simp
     | cons a l ih=>have:=X1t d a;simp only [List.map_cons,cntP.cntPs];omega
    have:=this p.kids
    rw [Q36]
    simp only
    omega
theorem Z6t:∀ (d:Nat) (p:Q0),∀ q∈Z3 d p,cntP q≤cntP p
 | 0,_,_,h=>by simp [Z3] at h
 | d+1,p,q,h=>by
  have hp:=Q36 p
  simp only [Z3] at h
  split at h
  ·obtain ⟨k,hk,hq⟩:=List.mem_flatMap.1 h
   have h1:=Z6t d k q hq
   obtain ⟨j,hj⟩:=List.mem_iff_getElem?.1 hk
   have:=Q7k hj
   omega
  ·obtain ⟨cs,hcs,rfl⟩:=U10.1 h
   have hm:=X3n.1 hcs
   have:∀ (ks cs:List Q0),MemL cs (ks.map (Z3 d))→cntP.cntPs cs≤cntP.cntPs ks:=fun ks=>by
    induction ks with
    | nil=>intro cs h;have:=h.1;simp at this;subst this;simp
    | cons k ks ih=>
     intro cs h
     cases cs with
     | nil=>have:=h.1;simp at this
     | cons c cs=>
      rw [List.map_cons,Z7h] at h
      have h1:=Z6t d k c h.1
      have h2:=ih cs h.2
      simp only [cntP.cntPs]
      omega
   have:=this p.kids cs hm
   rw [Q36]
   simp only [Q8r]
   omega
theorem Z79 {p:Q0}{l:List Q0}(h:Q6t p=some l):∀ q∈l,cntP q≤cntP p:=fun q hq=>by
 rw [(Q91 h).2] at hq
 exact Nat.le_trans (Z6t 10 _ q hq) (X1t 10 p)
theorem Q94 {m:Nat} : ∀ {cs:List Q5} {l:List Q0},(∀ c∈cs,cntP c.pat≤m)→Q2h cs=some l→∀ b∈l,cntP b≤m
 | [],l,_,e=>by simp only [Q2h,Option.some.injEq] at e;subst e;simp
 | c::cs,l,h,e=>by
  simp only [Q2h] at e
  split at e
  ·cases hp:Q6t c.pat with
   | none=>rw [hp] at e;simp at e
   | some m=>
    rw [hp] at e
    cases hc:Q2h cs with
    | none=>rw [hc] at e;simp at e
    | some r=>
     rw [hc] at e
     simp only [U0,Option.map_some,Option.some.injEq] at e
     subst e
     intro b hb
     rcases List.mem_append.1 hb with hb | hb
     ·exact Nat.le_trans (Z79 hp b hb) (h c (by simp))
     ·exact Q94 (fun c hc=>h c (by simp [hc])) hc b hb
  ·exact Q94 (fun c hc=>h c (by simp [hc])) e
theorem Q5k {w:List Q4}{t:Q1}{cs:List Q5}(h:Y5 w t cs=true):cs.length≤8∧∀ c∈cs,Q0u w t c.pat=true∧Q18 w 10 t c.pat=true∧cntP c.pat≤60:=by
 simp only [Y5,Bool.and_eq_true,decide_eq_true_eq,List.all_eq_true] at h
 refine ⟨h.1,fun c hc=>?_⟩
 have:=h.2 c hc
 simp only [Q72,Bool.and_eq_true] at this
 obtain ⟨g1,g2,_⟩:=Q4w this.1
 exact ⟨this.1,g1,g2⟩
theorem X9i {w:List Q4}{d x:Nat}{t:Q1} : ∀ (bs l r:List Q0),l.length≤1000→Q57 w d x t l bs=some r→r.length≤1000
 | [],l,r,h,e=>by simp only [Q57,Option.some.injEq] at e;subst e;exact h
 | b::bs,l,r,h,e=>by
  simp only [Q57] at e
  split at e
  ·cases e
  ·exact X9i bs _ r (by omega) e
theorem Z52 {w:List Q4}{d x:Nat}{t:Q1}{l bs r:List Q0}(h:l.length≤1000)(e:Q0t w d x t l bs=some r):r.length≤1000:=
 X9i bs _ r (by have:=Z69 w x t l;omega) e
theorem Z94 {w:List Q4}(hww:w∈Q0a)(hw:WW w)(he:WE w){t:Q1}(ht:t∈tys w)(cs:List Q5):Q1y NN w t cs=some (optR (X0z w t cs)):=by
 unfold Q1y X0z
 rw [Q3x hw ht]
 simp only [U0]
 by_cases h:Y5 w t cs=true
 ·obtain ⟨h8,hc⟩:=Q5k h
  simp only [h,Bool.not_true,U2,if_false,if_true]
  rw [Z5i hw ht (by simp only [NN];omega) cs (fun c m=>⟨(hc c m).2.1,by have:=(hc c m).2.2;omega⟩) (by omega)]
  simp only [U0]
  cases hl:Q2h cs with
  | none=>simp [optR]
  | some l=>
   have hp:=Q6g (fun c m=>(hc c m).2.1) hl
   have hcnt:=Q94 (m:=60) (fun c m=>(hc c m).2.2) hl
   simp only [optR,Bool.not_true,U2,if_false,U0]
   rw [(wl hww).dim]
   have hany:Q1e=some (Q0.mk 1 0 0 0 0 []):=rfl
   simp only [U0,hany]
   rw [Q8w hww hw he (d:=10) (x:=11) ht (by omega) (by omega) (fun b hb=>⟨hp b hb,by have:=hcnt b hb;omega⟩) (fun a ha=>by simp only [List.mem_singleton] at ha;subst ha;exact Q75 w 10 t) (by simp) (by simp only [NN];omega)]
   simp only [U0]
   rw [Q9t hw (by simp only [NN];omega) ht _ (fun r hr=>by have:=Z52 (by simp) hr;omega)]
   cases Q78 w t (Q0t w 10 11 t [Q0.mk 1 0 0 0 0 []] l)<;>rfl
 ·simp [h,optR]
theorem Z91 {w:List Q4}(hww:w∈Q0a)(hw:WW w)(he:WE w){t:Q1}(ht:t∈tys w)(cs:List Q5):Q1x NN w t cs=some (optR (X0z w t cs)):=by
 unfold Q1x X0z
 rw [Q74 hw ht]
 simp only [U0]
 by_cases h:Y5 w t cs=true
 ·obtain ⟨h8,hc⟩:=Q5k h
  have hany:Q4d=some (Q0.mk 1 0 0 0 0 []):=rfl
  simp only [h,Bool.not_true,U2,if_false,if_true,hany,U0]
  unfold Q5n
  have hcov:=Z59 hw ht (cs:=cs) (k:=cs.length) (by omega) (fun c m=>⟨(hc c m).2.1,by have:=(hc c m).2.2;omega⟩) (by omega)
  rw [List.take_length] at hcov
  rw [Q0e,hcov]
  simp only [U0]
  cases hl:Q2h cs with
  | none=>simp [optR]
  | some l=>
   have hp:=Q6g (fun c m=>(hc c m).2.1) hl
   have hcnt:=Q94 (m:=60) (fun c m=>(hc c m).2.2) hl
   simp only [optR,Bool.not_true,U2,if_false,U0]
   rw [hw.tab]
   simp only [U0]
   rw [Q80 hw he (d:=10) (x:=11) ht (by omega) (by omega) (fun b hb=>⟨hp b hb,by have:=hcnt b hb;omega⟩) (fun a ha=>by simp only [List.mem_singleton] at ha;subst ha;exact Q75 w 10 t) (by simp) (by simp only [NN];omega)]
   simp only [U0]
   rw [Z55 hw (by simp only [NN];omega) ht _ (fun r hr=>by have:=Z52 (by simp) hr;omega)]
   cases Q78 w t (Q0t w 10 11 t [Q0.mk 1 0 0 0 0 []] l)<;>rfl
 ·simp [h,optR]
end Go.Proofs.YtfhpjeogjcfkaaaGreat
