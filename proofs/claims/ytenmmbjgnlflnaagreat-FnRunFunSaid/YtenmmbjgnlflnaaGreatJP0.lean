import Derived.KernelRfl
import Derived.Test.YtenmmbjgnlflnaaGreatJMir
set_option linter.unusedSimpArgs false
set_option linter.unusedVariables false
namespace Go.Proofs.YtenmmbjgnlflnaaGreat
open Go Go.RowKit
def Ret {α:Type}(x:Option α)(Q:α→Prop):Prop:=∃ a,x=some a∧Q a
theorem Ret.some {α:Type}{a:α}{Q:α→Prop}(h:Q a):Ret (some a) Q:=⟨a,rfl,h⟩
theorem Ret.bind {α β:Type}{x:Option α}{f:α→Option β}{P:α→Prop}{Q:β→Prop}(hx:Ret x P)(hf:∀ a,P a→Ret (f a) Q):Ret (x.bind f) Q:=by
 obtain ⟨a,rfl,ha⟩:=hx
 exact hf a ha
theorem Ret.bindE {α β:Type}{x:Option α}{f:α→Option β}{a:α}{Q:β→Prop}(hx:x=Option.some a)(hf:Ret (f a) Q):Ret (x.bind f) Q:=by
 subst hx
 exact hf
theorem Ret.mono {α:Type}{x:Option α}{P Q:α→Prop}(h:∀ a,P a→Q a)(hx:Ret x P):Ret x Q:=by
 obtain ⟨a,e,ha⟩:=hx
 exact ⟨a,e,h a ha⟩
theorem Ret.ite {α:Type}{b:Bool}{x y:Option α}{Q:α→Prop}(h1:b=true→Ret x Q)(h2:b=false→Ret y Q):Ret (if b=true then x else y) Q:=by
 cases b
 ·exact h2 rfl
 ·exact h1 rfl
theorem Ret.of {α:Type}{x:Option α}{a:α}{Q:α→Prop}(h:x=Option.some a)(hq:Q a):Ret x Q:=⟨a,h,hq⟩
theorem Ret.get {α:Type}{x:Option α}{Q:α→Prop}{a:α}(h:Ret x Q)(e:x=Option.some a):Q a:=by
 obtain ⟨b,e2,hb⟩:=h
 rw [e] at e2
 cases e2
 exact hb
def CtlQ {ρ σ:Type}(R:ρ→Prop)(B:σ→Prop):Ctl ρ σ→Prop
 | .ret r=>R r
 | .brk s=>B s
 | .go _=>False
def RndQ {ρ σ:Type}(R:ρ→Prop)(B G:σ→Prop):Ctl ρ σ→Prop
 | .ret r=>R r
 | .brk s=>B s
 | .go s=>G s
@[simp] theorem X48 {ρ σ:Type} (R:ρ→Prop) (B G:σ→Prop) (r:ρ):RndQ R B G (.ret r)=R r:=rfl
@[simp] theorem W2k {ρ σ:Type} (R:ρ→Prop) (B G:σ→Prop) (s:σ):RndQ R B G (.brk s)=B s:=rfl
@[simp] theorem X8k {ρ σ:Type} (R:ρ→Prop) (B G:σ→Prop) (s:σ):RndQ R B G (.go s)=G s:=rfl
@[simp] theorem V4u {ρ σ:Type} (R:ρ→Prop) (B:σ→Prop) (r:ρ):CtlQ R B (.ret r)=R r:=rfl
@[simp] theorem V4v {ρ σ:Type} (R:ρ→Prop) (B:σ→Prop) (s:σ):CtlQ R B (.brk s)=B s:=rfl
theorem Z9 {α σ ρ:Type}{f:Nat→α→σ→Option (Ctl ρ σ)}(xs:List α){s0:σ}(I:Nat→σ→Prop)(R:ρ→Prop)(B:σ→Prop)
  (h0:I 0 s0) (step:∀ k x s,xs[k]?=some x→I k s→Ret (f k x s) (RndQ R B (I (k+1)))) (stop:∀ s,I xs.length s→B s) :
  Ret (forL f 0 xs s0) (CtlQ R B):=by
 have key:∀ (ys:List α) (k:Nat) (s:σ),xs.drop k=ys→k≤xs.length→I k s→Ret (forL f k ys s) (CtlQ R B):=by
  intro ys
  induction ys with
  | nil=>
   intro k s hd hk hs
   have:k=xs.length:=by
    have:=congrArg List.length hd
    simp at this
    omega
   subst this
   exact .some (stop s hs)
  | cons y ys ih=>
   intro k s hd hk hs
   have hlt:k<xs.length:=by
    have:=congrArg List.length hd
    simp at this
    omega
   rw [List.drop_eq_getElem_cons hlt] at hd
   injection hd with h1 h2
   have hx:xs[k]?=some y:=by rw [U8 hlt,h1]
   obtain ⟨o,ho,hq⟩:=step k y s hx hs
   unfold forL
   rw [ho]
   cases o with
   | ret r=>exact .some hq
   | brk s'=>exact .some hq
   | go s'=>exact ih (k+1) s' h2 hlt hq
 exact key xs 0 s0 rfl (Nat.zero_le _) h0
theorem Q6w {σ ρ:Type}{f:σ→Option (Ctl ρ σ)}{s0:σ}(I:σ→Prop)(μ:σ→Nat)(R:ρ→Prop)(B:σ→Prop)(h0:I s0)
  (step:∀ s,I s→Ret (f s) (RndQ R B (fun s'=>I s'∧μ s'<μ s))):∀ n,μ s0<n→Ret (whileL f n s0) (CtlQ R B):=by
 have key:∀ n s,I s→μ s<n→Ret (whileL f n s) (CtlQ R B):=by
  intro n
  induction n with
  | zero=>intro s _ h;omega
  | succ n ih=>
   intro s hs hn
   obtain ⟨o,ho,hq⟩:=step s hs
   unfold whileL
   rw [ho]
   cases o with
   | ret r=>exact .some hq
   | brk s'=>exact .some hq
   | go s'=>exact ih s' hq.1 (by have:=hq.2;omega)
 exact fun n hn=>key n s0 h0 hn
theorem Ret.ctl {ρ σ τ:Type}{x:Option (Ctl ρ σ)}{g:Ctl ρ σ→Option τ}{R:ρ→Prop}{B:σ→Prop}{Q:τ→Prop}(h:Ret x (CtlQ R B))(hr:∀ r,R r→Ret (g (.ret r)) Q)(hb:∀ s,B s→Ret (g (.brk s)) Q):Ret (x.bind g) Q:=by
 obtain ⟨o,rfl,ho⟩:=h
 cases o with
 | ret r=>exact hr r ho
 | brk s=>exact hb s ho
 | go s=>exact ho.elim
theorem Q33 {α:Type}{xs ys:List α}(h:xs.length+ys.length≤Z0):app xs ys=some (xs++ys):=by simp [app,h]
theorem Q1m {α:Type}{xs:List α}{i:Nat}{x:α}(h:xs[i]?=some x):idx xs (i:Int)=some x:=by simp [idx,h]
theorem Q59 {α:Type}{xs:List α}{i:Int}{x:α}(h0:0≤i)(h:xs[i.toNat]?=some x):idx xs i=some x:=by simp [idx,h,h0]
theorem Q1g {α:Type}{xs:List α}{i:Int}(h0:0≤i)(h:i<xs.length):∃ x,idx xs i=some x∧x∈xs:=by
 have hl:i.toNat<xs.length:=by omega
 exact ⟨xs[i.toNat],by simp [idx,h0,hl],List.getElem_mem hl⟩
theorem Z61 {b:Bool}(h:b=true):chk b=some ():=by simp [chk,h]
theorem Q7 {a b:Int} : (ieq a b=true)=(a=b):=by simp [ieq]
theorem Q9 {a b:Int} : (ieq a b=false)=(a≠b):=by simp [ieq]
theorem W0 {a b:Int} : (ilt a b=true)=(a<b):=by simp [ilt]
theorem Q3x {a b:Int} : (ilt a b=false)=(b≤a):=by simp [ilt]
theorem W5 {a b:Int} : (ile a b=true)=(a≤b):=by simp [ile]
theorem Q1y {a b:Int} : (ile a b=false)=(b<a):=by simp [ile]
theorem Q0f {a b:Int}(h1 : -9223372036854775808≤a+b)(h2:a+b≤9223372036854775807):wadd .i64 a b=a+b:=by unfold wadd;exact Z31 h1 h2
theorem Q3q {a b:Int}(h1 : -9223372036854775808≤a-b)(h2:a-b≤9223372036854775807):wsub .i64 a b=a-b:=by unfold wsub;exact Z31 h1 h2
theorem Q7t {a b:Int}(h1 : -9223372036854775808≤a * b)(h2:a * b≤9223372036854775807):wmul .i64 a b=a * b:=by unfold wmul;exact Z31 h1 h2
theorem Z70 {a:Int}(h1 : -9223372036854775808≤a)(h2:a≤9223372036854775807):wcv .i64 a=a:=by unfold wcv;exact Z31 h1 h2
theorem Z7s {a b:Int}(h1 : -9223372036854775808≤a.tdiv b)(h2:a.tdiv b≤9223372036854775807):wquo .i64 a b=a.tdiv b:=by unfold wquo;exact Z31 h1 h2
abbrev NN:Nat:=30000000
instance:DecidableEq Q3:=fun a b=>decidable_of_iff (a.data=b.data∧a.index=b.index) ⟨fun h=>by cases a;cases b;simp at h;simp [h],fun h=>by subst h;simp⟩
def by_ (l:List Nat):ByteArray:=⟨(l.map UInt8.ofNat).toArray⟩
def tI:Q3:=⟨-1,0⟩
def tD (d i:Int):Q3:=⟨d,i⟩
def w0:List Q2:=[⟨by_ [76],[⟨by_ [78,105,108],[],0⟩,⟨by_ [67,111,110,115],[tI,tD 0 0],0⟩]⟩]
def w1:List Q2:=[⟨by_ [66],[⟨by_ [84,114,117],[],0⟩,⟨by_ [70,108,115],[],0⟩]⟩,⟨by_ [84],[⟨by_ [76,101,97,102],[],0⟩,⟨by_ [78,111,100,101],[tD 1 0,tD 0 0,tD 1 0],0⟩]⟩]
def w2:List Q2:=[⟨by_ [69],[⟨by_ [78,117,109],[tI],1⟩,⟨by_ [66,111,108],[tD 1 0],2⟩,⟨by_ [65,100,100],[tD 0 1,tD 0 1],1⟩,⟨by_ [73,102],[tD 0 2,tD 0 (-1),tD 0 (-1)],0⟩]⟩,⟨by_ [66],[⟨by_ [84,114,117],[],0⟩,⟨by_ [70,108,115],[],0⟩]⟩]
def w3:List Q2:=[⟨by_ [79],[⟨by_ [78,111,110],[],0⟩,⟨by_ [83,111,109],[tI],0⟩]⟩,⟨by_ [80],[⟨by_ [80,97,105,114],[tD 0 0,tD 0 0],0⟩]⟩]
def w4:List Q2:=[⟨by_ [86],[⟨by_ [69,110,100],[],1⟩,⟨by_ [83,111,109,101],[tI,tD 0 1],2⟩,⟨by_ [84,119,111],[tD 0 (-1)],0⟩]⟩]
def w5:List Q2:=[⟨by_ [78],[⟨by_ [78,101,118,101,114],[tD 0 0],0⟩]⟩,⟨by_ [66],[⟨by_ [84,114,117],[],0⟩,⟨by_ [70,108,115],[],0⟩,⟨by_ [77,97,121],[tD 0 0],0⟩]⟩]
def w6:List Q2:=[⟨by_ [83],[⟨by_ [82,101,100],[],0⟩,⟨by_ [71,114,101,101,110],[],0⟩,⟨by_ [66,108,117,101],[],0⟩,⟨by_ [77,105,120],[tD 0 0,tD 0 0],0⟩]⟩]
def Q4e:List (List Q2):=[w0,w1,w2,w3,w4,w5,w6]
def Z8u (i:Nat):Option (List Q2×Bool):=Q5u.bind fun r=>(idx r (i:Int)).bind fun x=>Q46 NN x
theorem V37:Z8u 0=some (w0,true):=by kernel_rfl
theorem V36:Z8u 1=some (w1,true):=by kernel_rfl
theorem V35:Z8u 2=some (w2,true):=by kernel_rfl
theorem V34:Z8u 3=some (w3,true):=by kernel_rfl
theorem V33:Z8u 4=some (w4,true):=by kernel_rfl
theorem V32:Z8u 5=some (w5,true):=by kernel_rfl
theorem V31:Z8u 6=some (w6,true):=by kernel_rfl
def tys (w:List Q2):List Q3:=tI::(List.range w.length).flatMap fun (d:Nat)=>(List.range 4).map fun (i:Nat)=>tD d i
def Y0 (w:List Q2)(t:Q3):List Int:=(Q04 w t).getD []
def Q0z (w:List Q2)(t:Q3)(k:Int):List Q3:=(V8 w t k).getD []
def tabP (w:List Q2):List Int:=(Q3h NN w).getD []
def depP (w:List Q2)(t:Q3):Int:=(Q2m (tabP w) t).getD 0
def Q4n (w:List Q2)(t:Q3)(k:Int):Int:=(Q35 w (tabP w) t k).getD 0
def chkT (w:List Q2)(t:Q3):Bool:=
 decide (Q04 w t=some (Y0 w t))&&decide (Q1l w t=some (Y0 w t)) &&
 (Y0 w t).all (fun k=>decide (V8 w t k=some (Q0z w t k))&&decide (Q0k w t k=some (Q0z w t k))&&(Q0z w t k).all (fun a=>decide (a∈tys w))&&decide ((Q0z w t k).length≤3) &&
  decide (Q35 w (tabP w) t k=some (Q4n w t k))&&decide (0≤Q4n w t k)&&(decide (Q4n w t k=0)||(Q0z w t k).all (fun a=>decide (1≤depP w a)&&decide (depP w a<Q4n w t k)))) &&
 decide (Q13 w t=some true)&&decide (Q1c w t=some true)&&decide (Q2m (tabP w) t=some (depP w t))&&decide (0≤depP w t)&&decide (depP w t≤4)&&decide ((Y0 w t).length≤4) &&
 (decide (t.data = -1)||decide (depP w t=0)||(Y0 w t).any (fun k=>decide (Q4n w t k=depP w t)))&&(decide (t.data≠-1)||(decide (t=tI)&&decide (depP w t=1)))
def chkW (w:List Q2):Bool:=
 (tys w).all (chkT w)&&decide (Q3h NN w=some (tabP w))&&decide (Q1p NN w=some true)&&decide (Q0a NN w=some true)&&decide (0<w.length)&&decide (w.length≤2)
theorem W0r:Q4e.all chkW=true:=by kernel_rfl
structure WT (w:List Q2) (t:Q3):Prop where
 c1:Q04 w t=some (Y0 w t)
 c2:Q1l w t=some (Y0 w t)
 a1:∀ k∈Y0 w t,V8 w t k=some (Q0z w t k)
 a2:∀ k∈Y0 w t,Q0k w t k=some (Q0z w t k)
 at_:∀ k∈Y0 w t,∀ a∈Q0z w t k,a∈tys w
 al:∀ k∈Y0 w t,(Q0z w t k).length≤3
 m1:∀ k∈Y0 w t,Q35 w (tabP w) t k=some (Q4n w t k)
 m0:∀ k∈Y0 w t,0≤Q4n w t k
 ma:∀ k∈Y0 w t,Q4n w t k≠0→∀ a∈Q0z w t k,1≤depP w a∧depP w a<Q4n w t k
 t1:Q13 w t=some true
 t2:Q1c w t=some true
 d1:Q2m (tabP w) t=some (depP w t)
 d0:0≤depP w t
 d4:depP w t≤4
 cl:(Y0 w t).length≤4
 dm:t.data≠-1→depP w t≠0→∃ k∈Y0 w t,Q4n w t k=depP w t
 ti:t.data = -1→t=tI∧depP w t=1
structure WW (w:List Q2):Prop where
 ty:∀ t∈tys w,WT w t
 tab:Q3h NN w=some (tabP w)
 v1:Q1p NN w=some true
 v2:Q0a NN w=some true
 pos:0<w.length
 le:w.length≤2
theorem W87 {w:List Q2}{t:Q3}(h:chkT w t=true):WT w t:=by
 simp only [chkT,Bool.and_eq_true,Bool.or_eq_true,decide_eq_true_eq,List.all_eq_true,List.any_eq_true] at h
 obtain ⟨⟨⟨⟨⟨⟨⟨⟨⟨⟨h1,h2⟩,h3⟩,h4⟩,h5⟩,h6⟩,h7⟩,h8⟩,h9⟩,h10⟩,h11⟩:=h
 have hk:∀ k∈Y0 w t,_:=h3
 refine ⟨h1,h2,fun k hk=>(h3 k hk).1.1.1.1.1.1,fun k hk=>(h3 k hk).1.1.1.1.1.2,fun k hk=>(h3 k hk).1.1.1.1.2,fun k hk=>(h3 k hk).1.1.1.2,fun k hk=>(h3 k hk).1.1.2,fun k hk=>(h3 k hk).1.2,fun k hk hm a ha=>?_,h4,h5,h6,h7,h8,h9,fun hd h0=>?_,fun hd=>?_⟩
 ·rcases (h3 k hk).2 with h | h
  ·exact absurd h hm
  ·exact h a ha
 ·rcases h10 with (h | h) | h
  ·exact absurd h hd
  ·exact absurd h h0
  ·exact h
 ·rcases h11 with h | h
  ·exact absurd hd h
  ·exact h
theorem ww {w:List Q2}(h:w∈Q4e):WW w:=by
 have h:=List.all_eq_true.1 W0r w h
 simp only [chkW,Bool.and_eq_true,decide_eq_true_eq,List.all_eq_true] at h
 obtain ⟨⟨⟨⟨⟨h1,h2⟩,h3⟩,h4⟩,h5⟩,h6⟩:=h
 exact ⟨fun t ht=>W87 (h1 t ht),h2,h3,h4,h5,h6⟩
instance:DecidableEq Q1:=fun a b=>decidable_of_iff (a.var=b.var∧a.typ=b.typ) ⟨fun h=>by cases a;cases b;simp at h;simp [h],fun h=>by subst h;simp⟩
theorem X4n (l:List Int)(x:Int):Q32 l x=some (decide (x∈l)):=by
 have h:Ret (Q32 l x) (fun b=>b=decide (x∈l)):=by
  unfold Q32
  refine Ret.ctl (Z9 l (fun k _=>∀ j,j<k→l[j]?≠some x) (fun r=>r=true∧x∈l) (fun _=>x∉l) (fun j hj=>by omega) (fun k y s hy hI=>?_) (fun s hI=>?_)) (fun r hr=>?_) (fun s hs=>?_)
  ·refine Ret.ite (fun h=>?_) (fun h=>?_)
   ·rw [Q7] at h
    exact .some ⟨rfl,h▸U1 hy⟩
   ·rw [Q9] at h
    refine .some (fun j hj=>?_)
    by_cases hjk:j=k
    ·subst hjk
     rw [hy]
     simpa using h
    ·exact hI j (by omega)
  ·intro hm
   obtain ⟨j,hj⟩:=List.mem_iff_getElem?.1 hm
   exact hI j ((List.getElem?_eq_some_iff.1 hj).1) hj
  ·obtain ⟨rfl,hx⟩:=hr
   exact .some (by simp [hx])
  ·exact .some (by simp [hs])
 obtain ⟨b,hb,rfl⟩:=h
 exact hb
theorem Q7g (l:List Int)(x:Int):V5 l x=some (decide (x∈l)):=by
 have h:Ret (V5 l x) (fun b=>b=decide (x∈l)):=by
  unfold V5
  refine Ret.bind (P:=fun r=>(0≤r∧x∈l)∨(r = -1∧x∉l)) ?_ (fun a ha=>?_)
  ·unfold Q3p
   refine Ret.ctl (Z9 l (fun k _=>∀ j,j<k→l[j]?≠some x) (fun r=>0≤r∧x∈l) (fun _=>x∉l) (fun j hj=>by omega) (fun k y s hy hI=>?_) (fun s hI=>?_)) (fun r hr=>?_) (fun s hs=>?_)
   ·refine Ret.ite (fun h=>?_) (fun h=>?_)
    ·rw [Q7] at h
     exact .some ⟨by omega,h▸U1 hy⟩
    ·rw [Q9] at h
     refine .some (fun j hj=>?_)
     by_cases hjk:j=k
     ·subst hjk
      rw [hy]
      simpa using fun e=>h e.symm
     ·exact hI j (by omega)
   ·intro hm
    obtain ⟨j,hj⟩:=List.mem_iff_getElem?.1 hm
    exact hI j ((List.getElem?_eq_some_iff.1 hj).1) hj
   ·exact .some (.inl hr)
   ·exact .some (.inr ⟨rfl,hs⟩)
  ·rcases ha with ⟨h1,h2⟩ | ⟨rfl,h2⟩
   ·exact .some (by simp [ile,h1,h2])
   ·exact .some (by simp [ile,h2])
 obtain ⟨b,hb,rfl⟩:=h
 exact hb
theorem Q5o {α:Type}(l:List α)(f:α→Option Bool)(g:α→Bool)(hf:∀ x∈l,f x=some (g x)) :
  Ret ((forL (fun (k:Nat) (x:α) (s:Unit)=>((f x).bind fun r=>(if r=true then some (Ctl.ret (k:Int)) else some (Ctl.go ())))) 0 l ()).bind fun (o:Ctl Int Unit)=>match o with
   | .ret r=>some r
   | .go _=>none
   | .brk _=>some (-1)) (fun i=>(∃ k x,i=((k:Nat):Int)∧l[k]?=some x∧g x=true)∨(i = -1∧∀ x∈l,g x=false)):=by
 refine Ret.ctl (Z9 l (fun k _=>∀ j x,j<k→l[j]?=some x→g x=false) (fun i=>∃ k x,i=((k:Nat):Int)∧l[k]?=some x∧g x=true) (fun _=>∀ x∈l,g x=false) (fun j x hj=>by omega) (fun k y s hy hI=>?_) (fun s hI=>?_)) (fun r hr=>?_) (fun s hs=>?_)
 ·rw [hf y (U1 hy)]
  show Ret (if g y=true then _ else _) _
  refine Ret.ite (fun h=>?_) (fun h=>?_)
  ·exact .some ⟨k,y,rfl,hy,h⟩
  ·refine .some (fun j x hj hx=>?_)
   by_cases hjk:j=k
   ·subst hjk
    rw [hy] at hx
    cases hx
    exact h
   ·exact hI j x (by omega) hx
 ·intro x hm
  obtain ⟨j,hj⟩:=List.mem_iff_getElem?.1 hm
  exact hI j x ((List.getElem?_eq_some_iff.1 hj).1) hj
 ·exact .some (.inl hr)
 ·exact .some (.inr ⟨rfl,hs⟩)
theorem X59 {α:Type}{l:List α}{g:α→Bool}{x:Option Int}(h:Ret x (fun i=>(∃ k x,i=((k:Nat):Int)∧l[k]?=some x∧g x=true)∨(i = -1∧∀ x∈l,g x=false))):(x.bind fun r=>some (ile 0 r))=some (l.any g):=by
 obtain ⟨i,rfl,h⟩:=h
 rcases h with ⟨k,x,rfl,h2,h3⟩ | ⟨rfl,h2⟩
 ·have:l.any g=true:=List.any_eq_true.2 ⟨x,U1 h2,h3⟩
  rw [this]
  simp [ile]
 ·have:l.any g=false:=by simpa using h2
  rw [this]
  simp [ile]
theorem Z3v (l:List X1)(f:X1→Option Bool)(g:X1→Bool)(hf:∀ x∈l,f x=some (g x)):Q0d l f=some (l.any g):=X59 (Q5o l f g hf)
theorem Z2t (l:List Q1)(f:Q1→Option Bool)(g:Q1→Bool)(hf:∀ x∈l,f x=some (g x)):Q07 l f=some (l.any g):=X59 (Q5o l f g hf)
theorem W4f (a b:Q1):Q4s [ieq a.var b.var,ieq a.typ.data b.typ.data,ieq a.typ.index b.typ.index]=decide (a=b):=by
 obtain ⟨v,d,i⟩:=a
 obtain ⟨v',d',i'⟩:=b
 simp [Q4s,ieq]
theorem Z60 (l:List Q1)(x:Q1):Y7 l x=some (decide (x∈l)):=by
 have:=X59 (Q5o l (fun y=>some (decide (x=y))) (fun y=>decide (x=y)) (fun _ _=>rfl))
 have e:l.any (fun y=>decide (x=y))=decide (x∈l):=by
  rw [Bool.eq_iff_iff]
  simp
 rw [e] at this
 unfold Y7 Q1z
 simp only [W4f]
 exact this
theorem X23 (a b:List Q1):Q3u a b=some (decide (a.length=b.length)&&a.all fun v=>decide (v∈b)):=by
 unfold Q3u
 by_cases h:a.length=b.length
 ·have h1:ieq (lenZ a.length) (lenZ b.length)=true:=by rw [Q7];simp [lenZ,h]
  rw [if_pos h1,Z2t a _ (fun v=>!decide (v∈b)) (fun x _=>by unfold Q48;rw [Z60];rfl)]
  simp only [U0,h,decide_true,Bool.true_and,Option.some.injEq]
  rw [Bool.eq_iff_iff]
  simp
 ·have h1:¬ieq (lenZ a.length) (lenZ b.length)=true:=by rw [Q7];simp only [lenZ];omega
  rw [if_neg h1]
  simp [h]
def Z3i (w:List Q2)(t:Q3)(p:Q5):Bool:=
 (if p.op=2∨p.op=6 then decide (0≤p.var)&&decide (p.var≤5) else decide (p.var=0))&&(decide (p.op=3)||(decide (p.n=0)&&decide (p.m=0)))&&(decide (p.op=4)||decide (p.ctor=0)) &&
 (decide (p.op=1∨p.op=2∨p.op=5∨p.op=6)||(decide (p.op=3)&&decide (t.data = -1)&&decide (0≤p.n)&&decide (p.n≤p.m)&&decide (p.m≤9))||(decide (p.op=4)&&decide (p.ctor∈Y0 w t)))
def J6 (w:List Q2)(t:Q3)(p:Q5):List Q3:=if p.op=4 then Q0z w t p.ctor else if p.op=5 then [t,t] else if p.op=6 then [t] else []
def Q92 (w:List Q2)(t:Q3)(p:Q5):Bool:=Z3i w t p&&decide (p.kids.length=(J6 w t p).length)
theorem Q5v (a b c:Int):X8 a b c=some (decide (b≤a)&&decide (a≤c)):=by
 unfold X8
 by_cases h:b≤a<;>simp [ile,h]
theorem V2d {w:List Q2}{t:Q3}(hw:WT w t)(p:Q5):Q5y w t p=some (Z3i w t p):=by
 obtain ⟨op,ctor,n,m,v,kids⟩:=p
 unfold Q5y Z3i
 simp only [hw.c1,U0,X4n]
 by_cases h1:op=1
 ·subst h1;simp [ieq,ilt,ile];(repeat' split)<;>simp_all
 by_cases h2:op=2
 ·subst h2;simp [ieq,ilt,ile];(repeat' split)<;>simp_all<;>omega
 by_cases h3:op=3
 ·subst h3;simp [ieq,ilt,ile];(repeat' split)<;>simp_all<;>(intros;omega)
 by_cases h4:op=4
 ·subst h4;simp [ieq,ilt,ile];(repeat' split)<;>simp_all
 by_cases h5:op=5
 ·subst h5;simp [ieq,ilt,ile];(repeat' split)<;>simp_all
 by_cases h6:op=6
 ·subst h6;simp [ieq,ilt,ile];(repeat' split)<;>simp_all<;>omega
 simp [ieq,ilt,ile,h1,h2,h3,h4,h5,h6];(repeat' split)<;>simp_all
theorem W74 (p:Q5)(a b c:Bool)(k:Int):Q2q p a b c k=some ((a||decide (p.ctor=0))&&(b||(decide (p.n=0)&&decide (p.m=0)))&&(c||decide (p.var=0))&&decide ((p.kids.length:Int)=k)):=by
 unfold Q2q
 by_cases h1:p.ctor=0<;>by_cases h2:p.n=0<;>by_cases h3:p.m=0<;>by_cases h4:p.var=0<;>cases a<;>cases b<;>cases c<;>simp [ieq,lenZ,h1,h2,h3,h4]<;>exact decide_eq_decide.2 Iff.rfl
theorem W30 (v:Int):Q3v v=some (decide (0≤v)&&decide (v≤5)):=by
 unfold Q3v
 rw [Q5v]
 rfl
theorem W2j {w:List Q2}{t:Q3}(hw:WT w t)(p:Q5):∃ ts,Q61 w t p=some (ts,Q92 w t p)∧(Q92 w t p=true→ts=J6 w t p):=by
 obtain ⟨op,ctor,n,m,v,kids⟩:=p
 unfold Q61 Q92 Z3i J6
 simp only [hw.c2,U0,Q7g,W74,W30]
 by_cases h1:op=1
 ·subst h1;exact ⟨[],by simp [ieq];rw [Bool.eq_iff_iff];simp;grind,by simp⟩
 by_cases h2:op=2
 ·subst h2;exact ⟨[],by simp [ieq];split<;>simp<;>grind,by simp⟩
 by_cases h3:op=3
 ·subst h3;exact ⟨[],by simp [ieq,ile];(repeat' split)<;>simp<;>grind,by simp⟩
 by_cases h4:op=4
 ·subst h4
  by_cases hc:ctor∈Y0 w t
  ·refine ⟨Q0z w t ctor,?_,by simp⟩
   simp [ieq,hc,hw.a2 ctor hc,lenZ]
   grind
  ·exact ⟨[],by simp [ieq,hc],by simp [hc]⟩
 by_cases h5:op=5
 ·subst h5;exact ⟨[t,t],by simp [ieq];grind,by simp⟩
 by_cases h6:op=6
 ·subst h6;exact ⟨[t],by simp [ieq];split<;>simp<;>grind,by simp⟩
 exact ⟨[],by simp [ieq,h1,h2,h3,h4,h5,h6],by simp [h1,h2,h3,h4,h5,h6]⟩
theorem X2f (op:Int):Q55 op=some (if op=5 then 2 else if op=6 then 1 else if op=4 then -1 else 0):=by
 unfold Q55
 by_cases h1:op=5<;>by_cases h2:op=6<;>by_cases h3:op=4<;>simp [ieq,h1,h2,h3]
theorem Z7v {w:List Q2}{t:Q3}(hw:WT w t)(p:Q5)(h:p.op=4→p.ctor∈Y0 w t){n:Nat}(hn:4≤n):Q2j n w t p=some (J6 w t p):=by
 obtain ⟨m,rfl⟩:∃ m,n=m+4:=⟨n-4,by omega⟩
 unfold Q2j J6
 by_cases h4:p.op=4
 ·simp [ieq,h4,hw.a1 p.ctor (h h4)]
 ·have w1:wadd .i64 0 1=1:=rfl
  have w2:wadd .i64 1 1=2:=rfl
  by_cases h5:p.op=5
  ·simp [ieq,h5,whileL,X2f,ilt,app,w1,w2,Z0]
  ·by_cases h6:p.op=6
   ·simp [ieq,h6,whileL,X2f,ilt,app,w1,w2,Z0]
   ·simp [ieq,h4,h5,h6,whileL,X2f,ilt]
def Q2r (w:List Q2):Nat→Q3→Q5→Bool
 | 0,_,_=>false
 | d+1,t,p=>Q92 w t p&&((J6 w t p).zip p.kids).all fun x=>Q2r w d x.1 x.2
def ownV (t:Q3)(p:Q5):List Q1:=if p.op=2∨p.op=6 then [⟨p.var,t⟩] else []
def Q1a (w:List Q2):Nat→Q3→Q5→List Q1
 | 0,_,_=>[]
 | d+1,t,p=>ownV t p++(((J6 w t p).zip p.kids).take (if p.op=5 then 1 else p.kids.length)).flatMap fun x=>Q1a w d x.1 x.2
def J0 (l:List Q1):Bool:=decide (l.map (·.var)).Nodup
def Q7p (a b:List Q1):Bool:=decide (a.length=b.length)&&a.all fun v=>decide (v∈b)
def kv (w:List Q2)(d:Nat)(t:Q3)(p:Q5)(i:Nat):List Q1:=((J6 w t p).zip p.kids)[i]?.elim [] fun x=>Q1a w d x.1 x.2
def linD (w:List Q2):Nat→Q3→Q5→Bool
 | 0,_,_=>true
 | d+1,t,p=>(((J6 w t p).zip p.kids).all fun x=>linD w d x.1 x.2)&&if p.op=5 then Q7p (kv w d t p 0) (kv w d t p 1) else J0 (Q1a w (d+1) t p)
theorem Q5a {w:List Q2}{d:Nat}{t:Q3}{p:Q5}(h:Q2r w d t p=true):Q92 w t p=true:=by
 cases d with
 | zero=>cases h
 | succ d=>simp only [Q2r,Bool.and_eq_true] at h;exact h.1
theorem Q5t {w:List Q2}{t:Q3}{p:Q5}(h:Q92 w t p=true):Z3i w t p=true∧p.kids.length=(J6 w t p).length:=by
 simp only [Q92,Bool.and_eq_true,decide_eq_true_eq] at h
 exact h
theorem Q8k {w:List Q2}{t:Q3}{p:Q5}(h:Z3i w t p=true):p.op=4→p.ctor∈Y0 w t:=fun h4=>by
 simp [Z3i,h4] at h
 exact h.2
theorem Q62 {w:List Q2}{t:Q3}(hw:WT w t)(ht:t∈tys w){p:Q5}(h:Z3i w t p=true):∀ a∈J6 w t p,a∈tys w:=fun a ha=>by
 unfold J6 at ha
 split at ha
 ·rename_i h4;exact hw.at_ _ (Q8k h h4) a ha
 ·split at ha
  ·simp at ha;rw [ha];exact ht
  ·split at ha
   ·simp at ha;rw [ha];exact ht
   ·simp at ha
theorem Q3m {α β:Type}{l:List α}{m:List β}{k:Nat}{a:α}{b:β}(h1:l[k]?=some a)(h2:m[k]?=some b):(l.zip m)[k]?=some (a,b):=by
 rw [List.getElem?_zip_eq_some];exact ⟨h1,h2⟩
theorem Q0l {w:List Q2}{d:Nat}{t:Q3}{p:Q5}(h:Q2r w (d+1) t p=true){k:Nat}{a:Q3}{q:Q5}(h1:(J6 w t p)[k]?=some a)(h2:p.kids[k]?=some q):Q2r w d a q=true:=by
 simp only [Q2r,Bool.and_eq_true,List.all_eq_true] at h
 exact h.2 (a,q) (U1 (Q3m h1 h2))
theorem Z9j {w:List Q2}(hw:WW w):∀ (d n:Nat) (t:Q3) (p:Q5),t∈tys w→d+4≤n→d≤100→Q1i n w t p (d:Int)=some (Q2r w d t p):=by
 intro d
 induction d with
 | zero=>
  intro n t p ht hn hd
  obtain ⟨m,rfl⟩:∃ m,n=m+1:=⟨n-1,by omega⟩
  simp [Q1i,ilt,Q2r]
 | succ d ih=>
  intro n t p ht hn hd
  obtain ⟨m,rfl⟩:∃ m,n=m+1:=⟨n-1,by omega⟩
  have hT:=hw.ty t ht
  unfold Q1i Q2r
  have h1:¬ilt ((d+1:Nat):Int) 1=true:=by rw [W0];omega
  rw [if_neg h1,V2d hT]
  simp only [U0]
  cases ho:Z3i w t p with
  | false=>simp [Q92,ho]
  | true=>
   simp only [Bool.not_true,U2,if_false]
   rw [Z7v hT p (Q8k ho) (by omega)]
   simp only [U0]
   by_cases hl:p.kids.length=(J6 w t p).length
   ·have h2:¬(!ieq (lenZ p.kids.length) (lenZ (J6 w t p).length))=true:=by simp [ieq,lenZ,hl]
    rw [if_neg h2]
    have hnode:Q92 w t p=true:=by simp [Q92,ho,hl]
    rw [hnode,Bool.true_and]
    have hws:wsub .i64 ((d+1:Nat):Int) 1=(d:Int):=by
     rw [Q3q (by omega) (by omega)];omega
    have key:Ret ((forL (fun k102 x103 (s96:Unit)=>
      ((idx p.kids (k102:Int)).bind fun x111=>
      ((Q1i m w x103 x111 (wsub .i64 ((d+1:Nat):Int) 1)).bind fun r112=>
      (if (!r112)=true then
      some (Ctl.ret (false))
      else
      some (Ctl.go ()))))) 0 (J6 w t p) ())) (CtlQ (fun b=>b=false∧(((J6 w t p).zip p.kids).all fun x=>Q2r w d x.1 x.2)=false) (fun _=>(((J6 w t p).zip p.kids).all fun x=>Q2r w d x.1 x.2)=true)):=by
     refine Z9 (J6 w t p) (fun k _=>∀ j a q,j<k→(J6 w t p)[j]?=some a→p.kids[j]?=some q→Q2r w d a q=true) _ _ (fun j a q hj=>by omega) (fun k a s ha hI=>?_) (fun s hI=>?_)
     ·have hlt:k<p.kids.length:=by have:=(List.getElem?_eq_some_iff.1 ha).1;omega
      have hq:p.kids[k]?=some p.kids[k]:=by simp [hlt]
      rw [Q1m hq]
      simp only [U0]
      rw [hws,ih m a p.kids[k] (Q62 hT ht ho a (U1 ha)) (by omega) (by omega)]
      simp only [U0]
      cases hg:Q2r w d a p.kids[k] with
      | false=>
       refine .some ⟨rfl,?_⟩
       rw [List.all_eq_false]
       exact ⟨(a,p.kids[k]),U1 (Q3m ha hq),by simp [hg]⟩
      | true=>
       refine .some (fun j a' q' hj ha' hq'=>?_)
       by_cases hjk:j=k
       ·subst hjk
        rw [ha] at ha'
        rw [hq] at hq'
        cases ha'
        cases hq'
        exact hg
       ·exact hI j a' q' (by omega) ha' hq'
     ·rw [List.all_eq_true]
      intro x hx
      obtain ⟨j,hj⟩:=List.mem_iff_getElem?.1 hx
      obtain ⟨h3,h4⟩:=List.getElem?_zip_eq_some.1 hj
      exact hI j x.1 x.2 ((List.getElem?_eq_some_iff.1 h3).1) h3 h4
    have:=Ret.ctl (Q:=fun b=>b=(((J6 w t p).zip p.kids).all fun x=>Q2r w d x.1 x.2)) key (g:=fun (o95:Ctl Bool Unit)=>match o95 with
     | .ret r=>some r
     | .go _=>none
     | .brk s106=>some (true)) (fun r hr=>.some (by rw [hr.1,hr.2])) (fun s hs=>.some (by rw [hs]))
    obtain ⟨b,e,rfl⟩:=this
    exact e
   ·have h2:(!ieq (lenZ p.kids.length) (lenZ (J6 w t p).length))=true:=by rw [Bool.not_eq_true',Q9];simp only [lenZ];omega
    rw [if_pos h2]
    simp [Q92,hl]
def cntP:Q5→Nat
 | ⟨_,_,_,_,_,kids⟩=>1+cntPs kids
where cntPs:List Q5→Nat
 | []=>0
 | p::l=>cntP p+cntPs l
theorem Q7h (p:Q5):cntP p=1+cntP.cntPs p.kids:=by cases p;rw [cntP]
theorem Q5r:∀ (l:List Q5) (k:Nat) (q:Q5),l[k]?=some q→cntP.cntPs (l.take (k+1))=cntP.cntPs (l.take k)+cntP q
 | [],k,q,h=>by simp at h
 | p::l,0,q,h=>by simp at h;subst h;simp [cntP.cntPs]
 | p::l,k+1,q,h=>by
  have:=Q5r l k q (by simpa using h)
  simp only [List.take_succ_cons,cntP.cntPs]
  omega
theorem Q2g:∀ (l:List Q5) (k:Nat),cntP.cntPs (l.take k)≤cntP.cntPs l
 | [],k=>by simp
 | p::l,0=>by simp [cntP.cntPs]
 | p::l,k+1=>by
  have:=Q2g l k
  simp only [List.take_succ_cons,cntP.cntPs]
  omega
theorem Z49 (p:Q5):1≤cntP p:=by rw [Q7h];omega
theorem Z9o:∀ (n:Nat) (p:Q5) (most:Nat),most<n→most≤1000→Q2k n p (most:Int)=some ((min (cntP p) (most+1):Nat):Int):=by
 intro n
 induction n with
 | zero=>intro p most h;omega
 | succ n ih=>
  intro p most hn hm
  unfold Q2k
  have key:=Z9 (ρ:=Int) (f:=fun k94 x95 (s88:Int)=>
   (if (ile s88 (most:Int))=true then
   ((Q2k n x95 (wsub .i64 (most:Int) s88)).bind fun r103=>
   some (Ctl.go (wadd .i64 s88 r103)))
   else
   some (Ctl.brk s88))) p.kids (s0:=1) (fun k s=>∃ m:Nat,s=(m:Int)∧m=min (1+cntP.cntPs (p.kids.take k)) (most+1)) (fun _=>False) (fun s=>s=((min (cntP p) (most+1):Nat):Int)) ⟨1,rfl,by simp [cntP.cntPs]⟩ (fun k q s hq hI=>?_) (fun s hI=>?_)
  ·have:=Ret.ctl (Q:=fun b=>b=((min (cntP p) (most+1):Nat):Int)) key (g:=fun (o:Ctl Int Int)=>match o with
    | .ret r=>some r
    | .go _=>none
    | .brk s=>some s) (fun r hr=>hr.elim) (fun s hs=>.some hs)
   obtain ⟨b,e,rfl⟩:=this
   exact e
  ·obtain ⟨m,rfl,hm2⟩:=hI
   refine Ret.ite (fun h=>?_) (fun h=>?_)
   ·rw [W5] at h
    have hle:m≤most:=by omega
    have hws:wsub .i64 (most:Int) (m:Int)=((most-m:Nat):Int):=by rw [Q3q (by omega) (by omega)];omega
    rw [hws,ih q (most-m) (by omega) (by omega)]
    simp only [U0]
    rw [Q0f (by omega) (by omega)]
    refine .some ⟨m+min (cntP q) (most-m+1),by push_cast;rfl,?_⟩
    rw [Q5r p.kids k q hq]
    omega
   ·rw [Q1y] at h
    refine .some ?_
    have h1:=Q2g p.kids k
    have h2:=Q7h p
    show (m:Int)=_
    have:m=min (cntP p) (most+1):=by omega
    rw [this]
  ·obtain ⟨m,rfl,hm2⟩:=hI
   rw [List.take_length] at hm2
   have h2:=Q7h p
   have:m=min (cntP p) (most+1):=by omega
   rw [this]
theorem Q5i {w:List Q2}(hw:WW w):∀ (d n:Nat) (t:Q3) (p:Q5) (out:List Q1),t∈tys w→Q2r w d t p=true→d+4≤n→out.length+cntP p≤100000→J9 n out w t p=some (out++Q1a w d t p)∧(Q1a w d t p).length≤cntP p:=by
 intro d
 induction d with
 | zero=>intro n t p out ht hg;cases hg
 | succ d ih=>
  intro n t p out ht hg hn hout
  obtain ⟨m,rfl⟩:∃ m,n=m+1:=⟨n-1,by omega⟩
  have hT:=hw.ty t ht
  obtain ⟨ho,hl⟩:=Q5t (Q5a hg)
  unfold J9
  have hfirst:(((if (ieq p.op 2)=true then
    ((app out [(Q1.mk p.var t)]).bind fun x20=>some (Ctl.brk x20))
    else
    (if (ieq p.op 6)=true then
    ((app out [(Q1.mk p.var t)]).bind fun x22=>some (Ctl.brk x22))
    else
    some (Ctl.brk out)))):Option (Ctl (List Q1) (List Q1)))=some (Ctl.brk (out++ownV t p)):=by
   have ha:app out [(Q1.mk p.var t)]=some (out++[(Q1.mk p.var t)]):=Q33 (by simp [Z0];omega)
   by_cases h2:p.op=2
   ·simp [ieq,h2,ha,ownV]
   ·by_cases h6:p.op=6
    ·simp [ieq,h6,ha,ownV]
    ·simp [ieq,h2,h6,ownV]
  rw [hfirst]
  simp only [U0]
  rw [Z7v hT p (Q8k ho) (by omega)]
  simp only [U0]
  have hcnt:=Q7h p
  have hown:(ownV t p).length≤1:=by unfold ownV;split<;>simp
  have key:=Z9 (ρ:=List Q1) (f:=fun k179 x180 (s173:List Q1)=>
   (((if (ieq (k179:Int) 0)=true then
   some (Ctl.brk ())
   else
   (if (!ieq p.op 5)=true then
   some (Ctl.brk ())
   else
   some (Ctl.ret (Ctl.brk s173))))).bind fun (o190:Ctl (Ctl (List Q1) (List Q1)) (Unit))=>match o190 with
   | .ret r=>some r
   | .go _=>none
   | .brk s189=>
   ((idx p.kids (k179:Int)).bind fun x201=>
   ((J9 m s173 w x180 x201).bind fun r202=>
   some (Ctl.go r202))))) (J6 w t p) (s0:=out++ownV t p)
   (fun k s=>s=out++(ownV t p++(((J6 w t p).zip p.kids).take k).flatMap fun x=>Q1a w d x.1 x.2)∧k≤(if p.op=5 then 1 else p.kids.length)∧s.length≤out.length+1+cntP.cntPs (p.kids.take k))
   (fun _=>False) (fun s=>s=out++Q1a w (d+1) t p∧s.length≤out.length+cntP p) ⟨by simp,by split<;>omega,by simp;omega⟩ (fun k a s ha hI=>?_) (fun s hI=>?_)
  ·have:=Ret.ctl (Q:=fun b=>b=out++Q1a w (d+1) t p∧b.length≤out.length+cntP p) key (g:=fun (o:Ctl (List Q1) (List Q1))=>match o with
    | .ret r=>some r
    | .go _=>none
    | .brk s=>some s) (fun r hr=>hr.elim) (fun s hs=>.some hs)
   obtain ⟨b,e,rfl,h2⟩:=this
   refine ⟨e,?_⟩
   rw [U5] at h2
   omega
  ·obtain ⟨hs,hk,hlen⟩:=hI
   have hlt:k<p.kids.length:=by have:=(List.getElem?_eq_some_iff.1 ha).1;omega
   have hq:p.kids[k]?=some p.kids[k]:=by simp [hlt]
   have h1:=Q5r p.kids k _ hq
   have h2:=Q2g p.kids (k+1)
   have hpos:=Z49 p.kids[k]
   have go:∀ (hk2:k+1≤(if p.op=5 then 1 else p.kids.length)),Ret ((idx p.kids (k:Int)).bind fun x201=>
     ((J9 m s w a x201).bind fun r202=>
     some (Ctl.go (ρ:=List Q1) r202))) (RndQ (fun _=>False) (fun s=>s=out++Q1a w (d+1) t p∧s.length≤out.length+cntP p) (fun s=>s=out++(ownV t p++(((J6 w t p).zip p.kids).take (k+1)).flatMap fun x=>Q1a w d x.1 x.2)∧k+1≤(if p.op=5 then 1 else p.kids.length)∧s.length≤out.length+1+cntP.cntPs (p.kids.take (k+1)))):=fun hk2=>by
    rw [Q1m hq]
    simp only [U0]
    obtain ⟨e1,e2⟩:=ih m a p.kids[k] s (Q62 hT ht ho a (U1 ha)) (Q0l hg ha hq) (by omega) (by omega)
    rw [e1]
    refine .some ⟨?_,hk2,?_⟩
    ·rw [List.take_add_one,Q3m ha hq,hs]
     simp
    ·rw [U5]
     omega
   by_cases h5:p.op=5
   ·by_cases hk0:k=0
    ·subst hk0
     have h0:ieq ((0:Nat):Int) 0=true:=rfl
     rw [if_pos h0]
     exact go (by rw [if_pos h5];omega)
    ·rw [if_pos h5] at hk
     have hk1:k=1:=by omega
     subst hk1
     have h0:¬ieq ((1:Nat):Int) 0=true:=by decide
     have h50:¬(!ieq p.op 5)=true:=by simp [ieq,h5]
     rw [if_neg h0,if_neg h50]
     refine .some ⟨?_,?_⟩
     ·rw [hs]
      simp only [Q1a,if_pos h5]
     ·have:=Q2g p.kids 1
      omega
   ·have h50:(!ieq p.op 5)=true:=by simp [ieq,h5]
    have:(if (ieq (k:Int) 0)=true then some (Ctl.brk (ρ:=Ctl (List Q1) (List Q1)) ()) else (if (!ieq p.op 5)=true then some (Ctl.brk ()) else some (Ctl.ret (Ctl.brk s))))=some (Ctl.brk ()):=by
     rw [if_pos h50]
     split<;>rfl
    rw [this]
    exact go (by rw [if_neg h5];omega)
  ·obtain ⟨hs,hk,hlen⟩:=hI
   rw [←hl] at hs hk hlen
   by_cases h5:p.op=5
   ·rw [if_pos h5] at hk
    have:(J6 w t p).length=2:=by simp [J6,h5]
    omega
   ·refine ⟨?_,?_⟩
    ·rw [hs]
     simp only [Q1a,if_neg h5]
    ·rw [List.take_length] at hlen
     omega
theorem Z8o (l:List Q1)(v:Int):Ret (Q11 l v) (fun i=>(∃ k x,i=((k:Nat):Int)∧l[k]?=some x∧x.var=v∧∀ j y,j<k→l[j]?=some y→y.var≠v)∨(i = -1∧∀ x∈l,x.var≠v)):=by
 unfold Q11
 refine Ret.ctl (Z9 l (fun k _=>∀ j x,j<k→l[j]?=some x→x.var≠v) (fun i=>∃ k x,i=((k:Nat):Int)∧l[k]?=some x∧x.var=v∧∀ j y,j<k→l[j]?=some y→y.var≠v) (fun _=>∀ x∈l,x.var≠v) (fun j x hj=>by omega) (fun k y s hy hI=>?_) (fun s hI=>?_)) (fun r hr=>?_) (fun s hs=>?_)
 ·refine Ret.ite (fun h=>?_) (fun h=>?_)
  ·rw [Q7] at h
   exact .some ⟨k,y,rfl,hy,h,hI⟩
  ·rw [Q9] at h
   refine .some (fun j x hj hx=>?_)
   by_cases hjk:j=k
   ·subst hjk
    rw [hy] at hx
    cases hx
    exact h
   ·exact hI j x (by omega) hx
 ·intro x hm
  obtain ⟨j,hj⟩:=List.mem_iff_getElem?.1 hm
  exact hI j x ((List.getElem?_eq_some_iff.1 hj).1) hj
 ·exact .some (.inl hr)
 ·exact .some (.inr ⟨rfl,hs⟩)
theorem Q3z {l:List Q1}(h:J0 l=true){i j:Nat}{x y:Q1}(hi:l[i]?=some x)(hj:l[j]?=some y)(he:x.var=y.var):i=j:=by
 unfold J0 at h
 have h:=of_decide_eq_true h
 have hi':(l.map (·.var))[i]?=some x.var:=by simp [hi]
 have hj':(l.map (·.var))[j]?=some x.var:=by simp [hj,he]
 have hil:=(List.getElem?_eq_some_iff.1 hi').1
 exact (List.getElem?_inj hil h).1 (hi'.trans hj'.symm)
theorem Z5w {l:List Q1}(h:∀ (i j:Nat) (x y:Q1),l[i]?=some x→l[j]?=some y→x.var=y.var→i=j):J0 l=true:=by
 unfold J0
 refine decide_eq_true (List.pairwise_iff_getElem.2 fun i j hi hj hij he=>?_)
 simp only [List.length_map] at hi hj
 simp only [List.getElem_map] at he
 have:=h i j l[i] l[j] (by simp [hi]) (by simp [hj]) he
 omega
theorem W4x (a b:List Q1)(hb:J0 b=true):Q3g a b=some (Q7p a b):=by
 have h:Ret (Q3g a b) (fun r=>r=Q7p a b):=by
  unfold Q3g
  refine Ret.ctl (Z9 a (fun k _=>∀ j x,j<k→a[j]?=some x→x∈b) (fun r=>r=false∧∃ x∈a,x∉b) (fun _=>∀ x∈a,x∈b) (fun j x hj=>by omega) (fun k y s hy hI=>?_) (fun s hI=>?_)) (fun r hr=>?_) (fun s hs=>?_)
  ·refine Ret.bind (Z8o b y.var) (fun i hi=>?_)
   rcases hi with ⟨q,x,rfl,hx,hv,_⟩ | ⟨rfl,hno⟩
   ·have h1:¬ilt ((q:Nat):Int) 0=true:=by rw [W0];omega
    rw [if_neg h1,Q1m hx]
    simp only [U0]
    by_cases ht:x.typ=y.typ
    ·have hxy:x=y:=by cases x;cases y;simp_all
     have h2:¬(!Q4s [ieq x.typ.data y.typ.data,ieq x.typ.index y.typ.index])=true:=by rw [ht];simp [Q4s,ieq]
     rw [if_neg h2]
     refine .some (fun j z hj hz=>?_)
     by_cases hjk:j=k
     ·subst hjk
      rw [hy] at hz
      cases hz
      rw [←hxy]
      exact U1 hx
     ·exact hI j z (by omega) hz
    ·have h2:(!Q4s [ieq x.typ.data y.typ.data,ieq x.typ.index y.typ.index])=true:=by
      have:¬(x.typ.data=y.typ.data∧x.typ.index=y.typ.index):=fun e=>ht (by cases hx:x.typ;cases hy:y.typ;rw [hx,hy] at e;simp_all)
      simp only [Q4s,ieq,List.all_cons,List.all_nil,id,Bool.and_true,Bool.not_eq_true',Bool.and_eq_false_iff,decide_eq_false_iff_not]
      exact Decidable.not_and_iff_or_not.1 this
     rw [if_pos h2]
     refine .some ⟨rfl,y,U1 hy,fun hm=>?_⟩
     obtain ⟨j,hj⟩:=List.mem_iff_getElem?.1 hm
     have:=Q3z hb hx hj hv
     subst this
     rw [hx] at hj
     cases hj
     exact ht rfl
   ·have h1:ilt (-1) 0=true:=rfl
    rw [if_pos h1]
    exact .some ⟨rfl,y,U1 hy,fun hm=>hno y hm rfl⟩
  ·intro x hm
   obtain ⟨j,hj⟩:=List.mem_iff_getElem?.1 hm
   exact hI j x ((List.getElem?_eq_some_iff.1 hj).1) hj
  ·obtain ⟨rfl,x,hx,hxb⟩:=hr
   refine .some ?_
   symm
   unfold Q7p
   rw [Bool.and_eq_false_iff]
   right
   rw [List.all_eq_false]
   exact ⟨x,hx,by simpa using hxb⟩
  ·refine .some ?_
   unfold Q7p
   have:a.all (fun v=>decide (v∈b))=true:=by rw [List.all_eq_true];intro x hx;simpa using hs x hx
   rw [this,Bool.and_true]
   simp only [ieq,lenZ]
   exact decide_eq_decide.2 (by omega)
 obtain ⟨r,e,rfl⟩:=h
 exact e
theorem Q19 {w:List Q2} : ∀ (d:Nat) (t:Q3) (p:Q5),Q2r w d t p=true→linD w d t p=true→J0 (Q1a w d t p)=true:=by
 intro d
 induction d with
 | zero=>intro t p hg;cases hg
 | succ d ih=>
  intro t p hg hl
  simp only [linD,Bool.and_eq_true,List.all_eq_true] at hl
  by_cases h5:p.op=5
  ·obtain ⟨ho,hlen⟩:=Q5t (Q5a hg)
   have hk:J6 w t p=[t,t]:=by simp [J6,h5]
   rw [hk] at hlen
   simp only [Q1a,if_pos h5,hk]
   have hown:ownV t p=[]:=by simp [ownV,h5]
   match hkids:p.kids,hlen with
   | [a,b],_=>
    rw [hkids,hk] at hl
    have h1:=hl.1 (t,a) (by simp)
    have h2:=ih t a (Q0l hg (k:=0) (by rw [hk];rfl) (by rw [hkids];rfl)) h1
    simpa [hown] using h2
  ·have:=hl.2
   rw [if_neg h5] at this
   exact this
theorem kid0 {w:List Q2}{t:Q3}{p:Q5}(h5:p.op=5)(hl:p.kids.length=(J6 w t p).length):∃ a b,p.kids=[a,b]∧J6 w t p=[t,t]:=by
 have hk:J6 w t p=[t,t]:=by simp [J6,h5]
 rw [hk] at hl
 match hkids:p.kids,hl with
 | [a,b],_=>exact ⟨a,b,rfl,hk⟩
theorem Z0u {p:Q5}{k:Nat}{q:Q5}(h:p.kids[k]?=some q):cntP q<cntP p:=by
 have h1:=Q5r p.kids k q h
 have h2:=Q2g p.kids (k+1)
 have h3:=Q7h p
 omega
theorem X5h {w:List Q2}(hw:WW w):∀ (d n:Nat) (t:Q3) (p:Q5),t∈tys w→Q2r w d t p=true→d+5≤n→cntP p≤1000→Q1s n w t p=some (linD w d t p):=by
 intro d
 induction d with
 | zero=>intro n t p ht hg;cases hg
 | succ d ih=>
  intro n t p ht hg hn hc
  obtain ⟨m,rfl⟩:∃ m,n=m+1:=⟨n-1,by omega⟩
  have hT:=hw.ty t ht
  obtain ⟨ho,hl⟩:=Q5t (Q5a hg)
  unfold Q1s
  rw [Z7v hT p (Q8k ho) (by omega)]
  simp only [U0]
  have h:Ret ((forL (fun k79 x80 (s73:Unit)=>
    ((idx p.kids (k79:Int)).bind fun x88=>
    ((Q1s m w x80 x88).bind fun r89=>
    (if (!r89)=true then
    some (Ctl.ret (false))
    else
    some (Ctl.go ()))))) 0 (J6 w t p) ())) (CtlQ (fun b=>b=false∧(((J6 w t p).zip p.kids).all fun x=>linD w d x.1 x.2)=false) (fun _=>(((J6 w t p).zip p.kids).all fun x=>linD w d x.1 x.2)=true)):=by
   refine Z9 (J6 w t p) (fun k _=>∀ j a q,j<k→(J6 w t p)[j]?=some a→p.kids[j]?=some q→linD w d a q=true) _ _ (fun j a q hj=>by omega) (fun k a s ha hI=>?_) (fun s hI=>?_)
   ·have hlt:k<p.kids.length:=by have:=(List.getElem?_eq_some_iff.1 ha).1;omega
    have hq:p.kids[k]?=some p.kids[k]:=by simp [hlt]
    rw [Q1m hq]
    simp only [U0]
    rw [ih m a p.kids[k] (Q62 hT ht ho a (U1 ha)) (Q0l hg ha hq) (by omega) (by have:=Z0u hq;omega)]
    simp only [U0]
    cases hgl:linD w d a p.kids[k] with
    | false=>
     refine .some ⟨rfl,?_⟩
     rw [List.all_eq_false]
     exact ⟨(a,p.kids[k]),U1 (Q3m ha hq),by simp [hgl]⟩
    | true=>
     refine .some (fun j a' q' hj ha' hq'=>?_)
     by_cases hjk:j=k
     ·subst hjk
      rw [ha] at ha'
      rw [hq] at hq'
      cases ha'
      cases hq'
      exact hgl
     ·exact hI j a' q' (by omega) ha' hq'
   ·rw [List.all_eq_true]
    intro x hx
    obtain ⟨j,hj⟩:=List.mem_iff_getElem?.1 hx
    obtain ⟨h3,h4⟩:=List.getElem?_zip_eq_some.1 hj
    exact hI j x.1 x.2 ((List.getElem?_eq_some_iff.1 h3).1) h3 h4
  obtain ⟨o,e,ho2⟩:=h
  rw [e]
  simp only [U0]
  cases o with
  | go s=>exact ho2.elim
  | ret r=>
   obtain ⟨rfl,hr⟩:=ho2
   simp only [linD,hr,Bool.false_and]
  | brk s=>
   have hall:(((J6 w t p).zip p.kids).all fun x=>linD w d x.1 x.2)=true:=ho2
   simp only [linD,hall,Bool.true_and]
   by_cases h5:p.op=5
   ·have h50:ieq p.op 5=true:=by rw [Q7];exact h5
    rw [if_pos h50,if_pos h5]
    obtain ⟨a,b,hkids,hk⟩:=kid0 h5 hl
    have ga:=Q0l hg (k:=0) (by rw [hk];rfl) (by rw [hkids];rfl)
    have gb:=Q0l hg (k:=1) (by rw [hk];rfl) (by rw [hkids];rfl)
    have ca:=Z0u (p:=p) (k:=0) (by rw [hkids];rfl)
    have cb:=Z0u (p:=p) (k:=1) (by rw [hkids];rfl)
    have k0:kv w d t p 0=Q1a w d t a:=by simp [kv,hkids,hk]
    have k1:kv w d t p 1=Q1a w d t b:=by simp [kv,hkids,hk]
    rw [k0,k1]
    rw [hkids,hk] at hall
    rw [hkids]
    have i0:idx [a,b] 0=some a:=rfl
    have i1:idx [a,b] 1=some b:=rfl
    rw [i0,i1]
    simp only [U0]
    rw [(Q5i hw d m t a [] ht ga (by omega) (by simp;omega)).1,(Q5i hw d m t b [] ht gb (by omega) (by simp;omega)).1]
    simp only [U0,List.nil_append]
    simp at hall
    rw [W4x _ _ (Q19 d t b gb hall.2)]
    rfl
   ·have h50:¬ieq p.op 5=true:=by rw [Q7];exact h5
    rw [if_neg h50,if_neg h5]
    rw [(Q5i hw (d+1) m t p [] ht hg (by omega) (by simp;omega)).1]
    simp only [U0,List.nil_append]
    generalize Q1a w (d+1) t p=l
    have h:Ret ((forL (fun k178 x179 (s172:Unit)=>
      ((Q11 l x179.var).bind fun r186=>
      (if (!ieq r186 (k178:Int))=true then
      some (Ctl.ret (false))
      else
      some (Ctl.go ())))) 0 l ())) (CtlQ (fun b=>b=false∧J0 l=false) (fun _=>J0 l=true)):=by
     refine Z9 l (fun k _=>∀ i j x y,i<k→l[i]?=some x→l[j]?=some y→x.var=y.var→i≤j) _ _ (fun i j x y hi=>by omega) (fun k a s ha hI=>?_) (fun s hI=>?_)
     ·refine Ret.bind (Z8o l a.var) (fun i hi=>?_)
      rcases hi with ⟨q,x,rfl,hx,hv,hfirst⟩ | ⟨rfl,hno⟩
      ·by_cases hqk:q=k
       ·subst hqk
        have h1:¬(!ieq ((q:Nat):Int) (q:Int))=true:=by simp [ieq]
        rw [if_neg h1]
        refine .some (fun i j x' y' hi hx' hy' hv'=>?_)
        by_cases hiq:i=q
        ·subst hiq
         rw [ha] at hx'
         cases hx'
         rcases Nat.lt_or_ge j i with hji | hji
         ·exact absurd hv'.symm (hfirst j y' hji hy')
         ·exact hji
        ·exact hI i j x' y' (by omega) hx' hy' hv'
       ·have h1:(!ieq ((q:Nat):Int) (k:Int))=true:=by simp [ieq];omega
        rw [if_pos h1]
        refine .some ⟨rfl,?_⟩
        cases hd:J0 l with
        | false=>rfl
        | true=>exact absurd (Q3z hd hx ha hv) hqk
      ·exact absurd rfl (hno a (U1 ha))
     ·refine Z5w fun i j x y hx hy hv=>?_
      have:=hI i j x y ((List.getElem?_eq_some_iff.1 hx).1) hx hy hv
      have:=hI j i y x ((List.getElem?_eq_some_iff.1 hy).1) hy hx hv.symm
      omega
    obtain ⟨o,e,ho3⟩:=h
    rw [e]
    simp only [U0]
    cases o with
    | go s=>exact ho3.elim
    | ret r=>
     obtain ⟨rfl,hr⟩:=ho3
     rw [hr]
    | brk s=>
     have:J0 l=true:=ho3
     rw [this]
def Q5w (w:List Q2)(t:Q3)(p:Q5):Bool:=Q2r w 10 t p&&(decide (cntP p≤60)&&linD w 10 t p)
theorem X88 {w:List Q2}(hw:WW w){n:Nat}(hn:100≤n)(t:Q3)(p:Q5)(ht:t∈tys w):Q73 n w t p=some (Q5w w t p):=by
 unfold Q73 Q5w
 have h1:=Z9j hw 10 n t p ht (by omega) (by omega)
 have e10:((10:Nat):Int)=10:=rfl
 rw [e10] at h1
 rw [h1]
 simp only [U0]
 cases hg:Q2r w 10 t p with
 | false=>simp
 | true=>
  have h2:=Z9o n p 60 (by omega) (by omega)
  have e60:((60:Nat):Int)=60:=rfl
  rw [e60] at h2
  rw [h2]
  simp only [U0,if_true,Bool.true_and]
  by_cases hc:cntP p≤60
  ·have:ile ((min (cntP p) (60+1):Nat):Int) 60=true:=by rw [W5];omega
   rw [if_pos this,X5h hw 10 n t p ht hg (by omega) (by omega)]
   simp [hc]
  ·have:¬ile ((min (cntP p) (60+1):Nat):Int) 60=true:=by rw [W5];omega
   rw [if_neg this]
   simp [hc]
theorem Z23 {w:List Q2} : ∀ (d:Nat) (t:Q3) (p:Q5),Q2r w d t p=true→∀ v∈Q1a w d t p,0≤v.var∧v.var≤5:=by
 intro d
 induction d with
 | zero=>intro t p hg;cases hg
 | succ d ih=>
  intro t p hg v hv
  simp only [Q1a,List.mem_append,List.mem_flatMap] at hv
  rcases hv with hv | ⟨x,hx,hv⟩
  ·obtain ⟨ho,_⟩:=Q5t (Q5a hg)
   unfold ownV at hv
   split at hv
   ·rename_i h
    simp at hv
    subst hv
    simp [Z3i,h] at ho
    exact ho.1.1.1
   ·simp at hv
  ·have hx:=List.mem_of_mem_take hx
   obtain ⟨j,hj⟩:=List.mem_iff_getElem?.1 hx
   obtain ⟨h3,h4⟩:=List.getElem?_zip_eq_some.1 hj
   exact ih x.1 x.2 (Q0l hg h3 h4) v hv
theorem V2h (l:List Q1)(hr:∀ v∈l,0≤v.var∧v.var≤5){R:List Q1×Bool×Int} :
  Ret (forL (fun k423 (x424:Q1) (s417:(List Bool))=>
   ((aget 6 s417 x424.var).bind fun x435=>
   (if x435=true then
   some (Ctl.ret R)
   else
   ((aset 6 s417 x424.var true).bind fun x437=>
   some (Ctl.go x437))))) 0 l [false,false,false,false,false,false]) (CtlQ (fun r=>r=R∧J0 l=false) (fun _=>J0 l=true)):=by
 refine Z9 l (fun k s=>s.length=6∧(∀ i:Nat,i<6→(s[i]?=some true↔∃ (j:Nat) (x:Q1),j<k∧l[j]?=some x∧x.var=(i:Int)))∧∀ (i j:Nat) (x y:Q1),i<k→j<k→l[i]?=some x→l[j]?=some y→x.var=y.var→i=j) _ _ ⟨rfl,fun i hi=>?_,fun i j x y hi=>by omega⟩ (fun k a s ha hI=>?_) (fun s hI=>?_)
 ·constructor
  ·intro h
   match i,hi with
   | 0,_=>simp at h
   | 1,_=>simp at h
   | 2,_=>simp at h
   | 3,_=>simp at h
   | 4,_=>simp at h
   | 5,_=>simp at h
  ·rintro ⟨j,x,hj,_⟩;omega
 ·obtain ⟨hlen,hmet,hdis⟩:=hI
  obtain ⟨r1,r2⟩:=hr a (U1 ha)
  obtain ⟨v,hv⟩:∃ v:Nat,a.var=(v:Int):=⟨a.var.toNat,by omega⟩
  have hv6:v<6:=by omega
  have hsv:s[v]?=some s[v]:=by simp [hlen,hv6]
  have hget:aget 6 s a.var=some s[v]:=by simp only [aget,hlen,if_true,hv];exact Q1m hsv
  rw [hget]
  simp only [U0]
  cases hb:s[v] with
  | true=>
   rw [hb] at hsv
   obtain ⟨j,x,hj,hx,hxv⟩:=(hmet v hv6).1 hsv
   refine .some ⟨rfl,?_⟩
   cases hd:J0 l with
   | false=>rfl
   | true=>
    have:=Q3z hd hx ha (by rw [hxv,hv])
    omega
  | false=>
   have hset:aset 6 s a.var true=some (s.set v true):=by
    simp only [aset,hlen,if_true,hv,setI]
    rw [if_pos ⟨by omega,by simpa using by omega⟩]
    simp
   simp only [U2,if_false]
   rw [hset]
   refine .some ⟨by simp [hlen],fun i hi=>?_,fun i j x y hi hj hx hy he=>?_⟩
   ·by_cases hiv:i=v
    ·subst hiv
     rw [List.getElem?_set_self (by omega)]
     exact ⟨fun _=>⟨k,a,by omega,ha,hv⟩,fun _=>rfl⟩
    ·rw [List.getElem?_set_ne (by omega)]
     rw [hmet i hi]
     constructor
     ·rintro ⟨j,x,h1,h2,h3⟩;exact ⟨j,x,by omega,h2,h3⟩
     ·rintro ⟨j,x,h1,h2,h3⟩
      refine ⟨j,x,?_,h2,h3⟩
      rcases Nat.lt_or_ge j k with h | h
      ·exact h
      ·have:j=k:=by omega
       subst this
       rw [ha] at h2
       cases h2
       rw [hv] at h3
       omega
   ·have nomet:∀ (j:Nat) (x:Q1),j<k→l[j]?=some x→x.var=a.var→False:=fun j x h1 h2 h3=>by
     have:=(hmet v hv6).2 ⟨j,x,h1,h2,by rw [h3,hv]⟩
     rw [hsv,hb] at this
     cases this
    by_cases hik:i=k
    ·by_cases hjk:j=k
     ·omega
     ·subst hik
      rw [ha] at hx
      cases hx
      exact (nomet j y (by omega) hy he.symm).elim
    ·by_cases hjk:j=k
     ·subst hjk
      rw [ha] at hy
      cases hy
      exact (nomet i x (by omega) hx he).elim
     ·exact hdis i j x y (by omega) (by omega) hx hy he
 ·obtain ⟨_,_,hdis⟩:=hI
  exact Z5w fun i j x y hx hy he=>hdis i j x y ((List.getElem?_eq_some_iff.1 hx).1) ((List.getElem?_eq_some_iff.1 hy).1) hx hy he
theorem Z73 {α β:Type}(l:List α)(g:α→List β):(l.take 1).flatMap g=l[0]?.elim [] g:=by
 cases l with
 | nil=>rfl
 | cons a l=>simp
def okD (w:List Q2)(d:Nat)(t:Q3)(p:Q5)(c:Nat):Bool:=Q2r w d t p&&(decide (c+cntP p≤60)&&linD w d t p)
theorem W6u {w:List Q2}(hw:WW w):∀ (d n:Nat) (t:Q3) (p:Q5) (c:Nat),t∈tys w→c≤60→d+5≤n→d≤10→
  Ret (Q0j n w t p (11-(d:Int)) (c:Int)) (fun r=>r.2.1=okD w d t p c∧(okD w d t p c=true→r.1=Q1a w d t p∧r.2.2=((c+cntP p:Nat):Int))):=by
 intro d
 induction d with
 | zero=>
  intro n t p c ht hc hn hd
  obtain ⟨m,rfl⟩:∃ m,n=m+1:=⟨n-1,by omega⟩
  unfold Q0j
  refine Ret.ite (fun h=>?_) (fun h=>?_)
  ·exact .some ⟨by simp [okD,Q2r],by simp [okD,Q2r]⟩
  ·have:ilt 10 (11-((0:Nat):Int))=true:=rfl
   rw [if_pos this]
   exact .some ⟨by simp [okD,Q2r],by simp [okD,Q2r]⟩
 | succ d ih=>
  intro n t p c ht hc hn hd
  obtain ⟨m,rfl⟩:∃ m,n=m+1:=⟨n-1,by omega⟩
  have hT:=hw.ty t ht
  have hcp:=Q7h p
  unfold Q0j
  have hc1:wadd .i64 (c:Int) 1=((c+1:Nat):Int):=by rw [Q0f (by omega) (by omega)];rfl
  rw [hc1]
  refine Ret.ite (fun h=>?_) (fun h=>?_)
  ·rw [W0] at h
   have:¬c+cntP p≤60:=by omega
   exact .some ⟨by simp [okD,this],by simp [okD,this]⟩
  ·rw [Q3x] at h
   have h2:¬ilt 10 (11-((d+1:Nat):Int))=true:=by rw [W0];omega
   rw [if_neg h2]
   obtain ⟨ts,hs,hts⟩:=W2j hT p
   rw [hs]
   simp only [U0]
   cases hnode:Q92 w t p with
   | false=>exact .some ⟨by simp [okD,Q2r,hnode],by simp [okD,Q2r,hnode]⟩
   | true=>
    obtain rfl:=hts hnode
    obtain ⟨ho,hl⟩:=Q5t hnode
    simp only [Bool.not_true,U2,if_false]
    refine Ret.ctl (R:=fun _=>False) (B:=fun s=>s=ownV t p) ?_ (fun r hr=>hr.elim) (fun s hs=>?_)
    ·have ha:app [] [(Q1.mk p.var t)]=some [(Q1.mk p.var t)]:=Q33 (by simp [Z0])
     by_cases h2:p.op=2
     ·exact ⟨_,by simp [ieq,h2,ha];rfl,by simp [ownV,h2]⟩
     ·by_cases h6:p.op=6
      ·exact ⟨_,by simp [ieq,h6,ha];rfl,by simp [ownV,h6]⟩
      ·exact ⟨_,by simp [ieq,h2,h6];rfl,by simp [ownV,h2,h6]⟩
    subst hs
    have hown1:(ownV t p).length≤1:=by unfold ownV;split<;>simp
    have hkn:∀ k,k<p.kids.length→∃ a q,(J6 w t p)[k]?=some a∧p.kids[k]?=some q:=fun k hk=>⟨(J6 w t p)[k]'(by omega),p.kids[k],by simp,by simp⟩
    have allgood:∀ (P:Q3→Q5→Bool),(∀ (j:Nat) (a:Q3) (q:Q5),j<p.kids.length→(J6 w t p)[j]?=some a→p.kids[j]?=some q→P a q=true)→(((J6 w t p).zip p.kids).all fun x=>P x.1 x.2)=true:=fun P hP=>by
     rw [List.all_eq_true]
     intro x hx
     obtain ⟨j,hj⟩:=List.mem_iff_getElem?.1 hx
     obtain ⟨h3,h4⟩:=List.getElem?_zip_eq_some.1 hj
     exact hP j x.1 x.2 ((List.getElem?_eq_some_iff.1 h4).1) h3 h4
    have notall:∀ (P:Q3→Q5→Bool) (k:Nat) (a:Q3) (q:Q5),(J6 w t p)[k]?=some a→p.kids[k]?=some q→P a q=false→(((J6 w t p).zip p.kids).all fun x=>P x.1 x.2)=false:=fun P k a q h1 h2 h3=>by
     rw [List.all_eq_false]
     exact ⟨(a,q),U1 (Q3m h1 h2),by simp [h3]⟩
    refine Ret.ctl (Z9 p.kids
     (fun k s=>s.1=((c+1+cntP.cntPs (p.kids.take k):Nat):Int)∧c+1+cntP.cntPs (p.kids.take k)≤60∧s.2=ownV t p++(((J6 w t p).zip p.kids).take (min k (if p.op=5 then 1 else p.kids.length))).flatMap (fun x=>Q1a w d x.1 x.2)∧
      (∀ (j:Nat) (a:Q3) (q:Q5),j<k→(J6 w t p)[j]?=some a→p.kids[j]?=some q→Q2r w d a q=true∧linD w d a q=true)∧s.2.length≤1+cntP.cntPs (p.kids.take k)∧
      (p.op=5→2≤k→Q7p (kv w d t p 0) (kv w d t p 1)=true))
     (fun r=>r.2.1=false∧okD w (d+1) t p c=false)
     (fun s=>s.1=((c+cntP p:Nat):Int)∧c+cntP p≤60∧s.2=Q1a w (d+1) t p∧Q2r w (d+1) t p=true∧(((J6 w t p).zip p.kids).all fun x=>linD w d x.1 x.2)=true∧
      (p.op=5→Q7p (kv w d t p 0) (kv w d t p 1)=true))
     ⟨by simp [cntP.cntPs],by simp [cntP.cntPs];omega,by simp,fun j a q hj=>by omega,by simp;omega,fun _ h=>by omega⟩ (fun k q s hq hI=>?_) (fun s hI=>?_)) (fun r hr=>?_) (fun s hs=>?_)
    ·obtain ⟨i1,i2,i3,i4,i5,i6⟩:=hI
     have hlt:=(List.getElem?_eq_some_iff.1 hq).1
     obtain ⟨a,q',ha,hq'⟩:=hkn k hlt
     rw [hq] at hq'
     cases hq'
     have hcd:=Q5r p.kids k q hq
     have hct:=Q2g p.kids (k+1)
     have hpos:=Z49 q
     refine Ret.ctl (R:=fun (r:Ctl (List Q1×Bool×Int) (Int×List Q1))=>∃ x,r=.ret x∧x.2.1=false∧okD w (d+1) t p c=false)
      (B:=fun (s:Int×List Q1)=>s.1=((c+1+cntP.cntPs (p.kids.take (k+1)):Nat):Int)∧c+1+cntP.cntPs (p.kids.take (k+1))≤60∧s.2=ownV t p++(((J6 w t p).zip p.kids).take (min (k+1) (if p.op=5 then 1 else p.kids.length))).flatMap (fun x=>Q1a w d x.1 x.2)∧
      (∀ (j:Nat) (a:Q3) (q:Q5),j<k+1→(J6 w t p)[j]?=some a→p.kids[j]?=some q→Q2r w d a q=true∧linD w d a q=true)∧s.2.length≤1+cntP.cntPs (p.kids.take (k+1))∧
      (p.op=5→2≤k+1→Q7p (kv w d t p 0) (kv w d t p 1)=true))
      ?_ (fun r hr=>?_) (fun s hs=>⟨_,rfl,hs⟩)
     ·rw [Q1m ha]
      simp only [U0]
      have hdeep:wadd .i64 (11-((d+1:Nat):Int)) 1=11-(d:Int):=by rw [Q0f (by omega) (by omega)];omega
      rw [hdeep,i1]
      refine Ret.bind (ih m a q _ (Q62 hT ht ho a (U1 ha)) i2 (by omega) (by omega)) (fun r hr=>?_)
      obtain ⟨hr1,hr2⟩:=hr
      rw [hr1]
      cases hok:okD w d a q (c+1+cntP.cntPs (p.kids.take k)) with
      | false=>
       refine .some ⟨_,rfl,rfl,?_⟩
       simp only [okD,Bool.and_eq_false_iff] at hok
       rcases hok with h1 | h1 | h1
       ·simp only [okD,Q2r,notall _ k a q ha hq h1,Bool.and_false,Bool.false_and]
       ·have h1:=of_decide_eq_false h1
        have:¬c+cntP p≤60:=by omega
        simp [okD,this]
       ·simp only [okD,linD,notall _ k a q ha hq h1,Bool.and_false,Bool.false_and]
      | true=>
       obtain ⟨e1,e2⟩:=hr2 hok
       simp only [okD,Bool.and_eq_true,decide_eq_true_eq] at hok
       obtain ⟨g1,g2,g3⟩:=hok
       have hvl:=(Q5i hw d (d+4) a q [] (Q62 hT ht ho a (U1 ha)) g1 (by omega) (by simp;omega)).2
       have hboth:∀ (j:Nat) (a':Q3) (q':Q5),j<k+1→(J6 w t p)[j]?=some a'→p.kids[j]?=some q'→Q2r w d a' q'=true∧linD w d a' q'=true:=fun j a' q' hj h1 h2=>by
        by_cases hjk:j=k
        ·subst hjk
         rw [ha] at h1
         rw [hq] at h2
         cases h1
         cases h2
         exact ⟨g1,g3⟩
        ·exact i4 j a' q' (by omega) h1 h2
       simp only [Bool.not_true,U2,if_false]
       have hcount:r.2.2=((c+1+cntP.cntPs (p.kids.take (k+1)):Nat):Int):=by rw [e2,hcd];congr 1;omega
       have happ:app s.2 r.1=some (s.2++Q1a w d a q):=by rw [e1];exact Q33 (by simp only [Z0];omega)
       have hzip:=Q3m ha hq
       by_cases h5:p.op=5
       ·have h50:ieq p.op 5=true:=by rw [Q7];exact h5
        rw [if_pos h50]
        obtain ⟨x0,x1,hkids,hkt⟩:=kid0 h5 hl
        by_cases hk1:k=1
        ·subst hk1
         have h10:ieq ((1:Nat):Int) 1=true:=rfl
         rw [if_pos h10,X23,e1]
         simp only [U0]
         have hs2:s.2=kv w d t p 0:=by
          rw [i3,if_pos h5,show ownV t p=[] by simp [ownV,h5]]
          simp only [Nat.min_self,List.nil_append]
          exact Z73 _ _
         have hz1:(kv w d t p 1)=Q1a w d a q:=by unfold kv;rw [hzip];rfl
         refine Ret.ite (fun h=>?_) (fun h=>?_)
         ·refine .some ⟨_,rfl,rfl,?_⟩
          have:Q7p (kv w d t p 0) (kv w d t p 1)=false:=by
           rw [hz1,←hs2]
           rw [Bool.not_eq_true'] at h
           exact h
          simp only [okD,linD,if_pos h5,this,Bool.and_false]
         ·refine .some ⟨hcount,by omega,?_,hboth,by simp only;omega,fun _ _=>?_⟩
          ·rw [i3,if_pos h5]
           rfl
          ·rw [hz1,←hs2]
           simpa [Q7p] using h
        ·have hk0:k=0:=by rw [hkids] at hlt;simp at hlt;omega
         subst hk0
         have h10:¬ieq ((0:Nat):Int) 1=true:=by decide
         rw [if_neg h10,happ]
         refine .some ⟨hcount,by omega,?_,hboth,by simp only [U5];omega,fun _ h=>by omega⟩
         simp only
         rw [i3,if_pos h5]
         simp only [Nat.zero_min,List.take_zero,List.flatMap_nil,List.append_nil,Nat.min_self]
         rw [show (0+1)=1 from rfl,Z73,hzip]
         rfl
       ·have h50:¬ieq p.op 5=true:=by rw [Q7];exact h5
        rw [if_neg h50,happ]
        refine .some ⟨hcount,by omega,?_,hboth,by simp only [U5];omega,fun h=>absurd h h5⟩
        simp only
        rw [i3,if_neg h5,Nat.min_eq_left (by omega),Nat.min_eq_left (by omega),List.take_add_one,hzip]
        simp
     ·obtain ⟨x,rfl,h1,h2⟩:=hr
      exact .some ⟨h1,h2⟩
    ·obtain ⟨i1,i2,i3,i4,i5,i6⟩:=hI
     rw [List.take_length] at i1 i2
     refine ⟨by rw [i1];congr 1;omega,by omega,?_,?_,allgood _ fun j a q hj h1 h2=>(i4 j a q hj h1 h2).2,fun h5=>i6 h5 ?_⟩
     ·rw [i3]
      have:min p.kids.length (if p.op=5 then 1 else p.kids.length)=(if p.op=5 then 1 else p.kids.length):=by
       split
       ·rename_i h5
        obtain ⟨x0,x1,hkids,hkt⟩:=kid0 h5 hl
        rw [hkids]
        simp
       ·simp
      rw [this]
      rfl
     ·simp only [Q2r,hnode,Bool.true_and]
      exact allgood _ fun j a q hj h1 h2=>(i4 j a q hj h1 h2).1
     ·obtain ⟨x0,x1,hkids,hkt⟩:=kid0 h5 hl
      rw [hkids]
      simp
    ·exact .some ⟨by rw [hr.1,hr.2],fun h=>by rw [hr.2] at h;cases h⟩
    ·obtain ⟨b1,b2,b3,b4,b5,b6⟩:=hs
     refine Ret.ctl (V2h s.2 (fun v hv=>by rw [b3] at hv;exact Z23 (d+1) t p b4 v hv)) (fun r hr=>?_) (fun s' hs'=>?_)
     ·obtain ⟨rfl,hd0⟩:=hr
      have:okD w (d+1) t p c=false:=by
       by_cases h5:p.op=5
       ·have hlin:linD w (d+1) t p=true:=by simp only [linD,b5,if_pos h5,b6 h5,Bool.and_self]
        have:=Q19 (d+1) t p b4 hlin
        rw [b3,this] at hd0
        cases hd0
       ·rw [b3] at hd0
        simp only [okD,linD,if_neg h5,hd0,Bool.and_false]
      exact .some ⟨by rw [this],fun h=>by rw [this] at h;cases h⟩
     ·have hlin:linD w (d+1) t p=true:=by
       by_cases h5:p.op=5
       ·simp only [linD,b5,if_pos h5,b6 h5,Bool.and_self]
       ·rw [b3] at hs'
        simp only [linD,b5,if_neg h5,hs',Bool.and_self]
      have:okD w (d+1) t p c=true:=by simp [okD,b4,b2,hlin]
      exact .some ⟨by rw [this],fun _=>⟨b3,b1⟩⟩
theorem X8w (w:List Q2)(t:Q3)(p:Q5):okD w 10 t p 0=Q5w w t p:=by simp [okD,Q5w]
theorem X40 {w:List Q2}(hw:WW w):∀ (d:Nat) (t:Q3) (p:Q5),t∈tys w→Q2r w d t p=true→∀ v∈Q1a w d t p,v.typ∈tys w:=by
 intro d
 induction d with
 | zero=>intro t p ht hg;cases hg
 | succ d ih=>
  intro t p ht hg v hv
  obtain ⟨ho,_⟩:=Q5t (Q5a hg)
  simp only [Q1a,List.mem_append,List.mem_flatMap] at hv
  rcases hv with hv | ⟨x,hx,hv⟩
  ·unfold ownV at hv
   split at hv
   ·simp at hv
    subst hv
    exact ht
   ·simp at hv
  ·have hx:=List.mem_of_mem_take hx
   obtain ⟨j,hj⟩:=List.mem_iff_getElem?.1 hx
   obtain ⟨h3,h4⟩:=List.getElem?_zip_eq_some.1 hj
   exact ih x.1 x.2 (Q62 (hw.ty t ht) ht ho x.1 (U1 h3)) (Q0l hg h3 h4) v hv
def Z7j (g:Q2i)(vars:List Q1):Bool:=if g.op=0 then decide (g.var=0)&&decide (g.n=0) else decide (g.op=1∨g.op=2)&&(decide (0≤g.n)&&decide (g.n≤9))&&decide (⟨g.var,tI⟩∈vars)
def Q6b (w:List Q2)(t:Q3)(c:X1):Bool:=Q5w w t c.pat&&Z7j c.guard (Q1a w 10 t c.pat)
def Q6p (w:List Q2)(t:Q3)(l:List X1):Bool:=decide (l.length≤8)&&l.all (Q6b w t)
theorem X0c (g:Q2i)(vars:List Q1):Q4j g vars=some (Z7j g vars):=by
 unfold Q4j Z7j
 simp only [Q5v,Z60,U0]
 by_cases h0:g.op=0
 ·simp [ieq,h0,Q4s]
 ·rw [if_neg (by rw [Q7];exact h0),if_neg h0]
  have e:(decide (1≤g.op)&&decide (g.op≤2))=decide (g.op=1∨g.op=2):=by
   rw [←Bool.decide_and]
   exact decide_eq_decide.2 (by omega)
  rw [e]
  have et:(Q3.mk (-1) 0)=tI:=rfl
  rw [et]
  cases decide (g.op=1∨g.op=2)<;>cases (decide (0≤g.n)&&decide (g.n≤9))<;>rfl
theorem Z9l {w:List Q2}(hw:WW w)(g:Q2i)(vars:List Q1)(hd:J0 vars=true)(ht:∀ v∈vars,v.typ∈tys w):Q3f g vars=some (Z7j g vars):=by
 have h:Ret (Q3f g vars) (fun r=>r=Z7j g vars):=by
  unfold Q3f Z7j
  by_cases h0:g.op=0
  ·rw [if_pos (by rw [Q7];exact h0),if_pos h0]
   by_cases h1:g.var=0<;>simp [ieq,h1,Ret]
  ·rw [if_neg (by rw [Q7];exact h0),if_neg h0]
   refine Ret.ctl (R:=fun r=>r=false∧(decide (g.op=1∨g.op=2)&&(decide (0≤g.n)&&decide (g.n≤9)))=false) (B:=fun _=>(decide (g.op=1∨g.op=2)&&(decide (0≤g.n)&&decide (g.n≤9)))=true) ?_ (fun r hr=>?_) (fun s hs=>?_)
   ·by_cases h1:g.op=1<;>by_cases h2:g.op=2<;>by_cases h3:g.n<0<;>by_cases h4:9<g.n<;>simp [ieq,ilt,h1,h2,h3,h4,Ret]<;>omega
   ·obtain ⟨rfl,hr⟩:=hr
    exact .some (by rw [hr];rfl)
   ·rw [hs,Bool.true_and]
    refine Ret.bind (Z8o vars g.var) (fun i hi=>?_)
    rcases hi with ⟨q,x,rfl,hx,hv,_⟩ | ⟨rfl,hno⟩
    ·have h1:ile 0 ((q:Nat):Int)=true:=by rw [W5];omega
     rw [if_pos h1,Q1m hx]
     refine .some ?_
     have hxm:=U1 hx
     simp only [ieq]
     refine decide_eq_decide.2 ⟨fun hdt=>?_,fun hm=>?_⟩
     ·have:=((hw.ty x.typ (ht x hxm)).ti hdt).1
      have:x=⟨g.var,tI⟩:=by cases x;simp at hv this;simp [hv,this]
      rw [←this]
      exact hxm
     ·obtain ⟨j,hj⟩:=List.mem_iff_getElem?.1 hm
      have:=Q3z hd hx hj hv
      subst this
      rw [hx] at hj
      cases hj
      rfl
    ·have h1:¬ile 0 (-1)=true:=by decide
     rw [if_neg h1]
     refine .some ?_
     symm
     exact decide_eq_false fun hm=>hno _ hm rfl
 obtain ⟨r,e,rfl⟩:=h
 exact e
theorem Z0e {w:List Q2}(hw:WW w){n:Nat}(hn:100≤n)(t:Q3)(p:Q5)(ht:t∈tys w):Ret (Q1b n w t p) (fun r=>r.2=Q5w w t p∧(Q5w w t p=true→r.1=Q1a w 10 t p)):=by
 unfold Q1b
 have h:=W6u hw 10 n t p 0 ht (by omega) (by omega) (by omega)
 have e1:(11:Int)-((10:Nat):Int)=1:=rfl
 rw [e1] at h
 refine Ret.bind h (fun r hr=>.some ?_)
 rw [X8w] at hr
 exact ⟨hr.1,fun hv=>(hr.2 hv).1⟩
theorem Z8c {w:List Q2}(hw:WW w){n:Nat}(hn:100≤n)(t:Q3)(c:X1)(ht:t∈tys w):Q2y n w t c=some (Q6b w t c):=by
 have h:Ret (Q2y n w t c) (fun r=>r=Q6b w t c):=by
  unfold Q2y Q6b
  refine Ret.bind (Z0e hw hn t c.pat ht) (fun r hr=>?_)
  obtain ⟨h1,h2⟩:=hr
  rw [h1]
  cases hv:Q5w w t c.pat with
  | false=>exact .some rfl
  | true=>
   rw [if_pos rfl,X0c,h2 hv]
   exact .some rfl
 obtain ⟨r,e,rfl⟩:=h
 exact e
theorem Q24 {w:List Q2}{t:Q3}{p:Q5}(h:Q5w w t p=true):Q2r w 10 t p=true∧cntP p≤60∧linD w 10 t p=true:=by
 simpa [Q5w] using h
theorem Z7x {w:List Q2}(hw:WW w){n:Nat}(hn:100≤n)(t:Q3)(c:X1)(ht:t∈tys w):Q72 n w t c=some (Q6b w t c):=by
 unfold Q72 Q6b
 rw [X88 hw hn t c.pat ht]
 simp only [U0]
 cases hv:Q5w w t c.pat with
 | false=>rfl
 | true=>
  obtain ⟨g1,g2,g3⟩:=Q24 hv
  rw [if_pos rfl,(Q5i hw 10 n t c.pat [] ht g1 (by omega) (by simp;omega)).1]
  simp only [U0,List.nil_append]
  rw [Z9l hw c.guard _ (Q19 10 t c.pat g1 g3) (X40 hw 10 t c.pat ht g1)]
  rfl
theorem X0b {w:List Q2}(hw:WW w){t:Q3}(ht:t∈tys w):Q27 NN w t=some true:=by
 unfold Q27
 rw [hw.v1]
 simp only [U0,if_true]
 rw [(hw.ty t ht).t1]
 rfl
theorem X85 {w:List Q2}(hw:WW w){t:Q3}(ht:t∈tys w):Q1d NN w t=some true:=by
 unfold Q1d
 rw [hw.v2]
 simp only [U0,if_true]
 rw [(hw.ty t ht).t2]
 rfl
theorem Z6k {w:List Q2}(hw:WW w){t:Q3}(ht:t∈tys w)(l:List X1):Q1x NN w t l=some (Q6p w t l):=by
 unfold Q1x Q6p
 rw [X0b hw ht]
 simp only [U0,if_true]
 by_cases hl:l.length≤8
 ·rw [if_pos (by rw [W5];simp only [lenZ];omega)]
  rw [Z3v l _ (fun c=>!Q6b w t c) (fun c _=>by unfold Q2f;rw [Z8c hw (by decide) t c ht];rfl)]
  simp only [U0,hl,decide_true,Bool.true_and,Option.some.injEq]
  rw [Bool.eq_iff_iff]
  simp
 ·rw [if_neg (by rw [W5];simp only [lenZ];omega)]
  simp [hl]
theorem Z6f {w:List Q2}(hw:WW w){t:Q3}(ht:t∈tys w)(l:List X1):Q09 NN w t l=some (Q6p w t l):=by
 have h:Ret (Q09 NN w t l) (fun r=>r=Q6p w t l):=by
  unfold Q09 Q6p
  rw [X85 hw ht]
  simp only [U0,Bool.not_true,U2,if_false]
  by_cases hl:l.length≤8
  ·rw [if_neg (by rw [W0];simp only [lenZ];omega)]
   simp only [hl,decide_true,Bool.true_and]
   refine Ret.ctl (Z9 l (fun k _=>∀ j c,j<k→l[j]?=some c→Q6b w t c=true) (fun r=>r=false∧l.all (Q6b w t)=false) (fun _=>l.all (Q6b w t)=true) (fun j c hj=>by omega) (fun k c s hc hI=>?_) (fun s hI=>?_)) (fun r hr=>?_) (fun s hs=>?_)
   ·rw [Z7x hw (by decide) t c ht]
    simp only [U0]
    cases hb:Q6b w t c with
    | false=>
     refine .some ⟨rfl,?_⟩
     rw [List.all_eq_false]
     exact ⟨c,U1 hc,by simp [hb]⟩
    | true=>
     refine .some (fun j c' hj hc'=>?_)
     by_cases hjk:j=k
     ·subst hjk
      rw [hc] at hc'
      cases hc'
      exact hb
     ·exact hI j c' (by omega) hc'
   ·rw [List.all_eq_true]
    intro c hc
    obtain ⟨j,hj⟩:=List.mem_iff_getElem?.1 hc
    exact hI j c ((List.getElem?_eq_some_iff.1 hj).1) hj
   ·exact .some (by rw [hr.1,hr.2])
   ·exact .some hs.symm
  ·rw [if_pos (by rw [W0];simp only [lenZ];omega)]
   exact .some (by simp [hl])
 obtain ⟨r,e,rfl⟩:=h
 exact e
def Q5p (w:List Q2):Nat→Q3→Q0→Prop
 | 0,_,_=>False
 | d+1,t,v=>if t.data = -1 then v.ctor = -1∧0≤v.n∧v.n≤9∧v.kids=[] else v.n=0∧v.ctor∈Y0 w t∧v.kids.length=(Q0z w t v.ctor).length∧∀ (j:Nat) (a:Q3) (x:Q0),(Q0z w t v.ctor)[j]?=some a→v.kids[j]?=some x→Q5p w d a x
def Q2a (f:Q5→Q0→Option (List Z3)):List Q5→List Q0→Option (List Z3)
 | [],_=>some []
 | _::_,[]=>none
 | p::ps,v::vs=>match f p v with
  | none=>none
  | some l=>match Q2a f ps vs with
   | none=>none
   | some m=>some (l++m)
def W4:Nat→Q5→Q0→Option (List Z3)
 | 0,_,_=>none
 | d+1,p,v=>
  if p.op=1 then some []
  else if p.op=2 then some [⟨p.var,v⟩]
  else if p.op=3 then (if p.n≤v.n∧v.n≤p.m then some [] else none)
  else if p.op=5 then (match p.kids with
   | [a,b]=>(match W4 d a v with | some l=>some l | none=>W4 d b v)
   | _=>none)
  else if p.op=6 then (match p.kids with
   | [a]=>(W4 d a v).map (fun l=>⟨p.var,v⟩::l)
   | _=>none)
  else if p.ctor=v.ctor then Q2a (W4 d) p.kids v.kids else none
theorem Z8a {w:List Q2}{t:Q3}{p:Q5}(h6:p.op=6)(hl:p.kids.length=(J6 w t p).length):∃ a,p.kids=[a]∧J6 w t p=[t]:=by
 have hk:J6 w t p=[t]:=by simp [J6,h6]
 rw [hk] at hl
 match hkids:p.kids,hl with
 | [a],_=>exact ⟨a,rfl,hk⟩
theorem W2x {w:List Q2}(hw:WW w):∀ (d n:Nat) (t:Q3) (p:Q5) (v:Q0) (e:Nat),t∈tys w→Q2r w d t p=true→Q5p w e t v→d+2≤n→cntP p≤1000→
  Ret (Q2e n p v) (fun r=>r.1.length≤cntP p∧r.2=(W4 d p v).isSome∧∀ l,W4 d p v=some l→r.1=l):=by
 intro d
 induction d with
 | zero=>intro n t p v e ht h;cases h
 | succ d ih=>
  intro n t p v e ht hg hv hn hc
  obtain ⟨n,rfl⟩:∃ k,n=k+1:=⟨n-1,by omega⟩
  obtain ⟨ho,hl⟩:=Q5t (Q5a hg)
  have hT:=hw.ty t ht
  have hpos:=Z49 p
  unfold Q2e
  refine Ret.ite (fun h=>?_) (fun h1=>?_)
  ·rw [Q7] at h
   exact .some ⟨by simp,by simp [W4,h],fun l hl=>by simp [W4,h] at hl;exact hl.symm⟩
  rw [Q9] at h1
  refine Ret.ite (fun h=>?_) (fun h2=>?_)
  ·rw [Q7] at h
   exact .some ⟨by simp;omega,by simp [W4,h],fun l hl=>by simp [W4,h] at hl;exact hl⟩
  rw [Q9] at h2
  refine Ret.ite (fun h=>?_) (fun h3=>?_)
  ·rw [Q7] at h
   rw [Q5v]
   refine .some ⟨by simp,?_,fun l hl=>?_⟩
   ·by_cases hr:p.n≤v.n∧v.n≤p.m
    ·simp [W4,h,hr]
    ·simp only [W4,h]
     simp [hr]
     simpa using hr
   ·simp only [W4,h] at hl
    simp at hl
    exact hl.2.symm
  rw [Q9] at h3
  refine Ret.ite (fun h=>?_) (fun h5=>?_)
  ·rw [Q7] at h
   obtain ⟨a,b,hkids,hk⟩:=kid0 h hl
   have ca:=Z0u (p:=p) (k:=0) (by rw [hkids];rfl)
   have cb:=Z0u (p:=p) (k:=1) (by rw [hkids];rfl)
   have ga:=Q0l hg (k:=0) (by rw [hk];rfl) (by rw [hkids];rfl)
   have gb:=Q0l hg (k:=1) (by rw [hk];rfl) (by rw [hkids];rfl)
   have i0:idx [a,b] 0=some a:=rfl
   have i1:idx [a,b] 1=some b:=rfl
   rw [hkids,i0,i1]
   simp only [U0]
   have hm:W4 (d+1) p v=(match W4 d a v with | some l=>some l | none=>W4 d b v):=by
    simp [W4,h,hkids]<;>rfl
   rw [hm]
   refine Ret.bind (ih n t a v e ht ga hv (by omega) (by omega)) (fun r hr=>?_)
   obtain ⟨r0,r1,r2⟩:=hr
   rw [r1]
   cases hma:W4 d a v with
   | some l=>exact .some ⟨by simp only;omega,rfl,fun l' hl'=>by cases hl';exact r2 l hma⟩
   | none=>
    simp only [Option.isSome_none,U2,if_false]
    refine Ret.bind (ih n t b v e ht gb hv (by omega) (by omega)) (fun s hs=>?_)
    obtain ⟨s0,s1,s2⟩:=hs
    exact .some ⟨by simp only;omega,s1,fun l' hl'=>s2 l' hl'⟩
  rw [Q9] at h5
  refine Ret.ite (fun h=>?_) (fun h6=>?_)
  ·rw [Q7] at h
   obtain ⟨a,hkids,hk⟩:=Z8a h hl
   have ca:=Z0u (p:=p) (k:=0) (by rw [hkids];rfl)
   have ga:=Q0l hg (k:=0) (by rw [hk];rfl) (by rw [hkids];rfl)
   have i0:idx [a] 0=some a:=rfl
   rw [hkids,i0]
   simp only [U0]
   have hm:W4 (d+1) p v=(W4 d a v).map (fun l=>⟨p.var,v⟩::l):=by
    simp [W4,h,hkids]
   rw [hm]
   refine Ret.bind (ih n t a v e ht ga hv (by omega) (by omega)) (fun r hr=>?_)
   obtain ⟨r0,r1,r2⟩:=hr
   rw [Q33 (by simp [Z0];omega)]
   refine .some ⟨by simp;omega,by rw [r1];simp,fun l' hl'=>?_⟩
   simp only [U10] at hl'
   obtain ⟨l,e1,rfl⟩:=hl'
   rw [r2 l e1]
   rfl
  rw [Q9] at h6
  have h4:p.op=4:=by
   simp [Z3i,h1,h2,h3,h5,h6] at ho
   exact ho.2.1
  have hcm:=Q8k ho h4
  have hm:W4 (d+1) p v=if p.ctor=v.ctor then Q2a (W4 d) p.kids v.kids else none:=by
   simp [W4,h4]
  rw [hm]
  refine Ret.ite (fun h=>?_) (fun h=>?_)
  ·rw [Bool.not_eq_true',Q9] at h
   rw [if_neg h]
   exact .some ⟨by simp,rfl,fun l hl=>by cases hl⟩
  ·rw [Bool.not_eq_false',Q7] at h
   rw [if_pos h]
   have hkt:J6 w t p=Q0z w t p.ctor:=by simp [J6,h4]
   obtain ⟨e,rfl⟩:∃ e',e=e'+1:=by cases e with
    | zero=>exact hv.elim
    | succ e=>exact ⟨e,rfl⟩
   have hdata:t.data≠-1:=fun hd=>by
    obtain ⟨rfl,_⟩:=hT.ti hd
    have:Y0 w tI=[]:=rfl
    rw [this] at hcm
    cases hcm
   simp only [Q5p,if_neg hdata] at hv
   obtain ⟨v1,v2,v3,v4⟩:=hv
   rw [←h] at v3 v4
   have hlen:p.kids.length=v.kids.length:=by rw [v3,hl,hkt]
   refine Ret.ctl (Z9 p.kids (fun k s=>Q2a (W4 d) p.kids v.kids=(Q2a (W4 d) (p.kids.drop k) (v.kids.drop k)).map (fun l=>s++l)∧s.length≤cntP.cntPs (p.kids.take k)) (fun r=>r=([],false)∧Q2a (W4 d) p.kids v.kids=none)
    (fun s=>Q2a (W4 d) p.kids v.kids=some s∧s.length≤cntP.cntPs p.kids) ⟨by simp,by simp⟩ (fun k q s hq hI=>?_) (fun s hI=>?_)) (fun r hr=>?_) (fun s hs=>?_)
   ·obtain ⟨i1,i2⟩:=hI
    have hlt:=(List.getElem?_eq_some_iff.1 hq).1
    have hx:v.kids[k]?=some (v.kids[k]'(by omega)):=by simp
    have ha:(J6 w t p)[k]?=some ((J6 w t p)[k]'(by omega)):=by simp
    rw [Q1m hx]
    simp only [U0]
    have cq:=Z0u hq
    have hcd:=Q5r p.kids k q hq
    have hct:=Q2g p.kids (k+1)
    have hcp:=Q7h p
    refine Ret.bind (ih n _ q _ e (Q62 hT ht ho _ (U1 ha)) (Q0l hg ha hq) (v4 k _ _ (by rw [←hkt];exact ha) hx) (by omega) (by omega)) (fun r hr=>?_)
    obtain ⟨r0,r1,r2⟩:=hr
    have hd1:p.kids.drop k=q::p.kids.drop (k+1):=by
     rw [List.drop_eq_getElem_cons hlt]
     rw [U8 hlt] at hq
     cases hq
     rfl
    have hd2:v.kids.drop k=v.kids[k]'(by omega)::v.kids.drop (k+1):=List.drop_eq_getElem_cons (by omega)
    rw [hd1,hd2] at i1
    simp only [Q2a] at i1
    cases hmq:W4 d q (v.kids[k]'(by omega)) with
    | none=>
     rw [hmq] at i1 r1
     rw [r1]
     exact .some ⟨rfl,i1⟩
    | some l=>
     rw [hmq] at i1 r1
     have e1:=r2 l hmq
     rw [r1]
     simp only [Option.isSome_some,Bool.not_true,U2,if_false]
     rw [Q33 (by simp only [Z0];omega),e1]
     refine .some ⟨?_,by rw [U5,←e1];omega⟩
     rw [i1]
     cases Q2a (W4 d) (p.kids.drop (k+1)) (v.kids.drop (k+1)) with
     | none=>rfl
     | some m=>simp
   ·obtain ⟨i1,i2⟩:=hI
    rw [List.take_length] at i2
    refine ⟨?_,i2⟩
    rw [i1,List.drop_length]
    simp [Q2a]
   ·obtain ⟨rfl,hr⟩:=hr
    exact .some ⟨by simp,by rw [hr];rfl,fun l hl=>by rw [hr] at hl;cases hl⟩
   ·have hcp:=Q7h p
    exact .some ⟨by simp only;omega,by rw [hs.1];rfl,fun l hl=>by rw [hs.1] at hl;cases hl;rfl⟩
theorem Q5.ext' {a b:Q5}(h1:a.op=b.op)(h2:a.ctor=b.ctor)(h3:a.n=b.n)(h4:a.m=b.m)(h5:a.var=b.var)(h6:a.kids=b.kids):a=b:=by
 cases a;cases b;simp_all
structure ROk (r:X3) (m:Nat):Prop where
 bytes:∀ x∈r.b,0≤x∧x≤255
 len:r.b.length≤2000
 p0:0≤r.p
 pm:r.p+m≤40000000
structure Nx (r r':X3) (c:Nat):Prop where
 b:r'.b=r.b
 le:r.p≤r'.p
 ge:r'.p≤r.p+c
theorem ROk.le {r:X3}{m m':Nat}(h:ROk r m)(hm:m'≤m):ROk r m':=⟨h.bytes,h.len,h.p0,by have:=h.pm;omega⟩
theorem ROk.nx {r r':X3}{c m:Nat}(h:ROk r (c+m))(hn:Nx r r' c):ROk r' m:=⟨by rw [hn.b];exact h.bytes,by rw [hn.b];exact h.len,by have:=h.p0;have:=hn.le;omega,by have:=h.pm;have:=hn.ge;omega⟩
theorem Nx.refl (r:X3):Nx r r 0:=⟨rfl,by omega,by omega⟩
theorem Nx.trans {a b c:X3}{m n:Nat}(h:Nx a b m)(k:Nx b c n):Nx a c (m+n):=⟨k.b.trans h.b,by have:=h.le;have:=k.le;omega,by have:=h.ge;have:=k.ge;omega⟩
theorem Nx.le' {a b:X3}{m n:Nat}(h:Nx a b m)(hm:m≤n):Nx a b n:=⟨h.b,h.le,by have:=h.ge;omega⟩
theorem X7p {x y:Int}(hx:0≤x)(hx':x<1099511627776)(hy:0≤y)(hy':y<1099511627776):0≤wxor .i64 x y∧wxor .i64 x y<1099511627776:=by
 obtain ⟨a,rfl⟩:=Int.eq_ofNat_of_zero_le hx
 obtain ⟨b,rfl⟩:=Int.eq_ofNat_of_zero_le hy
 have e:(BitVec.ofInt IntKind.i64.bits (a:Int) ^^^ BitVec.ofInt IntKind.i64.bits (b:Int)).toNat=a ^^^ b:=by
  have ha:(BitVec.ofInt IntKind.i64.bits (a:Int)).toNat=a:=by
   rw [BitVec.toNat_ofInt]
   show (((a:Int) % ((2 ^ 64:Nat):Int))).toNat=a
   omega
  have hb:(BitVec.ofInt IntKind.i64.bits (b:Int)).toNat=b:=by
   rw [BitVec.toNat_ofInt]
   show (((b:Int) % ((2 ^ 64:Nat):Int))).toNat=b
   omega
  rw [BitVec.toNat_xor,ha,hb]
 have hlt:a ^^^ b<2 ^ 40:=Nat.xor_lt_two_pow (by omega) (by omega)
 unfold wxor
 rw [e,Z31 (by omega) (by omega)]
 omega
theorem Z84 {r:X3}(h:ROk r 1){k:Int}(h1:1≤k)(h2:k≤1000000):Ret (Z1 r k) (fun a=>0≤a.1∧a.1<k∧Nx r a.2 1):=by
 have hp0:=h.p0
 have hpm:=h.pm
 have hlen:=h.len
 have ep:wadd .i64 r.p 1=r.p+1:=Q0f (by omega) (by omega)
 have eq:wsub .i64 (r.p+1) 1=r.p:=by rw [Q3q (by omega) (by omega)];omega
 have nx:Nx r (X3.mk r.b (r.p+1)) 1:=⟨rfl,by simp only;omega,by simp only;omega⟩
 unfold Z1
 rw [ep,eq]
 refine Ret.ite (fun c=>by rw [W0] at c;omega) (fun _=>?_)
 refine Ret.ite (fun c=>.some ⟨by simp,by simp;omega,nx⟩) (fun c=>?_)
 rw [Q9] at c
 simp only [lenZ] at c
 have hpos:0<r.b.length:=by omega
 have hk0:chk (!ieq k 0)=some ():=Z61 (by simp [ieq];omega)
 have hb0:chk (!ieq (lenZ r.b.length) 0)=some ():=Z61 (by rw [Bool.not_eq_true',Q9];simp only [lenZ];omega)
 have rem:∀ x:Int,0≤x→0≤wrem x k∧wrem x k<k:=fun x hx=>by
  unfold wrem
  rw [Int.tmod_eq_emod_of_nonneg hx]
  exact ⟨Int.emod_nonneg _ (by omega),Int.emod_lt_of_pos _ (by omega)⟩
 refine Ret.ite (fun c2=>?_) (fun c2=>?_)
 ·rw [W0] at c2
  simp only [lenZ] at c2
  obtain ⟨x,hx,hm⟩:=Q1g hp0 c2
  obtain ⟨b1,b2⟩:=h.bytes x hm
  rw [hx,hk0]
  simp only [U0]
  rw [Z70 (by omega) (by omega)]
  exact .some ⟨(rem x b1).1,(rem x b1).2,nx⟩
 ·rw [hb0]
  simp only [U0]
  have remb:∀ x:Int,0≤x→0≤wrem x (lenZ r.b.length)∧wrem x (lenZ r.b.length)<r.b.length:=fun x hx=>by
   unfold wrem lenZ
   rw [Int.tmod_eq_emod_of_nonneg hx]
   exact ⟨Int.emod_nonneg _ (by omega),Int.emod_lt_of_pos _ (by omega)⟩
  have e7:wmul .i64 r.p 7=r.p * 7:=Q7t (by omega) (by omega)
  have e73:wadd .i64 (r.p * 7) 3=r.p * 7+3:=Q0f (by omega) (by omega)
  rw [e7,e73]
  obtain ⟨x,hx,hm⟩:=Q1g (remb r.p hp0).1 (remb r.p hp0).2
  obtain ⟨y,hy,hn⟩:=Q1g (remb (r.p * 7+3) (by omega)).1 (remb (r.p * 7+3) (by omega)).2
  obtain ⟨b1,b2⟩:=h.bytes x hm
  obtain ⟨b3,b4⟩:=h.bytes y hn
  rw [hx,hy,hk0]
  simp only [U0]
  have f1:wcv .i64 x=x:=Z70 (by omega) (by omega)
  have f2:wcv .i64 y=y:=Z70 (by omega) (by omega)
  have f3:wmul .i64 x 131=x * 131:=Q7t (by omega) (by omega)
  have f4:wmul .i64 y 1117=y * 1117:=Q7t (by omega) (by omega)
  have f5:wmul .i64 r.p 29=r.p * 29:=Q7t (by omega) (by omega)
  have hq:0≤r.p.tdiv (lenZ r.b.length)∧r.p.tdiv (lenZ r.b.length)≤r.p:=by
   rw [Int.tdiv_eq_ediv_of_nonneg hp0]
   exact ⟨Int.ediv_nonneg hp0 (by simp [lenZ]),Int.ediv_le_self _ hp0⟩
  have f6:wquo .i64 r.p (lenZ r.b.length)=r.p.tdiv (lenZ r.b.length):=Z7s (by omega) (by omega)
  rw [f1,f2,f3,f4,f5,f6]
  generalize r.p.tdiv (lenZ r.b.length)=q at hq ⊢
  have f7:wmul .i64 q 53=q * 53:=Q7t (by omega) (by omega)
  have f8:wadd .i64 (x * 131) (y * 1117)=x * 131+y * 1117:=Q0f (by omega) (by omega)
  have f9:wadd .i64 (x * 131+y * 1117) (r.p * 29)=x * 131+y * 1117+r.p * 29:=Q0f (by omega) (by omega)
  rw [f7,f8,f9,Q0f (by omega) (by omega)]
  have hz:0≤x * 131+y * 1117+r.p * 29+q * 53∧x * 131+y * 1117+r.p * 29+q * 53<1099511627776:=⟨by omega,by omega⟩
  generalize x * 131+y * 1117+r.p * 29+q * 53=z at hz ⊢
  have hz64:z.tdiv 64=z / 64:=Int.tdiv_eq_ediv_of_nonneg hz.1
  rw [Z7s (by rw [hz64];omega) (by rw [hz64];omega),hz64]
  have hxr:=X7p hz.1 hz.2 (show 0≤z / 64 by omega) (show z / 64<1099511627776 by omega)
  exact .some ⟨(rem _ hxr.1).1,(rem _ hxr.1).2,nx⟩
theorem W5l {r:X3}(h:ROk r 1)(l:List Int)(h1:1≤l.length)(h2:l.length≤1000):Ret (X5 r l) (fun a=>a.1∈l∧Nx r a.2 1):=by
 unfold X5
 refine Ret.bind (Z84 h (k:=lenZ l.length) (by simp [lenZ];omega) (by simp [lenZ];omega)) (fun a ha=>?_)
 obtain ⟨x,hx,hm⟩:=Q1g (xs:=l) ha.1 (by simpa [lenZ] using ha.2.1)
 rw [hx]
 exact .some ⟨hm,ha.2.2⟩
theorem W73 (code:List Int)(hb:∀ x∈code,0≤x∧x≤255):Ret (Q2n code) (fun r=>ROk r 1000000):=by
 unfold Q2n
 refine Ret.ctl (R:=fun _=>False) (B:=fun s=>(∀ x∈s,0≤x∧x≤255)∧s.length≤2000) ?_ (fun r hr=>hr.elim) (fun s hs=>?_)
 ·refine Ret.ite (fun h=>?_) (fun h=>?_)
  ·rw [W0] at h
   simp only [lenZ] at h
   have:Q96 code 2000=some (code.take 2000):=by
    unfold Q96
    rw [if_pos ⟨by omega,by omega⟩]
    rfl
   rw [this]
   exact .some ⟨fun x hx=>hb x (List.mem_of_mem_take hx),by simp;omega⟩
  ·rw [Q3x] at h
   simp only [lenZ] at h
   exact .some ⟨hb,by omega⟩
 ·exact .some ⟨hs.1,hs.2,by simp,by simp⟩
def Z0w:Nat→Nat
 | 0=>1
 | m+1=>1+3 * Z0w m
theorem W0v:∀ m,1≤Z0w m
 | 0=>Nat.le_refl _
 | m+1=>by simp only [Z0w];omega
theorem W4h {w:List Q2}(hw:WW w):∀ (m n:Nat) (r:X3) (t:Q3) (depth:Int),t∈tys w→depP w t≠0→depth≤m→depP w t≤m→-1000+m≤depth→m≤100→m+1≤n→ROk r (Z0w m)→
  Ret (Q2c n r w (tabP w) t depth) (fun a=>Nx r a.2 (Z0w m)):=by
 intro m
 induction m with
 | zero=>
  intro n r t depth ht hd h1 h2 h3 hm100 hn hr
  have:=(hw.ty t ht).d0
  omega
 | succ m ih=>
  intro n r t depth ht hd h1 h2 h3 hm100 hn hr
  obtain ⟨n,rfl⟩:∃ k,n=k+1:=⟨n-1,by omega⟩
  have hT:=hw.ty t ht
  have hpos:=W0v (m+1)
  unfold Q2c
  refine Ret.ite (fun h=>?_) (fun h=>?_)
  ·refine Ret.bind (Z84 (hr.le hpos) (by omega) (by omega)) (fun a ha=>.some (ha.2.2.le' hpos))
  ·rw [Q9] at h
   rw [hT.c1]
   simp only [U0]
   obtain ⟨kb,hkb,hmb⟩:=hT.dm h hd
   have hd0:=hT.d0
   refine Ret.ctl (Z9 (Y0 w t) (fun k s=>(∀ x∈s,x∈Y0 w t∧0<Q4n w t x∧(Q4n w t x≤depth∨Q4n w t x=depP w t))∧s.length≤k∧(∀ j,j<k→(Y0 w t)[j]?=some kb→s≠[])) (fun _=>False)
    (fun s=>(∀ x∈s,x∈Y0 w t∧0<Q4n w t x∧(Q4n w t x≤depth∨Q4n w t x=depP w t))∧s≠[]∧s.length≤4) ⟨by simp,by simp,fun j hj=>by omega⟩ (fun k x s hx hI=>?_) (fun s hI=>?_)) (fun r hr=>hr.elim) (fun s hs=>?_)
   ·obtain ⟨i1,i2,i3⟩:=hI
    have hxm:=U1 hx
    have hkl:=(List.getElem?_eq_some_iff.1 hx).1
    have hcl:=hT.cl
    have take:∀ (hp:0<Q4n w t x∧(Q4n w t x≤depth∨Q4n w t x=depP w t)),Ret ((app s [x]).bind fun x310=>some (Ctl.brk (ρ:=Ctl (Q0×X3) (List Int)) x310)) (CtlQ (fun _=>False) (fun s'=>(∀ x∈s',x∈Y0 w t∧0<Q4n w t x∧(Q4n w t x≤depth∨Q4n w t x=depP w t))∧s'.length≤k+1∧(∀ j,j<k+1→(Y0 w t)[j]?=some kb→s'≠[]))):=fun hp=>by
     rw [Q33 (by simp only [Z0,U3,U4];omega)]
     refine .some ⟨fun y hy=>?_,by simp;omega,fun _ _ _=>by simp⟩
     rcases List.mem_append.1 hy with hy | hy
     ·exact i1 y hy
     ·simp at hy;subst hy;exact ⟨hxm,hp⟩
    have pass:(¬(0<Q4n w t x∧(Q4n w t x≤depth∨Q4n w t x=depP w t)))→Ret (some (Ctl.brk (ρ:=Ctl (Q0×X3) (List Int)) s)) (CtlQ (fun _=>False) (fun s'=>(∀ x∈s',x∈Y0 w t∧0<Q4n w t x∧(Q4n w t x≤depth∨Q4n w t x=depP w t))∧s'.length≤k+1∧(∀ j,j<k+1→(Y0 w t)[j]?=some kb→s'≠[]))):=fun hp=>by
     refine .some ⟨i1,by omega,fun j hj hjk=>?_⟩
     by_cases hjk2:j=k
     ·subst hjk2
      rw [hx] at hjk
      cases hjk
      exact absurd ⟨by omega,.inr hmb⟩ hp
     ·exact i3 j (by omega) hjk
    refine Ret.ctl (R:=fun _=>False) (B:=fun (s':List Int)=>(∀ x∈s',x∈Y0 w t∧0<Q4n w t x∧(Q4n w t x≤depth∨Q4n w t x=depP w t))∧s'.length≤k+1∧(∀ j,j<k+1→(Y0 w t)[j]?=some kb→s'≠[])) ?_ (fun r hr=>hr.elim) (fun s' hs'=>⟨_,rfl,hs'⟩)
    rw [hT.m1 x hxm]
    simp only [U0]
    refine Ret.ite (fun c=>?_) (fun c=>?_)
    ·rw [W0] at c
     refine Ret.ite (fun c2=>?_) (fun c2=>?_)
     ·rw [W5] at c2
      exact take ⟨c,.inl c2⟩
     ·rw [Q1y] at c2
      rw [hT.d1]
      simp only [U0]
      refine Ret.ite (fun c3=>?_) (fun c3=>?_)
      ·rw [Q7] at c3
       exact take ⟨c,.inr c3⟩
      ·rw [Q9] at c3
       exact pass (by omega)
    ·rw [Q3x] at c
     exact pass (by omega)
   ·obtain ⟨i1,i2,i3⟩:=hI
    obtain ⟨j,hj⟩:=List.mem_iff_getElem?.1 hkb
    have:=hT.cl
    exact ⟨i1,i3 j ((List.getElem?_eq_some_iff.1 hj).1) hj,by omega⟩
   ·obtain ⟨i1,i2,i3⟩:=hs
    have hsl:1≤s.length:=by cases s with
     | nil=>exact absurd rfl i2
     | cons=>simp
    refine Ret.bind (Z84 (hr.le hpos) (k:=lenZ s.length) (by simp [lenZ];omega) (by simp [lenZ];omega)) (fun a ha=>?_)
    obtain ⟨x,hx,hxm⟩:=Q1g (xs:=s) ha.1 (by simpa [lenZ] using ha.2.1)
    obtain ⟨hxc,hx0,hxd⟩:=i1 x hxm
    rw [hx]
    simp only [U0]
    rw [hT.a1 x hxc]
    simp only [U0]
    have hal:=hT.al x hxc
    have hr1:ROk a.2 (3 * Z0w m):=ROk.nx (c:=1) hr ha.2.2
    refine Ret.ctl (Z9 (Q0z w t x) (fun k s=>Nx a.2 s.1 (k * Z0w m)∧s.2.length≤k) (fun _=>False) (fun s=>Nx a.2 s.1 (3 * Z0w m)) ⟨by simpa using Nx.refl a.2,by simp⟩ (fun k y s hy hI=>?_) (fun s hI=>?_)) (fun r hr=>hr.elim) (fun s hs=>?_)
    ·obtain ⟨j1,j2⟩:=hI
     have hym:=U1 hy
     have hkl:=(List.getElem?_eq_some_iff.1 hy).1
     obtain ⟨d1,d2⟩:=hT.ma x hxc (by omega) y hym
     have hws:wsub .i64 depth 1=depth-1:=Q3q (by omega) (by omega)
     rw [hws]
     have hr2:ROk s.1 (Z0w m):=by
      have:k * Z0w m+Z0w m≤3 * Z0w m:=by
       rw [←Nat.succ_mul]
       exact Nat.mul_le_mul_right _ (by omega)
      exact ROk.nx (c:=k * Z0w m) (hr1.le this) j1
     refine Ret.bind (ih n s.1 y (depth-1) (hT.at_ x hxc y hym) (by omega) (by omega) (by omega) (by omega) (by omega) (by omega) hr2) (fun b hb=>?_)
     rw [Q33 (by simp only [Z0,U3,U4];omega)]
     refine .some ⟨?_,by simp;omega⟩
     have:=j1.trans hb
     rw [←Nat.succ_mul] at this
     exact this
    ·obtain ⟨j1,j2⟩:=hI
     exact j1.le' (Nat.mul_le_mul_right _ hal)
    ·exact .some (ha.2.2.trans hs)
def Q8z:Nat→Q0→Prop
 | 0,_=>False
 | d+1,v=>v.kids.length≤3∧∀ x∈v.kids,Q8z d x
theorem Z2c {w:List Q2}(hw:WW w):∀ (d:Nat) (t:Q3) (v:Q0),t∈tys w→Q5p w d t v→Q8z d v:=by
 intro d
 induction d with
 | zero=>intro t v _ h;exact h
 | succ d ih=>
  intro t v ht h
  have hT:=hw.ty t ht
  simp only [Q5p] at h
  split at h
  ·obtain ⟨_,_,_,h4⟩:=h
   exact ⟨by rw [h4];simp,fun x hx=>by rw [h4] at hx;cases hx⟩
  ·obtain ⟨_,h2,h3,h4⟩:=h
   have hal:=hT.al _ h2
   refine ⟨by omega,fun x hx=>?_⟩
   obtain ⟨j,hj⟩:=List.mem_iff_getElem?.1 hx
   have hjl:=(List.getElem?_eq_some_iff.1 hj).1
   have ha:(Q0z w t v.ctor)[j]?=some ((Q0z w t v.ctor)[j]'(by omega)):=by simp
   exact ih _ x (hT.at_ _ h2 _ (U1 ha)) (h4 j _ x ha hj)
theorem Q0.ext' {a b:Q0}(h1:a.ctor=b.ctor)(h2:a.n=b.n)(h3:a.kids=b.kids):a=b:=by
 cases a;cases b;simp_all
theorem Z4y:∀ (d n:Nat) (v:Q0),Q8z d v→d≤n→Q18 n v=some v:=by
 intro d
 induction d with
 | zero=>intro n v h;exact h.elim
 | succ d ih=>
  intro n v h hn
  obtain ⟨n,rfl⟩:∃ k,n=k+1:=⟨n-1,by omega⟩
  obtain ⟨h1,h2⟩:=h
  have hr:Ret (Q18 (n+1) v) (fun r=>r=v):=by
   unfold Q18
   refine Ret.ctl (Z9 v.kids (fun k s=>s=v.kids.take k) (fun _=>False) (fun s=>s=v.kids) (by simp) (fun k q s hq hI=>?_) (fun s hI=>?_)) (fun r hr=>hr.elim) (fun s hs=>.some (Q0.ext' rfl rfl hs))
   ·rw [ih n q (h2 q (U1 hq)) (by omega)]
    simp only [U0]
    rw [Q33 (by simp only [Z0,U3,U4];rw [hI,U6];omega)]
    exact .some (by rw [hI,List.take_add_one,hq];rfl)
   ·rw [hI,List.take_length]
  obtain ⟨r,e,rfl⟩:=hr
  exact e
theorem X3k (a:List Q0)(f:Q0→Q0→Option Bool)(hf:∀ x∈a,f x x=some true):J4 a a f=some true:=by
 have hr:Ret (J4 a a f) (fun r=>r=true):=by
  unfold J4
  rw [if_neg (by simp [ieq])]
  refine Ret.ctl (Z9 a (fun _ _=>True) (fun _=>False) (fun _=>True) trivial (fun k x s hx _=>?_) (fun _ _=>trivial)) (fun r hr=>hr.elim) (fun s _=>.some rfl)
  rw [Q1m hx]
  simp only [U0]
  rw [hf x (U1 hx)]
  exact .some trivial
 obtain ⟨_,e,rfl⟩:=hr
 exact e
theorem Z6e:∀ (d n:Nat) (v:Q0),Q8z d v→d≤n→W2 n v v=some true:=by
 intro d
 induction d with
 | zero=>intro n v h;exact h.elim
 | succ d ih=>
  intro n v h hn
  obtain ⟨n,rfl⟩:∃ k,n=k+1:=⟨n-1,by omega⟩
  unfold W2
  rw [if_pos (by simp [ieq]),if_pos (by simp [ieq]),X3k _ _ fun x hx=>ih n x (h.2 x hx) (by omega)]
  rfl
def DB (l:List Z3):Prop:=∀ b∈l,Q8z 10 b.value
theorem Z26 {α:Type}{xs:List α}{i:Int}{x:α}(h0:0≤i)(h:i<xs.length):setI xs i x=some (xs.set i.toNat x):=by
 unfold setI
 rw [if_pos ⟨h0,by omega⟩]
theorem V2k:(List.range 13).all (fun k=>(Q58 (wcv .u64 (lenZ k))).isSome)=true:=by kernel_rfl
theorem Z7d:∀ (d:Nat) (p:Q5) (e:Nat) (v:Q0) (l:List Z3),Q8z e v→W4 d p v=some l→∀ b∈l,∃ e',e'≤e∧Q8z e' b.value:=by
 intro d
 induction d with
 | zero=>intro p e v l _ h;cases h
 | succ d ih=>
  intro p e v l hv hm b hb
  rw [W4] at hm
  split at hm
  ·cases hm;cases hb
  split at hm
  ·cases hm
   simp only [U7,List.not_mem_nil,or_false] at hb
   subst hb
   exact ⟨e,Nat.le_refl _,hv⟩
  split at hm
  ·split at hm
   ·cases hm;cases hb
   ·cases hm
  split at hm
  ·split at hm
   ·split at hm
    ·rename_i l' hl'
     cases hm
     exact ih _ e v _ hv hl' b hb
    ·exact ih _ e v _ hv hm b hb
   ·cases hm
  split at hm
  ·split at hm
   ·rename_i a _
    cases ha:W4 d a v with
    | none=>rw [ha] at hm;cases hm
    | some l'=>
     rw [ha] at hm
     cases hm
     rcases U7.1 hb with h | h
     ·subst h
      exact ⟨e,Nat.le_refl _,hv⟩
     ·exact ih _ e v _ hv ha b h
   ·cases hm
  split at hm
  ·cases e with
   | zero=>exact hv.elim
   | succ e=>
    have hk:=hv.2
    have gen:∀ (ps:List Q5) (vs:List Q0) (l:List Z3),(∀ x∈vs,Q8z e x)→Q2a (W4 d) ps vs=some l→∀ b∈l,∃ e',e'≤e∧Q8z e' b.value:=by
     intro ps
     induction ps with
     | nil=>intro vs l _ h b hb;simp only [Q2a] at h;cases h;cases hb
     | cons q ps ihp=>
      intro vs l hvs h b hb
      cases vs with
      | nil=>cases h
      | cons u vs=>
       simp only [Q2a] at h
       cases hq:W4 d q u with
       | none=>rw [hq] at h;cases h
       | some l1=>
        rw [hq] at h
        simp only at h
        cases hps:Q2a (W4 d) ps vs with
        | none=>rw [hps] at h;cases h
        | some l2=>
         rw [hps] at h
         cases h
         rcases List.mem_append.1 hb with hb | hb
         ·exact ih q e u l1 (hvs u (by simp)) hq b hb
         ·exact ihp vs l2 (fun x hx=>hvs x (by simp [hx])) hps b hb
    obtain ⟨e',h1,h2⟩:=gen _ _ _ hk hm b hb
    exact ⟨e',by omega,h2⟩
  ·cases hm
theorem Z48:∀ (d e:Nat) (v:Q0),d≤e→Q8z d v→Q8z e v:=by
 intro d
 induction d with
 | zero=>intro e v _ h;exact h.elim
 | succ d ih=>
  intro e v he h
  obtain ⟨e,rfl⟩:∃ k,e=k+1:=⟨e-1,by omega⟩
  exact ⟨h.1,fun x hx=>ih e x (by omega) (h.2 x hx)⟩
theorem X29:∀ (m:Nat) (l:List Int),l.Nodup→(∀ x∈l,0≤x∧x<m)→l.length≤m:=by
 intro m
 induction m with
 | zero=>
  intro l _ h
  cases l with
  | nil=>simp
  | cons x l=>have:=h x (by simp);omega
 | succ m ih=>
  intro l hn h
  have h1:=ih (l.erase (m:Int)) (hn.erase _) (fun x hx=>by
   have hx2:=(hn.mem_erase_iff).1 hx
   have:=h x hx2.2
   have:=hx2.1
   omega)
  have h2:=List.length_erase (a:=(m:Int)) (l:=l)
  split at h2<;>omega
theorem W29 {w:List Q2}{t:Q3}{p:Q5}{d:Nat}(g:Q2r w d t p=true)(l:linD w d t p=true):(Q1a w d t p).length≤6:=by
 have h1:=Q19 d t p g l
 simp only [J0,decide_eq_true_eq] at h1
 have:=X29 6 _ h1 (fun x hx=>by
  obtain ⟨y,hy,rfl⟩:=U9.1 hx
  have:=Z23 d t p g y hy
  omega)
 simpa using this
def Q6h (l:List Z3):List Z3:=(List.range 6).flatMap fun (v:Nat)=>l.filter fun b=>decide (b.var=(v:Int))
theorem X21:∀ (a b:List Z3),a.Pairwise (fun x y=>x.var<y.var)→b.Pairwise (fun x y=>x.var<y.var)→a.Perm b→a=b:=by
 intro a
 induction a with
 | nil=>intro b _ _ h;exact h.nil_eq
 | cons x a ih=>
  intro b ha hb h
  cases b with
  | nil=>exact absurd h.symm.nil_eq (by simp)
  | cons y b=>
   rw [List.pairwise_cons] at ha hb
   have hx:x∈y::b:=h.mem_iff.1 (by simp)
   have hy:y∈x::a:=h.mem_iff.2 (by simp)
   have hxy:x=y:=by
    rcases U7.1 hx with rfl | hx
    ·rfl
    ·rcases U7.1 hy with h1 | hy
     ·exact h1.symm
     ·have h1:=hb.1 x hx
      have h2:=ha.1 y hy
      omega
   subst hxy
   rw [ih b ha.2 hb.2 ((List.perm_cons x).1 h)]
theorem Z77 {l:List Z3}(h:l.Pairwise (fun x y=>x.var≤y.var))(hn:(l.map (·.var)).Nodup):l.Pairwise (fun x y=>x.var<y.var):=by
 rw [List.Nodup,List.pairwise_map] at hn
 refine (h.and hn).imp fun ⟨h1,h2⟩=>?_
 omega
theorem Z9p {l:List Z3}(hn:(l.map (·.var)).Nodup):(Q6h l).Pairwise (fun x y=>x.var<y.var):=by
 unfold Q6h
 rw [List.pairwise_flatMap]
 refine ⟨fun v _=>?_,?_⟩
 ·have h1:(l.filter fun b=>decide (b.var=(v:Int))).Pairwise (fun x y=>x.var≤y.var):=by
   rw [List.pairwise_filter]
   refine List.pairwise_of_forall fun x y hx hy=>?_
   simp only [decide_eq_true_eq] at hx hy
   omega
  exact Z77 h1 ((List.filter_sublist.map _).nodup hn)
 ·refine List.Pairwise.imp ?_ (List.pairwise_lt_range (n:=6))
  intro a b hab x hx y hy
  have h1:=(List.mem_filter.1 hx).2
  have h2:=(List.mem_filter.1 hy).2
  simp only [decide_eq_true_eq] at h1 h2
  omega
theorem Z3a {α β:Type}(f g h:α→List β)(e:∀ v,f v=g v++h v):∀ L:List α,(L.flatMap f).Perm (L.flatMap g++L.flatMap h)
 | []=>by simp
 | v::L=>by
  rw [List.flatMap_cons,List.flatMap_cons,List.flatMap_cons,e v,List.append_assoc,List.append_assoc]
  refine List.Perm.append_left _ ?_
  refine ((Z3a f g h e L).append_left (h v)).trans ?_
  rw [←List.append_assoc,←List.append_assoc]
  exact List.Perm.append_right _ List.perm_append_comm
theorem Q42 {l:List Z3}(hv:∀ b∈l,0≤b.var∧b.var≤5):(Q6h l).Perm l:=by
 induction l with
 | nil=>simp [Q6h]
 | cons x l ih=>
  have h1:=ih fun b hb=>hv b (by simp [hb])
  obtain ⟨x0,x5⟩:=hv x (by simp)
  have h2:=Z3a (fun (v:Nat)=>(x::l).filter fun b=>decide (b.var=(v:Int))) (fun (v:Nat)=>if x.var=(v:Int) then [x] else []) (fun (v:Nat)=>l.filter fun b=>decide (b.var=(v:Int))) (fun v=>by
   by_cases hc:x.var=(v:Int)
   ·rw [List.filter_cons,if_pos (by simp [hc]),if_pos hc];rfl
   ·rw [List.filter_cons,if_neg (by simp [hc]),if_neg hc];rfl) (List.range 6)
  have hx:((List.range 6).flatMap fun (v:Nat)=>if x.var=(v:Int) then [x] else [])=[x]:=by
   have h6:x.var=0∨x.var=1∨x.var=2∨x.var=3∨x.var=4∨x.var=5:=by omega
   rcases h6 with h | h | h | h | h | h<;>simp [h,List.range,List.range.loop]
  rw [hx] at h2
  exact h2.trans (List.Perm.cons _ h1)
theorem X3n (a b:Int):Q2z a b=some (if a<b then -1 else if b<a then 1 else 0):=by
 unfold Q2z Q3w
 have e1:(!ieq a a)=false:=by simp [ieq]
 have e2:(!ieq b b)=false:=by simp [ieq]
 simp only [U0,e1,e2,U2,if_false]
 by_cases h:a<b
 ·have e:ilt a b=true:=by rw [W0];exact h
  simp only [e,if_true,if_pos h]
 ·have e:ilt a b=false:=by rw [Q3x];omega
  simp only [e,U2,if_false,if_neg h]
  by_cases h2:b<a
  ·have e:ilt b a=true:=by rw [W0];exact h2
   simp only [e,if_true,if_pos h2]
  ·have e:ilt b a=false:=by rw [Q3x];omega
   simp only [e,U2,if_false,if_neg h2]
theorem X2a (a b:Z3):Q0n a b=some (if a.var<b.var then -1 else if b.var<a.var then 1 else 0):=by
 unfold Q0n
 rw [X3n]
 rfl
def OrdV (l:List Z3)(i j:Nat):Prop:=∀ a b x y,a<b→b≤i→b≠j→l[a]?=some x→l[b]?=some y→x.var≤y.var
theorem X5s {n:Nat}(hn:30≤n)(l:List Z3)(hl:l.length≤12) :
  Ret (V2 n l 0 (lenZ l.length) (fun a b=>Q0n a b)) (fun r=>r.Perm l∧r.Pairwise (fun x y=>x.var≤y.var)):=by
 unfold V2
 have z1:wadd .i64 0 1=1:=rfl
 rw [z1]
 refine Ret.ctl (Q6w (fun s:List Z3×Int=>s.1.Perm l∧1≤s.2∧s.2≤13∧∀ a b x y,a<b→b<s.2.toNat→s.1[a]?=some x→s.1[b]?=some y→x.var≤y.var) (fun s=>(14-s.2).toNat) (fun _=>False) (fun s=>s.1.Perm l∧s.1.Pairwise (fun x y=>x.var≤y.var)) ⟨.rfl,by simp,by simp,fun a b x y h1 h2=>by simp at h2;omega⟩ (fun s hI=>?_) n (by simp;omega)) (fun r hr=>hr.elim) (fun s hs=>.some hs)
 obtain ⟨i1,i3,i4,i5⟩:=hI
 refine Ret.ite (fun hlt=>?_) (fun hge=>?_)
 ·rw [W0] at hlt
  simp only [lenZ] at hlt
  refine Ret.ctl (Q6w (fun u:List Z3×Int=>u.1.Perm l∧0≤u.2∧u.2≤s.2∧OrdV u.1 s.2.toNat u.2.toNat) (fun u=>u.2.toNat) (fun _=>False) (fun u=>u.1.Perm l∧∀ a b x y,a<b→b≤s.2.toNat→u.1[a]?=some x→u.1[b]?=some y→x.var≤y.var) ⟨i1,by omega,Int.le_refl _,fun a b x y h1 h2 h3=>i5 a b x y h1 (by omega)⟩ (fun u hJ=>?_) n (by omega)) (fun r hr=>hr.elim) (fun u hu=>?_)
  ·obtain ⟨j1,j3,j4,j5⟩:=hJ
   have hlen:=j1.length_eq
   refine Ret.ite (fun hp=>?_) (fun hp=>?_)
   ·rw [W0] at hp
    have hs:wsub .i64 u.2 1=u.2-1:=Q3q (by omega) (by omega)
    rw [hs]
    have ex:idx u.1 u.2=some (u.1[u.2.toNat]'(by omega)):=Q59 j3 (U8 (by omega))
    have ey:idx u.1 (u.2-1)=some (u.1[(u.2-1).toNat]'(by omega)):=Q59 (by omega) (U8 (by omega))
    have gx:u.1[u.2.toNat]?=some (u.1[u.2.toNat]'(by omega)):=U8 (by omega)
    have gy:u.1[u.2.toNat-1]?=some (u.1[(u.2-1).toNat]'(by omega)):=by
     rw [show u.2.toNat-1=(u.2-1).toNat by omega]
     exact U8 (by omega)
    have hperm:=(List.set_set_perm (as:=u.1) (i:=u.2.toNat) (j:=(u.2-1).toNat) (by omega) (by omega)).trans j1
    generalize u.1[u.2.toNat]'(by omega)=x at *
    generalize u.1[(u.2-1).toNat]'(by omega)=y at *
    rw [ex,ey]
    simp only [U0]
    rw [X2a]
    simp only [U0]
    by_cases hxy:x.var<y.var
    ·rw [if_pos hxy]
     have e:ilt (-1) 0=true:=rfl
     simp only [e,if_true]
     rw [Z26 j3 (by omega)]
     simp only [U0]
     obtain ⟨z,ez,_⟩:=Q1g (xs:=u.1.set u.2.toNat y) (i:=u.2-1) (by omega) (by simp;omega)
     rw [ez]
     simp only [U0]
     rw [Z26 (by omega) (by simp;omega)]
     refine .some ⟨⟨hperm,by simp;omega,by simp;omega,?_⟩,by simp;omega⟩
     simp only
     have hget:∀ (m:Nat) (v:Z3),((u.1.set u.2.toNat y).set (u.2-1).toNat x)[m]?=some v→(m=u.2.toNat-1∧v=x)∨(m=u.2.toNat∧v=y)∨(m≠u.2.toNat-1∧m≠u.2.toNat∧u.1[m]?=some v):=fun m v hv=>by
      rw [List.getElem?_set] at hv
      split at hv
      ·split at hv
       ·cases hv;exact .inl ⟨by omega,rfl⟩
       ·cases hv
      ·rw [List.getElem?_set] at hv
       split at hv
       ·split at hv
        ·cases hv;exact .inr (.inl ⟨by omega,rfl⟩)
        ·cases hv
       ·exact .inr (.inr ⟨by omega,by omega,hv⟩)
     intro a b p q hab hbi hbj hp' hq'
     rcases hget a p hp' with ⟨ha,rfl⟩ | ⟨ha,rfl⟩ | ⟨ha,ha',hpa⟩
     ·rcases hget b q hq' with ⟨hb,rfl⟩ | ⟨hb,rfl⟩ | ⟨hb,hb',hqb⟩
      ·omega
      ·omega
      ·exact j5 u.2.toNat b _ _ (by omega) hbi hb' gx hqb
     ·rcases hget b q hq' with ⟨hb,rfl⟩ | ⟨hb,rfl⟩ | ⟨hb,hb',hqb⟩
      ·omega
      ·omega
      ·exact j5 (u.2.toNat-1) b _ _ (by omega) hbi hb' gy hqb
     ·rcases hget b q hq' with ⟨hb,rfl⟩ | ⟨hb,rfl⟩ | ⟨hb,hb',hqb⟩
      ·exact absurd hb (by omega)
      ·exact j5 a (u.2.toNat-1) _ _ (by omega) (by omega) (by omega) hpa gy
      ·exact j5 a b _ _ hab hbi hb' hpa hqb
    ·rw [if_neg hxy]
     have e:ilt (if y.var<x.var then 1 else 0) 0=false:=by split<;>rfl
     simp only [e,U2,if_false]
     refine .some ⟨j1,fun a b p q hab hbi hp' hq'=>?_⟩
     by_cases hbj:b=u.2.toNat
     ·subst hbj
      rw [gx] at hq'
      cases hq'
      by_cases haj:a=u.2.toNat-1
      ·subst haj
       rw [gy] at hp'
       cases hp'
       omega
      ·have:=j5 a (u.2.toNat-1) p y (by omega) (by omega) (by omega) hp' gy
       omega
     ·exact j5 a b p q hab hbi hbj hp' hq'
   ·rw [Q3x] at hp
    refine .some ⟨j1,fun a b p q hab hbi hp' hq'=>j5 a b p q hab hbi (by omega) hp' hq'⟩
  ·obtain ⟨u1,u2⟩:=hu
   have hw:wadd .i64 s.2 1=s.2+1:=Q0f (by omega) (by omega)
   refine .some ⟨⟨u1,by simp only [hw];omega,by simp only [hw];omega,fun a b x y h1 h2=>u2 a b x y h1 (by simp only [hw] at h2;omega)⟩,by simp only [hw];omega⟩
 ·rw [Q3x] at hge
  simp only [lenZ] at hge
  refine .some ⟨i1,?_⟩
  rw [List.pairwise_iff_getElem]
  intro a b ha hb hab
  have hlen:=i1.length_eq
  have hb':b<s.1.length:=hb
  exact i5 a b _ _ hab (by omega) (U8 ha) (U8 hb)
theorem W2i {n:Nat}(hn:40≤n){l:List Z3}(hl:l.length≤12)(hd:(l.map (·.var)).Nodup)(hv:∀ b∈l,0≤b.var∧b.var≤5) :
  Q02 n l (fun a b=>Q0n a b)=some (Q6h l):=by
 suffices hs:Ret (Q02 n l (fun a b=>Q0n a b)) (fun r=>r=Q6h l) by
  obtain ⟨a,e,rfl⟩:=hs
  exact e
 unfold Q02
 obtain ⟨b,hb⟩:=Option.isSome_iff_exists.1 (List.all_eq_true.1 V2k l.length (List.mem_range.2 (by omega)))
 rw [hb]
 simp only [U0]
 have fin:∀ r:List Z3,r.Perm l→r.Pairwise (fun x y=>x.var≤y.var)→r=Q6h l:=fun r h1 h2=>
  X21 r (Q6h l) (Z77 h2 ((h1.map _).nodup_iff.2 hd)) (Z9p hd) (h1.trans (Q42 hv).symm)
 obtain ⟨n,rfl⟩:∃ k,n=k+1:=⟨n-1,by omega⟩
 refine Ret.bind (P:=fun r=>r.Perm l∧r.Pairwise (fun x y=>x.var≤y.var)) ?_ (fun r hr=>?_)
 ·unfold Q0c
  refine Ret.ctl (Q6w (fun _=>True) (fun _=>0) (fun r:List Z3=>r.Perm l∧r.Pairwise (fun x y=>x.var≤y.var)) (fun _=>False) trivial (fun s _=>?_) n (by omega)) (fun r hr=>.some hr) (fun s hs=>hs.elim)
  have h0:wsub .i64 (lenZ l.length) 0=lenZ l.length:=by rw [Q3q]<;>simp only [lenZ]<;>omega
  rw [if_pos (by rw [W5,h0];simp only [lenZ];omega)]
  refine Ret.bind (X5s (by omega) l hl) (fun r hr=>?_)
  rw [Z61 (by simp [hr.1.length_eq])]
  exact .some hr
 ·rw [Z61 (by simp [hr.1.length_eq])]
  exact .some (fin r hr.1 hr.2)
theorem X4b:∀ {a b:List Int},a.Nodup→(∀ x∈a,x∈b)→a.length=b.length→a.Perm b
 | [],b,_,_,h=>by have:b=[]:=List.eq_nil_of_length_eq_zero (by simpa using h.symm);rw [this]
 | x::a,b,hn,hs,h=>by
  have hx:=hs x (by simp)
  have hn':=List.nodup_cons.1 hn
  have hl:=List.length_erase_of_mem hx
  refine (List.Perm.cons x (X4b hn'.2 (fun y hy=>?_) (by simp at h;omega))).trans (List.perm_cons_erase hx).symm
  have hne:y≠x:=fun e=>hn'.1 (e▸hy)
  exact (List.mem_erase_of_ne hne).2 (hs y (by simp [hy]))
theorem Z4x {a b:List Q1}(ha:J0 a=true)(h:Q7p a b=true):(a.map (·.var)).Perm (b.map (·.var)):=by
 simp only [Q7p,Bool.and_eq_true,decide_eq_true_eq,List.all_eq_true] at h
 have hn:(a.map (·.var)).Nodup:=by simpa [J0] using ha
 refine X4b hn (fun x hx=>?_) (by simp [h.1])
 obtain ⟨v,hv,rfl⟩:=U9.1 hx
 exact U9.2 ⟨v,h.2 v hv,rfl⟩
theorem Z2a {w:List Q2} : ∀ (d:Nat) (t:Q3) (p:Q5),Q2r w d t p=true→linD w d t p=true→∀ v l,W4 d p v=some l→(l.map (·.var)).Perm ((Q1a w d t p).map (·.var)):=by
 intro d
 induction d with
 | zero=>intro t p h;cases h
 | succ d ih=>
  intro t p hg hlin v l hm
  obtain ⟨ho,hl⟩:=Q5t (Q5a hg)
  simp only [linD,Bool.and_eq_true,List.all_eq_true] at hlin
  rw [Q1a]
  rw [W4] at hm
  have hnil:p.op≠4→p.op≠5→p.op≠6→J6 w t p=[]:=fun h4 h5 h6=>by simp [J6,h4,h5,h6]
  by_cases h1:p.op=1
  ·rw [if_pos h1] at hm;cases hm
   simp [ownV,h1,hnil]
  rw [if_neg h1] at hm
  by_cases h2:p.op=2
  ·rw [if_pos h2] at hm;cases hm
   simp [ownV,h2,hnil]
  rw [if_neg h2] at hm
  by_cases h3:p.op=3
  ·rw [if_pos h3] at hm
   split at hm
   ·cases hm
    simp [ownV,h3,hnil]
   ·cases hm
  rw [if_neg h3] at hm
  by_cases h5:p.op=5
  ·rw [if_pos h5] at hm
   obtain ⟨a,b,hkids,hkt⟩:=kid0 h5 hl
   have ga:=Q0l hg (k:=0) (by rw [hkt];rfl) (by rw [hkids];rfl)
   have gb:=Q0l hg (k:=1) (by rw [hkt];rfl) (by rw [hkids];rfl)
   have g0:=hlin.1 (t,a) (by rw [hkids,hkt];simp)
   have g1:=hlin.1 (t,b) (by rw [hkids,hkt];simp)
   have hal:=hlin.2
   rw [if_pos h5] at hal
   have k0:kv w d t p 0=Q1a w d t a:=by simp [kv,hkids,hkt]
   have k1:kv w d t p 1=Q1a w d t b:=by simp [kv,hkids,hkt]
   rw [k0,k1] at hal
   have hv:ownV t p=[]:=by simp [ownV,h5]
   rw [hv,hkids,hkt,if_pos h5]
   simp only [List.zip_cons_cons,List.zip_nil_right,List.take_succ_cons,List.take_zero,List.flatMap_cons,List.flatMap_nil,List.append_nil,List.nil_append]
   rw [hkids] at hm
   simp only at hm
   split at hm
   ·rename_i l' hl'
    cases hm
    exact ih t a ga g0 v _ hl'
   ·exact (ih t b gb g1 v _ hm).trans (Z4x (Q19 d t a ga g0) hal).symm
  rw [if_neg h5] at hm
  rw [if_neg h5,List.take_of_length_le (by rw [List.length_zip];omega)]
  by_cases h6:p.op=6
  ·rw [if_pos h6] at hm
   obtain ⟨a,hkids,hk2⟩:=Z8a h6 hl
   have ga:=Q0l hg (k:=0) (by rw [hk2];rfl) (by rw [hkids];rfl)
   have g0:=hlin.1 (t,a) (by rw [hkids,hk2];simp)
   rw [hkids] at hm
   simp only at hm
   cases ha:W4 d a v with
   | none=>rw [ha] at hm;cases hm
   | some l'=>
    rw [ha] at hm
    cases hm
    have:=ih t a ga g0 v l' ha
    rw [hkids,hk2]
    simpa [ownV,h6] using this
  rw [if_neg h6] at hm
  have hv:ownV t p=[]:=by simp [ownV,h2,h6]
  rw [hv,List.nil_append]
  split at hm
  ·have gen:∀ (ts:List Q3) (ps:List Q5) (vs:List Q0) (l:List Z3),ts.length=ps.length→(∀ x∈ts.zip ps,∀ v l,W4 d x.2 v=some l→(l.map (·.var)).Perm ((Q1a w d x.1 x.2).map (·.var)))→Q2a (W4 d) ps vs=some l→(l.map (·.var)).Perm (((ts.zip ps).flatMap fun x=>Q1a w d x.1 x.2).map (·.var)):=by
    intro ts ps
    induction ps generalizing ts with
    | nil=>intro vs l _ _ h;simp only [Q2a] at h;cases h;simp
    | cons q ps ihp=>
     intro vs l hl hx h
     cases ts with
     | nil=>simp at hl
     | cons a ts=>
      cases vs with
      | nil=>cases h
      | cons u vs=>
       simp only [Q2a] at h
       cases hq:W4 d q u with
       | none=>rw [hq] at h;cases h
       | some l1=>
        rw [hq] at h
        simp only at h
        cases hps:Q2a (W4 d) ps vs with
        | none=>rw [hps] at h;cases h
        | some l2=>
         rw [hps] at h
         cases h
         have e1:=hx (a,q) (by simp) u l1 hq
         have e2:=ihp ts vs l2 (by simpa using hl) (fun x hxx=>hx x (by simp [hxx])) hps
         simp only [List.zip_cons_cons,List.flatMap_cons,List.map_append]
         exact e1.append e2
   refine gen _ _ _ _ hl.symm (fun x hx v l h=>?_) hm
   obtain ⟨j,hj⟩:=List.mem_iff_getElem?.1 hx
   obtain ⟨e1,e2⟩:=List.getElem?_zip_eq_some.1 hj
   exact ih _ _ (Q0l hg e1 e2) (hlin.1 x hx) v l h
  ·cases hm
structure W15 (l:List Z3):Prop where
 nd:(l.map (·.var)).Nodup
 rg:∀ b∈l,0≤b.var∧b.var≤5
 ln:l.length≤6
theorem Q4o {w:List Q2}{d:Nat}{t:Q3}{p:Q5}(g:Q2r w d t p=true)(l:linD w d t p=true){v:Q0}{r:List Z3}(h:W4 d p v=some r):W15 r:=by
 have hp:=Z2a d t p g l v r h
 have hd:=Q19 d t p g l
 simp only [J0,decide_eq_true_eq] at hd
 refine ⟨hp.nodup_iff.2 hd,fun b hb=>?_,?_⟩
 ·obtain ⟨y,hy,e⟩:=U9.1 (hp.mem_iff.1 (List.mem_map_of_mem hb))
  have:=Z23 d t p g y hy
  omega
 ·have h1:=hp.length_eq
  have h2:=W29 g l
  simp only [List.length_map] at h1
  omega
def Q3y (g:Q2i)(l:List Z3):Bool:=decide (g.op=0)||match l.find? fun b=>decide (b.var=g.var) with
 | none=>false
 | some b=>decide (b.value.ctor = -1)&&((decide (g.op=1)&&decide (b.value.n<g.n))||(decide (g.op=2)&&decide (b.value.n=g.n)))
theorem W05 {a b:List Z3}(hn:(a.map (·.var)).Nodup)(h:a.Perm b)(v:Int):a.find? (fun x=>decide (x.var=v))=b.find? (fun x=>decide (x.var=v)):=by
 induction h with
 | nil=>rfl
 | cons x h ih=>
  rw [List.find?_cons,List.find?_cons]
  split
  ·rfl
  ·exact ih (List.nodup_cons.1 (by simpa using hn)).2
 | swap x y l=>
  simp only [List.map_cons,List.nodup_cons,U7,not_or] at hn
  simp only [List.find?_cons]
  by_cases h1:x.var=v
  ·have h2:¬y.var=v:=fun e=>hn.1.1 (by omega)
   simp [h1,h2]
  ·simp [h1]
 | trans h1 h2 ih1 ih2=>rw [ih1 hn,ih2 ((h1.map _).nodup_iff.1 hn)]
theorem X2u {a b:List Z3}(hn:(a.map (·.var)).Nodup)(h:a.Perm b)(g:Q2i):Q3y g a=Q3y g b:=by
 unfold Q3y
 rw [W05 hn h]
theorem X2t {l:List Z3}(h:W15 l)(g:Q2i):Q3y g (Q6h l)=Q3y g l:=(X2u h.nd (Q42 h.rg).symm g).symm
def runD (v:Q0):Nat→List X1→Option (Nat×List Z3)
 | _,[]=>none
 | k,c::cs=>match W4 10 c.pat v with
  | none=>runD v (k+1) cs
  | some l=>if Q3y c.guard l=true then some (k,Q6h l) else runD v (k+1) cs
def runR:Option (Nat×List Z3)→Int×List Z3
 | none=>(-1,[])
 | some x=>((x.1:Int),x.2)
theorem W6i {l:List Z3}(hn:(l.map (·.var)).Nodup){x y:Z3}(hx:x∈l)(hy:y∈l)(h:x.var=y.var):x=y:=by
 induction l with
 | nil=>cases hx
 | cons a l ih=>
  simp only [List.map_cons,List.nodup_cons,U9,not_exists,not_and] at hn
  rcases U7.1 hx with h1 | h1
  ·rcases U7.1 hy with h2 | h2
   ·rw [h1,h2]
   ·exact absurd (by rw [←h1];exact h.symm) (hn.1 y h2)
  ·rcases U7.1 hy with h2 | h2
   ·exact absurd (by rw [←h2];exact h) (hn.1 x h1)
   ·exact ih hn.2 h1 h2
theorem Z8n {l:List Z3}(hn:(l.map (·.var)).Nodup){x:Z3}{v:Int}(hx:x∈l)(h:x.var=v):l.find? (fun b=>decide (b.var=v))=some x:=by
 cases hf:l.find? (fun b=>decide (b.var=v)) with
 | none=>
  have:=List.find?_eq_none.1 hf x hx
  simp [h] at this
 | some y=>
  have h1:=List.find?_some hf
  have h2:=List.mem_of_find?_eq_some hf
  simp only [decide_eq_true_eq] at h1
  rw [W6i hn h2 hx (by omega)]
theorem X0d (g:Q2i){l:List Z3}(hn:(l.map (·.var)).Nodup):Q1q g l=some (Q3y g l):=by
 suffices hs:Ret (Q1q g l) (fun r=>r=Q3y g l) by
  obtain ⟨a,e,rfl⟩:=hs
  exact e
 unfold Q1q
 refine Ret.ite (fun h0=>.some ?_) (fun h0=>?_)
 ·rw [Q7] at h0
  simp [Q3y,h0]
 rw [Q9] at h0
 refine Ret.bind (Q5o l (fun a0=>Q38 a0 g) (fun b=>ieq b.var g.var) (fun _ _=>rfl)) (fun i hi=>?_)
 rcases hi with ⟨k,x,rfl,hx,hxv⟩ | ⟨rfl,hall⟩
 ·rw [if_neg (by rw [W0];omega),Q1m hx]
  simp only [U0]
  rw [Q7] at hxv
  have hG:Q3y g l=(ieq x.value.ctor (-1)&&((ieq g.op 1&&ilt x.value.n g.n)||(ieq g.op 2&&ieq x.value.n g.n))):=by
   unfold Q3y
   rw [Z8n hn (U1 hx) hxv,decide_eq_false h0]
   rfl
  rw [hG]
  generalize ieq x.value.ctor (-1)=b1
  generalize ieq g.op 1=b2
  generalize ilt x.value.n g.n=b3
  generalize ieq g.op 2=b4
  generalize ieq x.value.n g.n=b5
  cases b1<;>cases b2<;>cases b3<;>cases b4<;>cases b5<;>exact .some rfl
 ·refine .some ?_
  have hf:l.find? (fun b=>decide (b.var=g.var))=none:=List.find?_eq_none.2 fun x hx=>by
   have:=hall x hx
   rw [Q9] at this
   simpa using this
  simp [Q3y,hf,h0]
def matR:Option (List Z3)→List Z3×Bool
 | none=>([],false)
 | some l=>(Q6h l,true)
theorem Z8b {n:Nat}(hn:1000≤n){w:List Q2}(hw:WW w){t:Q3}(ht:t∈tys w){p:Q5}(g:Q2r w 10 t p=true)(ln:linD w 10 t p=true)(hc:cntP p≤1000){e:Nat}{v:Q0}(hv:Q5p w e t v)(he:e≤10) :
  Q3l n p v=some (matR (W4 10 p v)):=by
 suffices hs:Ret (Q3l n p v) (fun r=>r=matR (W4 10 p v)) by
  obtain ⟨a,e,rfl⟩:=hs
  exact e
 have hdv:=Z48 e 10 v he (Z2c hw e t v ht hv)
 unfold Q3l
 refine Ret.bind (W2x hw 10 n t p v e ht g hv (by omega) hc) (fun r hr=>?_)
 obtain ⟨_,h2,h3⟩:=hr
 cases hm:W4 10 p v with
 | none=>
  rw [hm] at h2
  simp only [Option.isSome_none] at h2
  rw [h2]
  exact .some rfl
 | some l=>
  rw [hm] at h2
  simp only [Option.isSome_some] at h2
  have h1:=h3 l hm
  have hb:=Q4o g ln hm
  rw [h2,h1]
  simp only [Bool.not_true,U2,if_false]
  rw [W2i (by omega) (by have:=hb.ln;omega) hb.nd hb.rg]
  have hpm:=Q42 hb.rg
  simp only [U0]
  rw [Z61 (by simp [hpm.length_eq])]
  simp only [U0]
  have hdb:∀ b∈Q6h l,Q8z 10 b.value:=fun b hb'=>by
   obtain ⟨e',h1,h2⟩:=Z7d 10 p 10 v l hdv hm b (hpm.mem_iff.1 hb')
   exact Z48 _ _ _ h1 h2
  rw [show matR (some l)=(Q6h l,true) from rfl]
  generalize Q6h l=r at *
  refine Ret.ctl (Z9 r (fun _ s=>s=r) (fun _=>False) (fun s=>s=r) rfl (fun k b s hb hI=>?_) (fun s hI=>hI)) (fun r hr=>hr.elim) (fun s hs=>.some (by rw [hs]))
  subst hI
  have hk:=(List.getElem?_eq_some_iff.1 hb).1
  have hy:s[k]?=some s[k]:=by simp
  rw [Q1m hy]
  simp only [U0]
  rw [Z4y 10 n _ (hdb _ (U1 hy)) (by omega)]
  simp only [U0]
  rw [Z26 (by omega) (by omega)]
  refine .some ?_
  exact List.set_getElem_self (as:=s) (i:=k) hk
theorem Q9v {α:Type}{l:List α}{k:Nat}{x:α}(h:l[k]?=some x):l.drop k=x::l.drop (k+1):=by
 obtain ⟨hk,rfl⟩:=List.getElem?_eq_some_iff.1 h
 exact List.drop_eq_getElem_cons hk
theorem X98 {n:Nat}(hn:1000≤n){w:List Q2}(hw:WW w){t:Q3}(ht:t∈tys w){l:List X1}(hl:∀ c∈l,Q5w w t c.pat=true){e:Nat}{v:Q0}(hv:Q5p w e t v)(he:e≤10) :
  Q6u n l v=some (runR (runD v 0 l)):=by
 suffices hs:Ret (Q6u n l v) (fun r=>r=runR (runD v 0 l)) by
  obtain ⟨a,e,rfl⟩:=hs
  exact e
 unfold Q6u
 refine Ret.ctl (Z9 l (fun k _=>runD v 0 l=runD v k (l.drop k)) (fun r:Int×List Z3=>r=runR (runD v 0 l)) (fun _=>runD v 0 l=none) rfl (fun k c s hc hI=>?_) (fun s hI=>by rw [hI,List.drop_length];rfl)) (fun r hr=>.some hr) (fun s hs=>.some (by rw [hs];rfl))
 obtain ⟨g,c1,ln⟩:=Q24 (hl c (U1 hc))
 rw [Q9v hc] at hI
 simp only [runD] at hI
 rw [Z8b hn hw ht g ln (by omega) hv he]
 simp only [U0]
 cases hm:W4 10 c.pat v with
 | none=>
  simp only [hm] at hI
  simp only [matR,U2,if_false,U0]
  exact .some hI
 | some r=>
  simp only [hm] at hI
  have hb:=Q4o g ln hm
  have hn:((Q6h r).map (·.var)).Nodup:=((Q42 hb.rg).map _).nodup_iff.2 hb.nd
  simp only [matR,if_true]
  rw [X0d _ hn,X2t hb]
  simp only [U0]
  cases hg:Q3y c.guard r with
  | true=>
   rw [hg] at hI
   simp only [if_true,U0] at hI ⊢
   exact .some (by simp only [X48];rw [hI];rfl)
  | false=>
   rw [hg] at hI
   simp only [U2,if_false,U0] at hI ⊢
   exact .some hI
def cntV:Q0→Nat
 | ⟨_,_,kids⟩=>1+cntVs kids
where cntVs:List Q0→Nat
 | []=>0
 | v::l=>cntV v+cntVs l
theorem Z2v (v:Q0):cntV v=1+cntV.cntVs v.kids:=by cases v;rw [cntV]
theorem Z05:∀ (l:List Q0) (k:Nat) (q:Q0),l[k]?=some q→cntV.cntVs (l.take (k+1))=cntV.cntVs (l.take k)+cntV q
 | [],k,q,h=>by simp at h
 | p::l,0,q,h=>by simp at h;subst h;simp [cntV.cntVs]
 | p::l,k+1,q,h=>by
  have:=Z05 l k q (by simpa using h)
  simp only [List.take_succ_cons,cntV.cntVs]
  omega
theorem Q6o:∀ (l:List Q0) (k:Nat),cntV.cntVs (l.take k)≤cntV.cntVs l
 | [],k=>by simp
 | p::l,0=>by simp [cntV.cntVs]
 | p::l,k+1=>by
  have:=Q6o l k
  simp only [List.take_succ_cons,cntV.cntVs]
  omega
def Q20 (w:List Q2):Nat→Q3→Q0→Bool
 | 0,_,_=>false
 | d+1,t,v=>if t.data = -1 then decide (v.ctor = -1)&&(decide (0≤v.n)&&(decide (v.n≤9)&&decide (v.kids.length=0)))
  else decide (v.n=0)&&(decide (v.ctor∈Y0 w t)&&(decide (v.kids.length=(Q0z w t v.ctor).length)&&((Q0z w t v.ctor).zip v.kids).all fun x=>Q20 w d x.1 x.2))
theorem Z7k {w:List Q2} : ∀ (d:Nat) (t:Q3) (v:Q0),Q20 w d t v=true↔Q5p w d t v:=by
 intro d
 induction d with
 | zero=>intro t v;simp [Q20,Q5p]
 | succ d ih=>
  intro t v
  rw [Q20,Q5p]
  split
  ·simp only [Bool.and_eq_true,decide_eq_true_eq,List.length_eq_zero_iff]
  ·simp only [Bool.and_eq_true,decide_eq_true_eq,List.all_eq_true]
   constructor
   ·rintro ⟨h1,h2,h3,h4⟩
    exact ⟨h1,h2,h3,fun j a x ha hx=>(ih a x).1 (h4 (a,x) (U1 (Q3m ha hx)))⟩
   ·rintro ⟨h1,h2,h3,h4⟩
    refine ⟨h1,h2,h3,fun x hx=>?_⟩
    obtain ⟨j,hj⟩:=List.mem_iff_getElem?.1 hx
    obtain ⟨e1,e2⟩:=List.getElem?_zip_eq_some.1 hj
    exact (ih _ _).2 (h4 j _ _ e1 e2)
def okV (w:List Q2)(d:Nat)(t:Q3)(v:Q0)(c:Nat):Bool:=Q20 w d t v&&decide (c+cntV v≤60)
def Q14 (w:List Q2)(t:Q3)(v:Q0):Bool:=Q20 w 10 t v&&decide (cntV v≤60)
theorem Q5h {w:List Q2}{t:Q3}{v:Q0}(h:Q14 w t v=true):Q5p w 10 t v:=by
 simp only [Q14,Bool.and_eq_true] at h
 exact (Z7k 10 t v).1 h.1
theorem X8u {w:List Q2}{d:Nat}{t:Q3}{v:Q0}{c:Nat}(h:Q20 w d t v=false):okV w d t v c=false:=by simp [okV,h]
theorem W9c {w:List Q2}(hw:WW w):∀ (d n:Nat) (t:Q3) (v:Q0) (c:Nat),t∈tys w→c≤60→d+2≤n→d≤10→
  Ret (Q1f n w t v (11-(d:Int)) false (c:Int)) (fun r=>r.1=okV w d t v c∧(okV w d t v c=true→r.2=((c+cntV v:Nat):Int))):=by
 intro d
 induction d with
 | zero=>
  intro n t v c ht hc hn hd
  obtain ⟨n,rfl⟩:∃ k,n=k+1:=⟨n-1,by omega⟩
  have hb:okV w 0 t v c=false:=X8u rfl
  unfold Q1f
  refine Ret.ite (fun _=>.some ⟨hb.symm,fun h=>by rw [hb] at h;cases h⟩) (fun _=>?_)
  rw [if_pos (by rw [W0];omega)]
  exact .some ⟨hb.symm,fun h=>by rw [hb] at h;cases h⟩
 | succ d ih=>
  intro n t v c ht hc hn hd
  obtain ⟨n,rfl⟩:∃ k,n=k+1:=⟨n-1,by omega⟩
  have hT:=hw.ty t ht
  unfold Q1f
  have hc1:wadd .i64 (c:Int) 1=((c+1:Nat):Int):=by rw [Q0f]<;>omega
  rw [hc1]
  have hpos:1≤cntV v:=by rw [Z2v];omega
  refine Ret.ite (fun hlt=>?_) (fun hle=>?_)
  ·rw [W0] at hlt
   have hb:okV w (d+1) t v c=false:=by simp only [okV,Bool.and_eq_false_iff,decide_eq_false_iff_not];right;omega
   exact .some ⟨hb.symm,fun h=>by rw [hb] at h;cases h⟩
  rw [Q3x] at hle
  rw [if_neg (by rw [W0];omega),if_neg (by simp)]
  have bad:Q20 w (d+1) t v=false→okV w (d+1) t v c=false:=X8u
  refine Ret.ctl (R:=fun r:Bool×Int=>r.1=okV w (d+1) t v c∧(okV w (d+1) t v c=true→r.2=((c+cntV v:Nat):Int))) (B:=fun _:Unit=>t.data≠-1∧v.n=0∧v.ctor∈Y0 w t) ?_ (fun r hr=>.some hr) (fun s hs=>?_)
  ·refine Ret.ite (fun hi=>?_) (fun hi=>?_)
   ·rw [Q7] at hi
    have hg:Q20 w (d+1) t v=(decide (v.ctor = -1)&&(decide (0≤v.n)&&(decide (v.n≤9)&&decide (v.kids.length=0)))):=by rw [Q20,if_pos hi]
    refine Ret.ite (fun h1=>?_) (fun h1=>?_)
    ·rw [Q7] at h1
     rw [Q5v]
     simp only [U0]
     refine Ret.ite (fun h2=>?_) (fun h2=>?_)
     ·simp only [Bool.and_eq_true,decide_eq_true_eq] at h2
      have hk:Q20 w (d+1) t v=decide (v.kids.length=0):=by rw [hg];simp [h1,h2.1,h2.2]
      refine .some ?_
      have h0:v.kids.length=0→cntV v=1:=fun h=>by rw [Z2v,List.eq_nil_of_length_eq_zero h];rfl
      by_cases hz:v.kids.length=0
      ·have e1:okV w (d+1) t v c=true:=by simp only [okV,hk,hz,decide_true,Bool.true_and,decide_eq_true_eq];have:=h0 hz;omega
       rw [e1]
       refine ⟨?_,fun _=>?_⟩
       ·simp only [Q7,lenZ];omega
       ·have:=h0 hz;simp only;omega
      ·have e1:okV w (d+1) t v c=false:=bad (by rw [hk];simp [hz])
       rw [e1]
       refine ⟨?_,fun h=>by cases h⟩
       simp only [Q9,lenZ];omega
     ·have e1:okV w (d+1) t v c=false:=bad (by
       rw [hg]
       simp only [Bool.and_eq_false_iff,decide_eq_false_iff_not] at h2 ⊢
       rcases h2 with h2 | h2
       ·exact .inr (.inl h2)
       ·exact .inr (.inr (.inl h2)))
      exact .some ⟨e1.symm,fun h=>by rw [e1] at h;cases h⟩
    ·rw [Q9] at h1
     have e1:okV w (d+1) t v c=false:=bad (by rw [hg];simp [h1])
     exact .some ⟨e1.symm,fun h=>by rw [e1] at h;cases h⟩
   ·rw [Q9] at hi
    have hg:Q20 w (d+1) t v=(decide (v.n=0)&&(decide (v.ctor∈Y0 w t)&&(decide (v.kids.length=(Q0z w t v.ctor).length)&&((Q0z w t v.ctor).zip v.kids).all fun x=>Q20 w d x.1 x.2))):=by rw [Q20,if_neg hi]
    refine Ret.ite (fun h1=>?_) (fun h1=>?_)
    ·rw [Bool.not_eq_true',Q9] at h1
     have e1:okV w (d+1) t v c=false:=bad (by rw [hg];simp [h1])
     exact .some ⟨e1.symm,fun h=>by rw [e1] at h;cases h⟩
    rw [Bool.not_eq_false',Q7] at h1
    rw [hT.c2]
    simp only [U0]
    rw [Q7g]
    simp only [U0]
    refine Ret.ite (fun h2=>?_) (fun h2=>?_)
    ·rw [Bool.not_eq_true',decide_eq_false_iff_not] at h2
     have e1:okV w (d+1) t v c=false:=bad (by rw [hg];simp [h2])
     exact .some ⟨e1.symm,fun h=>by rw [e1] at h;cases h⟩
    rw [Bool.not_eq_false',decide_eq_true_eq] at h2
    exact .some ⟨hi,h1,h2⟩
  ·obtain ⟨s1,s2,s3⟩:=hs
   have hg:Q20 w (d+1) t v=(decide (v.kids.length=(Q0z w t v.ctor).length)&&((Q0z w t v.ctor).zip v.kids).all fun x=>Q20 w d x.1 x.2):=by rw [Q20,if_neg s1];simp [s2,s3]
   rw [hT.a2 _ s3]
   simp only [U0]
   refine Ret.ite (fun hl=>?_) (fun hl=>?_)
   ·rw [Bool.not_eq_true',Q9] at hl
    simp only [lenZ] at hl
    have e1:okV w (d+1) t v c=false:=bad (by rw [hg];simp only [Bool.and_eq_false_iff,decide_eq_false_iff_not];left;omega)
    exact .some ⟨e1.symm,fun h=>by rw [e1] at h;cases h⟩
   rw [Bool.not_eq_false',Q7] at hl
   simp only [lenZ] at hl
   have hcv:=Z2v v
   refine Ret.ctl (Z9 v.kids (fun k s=>s=((c+1+cntV.cntVs (v.kids.take k):Nat):Int)∧c+1+cntV.cntVs (v.kids.take k)≤60∧∀ (j:Nat) (a:Q3) (x:Q0),j<k→(Q0z w t v.ctor)[j]?=some a→v.kids[j]?=some x→Q20 w d a x=true) (fun r:Bool×Int=>r.1=okV w (d+1) t v c∧(okV w (d+1) t v c=true→r.2=((c+cntV v:Nat):Int))) (fun s=>s=((c+cntV v:Nat):Int)∧okV w (d+1) t v c=true) ⟨by simp [cntV.cntVs],by simp only [List.take_zero,cntV.cntVs];omega,fun j a x hj=>by omega⟩ (fun k x s hx hI=>?_) (fun s hI=>?_)) (fun r hr=>.some hr) (fun s hs=>.some ⟨hs.2.symm,fun _=>hs.1⟩)
   ·obtain ⟨rfl,i2,i3⟩:=hI
    have hk:=(List.getElem?_eq_some_iff.1 hx).1
    have ha:(Q0z w t v.ctor)[k]?=some ((Q0z w t v.ctor)[k]'(by omega)):=by simp
    rw [Q1m ha]
    simp only [U0]
    have hdd:wadd .i64 (11-((d+1:Nat):Int)) 1=11-(d:Int):=by rw [Q0f]<;>omega
    rw [hdd]
    refine Ret.bind (ih n _ x _ (hT.at_ _ s3 _ (U1 ha)) i2 (by omega) (by omega)) (fun r hr=>?_)
    obtain ⟨r1,r2⟩:=hr
    have htk:=Z05 v.kids k x hx
    refine Ret.ite (fun h=>?_) (fun h=>?_)
    ·rw [Bool.not_eq_true',r1] at h
     have e1:okV w (d+1) t v c=false:=by
      simp only [okV,Bool.and_eq_false_iff,decide_eq_false_iff_not] at h ⊢
      rcases h with h | h
      ·left
       rw [hg,Bool.and_eq_false_iff]
       right
       rw [List.all_eq_false]
       exact ⟨_,U1 (Q3m ha hx),by simp [h]⟩
      ·right
       have:=Q6o v.kids (k+1)
       omega
     exact .some ⟨e1.symm,fun h=>by rw [e1] at h;cases h⟩
    ·rw [Bool.not_eq_false',r1] at h
     have r3:=r2 h
     simp only [okV,Bool.and_eq_true,decide_eq_true_eq] at h
     refine .some ⟨?_,by omega,fun j a y hj h1 h2=>?_⟩
     ·rw [r3];omega
     ·by_cases hjk:j=k
      ·subst hjk
       rw [ha] at h1
       rw [hx] at h2
       cases h1
       cases h2
       exact h.1
      ·exact i3 j a y (by omega) h1 h2
   ·obtain ⟨rfl,i2,i3⟩:=hI
    rw [List.take_length] at i2 ⊢
    refine ⟨by omega,?_⟩
    simp only [okV,Bool.and_eq_true,decide_eq_true_eq]
    refine ⟨?_,by omega⟩
    rw [hg]
    simp only [Bool.and_eq_true,decide_eq_true_eq,List.all_eq_true]
    refine ⟨by omega,fun y hy=>?_⟩
    obtain ⟨j,hj⟩:=List.mem_iff_getElem?.1 hy
    obtain ⟨e1,e2⟩:=List.getElem?_zip_eq_some.1 hj
    exact i3 j _ _ (List.getElem?_eq_some_iff.1 e2).1 e1 e2
theorem Z0n {n:Nat}(hn:1000≤n){w:List Q2}(hw:WW w){t:Q3}(ht:t∈tys w)(v:Q0):Q12 n w t v=some (Q14 w t v):=by
 suffices hs:Ret (Q12 n w t v) (fun r=>r=Q14 w t v) by
  obtain ⟨a,e,rfl⟩:=hs
  exact e
 unfold Q12
 refine Ret.bind (W9c hw 10 n t v 0 ht (by omega) (by omega) (by omega)) (fun r hr=>.some ?_)
 rw [hr.1]
 simp [okV,Q14]
theorem W3v {w:List Q2} : ∀ (d e:Nat) (t:Q3) (v:Q0),d≤e→Q5p w d t v→Q5p w e t v:=by
 intro d
 induction d with
 | zero=>intro e t v _ h;exact h.elim
 | succ d ih=>
  intro e t v he h
  obtain ⟨e,rfl⟩:∃ k,e=k+1:=⟨e-1,by omega⟩
  rw [Q5p] at h ⊢
  split
  ·rename_i hd;rw [if_pos hd] at h;exact h
  ·rename_i hd
   rw [if_neg hd] at h
   exact ⟨h.1,h.2.1,h.2.2.1,fun j a x ha hx=>ih e a x (by omega) (h.2.2.2 j a x ha hx)⟩
theorem len0 (n:Nat):ieq (lenZ n) 0=decide (n=0):=by
 by_cases h:n=0
 ·subst h;rfl
 ·rw [decide_eq_false h,Q9];simp only [lenZ];omega
theorem Q63 {w:List Q2}{t:Q3}{cs:List X1}(h:Q6p w t cs=true):cs.length≤8∧∀ c∈cs,Q5w w t c.pat=true:=by
 simp only [Q6p,Bool.and_eq_true,decide_eq_true_eq,List.all_eq_true] at h
 refine ⟨h.1,fun c hc=>?_⟩
 have:=h.2 c hc
 simp only [Q6b,Bool.and_eq_true] at this
 exact this.1
theorem Z27 {v:Q0} : ∀ {cs:List X1} {k:Nat} {x:Nat×List Z3},runD v k cs=some x→∃ i c b,cs[i]?=some c∧x.1=k+i∧W4 10 c.pat v=some b∧Q3y c.guard b=true∧x.2=Q6h b∧∀ (j:Nat) (c':X1),j<i→cs[j]?=some c'→∀ b',W4 10 c'.pat v=some b'→Q3y c'.guard b'=false
 | [],_,_,h=>by cases h
 | c::cs,k,x,h=>by
  simp only [runD] at h
  cases hm:W4 10 c.pat v with
  | none=>
   rw [hm] at h
   obtain ⟨i,c1,b,h1,h2,h3,h4,h5,h6⟩:=Z27 h
   refine ⟨i+1,c1,b,by simpa using h1,by omega,h3,h4,h5,fun j c' hj hc' b' hb'=>?_⟩
   cases j with
   | zero=>simp only [List.getElem?_cons_zero,Option.some.injEq] at hc';subst hc';rw [hm] at hb';cases hb'
   | succ j=>exact h6 j c' (by omega) (by simpa using hc') b' hb'
  | some l=>
   rw [hm] at h
   simp only at h
   split at h
   ·rename_i hg
    cases h
    exact ⟨0,c,l,rfl,rfl,hm,hg,rfl,fun j c' hj=>by omega⟩
   ·rename_i hg
    obtain ⟨i,c1,b,h1,h2,h3,h4,h5,h6⟩:=Z27 h
    refine ⟨i+1,c1,b,by simpa using h1,by omega,h3,h4,h5,fun j c' hj hc' b' hb'=>?_⟩
    cases j with
    | zero=>simp only [List.getElem?_cons_zero,Option.some.injEq] at hc';subst hc';rw [hm] at hb';cases hb';simpa using hg
    | succ j=>exact h6 j c' (by omega) (by simpa using hc') b' hb'
def cntE:Z4→Nat
 | ⟨_,_,_,kids⟩=>1+cntEs kids
where cntEs:List Z4→Nat
 | []=>0
 | e::l=>cntE e+cntEs l
theorem Z8v (e:Z4):cntE e=1+cntE.cntEs e.kids:=by cases e;rw [cntE]
def Q81 (a b:Q3):Bool:=decide (a.data=b.data)&&(decide (b.index=0)||decide (a.index=b.index))
def J2 (w:List Q2)(T:List Q8)(t:Q3)(e:Z4):List Q3:=
 if e.op=3 then Q0z w t e.ctor else if e.op=4 then [t,t] else if e.op=5 then [(T[e.n.toNat]?).elim tI fun f=>f.arg] else []
def Q29 (w:List Q2)(T:List Q8)(vars:List Q1)(t:Q3)(e:Z4):Bool:=
 if e.op=1 then decide (t.data = -1)&&(decide (0≤e.n)&&decide (e.n≤9))&&decide (e.ctor=0)
 else if e.op=2 then ((vars.find? fun v=>decide (v.var=e.n)).elim false fun v=>Q81 v.typ t)&&decide (e.ctor=0)
 else if e.op=3 then decide (e.n=0)&&decide (e.ctor∈Y0 w t)
 else if e.op=4 then decide (t.data = -1)&&decide (e.n=0)&&decide (e.ctor=0)
 else if e.op=5 then (decide (0≤e.n)&&decide (e.n<T.length))&&decide (e.ctor=0)&&((T[e.n.toNat]?).elim false fun f=>Q81 f.res t)
 else false
def Q51 (w:List Q2)(T:List Q8)(vars:List Q1):Nat→Q3→Z4→Bool
 | 0,_,_=>false
 | d+1,t,e=>Q29 w T vars t e&&(decide (e.kids.length=(J2 w T t e).length)&&((J2 w T t e).zip e.kids).all fun x=>Q51 w T vars d x.1 x.2)
def Q6d (w:List Q2)(T:List Q8)(vars:List Q1)(t:Q3)(e:Z4):Bool:=Q51 w T vars 10 t e&&decide (cntE e≤60)
def zV:Q0:=Q0.mk 0 0 []
structure Rn where
 fuel:Int
 count:Int
 code:Int
def Z6x (l:List Z3)(x:Int):Q0:=(l.find? fun b=>decide (b.var=x)).elim zV fun b=>b.value
def evK (ev:Q3→Z4→Rn→Q0×Rn):List Q3→List Z4→Rn→List Q0×Rn
 | t::ts,e::es,s=>if (ev t e s).2.code=0 then ((ev t e s).1::(evK ev ts es (ev t e s).2).1,(evK ev ts es (ev t e s).2).2) else ([],(ev t e s).2)
 | _,_,s=>([],s)
def finE (w:List Q2)(cl:Int→Q0→Rn→Q0×Rn)(t:Q3)(e:Z4)(q:List Q0×Rn):Q0×Rn:=
 if q.2.code≠0 then (zV,q.2)
 else if e.op=4 then (Q0.mk (-1) (((q.1.getD 0 zV).n+(q.1.getD 1 zV).n) % 10) [],q.2)
 else if e.op=3 then (if Q14 w t (Q0.mk e.ctor 0 q.1)=true then (Q0.mk e.ctor 0 q.1,q.2) else (zV,⟨q.2.fuel,q.2.count,4⟩))
 else cl e.n (q.1.getD 0 zV) q.2
def evE (w:List Q2)(T:List Q8)(cl:Int→Q0→Rn→Q0×Rn)(l:List Z3):Nat→Q3→Z4→Rn→Q0×Rn
 | 0,_,_,s=>(zV,s)
 | d+1,t,e,s=>if e.op=1 then (Q0.mk (-1) e.n [],s) else if e.op=2 then (Z6x l e.n,s)
  else finE w cl t e (evK (evE w T cl l d) (J2 w T t e) e.kids s)
def evC (w:List Q2)(F:List GFun):Nat→Int→Q0→Rn→Q0×Rn
 | 0,_,_,s=>(zV,⟨s.fuel,s.count,if s.fuel=0 then 2 else 3⟩)
 | k+1,f,v,s=>if s.fuel=0 then (zV,⟨s.fuel,s.count,2⟩) else
  match F[f.toNat]? with
  | none=>(zV,s)
  | some g=>match runD v 0 g.clauses with
   | none=>(zV,⟨s.fuel-1,s.count+1,1⟩)
   | some x=>evE w (F.map (·.typ)) (evC w F k) x.2 10 g.typ.res (g.bodies.getD x.1 default) ⟨s.fuel-1,s.count+1,s.code⟩
theorem Z2d {w:List Q2}{T:List Q8}{vars:List Q1}{d:Nat}{t:Q3}{e:Z4}(h:Q51 w T vars (d+1) t e=true):Q29 w T vars t e=true∧e.kids.length=(J2 w T t e).length:=by
 simp only [Q51,Bool.and_eq_true,decide_eq_true_eq] at h
 exact ⟨h.1,h.2.1⟩
theorem Q9o {w:List Q2}{T:List Q8}{vars:List Q1}{d:Nat}{t:Q3}{e:Z4}(h:Q51 w T vars (d+1) t e=true){k:Nat}{a:Q3}{q:Z4}(h1:(J2 w T t e)[k]?=some a)(h2:e.kids[k]?=some q):Q51 w T vars d a q=true:=by
 simp only [Q51,Bool.and_eq_true,decide_eq_true_eq,List.all_eq_true] at h
 exact h.2.2 (a,q) (U1 (Q3m h1 h2))
theorem Z42 {w:List Q2}{T:List Q8}{vars:List Q1}{t:Q3}{e:Z4}(h:Q29 w T vars t e=true):e.op=1∨e.op=2∨e.op=3∨e.op=4∨e.op=5:=by
 unfold Q29 at h
 split at h;· exact .inl ‹_›
 split at h;· exact .inr (.inl ‹_›)
 split at h;· exact .inr (.inr (.inl ‹_›))
 split at h;· exact .inr (.inr (.inr (.inl ‹_›)))
 split at h;· exact .inr (.inr (.inr (.inr ‹_›)))
 cases h
theorem V73 {w:List Q2}{T:List Q8}{vars:List Q1}{t:Q3}{e:Z4}(h:Q29 w T vars t e=true)(ho:e.op=1):t.data = -1∧0≤e.n∧e.n≤9∧e.ctor=0:=by
 simp only [Q29,if_pos ho,Bool.and_eq_true,decide_eq_true_eq] at h
 exact ⟨h.1.1,h.1.2.1,h.1.2.2,h.2⟩
theorem V2g {w:List Q2}{T:List Q8}{vars:List Q1}{t:Q3}{e:Z4}(h:Q29 w T vars t e=true)(ho:e.op=2):∃ v,vars.find? (fun v=>decide (v.var=e.n))=some v∧Q81 v.typ t=true:=by
 simp only [Q29,if_neg (show ¬e.op=1 by omega),if_pos ho,Bool.and_eq_true] at h
 cases hf:vars.find? (fun v=>decide (v.var=e.n)) with
 | none=>rw [hf] at h;simp at h
 | some v=>rw [hf] at h;exact ⟨v,rfl,h.1⟩
theorem W2v {w:List Q2}{T:List Q8}{vars:List Q1}{t:Q3}{e:Z4}(h:Q29 w T vars t e=true)(ho:e.op=3):e.n=0∧e.ctor∈Y0 w t:=by
 simp only [Q29,if_neg (show ¬e.op=1 by omega),if_neg (show ¬e.op=2 by omega),if_pos ho,Bool.and_eq_true,decide_eq_true_eq] at h
 exact h
theorem W2u {w:List Q2}{T:List Q8}{vars:List Q1}{t:Q3}{e:Z4}(h:Q29 w T vars t e=true)(ho:e.op=4):t.data = -1:=by
 simp only [Q29,if_neg (show ¬e.op=1 by omega),if_neg (show ¬e.op=2 by omega),if_neg (show ¬e.op=3 by omega),if_pos ho,Bool.and_eq_true,decide_eq_true_eq] at h
 exact h.1.1
theorem X8x {w:List Q2}{T:List Q8}{vars:List Q1}{t:Q3}{e:Z4}(h:Q29 w T vars t e=true)(ho:e.op=5):0≤e.n∧e.n<T.length∧∃ f,T[e.n.toNat]?=some f∧Q81 f.res t=true:=by
 simp only [Q29,if_neg (show ¬e.op=1 by omega),if_neg (show ¬e.op=2 by omega),if_neg (show ¬e.op=3 by omega),if_neg (show ¬e.op=4 by omega),if_pos ho,Bool.and_eq_true,decide_eq_true_eq] at h
 refine ⟨h.1.1.1,h.1.1.2,?_⟩
 cases hf:T[e.n.toNat]? with
 | none=>rw [hf] at h;simp at h
 | some v=>rw [hf] at h;exact ⟨v,rfl,h.2⟩
theorem Q9k {w:List Q2}(hw:WW w){T:List Q8}(hT:∀ f∈T,f.arg∈tys w){vars:List Q1}{t:Q3}(ht:t∈tys w){e:Z4}(h:Q29 w T vars t e=true):∀ a∈J2 w T t e,a∈tys w:=fun a ha=>by
 unfold J2 at ha
 split at ha
 ·exact (hw.ty t ht).at_ _ (W2v h ‹_›).2 a ha
 split at ha
 ·rcases U7.1 ha with rfl | ha
  ·exact ht
  ·rw [List.mem_singleton] at ha;exact ha▸ht
 split at ha
 ·obtain ⟨f,hf,_⟩:=(X8x h ‹_›).2.2
  rw [hf,List.mem_singleton] at ha
  exact ha▸hT f (U1 hf)
 ·cases ha
def W68 (w:List Q2):Bool:=(tys w).all fun t=>(tys w).all fun u=>!Q81 t u||((decide (t.data = -1)==decide (u.data = -1))&&(Y0 w t).all fun k=>decide (k∈Y0 w u)&&(decide ((Q0z w t k).length=(Q0z w u k).length)&&((Q0z w t k).zip (Q0z w u k)).all fun x=>Q81 x.1 x.2))
theorem X6u:Q4e.all W68=true:=by kernel_rfl
structure Fit (w:List Q2):Prop where
 d:∀ t∈tys w,∀ u∈tys w,Q81 t u=true→(t.data = -1↔u.data = -1)
 c:∀ t∈tys w,∀ u∈tys w,Q81 t u=true→∀ k∈Y0 w t,k∈Y0 w u∧(Q0z w t k).length=(Q0z w u k).length∧∀ (j:Nat) (a b:Q3),(Q0z w t k)[j]?=some a→(Q0z w u k)[j]?=some b→Q81 a b=true
theorem W03 {w:List Q2}(h:w∈Q4e):Fit w:=by
 have h1:=List.all_eq_true.1 X6u w h
 simp only [W68,List.all_eq_true,Bool.or_eq_true,Bool.and_eq_true,Bool.not_eq_true',decide_eq_true_eq,beq_iff_eq,decide_eq_decide] at h1
 refine ⟨fun t ht u hu hf=>?_,fun t ht u hu hf k hk=>?_⟩
 ·rcases h1 t ht u hu with h2 | h2
  ·rw [hf] at h2;cases h2
  ·exact h2.1
 ·rcases h1 t ht u hu with h2 | h2
  ·rw [hf] at h2;cases h2
  ·obtain ⟨g1,g2,g3⟩:=h2.2 k hk
   exact ⟨g1,g2,fun j a b ha hb=>g3 (a,b) (U1 (Q3m ha hb))⟩
theorem W44 {w:List Q2}(hw:WW w)(hf:Fit w):∀ (d:Nat) (t u:Q3) (v:Q0),t∈tys w→u∈tys w→Q81 t u=true→Q5p w d t v→Q5p w d u v:=by
 intro d
 induction d with
 | zero=>intro t u v _ _ _ h;exact h.elim
 | succ d ih=>
  intro t u v ht hu h hv
  simp only [Q5p] at hv ⊢
  have hd:=hf.d t ht u hu h
  by_cases h1:t.data = -1
  ·rw [if_pos h1] at hv
   rw [if_pos (hd.1 h1)]
   exact hv
  ·rw [if_neg h1] at hv
   rw [if_neg (fun h2=>h1 (hd.2 h2))]
   obtain ⟨g1,g2,g3,g4⟩:=hv
   obtain ⟨c1,c2,c3⟩:=hf.c t ht u hu h _ g2
   refine ⟨g1,c1,by omega,fun j a x ha hx=>?_⟩
   have hlt:j<(Q0z w t v.ctor).length:=by have:=(List.getElem?_eq_some_iff.1 ha).1;omega
   have hb:(Q0z w t v.ctor)[j]?=some ((Q0z w t v.ctor)[j]):=by simp [hlt]
   exact ih _ a x ((hw.ty t ht).at_ _ g2 _ (U1 hb)) ((hw.ty u hu).at_ _ c1 a (U1 ha)) (c3 j _ a hb ha) (g4 j _ x hb hx)
theorem Z7t {w:List Q2}{t:Q3}{v:Q0}(h1:Q5p w 10 t v)(h2:cntV v≤60):Q14 w t v=true:=by
 simp only [Q14,Bool.and_eq_true,decide_eq_true_eq]
 exact ⟨(Z7k 10 t v).2 h1,h2⟩
theorem Z9d {w:List Q2}{t:Q3}{v:Q0}(h:Q14 w t v=true):cntV v≤60:=by
 simp only [Q14,Bool.and_eq_true,decide_eq_true_eq] at h
 exact h.2
theorem X0q {w:List Q2}(hw:WW w)(hf:Fit w){t u:Q3}{v:Q0}(ht:t∈tys w)(hu:u∈tys w)(h:Q81 t u=true)(hv:Q14 w t v=true):Q14 w u v=true:=
 Z7t (W44 hw hf 10 t u v ht hu h (Q5h hv)) (Z9d hv)
theorem X05 {w:List Q2}{t:Q3}(ht:t.data = -1){n:Int}(h0:0≤n)(h9:n≤9):Q14 w t (Q0.mk (-1) n [])=true:=by
 refine Z7t ?_ (by simp [cntV,cntV.cntVs])
 rw [Q5p,if_pos ht]
 exact ⟨rfl,h0,h9,rfl⟩
theorem Z13 {w:List Q2}{t:Q3}(ht:t.data = -1){v:Q0}(h:Q14 w t v=true):0≤v.n∧v.n≤9:=by
 have h:=Q5h h
 simp only [Q5p,if_pos ht] at h
 exact ⟨h.2.1,h.2.2.1⟩
structure W8k (w:List Q2) (T:List Q8) (g:GFun):Prop where
 arg:g.typ.arg∈tys w
 res:g.typ.res∈tys w
 cls:Q6p w g.typ.arg g.clauses=true
 len:g.bodies.length=g.clauses.length
 bod:∀ (i:Nat) (c:X1) (e:Z4),g.clauses[i]?=some c→g.bodies[i]?=some e→Q6d w T (Q1a w 10 g.typ.arg c.pat) g.typ.res e=true
def Z20 (w:List Q2)(F:List GFun):Prop:=F.length≤4∧∀ g∈F,W8k w (F.map (·.typ)) g
theorem Z8h {w:List Q2}{F:List GFun}(h:Z20 w F){n:Nat}{f:Q8}(hf:(F.map (·.typ))[n]?=some f):∃ g,F[n]?=some g∧g.typ=f∧W8k w (F.map (·.typ)) g:=by
 rw [List.getElem?_map] at hf
 cases hg:F[n]? with
 | none=>rw [hg] at hf;cases hf
 | some g=>
  rw [hg] at hf
  exact ⟨g,rfl,by simpa using hf,h.2 g (U1 hg)⟩
theorem Z8i {w:List Q2}{F:List GFun}(h:Z20 w F):∀ f∈F.map (·.typ),f.arg∈tys w:=fun f hf=>by
 obtain ⟨g,hg,rfl⟩:=U9.1 hf
 exact (h.2 g hg).arg
def ClOk (w:List Q2)(F:List GFun)(cl:Int→Q0→Rn→Q0×Rn):Prop:=∀ (f:Int) (g:GFun) (v:Q0) (s:Rn),0≤f→F[f.toNat]?=some g→Q14 w g.typ.arg v=true→s.code=0→(cl f v s).2.code=0→Q14 w g.typ.res (cl f v s).1=true
def X1a (w:List Q2)(vars:List Q1)(l:List Z3):Prop:=∀ (x:Int) (v:Q1),vars.find? (fun v=>decide (v.var=x))=some v→v.typ∈tys w∧Q14 w v.typ (Z6x l x)=true
def V4j (w:List Q2):List Q3→List Q0→Prop
 | [],[]=>True
 | t::ts,v::vs=>Q14 w t v=true∧V4j w ts vs
 | _,_=>False
theorem Z1s {w:List Q2}{ev:Q3→Z4→Rn→Q0×Rn} : ∀ (ts:List Q3) (es:List Z4) (s:Rn),es.length=ts.length→s.code=0→
  (∀ (j:Nat) (t:Q3) (e:Z4) (s:Rn),ts[j]?=some t→es[j]?=some e→s.code=0→(ev t e s).2.code=0→Q14 w t (ev t e s).1=true)→(evK ev ts es s).2.code=0→V4j w ts (evK ev ts es s).1
 | [],[],s,_,_,_,_=>trivial
 | t::ts,e::es,s,hl,hs,h,hc=>by
  simp only [evK] at hc ⊢
  split at hc
  ·rename_i h0
   rw [if_pos h0]
   exact ⟨h 0 t e s rfl rfl hs h0,Z1s ts es _ (by simpa using hl) h0 (fun j a b s h1 h2=>h (j+1) a b s h1 h2) hc⟩
  ·exact absurd hc ‹_›
theorem Z5r {w:List Q2}(hw:WW w)(hf:Fit w){F:List GFun}(hF:Z20 w F){cl:Int→Q0→Rn→Q0×Rn}(hcl:ClOk w F cl){vars:List Q1}{l:List Z3}(hl:X1a w vars l) :
  ∀ (d:Nat) (t:Q3) (e:Z4) (s:Rn),t∈tys w→Q51 w (F.map (·.typ)) vars d t e=true→s.code=0→(evE w (F.map (·.typ)) cl l d t e s).2.code=0→Q14 w t (evE w (F.map (·.typ)) cl l d t e s).1=true:=by
 intro d
 induction d with
 | zero=>intro t e s _ h;cases h
 | succ d ih=>
  intro t e s ht h hs hc
  obtain ⟨hn,hlen⟩:=Z2d h
  rw [evE] at hc ⊢
  by_cases h1:e.op=1
  ·rw [if_pos h1] at hc ⊢
   obtain ⟨a1,a2,a3,_⟩:=V73 hn h1
   exact X05 a1 a2 a3
  rw [if_neg h1] at hc ⊢
  by_cases h2:e.op=2
  ·rw [if_pos h2] at hc ⊢
   obtain ⟨v,hv,hfit⟩:=V2g hn h2
   obtain ⟨k1,k2⟩:=hl _ v hv
   exact X0q hw hf k1 ht hfit k2
  rw [if_neg h2] at hc ⊢
  have hkt:=Q9k hw (Z8i hF) ht hn
  have hq:=Z1s (w:=w) (ev:=evE w (F.map (·.typ)) cl l d) (J2 w (F.map (·.typ)) t e) e.kids s hlen hs (fun j a x s' ha hx hs'=>ih a x s' (hkt a (U1 ha)) (Q9o h ha hx) hs')
  generalize hqe:evK (evE w (F.map (·.typ)) cl l d) (J2 w (F.map (·.typ)) t e) e.kids s=q at *
  unfold finE at hc ⊢
  split at hc
  ·rename_i hne;exact absurd hc hne
  rename_i hne
  rw [if_neg hne]
  have h0:q.2.code=0:=by simpa using hne
  have hq:=hq h0
  rcases Z42 hn with ho | ho | ho | ho | ho
  ·exact absurd ho h1
  ·exact absurd ho h2
  ·rw [if_neg (by omega),if_pos ho] at hc ⊢
   split at hc
   ·rename_i hv;rw [if_pos hv];exact hv
   ·cases hc
  ·rw [if_pos ho]
   exact X05 (W2u hn ho) (by omega) (by omega)
  ·rw [if_neg (by omega),if_neg (by omega)] at hc ⊢
   obtain ⟨n0,n1,f,hfn,hfit⟩:=X8x hn ho
   obtain ⟨g,hg,rfl,gok⟩:=Z8h hF hfn
   have hk:J2 w (F.map (·.typ)) t e=[g.typ.arg]:=by
    unfold J2
    rw [if_neg (by omega),if_neg (by omega),if_pos ho,hfn]
    rfl
   rw [hk] at hq
   match hq1:q.1,hq with
   | [v],hq=>
    have:=hcl e.n g v q.2 n0 hg hq.1 h0
    rw [hq1] at hc
    exact X0q hw hf gok.res ht hfit (this hc)
def Acc (s:Rn)(r:Rn):Prop:=r.count+r.fuel=s.count+s.fuel∧r.fuel≤s.fuel∧0≤r.fuel∧(r.code=2→r.fuel=0)
theorem Acc.refl {s:Rn}(h:0≤s.fuel)(hs:s.code=0):Acc s s:=⟨rfl,Int.le_refl _,h,fun h2=>by omega⟩
theorem Acc.trans {a b c:Rn}(h:Acc a b)(k:Acc b c):Acc a c:=⟨by have:=h.1;have:=k.1;omega,by have:=h.2.1;have:=k.2.1;omega,k.2.2.1,k.2.2.2⟩
def W53 (cl:Int→Q0→Rn→Q0×Rn):Prop:=∀ f v (s:Rn),0≤s.fuel→s.code=0→Acc s (cl f v s).2
theorem X3j {ev:Q3→Z4→Rn→Q0×Rn}(hev:∀ t e (s:Rn),0≤s.fuel→s.code=0→Acc s (ev t e s).2):∀ (ts:List Q3) (es:List Z4) (s:Rn),0≤s.fuel→s.code=0→Acc s (evK ev ts es s).2
 | [],_,s,h,hs=>by simp only [evK];exact .refl h hs
 | _::_,[],s,h,hs=>by simp only [evK];exact .refl h hs
 | t::ts,e::es,s,h,hs=>by
  have h1:=hev t e s h hs
  simp only [evK]
  split
  ·exact h1.trans (X3j hev ts es _ h1.2.2.1 ‹_›)
  ·exact h1
theorem W45 {w:List Q2}{cl:Int→Q0→Rn→Q0×Rn}(hcl:W53 cl)(t:Q3)(e:Z4){s:Rn}{q:List Q0×Rn}(h:Acc s q.2):Acc s (finE w cl t e q).2:=by
 unfold finE
 split
 ·exact h
 rename_i h0
 have h0:q.2.code=0:=by simpa using h0
 split
 ·exact h
 split
 ·split
  ·exact h
  ·exact ⟨h.1,h.2.1,h.2.2.1,fun h2=>by cases h2⟩
 ·exact h.trans (hcl _ _ _ h.2.2.1 h0)
theorem Z2o (w:List Q2)(T:List Q8){cl:Int→Q0→Rn→Q0×Rn}(hcl:W53 cl)(l:List Z3):∀ (d:Nat) (t:Q3) (e:Z4) (s:Rn),0≤s.fuel→s.code=0→Acc s (evE w T cl l d t e s).2:=by
 intro d
 induction d with
 | zero=>intro t e s h hs;exact .refl h hs
 | succ d ih=>
  intro t e s h hs
  rw [evE]
  split
  ·exact .refl h hs
  split
  ·exact .refl h hs
  ·exact W45 hcl t e (X3j ih _ _ s h hs)
theorem Z5u (w:List Q2)(F:List GFun):∀ k,W53 (evC w F k):=by
 intro k
 induction k with
 | zero=>
  intro f v s h hs
  simp only [evC]
  refine ⟨rfl,Int.le_refl _,h,fun h2=>?_⟩
  split at h2
  ·assumption
  ·cases h2
 | succ k ih=>
  intro f v s h hs
  simp only [evC]
  split
  ·rename_i h0;exact ⟨rfl,Int.le_refl _,h,fun _=>h0⟩
  rename_i h0
  have h3:0≤s.fuel-1:=by omega
  split
  ·exact .refl h hs
  split
  ·exact ⟨by simp only;omega,by simp only;omega,h3,fun h2=>by cases h2⟩
  ·have:=Z2o w (F.map (·.typ)) ih ‹Nat×List Z3›.2 10 ‹GFun›.typ.res (‹GFun›.bodies.getD ‹Nat×List Z3›.1 default) ⟨s.fuel-1,s.count+1,s.code⟩ h3 hs
   exact ⟨by have:=this.1;simp only at this;omega,by have:=this.2.1;simp only at this;omega,this.2.2⟩
def Rn.more (s:Rn)(n:Int):Rn:=⟨s.fuel+n,s.count,s.code⟩
def More (n:Int)(f:Rn→Q0×Rn):Prop:=∀ s:Rn,0≤s.fuel→s.code=0→(f s).2.code≠2→f (s.more n)=((f s).1,(f s).2.more n)
theorem X53 {n:Int}{ev:Q3→Z4→Rn→Q0×Rn}(hev:∀ t e,More n (ev t e))(hacc:∀ t e (s:Rn),0≤s.fuel→s.code=0→Acc s (ev t e s).2):∀ (ts:List Q3) (es:List Z4) (s:Rn),0≤s.fuel→s.code=0→(evK ev ts es s).2.code≠2→
  evK ev ts es (s.more n)=((evK ev ts es s).1,(evK ev ts es s).2.more n)
 | [],_,s,_,_,_=>by simp only [evK]
 | _::_,[],s,_,_,_=>by simp only [evK]
 | t::ts,e::es,s,h,hs,hc=>by
  have ha:=hacc t e s h hs
  simp only [evK] at hc ⊢
  by_cases h0:(ev t e s).2.code=0
  ·simp only [if_pos h0] at hc ⊢
   have h1:=hev t e s h hs (by omega)
   rw [h1]
   simp only
   rw [if_pos (show ((ev t e s).2.more n).code=0 from h0),X53 hev hacc ts es _ ha.2.2.1 h0 hc]
  ·simp only [if_neg h0] at hc ⊢
   have h1:=hev t e s h hs hc
   rw [h1]
   simp only
   rw [if_neg (show ¬((ev t e s).2.more n).code=0 from h0)]
theorem Z2n {w:List Q2}{cl:Int→Q0→Rn→Q0×Rn}{t:Q3}{e:Z4}{q:List Q0×Rn}(h:q.2.code≠0):finE w cl t e q=(zV,q.2):=by unfold finE;rw [if_pos h]
theorem X50 {w:List Q2}{cl:Int→Q0→Rn→Q0×Rn}{t:Q3}{e:Z4}{q:List Q0×Rn}(h:q.2.code=0)(h4:e.op=4):finE w cl t e q=(Q0.mk (-1) (((q.1.getD 0 zV).n+(q.1.getD 1 zV).n) % 10) [],q.2):=by
 unfold finE;rw [if_neg (fun hn=>hn h),if_pos h4]
theorem X51 {w:List Q2}{cl:Int→Q0→Rn→Q0×Rn}{t:Q3}{e:Z4}{q:List Q0×Rn}(h:q.2.code=0)(h3:e.op=3):finE w cl t e q=if Q14 w t (Q0.mk e.ctor 0 q.1)=true then (Q0.mk e.ctor 0 q.1,q.2) else (zV,⟨q.2.fuel,q.2.count,4⟩):=by
 unfold finE;rw [if_neg (fun hn=>hn h),if_neg (show ¬e.op=4 by omega),if_pos h3]
theorem X0s {w:List Q2}{cl:Int→Q0→Rn→Q0×Rn}{t:Q3}{e:Z4}{q:List Q0×Rn}(h:q.2.code=0)(h4:¬e.op=4)(h3:¬e.op=3):finE w cl t e q=cl e.n (q.1.getD 0 zV) q.2:=by
 unfold finE;rw [if_neg (fun hn=>hn h),if_neg h4,if_neg h3]
theorem W07 {n:Int}{w:List Q2}{cl:Int→Q0→Rn→Q0×Rn}(hcl:∀ f v,More n (cl f v))(t:Q3)(e:Z4){q:List Q0×Rn}(h:0≤q.2.fuel)(hc:(finE w cl t e q).2.code≠2) :
  finE w cl t e (q.1,q.2.more n)=((finE w cl t e q).1,(finE w cl t e q).2.more n):=by
 by_cases h0:q.2.code=0
 ·by_cases h4:e.op=4
  ·rw [X50 (q:=(q.1,q.2.more n)) h0 h4,X50 h0 h4]
  by_cases h3:e.op=3
  ·rw [X51 (q:=(q.1,q.2.more n)) h0 h3,X51 h0 h3]
   simp only
   split<;>rfl
  ·rw [X0s h0 h4 h3] at hc
   rw [X0s (q:=(q.1,q.2.more n)) h0 h4 h3,X0s h0 h4 h3]
   exact hcl _ _ q.2 h h0 hc
 ·rw [Z2n (q:=(q.1,q.2.more n)) h0,Z2n h0]
theorem W4c (w:List Q2)(T:List Q8){n:Int}{cl:Int→Q0→Rn→Q0×Rn}(hcl:∀ f v,More n (cl f v))(hacc:W53 cl)(l:List Z3):∀ (d:Nat) (t:Q3) (e:Z4),More n (evE w T cl l d t e):=by
 intro d
 induction d with
 | zero=>intro t e s _ _ _;rfl
 | succ d ih=>
  intro t e s h hs hc
  rw [evE] at hc ⊢
  rw [evE]
  by_cases h1:e.op=1
  ·rw [if_pos h1,if_pos h1]
  rw [if_neg h1] at hc
  rw [if_neg h1,if_neg h1]
  by_cases h2:e.op=2
  ·rw [if_pos h2,if_pos h2]
  rw [if_neg h2] at hc
  rw [if_neg h2,if_neg h2]
  have hk:=X3j (Z2o w T hacc l d) (J2 w T t e) e.kids s h hs
  have hq2:(evK (evE w T cl l d) (J2 w T t e) e.kids s).2.code≠2:=fun h2'=>by
   apply hc
   unfold finE
   rw [if_pos (by omega)]
   exact h2'
  rw [X53 ih (Z2o w T hacc l d) _ _ s h hs hq2]
  exact W07 hcl t e hk.2.2.1 hc
theorem W4d (w:List Q2)(F:List GFun){n:Int}(hn:0≤n):∀ k f v,More n (evC w F k f v):=by
 intro k
 induction k with
 | zero=>
  intro f v s h hs hc
  simp only [evC] at hc ⊢
  split at hc
  ·exact absurd rfl hc
  ·rename_i h0
   simp [Rn.more,h0,show ¬s.fuel+n=0 by omega]
 | succ k ih=>
  intro f v s h hs hc
  simp only [evC] at hc ⊢
  by_cases h0:s.fuel=0
  ·rw [if_pos h0] at hc;exact absurd rfl hc
  rw [if_neg h0] at hc
  rw [if_neg (show ¬(s.more n).fuel=0 by simp only [Rn.more];omega),if_neg h0]
  cases hf:F[f.toNat]? with
  | none=>rfl
  | some g=>
   rw [hf] at hc
   simp only at hc ⊢
   cases hr:runD v 0 g.clauses with
   | none=>
    simp only [Rn.more]
    rw [show s.fuel+n-1=s.fuel-1+n by omega]
   | some x=>
    rw [hr] at hc
    simp only at hc ⊢
    have:=W4c w (F.map (·.typ)) ih (Z5u w F k) x.2 10 g.typ.res (g.bodies.getD x.1 default) ⟨s.fuel-1,s.count+1,s.code⟩ (by simp only;omega) hs hc
    rw [←this]
    simp only [Rn.more]
    rw [show s.fuel+n-1=s.fuel-1+n by omega]
theorem W4m {v:Q0}{k:Nat}{x:Q0}(h:v.kids[k]?=some x):cntV x<cntV v:=by
 rw [Z2v v]
 have:=Z05 v.kids k x h
 have:=Q6o v.kids (k+1)
 omega
def depV:Q0→Nat
 | ⟨_,_,kids⟩=>1+depVs kids
where depVs:List Q0→Nat
 | []=>0
 | v::l=>max (depV v) (depVs l)
theorem W7z (v:Q0):depV v=1+depV.depVs v.kids:=by cases v;rw [depV]
theorem X14:∀ {l:List Q0} {x:Q0},x∈l→depV x≤depV.depVs l
 | y::l,x,h=>by
  rw [depV.depVs]
  rcases U7.1 h with rfl | h
  ·exact Nat.le_max_left _ _
  ·exact Nat.le_trans (X14 h) (Nat.le_max_right _ _)
theorem Z7e {f:Q5→Q0→Option (List Z3)} : ∀ {ps:List Q5} {vs:List Q0} {l:List Z3},Q2a f ps vs=some l→∀ b∈l,∃ (j:Nat) (p:Q5) (v:Q0) (m:List Z3),ps[j]?=some p∧vs[j]?=some v∧f p v=some m∧b∈m
 | [],_,l,h,b,hb=>by simp only [Q2a] at h;cases h;cases hb
 | _::_,[],l,h,b,hb=>by cases h
 | p::ps,v::vs,l,h,b,hb=>by
  simp only [Q2a] at h
  cases hq:f p v with
  | none=>rw [hq] at h;cases h
  | some l1=>
   rw [hq] at h
   simp only at h
   cases hps:Q2a f ps vs with
   | none=>rw [hps] at h;cases h
   | some l2=>
    rw [hps] at h
    cases h
    rcases List.mem_append.1 hb with hb | hb
    ·exact ⟨0,p,v,l1,rfl,rfl,hq,hb⟩
    ·obtain ⟨j,q,u,m,h1,h2,h3,h4⟩:=Z7e hps b hb
     exact ⟨j+1,q,u,m,h1,h2,h3,h4⟩
theorem W10 {a b:List Q1}(hb:J0 b=true)(h:Q7p a b=true)(hp:(a.map (·.var)).Perm (b.map (·.var))){u:Q1}(hu:u∈b):u∈a:=by
 simp only [Q7p,Bool.and_eq_true,decide_eq_true_eq,List.all_eq_true] at h
 obtain ⟨u',h1,h2⟩:=U9.1 (hp.mem_iff.2 (List.mem_map_of_mem hu))
 have h3:=h.2 u' h1
 obtain ⟨i,hi⟩:=List.mem_iff_getElem?.1 hu
 obtain ⟨j,hj⟩:=List.mem_iff_getElem?.1 h3
 have:=Q3z hb hi hj h2.symm
 subst this
 rw [hi] at hj
 cases hj
 exact h1
theorem X2b {w:List Q2} : ∀ (d:Nat) (t:Q3) (p:Q5) (e:Nat) (v:Q0) (l:List Z3),Q2r w d t p=true→linD w d t p=true→Q5p w e t v→W4 d p v=some l→
  ∀ b∈l,∃ u∈Q1a w d t p,u.var=b.var∧(∃ e',e'≤e∧Q5p w e' u.typ b.value)∧cntV b.value≤cntV v∧depV b.value≤depV v∧(p.op=4→depV b.value<depV v):=by
 intro d
 induction d with
 | zero=>intro t p e v l h;cases h
 | succ d ih=>
  intro t p e v l hg hlin hv hm b hb
  obtain ⟨ho,hl⟩:=Q5t (Q5a hg)
  simp only [linD,Bool.and_eq_true,List.all_eq_true] at hlin
  rw [Q1a]
  rw [W4] at hm
  by_cases h1:p.op=1
  ·rw [if_pos h1] at hm;cases hm;cases hb
  rw [if_neg h1] at hm
  by_cases h2:p.op=2
  ·rw [if_pos h2] at hm;cases hm
   rw [List.mem_singleton] at hb
   subst hb
   exact ⟨⟨p.var,t⟩,by simp [ownV,h2],rfl,⟨e,Nat.le_refl _,hv⟩,Nat.le_refl _,Nat.le_refl _,fun h=>by omega⟩
  rw [if_neg h2] at hm
  by_cases h3:p.op=3
  ·rw [if_pos h3] at hm
   split at hm
   ·cases hm;cases hb
   ·cases hm
  rw [if_neg h3] at hm
  by_cases h5:p.op=5
  ·rw [if_pos h5] at hm
   obtain ⟨a,c,hkids,hkt⟩:=kid0 h5 hl
   have ga:=Q0l hg (k:=0) (by rw [hkt];rfl) (by rw [hkids];rfl)
   have gc:=Q0l hg (k:=1) (by rw [hkt];rfl) (by rw [hkids];rfl)
   have g0:=hlin.1 (t,a) (by rw [hkids,hkt];simp)
   have g1:=hlin.1 (t,c) (by rw [hkids,hkt];simp)
   have hal:=hlin.2
   rw [if_pos h5] at hal
   have k0:kv w d t p 0=Q1a w d t a:=by simp [kv,hkids,hkt]
   have k1:kv w d t p 1=Q1a w d t c:=by simp [kv,hkids,hkt]
   rw [k0,k1] at hal
   have hvv:ownV t p=[]:=by simp [ownV,h5]
   rw [hvv,hkids,hkt,if_pos h5]
   simp only [List.zip_cons_cons,List.zip_nil_right,List.take_succ_cons,List.take_zero,List.flatMap_cons,List.flatMap_nil,List.append_nil,List.nil_append]
   rw [hkids] at hm
   simp only at hm
   split at hm
   ·rename_i l' hl'
    cases hm
    obtain ⟨u,q1,q2,q3,q4,q5,_⟩:=ih t a e v _ ga g0 hv hl' b hb
    exact ⟨u,q1,q2,q3,q4,q5,fun h=>by omega⟩
   ·obtain ⟨u,q1,q2,q3,q4,q5,_⟩:=ih t c e v _ gc g1 hv hm b hb
    exact ⟨u,W10 (Q19 d t c gc g1) hal (Z4x (Q19 d t a ga g0) hal) q1,q2,q3,q4,q5,fun h=>by omega⟩
  rw [if_neg h5] at hm
  rw [if_neg h5,List.take_of_length_le (by rw [List.length_zip];omega)]
  by_cases h6:p.op=6
  ·rw [if_pos h6] at hm
   obtain ⟨a,hkids,hk2⟩:=Z8a h6 hl
   have ga:=Q0l hg (k:=0) (by rw [hk2];rfl) (by rw [hkids];rfl)
   have g0:=hlin.1 (t,a) (by rw [hkids,hk2];simp)
   rw [hkids] at hm
   simp only at hm
   cases ha:W4 d a v with
   | none=>rw [ha] at hm;cases hm
   | some l'=>
    rw [ha] at hm
    cases hm
    rcases U7.1 hb with rfl | hb
    ·exact ⟨⟨p.var,t⟩,by simp [ownV,h6],rfl,⟨e,Nat.le_refl _,hv⟩,Nat.le_refl _,Nat.le_refl _,fun h=>by omega⟩
    ·obtain ⟨u,q1,q2,q3,q4,q5,_⟩:=ih t a e v _ ga g0 hv ha b hb
     exact ⟨u,by rw [hkids,hk2];simp [q1],q2,q3,q4,q5,fun h=>by omega⟩
  rw [if_neg h6] at hm
  split at hm
  ·rename_i hct
   obtain ⟨j,q,x,m,e1,e2,e3,e4⟩:=Z7e hm b hb
   have hjl:j<(J6 w t p).length:=by have:=(List.getElem?_eq_some_iff.1 e1).1;omega
   have ha:(J6 w t p)[j]?=some ((J6 w t p)[j]):=by simp [hjl]
   have h4:p.op=4:=by
    by_cases h4:p.op=4
    ·exact h4
    ·exfalso
     have:J6 w t p=[]:=by simp [J6,h4,h5,h6]
     rw [this] at hjl
     simp at hjl
   have hcp:=Q8k ho h4
   have hk4:J6 w t p=Q0z w t p.ctor:=by simp [J6,h4]
   obtain ⟨e,rfl⟩:∃ e',e=e'+1:=by
    cases e with
    | zero=>exact hv.elim
    | succ e=>exact ⟨e,rfl⟩
   have hvx:Q5p w e (J6 w t p)[j] x:=by
    simp only [Q5p] at hv
    split at hv
    ·rename_i hd
     rw [hv.2.2.2] at e2
     cases e2
    ·exact hv.2.2.2 j _ x (by rw [←hct,←hk4];exact ha) e2
   obtain ⟨u,q1,q2,⟨e',q3,q3'⟩,q4,q5,_⟩:=ih _ q e x m (Q0l hg ha e1) (hlin.1 _ (U1 (Q3m ha e1))) hvx e3 b e4
   have hd:=X14 (U1 e2)
   have hdv:=W7z v
   have hcx:=W4m e2
   refine ⟨u,?_,q2,⟨e',by omega,q3'⟩,by omega,by omega,fun _=>by omega⟩
   rw [List.mem_append]
   exact .inr (List.mem_flatMap.2 ⟨_,U1 (Q3m ha e1),q1⟩)
  ·cases hm
theorem W04 {l:List Q1}(hd:J0 l=true){u:Q1}(hu:u∈l):l.find? (fun v=>decide (v.var=u.var))=some u:=by
 cases h:l.find? (fun v=>decide (v.var=u.var)) with
 | none=>
  have:=List.find?_eq_none.1 h u hu
  simp at this
 | some v=>
  have h1:=List.find?_some h
  simp only [decide_eq_true_eq] at h1
  obtain ⟨i,hi⟩:=List.mem_iff_getElem?.1 hu
  obtain ⟨j,hj⟩:=List.mem_iff_getElem?.1 (List.mem_of_find?_eq_some h)
  have:=Q3z hd hi hj h1.symm
  subst this
  rw [hi] at hj
  exact hj.symm
theorem W4t {w:List Q2}(hw:WW w){t:Q3}(ht:t∈tys w){p:Q5}(hp:Q5w w t p=true){v:Q0}(hv:Q14 w t v=true){l:List Z3}(hm:W4 10 p v=some l):X1a w (Q1a w 10 t p) (Q6h l):=fun x u hu=>by
 obtain ⟨g,_,ln⟩:=Q24 hp
 have hd:=Q19 10 t p g ln
 have hb:=Q4o g ln hm
 have hx:=List.find?_some hu
 simp only [decide_eq_true_eq] at hx
 have hum:=List.mem_of_find?_eq_some hu
 refine ⟨X40 hw 10 t p ht g u hum,?_⟩
 obtain ⟨b,h1,h2⟩:=U9.1 ((Z2a 10 t p g ln v l hm).mem_iff.2 (List.mem_map_of_mem hum))
 have hn:((Q6h l).map (·.var)).Nodup:=((Q42 hb.rg).map _).nodup_iff.2 hb.nd
 have hf:(Q6h l).find? (fun b=>decide (b.var=x))=some b:=Z8n hn ((Q42 hb.rg).mem_iff.2 h1) (by omega)
 unfold Z6x
 rw [hf]
 obtain ⟨u',q1,q2,⟨e',q3,q3'⟩,q4,_⟩:=X2b 10 t p 10 v l g ln (Q5h hv) hm b h1
 obtain ⟨i,hi⟩:=List.mem_iff_getElem?.1 q1
 obtain ⟨j,hj⟩:=List.mem_iff_getElem?.1 hum
 have:=Q3z hd hi hj (by omega)
 subst this
 rw [hi] at hj
 cases hj
 exact Z7t (W3v e' 10 _ _ q3 q3') (by have:=Z9d hv;show cntV b.value≤60;omega)
theorem X3p {w:List Q2}(hw:WW w){T:List Q8}{g:GFun}(hg:W8k w T g){v:Q0}(hv:Q14 w g.typ.arg v=true){x:Nat×List Z3}(hr:runD v 0 g.clauses=some x) :
  ∃ (c:X1) (e:Z4) (b:List Z3),g.clauses[x.1]?=some c∧g.bodies[x.1]?=some e∧W4 10 c.pat v=some b∧x.2=Q6h b∧Q5w w g.typ.arg c.pat=true∧Q6d w T (Q1a w 10 g.typ.arg c.pat) g.typ.res e=true∧X1a w (Q1a w 10 g.typ.arg c.pat) x.2:=by
 obtain ⟨i,c,b,h1,h2,h3,_,h5,_⟩:=Z27 hr
 have hi:x.1=i:=by omega
 have hlt:i<g.bodies.length:=by have:=(List.getElem?_eq_some_iff.1 h1).1;have:=hg.len;omega
 have he:g.bodies[i]?=some g.bodies[i]:=by simp [hlt]
 have hp:=(Q63 hg.cls).2 c (U1 h1)
 refine ⟨c,g.bodies[i],b,by rw [hi];exact h1,by rw [hi];exact he,h3,h5,hp,hg.bod i c _ h1 he,?_⟩
 rw [h5]
 exact W4t hw hg.arg hp hv h3
theorem Z0j {w:List Q2}{T:List Q8}{vars:List Q1}{t:Q3}{e:Z4}(h:Q6d w T vars t e=true):Q51 w T vars 10 t e=true:=by
 simp only [Q6d,Bool.and_eq_true] at h
 exact h.1
theorem Z5t {w:List Q2}(hw:WW w)(hf:Fit w){F:List GFun}(hF:Z20 w F):∀ k,ClOk w F (evC w F k):=by
 intro k
 induction k with
 | zero=>
  intro f g v s h0 hg hv hs hc
  simp only [evC] at hc
  split at hc<;>cases hc
 | succ k ih=>
  intro f g v s h0 hg hv hs hc
  simp only [evC] at hc ⊢
  by_cases h1:s.fuel=0
  ·rw [if_pos h1] at hc;cases hc
  rw [if_neg h1] at hc ⊢
  rw [hg] at hc ⊢
  simp only at hc ⊢
  cases hr:runD v 0 g.clauses with
  | none=>rw [hr] at hc;cases hc
  | some x=>
   rw [hr] at hc
   simp only at hc ⊢
   have gok:=hF.2 g (U1 hg)
   obtain ⟨c,e,b,e1,e2,e3,e4,e5,e6,e7⟩:=X3p hw gok hv hr
   rw [List.getD_eq_getElem?_getD,e2] at hc ⊢
   exact Z5r hw hf hF ih e7 10 _ e _ gok.res (Z0j e6) hs hc
theorem ieqD (a b:Int):ieq a b=decide (a=b):=by by_cases h:a=b<;>simp [ieq,h]
theorem Z2w:∀ (l:List Z4) (k:Nat) (q:Z4),l[k]?=some q→cntE.cntEs (l.take (k+1))=cntE.cntEs (l.take k)+cntE q
 | [],k,q,h=>by simp at h
 | p::l,0,q,h=>by simp at h;subst h;simp [cntE.cntEs]
 | p::l,k+1,q,h=>by
  have:=Z2w l k q (by simpa using h)
  simp only [List.take_succ_cons,cntE.cntEs]
  omega
theorem Q90:∀ (l:List Z4) (k:Nat),cntE.cntEs (l.take k)≤cntE.cntEs l
 | [],k=>by simp
 | p::l,0=>by simp [cntE.cntEs]
 | p::l,k+1=>by
  have:=Q90 l k
  simp only [List.take_succ_cons,cntE.cntEs]
  omega
theorem X4z (a b:Q3):Q5n a b=some (Q81 a b):=by
 unfold Q5n Q81
 by_cases h1:a.data=b.data
 ·by_cases h2:b.index=0
  ·simp [ieqD,h1,h2]
  ·simp [ieqD,h1,h2]
 ·simp [ieqD,h1]
theorem Z34 (a b:Q3):Q3k a b=some (Q81 a b):=by
 unfold Q3k Q81
 by_cases h1:a.data=b.data
 ·by_cases h2:b.index=0
  ·simp [ieqD,h1,h2]
  ·simp [ieqD,h1,h2]
 ·simp [ieqD,h1]
theorem X0r {l:List Q1}{x:Int}(h:∀ v∈l,v.var≠x):l.find? (fun v=>decide (v.var=x))=none:=by
 rw [List.find?_eq_none]
 intro v hv
 simpa using h v hv
theorem W06 {l:List Q1}(hd:J0 l=true){k:Nat}{v:Q1}{x:Int}(h:l[k]?=some v)(hx:v.var=x):l.find? (fun v=>decide (v.var=x))=some v:=by
 subst hx
 exact W04 hd (U1 h)
theorem Z9f {w:List Q2}{T:List Q8}{vars:List Q1}(hd:J0 vars=true)(x:Int):∃ u,Q0s (Q30.mk w T vars) x=some (u,(vars.find? fun v=>decide (v.var=x)).isSome)∧∀ v,vars.find? (fun v=>decide (v.var=x))=some v→u=v.typ:=by
 unfold Q0s
 have h:=Q5o vars (fun a0=>J5 a0 x) (fun v=>decide (v.var=x)) (fun v _=>by unfold J5;rw [ieqD])
 obtain ⟨i,hi,h⟩:=h
 rw [show Q01 vars (fun a0=>J5 a0 x)=some i from hi]
 simp only [U0]
 rcases h with ⟨k,v,rfl,h1,h2⟩ | ⟨rfl,h2⟩
 ·have hf:=W06 hd h1 (by simpa using h2)
  rw [if_neg (by rw [W0];omega),Q1m h1]
  simp only [U0]
  rw [hf]
  exact ⟨v.typ,rfl,fun v' e=>by cases e;rfl⟩
 ·have hf:=X0r (l:=vars) (x:=x) (fun v hv=>by simpa using h2 v hv)
  rw [if_pos (by rw [W0];omega),hf]
  exact ⟨_,rfl,fun v' e=>by cases e⟩
theorem X99 {w:List Q2}{t:Q3}(hT:WT w t)(T:List Q8)(hTl:T.length≤1000){vars:List Q1}(hd:J0 vars=true)(e:Z4) :
  ∃ ts,Q2w (Q30.mk w T vars) t e=some (ts,Q29 w T vars t e)∧(Q29 w T vars t e=true→ts=J2 w T t e):=by
 unfold Q2w
 by_cases h1:e.op=1
 ·rw [if_pos (by rw [Q7];exact h1)]
  have hn:Q29 w T vars t e=(decide (t.data = -1)&&(decide (0≤e.n)&&decide (e.n≤9))&&decide (e.ctor=0)):=by simp [Q29,h1]
  have hk:J2 w T t e=[]:=by simp [J2,h1]
  rw [hn,hk]
  by_cases h2:t.data = -1
  ·rw [if_pos (by rw [Q7];exact h2),Q5v]
   simp only [U0]
   by_cases h3:(decide (0≤e.n)&&decide (e.n≤9))=true
   ·rw [if_pos h3]
    exact ⟨[],by rw [ieqD];simp [h2,h3],fun _=>rfl⟩
   ·rw [if_neg h3]
    exact ⟨[],by rw [show (decide (0≤e.n)&&decide (e.n≤9))=false by simpa using h3];simp,fun _=>rfl⟩
  ·rw [if_neg (by rw [Q7];exact h2)]
   exact ⟨[],by simp [h2],fun _=>rfl⟩
 rw [if_neg (by rw [Q7];exact h1)]
 by_cases h2:e.op=2
 ·rw [if_pos (by rw [Q7];exact h2)]
  have hn:Q29 w T vars t e=(((vars.find? fun v=>decide (v.var=e.n)).elim false fun v=>Q81 v.typ t)&&decide (e.ctor=0)):=by simp [Q29,h2]
  have hk:J2 w T t e=[]:=by simp [J2,h2]
  rw [hn,hk]
  obtain ⟨u,e1,e2⟩:=Z9f (w:=w) (T:=T) hd e.n
  rw [e1]
  simp only [U0]
  cases hf:vars.find? fun v=>decide (v.var=e.n) with
  | none=>exact ⟨[],by simp,fun _=>rfl⟩
  | some v=>
   rw [e2 v hf]
   simp only [Option.isSome_some,if_true,Option.elim_some]
   rw [X4z]
   simp only [U0]
   by_cases h3:Q81 v.typ t=true
   ·rw [if_pos h3]
    exact ⟨[],by rw [ieqD,h3];simp,fun _=>rfl⟩
   ·rw [if_neg h3]
    exact ⟨[],by rw [show Q81 v.typ t=false by simpa using h3];simp,fun _=>rfl⟩
 rw [if_neg (by rw [Q7];exact h2)]
 by_cases h3:e.op=3
 ·rw [if_pos (by rw [Q7];exact h3)]
  have hn:Q29 w T vars t e=(decide (e.n=0)&&decide (e.ctor∈Y0 w t)):=by simp [Q29,h3]
  have hk:J2 w T t e=Q0z w t e.ctor:=by simp [J2,h3]
  rw [hn,hk]
  by_cases h4:e.n=0
  ·rw [if_neg (by rw [Bool.not_eq_true',Q9];exact fun h=>h h4),hT.c2]
   simp only [U0]
   rw [Q7g]
   simp only [U0]
   by_cases h5:e.ctor∈Y0 w t
   ·rw [if_neg (by simp [h5]),hT.a2 _ h5]
    exact ⟨_,by simp [h4,h5],fun _=>rfl⟩
   ·rw [if_pos (by simp [h5])]
    exact ⟨[],by simp [h5],fun h=>by simp [h5] at h⟩
  ·rw [if_pos (by rw [Bool.not_eq_true',Q9];exact h4)]
   exact ⟨[],by simp [h4],fun h=>by simp [h4] at h⟩
 rw [if_neg (by rw [Q7];exact h3)]
 by_cases h4:e.op=4
 ·rw [if_pos (by rw [Q7];exact h4)]
  have hn:Q29 w T vars t e=(decide (t.data = -1)&&decide (e.n=0)&&decide (e.ctor=0)):=by simp [Q29,h4]
  have hk:J2 w T t e=[t,t]:=by simp [J2,h4]
  rw [hn,hk]
  by_cases h5:t.data = -1
  ·rw [if_pos (by rw [Q7];exact h5)]
   by_cases h6:e.n=0
   ·rw [if_pos (by rw [Q7];exact h6)]
    exact ⟨_,by rw [ieqD];simp [h5,h6],fun _=>rfl⟩
   ·rw [if_neg (by rw [Q7];exact h6)]
    exact ⟨_,by simp [h6],fun _=>rfl⟩
  ·rw [if_neg (by rw [Q7];exact h5)]
   exact ⟨_,by simp [h5],fun _=>rfl⟩
 rw [if_neg (by rw [Q7];exact h4)]
 by_cases h5:e.op=5
 ·rw [if_pos (by rw [Q7];exact h5)]
  have hn:Q29 w T vars t e=((decide (0≤e.n)&&decide (e.n<T.length))&&decide (e.ctor=0)&&((T[e.n.toNat]?).elim false fun f=>Q81 f.res t)):=by simp [Q29,h5]
  have hk:J2 w T t e=[(T[e.n.toNat]?).elim tI fun f=>f.arg]:=by simp [J2,h5]
  rw [hn,hk]
  have hs:wsub .i64 (lenZ T.length) 1=(T.length:Int)-1:=by unfold lenZ;rw [Q3q]<;>omega
  simp only
  rw [hs,Q5v]
  simp only [U0]
  have hlt:(decide (0≤e.n)&&decide (e.n≤(T.length:Int)-1))=(decide (0≤e.n)&&decide (e.n<T.length)):=by
   congr 1
   by_cases h:e.n<T.length
   ·rw [decide_eq_true h,decide_eq_true (by omega)]
   ·rw [decide_eq_false h,decide_eq_false (by omega)]
  rw [hlt]
  by_cases h6:(decide (0≤e.n)&&decide (e.n<T.length))=true
  ·rw [if_neg (by rw [h6];simp)]
   by_cases h7:e.ctor=0
   ·rw [if_neg (by rw [Bool.not_eq_true',Q9];exact fun h=>h h7)]
    have h8:=h6
    simp only [Bool.and_eq_true,decide_eq_true_eq] at h8
    have hf:T[e.n.toNat]?=some (T[e.n.toNat]'(by omega)):=U8 (by omega)
    rw [Q59 h8.1 hf]
    simp only [U0]
    rw [X4z,hf]
    exact ⟨_,by rw [h6];simp [h7],fun _=>rfl⟩
   ·rw [if_pos (by rw [Bool.not_eq_true',Q9];exact h7)]
    exact ⟨[],by simp [h7],fun h=>by simp [h7] at h⟩
  ·have h6':(decide (0≤e.n)&&decide (e.n<T.length))=false:=Bool.eq_false_iff.2 h6
   rw [h6',if_pos (show (!false)=true from rfl)]
   exact ⟨[],by simp,fun h=>by simp at h⟩
 rw [if_neg (by rw [Q7];exact h5)]
 have hn:Q29 w T vars t e=false:=by simp [Q29,h1,h2,h3,h4,h5]
 rw [hn]
 exact ⟨[],rfl,fun h=>by cases h⟩
def okE (w:List Q2)(T:List Q8)(vars:List Q1)(d:Nat)(t:Q3)(e:Z4)(c:Nat):Bool:=Q51 w T vars d t e&&decide (c+cntE e≤60)
theorem X8v {w:List Q2}{T:List Q8}{vars:List Q1}{d:Nat}{t:Q3}{e:Z4}{c:Nat}(h:Q51 w T vars d t e=false):okE w T vars d t e c=false:=by simp [okE,h]
theorem W4e {w:List Q2}(hw:WW w){T:List Q8}(hTl:T.length≤1000)(hTa:∀ f∈T,f.arg∈tys w){vars:List Q1}(hd:J0 vars=true):∀ (d n:Nat) (t:Q3) (e:Z4) (c:Nat),t∈tys w→c≤60→d+2≤n→d≤10→
  Ret (Q0x n (Q30.mk w T vars) t e (11-(d:Int)) (c:Int)) (fun r=>r.1=okE w T vars d t e c∧(okE w T vars d t e c=true→r.2=((c+cntE e:Nat):Int))):=by
 intro d
 induction d with
 | zero=>
  intro n t e c ht hc hn hd
  obtain ⟨n,rfl⟩:∃ k,n=k+1:=⟨n-1,by omega⟩
  have hb:okE w T vars 0 t e c=false:=X8v rfl
  unfold Q0x
  refine Ret.ite (fun _=>.some ⟨hb.symm,fun h=>by rw [hb] at h;cases h⟩) (fun _=>?_)
  rw [if_pos (by rw [W0];omega)]
  exact .some ⟨hb.symm,fun h=>by rw [hb] at h;cases h⟩
 | succ d ih=>
  intro n t e c ht hc hn hd10
  obtain ⟨n,rfl⟩:∃ k,n=k+1:=⟨n-1,by omega⟩
  have hT:=hw.ty t ht
  unfold Q0x
  have hc1:wadd .i64 (c:Int) 1=((c+1:Nat):Int):=by rw [Q0f]<;>omega
  rw [hc1]
  have hpos:1≤cntE e:=by rw [Z8v];omega
  refine Ret.ite (fun hlt=>?_) (fun hle=>?_)
  ·rw [W0] at hlt
   have hb:okE w T vars (d+1) t e c=false:=by simp only [okE,Bool.and_eq_false_iff,decide_eq_false_iff_not];right;omega
   exact .some ⟨hb.symm,fun h=>by rw [hb] at h;cases h⟩
  rw [Q3x] at hle
  rw [if_neg (by rw [W0];omega)]
  have bad:Q51 w T vars (d+1) t e=false→okE w T vars (d+1) t e c=false:=X8v
  obtain ⟨ts,e1,e2⟩:=X99 hT T hTl hd e
  rw [e1]
  simp only [U0]
  refine Ret.ite (fun h=>?_) (fun h=>?_)
  ·rw [Bool.not_eq_true'] at h
   have hb:=bad (by rw [Q51,h];rfl)
   exact .some ⟨hb.symm,fun h=>by rw [hb] at h;cases h⟩
  rw [Bool.not_eq_false'] at h
  have hts:=e2 h
  subst hts
  have hg:Q51 w T vars (d+1) t e=(decide (e.kids.length=(J2 w T t e).length)&&((J2 w T t e).zip e.kids).all fun x=>Q51 w T vars d x.1 x.2):=by rw [Q51,h];rfl
  have hkt:=Q9k hw hTa ht h
  refine Ret.ite (fun hl=>?_) (fun hl=>?_)
  ·rw [Bool.not_eq_true',Q9] at hl
   simp only [lenZ] at hl
   have hb:=bad (by rw [hg];simp only [Bool.and_eq_false_iff,decide_eq_false_iff_not];left;omega)
   exact .some ⟨hb.symm,fun h=>by rw [hb] at h;cases h⟩
  rw [Bool.not_eq_false',Q7] at hl
  simp only [lenZ] at hl
  have hcv:=Z8v e
  refine Ret.ctl (Z9 e.kids (fun k s=>s=((c+1+cntE.cntEs (e.kids.take k):Nat):Int)∧c+1+cntE.cntEs (e.kids.take k)≤60∧∀ (j:Nat) (a:Q3) (x:Z4),j<k→(J2 w T t e)[j]?=some a→e.kids[j]?=some x→Q51 w T vars d a x=true) (fun r:Bool×Int=>r.1=okE w T vars (d+1) t e c∧(okE w T vars (d+1) t e c=true→r.2=((c+cntE e:Nat):Int))) (fun s=>s=((c+cntE e:Nat):Int)∧okE w T vars (d+1) t e c=true) ⟨by simp [cntE.cntEs],by simp only [List.take_zero,cntE.cntEs];omega,fun j a x hj=>by omega⟩ (fun k x s hx hI=>?_) (fun s hI=>?_)) (fun r hr=>.some hr) (fun s hs=>.some ⟨hs.2.symm,fun _=>hs.1⟩)
  ·obtain ⟨rfl,i2,i3⟩:=hI
   have hk:=(List.getElem?_eq_some_iff.1 hx).1
   have ha:(J2 w T t e)[k]?=some ((J2 w T t e)[k]'(by omega)):=by simp
   rw [Q1m ha]
   simp only [U0]
   have hdd:wadd .i64 (11-((d+1:Nat):Int)) 1=11-(d:Int):=by rw [Q0f]<;>omega
   rw [hdd]
   refine Ret.bind (ih n _ x _ (hkt _ (U1 ha)) i2 (by omega) (by omega)) (fun r hr=>?_)
   obtain ⟨r1,r2⟩:=hr
   have htk:=Z2w e.kids k x hx
   refine Ret.ite (fun h=>?_) (fun h=>?_)
   ·rw [Bool.not_eq_true',r1] at h
    have e1:okE w T vars (d+1) t e c=false:=by
     simp only [okE,Bool.and_eq_false_iff,decide_eq_false_iff_not] at h ⊢
     rcases h with h | h
     ·left
      rw [hg,Bool.and_eq_false_iff]
      right
      rw [List.all_eq_false]
      exact ⟨_,U1 (Q3m ha hx),by simp [h]⟩
     ·right
      have:=Q90 e.kids (k+1)
      omega
    exact .some ⟨e1.symm,fun h=>by rw [e1] at h;cases h⟩
   ·rw [Bool.not_eq_false',r1] at h
    have r3:=r2 h
    simp only [okE,Bool.and_eq_true,decide_eq_true_eq] at h
    refine .some ⟨?_,by omega,fun j a y hj h1 h2=>?_⟩
    ·rw [r3];omega
    ·by_cases hjk:j=k
     ·subst hjk
      rw [ha] at h1
      rw [hx] at h2
      cases h1
      cases h2
      exact h.1
     ·exact i3 j a y (by omega) h1 h2
  ·obtain ⟨rfl,i2,i3⟩:=hI
   rw [List.take_length] at i2 ⊢
   refine ⟨by omega,?_⟩
   simp only [okE,Bool.and_eq_true,decide_eq_true_eq]
   refine ⟨?_,by omega⟩
   rw [hg]
   simp only [Bool.and_eq_true,decide_eq_true_eq,List.all_eq_true]
   refine ⟨by omega,fun y hy=>?_⟩
   obtain ⟨j,hj⟩:=List.mem_iff_getElem?.1 hy
   obtain ⟨e1,e2⟩:=List.getElem?_zip_eq_some.1 hj
   exact i3 j _ _ (List.getElem?_eq_some_iff.1 e2).1 e1 e2
theorem X2j {w:List Q2}(hw:WW w){T:List Q8}(hTl:T.length≤1000)(hTa:∀ f∈T,f.arg∈tys w){vars:List Q1}(hd:J0 vars=true){n:Nat}(hn:100≤n){t:Q3}(ht:t∈tys w)(e:Z4):Q1o n (Q30.mk w T vars) t e=some (Q6d w T vars t e):=by
 suffices hs:Ret (Q1o n (Q30.mk w T vars) t e) (fun r=>r=Q6d w T vars t e) by
  obtain ⟨a,e,rfl⟩:=hs
  exact e
 unfold Q1o
 refine Ret.bind (W4e hw hTl hTa hd 10 n t e 0 ht (by omega) (by omega) (by omega)) (fun r hr=>.some ?_)
 rw [hr.1]
 simp [okE,Q6d]
theorem X87 {w:List Q2}{t:Q3}(hT:WT w t)(T:List Q8)(hTl:T.length≤1000){vars:List Q1}(hd:J0 vars=true)(e:Z4) :
  ∃ ts,Q4i w T vars t e=some (ts,Q29 w T vars t e)∧(Q29 w T vars t e=true→ts=J2 w T t e):=by
 unfold Q4i
 have hti:Q4s [ieq t.data (-1),ieq t.index 0]=decide (t.data = -1):=by
  by_cases h:t.data = -1
  ·have:=(hT.ti h).1
   rw [this];rfl
  ·simp [Q4s,ieqD,h]
 rw [hti]
 by_cases h1:e.op=1
 ·have hn:Q29 w T vars t e=(decide (t.data = -1)&&(decide (0≤e.n)&&decide (e.n≤9))&&decide (e.ctor=0)):=by simp [Q29,h1]
  have hk:J2 w T t e=[]:=by simp [J2,h1]
  rw [hn,hk]
  by_cases h2:e.ctor=0
  ·by_cases h3:t.data = -1
   ·by_cases h4:0≤e.n
    ·refine ⟨[],?_,fun _=>rfl⟩
     simp [ieqD,h1,h2,h3,h4,hti,ile]
    ·refine ⟨[],?_,fun _=>rfl⟩
     simp [ieqD,h1,h2,h3,h4,hti,ile]
   ·refine ⟨[],?_,fun _=>rfl⟩
    simp [ieqD,h1,h2,h3,hti]
  ·refine ⟨[],?_,fun _=>rfl⟩
   simp [ieqD,h1,h2]
 by_cases h2:e.op=2
 ·have hn:Q29 w T vars t e=(((vars.find? fun v=>decide (v.var=e.n)).elim false fun v=>Q81 v.typ t)&&decide (e.ctor=0)):=by simp [Q29,h2]
  have hk:J2 w T t e=[]:=by simp [J2,h2]
  rw [hn,hk]
  by_cases h3:e.ctor=0
  ·obtain ⟨i,hi,hh⟩:=Z8o vars e.n
   rcases hh with ⟨k,v,rfl,g1,g2,_⟩ | ⟨rfl,g2⟩
   ·have hf:=W06 hd g1 g2
    refine ⟨[],?_,fun _=>rfl⟩
    rw [hf]
    simp [ieqD,h2,h3,hi,ile,Q1m g1,Z34]
   ·have hf:=X0r (l:=vars) (x:=e.n) g2
    refine ⟨[],?_,fun _=>rfl⟩
    rw [hf]
    simp [ieqD,h2,h3,hi,ile]
  ·refine ⟨[],?_,fun _=>rfl⟩
   simp [ieqD,h2,h3]
 by_cases h3:e.op=3
 ·have hn:Q29 w T vars t e=(decide (e.n=0)&&decide (e.ctor∈Y0 w t)):=by simp [Q29,h3]
  have hk:J2 w T t e=Q0z w t e.ctor:=by simp [J2,h3]
  rw [hn,hk]
  by_cases h4:e.n=0
  ·by_cases h5:e.ctor∈Y0 w t
   ·refine ⟨Q0z w t e.ctor,?_,fun _=>rfl⟩
    simp [ieqD,h3,h4,h5,hT.c1,X4n,hT.a1 _ h5]
   ·refine ⟨[],?_,fun h=>by simp [h5] at h⟩
    simp [ieqD,h3,h4,h5,hT.c1,X4n]
  ·refine ⟨[],?_,fun h=>by simp [h4] at h⟩
   simp [ieqD,h3,h4]
 by_cases h4:e.op=4
 ·have hn:Q29 w T vars t e=(decide (t.data = -1)&&decide (e.n=0)&&decide (e.ctor=0)):=by simp [Q29,h4]
  have hk:J2 w T t e=[t,t]:=by simp [J2,h4]
  rw [hn,hk]
  by_cases h5:e.ctor=0
  ·by_cases h6:e.n=0
   ·refine ⟨[tI,tI],?_,fun h=>?_⟩
    ·simp [ieqD,h4,h5,h6,hti,tI]
    ·have h7:t.data = -1:=by simpa [h5,h6] using h
     rw [(hT.ti h7).1]
   ·refine ⟨[],?_,fun h=>by simp [h6] at h⟩
    simp [ieqD,h4,h5,h6]
  ·refine ⟨[],?_,fun h=>by simp [h5] at h⟩
   simp [ieqD,h4,h5]
 by_cases h5:e.op=5
 ·have hn:Q29 w T vars t e=((decide (0≤e.n)&&decide (e.n<T.length))&&decide (e.ctor=0)&&((T[e.n.toNat]?).elim false fun f=>Q81 f.res t)):=by simp [Q29,h5]
  have hk:J2 w T t e=[(T[e.n.toNat]?).elim tI fun f=>f.arg]:=by simp [J2,h5]
  rw [hn,hk]
  by_cases h6:e.ctor=0
  ·by_cases h7:0≤e.n
   ·by_cases h8:e.n<T.length
    ·have hf:T[e.n.toNat]?=some (T[e.n.toNat]'(by omega)):=U8 (by omega)
     refine ⟨[(T[e.n.toNat]'(by omega)).arg],?_,fun _=>by rw [hf];rfl⟩
     rw [hf]
     have a1:ilt e.n 0=false:=by rw [Q3x];omega
     have a2:ile (lenZ T.length) e.n=false:=by rw [Q1y];simp only [lenZ];omega
     simp [ieqD,h5,h6,h7,h8,a1,a2,Q59 h7 hf,Z34]
    ·have a1:ilt e.n 0=false:=by rw [Q3x];omega
     have a2:ile (lenZ T.length) e.n=true:=by rw [W5];simp only [lenZ];omega
     refine ⟨[],?_,fun h=>by simp [h8] at h⟩
     simp [ieqD,h5,h6,h8,a1,a2]
   ·have a1:ilt e.n 0=true:=by rw [W0];omega
    refine ⟨[],?_,fun h=>by simp [h7] at h⟩
    simp [ieqD,h5,h6,h7,a1]
  ·refine ⟨[],?_,fun h=>by simp [h6] at h⟩
   simp [ieqD,h5,h6]
 have hn:Q29 w T vars t e=false:=by simp [Q29,h1,h2,h3,h4,h5]
 rw [hn]
 refine ⟨[],?_,fun h=>by cases h⟩
 by_cases h6:e.ctor=0
 ·simp [ieqD,h1,h2,h3,h4,h5,h6]
 ·simp [ieqD,h1,h2,h3,h4,h5,h6]
theorem W0j {w:List Q2}(hw:WW w){T:List Q8}(hTl:T.length≤1000)(hTa:∀ f∈T,f.arg∈tys w){vars:List Q1}(hd:J0 vars=true):∀ (d n:Nat) (t:Q3) (e:Z4),t∈tys w→d+2≤n→d≤100→Q15 n w T vars t e (d:Int)=some (Q51 w T vars d t e):=by
 intro d
 induction d with
 | zero=>
  intro n t e ht hn hd
  obtain ⟨n,rfl⟩:∃ k,n=k+1:=⟨n-1,by omega⟩
  unfold Q15
  rw [if_pos (by rw [W0];omega)]
  rfl
 | succ d ih=>
  intro n t e ht hn hd10
  obtain ⟨n,rfl⟩:∃ k,n=k+1:=⟨n-1,by omega⟩
  have hT:=hw.ty t ht
  suffices hs:Ret (Q15 (n+1) w T vars t e ((d+1:Nat):Int)) (fun r=>r=Q51 w T vars (d+1) t e) by
   obtain ⟨a,e,rfl⟩:=hs
   exact e
  unfold Q15
  rw [if_neg (by rw [W0];omega)]
  obtain ⟨ts,e1,e2⟩:=X87 hT T hTl hd e
  rw [e1]
  simp only [U0]
  refine Ret.ite (fun h=>?_) (fun h=>?_)
  ·rw [Bool.not_eq_true'] at h
   exact .some (by rw [Q51,h];rfl)
  rw [Bool.not_eq_false'] at h
  have hts:=e2 h
  subst hts
  have hg:Q51 w T vars (d+1) t e=(decide (e.kids.length=(J2 w T t e).length)&&((J2 w T t e).zip e.kids).all fun x=>Q51 w T vars d x.1 x.2):=by rw [Q51,h];rfl
  have hkt:=Q9k hw hTa ht h
  rw [hg]
  refine Ret.ite (fun hl=>?_) (fun hl=>?_)
  ·rw [Bool.not_eq_true',Q9] at hl
   simp only [lenZ] at hl
   refine .some ?_
   rw [decide_eq_false (by omega)]
   rfl
  rw [Bool.not_eq_false',Q7] at hl
  simp only [lenZ] at hl
  rw [decide_eq_true (by omega),Bool.true_and]
  have hws:wsub .i64 ((d+1:Nat):Int) 1=(d:Int):=by rw [Q3q]<;>omega
  rw [hws]
  refine Ret.ctl (Z9 (J2 w T t e) (fun k _=>∀ (j:Nat) (a:Q3) (x:Z4),j<k→(J2 w T t e)[j]?=some a→e.kids[j]?=some x→Q51 w T vars d a x=true) (fun r:Bool=>r=((J2 w T t e).zip e.kids).all fun x=>Q51 w T vars d x.1 x.2) (fun _=>(((J2 w T t e).zip e.kids).all fun x=>Q51 w T vars d x.1 x.2)=true) (fun j a x hj=>by omega) (fun k a s ha hI=>?_) (fun s hI=>?_)) (fun r hr=>.some hr) (fun s hs=>.some hs.symm)
  ·have hk:=(List.getElem?_eq_some_iff.1 ha).1
   have hx:e.kids[k]?=some (e.kids[k]'(by omega)):=by simp
   rw [Q1m hx]
   simp only [U0]
   rw [ih n a _ (hkt _ (U1 ha)) (by omega) (by omega)]
   simp only [U0]
   cases hgk:Q51 w T vars d a (e.kids[k]'(by omega)) with
   | false=>
    refine .some ?_
    show false=_
    symm
    rw [List.all_eq_false]
    exact ⟨_,U1 (Q3m ha hx),by simp [hgk]⟩
   | true=>
    refine .some (fun j b y hj h1 h2=>?_)
    by_cases hjk:j=k
    ·subst hjk
     rw [ha] at h1
     rw [hx] at h2
     cases h1
     cases h2
     exact hgk
    ·exact hI j b y (by omega) h1 h2
  ·rw [List.all_eq_true]
   intro y hy
   obtain ⟨j,hj⟩:=List.mem_iff_getElem?.1 hy
   obtain ⟨e1,e2⟩:=List.getElem?_zip_eq_some.1 hj
   exact hI j _ _ (List.getElem?_eq_some_iff.1 e1).1 e1 e2
theorem X20:∀ (n:Nat) (p:Z4) (most:Nat),most<n→most≤1000→Q1w n p (most:Int)=some ((min (cntE p) (most+1):Nat):Int):=by
 intro n
 induction n with
 | zero=>intro p most h;omega
 | succ n ih=>
  intro p most hn hm
  unfold Q1w
  have key:=Z9 (ρ:=Int) (f:=fun k94 x95 (s88:Int)=>
   (if (ile s88 (most:Int))=true then
   ((Q1w n x95 (wsub .i64 (most:Int) s88)).bind fun r103=>
   some (Ctl.go (wadd .i64 s88 r103)))
   else
   some (Ctl.brk s88))) p.kids (s0:=1) (fun k s=>∃ m:Nat,s=(m:Int)∧m=min (1+cntE.cntEs (p.kids.take k)) (most+1)) (fun _=>False) (fun s=>s=((min (cntE p) (most+1):Nat):Int)) ⟨1,rfl,by simp [cntE.cntEs]⟩ (fun k q s hq hI=>?_) (fun s hI=>?_)
  ·have:=Ret.ctl (Q:=fun b=>b=((min (cntE p) (most+1):Nat):Int)) key (g:=fun (o:Ctl Int Int)=>match o with
    | .ret r=>some r
    | .go _=>none
    | .brk s=>some s) (fun r hr=>hr.elim) (fun s hs=>.some hs)
   obtain ⟨b,e,rfl⟩:=this
   exact e
  ·obtain ⟨m,rfl,hm2⟩:=hI
   refine Ret.ite (fun h=>?_) (fun h=>?_)
   ·rw [W5] at h
    have hle:m≤most:=by omega
    have hws:wsub .i64 (most:Int) (m:Int)=((most-m:Nat):Int):=by rw [Q3q (by omega) (by omega)];omega
    rw [hws,ih q (most-m) (by omega) (by omega)]
    simp only [U0]
    rw [Q0f (by omega) (by omega)]
    refine .some ⟨m+min (cntE q) (most-m+1),by push_cast;rfl,?_⟩
    rw [Z2w p.kids k q hq]
    omega
   ·rw [Q1y] at h
    refine .some ?_
    have h1:=Q90 p.kids k
    have h2:=Z8v p
    show (m:Int)=_
    have:m=min (cntE p) (most+1):=by omega
    rw [this]
  ·obtain ⟨m,rfl,hm2⟩:=hI
   rw [List.take_length] at hm2
   have h2:=Z8v p
   have:m=min (cntE p) (most+1):=by omega
   rw [this]
theorem X1x {w:List Q2}(hw:WW w){T:List Q8}(hTl:T.length≤1000)(hTa:∀ f∈T,f.arg∈tys w){vars:List Q1}(hd:J0 vars=true){n:Nat}(hn:100≤n){t:Q3}(ht:t∈tys w)(e:Z4):Q4z n w T vars t e=some (Q6d w T vars t e):=by
 unfold Q4z Q6d
 rw [show (10:Int)=((10:Nat):Int) from rfl,W0j hw hTl hTa hd 10 n t e ht (by omega) (by omega)]
 simp only [U0]
 cases Q51 w T vars 10 t e with
 | false=>rfl
 | true=>
  simp only [if_true,Bool.true_and]
  rw [show (60:Int)=((60:Nat):Int) from rfl,X20 n e 60 (by omega) (by omega)]
  simp only [U0]
  congr 1
  by_cases h:cntE e≤60
  ·rw [decide_eq_true h,W5];omega
  ·rw [decide_eq_false h,Q1y];omega
theorem Q65 {w:List Q2}{t:Q3} : t∈tys w↔t=tI∨(0≤t.data∧t.data<w.length∧0≤t.index∧t.index≤3):=by
 unfold tys
 simp only [U7,List.mem_flatMap,U9,List.mem_range]
 refine or_congr Iff.rfl ⟨?_,fun h=>?_⟩
 ·rintro ⟨d,hd,i,hi,rfl⟩
  simp only [tD]
  omega
 ·refine ⟨t.data.toNat,by omega,t.index.toNat,by omega,?_⟩
  cases t
  simp only [tD,Q3.mk.injEq] at h ⊢
  omega
theorem Z4c {t:Q3} : t=tI↔t.data = -1∧t.index=0:=by
 cases t
 simp [tI]
theorem Z56 {w:List Q2}(hl:w.length≤1000)(t:Q3):Q13 w t=some (decide (t∈tys w)):=by
 unfold Q13
 have hws:wsub .i64 (lenZ w.length) 1=(w.length:Int)-1:=by unfold lenZ;rw [Q3q]<;>omega
 by_cases h:t=tI
 ·have h1:=Z4c.1 h
  rw [if_pos (by simp [Q4s,ieqD,h1]),decide_eq_true (Q65.2 (.inl h))]
 ·rw [if_neg (by
   intro h2
   apply h
   rw [Z4c]
   simpa [Q4s,ieqD] using h2),hws,Q5v]
  simp only [U0]
  by_cases h2:0≤t.data∧t.data<w.length
  ·rw [if_pos (by simp only [Bool.and_eq_true,decide_eq_true_eq];omega),Q5v]
   simp only [U0]
   congr 1
   by_cases h3:0≤t.index∧t.index≤3
   ·rw [decide_eq_true (Q65.2 (.inr ⟨h2.1,h2.2,h3.1,h3.2⟩))]
    simp [h3]
   ·have hne:decide (t∈tys w)=false:=decide_eq_false fun hm=>by
     rcases Q65.1 hm with h4 | h4
     ·exact h h4
     ·omega
    rw [hne]
    simp only [Bool.and_eq_false_iff,decide_eq_false_iff_not]
    omega
  ·rw [if_neg (by simp only [Bool.and_eq_true,decide_eq_true_eq];omega)]
   congr 1
   symm
   rw [decide_eq_false_iff_not]
   intro hm
   rcases Q65.1 hm with h4 | h4
   ·exact h h4
   ·omega
theorem Z4h {w:List Q2}(t:Q3):Q1c w t=some (decide (t∈tys w)):=by
 unfold Q1c Q60
 by_cases h1:t.data = -1
 ·rw [if_pos (by rw [Q7];exact h1)]
  simp only [U0]
  by_cases h2:t.index=0
  ·rw [if_pos (by rw [Q7];exact h2),decide_eq_true (Q65.2 (.inl (Z4c.2 ⟨h1,h2⟩)))]
   congr 1
   rw [W5];omega
  ·rw [if_neg (by rw [Q7];exact h2)]
   congr 1
   symm
   rw [decide_eq_false_iff_not]
   intro hm
   rcases Q65.1 hm with h4 | h4
   ·exact h2 (Z4c.1 h4).2
   ·omega
 ·rw [if_neg (by rw [Q7];exact h1)]
  have hne:t≠tI:=fun h=>h1 (Z4c.1 h).1
  by_cases h2:0≤t.data
  ·rw [if_pos (by rw [W5];exact h2)]
   by_cases h3:t.data<w.length
   ·rw [if_pos (by rw [W0];simp only [lenZ];exact h3)]
    by_cases h4 : -1≤t.index
    ·rw [if_pos (by rw [W5];exact h4)]
     simp only [U0]
     by_cases h5:t.index≤3
     ·rw [if_pos (by rw [W5];exact h5)]
      congr 1
      by_cases h6:0≤t.index
      ·rw [decide_eq_true (Q65.2 (.inr ⟨h2,h3,h6,h5⟩)),W5];exact h6
      ·rw [decide_eq_false (fun hm=>(Q65.1 hm).elim hne fun h7=>by omega),Q1y];omega
     ·rw [if_neg (by rw [W5];exact h5)]
      congr 1
      symm
      rw [decide_eq_false_iff_not]
      intro hm
      rcases Q65.1 hm with h7 | h7
      ·exact hne h7
      ·omega
    ·rw [if_neg (by rw [W5];exact h4)]
     simp only [U0,U2,if_false]
     congr 1
     symm
     rw [decide_eq_false_iff_not]
     intro hm
     rcases Q65.1 hm with h7 | h7
     ·exact hne h7
     ·omega
   ·rw [if_neg (by rw [W0];simp only [lenZ];exact h3)]
    simp only [U0,U2,if_false]
    congr 1
    symm
    rw [decide_eq_false_iff_not]
    intro hm
    rcases Q65.1 hm with h7 | h7
    ·exact hne h7
    ·omega
  ·rw [if_neg (by rw [W5];exact h2)]
   simp only [U0,U2,if_false]
   congr 1
   symm
   rw [decide_eq_false_iff_not]
   intro hm
   rcases Q65.1 hm with h7 | h7
   ·exact hne h7
   ·omega
theorem X2w {l:List GFun}(h:l.length≤1000):Q2x l=some (l.map (·.typ)):=by
 suffices hs:Ret (Q2x l) (fun r=>r=l.map (·.typ)) by
  obtain ⟨a,e,rfl⟩:=hs
  exact e
 unfold Q2x
 refine Ret.ctl (Z9 l (fun k s=>s=(l.take k).map (·.typ)) (fun _=>False) (fun s=>s=l.map (·.typ)) rfl (fun k x s hx hI=>?_) (fun s hI=>by rw [hI,List.take_length])) (fun r hr=>hr.elim) (fun s hs=>.some hs)
 have hk:=(List.getElem?_eq_some_iff.1 hx).1
 rw [Q33 (by simp only [Z0,U3,U4];rw [hI,List.length_map,U6];omega)]
 exact .some (by rw [hI,List.take_add_one,hx];simp)
theorem Z9i {l:List GFun}(h:l.length≤1000):Q1v l=some (l.map (·.typ)):=by
 suffices hs:Ret (Q1v l) (fun r=>r=l.map (·.typ)) by
  obtain ⟨a,e,rfl⟩:=hs
  exact e
 unfold Q1v
 refine Ret.ctl (Z9 l (fun k s=>s=(l.take k).map (·.typ)) (fun _=>False) (fun s=>s=l.map (·.typ)) rfl (fun k x s hx hI=>?_) (fun s hI=>by rw [hI,List.take_length])) (fun r hr=>hr.elim) (fun s hs=>.some hs)
 have hk:=(List.getElem?_eq_some_iff.1 hx).1
 rw [Q33 (by simp only [Z0,U3,U4];rw [hI,List.length_map,U6];omega)]
 exact .some (by rw [hI,List.take_add_one,hx];simp)
def Z7u (w:List Q2)(T:List Q8):Bool:=decide (T.length≤4)&&T.all fun f=>decide (f.arg∈tys w)&&decide (f.res∈tys w)
theorem Z2u (l:List Q8)(f:Q8→Option Bool)(g:Q8→Bool)(hf:∀ x∈l,f x=some (g x)):Q08 l f=some (l.any g):=X59 (Q5o l f g hf)
theorem X5j {w:List Q2}(hl:w.length≤1000)(T:List Q8):Q3t (Q30.mk w T [])=some (Z7u w T):=by
 unfold Q3t Z7u
 by_cases h:T.length≤4
 ·rw [if_neg (by rw [W0];simp only [lenZ];omega),decide_eq_true h,Bool.true_and]
  rw [Z2u T _ (fun f=>!(decide (f.arg∈tys w)&&decide (f.res∈tys w))) (fun f _=>by
   unfold Q47
   simp only
   rw [Z56 hl]
   simp only [U0]
   cases decide (f.arg∈tys w) with
   | false=>rfl
   | true=>
    simp only [Bool.not_true,U2,if_false]
    rw [Z56 hl]
    rfl)]
  simp only [U0]
  cases ha:T.all fun f=>decide (f.arg∈tys w)&&decide (f.res∈tys w) with
  | false=>
   rw [if_pos (by
    rw [List.all_eq_false] at ha
    obtain ⟨f,h1,h2⟩:=ha
    exact List.any_eq_true.2 ⟨f,h1,by rw [Bool.eq_false_iff.2 h2];rfl⟩)]
  | true=>
   rw [if_neg (by
    rw [List.all_eq_true] at ha
    intro h2
    obtain ⟨f,h3,h4⟩:=List.any_eq_true.1 h2
    rw [ha f h3] at h4
    cases h4)]
   rfl
 ·rw [if_pos (by rw [W0];simp only [lenZ];omega),decide_eq_false h,Bool.false_and]
theorem X1u {w:List Q2}(T:List Q8)(hT:T.length≤1000):Q1k w T=some (Z7u w T):=by
 suffices hs:Ret (Q1k w T) (fun r=>r=Z7u w T) by
  obtain ⟨a,e,rfl⟩:=hs
  exact e
 unfold Q1k Z7u
 refine Ret.ctl (Z9 T (fun k _=>k≤5∧∀ (j:Nat) (f:Q8),j<k→T[j]?=some f→(decide (f.arg∈tys w)&&decide (f.res∈tys w))=true) (fun r:Bool=>r=(decide (T.length≤4)&&T.all fun f=>decide (f.arg∈tys w)&&decide (f.res∈tys w))) (fun _=>T.length≤4→(T.all fun f=>decide (f.arg∈tys w)&&decide (f.res∈tys w))=true) ⟨by omega,fun j f hj=>by omega⟩ (fun k f s hf hI=>?_) (fun s hI=>fun _=>?_)) (fun r hr=>.some hr) (fun s hs=>.some ?_)
 ·have bad:(decide (f.arg∈tys w)&&decide (f.res∈tys w))=false→(T.all fun f=>decide (f.arg∈tys w)&&decide (f.res∈tys w))=false:=fun h=>by
   rw [List.all_eq_false]
   exact ⟨f,U1 hf,by rw [h];simp⟩
  refine Ret.ite (fun h=>?_) (fun h=>?_)
  ·rw [W5] at h
   rw [Z4h]
   simp only [U0]
   cases h1:decide (f.arg∈tys w) with
   | false=>exact .some (by show false=_;rw [bad (by rw [h1];rfl),Bool.and_false])
   | true=>
    simp only [Bool.not_true,U2,if_false]
    rw [Z4h]
    simp only [U0]
    cases h2:decide (f.res∈tys w) with
    | false=>exact .some (by show false=_;rw [bad (by rw [h2,Bool.and_false]),Bool.and_false])
    | true=>
     refine .some ⟨by omega,fun j g hj hg=>?_⟩
     by_cases hjk:j=k
     ·subst hjk
      rw [hf] at hg
      cases hg
      rw [h1,h2];rfl
     ·exact hI.2 j g (by omega) hg
  ·rw [Q1y] at h
   have:=(List.getElem?_eq_some_iff.1 hf).1
   exact .some (fun h4=>by omega)
 ·rw [List.all_eq_true]
  intro f hf
  obtain ⟨j,hj⟩:=List.mem_iff_getElem?.1 hf
  exact hI.2 j f (List.getElem?_eq_some_iff.1 hj).1 hj
 ·by_cases h:T.length≤4
  ·rw [hs h,decide_eq_true h,Bool.true_and,W5];simp only [lenZ];omega
  ·rw [decide_eq_false h,Bool.false_and,Q1y];simp only [lenZ];omega
def funB (w:List Q2)(T:List Q8)(f:GFun):Bool:=Q6p w f.typ.arg f.clauses&&(decide (f.bodies.length=f.clauses.length)&&(f.clauses.zip f.bodies).all fun x=>Q6d w T (Q1a w 10 f.typ.arg x.1.pat) f.typ.res x.2)
def Z3o (w:List Q2)(F:List GFun):Bool:=Z7u w (F.map (·.typ))&&F.all (funB w (F.map (·.typ)))
theorem X1n {α β:Type}{a:List α}{b:List β}(hl:b.length=a.length){g:α×β→Bool} : (a.zip b).all g=true↔∀ (i:Nat) (x:α) (y:β),a[i]?=some x→b[i]?=some y→g (x,y)=true:=by
 rw [List.all_eq_true]
 constructor
 ·intro h i x y hx hy
  exact h (x,y) (U1 (Q3m hx hy))
 ·intro h z hz
  obtain ⟨j,hj⟩:=List.mem_iff_getElem?.1 hz
  obtain ⟨e1,e2⟩:=List.getElem?_zip_eq_some.1 hj
  exact h j _ _ e1 e2
theorem Q9p {w:List Q2}{F:List GFun}(h:Z3o w F=true):Z20 w F:=by
 simp only [Z3o,Bool.and_eq_true,Z7u,decide_eq_true_eq,List.all_eq_true] at h
 obtain ⟨⟨h1,h2⟩,h3⟩:=h
 refine ⟨by simpa using h1,fun g hg=>?_⟩
 have h4:=h2 g.typ (List.mem_map_of_mem hg)
 have h5:=h3 g hg
 simp only [funB,Bool.and_eq_true,decide_eq_true_eq] at h5
 obtain ⟨h6,h7,h8⟩:=h5
 exact ⟨h4.1,h4.2,h6,h7,fun i c e hc he=>(X1n h7).1 h8 i c e hc he⟩
theorem X2i {w:List Q2}(hw:WW w){F:List GFun}(hF:F.length≤1000):Q28 NN w F=some (Z3o w F):=by
 have hwl:w.length≤1000:=by have:=hw.le;omega
 suffices hs:Ret (Q28 NN w F) (fun r=>r=Z3o w F) by
  obtain ⟨a,e,rfl⟩:=hs
  exact e
 unfold Q28 Z3o
 rw [X2w hF]
 simp only [U0]
 rw [hw.v1]
 simp only [U0,Bool.not_true,U2,if_false]
 rw [X5j hwl]
 simp only [U0]
 refine Ret.ite (fun h=>?_) (fun h=>?_)
 ·rw [Bool.not_eq_true'] at h
  exact .some (by rw [h];rfl)
 rw [Bool.not_eq_false'] at h
 rw [h,Bool.true_and]
 have hty:=h
 simp only [Z7u,Bool.and_eq_true,decide_eq_true_eq,List.all_eq_true] at hty
 have hTa:∀ f∈F.map (·.typ),f.arg∈tys w:=fun f hf=>(hty.2 f hf).1
 have hTr:∀ g∈F,g.typ.arg∈tys w∧g.typ.res∈tys w:=fun g hg=>hty.2 g.typ (List.mem_map_of_mem hg)
 generalize hTe:F.map (·.typ)=T at *
 have hTl:T.length≤1000:=by rw [←hTe];simpa using hF
 refine Ret.ctl (Z9 F (fun k _=>∀ (j:Nat) (f:GFun),j<k→F[j]?=some f→funB w T f=true) (fun r:Bool=>r=F.all (funB w T)) (fun _=>F.all (funB w T)=true) (fun j f hj=>by omega) (fun k f s hf hI=>?_) (fun s hI=>?_)) (fun r hr=>.some hr) (fun s hs=>.some hs.symm)
 ·obtain ⟨ha,hr⟩:=hTr f (U1 hf)
  have bad:funB w T f=false→F.all (funB w T)=false:=fun h=>by
   rw [List.all_eq_false]
   exact ⟨f,U1 hf,by rw [h];simp⟩
  rw [Z6k hw ha]
  simp only [U0]
  refine Ret.ite (fun h1=>?_) (fun h1=>?_)
  ·rw [Bool.not_eq_true'] at h1
   exact .some (show false=_ from (bad (by unfold funB;rw [h1];rfl)).symm)
  rw [Bool.not_eq_false'] at h1
  refine Ret.ite (fun h2=>?_) (fun h2=>?_)
  ·rw [Bool.not_eq_true',Q9] at h2
   simp only [lenZ] at h2
   refine .some (show false=_ from (bad ?_).symm)
   unfold funB
   rw [decide_eq_false (show ¬f.bodies.length=f.clauses.length by omega),Bool.false_and,Bool.and_false]
  rw [Bool.not_eq_false',Q7] at h2
  simp only [lenZ] at h2
  have hlen:f.bodies.length=f.clauses.length:=by omega
  have hfb:funB w T f=(f.clauses.zip f.bodies).all fun x=>Q6d w T (Q1a w 10 f.typ.arg x.1.pat) f.typ.res x.2:=by unfold funB;rw [h1,decide_eq_true hlen];rfl
  refine Ret.ctl (Z9 f.bodies (fun i _=>∀ (j:Nat) (c:X1) (e:Z4),j<i→f.clauses[j]?=some c→f.bodies[j]?=some e→Q6d w T (Q1a w 10 f.typ.arg c.pat) f.typ.res e=true) (fun r:Ctl Bool Unit=>r=.ret false∧funB w T f=false) (fun _=>funB w T f=true) (fun j c e hj=>by omega) (fun i e s he hI2=>?_) (fun s hI2=>?_)) (fun r hr=>?_) (fun s hs=>?_)
  ·have hi:=(List.getElem?_eq_some_iff.1 he).1
   have hc:f.clauses[i]?=some (f.clauses[i]'(by omega)):=by simp
   rw [Q1m hc]
   simp only [U0]
   have hcv:=(Q63 h1).2 _ (U1 hc)
   unfold Q8t
   obtain ⟨r,er,r1,r2⟩:=Z0e hw (n:=NN) (by decide) f.typ.arg (f.clauses[i]'(by omega)).pat ha
   rw [er]
   simp only [U0]
   rw [r2 hcv]
   have hd:=Q19 10 f.typ.arg _ (Q24 hcv).1 (Q24 hcv).2.2
   rw [X2j hw hTl hTa hd (by decide) hr]
   simp only [U0]
   cases hv:Q6d w T (Q1a w 10 f.typ.arg (f.clauses[i]'(by omega)).pat) f.typ.res e with
   | false=>
    refine .some ⟨rfl,?_⟩
    rw [hfb,List.all_eq_false]
    exact ⟨_,U1 (Q3m hc he),by simp [hv]⟩
   | true=>
    refine .some (fun j c x hj h3 h4=>?_)
    by_cases hji:j=i
    ·subst hji
     rw [hc] at h3
     rw [he] at h4
     cases h3
     cases h4
     exact hv
    ·exact hI2 j c x (by omega) h3 h4
  ·rw [hfb,X1n hlen]
   exact fun j c x h3 h4=>hI2 j c x (List.getElem?_eq_some_iff.1 h4).1 h3 h4
  ·obtain ⟨rfl,h3⟩:=hr
   exact .some (show false=_ from (bad h3).symm)
  ·refine .some (fun j g hj hg=>?_)
   by_cases hjk:j=k
   ·subst hjk
    rw [hf] at hg
    cases hg
    exact hs
   ·exact hI j g (by omega) hg
 ·rw [List.all_eq_true]
  intro f hf
  obtain ⟨j,hj⟩:=List.mem_iff_getElem?.1 hf
  exact hI j f (List.getElem?_eq_some_iff.1 hj).1 hj
theorem X5i {w:List Q2}(hw:WW w){T:List Q8}(hTl:T.length≤1000)(hTa:∀ f∈T,f.arg∈tys w){f:GFun}(ha:f.typ.arg∈tys w)(hr:f.typ.res∈tys w):Q4y NN w T f=some (funB w T f):=by
 suffices hs:Ret (Q4y NN w T f) (fun r=>r=funB w T f) by
  obtain ⟨a,e,rfl⟩:=hs
  exact e
 unfold Q4y
 rw [Z6f hw ha]
 simp only [U0]
 refine Ret.ite (fun h1=>?_) (fun h1=>?_)
 ·rw [Bool.not_eq_true'] at h1
  exact .some (by unfold funB;rw [h1];rfl)
 rw [Bool.not_eq_false'] at h1
 refine Ret.ite (fun h2=>?_) (fun h2=>?_)
 ·rw [Bool.not_eq_true',Q9] at h2
  simp only [lenZ] at h2
  refine .some ?_
  unfold funB
  rw [decide_eq_false (show ¬f.bodies.length=f.clauses.length by omega),Bool.false_and,Bool.and_false]
 rw [Bool.not_eq_false',Q7] at h2
 simp only [lenZ] at h2
 have hlen:f.bodies.length=f.clauses.length:=by omega
 have hfb:funB w T f=(f.clauses.zip f.bodies).all fun x=>Q6d w T (Q1a w 10 f.typ.arg x.1.pat) f.typ.res x.2:=by unfold funB;rw [h1,decide_eq_true hlen];rfl
 refine Ret.ctl (Z9 f.clauses (fun i _=>∀ (j:Nat) (c:X1) (e:Z4),j<i→f.clauses[j]?=some c→f.bodies[j]?=some e→Q6d w T (Q1a w 10 f.typ.arg c.pat) f.typ.res e=true) (fun r:Bool=>r=funB w T f) (fun _=>funB w T f=true) (fun j c e hj=>by omega) (fun i c s hc hI2=>?_) (fun s hI2=>?_)) (fun r hr=>.some hr) (fun s hs=>.some hs.symm)
 ·have hi:=(List.getElem?_eq_some_iff.1 hc).1
  have he:f.bodies[i]?=some (f.bodies[i]'(by omega)):=by simp
  have hcv:=(Q63 h1).2 _ (U1 hc)
  obtain ⟨g,hcn,ln⟩:=Q24 hcv
  rw [(Q5i hw 10 NN f.typ.arg c.pat [] ha g (by decide) (by simp only [U4];omega)).1]
  simp only [U0,List.nil_append]
  rw [Q1m he]
  simp only [U0]
  have hd:=Q19 10 f.typ.arg _ g ln
  rw [X1x hw hTl hTa hd (by decide) hr]
  simp only [U0]
  cases hv:Q6d w T (Q1a w 10 f.typ.arg c.pat) f.typ.res (f.bodies[i]'(by omega)) with
  | false=>
   refine .some ?_
   show false=_
   symm
   rw [hfb,List.all_eq_false]
   exact ⟨_,U1 (Q3m hc he),by simp [hv]⟩
  | true=>
   refine .some (fun j c x hj h3 h4=>?_)
   by_cases hji:j=i
   ·subst hji
    rw [hc] at h3
    rw [he] at h4
    cases h3
    cases h4
    exact hv
   ·exact hI2 j c x (by omega) h3 h4
 ·rw [hfb,X1n hlen]
  exact fun j c x h3 h4=>hI2 j c x (List.getElem?_eq_some_iff.1 h3).1 h3 h4
theorem Z9n {w:List Q2}(hw:WW w){F:List GFun}(hF:F.length≤1000):Q1e NN w F=some (Z3o w F):=by
 suffices hs:Ret (Q1e NN w F) (fun r=>r=Z3o w F) by
  obtain ⟨a,e,rfl⟩:=hs
  exact e
 unfold Q1e Z3o
 rw [Z9i hF]
 simp only [U0]
 rw [hw.v2]
 simp only [U0,Bool.not_true,U2,if_false]
 rw [X1u _ (by simpa using hF)]
 simp only [U0]
 refine Ret.ite (fun h=>?_) (fun h=>?_)
 ·rw [Bool.not_eq_true'] at h
  exact .some (by rw [h];rfl)
 rw [Bool.not_eq_false'] at h
 rw [h,Bool.true_and]
 have hty:=h
 simp only [Z7u,Bool.and_eq_true,decide_eq_true_eq,List.all_eq_true] at hty
 have hTa:∀ f∈F.map (·.typ),f.arg∈tys w:=fun f hf=>(hty.2 f hf).1
 have hTr:∀ g∈F,g.typ.arg∈tys w∧g.typ.res∈tys w:=fun g hg=>hty.2 g.typ (List.mem_map_of_mem hg)
 have hTl:(F.map (·.typ)).length≤1000:=by simpa using hF
 refine Ret.ctl (Z9 F (fun k _=>∀ (j:Nat) (f:GFun),j<k→F[j]?=some f→funB w (F.map (·.typ)) f=true) (fun r:Bool=>r=F.all (funB w (F.map (·.typ)))) (fun _=>F.all (funB w (F.map (·.typ)))=true) (fun j f hj=>by omega) (fun k f s hf hI=>?_) (fun s hI=>?_)) (fun r hr=>.some hr) (fun s hs=>.some hs.symm)
 ·obtain ⟨ha,hr⟩:=hTr f (U1 hf)
  rw [X5i hw hTl hTa ha hr]
  simp only [U0]
  cases hb:funB w (F.map (·.typ)) f with
  | false=>
   refine .some ?_
   show false=_
   symm
   rw [List.all_eq_false]
   exact ⟨f,U1 hf,by simp [hb]⟩
  | true=>
   refine .some (fun j g hj hg=>?_)
   by_cases hjk:j=k
   ·subst hjk
    rw [hf] at hg
    cases hg
    exact hb
   ·exact hI j g (by omega) hg
 ·rw [List.all_eq_true]
  intro f hf
  obtain ⟨j,hj⟩:=List.mem_iff_getElem?.1 hf
  exact hI j f (List.getElem?_eq_some_iff.1 hj).1 hj
theorem X1z:∀ (n:Nat) (p:Q0) (most:Nat),most<n→most≤1000→Q2l n p (most:Int)=some ((min (cntV p) (most+1):Nat):Int):=by
 intro n
 induction n with
 | zero=>intro p most h;omega
 | succ n ih=>
  intro p most hn hm
  unfold Q2l
  have key:=Z9 (ρ:=Int) (f:=fun k94 x95 (s88:Int)=>
   (if (ile s88 (most:Int))=true then
   ((Q2l n x95 (wsub .i64 (most:Int) s88)).bind fun r103=>
   some (Ctl.go (wadd .i64 s88 r103)))
   else
   some (Ctl.brk s88))) p.kids (s0:=1) (fun k s=>∃ m:Nat,s=(m:Int)∧m=min (1+cntV.cntVs (p.kids.take k)) (most+1)) (fun _=>False) (fun s=>s=((min (cntV p) (most+1):Nat):Int)) ⟨1,rfl,by simp [cntV.cntVs]⟩ (fun k q s hq hI=>?_) (fun s hI=>?_)
  ·have:=Ret.ctl (Q:=fun b=>b=((min (cntV p) (most+1):Nat):Int)) key (g:=fun (o:Ctl Int Int)=>match o with
    | .ret r=>some r
    | .go _=>none
    | .brk s=>some s) (fun r hr=>hr.elim) (fun s hs=>.some hs)
   obtain ⟨b,e,rfl⟩:=this
   exact e
  ·obtain ⟨m,rfl,hm2⟩:=hI
   refine Ret.ite (fun h=>?_) (fun h=>?_)
   ·rw [W5] at h
    have hle:m≤most:=by omega
    have hws:wsub .i64 (most:Int) (m:Int)=((most-m:Nat):Int):=by rw [Q3q (by omega) (by omega)];omega
    rw [hws,ih q (most-m) (by omega) (by omega)]
    simp only [U0]
    rw [Q0f (by omega) (by omega)]
    refine .some ⟨m+min (cntV q) (most-m+1),by push_cast;rfl,?_⟩
    rw [Z05 p.kids k q hq]
    omega
   ·rw [Q1y] at h
    refine .some ?_
    have h1:=Q6o p.kids k
    have h2:=Z2v p
    show (m:Int)=_
    have:m=min (cntV p) (most+1):=by omega
    rw [this]
  ·obtain ⟨m,rfl,hm2⟩:=hI
   rw [List.take_length] at hm2
   have h2:=Z2v p
   have:m=min (cntV p) (most+1):=by omega
   rw [this]
theorem Z3f:∀ (d n:Nat) (v:Q0),Q8z d v→d≤n→Q1h n v=some v:=by
 intro d
 induction d with
 | zero=>intro n v h;exact h.elim
 | succ d ih=>
  intro n v h hn
  obtain ⟨n,rfl⟩:∃ k,n=k+1:=⟨n-1,by omega⟩
  obtain ⟨h1,h2⟩:=h
  have hr:Ret (Q1h (n+1) v) (fun r=>r=v):=by
   unfold Q1h
   refine Ret.ctl (Z9 v.kids (fun k s=>s=v.kids.take k) (fun _=>False) (fun s=>s=v.kids) (by simp) (fun k q s hq hI=>?_) (fun s hI=>?_)) (fun r hr=>hr.elim) (fun s hs=>.some (Q0.ext' rfl rfl hs))
   ·rw [ih n q (h2 q (U1 hq)) (by omega)]
    simp only [U0]
    rw [Q33 (by simp only [Z0,U3,U4];rw [hI,U6];omega)]
    exact .some (by rw [hI,List.take_add_one,hq];rfl)
   ·rw [hI,List.take_length]
  obtain ⟨r,e,rfl⟩:=hr
  exact e
theorem X1v {w:List Q2}(hw:WW w):∀ (d n:Nat) (t:Q3) (v:Q0),t∈tys w→d+1≤n→d≤100→Q2b n w t v (d:Int)=some (Q20 w d t v):=by
 intro d
 induction d with
 | zero=>
  intro n t v ht hn hd
  obtain ⟨m,rfl⟩:∃ m,n=m+1:=⟨n-1,by omega⟩
  unfold Q2b
  rw [if_pos (by rw [W0];omega)]
  rfl
 | succ d ih=>
  intro n t v ht hn hd
  obtain ⟨m,rfl⟩:∃ m,n=m+1:=⟨n-1,by omega⟩
  have hT:=hw.ty t ht
  suffices hs:Ret (Q2b (m+1) w t v ((d+1:Nat):Int)) (fun r=>r=Q20 w (d+1) t v) by
   obtain ⟨a,e,rfl⟩:=hs
   exact e
  unfold Q2b
  rw [if_neg (by rw [W0];omega)]
  have hws:wsub .i64 ((d+1:Nat):Int) 1=(d:Int):=by rw [Q3q]<;>omega
  rw [hws]
  refine Ret.ite (fun hi=>?_) (fun hi=>?_)
  ·rw [Q7] at hi
   have hg:Q20 w (d+1) t v=(decide (v.ctor = -1)&&(decide (0≤v.n)&&(decide (v.n≤9)&&decide (v.kids.length=0)))):=by rw [Q20,if_pos hi]
   rw [hg]
   refine Ret.ite (fun h1=>?_) (fun h1=>.some ?_)
   ·rw [Q7] at h1
    refine Ret.ite (fun h2=>?_) (fun h2=>.some ?_)
    ·rw [W5] at h2
     refine Ret.ite (fun h3=>.some ?_) (fun h3=>.some ?_)
     ·rw [W5] at h3
      simp only [h1,h2,h3,decide_true,Bool.true_and]
      exact len0 _
     ·rw [Q1y] at h3
      simp [show ¬v.n≤9 by omega]
    ·rw [Q1y] at h2
     simp [show ¬0≤v.n by omega]
   ·rw [Q9] at h1
    simp [h1]
  ·rw [Q9] at hi
   have hg:Q20 w (d+1) t v=(decide (v.n=0)&&(decide (v.ctor∈Y0 w t)&&(decide (v.kids.length=(Q0z w t v.ctor).length)&&((Q0z w t v.ctor).zip v.kids).all fun x=>Q20 w d x.1 x.2))):=by rw [Q20,if_neg hi]
   rw [hg]
   refine Ret.ite (fun h1=>.some ?_) (fun h1=>?_)
   ·rw [Bool.not_eq_true',Q9] at h1
    simp [h1]
   rw [Bool.not_eq_false',Q7] at h1
   rw [hT.c1]
   simp only [U0]
   rw [X4n]
   simp only [U0]
   refine Ret.ite (fun h2=>.some ?_) (fun h2=>?_)
   ·rw [Bool.not_eq_true',decide_eq_false_iff_not] at h2
    simp [h2]
   rw [Bool.not_eq_false',decide_eq_true_eq] at h2
   rw [hT.a1 _ h2]
   simp only [U0]
   refine Ret.ite (fun hl=>.some ?_) (fun hl=>?_)
   ·rw [Bool.not_eq_true',Q9] at hl
    simp only [lenZ] at hl
    have:¬v.kids.length=(Q0z w t v.ctor).length:=by omega
    simp [this]
   rw [Bool.not_eq_false',Q7] at hl
   simp only [lenZ] at hl
   have hl2:v.kids.length=(Q0z w t v.ctor).length:=by omega
   simp only [h1,h2,hl2,decide_true,Bool.true_and]
   refine Ret.ctl (Z9 (Q0z w t v.ctor) (fun k _=>∀ (j:Nat) (a:Q3) (x:Q0),j<k→(Q0z w t v.ctor)[j]?=some a→v.kids[j]?=some x→Q20 w d a x=true) (fun b=>b=false∧(((Q0z w t v.ctor).zip v.kids).all fun x=>Q20 w d x.1 x.2)=false) (fun _=>(((Q0z w t v.ctor).zip v.kids).all fun x=>Q20 w d x.1 x.2)=true) (fun j a x hj=>by omega) (fun k a s ha hI=>?_) (fun s hI=>?_)) (fun r hr=>.some (by rw [hr.1,hr.2])) (fun s hs=>.some hs.symm)
   ·have hlt:k<v.kids.length:=by have:=(List.getElem?_eq_some_iff.1 ha).1;omega
    have hq:v.kids[k]?=some v.kids[k]:=by simp [hlt]
    rw [Q1m hq]
    simp only [U0]
    rw [ih m a v.kids[k] (hT.at_ _ h2 a (U1 ha)) (by omega) (by omega)]
    simp only [U0]
    cases hgk:Q20 w d a v.kids[k] with
    | false=>
     refine .some ⟨rfl,?_⟩
     rw [List.all_eq_false]
     exact ⟨(a,v.kids[k]),U1 (Q3m ha hq),by simp [hgk]⟩
    | true=>
     refine .some (fun j a' q' hj ha' hq'=>?_)
     by_cases hjk:j=k
     ·subst hjk
      rw [ha] at ha'
      rw [hq] at hq'
      cases ha'
      cases hq'
      exact hgk
     ·exact hI j a' q' (by omega) ha' hq'
   ·rw [List.all_eq_true]
    intro x hx
    obtain ⟨j,hj⟩:=List.mem_iff_getElem?.1 hx
    obtain ⟨h3,h4⟩:=List.getElem?_zip_eq_some.1 hj
    exact hI j x.1 x.2 ((List.getElem?_eq_some_iff.1 h3).1) h3 h4
theorem Z4g {n:Nat}(hn:1000≤n){w:List Q2}(hw:WW w){t:Q3}(ht:t∈tys w)(v:Q0):Q4q n w t v=some (Q14 w t v):=by
 unfold Q4q Q14
 rw [show (10:Int)=((10:Nat):Int) from rfl,X1v hw 10 n t v ht (by omega) (by omega)]
 simp only [U0]
 cases Q20 w 10 t v with
 | false=>rfl
 | true=>
  simp only [if_true,Bool.true_and]
  rw [show (60:Int)=((60:Nat):Int) from rfl,X1z n v 60 (by omega) (by omega)]
  simp only [U0]
  congr 1
  by_cases h:cntV v≤60
  ·rw [decide_eq_true h,W5];omega
  ·rw [decide_eq_false h,Q1y];omega
theorem Z9m (g:Q2i)(l:List Z3):Q0v g l=some (Q3y g l):=by
 suffices hs:Ret (Q0v g l) (fun r=>r=Q3y g l) by
  obtain ⟨a,e,rfl⟩:=hs
  exact e
 unfold Q0v
 refine Ret.ite (fun h0=>.some ?_) (fun h0=>?_)
 ·rw [Q7] at h0
  simp [Q3y,h0]
 rw [Q9] at h0
 have hG:Q3y g l=match l.find? fun b=>decide (b.var=g.var) with
   | none=>false
   | some b=>ieq b.value.ctor (-1)&&((ieq g.op 1&&ilt b.value.n g.n)||(ieq g.op 2&&ieq b.value.n g.n)):=by
  unfold Q3y
  rw [decide_eq_false h0,Bool.false_or]
  rfl
 refine Ret.ctl (Z9 l (fun k _=>l.find? (fun b=>decide (b.var=g.var))=(l.drop k).find? (fun b=>decide (b.var=g.var))) (fun r=>r=Q3y g l) (fun _=>Q3y g l=false) rfl (fun k x s hx hI=>?_) (fun s hI=>?_)) (fun r hr=>.some hr) (fun s hs=>.some hs.symm)
 ·rw [Q9v hx,List.find?_cons] at hI
  by_cases hv:x.var=g.var
  ·have e:(!ieq x.var g.var)=false:=by simp [ieq,hv]
   simp only [e,U2,if_false]
   rw [decide_eq_true hv] at hI
   simp only at hI
   rw [hI] at hG
   simp only at hG
   rw [hG]
   generalize ieq x.value.ctor (-1)=b1
   generalize ieq g.op 1=b2
   generalize ilt x.value.n g.n=b3
   generalize ieq g.op 2=b4
   generalize ieq x.value.n g.n=b5
   cases b1<;>cases b2<;>cases b3<;>cases b4<;>cases b5<;>exact .some rfl
  ·have e:(!ieq x.var g.var)=true:=by simp [ieq,hv]
   simp only [e,if_true,U0]
   rw [decide_eq_false hv] at hI
   exact .some hI
 ·rw [List.drop_length] at hI
  rw [hG,hI]
  rfl
theorem Z9k {w:List Q2}(hw:WW w):∀ (d n:Nat) (t:Q3) (p:Q5) (v:Q0) (e:Nat) (out:List Z3),t∈tys w→Q2r w d t p=true→Q5p w e t v→d+2≤n→out.length+cntP p≤100000→
  Ret (Q10 n out p v) (fun r=>r.2=(W4 d p v).isSome∧∀ l,W4 d p v=some l→r.1=out++l∧l.length≤cntP p):=by
 intro d
 induction d with
 | zero=>intro n t p v e out _ h;simp [Q2r] at h
 | succ d ih=>
  intro n t p v e out ht g hv hn hc
  obtain ⟨n,rfl⟩:∃ k,n=k+1:=⟨n-1,by omega⟩
  have hT:=hw.ty t ht
  obtain ⟨ho,hl⟩:=Q5t (Q5a g)
  have hpos:=Z49 p
  unfold Q10
  rw [W4]
  refine Ret.ite (fun h1=>?_) (fun h1=>?_)
  ·rw [Q7] at h1
   rw [if_pos h1]
   exact .some ⟨rfl,fun l h=>by cases h;simp⟩
  rw [Q9] at h1
  rw [if_neg h1]
  refine Ret.ite (fun h2=>?_) (fun h2=>?_)
  ·rw [Q7] at h2
   rw [if_pos h2,Q33 (by simp only [U4,Z0];omega)]
   simp only [U0]
   rw [Q33 (by simp only [U3,U4,Z0];omega)]
   exact .some ⟨rfl,fun l h=>by cases h;exact ⟨rfl,hpos⟩⟩
  rw [Q9] at h2
  rw [if_neg h2]
  refine Ret.ite (fun h3=>?_) (fun h3=>?_)
  ·rw [Q7] at h3
   rw [if_pos h3]
   refine Ret.ite (fun h4=>.some ?_) (fun h4=>.some ?_)
   ·rw [W5] at h4
    by_cases h5:v.n≤p.m
    ·rw [if_pos ⟨h4,h5⟩]
     exact ⟨by simp only [Option.isSome_some];rw [W5];exact h5,fun l h=>by cases h;simp⟩
    ·rw [if_neg fun hh=>h5 hh.2]
     exact ⟨by simp only [Option.isSome_none];rw [Q1y];omega,fun l h=>by cases h⟩
   ·rw [Q1y] at h4
    rw [if_neg (fun hh=>by omega)]
    exact ⟨rfl,fun l h=>by cases h⟩
  rw [Q9] at h3
  rw [if_neg h3]
  refine Ret.ite (fun h5=>?_) (fun h5=>?_)
  ·rw [Q7] at h5
   rw [if_pos h5]
   obtain ⟨a,b,hab,hkt⟩:=kid0 h5 hl
   have ga:=Q0l g (k:=0) (a:=t) (q:=a) (by rw [hkt];rfl) (by rw [hab];rfl)
   have gb:=Q0l g (k:=1) (a:=t) (q:=b) (by rw [hkt];rfl) (by rw [hab];rfl)
   have hcp:=Q7h p
   rw [hab] at hcp ⊢
   simp only [cntP.cntPs] at hcp
   rw [show idx [a,b] 0=some a from rfl,show idx [a,b] 1=some b from rfl]
   simp only [U0]
   refine Ret.bind (ih n t a v e out ht ga hv (by omega) (by omega)) (fun r hr=>?_)
   obtain ⟨r1,r2⟩:=hr
   cases hm:W4 d a v with
   | some l=>
    rw [hm] at r1
    rw [if_pos (by rw [r1];rfl)]
    obtain ⟨q1,q2⟩:=r2 l hm
    exact .some ⟨rfl,fun l' h=>by cases h;exact ⟨q1,by omega⟩⟩
   | none=>
    rw [hm] at r1
    rw [if_neg (by rw [r1];simp)]
    refine Ret.bind (ih n t b v e out ht gb hv (by omega) (by omega)) (fun s hs=>.some ⟨hs.1,fun l h=>?_⟩)
    obtain ⟨q1,q2⟩:=hs.2 l h
    exact ⟨q1,by omega⟩
  rw [Q9] at h5
  rw [if_neg h5]
  refine Ret.ite (fun h6=>?_) (fun h6=>?_)
  ·rw [Q7] at h6
   rw [if_pos h6]
   obtain ⟨a,hk,hkt⟩:=Z8a h6 hl
   have ga:=Q0l g (k:=0) (a:=t) (q:=a) (by rw [hkt];rfl) (by rw [hk];rfl)
   have hcp:=Q7h p
   rw [hk] at hcp ⊢
   simp only [cntP.cntPs] at hcp
   rw [show idx [a] 0=some a from rfl]
   simp only [U0]
   rw [Q33 (by simp only [U4,Z0];omega)]
   simp only [U0]
   rw [Q33 (by simp only [U3,U4,Z0];omega)]
   simp only [U0]
   refine Ret.bind (ih n t a v e (out++[⟨p.var,v⟩]) ht ga hv (by omega) (by simp only [U5,U3,U4];omega)) (fun r hr=>.some ?_)
   cases hm:W4 d a v with
   | none=>rw [hm] at hr;exact ⟨hr.1,fun l h=>by cases h⟩
   | some l=>
    rw [hm] at hr
    obtain ⟨q1,q2⟩:=hr.2 l rfl
    exact ⟨hr.1,fun l' h=>by cases h;exact ⟨by rw [q1];simp,by simp only [U3];omega⟩⟩
  rw [Q9] at h6
  rw [if_neg h6]
  have h4:p.op=4:=by
   simp only [Z3i,Bool.and_eq_true,Bool.or_eq_true,decide_eq_true_eq] at ho
   rcases ho.2 with (h | h) | h
   ·omega
   ·exact absurd h.1.1.1.1 h3
   ·exact h.1
  have hct:=Q8k ho h4
  refine Ret.ite (fun h7=>?_) (fun h7=>?_)
  ·rw [Bool.not_eq_true',Q9] at h7
   rw [if_neg (fun hh=>h7 hh.symm)]
   exact .some ⟨rfl,fun l h=>by cases h⟩
  rw [Bool.not_eq_false',Q7] at h7
  rw [if_pos h7.symm]
  have hkt:J6 w t p=Q0z w t v.ctor:=by rw [J6,if_pos h4,h7]
  cases e with
  | zero=>exact hv.elim
  | succ e=>
  have hd:t.data≠-1:=fun hd=>by
   obtain ⟨rfl,_⟩:=hT.ti hd
   have:Y0 w tI=[]:=rfl
   rw [this] at hct
   cases hct
  rw [Q5p,if_neg hd] at hv
  obtain ⟨_,_,hvl,hvk⟩:=hv
  have hcp:=Q7h p
  have hlen:p.kids.length=v.kids.length:=by rw [hl,hkt,hvl]
  refine Ret.ctl (Z9 p.kids (fun k s=>∃ s',s=out++s'∧Q2a (W4 d) p.kids v.kids=(Q2a (W4 d) (p.kids.drop k) (v.kids.drop k)).map (s'++·)∧s'.length≤cntP.cntPs (p.kids.take k)) (fun r:List Z3×Bool=>r.2=false∧Q2a (W4 d) p.kids v.kids=none)
   (fun s=>∃ s',s=out++s'∧Q2a (W4 d) p.kids v.kids=some s'∧s'.length≤cntP.cntPs p.kids) ⟨[],by simp,by simp,by simp⟩ (fun k q s hq hI=>?_) (fun s hI=>?_)) (fun r hr=>?_) (fun s hs=>?_)
  ·obtain ⟨s',rfl,i1,i2⟩:=hI
   have hlt:=(List.getElem?_eq_some_iff.1 hq).1
   have hx:v.kids[k]?=some (v.kids[k]'(by omega)):=by simp
   obtain ⟨a,ha⟩:∃ a,(Q0z w t v.ctor)[k]?=some a:=⟨_,U8 (by omega)⟩
   rw [Q1m hx]
   simp only [U0]
   have hcd:=Q5r p.kids k q hq
   have hct2:=Q2g p.kids (k+1)
   have hkm:a∈J6 w t p:=by rw [hkt];exact U1 ha
   refine Ret.bind (ih n a q (v.kids[k]'(by omega)) e (out++s') (Q62 hT ht ho a hkm) (Q0l g (by rw [hkt];exact ha) hq) (hvk k a _ ha hx) (by omega) (by simp only [U5];omega)) (fun r hr=>?_)
   obtain ⟨r1,r2⟩:=hr
   rw [Q9v hq,Q9v hx] at i1
   simp only [Q2a] at i1
   cases hmq:W4 d q (v.kids[k]'(by omega)) with
   | none=>
    rw [hmq] at i1 r1
    rw [r1]
    exact .some ⟨rfl,i1⟩
   | some l=>
    rw [hmq] at i1 r1
    obtain ⟨q1,q2⟩:=r2 l hmq
    rw [r1]
    simp only [Option.isSome_some,Bool.not_true,U2,if_false]
    refine .some ⟨s'++l,by rw [q1];simp,?_,by simp only [U5];omega⟩
    rw [i1]
    cases Q2a (W4 d) (p.kids.drop (k+1)) (v.kids.drop (k+1)) with
    | none=>rfl
    | some m=>simp
  ·obtain ⟨s',rfl,i1,i2⟩:=hI
   rw [List.take_length] at i2
   refine ⟨s',rfl,?_,i2⟩
   rw [i1,List.drop_length]
   simp [Q2a]
  ·exact .some ⟨by rw [hr.1,hr.2];rfl,fun l h=>by rw [hr.2] at h;cases h⟩
  ·obtain ⟨s',rfl,h1,h2⟩:=hs
   refine .some ⟨by rw [h1];rfl,fun l h=>?_⟩
   rw [h1] at h
   cases h
   exact ⟨rfl,by omega⟩
theorem X5g {n:Nat}(hn:1000≤n){l:List Z3}(hl:l.length≤100)(hd:DB l):Q43 n l=some (Q6h l):=by
 suffices hs:Ret (Q43 n l) (fun r=>r=Q6h l) by
  obtain ⟨a,e,rfl⟩:=hs
  exact e
 unfold Q43
 have hfl:∀ k:Nat,((List.range k).flatMap fun (v:Nat)=>l.filter fun b=>decide (b.var=(v:Int))).length≤k * 100:=by
  intro k
  induction k with
  | zero=>simp
  | succ k ih=>
   rw [List.range_succ,List.flatMap_append,U5]
   have:=List.length_filter_le (fun b:Z3=>decide (b.var=(k:Int))) l
   simp only [List.flatMap_cons,List.flatMap_nil,List.append_nil]
   omega
 refine Ret.ctl (Q6w (fun s:List Z3×Int=>∃ k:Nat,k≤6∧s=((List.range k).flatMap (fun (v:Nat)=>l.filter fun b=>decide (b.var=(v:Int))),(k:Int))) (fun s=>(6-s.2).toNat) (fun _=>False) (fun s=>s.1=Q6h l) ⟨0,by omega,rfl⟩ (fun s hI=>?_) n (by simp;omega)) (fun r hr=>hr.elim) (fun s hs=>.some hs)
 obtain ⟨k,hk,rfl⟩:=hI
 dsimp only
 by_cases h5:k≤5
 ·have e:ile (k:Int) 5=true:=by rw [W5];omega
  simp only [e,if_true]
  have hk1:=hfl k
  refine Ret.ctl (Z9 l (fun i s=>s=(List.range k).flatMap (fun (v:Nat)=>l.filter fun b=>decide (b.var=(v:Int)))++(l.take i).filter fun b=>decide (b.var=(k:Int))) (fun _=>False) (fun s=>s=(List.range (k+1)).flatMap (fun (v:Nat)=>l.filter fun b=>decide (b.var=(v:Int)))) (by simp) (fun i x s hi hI=>?_) (fun s hI=>?_)) (fun r hr=>hr.elim) (fun s hs=>?_)
  ·have hil:i<l.length:=(List.getElem?_eq_some_iff.1 hi).1
   have hf:=List.length_filter_le (fun b:Z3=>decide (b.var=(k:Int))) (l.take i)
   rw [U6] at hf
   by_cases hc:x.var=(k:Int)
   ·have e:ieq x.var (k:Int)=true:=by simp [ieq,hc]
    simp only [e,if_true]
    rw [Z3f 10 n x.value (hd x (U1 hi)) (by omega)]
    simp only [U0]
    rw [Q33 (by rw [hI];simp only [U5,U3,U4,Z0];omega)]
    refine .some ?_
    simp only [X8k]
    rw [hI,List.take_add_one,hi]
    simp only [Option.toList_some,List.filter_append,List.append_assoc]
    rw [←hc]
    simp
   ·have e:ieq x.var (k:Int)=false:=by simp [ieq,hc]
    simp only [e,U2,if_false]
    refine .some ?_
    simp only [X8k]
    rw [hI,List.take_add_one,hi]
    simp [hc]
  ·rw [hI,List.take_length,List.range_succ,List.flatMap_append]
   simp
  ·subst hs
   dsimp only
   rw [Q0f (by omega) (by omega)]
   exact .some ⟨⟨k+1,by omega,by simp⟩,by simp only;omega⟩
 ·have e:ile (k:Int) 5=false:=by rw [Q1y];omega
  simp only [e,U2,if_false]
  exact .some (by simp only [W2k];rw [show k=6 by omega];rfl)
theorem X86 {n:Nat}(hn:1000≤n){w:List Q2}(hw:WW w){t:Q3}(ht:t∈tys w){l:List X1}(hl:∀ c∈l,Q5w w t c.pat=true){e:Nat}{v:Q0}(hv:Q5p w e t v)(he:e≤10) :
  Q4x n l v=some (runR (runD v 0 l)):=by
 suffices hs:Ret (Q4x n l v) (fun r=>r=runR (runD v 0 l)) by
  obtain ⟨a,e,rfl⟩:=hs
  exact e
 unfold Q4x
 refine Ret.ctl (Z9 l (fun k _=>runD v 0 l=runD v k (l.drop k)) (fun r:Int×List Z3=>r=runR (runD v 0 l)) (fun _=>runD v 0 l=none) rfl (fun k c s hc hI=>?_) (fun s hI=>by rw [hI,List.drop_length];rfl)) (fun r hr=>.some hr) (fun s hs=>.some (by rw [hs];rfl))
 obtain ⟨g,c1,ln⟩:=Q24 (hl c (U1 hc))
 rw [Q9v hc] at hI
 simp only [runD] at hI
 obtain ⟨r,er,r1,r2⟩:=Z9k hw 10 n t c.pat v e [] ht g hv (by omega) (by simp only [U4];omega)
 rw [er]
 simp only [U0]
 cases hm:W4 10 c.pat v with
 | none=>
  simp only [hm] at hI
  rw [hm] at r1
  rw [r1]
  simp only [Option.isSome_none,U2,if_false,U0]
  exact .some hI
 | some b=>
  simp only [hm] at hI
  rw [hm] at r1
  have hb:=Q4o g ln hm
  have hr1:r.1=b:=by
   have:=(r2 b hm).1
   simpa using this
  rw [r1,hr1]
  simp only [Option.isSome_some,if_true]
  rw [Z9m]
  simp only [U0]
  cases hg:Q3y c.guard b with
  | true=>
   rw [hg] at hI
   simp only [if_true] at hI ⊢
   have hdv:=Z48 e 10 v he (Z2c hw e t v ht hv)
   rw [X5g hn (by have:=hb.ln;omega) (fun y hy=>by
    obtain ⟨e',h1,h2⟩:=Z7d 10 c.pat 10 v b hdv hm y hy
    exact Z48 _ _ _ h1 h2)]
   simp only [U0]
   exact .some (by simp only [X48];rw [hI];rfl)
  | false=>
   rw [hg] at hI
   simp only [U2,if_false,U0] at hI ⊢
   exact .some hI
end Go.Proofs.YtenmmbjgnlflnaaGreat
