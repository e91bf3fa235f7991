import Derived.KernelRfl
import Derived.Test.YtenmmbjgnlflnaaGreatBJMir
set_option linter.unusedSimpArgs false
set_option linter.unusedVariables false
namespace Go.Proofs.YtenmmbjgnlflnaaGreat
open Go Go.RowKit
def Ret {α:Type}(x:Option α)(Q:α→Prop):Prop:=∃ a,x=some a∧Q a
theorem Ret.some {α:Type}{a:α}{Q:α→Prop}(h:Q a):Ret (some a) Q:=⟨a,rfl,h⟩
theorem Ret.bind {α β:Type}{x:Option α}{f:α→Option β}{P:α→Prop}{Q:β→Prop}(hx:Ret x P)(hf:∀ a,P a→Ret (f a) Q):Ret (x.bind f) Q:=by
 obtain ⟨a,rfl,ha⟩:=hx
 exact hf a ha
theorem Ret.bindE {α β:Type}{x:Option α}{f:α→Option β}{a:α}{Q:β→Prop}(hx:x=Option.some a)(hf:Ret (f a) Q):Ret (x.bind f) Q:=by
 subst hx
 exact hf
theorem Ret.mono {α:Type}{x:Option α}{P Q:α→Prop}(h:∀ a,P a→Q a)(hx:Ret x P):Ret x Q:=by
 obtain ⟨a,e,ha⟩:=hx
 exact ⟨a,e,h a ha⟩
theorem Ret.ite {α:Type}{b:Bool}{x y:Option α}{Q:α→Prop}(h1:b=true→Ret x Q)(h2:b=false→Ret y Q):Ret (if b=true then x else y) Q:=by
 cases b
 ·exact h2 rfl
 ·exact h1 rfl
theorem Ret.of {α:Type}{x:Option α}{a:α}{Q:α→Prop}(h:x=Option.some a)(hq:Q a):Ret x Q:=⟨a,h,hq⟩
theorem Ret.get {α:Type}{x:Option α}{Q:α→Prop}{a:α}(h:Ret x Q)(e:x=Option.some a):Q a:=by
 obtain ⟨b,e2,hb⟩:=h
 rw [e] at e2
 cases e2
 exact hb
def CtlQ {ρ σ:Type}(R:ρ→Prop)(B:σ→Prop):Ctl ρ σ→Prop
 | .ret r=>R r
 | .brk s=>B s
 | .go _=>False
def RndQ {ρ σ:Type}(R:ρ→Prop)(B G:σ→Prop):Ctl ρ σ→Prop
 | .ret r=>R r
 | .brk s=>B s
 | .go s=>G s
@[simp] theorem W1s {ρ σ:Type} (R:ρ→Prop) (B G:σ→Prop) (r:ρ):RndQ R B G (.ret r)=R r:=rfl
@[simp] theorem X46 {ρ σ:Type} (R:ρ→Prop) (B G:σ→Prop) (s:σ):RndQ R B G (.brk s)=B s:=rfl
@[simp] theorem Z20 {ρ σ:Type} (R:ρ→Prop) (B G:σ→Prop) (s:σ):RndQ R B G (.go s)=G s:=rfl
@[simp] theorem Y5t {ρ σ:Type} (R:ρ→Prop) (B:σ→Prop) (r:ρ):CtlQ R B (.ret r)=R r:=rfl
@[simp] theorem Y5u {ρ σ:Type} (R:ρ→Prop) (B:σ→Prop) (s:σ):CtlQ R B (.brk s)=B s:=rfl
theorem Z4 {α σ ρ:Type}{f:Nat→α→σ→Option (Ctl ρ σ)}(xs:List α){s0:σ}(I:Nat→σ→Prop)(R:ρ→Prop)(B:σ→Prop)
  (h0:I 0 s0) (step:∀ k x s,xs[k]?=some x→I k s→Ret (f k x s) (RndQ R B (I (k+1)))) (stop:∀ s,I xs.length s→B s) :
  Ret (forL f 0 xs s0) (CtlQ R B):=by
 have key:∀ (ys:List α) (k:Nat) (s:σ),xs.drop k=ys→k≤xs.length→I k s→Ret (forL f k ys s) (CtlQ R B):=by
  intro ys
  induction ys with
  | nil=>
   intro k s hd hk hs
   have:k=xs.length:=by
    have:=congrArg List.length hd
    simp at this
    omega
   subst this
   exact .some (stop s hs)
  | cons y ys ih=>
   intro k s hd hk hs
   have hlt:k<xs.length:=by
    have:=congrArg List.length hd
    simp at this
    omega
   rw [List.drop_eq_getElem_cons hlt] at hd
   injection hd with h1 h2
   have hx:xs[k]?=some y:=by rw [U10 hlt,h1]
   obtain ⟨o,ho,hq⟩:=step k y s hx hs
   unfold forL
   rw [ho]
   cases o with
   | ret r=>exact .some hq
   | brk s'=>exact .some hq
   | go s'=>exact ih (k+1) s' h2 hlt hq
 exact key xs 0 s0 rfl (Nat.zero_le _) h0
theorem Q7o {σ ρ:Type}{f:σ→Option (Ctl ρ σ)}{s0:σ}(I:σ→Prop)(μ:σ→Nat)(R:ρ→Prop)(B:σ→Prop)(h0:I s0)
  (step:∀ s,I s→Ret (f s) (RndQ R B (fun s'=>I s'∧μ s'<μ s))):∀ n,μ s0<n→Ret (whileL f n s0) (CtlQ R B):=by
 have key:∀ n s,I s→μ s<n→Ret (whileL f n s) (CtlQ R B):=by
  intro n
  induction n with
  | zero=>intro s _ h;omega
  | succ n ih=>
   intro s hs hn
   obtain ⟨o,ho,hq⟩:=step s hs
   unfold whileL
   rw [ho]
   cases o with
   | ret r=>exact .some hq
   | brk s'=>exact .some hq
   | go s'=>exact ih s' hq.1 (by have:=hq.2;omega)
 exact fun n hn=>key n s0 h0 hn
theorem Ret.ctl {ρ σ τ:Type}{x:Option (Ctl ρ σ)}{g:Ctl ρ σ→Option τ}{R:ρ→Prop}{B:σ→Prop}{Q:τ→Prop}(h:Ret x (CtlQ R B))(hr:∀ r,R r→Ret (g (.ret r)) Q)(hb:∀ s,B s→Ret (g (.brk s)) Q):Ret (x.bind g) Q:=by
 obtain ⟨o,rfl,ho⟩:=h
 cases o with
 | ret r=>exact hr r ho
 | brk s=>exact hb s ho
 | go s=>exact ho.elim
theorem V5 {α:Type}{xs ys:List α}(h:xs.length+ys.length≤Q9):app xs ys=some (xs++ys):=by simp [app,h]
theorem Q00 {α:Type}{xs:List α}{i:Nat}{x:α}(h:xs[i]?=some x):idx xs (i:Int)=some x:=by simp [idx,h]
theorem Q7b {α:Type}{xs:List α}{i:Int}{x:α}(h0:0≤i)(h:xs[i.toNat]?=some x):idx xs i=some x:=by simp [idx,h,h0]
theorem Q2d {α:Type}{xs:List α}{i:Int}(h0:0≤i)(h:i<xs.length):∃ x,idx xs i=some x∧x∈xs:=by
 have hl:i.toNat<xs.length:=by omega
 exact ⟨xs[i.toNat],by simp [idx,h0,hl],List.getElem_mem hl⟩
theorem X1r {b:Bool}(h:b=true):chk b=some ():=by simp [chk,h]
theorem Q8 {a b:Int} : (ieq a b=true)=(a=b):=by simp [ieq]
theorem Z2 {a b:Int} : (ieq a b=false)=(a≠b):=by simp [ieq]
theorem Z5 {a b:Int} : (ilt a b=true)=(a<b):=by simp [ilt]
theorem J8 {a b:Int} : (ilt a b=false)=(b≤a):=by simp [ilt]
theorem W4 {a b:Int} : (ile a b=true)=(a≤b):=by simp [ile]
theorem Q0n {a b:Int} : (ile a b=false)=(b<a):=by simp [ile]
theorem J9 {a b:Int}(h1 : -9223372036854775808≤a+b)(h2:a+b≤9223372036854775807):wadd .i64 a b=a+b:=by unfold wadd;exact Z81 h1 h2
theorem Q3v {a b:Int}(h1 : -9223372036854775808≤a-b)(h2:a-b≤9223372036854775807):wsub .i64 a b=a-b:=by unfold wsub;exact Z81 h1 h2
theorem Z05 {a b:Int}(h1 : -9223372036854775808≤a * b)(h2:a * b≤9223372036854775807):wmul .i64 a b=a * b:=by unfold wmul;exact Z81 h1 h2
theorem X2y {a:Int}(h1 : -9223372036854775808≤a)(h2:a≤9223372036854775807):wcv .i64 a=a:=by unfold wcv;exact Z81 h1 h2
theorem X3v {a b:Int}(h1 : -9223372036854775808≤a.tdiv b)(h2:a.tdiv b≤9223372036854775807):wquo .i64 a b=a.tdiv b:=by unfold wquo;exact Z81 h1 h2
abbrev NN:Nat:=30000000
instance:DecidableEq Q2:=fun a b=>decidable_of_iff (a.data=b.data∧a.index=b.index) ⟨fun h=>by cases a;cases b;simp at h;simp [h],fun h=>by subst h;simp⟩
def by_ (l:List Nat):ByteArray:=⟨(l.map UInt8.ofNat).toArray⟩
def tI:Q2:=⟨-1,0⟩
def tD (d i:Int):Q2:=⟨d,i⟩
def w0:List Q4:=[⟨by_ [76],[⟨by_ [78,105,108],[],0⟩,⟨by_ [67,111,110,115],[tI,tD 0 0],0⟩]⟩]
def w1:List Q4:=[⟨by_ [66],[⟨by_ [84,114,117],[],0⟩,⟨by_ [70,108,115],[],0⟩]⟩,⟨by_ [84],[⟨by_ [76,101,97,102],[],0⟩,⟨by_ [78,111,100,101],[tD 1 0,tD 0 0,tD 1 0],0⟩]⟩]
def w2:List Q4:=[⟨by_ [69],[⟨by_ [78,117,109],[tI],1⟩,⟨by_ [66,111,108],[tD 1 0],2⟩,⟨by_ [65,100,100],[tD 0 1,tD 0 1],1⟩,⟨by_ [73,102],[tD 0 2,tD 0 (-1),tD 0 (-1)],0⟩]⟩,⟨by_ [66],[⟨by_ [84,114,117],[],0⟩,⟨by_ [70,108,115],[],0⟩]⟩]
def w3:List Q4:=[⟨by_ [79],[⟨by_ [78,111,110],[],0⟩,⟨by_ [83,111,109],[tI],0⟩]⟩,⟨by_ [80],[⟨by_ [80,97,105,114],[tD 0 0,tD 0 0],0⟩]⟩]
def w4:List Q4:=[⟨by_ [86],[⟨by_ [69,110,100],[],1⟩,⟨by_ [83,111,109,101],[tI,tD 0 1],2⟩,⟨by_ [84,119,111],[tD 0 (-1)],0⟩]⟩]
def w5:List Q4:=[⟨by_ [78],[⟨by_ [78,101,118,101,114],[tD 0 0],0⟩]⟩,⟨by_ [66],[⟨by_ [84,114,117],[],0⟩,⟨by_ [70,108,115],[],0⟩,⟨by_ [77,97,121],[tD 0 0],0⟩]⟩]
def w6:List Q4:=[⟨by_ [83],[⟨by_ [82,101,100],[],0⟩,⟨by_ [71,114,101,101,110],[],0⟩,⟨by_ [66,108,117,101],[],0⟩,⟨by_ [77,105,120],[tD 0 0,tD 0 0],0⟩]⟩]
def Q0j:List (List Q4):=[w0,w1,w2,w3,w4,w5,w6]
def X57 (i:Nat):Option (List Q4×Bool):=Q8x.bind fun r=>(idx r (i:Int)).bind fun x=>Q72 NN x
theorem Y42:X57 0=some (w0,true):=by kernel_rfl
theorem Y41:X57 1=some (w1,true):=by kernel_rfl
theorem Y40:X57 2=some (w2,true):=by kernel_rfl
theorem Y3z:X57 3=some (w3,true):=by kernel_rfl
theorem Y3y:X57 4=some (w4,true):=by kernel_rfl
theorem Y3x:X57 5=some (w5,true):=by kernel_rfl
theorem Y3w:X57 6=some (w6,true):=by kernel_rfl
def tys (w:List Q4):List Q2:=tI::(List.range w.length).flatMap fun (d:Nat)=>(List.range 4).map fun (i:Nat)=>tD d i
def X2 (w:List Q4)(t:Q2):List Int:=(Q0f w t).getD []
def W0 (w:List Q4)(t:Q2)(k:Int):List Q2:=(V2 w t k).getD []
def tabP (w:List Q4):List Int:=(Q19 NN w).getD []
def depP (w:List Q4)(t:Q2):Int:=(Q1r (tabP w) t).getD 0
def Q1p (w:List Q4)(t:Q2)(k:Int):Int:=(Q5m w (tabP w) t k).getD 0
def chkT (w:List Q4)(t:Q2):Bool:=
 decide (Q0f w t=some (X2 w t))&&decide (Q1s w t=some (X2 w t)) &&
 (X2 w t).all (fun k=>decide (V2 w t k=some (W0 w t k))&&decide (Q04 w t k=some (W0 w t k))&&(W0 w t k).all (fun a=>decide (a∈tys w))&&decide ((W0 w t k).length≤3) &&
  decide (Q5m w (tabP w) t k=some (Q1p w t k))&&decide (0≤Q1p w t k)&&(decide (Q1p w t k=0)||(W0 w t k).all (fun a=>decide (1≤depP w a)&&decide (depP w a<Q1p w t k)))) &&
 decide (Q2v w t=some true)&&decide (Q36 w t=some true)&&decide (Q1r (tabP w) t=some (depP w t))&&decide (0≤depP w t)&&decide (depP w t≤4)&&decide ((X2 w t).length≤4) &&
 (decide (t.data = -1)||decide (depP w t=0)||(X2 w t).any (fun k=>decide (Q1p w t k=depP w t)))&&(decide (t.data≠-1)||(decide (t=tI)&&decide (depP w t=1)))
def chkW (w:List Q4):Bool:=
 (tys w).all (chkT w)&&decide (Q19 NN w=some (tabP w))&&decide (Q3q NN w=some true)&&decide (Q1f NN w=some true)&&decide (0<w.length)&&decide (w.length≤2)
theorem V0d:Q0j.all chkW=true:=by kernel_rfl
structure WT (w:List Q4) (t:Q2):Prop where
 c1:Q0f w t=some (X2 w t)
 c2:Q1s w t=some (X2 w t)
 a1:∀ k∈X2 w t,V2 w t k=some (W0 w t k)
 a2:∀ k∈X2 w t,Q04 w t k=some (W0 w t k)
 at_:∀ k∈X2 w t,∀ a∈W0 w t k,a∈tys w
 al:∀ k∈X2 w t,(W0 w t k).length≤3
 m1:∀ k∈X2 w t,Q5m w (tabP w) t k=some (Q1p w t k)
 m0:∀ k∈X2 w t,0≤Q1p w t k
 ma:∀ k∈X2 w t,Q1p w t k≠0→∀ a∈W0 w t k,1≤depP w a∧depP w a<Q1p w t k
 t1:Q2v w t=some true
 t2:Q36 w t=some true
 d1:Q1r (tabP w) t=some (depP w t)
 d0:0≤depP w t
 d4:depP w t≤4
 cl:(X2 w t).length≤4
 dm:t.data≠-1→depP w t≠0→∃ k∈X2 w t,Q1p w t k=depP w t
 ti:t.data = -1→t=tI∧depP w t=1
structure WW (w:List Q4):Prop where
 ty:∀ t∈tys w,WT w t
 tab:Q19 NN w=some (tabP w)
 v1:Q3q NN w=some true
 v2:Q1f NN w=some true
 pos:0<w.length
 le:w.length≤2
theorem V91 {w:List Q4}{t:Q2}(h:chkT w t=true):WT w t:=by
 simp only [chkT,Bool.and_eq_true,Bool.or_eq_true,decide_eq_true_eq,List.all_eq_true,List.any_eq_true] at h
 obtain ⟨⟨⟨⟨⟨⟨⟨⟨⟨⟨h1,h2⟩,h3⟩,h4⟩,h5⟩,h6⟩,h7⟩,h8⟩,h9⟩,h10⟩,h11⟩:=h
 have hk:∀ k∈X2 w t,_:=h3
 refine ⟨h1,h2,fun k hk=>(h3 k hk).1.1.1.1.1.1,fun k hk=>(h3 k hk).1.1.1.1.1.2,fun k hk=>(h3 k hk).1.1.1.1.2,fun k hk=>(h3 k hk).1.1.1.2,fun k hk=>(h3 k hk).1.1.2,fun k hk=>(h3 k hk).1.2,fun k hk hm a ha=>?_,h4,h5,h6,h7,h8,h9,fun hd h0=>?_,fun hd=>?_⟩
 ·rcases (h3 k hk).2 with h | h
  ·exact absurd h hm
  ·exact h a ha
 ·rcases h10 with (h | h) | h
  ·exact absurd h hd
  ·exact absurd h h0
  ·exact h
 ·rcases h11 with h | h
  ·exact absurd hd h
  ·exact h
theorem ww {w:List Q4}(h:w∈Q0j):WW w:=by
 have h:=List.all_eq_true.1 V0d w h
 simp only [chkW,Bool.and_eq_true,decide_eq_true_eq,List.all_eq_true] at h
 obtain ⟨⟨⟨⟨⟨h1,h2⟩,h3⟩,h4⟩,h5⟩,h6⟩:=h
 exact ⟨fun t ht=>V91 (h1 t ht),h2,h3,h4,h5,h6⟩
instance:DecidableEq Q5:=fun a b=>decidable_of_iff (a.var=b.var∧a.typ=b.typ) ⟨fun h=>by cases a;cases b;simp at h;simp [h],fun h=>by subst h;simp⟩
theorem X3j (l:List Int)(x:Int):Q3g l x=some (decide (x∈l)):=by
 have h:Ret (Q3g l x) (fun b=>b=decide (x∈l)):=by
  unfold Q3g
  refine Ret.ctl (Z4 l (fun k _=>∀ j,j<k→l[j]?≠some x) (fun r=>r=true∧x∈l) (fun _=>x∉l) (fun j hj=>by omega) (fun k y s hy hI=>?_) (fun s hI=>?_)) (fun r hr=>?_) (fun s hs=>?_)
  ·refine Ret.ite (fun h=>?_) (fun h=>?_)
   ·rw [Q8] at h
    exact .some ⟨rfl,h▸U1 hy⟩
   ·rw [Z2] at h
    refine .some (fun j hj=>?_)
    by_cases hjk:j=k
    ·subst hjk
     rw [hy]
     simpa using h
    ·exact hI j (by omega)
  ·intro hm
   obtain ⟨j,hj⟩:=List.mem_iff_getElem?.1 hm
   exact hI j ((List.getElem?_eq_some_iff.1 hj).1) hj
  ·obtain ⟨rfl,hx⟩:=hr
   exact .some (by simp [hx])
  ·exact .some (by simp [hs])
 obtain ⟨b,hb,rfl⟩:=h
 exact hb
theorem Z0t (l:List Int)(x:Int):J5 l x=some (decide (x∈l)):=by
 have h:Ret (J5 l x) (fun b=>b=decide (x∈l)):=by
  unfold J5
  refine Ret.bind (P:=fun r=>(0≤r∧x∈l)∨(r = -1∧x∉l)) ?_ (fun a ha=>?_)
  ·unfold Q6f
   refine Ret.ctl (Z4 l (fun k _=>∀ j,j<k→l[j]?≠some x) (fun r=>0≤r∧x∈l) (fun _=>x∉l) (fun j hj=>by omega) (fun k y s hy hI=>?_) (fun s hI=>?_)) (fun r hr=>?_) (fun s hs=>?_)
   ·refine Ret.ite (fun h=>?_) (fun h=>?_)
    ·rw [Q8] at h
     exact .some ⟨by omega,h▸U1 hy⟩
    ·rw [Z2] at h
     refine .some (fun j hj=>?_)
     by_cases hjk:j=k
     ·subst hjk
      rw [hy]
      simpa using fun e=>h e.symm
     ·exact hI j (by omega)
   ·intro hm
    obtain ⟨j,hj⟩:=List.mem_iff_getElem?.1 hm
    exact hI j ((List.getElem?_eq_some_iff.1 hj).1) hj
   ·exact .some (.inl hr)
   ·exact .some (.inr ⟨rfl,hs⟩)
  ·rcases ha with ⟨h1,h2⟩ | ⟨rfl,h2⟩
   ·exact .some (by simp [ile,h1,h2])
   ·exact .some (by simp [ile,h2])
 obtain ⟨b,hb,rfl⟩:=h
 exact hb
theorem Q6b {α:Type}(l:List α)(f:α→Option Bool)(g:α→Bool)(hf:∀ x∈l,f x=some (g x)) :
  Ret ((forL (fun (k:Nat) (x:α) (s:Unit)=>((f x).bind fun r=>(if r=true then some (Ctl.ret (k:Int)) else some (Ctl.go ())))) 0 l ()).bind fun (o:Ctl Int Unit)=>match o with
   | .ret r=>some r
   | .go _=>none
   | .brk _=>some (-1)) (fun i=>(∃ k x,i=((k:Nat):Int)∧l[k]?=some x∧g x=true)∨(i = -1∧∀ x∈l,g x=false)):=by
 refine Ret.ctl (Z4 l (fun k _=>∀ j x,j<k→l[j]?=some x→g x=false) (fun i=>∃ k x,i=((k:Nat):Int)∧l[k]?=some x∧g x=true) (fun _=>∀ x∈l,g x=false) (fun j x hj=>by omega) (fun k y s hy hI=>?_) (fun s hI=>?_)) (fun r hr=>?_) (fun s hs=>?_)
 ·rw [hf y (U1 hy)]
  show Ret (if g y=true then _ else _) _
  refine Ret.ite (fun h=>?_) (fun h=>?_)
  ·exact .some ⟨k,y,rfl,hy,h⟩
  ·refine .some (fun j x hj hx=>?_)
   by_cases hjk:j=k
   ·subst hjk
    rw [hy] at hx
    cases hx
    exact h
   ·exact hI j x (by omega) hx
 ·intro x hm
  obtain ⟨j,hj⟩:=List.mem_iff_getElem?.1 hm
  exact hI j x ((List.getElem?_eq_some_iff.1 hj).1) hj
 ·exact .some (.inl hr)
 ·exact .some (.inr ⟨rfl,hs⟩)
theorem X20 {α:Type}{l:List α}{g:α→Bool}{x:Option Int}(h:Ret x (fun i=>(∃ k x,i=((k:Nat):Int)∧l[k]?=some x∧g x=true)∨(i = -1∧∀ x∈l,g x=false))):(x.bind fun r=>some (ile 0 r))=some (l.any g):=by
 obtain ⟨i,rfl,h⟩:=h
 rcases h with ⟨k,x,rfl,h2,h3⟩ | ⟨rfl,h2⟩
 ·have:l.any g=true:=List.any_eq_true.2 ⟨x,U1 h2,h3⟩
  rw [this]
  simp [ile]
 ·have:l.any g=false:=by simpa using h2
  rw [this]
  simp [ile]
theorem Z96 (l:List Z6)(f:Z6→Option Bool)(g:Z6→Bool)(hf:∀ x∈l,f x=some (g x)):Q1o l f=some (l.any g):=X20 (Q6b l f g hf)
theorem Z7r (l:List Q5)(f:Q5→Option Bool)(g:Q5→Bool)(hf:∀ x∈l,f x=some (g x)):Q1c l f=some (l.any g):=X20 (Q6b l f g hf)
theorem V4p (a b:Q5):Q7x [ieq a.var b.var,ieq a.typ.data b.typ.data,ieq a.typ.index b.typ.index]=decide (a=b):=by
 obtain ⟨v,d,i⟩:=a
 obtain ⟨v',d',i'⟩:=b
 simp [Q7x,ieq]
theorem X1q (l:List Q5)(x:Q5):Q0g l x=some (decide (x∈l)):=by
 have:=X20 (Q6b l (fun y=>some (decide (x=y))) (fun y=>decide (x=y)) (fun _ _=>rfl))
 have e:l.any (fun y=>decide (x=y))=decide (x∈l):=by
  rw [Bool.eq_iff_iff]
  simp
 rw [e] at this
 unfold Q0g Q47
 simp only [V4p]
 exact this
theorem X9f (a b:List Q5):Q6n a b=some (decide (a.length=b.length)&&a.all fun v=>decide (v∈b)):=by
 unfold Q6n
 by_cases h:a.length=b.length
 ·have h1:ieq (lenZ a.length) (lenZ b.length)=true:=by rw [Q8];simp [lenZ,h]
  rw [if_pos h1,Z7r a _ (fun v=>!decide (v∈b)) (fun x _=>by unfold Q74;rw [X1q];rfl)]
  simp only [U0,h,decide_true,Bool.true_and,Option.some.injEq]
  rw [Bool.eq_iff_iff]
  simp
 ·have h1:¬ieq (lenZ a.length) (lenZ b.length)=true:=by rw [Q8];simp only [lenZ];omega
  rw [if_neg h1]
  simp [h]
def Z4r (w:List Q4)(t:Q2)(p:Q0):Bool:=
 (if p.op=2∨p.op=6 then decide (0≤p.var)&&decide (p.var≤5) else decide (p.var=0))&&(decide (p.op=3)||(decide (p.n=0)&&decide (p.m=0)))&&(decide (p.op=4)||decide (p.ctor=0)) &&
 (decide (p.op=1∨p.op=2∨p.op=5∨p.op=6)||(decide (p.op=3)&&decide (t.data = -1)&&decide (0≤p.n)&&decide (p.n≤p.m)&&decide (p.m≤9))||(decide (p.op=4)&&decide (p.ctor∈X2 w t)))
def V4 (w:List Q4)(t:Q2)(p:Q0):List Q2:=if p.op=4 then W0 w t p.ctor else if p.op=5 then [t,t] else if p.op=6 then [t] else []
def Q9i (w:List Q4)(t:Q2)(p:Q0):Bool:=Z4r w t p&&decide (p.kids.length=(V4 w t p).length)
theorem Q8z (a b c:Int):X9 a b c=some (decide (b≤a)&&decide (a≤c)):=by
 unfold X9
 by_cases h:b≤a<;>simp [ile,h]
theorem Y38 {w:List Q4}{t:Q2}(hw:WT w t)(p:Q0):Q92 w t p=some (Z4r w t p):=by
 obtain ⟨op,ctor,n,m,v,kids⟩:=p
 unfold Q92 Z4r
 simp only [hw.c1,U0,X3j]
 by_cases h1:op=1
 ·subst h1;simp [ieq,ilt,ile];(repeat' split)<;>simp_all
 by_cases h2:op=2
 ·subst h2;simp [ieq,ilt,ile];(repeat' split)<;>simp_all<;>omega
 by_cases h3:op=3
 ·subst h3;simp [ieq,ilt,ile];(repeat' split)<;>simp_all<;>(intros;omega)
 by_cases h4:op=4
 ·subst h4;simp [ieq,ilt,ile];(repeat' split)<;>simp_all
 by_cases h5:op=5
 ·subst h5;simp [ieq,ilt,ile];(repeat' split)<;>simp_all
 by_cases h6:op=6
 ·subst h6;simp [ieq,ilt,ile];(repeat' split)<;>simp_all<;>omega
 simp [ieq,ilt,ile,h1,h2,h3,h4,h5,h6];(repeat' split)<;>simp_all
theorem V7r (p:Q0)(a b c:Bool)(k:Int):Q50 p a b c k=some ((a||decide (p.ctor=0))&&(b||(decide (p.n=0)&&decide (p.m=0)))&&(c||decide (p.var=0))&&decide ((p.kids.length:Int)=k)):=by
 unfold Q50
 by_cases h1:p.ctor=0<;>by_cases h2:p.n=0<;>by_cases h3:p.m=0<;>by_cases h4:p.var=0<;>cases a<;>cases b<;>cases c<;>simp [ieq,lenZ,h1,h2,h3,h4]<;>exact decide_eq_decide.2 Iff.rfl
theorem V2y (v:Int):Q6p v=some (decide (0≤v)&&decide (v≤5)):=by
 unfold Q6p
 rw [Q8z]
 rfl
theorem W1m {w:List Q4}{t:Q2}(hw:WT w t)(p:Q0):∃ ts,Q85 w t p=some (ts,Q9i w t p)∧(Q9i w t p=true→ts=V4 w t p):=by
 obtain ⟨op,ctor,n,m,v,kids⟩:=p
 unfold Q85 Q9i Z4r V4
 simp only [hw.c2,U0,Z0t,V7r,V2y]
 by_cases h1:op=1
 ·subst h1;exact ⟨[],by simp [ieq];rw [Bool.eq_iff_iff];simp;grind,by simp⟩
 by_cases h2:op=2
 ·subst h2;exact ⟨[],by simp [ieq];split<;>simp<;>grind,by simp⟩
 by_cases h3:op=3
 ·subst h3;exact ⟨[],by simp [ieq,ile];(repeat' split)<;>simp<;>grind,by simp⟩
 by_cases h4:op=4
 ·subst h4
  by_cases hc:ctor∈X2 w t
  ·refine ⟨W0 w t ctor,?_,by simp⟩
   simp [ieq,hc,hw.a2 ctor hc,lenZ]
   grind
  ·exact ⟨[],by simp [ieq,hc],by simp [hc]⟩
 by_cases h5:op=5
 ·subst h5;exact ⟨[t,t],by simp [ieq];grind,by simp⟩
 by_cases h6:op=6
 ·subst h6;exact ⟨[t],by simp [ieq];split<;>simp<;>grind,by simp⟩
 exact ⟨[],by simp [ieq,h1,h2,h3,h4,h5,h6],by simp [h1,h2,h3,h4,h5,h6]⟩
theorem X9s (op:Int):Q8e op=some (if op=5 then 2 else if op=6 then 1 else if op=4 then -1 else 0):=by
 unfold Q8e
 by_cases h1:op=5<;>by_cases h2:op=6<;>by_cases h3:op=4<;>simp [ieq,h1,h2,h3]
theorem X3x {w:List Q4}{t:Q2}(hw:WT w t)(p:Q0)(h:p.op=4→p.ctor∈X2 w t){n:Nat}(hn:4≤n):Q4v n w t p=some (V4 w t p):=by
 obtain ⟨m,rfl⟩:∃ m,n=m+4:=⟨n-4,by omega⟩
 unfold Q4v V4
 by_cases h4:p.op=4
 ·simp [ieq,h4,hw.a1 p.ctor (h h4)]
 ·have w1:wadd .i64 0 1=1:=rfl
  have w2:wadd .i64 1 1=2:=rfl
  by_cases h5:p.op=5
  ·simp [ieq,h5,whileL,X9s,ilt,app,w1,w2,Q9]
  ·by_cases h6:p.op=6
   ·simp [ieq,h6,whileL,X9s,ilt,app,w1,w2,Q9]
   ·simp [ieq,h4,h5,h6,whileL,X9s,ilt]
def Q0r (w:List Q4):Nat→Q2→Q0→Bool
 | 0,_,_=>false
 | d+1,t,p=>Q9i w t p&&((V4 w t p).zip p.kids).all fun x=>Q0r w d x.1 x.2
def ownV (t:Q2)(p:Q0):List Q5:=if p.op=2∨p.op=6 then [⟨p.var,t⟩] else []
def Q0x (w:List Q4):Nat→Q2→Q0→List Q5
 | 0,_,_=>[]
 | d+1,t,p=>ownV t p++(((V4 w t p).zip p.kids).take (if p.op=5 then 1 else p.kids.length)).flatMap fun x=>Q0x w d x.1 x.2
def Q0e (l:List Q5):Bool:=decide (l.map (·.var)).Nodup
def Z14 (a b:List Q5):Bool:=decide (a.length=b.length)&&a.all fun v=>decide (v∈b)
def kv (w:List Q4)(d:Nat)(t:Q2)(p:Q0)(i:Nat):List Q5:=((V4 w t p).zip p.kids)[i]?.elim [] fun x=>Q0x w d x.1 x.2
def linD (w:List Q4):Nat→Q2→Q0→Bool
 | 0,_,_=>true
 | d+1,t,p=>(((V4 w t p).zip p.kids).all fun x=>linD w d x.1 x.2)&&if p.op=5 then Z14 (kv w d t p 0) (kv w d t p 1) else Q0e (Q0x w (d+1) t p)
theorem Q2e {w:List Q4}{d:Nat}{t:Q2}{p:Q0}(h:Q0r w d t p=true):Q9i w t p=true:=by
 cases d with
 | zero=>cases h
 | succ d=>simp only [Q0r,Bool.and_eq_true] at h;exact h.1
theorem Q3c {w:List Q4}{t:Q2}{p:Q0}(h:Q9i w t p=true):Z4r w t p=true∧p.kids.length=(V4 w t p).length:=by
 simp only [Q9i,Bool.and_eq_true,decide_eq_true_eq] at h
 exact h
theorem Z11 {w:List Q4}{t:Q2}{p:Q0}(h:Z4r w t p=true):p.op=4→p.ctor∈X2 w t:=fun h4=>by
 simp [Z4r,h4] at h
 exact h.2
theorem Q8k {w:List Q4}{t:Q2}(hw:WT w t)(ht:t∈tys w){p:Q0}(h:Z4r w t p=true):∀ a∈V4 w t p,a∈tys w:=fun a ha=>by
 unfold V4 at ha
 split at ha
 ·rename_i h4;exact hw.at_ _ (Z11 h h4) a ha
 ·split at ha
  ·simp at ha;rw [ha];exact ht
  ·split at ha
   ·simp at ha;rw [ha];exact ht
   ·simp at ha
theorem Q3u {α β:Type}{l:List α}{m:List β}{k:Nat}{a:α}{b:β}(h1:l[k]?=some a)(h2:m[k]?=some b):(l.zip m)[k]?=some (a,b):=by
 rw [List.getElem?_zip_eq_some];exact ⟨h1,h2⟩
theorem W9 {w:List Q4}{d:Nat}{t:Q2}{p:Q0}(h:Q0r w (d+1) t p=true){k:Nat}{a:Q2}{q:Q0}(h1:(V4 w t p)[k]?=some a)(h2:p.kids[k]?=some q):Q0r w d a q=true:=by
 simp only [Q0r,Bool.and_eq_true,List.all_eq_true] at h
 exact h.2 (a,q) (U1 (Q3u h1 h2))
theorem X6a {w:List Q4}(hw:WW w):∀ (d n:Nat) (t:Q2) (p:Q0),t∈tys w→d+4≤n→d≤100→Q3f n w t p (d:Int)=some (Q0r w d t p):=by
 intro d
 induction d with
 | zero=>
  intro n t p ht hn hd
  obtain ⟨m,rfl⟩:∃ m,n=m+1:=⟨n-1,by omega⟩
  simp [Q3f,ilt,Q0r]
 | succ d ih=>
  intro n t p ht hn hd
  obtain ⟨m,rfl⟩:∃ m,n=m+1:=⟨n-1,by omega⟩
  have hT:=hw.ty t ht
  unfold Q3f Q0r
  have h1:¬ilt ((d+1:Nat):Int) 1=true:=by rw [Z5];omega
  rw [if_neg h1,Y38 hT]
  simp only [U0]
  cases ho:Z4r w t p with
  | false=>simp [Q9i,ho]
  | true=>
   simp only [Bool.not_true,U2,if_false]
   rw [X3x hT p (Z11 ho) (by omega)]
   simp only [U0]
   by_cases hl:p.kids.length=(V4 w t p).length
   ·have h2:¬(!ieq (lenZ p.kids.length) (lenZ (V4 w t p).length))=true:=by simp [ieq,lenZ,hl]
    rw [if_neg h2]
    have hnode:Q9i w t p=true:=by simp [Q9i,ho,hl]
    rw [hnode,Bool.true_and]
    have hws:wsub .i64 ((d+1:Nat):Int) 1=(d:Int):=by
     rw [Q3v (by omega) (by omega)];omega
    have key:Ret ((forL (fun k102 x103 (s96:Unit)=>
      ((idx p.kids (k102:Int)).bind fun x111=>
      ((Q3f m w x103 x111 (wsub .i64 ((d+1:Nat):Int) 1)).bind fun r112=>
      (if (!r112)=true then
      some (Ctl.ret (false))
      else
      some (Ctl.go ()))))) 0 (V4 w t p) ())) (CtlQ (fun b=>b=false∧(((V4 w t p).zip p.kids).all fun x=>Q0r w d x.1 x.2)=false) (fun _=>(((V4 w t p).zip p.kids).all fun x=>Q0r w d x.1 x.2)=true)):=by
     refine Z4 (V4 w t p) (fun k _=>∀ j a q,j<k→(V4 w t p)[j]?=some a→p.kids[j]?=some q→Q0r w d a q=true) _ _ (fun j a q hj=>by omega) (fun k a s ha hI=>?_) (fun s hI=>?_)
     ·have hlt:k<p.kids.length:=by have:=(List.getElem?_eq_some_iff.1 ha).1;omega
      have hq:p.kids[k]?=some p.kids[k]:=by simp [hlt]
      rw [Q00 hq]
      simp only [U0]
      rw [hws,ih m a p.kids[k] (Q8k hT ht ho a (U1 ha)) (by omega) (by omega)]
      simp only [U0]
      cases hg:Q0r w d a p.kids[k] with
      | false=>
       refine .some ⟨rfl,?_⟩
       rw [List.all_eq_false]
       exact ⟨(a,p.kids[k]),U1 (Q3u ha hq),by simp [hg]⟩
      | true=>
       refine .some (fun j a' q' hj ha' hq'=>?_)
       by_cases hjk:j=k
       ·subst hjk
        rw [ha] at ha'
        rw [hq] at hq'
        cases ha'
        cases hq'
        exact hg
       ·exact hI j a' q' (by omega) ha' hq'
     ·rw [List.all_eq_true]
      intro x hx
      obtain ⟨j,hj⟩:=List.mem_iff_getElem?.1 hx
      obtain ⟨h3,h4⟩:=List.getElem?_zip_eq_some.1 hj
      exact hI j x.1 x.2 ((List.getElem?_eq_some_iff.1 h3).1) h3 h4
    have:=Ret.ctl (Q:=fun b=>b=(((V4 w t p).zip p.kids).all fun x=>Q0r w d x.1 x.2)) key (g:=fun (o95:Ctl Bool Unit)=>match o95 with
     | .ret r=>some r
     | .go _=>none
     | .brk s106=>some (true)) (fun r hr=>.some (by rw [hr.1,hr.2])) (fun s hs=>.some (by rw [hs]))
    obtain ⟨b,e,rfl⟩:=this
    exact e
   ·have h2:(!ieq (lenZ p.kids.length) (lenZ (V4 w t p).length))=true:=by rw [Bool.not_eq_true',Z2];simp only [lenZ];omega
    rw [if_pos h2]
    simp [Q9i,hl]
def cntP:Q0→Nat
 | ⟨_,_,_,_,_,kids⟩=>1+cntPs kids
where cntPs:List Q0→Nat
 | []=>0
 | p::l=>cntP p+cntPs l
theorem Q46 (p:Q0):cntP p=1+cntP.cntPs p.kids:=by cases p;rw [cntP]
theorem Q6c:∀ (l:List Q0) (k:Nat) (q:Q0),l[k]?=some q→cntP.cntPs (l.take (k+1))=cntP.cntPs (l.take k)+cntP q
 | [],k,q,h=>by simp at h
 | p::l,0,q,h=>by simp at h;subst h;simp [cntP.cntPs]
 | p::l,k+1,q,h=>by
  have:=Q6c l k q (by simpa using h)
  simp only [List.take_succ_cons,cntP.cntPs]
  omega
theorem Q20:∀ (l:List Q0) (k:Nat),cntP.cntPs (l.take k)≤cntP.cntPs l
 | [],k=>by simp
 | p::l,0=>by simp [cntP.cntPs]
 | p::l,k+1=>by
  have:=Q20 l k
  simp only [List.take_succ_cons,cntP.cntPs]
  omega
theorem Q9u (p:Q0):1≤cntP p:=by rw [Q46];omega
theorem X6i:∀ (n:Nat) (p:Q0) (most:Nat),most<n→most≤1000→Q4w n p (most:Int)=some ((min (cntP p) (most+1):Nat):Int):=by
 intro n
 induction n with
 | zero=>intro p most h;omega
 | succ n ih=>
  intro p most hn hm
  unfold Q4w
  have key:=Z4 (ρ:=Int) (f:=fun k94 x95 (s88:Int)=>
   (if (ile s88 (most:Int))=true then
   ((Q4w n x95 (wsub .i64 (most:Int) s88)).bind fun r103=>
   some (Ctl.go (wadd .i64 s88 r103)))
   else
   some (Ctl.brk s88))) p.kids (s0:=1) (fun k s=>∃ m:Nat,s=(m:Int)∧m=min (1+cntP.cntPs (p.kids.take k)) (most+1)) (fun _=>False) (fun s=>s=((min (cntP p) (most+1):Nat):Int)) ⟨1,rfl,by simp [cntP.cntPs]⟩ (fun k q s hq hI=>?_) (fun s hI=>?_)
  ·have:=Ret.ctl (Q:=fun b=>b=((min (cntP p) (most+1):Nat):Int)) key (g:=fun (o:Ctl Int Int)=>match o with
    | .ret r=>some r
    | .go _=>none
    | .brk s=>some s) (fun r hr=>hr.elim) (fun s hs=>.some hs)
   obtain ⟨b,e,rfl⟩:=this
   exact e
  ·obtain ⟨m,rfl,hm2⟩:=hI
   refine Ret.ite (fun h=>?_) (fun h=>?_)
   ·rw [W4] at h
    have hle:m≤most:=by omega
    have hws:wsub .i64 (most:Int) (m:Int)=((most-m:Nat):Int):=by rw [Q3v (by omega) (by omega)];omega
    rw [hws,ih q (most-m) (by omega) (by omega)]
    simp only [U0]
    rw [J9 (by omega) (by omega)]
    refine .some ⟨m+min (cntP q) (most-m+1),by push_cast;rfl,?_⟩
    rw [Q6c p.kids k q hq]
    omega
   ·rw [Q0n] at h
    refine .some ?_
    have h1:=Q20 p.kids k
    have h2:=Q46 p
    show (m:Int)=_
    have:m=min (cntP p) (most+1):=by omega
    rw [this]
  ·obtain ⟨m,rfl,hm2⟩:=hI
   rw [List.take_length] at hm2
   have h2:=Q46 p
   have:m=min (cntP p) (most+1):=by omega
   rw [this]
theorem Q7p {w:List Q4}(hw:WW w):∀ (d n:Nat) (t:Q2) (p:Q0) (out:List Q5),t∈tys w→Q0r w d t p=true→d+4≤n→out.length+cntP p≤100000→Q0k n out w t p=some (out++Q0x w d t p)∧(Q0x w d t p).length≤cntP p:=by
 intro d
 induction d with
 | zero=>intro n t p out ht hg;cases hg
 | succ d ih=>
  intro n t p out ht hg hn hout
  obtain ⟨m,rfl⟩:∃ m,n=m+1:=⟨n-1,by omega⟩
  have hT:=hw.ty t ht
  obtain ⟨ho,hl⟩:=Q3c (Q2e hg)
  unfold Q0k
  have hfirst:(((if (ieq p.op 2)=true then
    ((app out [(Q5.mk p.var t)]).bind fun x20=>some (Ctl.brk x20))
    else
    (if (ieq p.op 6)=true then
    ((app out [(Q5.mk p.var t)]).bind fun x22=>some (Ctl.brk x22))
    else
    some (Ctl.brk out)))):Option (Ctl (List Q5) (List Q5)))=some (Ctl.brk (out++ownV t p)):=by
   have ha:app out [(Q5.mk p.var t)]=some (out++[(Q5.mk p.var t)]):=V5 (by simp [Q9];omega)
   by_cases h2:p.op=2
   ·simp [ieq,h2,ha,ownV]
   ·by_cases h6:p.op=6
    ·simp [ieq,h6,ha,ownV]
    ·simp [ieq,h2,h6,ownV]
  rw [hfirst]
  simp only [U0]
  rw [X3x hT p (Z11 ho) (by omega)]
  simp only [U0]
  have hcnt:=Q46 p
  have hown:(ownV t p).length≤1:=by unfold ownV;split<;>simp
  have key:=Z4 (ρ:=List Q5) (f:=fun k179 x180 (s173:List Q5)=>
   (((if (ieq (k179:Int) 0)=true then
   some (Ctl.brk ())
   else
   (if (!ieq p.op 5)=true then
   some (Ctl.brk ())
   else
   some (Ctl.ret (Ctl.brk s173))))).bind fun (o190:Ctl (Ctl (List Q5) (List Q5)) (Unit))=>match o190 with
   | .ret r=>some r
   | .go _=>none
   | .brk s189=>
   ((idx p.kids (k179:Int)).bind fun x201=>
   ((Q0k m s173 w x180 x201).bind fun r202=>
   some (Ctl.go r202))))) (V4 w t p) (s0:=out++ownV t p)
   (fun k s=>s=out++(ownV t p++(((V4 w t p).zip p.kids).take k).flatMap fun x=>Q0x w d x.1 x.2)∧k≤(if p.op=5 then 1 else p.kids.length)∧s.length≤out.length+1+cntP.cntPs (p.kids.take k))
   (fun _=>False) (fun s=>s=out++Q0x w (d+1) t p∧s.length≤out.length+cntP p) ⟨by simp,by split<;>omega,by simp;omega⟩ (fun k a s ha hI=>?_) (fun s hI=>?_)
  ·have:=Ret.ctl (Q:=fun b=>b=out++Q0x w (d+1) t p∧b.length≤out.length+cntP p) key (g:=fun (o:Ctl (List Q5) (List Q5))=>match o with
    | .ret r=>some r
    | .go _=>none
    | .brk s=>some s) (fun r hr=>hr.elim) (fun s hs=>.some hs)
   obtain ⟨b,e,rfl,h2⟩:=this
   refine ⟨e,?_⟩
   rw [U5] at h2
   omega
  ·obtain ⟨hs,hk,hlen⟩:=hI
   have hlt:k<p.kids.length:=by have:=(List.getElem?_eq_some_iff.1 ha).1;omega
   have hq:p.kids[k]?=some p.kids[k]:=by simp [hlt]
   have h1:=Q6c p.kids k _ hq
   have h2:=Q20 p.kids (k+1)
   have hpos:=Q9u p.kids[k]
   have go:∀ (hk2:k+1≤(if p.op=5 then 1 else p.kids.length)),Ret ((idx p.kids (k:Int)).bind fun x201=>
     ((Q0k m s w a x201).bind fun r202=>
     some (Ctl.go (ρ:=List Q5) r202))) (RndQ (fun _=>False) (fun s=>s=out++Q0x w (d+1) t p∧s.length≤out.length+cntP p) (fun s=>s=out++(ownV t p++(((V4 w t p).zip p.kids).take (k+1)).flatMap fun x=>Q0x w d x.1 x.2)∧k+1≤(if p.op=5 then 1 else p.kids.length)∧s.length≤out.length+1+cntP.cntPs (p.kids.take (k+1)))):=fun hk2=>by
    rw [Q00 hq]
    simp only [U0]
    obtain ⟨e1,e2⟩:=ih m a p.kids[k] s (Q8k hT ht ho a (U1 ha)) (W9 hg ha hq) (by omega) (by omega)
    rw [e1]
    refine .some ⟨?_,hk2,?_⟩
    ·rw [List.take_add_one,Q3u ha hq,hs]
     simp
    ·rw [U5]
     omega
   by_cases h5:p.op=5
   ·by_cases hk0:k=0
    ·subst hk0
     have h0:ieq ((0:Nat):Int) 0=true:=rfl
     rw [if_pos h0]
     exact go (by rw [if_pos h5];omega)
    ·rw [if_pos h5] at hk
     have hk1:k=1:=by omega
     subst hk1
     have h0:¬ieq ((1:Nat):Int) 0=true:=by decide
     have h50:¬(!ieq p.op 5)=true:=by simp [ieq,h5]
     rw [if_neg h0,if_neg h50]
     refine .some ⟨?_,?_⟩
     ·rw [hs]
      simp only [Q0x,if_pos h5]
     ·have:=Q20 p.kids 1
      omega
   ·have h50:(!ieq p.op 5)=true:=by simp [ieq,h5]
    have:(if (ieq (k:Int) 0)=true then some (Ctl.brk (ρ:=Ctl (List Q5) (List Q5)) ()) else (if (!ieq p.op 5)=true then some (Ctl.brk ()) else some (Ctl.ret (Ctl.brk s))))=some (Ctl.brk ()):=by
     rw [if_pos h50]
     split<;>rfl
    rw [this]
    exact go (by rw [if_neg h5];omega)
  ·obtain ⟨hs,hk,hlen⟩:=hI
   rw [←hl] at hs hk hlen
   by_cases h5:p.op=5
   ·rw [if_pos h5] at hk
    have:(V4 w t p).length=2:=by simp [V4,h5]
    omega
   ·refine ⟨?_,?_⟩
    ·rw [hs]
     simp only [Q0x,if_neg h5]
    ·rw [List.take_length] at hlen
     omega
theorem X4x (l:List Q5)(v:Int):Ret (Q2r l v) (fun i=>(∃ k x,i=((k:Nat):Int)∧l[k]?=some x∧x.var=v∧∀ j y,j<k→l[j]?=some y→y.var≠v)∨(i = -1∧∀ x∈l,x.var≠v)):=by
 unfold Q2r
 refine Ret.ctl (Z4 l (fun k _=>∀ j x,j<k→l[j]?=some x→x.var≠v) (fun i=>∃ k x,i=((k:Nat):Int)∧l[k]?=some x∧x.var=v∧∀ j y,j<k→l[j]?=some y→y.var≠v) (fun _=>∀ x∈l,x.var≠v) (fun j x hj=>by omega) (fun k y s hy hI=>?_) (fun s hI=>?_)) (fun r hr=>?_) (fun s hs=>?_)
 ·refine Ret.ite (fun h=>?_) (fun h=>?_)
  ·rw [Q8] at h
   exact .some ⟨k,y,rfl,hy,h,hI⟩
  ·rw [Z2] at h
   refine .some (fun j x hj hx=>?_)
   by_cases hjk:j=k
   ·subst hjk
    rw [hy] at hx
    cases hx
    exact h
   ·exact hI j x (by omega) hx
 ·intro x hm
  obtain ⟨j,hj⟩:=List.mem_iff_getElem?.1 hm
  exact hI j x ((List.getElem?_eq_some_iff.1 hj).1) hj
 ·exact .some (.inl hr)
 ·exact .some (.inr ⟨rfl,hs⟩)
theorem Q6v {l:List Q5}(h:Q0e l=true){i j:Nat}{x y:Q5}(hi:l[i]?=some x)(hj:l[j]?=some y)(he:x.var=y.var):i=j:=by
 unfold Q0e at h
 have h:=of_decide_eq_true h
 have hi':(l.map (·.var))[i]?=some x.var:=by simp [hi]
 have hj':(l.map (·.var))[j]?=some x.var:=by simp [hj,he]
 have hil:=(List.getElem?_eq_some_iff.1 hi').1
 exact (List.getElem?_inj hil h).1 (hi'.trans hj'.symm)
theorem X1m {l:List Q5}(h:∀ (i j:Nat) (x y:Q5),l[i]?=some x→l[j]?=some y→x.var=y.var→i=j):Q0e l=true:=by
 unfold Q0e
 refine decide_eq_true (List.pairwise_iff_getElem.2 fun i j hi hj hij he=>?_)
 simp only [U7] at hi hj
 simp only [List.getElem_map] at he
 have:=h i j l[i] l[j] (by simp [hi]) (by simp [hj]) he
 omega
theorem V57 (a b:List Q5)(hb:Q0e b=true):Q67 a b=some (Z14 a b):=by
 have h:Ret (Q67 a b) (fun r=>r=Z14 a b):=by
  unfold Q67
  refine Ret.ctl (Z4 a (fun k _=>∀ j x,j<k→a[j]?=some x→x∈b) (fun r=>r=false∧∃ x∈a,x∉b) (fun _=>∀ x∈a,x∈b) (fun j x hj=>by omega) (fun k y s hy hI=>?_) (fun s hI=>?_)) (fun r hr=>?_) (fun s hs=>?_)
  ·refine Ret.bind (X4x b y.var) (fun i hi=>?_)
   rcases hi with ⟨q,x,rfl,hx,hv,_⟩ | ⟨rfl,hno⟩
   ·have h1:¬ilt ((q:Nat):Int) 0=true:=by rw [Z5];omega
    rw [if_neg h1,Q00 hx]
    simp only [U0]
    by_cases ht:x.typ=y.typ
    ·have hxy:x=y:=by cases x;cases y;simp_all
     have h2:¬(!Q7x [ieq x.typ.data y.typ.data,ieq x.typ.index y.typ.index])=true:=by rw [ht];simp [Q7x,ieq]
     rw [if_neg h2]
     refine .some (fun j z hj hz=>?_)
     by_cases hjk:j=k
     ·subst hjk
      rw [hy] at hz
      cases hz
      rw [←hxy]
      exact U1 hx
     ·exact hI j z (by omega) hz
    ·have h2:(!Q7x [ieq x.typ.data y.typ.data,ieq x.typ.index y.typ.index])=true:=by
      have:¬(x.typ.data=y.typ.data∧x.typ.index=y.typ.index):=fun e=>ht (by cases hx:x.typ;cases hy:y.typ;rw [hx,hy] at e;simp_all)
      simp only [Q7x,ieq,List.all_cons,List.all_nil,id,Bool.and_true,Bool.not_eq_true',Bool.and_eq_false_iff,decide_eq_false_iff_not]
      exact Decidable.not_and_iff_or_not.1 this
     rw [if_pos h2]
     refine .some ⟨rfl,y,U1 hy,fun hm=>?_⟩
     obtain ⟨j,hj⟩:=List.mem_iff_getElem?.1 hm
     have:=Q6v hb hx hj hv
     subst this
     rw [hx] at hj
     cases hj
     exact ht rfl
   ·have h1:ilt (-1) 0=true:=rfl
    rw [if_pos h1]
    exact .some ⟨rfl,y,U1 hy,fun hm=>hno y hm rfl⟩
  ·intro x hm
   obtain ⟨j,hj⟩:=List.mem_iff_getElem?.1 hm
   exact hI j x ((List.getElem?_eq_some_iff.1 hj).1) hj
  ·obtain ⟨rfl,x,hx,hxb⟩:=hr
   refine .some ?_
   symm
   unfold Z14
   rw [Bool.and_eq_false_iff]
   right
   rw [List.all_eq_false]
   exact ⟨x,hx,by simpa using hxb⟩
  ·refine .some ?_
   unfold Z14
   have:a.all (fun v=>decide (v∈b))=true:=by rw [List.all_eq_true];intro x hx;simpa using hs x hx
   rw [this,Bool.and_true]
   simp only [ieq,lenZ]
   exact decide_eq_decide.2 (by omega)
 obtain ⟨r,e,rfl⟩:=h
 exact e
theorem Q1l {w:List Q4} : ∀ (d:Nat) (t:Q2) (p:Q0),Q0r w d t p=true→linD w d t p=true→Q0e (Q0x w d t p)=true:=by
 intro d
 induction d with
 | zero=>intro t p hg;cases hg
 | succ d ih=>
  intro t p hg hl
  simp only [linD,Bool.and_eq_true,List.all_eq_true] at hl
  by_cases h5:p.op=5
  ·obtain ⟨ho,hlen⟩:=Q3c (Q2e hg)
   have hk:V4 w t p=[t,t]:=by simp [V4,h5]
   rw [hk] at hlen
   simp only [Q0x,if_pos h5,hk]
   have hown:ownV t p=[]:=by simp [ownV,h5]
   match hkids:p.kids,hlen with
   | [a,b],_=>
    rw [hkids,hk] at hl
    have h1:=hl.1 (t,a) (by simp)
    have h2:=ih t a (W9 hg (k:=0) (by rw [hk];rfl) (by rw [hkids];rfl)) h1
    simpa [hown] using h2
  ·have:=hl.2
   rw [if_neg h5] at this
   exact this
theorem kid0 {w:List Q4}{t:Q2}{p:Q0}(h5:p.op=5)(hl:p.kids.length=(V4 w t p).length):∃ a b,p.kids=[a,b]∧V4 w t p=[t,t]:=by
 have hk:V4 w t p=[t,t]:=by simp [V4,h5]
 rw [hk] at hl
 match hkids:p.kids,hl with
 | [a,b],_=>exact ⟨a,b,rfl,hk⟩
theorem Q9e {p:Q0}{k:Nat}{q:Q0}(h:p.kids[k]?=some q):cntP q<cntP p:=by
 have h1:=Q6c p.kids k q h
 have h2:=Q20 p.kids (k+1)
 have h3:=Q46 p
 omega
theorem W3k {w:List Q4}(hw:WW w):∀ (d n:Nat) (t:Q2) (p:Q0),t∈tys w→Q0r w d t p=true→d+5≤n→cntP p≤1000→Q3x n w t p=some (linD w d t p):=by
 intro d
 induction d with
 | zero=>intro n t p ht hg;cases hg
 | succ d ih=>
  intro n t p ht hg hn hc
  obtain ⟨m,rfl⟩:∃ m,n=m+1:=⟨n-1,by omega⟩
  have hT:=hw.ty t ht
  obtain ⟨ho,hl⟩:=Q3c (Q2e hg)
  unfold Q3x
  rw [X3x hT p (Z11 ho) (by omega)]
  simp only [U0]
  have h:Ret ((forL (fun k79 x80 (s73:Unit)=>
    ((idx p.kids (k79:Int)).bind fun x88=>
    ((Q3x m w x80 x88).bind fun r89=>
    (if (!r89)=true then
    some (Ctl.ret (false))
    else
    some (Ctl.go ()))))) 0 (V4 w t p) ())) (CtlQ (fun b=>b=false∧(((V4 w t p).zip p.kids).all fun x=>linD w d x.1 x.2)=false) (fun _=>(((V4 w t p).zip p.kids).all fun x=>linD w d x.1 x.2)=true)):=by
   refine Z4 (V4 w t p) (fun k _=>∀ j a q,j<k→(V4 w t p)[j]?=some a→p.kids[j]?=some q→linD w d a q=true) _ _ (fun j a q hj=>by omega) (fun k a s ha hI=>?_) (fun s hI=>?_)
   ·have hlt:k<p.kids.length:=by have:=(List.getElem?_eq_some_iff.1 ha).1;omega
    have hq:p.kids[k]?=some p.kids[k]:=by simp [hlt]
    rw [Q00 hq]
    simp only [U0]
    rw [ih m a p.kids[k] (Q8k hT ht ho a (U1 ha)) (W9 hg ha hq) (by omega) (by have:=Q9e hq;omega)]
    simp only [U0]
    cases hgl:linD w d a p.kids[k] with
    | false=>
     refine .some ⟨rfl,?_⟩
     rw [List.all_eq_false]
     exact ⟨(a,p.kids[k]),U1 (Q3u ha hq),by simp [hgl]⟩
    | true=>
     refine .some (fun j a' q' hj ha' hq'=>?_)
     by_cases hjk:j=k
     ·subst hjk
      rw [ha] at ha'
      rw [hq] at hq'
      cases ha'
      cases hq'
      exact hgl
     ·exact hI j a' q' (by omega) ha' hq'
   ·rw [List.all_eq_true]
    intro x hx
    obtain ⟨j,hj⟩:=List.mem_iff_getElem?.1 hx
    obtain ⟨h3,h4⟩:=List.getElem?_zip_eq_some.1 hj
    exact hI j x.1 x.2 ((List.getElem?_eq_some_iff.1 h3).1) h3 h4
  obtain ⟨o,e,ho2⟩:=h
  rw [e]
  simp only [U0]
  cases o with
  | go s=>exact ho2.elim
  | ret r=>
   obtain ⟨rfl,hr⟩:=ho2
   simp only [linD,hr,Bool.false_and]
  | brk s=>
   have hall:(((V4 w t p).zip p.kids).all fun x=>linD w d x.1 x.2)=true:=ho2
   simp only [linD,hall,Bool.true_and]
   by_cases h5:p.op=5
   ·have h50:ieq p.op 5=true:=by rw [Q8];exact h5
    rw [if_pos h50,if_pos h5]
    obtain ⟨a,b,hkids,hk⟩:=kid0 h5 hl
    have ga:=W9 hg (k:=0) (by rw [hk];rfl) (by rw [hkids];rfl)
    have gb:=W9 hg (k:=1) (by rw [hk];rfl) (by rw [hkids];rfl)
    have ca:=Q9e (p:=p) (k:=0) (by rw [hkids];rfl)
    have cb:=Q9e (p:=p) (k:=1) (by rw [hkids];rfl)
    have k0:kv w d t p 0=Q0x w d t a:=by simp [kv,hkids,hk]
    have k1:kv w d t p 1=Q0x w d t b:=by simp [kv,hkids,hk]
    rw [k0,k1]
    rw [hkids,hk] at hall
    rw [hkids]
    have i0:idx [a,b] 0=some a:=rfl
    have i1:idx [a,b] 1=some b:=rfl
    rw [i0,i1]
    simp only [U0]
    rw [(Q7p hw d m t a [] ht ga (by omega) (by simp;omega)).1,(Q7p hw d m t b [] ht gb (by omega) (by simp;omega)).1]
    simp only [U0,List.nil_append]
    simp at hall
    rw [V57 _ _ (Q1l d t b gb hall.2)]
    rfl
   ·have h50:¬ieq p.op 5=true:=by rw [Q8];exact h5
    rw [if_neg h50,if_neg h5]
    rw [(Q7p hw (d+1) m t p [] ht hg (by omega) (by simp;omega)).1]
    simp only [U0,List.nil_append]
    generalize Q0x w (d+1) t p=l
    have h:Ret ((forL (fun k178 x179 (s172:Unit)=>
      ((Q2r l x179.var).bind fun r186=>
      (if (!ieq r186 (k178:Int))=true then
      some (Ctl.ret (false))
      else
      some (Ctl.go ())))) 0 l ())) (CtlQ (fun b=>b=false∧Q0e l=false) (fun _=>Q0e l=true)):=by
     refine Z4 l (fun k _=>∀ i j x y,i<k→l[i]?=some x→l[j]?=some y→x.var=y.var→i≤j) _ _ (fun i j x y hi=>by omega) (fun k a s ha hI=>?_) (fun s hI=>?_)
     ·refine Ret.bind (X4x l a.var) (fun i hi=>?_)
      rcases hi with ⟨q,x,rfl,hx,hv,hfirst⟩ | ⟨rfl,hno⟩
      ·by_cases hqk:q=k
       ·subst hqk
        have h1:¬(!ieq ((q:Nat):Int) (q:Int))=true:=by simp [ieq]
        rw [if_neg h1]
        refine .some (fun i j x' y' hi hx' hy' hv'=>?_)
        by_cases hiq:i=q
        ·subst hiq
         rw [ha] at hx'
         cases hx'
         rcases Nat.lt_or_ge j i with hji | hji
         ·exact absurd hv'.symm (hfirst j y' hji hy')
         ·exact hji
        ·exact hI i j x' y' (by omega) hx' hy' hv'
       ·have h1:(!ieq ((q:Nat):Int) (k:Int))=true:=by simp [ieq];omega
        rw [if_pos h1]
        refine .some ⟨rfl,?_⟩
        cases hd:Q0e l with
        | false=>rfl
        | true=>exact absurd (Q6v hd hx ha hv) hqk
      ·exact absurd rfl (hno a (U1 ha))
     ·refine X1m fun i j x y hx hy hv=>?_
      have:=hI i j x y ((List.getElem?_eq_some_iff.1 hx).1) hx hy hv
      have:=hI j i y x ((List.getElem?_eq_some_iff.1 hy).1) hy hx hv.symm
      omega
    obtain ⟨o,e,ho3⟩:=h
    rw [e]
    simp only [U0]
    cases o with
    | go s=>exact ho3.elim
    | ret r=>
     obtain ⟨rfl,hr⟩:=ho3
     rw [hr]
    | brk s=>
     have:Q0e l=true:=ho3
     rw [this]
def Q4j (w:List Q4)(t:Q2)(p:Q0):Bool:=Q0r w 10 t p&&(decide (cntP p≤60)&&linD w 10 t p)
theorem X6e {w:List Q4}(hw:WW w){n:Nat}(hn:100≤n)(t:Q2)(p:Q0)(ht:t∈tys w):Q7t n w t p=some (Q4j w t p):=by
 unfold Q7t Q4j
 have h1:=X6a hw 10 n t p ht (by omega) (by omega)
 have e10:((10:Nat):Int)=10:=rfl
 rw [e10] at h1
 rw [h1]
 simp only [U0]
 cases hg:Q0r w 10 t p with
 | false=>simp
 | true=>
  have h2:=X6i n p 60 (by omega) (by omega)
  have e60:((60:Nat):Int)=60:=rfl
  rw [e60] at h2
  rw [h2]
  simp only [U0,if_true,Bool.true_and]
  by_cases hc:cntP p≤60
  ·have:ile ((min (cntP p) (60+1):Nat):Int) 60=true:=by rw [W4];omega
   rw [if_pos this,W3k hw 10 n t p ht hg (by omega) (by omega)]
   simp [hc]
  ·have:¬ile ((min (cntP p) (60+1):Nat):Int) 60=true:=by rw [W4];omega
   rw [if_neg this]
   simp [hc]
theorem Z72 {w:List Q4} : ∀ (d:Nat) (t:Q2) (p:Q0),Q0r w d t p=true→∀ v∈Q0x w d t p,0≤v.var∧v.var≤5:=by
 intro d
 induction d with
 | zero=>intro t p hg;cases hg
 | succ d ih=>
  intro t p hg v hv
  simp only [Q0x,U9,List.mem_flatMap] at hv
  rcases hv with hv | ⟨x,hx,hv⟩
  ·obtain ⟨ho,_⟩:=Q3c (Q2e hg)
   unfold ownV at hv
   split at hv
   ·rename_i h
    simp at hv
    subst hv
    simp [Z4r,h] at ho
    exact ho.1.1.1
   ·simp at hv
  ·have hx:=List.mem_of_mem_take hx
   obtain ⟨j,hj⟩:=List.mem_iff_getElem?.1 hx
   obtain ⟨h3,h4⟩:=List.getElem?_zip_eq_some.1 hj
   exact ih x.1 x.2 (W9 hg h3 h4) v hv
theorem Y3b (l:List Q5)(hr:∀ v∈l,0≤v.var∧v.var≤5){R:List Q5×Bool×Int} :
  Ret (forL (fun k423 (x424:Q5) (s417:(List Bool))=>
   ((aget 6 s417 x424.var).bind fun x435=>
   (if x435=true then
   some (Ctl.ret R)
   else
   ((aset 6 s417 x424.var true).bind fun x437=>
   some (Ctl.go x437))))) 0 l [false,false,false,false,false,false]) (CtlQ (fun r=>r=R∧Q0e l=false) (fun _=>Q0e l=true)):=by
 refine Z4 l (fun k s=>s.length=6∧(∀ i:Nat,i<6→(s[i]?=some true↔∃ (j:Nat) (x:Q5),j<k∧l[j]?=some x∧x.var=(i:Int)))∧∀ (i j:Nat) (x y:Q5),i<k→j<k→l[i]?=some x→l[j]?=some y→x.var=y.var→i=j) _ _ ⟨rfl,fun i hi=>?_,fun i j x y hi=>by omega⟩ (fun k a s ha hI=>?_) (fun s hI=>?_)
 ·constructor
  ·intro h
   match i,hi with
   | 0,_=>simp at h
   | 1,_=>simp at h
   | 2,_=>simp at h
   | 3,_=>simp at h
   | 4,_=>simp at h
   | 5,_=>simp at h
  ·rintro ⟨j,x,hj,_⟩;omega
 ·obtain ⟨hlen,hmet,hdis⟩:=hI
  obtain ⟨r1,r2⟩:=hr a (U1 ha)
  obtain ⟨v,hv⟩:∃ v:Nat,a.var=(v:Int):=⟨a.var.toNat,by omega⟩
  have hv6:v<6:=by omega
  have hsv:s[v]?=some s[v]:=by simp [hlen,hv6]
  have hget:aget 6 s a.var=some s[v]:=by simp only [aget,hlen,if_true,hv];exact Q00 hsv
  rw [hget]
  simp only [U0]
  cases hb:s[v] with
  | true=>
   rw [hb] at hsv
   obtain ⟨j,x,hj,hx,hxv⟩:=(hmet v hv6).1 hsv
   refine .some ⟨rfl,?_⟩
   cases hd:Q0e l with
   | false=>rfl
   | true=>
    have:=Q6v hd hx ha (by rw [hxv,hv])
    omega
  | false=>
   have hset:aset 6 s a.var true=some (s.set v true):=by
    simp only [aset,hlen,if_true,hv,setI]
    rw [if_pos ⟨by omega,by simpa using by omega⟩]
    simp
   simp only [U2,if_false]
   rw [hset]
   refine .some ⟨by simp [hlen],fun i hi=>?_,fun i j x y hi hj hx hy he=>?_⟩
   ·by_cases hiv:i=v
    ·subst hiv
     rw [List.getElem?_set_self (by omega)]
     exact ⟨fun _=>⟨k,a,by omega,ha,hv⟩,fun _=>rfl⟩
    ·rw [List.getElem?_set_ne (by omega)]
     rw [hmet i hi]
     constructor
     ·rintro ⟨j,x,h1,h2,h3⟩;exact ⟨j,x,by omega,h2,h3⟩
     ·rintro ⟨j,x,h1,h2,h3⟩
      refine ⟨j,x,?_,h2,h3⟩
      rcases Nat.lt_or_ge j k with h | h
      ·exact h
      ·have:j=k:=by omega
       subst this
       rw [ha] at h2
       cases h2
       rw [hv] at h3
       omega
   ·have nomet:∀ (j:Nat) (x:Q5),j<k→l[j]?=some x→x.var=a.var→False:=fun j x h1 h2 h3=>by
     have:=(hmet v hv6).2 ⟨j,x,h1,h2,by rw [h3,hv]⟩
     rw [hsv,hb] at this
     cases this
    by_cases hik:i=k
    ·by_cases hjk:j=k
     ·omega
     ·subst hik
      rw [ha] at hx
      cases hx
      exact (nomet j y (by omega) hy he.symm).elim
    ·by_cases hjk:j=k
     ·subst hjk
      rw [ha] at hy
      cases hy
      exact (nomet i x (by omega) hx he).elim
     ·exact hdis i j x y (by omega) (by omega) hx hy he
 ·obtain ⟨_,_,hdis⟩:=hI
  exact X1m fun i j x y hx hy he=>hdis i j x y ((List.getElem?_eq_some_iff.1 hx).1) ((List.getElem?_eq_some_iff.1 hy).1) hx hy he
theorem X31 {α β:Type}(l:List α)(g:α→List β):(l.take 1).flatMap g=l[0]?.elim [] g:=by
 cases l with
 | nil=>rfl
 | cons a l=>simp
def okD (w:List Q4)(d:Nat)(t:Q2)(p:Q0)(c:Nat):Bool:=Q0r w d t p&&(decide (c+cntP p≤60)&&linD w d t p)
theorem V7g {w:List Q4}(hw:WW w):∀ (d n:Nat) (t:Q2) (p:Q0) (c:Nat),t∈tys w→c≤60→d+5≤n→d≤10→
  Ret (Q1z n w t p (11-(d:Int)) (c:Int)) (fun r=>r.2.1=okD w d t p c∧(okD w d t p c=true→r.1=Q0x w d t p∧r.2.2=((c+cntP p:Nat):Int))):=by
 intro d
 induction d with
 | zero=>
  intro n t p c ht hc hn hd
  obtain ⟨m,rfl⟩:∃ m,n=m+1:=⟨n-1,by omega⟩
  unfold Q1z
  refine Ret.ite (fun h=>?_) (fun h=>?_)
  ·exact .some ⟨by simp [okD,Q0r],by simp [okD,Q0r]⟩
  ·have:ilt 10 (11-((0:Nat):Int))=true:=rfl
   rw [if_pos this]
   exact .some ⟨by simp [okD,Q0r],by simp [okD,Q0r]⟩
 | succ d ih=>
  intro n t p c ht hc hn hd
  obtain ⟨m,rfl⟩:∃ m,n=m+1:=⟨n-1,by omega⟩
  have hT:=hw.ty t ht
  have hcp:=Q46 p
  unfold Q1z
  have hc1:wadd .i64 (c:Int) 1=((c+1:Nat):Int):=by rw [J9 (by omega) (by omega)];rfl
  rw [hc1]
  refine Ret.ite (fun h=>?_) (fun h=>?_)
  ·rw [Z5] at h
   have:¬c+cntP p≤60:=by omega
   exact .some ⟨by simp [okD,this],by simp [okD,this]⟩
  ·rw [J8] at h
   have h2:¬ilt 10 (11-((d+1:Nat):Int))=true:=by rw [Z5];omega
   rw [if_neg h2]
   obtain ⟨ts,hs,hts⟩:=W1m hT p
   rw [hs]
   simp only [U0]
   cases hnode:Q9i w t p with
   | false=>exact .some ⟨by simp [okD,Q0r,hnode],by simp [okD,Q0r,hnode]⟩
   | true=>
    obtain rfl:=hts hnode
    obtain ⟨ho,hl⟩:=Q3c hnode
    simp only [Bool.not_true,U2,if_false]
    refine Ret.ctl (R:=fun _=>False) (B:=fun s=>s=ownV t p) ?_ (fun r hr=>hr.elim) (fun s hs=>?_)
    ·have ha:app [] [(Q5.mk p.var t)]=some [(Q5.mk p.var t)]:=V5 (by simp [Q9])
     by_cases h2:p.op=2
     ·exact ⟨_,by simp [ieq,h2,ha];rfl,by simp [ownV,h2]⟩
     ·by_cases h6:p.op=6
      ·exact ⟨_,by simp [ieq,h6,ha];rfl,by simp [ownV,h6]⟩
      ·exact ⟨_,by simp [ieq,h2,h6];rfl,by simp [ownV,h2,h6]⟩
    subst hs
    have hown1:(ownV t p).length≤1:=by unfold ownV;split<;>simp
    have hkn:∀ k,k<p.kids.length→∃ a q,(V4 w t p)[k]?=some a∧p.kids[k]?=some q:=fun k hk=>⟨(V4 w t p)[k]'(by omega),p.kids[k],by simp,by simp⟩
    have allgood:∀ (P:Q2→Q0→Bool),(∀ (j:Nat) (a:Q2) (q:Q0),j<p.kids.length→(V4 w t p)[j]?=some a→p.kids[j]?=some q→P a q=true)→(((V4 w t p).zip p.kids).all fun x=>P x.1 x.2)=true:=fun P hP=>by
     rw [List.all_eq_true]
     intro x hx
     obtain ⟨j,hj⟩:=List.mem_iff_getElem?.1 hx
     obtain ⟨h3,h4⟩:=List.getElem?_zip_eq_some.1 hj
     exact hP j x.1 x.2 ((List.getElem?_eq_some_iff.1 h4).1) h3 h4
    have notall:∀ (P:Q2→Q0→Bool) (k:Nat) (a:Q2) (q:Q0),(V4 w t p)[k]?=some a→p.kids[k]?=some q→P a q=false→(((V4 w t p).zip p.kids).all fun x=>P x.1 x.2)=false:=fun P k a q h1 h2 h3=>by
     rw [List.all_eq_false]
     exact ⟨(a,q),U1 (Q3u h1 h2),by simp [h3]⟩
    refine Ret.ctl (Z4 p.kids
     (fun k s=>s.1=((c+1+cntP.cntPs (p.kids.take k):Nat):Int)∧c+1+cntP.cntPs (p.kids.take k)≤60∧s.2=ownV t p++(((V4 w t p).zip p.kids).take (min k (if p.op=5 then 1 else p.kids.length))).flatMap (fun x=>Q0x w d x.1 x.2)∧
      (∀ (j:Nat) (a:Q2) (q:Q0),j<k→(V4 w t p)[j]?=some a→p.kids[j]?=some q→Q0r w d a q=true∧linD w d a q=true)∧s.2.length≤1+cntP.cntPs (p.kids.take k)∧
      (p.op=5→2≤k→Z14 (kv w d t p 0) (kv w d t p 1)=true))
     (fun r=>r.2.1=false∧okD w (d+1) t p c=false)
     (fun s=>s.1=((c+cntP p:Nat):Int)∧c+cntP p≤60∧s.2=Q0x w (d+1) t p∧Q0r w (d+1) t p=true∧(((V4 w t p).zip p.kids).all fun x=>linD w d x.1 x.2)=true∧
      (p.op=5→Z14 (kv w d t p 0) (kv w d t p 1)=true))
     ⟨by simp [cntP.cntPs],by simp [cntP.cntPs];omega,by simp,fun j a q hj=>by omega,by simp;omega,fun _ h=>by omega⟩ (fun k q s hq hI=>?_) (fun s hI=>?_)) (fun r hr=>?_) (fun s hs=>?_)
    ·obtain ⟨i1,i2,i3,i4,i5,i6⟩:=hI
     have hlt:=(List.getElem?_eq_some_iff.1 hq).1
     obtain ⟨a,q',ha,hq'⟩:=hkn k hlt
     rw [hq] at hq'
     cases hq'
     have hcd:=Q6c p.kids k q hq
     have hct:=Q20 p.kids (k+1)
     have hpos:=Q9u q
     refine Ret.ctl (R:=fun (r:Ctl (List Q5×Bool×Int) (Int×List Q5))=>∃ x,r=.ret x∧x.2.1=false∧okD w (d+1) t p c=false)
      (B:=fun (s:Int×List Q5)=>s.1=((c+1+cntP.cntPs (p.kids.take (k+1)):Nat):Int)∧c+1+cntP.cntPs (p.kids.take (k+1))≤60∧s.2=ownV t p++(((V4 w t p).zip p.kids).take (min (k+1) (if p.op=5 then 1 else p.kids.length))).flatMap (fun x=>Q0x w d x.1 x.2)∧
      (∀ (j:Nat) (a:Q2) (q:Q0),j<k+1→(V4 w t p)[j]?=some a→p.kids[j]?=some q→Q0r w d a q=true∧linD w d a q=true)∧s.2.length≤1+cntP.cntPs (p.kids.take (k+1))∧
      (p.op=5→2≤k+1→Z14 (kv w d t p 0) (kv w d t p 1)=true))
      ?_ (fun r hr=>?_) (fun s hs=>⟨_,rfl,hs⟩)
     ·rw [Q00 ha]
      simp only [U0]
      have hdeep:wadd .i64 (11-((d+1:Nat):Int)) 1=11-(d:Int):=by rw [J9 (by omega) (by omega)];omega
      rw [hdeep,i1]
      refine Ret.bind (ih m a q _ (Q8k hT ht ho a (U1 ha)) i2 (by omega) (by omega)) (fun r hr=>?_)
      obtain ⟨hr1,hr2⟩:=hr
      rw [hr1]
      cases hok:okD w d a q (c+1+cntP.cntPs (p.kids.take k)) with
      | false=>
       refine .some ⟨_,rfl,rfl,?_⟩
       simp only [okD,Bool.and_eq_false_iff] at hok
       rcases hok with h1 | h1 | h1
       ·simp only [okD,Q0r,notall _ k a q ha hq h1,Bool.and_false,Bool.false_and]
       ·have h1:=of_decide_eq_false h1
        have:¬c+cntP p≤60:=by omega
        simp [okD,this]
       ·simp only [okD,linD,notall _ k a q ha hq h1,Bool.and_false,Bool.false_and]
      | true=>
       obtain ⟨e1,e2⟩:=hr2 hok
       simp only [okD,Bool.and_eq_true,decide_eq_true_eq] at hok
       obtain ⟨g1,g2,g3⟩:=hok
       have hvl:=(Q7p hw d (d+4) a q [] (Q8k hT ht ho a (U1 ha)) g1 (by omega) (by simp;omega)).2
       have hboth:∀ (j:Nat) (a':Q2) (q':Q0),j<k+1→(V4 w t p)[j]?=some a'→p.kids[j]?=some q'→Q0r w d a' q'=true∧linD w d a' q'=true:=fun j a' q' hj h1 h2=>by
        by_cases hjk:j=k
        ·subst hjk
         rw [ha] at h1
         rw [hq] at h2
         cases h1
         cases h2
         exact ⟨g1,g3⟩
        ·exact i4 j a' q' (by omega) h1 h2
       simp only [Bool.not_true,U2,if_false]
       have hcount:r.2.2=((c+1+cntP.cntPs (p.kids.take (k+1)):Nat):Int):=by rw [e2,hcd];congr 1;omega
       have happ:app s.2 r.1=some (s.2++Q0x w d a q):=by rw [e1];exact V5 (by simp only [Q9];omega)
       have hzip:=Q3u ha hq
       by_cases h5:p.op=5
       ·have h50:ieq p.op 5=true:=by rw [Q8];exact h5
        rw [if_pos h50]
        obtain ⟨x0,x1,hkids,hkt⟩:=kid0 h5 hl
        by_cases hk1:k=1
        ·subst hk1
         have h10:ieq ((1:Nat):Int) 1=true:=rfl
         rw [if_pos h10,X9f,e1]
         simp only [U0]
         have hs2:s.2=kv w d t p 0:=by
          rw [i3,if_pos h5,show ownV t p=[] by simp [ownV,h5]]
          simp only [Nat.min_self,List.nil_append]
          exact X31 _ _
         have hz1:(kv w d t p 1)=Q0x w d a q:=by unfold kv;rw [hzip];rfl
         refine Ret.ite (fun h=>?_) (fun h=>?_)
         ·refine .some ⟨_,rfl,rfl,?_⟩
          have:Z14 (kv w d t p 0) (kv w d t p 1)=false:=by
           rw [hz1,←hs2]
           rw [Bool.not_eq_true'] at h
           exact h
          simp only [okD,linD,if_pos h5,this,Bool.and_false]
         ·refine .some ⟨hcount,by omega,?_,hboth,by simp only;omega,fun _ _=>?_⟩
          ·rw [i3,if_pos h5]
           rfl
          ·rw [hz1,←hs2]
           simpa [Z14] using h
        ·have hk0:k=0:=by rw [hkids] at hlt;simp at hlt;omega
         subst hk0
         have h10:¬ieq ((0:Nat):Int) 1=true:=by decide
         rw [if_neg h10,happ]
         refine .some ⟨hcount,by omega,?_,hboth,by simp only [U5];omega,fun _ h=>by omega⟩
         simp only
         rw [i3,if_pos h5]
         simp only [Nat.zero_min,List.take_zero,List.flatMap_nil,List.append_nil,Nat.min_self]
         rw [show (0+1)=1 from rfl,X31,hzip]
         rfl
       ·have h50:¬ieq p.op 5=true:=by rw [Q8];exact h5
        rw [if_neg h50,happ]
        refine .some ⟨hcount,by omega,?_,hboth,by simp only [U5];omega,fun h=>absurd h h5⟩
        simp only
        rw [i3,if_neg h5,Nat.min_eq_left (by omega),Nat.min_eq_left (by omega),List.take_add_one,hzip]
        simp
     ·obtain ⟨x,rfl,h1,h2⟩:=hr
      exact .some ⟨h1,h2⟩
    ·obtain ⟨i1,i2,i3,i4,i5,i6⟩:=hI
     rw [List.take_length] at i1 i2
     refine ⟨by rw [i1];congr 1;omega,by omega,?_,?_,allgood _ fun j a q hj h1 h2=>(i4 j a q hj h1 h2).2,fun h5=>i6 h5 ?_⟩
     ·rw [i3]
      have:min p.kids.length (if p.op=5 then 1 else p.kids.length)=(if p.op=5 then 1 else p.kids.length):=by
       split
       ·rename_i h5
        obtain ⟨x0,x1,hkids,hkt⟩:=kid0 h5 hl
        rw [hkids]
        simp
       ·simp
      rw [this]
      rfl
     ·simp only [Q0r,hnode,Bool.true_and]
      exact allgood _ fun j a q hj h1 h2=>(i4 j a q hj h1 h2).1
     ·obtain ⟨x0,x1,hkids,hkt⟩:=kid0 h5 hl
      rw [hkids]
      simp
    ·exact .some ⟨by rw [hr.1,hr.2],fun h=>by rw [hr.2] at h;cases h⟩
    ·obtain ⟨b1,b2,b3,b4,b5,b6⟩:=hs
     refine Ret.ctl (Y3b s.2 (fun v hv=>by rw [b3] at hv;exact Z72 (d+1) t p b4 v hv)) (fun r hr=>?_) (fun s' hs'=>?_)
     ·obtain ⟨rfl,hd0⟩:=hr
      have:okD w (d+1) t p c=false:=by
       by_cases h5:p.op=5
       ·have hlin:linD w (d+1) t p=true:=by simp only [linD,b5,if_pos h5,b6 h5,Bool.and_self]
        have:=Q1l (d+1) t p b4 hlin
        rw [b3,this] at hd0
        cases hd0
       ·rw [b3] at hd0
        simp only [okD,linD,if_neg h5,hd0,Bool.and_false]
      exact .some ⟨by rw [this],fun h=>by rw [this] at h;cases h⟩
     ·have hlin:linD w (d+1) t p=true:=by
       by_cases h5:p.op=5
       ·simp only [linD,b5,if_pos h5,b6 h5,Bool.and_self]
       ·rw [b3] at hs'
        simp only [linD,b5,if_neg h5,hs',Bool.and_self]
      have:okD w (d+1) t p c=true:=by simp [okD,b4,b2,hlin]
      exact .some ⟨by rw [this],fun _=>⟨b3,b1⟩⟩
theorem W7t (w:List Q4)(t:Q2)(p:Q0):okD w 10 t p 0=Q4j w t p:=by simp [okD,Q4j]
theorem W1g {w:List Q4}(hw:WW w):∀ (d:Nat) (t:Q2) (p:Q0),t∈tys w→Q0r w d t p=true→∀ v∈Q0x w d t p,v.typ∈tys w:=by
 intro d
 induction d with
 | zero=>intro t p ht hg;cases hg
 | succ d ih=>
  intro t p ht hg v hv
  obtain ⟨ho,_⟩:=Q3c (Q2e hg)
  simp only [Q0x,U9,List.mem_flatMap] at hv
  rcases hv with hv | ⟨x,hx,hv⟩
  ·unfold ownV at hv
   split at hv
   ·simp at hv
    subst hv
    exact ht
   ·simp at hv
  ·have hx:=List.mem_of_mem_take hx
   obtain ⟨j,hj⟩:=List.mem_iff_getElem?.1 hx
   obtain ⟨h3,h4⟩:=List.getElem?_zip_eq_some.1 hj
   exact ih x.1 x.2 (Q8k (hw.ty t ht) ht ho x.1 (U1 h3)) (W9 hg h3 h4) v hv
def X3k (g:Q4u)(vars:List Q5):Bool:=if g.op=0 then decide (g.var=0)&&decide (g.n=0) else decide (g.op=1∨g.op=2)&&(decide (0≤g.n)&&decide (g.n≤9))&&decide (⟨g.var,tI⟩∈vars)
def Q8v (w:List Q4)(t:Q2)(c:Z6):Bool:=Q4j w t c.pat&&X3k c.guard (Q0x w 10 t c.pat)
def Q6g (w:List Q4)(t:Q2)(l:List Z6):Bool:=decide (l.length≤8)&&l.all (Q8v w t)
theorem X79 (g:Q4u)(vars:List Q5):Q7j g vars=some (X3k g vars):=by
 unfold Q7j X3k
 simp only [Q8z,X1q,U0]
 by_cases h0:g.op=0
 ·simp [ieq,h0,Q7x]
 ·rw [if_neg (by rw [Q8];exact h0),if_neg h0]
  have e:(decide (1≤g.op)&&decide (g.op≤2))=decide (g.op=1∨g.op=2):=by
   rw [←Bool.decide_and]
   exact decide_eq_decide.2 (by omega)
  rw [e]
  have et:(Q2.mk (-1) 0)=tI:=rfl
  rw [et]
  cases decide (g.op=1∨g.op=2)<;>cases (decide (0≤g.n)&&decide (g.n≤9))<;>rfl
theorem X6f {w:List Q4}(hw:WW w)(g:Q4u)(vars:List Q5)(hd:Q0e vars=true)(ht:∀ v∈vars,v.typ∈tys w):Q66 g vars=some (X3k g vars):=by
 have h:Ret (Q66 g vars) (fun r=>r=X3k g vars):=by
  unfold Q66 X3k
  by_cases h0:g.op=0
  ·rw [if_pos (by rw [Q8];exact h0),if_pos h0]
   by_cases h1:g.var=0<;>simp [ieq,h1,Ret]
  ·rw [if_neg (by rw [Q8];exact h0),if_neg h0]
   refine Ret.ctl (R:=fun r=>r=false∧(decide (g.op=1∨g.op=2)&&(decide (0≤g.n)&&decide (g.n≤9)))=false) (B:=fun _=>(decide (g.op=1∨g.op=2)&&(decide (0≤g.n)&&decide (g.n≤9)))=true) ?_ (fun r hr=>?_) (fun s hs=>?_)
   ·by_cases h1:g.op=1<;>by_cases h2:g.op=2<;>by_cases h3:g.n<0<;>by_cases h4:9<g.n<;>simp [ieq,ilt,h1,h2,h3,h4,Ret]<;>omega
   ·obtain ⟨rfl,hr⟩:=hr
    exact .some (by rw [hr];rfl)
   ·rw [hs,Bool.true_and]
    refine Ret.bind (X4x vars g.var) (fun i hi=>?_)
    rcases hi with ⟨q,x,rfl,hx,hv,_⟩ | ⟨rfl,hno⟩
    ·have h1:ile 0 ((q:Nat):Int)=true:=by rw [W4];omega
     rw [if_pos h1,Q00 hx]
     refine .some ?_
     have hxm:=U1 hx
     simp only [ieq]
     refine decide_eq_decide.2 ⟨fun hdt=>?_,fun hm=>?_⟩
     ·have:=((hw.ty x.typ (ht x hxm)).ti hdt).1
      have:x=⟨g.var,tI⟩:=by cases x;simp at hv this;simp [hv,this]
      rw [←this]
      exact hxm
     ·obtain ⟨j,hj⟩:=List.mem_iff_getElem?.1 hm
      have:=Q6v hd hx hj hv
      subst this
      rw [hx] at hj
      cases hj
      rfl
    ·have h1:¬ile 0 (-1)=true:=by decide
     rw [if_neg h1]
     refine .some ?_
     symm
     exact decide_eq_false fun hm=>hno _ hm rfl
 obtain ⟨r,e,rfl⟩:=h
 exact e
theorem Z1a {w:List Q4}(hw:WW w){n:Nat}(hn:100≤n)(t:Q2)(p:Q0)(ht:t∈tys w):Ret (Q1y n w t p) (fun r=>r.2=Q4j w t p∧(Q4j w t p=true→r.1=Q0x w 10 t p)):=by
 unfold Q1y
 have h:=V7g hw 10 n t p 0 ht (by omega) (by omega) (by omega)
 have e1:(11:Int)-((10:Nat):Int)=1:=rfl
 rw [e1] at h
 refine Ret.bind h (fun r hr=>.some ?_)
 rw [W7t] at hr
 exact ⟨hr.1,fun hv=>(hr.2 hv).1⟩
theorem X4m {w:List Q4}(hw:WW w){n:Nat}(hn:100≤n)(t:Q2)(c:Z6)(ht:t∈tys w):Q5a n w t c=some (Q8v w t c):=by
 have h:Ret (Q5a n w t c) (fun r=>r=Q8v w t c):=by
  unfold Q5a Q8v
  refine Ret.bind (Z1a hw hn t c.pat ht) (fun r hr=>?_)
  obtain ⟨h1,h2⟩:=hr
  rw [h1]
  cases hv:Q4j w t c.pat with
  | false=>exact .some rfl
  | true=>
   rw [if_pos rfl,X79,h2 hv]
   exact .some rfl
 obtain ⟨r,e,rfl⟩:=h
 exact e
theorem Q15 {w:List Q4}{t:Q2}{p:Q0}(h:Q4j w t p=true):Q0r w 10 t p=true∧cntP p≤60∧linD w 10 t p=true:=by
 simpa [Q4j] using h
theorem X42 {w:List Q4}(hw:WW w){n:Nat}(hn:100≤n)(t:Q2)(c:Z6)(ht:t∈tys w):Z0c n w t c=some (Q8v w t c):=by
 unfold Z0c Q8v
 rw [X6e hw hn t c.pat ht]
 simp only [U0]
 cases hv:Q4j w t c.pat with
 | false=>rfl
 | true=>
  obtain ⟨g1,g2,g3⟩:=Q15 hv
  rw [if_pos rfl,(Q7p hw 10 n t c.pat [] ht g1 (by omega) (by simp;omega)).1]
  simp only [U0,List.nil_append]
  rw [X6f hw c.guard _ (Q1l 10 t c.pat g1 g3) (W1g hw 10 t c.pat ht g1)]
  rfl
theorem Z67 {w:List Q4}(hw:WW w){t:Q2}(ht:t∈tys w):Q39 NN w t=some true:=by
 unfold Q39
 rw [hw.v1]
 simp only [U0,if_true]
 rw [(hw.ty t ht).t1]
 rfl
theorem X68 {w:List Q4}(hw:WW w){t:Q2}(ht:t∈tys w):Q37 NN w t=some true:=by
 unfold Q37
 rw [hw.v2]
 simp only [U0,if_true]
 rw [(hw.ty t ht).t2]
 rfl
theorem Z54 {w:List Q4}(hw:WW w){t:Q2}(ht:t∈tys w)(l:List Z6):Q2o NN w t l=some (Q6g w t l):=by
 unfold Q2o Q6g
 rw [Z67 hw ht]
 simp only [U0,if_true]
 by_cases hl:l.length≤8
 ·rw [if_pos (by rw [W4];simp only [lenZ];omega)]
  rw [Z96 l _ (fun c=>!Q8v w t c) (fun c _=>by unfold Q4r;rw [X4m hw (by decide) t c ht];rfl)]
  simp only [U0,hl,decide_true,Bool.true_and,Option.some.injEq]
  rw [Bool.eq_iff_iff]
  simp
 ·rw [if_neg (by rw [W4];simp only [lenZ];omega)]
  simp [hl]
theorem Z4x {w:List Q4}(hw:WW w){t:Q2}(ht:t∈tys w)(l:List Z6):Q0s NN w t l=some (Q6g w t l):=by
 have h:Ret (Q0s NN w t l) (fun r=>r=Q6g w t l):=by
  unfold Q0s Q6g
  rw [X68 hw ht]
  simp only [U0,Bool.not_true,U2,if_false]
  by_cases hl:l.length≤8
  ·rw [if_neg (by rw [Z5];simp only [lenZ];omega)]
   simp only [hl,decide_true,Bool.true_and]
   refine Ret.ctl (Z4 l (fun k _=>∀ j c,j<k→l[j]?=some c→Q8v w t c=true) (fun r=>r=false∧l.all (Q8v w t)=false) (fun _=>l.all (Q8v w t)=true) (fun j c hj=>by omega) (fun k c s hc hI=>?_) (fun s hI=>?_)) (fun r hr=>?_) (fun s hs=>?_)
   ·rw [X42 hw (by decide) t c ht]
    simp only [U0]
    cases hb:Q8v w t c with
    | false=>
     refine .some ⟨rfl,?_⟩
     rw [List.all_eq_false]
     exact ⟨c,U1 hc,by simp [hb]⟩
    | true=>
     refine .some (fun j c' hj hc'=>?_)
     by_cases hjk:j=k
     ·subst hjk
      rw [hc] at hc'
      cases hc'
      exact hb
     ·exact hI j c' (by omega) hc'
   ·rw [List.all_eq_true]
    intro c hc
    obtain ⟨j,hj⟩:=List.mem_iff_getElem?.1 hc
    exact hI j c ((List.getElem?_eq_some_iff.1 hj).1) hj
   ·exact .some (by rw [hr.1,hr.2])
   ·exact .some hs.symm
  ·rw [if_pos (by rw [Z5];simp only [lenZ];omega)]
   exact .some (by simp [hl])
 obtain ⟨r,e,rfl⟩:=h
 exact e
def Q2f (w:List Q4):Nat→Q2→Q1→Prop
 | 0,_,_=>False
 | d+1,t,v=>if t.data = -1 then v.ctor = -1∧0≤v.n∧v.n≤9∧v.kids=[] else v.n=0∧v.ctor∈X2 w t∧v.kids.length=(W0 w t v.ctor).length∧∀ (j:Nat) (a:Q2) (x:Q1),(W0 w t v.ctor)[j]?=some a→v.kids[j]?=some x→Q2f w d a x
def Q2x (f:Q0→Q1→Option (List X1)):List Q0→List Q1→Option (List X1)
 | [],_=>some []
 | _::_,[]=>none
 | p::ps,v::vs=>match f p v with
  | none=>none
  | some l=>match Q2x f ps vs with
   | none=>none
   | some m=>some (l++m)
def X7:Nat→Q0→Q1→Option (List X1)
 | 0,_,_=>none
 | d+1,p,v=>
  if p.op=1 then some []
  else if p.op=2 then some [⟨p.var,v⟩]
  else if p.op=3 then (if p.n≤v.n∧v.n≤p.m then some [] else none)
  else if p.op=5 then (match p.kids with
   | [a,b]=>(match X7 d a v with | some l=>some l | none=>X7 d b v)
   | _=>none)
  else if p.op=6 then (match p.kids with
   | [a]=>(X7 d a v).map (fun l=>⟨p.var,v⟩::l)
   | _=>none)
  else if p.ctor=v.ctor then Q2x (X7 d) p.kids v.kids else none
theorem Z2e {w:List Q4}{t:Q2}{p:Q0}(h6:p.op=6)(hl:p.kids.length=(V4 w t p).length):∃ a,p.kids=[a]∧V4 w t p=[t]:=by
 have hk:V4 w t p=[t]:=by simp [V4,h6]
 rw [hk] at hl
 match hkids:p.kids,hl with
 | [a],_=>exact ⟨a,rfl,hk⟩
theorem V2t {w:List Q4}(hw:WW w):∀ (d n:Nat) (t:Q2) (p:Q0) (v:Q1) (e:Nat),t∈tys w→Q0r w d t p=true→Q2f w e t v→d+2≤n→cntP p≤1000→
  Ret (Q4q n p v) (fun r=>r.1.length≤cntP p∧r.2=(X7 d p v).isSome∧∀ l,X7 d p v=some l→r.1=l):=by
 intro d
 induction d with
 | zero=>intro n t p v e ht h;cases h
 | succ d ih=>
  intro n t p v e ht hg hv hn hc
  obtain ⟨n,rfl⟩:∃ k,n=k+1:=⟨n-1,by omega⟩
  obtain ⟨ho,hl⟩:=Q3c (Q2e hg)
  have hT:=hw.ty t ht
  have hpos:=Q9u p
  unfold Q4q
  refine Ret.ite (fun h=>?_) (fun h1=>?_)
  ·rw [Q8] at h
   exact .some ⟨by simp,by simp [X7,h],fun l hl=>by simp [X7,h] at hl;exact hl.symm⟩
  rw [Z2] at h1
  refine Ret.ite (fun h=>?_) (fun h2=>?_)
  ·rw [Q8] at h
   exact .some ⟨by simp;omega,by simp [X7,h],fun l hl=>by simp [X7,h] at hl;exact hl⟩
  rw [Z2] at h2
  refine Ret.ite (fun h=>?_) (fun h3=>?_)
  ·rw [Q8] at h
   rw [Q8z]
   refine .some ⟨by simp,?_,fun l hl=>?_⟩
   ·by_cases hr:p.n≤v.n∧v.n≤p.m
    ·simp [X7,h,hr]
    ·simp only [X7,h]
     simp [hr]
     simpa using hr
   ·simp only [X7,h] at hl
    simp at hl
    exact hl.2.symm
  rw [Z2] at h3
  refine Ret.ite (fun h=>?_) (fun h5=>?_)
  ·rw [Q8] at h
   obtain ⟨a,b,hkids,hk⟩:=kid0 h hl
   have ca:=Q9e (p:=p) (k:=0) (by rw [hkids];rfl)
   have cb:=Q9e (p:=p) (k:=1) (by rw [hkids];rfl)
   have ga:=W9 hg (k:=0) (by rw [hk];rfl) (by rw [hkids];rfl)
   have gb:=W9 hg (k:=1) (by rw [hk];rfl) (by rw [hkids];rfl)
   have i0:idx [a,b] 0=some a:=rfl
   have i1:idx [a,b] 1=some b:=rfl
   rw [hkids,i0,i1]
   simp only [U0]
   have hm:X7 (d+1) p v=(match X7 d a v with | some l=>some l | none=>X7 d b v):=by
    simp [X7,h,hkids]<;>rfl
   rw [hm]
   refine Ret.bind (ih n t a v e ht ga hv (by omega) (by omega)) (fun r hr=>?_)
   obtain ⟨r0,r1,r2⟩:=hr
   rw [r1]
   cases hma:X7 d a v with
   | some l=>exact .some ⟨by simp only;omega,rfl,fun l' hl'=>by cases hl';exact r2 l hma⟩
   | none=>
    simp only [Option.isSome_none,U2,if_false]
    refine Ret.bind (ih n t b v e ht gb hv (by omega) (by omega)) (fun s hs=>?_)
    obtain ⟨s0,s1,s2⟩:=hs
    exact .some ⟨by simp only;omega,s1,fun l' hl'=>s2 l' hl'⟩
  rw [Z2] at h5
  refine Ret.ite (fun h=>?_) (fun h6=>?_)
  ·rw [Q8] at h
   obtain ⟨a,hkids,hk⟩:=Z2e h hl
   have ca:=Q9e (p:=p) (k:=0) (by rw [hkids];rfl)
   have ga:=W9 hg (k:=0) (by rw [hk];rfl) (by rw [hkids];rfl)
   have i0:idx [a] 0=some a:=rfl
   rw [hkids,i0]
   simp only [U0]
   have hm:X7 (d+1) p v=(X7 d a v).map (fun l=>⟨p.var,v⟩::l):=by
    simp [X7,h,hkids]
   rw [hm]
   refine Ret.bind (ih n t a v e ht ga hv (by omega) (by omega)) (fun r hr=>?_)
   obtain ⟨r0,r1,r2⟩:=hr
   rw [V5 (by simp [Q9];omega)]
   refine .some ⟨by simp;omega,by rw [r1];simp,fun l' hl'=>?_⟩
   simp only [U12] at hl'
   obtain ⟨l,e1,rfl⟩:=hl'
   rw [r2 l e1]
   rfl
  rw [Z2] at h6
  have h4:p.op=4:=by
   simp [Z4r,h1,h2,h3,h5,h6] at ho
   exact ho.2.1
  have hcm:=Z11 ho h4
  have hm:X7 (d+1) p v=if p.ctor=v.ctor then Q2x (X7 d) p.kids v.kids else none:=by
   simp [X7,h4]
  rw [hm]
  refine Ret.ite (fun h=>?_) (fun h=>?_)
  ·rw [Bool.not_eq_true',Z2] at h
   rw [if_neg h]
   exact .some ⟨by simp,rfl,fun l hl=>by cases hl⟩
  ·rw [Bool.not_eq_false',Q8] at h
   rw [if_pos h]
   have hkt:V4 w t p=W0 w t p.ctor:=by simp [V4,h4]
   obtain ⟨e,rfl⟩:∃ e',e=e'+1:=by cases e with
    | zero=>exact hv.elim
    | succ e=>exact ⟨e,rfl⟩
   have hdata:t.data≠-1:=fun hd=>by
    obtain ⟨rfl,_⟩:=hT.ti hd
    have:X2 w tI=[]:=rfl
    rw [this] at hcm
    cases hcm
   simp only [Q2f,if_neg hdata] at hv
   obtain ⟨v1,v2,v3,v4⟩:=hv
   rw [←h] at v3 v4
   have hlen:p.kids.length=v.kids.length:=by rw [v3,hl,hkt]
   refine Ret.ctl (Z4 p.kids (fun k s=>Q2x (X7 d) p.kids v.kids=(Q2x (X7 d) (p.kids.drop k) (v.kids.drop k)).map (fun l=>s++l)∧s.length≤cntP.cntPs (p.kids.take k)) (fun r=>r=([],false)∧Q2x (X7 d) p.kids v.kids=none)
    (fun s=>Q2x (X7 d) p.kids v.kids=some s∧s.length≤cntP.cntPs p.kids) ⟨by simp,by simp⟩ (fun k q s hq hI=>?_) (fun s hI=>?_)) (fun r hr=>?_) (fun s hs=>?_)
   ·obtain ⟨i1,i2⟩:=hI
    have hlt:=(List.getElem?_eq_some_iff.1 hq).1
    have hx:v.kids[k]?=some (v.kids[k]'(by omega)):=by simp
    have ha:(V4 w t p)[k]?=some ((V4 w t p)[k]'(by omega)):=by simp
    rw [Q00 hx]
    simp only [U0]
    have cq:=Q9e hq
    have hcd:=Q6c p.kids k q hq
    have hct:=Q20 p.kids (k+1)
    have hcp:=Q46 p
    refine Ret.bind (ih n _ q _ e (Q8k hT ht ho _ (U1 ha)) (W9 hg ha hq) (v4 k _ _ (by rw [←hkt];exact ha) hx) (by omega) (by omega)) (fun r hr=>?_)
    obtain ⟨r0,r1,r2⟩:=hr
    have hd1:p.kids.drop k=q::p.kids.drop (k+1):=by
     rw [List.drop_eq_getElem_cons hlt]
     rw [U10 hlt] at hq
     cases hq
     rfl
    have hd2:v.kids.drop k=v.kids[k]'(by omega)::v.kids.drop (k+1):=List.drop_eq_getElem_cons (by omega)
    rw [hd1,hd2] at i1
    simp only [Q2x] at i1
    cases hmq:X7 d q (v.kids[k]'(by omega)) with
    | none=>
     rw [hmq] at i1 r1
     rw [r1]
     exact .some ⟨rfl,i1⟩
    | some l=>
     rw [hmq] at i1 r1
     have e1:=r2 l hmq
     rw [r1]
     simp only [Option.isSome_some,Bool.not_true,U2,if_false]
     rw [V5 (by simp only [Q9];omega),e1]
     refine .some ⟨?_,by rw [U5,←e1];omega⟩
     rw [i1]
     cases Q2x (X7 d) (p.kids.drop (k+1)) (v.kids.drop (k+1)) with
     | none=>rfl
     | some m=>simp
   ·obtain ⟨i1,i2⟩:=hI
    rw [List.take_length] at i2
    refine ⟨?_,i2⟩
    rw [i1,List.drop_length]
    simp [Q2x]
   ·obtain ⟨rfl,hr⟩:=hr
    exact .some ⟨by simp,by rw [hr];rfl,fun l hl=>by rw [hr] at hl;cases hl⟩
   ·have hcp:=Q46 p
    exact .some ⟨by simp only;omega,by rw [hs.1];rfl,fun l hl=>by rw [hs.1] at hl;cases hl;rfl⟩
theorem Q0.ext' {a b:Q0}(h1:a.op=b.op)(h2:a.ctor=b.ctor)(h3:a.n=b.n)(h4:a.m=b.m)(h5:a.var=b.var)(h6:a.kids=b.kids):a=b:=by
 cases a;cases b;simp_all
structure ROk (r:X3) (m:Nat):Prop where
 bytes:∀ x∈r.b,0≤x∧x≤255
 len:r.b.length≤2000
 p0:0≤r.p
 pm:r.p+m≤40000000
structure Nx (r r':X3) (c:Nat):Prop where
 b:r'.b=r.b
 le:r.p≤r'.p
 ge:r'.p≤r.p+c
theorem ROk.le {r:X3}{m m':Nat}(h:ROk r m)(hm:m'≤m):ROk r m':=⟨h.bytes,h.len,h.p0,by have:=h.pm;omega⟩
theorem ROk.nx {r r':X3}{c m:Nat}(h:ROk r (c+m))(hn:Nx r r' c):ROk r' m:=⟨by rw [hn.b];exact h.bytes,by rw [hn.b];exact h.len,by have:=h.p0;have:=hn.le;omega,by have:=h.pm;have:=hn.ge;omega⟩
theorem Nx.refl (r:X3):Nx r r 0:=⟨rfl,by omega,by omega⟩
theorem Nx.trans {a b c:X3}{m n:Nat}(h:Nx a b m)(k:Nx b c n):Nx a c (m+n):=⟨k.b.trans h.b,by have:=h.le;have:=k.le;omega,by have:=h.ge;have:=k.ge;omega⟩
theorem Nx.le' {a b:X3}{m n:Nat}(h:Nx a b m)(hm:m≤n):Nx a b n:=⟨h.b,h.le,by have:=h.ge;omega⟩
theorem W6i {x y:Int}(hx:0≤x)(hx':x<1099511627776)(hy:0≤y)(hy':y<1099511627776):0≤wxor .i64 x y∧wxor .i64 x y<1099511627776:=by
 obtain ⟨a,rfl⟩:=Int.eq_ofNat_of_zero_le hx
 obtain ⟨b,rfl⟩:=Int.eq_ofNat_of_zero_le hy
 have e:(BitVec.ofInt IntKind.i64.bits (a:Int) ^^^ BitVec.ofInt IntKind.i64.bits (b:Int)).toNat=a ^^^ b:=by
  have ha:(BitVec.ofInt IntKind.i64.bits (a:Int)).toNat=a:=by
   rw [BitVec.toNat_ofInt]
   show (((a:Int) % ((2 ^ 64:Nat):Int))).toNat=a
   omega
  have hb:(BitVec.ofInt IntKind.i64.bits (b:Int)).toNat=b:=by
   rw [BitVec.toNat_ofInt]
   show (((b:Int) % ((2 ^ 64:Nat):Int))).toNat=b
   omega
  rw [BitVec.toNat_xor,ha,hb]
 have hlt:a ^^^ b<2 ^ 40:=Nat.xor_lt_two_pow (by omega) (by omega)
 unfold wxor
 rw [e,Z81 (by omega) (by omega)]
 omega
theorem Z3h {r:X3}(h:ROk r 1){k:Int}(h1:1≤k)(h2:k≤1000000):Ret (Z3 r k) (fun a=>0≤a.1∧a.1<k∧Nx r a.2 1):=by
 have hp0:=h.p0
 have hpm:=h.pm
 have hlen:=h.len
 have ep:wadd .i64 r.p 1=r.p+1:=J9 (by omega) (by omega)
 have eq:wsub .i64 (r.p+1) 1=r.p:=by rw [Q3v (by omega) (by omega)];omega
 have nx:Nx r (X3.mk r.b (r.p+1)) 1:=⟨rfl,by simp only;omega,by simp only;omega⟩
 unfold Z3
 rw [ep,eq]
 refine Ret.ite (fun c=>by rw [Z5] at c;omega) (fun _=>?_)
 refine Ret.ite (fun c=>.some ⟨by simp,by simp;omega,nx⟩) (fun c=>?_)
 rw [Z2] at c
 simp only [lenZ] at c
 have hpos:0<r.b.length:=by omega
 have hk0:chk (!ieq k 0)=some ():=X1r (by simp [ieq];omega)
 have hb0:chk (!ieq (lenZ r.b.length) 0)=some ():=X1r (by rw [Bool.not_eq_true',Z2];simp only [lenZ];omega)
 have rem:∀ x:Int,0≤x→0≤wrem x k∧wrem x k<k:=fun x hx=>by
  unfold wrem
  rw [Int.tmod_eq_emod_of_nonneg hx]
  exact ⟨Int.emod_nonneg _ (by omega),Int.emod_lt_of_pos _ (by omega)⟩
 refine Ret.ite (fun c2=>?_) (fun c2=>?_)
 ·rw [Z5] at c2
  simp only [lenZ] at c2
  obtain ⟨x,hx,hm⟩:=Q2d hp0 c2
  obtain ⟨b1,b2⟩:=h.bytes x hm
  rw [hx,hk0]
  simp only [U0]
  rw [X2y (by omega) (by omega)]
  exact .some ⟨(rem x b1).1,(rem x b1).2,nx⟩
 ·rw [hb0]
  simp only [U0]
  have remb:∀ x:Int,0≤x→0≤wrem x (lenZ r.b.length)∧wrem x (lenZ r.b.length)<r.b.length:=fun x hx=>by
   unfold wrem lenZ
   rw [Int.tmod_eq_emod_of_nonneg hx]
   exact ⟨Int.emod_nonneg _ (by omega),Int.emod_lt_of_pos _ (by omega)⟩
  have e7:wmul .i64 r.p 7=r.p * 7:=Z05 (by omega) (by omega)
  have e73:wadd .i64 (r.p * 7) 3=r.p * 7+3:=J9 (by omega) (by omega)
  rw [e7,e73]
  obtain ⟨x,hx,hm⟩:=Q2d (remb r.p hp0).1 (remb r.p hp0).2
  obtain ⟨y,hy,hn⟩:=Q2d (remb (r.p * 7+3) (by omega)).1 (remb (r.p * 7+3) (by omega)).2
  obtain ⟨b1,b2⟩:=h.bytes x hm
  obtain ⟨b3,b4⟩:=h.bytes y hn
  rw [hx,hy,hk0]
  simp only [U0]
  have f1:wcv .i64 x=x:=X2y (by omega) (by omega)
  have f2:wcv .i64 y=y:=X2y (by omega) (by omega)
  have f3:wmul .i64 x 131=x * 131:=Z05 (by omega) (by omega)
  have f4:wmul .i64 y 1117=y * 1117:=Z05 (by omega) (by omega)
  have f5:wmul .i64 r.p 29=r.p * 29:=Z05 (by omega) (by omega)
  have hq:0≤r.p.tdiv (lenZ r.b.length)∧r.p.tdiv (lenZ r.b.length)≤r.p:=by
   rw [Int.tdiv_eq_ediv_of_nonneg hp0]
   exact ⟨Int.ediv_nonneg hp0 (by simp [lenZ]),Int.ediv_le_self _ hp0⟩
  have f6:wquo .i64 r.p (lenZ r.b.length)=r.p.tdiv (lenZ r.b.length):=X3v (by omega) (by omega)
  rw [f1,f2,f3,f4,f5,f6]
  generalize r.p.tdiv (lenZ r.b.length)=q at hq ⊢
  have f7:wmul .i64 q 53=q * 53:=Z05 (by omega) (by omega)
  have f8:wadd .i64 (x * 131) (y * 1117)=x * 131+y * 1117:=J9 (by omega) (by omega)
  have f9:wadd .i64 (x * 131+y * 1117) (r.p * 29)=x * 131+y * 1117+r.p * 29:=J9 (by omega) (by omega)
  rw [f7,f8,f9,J9 (by omega) (by omega)]
  have hz:0≤x * 131+y * 1117+r.p * 29+q * 53∧x * 131+y * 1117+r.p * 29+q * 53<1099511627776:=⟨by omega,by omega⟩
  generalize x * 131+y * 1117+r.p * 29+q * 53=z at hz ⊢
  have hz64:z.tdiv 64=z / 64:=Int.tdiv_eq_ediv_of_nonneg hz.1
  rw [X3v (by rw [hz64];omega) (by rw [hz64];omega),hz64]
  have hxr:=W6i hz.1 hz.2 (show 0≤z / 64 by omega) (show z / 64<1099511627776 by omega)
  exact .some ⟨(rem _ hxr.1).1,(rem _ hxr.1).2,nx⟩
theorem V5t {r:X3}(h:ROk r 1)(l:List Int)(h1:1≤l.length)(h2:l.length≤1000):Ret (X8 r l) (fun a=>a.1∈l∧Nx r a.2 1):=by
 unfold X8
 refine Ret.bind (Z3h h (k:=lenZ l.length) (by simp [lenZ];omega) (by simp [lenZ];omega)) (fun a ha=>?_)
 obtain ⟨x,hx,hm⟩:=Q2d (xs:=l) ha.1 (by simpa [lenZ] using ha.2.1)
 rw [hx]
 exact .some ⟨hm,ha.2.2⟩
theorem V7q (code:List Int)(hb:∀ x∈code,0≤x∧x≤255):Ret (Q3h code) (fun r=>ROk r 1000000):=by
 unfold Q3h
 refine Ret.ctl (R:=fun _=>False) (B:=fun s=>(∀ x∈s,0≤x∧x≤255)∧s.length≤2000) ?_ (fun r hr=>hr.elim) (fun s hs=>?_)
 ·refine Ret.ite (fun h=>?_) (fun h=>?_)
  ·rw [Z5] at h
   simp only [lenZ] at h
   have:Z06 code 2000=some (code.take 2000):=by
    unfold Z06
    rw [if_pos ⟨by omega,by omega⟩]
    rfl
   rw [this]
   exact .some ⟨fun x hx=>hb x (List.mem_of_mem_take hx),by simp;omega⟩
  ·rw [J8] at h
   simp only [lenZ] at h
   exact .some ⟨hb,by omega⟩
 ·exact .some ⟨hs.1,hs.2,by simp,by simp⟩
def Q5f:Nat→Nat
 | 0=>1
 | m+1=>1+3 * Q5f m
theorem X8b:∀ m,1≤Q5f m
 | 0=>Nat.le_refl _
 | m+1=>by simp only [Q5f];omega
theorem V4q {w:List Q4}(hw:WW w):∀ (m n:Nat) (r:X3) (t:Q2) (depth:Int),t∈tys w→depP w t≠0→depth≤m→depP w t≤m→-1000+m≤depth→m≤100→m+1≤n→ROk r (Q5f m)→
  Ret (Y7 n r w (tabP w) t depth) (fun a=>Nx r a.2 (Q5f m)):=by
 intro m
 induction m with
 | zero=>
  intro n r t depth ht hd h1 h2 h3 hm100 hn hr
  have:=(hw.ty t ht).d0
  omega
 | succ m ih=>
  intro n r t depth ht hd h1 h2 h3 hm100 hn hr
  obtain ⟨n,rfl⟩:∃ k,n=k+1:=⟨n-1,by omega⟩
  have hT:=hw.ty t ht
  have hpos:=X8b (m+1)
  unfold Y7
  refine Ret.ite (fun h=>?_) (fun h=>?_)
  ·refine Ret.bind (Z3h (hr.le hpos) (by omega) (by omega)) (fun a ha=>.some (ha.2.2.le' hpos))
  ·rw [Z2] at h
   rw [hT.c1]
   simp only [U0]
   obtain ⟨kb,hkb,hmb⟩:=hT.dm h hd
   have hd0:=hT.d0
   refine Ret.ctl (Z4 (X2 w t) (fun k s=>(∀ x∈s,x∈X2 w t∧0<Q1p w t x∧(Q1p w t x≤depth∨Q1p w t x=depP w t))∧s.length≤k∧(∀ j,j<k→(X2 w t)[j]?=some kb→s≠[])) (fun _=>False)
    (fun s=>(∀ x∈s,x∈X2 w t∧0<Q1p w t x∧(Q1p w t x≤depth∨Q1p w t x=depP w t))∧s≠[]∧s.length≤4) ⟨by simp,by simp,fun j hj=>by omega⟩ (fun k x s hx hI=>?_) (fun s hI=>?_)) (fun r hr=>hr.elim) (fun s hs=>?_)
   ·obtain ⟨i1,i2,i3⟩:=hI
    have hxm:=U1 hx
    have hkl:=(List.getElem?_eq_some_iff.1 hx).1
    have hcl:=hT.cl
    have take:∀ (hp:0<Q1p w t x∧(Q1p w t x≤depth∨Q1p w t x=depP w t)),Ret ((app s [x]).bind fun x310=>some (Ctl.brk (ρ:=Ctl (Q1×X3) (List Int)) x310)) (CtlQ (fun _=>False) (fun s'=>(∀ x∈s',x∈X2 w t∧0<Q1p w t x∧(Q1p w t x≤depth∨Q1p w t x=depP w t))∧s'.length≤k+1∧(∀ j,j<k+1→(X2 w t)[j]?=some kb→s'≠[]))):=fun hp=>by
     rw [V5 (by simp only [Q9,U3,U4];omega)]
     refine .some ⟨fun y hy=>?_,by simp;omega,fun _ _ _=>by simp⟩
     rcases U9.1 hy with hy | hy
     ·exact i1 y hy
     ·simp at hy;subst hy;exact ⟨hxm,hp⟩
    have pass:(¬(0<Q1p w t x∧(Q1p w t x≤depth∨Q1p w t x=depP w t)))→Ret (some (Ctl.brk (ρ:=Ctl (Q1×X3) (List Int)) s)) (CtlQ (fun _=>False) (fun s'=>(∀ x∈s',x∈X2 w t∧0<Q1p w t x∧(Q1p w t x≤depth∨Q1p w t x=depP w t))∧s'.length≤k+1∧(∀ j,j<k+1→(X2 w t)[j]?=some kb→s'≠[]))):=fun hp=>by
     refine .some ⟨i1,by omega,fun j hj hjk=>?_⟩
     by_cases hjk2:j=k
     ·subst hjk2
      rw [hx] at hjk
      cases hjk
      exact absurd ⟨by omega,.inr hmb⟩ hp
     ·exact i3 j (by omega) hjk
    refine Ret.ctl (R:=fun _=>False) (B:=fun (s':List Int)=>(∀ x∈s',x∈X2 w t∧0<Q1p w t x∧(Q1p w t x≤depth∨Q1p w t x=depP w t))∧s'.length≤k+1∧(∀ j,j<k+1→(X2 w t)[j]?=some kb→s'≠[])) ?_ (fun r hr=>hr.elim) (fun s' hs'=>⟨_,rfl,hs'⟩)
    rw [hT.m1 x hxm]
    simp only [U0]
    refine Ret.ite (fun c=>?_) (fun c=>?_)
    ·rw [Z5] at c
     refine Ret.ite (fun c2=>?_) (fun c2=>?_)
     ·rw [W4] at c2
      exact take ⟨c,.inl c2⟩
     ·rw [Q0n] at c2
      rw [hT.d1]
      simp only [U0]
      refine Ret.ite (fun c3=>?_) (fun c3=>?_)
      ·rw [Q8] at c3
       exact take ⟨c,.inr c3⟩
      ·rw [Z2] at c3
       exact pass (by omega)
    ·rw [J8] at c
     exact pass (by omega)
   ·obtain ⟨i1,i2,i3⟩:=hI
    obtain ⟨j,hj⟩:=List.mem_iff_getElem?.1 hkb
    have:=hT.cl
    exact ⟨i1,i3 j ((List.getElem?_eq_some_iff.1 hj).1) hj,by omega⟩
   ·obtain ⟨i1,i2,i3⟩:=hs
    have hsl:1≤s.length:=by cases s with
     | nil=>exact absurd rfl i2
     | cons=>simp
    refine Ret.bind (Z3h (hr.le hpos) (k:=lenZ s.length) (by simp [lenZ];omega) (by simp [lenZ];omega)) (fun a ha=>?_)
    obtain ⟨x,hx,hxm⟩:=Q2d (xs:=s) ha.1 (by simpa [lenZ] using ha.2.1)
    obtain ⟨hxc,hx0,hxd⟩:=i1 x hxm
    rw [hx]
    simp only [U0]
    rw [hT.a1 x hxc]
    simp only [U0]
    have hal:=hT.al x hxc
    have hr1:ROk a.2 (3 * Q5f m):=ROk.nx (c:=1) hr ha.2.2
    refine Ret.ctl (Z4 (W0 w t x) (fun k s=>Nx a.2 s.1 (k * Q5f m)∧s.2.length≤k) (fun _=>False) (fun s=>Nx a.2 s.1 (3 * Q5f m)) ⟨by simpa using Nx.refl a.2,by simp⟩ (fun k y s hy hI=>?_) (fun s hI=>?_)) (fun r hr=>hr.elim) (fun s hs=>?_)
    ·obtain ⟨j1,j2⟩:=hI
     have hym:=U1 hy
     have hkl:=(List.getElem?_eq_some_iff.1 hy).1
     obtain ⟨d1,d2⟩:=hT.ma x hxc (by omega) y hym
     have hws:wsub .i64 depth 1=depth-1:=Q3v (by omega) (by omega)
     rw [hws]
     have hr2:ROk s.1 (Q5f m):=by
      have:k * Q5f m+Q5f m≤3 * Q5f m:=by
       rw [←Nat.succ_mul]
       exact Nat.mul_le_mul_right _ (by omega)
      exact ROk.nx (c:=k * Q5f m) (hr1.le this) j1
     refine Ret.bind (ih n s.1 y (depth-1) (hT.at_ x hxc y hym) (by omega) (by omega) (by omega) (by omega) (by omega) (by omega) hr2) (fun b hb=>?_)
     rw [V5 (by simp only [Q9,U3,U4];omega)]
     refine .some ⟨?_,by simp;omega⟩
     have:=j1.trans hb
     rw [←Nat.succ_mul] at this
     exact this
    ·obtain ⟨j1,j2⟩:=hI
     exact j1.le' (Nat.mul_le_mul_right _ hal)
    ·exact .some (ha.2.2.trans hs)
def Z1h:Nat→Q1→Prop
 | 0,_=>False
 | d+1,v=>v.kids.length≤3∧∀ x∈v.kids,Z1h d x
theorem Z7d {w:List Q4}(hw:WW w):∀ (d:Nat) (t:Q2) (v:Q1),t∈tys w→Q2f w d t v→Z1h d v:=by
 intro d
 induction d with
 | zero=>intro t v _ h;exact h
 | succ d ih=>
  intro t v ht h
  have hT:=hw.ty t ht
  simp only [Q2f] at h
  split at h
  ·obtain ⟨_,_,_,h4⟩:=h
   exact ⟨by rw [h4];simp,fun x hx=>by rw [h4] at hx;cases hx⟩
  ·obtain ⟨_,h2,h3,h4⟩:=h
   have hal:=hT.al _ h2
   refine ⟨by omega,fun x hx=>?_⟩
   obtain ⟨j,hj⟩:=List.mem_iff_getElem?.1 hx
   have hjl:=(List.getElem?_eq_some_iff.1 hj).1
   have ha:(W0 w t v.ctor)[j]?=some ((W0 w t v.ctor)[j]'(by omega)):=by simp
   exact ih _ x (hT.at_ _ h2 _ (U1 ha)) (h4 j _ x ha hj)
theorem Q1.ext' {a b:Q1}(h1:a.ctor=b.ctor)(h2:a.n=b.n)(h3:a.kids=b.kids):a=b:=by
 cases a;cases b;simp_all
theorem X0e:∀ (d n:Nat) (v:Q1),Z1h d v→d≤n→Q33 n v=some v:=by
 intro d
 induction d with
 | zero=>intro n v h;exact h.elim
 | succ d ih=>
  intro n v h hn
  obtain ⟨n,rfl⟩:∃ k,n=k+1:=⟨n-1,by omega⟩
  obtain ⟨h1,h2⟩:=h
  have hr:Ret (Q33 (n+1) v) (fun r=>r=v):=by
   unfold Q33
   refine Ret.ctl (Z4 v.kids (fun k s=>s=v.kids.take k) (fun _=>False) (fun s=>s=v.kids) (by simp) (fun k q s hq hI=>?_) (fun s hI=>?_)) (fun r hr=>hr.elim) (fun s hs=>.some (Q1.ext' rfl rfl hs))
   ·rw [ih n q (h2 q (U1 hq)) (by omega)]
    simp only [U0]
    rw [V5 (by simp only [Q9,U3,U4];rw [hI,U6];omega)]
    exact .some (by rw [hI,List.take_add_one,hq];rfl)
   ·rw [hI,List.take_length]
  obtain ⟨r,e,rfl⟩:=hr
  exact e
theorem W10 (a:List Q1)(f:Q1→Q1→Option Bool)(hf:∀ x∈a,f x x=some true):Q0p a a f=some true:=by
 have hr:Ret (Q0p a a f) (fun r=>r=true):=by
  unfold Q0p
  rw [if_neg (by simp [ieq])]
  refine Ret.ctl (Z4 a (fun _ _=>True) (fun _=>False) (fun _=>True) trivial (fun k x s hx _=>?_) (fun _ _=>trivial)) (fun r hr=>hr.elim) (fun s _=>.some rfl)
  rw [Q00 hx]
  simp only [U0]
  rw [hf x (U1 hx)]
  exact .some trivial
 obtain ⟨_,e,rfl⟩:=hr
 exact e
theorem Z18:∀ (d n:Nat) (v:Q1),Z1h d v→d≤n→V1 n v v=some true:=by
 intro d
 induction d with
 | zero=>intro n v h;exact h.elim
 | succ d ih=>
  intro n v h hn
  obtain ⟨n,rfl⟩:∃ k,n=k+1:=⟨n-1,by omega⟩
  unfold V1
  rw [if_pos (by simp [ieq]),if_pos (by simp [ieq]),W10 _ _ fun x hx=>ih n x (h.2 x hx) (by omega)]
  rfl
def DB (l:List X1):Prop:=∀ b∈l,Z1h 10 b.value
theorem Z77 {α:Type}{xs:List α}{i:Int}{x:α}(h0:0≤i)(h:i<xs.length):setI xs i x=some (xs.set i.toNat x):=by
 unfold setI
 rw [if_pos ⟨h0,by omega⟩]
theorem Y3e:(List.range 13).all (fun k=>(Q8i (wcv .u64 (lenZ k))).isSome)=true:=by kernel_rfl
theorem X3e:∀ (d:Nat) (p:Q0) (e:Nat) (v:Q1) (l:List X1),Z1h e v→X7 d p v=some l→∀ b∈l,∃ e',e'≤e∧Z1h e' b.value:=by
 intro d
 induction d with
 | zero=>intro p e v l _ h;cases h
 | succ d ih=>
  intro p e v l hv hm b hb
  rw [X7] at hm
  split at hm
  ·cases hm;cases hb
  split at hm
  ·cases hm
   simp only [U8,List.not_mem_nil,or_false] at hb
   subst hb
   exact ⟨e,Nat.le_refl _,hv⟩
  split at hm
  ·split at hm
   ·cases hm;cases hb
   ·cases hm
  split at hm
  ·split at hm
   ·split at hm
    ·rename_i l' hl'
     cases hm
     exact ih _ e v _ hv hl' b hb
    ·exact ih _ e v _ hv hm b hb
   ·cases hm
  split at hm
  ·split at hm
   ·rename_i a _
    cases ha:X7 d a v with
    | none=>rw [ha] at hm;cases hm
    | some l'=>
     rw [ha] at hm
     cases hm
     rcases U8.1 hb with h | h
     ·subst h
      exact ⟨e,Nat.le_refl _,hv⟩
     ·exact ih _ e v _ hv ha b h
   ·cases hm
  split at hm
  ·cases e with
   | zero=>exact hv.elim
   | succ e=>
    have hk:=hv.2
    have gen:∀ (ps:List Q0) (vs:List Q1) (l:List X1),(∀ x∈vs,Z1h e x)→Q2x (X7 d) ps vs=some l→∀ b∈l,∃ e',e'≤e∧Z1h e' b.value:=by
     intro ps
     induction ps with
     | nil=>intro vs l _ h b hb;simp only [Q2x] at h;cases h;cases hb
     | cons q ps ihp=>
      intro vs l hvs h b hb
      cases vs with
      | nil=>cases h
      | cons u vs=>
       simp only [Q2x] at h
       cases hq:X7 d q u with
       | none=>rw [hq] at h;cases h
       | some l1=>
        rw [hq] at h
        simp only at h
        cases hps:Q2x (X7 d) ps vs with
        | none=>rw [hps] at h;cases h
        | some l2=>
         rw [hps] at h
         cases h
         rcases U9.1 hb with hb | hb
         ·exact ih q e u l1 (hvs u (by simp)) hq b hb
         ·exact ihp vs l2 (fun x hx=>hvs x (by simp [hx])) hps b hb
    obtain ⟨e',h1,h2⟩:=gen _ _ _ hk hm b hb
    exact ⟨e',by omega,h2⟩
  ·cases hm
theorem Z9h:∀ (d e:Nat) (v:Q1),d≤e→Z1h d v→Z1h e v:=by
 intro d
 induction d with
 | zero=>intro e v _ h;exact h.elim
 | succ d ih=>
  intro e v he h
  obtain ⟨e,rfl⟩:∃ k,e=k+1:=⟨e-1,by omega⟩
  exact ⟨h.1,fun x hx=>ih e x (by omega) (h.2 x hx)⟩
theorem X9n:∀ (m:Nat) (l:List Int),l.Nodup→(∀ x∈l,0≤x∧x<m)→l.length≤m:=by
 intro m
 induction m with
 | zero=>
  intro l _ h
  cases l with
  | nil=>simp
  | cons x l=>have:=h x (by simp);omega
 | succ m ih=>
  intro l hn h
  have h1:=ih (l.erase (m:Int)) (hn.erase _) (fun x hx=>by
   have hx2:=(hn.mem_erase_iff).1 hx
   have:=h x hx2.2
   have:=hx2.1
   omega)
  have h2:=List.length_erase (a:=(m:Int)) (l:=l)
  split at h2<;>omega
theorem V24 {w:List Q4}{t:Q2}{p:Q0}{d:Nat}(g:Q0r w d t p=true)(l:linD w d t p=true):(Q0x w d t p).length≤6:=by
 have h1:=Q1l d t p g l
 simp only [Q0e,decide_eq_true_eq] at h1
 have:=X9n 6 _ h1 (fun x hx=>by
  obtain ⟨y,hy,rfl⟩:=U11.1 hx
  have:=Z72 d t p g y hy
  omega)
 simpa using this
def Q90 (l:List X1):List X1:=(List.range 6).flatMap fun (v:Nat)=>l.filter fun b=>decide (b.var=(v:Int))
theorem X9d:∀ (a b:List X1),a.Pairwise (fun x y=>x.var<y.var)→b.Pairwise (fun x y=>x.var<y.var)→a.Perm b→a=b:=by
 intro a
 induction a with
 | nil=>intro b _ _ h;exact h.nil_eq
 | cons x a ih=>
  intro b ha hb h
  cases b with
  | nil=>exact absurd h.symm.nil_eq (by simp)
  | cons y b=>
   rw [List.pairwise_cons] at ha hb
   have hx:x∈y::b:=h.mem_iff.1 (by simp)
   have hy:y∈x::a:=h.mem_iff.2 (by simp)
   have hxy:x=y:=by
    rcases U8.1 hx with rfl | hx
    ·rfl
    ·rcases U8.1 hy with h1 | hy
     ·exact h1.symm
     ·have h1:=hb.1 x hx
      have h2:=ha.1 y hy
      omega
   subst hxy
   rw [ih b ha.2 hb.2 ((List.perm_cons x).1 h)]
theorem X35 {l:List X1}(h:l.Pairwise (fun x y=>x.var≤y.var))(hn:(l.map (·.var)).Nodup):l.Pairwise (fun x y=>x.var<y.var):=by
 rw [List.Nodup,List.pairwise_map] at hn
 refine (h.and hn).imp fun ⟨h1,h2⟩=>?_
 omega
theorem X6j {l:List X1}(hn:(l.map (·.var)).Nodup):(Q90 l).Pairwise (fun x y=>x.var<y.var):=by
 unfold Q90
 rw [List.pairwise_flatMap]
 refine ⟨fun v _=>?_,?_⟩
 ·have h1:(l.filter fun b=>decide (b.var=(v:Int))).Pairwise (fun x y=>x.var≤y.var):=by
   rw [List.pairwise_filter]
   refine List.pairwise_of_forall fun x y hx hy=>?_
   simp only [decide_eq_true_eq] at hx hy
   omega
  exact X35 h1 ((List.filter_sublist.map _).nodup hn)
 ·refine List.Pairwise.imp ?_ (List.pairwise_lt_range (n:=6))
  intro a b hab x hx y hy
  have h1:=(List.mem_filter.1 hx).2
  have h2:=(List.mem_filter.1 hy).2
  simp only [decide_eq_true_eq] at h1 h2
  omega
theorem Z8f {α β:Type}(f g h:α→List β)(e:∀ v,f v=g v++h v):∀ L:List α,(L.flatMap f).Perm (L.flatMap g++L.flatMap h)
 | []=>by simp
 | v::L=>by
  rw [List.flatMap_cons,List.flatMap_cons,List.flatMap_cons,e v,List.append_assoc,List.append_assoc]
  refine List.Perm.append_left _ ?_
  refine ((Z8f f g h e L).append_left (h v)).trans ?_
  rw [←List.append_assoc,←List.append_assoc]
  exact List.Perm.append_right _ List.perm_append_comm
theorem Q53 {l:List X1}(hv:∀ b∈l,0≤b.var∧b.var≤5):(Q90 l).Perm l:=by
 induction l with
 | nil=>simp [Q90]
 | cons x l ih=>
  have h1:=ih fun b hb=>hv b (by simp [hb])
  obtain ⟨x0,x5⟩:=hv x (by simp)
  have h2:=Z8f (fun (v:Nat)=>(x::l).filter fun b=>decide (b.var=(v:Int))) (fun (v:Nat)=>if x.var=(v:Int) then [x] else []) (fun (v:Nat)=>l.filter fun b=>decide (b.var=(v:Int))) (fun v=>by
   by_cases hc:x.var=(v:Int)
   ·rw [List.filter_cons,if_pos (by simp [hc]),if_pos hc];rfl
   ·rw [List.filter_cons,if_neg (by simp [hc]),if_neg hc];rfl) (List.range 6)
  have hx:((List.range 6).flatMap fun (v:Nat)=>if x.var=(v:Int) then [x] else [])=[x]:=by
   have h6:x.var=0∨x.var=1∨x.var=2∨x.var=3∨x.var=4∨x.var=5:=by omega
   rcases h6 with h | h | h | h | h | h<;>simp [h,List.range,List.range.loop]
  rw [hx] at h2
  exact h2.trans (List.Perm.cons _ h1)
theorem W15 (a b:Int):Q5b a b=some (if a<b then -1 else if b<a then 1 else 0):=by
 unfold Q5b Q6s
 have e1:(!ieq a a)=false:=by simp [ieq]
 have e2:(!ieq b b)=false:=by simp [ieq]
 simp only [U0,e1,e2,U2,if_false]
 by_cases h:a<b
 ·have e:ilt a b=true:=by rw [Z5];exact h
  simp only [e,if_true,if_pos h]
 ·have e:ilt a b=false:=by rw [J8];omega
  simp only [e,U2,if_false,if_neg h]
  by_cases h2:b<a
  ·have e:ilt b a=true:=by rw [Z5];exact h2
   simp only [e,if_true,if_pos h2]
  ·have e:ilt b a=false:=by rw [J8];omega
   simp only [e,U2,if_false,if_neg h2]
theorem X9p (a b:X1):Q24 a b=some (if a.var<b.var then -1 else if b.var<a.var then 1 else 0):=by
 unfold Q24
 rw [W15]
 rfl
def OrdV (l:List X1)(i j:Nat):Prop:=∀ a b x y,a<b→b≤i→b≠j→l[a]?=some x→l[b]?=some y→x.var≤y.var
theorem W3z {n:Nat}(hn:30≤n)(l:List X1)(hl:l.length≤12) :
  Ret (J2 n l 0 (lenZ l.length) (fun a b=>Q24 a b)) (fun r=>r.Perm l∧r.Pairwise (fun x y=>x.var≤y.var)):=by
 unfold J2
 have z1:wadd .i64 0 1=1:=rfl
 rw [z1]
 refine Ret.ctl (Q7o (fun s:List X1×Int=>s.1.Perm l∧1≤s.2∧s.2≤13∧∀ a b x y,a<b→b<s.2.toNat→s.1[a]?=some x→s.1[b]?=some y→x.var≤y.var) (fun s=>(14-s.2).toNat) (fun _=>False) (fun s=>s.1.Perm l∧s.1.Pairwise (fun x y=>x.var≤y.var)) ⟨.rfl,by simp,by simp,fun a b x y h1 h2=>by simp at h2;omega⟩ (fun s hI=>?_) n (by simp;omega)) (fun r hr=>hr.elim) (fun s hs=>.some hs)
 obtain ⟨i1,i3,i4,i5⟩:=hI
 refine Ret.ite (fun hlt=>?_) (fun hge=>?_)
 ·rw [Z5] at hlt
  simp only [lenZ] at hlt
  refine Ret.ctl (Q7o (fun u:List X1×Int=>u.1.Perm l∧0≤u.2∧u.2≤s.2∧OrdV u.1 s.2.toNat u.2.toNat) (fun u=>u.2.toNat) (fun _=>False) (fun u=>u.1.Perm l∧∀ a b x y,a<b→b≤s.2.toNat→u.1[a]?=some x→u.1[b]?=some y→x.var≤y.var) ⟨i1,by omega,Int.le_refl _,fun a b x y h1 h2 h3=>i5 a b x y h1 (by omega)⟩ (fun u hJ=>?_) n (by omega)) (fun r hr=>hr.elim) (fun u hu=>?_)
  ·obtain ⟨j1,j3,j4,j5⟩:=hJ
   have hlen:=j1.length_eq
   refine Ret.ite (fun hp=>?_) (fun hp=>?_)
   ·rw [Z5] at hp
    have hs:wsub .i64 u.2 1=u.2-1:=Q3v (by omega) (by omega)
    rw [hs]
    have ex:idx u.1 u.2=some (u.1[u.2.toNat]'(by omega)):=Q7b j3 (U10 (by omega))
    have ey:idx u.1 (u.2-1)=some (u.1[(u.2-1).toNat]'(by omega)):=Q7b (by omega) (U10 (by omega))
    have gx:u.1[u.2.toNat]?=some (u.1[u.2.toNat]'(by omega)):=U10 (by omega)
    have gy:u.1[u.2.toNat-1]?=some (u.1[(u.2-1).toNat]'(by omega)):=by
     rw [show u.2.toNat-1=(u.2-1).toNat by omega]
     exact U10 (by omega)
    have hperm:=(List.set_set_perm (as:=u.1) (i:=u.2.toNat) (j:=(u.2-1).toNat) (by omega) (by omega)).trans j1
    generalize u.1[u.2.toNat]'(by omega)=x at *
    generalize u.1[(u.2-1).toNat]'(by omega)=y at *
    rw [ex,ey]
    simp only [U0]
    rw [X9p]
    simp only [U0]
    by_cases hxy:x.var<y.var
    ·rw [if_pos hxy]
     have e:ilt (-1) 0=true:=rfl
     simp only [e,if_true]
     rw [Z77 j3 (by omega)]
     simp only [U0]
     obtain ⟨z,ez,_⟩:=Q2d (xs:=u.1.set u.2.toNat y) (i:=u.2-1) (by omega) (by simp;omega)
     rw [ez]
     simp only [U0]
     rw [Z77 (by omega) (by simp;omega)]
     refine .some ⟨⟨hperm,by simp;omega,by simp;omega,?_⟩,by simp;omega⟩
     simp only
     have hget:∀ (m:Nat) (v:X1),((u.1.set u.2.toNat y).set (u.2-1).toNat x)[m]?=some v→(m=u.2.toNat-1∧v=x)∨(m=u.2.toNat∧v=y)∨(m≠u.2.toNat-1∧m≠u.2.toNat∧u.1[m]?=some v):=fun m v hv=>by
      rw [List.getElem?_set] at hv
      split at hv
      ·split at hv
       ·cases hv;exact .inl ⟨by omega,rfl⟩
       ·cases hv
      ·rw [List.getElem?_set] at hv
       split at hv
       ·split at hv
        ·cases hv;exact .inr (.inl ⟨by omega,rfl⟩)
        ·cases hv
       ·exact .inr (.inr ⟨by omega,by omega,hv⟩)
     intro a b p q hab hbi hbj hp' hq'
     rcases hget a p hp' with ⟨ha,rfl⟩ | ⟨ha,rfl⟩ | ⟨ha,ha',hpa⟩
     ·rcases hget b q hq' with ⟨hb,rfl⟩ | ⟨hb,rfl⟩ | ⟨hb,hb',hqb⟩
      ·omega
      ·omega
      ·exact j5 u.2.toNat b _ _ (by omega) hbi hb' gx hqb
     ·rcases hget b q hq' with ⟨hb,rfl⟩ | ⟨hb,rfl⟩ | ⟨hb,hb',hqb⟩
      ·omega
      ·omega
      ·exact j5 (u.2.toNat-1) b _ _ (by omega) hbi hb' gy hqb
     ·rcases hget b q hq' with ⟨hb,rfl⟩ | ⟨hb,rfl⟩ | ⟨hb,hb',hqb⟩
      ·exact absurd hb (by omega)
      ·exact j5 a (u.2.toNat-1) _ _ (by omega) (by omega) (by omega) hpa gy
      ·exact j5 a b _ _ hab hbi hb' hpa hqb
    ·rw [if_neg hxy]
     have e:ilt (if y.var<x.var then 1 else 0) 0=false:=by split<;>rfl
     simp only [e,U2,if_false]
     refine .some ⟨j1,fun a b p q hab hbi hp' hq'=>?_⟩
     by_cases hbj:b=u.2.toNat
     ·subst hbj
      rw [gx] at hq'
      cases hq'
      by_cases haj:a=u.2.toNat-1
      ·subst haj
       rw [gy] at hp'
       cases hp'
       omega
      ·have:=j5 a (u.2.toNat-1) p y (by omega) (by omega) (by omega) hp' gy
       omega
     ·exact j5 a b p q hab hbi hbj hp' hq'
   ·rw [J8] at hp
    refine .some ⟨j1,fun a b p q hab hbi hp' hq'=>j5 a b p q hab hbi (by omega) hp' hq'⟩
  ·obtain ⟨u1,u2⟩:=hu
   have hw:wadd .i64 s.2 1=s.2+1:=J9 (by omega) (by omega)
   refine .some ⟨⟨u1,by simp only [hw];omega,by simp only [hw];omega,fun a b x y h1 h2=>u2 a b x y h1 (by simp only [hw] at h2;omega)⟩,by simp only [hw];omega⟩
 ·rw [J8] at hge
  simp only [lenZ] at hge
  refine .some ⟨i1,?_⟩
  rw [List.pairwise_iff_getElem]
  intro a b ha hb hab
  have hlen:=i1.length_eq
  have hb':b<s.1.length:=hb
  exact i5 a b _ _ hab (by omega) (U10 ha) (U10 hb)
theorem V2f {n:Nat}(hn:40≤n){l:List X1}(hl:l.length≤12)(hd:(l.map (·.var)).Nodup)(hv:∀ b∈l,0≤b.var∧b.var≤5) :
  Q16 n l (fun a b=>Q24 a b)=some (Q90 l):=by
 suffices hs:Ret (Q16 n l (fun a b=>Q24 a b)) (fun r=>r=Q90 l) by
  obtain ⟨a,e,rfl⟩:=hs
  exact e
 unfold Q16
 obtain ⟨b,hb⟩:=Option.isSome_iff_exists.1 (List.all_eq_true.1 Y3e l.length (List.mem_range.2 (by omega)))
 rw [hb]
 simp only [U0]
 have fin:∀ r:List X1,r.Perm l→r.Pairwise (fun x y=>x.var≤y.var)→r=Q90 l:=fun r h1 h2=>
  X9d r (Q90 l) (X35 h2 ((h1.map _).nodup_iff.2 hd)) (X6j hd) (h1.trans (Q53 hv).symm)
 obtain ⟨n,rfl⟩:∃ k,n=k+1:=⟨n-1,by omega⟩
 refine Ret.bind (P:=fun r=>r.Perm l∧r.Pairwise (fun x y=>x.var≤y.var)) ?_ (fun r hr=>?_)
 ·unfold Q1n
  refine Ret.ctl (Q7o (fun _=>True) (fun _=>0) (fun r:List X1=>r.Perm l∧r.Pairwise (fun x y=>x.var≤y.var)) (fun _=>False) trivial (fun s _=>?_) n (by omega)) (fun r hr=>.some hr) (fun s hs=>hs.elim)
  have h0:wsub .i64 (lenZ l.length) 0=lenZ l.length:=by rw [Q3v]<;>simp only [lenZ]<;>omega
  rw [if_pos (by rw [W4,h0];simp only [lenZ];omega)]
  refine Ret.bind (W3z (by omega) l hl) (fun r hr=>?_)
  rw [X1r (by simp [hr.1.length_eq])]
  exact .some hr
 ·rw [X1r (by simp [hr.1.length_eq])]
  exact .some (fin r hr.1 hr.2)
theorem W1v:∀ {a b:List Int},a.Nodup→(∀ x∈a,x∈b)→a.length=b.length→a.Perm b
 | [],b,_,_,h=>by have:b=[]:=List.eq_nil_of_length_eq_zero (by simpa using h.symm);rw [this]
 | x::a,b,hn,hs,h=>by
  have hx:=hs x (by simp)
  have hn':=List.nodup_cons.1 hn
  have hl:=List.length_erase_of_mem hx
  refine (List.Perm.cons x (W1v hn'.2 (fun y hy=>?_) (by simp at h;omega))).trans (List.perm_cons_erase hx).symm
  have hne:y≠x:=fun e=>hn'.1 (e▸hy)
  exact (List.mem_erase_of_ne hne).2 (hs y (by simp [hy]))
theorem Z5a {a b:List Q5}(ha:Q0e a=true)(h:Z14 a b=true):(a.map (·.var)).Perm (b.map (·.var)):=by
 simp only [Z14,Bool.and_eq_true,decide_eq_true_eq,List.all_eq_true] at h
 have hn:(a.map (·.var)).Nodup:=by simpa [Q0e] using ha
 refine W1v hn (fun x hx=>?_) (by simp [h.1])
 obtain ⟨v,hv,rfl⟩:=U11.1 hx
 exact U11.2 ⟨v,h.2 v hv,rfl⟩
theorem Z4i {w:List Q4} : ∀ (d:Nat) (t:Q2) (p:Q0),Q0r w d t p=true→linD w d t p=true→∀ v l,X7 d p v=some l→(l.map (·.var)).Perm ((Q0x w d t p).map (·.var)):=by
 intro d
 induction d with
 | zero=>intro t p h;cases h
 | succ d ih=>
  intro t p hg hlin v l hm
  obtain ⟨ho,hl⟩:=Q3c (Q2e hg)
  simp only [linD,Bool.and_eq_true,List.all_eq_true] at hlin
  rw [Q0x]
  rw [X7] at hm
  have hnil:p.op≠4→p.op≠5→p.op≠6→V4 w t p=[]:=fun h4 h5 h6=>by simp [V4,h4,h5,h6]
  by_cases h1:p.op=1
  ·rw [if_pos h1] at hm;cases hm
   simp [ownV,h1,hnil]
  rw [if_neg h1] at hm
  by_cases h2:p.op=2
  ·rw [if_pos h2] at hm;cases hm
   simp [ownV,h2,hnil]
  rw [if_neg h2] at hm
  by_cases h3:p.op=3
  ·rw [if_pos h3] at hm
   split at hm
   ·cases hm
    simp [ownV,h3,hnil]
   ·cases hm
  rw [if_neg h3] at hm
  by_cases h5:p.op=5
  ·rw [if_pos h5] at hm
   obtain ⟨a,b,hkids,hkt⟩:=kid0 h5 hl
   have ga:=W9 hg (k:=0) (by rw [hkt];rfl) (by rw [hkids];rfl)
   have gb:=W9 hg (k:=1) (by rw [hkt];rfl) (by rw [hkids];rfl)
   have g0:=hlin.1 (t,a) (by rw [hkids,hkt];simp)
   have g1:=hlin.1 (t,b) (by rw [hkids,hkt];simp)
   have hal:=hlin.2
   rw [if_pos h5] at hal
   have k0:kv w d t p 0=Q0x w d t a:=by simp [kv,hkids,hkt]
   have k1:kv w d t p 1=Q0x w d t b:=by simp [kv,hkids,hkt]
   rw [k0,k1] at hal
   have hv:ownV t p=[]:=by simp [ownV,h5]
   rw [hv,hkids,hkt,if_pos h5]
   simp only [List.zip_cons_cons,List.zip_nil_right,List.take_succ_cons,List.take_zero,List.flatMap_cons,List.flatMap_nil,List.append_nil,List.nil_append]
   rw [hkids] at hm
   simp only at hm
   split at hm
   ·rename_i l' hl'
    cases hm
    exact ih t a ga g0 v _ hl'
   ·exact (ih t b gb g1 v _ hm).trans (Z5a (Q1l d t a ga g0) hal).symm
  rw [if_neg h5] at hm
  rw [if_neg h5,List.take_of_length_le (by rw [List.length_zip];omega)]
  by_cases h6:p.op=6
  ·rw [if_pos h6] at hm
   obtain ⟨a,hkids,hk2⟩:=Z2e h6 hl
   have ga:=W9 hg (k:=0) (by rw [hk2];rfl) (by rw [hkids];rfl)
   have g0:=hlin.1 (t,a) (by rw [hkids,hk2];simp)
   rw [hkids] at hm
   simp only at hm
   cases ha:X7 d a v with
   | none=>rw [ha] at hm;cases hm
   | some l'=>
    rw [ha] at hm
    cases hm
    have:=ih t a ga g0 v l' ha
    rw [hkids,hk2]
    simpa [ownV,h6] using this
  rw [if_neg h6] at hm
  have hv:ownV t p=[]:=by simp [ownV,h2,h6]
  rw [hv,List.nil_append]
  split at hm
  ·have gen:∀ (ts:List Q2) (ps:List Q0) (vs:List Q1) (l:List X1),ts.length=ps.length→(∀ x∈ts.zip ps,∀ v l,X7 d x.2 v=some l→(l.map (·.var)).Perm ((Q0x w d x.1 x.2).map (·.var)))→Q2x (X7 d) ps vs=some l→(l.map (·.var)).Perm (((ts.zip ps).flatMap fun x=>Q0x w d x.1 x.2).map (·.var)):=by
    intro ts ps
    induction ps generalizing ts with
    | nil=>intro vs l _ _ h;simp only [Q2x] at h;cases h;simp
    | cons q ps ihp=>
     intro vs l hl hx h
     cases ts with
     | nil=>simp at hl
     | cons a ts=>
      cases vs with
      | nil=>cases h
      | cons u vs=>
       simp only [Q2x] at h
       cases hq:X7 d q u with
       | none=>rw [hq] at h;cases h
       | some l1=>
        rw [hq] at h
        simp only at h
        cases hps:Q2x (X7 d) ps vs with
        | none=>rw [hps] at h;cases h
        | some l2=>
         rw [hps] at h
         cases h
         have e1:=hx (a,q) (by simp) u l1 hq
         have e2:=ihp ts vs l2 (by simpa using hl) (fun x hxx=>hx x (by simp [hxx])) hps
         simp only [List.zip_cons_cons,List.flatMap_cons,List.map_append]
         exact e1.append e2
   refine gen _ _ _ _ hl.symm (fun x hx v l h=>?_) hm
   obtain ⟨j,hj⟩:=List.mem_iff_getElem?.1 hx
   obtain ⟨e1,e2⟩:=List.getElem?_zip_eq_some.1 hj
   exact ih _ _ (W9 hg e1 e2) (hlin.1 x hx) v l h
  ·cases hm
structure V0r (l:List X1):Prop where
 nd:(l.map (·.var)).Nodup
 rg:∀ b∈l,0≤b.var∧b.var≤5
 ln:l.length≤6
theorem Q6h {w:List Q4}{d:Nat}{t:Q2}{p:Q0}(g:Q0r w d t p=true)(l:linD w d t p=true){v:Q1}{r:List X1}(h:X7 d p v=some r):V0r r:=by
 have hp:=Z4i d t p g l v r h
 have hd:=Q1l d t p g l
 simp only [Q0e,decide_eq_true_eq] at hd
 refine ⟨hp.nodup_iff.2 hd,fun b hb=>?_,?_⟩
 ·obtain ⟨y,hy,e⟩:=U11.1 (hp.mem_iff.1 (List.mem_map_of_mem hb))
  have:=Z72 d t p g y hy
  omega
 ·have h1:=hp.length_eq
  have h2:=V24 g l
  simp only [U7] at h1
  omega
def Q64 (g:Q4u)(l:List X1):Bool:=decide (g.op=0)||match l.find? fun b=>decide (b.var=g.var) with
 | none=>false
 | some b=>decide (b.value.ctor = -1)&&((decide (g.op=1)&&decide (b.value.n<g.n))||(decide (g.op=2)&&decide (b.value.n=g.n)))
theorem W9j {a b:List X1}(hn:(a.map (·.var)).Nodup)(h:a.Perm b)(v:Int):a.find? (fun x=>decide (x.var=v))=b.find? (fun x=>decide (x.var=v)):=by
 induction h with
 | nil=>rfl
 | cons x h ih=>
  rw [List.find?_cons,List.find?_cons]
  split
  ·rfl
  ·exact ih (List.nodup_cons.1 (by simpa using hn)).2
 | swap x y l=>
  simp only [List.map_cons,List.nodup_cons,U8,not_or] at hn
  simp only [List.find?_cons]
  by_cases h1:x.var=v
  ·have h2:¬y.var=v:=fun e=>hn.1.1 (by omega)
   simp [h1,h2]
  ·simp [h1]
 | trans h1 h2 ih1 ih2=>rw [ih1 hn,ih2 ((h1.map _).nodup_iff.1 hn)]
theorem W0a {a b:List X1}(hn:(a.map (·.var)).Nodup)(h:a.Perm b)(g:Q4u):Q64 g a=Q64 g b:=by
 unfold Q64
 rw [W9j hn h]
theorem W09 {l:List X1}(h:V0r l)(g:Q4u):Q64 g (Q90 l)=Q64 g l:=(W0a h.nd (Q53 h.rg).symm g).symm
def runD (v:Q1):Nat→List Z6→Option (Nat×List X1)
 | _,[]=>none
 | k,c::cs=>match X7 10 c.pat v with
  | none=>runD v (k+1) cs
  | some l=>if Q64 c.guard l=true then some (k,Q90 l) else runD v (k+1) cs
def runR:Option (Nat×List X1)→Int×List X1
 | none=>(-1,[])
 | some x=>((x.1:Int),x.2)
theorem V72 {l:List X1}(hn:(l.map (·.var)).Nodup){x y:X1}(hx:x∈l)(hy:y∈l)(h:x.var=y.var):x=y:=by
 induction l with
 | nil=>cases hx
 | cons a l ih=>
  simp only [List.map_cons,List.nodup_cons,U11,not_exists,not_and] at hn
  rcases U8.1 hx with h1 | h1
  ·rcases U8.1 hy with h2 | h2
   ·rw [h1,h2]
   ·exact absurd (by rw [←h1];exact h.symm) (hn.1 y h2)
  ·rcases U8.1 hy with h2 | h2
   ·exact absurd (by rw [←h2];exact h) (hn.1 x h1)
   ·exact ih hn.2 h1 h2
theorem Z9g {l:List X1}(hn:(l.map (·.var)).Nodup){x:X1}{v:Int}(hx:x∈l)(h:x.var=v):l.find? (fun b=>decide (b.var=v))=some x:=by
 cases hf:l.find? (fun b=>decide (b.var=v)) with
 | none=>
  have:=List.find?_eq_none.1 hf x hx
  simp [h] at this
 | some y=>
  have h1:=List.find?_some hf
  have h2:=List.mem_of_find?_eq_some hf
  simp only [decide_eq_true_eq] at h1
  rw [V72 hn h2 hx (by omega)]
theorem X7a (g:Q4u){l:List X1}(hn:(l.map (·.var)).Nodup):Q3s g l=some (Q64 g l):=by
 suffices hs:Ret (Q3s g l) (fun r=>r=Q64 g l) by
  obtain ⟨a,e,rfl⟩:=hs
  exact e
 unfold Q3s
 refine Ret.ite (fun h0=>.some ?_) (fun h0=>?_)
 ·rw [Q8] at h0
  simp [Q64,h0]
 rw [Z2] at h0
 refine Ret.bind (Q6b l (fun a0=>Q5s a0 g) (fun b=>ieq b.var g.var) (fun _ _=>rfl)) (fun i hi=>?_)
 rcases hi with ⟨k,x,rfl,hx,hxv⟩ | ⟨rfl,hall⟩
 ·rw [if_neg (by rw [Z5];omega),Q00 hx]
  simp only [U0]
  rw [Q8] at hxv
  have hG:Q64 g l=(ieq x.value.ctor (-1)&&((ieq g.op 1&&ilt x.value.n g.n)||(ieq g.op 2&&ieq x.value.n g.n))):=by
   unfold Q64
   rw [Z9g hn (U1 hx) hxv,decide_eq_false h0]
   rfl
  rw [hG]
  generalize ieq x.value.ctor (-1)=b1
  generalize ieq g.op 1=b2
  generalize ilt x.value.n g.n=b3
  generalize ieq g.op 2=b4
  generalize ieq x.value.n g.n=b5
  cases b1<;>cases b2<;>cases b3<;>cases b4<;>cases b5<;>exact .some rfl
 ·refine .some ?_
  have hf:l.find? (fun b=>decide (b.var=g.var))=none:=List.find?_eq_none.2 fun x hx=>by
   have:=hall x hx
   rw [Z2] at this
   simpa using this
  simp [Q64,hf,h0]
def matR:Option (List X1)→List X1×Bool
 | none=>([],false)
 | some l=>(Q90 l,true)
theorem X4l {n:Nat}(hn:1000≤n){w:List Q4}(hw:WW w){t:Q2}(ht:t∈tys w){p:Q0}(g:Q0r w 10 t p=true)(ln:linD w 10 t p=true)(hc:cntP p≤1000){e:Nat}{v:Q1}(hv:Q2f w e t v)(he:e≤10) :
  Q6a n p v=some (matR (X7 10 p v)):=by
 suffices hs:Ret (Q6a n p v) (fun r=>r=matR (X7 10 p v)) by
  obtain ⟨a,e,rfl⟩:=hs
  exact e
 have hdv:=Z9h e 10 v he (Z7d hw e t v ht hv)
 unfold Q6a
 refine Ret.bind (V2t hw 10 n t p v e ht g hv (by omega) hc) (fun r hr=>?_)
 obtain ⟨_,h2,h3⟩:=hr
 cases hm:X7 10 p v with
 | none=>
  rw [hm] at h2
  simp only [Option.isSome_none] at h2
  rw [h2]
  exact .some rfl
 | some l=>
  rw [hm] at h2
  simp only [Option.isSome_some] at h2
  have h1:=h3 l hm
  have hb:=Q6h g ln hm
  rw [h2,h1]
  simp only [Bool.not_true,U2,if_false]
  rw [V2f (by omega) (by have:=hb.ln;omega) hb.nd hb.rg]
  have hpm:=Q53 hb.rg
  simp only [U0]
  rw [X1r (by simp [hpm.length_eq])]
  simp only [U0]
  have hdb:∀ b∈Q90 l,Z1h 10 b.value:=fun b hb'=>by
   obtain ⟨e',h1,h2⟩:=X3e 10 p 10 v l hdv hm b (hpm.mem_iff.1 hb')
   exact Z9h _ _ _ h1 h2
  rw [show matR (some l)=(Q90 l,true) from rfl]
  generalize Q90 l=r at *
  refine Ret.ctl (Z4 r (fun _ s=>s=r) (fun _=>False) (fun s=>s=r) rfl (fun k b s hb hI=>?_) (fun s hI=>hI)) (fun r hr=>hr.elim) (fun s hs=>.some (by rw [hs]))
  subst hI
  have hk:=(List.getElem?_eq_some_iff.1 hb).1
  have hy:s[k]?=some s[k]:=by simp
  rw [Q00 hy]
  simp only [U0]
  rw [X0e 10 n _ (hdb _ (U1 hy)) (by omega)]
  simp only [U0]
  rw [Z77 (by omega) (by omega)]
  refine .some ?_
  exact List.set_getElem_self (as:=s) (i:=k) hk
theorem Z44 {α:Type}{l:List α}{k:Nat}{x:α}(h:l[k]?=some x):l.drop k=x::l.drop (k+1):=by
 obtain ⟨hk,rfl⟩:=List.getElem?_eq_some_iff.1 h
 exact List.drop_eq_getElem_cons hk
theorem W87 {n:Nat}(hn:1000≤n){w:List Q4}(hw:WW w){t:Q2}(ht:t∈tys w){l:List Z6}(hl:∀ c∈l,Q4j w t c.pat=true){e:Nat}{v:Q1}(hv:Q2f w e t v)(he:e≤10) :
  Z01 n l v=some (runR (runD v 0 l)):=by
 suffices hs:Ret (Z01 n l v) (fun r=>r=runR (runD v 0 l)) by
  obtain ⟨a,e,rfl⟩:=hs
  exact e
 unfold Z01
 refine Ret.ctl (Z4 l (fun k _=>runD v 0 l=runD v k (l.drop k)) (fun r:Int×List X1=>r=runR (runD v 0 l)) (fun _=>runD v 0 l=none) rfl (fun k c s hc hI=>?_) (fun s hI=>by rw [hI,List.drop_length];rfl)) (fun r hr=>.some hr) (fun s hs=>.some (by rw [hs];rfl))
 obtain ⟨g,c1,ln⟩:=Q15 (hl c (U1 hc))
 rw [Z44 hc] at hI
 simp only [runD] at hI
 rw [X4l hn hw ht g ln (by omega) hv he]
 simp only [U0]
 cases hm:X7 10 c.pat v with
 | none=>
  simp only [hm] at hI
  simp only [matR,U2,if_false,U0]
  exact .some hI
 | some r=>
  simp only [hm] at hI
  have hb:=Q6h g ln hm
  have hn:((Q90 r).map (·.var)).Nodup:=((Q53 hb.rg).map _).nodup_iff.2 hb.nd
  simp only [matR,if_true]
  rw [X7a _ hn,W09 hb]
  simp only [U0]
  cases hg:Q64 c.guard r with
  | true=>
   rw [hg] at hI
   simp only [if_true,U0] at hI ⊢
   exact .some (by simp only [W1s];rw [hI];rfl)
  | false=>
   rw [hg] at hI
   simp only [U2,if_false,U0] at hI ⊢
   exact .some hI
def cntV:Q1→Nat
 | ⟨_,_,kids⟩=>1+cntVs kids
where cntVs:List Q1→Nat
 | []=>0
 | v::l=>cntV v+cntVs l
theorem Z2s (v:Q1):cntV v=1+cntV.cntVs v.kids:=by cases v;rw [cntV]
theorem Z4n:∀ (l:List Q1) (k:Nat) (q:Q1),l[k]?=some q→cntV.cntVs (l.take (k+1))=cntV.cntVs (l.take k)+cntV q
 | [],k,q,h=>by simp at h
 | p::l,0,q,h=>by simp at h;subst h;simp [cntV.cntVs]
 | p::l,k+1,q,h=>by
  have:=Z4n l k q (by simpa using h)
  simp only [List.take_succ_cons,cntV.cntVs]
  omega
theorem Q9t:∀ (l:List Q1) (k:Nat),cntV.cntVs (l.take k)≤cntV.cntVs l
 | [],k=>by simp
 | p::l,0=>by simp [cntV.cntVs]
 | p::l,k+1=>by
  have:=Q9t l k
  simp only [List.take_succ_cons,cntV.cntVs]
  omega
def Q4b (w:List Q4):Nat→Q2→Q1→Bool
 | 0,_,_=>false
 | d+1,t,v=>if t.data = -1 then decide (v.ctor = -1)&&(decide (0≤v.n)&&(decide (v.n≤9)&&decide (v.kids.length=0)))
  else decide (v.n=0)&&(decide (v.ctor∈X2 w t)&&(decide (v.kids.length=(W0 w t v.ctor).length)&&((W0 w t v.ctor).zip v.kids).all fun x=>Q4b w d x.1 x.2))
theorem X3m {w:List Q4} : ∀ (d:Nat) (t:Q2) (v:Q1),Q4b w d t v=true↔Q2f w d t v:=by
 intro d
 induction d with
 | zero=>intro t v;simp [Q4b,Q2f]
 | succ d ih=>
  intro t v
  rw [Q4b,Q2f]
  split
  ·simp only [Bool.and_eq_true,decide_eq_true_eq,List.length_eq_zero_iff]
  ·simp only [Bool.and_eq_true,decide_eq_true_eq,List.all_eq_true]
   constructor
   ·rintro ⟨h1,h2,h3,h4⟩
    exact ⟨h1,h2,h3,fun j a x ha hx=>(ih a x).1 (h4 (a,x) (U1 (Q3u ha hx)))⟩
   ·rintro ⟨h1,h2,h3,h4⟩
    refine ⟨h1,h2,h3,fun x hx=>?_⟩
    obtain ⟨j,hj⟩:=List.mem_iff_getElem?.1 hx
    obtain ⟨e1,e2⟩:=List.getElem?_zip_eq_some.1 hj
    exact (ih _ _).2 (h4 j _ _ e1 e2)
def okV (w:List Q4)(d:Nat)(t:Q2)(v:Q1)(c:Nat):Bool:=Q4b w d t v&&decide (c+cntV v≤60)
def Q0z (w:List Q4)(t:Q2)(v:Q1):Bool:=Q4b w 10 t v&&decide (cntV v≤60)
theorem Q2g {w:List Q4}{t:Q2}{v:Q1}(h:Q0z w t v=true):Q2f w 10 t v:=by
 simp only [Q0z,Bool.and_eq_true] at h
 exact (X3m 10 t v).1 h.1
theorem W7r {w:List Q4}{d:Nat}{t:Q2}{v:Q1}{c:Nat}(h:Q4b w d t v=false):okV w d t v c=false:=by simp [okV,h]
theorem Y08 {w:List Q4}(hw:WW w):∀ (d n:Nat) (t:Q2) (v:Q1) (c:Nat),t∈tys w→c≤60→d+2≤n→d≤10→
  Ret (Q38 n w t v (11-(d:Int)) false (c:Int)) (fun r=>r.1=okV w d t v c∧(okV w d t v c=true→r.2=((c+cntV v:Nat):Int))):=by
 intro d
 induction d with
 | zero=>
  intro n t v c ht hc hn hd
  obtain ⟨n,rfl⟩:∃ k,n=k+1:=⟨n-1,by omega⟩
  have hb:okV w 0 t v c=false:=W7r rfl
  unfold Q38
  refine Ret.ite (fun _=>.some ⟨hb.symm,fun h=>by rw [hb] at h;cases h⟩) (fun _=>?_)
  rw [if_pos (by rw [Z5];omega)]
  exact .some ⟨hb.symm,fun h=>by rw [hb] at h;cases h⟩
 | succ d ih=>
  intro n t v c ht hc hn hd
  obtain ⟨n,rfl⟩:∃ k,n=k+1:=⟨n-1,by omega⟩
  have hT:=hw.ty t ht
  unfold Q38
  have hc1:wadd .i64 (c:Int) 1=((c+1:Nat):Int):=by rw [J9]<;>omega
  rw [hc1]
  have hpos:1≤cntV v:=by rw [Z2s];omega
  refine Ret.ite (fun hlt=>?_) (fun hle=>?_)
  ·rw [Z5] at hlt
   have hb:okV w (d+1) t v c=false:=by simp only [okV,Bool.and_eq_false_iff,decide_eq_false_iff_not];right;omega
   exact .some ⟨hb.symm,fun h=>by rw [hb] at h;cases h⟩
  rw [J8] at hle
  rw [if_neg (by rw [Z5];omega),if_neg (by simp)]
  have bad:Q4b w (d+1) t v=false→okV w (d+1) t v c=false:=W7r
  refine Ret.ctl (R:=fun r:Bool×Int=>r.1=okV w (d+1) t v c∧(okV w (d+1) t v c=true→r.2=((c+cntV v:Nat):Int))) (B:=fun _:Unit=>t.data≠-1∧v.n=0∧v.ctor∈X2 w t) ?_ (fun r hr=>.some hr) (fun s hs=>?_)
  ·refine Ret.ite (fun hi=>?_) (fun hi=>?_)
   ·rw [Q8] at hi
    have hg:Q4b w (d+1) t v=(decide (v.ctor = -1)&&(decide (0≤v.n)&&(decide (v.n≤9)&&decide (v.kids.length=0)))):=by rw [Q4b,if_pos hi]
    refine Ret.ite (fun h1=>?_) (fun h1=>?_)
    ·rw [Q8] at h1
     rw [Q8z]
     simp only [U0]
     refine Ret.ite (fun h2=>?_) (fun h2=>?_)
     ·simp only [Bool.and_eq_true,decide_eq_true_eq] at h2
      have hk:Q4b w (d+1) t v=decide (v.kids.length=0):=by rw [hg];simp [h1,h2.1,h2.2]
      refine .some ?_
      have h0:v.kids.length=0→cntV v=1:=fun h=>by rw [Z2s,List.eq_nil_of_length_eq_zero h];rfl
      by_cases hz:v.kids.length=0
      ·have e1:okV w (d+1) t v c=true:=by simp only [okV,hk,hz,decide_true,Bool.true_and,decide_eq_true_eq];have:=h0 hz;omega
       rw [e1]
       refine ⟨?_,fun _=>?_⟩
       ·simp only [Q8,lenZ];omega
       ·have:=h0 hz;simp only;omega
      ·have e1:okV w (d+1) t v c=false:=bad (by rw [hk];simp [hz])
       rw [e1]
       refine ⟨?_,fun h=>by cases h⟩
       simp only [Z2,lenZ];omega
     ·have e1:okV w (d+1) t v c=false:=bad (by
       rw [hg]
       simp only [Bool.and_eq_false_iff,decide_eq_false_iff_not] at h2 ⊢
       rcases h2 with h2 | h2
       ·exact .inr (.inl h2)
       ·exact .inr (.inr (.inl h2)))
      exact .some ⟨e1.symm,fun h=>by rw [e1] at h;cases h⟩
    ·rw [Z2] at h1
     have e1:okV w (d+1) t v c=false:=bad (by rw [hg];simp [h1])
     exact .some ⟨e1.symm,fun h=>by rw [e1] at h;cases h⟩
   ·rw [Z2] at hi
    have hg:Q4b w (d+1) t v=(decide (v.n=0)&&(decide (v.ctor∈X2 w t)&&(decide (v.kids.length=(W0 w t v.ctor).length)&&((W0 w t v.ctor).zip v.kids).all fun x=>Q4b w d x.1 x.2))):=by rw [Q4b,if_neg hi]
    refine Ret.ite (fun h1=>?_) (fun h1=>?_)
    ·rw [Bool.not_eq_true',Z2] at h1
     have e1:okV w (d+1) t v c=false:=bad (by rw [hg];simp [h1])
     exact .some ⟨e1.symm,fun h=>by rw [e1] at h;cases h⟩
    rw [Bool.not_eq_false',Q8] at h1
    rw [hT.c2]
    simp only [U0]
    rw [Z0t]
    simp only [U0]
    refine Ret.ite (fun h2=>?_) (fun h2=>?_)
    ·rw [Bool.not_eq_true',decide_eq_false_iff_not] at h2
     have e1:okV w (d+1) t v c=false:=bad (by rw [hg];simp [h2])
     exact .some ⟨e1.symm,fun h=>by rw [e1] at h;cases h⟩
    rw [Bool.not_eq_false',decide_eq_true_eq] at h2
    exact .some ⟨hi,h1,h2⟩
  ·obtain ⟨s1,s2,s3⟩:=hs
   have hg:Q4b w (d+1) t v=(decide (v.kids.length=(W0 w t v.ctor).length)&&((W0 w t v.ctor).zip v.kids).all fun x=>Q4b w d x.1 x.2):=by rw [Q4b,if_neg s1];simp [s2,s3]
   rw [hT.a2 _ s3]
   simp only [U0]
   refine Ret.ite (fun hl=>?_) (fun hl=>?_)
   ·rw [Bool.not_eq_true',Z2] at hl
    simp only [lenZ] at hl
    have e1:okV w (d+1) t v c=false:=bad (by rw [hg];simp only [Bool.and_eq_false_iff,decide_eq_false_iff_not];left;omega)
    exact .some ⟨e1.symm,fun h=>by rw [e1] at h;cases h⟩
   rw [Bool.not_eq_false',Q8] at hl
   simp only [lenZ] at hl
   have hcv:=Z2s v
   refine Ret.ctl (Z4 v.kids (fun k s=>s=((c+1+cntV.cntVs (v.kids.take k):Nat):Int)∧c+1+cntV.cntVs (v.kids.take k)≤60∧∀ (j:Nat) (a:Q2) (x:Q1),j<k→(W0 w t v.ctor)[j]?=some a→v.kids[j]?=some x→Q4b w d a x=true) (fun r:Bool×Int=>r.1=okV w (d+1) t v c∧(okV w (d+1) t v c=true→r.2=((c+cntV v:Nat):Int))) (fun s=>s=((c+cntV v:Nat):Int)∧okV w (d+1) t v c=true) ⟨by simp [cntV.cntVs],by simp only [List.take_zero,cntV.cntVs];omega,fun j a x hj=>by omega⟩ (fun k x s hx hI=>?_) (fun s hI=>?_)) (fun r hr=>.some hr) (fun s hs=>.some ⟨hs.2.symm,fun _=>hs.1⟩)
   ·obtain ⟨rfl,i2,i3⟩:=hI
    have hk:=(List.getElem?_eq_some_iff.1 hx).1
    have ha:(W0 w t v.ctor)[k]?=some ((W0 w t v.ctor)[k]'(by omega)):=by simp
    rw [Q00 ha]
    simp only [U0]
    have hdd:wadd .i64 (11-((d+1:Nat):Int)) 1=11-(d:Int):=by rw [J9]<;>omega
    rw [hdd]
    refine Ret.bind (ih n _ x _ (hT.at_ _ s3 _ (U1 ha)) i2 (by omega) (by omega)) (fun r hr=>?_)
    obtain ⟨r1,r2⟩:=hr
    have htk:=Z4n v.kids k x hx
    refine Ret.ite (fun h=>?_) (fun h=>?_)
    ·rw [Bool.not_eq_true',r1] at h
     have e1:okV w (d+1) t v c=false:=by
      simp only [okV,Bool.and_eq_false_iff,decide_eq_false_iff_not] at h ⊢
      rcases h with h | h
      ·left
       rw [hg,Bool.and_eq_false_iff]
       right
       rw [List.all_eq_false]
       exact ⟨_,U1 (Q3u ha hx),by simp [h]⟩
      ·right
       have:=Q9t v.kids (k+1)
       omega
     exact .some ⟨e1.symm,fun h=>by rw [e1] at h;cases h⟩
    ·rw [Bool.not_eq_false',r1] at h
     have r3:=r2 h
     simp only [okV,Bool.and_eq_true,decide_eq_true_eq] at h
     refine .some ⟨?_,by omega,fun j a y hj h1 h2=>?_⟩
     ·rw [r3];omega
     ·by_cases hjk:j=k
      ·subst hjk
       rw [ha] at h1
       rw [hx] at h2
       cases h1
       cases h2
       exact h.1
      ·exact i3 j a y (by omega) h1 h2
   ·obtain ⟨rfl,i2,i3⟩:=hI
    rw [List.take_length] at i2 ⊢
    refine ⟨by omega,?_⟩
    simp only [okV,Bool.and_eq_true,decide_eq_true_eq]
    refine ⟨?_,by omega⟩
    rw [hg]
    simp only [Bool.and_eq_true,decide_eq_true_eq,List.all_eq_true]
    refine ⟨by omega,fun y hy=>?_⟩
    obtain ⟨j,hj⟩:=List.mem_iff_getElem?.1 hy
    obtain ⟨e1,e2⟩:=List.getElem?_zip_eq_some.1 hj
    exact i3 j _ _ (List.getElem?_eq_some_iff.1 e2).1 e1 e2
theorem Z2f {n:Nat}(hn:1000≤n){w:List Q4}(hw:WW w){t:Q2}(ht:t∈tys w)(v:Q1):Q2u n w t v=some (Q0z w t v):=by
 suffices hs:Ret (Q2u n w t v) (fun r=>r=Q0z w t v) by
  obtain ⟨a,e,rfl⟩:=hs
  exact e
 unfold Q2u
 refine Ret.bind (Y08 hw 10 n t v 0 ht (by omega) (by omega) (by omega)) (fun r hr=>.some ?_)
 rw [hr.1]
 simp [okV,Q0z]
theorem W2g {w:List Q4} : ∀ (d e:Nat) (t:Q2) (v:Q1),d≤e→Q2f w d t v→Q2f w e t v:=by
 intro d
 induction d with
 | zero=>intro e t v _ h;exact h.elim
 | succ d ih=>
  intro e t v he h
  obtain ⟨e,rfl⟩:∃ k,e=k+1:=⟨e-1,by omega⟩
  rw [Q2f] at h ⊢
  split
  ·rename_i hd;rw [if_pos hd] at h;exact h
  ·rename_i hd
   rw [if_neg hd] at h
   exact ⟨h.1,h.2.1,h.2.2.1,fun j a x ha hx=>ih e a x (by omega) (h.2.2.2 j a x ha hx)⟩
theorem len0 (n:Nat):ieq (lenZ n) 0=decide (n=0):=by
 by_cases h:n=0
 ·subst h;rfl
 ·rw [decide_eq_false h,Z2];simp only [lenZ];omega
theorem Q6w {w:List Q4}{t:Q2}{cs:List Z6}(h:Q6g w t cs=true):cs.length≤8∧∀ c∈cs,Q4j w t c.pat=true:=by
 simp only [Q6g,Bool.and_eq_true,decide_eq_true_eq,List.all_eq_true] at h
 refine ⟨h.1,fun c hc=>?_⟩
 have:=h.2 c hc
 simp only [Q8v,Bool.and_eq_true] at this
 exact this.1
theorem Z78 {v:Q1} : ∀ {cs:List Z6} {k:Nat} {x:Nat×List X1},runD v k cs=some x→∃ i c b,cs[i]?=some c∧x.1=k+i∧X7 10 c.pat v=some b∧Q64 c.guard b=true∧x.2=Q90 b∧∀ (j:Nat) (c':Z6),j<i→cs[j]?=some c'→∀ b',X7 10 c'.pat v=some b'→Q64 c'.guard b'=false
 | [],_,_,h=>by cases h
 | c::cs,k,x,h=>by
  simp only [runD] at h
  cases hm:X7 10 c.pat v with
  | none=>
   rw [hm] at h
   obtain ⟨i,c1,b,h1,h2,h3,h4,h5,h6⟩:=Z78 h
   refine ⟨i+1,c1,b,by simpa using h1,by omega,h3,h4,h5,fun j c' hj hc' b' hb'=>?_⟩
   cases j with
   | zero=>simp only [List.getElem?_cons_zero,Option.some.injEq] at hc';subst hc';rw [hm] at hb';cases hb'
   | succ j=>exact h6 j c' (by omega) (by simpa using hc') b' hb'
  | some l=>
   rw [hm] at h
   simp only at h
   split at h
   ·rename_i hg
    cases h
    exact ⟨0,c,l,rfl,rfl,hm,hg,rfl,fun j c' hj=>by omega⟩
   ·rename_i hg
    obtain ⟨i,c1,b,h1,h2,h3,h4,h5,h6⟩:=Z78 h
    refine ⟨i+1,c1,b,by simpa using h1,by omega,h3,h4,h5,fun j c' hj hc' b' hb'=>?_⟩
    cases j with
    | zero=>simp only [List.getElem?_cons_zero,Option.some.injEq] at hc';subst hc';rw [hm] at hb';cases hb';simpa using hg
    | succ j=>exact h6 j c' (by omega) (by simpa using hc') b' hb'
def cntE:Z1→Nat
 | ⟨_,_,_,kids⟩=>1+cntEs kids
where cntEs:List Z1→Nat
 | []=>0
 | e::l=>cntE e+cntEs l
theorem X5a (e:Z1):cntE e=1+cntE.cntEs e.kids:=by cases e;rw [cntE]
def Q7k (a b:Q2):Bool:=decide (a.data=b.data)&&(decide (b.index=0)||decide (a.index=b.index))
def Y9 (w:List Q4)(T:List Z0)(t:Q2)(e:Z1):List Q2:=
 if e.op=3 then W0 w t e.ctor else if e.op=4 then [t,t] else if e.op=5 then [(T[e.n.toNat]?).elim tI fun f=>f.arg] else []
def Q4a (w:List Q4)(T:List Z0)(vars:List Q5)(t:Q2)(e:Z1):Bool:=
 if e.op=1 then decide (t.data = -1)&&(decide (0≤e.n)&&decide (e.n≤9))&&decide (e.ctor=0)
 else if e.op=2 then ((vars.find? fun v=>decide (v.var=e.n)).elim false fun v=>Q7k v.typ t)&&decide (e.ctor=0)
 else if e.op=3 then decide (e.n=0)&&decide (e.ctor∈X2 w t)
 else if e.op=4 then decide (t.data = -1)&&decide (e.n=0)&&decide (e.ctor=0)
 else if e.op=5 then (decide (0≤e.n)&&decide (e.n<T.length))&&decide (e.ctor=0)&&((T[e.n.toNat]?).elim false fun f=>Q7k f.res t)
 else false
def Q5e (w:List Q4)(T:List Z0)(vars:List Q5):Nat→Q2→Z1→Bool
 | 0,_,_=>false
 | d+1,t,e=>Q4a w T vars t e&&(decide (e.kids.length=(Y9 w T t e).length)&&((Y9 w T t e).zip e.kids).all fun x=>Q5e w T vars d x.1 x.2)
def Q5x (w:List Q4)(T:List Z0)(vars:List Q5)(t:Q2)(e:Z1):Bool:=Q5e w T vars 10 t e&&decide (cntE e≤60)
def zV:Q1:=Q1.mk 0 0 []
structure Rn where
 fuel:Int
 count:Int
 code:Int
def Z7x (l:List X1)(x:Int):Q1:=(l.find? fun b=>decide (b.var=x)).elim zV fun b=>b.value
def evK (ev:Q2→Z1→Rn→Q1×Rn):List Q2→List Z1→Rn→List Q1×Rn
 | t::ts,e::es,s=>if (ev t e s).2.code=0 then ((ev t e s).1::(evK ev ts es (ev t e s).2).1,(evK ev ts es (ev t e s).2).2) else ([],(ev t e s).2)
 | _,_,s=>([],s)
def finE (w:List Q4)(cl:Int→Q1→Rn→Q1×Rn)(t:Q2)(e:Z1)(q:List Q1×Rn):Q1×Rn:=
 if q.2.code≠0 then (zV,q.2)
 else if e.op=4 then (Q1.mk (-1) (((q.1.getD 0 zV).n+(q.1.getD 1 zV).n) % 10) [],q.2)
 else if e.op=3 then (if Q0z w t (Q1.mk e.ctor 0 q.1)=true then (Q1.mk e.ctor 0 q.1,q.2) else (zV,⟨q.2.fuel,q.2.count,4⟩))
 else cl e.n (q.1.getD 0 zV) q.2
def evE (w:List Q4)(T:List Z0)(cl:Int→Q1→Rn→Q1×Rn)(l:List X1):Nat→Q2→Z1→Rn→Q1×Rn
 | 0,_,_,s=>(zV,s)
 | d+1,t,e,s=>if e.op=1 then (Q1.mk (-1) e.n [],s) else if e.op=2 then (Z7x l e.n,s)
  else finE w cl t e (evK (evE w T cl l d) (Y9 w T t e) e.kids s)
def evC (w:List Q4)(F:List GFun):Nat→Int→Q1→Rn→Q1×Rn
 | 0,_,_,s=>(zV,⟨s.fuel,s.count,if s.fuel=0 then 2 else 3⟩)
 | k+1,f,v,s=>if s.fuel=0 then (zV,⟨s.fuel,s.count,2⟩) else
  match F[f.toNat]? with
  | none=>(zV,s)
  | some g=>match runD v 0 g.clauses with
   | none=>(zV,⟨s.fuel-1,s.count+1,1⟩)
   | some x=>evE w (F.map (·.typ)) (evC w F k) x.2 10 g.typ.res (g.bodies.getD x.1 default) ⟨s.fuel-1,s.count+1,s.code⟩
theorem Q87 {w:List Q4}{T:List Z0}{vars:List Q5}{d:Nat}{t:Q2}{e:Z1}(h:Q5e w T vars (d+1) t e=true):Q4a w T vars t e=true∧e.kids.length=(Y9 w T t e).length:=by
 simp only [Q5e,Bool.and_eq_true,decide_eq_true_eq] at h
 exact ⟨h.1,h.2.1⟩
theorem Q5d {w:List Q4}{T:List Z0}{vars:List Q5}{d:Nat}{t:Q2}{e:Z1}(h:Q5e w T vars (d+1) t e=true){k:Nat}{a:Q2}{q:Z1}(h1:(Y9 w T t e)[k]?=some a)(h2:e.kids[k]?=some q):Q5e w T vars d a q=true:=by
 simp only [Q5e,Bool.and_eq_true,decide_eq_true_eq,List.all_eq_true] at h
 exact h.2.2 (a,q) (U1 (Q3u h1 h2))
theorem Z4h {w:List Q4}{T:List Z0}{vars:List Q5}{t:Q2}{e:Z1}(h:Q4a w T vars t e=true):e.op=1∨e.op=2∨e.op=3∨e.op=4∨e.op=5:=by
 unfold Q4a at h
 split at h;· exact .inl ‹_›
 split at h;· exact .inr (.inl ‹_›)
 split at h;· exact .inr (.inr (.inl ‹_›))
 split at h;· exact .inr (.inr (.inr (.inl ‹_›)))
 split at h;· exact .inr (.inr (.inr (.inr ‹_›)))
 cases h
theorem Y82 {w:List Q4}{T:List Z0}{vars:List Q5}{t:Q2}{e:Z1}(h:Q4a w T vars t e=true)(ho:e.op=1):t.data = -1∧0≤e.n∧e.n≤9∧e.ctor=0:=by
 simp only [Q4a,if_pos ho,Bool.and_eq_true,decide_eq_true_eq] at h
 exact ⟨h.1.1,h.1.2.1,h.1.2.2,h.2⟩
theorem V7v {w:List Q4}{T:List Z0}{vars:List Q5}{t:Q2}{e:Z1}(h:Q4a w T vars t e=true)(ho:e.op=2):∃ v,vars.find? (fun v=>decide (v.var=e.n))=some v∧Q7k v.typ t=true:=by
 simp only [Q4a,if_neg (show ¬e.op=1 by omega),if_pos ho,Bool.and_eq_true] at h
 cases hf:vars.find? (fun v=>decide (v.var=e.n)) with
 | none=>rw [hf] at h;simp at h
 | some v=>rw [hf] at h;exact ⟨v,rfl,h.1⟩
theorem V2p {w:List Q4}{T:List Z0}{vars:List Q5}{t:Q2}{e:Z1}(h:Q4a w T vars t e=true)(ho:e.op=3):e.n=0∧e.ctor∈X2 w t:=by
 simp only [Q4a,if_neg (show ¬e.op=1 by omega),if_neg (show ¬e.op=2 by omega),if_pos ho,Bool.and_eq_true,decide_eq_true_eq] at h
 exact h
theorem V2o {w:List Q4}{T:List Z0}{vars:List Q5}{t:Q2}{e:Z1}(h:Q4a w T vars t e=true)(ho:e.op=4):t.data = -1:=by
 simp only [Q4a,if_neg (show ¬e.op=1 by omega),if_neg (show ¬e.op=2 by omega),if_neg (show ¬e.op=3 by omega),if_pos ho,Bool.and_eq_true,decide_eq_true_eq] at h
 exact h.1.1
theorem X9o {w:List Q4}{T:List Z0}{vars:List Q5}{t:Q2}{e:Z1}(h:Q4a w T vars t e=true)(ho:e.op=5):0≤e.n∧e.n<T.length∧∃ f,T[e.n.toNat]?=some f∧Q7k f.res t=true:=by
 simp only [Q4a,if_neg (show ¬e.op=1 by omega),if_neg (show ¬e.op=2 by omega),if_neg (show ¬e.op=3 by omega),if_neg (show ¬e.op=4 by omega),if_pos ho,Bool.and_eq_true,decide_eq_true_eq] at h
 refine ⟨h.1.1.1,h.1.1.2,?_⟩
 cases hf:T[e.n.toNat]? with
 | none=>rw [hf] at h;simp at h
 | some v=>rw [hf] at h;exact ⟨v,rfl,h.2⟩
theorem Z0i {w:List Q4}(hw:WW w){T:List Z0}(hT:∀ f∈T,f.arg∈tys w){vars:List Q5}{t:Q2}(ht:t∈tys w){e:Z1}(h:Q4a w T vars t e=true):∀ a∈Y9 w T t e,a∈tys w:=fun a ha=>by
 unfold Y9 at ha
 split at ha
 ·exact (hw.ty t ht).at_ _ (V2p h ‹_›).2 a ha
 split at ha
 ·rcases U8.1 ha with rfl | ha
  ·exact ht
  ·rw [List.mem_singleton] at ha;exact ha▸ht
 split at ha
 ·obtain ⟨f,hf,_⟩:=(X9o h ‹_›).2.2
  rw [hf,List.mem_singleton] at ha
  exact ha▸hT f (U1 hf)
 ·cases ha
def V6q (w:List Q4):Bool:=(tys w).all fun t=>(tys w).all fun u=>!Q7k t u||((decide (t.data = -1)==decide (u.data = -1))&&(X2 w t).all fun k=>decide (k∈X2 w u)&&(decide ((W0 w t k).length=(W0 w u k).length)&&((W0 w t k).zip (W0 w u k)).all fun x=>Q7k x.1 x.2))
theorem W58:Q0j.all V6q=true:=by kernel_rfl
structure Fit (w:List Q4):Prop where
 d:∀ t∈tys w,∀ u∈tys w,Q7k t u=true→(t.data = -1↔u.data = -1)
 c:∀ t∈tys w,∀ u∈tys w,Q7k t u=true→∀ k∈X2 w t,k∈X2 w u∧(W0 w t k).length=(W0 w u k).length∧∀ (j:Nat) (a b:Q2),(W0 w t k)[j]?=some a→(W0 w u k)[j]?=some b→Q7k a b=true
theorem W2u {w:List Q4}(h:w∈Q0j):Fit w:=by
 have h1:=List.all_eq_true.1 W58 w h
 simp only [V6q,List.all_eq_true,Bool.or_eq_true,Bool.and_eq_true,Bool.not_eq_true',decide_eq_true_eq,beq_iff_eq,decide_eq_decide] at h1
 refine ⟨fun t ht u hu hf=>?_,fun t ht u hu hf k hk=>?_⟩
 ·rcases h1 t ht u hu with h2 | h2
  ·rw [hf] at h2;cases h2
  ·exact h2.1
 ·rcases h1 t ht u hu with h2 | h2
  ·rw [hf] at h2;cases h2
  ·obtain ⟨g1,g2,g3⟩:=h2.2 k hk
   exact ⟨g1,g2,fun j a b ha hb=>g3 (a,b) (U1 (Q3u ha hb))⟩
theorem V4e {w:List Q4}(hw:WW w)(hf:Fit w):∀ (d:Nat) (t u:Q2) (v:Q1),t∈tys w→u∈tys w→Q7k t u=true→Q2f w d t v→Q2f w d u v:=by
 intro d
 induction d with
 | zero=>intro t u v _ _ _ h;exact h.elim
 | succ d ih=>
  intro t u v ht hu h hv
  simp only [Q2f] at hv ⊢
  have hd:=hf.d t ht u hu h
  by_cases h1:t.data = -1
  ·rw [if_pos h1] at hv
   rw [if_pos (hd.1 h1)]
   exact hv
  ·rw [if_neg h1] at hv
   rw [if_neg (fun h2=>h1 (hd.2 h2))]
   obtain ⟨g1,g2,g3,g4⟩:=hv
   obtain ⟨c1,c2,c3⟩:=hf.c t ht u hu h _ g2
   refine ⟨g1,c1,by omega,fun j a x ha hx=>?_⟩
   have hlt:j<(W0 w t v.ctor).length:=by have:=(List.getElem?_eq_some_iff.1 ha).1;omega
   have hb:(W0 w t v.ctor)[j]?=some ((W0 w t v.ctor)[j]):=by simp [hlt]
   exact ih _ a x ((hw.ty t ht).at_ _ g2 _ (U1 hb)) ((hw.ty u hu).at_ _ c1 a (U1 ha)) (c3 j _ a hb ha) (g4 j _ x hb hx)
theorem Z98 {w:List Q4}{t:Q2}{v:Q1}(h1:Q2f w 10 t v)(h2:cntV v≤60):Q0z w t v=true:=by
 simp only [Q0z,Bool.and_eq_true,decide_eq_true_eq]
 exact ⟨(X3m 10 t v).2 h1,h2⟩
theorem Z34 {w:List Q4}{t:Q2}{v:Q1}(h:Q0z w t v=true):cntV v≤60:=by
 simp only [Q0z,Bool.and_eq_true,decide_eq_true_eq] at h
 exact h.2
theorem X7s {w:List Q4}(hw:WW w)(hf:Fit w){t u:Q2}{v:Q1}(ht:t∈tys w)(hu:u∈tys w)(h:Q7k t u=true)(hv:Q0z w t v=true):Q0z w u v=true:=
 Z98 (V4e hw hf 10 t u v ht hu h (Q2g hv)) (Z34 hv)
theorem X6x {w:List Q4}{t:Q2}(ht:t.data = -1){n:Int}(h0:0≤n)(h9:n≤9):Q0z w t (Q1.mk (-1) n [])=true:=by
 refine Z98 ?_ (by simp [cntV,cntV.cntVs])
 rw [Q2f,if_pos ht]
 exact ⟨rfl,h0,h9,rfl⟩
theorem Z5l {w:List Q4}{t:Q2}(ht:t.data = -1){v:Q1}(h:Q0z w t v=true):0≤v.n∧v.n≤9:=by
 have h:=Q2g h
 simp only [Q2f,if_pos ht] at h
 exact ⟨h.2.1,h.2.2.1⟩
structure V9g (w:List Q4) (T:List Z0) (g:GFun):Prop where
 arg:g.typ.arg∈tys w
 res:g.typ.res∈tys w
 cls:Q6g w g.typ.arg g.clauses=true
 len:g.bodies.length=g.clauses.length
 bod:∀ (i:Nat) (c:Z6) (e:Z1),g.clauses[i]?=some c→g.bodies[i]?=some e→Q5x w T (Q0x w 10 g.typ.arg c.pat) g.typ.res e=true
def Z17 (w:List Q4)(F:List GFun):Prop:=F.length≤4∧∀ g∈F,V9g w (F.map (·.typ)) g
theorem Z7f {w:List Q4}{F:List GFun}(h:Z17 w F){n:Nat}{f:Z0}(hf:(F.map (·.typ))[n]?=some f):∃ g,F[n]?=some g∧g.typ=f∧V9g w (F.map (·.typ)) g:=by
 rw [List.getElem?_map] at hf
 cases hg:F[n]? with
 | none=>rw [hg] at hf;cases hf
 | some g=>
  rw [hg] at hf
  exact ⟨g,rfl,by simpa using hf,h.2 g (U1 hg)⟩
theorem Z6e {w:List Q4}{F:List GFun}(h:Z17 w F):∀ f∈F.map (·.typ),f.arg∈tys w:=fun f hf=>by
 obtain ⟨g,hg,rfl⟩:=U11.1 hf
 exact (h.2 g hg).arg
def ClOk (w:List Q4)(F:List GFun)(cl:Int→Q1→Rn→Q1×Rn):Prop:=∀ (f:Int) (g:GFun) (v:Q1) (s:Rn),0≤f→F[f.toNat]?=some g→Q0z w g.typ.arg v=true→s.code=0→(cl f v s).2.code=0→Q0z w g.typ.res (cl f v s).1=true
def Z8m (w:List Q4)(vars:List Q5)(l:List X1):Prop:=∀ (x:Int) (v:Q5),vars.find? (fun v=>decide (v.var=x))=some v→v.typ∈tys w∧Q0z w v.typ (Z7x l x)=true
def Y5h (w:List Q4):List Q2→List Q1→Prop
 | [],[]=>True
 | t::ts,v::vs=>Q0z w t v=true∧Y5h w ts vs
 | _,_=>False
theorem Z1p {w:List Q4}{ev:Q2→Z1→Rn→Q1×Rn} : ∀ (ts:List Q2) (es:List Z1) (s:Rn),es.length=ts.length→s.code=0→
  (∀ (j:Nat) (t:Q2) (e:Z1) (s:Rn),ts[j]?=some t→es[j]?=some e→s.code=0→(ev t e s).2.code=0→Q0z w t (ev t e s).1=true)→(evK ev ts es s).2.code=0→Y5h w ts (evK ev ts es s).1
 | [],[],s,_,_,_,_=>trivial
 | t::ts,e::es,s,hl,hs,h,hc=>by
  simp only [evK] at hc ⊢
  split at hc
  ·rename_i h0
   rw [if_pos h0]
   exact ⟨h 0 t e s rfl rfl hs h0,Z1p ts es _ (by simpa using hl) h0 (fun j a b s h1 h2=>h (j+1) a b s h1 h2) hc⟩
  ·exact absurd hc ‹_›
theorem Z1q {w:List Q4}(hw:WW w)(hf:Fit w){F:List GFun}(hF:Z17 w F){cl:Int→Q1→Rn→Q1×Rn}(hcl:ClOk w F cl){vars:List Q5}{l:List X1}(hl:Z8m w vars l) :
  ∀ (d:Nat) (t:Q2) (e:Z1) (s:Rn),t∈tys w→Q5e w (F.map (·.typ)) vars d t e=true→s.code=0→(evE w (F.map (·.typ)) cl l d t e s).2.code=0→Q0z w t (evE w (F.map (·.typ)) cl l d t e s).1=true:=by
 intro d
 induction d with
 | zero=>intro t e s _ h;cases h
 | succ d ih=>
  intro t e s ht h hs hc
  obtain ⟨hn,hlen⟩:=Q87 h
  rw [evE] at hc ⊢
  by_cases h1:e.op=1
  ·rw [if_pos h1] at hc ⊢
   obtain ⟨a1,a2,a3,_⟩:=Y82 hn h1
   exact X6x a1 a2 a3
  rw [if_neg h1] at hc ⊢
  by_cases h2:e.op=2
  ·rw [if_pos h2] at hc ⊢
   obtain ⟨v,hv,hfit⟩:=V7v hn h2
   obtain ⟨k1,k2⟩:=hl _ v hv
   exact X7s hw hf k1 ht hfit k2
  rw [if_neg h2] at hc ⊢
  have hkt:=Z0i hw (Z6e hF) ht hn
  have hq:=Z1p (w:=w) (ev:=evE w (F.map (·.typ)) cl l d) (Y9 w (F.map (·.typ)) t e) e.kids s hlen hs (fun j a x s' ha hx hs'=>ih a x s' (hkt a (U1 ha)) (Q5d h ha hx) hs')
  generalize hqe:evK (evE w (F.map (·.typ)) cl l d) (Y9 w (F.map (·.typ)) t e) e.kids s=q at *
  unfold finE at hc ⊢
  split at hc
  ·rename_i hne;exact absurd hc hne
  rename_i hne
  rw [if_neg hne]
  have h0:q.2.code=0:=by simpa using hne
  have hq:=hq h0
  rcases Z4h hn with ho | ho | ho | ho | ho
  ·exact absurd ho h1
  ·exact absurd ho h2
  ·rw [if_neg (by omega),if_pos ho] at hc ⊢
   split at hc
   ·rename_i hv;rw [if_pos hv];exact hv
   ·cases hc
  ·rw [if_pos ho]
   exact X6x (V2o hn ho) (by omega) (by omega)
  ·rw [if_neg (by omega),if_neg (by omega)] at hc ⊢
   obtain ⟨n0,n1,f,hfn,hfit⟩:=X9o hn ho
   obtain ⟨g,hg,rfl,gok⟩:=Z7f hF hfn
   have hk:Y9 w (F.map (·.typ)) t e=[g.typ.arg]:=by
    unfold Y9
    rw [if_neg (by omega),if_neg (by omega),if_pos ho,hfn]
    rfl
   rw [hk] at hq
   match hq1:q.1,hq with
   | [v],hq=>
    have:=hcl e.n g v q.2 n0 hg hq.1 h0
    rw [hq1] at hc
    exact X7s hw hf gok.res ht hfit (this hc)
def Acc (s:Rn)(r:Rn):Prop:=r.count+r.fuel=s.count+s.fuel∧r.fuel≤s.fuel∧0≤r.fuel∧(r.code=2→r.fuel=0)
theorem Acc.refl {s:Rn}(h:0≤s.fuel)(hs:s.code=0):Acc s s:=⟨rfl,Int.le_refl _,h,fun h2=>by omega⟩
theorem Acc.trans {a b c:Rn}(h:Acc a b)(k:Acc b c):Acc a c:=⟨by have:=h.1;have:=k.1;omega,by have:=h.2.1;have:=k.2.1;omega,k.2.2.1,k.2.2.2⟩
def V9h (cl:Int→Q1→Rn→Q1×Rn):Prop:=∀ f v (s:Rn),0≤s.fuel→s.code=0→Acc s (cl f v s).2
theorem W9v {ev:Q2→Z1→Rn→Q1×Rn}(hev:∀ t e (s:Rn),0≤s.fuel→s.code=0→Acc s (ev t e s).2):∀ (ts:List Q2) (es:List Z1) (s:Rn),0≤s.fuel→s.code=0→Acc s (evK ev ts es s).2
 | [],_,s,h,hs=>by simp only [evK];exact .refl h hs
 | _::_,[],s,h,hs=>by simp only [evK];exact .refl h hs
 | t::ts,e::es,s,h,hs=>by
  have h1:=hev t e s h hs
  simp only [evK]
  split
  ·exact h1.trans (W9v hev ts es _ h1.2.2.1 ‹_›)
  ·exact h1
theorem V4f {w:List Q4}{cl:Int→Q1→Rn→Q1×Rn}(hcl:V9h cl)(t:Q2)(e:Z1){s:Rn}{q:List Q1×Rn}(h:Acc s q.2):Acc s (finE w cl t e q).2:=by
 unfold finE
 split
 ·exact h
 rename_i h0
 have h0:q.2.code=0:=by simpa using h0
 split
 ·exact h
 split
 ·split
  ·exact h
  ·exact ⟨h.1,h.2.1,h.2.2.1,fun h2=>by cases h2⟩
 ·exact h.trans (hcl _ _ _ h.2.2.1 h0)
theorem W0z (w:List Q4)(T:List Z0){cl:Int→Q1→Rn→Q1×Rn}(hcl:V9h cl)(l:List X1):∀ (d:Nat) (t:Q2) (e:Z1) (s:Rn),0≤s.fuel→s.code=0→Acc s (evE w T cl l d t e s).2:=by
 intro d
 induction d with
 | zero=>intro t e s h hs;exact .refl h hs
 | succ d ih=>
  intro t e s h hs
  rw [evE]
  split
  ·exact .refl h hs
  split
  ·exact .refl h hs
  ·exact V4f hcl t e (W9v ih _ _ s h hs)
theorem W9z (w:List Q4)(F:List GFun):∀ k,V9h (evC w F k):=by
 intro k
 induction k with
 | zero=>
  intro f v s h hs
  simp only [evC]
  refine ⟨rfl,Int.le_refl _,h,fun h2=>?_⟩
  split at h2
  ·assumption
  ·cases h2
 | succ k ih=>
  intro f v s h hs
  simp only [evC]
  split
  ·rename_i h0;exact ⟨rfl,Int.le_refl _,h,fun _=>h0⟩
  rename_i h0
  have h3:0≤s.fuel-1:=by omega
  split
  ·exact .refl h hs
  split
  ·exact ⟨by simp only;omega,by simp only;omega,h3,fun h2=>by cases h2⟩
  ·have:=W0z w (F.map (·.typ)) ih ‹Nat×List X1›.2 10 ‹GFun›.typ.res (‹GFun›.bodies.getD ‹Nat×List X1›.1 default) ⟨s.fuel-1,s.count+1,s.code⟩ h3 hs
   exact ⟨by have:=this.1;simp only at this;omega,by have:=this.2.1;simp only at this;omega,this.2.2⟩
theorem X4y {w:List Q4}{cl:Int→Q1→Rn→Q1×Rn}{t:Q2}{e:Z1}{q:List Q1×Rn}(h:q.2.code≠0):finE w cl t e q=(zV,q.2):=by unfold finE;rw [if_pos h]
theorem V6i {w:List Q4}{cl:Int→Q1→Rn→Q1×Rn}{t:Q2}{e:Z1}{q:List Q1×Rn}(h:q.2.code=0)(h4:e.op=4):finE w cl t e q=(Q1.mk (-1) (((q.1.getD 0 zV).n+(q.1.getD 1 zV).n) % 10) [],q.2):=by
 unfold finE;rw [if_neg (fun hn=>hn h),if_pos h4]
theorem W9m {w:List Q4}{cl:Int→Q1→Rn→Q1×Rn}{t:Q2}{e:Z1}{q:List Q1×Rn}(h:q.2.code=0)(h3:e.op=3):finE w cl t e q=if Q0z w t (Q1.mk e.ctor 0 q.1)=true then (Q1.mk e.ctor 0 q.1,q.2) else (zV,⟨q.2.fuel,q.2.count,4⟩):=by
 unfold finE;rw [if_neg (fun hn=>hn h),if_neg (show ¬e.op=4 by omega),if_pos h3]
theorem W9l {w:List Q4}{cl:Int→Q1→Rn→Q1×Rn}{t:Q2}{e:Z1}{q:List Q1×Rn}(h:q.2.code=0)(h4:¬e.op=4)(h3:¬e.op=3):finE w cl t e q=cl e.n (q.1.getD 0 zV) q.2:=by
 unfold finE;rw [if_neg (fun hn=>hn h),if_neg h4,if_neg h3]
def exV:Q1→Z1
 | ⟨c,n,kids⟩=>if c = -1 then Z1.mk 1 n 0 [] else Z1.mk 3 0 c (exVs kids)
where exVs:List Q1→List Z1
 | []=>[]
 | v::l=>exV v::exVs l
theorem W2x (v:Q1):exV v=if v.ctor = -1 then Z1.mk 1 v.n 0 [] else Z1.mk 3 0 v.ctor (exV.exVs v.kids):=by cases v;rw [exV]
theorem Z6j:∀ l:List Q1,exV.exVs l=l.map exV
 | []=>rfl
 | v::l=>by rw [exV.exVs,Z6j l];rfl
theorem X59 {v:Q1}{k:Nat}{x:Q1}(h:v.kids[k]?=some x):cntV x<cntV v:=by
 rw [Z2s v]
 have:=Z4n v.kids k x h
 have:=Q9t v.kids (k+1)
 omega
def depV:Q1→Nat
 | ⟨_,_,kids⟩=>1+depVs kids
where depVs:List Q1→Nat
 | []=>0
 | v::l=>max (depV v) (depVs l)
theorem W12 (v:Q1):depV v=1+depV.depVs v.kids:=by cases v;rw [depV]
theorem X86:∀ {l:List Q1} {x:Q1},x∈l→depV x≤depV.depVs l
 | y::l,x,h=>by
  rw [depV.depVs]
  rcases U8.1 h with rfl | h
  ·exact Nat.le_max_left _ _
  ·exact Nat.le_trans (X86 h) (Nat.le_max_right _ _)
theorem X0n {f:Q0→Q1→Option (List X1)} : ∀ {ps:List Q0} {vs:List Q1} {l:List X1},Q2x f ps vs=some l→∀ b∈l,∃ (j:Nat) (p:Q0) (v:Q1) (m:List X1),ps[j]?=some p∧vs[j]?=some v∧f p v=some m∧b∈m
 | [],_,l,h,b,hb=>by simp only [Q2x] at h;cases h;cases hb
 | _::_,[],l,h,b,hb=>by cases h
 | p::ps,v::vs,l,h,b,hb=>by
  simp only [Q2x] at h
  cases hq:f p v with
  | none=>rw [hq] at h;cases h
  | some l1=>
   rw [hq] at h
   simp only at h
   cases hps:Q2x f ps vs with
   | none=>rw [hps] at h;cases h
   | some l2=>
    rw [hps] at h
    cases h
    rcases U9.1 hb with hb | hb
    ·exact ⟨0,p,v,l1,rfl,rfl,hq,hb⟩
    ·obtain ⟨j,q,u,m,h1,h2,h3,h4⟩:=X0n hps b hb
     exact ⟨j+1,q,u,m,h1,h2,h3,h4⟩
theorem V0m {a b:List Q5}(hb:Q0e b=true)(h:Z14 a b=true)(hp:(a.map (·.var)).Perm (b.map (·.var))){u:Q5}(hu:u∈b):u∈a:=by
 simp only [Z14,Bool.and_eq_true,decide_eq_true_eq,List.all_eq_true] at h
 obtain ⟨u',h1,h2⟩:=U11.1 (hp.mem_iff.2 (List.mem_map_of_mem hu))
 have h3:=h.2 u' h1
 obtain ⟨i,hi⟩:=List.mem_iff_getElem?.1 hu
 obtain ⟨j,hj⟩:=List.mem_iff_getElem?.1 h3
 have:=Q6v hb hi hj h2.symm
 subst this
 rw [hi] at hj
 cases hj
 exact h1
theorem X0m {w:List Q4} : ∀ (d:Nat) (t:Q2) (p:Q0) (e:Nat) (v:Q1) (l:List X1),Q0r w d t p=true→linD w d t p=true→Q2f w e t v→X7 d p v=some l→
  ∀ b∈l,∃ u∈Q0x w d t p,u.var=b.var∧(∃ e',e'≤e∧Q2f w e' u.typ b.value)∧cntV b.value≤cntV v∧depV b.value≤depV v∧(p.op=4→depV b.value<depV v):=by
 intro d
 induction d with
 | zero=>intro t p e v l h;cases h
 | succ d ih=>
  intro t p e v l hg hlin hv hm b hb
  obtain ⟨ho,hl⟩:=Q3c (Q2e hg)
  simp only [linD,Bool.and_eq_true,List.all_eq_true] at hlin
  rw [Q0x]
  rw [X7] at hm
  by_cases h1:p.op=1
  ·rw [if_pos h1] at hm;cases hm;cases hb
  rw [if_neg h1] at hm
  by_cases h2:p.op=2
  ·rw [if_pos h2] at hm;cases hm
   rw [List.mem_singleton] at hb
   subst hb
   exact ⟨⟨p.var,t⟩,by simp [ownV,h2],rfl,⟨e,Nat.le_refl _,hv⟩,Nat.le_refl _,Nat.le_refl _,fun h=>by omega⟩
  rw [if_neg h2] at hm
  by_cases h3:p.op=3
  ·rw [if_pos h3] at hm
   split at hm
   ·cases hm;cases hb
   ·cases hm
  rw [if_neg h3] at hm
  by_cases h5:p.op=5
  ·rw [if_pos h5] at hm
   obtain ⟨a,c,hkids,hkt⟩:=kid0 h5 hl
   have ga:=W9 hg (k:=0) (by rw [hkt];rfl) (by rw [hkids];rfl)
   have gc:=W9 hg (k:=1) (by rw [hkt];rfl) (by rw [hkids];rfl)
   have g0:=hlin.1 (t,a) (by rw [hkids,hkt];simp)
   have g1:=hlin.1 (t,c) (by rw [hkids,hkt];simp)
   have hal:=hlin.2
   rw [if_pos h5] at hal
   have k0:kv w d t p 0=Q0x w d t a:=by simp [kv,hkids,hkt]
   have k1:kv w d t p 1=Q0x w d t c:=by simp [kv,hkids,hkt]
   rw [k0,k1] at hal
   have hvv:ownV t p=[]:=by simp [ownV,h5]
   rw [hvv,hkids,hkt,if_pos h5]
   simp only [List.zip_cons_cons,List.zip_nil_right,List.take_succ_cons,List.take_zero,List.flatMap_cons,List.flatMap_nil,List.append_nil,List.nil_append]
   rw [hkids] at hm
   simp only at hm
   split at hm
   ·rename_i l' hl'
    cases hm
    obtain ⟨u,q1,q2,q3,q4,q5,_⟩:=ih t a e v _ ga g0 hv hl' b hb
    exact ⟨u,q1,q2,q3,q4,q5,fun h=>by omega⟩
   ·obtain ⟨u,q1,q2,q3,q4,q5,_⟩:=ih t c e v _ gc g1 hv hm b hb
    exact ⟨u,V0m (Q1l d t c gc g1) hal (Z5a (Q1l d t a ga g0) hal) q1,q2,q3,q4,q5,fun h=>by omega⟩
  rw [if_neg h5] at hm
  rw [if_neg h5,List.take_of_length_le (by rw [List.length_zip];omega)]
  by_cases h6:p.op=6
  ·rw [if_pos h6] at hm
   obtain ⟨a,hkids,hk2⟩:=Z2e h6 hl
   have ga:=W9 hg (k:=0) (by rw [hk2];rfl) (by rw [hkids];rfl)
   have g0:=hlin.1 (t,a) (by rw [hkids,hk2];simp)
   rw [hkids] at hm
   simp only at hm
   cases ha:X7 d a v with
   | none=>rw [ha] at hm;cases hm
   | some l'=>
    rw [ha] at hm
    cases hm
    rcases U8.1 hb with rfl | hb
    ·exact ⟨⟨p.var,t⟩,by simp [ownV,h6],rfl,⟨e,Nat.le_refl _,hv⟩,Nat.le_refl _,Nat.le_refl _,fun h=>by omega⟩
    ·obtain ⟨u,q1,q2,q3,q4,q5,_⟩:=ih t a e v _ ga g0 hv ha b hb
     exact ⟨u,by rw [hkids,hk2];simp [q1],q2,q3,q4,q5,fun h=>by omega⟩
  rw [if_neg h6] at hm
  split at hm
  ·rename_i hct
   obtain ⟨j,q,x,m,e1,e2,e3,e4⟩:=X0n hm b hb
   have hjl:j<(V4 w t p).length:=by have:=(List.getElem?_eq_some_iff.1 e1).1;omega
   have ha:(V4 w t p)[j]?=some ((V4 w t p)[j]):=by simp [hjl]
   have h4:p.op=4:=by
    by_cases h4:p.op=4
    ·exact h4
    ·exfalso
     have:V4 w t p=[]:=by simp [V4,h4,h5,h6]
     rw [this] at hjl
     simp at hjl
   have hcp:=Z11 ho h4
   have hk4:V4 w t p=W0 w t p.ctor:=by simp [V4,h4]
   obtain ⟨e,rfl⟩:∃ e',e=e'+1:=by
    cases e with
    | zero=>exact hv.elim
    | succ e=>exact ⟨e,rfl⟩
   have hvx:Q2f w e (V4 w t p)[j] x:=by
    simp only [Q2f] at hv
    split at hv
    ·rename_i hd
     rw [hv.2.2.2] at e2
     cases e2
    ·exact hv.2.2.2 j _ x (by rw [←hct,←hk4];exact ha) e2
   obtain ⟨u,q1,q2,⟨e',q3,q3'⟩,q4,q5,_⟩:=ih _ q e x m (W9 hg ha e1) (hlin.1 _ (U1 (Q3u ha e1))) hvx e3 b e4
   have hd:=X86 (U1 e2)
   have hdv:=W12 v
   have hcx:=X59 e2
   refine ⟨u,?_,q2,⟨e',by omega,q3'⟩,by omega,by omega,fun _=>by omega⟩
   rw [U9]
   exact .inr (List.mem_flatMap.2 ⟨_,U1 (Q3u ha e1),q1⟩)
  ·cases hm
theorem W9i {l:List Q5}(hd:Q0e l=true){u:Q5}(hu:u∈l):l.find? (fun v=>decide (v.var=u.var))=some u:=by
 cases h:l.find? (fun v=>decide (v.var=u.var)) with
 | none=>
  have:=List.find?_eq_none.1 h u hu
  simp at this
 | some v=>
  have h1:=List.find?_some h
  simp only [decide_eq_true_eq] at h1
  obtain ⟨i,hi⟩:=List.mem_iff_getElem?.1 hu
  obtain ⟨j,hj⟩:=List.mem_iff_getElem?.1 (List.mem_of_find?_eq_some h)
  have:=Q6v hd hi hj h1.symm
  subst this
  rw [hi] at hj
  exact hj.symm
theorem V53 {w:List Q4}(hw:WW w){t:Q2}(ht:t∈tys w){p:Q0}(hp:Q4j w t p=true){v:Q1}(hv:Q0z w t v=true){l:List X1}(hm:X7 10 p v=some l):Z8m w (Q0x w 10 t p) (Q90 l):=fun x u hu=>by
 obtain ⟨g,_,ln⟩:=Q15 hp
 have hd:=Q1l 10 t p g ln
 have hb:=Q6h g ln hm
 have hx:=List.find?_some hu
 simp only [decide_eq_true_eq] at hx
 have hum:=List.mem_of_find?_eq_some hu
 refine ⟨W1g hw 10 t p ht g u hum,?_⟩
 obtain ⟨b,h1,h2⟩:=U11.1 ((Z4i 10 t p g ln v l hm).mem_iff.2 (List.mem_map_of_mem hum))
 have hn:((Q90 l).map (·.var)).Nodup:=((Q53 hb.rg).map _).nodup_iff.2 hb.nd
 have hf:(Q90 l).find? (fun b=>decide (b.var=x))=some b:=Z9g hn ((Q53 hb.rg).mem_iff.2 h1) (by omega)
 unfold Z7x
 rw [hf]
 obtain ⟨u',q1,q2,⟨e',q3,q3'⟩,q4,_⟩:=X0m 10 t p 10 v l g ln (Q2g hv) hm b h1
 obtain ⟨i,hi⟩:=List.mem_iff_getElem?.1 q1
 obtain ⟨j,hj⟩:=List.mem_iff_getElem?.1 hum
 have:=Q6v hd hi hj (by omega)
 subst this
 rw [hi] at hj
 cases hj
 exact Z98 (W2g e' 10 _ _ q3 q3') (by have:=Z34 hv;show cntV b.value≤60;omega)
theorem X1w {w:List Q4}(hw:WW w){T:List Z0}{g:GFun}(hg:V9g w T g){v:Q1}(hv:Q0z w g.typ.arg v=true){x:Nat×List X1}(hr:runD v 0 g.clauses=some x) :
  ∃ (c:Z6) (e:Z1) (b:List X1),g.clauses[x.1]?=some c∧g.bodies[x.1]?=some e∧X7 10 c.pat v=some b∧x.2=Q90 b∧Q4j w g.typ.arg c.pat=true∧Q5x w T (Q0x w 10 g.typ.arg c.pat) g.typ.res e=true∧Z8m w (Q0x w 10 g.typ.arg c.pat) x.2:=by
 obtain ⟨i,c,b,h1,h2,h3,_,h5,_⟩:=Z78 hr
 have hi:x.1=i:=by omega
 have hlt:i<g.bodies.length:=by have:=(List.getElem?_eq_some_iff.1 h1).1;have:=hg.len;omega
 have he:g.bodies[i]?=some g.bodies[i]:=by simp [hlt]
 have hp:=(Q6w hg.cls).2 c (U1 h1)
 refine ⟨c,g.bodies[i],b,by rw [hi];exact h1,by rw [hi];exact he,h3,h5,hp,hg.bod i c _ h1 he,?_⟩
 rw [h5]
 exact V53 hw hg.arg hp hv h3
theorem Q3w {w:List Q4}{T:List Z0}{vars:List Q5}{t:Q2}{e:Z1}(h:Q5x w T vars t e=true):Q5e w T vars 10 t e=true:=by
 simp only [Q5x,Bool.and_eq_true] at h
 exact h.1
theorem Z1r {w:List Q4}(hw:WW w)(hf:Fit w){F:List GFun}(hF:Z17 w F):∀ k,ClOk w F (evC w F k):=by
 intro k
 induction k with
 | zero=>
  intro f g v s h0 hg hv hs hc
  simp only [evC] at hc
  split at hc<;>cases hc
 | succ k ih=>
  intro f g v s h0 hg hv hs hc
  simp only [evC] at hc ⊢
  by_cases h1:s.fuel=0
  ·rw [if_pos h1] at hc;cases hc
  rw [if_neg h1] at hc ⊢
  rw [hg] at hc ⊢
  simp only at hc ⊢
  cases hr:runD v 0 g.clauses with
  | none=>rw [hr] at hc;cases hc
  | some x=>
   rw [hr] at hc
   simp only at hc ⊢
   have gok:=hF.2 g (U1 hg)
   obtain ⟨c,e,b,e1,e2,e3,e4,e5,e6,e7⟩:=X1w hw gok hv hr
   rw [List.getD_eq_getElem?_getD,e2] at hc ⊢
   exact Z1q hw hf hF ih e7 10 _ e _ gok.res (Q3w e6) hs hc
def Y4n (w:List Q4):Bool:=(tys w).all fun t=>(X2 w t).all fun k=>decide (0≤k)
theorem V06:Q0j.all Y4n=true:=by kernel_rfl
theorem V8t {w:List Q4}(h:w∈Q0j){t:Q2}(ht:t∈tys w):∀ k∈X2 w t,0≤k:=fun k hk=>by
 have h1:=List.all_eq_true.1 V06 w h
 simp only [Y4n,List.all_eq_true,decide_eq_true_eq] at h1
 exact h1 t ht k hk
theorem W9u {ev:Q2→Z1→Rn→Q1×Rn}{s:Rn}(hs:s.code=0):∀ (ts:List Q2) (vs:List Q1),vs.length=ts.length→(∀ (j:Nat) (t:Q2) (v:Q1),ts[j]?=some t→vs[j]?=some v→ev t (exV v) s=(v,s))→evK ev ts (vs.map exV) s=(vs,s)
 | [],[],_,_=>rfl
 | t::ts,v::vs,hl,h=>by
  simp only [List.map_cons,evK]
  rw [h 0 t v rfl rfl]
  simp only
  rw [if_pos hs,W9u hs ts vs (by simpa using hl) (fun j a b h1 h2=>h (j+1) a b h1 h2)]
theorem W9w {w:List Q4}(hww:w∈Q0j)(T:List Z0)(cl:Int→Q1→Rn→Q1×Rn)(l:List X1){s:Rn}(hs:s.code=0):∀ (d:Nat) (t:Q2) (v:Q1),t∈tys w→Q2f w d t v→d≤10→cntV v≤60→evE w T cl l d t (exV v) s=(v,s):=by
 have hw:=ww hww
 intro d
 induction d with
 | zero=>intro t v _ h;exact h.elim
 | succ d ih=>
  intro t v ht h hd hc
  have hv:=h
  simp only [Q2f] at h
  rw [W2x]
  split at h
  ·obtain ⟨h1,h2,h3,h4⟩:=h
   rw [if_pos h1,evE]
   simp only [if_true]
   rw [show Q1.mk (-1) v.n []=v from Q1.ext' h1.symm rfl h4.symm]
  ·obtain ⟨h1,h2,h3,h4⟩:=h
   have h0:=V8t hww ht _ h2
   rw [if_neg (by omega),evE]
   simp only [show ¬(3:Int)=1 by omega,show ¬(3:Int)=2 by omega,if_false]
   have hk:Y9 w T t (Z1.mk 3 0 v.ctor (exV.exVs v.kids))=W0 w t v.ctor:=by simp [Y9]
   rw [hk,Z6j,W9u hs _ v.kids h3 (fun j a x ha hx=>ih a x ((hw.ty t ht).at_ _ h2 a (U1 ha)) (h4 j a x ha hx) (by omega) (by have:=X59 hx;omega))]
   rw [W9m (q:=(v.kids,s)) hs rfl]
   have e:Q1.mk v.ctor 0 v.kids=v:=Q1.ext' rfl h1.symm rfl
   show (if Q0z w t (Q1.mk v.ctor 0 v.kids)=true then (Q1.mk v.ctor 0 v.kids,s) else _)=_
   rw [e,if_pos (Z98 (W2g _ 10 _ _ hd hv) hc)]
theorem W0y {w:List Q4}{c:Int}(hc:c≠0){ev:Q2→Z1→Rn→Q1×Rn} : ∀ (ts:List Q2) (es:List Z1) (s:Rn),es.length=ts.length→s.code=0→
  (∀ (j:Nat) (t:Q2) (e:Z1) (s:Rn),ts[j]?=some t→es[j]?=some e→s.code=0→(ev t e s).2.code≠c)→(evK ev ts es s).2.code≠c
 | [],[],s,_,hs,_=>by simp only [evK];omega
 | t::ts,e::es,s,hl,hs,h=>by
  simp only [evK]
  split
  ·rename_i h0
   exact W0y (w:=w) hc ts es _ (by simpa using hl) h0 (fun j a b s h1 h2=>h (j+1) a b s h1 h2)
  ·exact h 0 t e s rfl rfl hs
theorem ieqD (a b:Int):ieq a b=decide (a=b):=by by_cases h:a=b<;>simp [ieq,h]
theorem Z7u:∀ (l:List Z1) (k:Nat) (q:Z1),l[k]?=some q→cntE.cntEs (l.take (k+1))=cntE.cntEs (l.take k)+cntE q
 | [],k,q,h=>by simp at h
 | p::l,0,q,h=>by simp at h;subst h;simp [cntE.cntEs]
 | p::l,k+1,q,h=>by
  have:=Z7u l k q (by simpa using h)
  simp only [List.take_succ_cons,cntE.cntEs]
  omega
theorem Z2t:∀ (l:List Z1) (k:Nat),cntE.cntEs (l.take k)≤cntE.cntEs l
 | [],k=>by simp
 | p::l,0=>by simp [cntE.cntEs]
 | p::l,k+1=>by
  have:=Z2t l k
  simp only [List.take_succ_cons,cntE.cntEs]
  omega
theorem W2t (a b:Q2):Q8t a b=some (Q7k a b):=by
 unfold Q8t Q7k
 by_cases h1:a.data=b.data
 ·by_cases h2:b.index=0
  ·simp [ieqD,h1,h2]
  ·simp [ieqD,h1,h2]
 ·simp [ieqD,h1]
theorem Z39 (a b:Q2):Q3k a b=some (Q7k a b):=by
 unfold Q3k Q7k
 by_cases h1:a.data=b.data
 ·by_cases h2:b.index=0
  ·simp [ieqD,h1,h2]
  ·simp [ieqD,h1,h2]
 ·simp [ieqD,h1]
theorem X3o {l:List Q5}{x:Int}(h:∀ v∈l,v.var≠x):l.find? (fun v=>decide (v.var=x))=none:=by
 rw [List.find?_eq_none]
 intro v hv
 simpa using h v hv
theorem W9k {l:List Q5}(hd:Q0e l=true){k:Nat}{v:Q5}{x:Int}(h:l[k]?=some v)(hx:v.var=x):l.find? (fun v=>decide (v.var=x))=some v:=by
 subst hx
 exact W9i hd (U1 h)
theorem X63 {w:List Q4}{T:List Z0}{vars:List Q5}(hd:Q0e vars=true)(x:Int):∃ u,Q2b (Q4t.mk w T vars) x=some (u,(vars.find? fun v=>decide (v.var=x)).isSome)∧∀ v,vars.find? (fun v=>decide (v.var=x))=some v→u=v.typ:=by
 unfold Q2b
 have h:=Q6b vars (fun a0=>Q0q a0 x) (fun v=>decide (v.var=x)) (fun v _=>by unfold Q0q;rw [ieqD])
 obtain ⟨i,hi,h⟩:=h
 rw [show Q10 vars (fun a0=>Q0q a0 x)=some i from hi]
 simp only [U0]
 rcases h with ⟨k,v,rfl,h1,h2⟩ | ⟨rfl,h2⟩
 ·have hf:=W9k hd h1 (by simpa using h2)
  rw [if_neg (by rw [Z5];omega),Q00 h1]
  simp only [U0]
  rw [hf]
  exact ⟨v.typ,rfl,fun v' e=>by cases e;rfl⟩
 ·have hf:=X3o (l:=vars) (x:=x) (fun v hv=>by simpa using h2 v hv)
  rw [if_pos (by rw [Z5];omega),hf]
  exact ⟨_,rfl,fun v' e=>by cases e⟩
theorem W89 {w:List Q4}{t:Q2}(hT:WT w t)(T:List Z0)(hTl:T.length≤1000){vars:List Q5}(hd:Q0e vars=true)(e:Z1) :
  ∃ ts,Q59 (Q4t.mk w T vars) t e=some (ts,Q4a w T vars t e)∧(Q4a w T vars t e=true→ts=Y9 w T t e):=by
 unfold Q59
 by_cases h1:e.op=1
 ·rw [if_pos (by rw [Q8];exact h1)]
  have hn:Q4a w T vars t e=(decide (t.data = -1)&&(decide (0≤e.n)&&decide (e.n≤9))&&decide (e.ctor=0)):=by simp [Q4a,h1]
  have hk:Y9 w T t e=[]:=by simp [Y9,h1]
  rw [hn,hk]
  by_cases h2:t.data = -1
  ·rw [if_pos (by rw [Q8];exact h2),Q8z]
   simp only [U0]
   by_cases h3:(decide (0≤e.n)&&decide (e.n≤9))=true
   ·rw [if_pos h3]
    exact ⟨[],by rw [ieqD];simp [h2,h3],fun _=>rfl⟩
   ·rw [if_neg h3]
    exact ⟨[],by rw [show (decide (0≤e.n)&&decide (e.n≤9))=false by simpa using h3];simp,fun _=>rfl⟩
  ·rw [if_neg (by rw [Q8];exact h2)]
   exact ⟨[],by simp [h2],fun _=>rfl⟩
 rw [if_neg (by rw [Q8];exact h1)]
 by_cases h2:e.op=2
 ·rw [if_pos (by rw [Q8];exact h2)]
  have hn:Q4a w T vars t e=(((vars.find? fun v=>decide (v.var=e.n)).elim false fun v=>Q7k v.typ t)&&decide (e.ctor=0)):=by simp [Q4a,h2]
  have hk:Y9 w T t e=[]:=by simp [Y9,h2]
  rw [hn,hk]
  obtain ⟨u,e1,e2⟩:=X63 (w:=w) (T:=T) hd e.n
  rw [e1]
  simp only [U0]
  cases hf:vars.find? fun v=>decide (v.var=e.n) with
  | none=>exact ⟨[],by simp,fun _=>rfl⟩
  | some v=>
   rw [e2 v hf]
   simp only [Option.isSome_some,if_true,Option.elim_some]
   rw [W2t]
   simp only [U0]
   by_cases h3:Q7k v.typ t=true
   ·rw [if_pos h3]
    exact ⟨[],by rw [ieqD,h3];simp,fun _=>rfl⟩
   ·rw [if_neg h3]
    exact ⟨[],by rw [show Q7k v.typ t=false by simpa using h3];simp,fun _=>rfl⟩
 rw [if_neg (by rw [Q8];exact h2)]
 by_cases h3:e.op=3
 ·rw [if_pos (by rw [Q8];exact h3)]
  have hn:Q4a w T vars t e=(decide (e.n=0)&&decide (e.ctor∈X2 w t)):=by simp [Q4a,h3]
  have hk:Y9 w T t e=W0 w t e.ctor:=by simp [Y9,h3]
  rw [hn,hk]
  by_cases h4:e.n=0
  ·rw [if_neg (by rw [Bool.not_eq_true',Z2];exact fun h=>h h4),hT.c2]
   simp only [U0]
   rw [Z0t]
   simp only [U0]
   by_cases h5:e.ctor∈X2 w t
   ·rw [if_neg (by simp [h5]),hT.a2 _ h5]
    exact ⟨_,by simp [h4,h5],fun _=>rfl⟩
   ·rw [if_pos (by simp [h5])]
    exact ⟨[],by simp [h5],fun h=>by simp [h5] at h⟩
  ·rw [if_pos (by rw [Bool.not_eq_true',Z2];exact h4)]
   exact ⟨[],by simp [h4],fun h=>by simp [h4] at h⟩
 rw [if_neg (by rw [Q8];exact h3)]
 by_cases h4:e.op=4
 ·rw [if_pos (by rw [Q8];exact h4)]
  have hn:Q4a w T vars t e=(decide (t.data = -1)&&decide (e.n=0)&&decide (e.ctor=0)):=by simp [Q4a,h4]
  have hk:Y9 w T t e=[t,t]:=by simp [Y9,h4]
  rw [hn,hk]
  by_cases h5:t.data = -1
  ·rw [if_pos (by rw [Q8];exact h5)]
   by_cases h6:e.n=0
   ·rw [if_pos (by rw [Q8];exact h6)]
    exact ⟨_,by rw [ieqD];simp [h5,h6],fun _=>rfl⟩
   ·rw [if_neg (by rw [Q8];exact h6)]
    exact ⟨_,by simp [h6],fun _=>rfl⟩
  ·rw [if_neg (by rw [Q8];exact h5)]
   exact ⟨_,by simp [h5],fun _=>rfl⟩
 rw [if_neg (by rw [Q8];exact h4)]
 by_cases h5:e.op=5
 ·rw [if_pos (by rw [Q8];exact h5)]
  have hn:Q4a w T vars t e=((decide (0≤e.n)&&decide (e.n<T.length))&&decide (e.ctor=0)&&((T[e.n.toNat]?).elim false fun f=>Q7k f.res t)):=by simp [Q4a,h5]
  have hk:Y9 w T t e=[(T[e.n.toNat]?).elim tI fun f=>f.arg]:=by simp [Y9,h5]
  rw [hn,hk]
  have hs:wsub .i64 (lenZ T.length) 1=(T.length:Int)-1:=by unfold lenZ;rw [Q3v]<;>omega
  simp only
  rw [hs,Q8z]
  simp only [U0]
  have hlt:(decide (0≤e.n)&&decide (e.n≤(T.length:Int)-1))=(decide (0≤e.n)&&decide (e.n<T.length)):=by
   congr 1
   by_cases h:e.n<T.length
   ·rw [decide_eq_true h,decide_eq_true (by omega)]
   ·rw [decide_eq_false h,decide_eq_false (by omega)]
  rw [hlt]
  by_cases h6:(decide (0≤e.n)&&decide (e.n<T.length))=true
  ·rw [if_neg (by rw [h6];simp)]
   by_cases h7:e.ctor=0
   ·rw [if_neg (by rw [Bool.not_eq_true',Z2];exact fun h=>h h7)]
    have h8:=h6
    simp only [Bool.and_eq_true,decide_eq_true_eq] at h8
    have hf:T[e.n.toNat]?=some (T[e.n.toNat]'(by omega)):=U10 (by omega)
    rw [Q7b h8.1 hf]
    simp only [U0]
    rw [W2t,hf]
    exact ⟨_,by rw [h6];simp [h7],fun _=>rfl⟩
   ·rw [if_pos (by rw [Bool.not_eq_true',Z2];exact h7)]
    exact ⟨[],by simp [h7],fun h=>by simp [h7] at h⟩
  ·have h6':(decide (0≤e.n)&&decide (e.n<T.length))=false:=Bool.eq_false_iff.2 h6
   rw [h6',if_pos (show (!false)=true from rfl)]
   exact ⟨[],by simp,fun h=>by simp at h⟩
 rw [if_neg (by rw [Q8];exact h5)]
 have hn:Q4a w T vars t e=false:=by simp [Q4a,h1,h2,h3,h4,h5]
 rw [hn]
 exact ⟨[],rfl,fun h=>by cases h⟩
def okE (w:List Q4)(T:List Z0)(vars:List Q5)(d:Nat)(t:Q2)(e:Z1)(c:Nat):Bool:=Q5e w T vars d t e&&decide (c+cntE e≤60)
theorem W7s {w:List Q4}{T:List Z0}{vars:List Q5}{d:Nat}{t:Q2}{e:Z1}{c:Nat}(h:Q5e w T vars d t e=false):okE w T vars d t e c=false:=by simp [okE,h]
theorem V4o {w:List Q4}(hw:WW w){T:List Z0}(hTl:T.length≤1000)(hTa:∀ f∈T,f.arg∈tys w){vars:List Q5}(hd:Q0e vars=true):∀ (d n:Nat) (t:Q2) (e:Z1) (c:Nat),t∈tys w→c≤60→d+2≤n→d≤10→
  Ret (Q2l n (Q4t.mk w T vars) t e (11-(d:Int)) (c:Int)) (fun r=>r.1=okE w T vars d t e c∧(okE w T vars d t e c=true→r.2=((c+cntE e:Nat):Int))):=by
 intro d
 induction d with
 | zero=>
  intro n t e c ht hc hn hd
  obtain ⟨n,rfl⟩:∃ k,n=k+1:=⟨n-1,by omega⟩
  have hb:okE w T vars 0 t e c=false:=W7s rfl
  unfold Q2l
  refine Ret.ite (fun _=>.some ⟨hb.symm,fun h=>by rw [hb] at h;cases h⟩) (fun _=>?_)
  rw [if_pos (by rw [Z5];omega)]
  exact .some ⟨hb.symm,fun h=>by rw [hb] at h;cases h⟩
 | succ d ih=>
  intro n t e c ht hc hn hd10
  obtain ⟨n,rfl⟩:∃ k,n=k+1:=⟨n-1,by omega⟩
  have hT:=hw.ty t ht
  unfold Q2l
  have hc1:wadd .i64 (c:Int) 1=((c+1:Nat):Int):=by rw [J9]<;>omega
  rw [hc1]
  have hpos:1≤cntE e:=by rw [X5a];omega
  refine Ret.ite (fun hlt=>?_) (fun hle=>?_)
  ·rw [Z5] at hlt
   have hb:okE w T vars (d+1) t e c=false:=by simp only [okE,Bool.and_eq_false_iff,decide_eq_false_iff_not];right;omega
   exact .some ⟨hb.symm,fun h=>by rw [hb] at h;cases h⟩
  rw [J8] at hle
  rw [if_neg (by rw [Z5];omega)]
  have bad:Q5e w T vars (d+1) t e=false→okE w T vars (d+1) t e c=false:=W7s
  obtain ⟨ts,e1,e2⟩:=W89 hT T hTl hd e
  rw [e1]
  simp only [U0]
  refine Ret.ite (fun h=>?_) (fun h=>?_)
  ·rw [Bool.not_eq_true'] at h
   have hb:=bad (by rw [Q5e,h];rfl)
   exact .some ⟨hb.symm,fun h=>by rw [hb] at h;cases h⟩
  rw [Bool.not_eq_false'] at h
  have hts:=e2 h
  subst hts
  have hg:Q5e w T vars (d+1) t e=(decide (e.kids.length=(Y9 w T t e).length)&&((Y9 w T t e).zip e.kids).all fun x=>Q5e w T vars d x.1 x.2):=by rw [Q5e,h];rfl
  have hkt:=Z0i hw hTa ht h
  refine Ret.ite (fun hl=>?_) (fun hl=>?_)
  ·rw [Bool.not_eq_true',Z2] at hl
   simp only [lenZ] at hl
   have hb:=bad (by rw [hg];simp only [Bool.and_eq_false_iff,decide_eq_false_iff_not];left;omega)
   exact .some ⟨hb.symm,fun h=>by rw [hb] at h;cases h⟩
  rw [Bool.not_eq_false',Q8] at hl
  simp only [lenZ] at hl
  have hcv:=X5a e
  refine Ret.ctl (Z4 e.kids (fun k s=>s=((c+1+cntE.cntEs (e.kids.take k):Nat):Int)∧c+1+cntE.cntEs (e.kids.take k)≤60∧∀ (j:Nat) (a:Q2) (x:Z1),j<k→(Y9 w T t e)[j]?=some a→e.kids[j]?=some x→Q5e w T vars d a x=true) (fun r:Bool×Int=>r.1=okE w T vars (d+1) t e c∧(okE w T vars (d+1) t e c=true→r.2=((c+cntE e:Nat):Int))) (fun s=>s=((c+cntE e:Nat):Int)∧okE w T vars (d+1) t e c=true) ⟨by simp [cntE.cntEs],by simp only [List.take_zero,cntE.cntEs];omega,fun j a x hj=>by omega⟩ (fun k x s hx hI=>?_) (fun s hI=>?_)) (fun r hr=>.some hr) (fun s hs=>.some ⟨hs.2.symm,fun _=>hs.1⟩)
  ·obtain ⟨rfl,i2,i3⟩:=hI
   have hk:=(List.getElem?_eq_some_iff.1 hx).1
   have ha:(Y9 w T t e)[k]?=some ((Y9 w T t e)[k]'(by omega)):=by simp
   rw [Q00 ha]
   simp only [U0]
   have hdd:wadd .i64 (11-((d+1:Nat):Int)) 1=11-(d:Int):=by rw [J9]<;>omega
   rw [hdd]
   refine Ret.bind (ih n _ x _ (hkt _ (U1 ha)) i2 (by omega) (by omega)) (fun r hr=>?_)
   obtain ⟨r1,r2⟩:=hr
   have htk:=Z7u e.kids k x hx
   refine Ret.ite (fun h=>?_) (fun h=>?_)
   ·rw [Bool.not_eq_true',r1] at h
    have e1:okE w T vars (d+1) t e c=false:=by
     simp only [okE,Bool.and_eq_false_iff,decide_eq_false_iff_not] at h ⊢
     rcases h with h | h
     ·left
      rw [hg,Bool.and_eq_false_iff]
      right
      rw [List.all_eq_false]
      exact ⟨_,U1 (Q3u ha hx),by simp [h]⟩
     ·right
      have:=Z2t e.kids (k+1)
      omega
    exact .some ⟨e1.symm,fun h=>by rw [e1] at h;cases h⟩
   ·rw [Bool.not_eq_false',r1] at h
    have r3:=r2 h
    simp only [okE,Bool.and_eq_true,decide_eq_true_eq] at h
    refine .some ⟨?_,by omega,fun j a y hj h1 h2=>?_⟩
    ·rw [r3];omega
    ·by_cases hjk:j=k
     ·subst hjk
      rw [ha] at h1
      rw [hx] at h2
      cases h1
      cases h2
      exact h.1
     ·exact i3 j a y (by omega) h1 h2
  ·obtain ⟨rfl,i2,i3⟩:=hI
   rw [List.take_length] at i2 ⊢
   refine ⟨by omega,?_⟩
   simp only [okE,Bool.and_eq_true,decide_eq_true_eq]
   refine ⟨?_,by omega⟩
   rw [hg]
   simp only [Bool.and_eq_true,decide_eq_true_eq,List.all_eq_true]
   refine ⟨by omega,fun y hy=>?_⟩
   obtain ⟨j,hj⟩:=List.mem_iff_getElem?.1 hy
   obtain ⟨e1,e2⟩:=List.getElem?_zip_eq_some.1 hj
   exact i3 j _ _ (List.getElem?_eq_some_iff.1 e2).1 e1 e2
theorem X0s {w:List Q4}(hw:WW w){T:List Z0}(hTl:T.length≤1000)(hTa:∀ f∈T,f.arg∈tys w){vars:List Q5}(hd:Q0e vars=true){n:Nat}(hn:100≤n){t:Q2}(ht:t∈tys w)(e:Z1):Q2m n (Q4t.mk w T vars) t e=some (Q5x w T vars t e):=by
 suffices hs:Ret (Q2m n (Q4t.mk w T vars) t e) (fun r=>r=Q5x w T vars t e) by
  obtain ⟨a,e,rfl⟩:=hs
  exact e
 unfold Q2m
 refine Ret.bind (V4o hw hTl hTa hd 10 n t e 0 ht (by omega) (by omega) (by omega)) (fun r hr=>.some ?_)
 rw [hr.1]
 simp [okE,Q5x]
theorem W72 {w:List Q4}{t:Q2}(hT:WT w t)(T:List Z0)(hTl:T.length≤1000){vars:List Q5}(hd:Q0e vars=true)(e:Z1) :
  ∃ ts,Q7h w T vars t e=some (ts,Q4a w T vars t e)∧(Q4a w T vars t e=true→ts=Y9 w T t e):=by
 unfold Q7h
 have hti:Q7x [ieq t.data (-1),ieq t.index 0]=decide (t.data = -1):=by
  by_cases h:t.data = -1
  ·have:=(hT.ti h).1
   rw [this];rfl
  ·simp [Q7x,ieqD,h]
 rw [hti]
 by_cases h1:e.op=1
 ·have hn:Q4a w T vars t e=(decide (t.data = -1)&&(decide (0≤e.n)&&decide (e.n≤9))&&decide (e.ctor=0)):=by simp [Q4a,h1]
  have hk:Y9 w T t e=[]:=by simp [Y9,h1]
  rw [hn,hk]
  by_cases h2:e.ctor=0
  ·by_cases h3:t.data = -1
   ·by_cases h4:0≤e.n
    ·refine ⟨[],?_,fun _=>rfl⟩
     simp [ieqD,h1,h2,h3,h4,hti,ile]
    ·refine ⟨[],?_,fun _=>rfl⟩
     simp [ieqD,h1,h2,h3,h4,hti,ile]
   ·refine ⟨[],?_,fun _=>rfl⟩
    simp [ieqD,h1,h2,h3,hti]
  ·refine ⟨[],?_,fun _=>rfl⟩
   simp [ieqD,h1,h2]
 by_cases h2:e.op=2
 ·have hn:Q4a w T vars t e=(((vars.find? fun v=>decide (v.var=e.n)).elim false fun v=>Q7k v.typ t)&&decide (e.ctor=0)):=by simp [Q4a,h2]
  have hk:Y9 w T t e=[]:=by simp [Y9,h2]
  rw [hn,hk]
  by_cases h3:e.ctor=0
  ·obtain ⟨i,hi,hh⟩:=X4x vars e.n
   rcases hh with ⟨k,v,rfl,g1,g2,_⟩ | ⟨rfl,g2⟩
   ·have hf:=W9k hd g1 g2
    refine ⟨[],?_,fun _=>rfl⟩
    rw [hf]
    simp [ieqD,h2,h3,hi,ile,Q00 g1,Z39]
   ·have hf:=X3o (l:=vars) (x:=e.n) g2
    refine ⟨[],?_,fun _=>rfl⟩
    rw [hf]
    simp [ieqD,h2,h3,hi,ile]
  ·refine ⟨[],?_,fun _=>rfl⟩
   simp [ieqD,h2,h3]
 by_cases h3:e.op=3
 ·have hn:Q4a w T vars t e=(decide (e.n=0)&&decide (e.ctor∈X2 w t)):=by simp [Q4a,h3]
  have hk:Y9 w T t e=W0 w t e.ctor:=by simp [Y9,h3]
  rw [hn,hk]
  by_cases h4:e.n=0
  ·by_cases h5:e.ctor∈X2 w t
   ·refine ⟨W0 w t e.ctor,?_,fun _=>rfl⟩
    simp [ieqD,h3,h4,h5,hT.c1,X3j,hT.a1 _ h5]
   ·refine ⟨[],?_,fun h=>by simp [h5] at h⟩
    simp [ieqD,h3,h4,h5,hT.c1,X3j]
  ·refine ⟨[],?_,fun h=>by simp [h4] at h⟩
   simp [ieqD,h3,h4]
 by_cases h4:e.op=4
 ·have hn:Q4a w T vars t e=(decide (t.data = -1)&&decide (e.n=0)&&decide (e.ctor=0)):=by simp [Q4a,h4]
  have hk:Y9 w T t e=[t,t]:=by simp [Y9,h4]
  rw [hn,hk]
  by_cases h5:e.ctor=0
  ·by_cases h6:e.n=0
   ·refine ⟨[tI,tI],?_,fun h=>?_⟩
    ·simp [ieqD,h4,h5,h6,hti,tI]
    ·have h7:t.data = -1:=by simpa [h5,h6] using h
     rw [(hT.ti h7).1]
   ·refine ⟨[],?_,fun h=>by simp [h6] at h⟩
    simp [ieqD,h4,h5,h6]
  ·refine ⟨[],?_,fun h=>by simp [h5] at h⟩
   simp [ieqD,h4,h5]
 by_cases h5:e.op=5
 ·have hn:Q4a w T vars t e=((decide (0≤e.n)&&decide (e.n<T.length))&&decide (e.ctor=0)&&((T[e.n.toNat]?).elim false fun f=>Q7k f.res t)):=by simp [Q4a,h5]
  have hk:Y9 w T t e=[(T[e.n.toNat]?).elim tI fun f=>f.arg]:=by simp [Y9,h5]
  rw [hn,hk]
  by_cases h6:e.ctor=0
  ·by_cases h7:0≤e.n
   ·by_cases h8:e.n<T.length
    ·have hf:T[e.n.toNat]?=some (T[e.n.toNat]'(by omega)):=U10 (by omega)
     refine ⟨[(T[e.n.toNat]'(by omega)).arg],?_,fun _=>by rw [hf];rfl⟩
     rw [hf]
     have a1:ilt e.n 0=false:=by rw [J8];omega
     have a2:ile (lenZ T.length) e.n=false:=by rw [Q0n];simp only [lenZ];omega
     simp [ieqD,h5,h6,h7,h8,a1,a2,Q7b h7 hf,Z39]
    ·have a1:ilt e.n 0=false:=by rw [J8];omega
     have a2:ile (lenZ T.length) e.n=true:=by rw [W4];simp only [lenZ];omega
     refine ⟨[],?_,fun h=>by simp [h8] at h⟩
     simp [ieqD,h5,h6,h8,a1,a2]
   ·have a1:ilt e.n 0=true:=by rw [Z5];omega
    refine ⟨[],?_,fun h=>by simp [h7] at h⟩
    simp [ieqD,h5,h6,h7,a1]
  ·refine ⟨[],?_,fun h=>by simp [h6] at h⟩
   simp [ieqD,h5,h6]
 have hn:Q4a w T vars t e=false:=by simp [Q4a,h1,h2,h3,h4,h5]
 rw [hn]
 refine ⟨[],?_,fun h=>by cases h⟩
 by_cases h6:e.ctor=0
 ·simp [ieqD,h1,h2,h3,h4,h5,h6]
 ·simp [ieqD,h1,h2,h3,h4,h5,h6]
theorem V02 {w:List Q4}(hw:WW w){T:List Z0}(hTl:T.length≤1000)(hTa:∀ f∈T,f.arg∈tys w){vars:List Q5}(hd:Q0e vars=true):∀ (d n:Nat) (t:Q2) (e:Z1),t∈tys w→d+2≤n→d≤100→Q2z n w T vars t e (d:Int)=some (Q5e w T vars d t e):=by
 intro d
 induction d with
 | zero=>
  intro n t e ht hn hd
  obtain ⟨n,rfl⟩:∃ k,n=k+1:=⟨n-1,by omega⟩
  unfold Q2z
  rw [if_pos (by rw [Z5];omega)]
  rfl
 | succ d ih=>
  intro n t e ht hn hd10
  obtain ⟨n,rfl⟩:∃ k,n=k+1:=⟨n-1,by omega⟩
  have hT:=hw.ty t ht
  suffices hs:Ret (Q2z (n+1) w T vars t e ((d+1:Nat):Int)) (fun r=>r=Q5e w T vars (d+1) t e) by
   obtain ⟨a,e,rfl⟩:=hs
   exact e
  unfold Q2z
  rw [if_neg (by rw [Z5];omega)]
  obtain ⟨ts,e1,e2⟩:=W72 hT T hTl hd e
  rw [e1]
  simp only [U0]
  refine Ret.ite (fun h=>?_) (fun h=>?_)
  ·rw [Bool.not_eq_true'] at h
   exact .some (by rw [Q5e,h];rfl)
  rw [Bool.not_eq_false'] at h
  have hts:=e2 h
  subst hts
  have hg:Q5e w T vars (d+1) t e=(decide (e.kids.length=(Y9 w T t e).length)&&((Y9 w T t e).zip e.kids).all fun x=>Q5e w T vars d x.1 x.2):=by rw [Q5e,h];rfl
  have hkt:=Z0i hw hTa ht h
  rw [hg]
  refine Ret.ite (fun hl=>?_) (fun hl=>?_)
  ·rw [Bool.not_eq_true',Z2] at hl
   simp only [lenZ] at hl
   refine .some ?_
   rw [decide_eq_false (by omega)]
   rfl
  rw [Bool.not_eq_false',Q8] at hl
  simp only [lenZ] at hl
  rw [decide_eq_true (by omega),Bool.true_and]
  have hws:wsub .i64 ((d+1:Nat):Int) 1=(d:Int):=by rw [Q3v]<;>omega
  rw [hws]
  refine Ret.ctl (Z4 (Y9 w T t e) (fun k _=>∀ (j:Nat) (a:Q2) (x:Z1),j<k→(Y9 w T t e)[j]?=some a→e.kids[j]?=some x→Q5e w T vars d a x=true) (fun r:Bool=>r=((Y9 w T t e).zip e.kids).all fun x=>Q5e w T vars d x.1 x.2) (fun _=>(((Y9 w T t e).zip e.kids).all fun x=>Q5e w T vars d x.1 x.2)=true) (fun j a x hj=>by omega) (fun k a s ha hI=>?_) (fun s hI=>?_)) (fun r hr=>.some hr) (fun s hs=>.some hs.symm)
  ·have hk:=(List.getElem?_eq_some_iff.1 ha).1
   have hx:e.kids[k]?=some (e.kids[k]'(by omega)):=by simp
   rw [Q00 hx]
   simp only [U0]
   rw [ih n a _ (hkt _ (U1 ha)) (by omega) (by omega)]
   simp only [U0]
   cases hgk:Q5e w T vars d a (e.kids[k]'(by omega)) with
   | false=>
    refine .some ?_
    show false=_
    symm
    rw [List.all_eq_false]
    exact ⟨_,U1 (Q3u ha hx),by simp [hgk]⟩
   | true=>
    refine .some (fun j b y hj h1 h2=>?_)
    by_cases hjk:j=k
    ·subst hjk
     rw [ha] at h1
     rw [hx] at h2
     cases h1
     cases h2
     exact hgk
    ·exact hI j b y (by omega) h1 h2
  ·rw [List.all_eq_true]
   intro y hy
   obtain ⟨j,hj⟩:=List.mem_iff_getElem?.1 hy
   obtain ⟨e1,e2⟩:=List.getElem?_zip_eq_some.1 hj
   exact hI j _ _ (List.getElem?_eq_some_iff.1 e1).1 e1 e2
theorem X9c:∀ (n:Nat) (p:Z1) (most:Nat),most<n→most≤1000→Q40 n p (most:Int)=some ((min (cntE p) (most+1):Nat):Int):=by
 intro n
 induction n with
 | zero=>intro p most h;omega
 | succ n ih=>
  intro p most hn hm
  unfold Q40
  have key:=Z4 (ρ:=Int) (f:=fun k94 x95 (s88:Int)=>
   (if (ile s88 (most:Int))=true then
   ((Q40 n x95 (wsub .i64 (most:Int) s88)).bind fun r103=>
   some (Ctl.go (wadd .i64 s88 r103)))
   else
   some (Ctl.brk s88))) p.kids (s0:=1) (fun k s=>∃ m:Nat,s=(m:Int)∧m=min (1+cntE.cntEs (p.kids.take k)) (most+1)) (fun _=>False) (fun s=>s=((min (cntE p) (most+1):Nat):Int)) ⟨1,rfl,by simp [cntE.cntEs]⟩ (fun k q s hq hI=>?_) (fun s hI=>?_)
  ·have:=Ret.ctl (Q:=fun b=>b=((min (cntE p) (most+1):Nat):Int)) key (g:=fun (o:Ctl Int Int)=>match o with
    | .ret r=>some r
    | .go _=>none
    | .brk s=>some s) (fun r hr=>hr.elim) (fun s hs=>.some hs)
   obtain ⟨b,e,rfl⟩:=this
   exact e
  ·obtain ⟨m,rfl,hm2⟩:=hI
   refine Ret.ite (fun h=>?_) (fun h=>?_)
   ·rw [W4] at h
    have hle:m≤most:=by omega
    have hws:wsub .i64 (most:Int) (m:Int)=((most-m:Nat):Int):=by rw [Q3v (by omega) (by omega)];omega
    rw [hws,ih q (most-m) (by omega) (by omega)]
    simp only [U0]
    rw [J9 (by omega) (by omega)]
    refine .some ⟨m+min (cntE q) (most-m+1),by push_cast;rfl,?_⟩
    rw [Z7u p.kids k q hq]
    omega
   ·rw [Q0n] at h
    refine .some ?_
    have h1:=Z2t p.kids k
    have h2:=X5a p
    show (m:Int)=_
    have:m=min (cntE p) (most+1):=by omega
    rw [this]
  ·obtain ⟨m,rfl,hm2⟩:=hI
   rw [List.take_length] at hm2
   have h2:=X5a p
   have:m=min (cntE p) (most+1):=by omega
   rw [this]
theorem Z9w {w:List Q4}(hw:WW w){T:List Z0}(hTl:T.length≤1000)(hTa:∀ f∈T,f.arg∈tys w){vars:List Q5}(hd:Q0e vars=true){n:Nat}(hn:100≤n){t:Q2}(ht:t∈tys w)(e:Z1):Q6l n w T vars t e=some (Q5x w T vars t e):=by
 unfold Q6l Q5x
 rw [show (10:Int)=((10:Nat):Int) from rfl,V02 hw hTl hTa hd 10 n t e ht (by omega) (by omega)]
 simp only [U0]
 cases Q5e w T vars 10 t e with
 | false=>rfl
 | true=>
  simp only [if_true,Bool.true_and]
  rw [show (60:Int)=((60:Nat):Int) from rfl,X9c n e 60 (by omega) (by omega)]
  simp only [U0]
  congr 1
  by_cases h:cntE e≤60
  ·rw [decide_eq_true h,W4];omega
  ·rw [decide_eq_false h,Q0n];omega
theorem Q98 {w:List Q4}{t:Q2} : t∈tys w↔t=tI∨(0≤t.data∧t.data<w.length∧0≤t.index∧t.index≤3):=by
 unfold tys
 simp only [U8,List.mem_flatMap,U11,List.mem_range]
 refine or_congr Iff.rfl ⟨?_,fun h=>?_⟩
 ·rintro ⟨d,hd,i,hi,rfl⟩
  simp only [tD]
  omega
 ·refine ⟨t.data.toNat,by omega,t.index.toNat,by omega,?_⟩
  cases t
  simp only [tD,Q2.mk.injEq] at h ⊢
  omega
theorem Z9k {t:Q2} : t=tI↔t.data = -1∧t.index=0:=by
 cases t
 simp [tI]
theorem X0q {w:List Q4}(hl:w.length≤1000)(t:Q2):Q2v w t=some (decide (t∈tys w)):=by
 unfold Q2v
 have hws:wsub .i64 (lenZ w.length) 1=(w.length:Int)-1:=by unfold lenZ;rw [Q3v]<;>omega
 by_cases h:t=tI
 ·have h1:=Z9k.1 h
  rw [if_pos (by simp [Q7x,ieqD,h1]),decide_eq_true (Q98.2 (.inl h))]
 ·rw [if_neg (by
   intro h2
   apply h
   rw [Z9k]
   simpa [Q7x,ieqD] using h2),hws,Q8z]
  simp only [U0]
  by_cases h2:0≤t.data∧t.data<w.length
  ·rw [if_pos (by simp only [Bool.and_eq_true,decide_eq_true_eq];omega),Q8z]
   simp only [U0]
   congr 1
   by_cases h3:0≤t.index∧t.index≤3
   ·rw [decide_eq_true (Q98.2 (.inr ⟨h2.1,h2.2,h3.1,h3.2⟩))]
    simp [h3]
   ·have hne:decide (t∈tys w)=false:=decide_eq_false fun hm=>by
     rcases Q98.1 hm with h4 | h4
     ·exact h h4
     ·omega
    rw [hne]
    simp only [Bool.and_eq_false_iff,decide_eq_false_iff_not]
    omega
  ·rw [if_neg (by simp only [Bool.and_eq_true,decide_eq_true_eq];omega)]
   congr 1
   symm
   rw [decide_eq_false_iff_not]
   intro hm
   rcases Q98.1 hm with h4 | h4
   ·exact h h4
   ·omega
theorem Z9s {w:List Q4}(t:Q2):Q36 w t=some (decide (t∈tys w)):=by
 unfold Q36 Q94
 by_cases h1:t.data = -1
 ·rw [if_pos (by rw [Q8];exact h1)]
  simp only [U0]
  by_cases h2:t.index=0
  ·rw [if_pos (by rw [Q8];exact h2),decide_eq_true (Q98.2 (.inl (Z9k.2 ⟨h1,h2⟩)))]
   congr 1
   rw [W4];omega
  ·rw [if_neg (by rw [Q8];exact h2)]
   congr 1
   symm
   rw [decide_eq_false_iff_not]
   intro hm
   rcases Q98.1 hm with h4 | h4
   ·exact h2 (Z9k.1 h4).2
   ·omega
 ·rw [if_neg (by rw [Q8];exact h1)]
  have hne:t≠tI:=fun h=>h1 (Z9k.1 h).1
  by_cases h2:0≤t.data
  ·rw [if_pos (by rw [W4];exact h2)]
   by_cases h3:t.data<w.length
   ·rw [if_pos (by rw [Z5];simp only [lenZ];exact h3)]
    by_cases h4 : -1≤t.index
    ·rw [if_pos (by rw [W4];exact h4)]
     simp only [U0]
     by_cases h5:t.index≤3
     ·rw [if_pos (by rw [W4];exact h5)]
      congr 1
      by_cases h6:0≤t.index
      ·rw [decide_eq_true (Q98.2 (.inr ⟨h2,h3,h6,h5⟩)),W4];exact h6
      ·rw [decide_eq_false (fun hm=>(Q98.1 hm).elim hne fun h7=>by omega),Q0n];omega
     ·rw [if_neg (by rw [W4];exact h5)]
      congr 1
      symm
      rw [decide_eq_false_iff_not]
      intro hm
      rcases Q98.1 hm with h7 | h7
      ·exact hne h7
      ·omega
    ·rw [if_neg (by rw [W4];exact h4)]
     simp only [U0,U2,if_false]
     congr 1
     symm
     rw [decide_eq_false_iff_not]
     intro hm
     rcases Q98.1 hm with h7 | h7
     ·exact hne h7
     ·omega
   ·rw [if_neg (by rw [Z5];simp only [lenZ];exact h3)]
    simp only [U0,U2,if_false]
    congr 1
    symm
    rw [decide_eq_false_iff_not]
    intro hm
    rcases Q98.1 hm with h7 | h7
    ·exact hne h7
    ·omega
  ·rw [if_neg (by rw [W4];exact h2)]
   simp only [U0,U2,if_false]
   congr 1
   symm
   rw [decide_eq_false_iff_not]
   intro hm
   rcases Q98.1 hm with h7 | h7
   ·exact hne h7
   ·omega
theorem X0x {l:List GFun}(h:l.length≤1000):Q43 l=some (l.map (·.typ)):=by
 suffices hs:Ret (Q43 l) (fun r=>r=l.map (·.typ)) by
  obtain ⟨a,e,rfl⟩:=hs
  exact e
 unfold Q43
 refine Ret.ctl (Z4 l (fun k s=>s=(l.take k).map (·.typ)) (fun _=>False) (fun s=>s=l.map (·.typ)) rfl (fun k x s hx hI=>?_) (fun s hI=>by rw [hI,List.take_length])) (fun r hr=>hr.elim) (fun s hs=>.some hs)
 have hk:=(List.getElem?_eq_some_iff.1 hx).1
 rw [V5 (by simp only [Q9,U3,U4];rw [hI,U7,U6];omega)]
 exact .some (by rw [hI,List.take_add_one,hx];simp)
theorem Z38 {l:List GFun}(h:l.length≤1000):Q1v l=some (l.map (·.typ)):=by
 suffices hs:Ret (Q1v l) (fun r=>r=l.map (·.typ)) by
  obtain ⟨a,e,rfl⟩:=hs
  exact e
 unfold Q1v
 refine Ret.ctl (Z4 l (fun k s=>s=(l.take k).map (·.typ)) (fun _=>False) (fun s=>s=l.map (·.typ)) rfl (fun k x s hx hI=>?_) (fun s hI=>by rw [hI,List.take_length])) (fun r hr=>hr.elim) (fun s hs=>.some hs)
 have hk:=(List.getElem?_eq_some_iff.1 hx).1
 rw [V5 (by simp only [Q9,U3,U4];rw [hI,U7,U6];omega)]
 exact .some (by rw [hI,List.take_add_one,hx];simp)
def Z5m (w:List Q4)(T:List Z0):Bool:=decide (T.length≤4)&&T.all fun f=>decide (f.arg∈tys w)&&decide (f.res∈tys w)
theorem Z7t (l:List Z0)(f:Z0→Option Bool)(g:Z0→Bool)(hf:∀ x∈l,f x=some (g x)):Q1d l f=some (l.any g):=X20 (Q6b l f g hf)
theorem X36 {w:List Q4}(hl:w.length≤1000)(T:List Z0):Q58 (Q4t.mk w T [])=some (Z5m w T):=by
 unfold Q58 Z5m
 by_cases h:T.length≤4
 ·rw [if_neg (by rw [Z5];simp only [lenZ];omega),decide_eq_true h,Bool.true_and]
  rw [Z7t T _ (fun f=>!(decide (f.arg∈tys w)&&decide (f.res∈tys w))) (fun f _=>by
   unfold Q73
   simp only
   rw [X0q hl]
   simp only [U0]
   cases decide (f.arg∈tys w) with
   | false=>rfl
   | true=>
    simp only [Bool.not_true,U2,if_false]
    rw [X0q hl]
    rfl)]
  simp only [U0]
  cases ha:T.all fun f=>decide (f.arg∈tys w)&&decide (f.res∈tys w) with
  | false=>
   rw [if_pos (by
    rw [List.all_eq_false] at ha
    obtain ⟨f,h1,h2⟩:=ha
    exact List.any_eq_true.2 ⟨f,h1,by rw [Bool.eq_false_iff.2 h2];rfl⟩)]
  | true=>
   rw [if_neg (by
    rw [List.all_eq_true] at ha
    intro h2
    obtain ⟨f,h3,h4⟩:=List.any_eq_true.1 h2
    rw [ha f h3] at h4
    cases h4)]
   rfl
 ·rw [if_pos (by rw [Z5];simp only [lenZ];omega),decide_eq_false h,Bool.false_and]
theorem Z9v {w:List Q4}(T:List Z0)(hT:T.length≤1000):Q3j w T=some (Z5m w T):=by
 suffices hs:Ret (Q3j w T) (fun r=>r=Z5m w T) by
  obtain ⟨a,e,rfl⟩:=hs
  exact e
 unfold Q3j Z5m
 refine Ret.ctl (Z4 T (fun k _=>k≤5∧∀ (j:Nat) (f:Z0),j<k→T[j]?=some f→(decide (f.arg∈tys w)&&decide (f.res∈tys w))=true) (fun r:Bool=>r=(decide (T.length≤4)&&T.all fun f=>decide (f.arg∈tys w)&&decide (f.res∈tys w))) (fun _=>T.length≤4→(T.all fun f=>decide (f.arg∈tys w)&&decide (f.res∈tys w))=true) ⟨by omega,fun j f hj=>by omega⟩ (fun k f s hf hI=>?_) (fun s hI=>fun _=>?_)) (fun r hr=>.some hr) (fun s hs=>.some ?_)
 ·have bad:(decide (f.arg∈tys w)&&decide (f.res∈tys w))=false→(T.all fun f=>decide (f.arg∈tys w)&&decide (f.res∈tys w))=false:=fun h=>by
   rw [List.all_eq_false]
   exact ⟨f,U1 hf,by rw [h];simp⟩
  refine Ret.ite (fun h=>?_) (fun h=>?_)
  ·rw [W4] at h
   rw [Z9s]
   simp only [U0]
   cases h1:decide (f.arg∈tys w) with
   | false=>exact .some (by show false=_;rw [bad (by rw [h1];rfl),Bool.and_false])
   | true=>
    simp only [Bool.not_true,U2,if_false]
    rw [Z9s]
    simp only [U0]
    cases h2:decide (f.res∈tys w) with
    | false=>exact .some (by show false=_;rw [bad (by rw [h2,Bool.and_false]),Bool.and_false])
    | true=>
     refine .some ⟨by omega,fun j g hj hg=>?_⟩
     by_cases hjk:j=k
     ·subst hjk
      rw [hf] at hg
      cases hg
      rw [h1,h2];rfl
     ·exact hI.2 j g (by omega) hg
  ·rw [Q0n] at h
   have:=(List.getElem?_eq_some_iff.1 hf).1
   exact .some (fun h4=>by omega)
 ·rw [List.all_eq_true]
  intro f hf
  obtain ⟨j,hj⟩:=List.mem_iff_getElem?.1 hf
  exact hI.2 j f (List.getElem?_eq_some_iff.1 hj).1 hj
 ·by_cases h:T.length≤4
  ·rw [hs h,decide_eq_true h,Bool.true_and,W4];simp only [lenZ];omega
  ·rw [decide_eq_false h,Bool.false_and,Q0n];simp only [lenZ];omega
def funB (w:List Q4)(T:List Z0)(f:GFun):Bool:=Q6g w f.typ.arg f.clauses&&(decide (f.bodies.length=f.clauses.length)&&(f.clauses.zip f.bodies).all fun x=>Q5x w T (Q0x w 10 f.typ.arg x.1.pat) f.typ.res x.2)
def Z0m (w:List Q4)(F:List GFun):Bool:=Z5m w (F.map (·.typ))&&F.all (funB w (F.map (·.typ)))
theorem Z70 {α β:Type}{a:List α}{b:List β}(hl:b.length=a.length){g:α×β→Bool} : (a.zip b).all g=true↔∀ (i:Nat) (x:α) (y:β),a[i]?=some x→b[i]?=some y→g (x,y)=true:=by
 rw [List.all_eq_true]
 constructor
 ·intro h i x y hx hy
  exact h (x,y) (U1 (Q3u hx hy))
 ·intro h z hz
  obtain ⟨j,hj⟩:=List.mem_iff_getElem?.1 hz
  obtain ⟨e1,e2⟩:=List.getElem?_zip_eq_some.1 hj
  exact h j _ _ e1 e2
theorem Q6t {w:List Q4}{F:List GFun}(h:Z0m w F=true):Z17 w F:=by
 simp only [Z0m,Bool.and_eq_true,Z5m,decide_eq_true_eq,List.all_eq_true] at h
 obtain ⟨⟨h1,h2⟩,h3⟩:=h
 refine ⟨by simpa using h1,fun g hg=>?_⟩
 have h4:=h2 g.typ (List.mem_map_of_mem hg)
 have h5:=h3 g hg
 simp only [funB,Bool.and_eq_true,decide_eq_true_eq] at h5
 obtain ⟨h6,h7,h8⟩:=h5
 exact ⟨h4.1,h4.2,h6,h7,fun i c e hc he=>(Z70 h7).1 h8 i c e hc he⟩
theorem Z2h {w:List Q4}(hw:WW w){F:List GFun}(hF:F.length≤1000):Q1e NN w F=some (Z0m w F):=by
 have hwl:w.length≤1000:=by have:=hw.le;omega
 suffices hs:Ret (Q1e NN w F) (fun r=>r=Z0m w F) by
  obtain ⟨a,e,rfl⟩:=hs
  exact e
 unfold Q1e Z0m
 rw [X0x hF]
 simp only [U0]
 rw [hw.v1]
 simp only [U0,Bool.not_true,U2,if_false]
 rw [X36 hwl]
 simp only [U0]
 refine Ret.ite (fun h=>?_) (fun h=>?_)
 ·rw [Bool.not_eq_true'] at h
  exact .some (by rw [h];rfl)
 rw [Bool.not_eq_false'] at h
 rw [h,Bool.true_and]
 have hty:=h
 simp only [Z5m,Bool.and_eq_true,decide_eq_true_eq,List.all_eq_true] at hty
 have hTa:∀ f∈F.map (·.typ),f.arg∈tys w:=fun f hf=>(hty.2 f hf).1
 have hTr:∀ g∈F,g.typ.arg∈tys w∧g.typ.res∈tys w:=fun g hg=>hty.2 g.typ (List.mem_map_of_mem hg)
 generalize hTe:F.map (·.typ)=T at *
 have hTl:T.length≤1000:=by rw [←hTe];simpa using hF
 refine Ret.ctl (Z4 F (fun k _=>∀ (j:Nat) (f:GFun),j<k→F[j]?=some f→funB w T f=true) (fun r:Bool=>r=F.all (funB w T)) (fun _=>F.all (funB w T)=true) (fun j f hj=>by omega) (fun k f s hf hI=>?_) (fun s hI=>?_)) (fun r hr=>.some hr) (fun s hs=>.some hs.symm)
 ·obtain ⟨ha,hr⟩:=hTr f (U1 hf)
  have bad:funB w T f=false→F.all (funB w T)=false:=fun h=>by
   rw [List.all_eq_false]
   exact ⟨f,U1 hf,by rw [h];simp⟩
  rw [Z54 hw ha]
  simp only [U0]
  refine Ret.ite (fun h1=>?_) (fun h1=>?_)
  ·rw [Bool.not_eq_true'] at h1
   exact .some (show false=_ from (bad (by unfold funB;rw [h1];rfl)).symm)
  rw [Bool.not_eq_false'] at h1
  refine Ret.ite (fun h2=>?_) (fun h2=>?_)
  ·rw [Bool.not_eq_true',Z2] at h2
   simp only [lenZ] at h2
   refine .some (show false=_ from (bad ?_).symm)
   unfold funB
   rw [decide_eq_false (show ¬f.bodies.length=f.clauses.length by omega),Bool.false_and,Bool.and_false]
  rw [Bool.not_eq_false',Q8] at h2
  simp only [lenZ] at h2
  have hlen:f.bodies.length=f.clauses.length:=by omega
  have hfb:funB w T f=(f.clauses.zip f.bodies).all fun x=>Q5x w T (Q0x w 10 f.typ.arg x.1.pat) f.typ.res x.2:=by unfold funB;rw [h1,decide_eq_true hlen];rfl
  refine Ret.ctl (Z4 f.bodies (fun i _=>∀ (j:Nat) (c:Z6) (e:Z1),j<i→f.clauses[j]?=some c→f.bodies[j]?=some e→Q5x w T (Q0x w 10 f.typ.arg c.pat) f.typ.res e=true) (fun r:Ctl Bool Unit=>r=.ret false∧funB w T f=false) (fun _=>funB w T f=true) (fun j c e hj=>by omega) (fun i e s he hI2=>?_) (fun s hI2=>?_)) (fun r hr=>?_) (fun s hs=>?_)
  ·have hi:=(List.getElem?_eq_some_iff.1 he).1
   have hc:f.clauses[i]?=some (f.clauses[i]'(by omega)):=by simp
   rw [Q00 hc]
   simp only [U0]
   have hcv:=(Q6w h1).2 _ (U1 hc)
   unfold Z2d
   obtain ⟨r,er,r1,r2⟩:=Z1a hw (n:=NN) (by decide) f.typ.arg (f.clauses[i]'(by omega)).pat ha
   rw [er]
   simp only [U0]
   rw [r2 hcv]
   have hd:=Q1l 10 f.typ.arg _ (Q15 hcv).1 (Q15 hcv).2.2
   rw [X0s hw hTl hTa hd (by decide) hr]
   simp only [U0]
   cases hv:Q5x w T (Q0x w 10 f.typ.arg (f.clauses[i]'(by omega)).pat) f.typ.res e with
   | false=>
    refine .some ⟨rfl,?_⟩
    rw [hfb,List.all_eq_false]
    exact ⟨_,U1 (Q3u hc he),by simp [hv]⟩
   | true=>
    refine .some (fun j c x hj h3 h4=>?_)
    by_cases hji:j=i
    ·subst hji
     rw [hc] at h3
     rw [he] at h4
     cases h3
     cases h4
     exact hv
    ·exact hI2 j c x (by omega) h3 h4
  ·rw [hfb,Z70 hlen]
   exact fun j c x h3 h4=>hI2 j c x (List.getElem?_eq_some_iff.1 h4).1 h3 h4
  ·obtain ⟨rfl,h3⟩:=hr
   exact .some (show false=_ from (bad h3).symm)
  ·refine .some (fun j g hj hg=>?_)
   by_cases hjk:j=k
   ·subst hjk
    rw [hf] at hg
    cases hg
    exact hs
   ·exact hI j g (by omega) hg
 ·rw [List.all_eq_true]
  intro f hf
  obtain ⟨j,hj⟩:=List.mem_iff_getElem?.1 hf
  exact hI j f (List.getElem?_eq_some_iff.1 hj).1 hj
theorem W3l {w:List Q4}(hw:WW w){T:List Z0}(hTl:T.length≤1000)(hTa:∀ f∈T,f.arg∈tys w){f:GFun}(ha:f.typ.arg∈tys w)(hr:f.typ.res∈tys w):Q84 NN w T f=some (funB w T f):=by
 suffices hs:Ret (Q84 NN w T f) (fun r=>r=funB w T f) by
  obtain ⟨a,e,rfl⟩:=hs
  exact e
 unfold Q84
 rw [Z4x hw ha]
 simp only [U0]
 refine Ret.ite (fun h1=>?_) (fun h1=>?_)
 ·rw [Bool.not_eq_true'] at h1
  exact .some (by unfold funB;rw [h1];rfl)
 rw [Bool.not_eq_false'] at h1
 refine Ret.ite (fun h2=>?_) (fun h2=>?_)
 ·rw [Bool.not_eq_true',Z2] at h2
  simp only [lenZ] at h2
  refine .some ?_
  unfold funB
  rw [decide_eq_false (show ¬f.bodies.length=f.clauses.length by omega),Bool.false_and,Bool.and_false]
 rw [Bool.not_eq_false',Q8] at h2
 simp only [lenZ] at h2
 have hlen:f.bodies.length=f.clauses.length:=by omega
 have hfb:funB w T f=(f.clauses.zip f.bodies).all fun x=>Q5x w T (Q0x w 10 f.typ.arg x.1.pat) f.typ.res x.2:=by unfold funB;rw [h1,decide_eq_true hlen];rfl
 refine Ret.ctl (Z4 f.clauses (fun i _=>∀ (j:Nat) (c:Z6) (e:Z1),j<i→f.clauses[j]?=some c→f.bodies[j]?=some e→Q5x w T (Q0x w 10 f.typ.arg c.pat) f.typ.res e=true) (fun r:Bool=>r=funB w T f) (fun _=>funB w T f=true) (fun j c e hj=>by omega) (fun i c s hc hI2=>?_) (fun s hI2=>?_)) (fun r hr=>.some hr) (fun s hs=>.some hs.symm)
 ·have hi:=(List.getElem?_eq_some_iff.1 hc).1
  have he:f.bodies[i]?=some (f.bodies[i]'(by omega)):=by simp
  have hcv:=(Q6w h1).2 _ (U1 hc)
  obtain ⟨g,hcn,ln⟩:=Q15 hcv
  rw [(Q7p hw 10 NN f.typ.arg c.pat [] ha g (by decide) (by simp only [U4];omega)).1]
  simp only [U0,List.nil_append]
  rw [Q00 he]
  simp only [U0]
  have hd:=Q1l 10 f.typ.arg _ g ln
  rw [Z9w hw hTl hTa hd (by decide) hr]
  simp only [U0]
  cases hv:Q5x w T (Q0x w 10 f.typ.arg c.pat) f.typ.res (f.bodies[i]'(by omega)) with
  | false=>
   refine .some ?_
   show false=_
   symm
   rw [hfb,List.all_eq_false]
   exact ⟨_,U1 (Q3u hc he),by simp [hv]⟩
  | true=>
   refine .some (fun j c x hj h3 h4=>?_)
   by_cases hji:j=i
   ·subst hji
    rw [hc] at h3
    rw [he] at h4
    cases h3
    cases h4
    exact hv
   ·exact hI2 j c x (by omega) h3 h4
 ·rw [hfb,Z70 hlen]
  exact fun j c x h3 h4=>hI2 j c x (List.getElem?_eq_some_iff.1 h3).1 h3 h4
theorem Z0x {w:List Q4}(hw:WW w){F:List GFun}(hF:F.length≤1000):Q0w NN w F=some (Z0m w F):=by
 suffices hs:Ret (Q0w NN w F) (fun r=>r=Z0m w F) by
  obtain ⟨a,e,rfl⟩:=hs
  exact e
 unfold Q0w Z0m
 rw [Z38 hF]
 simp only [U0]
 rw [hw.v2]
 simp only [U0,Bool.not_true,U2,if_false]
 rw [Z9v _ (by simpa using hF)]
 simp only [U0]
 refine Ret.ite (fun h=>?_) (fun h=>?_)
 ·rw [Bool.not_eq_true'] at h
  exact .some (by rw [h];rfl)
 rw [Bool.not_eq_false'] at h
 rw [h,Bool.true_and]
 have hty:=h
 simp only [Z5m,Bool.and_eq_true,decide_eq_true_eq,List.all_eq_true] at hty
 have hTa:∀ f∈F.map (·.typ),f.arg∈tys w:=fun f hf=>(hty.2 f hf).1
 have hTr:∀ g∈F,g.typ.arg∈tys w∧g.typ.res∈tys w:=fun g hg=>hty.2 g.typ (List.mem_map_of_mem hg)
 have hTl:(F.map (·.typ)).length≤1000:=by simpa using hF
 refine Ret.ctl (Z4 F (fun k _=>∀ (j:Nat) (f:GFun),j<k→F[j]?=some f→funB w (F.map (·.typ)) f=true) (fun r:Bool=>r=F.all (funB w (F.map (·.typ)))) (fun _=>F.all (funB w (F.map (·.typ)))=true) (fun j f hj=>by omega) (fun k f s hf hI=>?_) (fun s hI=>?_)) (fun r hr=>.some hr) (fun s hs=>.some hs.symm)
 ·obtain ⟨ha,hr⟩:=hTr f (U1 hf)
  rw [W3l hw hTl hTa ha hr]
  simp only [U0]
  cases hb:funB w (F.map (·.typ)) f with
  | false=>
   refine .some ?_
   show false=_
   symm
   rw [List.all_eq_false]
   exact ⟨f,U1 hf,by simp [hb]⟩
  | true=>
   refine .some (fun j g hj hg=>?_)
   by_cases hjk:j=k
   ·subst hjk
    rw [hf] at hg
    cases hg
    exact hb
   ·exact hI j g (by omega) hg
 ·rw [List.all_eq_true]
  intro f hf
  obtain ⟨j,hj⟩:=List.mem_iff_getElem?.1 hf
  exact hI j f (List.getElem?_eq_some_iff.1 hj).1 hj
theorem X9b:∀ (n:Nat) (p:Q1) (most:Nat),most<n→most≤1000→Q4x n p (most:Int)=some ((min (cntV p) (most+1):Nat):Int):=by
 intro n
 induction n with
 | zero=>intro p most h;omega
 | succ n ih=>
  intro p most hn hm
  unfold Q4x
  have key:=Z4 (ρ:=Int) (f:=fun k94 x95 (s88:Int)=>
   (if (ile s88 (most:Int))=true then
   ((Q4x n x95 (wsub .i64 (most:Int) s88)).bind fun r103=>
   some (Ctl.go (wadd .i64 s88 r103)))
   else
   some (Ctl.brk s88))) p.kids (s0:=1) (fun k s=>∃ m:Nat,s=(m:Int)∧m=min (1+cntV.cntVs (p.kids.take k)) (most+1)) (fun _=>False) (fun s=>s=((min (cntV p) (most+1):Nat):Int)) ⟨1,rfl,by simp [cntV.cntVs]⟩ (fun k q s hq hI=>?_) (fun s hI=>?_)
  ·have:=Ret.ctl (Q:=fun b=>b=((min (cntV p) (most+1):Nat):Int)) key (g:=fun (o:Ctl Int Int)=>match o with
    | .ret r=>some r
    | .go _=>none
    | .brk s=>some s) (fun r hr=>hr.elim) (fun s hs=>.some hs)
   obtain ⟨b,e,rfl⟩:=this
   exact e
  ·obtain ⟨m,rfl,hm2⟩:=hI
   refine Ret.ite (fun h=>?_) (fun h=>?_)
   ·rw [W4] at h
    have hle:m≤most:=by omega
    have hws:wsub .i64 (most:Int) (m:Int)=((most-m:Nat):Int):=by rw [Q3v (by omega) (by omega)];omega
    rw [hws,ih q (most-m) (by omega) (by omega)]
    simp only [U0]
    rw [J9 (by omega) (by omega)]
    refine .some ⟨m+min (cntV q) (most-m+1),by push_cast;rfl,?_⟩
    rw [Z4n p.kids k q hq]
    omega
   ·rw [Q0n] at h
    refine .some ?_
    have h1:=Q9t p.kids k
    have h2:=Z2s p
    show (m:Int)=_
    have:m=min (cntV p) (most+1):=by omega
    rw [this]
  ·obtain ⟨m,rfl,hm2⟩:=hI
   rw [List.take_length] at hm2
   have h2:=Z2s p
   have:m=min (cntV p) (most+1):=by omega
   rw [this]
theorem Z8k:∀ (d n:Nat) (v:Q1),Z1h d v→d≤n→Q3d n v=some v:=by
 intro d
 induction d with
 | zero=>intro n v h;exact h.elim
 | succ d ih=>
  intro n v h hn
  obtain ⟨n,rfl⟩:∃ k,n=k+1:=⟨n-1,by omega⟩
  obtain ⟨h1,h2⟩:=h
  have hr:Ret (Q3d (n+1) v) (fun r=>r=v):=by
   unfold Q3d
   refine Ret.ctl (Z4 v.kids (fun k s=>s=v.kids.take k) (fun _=>False) (fun s=>s=v.kids) (by simp) (fun k q s hq hI=>?_) (fun s hI=>?_)) (fun r hr=>hr.elim) (fun s hs=>.some (Q1.ext' rfl rfl hs))
   ·rw [ih n q (h2 q (U1 hq)) (by omega)]
    simp only [U0]
    rw [V5 (by simp only [Q9,U3,U4];rw [hI,U6];omega)]
    exact .some (by rw [hI,List.take_add_one,hq];rfl)
   ·rw [hI,List.take_length]
  obtain ⟨r,e,rfl⟩:=hr
  exact e
theorem X97 {w:List Q4}(hw:WW w):∀ (d n:Nat) (t:Q2) (v:Q1),t∈tys w→d+1≤n→d≤100→Q4m n w t v (d:Int)=some (Q4b w d t v):=by
 intro d
 induction d with
 | zero=>
  intro n t v ht hn hd
  obtain ⟨m,rfl⟩:∃ m,n=m+1:=⟨n-1,by omega⟩
  unfold Q4m
  rw [if_pos (by rw [Z5];omega)]
  rfl
 | succ d ih=>
  intro n t v ht hn hd
  obtain ⟨m,rfl⟩:∃ m,n=m+1:=⟨n-1,by omega⟩
  have hT:=hw.ty t ht
  suffices hs:Ret (Q4m (m+1) w t v ((d+1:Nat):Int)) (fun r=>r=Q4b w (d+1) t v) by
   obtain ⟨a,e,rfl⟩:=hs
   exact e
  unfold Q4m
  rw [if_neg (by rw [Z5];omega)]
  have hws:wsub .i64 ((d+1:Nat):Int) 1=(d:Int):=by rw [Q3v]<;>omega
  rw [hws]
  refine Ret.ite (fun hi=>?_) (fun hi=>?_)
  ·rw [Q8] at hi
   have hg:Q4b w (d+1) t v=(decide (v.ctor = -1)&&(decide (0≤v.n)&&(decide (v.n≤9)&&decide (v.kids.length=0)))):=by rw [Q4b,if_pos hi]
   rw [hg]
   refine Ret.ite (fun h1=>?_) (fun h1=>.some ?_)
   ·rw [Q8] at h1
    refine Ret.ite (fun h2=>?_) (fun h2=>.some ?_)
    ·rw [W4] at h2
     refine Ret.ite (fun h3=>.some ?_) (fun h3=>.some ?_)
     ·rw [W4] at h3
      simp only [h1,h2,h3,decide_true,Bool.true_and]
      exact len0 _
     ·rw [Q0n] at h3
      simp [show ¬v.n≤9 by omega]
    ·rw [Q0n] at h2
     simp [show ¬0≤v.n by omega]
   ·rw [Z2] at h1
    simp [h1]
  ·rw [Z2] at hi
   have hg:Q4b w (d+1) t v=(decide (v.n=0)&&(decide (v.ctor∈X2 w t)&&(decide (v.kids.length=(W0 w t v.ctor).length)&&((W0 w t v.ctor).zip v.kids).all fun x=>Q4b w d x.1 x.2))):=by rw [Q4b,if_neg hi]
   rw [hg]
   refine Ret.ite (fun h1=>.some ?_) (fun h1=>?_)
   ·rw [Bool.not_eq_true',Z2] at h1
    simp [h1]
   rw [Bool.not_eq_false',Q8] at h1
   rw [hT.c1]
   simp only [U0]
   rw [X3j]
   simp only [U0]
   refine Ret.ite (fun h2=>.some ?_) (fun h2=>?_)
   ·rw [Bool.not_eq_true',decide_eq_false_iff_not] at h2
    simp [h2]
   rw [Bool.not_eq_false',decide_eq_true_eq] at h2
   rw [hT.a1 _ h2]
   simp only [U0]
   refine Ret.ite (fun hl=>.some ?_) (fun hl=>?_)
   ·rw [Bool.not_eq_true',Z2] at hl
    simp only [lenZ] at hl
    have:¬v.kids.length=(W0 w t v.ctor).length:=by omega
    simp [this]
   rw [Bool.not_eq_false',Q8] at hl
   simp only [lenZ] at hl
   have hl2:v.kids.length=(W0 w t v.ctor).length:=by omega
   simp only [h1,h2,hl2,decide_true,Bool.true_and]
   refine Ret.ctl (Z4 (W0 w t v.ctor) (fun k _=>∀ (j:Nat) (a:Q2) (x:Q1),j<k→(W0 w t v.ctor)[j]?=some a→v.kids[j]?=some x→Q4b w d a x=true) (fun b=>b=false∧(((W0 w t v.ctor).zip v.kids).all fun x=>Q4b w d x.1 x.2)=false) (fun _=>(((W0 w t v.ctor).zip v.kids).all fun x=>Q4b w d x.1 x.2)=true) (fun j a x hj=>by omega) (fun k a s ha hI=>?_) (fun s hI=>?_)) (fun r hr=>.some (by rw [hr.1,hr.2])) (fun s hs=>.some hs.symm)
   ·have hlt:k<v.kids.length:=by have:=(List.getElem?_eq_some_iff.1 ha).1;omega
    have hq:v.kids[k]?=some v.kids[k]:=by simp [hlt]
    rw [Q00 hq]
    simp only [U0]
    rw [ih m a v.kids[k] (hT.at_ _ h2 a (U1 ha)) (by omega) (by omega)]
    simp only [U0]
    cases hgk:Q4b w d a v.kids[k] with
    | false=>
     refine .some ⟨rfl,?_⟩
     rw [List.all_eq_false]
     exact ⟨(a,v.kids[k]),U1 (Q3u ha hq),by simp [hgk]⟩
    | true=>
     refine .some (fun j a' q' hj ha' hq'=>?_)
     by_cases hjk:j=k
     ·subst hjk
      rw [ha] at ha'
      rw [hq] at hq'
      cases ha'
      cases hq'
      exact hgk
     ·exact hI j a' q' (by omega) ha' hq'
   ·rw [List.all_eq_true]
    intro x hx
    obtain ⟨j,hj⟩:=List.mem_iff_getElem?.1 hx
    obtain ⟨h3,h4⟩:=List.getElem?_zip_eq_some.1 hj
    exact hI j x.1 x.2 ((List.getElem?_eq_some_iff.1 h3).1) h3 h4
theorem Z9r {n:Nat}(hn:1000≤n){w:List Q4}(hw:WW w){t:Q2}(ht:t∈tys w)(v:Q1):Q7u n w t v=some (Q0z w t v):=by
 unfold Q7u Q0z
 rw [show (10:Int)=((10:Nat):Int) from rfl,X97 hw 10 n t v ht (by omega) (by omega)]
 simp only [U0]
 cases Q4b w 10 t v with
 | false=>rfl
 | true=>
  simp only [if_true,Bool.true_and]
  rw [show (60:Int)=((60:Nat):Int) from rfl,X9b n v 60 (by omega) (by omega)]
  simp only [U0]
  congr 1
  by_cases h:cntV v≤60
  ·rw [decide_eq_true h,W4];omega
  ·rw [decide_eq_false h,Q0n];omega
theorem X6g (g:Q4u)(l:List X1):Q2j g l=some (Q64 g l):=by
 suffices hs:Ret (Q2j g l) (fun r=>r=Q64 g l) by
  obtain ⟨a,e,rfl⟩:=hs
  exact e
 unfold Q2j
 refine Ret.ite (fun h0=>.some ?_) (fun h0=>?_)
 ·rw [Q8] at h0
  simp [Q64,h0]
 rw [Z2] at h0
 have hG:Q64 g l=match l.find? fun b=>decide (b.var=g.var) with
   | none=>false
   | some b=>ieq b.value.ctor (-1)&&((ieq g.op 1&&ilt b.value.n g.n)||(ieq g.op 2&&ieq b.value.n g.n)):=by
  unfold Q64
  rw [decide_eq_false h0,Bool.false_or]
  rfl
 refine Ret.ctl (Z4 l (fun k _=>l.find? (fun b=>decide (b.var=g.var))=(l.drop k).find? (fun b=>decide (b.var=g.var))) (fun r=>r=Q64 g l) (fun _=>Q64 g l=false) rfl (fun k x s hx hI=>?_) (fun s hI=>?_)) (fun r hr=>.some hr) (fun s hs=>.some hs.symm)
 ·rw [Z44 hx,List.find?_cons] at hI
  by_cases hv:x.var=g.var
  ·have e:(!ieq x.var g.var)=false:=by simp [ieq,hv]
   simp only [e,U2,if_false]
   rw [decide_eq_true hv] at hI
   simp only at hI
   rw [hI] at hG
   simp only at hG
   rw [hG]
   generalize ieq x.value.ctor (-1)=b1
   generalize ieq g.op 1=b2
   generalize ilt x.value.n g.n=b3
   generalize ieq g.op 2=b4
   generalize ieq x.value.n g.n=b5
   cases b1<;>cases b2<;>cases b3<;>cases b4<;>cases b5<;>exact .some rfl
  ·have e:(!ieq x.var g.var)=true:=by simp [ieq,hv]
   simp only [e,if_true,U0]
   rw [decide_eq_false hv] at hI
   exact .some hI
 ·rw [List.drop_length] at hI
  rw [hG,hI]
  rfl
theorem X6d {w:List Q4}(hw:WW w):∀ (d n:Nat) (t:Q2) (p:Q0) (v:Q1) (e:Nat) (out:List X1),t∈tys w→Q0r w d t p=true→Q2f w e t v→d+2≤n→out.length+cntP p≤100000→
  Ret (Q2q n out p v) (fun r=>r.2=(X7 d p v).isSome∧∀ l,X7 d p v=some l→r.1=out++l∧l.length≤cntP p):=by
 intro d
 induction d with
 | zero=>intro n t p v e out _ h;simp [Q0r] at h
 | succ d ih=>
  intro n t p v e out ht g hv hn hc
  obtain ⟨n,rfl⟩:∃ k,n=k+1:=⟨n-1,by omega⟩
  have hT:=hw.ty t ht
  obtain ⟨ho,hl⟩:=Q3c (Q2e g)
  have hpos:=Q9u p
  unfold Q2q
  rw [X7]
  refine Ret.ite (fun h1=>?_) (fun h1=>?_)
  ·rw [Q8] at h1
   rw [if_pos h1]
   exact .some ⟨rfl,fun l h=>by cases h;simp⟩
  rw [Z2] at h1
  rw [if_neg h1]
  refine Ret.ite (fun h2=>?_) (fun h2=>?_)
  ·rw [Q8] at h2
   rw [if_pos h2,V5 (by simp only [U4,Q9];omega)]
   simp only [U0]
   rw [V5 (by simp only [U3,U4,Q9];omega)]
   exact .some ⟨rfl,fun l h=>by cases h;exact ⟨rfl,hpos⟩⟩
  rw [Z2] at h2
  rw [if_neg h2]
  refine Ret.ite (fun h3=>?_) (fun h3=>?_)
  ·rw [Q8] at h3
   rw [if_pos h3]
   refine Ret.ite (fun h4=>.some ?_) (fun h4=>.some ?_)
   ·rw [W4] at h4
    by_cases h5:v.n≤p.m
    ·rw [if_pos ⟨h4,h5⟩]
     exact ⟨by simp only [Option.isSome_some];rw [W4];exact h5,fun l h=>by cases h;simp⟩
    ·rw [if_neg fun hh=>h5 hh.2]
     exact ⟨by simp only [Option.isSome_none];rw [Q0n];omega,fun l h=>by cases h⟩
   ·rw [Q0n] at h4
    rw [if_neg (fun hh=>by omega)]
    exact ⟨rfl,fun l h=>by cases h⟩
  rw [Z2] at h3
  rw [if_neg h3]
  refine Ret.ite (fun h5=>?_) (fun h5=>?_)
  ·rw [Q8] at h5
   rw [if_pos h5]
   obtain ⟨a,b,hab,hkt⟩:=kid0 h5 hl
   have ga:=W9 g (k:=0) (a:=t) (q:=a) (by rw [hkt];rfl) (by rw [hab];rfl)
   have gb:=W9 g (k:=1) (a:=t) (q:=b) (by rw [hkt];rfl) (by rw [hab];rfl)
   have hcp:=Q46 p
   rw [hab] at hcp ⊢
   simp only [cntP.cntPs] at hcp
   rw [show idx [a,b] 0=some a from rfl,show idx [a,b] 1=some b from rfl]
   simp only [U0]
   refine Ret.bind (ih n t a v e out ht ga hv (by omega) (by omega)) (fun r hr=>?_)
   obtain ⟨r1,r2⟩:=hr
   cases hm:X7 d a v with
   | some l=>
    rw [hm] at r1
    rw [if_pos (by rw [r1];rfl)]
    obtain ⟨q1,q2⟩:=r2 l hm
    exact .some ⟨rfl,fun l' h=>by cases h;exact ⟨q1,by omega⟩⟩
   | none=>
    rw [hm] at r1
    rw [if_neg (by rw [r1];simp)]
    refine Ret.bind (ih n t b v e out ht gb hv (by omega) (by omega)) (fun s hs=>.some ⟨hs.1,fun l h=>?_⟩)
    obtain ⟨q1,q2⟩:=hs.2 l h
    exact ⟨q1,by omega⟩
  rw [Z2] at h5
  rw [if_neg h5]
  refine Ret.ite (fun h6=>?_) (fun h6=>?_)
  ·rw [Q8] at h6
   rw [if_pos h6]
   obtain ⟨a,hk,hkt⟩:=Z2e h6 hl
   have ga:=W9 g (k:=0) (a:=t) (q:=a) (by rw [hkt];rfl) (by rw [hk];rfl)
   have hcp:=Q46 p
   rw [hk] at hcp ⊢
   simp only [cntP.cntPs] at hcp
   rw [show idx [a] 0=some a from rfl]
   simp only [U0]
   rw [V5 (by simp only [U4,Q9];omega)]
   simp only [U0]
   rw [V5 (by simp only [U3,U4,Q9];omega)]
   simp only [U0]
   refine Ret.bind (ih n t a v e (out++[⟨p.var,v⟩]) ht ga hv (by omega) (by simp only [U5,U3,U4];omega)) (fun r hr=>.some ?_)
   cases hm:X7 d a v with
   | none=>rw [hm] at hr;exact ⟨hr.1,fun l h=>by cases h⟩
   | some l=>
    rw [hm] at hr
    obtain ⟨q1,q2⟩:=hr.2 l rfl
    exact ⟨hr.1,fun l' h=>by cases h;exact ⟨by rw [q1];simp,by simp only [U3];omega⟩⟩
  rw [Z2] at h6
  rw [if_neg h6]
  have h4:p.op=4:=by
   simp only [Z4r,Bool.and_eq_true,Bool.or_eq_true,decide_eq_true_eq] at ho
   rcases ho.2 with (h | h) | h
   ·omega
   ·exact absurd h.1.1.1.1 h3
   ·exact h.1
  have hct:=Z11 ho h4
  refine Ret.ite (fun h7=>?_) (fun h7=>?_)
  ·rw [Bool.not_eq_true',Z2] at h7
   rw [if_neg (fun hh=>h7 hh.symm)]
   exact .some ⟨rfl,fun l h=>by cases h⟩
  rw [Bool.not_eq_false',Q8] at h7
  rw [if_pos h7.symm]
  have hkt:V4 w t p=W0 w t v.ctor:=by rw [V4,if_pos h4,h7]
  cases e with
  | zero=>exact hv.elim
  | succ e=>
  have hd:t.data≠-1:=fun hd=>by
   obtain ⟨rfl,_⟩:=hT.ti hd
   have:X2 w tI=[]:=rfl
   rw [this] at hct
   cases hct
  rw [Q2f,if_neg hd] at hv
  obtain ⟨_,_,hvl,hvk⟩:=hv
  have hcp:=Q46 p
  have hlen:p.kids.length=v.kids.length:=by rw [hl,hkt,hvl]
  refine Ret.ctl (Z4 p.kids (fun k s=>∃ s',s=out++s'∧Q2x (X7 d) p.kids v.kids=(Q2x (X7 d) (p.kids.drop k) (v.kids.drop k)).map (s'++·)∧s'.length≤cntP.cntPs (p.kids.take k)) (fun r:List X1×Bool=>r.2=false∧Q2x (X7 d) p.kids v.kids=none)
   (fun s=>∃ s',s=out++s'∧Q2x (X7 d) p.kids v.kids=some s'∧s'.length≤cntP.cntPs p.kids) ⟨[],by simp,by simp,by simp⟩ (fun k q s hq hI=>?_) (fun s hI=>?_)) (fun r hr=>?_) (fun s hs=>?_)
  ·obtain ⟨s',rfl,i1,i2⟩:=hI
   have hlt:=(List.getElem?_eq_some_iff.1 hq).1
   have hx:v.kids[k]?=some (v.kids[k]'(by omega)):=by simp
   obtain ⟨a,ha⟩:∃ a,(W0 w t v.ctor)[k]?=some a:=⟨_,U10 (by omega)⟩
   rw [Q00 hx]
   simp only [U0]
   have hcd:=Q6c p.kids k q hq
   have hct2:=Q20 p.kids (k+1)
   have hkm:a∈V4 w t p:=by rw [hkt];exact U1 ha
   refine Ret.bind (ih n a q (v.kids[k]'(by omega)) e (out++s') (Q8k hT ht ho a hkm) (W9 g (by rw [hkt];exact ha) hq) (hvk k a _ ha hx) (by omega) (by simp only [U5];omega)) (fun r hr=>?_)
   obtain ⟨r1,r2⟩:=hr
   rw [Z44 hq,Z44 hx] at i1
   simp only [Q2x] at i1
   cases hmq:X7 d q (v.kids[k]'(by omega)) with
   | none=>
    rw [hmq] at i1 r1
    rw [r1]
    exact .some ⟨rfl,i1⟩
   | some l=>
    rw [hmq] at i1 r1
    obtain ⟨q1,q2⟩:=r2 l hmq
    rw [r1]
    simp only [Option.isSome_some,Bool.not_true,U2,if_false]
    refine .some ⟨s'++l,by rw [q1];simp,?_,by simp only [U5];omega⟩
    rw [i1]
    cases Q2x (X7 d) (p.kids.drop (k+1)) (v.kids.drop (k+1)) with
    | none=>rfl
    | some m=>simp
  ·obtain ⟨s',rfl,i1,i2⟩:=hI
   rw [List.take_length] at i2
   refine ⟨s',rfl,?_,i2⟩
   rw [i1,List.drop_length]
   simp [Q2x]
  ·exact .some ⟨by rw [hr.1,hr.2];rfl,fun l h=>by rw [hr.2] at h;cases h⟩
  ·obtain ⟨s',rfl,h1,h2⟩:=hs
   refine .some ⟨by rw [h1];rfl,fun l h=>?_⟩
   rw [h1] at h
   cases h
   exact ⟨rfl,by omega⟩
theorem W3j {n:Nat}(hn:1000≤n){l:List X1}(hl:l.length≤100)(hd:DB l):Q70 n l=some (Q90 l):=by
 suffices hs:Ret (Q70 n l) (fun r=>r=Q90 l) by
  obtain ⟨a,e,rfl⟩:=hs
  exact e
 unfold Q70
 have hfl:∀ k:Nat,((List.range k).flatMap fun (v:Nat)=>l.filter fun b=>decide (b.var=(v:Int))).length≤k * 100:=by
  intro k
  induction k with
  | zero=>simp
  | succ k ih=>
   rw [List.range_succ,List.flatMap_append,U5]
   have:=List.length_filter_le (fun b:X1=>decide (b.var=(k:Int))) l
   simp only [List.flatMap_cons,List.flatMap_nil,List.append_nil]
   omega
 refine Ret.ctl (Q7o (fun s:List X1×Int=>∃ k:Nat,k≤6∧s=((List.range k).flatMap (fun (v:Nat)=>l.filter fun b=>decide (b.var=(v:Int))),(k:Int))) (fun s=>(6-s.2).toNat) (fun _=>False) (fun s=>s.1=Q90 l) ⟨0,by omega,rfl⟩ (fun s hI=>?_) n (by simp;omega)) (fun r hr=>hr.elim) (fun s hs=>.some hs)
 obtain ⟨k,hk,rfl⟩:=hI
 dsimp only
 by_cases h5:k≤5
 ·have e:ile (k:Int) 5=true:=by rw [W4];omega
  simp only [e,if_true]
  have hk1:=hfl k
  refine Ret.ctl (Z4 l (fun i s=>s=(List.range k).flatMap (fun (v:Nat)=>l.filter fun b=>decide (b.var=(v:Int)))++(l.take i).filter fun b=>decide (b.var=(k:Int))) (fun _=>False) (fun s=>s=(List.range (k+1)).flatMap (fun (v:Nat)=>l.filter fun b=>decide (b.var=(v:Int)))) (by simp) (fun i x s hi hI=>?_) (fun s hI=>?_)) (fun r hr=>hr.elim) (fun s hs=>?_)
  ·have hil:i<l.length:=(List.getElem?_eq_some_iff.1 hi).1
   have hf:=List.length_filter_le (fun b:X1=>decide (b.var=(k:Int))) (l.take i)
   rw [U6] at hf
   by_cases hc:x.var=(k:Int)
   ·have e:ieq x.var (k:Int)=true:=by simp [ieq,hc]
    simp only [e,if_true]
    rw [Z8k 10 n x.value (hd x (U1 hi)) (by omega)]
    simp only [U0]
    rw [V5 (by rw [hI];simp only [U5,U3,U4,Q9];omega)]
    refine .some ?_
    simp only [Z20]
    rw [hI,List.take_add_one,hi]
    simp only [Option.toList_some,List.filter_append,List.append_assoc]
    rw [←hc]
    simp
   ·have e:ieq x.var (k:Int)=false:=by simp [ieq,hc]
    simp only [e,U2,if_false]
    refine .some ?_
    simp only [Z20]
    rw [hI,List.take_add_one,hi]
    simp [hc]
  ·rw [hI,List.take_length,List.range_succ,List.flatMap_append]
   simp
  ·subst hs
   dsimp only
   rw [J9 (by omega) (by omega)]
   exact .some ⟨⟨k+1,by omega,by simp⟩,by simp only;omega⟩
 ·have e:ile (k:Int) 5=false:=by rw [Q0n];omega
  simp only [e,U2,if_false]
  exact .some (by simp only [X46];rw [show k=6 by omega];rfl)
theorem W71 {n:Nat}(hn:1000≤n){w:List Q4}(hw:WW w){t:Q2}(ht:t∈tys w){l:List Z6}(hl:∀ c∈l,Q4j w t c.pat=true){e:Nat}{v:Q1}(hv:Q2f w e t v)(he:e≤10) :
  Q83 n l v=some (runR (runD v 0 l)):=by
 suffices hs:Ret (Q83 n l v) (fun r=>r=runR (runD v 0 l)) by
  obtain ⟨a,e,rfl⟩:=hs
  exact e
 unfold Q83
 refine Ret.ctl (Z4 l (fun k _=>runD v 0 l=runD v k (l.drop k)) (fun r:Int×List X1=>r=runR (runD v 0 l)) (fun _=>runD v 0 l=none) rfl (fun k c s hc hI=>?_) (fun s hI=>by rw [hI,List.drop_length];rfl)) (fun r hr=>.some hr) (fun s hs=>.some (by rw [hs];rfl))
 obtain ⟨g,c1,ln⟩:=Q15 (hl c (U1 hc))
 rw [Z44 hc] at hI
 simp only [runD] at hI
 obtain ⟨r,er,r1,r2⟩:=X6d hw 10 n t c.pat v e [] ht g hv (by omega) (by simp only [U4];omega)
 rw [er]
 simp only [U0]
 cases hm:X7 10 c.pat v with
 | none=>
  simp only [hm] at hI
  rw [hm] at r1
  rw [r1]
  simp only [Option.isSome_none,U2,if_false,U0]
  exact .some hI
 | some b=>
  simp only [hm] at hI
  rw [hm] at r1
  have hb:=Q6h g ln hm
  have hr1:r.1=b:=by
   have:=(r2 b hm).1
   simpa using this
  rw [r1,hr1]
  simp only [Option.isSome_some,if_true]
  rw [X6g]
  simp only [U0]
  cases hg:Q64 c.guard b with
  | true=>
   rw [hg] at hI
   simp only [if_true] at hI ⊢
   have hdv:=Z9h e 10 v he (Z7d hw e t v ht hv)
   rw [W3j hn (by have:=hb.ln;omega) (fun y hy=>by
    obtain ⟨e',h1,h2⟩:=X3e 10 c.pat 10 v b hdv hm y hy
    exact Z9h _ _ _ h1 h2)]
   simp only [U0]
   exact .some (by simp only [W1s];rw [hI];rfl)
  | false=>
   rw [hg] at hI
   simp only [U2,if_false,U0] at hI ⊢
   exact .some hI
end Go.Proofs.YtenmmbjgnlflnaaGreat
