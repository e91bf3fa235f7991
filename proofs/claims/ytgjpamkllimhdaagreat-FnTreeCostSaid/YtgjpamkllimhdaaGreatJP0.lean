import Derived.KernelRfl
import Derived.Test.YtgjpamkllimhdaaGreatJMir
set_option linter.unusedSimpArgs false
set_option linter.unusedVariables false
namespace Go.Proofs.YtgjpamkllimhdaaGreat
open Go Go.RowKit
def Ret {α:Type}(x:Option α)(Q:α→Prop):Prop:=∃ a,x=some a∧Q a
theorem Ret.some {α:Type}{a:α}{Q:α→Prop}(h:Q a):Ret (some a) Q:=⟨a,rfl,h⟩
theorem Ret.bind {α β:Type}{x:Option α}{f:α→Option β}{P:α→Prop}{Q:β→Prop}(hx:Ret x P)(hf:∀ a,P a→Ret (f a) Q):Ret (x.bind f) Q:=by
 obtain ⟨a,rfl,ha⟩:=hx
 exact hf a ha
theorem Ret.bindE {α β:Type}{x:Option α}{f:α→Option β}{a:α}{Q:β→Prop}(hx:x=Option.some a)(hf:Ret (f a) Q):Ret (x.bind f) Q:=by
 subst hx
 exact hf
theorem Ret.mono {α:Type}{x:Option α}{P Q:α→Prop}(h:∀ a,P a→Q a)(hx:Ret x P):Ret x Q:=by
 obtain ⟨a,e,ha⟩:=hx
 exact ⟨a,e,h a ha⟩
theorem Ret.ite {α:Type}{b:Bool}{x y:Option α}{Q:α→Prop}(h1:b=true→Ret x Q)(h2:b=false→Ret y Q):Ret (if b=true then x else y) Q:=by
 cases b
 ·exact h2 rfl
 ·exact h1 rfl
theorem Ret.of {α:Type}{x:Option α}{a:α}{Q:α→Prop}(h:x=Option.some a)(hq:Q a):Ret x Q:=⟨a,h,hq⟩
theorem Ret.get {α:Type}{x:Option α}{Q:α→Prop}{a:α}(h:Ret x Q)(e:x=Option.some a):Q a:=by
 obtain ⟨b,e2,hb⟩:=h
 rw [e] at e2
 cases e2
 exact hb
def CtlQ {ρ σ:Type}(R:ρ→Prop)(B:σ→Prop):Ctl ρ σ→Prop
 | .ret r=>R r
 | .brk s=>B s
 | .go _=>False
def RndQ {ρ σ:Type}(R:ρ→Prop)(B G:σ→Prop):Ctl ρ σ→Prop
 | .ret r=>R r
 | .brk s=>B s
 | .go s=>G s
@[simp] theorem Z2v {ρ σ:Type} (R:ρ→Prop) (B G:σ→Prop) (r:ρ):RndQ R B G (.ret r)=R r:=rfl
@[simp] theorem Q8p {ρ σ:Type} (R:ρ→Prop) (B G:σ→Prop) (s:σ):RndQ R B G (.brk s)=B s:=rfl
@[simp] theorem Y9 {ρ σ:Type} (R:ρ→Prop) (B G:σ→Prop) (s:σ):RndQ R B G (.go s)=G s:=rfl
@[simp] theorem Y2n {ρ σ:Type} (R:ρ→Prop) (B:σ→Prop) (r:ρ):CtlQ R B (.ret r)=R r:=rfl
@[simp] theorem Q5l {ρ σ:Type} (R:ρ→Prop) (B:σ→Prop) (s:σ):CtlQ R B (.brk s)=B s:=rfl
theorem Z4 {α σ ρ:Type}{f:Nat→α→σ→Option (Ctl ρ σ)}(xs:List α){s0:σ}(I:Nat→σ→Prop)(R:ρ→Prop)(B:σ→Prop)
  (h0:I 0 s0) (step:∀ k x s,xs[k]?=some x→I k s→Ret (f k x s) (RndQ R B (I (k+1)))) (stop:∀ s,I xs.length s→B s) :
  Ret (forL f 0 xs s0) (CtlQ R B):=by
 have key:∀ (ys:List α) (k:Nat) (s:σ),xs.drop k=ys→k≤xs.length→I k s→Ret (forL f k ys s) (CtlQ R B):=by
  intro ys
  induction ys with
  | nil=>
   intro k s hd hk hs
   have:k=xs.length:=by
    have:=congrArg List.length hd
    simp at this
    omega
   subst this
   exact .some (stop s hs)
  | cons y ys ih=>
   intro k s hd hk hs
   have hlt:k<xs.length:=by
    have:=congrArg List.length hd
    simp at this
    omega
   rw [List.drop_eq_getElem_cons hlt] at hd
   injection hd with h1 h2
   have hx:xs[k]?=some y:=by rw [U9 hlt,h1]
   obtain ⟨o,ho,hq⟩:=step k y s hx hs
   unfold forL
   rw [ho]
   cases o with
   | ret r=>exact .some hq
   | brk s'=>exact .some hq
   | go s'=>exact ih (k+1) s' h2 hlt hq
 exact key xs 0 s0 rfl (Nat.zero_le _) h0
theorem Q1r {σ ρ:Type}{f:σ→Option (Ctl ρ σ)}{s0:σ}(I:σ→Prop)(μ:σ→Nat)(R:ρ→Prop)(B:σ→Prop)(h0:I s0)
  (step:∀ s,I s→Ret (f s) (RndQ R B (fun s'=>I s'∧μ s'<μ s))):∀ n,μ s0<n→Ret (whileL f n s0) (CtlQ R B):=by
 have key:∀ n s,I s→μ s<n→Ret (whileL f n s) (CtlQ R B):=by
  intro n
  induction n with
  | zero=>intro s _ h;omega
  | succ n ih=>
   intro s hs hn
   obtain ⟨o,ho,hq⟩:=step s hs
   unfold whileL
   rw [ho]
   cases o with
   | ret r=>exact .some hq
   | brk s'=>exact .some hq
   | go s'=>exact ih s' hq.1 (by have:=hq.2;omega)
 exact fun n hn=>key n s0 h0 hn
theorem Ret.ctl {ρ σ τ:Type}{x:Option (Ctl ρ σ)}{g:Ctl ρ σ→Option τ}{R:ρ→Prop}{B:σ→Prop}{Q:τ→Prop}(h:Ret x (CtlQ R B))(hr:∀ r,R r→Ret (g (.ret r)) Q)(hb:∀ s,B s→Ret (g (.brk s)) Q):Ret (x.bind g) Q:=by
 obtain ⟨o,rfl,ho⟩:=h
 cases o with
 | ret r=>exact hr r ho
 | brk s=>exact hb s ho
 | go s=>exact ho.elim
theorem X4 {α:Type}{xs ys:List α}(h:xs.length+ys.length≤Q5):app xs ys=some (xs++ys):=by simp [app,h]
theorem Q16 {α:Type}{xs:List α}{i:Nat}{x:α}(h:xs[i]?=some x):idx xs (i:Int)=some x:=by simp [idx,h]
theorem Z67 {α:Type}{xs:List α}{i:Int}{x:α}(h0:0≤i)(h:xs[i.toNat]?=some x):idx xs i=some x:=by simp [idx,h,h0]
theorem Q5a {α:Type}{xs:List α}{i:Int}(h0:0≤i)(h:i<xs.length):∃ x,idx xs i=some x∧x∈xs:=by
 have hl:i.toNat<xs.length:=by omega
 exact ⟨xs[i.toNat],by simp [idx,h0,hl],List.getElem_mem hl⟩
theorem X0q {b:Bool}(h:b=true):chk b=some ():=by simp [chk,h]
theorem Z8 {a b:Int} : (ieq a b=true)=(a=b):=by simp [ieq]
theorem W2 {a b:Int} : (ieq a b=false)=(a≠b):=by simp [ieq]
theorem X1 {a b:Int} : (ilt a b=true)=(a<b):=by simp [ilt]
theorem V2 {a b:Int} : (ilt a b=false)=(b≤a):=by simp [ilt]
theorem Q03 {a b:Int} : (ile a b=true)=(a≤b):=by simp [ile]
theorem Q6n {a b:Int} : (ile a b=false)=(b<a):=by simp [ile]
theorem V0 {a b:Int}(h1 : -9223372036854775808≤a+b)(h2:a+b≤9223372036854775807):wadd .i64 a b=a+b:=by unfold wadd;exact Z4c h1 h2
theorem Q2k {a b:Int}(h1 : -9223372036854775808≤a-b)(h2:a-b≤9223372036854775807):wsub .i64 a b=a-b:=by unfold wsub;exact Z4c h1 h2
theorem Q8h {a b:Int}(h1 : -9223372036854775808≤a * b)(h2:a * b≤9223372036854775807):wmul .i64 a b=a * b:=by unfold wmul;exact Z4c h1 h2
theorem X1t {a:Int}(h1 : -9223372036854775808≤a)(h2:a≤9223372036854775807):wcv .i64 a=a:=by unfold wcv;exact Z4c h1 h2
theorem X2x {a b:Int}(h1 : -9223372036854775808≤a.tdiv b)(h2:a.tdiv b≤9223372036854775807):wquo .i64 a b=a.tdiv b:=by unfold wquo;exact Z4c h1 h2
theorem Y0 (n:Nat):lenZ n=(n:Int):=rfl
abbrev NN:Nat:=30000000
instance:DecidableEq Q6:=fun a b=>decidable_of_iff (a.data=b.data∧a.index=b.index) ⟨fun h=>by cases a;cases b;simp at h;simp [h],fun h=>by subst h;simp⟩
def by_ (l:List Nat):ByteArray:=⟨(l.map UInt8.ofNat).toArray⟩
def tI:Q6:=⟨-1,0⟩
def tD (d i:Int):Q6:=⟨d,i⟩
def w0:List Q4:=[⟨by_ [76],[⟨by_ [78,105,108],[],0⟩,⟨by_ [67,111,110,115],[tI,tD 0 0],0⟩]⟩]
def w1:List Q4:=[⟨by_ [66],[⟨by_ [84,114,117],[],0⟩,⟨by_ [70,108,115],[],0⟩]⟩,⟨by_ [84],[⟨by_ [76,101,97,102],[],0⟩,⟨by_ [78,111,100,101],[tD 1 0,tD 0 0,tD 1 0],0⟩]⟩]
def w2:List Q4:=[⟨by_ [69],[⟨by_ [78,117,109],[tI],1⟩,⟨by_ [66,111,108],[tD 1 0],2⟩,⟨by_ [65,100,100],[tD 0 1,tD 0 1],1⟩,⟨by_ [73,102],[tD 0 2,tD 0 (-1),tD 0 (-1)],0⟩]⟩,⟨by_ [66],[⟨by_ [84,114,117],[],0⟩,⟨by_ [70,108,115],[],0⟩]⟩]
def w3:List Q4:=[⟨by_ [79],[⟨by_ [78,111,110],[],0⟩,⟨by_ [83,111,109],[tI],0⟩]⟩,⟨by_ [80],[⟨by_ [80,97,105,114],[tD 0 0,tD 0 0],0⟩]⟩]
def w4:List Q4:=[⟨by_ [86],[⟨by_ [69,110,100],[],1⟩,⟨by_ [83,111,109,101],[tI,tD 0 1],2⟩,⟨by_ [84,119,111],[tD 0 (-1)],0⟩]⟩]
def w5:List Q4:=[⟨by_ [78],[⟨by_ [78,101,118,101,114],[tD 0 0],0⟩]⟩,⟨by_ [66],[⟨by_ [84,114,117],[],0⟩,⟨by_ [70,108,115],[],0⟩,⟨by_ [77,97,121],[tD 0 0],0⟩]⟩]
def w6:List Q4:=[⟨by_ [83],[⟨by_ [82,101,100],[],0⟩,⟨by_ [71,114,101,101,110],[],0⟩,⟨by_ [66,108,117,101],[],0⟩,⟨by_ [77,105,120],[tD 0 0,tD 0 0],0⟩]⟩]
def Q0s:List (List Q4):=[w0,w1,w2,w3,w4,w5,w6]
def X4e (i:Nat):Option (List Q4×Bool):=Q5h.bind fun r=>(idx r (i:Int)).bind fun x=>Q64 NN x
theorem Y14:X4e 0=some (w0,true):=by kernel_rfl
theorem Y13:X4e 1=some (w1,true):=by kernel_rfl
theorem Y12:X4e 2=some (w2,true):=by kernel_rfl
theorem Y11:X4e 3=some (w3,true):=by kernel_rfl
theorem Y10:X4e 4=some (w4,true):=by kernel_rfl
theorem Y0z:X4e 5=some (w5,true):=by kernel_rfl
theorem Y0y:X4e 6=some (w6,true):=by kernel_rfl
theorem V2q {i:Nat}(h:i<7):∃ w,X4e i=some (w,true)∧w∈Q0s:=by
 match i,h with
 | 0,_=>exact ⟨_,Y14,by simp [Q0s]⟩
 | 1,_=>exact ⟨_,Y13,by simp [Q0s]⟩
 | 2,_=>exact ⟨_,Y12,by simp [Q0s]⟩
 | 3,_=>exact ⟨_,Y11,by simp [Q0s]⟩
 | 4,_=>exact ⟨_,Y10,by simp [Q0s]⟩
 | 5,_=>exact ⟨_,Y0z,by simp [Q0s]⟩
 | 6,_=>exact ⟨_,Y0y,by simp [Q0s]⟩
def tys (w:List Q4):List Q6:=tI::(List.range w.length).flatMap fun (d:Nat)=>(List.range 4).map fun (i:Nat)=>tD d i
def X5 (w:List Q4)(t:Q6):List Int:=(Q0w w t).getD []
def V6 (w:List Q4)(t:Q6)(k:Int):List Q6:=(Q0m w t k).getD []
def tabP (w:List Q4):List Int:=(Q0v NN w).getD []
def depP (w:List Q4)(t:Q6):Int:=(Q22 (tabP w) t).getD 0
def Q6x (w:List Q4)(t:Q6)(k:Int):Int:=(Q52 w (tabP w) t k).getD 0
def chkT (w:List Q4)(t:Q6):Bool:=
 decide (Q0w w t=some (X5 w t))&&decide (Q14 w t=some (X5 w t)) &&
 (X5 w t).all (fun k=>decide (Q0m w t k=some (V6 w t k))&&decide (Q15 w t k=some (V6 w t k))&&(V6 w t k).all (fun a=>decide (a∈tys w))&&decide ((V6 w t k).length≤3) &&
  decide (Q52 w (tabP w) t k=some (Q6x w t k))&&decide (0≤Q6x w t k)&&(decide (Q6x w t k=0)||(V6 w t k).all (fun a=>decide (1≤depP w a)&&decide (depP w a<Q6x w t k)))) &&
 decide (Q7m w t=some true)&&decide (Q9c w t=some true)&&decide (Q22 (tabP w) t=some (depP w t))&&decide (0≤depP w t)&&decide (depP w t≤4)&&decide ((X5 w t).length≤4) &&
 (decide (t.data = -1)||decide (depP w t=0)||(X5 w t).any (fun k=>decide (Q6x w t k=depP w t)))&&(decide (t.data≠-1)||(decide (t=tI)&&decide (depP w t=1)))
def chkW (w:List Q4):Bool:=
 (tys w).all (chkT w)&&decide (Q0v NN w=some (tabP w))&&decide (Q4p NN w=some true)&&decide (Q2w NN w=some true)&&decide (0<w.length)&&decide (w.length≤2)
theorem W8h:Q0s.all chkW=true:=by kernel_rfl
structure WT (w:List Q4) (t:Q6):Prop where
 c1:Q0w w t=some (X5 w t)
 c2:Q14 w t=some (X5 w t)
 a1:∀ k∈X5 w t,Q0m w t k=some (V6 w t k)
 a2:∀ k∈X5 w t,Q15 w t k=some (V6 w t k)
 at_:∀ k∈X5 w t,∀ a∈V6 w t k,a∈tys w
 al:∀ k∈X5 w t,(V6 w t k).length≤3
 m1:∀ k∈X5 w t,Q52 w (tabP w) t k=some (Q6x w t k)
 m0:∀ k∈X5 w t,0≤Q6x w t k
 ma:∀ k∈X5 w t,Q6x w t k≠0→∀ a∈V6 w t k,1≤depP w a∧depP w a<Q6x w t k
 t1:Q7m w t=some true
 t2:Q9c w t=some true
 d1:Q22 (tabP w) t=some (depP w t)
 d0:0≤depP w t
 d4:depP w t≤4
 cl:(X5 w t).length≤4
 dm:t.data≠-1→depP w t≠0→∃ k∈X5 w t,Q6x w t k=depP w t
 ti:t.data = -1→t=tI∧depP w t=1
structure WW (w:List Q4):Prop where
 ty:∀ t∈tys w,WT w t
 tab:Q0v NN w=some (tabP w)
 v1:Q4p NN w=some true
 v2:Q2w NN w=some true
 pos:0<w.length
 le:w.length≤2
theorem V6d {w:List Q4}{t:Q6}(h:chkT w t=true):WT w t:=by
 simp only [chkT,Bool.and_eq_true,Bool.or_eq_true,decide_eq_true_eq,List.all_eq_true,List.any_eq_true] at h
 obtain ⟨⟨⟨⟨⟨⟨⟨⟨⟨⟨h1,h2⟩,h3⟩,h4⟩,h5⟩,h6⟩,h7⟩,h8⟩,h9⟩,h10⟩,h11⟩:=h
 have hk:∀ k∈X5 w t,_:=h3
 refine ⟨h1,h2,fun k hk=>(h3 k hk).1.1.1.1.1.1,fun k hk=>(h3 k hk).1.1.1.1.1.2,fun k hk=>(h3 k hk).1.1.1.1.2,fun k hk=>(h3 k hk).1.1.1.2,fun k hk=>(h3 k hk).1.1.2,fun k hk=>(h3 k hk).1.2,fun k hk hm a ha=>?_,h4,h5,h6,h7,h8,h9,fun hd h0=>?_,fun hd=>?_⟩
 ·rcases (h3 k hk).2 with h | h
  ·exact absurd h hm
  ·exact h a ha
 ·rcases h10 with (h | h) | h
  ·exact absurd h hd
  ·exact absurd h h0
  ·exact h
 ·rcases h11 with h | h
  ·exact absurd hd h
  ·exact h
theorem ww {w:List Q4}(h:w∈Q0s):WW w:=by
 have h:=List.all_eq_true.1 W8h w h
 simp only [chkW,Bool.and_eq_true,decide_eq_true_eq,List.all_eq_true] at h
 obtain ⟨⟨⟨⟨⟨h1,h2⟩,h3⟩,h4⟩,h5⟩,h6⟩:=h
 exact ⟨fun t ht=>V6d (h1 t ht),h2,h3,h4,h5,h6⟩
def dimP (w:List Q4):List Int:=(Q5v NN w).getD []
def Z41 (w:List Q4)(t:Q6)(k:Int):Bool:=decide (0<(Q11 (dimP w) w t k).getD 0)
def V13 (w:List Q4)(t:Q6):List Int:=(X5 w t).filter (Z41 w t)
def V3g (w:List Q4)(t:Q6)(k:Int):Bool:=match Q51 w t k with
 | some p=>decide (Q12 NN w (tabP w) t p=some (Z41 w t k))
 | none=>false
def chkL (w:List Q4):Bool:=decide (Q5v NN w=some (dimP w)) &&
 (tys w).all fun t=>decide (t.data = -1)||(X5 w t).all fun k=>(Q11 (dimP w) w t k).isSome&&(V3g w t k&&decide (k≠-1))
theorem Y5c:Q0s.all chkL=true:=by kernel_rfl
structure WL (w:List Q4):Prop where
 dim:Q58 NN w=some ⟨w,dimP w⟩
 ctor:∀ t∈tys w,t.data≠-1→∀ k∈X5 w t,∃ r,Q11 (dimP w) w t k=some r∧Z41 w t k=decide (0<r)
 wide:∀ t∈tys w,t.data≠-1→∀ k∈X5 w t,∃ p,Q51 w t k=some p∧Q12 NN w (tabP w) t p=some (Z41 w t k)
 pos:∀ t∈tys w,t.data≠-1→∀ k∈X5 w t,k≠-1
theorem wl {w:List Q4}(h:w∈Q0s):WL w:=by
 have h:=List.all_eq_true.1 Y5c w h
 simp only [chkL,Bool.and_eq_true,Bool.or_eq_true,decide_eq_true_eq,List.all_eq_true,Option.isSome_iff_exists] at h
 obtain ⟨h1,h2⟩:=h
 have h3:∀ t∈tys w,t.data≠-1→∀ k∈X5 w t,_:=fun t ht hd k hk=>((h2 t ht).resolve_left hd) k hk
 refine ⟨by unfold Q58;rw [h1];rfl,fun t ht hd k hk=>?_,fun t ht hd k hk=>?_,fun t ht hd k hk=>(h3 t ht hd k hk).2.2⟩
 ·obtain ⟨⟨r,hr⟩,_⟩:=h3 t ht hd k hk
  exact ⟨r,hr,by rw [Z41,hr];rfl⟩
 ·obtain ⟨_,hw,_⟩:=h3 t ht hd k hk
  unfold V3g at hw
  split at hw
  ·rename_i p hp
   exact ⟨p,hp,by simpa using hw⟩
  ·cases hw
instance:DecidableEq Z2:=fun a b=>decidable_of_iff (a.var=b.var∧a.typ=b.typ) ⟨fun h=>by cases a;cases b;simp at h;simp [h],fun h=>by subst h;simp⟩
theorem V49 (l:List Int)(x:Int):Q5s l x=some (decide (x∈l)):=by
 have h:Ret (Q5s l x) (fun b=>b=decide (x∈l)):=by
  unfold Q5s
  refine Ret.ctl (Z4 l (fun k _=>∀ j,j<k→l[j]?≠some x) (fun r=>r=true∧x∈l) (fun _=>x∉l) (fun j hj=>by omega) (fun k y s hy hI=>?_) (fun s hI=>?_)) (fun r hr=>?_) (fun s hs=>?_)
  ·refine Ret.ite (fun h=>?_) (fun h=>?_)
   ·rw [Z8] at h
    exact .some ⟨rfl,h▸U1 hy⟩
   ·rw [W2] at h
    refine .some (fun j hj=>?_)
    by_cases hjk:j=k
    ·subst hjk
     rw [hy]
     simpa using h
    ·exact hI j (by omega)
  ·intro hm
   obtain ⟨j,hj⟩:=List.mem_iff_getElem?.1 hm
   exact hI j ((List.getElem?_eq_some_iff.1 hj).1) hj
  ·obtain ⟨rfl,hx⟩:=hr
   exact .some (by simp [hx])
  ·exact .some (by simp [hs])
 obtain ⟨b,hb,rfl⟩:=h
 exact hb
theorem Z2n (l:List Int)(x:Int):Q0c l x=some (decide (x∈l)):=by
 have h:Ret (Q0c l x) (fun b=>b=decide (x∈l)):=by
  unfold Q0c
  refine Ret.bind (P:=fun r=>(0≤r∧x∈l)∨(r = -1∧x∉l)) ?_ (fun a ha=>?_)
  ·unfold Q5j
   refine Ret.ctl (Z4 l (fun k _=>∀ j,j<k→l[j]?≠some x) (fun r=>0≤r∧x∈l) (fun _=>x∉l) (fun j hj=>by omega) (fun k y s hy hI=>?_) (fun s hI=>?_)) (fun r hr=>?_) (fun s hs=>?_)
   ·refine Ret.ite (fun h=>?_) (fun h=>?_)
    ·rw [Z8] at h
     exact .some ⟨by omega,h▸U1 hy⟩
    ·rw [W2] at h
     refine .some (fun j hj=>?_)
     by_cases hjk:j=k
     ·subst hjk
      rw [hy]
      simpa using fun e=>h e.symm
     ·exact hI j (by omega)
   ·intro hm
    obtain ⟨j,hj⟩:=List.mem_iff_getElem?.1 hm
    exact hI j ((List.getElem?_eq_some_iff.1 hj).1) hj
   ·exact .some (.inl hr)
   ·exact .some (.inr ⟨rfl,hs⟩)
  ·rcases ha with ⟨h1,h2⟩ | ⟨rfl,h2⟩
   ·exact .some (by simp [ile,h1,h2])
   ·exact .some (by simp [ile,h2])
 obtain ⟨b,hb,rfl⟩:=h
 exact hb
theorem Z0e {α:Type}(l:List α)(f:α→Option Bool)(g:α→Bool)(hf:∀ x∈l,f x=some (g x)) :
  Ret ((forL (fun (k:Nat) (x:α) (s:Unit)=>((f x).bind fun r=>(if r=true then some (Ctl.ret (k:Int)) else some (Ctl.go ())))) 0 l ()).bind fun (o:Ctl Int Unit)=>match o with
   | .ret r=>some r
   | .go _=>none
   | .brk _=>some (-1)) (fun i=>(∃ k x,i=((k:Nat):Int)∧l[k]?=some x∧g x=true)∨(i = -1∧∀ x∈l,g x=false)):=by
 refine Ret.ctl (Z4 l (fun k _=>∀ j x,j<k→l[j]?=some x→g x=false) (fun i=>∃ k x,i=((k:Nat):Int)∧l[k]?=some x∧g x=true) (fun _=>∀ x∈l,g x=false) (fun j x hj=>by omega) (fun k y s hy hI=>?_) (fun s hI=>?_)) (fun r hr=>?_) (fun s hs=>?_)
 ·rw [hf y (U1 hy)]
  show Ret (if g y=true then _ else _) _
  refine Ret.ite (fun h=>?_) (fun h=>?_)
  ·exact .some ⟨k,y,rfl,hy,h⟩
  ·refine .some (fun j x hj hx=>?_)
   by_cases hjk:j=k
   ·subst hjk
    rw [hy] at hx
    cases hx
    exact h
   ·exact hI j x (by omega) hx
 ·intro x hm
  obtain ⟨j,hj⟩:=List.mem_iff_getElem?.1 hm
  exact hI j x ((List.getElem?_eq_some_iff.1 hj).1) hj
 ·exact .some (.inl hr)
 ·exact .some (.inr ⟨rfl,hs⟩)
theorem W27 {α:Type}{l:List α}{g:α→Bool}{x:Option Int}(h:Ret x (fun i=>(∃ k x,i=((k:Nat):Int)∧l[k]?=some x∧g x=true)∨(i = -1∧∀ x∈l,g x=false))):(x.bind fun r=>some (ile 0 r))=some (l.any g):=by
 obtain ⟨i,rfl,h⟩:=h
 rcases h with ⟨k,x,rfl,h2,h3⟩ | ⟨rfl,h2⟩
 ·have:l.any g=true:=List.any_eq_true.2 ⟨x,U1 h2,h3⟩
  rw [this]
  simp [ile]
 ·have:l.any g=false:=by simpa using h2
  rw [this]
  simp [ile]
theorem Z7y (l:List Q3)(f:Q3→Option Bool)(g:Q3→Bool)(hf:∀ x∈l,f x=some (g x)):Q1f l f=some (l.any g):=W27 (Z0e l f g hf)
theorem Z6j (l:List Z2)(f:Z2→Option Bool)(g:Z2→Bool)(hf:∀ x∈l,f x=some (g x)):Q18 l f=some (l.any g):=W27 (Z0e l f g hf)
theorem V2p (a b:Z2):Q8m [ieq a.var b.var,ieq a.typ.data b.typ.data,ieq a.typ.index b.typ.index]=decide (a=b):=by
 obtain ⟨v,d,i⟩:=a
 obtain ⟨v',d',i'⟩:=b
 simp [Q8m,ieq]
theorem X0n (l:List Z2)(x:Z2):Q0j l x=some (decide (x∈l)):=by
 have:=W27 (Z0e l (fun y=>some (decide (x=y))) (fun y=>decide (x=y)) (fun _ _=>rfl))
 have e:l.any (fun y=>decide (x=y))=decide (x∈l):=by
  rw [Bool.eq_iff_iff]
  simp
 rw [e] at this
 unfold Q0j Q39
 simp only [V2p]
 exact this
theorem X8o (a b:List Z2):Q5u a b=some (decide (a.length=b.length)&&a.all fun v=>decide (v∈b)):=by
 unfold Q5u
 by_cases h:a.length=b.length
 ·have h1:ieq (lenZ a.length) (lenZ b.length)=true:=by rw [Z8];simp [lenZ,h]
  rw [if_pos h1,Z6j a _ (fun v=>!decide (v∈b)) (fun x _=>by unfold Q66;rw [X0n];rfl)]
  simp only [U0,h,decide_true,Bool.true_and,Option.some.injEq]
  rw [Bool.eq_iff_iff]
  simp
 ·have h1:¬ieq (lenZ a.length) (lenZ b.length)=true:=by rw [Z8];simp only [lenZ];omega
  rw [if_neg h1]
  simp [h]
def Z3x (w:List Q4)(t:Q6)(p:Q0):Bool:=
 (if p.op=2∨p.op=6 then decide (0≤p.var)&&decide (p.var≤5) else decide (p.var=0))&&(decide (p.op=3)||(decide (p.n=0)&&decide (p.m=0)))&&(decide (p.op=4)||decide (p.ctor=0)) &&
 (decide (p.op=1∨p.op=2∨p.op=5∨p.op=6)||(decide (p.op=3)&&decide (t.data = -1)&&decide (0≤p.n)&&decide (p.n≤p.m)&&decide (p.m≤9))||(decide (p.op=4)&&decide (p.ctor∈X5 w t)))
def Y1 (w:List Q4)(t:Q6)(p:Q0):List Q6:=if p.op=4 then V6 w t p.ctor else if p.op=5 then [t,t] else if p.op=6 then [t] else []
def Q73 (w:List Q4)(t:Q6)(p:Q0):Bool:=Z3x w t p&&decide (p.kids.length=(Y1 w t p).length)
theorem Q86 (a b c:Int):J0 a b c=some (decide (b≤a)&&decide (a≤c)):=by
 unfold J0
 by_cases h:b≤a<;>simp [ile,h]
theorem Y08 {w:List Q4}{t:Q6}(hw:WT w t)(p:Q0):Q8b w t p=some (Z3x w t p):=by
 obtain ⟨op,ctor,n,m,v,kids⟩:=p
 unfold Q8b Z3x
 simp only [hw.c1,U0,V49]
 by_cases h1:op=1
 ·subst h1;simp [ieq,ilt,ile];(repeat' split)<;>simp_all
 by_cases h2:op=2
 ·subst h2;simp [ieq,ilt,ile];(repeat' split)<;>simp_all<;>omega
 by_cases h3:op=3
 ·subst h3;simp [ieq,ilt,ile];(repeat' split)<;>simp_all<;>(intros;omega)
 by_cases h4:op=4
 ·subst h4;simp [ieq,ilt,ile];(repeat' split)<;>simp_all
 by_cases h5:op=5
 ·subst h5;simp [ieq,ilt,ile];(repeat' split)<;>simp_all
 by_cases h6:op=6
 ·subst h6;simp [ieq,ilt,ile];(repeat' split)<;>simp_all<;>omega
 simp [ieq,ilt,ile,h1,h2,h3,h4,h5,h6];(repeat' split)<;>simp_all
theorem V5b (p:Q0)(a b c:Bool)(k:Int):Q4a p a b c k=some ((a||decide (p.ctor=0))&&(b||(decide (p.n=0)&&decide (p.m=0)))&&(c||decide (p.var=0))&&decide ((p.kids.length:Int)=k)):=by
 unfold Q4a
 by_cases h1:p.ctor=0<;>by_cases h2:p.n=0<;>by_cases h3:p.m=0<;>by_cases h4:p.var=0<;>cases a<;>cases b<;>cases c<;>simp [ieq,lenZ,h1,h2,h3,h4]<;>exact decide_eq_decide.2 Iff.rfl
theorem V16 (v:Int):Q77 v=some (decide (0≤v)&&decide (v≤5)):=by
 unfold Q77
 rw [Q86]
 rfl
theorem V0m {w:List Q4}{t:Q6}(hw:WT w t)(p:Q0):∃ ts,Q8c w t p=some (ts,Q73 w t p)∧(Q73 w t p=true→ts=Y1 w t p):=by
 obtain ⟨op,ctor,n,m,v,kids⟩:=p
 unfold Q8c Q73 Z3x Y1
 simp only [hw.c2,U0,Z2n,V5b,V16]
 by_cases h1:op=1
 ·subst h1;exact ⟨[],by simp [ieq];rw [Bool.eq_iff_iff];simp;grind,by simp⟩
 by_cases h2:op=2
 ·subst h2;exact ⟨[],by simp [ieq];split<;>simp<;>grind,by simp⟩
 by_cases h3:op=3
 ·subst h3;exact ⟨[],by simp [ieq,ile];(repeat' split)<;>simp<;>grind,by simp⟩
 by_cases h4:op=4
 ·subst h4
  by_cases hc:ctor∈X5 w t
  ·refine ⟨V6 w t ctor,?_,by simp⟩
   simp [ieq,hc,hw.a2 ctor hc,lenZ]
   grind
  ·exact ⟨[],by simp [ieq,hc],by simp [hc]⟩
 by_cases h5:op=5
 ·subst h5;exact ⟨[t,t],by simp [ieq];grind,by simp⟩
 by_cases h6:op=6
 ·subst h6;exact ⟨[t],by simp [ieq];split<;>simp<;>grind,by simp⟩
 exact ⟨[],by simp [ieq,h1,h2,h3,h4,h5,h6],by simp [h1,h2,h3,h4,h5,h6]⟩
theorem X8x (op:Int):Q7h op=some (if op=5 then 2 else if op=6 then 1 else if op=4 then -1 else 0):=by
 unfold Q7h
 by_cases h1:op=5<;>by_cases h2:op=6<;>by_cases h3:op=4<;>simp [ieq,h1,h2,h3]
theorem X2y {w:List Q4}{t:Q6}(hw:WT w t)(p:Q0)(h:p.op=4→p.ctor∈X5 w t){n:Nat}(hn:4≤n):Q44 n w t p=some (Y1 w t p):=by
 obtain ⟨m,rfl⟩:∃ m,n=m+4:=⟨n-4,by omega⟩
 unfold Q44 Y1
 by_cases h4:p.op=4
 ·simp [ieq,h4,hw.a1 p.ctor (h h4)]
 ·have w1:wadd .i64 0 1=1:=rfl
  have w2:wadd .i64 1 1=2:=rfl
  by_cases h5:p.op=5
  ·simp [ieq,h5,whileL,X8x,ilt,app,w1,w2,Q5]
  ·by_cases h6:p.op=6
   ·simp [ieq,h6,whileL,X8x,ilt,app,w1,w2,Q5]
   ·simp [ieq,h4,h5,h6,whileL,X8x,ilt]
def Q09 (w:List Q4):Nat→Q6→Q0→Bool
 | 0,_,_=>false
 | d+1,t,p=>Q73 w t p&&((Y1 w t p).zip p.kids).all fun x=>Q09 w d x.1 x.2
def ownV (t:Q6)(p:Q0):List Z2:=if p.op=2∨p.op=6 then [⟨p.var,t⟩] else []
def Q2u (w:List Q4):Nat→Q6→Q0→List Z2
 | 0,_,_=>[]
 | d+1,t,p=>ownV t p++(((Y1 w t p).zip p.kids).take (if p.op=5 then 1 else p.kids.length)).flatMap fun x=>Q2u w d x.1 x.2
def Q24 (l:List Z2):Bool:=decide (l.map (·.var)).Nodup
def Z1r (a b:List Z2):Bool:=decide (a.length=b.length)&&a.all fun v=>decide (v∈b)
def kv (w:List Q4)(d:Nat)(t:Q6)(p:Q0)(i:Nat):List Z2:=((Y1 w t p).zip p.kids)[i]?.elim [] fun x=>Q2u w d x.1 x.2
def linD (w:List Q4):Nat→Q6→Q0→Bool
 | 0,_,_=>true
 | d+1,t,p=>(((Y1 w t p).zip p.kids).all fun x=>linD w d x.1 x.2)&&if p.op=5 then Z1r (kv w d t p 0) (kv w d t p 1) else Q24 (Q2u w (d+1) t p)
theorem Q06 {w:List Q4}{d:Nat}{t:Q6}{p:Q0}(h:Q09 w d t p=true):Q73 w t p=true:=by
 cases d with
 | zero=>cases h
 | succ d=>simp only [Q09,Bool.and_eq_true] at h;exact h.1
theorem Q0i {w:List Q4}{t:Q6}{p:Q0}(h:Q73 w t p=true):Z3x w t p=true∧p.kids.length=(Y1 w t p).length:=by
 simp only [Q73,Bool.and_eq_true,decide_eq_true_eq] at h
 exact h
theorem Q8r {w:List Q4}{t:Q6}{p:Q0}(h:Z3x w t p=true):p.op=4→p.ctor∈X5 w t:=fun h4=>by
 simp [Z3x,h4] at h
 exact h.2
theorem Q8d {w:List Q4}{t:Q6}(hw:WT w t)(ht:t∈tys w){p:Q0}(h:Z3x w t p=true):∀ a∈Y1 w t p,a∈tys w:=fun a ha=>by
 unfold Y1 at ha
 split at ha
 ·rename_i h4;exact hw.at_ _ (Q8r h h4) a ha
 ·split at ha
  ·simp at ha;rw [ha];exact ht
  ·split at ha
   ·simp at ha;rw [ha];exact ht
   ·simp at ha
theorem X6k {w:List Q4}{t:Q6}(hw:WT w t){p:Q0}(h:Z3x w t p=true):(Y1 w t p).length≤3:=by
 unfold Y1
 split
 ·rename_i h4;exact hw.al _ (Q8r h h4)
 ·split
  ·simp
  ·split<;>simp
theorem Q92 {α β:Type}{l:List α}{m:List β}{k:Nat}{a:α}{b:β}(h1:l[k]?=some a)(h2:m[k]?=some b):(l.zip m)[k]?=some (a,b):=by
 rw [List.getElem?_zip_eq_some];exact ⟨h1,h2⟩
theorem Q05 {w:List Q4}{d:Nat}{t:Q6}{p:Q0}(h:Q09 w (d+1) t p=true){k:Nat}{a:Q6}{q:Q0}(h1:(Y1 w t p)[k]?=some a)(h2:p.kids[k]?=some q):Q09 w d a q=true:=by
 simp only [Q09,Bool.and_eq_true,List.all_eq_true] at h
 exact h.2 (a,q) (U1 (Q92 h1 h2))
theorem X5n {w:List Q4}(hw:WW w):∀ (d n:Nat) (t:Q6) (p:Q0),t∈tys w→d+4≤n→d≤100→Q2q n w t p (d:Int)=some (Q09 w d t p):=by
 intro d
 induction d with
 | zero=>
  intro n t p ht hn hd
  obtain ⟨m,rfl⟩:∃ m,n=m+1:=⟨n-1,by omega⟩
  simp [Q2q,ilt,Q09]
 | succ d ih=>
  intro n t p ht hn hd
  obtain ⟨m,rfl⟩:∃ m,n=m+1:=⟨n-1,by omega⟩
  have hT:=hw.ty t ht
  unfold Q2q Q09
  have h1:¬ilt ((d+1:Nat):Int) 1=true:=by rw [X1];omega
  rw [if_neg h1,Y08 hT]
  simp only [U0]
  cases ho:Z3x w t p with
  | false=>simp [Q73,ho]
  | true=>
   simp only [Bool.not_true,U2,if_false]
   rw [X2y hT p (Q8r ho) (by omega)]
   simp only [U0]
   by_cases hl:p.kids.length=(Y1 w t p).length
   ·have h2:¬(!ieq (lenZ p.kids.length) (lenZ (Y1 w t p).length))=true:=by simp [ieq,lenZ,hl]
    rw [if_neg h2]
    have hnode:Q73 w t p=true:=by simp [Q73,ho,hl]
    rw [hnode,Bool.true_and]
    have hws:wsub .i64 ((d+1:Nat):Int) 1=(d:Int):=by
     rw [Q2k (by omega) (by omega)];omega
    have key:Ret ((forL (fun k102 x103 (s96:Unit)=>
      ((idx p.kids (k102:Int)).bind fun x111=>
      ((Q2q m w x103 x111 (wsub .i64 ((d+1:Nat):Int) 1)).bind fun r112=>
      (if (!r112)=true then
      some (Ctl.ret (false))
      else
      some (Ctl.go ()))))) 0 (Y1 w t p) ())) (CtlQ (fun b=>b=false∧(((Y1 w t p).zip p.kids).all fun x=>Q09 w d x.1 x.2)=false) (fun _=>(((Y1 w t p).zip p.kids).all fun x=>Q09 w d x.1 x.2)=true)):=by
     refine Z4 (Y1 w t p) (fun k _=>∀ j a q,j<k→(Y1 w t p)[j]?=some a→p.kids[j]?=some q→Q09 w d a q=true) _ _ (fun j a q hj=>by omega) (fun k a s ha hI=>?_) (fun s hI=>?_)
     ·have hlt:k<p.kids.length:=by have:=(List.getElem?_eq_some_iff.1 ha).1;omega
      have hq:p.kids[k]?=some p.kids[k]:=by simp [hlt]
      rw [Q16 hq]
      simp only [U0]
      rw [hws,ih m a p.kids[k] (Q8d hT ht ho a (U1 ha)) (by omega) (by omega)]
      simp only [U0]
      cases hg:Q09 w d a p.kids[k] with
      | false=>
       refine .some ⟨rfl,?_⟩
       rw [List.all_eq_false]
       exact ⟨(a,p.kids[k]),U1 (Q92 ha hq),by simp [hg]⟩
      | true=>
       refine .some (fun j a' q' hj ha' hq'=>?_)
       by_cases hjk:j=k
       ·subst hjk
        rw [ha] at ha'
        rw [hq] at hq'
        cases ha'
        cases hq'
        exact hg
       ·exact hI j a' q' (by omega) ha' hq'
     ·rw [List.all_eq_true]
      intro x hx
      obtain ⟨j,hj⟩:=List.mem_iff_getElem?.1 hx
      obtain ⟨h3,h4⟩:=List.getElem?_zip_eq_some.1 hj
      exact hI j x.1 x.2 ((List.getElem?_eq_some_iff.1 h3).1) h3 h4
    have:=Ret.ctl (Q:=fun b=>b=(((Y1 w t p).zip p.kids).all fun x=>Q09 w d x.1 x.2)) key (g:=fun (o95:Ctl Bool Unit)=>match o95 with
     | .ret r=>some r
     | .go _=>none
     | .brk s106=>some (true)) (fun r hr=>.some (by rw [hr.1,hr.2])) (fun s hs=>.some (by rw [hs]))
    obtain ⟨b,e,rfl⟩:=this
    exact e
   ·have h2:(!ieq (lenZ p.kids.length) (lenZ (Y1 w t p).length))=true:=by rw [Bool.not_eq_true',W2];simp only [lenZ];omega
    rw [if_pos h2]
    simp [Q73,hl]
def cntP:Q0→Nat
 | ⟨_,_,_,_,_,kids⟩=>1+cntPs kids
where cntPs:List Q0→Nat
 | []=>0
 | p::l=>cntP p+cntPs l
theorem Q82 (p:Q0):cntP p=1+cntP.cntPs p.kids:=by cases p;rw [cntP]
theorem Z0n:∀ (l:List Q0) (k:Nat) (q:Q0),l[k]?=some q→cntP.cntPs (l.take (k+1))=cntP.cntPs (l.take k)+cntP q
 | [],k,q,h=>by simp at h
 | p::l,0,q,h=>by simp at h;subst h;simp [cntP.cntPs]
 | p::l,k+1,q,h=>by
  have:=Z0n l k q (by simpa using h)
  simp only [List.take_succ_cons,cntP.cntPs]
  omega
theorem Q6b:∀ (l:List Q0) (k:Nat),cntP.cntPs (l.take k)≤cntP.cntPs l
 | [],k=>by simp
 | p::l,0=>by simp [cntP.cntPs]
 | p::l,k+1=>by
  have:=Q6b l k
  simp only [List.take_succ_cons,cntP.cntPs]
  omega
theorem W22 (p:Q0):1≤cntP p:=by rw [Q82];omega
theorem X5u:∀ (n:Nat) (p:Q0) (most:Nat),most<n→most≤1000→Q45 n p (most:Int)=some ((min (cntP p) (most+1):Nat):Int):=by
 intro n
 induction n with
 | zero=>intro p most h;omega
 | succ n ih=>
  intro p most hn hm
  unfold Q45
  have key:=Z4 (ρ:=Int) (f:=fun k94 x95 (s88:Int)=>
   (if (ile s88 (most:Int))=true then
   ((Q45 n x95 (wsub .i64 (most:Int) s88)).bind fun r103=>
   some (Ctl.go (wadd .i64 s88 r103)))
   else
   some (Ctl.brk s88))) p.kids (s0:=1) (fun k s=>∃ m:Nat,s=(m:Int)∧m=min (1+cntP.cntPs (p.kids.take k)) (most+1)) (fun _=>False) (fun s=>s=((min (cntP p) (most+1):Nat):Int)) ⟨1,rfl,by simp [cntP.cntPs]⟩ (fun k q s hq hI=>?_) (fun s hI=>?_)
  ·have:=Ret.ctl (Q:=fun b=>b=((min (cntP p) (most+1):Nat):Int)) key (g:=fun (o:Ctl Int Int)=>match o with
    | .ret r=>some r
    | .go _=>none
    | .brk s=>some s) (fun r hr=>hr.elim) (fun s hs=>.some hs)
   obtain ⟨b,e,rfl⟩:=this
   exact e
  ·obtain ⟨m,rfl,hm2⟩:=hI
   refine Ret.ite (fun h=>?_) (fun h=>?_)
   ·rw [Q03] at h
    have hle:m≤most:=by omega
    have hws:wsub .i64 (most:Int) (m:Int)=((most-m:Nat):Int):=by rw [Q2k (by omega) (by omega)];omega
    rw [hws,ih q (most-m) (by omega) (by omega)]
    simp only [U0]
    rw [V0 (by omega) (by omega)]
    refine .some ⟨m+min (cntP q) (most-m+1),by push_cast;rfl,?_⟩
    rw [Z0n p.kids k q hq]
    omega
   ·rw [Q6n] at h
    refine .some ?_
    have h1:=Q6b p.kids k
    have h2:=Q82 p
    show (m:Int)=_
    have:m=min (cntP p) (most+1):=by omega
    rw [this]
  ·obtain ⟨m,rfl,hm2⟩:=hI
   rw [List.take_length] at hm2
   have h2:=Q82 p
   have:m=min (cntP p) (most+1):=by omega
   rw [this]
theorem Q7u {w:List Q4}(hw:WW w):∀ (d n:Nat) (t:Q6) (p:Q0) (out:List Z2),t∈tys w→Q09 w d t p=true→d+4≤n→out.length+cntP p≤100000→Q17 n out w t p=some (out++Q2u w d t p)∧(Q2u w d t p).length≤cntP p:=by
 intro d
 induction d with
 | zero=>intro n t p out ht hg;cases hg
 | succ d ih=>
  intro n t p out ht hg hn hout
  obtain ⟨m,rfl⟩:∃ m,n=m+1:=⟨n-1,by omega⟩
  have hT:=hw.ty t ht
  obtain ⟨ho,hl⟩:=Q0i (Q06 hg)
  unfold Q17
  have hfirst:(((if (ieq p.op 2)=true then
    ((app out [(Z2.mk p.var t)]).bind fun x20=>some (Ctl.brk x20))
    else
    (if (ieq p.op 6)=true then
    ((app out [(Z2.mk p.var t)]).bind fun x22=>some (Ctl.brk x22))
    else
    some (Ctl.brk out)))):Option (Ctl (List Z2) (List Z2)))=some (Ctl.brk (out++ownV t p)):=by
   have ha:app out [(Z2.mk p.var t)]=some (out++[(Z2.mk p.var t)]):=X4 (by simp [Q5];omega)
   by_cases h2:p.op=2
   ·simp [ieq,h2,ha,ownV]
   ·by_cases h6:p.op=6
    ·simp [ieq,h6,ha,ownV]
    ·simp [ieq,h2,h6,ownV]
  rw [hfirst]
  simp only [U0]
  rw [X2y hT p (Q8r ho) (by omega)]
  simp only [U0]
  have hcnt:=Q82 p
  have hown:(ownV t p).length≤1:=by unfold ownV;split<;>simp
  have key:=Z4 (ρ:=List Z2) (f:=fun k179 x180 (s173:List Z2)=>
   (((if (ieq (k179:Int) 0)=true then
   some (Ctl.brk ())
   else
   (if (!ieq p.op 5)=true then
   some (Ctl.brk ())
   else
   some (Ctl.ret (Ctl.brk s173))))).bind fun (o190:Ctl (Ctl (List Z2) (List Z2)) (Unit))=>match o190 with
   | .ret r=>some r
   | .go _=>none
   | .brk s189=>
   ((idx p.kids (k179:Int)).bind fun x201=>
   ((Q17 m s173 w x180 x201).bind fun r202=>
   some (Ctl.go r202))))) (Y1 w t p) (s0:=out++ownV t p)
   (fun k s=>s=out++(ownV t p++(((Y1 w t p).zip p.kids).take k).flatMap fun x=>Q2u w d x.1 x.2)∧k≤(if p.op=5 then 1 else p.kids.length)∧s.length≤out.length+1+cntP.cntPs (p.kids.take k))
   (fun _=>False) (fun s=>s=out++Q2u w (d+1) t p∧s.length≤out.length+cntP p) ⟨by simp,by split<;>omega,by simp;omega⟩ (fun k a s ha hI=>?_) (fun s hI=>?_)
  ·have:=Ret.ctl (Q:=fun b=>b=out++Q2u w (d+1) t p∧b.length≤out.length+cntP p) key (g:=fun (o:Ctl (List Z2) (List Z2))=>match o with
    | .ret r=>some r
    | .go _=>none
    | .brk s=>some s) (fun r hr=>hr.elim) (fun s hs=>.some hs)
   obtain ⟨b,e,rfl,h2⟩:=this
   refine ⟨e,?_⟩
   rw [U5] at h2
   omega
  ·obtain ⟨hs,hk,hlen⟩:=hI
   have hlt:k<p.kids.length:=by have:=(List.getElem?_eq_some_iff.1 ha).1;omega
   have hq:p.kids[k]?=some p.kids[k]:=by simp [hlt]
   have h1:=Z0n p.kids k _ hq
   have h2:=Q6b p.kids (k+1)
   have hpos:=W22 p.kids[k]
   have go:∀ (hk2:k+1≤(if p.op=5 then 1 else p.kids.length)),Ret ((idx p.kids (k:Int)).bind fun x201=>
     ((Q17 m s w a x201).bind fun r202=>
     some (Ctl.go (ρ:=List Z2) r202))) (RndQ (fun _=>False) (fun s=>s=out++Q2u w (d+1) t p∧s.length≤out.length+cntP p) (fun s=>s=out++(ownV t p++(((Y1 w t p).zip p.kids).take (k+1)).flatMap fun x=>Q2u w d x.1 x.2)∧k+1≤(if p.op=5 then 1 else p.kids.length)∧s.length≤out.length+1+cntP.cntPs (p.kids.take (k+1)))):=fun hk2=>by
    rw [Q16 hq]
    simp only [U0]
    obtain ⟨e1,e2⟩:=ih m a p.kids[k] s (Q8d hT ht ho a (U1 ha)) (Q05 hg ha hq) (by omega) (by omega)
    rw [e1]
    refine .some ⟨?_,hk2,?_⟩
    ·rw [List.take_add_one,Q92 ha hq,hs]
     simp
    ·rw [U5]
     omega
   by_cases h5:p.op=5
   ·by_cases hk0:k=0
    ·subst hk0
     have h0:ieq ((0:Nat):Int) 0=true:=rfl
     rw [if_pos h0]
     exact go (by rw [if_pos h5];omega)
    ·rw [if_pos h5] at hk
     have hk1:k=1:=by omega
     subst hk1
     have h0:¬ieq ((1:Nat):Int) 0=true:=by decide
     have h50:¬(!ieq p.op 5)=true:=by simp [ieq,h5]
     rw [if_neg h0,if_neg h50]
     refine .some ⟨?_,?_⟩
     ·rw [hs]
      simp only [Q2u,if_pos h5]
     ·have:=Q6b p.kids 1
      omega
   ·have h50:(!ieq p.op 5)=true:=by simp [ieq,h5]
    have:(if (ieq (k:Int) 0)=true then some (Ctl.brk (ρ:=Ctl (List Z2) (List Z2)) ()) else (if (!ieq p.op 5)=true then some (Ctl.brk ()) else some (Ctl.ret (Ctl.brk s))))=some (Ctl.brk ()):=by
     rw [if_pos h50]
     split<;>rfl
    rw [this]
    exact go (by rw [if_neg h5];omega)
  ·obtain ⟨hs,hk,hlen⟩:=hI
   rw [←hl] at hs hk hlen
   by_cases h5:p.op=5
   ·rw [if_pos h5] at hk
    have:(Y1 w t p).length=2:=by simp [Y1,h5]
    omega
   ·refine ⟨?_,?_⟩
    ·rw [hs]
     simp only [Q2u,if_neg h5]
    ·rw [List.take_length] at hlen
     omega
theorem X9m (l:List Z2)(v:Int):Ret (Q3n l v) (fun i=>(∃ k x,i=((k:Nat):Int)∧l[k]?=some x∧x.var=v∧∀ j y,j<k→l[j]?=some y→y.var≠v)∨(i = -1∧∀ x∈l,x.var≠v)):=by
 unfold Q3n
 refine Ret.ctl (Z4 l (fun k _=>∀ j x,j<k→l[j]?=some x→x.var≠v) (fun i=>∃ k x,i=((k:Nat):Int)∧l[k]?=some x∧x.var=v∧∀ j y,j<k→l[j]?=some y→y.var≠v) (fun _=>∀ x∈l,x.var≠v) (fun j x hj=>by omega) (fun k y s hy hI=>?_) (fun s hI=>?_)) (fun r hr=>?_) (fun s hs=>?_)
 ·refine Ret.ite (fun h=>?_) (fun h=>?_)
  ·rw [Z8] at h
   exact .some ⟨k,y,rfl,hy,h,hI⟩
  ·rw [W2] at h
   refine .some (fun j x hj hx=>?_)
   by_cases hjk:j=k
   ·subst hjk
    rw [hy] at hx
    cases hx
    exact h
   ·exact hI j x (by omega) hx
 ·intro x hm
  obtain ⟨j,hj⟩:=List.mem_iff_getElem?.1 hm
  exact hI j x ((List.getElem?_eq_some_iff.1 hj).1) hj
 ·exact .some (.inl hr)
 ·exact .some (.inr ⟨rfl,hs⟩)
theorem Q9y {l:List Z2}(h:Q24 l=true){i j:Nat}{x y:Z2}(hi:l[i]?=some x)(hj:l[j]?=some y)(he:x.var=y.var):i=j:=by
 unfold Q24 at h
 have h:=of_decide_eq_true h
 have hi':(l.map (·.var))[i]?=some x.var:=by simp [hi]
 have hj':(l.map (·.var))[j]?=some x.var:=by simp [hj,he]
 have hil:=(List.getElem?_eq_some_iff.1 hi').1
 exact (List.getElem?_inj hil h).1 (hi'.trans hj'.symm)
theorem X0k {l:List Z2}(h:∀ (i j:Nat) (x y:Z2),l[i]?=some x→l[j]?=some y→x.var=y.var→i=j):Q24 l=true:=by
 unfold Q24
 refine decide_eq_true (List.pairwise_iff_getElem.2 fun i j hi hj hij he=>?_)
 simp only [U7] at hi hj
 simp only [List.getElem_map] at he
 have:=h i j l[i] l[j] (by simp [hi]) (by simp [hj]) he
 omega
theorem V38 (a b:List Z2)(hb:Q24 b=true):Q5f a b=some (Z1r a b):=by
 have h:Ret (Q5f a b) (fun r=>r=Z1r a b):=by
  unfold Q5f
  refine Ret.ctl (Z4 a (fun k _=>∀ j x,j<k→a[j]?=some x→x∈b) (fun r=>r=false∧∃ x∈a,x∉b) (fun _=>∀ x∈a,x∈b) (fun j x hj=>by omega) (fun k y s hy hI=>?_) (fun s hI=>?_)) (fun r hr=>?_) (fun s hs=>?_)
  ·refine Ret.bind (X9m b y.var) (fun i hi=>?_)
   rcases hi with ⟨q,x,rfl,hx,hv,_⟩ | ⟨rfl,hno⟩
   ·have h1:¬ilt ((q:Nat):Int) 0=true:=by rw [X1];omega
    rw [if_neg h1,Q16 hx]
    simp only [U0]
    by_cases ht:x.typ=y.typ
    ·have hxy:x=y:=by cases x;cases y;simp_all
     have h2:¬(!Q8m [ieq x.typ.data y.typ.data,ieq x.typ.index y.typ.index])=true:=by rw [ht];simp [Q8m,ieq]
     rw [if_neg h2]
     refine .some (fun j z hj hz=>?_)
     by_cases hjk:j=k
     ·subst hjk
      rw [hy] at hz
      cases hz
      rw [←hxy]
      exact U1 hx
     ·exact hI j z (by omega) hz
    ·have h2:(!Q8m [ieq x.typ.data y.typ.data,ieq x.typ.index y.typ.index])=true:=by
      have:¬(x.typ.data=y.typ.data∧x.typ.index=y.typ.index):=fun e=>ht (by cases hx:x.typ;cases hy:y.typ;rw [hx,hy] at e;simp_all)
      simp only [Q8m,ieq,List.all_cons,List.all_nil,id,Bool.and_true,Bool.not_eq_true',Bool.and_eq_false_iff,decide_eq_false_iff_not]
      exact Decidable.not_and_iff_or_not.1 this
     rw [if_pos h2]
     refine .some ⟨rfl,y,U1 hy,fun hm=>?_⟩
     obtain ⟨j,hj⟩:=List.mem_iff_getElem?.1 hm
     have:=Q9y hb hx hj hv
     subst this
     rw [hx] at hj
     cases hj
     exact ht rfl
   ·have h1:ilt (-1) 0=true:=rfl
    rw [if_pos h1]
    exact .some ⟨rfl,y,U1 hy,fun hm=>hno y hm rfl⟩
  ·intro x hm
   obtain ⟨j,hj⟩:=List.mem_iff_getElem?.1 hm
   exact hI j x ((List.getElem?_eq_some_iff.1 hj).1) hj
  ·obtain ⟨rfl,x,hx,hxb⟩:=hr
   refine .some ?_
   symm
   unfold Z1r
   rw [Bool.and_eq_false_iff]
   right
   rw [List.all_eq_false]
   exact ⟨x,hx,by simpa using hxb⟩
  ·refine .some ?_
   unfold Z1r
   have:a.all (fun v=>decide (v∈b))=true:=by rw [List.all_eq_true];intro x hx;simpa using hs x hx
   rw [this,Bool.and_true]
   simp only [ieq,lenZ]
   exact decide_eq_decide.2 (by omega)
 obtain ⟨r,e,rfl⟩:=h
 exact e
theorem Q5x {w:List Q4} : ∀ (d:Nat) (t:Q6) (p:Q0),Q09 w d t p=true→linD w d t p=true→Q24 (Q2u w d t p)=true:=by
 intro d
 induction d with
 | zero=>intro t p hg;cases hg
 | succ d ih=>
  intro t p hg hl
  simp only [linD,Bool.and_eq_true,List.all_eq_true] at hl
  by_cases h5:p.op=5
  ·obtain ⟨ho,hlen⟩:=Q0i (Q06 hg)
   have hk:Y1 w t p=[t,t]:=by simp [Y1,h5]
   rw [hk] at hlen
   simp only [Q2u,if_pos h5,hk]
   have hown:ownV t p=[]:=by simp [ownV,h5]
   match hkids:p.kids,hlen with
   | [a,b],_=>
    rw [hkids,hk] at hl
    have h1:=hl.1 (t,a) (by simp)
    have h2:=ih t a (Q05 hg (k:=0) (by rw [hk];rfl) (by rw [hkids];rfl)) h1
    simpa [hown] using h2
  ·have:=hl.2
   rw [if_neg h5] at this
   exact this
theorem kid0 {w:List Q4}{t:Q6}{p:Q0}(h5:p.op=5)(hl:p.kids.length=(Y1 w t p).length):∃ a b,p.kids=[a,b]∧Y1 w t p=[t,t]:=by
 have hk:Y1 w t p=[t,t]:=by simp [Y1,h5]
 rw [hk] at hl
 match hkids:p.kids,hl with
 | [a,b],_=>exact ⟨a,b,rfl,hk⟩
theorem X4m {p:Q0}{k:Nat}{q:Q0}(h:p.kids[k]?=some q):cntP q<cntP p:=by
 have h1:=Z0n p.kids k q h
 have h2:=Q6b p.kids (k+1)
 have h3:=Q82 p
 omega
theorem W2n {w:List Q4}(hw:WW w):∀ (d n:Nat) (t:Q6) (p:Q0),t∈tys w→Q09 w d t p=true→d+5≤n→cntP p≤1000→Q34 n w t p=some (linD w d t p):=by
 intro d
 induction d with
 | zero=>intro n t p ht hg;cases hg
 | succ d ih=>
  intro n t p ht hg hn hc
  obtain ⟨m,rfl⟩:∃ m,n=m+1:=⟨n-1,by omega⟩
  have hT:=hw.ty t ht
  obtain ⟨ho,hl⟩:=Q0i (Q06 hg)
  unfold Q34
  rw [X2y hT p (Q8r ho) (by omega)]
  simp only [U0]
  have h:Ret ((forL (fun k79 x80 (s73:Unit)=>
    ((idx p.kids (k79:Int)).bind fun x88=>
    ((Q34 m w x80 x88).bind fun r89=>
    (if (!r89)=true then
    some (Ctl.ret (false))
    else
    some (Ctl.go ()))))) 0 (Y1 w t p) ())) (CtlQ (fun b=>b=false∧(((Y1 w t p).zip p.kids).all fun x=>linD w d x.1 x.2)=false) (fun _=>(((Y1 w t p).zip p.kids).all fun x=>linD w d x.1 x.2)=true)):=by
   refine Z4 (Y1 w t p) (fun k _=>∀ j a q,j<k→(Y1 w t p)[j]?=some a→p.kids[j]?=some q→linD w d a q=true) _ _ (fun j a q hj=>by omega) (fun k a s ha hI=>?_) (fun s hI=>?_)
   ·have hlt:k<p.kids.length:=by have:=(List.getElem?_eq_some_iff.1 ha).1;omega
    have hq:p.kids[k]?=some p.kids[k]:=by simp [hlt]
    rw [Q16 hq]
    simp only [U0]
    rw [ih m a p.kids[k] (Q8d hT ht ho a (U1 ha)) (Q05 hg ha hq) (by omega) (by have:=X4m hq;omega)]
    simp only [U0]
    cases hgl:linD w d a p.kids[k] with
    | false=>
     refine .some ⟨rfl,?_⟩
     rw [List.all_eq_false]
     exact ⟨(a,p.kids[k]),U1 (Q92 ha hq),by simp [hgl]⟩
    | true=>
     refine .some (fun j a' q' hj ha' hq'=>?_)
     by_cases hjk:j=k
     ·subst hjk
      rw [ha] at ha'
      rw [hq] at hq'
      cases ha'
      cases hq'
      exact hgl
     ·exact hI j a' q' (by omega) ha' hq'
   ·rw [List.all_eq_true]
    intro x hx
    obtain ⟨j,hj⟩:=List.mem_iff_getElem?.1 hx
    obtain ⟨h3,h4⟩:=List.getElem?_zip_eq_some.1 hj
    exact hI j x.1 x.2 ((List.getElem?_eq_some_iff.1 h3).1) h3 h4
  obtain ⟨o,e,ho2⟩:=h
  rw [e]
  simp only [U0]
  cases o with
  | go s=>exact ho2.elim
  | ret r=>
   obtain ⟨rfl,hr⟩:=ho2
   simp only [linD,hr,Bool.false_and]
  | brk s=>
   have hall:(((Y1 w t p).zip p.kids).all fun x=>linD w d x.1 x.2)=true:=ho2
   simp only [linD,hall,Bool.true_and]
   by_cases h5:p.op=5
   ·have h50:ieq p.op 5=true:=by rw [Z8];exact h5
    rw [if_pos h50,if_pos h5]
    obtain ⟨a,b,hkids,hk⟩:=kid0 h5 hl
    have ga:=Q05 hg (k:=0) (by rw [hk];rfl) (by rw [hkids];rfl)
    have gb:=Q05 hg (k:=1) (by rw [hk];rfl) (by rw [hkids];rfl)
    have ca:=X4m (p:=p) (k:=0) (by rw [hkids];rfl)
    have cb:=X4m (p:=p) (k:=1) (by rw [hkids];rfl)
    have k0:kv w d t p 0=Q2u w d t a:=by simp [kv,hkids,hk]
    have k1:kv w d t p 1=Q2u w d t b:=by simp [kv,hkids,hk]
    rw [k0,k1]
    rw [hkids,hk] at hall
    rw [hkids]
    have i0:idx [a,b] 0=some a:=rfl
    have i1:idx [a,b] 1=some b:=rfl
    rw [i0,i1]
    simp only [U0]
    rw [(Q7u hw d m t a [] ht ga (by omega) (by simp;omega)).1,(Q7u hw d m t b [] ht gb (by omega) (by simp;omega)).1]
    simp only [U0,List.nil_append]
    simp at hall
    rw [V38 _ _ (Q5x d t b gb hall.2)]
    rfl
   ·have h50:¬ieq p.op 5=true:=by rw [Z8];exact h5
    rw [if_neg h50,if_neg h5]
    rw [(Q7u hw (d+1) m t p [] ht hg (by omega) (by simp;omega)).1]
    simp only [U0,List.nil_append]
    generalize Q2u w (d+1) t p=l
    have h:Ret ((forL (fun k178 x179 (s172:Unit)=>
      ((Q3n l x179.var).bind fun r186=>
      (if (!ieq r186 (k178:Int))=true then
      some (Ctl.ret (false))
      else
      some (Ctl.go ())))) 0 l ())) (CtlQ (fun b=>b=false∧Q24 l=false) (fun _=>Q24 l=true)):=by
     refine Z4 l (fun k _=>∀ i j x y,i<k→l[i]?=some x→l[j]?=some y→x.var=y.var→i≤j) _ _ (fun i j x y hi=>by omega) (fun k a s ha hI=>?_) (fun s hI=>?_)
     ·refine Ret.bind (X9m l a.var) (fun i hi=>?_)
      rcases hi with ⟨q,x,rfl,hx,hv,hfirst⟩ | ⟨rfl,hno⟩
      ·by_cases hqk:q=k
       ·subst hqk
        have h1:¬(!ieq ((q:Nat):Int) (q:Int))=true:=by simp [ieq]
        rw [if_neg h1]
        refine .some (fun i j x' y' hi hx' hy' hv'=>?_)
        by_cases hiq:i=q
        ·subst hiq
         rw [ha] at hx'
         cases hx'
         rcases Nat.lt_or_ge j i with hji | hji
         ·exact absurd hv'.symm (hfirst j y' hji hy')
         ·exact hji
        ·exact hI i j x' y' (by omega) hx' hy' hv'
       ·have h1:(!ieq ((q:Nat):Int) (k:Int))=true:=by simp [ieq];omega
        rw [if_pos h1]
        refine .some ⟨rfl,?_⟩
        cases hd:Q24 l with
        | false=>rfl
        | true=>exact absurd (Q9y hd hx ha hv) hqk
      ·exact absurd rfl (hno a (U1 ha))
     ·refine X0k fun i j x y hx hy hv=>?_
      have:=hI i j x y ((List.getElem?_eq_some_iff.1 hx).1) hx hy hv
      have:=hI j i y x ((List.getElem?_eq_some_iff.1 hy).1) hy hx hv.symm
      omega
    obtain ⟨o,e,ho3⟩:=h
    rw [e]
    simp only [U0]
    cases o with
    | go s=>exact ho3.elim
    | ret r=>
     obtain ⟨rfl,hr⟩:=ho3
     rw [hr]
    | brk s=>
     have:Q24 l=true:=ho3
     rw [this]
def Q2i (w:List Q4)(t:Q6)(p:Q0):Bool:=Q09 w 10 t p&&(decide (cntP p≤60)&&linD w 10 t p)
theorem X5s {w:List Q4}(hw:WW w){n:Nat}(hn:100≤n)(t:Q6)(p:Q0)(ht:t∈tys w):Q7y n w t p=some (Q2i w t p):=by
 unfold Q7y Q2i
 have h1:=X5n hw 10 n t p ht (by omega) (by omega)
 have e10:((10:Nat):Int)=10:=rfl
 rw [e10] at h1
 rw [h1]
 simp only [U0]
 cases hg:Q09 w 10 t p with
 | false=>simp
 | true=>
  have h2:=X5u n p 60 (by omega) (by omega)
  have e60:((60:Nat):Int)=60:=rfl
  rw [e60] at h2
  rw [h2]
  simp only [U0,if_true,Bool.true_and]
  by_cases hc:cntP p≤60
  ·have:ile ((min (cntP p) (60+1):Nat):Int) 60=true:=by rw [Q03];omega
   rw [if_pos this,W2n hw 10 n t p ht hg (by omega) (by omega)]
   simp [hc]
  ·have:¬ile ((min (cntP p) (60+1):Nat):Int) 60=true:=by rw [Q03];omega
   rw [if_neg this]
   simp [hc]
theorem Z2s {w:List Q4} : ∀ (d:Nat) (t:Q6) (p:Q0),Q09 w d t p=true→∀ v∈Q2u w d t p,0≤v.var∧v.var≤5:=by
 intro d
 induction d with
 | zero=>intro t p hg;cases hg
 | succ d ih=>
  intro t p hg v hv
  simp only [Q2u,List.mem_append,List.mem_flatMap] at hv
  rcases hv with hv | ⟨x,hx,hv⟩
  ·obtain ⟨ho,_⟩:=Q0i (Q06 hg)
   unfold ownV at hv
   split at hv
   ·rename_i h
    simp at hv
    subst hv
    simp [Z3x,h] at ho
    exact ho.1.1.1
   ·simp at hv
  ·have hx:=List.mem_of_mem_take hx
   obtain ⟨j,hj⟩:=List.mem_iff_getElem?.1 hx
   obtain ⟨h3,h4⟩:=List.getElem?_zip_eq_some.1 hj
   exact ih x.1 x.2 (Q05 hg h3 h4) v hv
theorem Y0b (l:List Z2)(hr:∀ v∈l,0≤v.var∧v.var≤5){R:List Z2×Bool×Int} :
  Ret (forL (fun k423 (x424:Z2) (s417:(List Bool))=>
   ((aget 6 s417 x424.var).bind fun x435=>
   (if x435=true then
   some (Ctl.ret R)
   else
   ((aset 6 s417 x424.var true).bind fun x437=>
   some (Ctl.go x437))))) 0 l [false,false,false,false,false,false]) (CtlQ (fun r=>r=R∧Q24 l=false) (fun _=>Q24 l=true)):=by
 refine Z4 l (fun k s=>s.length=6∧(∀ i:Nat,i<6→(s[i]?=some true↔∃ (j:Nat) (x:Z2),j<k∧l[j]?=some x∧x.var=(i:Int)))∧∀ (i j:Nat) (x y:Z2),i<k→j<k→l[i]?=some x→l[j]?=some y→x.var=y.var→i=j) _ _ ⟨rfl,fun i hi=>?_,fun i j x y hi=>by omega⟩ (fun k a s ha hI=>?_) (fun s hI=>?_)
 ·constructor
  ·intro h
   match i,hi with
   | 0,_=>simp at h
   | 1,_=>simp at h
   | 2,_=>simp at h
   | 3,_=>simp at h
   | 4,_=>simp at h
   | 5,_=>simp at h
  ·rintro ⟨j,x,hj,_⟩;omega
 ·obtain ⟨hlen,hmet,hdis⟩:=hI
  obtain ⟨r1,r2⟩:=hr a (U1 ha)
  obtain ⟨v,hv⟩:∃ v:Nat,a.var=(v:Int):=⟨a.var.toNat,by omega⟩
  have hv6:v<6:=by omega
  have hsv:s[v]?=some s[v]:=by simp [hlen,hv6]
  have hget:aget 6 s a.var=some s[v]:=by simp only [aget,hlen,if_true,hv];exact Q16 hsv
  rw [hget]
  simp only [U0]
  cases hb:s[v] with
  | true=>
   rw [hb] at hsv
   obtain ⟨j,x,hj,hx,hxv⟩:=(hmet v hv6).1 hsv
   refine .some ⟨rfl,?_⟩
   cases hd:Q24 l with
   | false=>rfl
   | true=>
    have:=Q9y hd hx ha (by rw [hxv,hv])
    omega
  | false=>
   have hset:aset 6 s a.var true=some (s.set v true):=by
    simp only [aset,hlen,if_true,hv,setI]
    rw [if_pos ⟨by omega,by simpa using by omega⟩]
    simp
   simp only [U2,if_false]
   rw [hset]
   refine .some ⟨by simp [hlen],fun i hi=>?_,fun i j x y hi hj hx hy he=>?_⟩
   ·by_cases hiv:i=v
    ·subst hiv
     rw [List.getElem?_set_self (by omega)]
     exact ⟨fun _=>⟨k,a,by omega,ha,hv⟩,fun _=>rfl⟩
    ·rw [List.getElem?_set_ne (by omega)]
     rw [hmet i hi]
     constructor
     ·rintro ⟨j,x,h1,h2,h3⟩;exact ⟨j,x,by omega,h2,h3⟩
     ·rintro ⟨j,x,h1,h2,h3⟩
      refine ⟨j,x,?_,h2,h3⟩
      rcases Nat.lt_or_ge j k with h | h
      ·exact h
      ·have:j=k:=by omega
       subst this
       rw [ha] at h2
       cases h2
       rw [hv] at h3
       omega
   ·have nomet:∀ (j:Nat) (x:Z2),j<k→l[j]?=some x→x.var=a.var→False:=fun j x h1 h2 h3=>by
     have:=(hmet v hv6).2 ⟨j,x,h1,h2,by rw [h3,hv]⟩
     rw [hsv,hb] at this
     cases this
    by_cases hik:i=k
    ·by_cases hjk:j=k
     ·omega
     ·subst hik
      rw [ha] at hx
      cases hx
      exact (nomet j y (by omega) hy he.symm).elim
    ·by_cases hjk:j=k
     ·subst hjk
      rw [ha] at hy
      cases hy
      exact (nomet i x (by omega) hx he).elim
     ·exact hdis i j x y (by omega) (by omega) hx hy he
 ·obtain ⟨_,_,hdis⟩:=hI
  exact X0k fun i j x y hx hy he=>hdis i j x y ((List.getElem?_eq_some_iff.1 hx).1) ((List.getElem?_eq_some_iff.1 hy).1) hx hy he
theorem X20 {α β:Type}(l:List α)(g:α→List β):(l.take 1).flatMap g=l[0]?.elim [] g:=by
 cases l with
 | nil=>rfl
 | cons a l=>simp
def okD (w:List Q4)(d:Nat)(t:Q6)(p:Q0)(c:Nat):Bool:=Q09 w d t p&&(decide (c+cntP p≤60)&&linD w d t p)
theorem V54 {w:List Q4}(hw:WW w):∀ (d n:Nat) (t:Q6) (p:Q0) (c:Nat),t∈tys w→c≤60→d+5≤n→d≤10→
  Ret (Q1k n w t p (11-(d:Int)) (c:Int)) (fun r=>r.2.1=okD w d t p c∧(okD w d t p c=true→r.1=Q2u w d t p∧r.2.2=((c+cntP p:Nat):Int))):=by
 intro d
 induction d with
 | zero=>
  intro n t p c ht hc hn hd
  obtain ⟨m,rfl⟩:∃ m,n=m+1:=⟨n-1,by omega⟩
  unfold Q1k
  refine Ret.ite (fun h=>?_) (fun h=>?_)
  ·exact .some ⟨by simp [okD,Q09],by simp [okD,Q09]⟩
  ·have:ilt 10 (11-((0:Nat):Int))=true:=rfl
   rw [if_pos this]
   exact .some ⟨by simp [okD,Q09],by simp [okD,Q09]⟩
 | succ d ih=>
  intro n t p c ht hc hn hd
  obtain ⟨m,rfl⟩:∃ m,n=m+1:=⟨n-1,by omega⟩
  have hT:=hw.ty t ht
  have hcp:=Q82 p
  unfold Q1k
  have hc1:wadd .i64 (c:Int) 1=((c+1:Nat):Int):=by rw [V0 (by omega) (by omega)];rfl
  rw [hc1]
  refine Ret.ite (fun h=>?_) (fun h=>?_)
  ·rw [X1] at h
   have:¬c+cntP p≤60:=by omega
   exact .some ⟨by simp [okD,this],by simp [okD,this]⟩
  ·rw [V2] at h
   have h2:¬ilt 10 (11-((d+1:Nat):Int))=true:=by rw [X1];omega
   rw [if_neg h2]
   obtain ⟨ts,hs,hts⟩:=V0m hT p
   rw [hs]
   simp only [U0]
   cases hnode:Q73 w t p with
   | false=>exact .some ⟨by simp [okD,Q09,hnode],by simp [okD,Q09,hnode]⟩
   | true=>
    obtain rfl:=hts hnode
    obtain ⟨ho,hl⟩:=Q0i hnode
    simp only [Bool.not_true,U2,if_false]
    refine Ret.ctl (R:=fun _=>False) (B:=fun s=>s=ownV t p) ?_ (fun r hr=>hr.elim) (fun s hs=>?_)
    ·have ha:app [] [(Z2.mk p.var t)]=some [(Z2.mk p.var t)]:=X4 (by simp [Q5])
     by_cases h2:p.op=2
     ·exact ⟨_,by simp [ieq,h2,ha];rfl,by simp [ownV,h2]⟩
     ·by_cases h6:p.op=6
      ·exact ⟨_,by simp [ieq,h6,ha];rfl,by simp [ownV,h6]⟩
      ·exact ⟨_,by simp [ieq,h2,h6];rfl,by simp [ownV,h2,h6]⟩
    subst hs
    have hown1:(ownV t p).length≤1:=by unfold ownV;split<;>simp
    have hkn:∀ k,k<p.kids.length→∃ a q,(Y1 w t p)[k]?=some a∧p.kids[k]?=some q:=fun k hk=>⟨(Y1 w t p)[k]'(by omega),p.kids[k],by simp,by simp⟩
    have allgood:∀ (P:Q6→Q0→Bool),(∀ (j:Nat) (a:Q6) (q:Q0),j<p.kids.length→(Y1 w t p)[j]?=some a→p.kids[j]?=some q→P a q=true)→(((Y1 w t p).zip p.kids).all fun x=>P x.1 x.2)=true:=fun P hP=>by
     rw [List.all_eq_true]
     intro x hx
     obtain ⟨j,hj⟩:=List.mem_iff_getElem?.1 hx
     obtain ⟨h3,h4⟩:=List.getElem?_zip_eq_some.1 hj
     exact hP j x.1 x.2 ((List.getElem?_eq_some_iff.1 h4).1) h3 h4
    have notall:∀ (P:Q6→Q0→Bool) (k:Nat) (a:Q6) (q:Q0),(Y1 w t p)[k]?=some a→p.kids[k]?=some q→P a q=false→(((Y1 w t p).zip p.kids).all fun x=>P x.1 x.2)=false:=fun P k a q h1 h2 h3=>by
     rw [List.all_eq_false]
     exact ⟨(a,q),U1 (Q92 h1 h2),by simp [h3]⟩
    refine Ret.ctl (Z4 p.kids
     (fun k s=>s.1=((c+1+cntP.cntPs (p.kids.take k):Nat):Int)∧c+1+cntP.cntPs (p.kids.take k)≤60∧s.2=ownV t p++(((Y1 w t p).zip p.kids).take (min k (if p.op=5 then 1 else p.kids.length))).flatMap (fun x=>Q2u w d x.1 x.2)∧
      (∀ (j:Nat) (a:Q6) (q:Q0),j<k→(Y1 w t p)[j]?=some a→p.kids[j]?=some q→Q09 w d a q=true∧linD w d a q=true)∧s.2.length≤1+cntP.cntPs (p.kids.take k)∧
      (p.op=5→2≤k→Z1r (kv w d t p 0) (kv w d t p 1)=true))
     (fun r=>r.2.1=false∧okD w (d+1) t p c=false)
     (fun s=>s.1=((c+cntP p:Nat):Int)∧c+cntP p≤60∧s.2=Q2u w (d+1) t p∧Q09 w (d+1) t p=true∧(((Y1 w t p).zip p.kids).all fun x=>linD w d x.1 x.2)=true∧
      (p.op=5→Z1r (kv w d t p 0) (kv w d t p 1)=true))
     ⟨by simp [cntP.cntPs],by simp [cntP.cntPs];omega,by simp,fun j a q hj=>by omega,by simp;omega,fun _ h=>by omega⟩ (fun k q s hq hI=>?_) (fun s hI=>?_)) (fun r hr=>?_) (fun s hs=>?_)
    ·obtain ⟨i1,i2,i3,i4,i5,i6⟩:=hI
     have hlt:=(List.getElem?_eq_some_iff.1 hq).1
     obtain ⟨a,q',ha,hq'⟩:=hkn k hlt
     rw [hq] at hq'
     cases hq'
     have hcd:=Z0n p.kids k q hq
     have hct:=Q6b p.kids (k+1)
     have hpos:=W22 q
     refine Ret.ctl (R:=fun (r:Ctl (List Z2×Bool×Int) (Int×List Z2))=>∃ x,r=.ret x∧x.2.1=false∧okD w (d+1) t p c=false)
      (B:=fun (s:Int×List Z2)=>s.1=((c+1+cntP.cntPs (p.kids.take (k+1)):Nat):Int)∧c+1+cntP.cntPs (p.kids.take (k+1))≤60∧s.2=ownV t p++(((Y1 w t p).zip p.kids).take (min (k+1) (if p.op=5 then 1 else p.kids.length))).flatMap (fun x=>Q2u w d x.1 x.2)∧
      (∀ (j:Nat) (a:Q6) (q:Q0),j<k+1→(Y1 w t p)[j]?=some a→p.kids[j]?=some q→Q09 w d a q=true∧linD w d a q=true)∧s.2.length≤1+cntP.cntPs (p.kids.take (k+1))∧
      (p.op=5→2≤k+1→Z1r (kv w d t p 0) (kv w d t p 1)=true))
      ?_ (fun r hr=>?_) (fun s hs=>⟨_,rfl,hs⟩)
     ·rw [Q16 ha]
      simp only [U0]
      have hdeep:wadd .i64 (11-((d+1:Nat):Int)) 1=11-(d:Int):=by rw [V0 (by omega) (by omega)];omega
      rw [hdeep,i1]
      refine Ret.bind (ih m a q _ (Q8d hT ht ho a (U1 ha)) i2 (by omega) (by omega)) (fun r hr=>?_)
      obtain ⟨hr1,hr2⟩:=hr
      rw [hr1]
      cases hok:okD w d a q (c+1+cntP.cntPs (p.kids.take k)) with
      | false=>
       refine .some ⟨_,rfl,rfl,?_⟩
       simp only [okD,Bool.and_eq_false_iff] at hok
       rcases hok with h1 | h1 | h1
       ·simp only [okD,Q09,notall _ k a q ha hq h1,Bool.and_false,Bool.false_and]
       ·have h1:=of_decide_eq_false h1
        have:¬c+cntP p≤60:=by omega
        simp [okD,this]
       ·simp only [okD,linD,notall _ k a q ha hq h1,Bool.and_false,Bool.false_and]
      | true=>
       obtain ⟨e1,e2⟩:=hr2 hok
       simp only [okD,Bool.and_eq_true,decide_eq_true_eq] at hok
       obtain ⟨g1,g2,g3⟩:=hok
       have hvl:=(Q7u hw d (d+4) a q [] (Q8d hT ht ho a (U1 ha)) g1 (by omega) (by simp;omega)).2
       have hboth:∀ (j:Nat) (a':Q6) (q':Q0),j<k+1→(Y1 w t p)[j]?=some a'→p.kids[j]?=some q'→Q09 w d a' q'=true∧linD w d a' q'=true:=fun j a' q' hj h1 h2=>by
        by_cases hjk:j=k
        ·subst hjk
         rw [ha] at h1
         rw [hq] at h2
         cases h1
         cases h2
         exact ⟨g1,g3⟩
        ·exact i4 j a' q' (by omega) h1 h2
       simp only [Bool.not_true,U2,if_false]
       have hcount:r.2.2=((c+1+cntP.cntPs (p.kids.take (k+1)):Nat):Int):=by rw [e2,hcd];congr 1;omega
       have happ:app s.2 r.1=some (s.2++Q2u w d a q):=by rw [e1];exact X4 (by simp only [Q5];omega)
       have hzip:=Q92 ha hq
       by_cases h5:p.op=5
       ·have h50:ieq p.op 5=true:=by rw [Z8];exact h5
        rw [if_pos h50]
        obtain ⟨x0,x1,hkids,hkt⟩:=kid0 h5 hl
        by_cases hk1:k=1
        ·subst hk1
         have h10:ieq ((1:Nat):Int) 1=true:=rfl
         rw [if_pos h10,X8o,e1]
         simp only [U0]
         have hs2:s.2=kv w d t p 0:=by
          rw [i3,if_pos h5,show ownV t p=[] by simp [ownV,h5]]
          simp only [Nat.min_self,List.nil_append]
          exact X20 _ _
         have hz1:(kv w d t p 1)=Q2u w d a q:=by unfold kv;rw [hzip];rfl
         refine Ret.ite (fun h=>?_) (fun h=>?_)
         ·refine .some ⟨_,rfl,rfl,?_⟩
          have:Z1r (kv w d t p 0) (kv w d t p 1)=false:=by
           rw [hz1,←hs2]
           rw [Bool.not_eq_true'] at h
           exact h
          simp only [okD,linD,if_pos h5,this,Bool.and_false]
         ·refine .some ⟨hcount,by omega,?_,hboth,by simp only;omega,fun _ _=>?_⟩
          ·rw [i3,if_pos h5]
           rfl
          ·rw [hz1,←hs2]
           simpa [Z1r] using h
        ·have hk0:k=0:=by rw [hkids] at hlt;simp at hlt;omega
         subst hk0
         have h10:¬ieq ((0:Nat):Int) 1=true:=by decide
         rw [if_neg h10,happ]
         refine .some ⟨hcount,by omega,?_,hboth,by simp only [U5];omega,fun _ h=>by omega⟩
         simp only
         rw [i3,if_pos h5]
         simp only [Nat.zero_min,List.take_zero,List.flatMap_nil,List.append_nil,Nat.min_self]
         rw [show (0+1)=1 from rfl,X20,hzip]
         rfl
       ·have h50:¬ieq p.op 5=true:=by rw [Z8];exact h5
        rw [if_neg h50,happ]
        refine .some ⟨hcount,by omega,?_,hboth,by simp only [U5];omega,fun h=>absurd h h5⟩
        simp only
        rw [i3,if_neg h5,Nat.min_eq_left (by omega),Nat.min_eq_left (by omega),List.take_add_one,hzip]
        simp
     ·obtain ⟨x,rfl,h1,h2⟩:=hr
      exact .some ⟨h1,h2⟩
    ·obtain ⟨i1,i2,i3,i4,i5,i6⟩:=hI
     rw [List.take_length] at i1 i2
     refine ⟨by rw [i1];congr 1;omega,by omega,?_,?_,allgood _ fun j a q hj h1 h2=>(i4 j a q hj h1 h2).2,fun h5=>i6 h5 ?_⟩
     ·rw [i3]
      have:min p.kids.length (if p.op=5 then 1 else p.kids.length)=(if p.op=5 then 1 else p.kids.length):=by
       split
       ·rename_i h5
        obtain ⟨x0,x1,hkids,hkt⟩:=kid0 h5 hl
        rw [hkids]
        simp
       ·simp
      rw [this]
      rfl
     ·simp only [Q09,hnode,Bool.true_and]
      exact allgood _ fun j a q hj h1 h2=>(i4 j a q hj h1 h2).1
     ·obtain ⟨x0,x1,hkids,hkt⟩:=kid0 h5 hl
      rw [hkids]
      simp
    ·exact .some ⟨by rw [hr.1,hr.2],fun h=>by rw [hr.2] at h;cases h⟩
    ·obtain ⟨b1,b2,b3,b4,b5,b6⟩:=hs
     refine Ret.ctl (Y0b s.2 (fun v hv=>by rw [b3] at hv;exact Z2s (d+1) t p b4 v hv)) (fun r hr=>?_) (fun s' hs'=>?_)
     ·obtain ⟨rfl,hd0⟩:=hr
      have:okD w (d+1) t p c=false:=by
       by_cases h5:p.op=5
       ·have hlin:linD w (d+1) t p=true:=by simp only [linD,b5,if_pos h5,b6 h5,Bool.and_self]
        have:=Q5x (d+1) t p b4 hlin
        rw [b3,this] at hd0
        cases hd0
       ·rw [b3] at hd0
        simp only [okD,linD,if_neg h5,hd0,Bool.and_false]
      exact .some ⟨by rw [this],fun h=>by rw [this] at h;cases h⟩
     ·have hlin:linD w (d+1) t p=true:=by
       by_cases h5:p.op=5
       ·simp only [linD,b5,if_pos h5,b6 h5,Bool.and_self]
       ·rw [b3] at hs'
        simp only [linD,b5,if_neg h5,hs',Bool.and_self]
      have:okD w (d+1) t p c=true:=by simp [okD,b4,b2,hlin]
      exact .some ⟨by rw [this],fun _=>⟨b3,b1⟩⟩
theorem W6r (w:List Q4)(t:Q6)(p:Q0):okD w 10 t p 0=Q2i w t p:=by simp [okD,Q2i]
theorem V03 {w:List Q4}(hw:WW w):∀ (d:Nat) (t:Q6) (p:Q0),t∈tys w→Q09 w d t p=true→∀ v∈Q2u w d t p,v.typ∈tys w:=by
 intro d
 induction d with
 | zero=>intro t p ht hg;cases hg
 | succ d ih=>
  intro t p ht hg v hv
  obtain ⟨ho,_⟩:=Q0i (Q06 hg)
  simp only [Q2u,List.mem_append,List.mem_flatMap] at hv
  rcases hv with hv | ⟨x,hx,hv⟩
  ·unfold ownV at hv
   split at hv
   ·simp at hv
    subst hv
    exact ht
   ·simp at hv
  ·have hx:=List.mem_of_mem_take hx
   obtain ⟨j,hj⟩:=List.mem_iff_getElem?.1 hx
   obtain ⟨h3,h4⟩:=List.getElem?_zip_eq_some.1 hj
   exact ih x.1 x.2 (Q8d (hw.ty t ht) ht ho x.1 (U1 h3)) (Q05 hg h3 h4) v hv
def X2k (g:Q37)(vars:List Z2):Bool:=if g.op=0 then decide (g.var=0)&&decide (g.n=0) else decide (g.op=1∨g.op=2)&&(decide (0≤g.n)&&decide (g.n≤9))&&decide (⟨g.var,tI⟩∈vars)
def Q83 (w:List Q4)(t:Q6)(c:Q3):Bool:=Q2i w t c.pat&&X2k c.guard (Q2u w 10 t c.pat)
def Q4f (w:List Q4)(t:Q6)(l:List Q3):Bool:=decide (l.length≤8)&&l.all (Q83 w t)
theorem X6n (g:Q37)(vars:List Z2):Q6k g vars=some (X2k g vars):=by
 unfold Q6k X2k
 simp only [Q86,X0n,U0]
 by_cases h0:g.op=0
 ·simp [ieq,h0,Q8m]
 ·rw [if_neg (by rw [Z8];exact h0),if_neg h0]
  have e:(decide (1≤g.op)&&decide (g.op≤2))=decide (g.op=1∨g.op=2):=by
   rw [←Bool.decide_and]
   exact decide_eq_decide.2 (by omega)
  rw [e]
  have et:(Q6.mk (-1) 0)=tI:=rfl
  rw [et]
  cases decide (g.op=1∨g.op=2)<;>cases (decide (0≤g.n)&&decide (g.n≤9))<;>rfl
theorem X5t {w:List Q4}(hw:WW w)(g:Q37)(vars:List Z2)(hd:Q24 vars=true)(ht:∀ v∈vars,v.typ∈tys w):Q5e g vars=some (X2k g vars):=by
 have h:Ret (Q5e g vars) (fun r=>r=X2k g vars):=by
  unfold Q5e X2k
  by_cases h0:g.op=0
  ·rw [if_pos (by rw [Z8];exact h0),if_pos h0]
   by_cases h1:g.var=0<;>simp [ieq,h1,Ret]
  ·rw [if_neg (by rw [Z8];exact h0),if_neg h0]
   refine Ret.ctl (R:=fun r=>r=false∧(decide (g.op=1∨g.op=2)&&(decide (0≤g.n)&&decide (g.n≤9)))=false) (B:=fun _=>(decide (g.op=1∨g.op=2)&&(decide (0≤g.n)&&decide (g.n≤9)))=true) ?_ (fun r hr=>?_) (fun s hs=>?_)
   ·by_cases h1:g.op=1<;>by_cases h2:g.op=2<;>by_cases h3:g.n<0<;>by_cases h4:9<g.n<;>simp [ieq,ilt,h1,h2,h3,h4,Ret]<;>omega
   ·obtain ⟨rfl,hr⟩:=hr
    exact .some (by rw [hr];rfl)
   ·rw [hs,Bool.true_and]
    refine Ret.bind (X9m vars g.var) (fun i hi=>?_)
    rcases hi with ⟨q,x,rfl,hx,hv,_⟩ | ⟨rfl,hno⟩
    ·have h1:ile 0 ((q:Nat):Int)=true:=by rw [Q03];omega
     rw [if_pos h1,Q16 hx]
     refine .some ?_
     have hxm:=U1 hx
     simp only [ieq]
     refine decide_eq_decide.2 ⟨fun hdt=>?_,fun hm=>?_⟩
     ·have:=((hw.ty x.typ (ht x hxm)).ti hdt).1
      have:x=⟨g.var,tI⟩:=by cases x;simp at hv this;simp [hv,this]
      rw [←this]
      exact hxm
     ·obtain ⟨j,hj⟩:=List.mem_iff_getElem?.1 hm
      have:=Q9y hd hx hj hv
      subst this
      rw [hx] at hj
      cases hj
      rfl
    ·have h1:¬ile 0 (-1)=true:=by decide
     rw [if_neg h1]
     refine .some ?_
     symm
     exact decide_eq_false fun hm=>hno _ hm rfl
 obtain ⟨r,e,rfl⟩:=h
 exact e
theorem X1a {w:List Q4}(hw:WW w){n:Nat}(hn:100≤n)(t:Q6)(p:Q0)(ht:t∈tys w):Ret (Q3t n w t p) (fun r=>r.2=Q2i w t p∧(Q2i w t p=true→r.1=Q2u w 10 t p)):=by
 unfold Q3t
 have h:=V54 hw 10 n t p 0 ht (by omega) (by omega) (by omega)
 have e1:(11:Int)-((10:Nat):Int)=1:=rfl
 rw [e1] at h
 refine Ret.bind h (fun r hr=>.some ?_)
 rw [W6r] at hr
 exact ⟨hr.1,fun hv=>(hr.2 hv).1⟩
theorem X3q {w:List Q4}(hw:WW w){n:Nat}(hn:100≤n)(t:Q6)(c:Q3)(ht:t∈tys w):Q4o n w t c=some (Q83 w t c):=by
 have h:Ret (Q4o n w t c) (fun r=>r=Q83 w t c):=by
  unfold Q4o Q83
  refine Ret.bind (X1a hw hn t c.pat ht) (fun r hr=>?_)
  obtain ⟨h1,h2⟩:=hr
  rw [h1]
  cases hv:Q2i w t c.pat with
  | false=>exact .some rfl
  | true=>
   rw [if_pos rfl,X6n,h2 hv]
   exact .some rfl
 obtain ⟨r,e,rfl⟩:=h
 exact e
theorem Q5b {w:List Q4}{t:Q6}{p:Q0}(h:Q2i w t p=true):Q09 w 10 t p=true∧cntP p≤60∧linD w 10 t p=true:=by
 simpa [Q2i] using h
theorem X35 {w:List Q4}(hw:WW w){n:Nat}(hn:100≤n)(t:Q6)(c:Q3)(ht:t∈tys w):Q99 n w t c=some (Q83 w t c):=by
 unfold Q99 Q83
 rw [X5s hw hn t c.pat ht]
 simp only [U0]
 cases hv:Q2i w t c.pat with
 | false=>rfl
 | true=>
  obtain ⟨g1,g2,g3⟩:=Q5b hv
  rw [if_pos rfl,(Q7u hw 10 n t c.pat [] ht g1 (by omega) (by simp;omega)).1]
  simp only [U0,List.nil_append]
  rw [X5t hw c.guard _ (Q5x 10 t c.pat g1 g3) (V03 hw 10 t c.pat ht g1)]
  rfl
theorem Z9n {w:List Q4}(hw:WW w){t:Q6}(ht:t∈tys w):Q3j NN w t=some true:=by
 unfold Q3j
 rw [hw.v1]
 simp only [U0,if_true]
 rw [(hw.ty t ht).t1]
 rfl
theorem X5m {w:List Q4}(hw:WW w){t:Q6}(ht:t∈tys w):Q3g NN w t=some true:=by
 unfold Q3g
 rw [hw.v2]
 simp only [U0,if_true]
 rw [(hw.ty t ht).t2]
 rfl
theorem Z3k {w:List Q4}(hw:WW w){t:Q6}(ht:t∈tys w)(l:List Q3):Q1y NN w t l=some (Q4f w t l):=by
 unfold Q1y Q4f
 rw [Z9n hw ht]
 simp only [U0,if_true]
 by_cases hl:l.length≤8
 ·rw [if_pos (by rw [Q03];simp only [lenZ];omega)]
  rw [Z7y l _ (fun c=>!Q83 w t c) (fun c _=>by unfold Q3v;rw [X3q hw (by decide) t c ht];rfl)]
  simp only [U0,hl,decide_true,Bool.true_and,Option.some.injEq]
  rw [Bool.eq_iff_iff]
  simp
 ·rw [if_neg (by rw [Q03];simp only [lenZ];omega)]
  simp [hl]
theorem Z3d {w:List Q4}(hw:WW w){t:Q6}(ht:t∈tys w)(l:List Q3):Q19 NN w t l=some (Q4f w t l):=by
 have h:Ret (Q19 NN w t l) (fun r=>r=Q4f w t l):=by
  unfold Q19 Q4f
  rw [X5m hw ht]
  simp only [U0,Bool.not_true,U2,if_false]
  by_cases hl:l.length≤8
  ·rw [if_neg (by rw [X1];simp only [lenZ];omega)]
   simp only [hl,decide_true,Bool.true_and]
   refine Ret.ctl (Z4 l (fun k _=>∀ j c,j<k→l[j]?=some c→Q83 w t c=true) (fun r=>r=false∧l.all (Q83 w t)=false) (fun _=>l.all (Q83 w t)=true) (fun j c hj=>by omega) (fun k c s hc hI=>?_) (fun s hI=>?_)) (fun r hr=>?_) (fun s hs=>?_)
   ·rw [X35 hw (by decide) t c ht]
    simp only [U0]
    cases hb:Q83 w t c with
    | false=>
     refine .some ⟨rfl,?_⟩
     rw [List.all_eq_false]
     exact ⟨c,U1 hc,by simp [hb]⟩
    | true=>
     refine .some (fun j c' hj hc'=>?_)
     by_cases hjk:j=k
     ·subst hjk
      rw [hc] at hc'
      cases hc'
      exact hb
     ·exact hI j c' (by omega) hc'
   ·rw [List.all_eq_true]
    intro c hc
    obtain ⟨j,hj⟩:=List.mem_iff_getElem?.1 hc
    exact hI j c ((List.getElem?_eq_some_iff.1 hj).1) hj
   ·exact .some (by rw [hr.1,hr.2])
   ·exact .some hs.symm
  ·rw [if_pos (by rw [X1];simp only [lenZ];omega)]
   exact .some (by simp [hl])
 obtain ⟨r,e,rfl⟩:=h
 exact e
def Q30 (w:List Q4):Nat→Q6→Q1→Prop
 | 0,_,_=>False
 | d+1,t,v=>if t.data = -1 then v.ctor = -1∧0≤v.n∧v.n≤9∧v.kids=[] else v.n=0∧v.ctor∈X5 w t∧v.kids.length=(V6 w t v.ctor).length∧∀ (j:Nat) (a:Q6) (x:Q1),(V6 w t v.ctor)[j]?=some a→v.kids[j]?=some x→Q30 w d a x
def V7 (f:Q0→Q1→Option (List W9)):List Q0→List Q1→Option (List W9)
 | [],_=>some []
 | _::_,[]=>none
 | p::ps,v::vs=>match f p v with
  | none=>none
  | some l=>match V7 f ps vs with
   | none=>none
   | some m=>some (l++m)
def Z6:Nat→Q0→Q1→Option (List W9)
 | 0,_,_=>none
 | d+1,p,v=>
  if p.op=1 then some []
  else if p.op=2 then some [⟨p.var,v⟩]
  else if p.op=3 then (if p.n≤v.n∧v.n≤p.m then some [] else none)
  else if p.op=5 then (match p.kids with
   | [a,b]=>(match Z6 d a v with | some l=>some l | none=>Z6 d b v)
   | _=>none)
  else if p.op=6 then (match p.kids with
   | [a]=>(Z6 d a v).map (fun l=>⟨p.var,v⟩::l)
   | _=>none)
  else if p.ctor=v.ctor then V7 (Z6 d) p.kids v.kids else none
theorem Z2c {f g:Q0→Q1→Option (List W9)} : ∀ (ps:List Q0) (vs:List Q1),(∀ (j:Nat) (p:Q0) (v:Q1),ps[j]?=some p→vs[j]?=some v→f p v=g p v)→V7 f ps vs=V7 g ps vs
 | [],_,_=>rfl
 | _::_,[],_=>rfl
 | p::ps,v::vs,h=>by
  simp only [V7]
  rw [h 0 p v rfl rfl,Z2c ps vs fun j p' v' h1 h2=>h (j+1) p' v' (by simpa using h1) (by simpa using h2)]
theorem X8y {w:List Q4}{t:Q6}{p:Q0}(h6:p.op=6)(hl:p.kids.length=(Y1 w t p).length):∃ a,p.kids=[a]∧Y1 w t p=[t]:=by
 have hk:Y1 w t p=[t]:=by simp [Y1,h6]
 rw [hk] at hl
 match hkids:p.kids,hl with
 | [a],_=>exact ⟨a,rfl,hk⟩
theorem Z6f {α β:Type}{l:List α}{f g:α→List β}(h:∀ x∈l,f x=g x):l.flatMap f=l.flatMap g:=by
 induction l with
 | nil=>rfl
 | cons x l ih=>simp only [List.flatMap_cons];rw [h x (by simp),ih fun y hy=>h y (by simp [hy])]
theorem X4p {α:Type}{l:List α}{f g:α→Bool}(h:∀ x∈l,f x=g x):l.all f=l.all g:=by
 induction l with
 | nil=>rfl
 | cons x l ih=>simp only [List.all_cons];rw [h x (by simp),ih fun y hy=>h y (by simp [hy])]
theorem Q4y {w:List Q4} : ∀ (d:Nat) (t:Q6) (p:Q0),Q09 w d t p=true→
  Q09 w (d+1) t p=true∧Q2u w (d+1) t p=Q2u w d t p∧linD w (d+1) t p=linD w d t p∧∀ v,Z6 (d+1) p v=Z6 d p v:=by
 intro d
 induction d with
 | zero=>intro t p h;cases h
 | succ d ih=>
  intro t p h
  obtain ⟨ho,hl⟩:=Q0i (Q06 h)
  have hz:∀ x∈(Y1 w t p).zip p.kids,Q09 w d x.1 x.2=true:=fun x hx=>by
   obtain ⟨j,hj⟩:=List.mem_iff_getElem?.1 hx
   obtain ⟨h3,h4⟩:=List.getElem?_zip_eq_some.1 hj
   exact Q05 h h3 h4
  have g1:Q09 w (d+1+1) t p=true:=by
   rw [Q09,Q06 h,Bool.true_and,List.all_eq_true]
   exact fun x hx=>(ih x.1 x.2 (hz x hx)).1
  have g2:Q2u w (d+1+1) t p=Q2u w (d+1) t p:=by
   rw [Q2u,Q2u]
   congr 1
   exact Z6f fun x hx=>(ih x.1 x.2 (hz x (List.mem_of_mem_take hx))).2.1
  have gk:∀ i,kv w (d+1) t p i=kv w d t p i:=fun i=>by
   unfold kv
   cases hx:((Y1 w t p).zip p.kids)[i]? with
   | none=>rfl
   | some x=>exact (ih x.1 x.2 (hz x (U1 hx))).2.1
  have g3:linD w (d+1+1) t p=linD w (d+1) t p:=by
   rw [linD,linD,g2,gk,gk]
   congr 1
   exact X4p fun x hx=>(ih x.1 x.2 (hz x hx)).2.2.1
  refine ⟨g1,g2,g3,fun v=>?_⟩
  have hm:∀ q∈p.kids,∀ v,Z6 (d+1) q v=Z6 d q v:=fun q hq v=>by
   obtain ⟨j,hj⟩:=List.mem_iff_getElem?.1 hq
   have hjl:=(List.getElem?_eq_some_iff.1 hj).1
   have ha:(Y1 w t p)[j]?=some ((Y1 w t p)[j]'(by omega)):=by simp
   exact (ih _ q (Q05 h ha hj)).2.2.2 v
  rw [Z6,Z6]
  split
  ·rfl
  ·split
   ·rfl
   ·split
    ·rfl
    ·split
     ·split
      ·rename_i a b hk
       rw [hm a (by rw [hk];simp) v,hm b (by rw [hk];simp) v]
      ·rfl
     ·split
      ·split
       ·rename_i a hk
        rw [hm a (by rw [hk];simp) v]
       ·rfl
      ·split
       ·exact Z2c _ _ fun j q u h1 _=>hm q (U1 h1) u
       ·rfl
theorem Q0.ext' {a b:Q0}(h1:a.op=b.op)(h2:a.ctor=b.ctor)(h3:a.n=b.n)(h4:a.m=b.m)(h5:a.var=b.var)(h6:a.kids=b.kids):a=b:=by
 cases a;cases b;simp_all
def tupD (out:List (List Q0))(l:List Q0):List (List Q0):=out.flatMap fun q=>l.map fun c=>q++[c]
def Q6e (p:Q0)(ks:List Q0):Q0:=Q0.mk p.op p.ctor p.n p.m p.var ks
def Q7:Nat→Q0→List Q0
 | 0,_=>[]
 | d+1,p=>if p.op=5 then p.kids.flatMap (Q7 d) else ((p.kids.map (Q7 d)).foldl tupD [[]]).map (Q6e p)
def orOk:Nat→Q0→Prop
 | 0,_=>False
 | d+1,p=>p.kids.length≤3∧(p.op=5→p.kids.length=2)∧∀ x∈p.kids,orOk d x
theorem Z9s {w:List Q4}(hw:WW w):∀ (d:Nat) (t:Q6) (p:Q0),t∈tys w→Q09 w d t p=true→orOk d p:=by
 intro d
 induction d with
 | zero=>intro t p _ h;simp [Q09] at h
 | succ d ih=>
  intro t p ht g
  have hn:=Q0i (Q06 g)
  refine ⟨by rw [hn.2];exact X6k (hw.ty t ht) hn.1,fun h5=>?_,fun x hx=>?_⟩
  ·rw [hn.2];simp [Y1,h5]
  ·obtain ⟨j,hj⟩:=List.mem_iff_getElem?.1 hx
   have hjl:=(List.getElem?_eq_some_iff.1 hj).1
   have ha:(Y1 w t p)[j]?=some ((Y1 w t p)[j]'(by omega)):=by simp
   exact ih _ x (Q8d (hw.ty t ht) ht hn.1 _ (U1 ha)) (Q05 g ha hj)
def Q8j (l:List Nat):Nat:=l.foldl (· * ·) 1
theorem X05 (l:List Nat):∀ a,l.foldl (· * ·) a=a * l.foldl (· * ·) 1:=by
 induction l with
 | nil=>intro a;simp
 | cons x l ih=>intro a;simp only [List.foldl_cons];rw [ih (a * x),ih (1 * x)];rw [Nat.one_mul,Nat.mul_assoc]
theorem W2v (l:List Nat)(x:Nat):Q8j (l++[x])=Q8j l * x:=by simp [Q8j]
theorem Z4z {l:List Nat}(h:∀ x∈l,1≤x):1≤Q8j l:=by
 induction l with
 | nil=>simp [Q8j]
 | cons x l ih=>
  have h1:=h x (by simp)
  have h2:=ih fun y hy=>h y (by simp [hy])
  have:Q8j (x::l)=x * Q8j l:=by simp only [Q8j,List.foldl_cons];rw [X05,Nat.one_mul]
  rw [this];exact Nat.mul_pos h1 h2
theorem Z4y {l:List Nat}(h:∀ x∈l,1≤x):∀ k,Q8j (l.take k)≤Q8j l:=by
 induction l with
 | nil=>intro k;simp
 | cons x l ih=>
  intro k
  have c:∀ m,Q8j (x::m)=x * Q8j m:=fun m=>by simp only [Q8j,List.foldl_cons];rw [X05,Nat.one_mul]
  cases k with
  | zero=>simp only [List.take_zero];show 1≤_;exact Z4z h
  | succ k=>simp only [List.take_succ_cons,c];exact Nat.mul_le_mul_left _ (ih (fun y hy=>h y (by simp [hy])) k)
theorem X8a (out:List (List Q0))(l:List Q0):(tupD out l).length=out.length * l.length:=by
 unfold tupD
 induction out with
 | nil=>simp
 | cons q out ih=>simp only [List.flatMap_cons,U5,ih,U7,U3];rw [Nat.add_mul,Nat.one_mul,Nat.add_comm]
theorem X2z:∀ (ls:List (List Q0)) (out:List (List Q0)),(ls.foldl tupD out).length=out.length * Q8j (ls.map List.length)
 | [],out=>by simp [Q8j]
 | l::ls,out=>by
  rw [List.foldl_cons,X2z ls,X8a,List.map_cons]
  have:Q8j (l.length::ls.map List.length)=l.length * Q8j (ls.map List.length):=by simp only [Q8j,List.foldl_cons];rw [X05,Nat.one_mul]
  rw [this,Nat.mul_assoc]
theorem Z4n (d:Nat)(p:Q0):(Q7 (d+1) p).length=if p.op=5 then (p.kids.map fun x=>(Q7 d x).length).sum else Q8j (p.kids.map fun x=>(Q7 d x).length):=by
 simp only [Q7]
 split
 ·rw [List.length_flatMap]
 ·rw [U7,X2z];simp [List.map_map,Function.comp_def]
theorem Z1z:∀ (d:Nat) (p:Q0),orOk d p→1≤(Q7 d p).length:=by
 intro d
 induction d with
 | zero=>intro p h;exact h.elim
 | succ d ih=>
  intro p h
  obtain ⟨h1,h2,h3⟩:=h
  rw [Z4n]
  split
  ·rename_i h5
   have hl:=h2 h5
   match hk:p.kids,hl with
   | [a,b],_=>
    have ha:=ih a (h3 a (by simp [hk]))
    simp
    omega
  ·refine Z4z fun x hx=>?_
   obtain ⟨q,hq,rfl⟩:=U10.1 hx
   exact ih q (h3 q hq)
theorem V5d {a b m:Nat}(ha:1≤a)(hb:1≤b):min (min a m * min b m) m=min (a * b) m:=by
 rcases Nat.le_total a m with h1 | h1<;>rcases Nat.le_total b m with h2 | h2
 ·rw [Nat.min_eq_left h1,Nat.min_eq_left h2]
 ·rw [Nat.min_eq_left h1,Nat.min_eq_right h2,Nat.min_eq_right,Nat.min_eq_right]
  ·exact Nat.le_trans h2 (Nat.le_mul_of_pos_left _ ha)
  ·exact Nat.le_mul_of_pos_left _ ha
 ·rw [Nat.min_eq_right h1,Nat.min_eq_left h2,Nat.min_eq_right,Nat.min_eq_right]
  ·exact Nat.le_trans h1 (Nat.le_mul_of_pos_right _ hb)
  ·exact Nat.le_mul_of_pos_right _ hb
 ·rw [Nat.min_eq_right h1,Nat.min_eq_right h2]
  rcases Nat.eq_zero_or_pos m with rfl | hm
  ·simp
  ·rw [Nat.min_eq_right (Nat.le_mul_of_pos_left _ hm),Nat.min_eq_right (Nat.le_trans h2 (Nat.le_mul_of_pos_left _ ha))]
theorem W72 (a b:Nat):imin (a:Int) (b:Int)=((min a b:Nat):Int):=by
 unfold imin
 split<;>omega
theorem X4g:∀ (d n:Nat) (p:Q0),orOk d p→d≤n→Q1d n p=some ((min (Q7 d p).length 401:Nat):Int):=by
 intro d
 induction d with
 | zero=>intro n p h;exact h.elim
 | succ d ih=>
  intro n p h hn
  obtain ⟨n,rfl⟩:∃ k,n=k+1:=⟨n-1,by omega⟩
  obtain ⟨h1,h2,h3⟩:=h
  have hl:∀ k q,p.kids[k]?=some q→(p.kids.map fun x=>(Q7 d x).length).take (k+1)=(p.kids.map fun x=>(Q7 d x).length).take k++[(Q7 d q).length]:=fun k q hq=>by
   rw [List.take_add_one];simp [hq]
  have hpos:∀ x∈(p.kids.map fun x=>(Q7 d x).length),1≤x:=fun x hx=>by
   obtain ⟨q,hq,rfl⟩:=U10.1 hx
   exact Z1z d q (h3 q hq)
  have hr:Ret (Q1d (n+1) p) (fun r=>r=((min (Q7 (d+1) p).length 401:Nat):Int)):=by
   unfold Q1d
   rw [Z4n]
   by_cases h5:p.op=5
   ·have e5:ieq p.op 5=true:=by simp [ieq,h5]
    simp only [e5,if_true,U0]
    rw [if_pos h5]
    refine Ret.ctl (Z4 p.kids (fun k s=>s=((min ((p.kids.map fun x=>(Q7 d x).length).take k).sum 401:Nat):Int)) (fun _=>False) (fun s=>s=((min (p.kids.map fun x=>(Q7 d x).length).sum 401:Nat):Int)) (by simp) (fun k q s hq hI=>?_) (fun s hI=>?_)) (fun r hr=>hr.elim) (fun s hs=>.some hs)
    ·rw [ih n q (h3 q (U1 hq)) (by omega)]
     simp only [U0]
     refine .some ?_
     simp only [Y9]
     rw [hl k q hq,hI,List.sum_append,V0 (by omega) (by omega)]
     have e:((min (List.take k (p.kids.map fun x=>(Q7 d x).length)).sum 401:Nat):Int)+((min (Q7 d q).length 401:Nat):Int)=((min (List.take k (p.kids.map fun x=>(Q7 d x).length)).sum 401+min (Q7 d q).length 401:Nat):Int):=by omega
     rw [e,show (401:Int)=((401:Nat):Int) from rfl,W72]
     congr 1
     simp only [List.sum_cons,List.sum_nil]
     omega
    ·rw [hI,List.take_of_length_le (by simp)]
   ·have e5:ieq p.op 5=false:=by simp [ieq,h5]
    simp only [e5,U2,if_false,U0]
    rw [if_neg h5]
    refine Ret.ctl (Z4 p.kids (fun k s=>s=((min (Q8j ((p.kids.map fun x=>(Q7 d x).length).take k)) 401:Nat):Int)) (fun _=>False) (fun s=>s=((min (Q8j (p.kids.map fun x=>(Q7 d x).length)) 401:Nat):Int)) (by simp [Q8j]) (fun k q s hq hI=>?_) (fun s hI=>?_)) (fun r hr=>hr.elim) (fun s hs=>.some hs)
    ·rw [ih n q (h3 q (U1 hq)) (by omega)]
     simp only [U0]
     refine .some ?_
     simp only [Y9]
     have ha:1≤Q8j ((p.kids.map fun x=>(Q7 d x).length).take k):=Z4z fun x hx=>hpos x (List.mem_of_mem_take hx)
     have hb:=Z1z d q (h3 q (U1 hq))
     rw [hl k q hq,hI,W2v]
     generalize Q8j ((p.kids.map fun x=>(Q7 d x).length).take k)=a at ha
     generalize (Q7 d q).length=b at hb
     have hm:min a 401 * min b 401≤401 * 401:=Nat.mul_le_mul (Nat.min_le_right _ _) (Nat.min_le_right _ _)
     have e:((min a 401:Nat):Int) * ((min b 401:Nat):Int)=((min a 401 * min b 401:Nat):Int):=by simp
     rw [Q8h (by rw [e];omega) (by rw [e];omega),e,show (401:Int)=((401:Nat):Int) from rfl,W72,V5d ha hb]
    ·rw [hI,List.take_of_length_le (by simp)]
  obtain ⟨r,e,rfl⟩:=hr
  exact e
theorem Z1k (l:List Q0)(h:l.length≤Q5):Q07 l=some l:=by
 unfold Q07
 rw [X4 (by simpa using h)]
 rfl
theorem X6l:∀ (d n:Nat) (p:Q0),orOk d p→d≤n→(Q7 d p).length≤1000→Q2s n p=some (Q7 d p):=by
 intro d
 induction d with
 | zero=>intro n p h;exact h.elim
 | succ d ih=>
  intro n p h hn hc
  obtain ⟨n,rfl⟩:∃ k,n=k+1:=⟨n-1,by omega⟩
  obtain ⟨h1,h2,h3⟩:=h
  by_cases h5:p.op=5
  ·have e5:ieq p.op 5=true:=by simp [ieq,h5]
   unfold Q2s
   rw [if_pos e5]
   rw [Z4n,if_pos h5] at hc
   match hk:p.kids,h2 h5 with
   | [a,b],_=>
    rw [hk] at h3 hc
    simp only [List.map_cons,List.map_nil,List.sum_cons,List.sum_nil] at hc
    rw [show idx [a,b] 0=some a from rfl,show idx [a,b] 1=some b from rfl]
    simp only [U0]
    rw [ih n a (h3 a (by simp)) (by omega) (by omega),ih n b (h3 b (by simp)) (by omega) (by omega)]
    simp only [U0]
    rw [X4 (by simp only [Q5];omega)]
    simp [Q7,h5,hk]
  ·have e5:¬ieq p.op 5=true:=by simp [ieq,h5]
   rw [Z4n,if_neg h5] at hc
   have hpos:∀ x∈(p.kids.map fun x=>(Q7 d x).length),1≤x:=fun x hx=>by
    obtain ⟨q,hq,rfl⟩:=U10.1 hx
    exact Z1z d q (h3 q hq)
   have hlen:∀ k,(((p.kids.map (Q7 d)).take k).foldl tupD [[]]).length=Q8j ((p.kids.map fun x=>(Q7 d x).length).take k):=fun k=>by
    rw [X2z];simp [List.map_take,List.map_map,Function.comp_def]
   suffices hr:Ret (Q2s (n+1) p) (fun r=>r=Q7 (d+1) p) by
    obtain ⟨r,e,rfl⟩:=hr
    exact e
   unfold Q2s
   rw [if_neg e5]
   refine Ret.ctl (Z4 p.kids (fun k s=>s=(((p.kids.map (Q7 d)).take k).foldl tupD [[]]).map (Q6e p)) (fun _=>False) (fun s=>s=Q7 (d+1) p) (by simp [Q6e]) (fun k q s hq hI=>?_) (fun s hI=>?_)) (fun r hr=>hr.elim) (fun s hs=>.some hs)
   ·have hqm:=U1 hq
    have hkl:=(List.getElem?_eq_some_iff.1 hq).1
    have hnx:((p.kids.map (Q7 d)).take (k+1)).foldl tupD [[]]=tupD (((p.kids.map (Q7 d)).take k).foldl tupD [[]]) (Q7 d q):=by
     rw [List.take_add_one,List.getElem?_map,hq];simp
    have hb1:(((p.kids.map (Q7 d)).take (k+1)).foldl tupD [[]]).length≤1000:=by rw [hlen];exact Nat.le_trans (Z4y hpos _) hc
    have hb0:(((p.kids.map (Q7 d)).take k).foldl tupD [[]]).length≤1000:=by rw [hlen];exact Nat.le_trans (Z4y hpos _) hc
    have hq1:=Z1z d q (h3 q hqm)
    have ho1:1≤(((p.kids.map (Q7 d)).take k).foldl tupD [[]]).length:=by rw [hlen];exact Z4z fun x hx=>hpos x (List.mem_of_mem_take hx)
    rw [hnx,X8a] at hb1
    have hq2:(Q7 d q).length≤1000:=Nat.le_trans (Nat.le_mul_of_pos_left _ ho1) hb1
    rw [ih n q (h3 q hqm) (by omega) hq2]
    simp only [U0]
    have kl:∀ ks∈((p.kids.map (Q7 d)).take k).foldl tupD [[]],ks.length≤k:=by
     have gen:∀ (ls:List (List Q0)) (out:List (List Q0)) (m:Nat),(∀ ks∈out,ks.length≤m)→∀ ks∈ls.foldl tupD out,ks.length≤m+ls.length:=by
      intro ls
      induction ls with
      | nil=>intro out m h ks hks;simpa using h ks hks
      | cons l ls ih2=>
       intro out m h ks hks
       rw [List.foldl_cons] at hks
       have:=ih2 (tupD out l) (m+1) (fun ks hk2=>by
        simp only [tupD,List.mem_flatMap,U10] at hk2
        obtain ⟨q2,hq2,c,_,rfl⟩:=hk2
        have:=h q2 hq2
        simp;omega) ks hks
       simp only [U3];omega
     intro ks hks
     have:=gen _ [[]] 0 (by simp) ks hks
     rw [U6] at this
     omega
    generalize ho:((p.kids.map (Q7 d)).take k).foldl tupD [[]]=out at *
    rw [hnx]
    refine Ret.ctl (Z4 s (fun j u=>u=(tupD (out.take j) (Q7 d q)).map (Q6e p)) (fun _=>False) (fun u=>u=(tupD out (Q7 d q)).map (Q6e p)) (by simp [tupD]) (fun j x u hx hJ=>?_) (fun u hJ=>?_)) (fun r hr=>hr.elim) (fun u hu=>.some hu)
    ·rw [hI,List.getElem?_map] at hx
     obtain ⟨ks,hks,rfl⟩:=U11.1 hx
     have hks3:=kl ks (U1 hks)
     have hjl:=(List.getElem?_eq_some_iff.1 hks).1
     have hnj:tupD (out.take (j+1)) (Q7 d q)=tupD (out.take j) (Q7 d q)++(Q7 d q).map (fun c=>ks++[c]):=by
      rw [List.take_add_one,hks];simp [tupD]
     rw [hnj]
     refine Ret.ctl (Z4 (Q7 d q) (fun i v=>v=(tupD (out.take j) (Q7 d q)++((Q7 d q).take i).map (fun c=>ks++[c])).map (Q6e p)) (fun _=>False) (fun v=>v=(tupD (out.take j) (Q7 d q)++(Q7 d q).map (fun c=>ks++[c])).map (Q6e p)) (by simp [hJ]) (fun i c v hc2 hK=>?_) (fun v hK=>?_)) (fun r hr=>hr.elim) (fun v hv=>.some hv)
     ·simp only [Q6e]
      rw [Z1k _ (by simp only [Q5];omega)]
      simp only [U0]
      rw [X4 (by simp only [Q5,U3,U4];omega)]
      simp only [U0]
      have hil:=(List.getElem?_eq_some_iff.1 hc2).1
      have hvl:v.length≤1000 * 1000+1000:=by
       rw [hK,U7,U5,X8a,U7,U6,U6]
       have:=Nat.mul_le_mul (show min j out.length≤1000 by omega) hq2
       omega
      rw [X4 (by simp only [Q5,U3,U4];omega)]
      refine .some ?_
      simp only [Y9]
      rw [hK,List.take_add_one,hc2]
      simp [Q6e]
     ·rw [hK,List.take_length]
    ·rw [hJ,hI,U7,List.take_length]
   ·rw [hI,List.take_of_length_le (by simp)];simp [Q7,h5]
theorem Z6u {α β:Type}(f:α→List β):∀ (X:List α) (m M:Nat),m≤M→(X.flatMap fun q=>(f q).take M).take m=(X.flatMap f).take m
 | [],m,M,_=>by simp
 | q::X,m,M,h=>by
  simp only [List.flatMap_cons,List.take_append,List.take_take,U6]
  rw [Nat.min_eq_left h]
  congr 1
  rcases Nat.le_total (f q).length M with h1 | h1
  ·rw [Nat.min_eq_right h1];exact Z6u f X _ M (by omega)
  ·rw [Nat.min_eq_left h1,show m-M=0 by omega,show m-(f q).length=0 by omega];simp
theorem Z4j {α β:Type}(f:α→List β):∀ (X:List α) (m j:Nat),(∀ q∈X,1≤(f q).length)→j≤m→((X.take m).flatMap f).take j=(X.flatMap f).take j
 | [],m,j,_,_=>by simp
 | q::X,0,j,_,h=>by rw [show j=0 by omega];simp
 | q::X,m+1,j,hq,h=>by
  simp only [List.take_succ_cons,List.flatMap_cons,List.take_append]
  congr 1
  have:=hq q (by simp)
  exact Z4j f X m _ (fun x hx=>hq x (by simp [hx])) (by omega)
theorem V0b {α:Type}{a b:List α}(m:Nat)(h:m≤a.length):(a++b).take m=a.take m:=by rw [List.take_append_of_le_length h]
theorem V06 {l:List Q0}(hl:l≠[])(X:List (List Q0))(m:Nat)(hm:1≤m):(tupD (X.take m) (l.take m)).take m=(tupD X l).take m:=by
 have hlen:1≤l.length:=by cases l<;>simp_all
 unfold tupD
 rw [Z4j _ X m m (fun q _=>by rw [U7,U6];omega) (Nat.le_refl m)]
 have e:(fun q:List Q0=>(l.take m).map fun c=>q++[c])=fun q=>(l.map fun c=>q++[c]).take m:=by funext q;rw [List.map_take]
 rw [e]
 exact Z6u _ X m m (Nat.le_refl m)
theorem W7u {α:Type}{X:List α}{v:List α}{y:α}(hv:v=X.take 401)(h:v.length≤400):v++[y]=(X++[y]).take 401:=by
 have hX:X.length≤400:=by rw [hv,U6] at h;omega
 rw [hv,List.take_of_length_le (show X.length≤401 by omega),List.take_of_length_le (by simp;omega)]
theorem X6x {α:Type}{X Y:List α}{v:List α}(hv:v=X.take 401)(h:¬v.length≤400):v=(X++Y).take 401:=by
 have hX:401≤X.length:=by rw [hv,U6] at h;omega
 rw [V0b 401 hX,hv]
theorem W5n (ls:List (List Q0))(hp:∀ l∈ls,l≠[])(hk:ls.length≤3):Q4j (ls.map (·.take 401))=some ((ls.foldl tupD [[]]).take 401):=by
 suffices hr:Ret (Q4j (ls.map (·.take 401))) (fun r=>r=(ls.foldl tupD [[]]).take 401) by
  obtain ⟨r,e,rfl⟩:=hr
  exact e
 have kl:∀ k,∀ ks∈(ls.take k).foldl tupD [[]],ks.length≤k:=by
  have gen:∀ (ls:List (List Q0)) (out:List (List Q0)) (m:Nat),(∀ ks∈out,ks.length≤m)→∀ ks∈ls.foldl tupD out,ks.length≤m+ls.length:=by
   intro ls
   induction ls with
   | nil=>intro out m h ks hks;simpa using h ks hks
   | cons l ls ih2=>
    intro out m h ks hks
    rw [List.foldl_cons] at hks
    have:=ih2 (tupD out l) (m+1) (fun ks hk2=>by
     simp only [tupD,List.mem_flatMap,U10] at hk2
     obtain ⟨q2,hq2,c,_,rfl⟩:=hk2
     have:=h q2 hq2
     simp;omega) ks hks
    simp only [U3];omega
  intro k ks hks
  have:=gen _ [[]] 0 (by simp) ks hks
  rw [U6] at this
  omega
 unfold Q4j
 refine Ret.ctl (Z4 (ls.map (·.take 401)) (fun k s=>s=((ls.take k).foldl tupD [[]]).take 401) (fun _=>False) (fun s=>s=(ls.foldl tupD [[]]).take 401) (by simp) (fun k l0 s hl0 hI=>?_) (fun s hI=>?_)) (fun r hr=>hr.elim) (fun s hs=>.some hs)
 ·rw [List.getElem?_map] at hl0
  obtain ⟨l,hl,rfl⟩:=U11.1 hl0
  have hne:=hp l (U1 hl)
  have hnx:(ls.take (k+1)).foldl tupD [[]]=tupD ((ls.take k).foldl tupD [[]]) l:=by rw [List.take_add_one,hl];simp
  have hkl:=(List.getElem?_eq_some_iff.1 hl).1
  rw [hnx]
  have kk:=kl k
  generalize (ls.take k).foldl tupD [[]]=X at *
  have hs:s.length≤401:=by rw [hI,U6];omega
  have hsk:∀ q∈s,q.length≤3:=fun q hq=>by
   rw [hI] at hq
   have:=kk q (List.mem_of_mem_take hq)
   omega
  have hl4:(l.take 401).length≤401:=by rw [U6];omega
  refine Ret.ctl (Z4 s (fun j v=>v=(tupD (s.take j) (l.take 401)).take 401) (fun _=>False) (fun v=>v=(tupD s (l.take 401)).take 401) (by simp [tupD]) (fun j q v hq hJ=>?_) (fun v hJ=>?_)) (fun r hr=>hr.elim) (fun v hv=>.some ?_)
  ·have hnj:tupD (s.take (j+1)) (l.take 401)=tupD (s.take j) (l.take 401)++(l.take 401).map (fun c=>q++[c]):=by rw [List.take_add_one,hq];simp [tupD]
   refine Ret.ite (fun hle=>?_) (fun hgt=>.some ?_)
   ·rw [Q03] at hle
    refine Ret.ctl (Z4 (l.take 401) (fun i u=>u=(tupD (s.take j) (l.take 401)++((l.take 401).take i).map (fun c=>q++[c])).take 401) (fun _=>False) (fun u=>u=(tupD (s.take (j+1)) (l.take 401)).take 401) (by simpa using hJ) (fun i c u hc hK=>?_) (fun u hK=>?_)) (fun r hr=>hr.elim) (fun u hu=>.some hu)
    ·have hci:(l.take 401).take (i+1)=(l.take 401).take i++[c]:=by rw [List.take_add_one,hc];simp
     refine Ret.ite (fun hl2=>?_) (fun hg2=>.some ?_)
     ·rw [Q03,Y0] at hl2
      have hq3:=hsk q (U1 hq)
      rw [X4 (by simp only [Q5,U4];omega)]
      simp only [U0]
      rw [X4 (by simp only [Q5,U3,U4];omega)]
      simp only [U0]
      rw [X4 (by simp only [Q5,U3,U4];omega)]
      refine .some ?_
      simp only [Y9]
      rw [hci,List.map_append,←List.append_assoc]
      exact W7u hK (by omega)
     ·rw [Q6n,Y0] at hg2
      simp only [Q8p]
      rw [hnj]
      have e:(l.take 401).map (fun c=>q++[c])=((l.take 401).take i).map (fun c=>q++[c])++((l.take 401).drop i).map (fun c=>q++[c]):=by rw [←List.map_append,List.take_append_drop]
      rw [e,←List.append_assoc]
      exact X6x hK (by omega)
    ·rw [hK,hnj,List.take_of_length_le (Nat.le_refl _)]
   ·rw [Q6n,Y0] at hgt
    simp only [Q8p]
    have e:tupD s (l.take 401)=tupD (s.take j) (l.take 401)++tupD (s.drop j) (l.take 401):=by
     unfold tupD;rw [←List.flatMap_append,List.take_append_drop]
    rw [e]
    exact X6x hJ (by omega)
  ·rw [hJ,List.take_length]
  ·simp only [Y9]
   rw [hv,hI]
   exact V06 hne X 401 (by omega)
 ·rw [hI,U7,List.take_length]
theorem Z6y:∀ (d n:Nat) (p:Q0),orOk d p→d≤n→Y5 n p=some ((Q7 d p).take 401):=by
 intro d
 induction d with
 | zero=>intro n p h;exact h.elim
 | succ d ih=>
  intro n p h hn
  obtain ⟨n,rfl⟩:∃ k,n=k+1:=⟨n-1,by omega⟩
  obtain ⟨h1,h2,h3⟩:=h
  have hl4:∀ x,((Q7 d x).take 401).length≤401:=fun x=>by rw [U6];omega
  by_cases h5:p.op=5
  ·have e5:ieq p.op 5=true:=by simp [ieq,h5]
   unfold Y5
   rw [if_pos e5]
   match hk:p.kids,h2 h5 with
   | [a,b],_=>
    rw [hk] at h3
    rw [show idx [a,b] 0=some a from rfl,show idx [a,b] 1=some b from rfl]
    simp only [U0]
    rw [ih n a (h3 a (by simp)) (by omega),ih n b (h3 b (by simp)) (by omega)]
    simp only [U0]
    have ha:=hl4 a
    have hb:=hl4 b
    rw [X4 (by simp only [Q5];omega)]
    have hs:Q7 (d+1) p=Q7 d a++Q7 d b:=by simp [Q7,h5,hk]
    have key:((Q7 d a).take 401++(Q7 d b).take 401).take 401=(Q7 (d+1) p).take 401:=by
     rw [hs,List.take_append,List.take_append,List.take_take,U6]
     simp only [Nat.min_self]
     congr 1
     rcases Nat.le_total (Q7 d a).length 401 with q | q
     ·rw [Nat.min_eq_right q,List.take_take,Nat.min_eq_left (by omega)]
     ·rw [Nat.min_eq_left q,show 401-401=0 from rfl,show 401-(Q7 d a).length=0 by omega];simp
    simp only [U0]
    by_cases hgt:ilt 401 (lenZ ((Q7 d a).take 401++(Q7 d b).take 401).length)=true
    ·rw [if_pos hgt]
     rw [X1,Y0] at hgt
     have ht:Q7q ((Q7 d a).take 401++(Q7 d b).take 401) 401=some (((Q7 d a).take 401++(Q7 d b).take 401).take 401):=by
      unfold Q7q;rw [if_pos ⟨by omega,by omega⟩];rfl
     rw [ht,key];rfl
    ·rw [if_neg hgt,←key]
     simp only [Bool.not_eq_true] at hgt
     rw [V2,Y0] at hgt
     rw [List.take_of_length_le (i:=401) (l:=(Q7 d a).take 401++(Q7 d b).take 401) (by omega)]
  ·have e5:¬ieq p.op 5=true:=by simp [ieq,h5]
   suffices hr:Ret (Y5 (n+1) p) (fun r=>r=(Q7 (d+1) p).take 401) by
    obtain ⟨r,e,rfl⟩:=hr
    exact e
   unfold Y5
   rw [if_neg e5]
   refine Ret.ctl (Z4 p.kids (fun k s=>s=((p.kids.take k).map (Q7 d)).map (·.take 401)) (fun _=>False) (fun s=>s=(p.kids.map (Q7 d)).map (·.take 401)) (by simp) (fun k q s hq hI=>?_) (fun s hI=>?_)) (fun r hr=>hr.elim) (fun s hs=>?_)
   ·rw [ih n q (h3 q (U1 hq)) (by omega)]
    simp only [U0]
    have hkl:=(List.getElem?_eq_some_iff.1 hq).1
    rw [X4 (by rw [hI];simp only [Q5,U3,U4,U7,U6];omega)]
    have hk1:p.kids.take (k+1)=p.kids.take k++[q]:=by rw [List.take_add_one,hq];rfl
    exact .some (by simp only [Y9];rw [hI,hk1];simp)
   ·rw [hI,List.take_length]
   ·subst hs
    dsimp only
    rw [W5n _ (fun l hl=>by
     obtain ⟨q,hq,rfl⟩:=U10.1 hl
     have:=Z1z d q (h3 q hq)
     intro e;rw [e] at this;simp at this) (by simpa using h1)]
    simp only [U0]
    have hlen:(((p.kids.map (Q7 d)).foldl tupD [[]]).take 401).length≤401:=by rw [U6];omega
    have hB:(Q7 (d+1) p).take 401=(((p.kids.map (Q7 d)).foldl tupD [[]]).take 401).map (Q6e p):=by simp only [Q7,if_neg h5,List.map_take]
    rw [hB]
    generalize ((p.kids.map (Q7 d)).foldl tupD [[]]).take 401=X at hlen
    refine Ret.ctl (Z4 X (fun k u=>u=(X.take k).map (Q6e p)) (fun _=>False) (fun u=>u=X.map (Q6e p)) (by simp) (fun k q u hq hJ=>?_) (fun u hJ=>?_)) (fun r hr=>hr.elim) (fun u hu=>.some hu)
    ·have hkl:=(List.getElem?_eq_some_iff.1 hq).1
     rw [X4 (by rw [hJ];simp only [Q5,U3,U4,U7,U6];omega)]
     have hk1:X.take (k+1)=X.take k++[q]:=by rw [List.take_add_one,hq];rfl
     exact .some (by simp only [Y9];rw [hJ,hk1];simp [Q6e])
    ·rw [hJ,List.take_length]
structure ROk (r:Z9) (m:Nat):Prop where
 bytes:∀ x∈r.b,0≤x∧x≤255
 len:r.b.length≤2000
 p0:0≤r.p
 pm:r.p+m≤40000000
structure Nx (r r':Z9) (c:Nat):Prop where
 b:r'.b=r.b
 le:r.p≤r'.p
 ge:r'.p≤r.p+c
theorem ROk.le {r:Z9}{m m':Nat}(h:ROk r m)(hm:m'≤m):ROk r m':=⟨h.bytes,h.len,h.p0,by have:=h.pm;omega⟩
theorem ROk.nx {r r':Z9}{c m:Nat}(h:ROk r (c+m))(hn:Nx r r' c):ROk r' m:=⟨by rw [hn.b];exact h.bytes,by rw [hn.b];exact h.len,by have:=h.p0;have:=hn.le;omega,by have:=h.pm;have:=hn.ge;omega⟩
theorem Nx.refl (r:Z9):Nx r r 0:=⟨rfl,by omega,by omega⟩
theorem Nx.trans {a b c:Z9}{m n:Nat}(h:Nx a b m)(k:Nx b c n):Nx a c (m+n):=⟨k.b.trans h.b,by have:=h.le;have:=k.le;omega,by have:=h.ge;have:=k.ge;omega⟩
theorem Nx.le' {a b:Z9}{m n:Nat}(h:Nx a b m)(hm:m≤n):Nx a b n:=⟨h.b,h.le,by have:=h.ge;omega⟩
theorem W5b {x y:Int}(hx:0≤x)(hx':x<1099511627776)(hy:0≤y)(hy':y<1099511627776):0≤wxor .i64 x y∧wxor .i64 x y<1099511627776:=by
 obtain ⟨a,rfl⟩:=Int.eq_ofNat_of_zero_le hx
 obtain ⟨b,rfl⟩:=Int.eq_ofNat_of_zero_le hy
 have e:(BitVec.ofInt IntKind.i64.bits (a:Int) ^^^ BitVec.ofInt IntKind.i64.bits (b:Int)).toNat=a ^^^ b:=by
  have ha:(BitVec.ofInt IntKind.i64.bits (a:Int)).toNat=a:=by
   rw [BitVec.toNat_ofInt]
   show (((a:Int) % ((2 ^ 64:Nat):Int))).toNat=a
   omega
  have hb:(BitVec.ofInt IntKind.i64.bits (b:Int)).toNat=b:=by
   rw [BitVec.toNat_ofInt]
   show (((b:Int) % ((2 ^ 64:Nat):Int))).toNat=b
   omega
  rw [BitVec.toNat_xor,ha,hb]
 have hlt:a ^^^ b<2 ^ 40:=Nat.xor_lt_two_pow (by omega) (by omega)
 unfold wxor
 rw [e,Z4c (by omega) (by omega)]
 omega
theorem Q3d {r:Z9}(h:ROk r 1){k:Int}(h1:1≤k)(h2:k≤1000000):Ret (Z7 r k) (fun a=>0≤a.1∧a.1<k∧Nx r a.2 1):=by
 have hp0:=h.p0
 have hpm:=h.pm
 have hlen:=h.len
 have ep:wadd .i64 r.p 1=r.p+1:=V0 (by omega) (by omega)
 have eq:wsub .i64 (r.p+1) 1=r.p:=by rw [Q2k (by omega) (by omega)];omega
 have nx:Nx r (Z9.mk r.b (r.p+1)) 1:=⟨rfl,by simp only;omega,by simp only;omega⟩
 unfold Z7
 rw [ep,eq]
 refine Ret.ite (fun c=>by rw [X1] at c;omega) (fun _=>?_)
 refine Ret.ite (fun c=>.some ⟨by simp,by simp;omega,nx⟩) (fun c=>?_)
 rw [W2] at c
 simp only [lenZ] at c
 have hpos:0<r.b.length:=by omega
 have hk0:chk (!ieq k 0)=some ():=X0q (by simp [ieq];omega)
 have hb0:chk (!ieq (lenZ r.b.length) 0)=some ():=X0q (by rw [Bool.not_eq_true',W2];simp only [lenZ];omega)
 have rem:∀ x:Int,0≤x→0≤wrem x k∧wrem x k<k:=fun x hx=>by
  unfold wrem
  rw [Int.tmod_eq_emod_of_nonneg hx]
  exact ⟨Int.emod_nonneg _ (by omega),Int.emod_lt_of_pos _ (by omega)⟩
 refine Ret.ite (fun c2=>?_) (fun c2=>?_)
 ·rw [X1] at c2
  simp only [lenZ] at c2
  obtain ⟨x,hx,hm⟩:=Q5a hp0 c2
  obtain ⟨b1,b2⟩:=h.bytes x hm
  rw [hx,hk0]
  simp only [U0]
  rw [X1t (by omega) (by omega)]
  exact .some ⟨(rem x b1).1,(rem x b1).2,nx⟩
 ·rw [hb0]
  simp only [U0]
  have remb:∀ x:Int,0≤x→0≤wrem x (lenZ r.b.length)∧wrem x (lenZ r.b.length)<r.b.length:=fun x hx=>by
   unfold wrem lenZ
   rw [Int.tmod_eq_emod_of_nonneg hx]
   exact ⟨Int.emod_nonneg _ (by omega),Int.emod_lt_of_pos _ (by omega)⟩
  have e7:wmul .i64 r.p 7=r.p * 7:=Q8h (by omega) (by omega)
  have e73:wadd .i64 (r.p * 7) 3=r.p * 7+3:=V0 (by omega) (by omega)
  rw [e7,e73]
  obtain ⟨x,hx,hm⟩:=Q5a (remb r.p hp0).1 (remb r.p hp0).2
  obtain ⟨y,hy,hn⟩:=Q5a (remb (r.p * 7+3) (by omega)).1 (remb (r.p * 7+3) (by omega)).2
  obtain ⟨b1,b2⟩:=h.bytes x hm
  obtain ⟨b3,b4⟩:=h.bytes y hn
  rw [hx,hy,hk0]
  simp only [U0]
  have f1:wcv .i64 x=x:=X1t (by omega) (by omega)
  have f2:wcv .i64 y=y:=X1t (by omega) (by omega)
  have f3:wmul .i64 x 131=x * 131:=Q8h (by omega) (by omega)
  have f4:wmul .i64 y 1117=y * 1117:=Q8h (by omega) (by omega)
  have f5:wmul .i64 r.p 29=r.p * 29:=Q8h (by omega) (by omega)
  have hq:0≤r.p.tdiv (lenZ r.b.length)∧r.p.tdiv (lenZ r.b.length)≤r.p:=by
   rw [Int.tdiv_eq_ediv_of_nonneg hp0]
   exact ⟨Int.ediv_nonneg hp0 (by simp [lenZ]),Int.ediv_le_self _ hp0⟩
  have f6:wquo .i64 r.p (lenZ r.b.length)=r.p.tdiv (lenZ r.b.length):=X2x (by omega) (by omega)
  rw [f1,f2,f3,f4,f5,f6]
  generalize r.p.tdiv (lenZ r.b.length)=q at hq ⊢
  have f7:wmul .i64 q 53=q * 53:=Q8h (by omega) (by omega)
  have f8:wadd .i64 (x * 131) (y * 1117)=x * 131+y * 1117:=V0 (by omega) (by omega)
  have f9:wadd .i64 (x * 131+y * 1117) (r.p * 29)=x * 131+y * 1117+r.p * 29:=V0 (by omega) (by omega)
  rw [f7,f8,f9,V0 (by omega) (by omega)]
  have hz:0≤x * 131+y * 1117+r.p * 29+q * 53∧x * 131+y * 1117+r.p * 29+q * 53<1099511627776:=⟨by omega,by omega⟩
  generalize x * 131+y * 1117+r.p * 29+q * 53=z at hz ⊢
  have hz64:z.tdiv 64=z / 64:=Int.tdiv_eq_ediv_of_nonneg hz.1
  rw [X2x (by rw [hz64];omega) (by rw [hz64];omega),hz64]
  have hxr:=W5b hz.1 hz.2 (show 0≤z / 64 by omega) (show z / 64<1099511627776 by omega)
  exact .some ⟨(rem _ hxr.1).1,(rem _ hxr.1).2,nx⟩
theorem Q8n {r:Z9}(h:ROk r 1)(l:List Int)(h1:1≤l.length)(h2:l.length≤1000):Ret (X8 r l) (fun a=>a.1∈l∧Nx r a.2 1):=by
 unfold X8
 refine Ret.bind (Q3d h (k:=lenZ l.length) (by simp [lenZ];omega) (by simp [lenZ];omega)) (fun a ha=>?_)
 obtain ⟨x,hx,hm⟩:=Q5a (xs:=l) ha.1 (by simpa [lenZ] using ha.2.1)
 rw [hx]
 exact .some ⟨hm,ha.2.2⟩
theorem X3h (code:List Int)(hb:∀ x∈code,0≤x∧x≤255):Ret (Q1h code) (fun r=>ROk r 1000000):=by
 unfold Q1h
 refine Ret.ctl (R:=fun _=>False) (B:=fun s=>(∀ x∈s,0≤x∧x≤255)∧s.length≤2000) ?_ (fun r hr=>hr.elim) (fun s hs=>?_)
 ·refine Ret.ite (fun h=>?_) (fun h=>?_)
  ·rw [X1] at h
   simp only [lenZ] at h
   have:Q7q code 2000=some (code.take 2000):=by
    unfold Q7q
    rw [if_pos ⟨by omega,by omega⟩]
    rfl
   rw [this]
   exact .some ⟨fun x hx=>hb x (List.mem_of_mem_take hx),by simp;omega⟩
  ·rw [V2] at h
   simp only [lenZ] at h
   exact .some ⟨hb,by omega⟩
 ·exact .some ⟨hs.1,hs.2,by simp,by simp⟩
theorem W0g {r:Z9}(h:ROk r 1):Ret (Q6j NN r) (fun a=>a.1∈Q0s∧Nx r a.2 1):=by
 unfold Q6j
 obtain ⟨T,hT⟩:∃ T,Q5h=some T:=⟨_,rfl⟩
 have hlen:T.length=8:=by
  have h8:Q5h.map List.length=some 8:=rfl
  rw [hT] at h8
  simpa using h8
 rw [hT]
 simp only [U0]
 have e7:wsub .i64 (lenZ T.length) 1=7:=by rw [hlen];rfl
 rw [e7]
 refine Ret.bind (Q3d h (by omega) (by omega)) (fun a ha=>?_)
 obtain ⟨i,hi⟩:=Int.eq_ofNat_of_zero_le ha.1
 obtain ⟨w,hw,hm⟩:=V2q (i:=i) (by have:=ha.2.1;omega)
 unfold X4e at hw
 rw [hT] at hw
 simp only [U0] at hw
 rw [hi]
 obtain ⟨x,hx,hw⟩:=bindE hw
 rw [hx]
 simp only [U0]
 rw [hw]
 exact .some ⟨hm,ha.2.2⟩
def Z6n:Nat→Nat
 | 0=>1
 | m+1=>1+3 * Z6n m
theorem W8l:∀ m,1≤Z6n m
 | 0=>Nat.le_refl _
 | m+1=>by simp only [Z6n];omega
theorem W1y {w:List Q4}(hw:WW w):∀ (m n:Nat) (r:Z9) (t:Q6) (depth:Int),t∈tys w→depP w t≠0→depth≤m→depP w t≤m→-1000+m≤depth→m≤100→m+1≤n→ROk r (Z6n m)→
  Ret (Q3p n r w (tabP w) t depth) (fun a=>Nx r a.2 (Z6n m)):=by
 intro m
 induction m with
 | zero=>
  intro n r t depth ht hd h1 h2 h3 hm100 hn hr
  have:=(hw.ty t ht).d0
  omega
 | succ m ih=>
  intro n r t depth ht hd h1 h2 h3 hm100 hn hr
  obtain ⟨n,rfl⟩:∃ k,n=k+1:=⟨n-1,by omega⟩
  have hT:=hw.ty t ht
  have hpos:=W8l (m+1)
  unfold Q3p
  refine Ret.ite (fun h=>?_) (fun h=>?_)
  ·refine Ret.bind (Q3d (hr.le hpos) (by omega) (by omega)) (fun a ha=>.some (ha.2.2.le' hpos))
  ·rw [W2] at h
   rw [hT.c1]
   simp only [U0]
   obtain ⟨kb,hkb,hmb⟩:=hT.dm h hd
   have hd0:=hT.d0
   refine Ret.ctl (Z4 (X5 w t) (fun k s=>(∀ x∈s,x∈X5 w t∧0<Q6x w t x∧(Q6x w t x≤depth∨Q6x w t x=depP w t))∧s.length≤k∧(∀ j,j<k→(X5 w t)[j]?=some kb→s≠[])) (fun _=>False)
    (fun s=>(∀ x∈s,x∈X5 w t∧0<Q6x w t x∧(Q6x w t x≤depth∨Q6x w t x=depP w t))∧s≠[]∧s.length≤4) ⟨by simp,by simp,fun j hj=>by omega⟩ (fun k x s hx hI=>?_) (fun s hI=>?_)) (fun r hr=>hr.elim) (fun s hs=>?_)
   ·obtain ⟨i1,i2,i3⟩:=hI
    have hxm:=U1 hx
    have hkl:=(List.getElem?_eq_some_iff.1 hx).1
    have hcl:=hT.cl
    have take:∀ (hp:0<Q6x w t x∧(Q6x w t x≤depth∨Q6x w t x=depP w t)),Ret ((app s [x]).bind fun x310=>some (Ctl.brk (ρ:=Ctl (Q1×Z9) (List Int)) x310)) (CtlQ (fun _=>False) (fun s'=>(∀ x∈s',x∈X5 w t∧0<Q6x w t x∧(Q6x w t x≤depth∨Q6x w t x=depP w t))∧s'.length≤k+1∧(∀ j,j<k+1→(X5 w t)[j]?=some kb→s'≠[]))):=fun hp=>by
     rw [X4 (by simp only [Q5,U3,U4];omega)]
     refine .some ⟨fun y hy=>?_,by simp;omega,fun _ _ _=>by simp⟩
     rcases List.mem_append.1 hy with hy | hy
     ·exact i1 y hy
     ·simp at hy;subst hy;exact ⟨hxm,hp⟩
    have pass:(¬(0<Q6x w t x∧(Q6x w t x≤depth∨Q6x w t x=depP w t)))→Ret (some (Ctl.brk (ρ:=Ctl (Q1×Z9) (List Int)) s)) (CtlQ (fun _=>False) (fun s'=>(∀ x∈s',x∈X5 w t∧0<Q6x w t x∧(Q6x w t x≤depth∨Q6x w t x=depP w t))∧s'.length≤k+1∧(∀ j,j<k+1→(X5 w t)[j]?=some kb→s'≠[]))):=fun hp=>by
     refine .some ⟨i1,by omega,fun j hj hjk=>?_⟩
     by_cases hjk2:j=k
     ·subst hjk2
      rw [hx] at hjk
      cases hjk
      exact absurd ⟨by omega,.inr hmb⟩ hp
     ·exact i3 j (by omega) hjk
    refine Ret.ctl (R:=fun _=>False) (B:=fun (s':List Int)=>(∀ x∈s',x∈X5 w t∧0<Q6x w t x∧(Q6x w t x≤depth∨Q6x w t x=depP w t))∧s'.length≤k+1∧(∀ j,j<k+1→(X5 w t)[j]?=some kb→s'≠[])) ?_ (fun r hr=>hr.elim) (fun s' hs'=>⟨_,rfl,hs'⟩)
    rw [hT.m1 x hxm]
    simp only [U0]
    refine Ret.ite (fun c=>?_) (fun c=>?_)
    ·rw [X1] at c
     refine Ret.ite (fun c2=>?_) (fun c2=>?_)
     ·rw [Q03] at c2
      exact take ⟨c,.inl c2⟩
     ·rw [Q6n] at c2
      rw [hT.d1]
      simp only [U0]
      refine Ret.ite (fun c3=>?_) (fun c3=>?_)
      ·rw [Z8] at c3
       exact take ⟨c,.inr c3⟩
      ·rw [W2] at c3
       exact pass (by omega)
    ·rw [V2] at c
     exact pass (by omega)
   ·obtain ⟨i1,i2,i3⟩:=hI
    obtain ⟨j,hj⟩:=List.mem_iff_getElem?.1 hkb
    have:=hT.cl
    exact ⟨i1,i3 j ((List.getElem?_eq_some_iff.1 hj).1) hj,by omega⟩
   ·obtain ⟨i1,i2,i3⟩:=hs
    have hsl:1≤s.length:=by cases s with
     | nil=>exact absurd rfl i2
     | cons=>simp
    refine Ret.bind (Q3d (hr.le hpos) (k:=lenZ s.length) (by simp [lenZ];omega) (by simp [lenZ];omega)) (fun a ha=>?_)
    obtain ⟨x,hx,hxm⟩:=Q5a (xs:=s) ha.1 (by simpa [lenZ] using ha.2.1)
    obtain ⟨hxc,hx0,hxd⟩:=i1 x hxm
    rw [hx]
    simp only [U0]
    rw [hT.a1 x hxc]
    simp only [U0]
    have hal:=hT.al x hxc
    have hr1:ROk a.2 (3 * Z6n m):=ROk.nx (c:=1) hr ha.2.2
    refine Ret.ctl (Z4 (V6 w t x) (fun k s=>Nx a.2 s.1 (k * Z6n m)∧s.2.length≤k) (fun _=>False) (fun s=>Nx a.2 s.1 (3 * Z6n m)) ⟨by simpa using Nx.refl a.2,by simp⟩ (fun k y s hy hI=>?_) (fun s hI=>?_)) (fun r hr=>hr.elim) (fun s hs=>?_)
    ·obtain ⟨j1,j2⟩:=hI
     have hym:=U1 hy
     have hkl:=(List.getElem?_eq_some_iff.1 hy).1
     obtain ⟨d1,d2⟩:=hT.ma x hxc (by omega) y hym
     have hws:wsub .i64 depth 1=depth-1:=Q2k (by omega) (by omega)
     rw [hws]
     have hr2:ROk s.1 (Z6n m):=by
      have:k * Z6n m+Z6n m≤3 * Z6n m:=by
       rw [←Nat.succ_mul]
       exact Nat.mul_le_mul_right _ (by omega)
      exact ROk.nx (c:=k * Z6n m) (hr1.le this) j1
     refine Ret.bind (ih n s.1 y (depth-1) (hT.at_ x hxc y hym) (by omega) (by omega) (by omega) (by omega) (by omega) (by omega) hr2) (fun b hb=>?_)
     rw [X4 (by simp only [Q5,U3,U4];omega)]
     refine .some ⟨?_,by simp;omega⟩
     have:=j1.trans hb
     rw [←Nat.succ_mul] at this
     exact this
    ·obtain ⟨j1,j2⟩:=hI
     exact j1.le' (Nat.mul_le_mul_right _ hal)
    ·exact .some (ha.2.2.trans hs)
def X25:Nat→Q0→Prop
 | 0,_=>False
 | d+1,p=>p.kids.length≤3∧∀ q∈p.kids,X25 d q
theorem Z4q (d:Nat):X25 (d+1) (Q0.mk 1 0 0 0 0 []):=⟨by simp,by simp⟩
def cD3:Nat→Nat
 | 0=>0
 | m+1=>5+3 * cD3 m
def cN3:Nat→Nat
 | 0=>0
 | m+1=>2+3 * cN3 m
theorem V2r {w:List Q4}(hw:WW w):∀ (m n:Nat) (r:Z9) (t:Q6) (depth:Int),t∈tys w→depth≤m+1→-1000+m≤depth→m≤100→m+1≤n→ROk r (cD3 m)→
  Ret (Q2m n r w t depth) (fun a=>X25 (m+1) a.1∧Nx r a.2 (cD3 m)):=by
 intro m
 induction m with
 | zero=>
  intro n r t depth ht h1 h2 h3 hn hr
  obtain ⟨n,rfl⟩:∃ k,n=k+1:=⟨n-1,by omega⟩
  unfold Q2m
  rw [if_pos (by rw [X1];omega)]
  exact .some ⟨Z4q 0,Nx.refl r⟩
 | succ m ih=>
  intro n r t depth ht h1 h2 h3 hn hr
  obtain ⟨n,rfl⟩:∃ k,n=k+1:=⟨n-1,by omega⟩
  have hT:=hw.ty t ht
  have ec:cD3 (m+1)=5+3 * cD3 m:=rfl
  rw [ec] at hr ⊢
  have hws:wsub .i64 depth 1=depth-1:=Q2k (by omega) (by omega)
  unfold Q2m
  refine Ret.ite (fun h=>.some ⟨Z4q _,(Nx.refl r).le' (by omega)⟩) (fun h=>?_)
  refine Ret.bind (Q3d (hr.le (by omega)) (by omega) (by omega)) (fun a ha=>?_)
  have hr1:ROk a.2 (4+3 * cD3 m):=ROk.nx (c:=1) (hr.le (by omega)) ha.2.2
  refine Ret.ite (fun h=>.some ⟨Z4q _,ha.2.2.le' (by omega)⟩) (fun h=>?_)
  refine Ret.bind (Q3d (hr1.le (by omega)) (by omega) (by omega)) (fun b hb=>?_)
  have hr2:ROk b.2 (3+3 * cD3 m):=ROk.nx (c:=1) (hr1.le (by omega)) hb.2.2
  have hab:=ha.2.2.trans hb.2.2
  rw [hws]
  refine Ret.ite (fun h=>?_) (fun h=>?_)
  ·refine Ret.bind (ih n b.2 t (depth-1) ht (by omega) (by omega) (by omega) (by omega) (hr2.le (by omega))) (fun c hc=>?_)
   have hr3:ROk c.2 (cD3 m):=ROk.nx (c:=cD3 m) (hr2.le (by omega)) hc.2
   refine Ret.bind (ih n c.2 t (depth-1) ht (by omega) (by omega) (by omega) (by omega) hr3) (fun d hd=>?_)
   refine .some ⟨⟨by simp,fun q hq=>?_⟩,((hab.trans hc.2).trans hd.2).le' (by omega)⟩
   simp at hq
   rcases hq with rfl | rfl
   ·exact hc.1
   ·exact hd.1
  ·refine Ret.ite (fun h=>?_) (fun h=>?_)
   ·refine Ret.bind (Q3d (hr2.le (by omega)) (by omega) (by omega)) (fun c hc=>?_)
    have hr3:ROk c.2 (2+3 * cD3 m):=ROk.nx (c:=1) (hr2.le (by omega)) hc.2.2
    have e10:wsub .i64 10 c.1=10-c.1:=Q2k (by omega) (by omega)
    rw [e10]
    refine Ret.bind (Q3d (hr3.le (by omega)) (by omega) (by omega)) (fun d hd=>?_)
    have hr4:ROk d.2 (1+3 * cD3 m):=ROk.nx (c:=1) (hr3.le (by omega)) hd.2.2
    refine Ret.bind (Q3d (hr4.le (by omega)) (by omega) (by omega)) (fun e he=>?_)
    exact .some ⟨⟨by simp,by simp⟩,(((hab.trans hc.2.2).trans hd.2.2).trans he.2.2).le' (by omega)⟩
   ·rw [hT.c1]
    simp only [U0]
    refine Ret.ite (fun h=>.some ⟨Z4q _,hab.le' (by omega)⟩) (fun h=>?_)
    rw [W2] at h
    simp only [lenZ] at h
    have hcl:=hT.cl
    refine Ret.bind (Q3d (hr2.le (by omega)) (k:=lenZ (X5 w t).length) (by simp only [lenZ];omega) (by simp only [lenZ];omega)) (fun c hc=>?_)
    have hr3:ROk c.2 (3 * cD3 m):=ROk.nx (c:=1) (hr2.le (by omega)) hc.2.2
    obtain ⟨x,hx,hxm⟩:=Q5a (xs:=X5 w t) hc.1 (by simpa [lenZ] using hc.2.1)
    rw [hx]
    simp only [U0]
    rw [hT.a1 x hxm]
    simp only [U0]
    have hal:=hT.al x hxm
    refine Ret.ctl (Z4 (V6 w t x) (fun k s=>Nx c.2 s.1 (k * cD3 m)∧s.2.length=k∧∀ q∈s.2,X25 (m+1) q) (fun _=>False) (fun s=>Nx c.2 s.1 (3 * cD3 m)∧s.2.length≤3∧∀ q∈s.2,X25 (m+1) q) ⟨by simpa using Nx.refl c.2,by simp,by simp⟩ (fun k y s hy hI=>?_) (fun s hI=>?_)) (fun r hr=>hr.elim) (fun s hs=>?_)
    ·obtain ⟨j1,j2,j3⟩:=hI
     have hym:=U1 hy
     have hkl:=(List.getElem?_eq_some_iff.1 hy).1
     have hr4:ROk s.1 (cD3 m):=by
      have:k * cD3 m+cD3 m≤3 * cD3 m:=by
       rw [←Nat.succ_mul]
       exact Nat.mul_le_mul_right _ (by omega)
      exact ROk.nx (c:=k * cD3 m) (hr3.le this) j1
     refine Ret.bind (ih n s.1 y (depth-1) (hT.at_ x hxm y hym) (by omega) (by omega) (by omega) (by omega) hr4) (fun b hb=>?_)
     rw [X4 (by simp only [Q5,U3,U4];omega)]
     refine .some ⟨?_,by simp;omega,fun q hq=>?_⟩
     ·have:=j1.trans hb.2
      rw [←Nat.succ_mul] at this
      exact this
     ·rcases List.mem_append.1 hq with hq | hq
      ·exact j3 q hq
      ·simp at hq;subst hq;exact hb.1
    ·obtain ⟨j1,j2,j3⟩:=hI
     exact ⟨j1.le' (Nat.mul_le_mul_right _ hal),by omega,j3⟩
    ·exact .some ⟨⟨hs.2.1,hs.2.2⟩,((hab.trans hc.2.2).trans hs.1).le' (by omega)⟩
theorem V0x:∀ (m n:Nat) (r:Z9) (p:Q0) (v:Int),X25 m p→m+1≤n→ROk r (cN3 m)→Ret (Q63 n r p v) (fun a=>Nx r a.2.2 (cN3 m)):=by
 intro m
 induction m with
 | zero=>intro n r p v h;exact h.elim
 | succ m ih=>
  intro n r p v hp hn hr
  obtain ⟨n,rfl⟩:∃ k,n=k+1:=⟨n-1,by omega⟩
  obtain ⟨hk,hq⟩:=hp
  have ec:cN3 (m+1)=2+3 * cN3 m:=rfl
  rw [ec] at hr ⊢
  unfold Q63
  refine Ret.ite (fun h=>.some ((Nx.refl r).le' (by omega))) (fun h=>?_)
  refine Ret.ite (fun h=>.some ((Nx.refl r).le' (by omega))) (fun h=>?_)
  refine Ret.ite (fun h=>.some ((Nx.refl r).le' (by omega))) (fun h=>?_)
  refine Ret.ctl (R:=fun (a:Q0×Int×Z9)=>Nx r a.2.2 (2+3 * cN3 m)) (B:=fun (s:Z9)=>Nx r s 1) ?_ (fun a ha=>.some ha) (fun s hs=>?_)
  ·refine Ret.ite (fun h=>?_) (fun h=>.some ((Nx.refl r).le' (by omega)))
   refine Ret.bind (Q3d (hr.le (by omega)) (by omega) (by omega)) (fun a ha=>?_)
   exact Ret.ite (fun h=>.some (ha.2.2.le' (by omega))) (fun h=>.some ha.2.2)
  ·have hr1:ROk s (1+3 * cN3 m):=ROk.nx (c:=1) (hr.le (by omega)) hs
   refine Ret.ctl (Z4 p.kids (fun k u=>Nx s u.1 (k * cN3 m)∧u.2.1.length=k) (fun _=>False) (fun u=>Nx s u.1 (3 * cN3 m)∧u.2.1.length≤3) ⟨by simpa using Nx.refl s,by simp⟩ (fun k y u hy hI=>?_) (fun u hI=>?_)) (fun r hr=>hr.elim) (fun u hu=>?_)
   ·obtain ⟨j1,j2⟩:=hI
    have hym:=U1 hy
    have hkl:=(List.getElem?_eq_some_iff.1 hy).1
    have hr4:ROk u.1 (cN3 m):=by
     have:k * cN3 m+cN3 m≤1+3 * cN3 m:=by
      rw [←Nat.succ_mul]
      have:=Nat.mul_le_mul_right (cN3 m) (show k.succ≤3 by omega)
      omega
     exact ROk.nx (c:=k * cN3 m) (hr1.le this) j1
    refine Ret.bind (ih n u.1 y _ (hq y hym) (by omega) hr4) (fun b hb=>?_)
    rw [X4 (by simp only [Q5,U3,U4];omega)]
    refine .some ⟨?_,by simp;omega⟩
    have:=j1.trans hb
    rw [←Nat.succ_mul] at this
    exact this
   ·obtain ⟨j1,j2⟩:=hI
    exact ⟨j1.le' (Nat.mul_le_mul_right _ hk),by omega⟩
   ·have hr2:ROk u.1 1:=ROk.nx (c:=3 * cN3 m) (hr1.le (by omega)) hu.1
    have hsu:=hs.trans hu.1
    refine Ret.ctl (R:=fun (a:Q0×Int×Z9)=>Nx r a.2.2 (2+3 * cN3 m)) (B:=fun (s:Z9)=>Nx r s (2+3 * cN3 m)) ?_ (fun a ha=>.some ha) (fun s hs=>.some hs)
    refine Ret.ite (fun h=>?_) (fun h=>.some (hsu.le' (by omega)))
    refine Ret.bind (Q3d hr2 (by omega) (by omega)) (fun a ha=>?_)
    have:=(hsu.trans ha.2.2).le' (show 1+3 * cN3 m+1≤2+3 * cN3 m by omega)
    exact Ret.ite (fun h=>.some this) (fun h=>.some this)
def anyP:Q0:=Q0.mk 1 0 0 0 0 []
theorem W8q (w:List Q4)(t:Q6):Q2i w t anyP=true:=by
 simp [Q2i,anyP,Q09,Q73,Z3x,Y1,linD,Q2u,ownV,Q24,cntP,cntP.cntPs]
theorem V0k {w:List Q4}(hw:WW w){r:Z9}{t:Q6}(ht:t∈tys w)(h:ROk r 200):Ret (Q7g NN r w t) (fun a=>Q2i w t a.1=true∧Nx r a.2 200):=by
 unfold Q7g
 refine Ret.bind (Q8n (h.le (by omega)) [3,2,4,1] (by simp) (by simp)) (fun a ha=>?_)
 have hr1:ROk a.2 199:=ROk.nx (c:=1) h ha.2
 have hd4:1≤a.1∧a.1≤4:=by
  have:=ha.1
  simp at this
  omega
 refine Ret.bind (V2r hw 3 NN a.2 t a.1 ht (by omega) (by omega) (by omega) (by decide) (hr1.le (by decide))) (fun b hb=>?_)
 have hr2:ROk b.2 80:=ROk.nx (c:=cD3 3) (hr1.le (by decide)) hb.2
 refine Ret.bind (V0x 4 NN b.2 b.1 0 hb.1 (by decide) (hr2.le (by decide))) (fun c hc=>?_)
 rw [X5s hw (by decide) t c.1 ht]
 simp only [U0]
 have hnx:=((ha.2.trans hb.2).trans hc).le' (show 1+cD3 3+cN3 4≤200 by decide)
 cases hv:Q2i w t c.1 with
 | false=>exact .some ⟨W8q w t,hnx⟩
 | true=>exact .some ⟨hv,hnx⟩
theorem W4j {w:List Q4}(hw:WW w){r:Z9}{t:Q6}(ht:t∈tys w)(h:ROk r 500):Ret (Q5r NN r w t) (fun a=>Q2i w t a.1.pat=true∧Nx r a.2 500):=by
 unfold Q5r
 refine Ret.bind (V0k hw ht (h.le (by omega))) (fun a ha=>?_)
 have hr1:ROk a.2 300:=ROk.nx (c:=200) h ha.2
 obtain ⟨g1,g2,g3⟩:=Q5b ha.1
 obtain ⟨v1,v2⟩:=Q7u hw 10 NN t a.1 [] ht g1 (by decide) (by simp;omega)
 rw [v1]
 simp only [U0,List.nil_append]
 refine Ret.ctl (Z4 (Q2u w 10 t a.1) (fun k s=>Nx a.2 s.1 (k * 3)) (fun _=>False) (fun s=>Nx a.2 s.1 300) (by simpa using Nx.refl a.2) (fun k y s hy hI=>?_) (fun s hI=>hI.le' (by omega))) (fun r hr=>hr.elim) (fun s hs=>.some ⟨ha.1,(ha.2.trans hs).le' (by omega)⟩)
 have hkl:=(List.getElem?_eq_some_iff.1 hy).1
 have hr2:ROk s.1 3:=ROk.nx (c:=k * 3) (hr1.le (by omega)) hI
 refine Ret.ctl (R:=fun _=>False) (B:=fun (u:Z9×Int×Int×Int)=>Nx a.2 u.1 ((k+1) * 3)) ?_ (fun r hr=>hr.elim) (fun u hu=>.some hu)
 refine Ret.ite (fun h=>?_) (fun h=>.some (hI.le' (by omega)))
 refine Ret.bind (Q3d (hr2.le (by omega)) (by omega) (by omega)) (fun b hb=>?_)
 have hr3:ROk b.2 2:=ROk.nx (c:=1) hr2 hb.2.2
 refine Ret.ite (fun h=>?_) (fun h=>.some ((hI.trans hb.2.2).le' (by omega)))
 refine Ret.bind (Q3d (hr3.le (by omega)) (by omega) (by omega)) (fun c hc=>?_)
 have hr4:ROk c.2 1:=ROk.nx (c:=1) hr3 hc.2.2
 refine Ret.bind (Q3d hr4 (by omega) (by omega)) (fun d hd=>?_)
 exact .some ((((hI.trans hb.2.2).trans hc.2.2).trans hd.2.2).le' (by omega))
theorem X2g {r:Z9}(h:ROk r 2)(p:Q0)(hp:p.kids.length≤1000):Ret (Q4k r p) (fun a=>a.1.kids.length≤p.kids.length+1∧Nx r a.2 2):=by
 unfold Q4k
 rw [X4 (by simp [Q5];omega)]
 simp only [U0,List.nil_append]
 refine Ret.ctl (R:=fun _=>False) (B:=fun (s:Z9×Int×Int×Int×Int×(List Q0))=>Nx r s.1 2∧s.2.2.2.2.2.length≤p.kids.length+1) ?_ (fun r hr=>hr.elim) (fun s hs=>.some ⟨hs.2,hs.1⟩)
 refine Ret.bind (Q3d (h.le (by omega)) (by omega) (by omega)) (fun a ha=>?_)
 have hr1:ROk a.2 1:=ROk.nx (c:=1) h ha.2.2
 refine Ret.ite (fun _=>Ret.bind (Q8n hr1 _ (by simp) (by simp)) (fun b hb=>.some ⟨(ha.2.2.trans hb.2),by simp⟩)) (fun _=>?_)
 refine Ret.ite (fun _=>Ret.bind (Q8n hr1 _ (by simp) (by simp)) (fun b hb=>.some ⟨(ha.2.2.trans hb.2),by simp⟩)) (fun _=>?_)
 refine Ret.ite (fun _=>Ret.bind (Q8n hr1 _ (by simp) (by simp)) (fun b hb=>.some ⟨(ha.2.2.trans hb.2),by simp⟩)) (fun _=>?_)
 refine Ret.ite (fun _=>?_) (fun _=>?_)
 ·rw [X4 (by simp [Q5];omega)]
  exact .some ⟨ha.2.2.le' (by omega),by simp⟩
 refine Ret.ite (fun _=>?_) (fun _=>?_)
 ·refine Ret.ite (fun c=>?_) (fun _=>.some ⟨ha.2.2.le' (by omega),by simp⟩)
  rw [X1] at c
  simp only [lenZ] at c
  obtain ⟨x,hx,hm⟩:=Q5a (xs:=p.kids) (i:=0) (by omega) (by omega)
  rw [hx]
  simp only [U0]
  have:setI p.kids 0 (Q0.mk 2 0 0 0 0 [])=some (p.kids.set 0 (Q0.mk 2 0 0 0 0 [])):=by
   unfold setI
   rw [if_pos ⟨by omega,by show 0<p.kids.length;omega⟩]
   rfl
  rw [this]
  exact .some ⟨ha.2.2.le' (by omega),by simp⟩
 refine Ret.ite (fun _=>Ret.bind (Q8n hr1 _ (by simp) (by simp)) (fun b hb=>.some ⟨(ha.2.2.trans hb.2),by simp⟩)) (fun _=>?_)
 exact .some ⟨ha.2.2.le' (by omega),by simp⟩
theorem X2f {r:Z9}(h:ROk r 10)(l:List Q3)(hl:l.length≤8)(hk:∀ c∈l,c.pat.kids.length≤100):Ret (Q4i NN r l) (fun a=>a.1.length≤9∧Nx r a.2 10):=by
 unfold Q4i
 rw [X4 (by simp [Q5];omega)]
 simp only [U0,List.nil_append]
 refine Ret.ctl (R:=fun _=>False) (B:=fun (s:Z9×(List Q3))=>Nx r s.1 10∧s.2.length≤9) ?_ (fun r hr=>hr.elim) (fun s hs=>.some ⟨hs.2,hs.1⟩)
 refine Ret.bind (Q3d (h.le (by omega)) (by omega) (by omega)) (fun a ha=>?_)
 have hr1:ROk a.2 9:=ROk.nx (c:=1) h ha.2.2
 have hset:∀ c:Q3,0<l.length→setI l 0 c=some (l.set 0 c):=fun c h0=>by
  unfold setI
  rw [if_pos ⟨by omega,by show 0<l.length;omega⟩]
  rfl
 have pass:Ret (some (Ctl.brk (ρ:=List Q3×Z9) (a.2,l))) (CtlQ (fun _=>False) (fun (s:Z9×(List Q3))=>Nx r s.1 10∧s.2.length≤9)):=.some ⟨ha.2.2.le' (by omega),by simp only;omega⟩
 refine Ret.ite (fun _=>?_) (fun _=>?_)
 ·refine Ret.ite (fun c=>?_) (fun _=>pass)
  rw [X1] at c
  simp only [lenZ] at c
  refine Ret.bind (Q8n (hr1.le (by omega)) _ (by simp) (by simp)) (fun b hb=>?_)
  have hr2:ROk b.2 8:=ROk.nx (c:=1) hr1 hb.2
  refine Ret.bind (Q8n (hr2.le (by omega)) _ (by simp) (by simp)) (fun d hd=>?_)
  have hr3:ROk d.2 7:=ROk.nx (c:=1) hr2 hd.2
  refine Ret.bind (Q8n (hr3.le (by omega)) _ (by simp) (by simp)) (fun e he=>?_)
  obtain ⟨x,hx,hm⟩:=Q5a (xs:=l) (i:=0) (by omega) (by omega)
  rw [hx]
  simp only [U0]
  rw [hset _ (by omega)]
  exact .some ⟨(((ha.2.2.trans hb.2).trans hd.2).trans he.2).le' (by omega),by simp;omega⟩
 refine Ret.ite (fun _=>?_) (fun _=>?_)
 ·refine Ret.ite (fun c=>?_) (fun _=>pass)
  rw [X1] at c
  simp only [lenZ] at c
  obtain ⟨x,hx,hm⟩:=Q5a (xs:=l) (i:=0) (by omega) (by omega)
  have hxk:=hk x hm
  rw [hx]
  simp only [U0]
  refine Ret.bind (X2g (hr1.le (by omega)) x.pat (by omega)) (fun b hb=>?_)
  have hr2:ROk b.2 7:=ROk.nx (c:=2) hr1 hb.2
  refine Ret.bind (X2g (hr2.le (by omega)) b.1 (by have:=hb.1;omega)) (fun d hd=>?_)
  rw [hset _ (by omega)]
  exact .some ⟨((ha.2.2.trans hb.2).trans hd.2).le' (by omega),by simp;omega⟩
 refine Ret.ite (fun _=>?_) (fun _=>pass)
 refine Ret.ctl (Q1r (fun (s:List Q3)=>s.length≤9) (fun s=>9-s.length) (fun _=>False) (fun s=>s.length≤9) (by omega) (fun s hI=>?_) NN (by show 9-l.length<30000000;omega)) (fun r hr=>hr.elim) (fun s hs=>.some ⟨ha.2.2.le' (by omega),hs⟩)
 refine Ret.ite (fun c=>?_) (fun _=>.some hI)
 rw [Q03] at c
 simp only [lenZ] at c
 rw [X4 (by simp [Q5];omega)]
 exact .some ⟨by simp;omega,by simp;omega⟩
theorem X1v {w:List Q4}(hw:WW w){t:Q6}(ht:t∈tys w){p:Q0}(h:Q2i w t p=true):p.kids.length≤3:=by
 obtain ⟨ho,hl⟩:=Q0i (Q06 (Q5b h).1)
 rw [hl]
 exact X6k (hw.ty t ht) ho
def asOk:Nat→Q0→Prop
 | 0,_=>False
 | d+1,p=>p.op=6→∃ q,p.kids=[q]∧asOk d q
def Q1z:Nat→Q0→List Int→List Q2×Q0
 | 0,p,_=>([],p)
 | d+1,p,path=>if p.op=6 then (⟨p.var,path⟩::(Q1z d (p.kids.headD anyP) path).1,(Q1z d (p.kids.headD anyP) path).2)
  else if p.op=2 then ([⟨p.var,path⟩],anyP) else ([],p)
def Q6f (p:Q0)(path:List Int):List Q2×Q0:=Q1z 12 p path
theorem Q31 (d:Nat)(p:Q0)(path:List Int):Q1z (d+1) p path=if p.op=6 then (⟨p.var,path⟩::(Q1z d (p.kids.headD anyP) path).1,(Q1z d (p.kids.headD anyP) path).2)
  else if p.op=2 then ([⟨p.var,path⟩],anyP) else ([],p):=rfl
theorem Z9t {w:List Q4} : ∀ (d:Nat) (t:Q6) (p:Q0),Q09 w d t p=true→asOk d p:=by
 intro d
 induction d with
 | zero=>intro t p h;cases h
 | succ d ih=>
  intro t p g h6
  obtain ⟨a,ha,hk⟩:=X8y h6 (Q0i (Q06 g)).2
  exact ⟨a,ha,ih t a (Q05 g (k:=0) (by rw [hk];rfl) (by rw [ha];rfl))⟩
theorem X5h:∀ (d e:Nat) (p:Q0) (path:List Int),asOk d p→d≤e→Q1z e p path=Q1z d p path:=by
 intro d
 induction d with
 | zero=>intro e p path h;exact h.elim
 | succ d ih=>
  intro e p path h he
  obtain ⟨e,rfl⟩:∃ k,e=k+1:=⟨e-1,by omega⟩
  rw [Q31,Q31]
  by_cases h6:p.op=6
  ·obtain ⟨q,hq,hd⟩:=h h6
   rw [if_pos h6,if_pos h6,hq]
   simp only [List.headD_cons]
   rw [ih e q path hd (by omega)]
  ·rw [if_neg h6,if_neg h6]
theorem W0n {d:Nat}{p:Q0}(h:asOk d p)(hd:d≤12)(path:List Int):Q6f p path=Q1z d p path:=X5h d 12 p path h hd
theorem W2l:∀ (d:Nat) (p:Q0) (path:List Int),(Q1z d p path).1.length≤d:=by
 intro d
 induction d with
 | zero=>intro p path;simp [Q1z]
 | succ d ih=>
  intro p path
  rw [Q31]
  split
  ·simpa using ih _ path
  ·split<;>simp
theorem Z06 (l:List Q2)(h:l.length≤Q5):Q0f l=some l:=by
 unfold Q0f
 rw [X4 (by simpa using h)]
 rfl
theorem Q9k (l:List Int)(h:l.length≤Q5):V8 l=some l:=by
 unfold V8
 rw [X4 (by simpa using h)]
 rfl
theorem W1x {n d:Nat}{r:Grow}{p:Q0}{path:List Int}(h:asOk d p)(hd:d≤12)(hn:d+2≤n)(hb:r.binds.length≤1000)(hp:r.pats.length≤100000)(hq:path.length≤100000) :
  Q2g n r p path=some ⟨r.clause,r.pats++[(Q6f p path).2],r.binds++(Q6f p path).1⟩:=by
 suffices hr:Ret (Q2g n r p path) (fun a=>a=⟨r.clause,r.pats++[(Q6f p path).2],r.binds++(Q6f p path).1⟩) by
  obtain ⟨a,e,rfl⟩:=hr
  exact e
 unfold Q2g
 refine Ret.ctl (B:=fun s=>s=(r.binds++(Q1z d p path).1,(Q1z d p path).2)) (R:=fun _=>False) ?_ (fun r hr=>hr.elim) (fun s hs=>?_)
 ·generalize hf:(fun (s50:(List Q2)×Q0)=>_)=f
  have go6:∀ (b:List Q2) (q k:Q0),q.op=6→q.kids=[k]→b.length≤2000→f (b,q)=some (.go (b++[⟨q.var,path⟩],k)):=fun b q k h6 hk hb=>by
   rw [←hf]
   have e6:ieq q.op 6=true:=by simp [ieq,h6]
   have e2:ieq q.op 2=false:=by simp [ieq,h6]
   simp only [e6,e2,if_true,U2,if_false,U0]
   rw [Z06 b (by simp only [Q5];omega),Q9k path (by simp only [Q5];omega)]
   simp only [U0]
   rw [X4 (by simp only [Q5,U3,U4];omega),hk,show idx [k] 0=some k from rfl]
   rfl
  have go2:∀ (b:List Q2) (q:Q0),q.op=2→b.length≤2000→f (b,q)=some (.go (b++[⟨q.var,path⟩],anyP)):=fun b q h2 hb=>by
   rw [←hf]
   have e6:ieq q.op 6=false:=by simp [ieq,h2]
   have e2:ieq q.op 2=true:=by simp [ieq,h2]
   simp only [e6,e2,if_true,U2,if_false,U0]
   rw [Z06 b (by simp only [Q5];omega),Q9k path (by simp only [Q5];omega)]
   simp only [U0]
   rw [X4 (by simp only [Q5,U3,U4];omega),show Q2y=some anyP from rfl]
   rfl
  have stp:∀ (b:List Q2) (q:Q0),q.op≠6→q.op≠2→f (b,q)=some (.brk (b,q)):=fun b q h6 h2=>by
   rw [←hf]
   have e6:ieq q.op 6=false:=by simp [ieq,h6]
   have e2:ieq q.op 2=false:=by simp [ieq,h2]
   simp only [e6,e2,U2,if_false,U0]
  clear hf
  have key:∀ (d n:Nat) (b:List Q2) (q:Q0),asOk d q→d+2≤n→b.length+d≤2000→whileL f n (b,q)=some (.brk (b++(Q1z d q path).1,(Q1z d q path).2)):=by
   intro d
   induction d with
   | zero=>intro n b q h;exact h.elim
   | succ d ih=>
    intro n b q h hn hb
    obtain ⟨n,rfl⟩:∃ k,n=k+1:=⟨n-1,by omega⟩
    rw [Q31]
    unfold whileL
    by_cases h6:q.op=6
    ·obtain ⟨k,hk,hd⟩:=h h6
     rw [go6 b q k h6 hk (by omega),if_pos h6,hk]
     have:=ih n (b++[⟨q.var,path⟩]) k hd (by omega) (by simp;omega)
     simp only [List.headD_cons]
     rw [this]
     simp
    ·rw [if_neg h6]
     by_cases h2:q.op=2
     ·rw [go2 b q h2 (by omega),if_pos h2]
      obtain ⟨n,rfl⟩:∃ k,n=k+1:=⟨n-1,by omega⟩
      show whileL f (n+1) _=_
      unfold whileL
      rw [stp _ anyP (by simp [anyP]) (by simp [anyP])]
     ·rw [stp b q h6 h2,if_neg h2]
      simp
  exact ⟨_,key d n r.binds p h hn (by omega),rfl⟩
 ·subst hs
  dsimp only
  rw [Z1k _ (by simp only [Q5];omega)]
  simp only [U0]
  rw [X4 (by simp only [Q5,U3,U4];omega),W0n h hd]
  exact .some rfl
theorem X5i {n d:Nat}{r:Y3}{p:Q0}{path:List Int}(h:asOk d p)(hd:d≤12)(hn:d+2≤n)(hb:r.binds.length≤1000)(hq:path.length≤100000) :
  Q40 n r p path=some (⟨r.clause,r.pats,r.binds++(Q6f p path).1⟩,(Q6f p path).2):=by
 suffices hr:Ret (Q40 n r p path) (fun a=>a=(⟨r.clause,r.pats,r.binds++(Q6f p path).1⟩,(Q6f p path).2)) by
  obtain ⟨a,e,rfl⟩:=hr
  exact e
 rw [W0n h hd]
 unfold Q40
 refine Ret.ctl (B:=fun s=>s.2.op≠6∧s.1.length≤r.binds.length+d∧(s.1++(Q1z 1 s.2 path).1,(Q1z 1 s.2 path).2)=(r.binds++(Q1z d p path).1,(Q1z d p path).2)) (R:=fun _=>False) ?_ (fun r hr=>hr.elim) (fun s hs=>?_)
 ·generalize hf:(fun (s16:(List Q2)×Q0)=>_)=f
  have go6:∀ (b:List Q2) (q k:Q0),q.op=6→q.kids=[k]→b.length≤2000→f (b,q)=some (.go (b++[⟨q.var,path⟩],k)):=fun b q k h6 hk hb=>by
   rw [←hf]
   have e6:ieq q.op 6=true:=by simp [ieq,h6]
   simp only [e6,if_true]
   rw [X4 (by simp only [Q5,U4];omega)]
   simp only [U0]
   rw [X4 (by simp only [Q5,U4];omega)]
   simp only [U0]
   rw [X4 (by simp only [Q5,U3,U4];omega),hk,show idx [k] 0=some k from rfl]
   rfl
  have stp:∀ (b:List Q2) (q:Q0),q.op≠6→f (b,q)=some (.brk (b,q)):=fun b q h6=>by
   rw [←hf]
   have e6:ieq q.op 6=false:=by simp [ieq,h6]
   simp only [e6,U2,if_false]
  clear hf
  have key:∀ (d n:Nat) (b:List Q2) (q:Q0),asOk d q→d+2≤n→b.length+d≤2000→
    ∃ s:List Q2×Q0,whileL f n (b,q)=some (.brk s)∧s.2.op≠6∧s.1.length≤b.length+d∧(s.1++(Q1z 1 s.2 path).1,(Q1z 1 s.2 path).2)=(b++(Q1z d q path).1,(Q1z d q path).2):=by
   intro d
   induction d with
   | zero=>intro n b q h;exact h.elim
   | succ d ih=>
    intro n b q h hn hb
    obtain ⟨n,rfl⟩:∃ k,n=k+1:=⟨n-1,by omega⟩
    unfold whileL
    by_cases h6:q.op=6
    ·obtain ⟨k,hk,hd⟩:=h h6
     rw [go6 b q k h6 hk (by omega)]
     obtain ⟨s,hs1,hs2,hs3,hs4⟩:=ih n (b++[⟨q.var,path⟩]) k hd (by omega) (by simp;omega)
     refine ⟨s,hs1,hs2,by simp at hs3;omega,?_⟩
     rw [hs4,Q31,if_pos h6,hk]
     simp
    ·rw [stp b q h6]
     refine ⟨_,rfl,h6,by simp,?_⟩
     rw [Q31,Q31,if_neg h6,if_neg h6]
  obtain ⟨s,hs1,hs2⟩:=key d n r.binds p h hn (by omega)
  exact ⟨_,hs1,hs2⟩
 ·obtain ⟨h6,hl,he⟩:=hs
  have e1:s.1++(Q1z 1 s.2 path).1=r.binds++(Q1z d p path).1:=(Prod.mk.inj he).1
  have e2:(Q1z 1 s.2 path).2=(Q1z d p path).2:=(Prod.mk.inj he).2
  rw [←e1,←e2]
  dsimp only
  by_cases h2:s.2.op=2
  ·rw [if_pos (by simp [ieq,h2])]
   rw [X4 (by simp only [Q5,U4];omega)]
   simp only [U0]
   rw [X4 (by simp only [Q5,U4];omega)]
   simp only [U0]
   rw [X4 (by simp only [Q5,U3,U4];omega),show Q2o=some anyP from rfl]
   exact .some (by rw [show (1:Nat)=0+1 from rfl,Q31];rw [if_neg h6,if_pos h2])
  ·rw [if_neg (by simp [ieq,h2])]
   exact .some (by rw [show (1:Nat)=0+1 from rfl,Q31];rw [if_neg h6,if_neg h2];simp)
theorem V4s:Q6q=Q40:=rfl
def Q4s:Q0→List Int
 | ⟨op,_,_,_,v,kids⟩=>(if op=2∨op=6 then [v] else [])++varsSs kids
where varsSs:List Q0→List Int
 | []=>[]
 | p::l=>Q4s p++varsSs l
theorem Q9p (p:Q0):Q4s p=(if p.op=2∨p.op=6 then [p.var] else [])++Q4s.varsSs p.kids:=by cases p;rw [Q4s]
theorem Q6t:∀ l:List Q0,Q4s.varsSs l=l.flatMap Q4s
 | []=>by simp [Q4s.varsSs]
 | p::l=>by simp [Q4s.varsSs,Q6t l]
theorem X59:Q4s anyP=[]:=by simp [Q9p,Q6t,anyP]
def Q7n:Nat→Q0→Prop
 | 0,_=>False
 | d+1,p=>p.op≠5∧∀ x∈p.kids,Q7n d x
theorem W5o:∀ (ls:List (List Q0)) (out:List (List Q0)) (ks:List Q0),ks∈ls.foldl tupD out→
  ∃ a b,a∈out∧ks=a++b∧b.length=ls.length∧∀ (i:Nat) (q:Q0) (l:List Q0),b[i]?=some q→ls[i]?=some l→q∈l
 | [],out,ks,h=>⟨ks,[],by simpa using h,by simp,rfl,by simp⟩
 | l::ls,out,ks,h=>by
  rw [List.foldl_cons] at h
  obtain ⟨a,b,ha,rfl,hl,hb⟩:=W5o ls (tupD out l) ks h
  simp only [tupD,List.mem_flatMap,U10] at ha
  obtain ⟨a0,h0,c,hc,rfl⟩:=ha
  refine ⟨a0,c::b,h0,by simp,by simp [hl],fun i q m h1 h2=>?_⟩
  cases i with
  | zero=>simp at h1 h2;subst h1 h2;exact hc
  | succ i=>exact hb i q m (by simpa using h1) (by simpa using h2)
theorem Z8n {d:Nat}{p q:Q0}(h:q∈Q7 (d+1) p):(p.op=5∧∃ x∈p.kids,q∈Q7 d x)∨
  (p.op≠5∧∃ ks,q=Q6e p ks∧ks.length=p.kids.length∧∀ (i:Nat) (y x:Q0),ks[i]?=some y→p.kids[i]?=some x→y∈Q7 d x):=by
 simp only [Q7] at h
 split at h
 ·rename_i h5
  obtain ⟨x,hx,hq⟩:=List.mem_flatMap.1 h
  exact .inl ⟨h5,x,hx,hq⟩
 ·rename_i h5
  obtain ⟨ks,hks,rfl⟩:=U10.1 h
  obtain ⟨a,b,ha,rfl,hl,hb⟩:=W5o _ _ ks hks
  simp only [List.mem_singleton] at ha
  subst ha
  refine .inr ⟨h5,b,by simp,by simpa using hl,fun i y x hy hx=>?_⟩
  exact hb i y (Q7 d x) hy (by rw [List.getElem?_map,hx];rfl)
theorem Q8y:∀ (d:Nat) (p q:Q0),q∈Q7 d p→Q7n d q:=by
 intro d
 induction d with
 | zero=>intro p q h;simp [Q7] at h
 | succ d ih=>
  intro p q h
  have mono:∀ (d:Nat) (q:Q0),Q7n d q→Q7n (d+1) q:=by
   intro d
   induction d with
   | zero=>intro q h;exact h.elim
   | succ d ih2=>intro q h;exact ⟨h.1,fun x hx=>ih2 x (h.2 x hx)⟩
  rcases Z8n h with ⟨_,x,_,hq⟩ | ⟨h5,ks,rfl,hl,hk⟩
  ·exact mono d q (ih x q hq)
  ·refine ⟨h5,fun y hy=>?_⟩
   obtain ⟨i,hi⟩:=List.mem_iff_getElem?.1 hy
   have hil:=(List.getElem?_eq_some_iff.1 hi).1
   have hil:i<ks.length:=hil
   have hx:p.kids[i]?=some (p.kids[i]'(by omega)):=by simp
   exact ih _ y (hk i y _ hi hx)
theorem Q0u {w:List Q4} : ∀ (d:Nat) (t:Q6) (p:Q0),Q09 w d t p=true→Q09 w (d+1) t p=true:=by
 intro d
 induction d with
 | zero=>intro t p h;cases h
 | succ d ih=>
  intro t p h
  have hn:=Q06 h
  have ho:=Q0i hn
  rw [Q09,Bool.and_eq_true,List.all_eq_true]
  refine ⟨hn,fun x hx=>?_⟩
  obtain ⟨j,hj⟩:=List.mem_iff_getElem?.1 hx
  obtain ⟨h3,h4⟩:=List.getElem?_zip_eq_some.1 hj
  exact ih _ _ (Q05 h h3 h4)
theorem W2c {w:List Q4}{t:Q6}{p:Q0}{ks:List Q0}(h:Q73 w t p=true)(hl:ks.length=p.kids.length):Q73 w t (Q6e p ks)=true:=by
 simp only [Q73,Bool.and_eq_true,decide_eq_true_eq] at h ⊢
 refine ⟨h.1,?_⟩
 have:Y1 w t (Q6e p ks)=Y1 w t p:=rfl
 rw [this,←h.2]
 exact hl
theorem Q3f {w:List Q4} : ∀ (d:Nat) (t:Q6) (p q:Q0),Q09 w d t p=true→q∈Q7 d p→Q09 w d t q=true:=by
 intro d
 induction d with
 | zero=>intro t p q h;cases h
 | succ d ih=>
  intro t p q g h
  have hn:=Q06 g
  have ho:=Q0i hn
  rcases Z8n h with ⟨h5,x,hx,hq⟩ | ⟨h5,ks,rfl,hl,hk⟩
  ·obtain ⟨a,b,hab,ht⟩:=kid0 h5 ho.2
   rw [hab] at hx
   simp only [U8,List.not_mem_nil,or_false] at hx
   rcases hx with rfl | rfl
   ·exact Q0u _ _ _ (ih t _ q (Q05 g (k:=0) (by rw [ht];rfl) (by rw [hab];rfl)) hq)
   ·exact Q0u _ _ _ (ih t _ q (Q05 g (k:=1) (by rw [ht];rfl) (by rw [hab];rfl)) hq)
  ·rw [Q09,Bool.and_eq_true,List.all_eq_true]
   refine ⟨W2c hn hl,fun x hx=>?_⟩
   have e:Y1 w t (Q6e p ks)=Y1 w t p:=rfl
   rw [e] at hx
   obtain ⟨j,hj⟩:=List.mem_iff_getElem?.1 hx
   obtain ⟨h3,h4⟩:=List.getElem?_zip_eq_some.1 hj
   have h4:ks[j]?=some x.2:=h4
   have hjl:=(List.getElem?_eq_some_iff.1 h4).1
   have hx2:p.kids[j]?=some (p.kids[j]'(by omega)):=by simp
   exact ih _ _ _ (Q05 g h3 hx2) (hk j x.2 _ h4 hx2)
theorem Z91:∀ {a b:List Int},a.Nodup→(∀ x∈a,x∈b)→a.length=b.length→a.Perm b
 | [],b,_,_,h=>by have:b=[]:=List.eq_nil_of_length_eq_zero (by simpa using h.symm);rw [this]
 | x::a,b,hn,hs,h=>by
  have hx:=hs x (by simp)
  have hn':=List.nodup_cons.1 hn
  have hl:=List.length_erase_of_mem hx
  refine (List.Perm.cons x (Z91 hn'.2 (fun y hy=>?_) (by simp at h;omega))).trans (List.perm_cons_erase hx).symm
  have hne:y≠x:=fun e=>hn'.1 (e▸hy)
  exact (List.mem_erase_of_ne hne).2 (hs y (by simp [hy]))
theorem X3c {a b:List Z2}(ha:Q24 a=true)(h:Z1r a b=true):(a.map (·.var)).Perm (b.map (·.var)):=by
 simp only [Z1r,Bool.and_eq_true,decide_eq_true_eq,List.all_eq_true] at h
 have hn:(a.map (·.var)).Nodup:=by simpa [Q24] using ha
 refine Z91 hn (fun x hx=>?_) (by simp [h.1])
 obtain ⟨v,hv,rfl⟩:=U10.1 hx
 exact U10.2 ⟨v,h.2 v hv,rfl⟩
theorem X75 {α:Type}{f:α→List Int} : ∀ {l:List α} {m:List Q0},l.length=m.length→(∀ (i:Nat) (a:α) (q:Q0),l[i]?=some a→m[i]?=some q→(Q4s q).Perm (f a))→(m.flatMap Q4s).Perm (l.flatMap f)
 | [],[],_,_=>by simp
 | [],_::_,h,_=>by simp at h
 | _::_,[],h,_=>by simp at h
 | a::l,q::m,hl,h=>by
  simp only [List.flatMap_cons]
  exact (h 0 a q rfl rfl).append (X75 (by simpa using hl) fun i a q h1 h2=>h (i+1) a q (by simpa using h1) (by simpa using h2))
theorem Z5y {w:List Q4} : ∀ (d:Nat) (t:Q6) (p q:Q0),Q09 w d t p=true→linD w d t p=true→q∈Q7 d p→(Q4s q).Perm ((Q2u w d t p).map (·.var)):=by
 intro d
 induction d with
 | zero=>intro t p q h;cases h
 | succ d ih=>
  intro t p q g l h
  have hn:=Q06 g
  have ho:=Q0i hn
  have hll:=l
  simp only [linD,Bool.and_eq_true,List.all_eq_true] at hll
  rcases Z8n h with ⟨h5,x,hx,hq⟩ | ⟨h5,ks,rfl,hl,hk⟩
  ·obtain ⟨a,b,hab,ht⟩:=kid0 h5 ho.2
   have ga:=Q05 g (k:=0) (a:=t) (q:=a) (by rw [ht];rfl) (by rw [hab];rfl)
   have gb:=Q05 g (k:=1) (a:=t) (q:=b) (by rw [ht];rfl) (by rw [hab];rfl)
   have la:=hll.1 (t,a) (by rw [ht,hab];simp)
   have lb:=hll.1 (t,b) (by rw [ht,hab];simp)
   have hal:=hll.2
   rw [if_pos h5] at hal
   have k0:kv w d t p 0=Q2u w d t a:=by simp [kv,ht,hab]
   have k1:kv w d t p 1=Q2u w d t b:=by simp [kv,ht,hab]
   rw [k0,k1] at hal
   have hv:Q2u w (d+1) t p=Q2u w d t a:=by simp [Q2u,ownV,h5,ht,hab]
   rw [hv]
   rw [hab] at hx
   simp only [U8,List.not_mem_nil,or_false] at hx
   rcases hx with rfl | rfl
   ·exact ih t _ q ga la hq
   ·exact (ih t _ q gb lb hq).trans (X3c (Q5x d t a ga la) hal).symm
  ·have hv:(Q2u w (d+1) t p).map (·.var)=(if p.op=2∨p.op=6 then [p.var] else [])++((Y1 w t p).zip p.kids).flatMap (fun x=>(Q2u w d x.1 x.2).map (·.var)):=by
    rw [Q2u,if_neg h5,List.map_append,List.take_of_length_le (by simp [ho.2])]
    congr 1
    ·unfold ownV;split<;>simp
    ·rw [List.map_flatMap]
   rw [hv,Q9p,Q6t]
   refine List.Perm.append (List.Perm.refl _) ?_
   show (ks.flatMap Q4s).Perm _
   refine X75 (by simp;omega) fun i x y h1 h2=>?_
   obtain ⟨h3,h4⟩:=List.getElem?_zip_eq_some.1 h1
   exact ih x.1 x.2 y (Q05 g h3 h4) (hll.1 x (U1 h1)) (hk i y x.2 h2 h4)
def zT:W3:=W3.mk 0 0 [] [] [] []
def X6 (r:Grow)(k:Nat):Q0:=(r.pats[k]?).getD anyP
def toR (r:Y3):Grow:=⟨r.clause,r.pats,r.binds⟩
def toC (c:J8):Z5:=⟨c.path,c.kind⟩
def endB (rows:List Grow)(k:Nat)(n:Int):Bool:=rows.any fun r=>decide ((X6 r k).op=3)&&(decide ((X6 r k).n=n)||decide ((X6 r k).m+1=n))
def cutB (rows:List Grow)(k:Nat)(n:Int):Bool:=decide (n=10)||endB rows k n
def Z2m (cut:Int→Bool):Nat→Int→Int→List Z3
 | 0,_,_=>[]
 | m+1,n,fr=>if cut n=true then ⟨-1,fr,n-1,zT⟩::Z2m cut m (n+1) n else Z2m cut m (n+1) fr
def brsD (w:List Q4)(rows:List Grow)(t:Q6)(k:Nat):List Z3:=
 if t.data = -1 then Z2m (cutB rows k) 10 1 0 else (V13 w t).map fun x=>⟨x,0,0,zT⟩
theorem X0l (cut:Int→Bool):∀ (m:Nat) (n fr:Int),(Z2m cut m n fr).length≤m
 | 0,_,_=>by simp [Z2m]
 | m+1,n,fr=>by
  unfold Z2m
  split
  ·simpa using X0l cut m (n+1) n
  ·exact Nat.le_succ_of_le (X0l cut m (n+1) fr)
theorem W8m {w:List Q4}{t:Q6}(hT:WT w t)(rows:List Grow)(k:Nat):(brsD w rows t k).length≤10:=by
 unfold brsD
 split
 ·exact X0l _ _ _ _
 ·rw [U7]
  have:=List.length_filter_le (Z41 w t) (X5 w t)
  have:=hT.cl
  unfold V13
  omega
theorem W1z {ρ:Type}{f:(List Z3)×Int×Int→Option (Ctl ρ ((List Z3)×Int×Int))}{cut:Int→Bool}
  (hs:∀ out fr n,1≤n→n≤10→out.length≤20→f (out,fr,n)=some (.go (if cut n=true then (out++[⟨-1,fr,n-1,zT⟩],n,n+1) else (out,fr,n+1))))
  (he:∀ out fr,f (out,fr,11)=some (.brk (out,fr,11))):∀ (m k:Nat) (out:List Z3) (fr n:Int),n=11-m→m≤10→m<k→out.length+m≤20→
  ∃ fr',whileL f k (out,fr,n)=some (.brk (out++Z2m cut m n fr,fr',11)):=by
 intro m
 induction m with
 | zero=>
  intro k out fr n hn _ hk _
  obtain ⟨k,rfl⟩:∃ j,k=j+1:=⟨k-1,by omega⟩
  have:n=11:=by omega
  subst this
  unfold whileL
  rw [he]
  exact ⟨fr,by simp [Z2m]⟩
 | succ m ih=>
  intro k out fr n hn hm hk hl
  obtain ⟨k,rfl⟩:∃ j,k=j+1:=⟨k-1,by omega⟩
  unfold whileL
  rw [hs out fr n (by omega) (by omega) (by omega)]
  unfold Z2m
  by_cases hc:cut n=true
  ·rw [if_pos hc,if_pos hc]
   obtain ⟨fr',h⟩:=ih k (out++[⟨-1,fr,n-1,zT⟩]) n (n+1) (by omega) (by omega) (by omega) (by simp;omega)
   exact ⟨fr',by simpa using h⟩
  ·rw [if_neg hc,if_neg hc]
   exact ih k out fr (n+1) (by omega) (by omega) (by omega) (by omega)
def W09 (rows:List Grow)(k:Nat):Prop:=∀ r∈rows,k<r.pats.length∧((X6 r k).op=3→0≤(X6 r k).n∧(X6 r k).n≤9∧0≤(X6 r k).m∧(X6 r k).m≤9)
theorem Q89 {r:Grow}{k:Nat}(h:k<r.pats.length):idx r.pats (k:Int)=some (X6 r k):=by
 apply Q16
 simp [X6,h]
theorem V53 {α:Type}{xs:List α}{i:Int}{x:α}(h0:0≤i)(h:i<xs.length):setI xs i x=some (xs.set i.toNat x):=by
 unfold setI;rw [if_pos ⟨h0,by omega⟩]
theorem W8o {α:Type}{n:Nat}{xs:List α}{i:Int}{x:α}(h:xs.length=n)(h0:0≤i)(h1:i<n):aset n xs i x=some (xs.set i.toNat x):=by
 unfold aset;rw [if_pos h,V53 h0 (by omega)]
theorem V6o {α:Type}{n:Nat}{xs:List α}{i:Int}{x:α}(h:xs.length=n)(h0:0≤i)(h1:xs[i.toNat]?=some x):aget n xs i=some x:=by
 unfold aget;rw [if_pos h,Z67 h0 h1]
theorem Z2e {w:List Q4}(hw:WW w)(hL:WL w){n:Nat}(hn:40≤n){lst:List Q3}{pick count:Int}{rows:List Grow}{cols:List Z5}{k:Nat}{col:Z5}
  (hc:cols[k]?=some col) (ht:col.t∈tys w) (hr:W09 rows k):J2 n ⟨⟨w,dimP w⟩,lst,pick,count⟩ rows cols (k:Int)=some (brsD w rows col.t k,⟨⟨w,dimP w⟩,lst,pick,count⟩):=by
 suffices h:Ret (J2 n ⟨⟨w,dimP w⟩,lst,pick,count⟩ rows cols (k:Int)) (fun a=>a=(brsD w rows col.t k,⟨⟨w,dimP w⟩,lst,pick,count⟩)) by
  obtain ⟨a,e,rfl⟩:=h
  exact e
 have hT:=hw.ty _ ht
 unfold J2
 rw [Q16 hc]
 simp only [U0]
 by_cases hd:col.t.data = -1
 ·have e:(!ieq col.t.data (-1))=false:=by simp [ieq,hd]
  simp only [e,U2,if_false]
  refine Ret.ctl (Z4 rows (fun i s=>s.length=11∧∀ j:Nat,j<11→s[j]?=some (cutB (rows.take i) k (j:Int))) (fun _=>False) (fun s=>s.length=11∧∀ j:Nat,j<11→s[j]?=some (cutB rows k (j:Int))) ⟨rfl,fun j hj=>?_⟩ (fun i r s hri hI=>?_) (fun s hI=>?_)) (fun r hr=>hr.elim) (fun s hs=>?_)
  ·have:∀ j:Nat,j<11→[false,false,false,false,false,false,false,false,false,false,true][j]?=some (decide ((j:Int)=10)):=by decide
   rw [this j hj]
   simp [cutB,endB]
  ·obtain ⟨i1,i2⟩:=hI
   obtain ⟨r1,r2⟩:=hr r (U1 hri)
   have htk:rows.take (i+1)=rows.take i++[r]:=by rw [List.take_add_one,hri];rfl
   have hcb:∀ n,cutB (rows.take (i+1)) k n=(cutB (rows.take i) k n||(decide ((X6 r k).op=3)&&(decide ((X6 r k).n=n)||decide ((X6 r k).m+1=n)))):=fun n=>by
    rw [htk];simp [cutB,endB,Bool.or_assoc]
   rw [Q89 r1]
   simp only [U0]
   by_cases h3:(X6 r k).op=3
   ·have e3:ieq (X6 r k).op 3=true:=by simp [ieq,h3]
    obtain ⟨b1,b2,b3,b4⟩:=r2 h3
    simp only [e3,if_true]
    rw [W8o i1 b1 (by omega)]
    simp only [U0]
    rw [V0 (by omega) (by omega),W8o (by simp [i1]) (by omega) (by omega)]
    refine .some ⟨by simp [i1],fun j hj=>?_⟩
    rw [hcb,h3]
    rw [List.getElem?_set,List.getElem?_set]
    simp only [List.length_set,i1]
    by_cases q1:((X6 r k).m+1).toNat=j
    ·rw [if_pos q1,if_pos (by omega)]
     have:(X6 r k).m+1=(j:Int):=by omega
     simp [this]
    ·rw [if_neg q1]
     have q1':¬(X6 r k).m+1=(j:Int):=by omega
     by_cases q2:(X6 r k).n.toNat=j
     ·rw [if_pos q2,if_pos (by omega)]
      have:(X6 r k).n=(j:Int):=by omega
      simp [this]
     ·rw [if_neg q2,i2 j hj]
      have q2':¬(X6 r k).n=(j:Int):=by omega
      simp [q1',q2']
   ·have e3:ieq (X6 r k).op 3=false:=by simp [ieq,h3]
    simp only [e3,U2,if_false]
    exact .some ⟨i1,fun j hj=>by rw [hcb,i2 j hj];simp [h3]⟩
  ·rw [List.take_length] at hI;exact hI
  ·obtain ⟨s1,s2⟩:=hs
   dsimp only
   generalize hf:(fun (s440:(List Z3)×Int×Int)=>_)=f
   obtain ⟨fr',e⟩:=W1z (f:=f) (cut:=cutB rows k) (fun out fr m h1 h2 hl=>by
     rw [←hf]
     have h3:ile m 10=true:=by rw [Q03];exact h2
     have hmj:((m.toNat:Nat):Int)=m:=by omega
     have hg:aget 11 s m=some (cutB rows k m):=V6o s1 (by omega) (by rw [s2 m.toNat (by omega),hmj])
     simp only [h3,if_true]
     rw [hg,V0 (by omega) (by omega)]
     simp only [U0]
     cases cutB rows k m with
     | true=>
      simp only [if_true]
      rw [X4 (by simp only [Q5,U3,U4];omega),Q2k (by omega) (by omega)]
      rfl
     | false=>simp) (fun out fr=>by rw [←hf];simp [ile]) 10 n [] 0 1 rfl (by omega) (by omega) (by simp)
   rw [e]
   exact .some (by simp [brsD,hd])
 ·have e:(!ieq col.t.data (-1))=true:=by simp [ieq,hd]
  simp only [e,if_true]
  rw [hT.c2]
  simp only [U0]
  refine Ret.ctl (Z4 (X5 w col.t) (fun i s=>s=((X5 w col.t).take i |>.filter (Z41 w col.t)).map fun x=>⟨x,0,0,zT⟩) (fun _=>False) (fun s=>s=(V13 w col.t).map fun x=>⟨x,0,0,zT⟩) (by simp) (fun i x s hx hI=>?_) (fun s hI=>?_)) (fun r hr=>hr.elim) (fun s hs=>.some (by simp [brsD,hd,hs]))
  ·obtain ⟨r,hr1,hr2⟩:=hL.ctor _ ht hd x (U1 hx)
   rw [hr1]
   simp only [U0]
   have htk:(X5 w col.t).take (i+1)=(X5 w col.t).take i++[x]:=by rw [List.take_add_one,hx];rfl
   have hsl:s.length≤4:=by
    rw [hI,U7]
    have h1:=List.length_filter_le (Z41 w col.t) ((X5 w col.t).take i)
    have h2:=hT.cl
    rw [U6] at h1
    omega
   by_cases hp:0<r
   ·have e1:ilt 0 r=true:=by rw [X1];exact hp
    simp only [e1,if_true]
    rw [X4 (by simp only [Q5,U3,U4];omega)]
    exact .some (by simp only [Y9];rw [hI,htk,List.filter_append];simp [hr2,hp,zT])
   ·have e1:ilt 0 r=false:=by rw [V2];omega
    simp only [e1,U2,if_false]
    exact .some (by simp only [Y9];rw [hI,htk,List.filter_append];simp [hr2,hp])
  ·rw [hI,List.take_length];rfl
theorem W2o {rows:List Y3}{k:Nat}{n:Int}(hr:W09 (rows.map toR) k):Q75 rows (k:Int) n=some (endB (rows.map toR) k n):=by
 suffices h:Ret (Q75 rows (k:Int) n) (fun a=>a=endB (rows.map toR) k n) by
  obtain ⟨a,e,rfl⟩:=h
  exact e
 unfold Q75
 refine Ret.ctl (Z4 rows (fun i _=>endB ((rows.take i).map toR) k n=false) (fun r=>r=true∧endB (rows.map toR) k n=true) (fun _=>endB (rows.map toR) k n=false) (by simp [endB]) (fun i r s hri hI=>?_) (fun s hI=>by rwa [List.take_length] at hI)) (fun r hr=>.some (by rw [hr.1,hr.2])) (fun s hs=>.some hs.symm)
 obtain ⟨r1,r2⟩:=hr (toR r) (List.mem_map_of_mem (U1 hri))
 have hp:idx r.pats (k:Int)=some (X6 (toR r) k):=Q89 (r:=toR r) r1
 rw [hp]
 simp only [U0]
 have htk:rows.take (i+1)=rows.take i++[r]:=by rw [List.take_add_one,hri];rfl
 have found:(X6 (toR r) k).op=3→((X6 (toR r) k).n=n∨(X6 (toR r) k).m+1=n)→endB (rows.map toR) k n=true:=fun h3 h=>by
  unfold endB
  rw [List.any_eq_true]
  exact ⟨toR r,List.mem_map_of_mem (U1 hri),by simpa [h3] using h⟩
 have nx:¬((X6 (toR r) k).op=3∧((X6 (toR r) k).n=n∨(X6 (toR r) k).m+1=n))→endB ((rows.take (i+1)).map toR) k n=false:=fun h=>by
  rw [htk,List.map_append]
  unfold endB at hI ⊢
  rw [List.any_append,hI]
  simp only [List.map_cons,List.map_nil,List.any_cons,List.any_nil,Bool.or_false,Bool.false_or]
  simpa using h
 by_cases h3:(X6 (toR r) k).op=3
 ·obtain ⟨b1,b2,b3,b4⟩:=r2 h3
  have e3:ieq (X6 (toR r) k).op 3=true:=by simp [ieq,h3]
  simp only [e3,if_true]
  by_cases h1:(X6 (toR r) k).n=n
  ·have e1:ieq (X6 (toR r) k).n n=true:=by simp [ieq,h1]
   simp only [e1,if_true,U0]
   exact .some ⟨rfl,found h3 (.inl h1)⟩
  ·have e1:ieq (X6 (toR r) k).n n=false:=by simp [ieq,h1]
   simp only [e1,U2,if_false]
   rw [V0 (by omega) (by omega)]
   by_cases h2:(X6 (toR r) k).m+1=n
   ·have e2:ieq ((X6 (toR r) k).m+1) n=true:=by simp [ieq,h2]
    simp only [e2,if_true,U0]
    exact .some ⟨rfl,found h3 (.inr h2)⟩
   ·have e2:ieq ((X6 (toR r) k).m+1) n=false:=by simp [ieq,h2]
    simp only [e2,U2,if_false,U0]
    exact .some (nx (by omega))
 ·have e3:ieq (X6 (toR r) k).op 3=false:=by simp [ieq,h3]
  simp only [e3,U2,if_false,U0]
  exact .some (nx (by omega))
theorem Q9m {α β:Type}{a a':Option α}{f f':α→Option β}(ha:∀ x,a=some x→a'=some x)(hf:∀ x y,f x=some y→f' x=some y){y:β}(h:a.bind f=some y):a'.bind f'=some y:=by
 obtain ⟨x,h1,h2⟩:=U12.1 h
 rw [ha x h1]
 exact hf x y h2
theorem Z8a {σ ρ:Type}{f g:σ→Option (Ctl ρ σ)}(h:∀ s r,f s=some r→g s=some r):∀ (n m:Nat) (s:σ) (r:Ctl ρ σ),n≤m→whileL f n s=some r→whileL g m s=some r:=by
 intro n
 induction n with
 | zero=>intro m s r _ e;cases e
 | succ n ih=>
  intro m s r hm e
  obtain ⟨m,rfl⟩:∃ k,m=k+1:=⟨m-1,by omega⟩
  unfold whileL at e ⊢
  cases hs:f s with
  | none=>rw [hs] at e;cases e
  | some x=>
   rw [hs] at e
   rw [h s x hs]
   cases x with
   | go s'=>exact ih m s' r (by omega) e
   | ret a=>exact e
   | brk s'=>exact e
theorem W7x {α σ ρ:Type}{f g:Nat→α→σ→Option (Ctl ρ σ)}(h:∀ i x s r,f i x s=some r→g i x s=some r):∀ (xs:List α) (i:Nat) (s:σ) (r:Ctl ρ σ),forL f i xs s=some r→forL g i xs s=some r:=by
 intro xs
 induction xs with
 | nil=>intro i s r e;exact e
 | cons x xs ih=>
  intro i s r e
  unfold forL at e ⊢
  cases hs:f i x s with
  | none=>rw [hs] at e;cases e
  | some y=>
   rw [hs] at e
   rw [h i x s y hs]
   cases y with
   | go s'=>exact ih (i+1) s' r e
   | ret a=>exact e
   | brk s'=>exact e
theorem W2k {w:List Q4}{n m:Nat}{x:List Int}(hnm:n≤m)(h:Q0v n w=some x):Q0v m w=some x:=by
 unfold Q0v at h ⊢
 refine Q9m (fun _ e=>e) (fun x1 y hy=>?_) h
 refine Q9m (fun r hr=>Z8a (fun s r e=>?_) n m _ _ hnm hr) (fun _ _ e=>e) hy
 split at e
 ·rename_i hc
  rw [if_pos hc]
  exact Q9m (fun r hr=>Z8a (fun _ _ e=>e) n m _ _ hnm hr) (fun _ _ e=>e) e
 ·rename_i hc
  rw [if_neg hc]
  exact e
theorem W4o:∀ (n m:Nat) (w:List Q4) (tb:List Int) (t:Q6) (p:Q0) (b:Bool),n≤m→Q12 n w tb t p=some b→Q12 m w tb t p=some b:=by
 intro n
 induction n with
 | zero=>intro m w tb t p b _ e;cases e
 | succ n ih=>
  intro m w tb t p b hm e
  obtain ⟨m,rfl⟩:∃ k,m=k+1:=⟨m-1,by omega⟩
  unfold Q12 at e ⊢
  split at e
  ·rename_i hc
   rw [if_pos hc];exact e
  ·rename_i hc
   rw [if_neg hc]
   split at e
   ·rename_i hc2
    rw [if_pos hc2];exact e
   ·rename_i hc2
    rw [if_neg hc2]
    refine Q9m (fun _ e=>e) (fun x1 y hy=>?_) e
    refine Q9m (fun r hr=>W7x (fun i x s r e=>?_) _ _ _ _ hr) (fun _ _ e=>e) hy
    refine Q9m (fun _ e=>e) (fun x1 y hy=>?_) e
    exact Q9m (fun r hr=>ih m _ _ _ _ _ (by omega) hr) (fun _ _ e=>e) hy
def W5c (w:List Q4)(t:Q6)(k:Int):Bool:=match Q51 w t k with
 | some p=>decide (Q12 100 w (tabP w) t p=some (Z41 w t k))
 | none=>false
def chkS (w:List Q4):Bool:=decide (Q0v 1000 w=some (tabP w))&&(tys w).all fun t=>if t.data = -1 then decide (X5 w t=[]) else (X5 w t).all fun k=>W5c w t k
theorem Y5b:Q0s.all chkS=true:=by kernel_rfl
structure WS (w:List Q4):Prop where
 tab:∀ n,1000≤n→Q0v n w=some (tabP w)
 wide:∀ t∈tys w,t.data≠-1→∀ k∈X5 w t,∃ p,Q51 w t k=some p∧∀ n,1000≤n→Q12 n w (tabP w) t p=some (Z41 w t k)
 int:∀ t∈tys w,t.data = -1→X5 w t=[]
theorem ws {w:List Q4}(h:w∈Q0s):WS w:=by
 have h:=List.all_eq_true.1 Y5b w h
 simp only [chkS,Bool.and_eq_true,decide_eq_true_eq,List.all_eq_true] at h
 obtain ⟨h1,h2⟩:=h
 refine ⟨fun n hn=>W2k hn h1,fun t ht hd k hk=>?_,fun t ht hd=>?_⟩
 rotate_left
 ·have:=h2 t ht
  rw [if_pos hd] at this
  simpa using this
 have hw:=h2 t ht
 rw [if_neg hd] at hw
 have hw:=List.all_eq_true.1 hw k hk
 unfold W5c at hw
 split at hw
 ·rename_i p hp
  exact ⟨p,hp,fun n hn=>W4o 100 n _ _ _ _ _ (by omega) (by simpa using hw)⟩
 ·cases hw
theorem Z3s {w:List Q4}(hw:WW w)(hS:WS w){n:Nat}(hn:1000≤n){rows:List Y3}{col:J8}{k:Nat}(ht:col.kind∈tys w)(hr:W09 (rows.map toR) k) :
  Q3m n w col rows (k:Int)=some (brsD w (rows.map toR) col.kind k):=by
 suffices h:Ret (Q3m n w col rows (k:Int)) (fun a=>a=brsD w (rows.map toR) col.kind k) by
  obtain ⟨a,e,rfl⟩:=h
  exact e
 have hT:=hw.ty _ ht
 unfold Q3m
 by_cases hd:col.kind.data = -1
 ·have e:(!ieq col.kind.data (-1))=false:=by simp [ieq,hd]
  simp only [e,U2,if_false]
  generalize hf:(fun (s491:(List Z3)×Int×Int)=>_)=f
  obtain ⟨fr',e⟩:=W1z (f:=f) (cut:=cutB (rows.map toR) k) (fun out fr m h1 h2 hl=>by
    rw [←hf]
    have h3:ile m 10=true:=by rw [Q03];exact h2
    simp only [h3,if_true]
    by_cases h10:m=10
    ·subst h10
     have e10:ieq (10:Int) 10=true:=rfl
     simp only [e10,if_true]
     rw [X4 (by simp only [Q5,U3,U4];omega),Q2k (by omega) (by omega),V0 (by omega) (by omega)]
     simp [cutB,zT]
    ·have e10:ieq m 10=false:=by simp [ieq,h10]
     have hcb:cutB (rows.map toR) k m=endB (rows.map toR) k m:=by simp [cutB,h10]
     simp only [e10,U2,if_false]
     rw [W2o hr,hcb,V0 (by omega) (by omega)]
     simp only [U0]
     cases endB (rows.map toR) k m with
     | true=>
      simp only [if_true]
      rw [X4 (by simp only [Q5,U3,U4];omega),Q2k (by omega) (by omega)]
      rfl
     | false=>simp) (fun out fr=>by rw [←hf];simp [ile]) 10 n [] 0 1 rfl (by omega) (by omega) (by simp)
  rw [e]
  exact .some (by simp [brsD,hd])
 ·have e:(!ieq col.kind.data (-1))=true:=by simp [ieq,hd]
  simp only [e,if_true]
  rw [hS.tab n hn,hT.c1]
  simp only [U0]
  refine Ret.ctl (Z4 (X5 w col.kind) (fun i s=>s=((X5 w col.kind).take i |>.filter (Z41 w col.kind)).map fun x=>⟨x,0,0,zT⟩) (fun _=>False) (fun s=>s=(V13 w col.kind).map fun x=>⟨x,0,0,zT⟩) (by simp) (fun i x s hx hI=>?_) (fun s hI=>?_)) (fun r hr=>hr.elim) (fun s hs=>.some (by simp [brsD,hd,hs]))
  ·obtain ⟨q,hq1,hq2⟩:=hS.wide _ ht hd x (U1 hx)
   rw [hq1]
   simp only [U0]
   rw [hq2 n hn]
   simp only [U0]
   have htk:(X5 w col.kind).take (i+1)=(X5 w col.kind).take i++[x]:=by rw [List.take_add_one,hx];rfl
   have hsl:s.length≤4:=by
    rw [hI,U7]
    have h1:=List.length_filter_le (Z41 w col.kind) ((X5 w col.kind).take i)
    have h2:=hT.cl
    rw [U6] at h1
    omega
   cases hp:Z41 w col.kind x with
   | true=>
    simp only [if_true]
    rw [X4 (by simp only [Q5,U3,U4];omega)]
    exact .some (by simp only [Y9];rw [hI,htk,List.filter_append];simp [hp,zT])
   | false=>
    simp only [U2,if_false]
    exact .some (by simp only [Y9];rw [hI,htk,List.filter_append];simp [hp])
  ·rw [List.take_length] at hI;exact hI
def Q4t (sc:Nat→Int)(an:Nat→Bool):Nat→Option Nat
 | 0=>none
 | k+1=>if an k=true then Q4t sc an k else match Q4t sc an k with
  | none=>some k
  | some b=>if sc b<sc k then some k else some b
def optI:Option Nat→Int
 | none=>-1
 | some k=>(k:Int)
def scO (sc:Nat→Int):Option Nat→Int
 | none=>0
 | some b=>sc b
def Q6i (rows:List Grow)(k:Nat):Nat:=(rows.filter fun r=>decide ((X6 r k).op≠1)).length
def V2x (cols:List Z5)(k:Nat):Z5:=(cols[k]?).getD ⟨[],tI⟩
def Z24 (w:List Q4)(rows:List Grow)(cols:List Z5)(pick:Int)(k:Nat):Int:=
 if pick=1 then (Q6i rows k:Int) else if pick=2 then -((brsD w rows (V2x cols k).t k).length:Int) else 0
def Q8w (rows:List Grow)(k:Nat):Bool:=decide ((X6 (rows.headD ⟨0,[],[]⟩) k).op=1)
def Z11 (w:List Q4)(rows:List Grow)(cols:List Z5)(pick:Int):Option Nat:=Q4t (Z24 w rows cols pick) (Q8w rows) cols.length
theorem Q71 {sc:Nat→Int}{an:Nat→Bool}{k:Nat}(h:an k=true):Q4t sc an (k+1)=Q4t sc an k:=by
 conv=>lhs;unfold Q4t
 rw [if_pos h]
theorem Q7w {sc:Nat→Int}{an:Nat→Bool}{k:Nat}(h:an k=false)(e:Q4t sc an k=none):Q4t sc an (k+1)=some k:=by
 conv=>lhs;unfold Q4t
 rw [if_neg (by simp [h]),e]
theorem Q2v {sc:Nat→Int}{an:Nat→Bool}{k b:Nat}(h:an k=false)(e:Q4t sc an k=some b):Q4t sc an (k+1)=if sc b<sc k then some k else some b:=by
 conv=>lhs;unfold Q4t
 rw [if_neg (by simp [h]),e]
theorem Z2x {sc:Nat→Int}{an:Nat→Bool} : ∀ {k b:Nat},Q4t sc an k=some b→b<k∧an b=false:=by
 intro k
 induction k with
 | zero=>intro b h;cases h
 | succ k ih=>
  intro b h
  cases ha:an k with
  | true=>rw [Q71 ha] at h;have:=ih h;exact ⟨by omega,this.2⟩
  | false=>
   cases hp:Q4t sc an k with
   | none=>rw [Q7w ha hp] at h;cases h;exact ⟨by omega,ha⟩
   | some c=>
    rw [Q2v ha hp] at h
    split at h
    ·cases h;exact ⟨by omega,ha⟩
    ·cases h;have:=ih hp;exact ⟨by omega,this.2⟩
theorem Z3v {sc:Nat→Int}{an:Nat→Bool}(h0:∀ i j,sc i=sc j){k b:Nat}(h:Q4t sc an k=some b):∀ m,Q4t sc an (k+m)=some b:=by
 intro m
 induction m with
 | zero=>exact h
 | succ m ih=>
  rw [←Nat.add_assoc]
  cases ha:an (k+m) with
  | true=>rw [Q71 ha];exact ih
  | false=>rw [Q2v ha ih,if_neg (by rw [h0 b (k+m)];omega)]
theorem Q7x {sc:Nat→Int}{an:Nat→Bool} : ∀ {k:Nat},Q4t sc an k=none↔∀ j<k,an j=true:=by
 intro k
 induction k with
 | zero=>simp [Q4t]
 | succ k ih=>
  constructor
  ·intro h
   cases ha:an k with
   | true=>
    rw [Q71 ha] at h
    intro j hj
    rcases Nat.lt_or_ge j k with h1 | h1
    ·exact ih.1 h j h1
    ·rw [show j=k by omega];exact ha
   | false=>
    cases hp:Q4t sc an k with
    | none=>rw [Q7w ha hp] at h;cases h
    | some c=>rw [Q2v ha hp] at h;split at h<;>cases h
  ·intro h
   rw [Q71 (h k (by omega))]
   exact ih.2 fun j hj=>h j (by omega)
theorem V02 {n:Nat}(h:n≤1000):wneg .i64 (lenZ n) = -(n:Int):=by
 unfold wneg
 rw [show (0-lenZ n) = -(n:Int) by simp [lenZ]]
 exact Z4c (by omega) (by omega)
theorem Z34 {rows:List Grow}{i:Nat}{r:Grow}(h:rows[i]?=some r)(k:Nat):Q6i (rows.take (i+1)) k=Q6i (rows.take i) k+(if (X6 r k).op=1 then 0 else 1):=by
 unfold Q6i
 rw [List.take_add_one,h]
 simp only [Option.toList_some,List.filter_append,U5]
 by_cases h1:(X6 r k).op=1<;>simp [h1]
theorem X3r {w:List Q4}(hw:WW w)(hL:WL w){n:Nat}(hn:40≤n){lst:List Q3}{pick count:Int}{rows:List Grow}{cols:List Z5}
  (hne:rows≠[]) (hrl:rows.length≤100000) (hct:∀ c∈cols,c.t∈tys w) (hr:∀ k,k<cols.length→W09 rows k) :
  Q0g n ⟨⟨w,dimP w⟩,lst,pick,count⟩ rows cols=some (optI (Z11 w rows cols pick),⟨⟨w,dimP w⟩,lst,pick,count⟩):=by
 suffices h:Ret (Q0g n ⟨⟨w,dimP w⟩,lst,pick,count⟩ rows cols) (fun a=>a=(optI (Z11 w rows cols pick),⟨⟨w,dimP w⟩,lst,pick,count⟩)) by
  obtain ⟨a,e,rfl⟩:=h
  exact e
 generalize hsc:Z24 w rows cols pick=sc
 obtain ⟨r0,rest,hrows⟩:∃ r0 rest,rows=r0::rest:=by
  cases rows with
  | nil=>exact absurd rfl hne
  | cons a b=>exact ⟨a,b,rfl⟩
 have h0:idx rows 0=some r0:=by rw [hrows];rfl
 have hm0:r0∈rows:=by rw [hrows];simp
 have han:∀ k,Q8w rows k=decide ((X6 r0 k).op=1):=fun k=>by rw [hrows];rfl
 unfold Q0g
 refine Ret.ctl (Z4 cols (fun i s=>s.1=⟨⟨w,dimP w⟩,lst,pick,count⟩∧s.2.1=optI (Q4t sc (Q8w rows) i)∧s.2.2=scO sc (Q4t sc (Q8w rows) i)) (fun _=>False)
  (fun s=>s.1=⟨⟨w,dimP w⟩,lst,pick,count⟩∧s.2.1=optI (Q4t sc (Q8w rows) cols.length)) ⟨rfl,rfl,rfl⟩ (fun i col s hci hI=>?_) (fun s hI=>⟨hI.1,hI.2.1⟩)) (fun r hr=>hr.elim) (fun s hs=>?_)
 ·obtain ⟨c,b,v⟩:=s
  obtain ⟨e1,e2,e3⟩:=hI
  simp only at e1 e2 e3
  subst e1
  have hi:i<cols.length:=(List.getElem?_eq_some_iff.1 hci).1
  have hca:V2x cols i=col:=by simp [V2x,hci]
  rw [h0]
  simp only [U0]
  rw [Q89 ((hr i hi) r0 hm0).1]
  simp only [U0]
  by_cases ha:(X6 r0 i).op=1
  ·have e:ieq (X6 r0 i).op 1=true:=by simp [ieq,ha]
   simp only [e,if_true,U0]
   have hP:Q4t sc (Q8w rows) (i+1)=Q4t sc (Q8w rows) i:=Q71 (by rw [han];simp [ha])
   exact .some ⟨rfl,by rw [hP];exact e2,by rw [hP];exact e3⟩
  ·have e:ieq (X6 r0 i).op 1=false:=by simp [ieq,ha]
   have hnf:Q8w rows i=false:=by rw [han];simp [ha]
   simp only [e,U2,if_false]
   refine Ret.ctl (R:=fun _=>False) (B:=fun x=>RndQ (fun _=>False) (fun s=>s.1=(⟨⟨w,dimP w⟩,lst,pick,count⟩:X3)∧s.2.1=optI (Q4t sc (Q8w rows) cols.length)) (fun s=>s.1=(⟨⟨w,dimP w⟩,lst,pick,count⟩:X3)∧s.2.1=optI (Q4t sc (Q8w rows) (i+1))∧s.2.2=scO sc (Q4t sc (Q8w rows) (i+1))) (Ctl.go (x.1,x.2.1,x.2.2))) ?_ (fun r h=>h.elim) (fun s hs=>.some hs)
   refine Ret.ctl (R:=fun _=>False) (B:=fun x=>x=((⟨⟨w,dimP w⟩,lst,pick,count⟩:X3),sc i)) ?_ (fun r h=>h.elim) (fun s hs=>?_)
   ·by_cases p1:pick=1
    ·have e:ieq pick 1=true:=by simp [ieq,p1]
     simp only [e,if_true]
     refine Ret.ctl (Z4 rows (fun j s=>s=(Q6i (rows.take j) i:Int)) (fun _=>False) (fun s=>s=(Q6i rows i:Int)) rfl (fun j r s hj hI=>?_) (fun s hI=>by rw [List.take_length] at hI;exact hI)) (fun r hr=>hr.elim) (fun s hs=>?_)
     ·rw [Q89 ((hr i hi) r (U1 hj)).1]
      simp only [U0]
      have hlt:j<rows.length:=(List.getElem?_eq_some_iff.1 hj).1
      have hle:Q6i (rows.take j) i≤j:=by
       unfold Q6i
       have h1:=List.length_filter_le (fun r=>decide ((X6 r i).op≠1)) (rows.take j)
       rw [U6] at h1
       omega
      rw [hI]
      by_cases h1:(X6 r i).op=1
      ·have e:(!ieq (X6 r i).op 1)=false:=by simp [ieq,h1]
       simp only [e,U2,if_false,U0]
       refine .some ?_
       simp only [Y9]
       rw [Z34 hj,if_pos h1];rfl
      ·have e:(!ieq (X6 r i).op 1)=true:=by simp [ieq,h1]
       simp only [e,if_true]
       rw [V0 (by omega) (by omega)]
       simp only [U0]
       refine .some ?_
       simp only [Y9]
       rw [Z34 hj,if_neg h1];rfl
     ·subst hs
      refine .some ?_
      simp only [Q5l]
      rw [←hsc,Z24,if_pos p1]
    ·have e:ieq pick 1=false:=by simp [ieq,p1]
     simp only [e,U2,if_false]
     by_cases p2:pick=2
     ·have e:ieq pick 2=true:=by simp [ieq,p2]
      simp only [e,if_true]
      have hT:=hw.ty _ (hct col (U1 hci))
      have hl:=W8m hT rows i
      rw [Z2e hw hL hn hci (hct col (U1 hci)) (hr i hi)]
      simp only [U0]
      refine .some ?_
      simp only [Q5l]
      rw [V02 (by omega),←hsc,Z24,if_neg p1,if_pos p2,hca]
     ·have e:ieq pick 2=false:=by simp [ieq,p2]
      simp only [e,U2,if_false]
      refine .some ?_
      simp only [Q5l]
      rw [←hsc,Z24,if_neg p1,if_neg p2]
   ·subst hs
    dsimp only
    cases hP:Q4t sc (Q8w rows) i with
    | none=>
     rw [hP] at e2
     have e:ilt b 0=true:=by rw [e2];rfl
     simp only [e,if_true]
     refine .some ⟨rfl,?_,?_⟩
     ·rw [Q7w hnf hP];rfl
     ·rw [Q7w hnf hP];rfl
    | some q=>
     rw [hP] at e2 e3
     have e:ilt b 0=false:=by rw [V2,e2];simp [optI]
     simp only [e,U2,if_false]
     rw [e3]
     by_cases hlt:sc q<sc i
     ·have e':ilt (scO sc (some q)) (sc i)=true:=by rw [X1];exact hlt
      simp only [e',if_true]
      refine .some ⟨rfl,?_,?_⟩
      ·rw [Q2v hnf hP,if_pos hlt];rfl
      ·rw [Q2v hnf hP,if_pos hlt];rfl
     ·have e':ilt (scO sc (some q)) (sc i)=false:=by rw [V2];simp only [scO];omega
      simp only [e',U2,if_false]
      refine .some ⟨rfl,?_,?_⟩
      ·rw [Q2v hnf hP,if_neg hlt];exact e2
      ·rw [Q2v hnf hP,if_neg hlt]
 ·obtain ⟨c,b,v⟩:=s
  obtain ⟨e1,e2⟩:=hs
  simp only at e1 e2
  subst e1
  exact .some (by rw [e2,Z11,hsc])
theorem Z4p {rows:List Y3}{k:Nat}(hrl:rows.length≤100000)(hr:W09 (rows.map toR) k):Q43 rows (k:Int)=some (Q6i (rows.map toR) k:Int):=by
 suffices h:Ret (Q43 rows (k:Int)) (fun a=>a=(Q6i (rows.map toR) k:Int)) by
  obtain ⟨a,e,rfl⟩:=h
  exact e
 unfold Q43
 refine Ret.ctl (Z4 rows (fun j s=>s=(Q6i ((rows.map toR).take j) k:Int)) (fun _=>False) (fun s=>s=(Q6i (rows.map toR) k:Int)) rfl (fun j r s hj hI=>?_) (fun s hI=>?_)) (fun r hr=>hr.elim) (fun s hs=>.some hs)
 ·have hj':(rows.map toR)[j]?=some (toR r):=by simp [hj]
  rw [show idx r.pats (k:Int)=some (X6 (toR r) k) from Q89 (r:=toR r) (hr (toR r) (U1 hj')).1]
  simp only [U0]
  have hlt:j<rows.length:=(List.getElem?_eq_some_iff.1 hj).1
  have hle:Q6i ((rows.map toR).take j) k≤j:=by
   unfold Q6i
   have h1:=List.length_filter_le (fun r=>decide ((X6 r k).op≠1)) ((rows.map toR).take j)
   rw [U6] at h1
   omega
  rw [hI]
  by_cases h1:(X6 (toR r) k).op=1
  ·have e:(!ieq (X6 (toR r) k).op 1)=false:=by simp [ieq,h1]
   simp only [e,U2,if_false,U0]
   refine .some ?_
   simp only [Y9]
   rw [Z34 hj',if_pos h1];rfl
  ·have e:(!ieq (X6 (toR r) k).op 1)=true:=by simp [ieq,h1]
   simp only [e,if_true]
   rw [V0 (by omega) (by omega)]
   simp only [U0]
   refine .some ?_
   simp only [Y9]
   rw [Z34 hj',if_neg h1];rfl
 ·rw [show rows.length=(rows.map toR).length by simp,List.take_length] at hI;exact hI
def Z1q (r:Grow):Option Nat:=Q4t (fun _=>0) (fun k=>decide ((X6 r k).op=1)) r.pats.length
theorem Z6z (r:Y3):Q42 r=some (optI (Z1q (toR r))):=by
 suffices h:Ret (Q42 r) (fun a=>a=optI (Z1q (toR r))) by
  obtain ⟨a,e,rfl⟩:=h
  exact e
 unfold Q42
 generalize han:(fun k=>decide ((X6 (toR r) k).op=1))=an
 have hF:Z1q (toR r)=Q4t (fun _=>0) an r.pats.length:=by unfold Z1q;rw [han];rfl
 refine Ret.ctl (Z4 r.pats (fun j _=>Q4t (fun _=>0) an j=none) (fun v=>v=optI (Z1q (toR r))) (fun _=>Z1q (toR r)=none) rfl (fun j p s hj hI=>?_) (fun s hI=>by rw [hF];exact hI)) (fun r hr=>.some hr) (fun s hs=>.some (by rw [hs];rfl))
 have hlt:j<r.pats.length:=(List.getElem?_eq_some_iff.1 hj).1
 have hp:X6 (toR r) j=p:=by unfold X6 toR;simp [hj]
 have ha:an j=decide (p.op=1):=by rw [←han];simp only [hp]
 by_cases h1:p.op=1
 ·have e:(!ieq p.op 1)=false:=by simp [ieq,h1]
  simp only [e,U2,if_false]
  exact .some (by simp only [Y9];rw [Q71 (by rw [ha];simp [h1])];exact hI)
 ·have e:(!ieq p.op 1)=true:=by simp [ieq,h1]
  simp only [e,if_true]
  refine .some ?_
  simp only [Z2v]
  have h2:=Z3v (sc:=fun _=>0) (an:=an) (fun _ _=>rfl) (Q7w (by rw [ha];simp [h1]) hI) (r.pats.length-(j+1))
  rw [hF,show r.pats.length=j+1+(r.pats.length-(j+1)) by omega,h2]
  rfl
theorem X8g {w:List Q4}(hw:WW w)(hS:WS w){n:Nat}(hn:1000≤n){pick:Int}{row:Y3}{rest:List Y3}{cols:List J8}
  (hrl:(row::rest).length≤100000) (hcl:cols.length+2≤n) (hcn:cols.length≤100000) (hpl:row.pats.length=cols.length) (hct:∀ c∈cols,c.kind∈tys w) (hr:∀ k,k<cols.length→W09 ((row::rest).map toR) k)
  {f:Nat} (hf:Z1q (toR row)=some f) :
  Q61 n w cols (row::rest) pick=some (optI (Z11 w ((row::rest).map toR) (cols.map toC) pick)):=by
 suffices h:Ret (Q61 n w cols (row::rest) pick) (fun a=>a=optI (Z11 w ((row::rest).map toR) (cols.map toC) pick)) by
  obtain ⟨a,e,rfl⟩:=h
  exact e
 generalize hrows:(row::rest)=rows at *
 have h0:idx rows 0=some row:=by rw [←hrows];rfl
 have hm0:toR row∈rows.map toR:=by rw [←hrows];simp
 have han:∀ k,Q8w (rows.map toR) k=decide ((X6 (toR row) k).op=1):=fun k=>by rw [←hrows];rfl
 generalize hsc:Z24 w (rows.map toR) (cols.map toC) pick=sc
 have hfl:f<cols.length:=by
  have:=Z2x hf
  have h2:(toR row).pats.length=cols.length:=hpl
  omega
 have hanE:Q8w (rows.map toR)=fun k=>decide ((X6 (toR row) k).op=1):=funext han
 have hstart:Q4t sc (Q8w (rows.map toR)) (f+1)=some f:=by
  have h1:∀ k,k≤f→Q4t (fun _=>(0:Int)) (Q8w (rows.map toR)) k=none:=by
   intro k hk
   cases hq:Q4t (fun _=>(0:Int)) (Q8w (rows.map toR)) k with
   | none=>rfl
   | some b=>
    exfalso
    have h2:=Z3v (fun _ _=>rfl) hq ((toR row).pats.length-k)
    unfold Z1q at hf
    rw [←hanE,show (toR row).pats.length=k+((toR row).pats.length-k) by have:(toR row).pats.length=cols.length:=hpl;omega,h2] at hf
    have:=(Z2x hq).1
    cases hf
    omega
  have h2:=Z2x hf
  refine Q7w (by rw [han];exact h2.2) (Q7x.2 (Q7x.1 (h1 f (Nat.le_refl _))))
 unfold Q61
 rw [h0]
 simp only [U0]
 rw [Z6z,hf]
 simp only [U0,optI]
 rw [V0 (by omega) (by omega)]
 refine Ret.ctl (Q1r (fun s=>∃ b k:Nat,s=((b:Int),(k:Int))∧Q4t sc (Q8w (rows.map toR)) k=some b∧k≤cols.length) (fun s=>cols.length-s.2.toNat) (fun _=>False) (fun s=>s.1=optI (Z11 w (rows.map toR) (cols.map toC) pick)) ⟨f,f+1,by simp,hstart,by omega⟩ (fun s hI=>?_) n (by simp only;omega)) (fun r h=>h.elim) (fun s hs=>.some hs)
 obtain ⟨b,k,rfl,hP,hk⟩:=hI
 have hb:=Z2x hP
 have stop:k=cols.length∨pick=0→(b:Int)=optI (Z11 w (rows.map toR) (cols.map toC) pick):=fun h=>by
  unfold Z11
  rw [hsc,U7]
  rcases h with h | h
  ·rw [←h,hP];rfl
  ·have:∀ i j,sc i=sc j:=fun i j=>by rw [←hsc];simp [Z24,h]
   have h2:=Z3v this hP (cols.length-k)
   rw [show k+(cols.length-k)=cols.length by omega] at h2
   rw [h2];rfl
 dsimp only
 by_cases hlt:k<cols.length
 ·have e:ilt (k:Int) (lenZ cols.length)=true:=by rw [X1,Y0];omega
  simp only [e,if_true]
  by_cases p0:pick=0
  ·have e:(!ieq pick 0)=false:=by simp [ieq,p0]
   simp only [e,U2,if_false]
   exact .some (stop (.inr p0))
  ·have e:(!ieq pick 0)=true:=by simp [ieq,p0]
   simp only [e,if_true]
   have hgo:∀ c:Nat,Q4t sc (Q8w (rows.map toR)) (k+1)=some c→RndQ (fun _=>False) (fun s=>s.1=optI (Z11 w (rows.map toR) (cols.map toC) pick)) (fun s'=>(∃ b k:Nat,s'=((b:Int),(k:Int))∧Q4t sc (Q8w (rows.map toR)) k=some b∧k≤cols.length)∧cols.length-s'.2.toNat<cols.length-((k:Int)).toNat) (Ctl.go ((c:Int),wadd .i64 (k:Int) 1):Ctl Unit (Int×Int)):=fun c hc=>by
    rw [V0 (by omega) (by omega)]
    exact ⟨⟨c,k+1,by simp,hc,hlt⟩,by simp only;omega⟩
   refine Ret.ctl (R:=fun _=>False) (B:=fun x=>∃ c:Nat,x=(c:Int)∧Q4t sc (Q8w (rows.map toR)) (k+1)=some c) ?_ (fun r h=>h.elim) (fun s hs=>?_)
   ·rw [show idx row.pats (k:Int)=some (X6 (toR row) k) from Q89 (r:=toR row) ((hr k hlt) (toR row) hm0).1]
    simp only [U0]
    by_cases ha:(X6 (toR row) k).op=1
    ·have e:ieq (X6 (toR row) k).op 1=true:=by simp [ieq,ha]
     simp only [e,if_true]
     exact .some ⟨b,rfl,by rw [Q71 (by rw [han];simp [ha])];exact hP⟩
    ·have e:ieq (X6 (toR row) k).op 1=false:=by simp [ieq,ha]
     have hnf:Q8w (rows.map toR) k=false:=by rw [han];simp [ha]
     simp only [e,U2,if_false]
     by_cases p1:pick=1
     ·have e1:ieq pick 1=true:=by simp [ieq,p1]
      have e2:ieq pick 2=false:=by simp [ieq,p1]
      simp only [e1,e2,if_true,U2,if_false]
      rw [Z4p hrl (hr k hlt),Z4p hrl (hr b (by omega))]
      simp only [U0]
      have hs1:∀ j,sc j=(Q6i (rows.map toR) j:Int):=fun j=>by rw [←hsc,Z24,if_pos p1]
      by_cases hc:Q6i (rows.map toR) b<Q6i (rows.map toR) k
      ·have e3:ilt (Q6i (rows.map toR) b:Int) (Q6i (rows.map toR) k:Int)=true:=by rw [X1];omega
       simp only [e3,if_true,U0]
       exact .some ⟨k,rfl,by rw [Q2v hnf hP,if_pos (by rw [hs1,hs1];omega)]⟩
      ·have e3:ilt (Q6i (rows.map toR) b:Int) (Q6i (rows.map toR) k:Int)=false:=by rw [V2];omega
       simp only [e3,U2,if_false,U0]
       exact .some ⟨b,rfl,by rw [Q2v hnf hP,if_neg (by rw [hs1,hs1];omega)]⟩
     ·have e1:ieq pick 1=false:=by simp [ieq,p1]
      simp only [e1,U2,if_false,U0]
      by_cases p2:pick=2
      ·have e2:ieq pick 2=true:=by simp [ieq,p2]
       simp only [e2,if_true]
       have hbl:b<cols.length:=by omega
       obtain ⟨ck,hck⟩:∃ c,cols[k]?=some c:=⟨_,U9 hlt⟩
       obtain ⟨cb,hcb⟩:∃ c,cols[b]?=some c:=⟨_,U9 hbl⟩
       rw [Q16 hck,Q16 hcb]
       simp only [U0]
       rw [Z3s hw hS hn (hct ck (U1 hck)) (hr k hlt),Z3s hw hS hn (hct cb (U1 hcb)) (hr b hbl)]
       simp only [U0]
       have hs2:∀ j c,cols[j]?=some c→sc j = -((brsD w (rows.map toR) c.kind j).length:Int):=fun j c hc=>by
        rw [←hsc,Z24,if_neg p1,if_pos p2]
        unfold V2x
        rw [List.getElem?_map,hc];rfl
       by_cases hc:(brsD w (rows.map toR) ck.kind k).length<(brsD w (rows.map toR) cb.kind b).length
       ·have e3:ilt (lenZ (brsD w (rows.map toR) ck.kind k).length) (lenZ (brsD w (rows.map toR) cb.kind b).length)=true:=by rw [X1,Y0,Y0];omega
        simp only [e3,if_true]
        exact .some ⟨k,rfl,by rw [Q2v hnf hP,if_pos (by rw [hs2 _ _ hck,hs2 _ _ hcb];omega)]⟩
       ·have e3:ilt (lenZ (brsD w (rows.map toR) ck.kind k).length) (lenZ (brsD w (rows.map toR) cb.kind b).length)=false:=by rw [V2,Y0,Y0];omega
        simp only [e3,U2,if_false]
        exact .some ⟨b,rfl,by rw [Q2v hnf hP,if_neg (by rw [hs2 _ _ hck,hs2 _ _ hcb];omega)]⟩
      ·have e2:ieq pick 2=false:=by simp [ieq,p2]
       simp only [e2,U2,if_false]
       exact .some ⟨b,rfl,by rw [Q2v hnf hP,if_neg (by rw [←hsc];simp [Z24,p1,p2])]⟩
   ·obtain ⟨c,rfl,hc⟩:=hs
    exact .some (hgo c hc)
 ·have e:ilt (k:Int) (lenZ cols.length)=false:=by rw [V2,Y0];omega
  simp only [e,U2,if_false]
  exact .some (stop (.inl (by omega)))
def toS (r:Grow):Y3:=⟨r.clause,r.pats,r.binds⟩
def toD (c:Z5):J8:=⟨c.path,c.t⟩
theorem toRS (l:List Grow):(l.map toS).map toR=l:=by rw [List.map_map];exact List.map_id' l
theorem toCD (l:List Z5):(l.map toD).map toC=l:=by rw [List.map_map];exact List.map_id' l
theorem Z4l {α:Type}{xs:List α}{k:Nat}(h:k≤xs.length):Q7q xs (k:Int)=some (xs.take k):=by
 unfold Q7q;rw [if_pos ⟨by omega,by omega⟩];rfl
theorem Z87 {α:Type}{xs:List α}{k:Nat}(h:k≤xs.length):X0j xs (k:Int)=some (xs.drop k):=by
 unfold X0j;rw [if_pos ⟨by omega,by omega⟩];rfl
def zipS (ks:List Q0)(args:List Z5):List (List Q2×Q0):=List.zipWith (fun p c=>Q6f p c.path) ks args
def V5 (w:List Q4)(col:Z5)(b:Z3):List Z5:=if b.ctor = -1 then [] else (V6 w col.t b.ctor).mapIdx fun i t=>⟨col.path++[(i:Int)],t⟩
def Q1q (p:Q0)(args:List Z5):List Q0:=if p.op=1 then args.map fun _=>anyP else p.kids
def Q4r (p:Q0)(b:Z3):Bool:=if p.op=1 then true else if p.op=3 then decide (p.n≤b.n)&&decide (b.m≤p.m) else decide (p.ctor=b.ctor)
def Q7b (r:Grow)(k:Nat)(args:List Z5):Grow:=
 ⟨r.clause,r.pats.take k++(zipS (Q1q (X6 r k) args) args).map (·.2)++r.pats.drop (k+1),r.binds++(zipS (Q1q (X6 r k) args) args).flatMap (·.1)⟩
def Q5i (rows:List Grow)(k:Nat)(b:Z3)(args:List Z5):List Grow:=(rows.filter fun r=>Q4r (X6 r k) b).map fun r=>Q7b r k args
def Q6a (cols:List Z5)(k:Nat)(args:List Z5):List Z5:=cols.take k++args++cols.drop (k+1)
theorem Z80 {ks:List Q0}{args:List Z5}{i:Nat}{p:Q0}{c:Z5}(h1:ks[i]?=some p)(h2:args[i]?=some c):(zipS ks args)[i]?=some (Q6f p c.path):=by
 simp [zipS,List.getElem?_zipWith,h1,h2]
theorem W5t (p:Q0)(path:List Int):(Q6f p path).1.length≤12:=W2l 12 p path
theorem Z4k {l:List (List Q2×Q0)}(h:∀ x∈l,x.1.length≤12):∀ i,((l.take i).flatMap (·.1)).length≤12 * i:=by
 intro i
 induction i with
 | zero=>simp
 | succ i ih=>
  rw [List.take_add_one,List.flatMap_append,U5]
  cases hi:l[i]? with
  | none=>simp only [Option.toList_none,List.flatMap_nil,U4];omega
  | some x=>
   have:=h x (U1 hi)
   simp only [Option.toList_some,List.flatMap_cons,List.flatMap_nil,List.append_nil];omega
theorem X1s {ks:List Q0}{args:List Z5} : ∀ x∈zipS ks args,x.1.length≤12:=fun x hx=>by
 obtain ⟨i,hi⟩:=List.getElem?_of_mem hx
 simp only [zipS,List.getElem?_zipWith] at hi
 split at hi
 ·cases hi;exact W5t _ _
 ·cases hi
structure W2b (r:Grow) (k:Nat) (b:Z3) (args:List Z5):Prop where
 kl:k<r.pats.length
 len:Q4r (X6 r k) b=true→(Q1q (X6 r k) args).length=args.length
 as:∀ x∈Q1q (X6 r k) args,asOk 12 x
 op:(X6 r k).op=1∨(X6 r k).op=3∧args=[]∨(X6 r k).op=4
 al:args.length≤3
 ap:∀ c∈args,c.path.length≤10000
 bl:r.binds.length≤900
 pl:r.pats.length≤9000
theorem X93 {n:Nat}(hn:20≤n){r:Grow}{k:Nat}{b:Z3}{args:List Z5}(h:W2b r k b args) :
  Q4m n r (k:Int) b args=some (if Q4r (X6 r k) b=true then (Q7b r k args,true) else (⟨0,[],[]⟩,false)):=by
 suffices hs:Ret (Q4m n r (k:Int) b args) (fun a=>a=(if Q4r (X6 r k) b=true then (Q7b r k args,true) else (⟨0,[],[]⟩,false))) by
  obtain ⟨a,e,rfl⟩:=hs
  exact e
 unfold Q4m
 rw [Q89 h.kl]
 simp only [U0]
 generalize hp:X6 r k=p
 have hlen:=h.len;have has:=h.as;have hop:=h.op
 rw [hp] at hlen has hop
 refine Ret.ctl (R:=fun v=>v=(⟨0,[],[]⟩,false)∧Q4r p b=false) (B:=fun s=>s=Q1q p args∧Q4r p b=true) ?_ (fun v hv=>.some (by rw [hv.1,if_neg (by rw [hv.2];simp)])) (fun s hs=>?_)
 ·by_cases h1:p.op=1
  ·have e:ieq p.op 1=true:=by simp [ieq,h1]
   simp only [e,if_true]
   refine Ret.ctl (Z4 args (fun i s=>s=(args.take i).map fun _=>anyP) (fun _=>False) (fun s=>s=args.map fun _=>anyP) (by simp) (fun i c s hi hI=>?_) (fun s hI=>by rw [hI,List.take_length])) (fun r hr=>hr.elim) (fun s hs=>.some ?_)
   ·have hlt:i<args.length:=(List.getElem?_eq_some_iff.1 hi).1
    have hal:=h.al
    unfold Q2y
    simp only [U0]
    rw [X4 (by rw [hI];simp [Q5];omega)]
    exact .some (by simp only [Y9];rw [hI,List.take_add_one,hi];simp [anyP])
   ·simp only [Q5l]
    exact ⟨by rw [hs,Q1q,if_pos h1],by simp [Q4r,h1]⟩
  ·have e:ieq p.op 1=false:=by simp [ieq,h1]
   simp only [e,U2,if_false]
   have hk:Q1q p args=p.kids:=by rw [Q1q,if_neg h1]
   by_cases h3:p.op=3
   ·have e3:ieq p.op 3=true:=by simp [ieq,h3]
    have hf:Q4r p b=(decide (p.n≤b.n)&&decide (b.m≤p.m)):=by simp [Q4r,h3]
    simp only [e3,if_true]
    by_cases c1:b.n<p.n
    ·have e4:ilt b.n p.n=true:=by rw [X1];exact c1
     simp only [e4,if_true]
     exact .some ⟨rfl,by rw [hf];simp;omega⟩
    ·have e4:ilt b.n p.n=false:=by rw [V2];omega
     simp only [e4,U2,if_false]
     by_cases c2:p.m<b.m
     ·have e5:ilt p.m b.m=true:=by rw [X1];exact c2
      simp only [e5,if_true]
      exact .some ⟨rfl,by rw [hf];simp;omega⟩
     ·have e5:ilt p.m b.m=false:=by rw [V2];omega
      simp only [e5,U2,if_false]
      exact .some ⟨hk.symm,by rw [hf];simp;omega⟩
   ·have e3:ieq p.op 3=false:=by simp [ieq,h3]
    have hf:Q4r p b=decide (p.ctor=b.ctor):=by simp [Q4r,h1,h3]
    simp only [e3,U2,if_false]
    by_cases c:p.ctor=b.ctor
    ·have e4:(!ieq p.ctor b.ctor)=false:=by simp [ieq,c]
     simp only [e4,U2,if_false]
     exact .some ⟨hk.symm,by rw [hf];simp [c]⟩
    ·have e4:(!ieq p.ctor b.ctor)=true:=by simp [ieq,c]
     simp only [e4,if_true]
     exact .some ⟨rfl,by rw [hf];simp [c]⟩
 ·obtain ⟨rfl,hfit⟩:=hs
  have hl:=hlen hfit
  have hk:=h.kl
  have hpl:=h.pl
  have hbl:=h.bl
  have hal:=h.al
  dsimp only
  rw [Z4l (by omega)]
  simp only [U0]
  rw [Z1k _ (by simp only [U6,Q5];omega)]
  simp only [U0]
  generalize hz:zipS (Q1q p args) args=z
  have hzl:z.length=args.length:=by rw [←hz,zipS,List.length_zipWith,hl,Nat.min_self]
  refine Ret.ctl (Z4 (Q1q p args) (fun i s=>s=(r.clause,r.pats.take k++(z.take i).map (·.2),r.binds++(z.take i).flatMap (·.1))) (fun _=>False) (fun s=>s=(r.clause,r.pats.take k++z.map (·.2),r.binds++z.flatMap (·.1))) (by simp) (fun i x s hi hI=>?_) (fun s hI=>by rw [hI,hl,←hzl,List.take_length])) (fun r hr=>hr.elim) (fun s hs=>?_)
  ·have hlt:i<args.length:=by rw [←hl];exact (List.getElem?_eq_some_iff.1 hi).1
   obtain ⟨c,hc⟩:∃ c,args[i]?=some c:=⟨_,U9 hlt⟩
   have hcp:=h.ap c (U1 hc)
   have hzi:z[i]?=some (Q6f x c.path):=by rw [←hz];exact Z80 hi hc
   have hfl:=Z4k (l:=z) (by rw [←hz];exact X1s) i
   rw [Q16 hc]
   simp only [U0]
   subst hI
   rw [W1x (d:=12) (has x (U1 hi)) (by omega) (by omega) (by simp only [U5];omega) (by simp only [U5,U7,U6];omega) (by omega)]
   simp only [U0]
   exact .some (by simp only [Y9];rw [List.take_add_one,hzi];simp)
  ·subst hs
   dsimp only
   rw [V0 (by omega) (by omega),show ((k:Int)+1)=((k+1:Nat):Int) by simp,Z87 (by omega)]
   simp only [U0]
   rw [X4 (by simp only [U5,U7,U6,List.length_drop,Q5];omega)]
   simp only [U0]
   refine .some ?_
   rw [if_pos hfit,Q7b,hp,hz]
theorem X8i (p:Q0)(b:Z3):Q7e p b=some (Q4r p b):=by
 unfold Q7e Q4r
 by_cases h1:p.op=1
 ·simp [ieq,h1]
 by_cases h3:p.op=3
 ·by_cases c:p.n≤b.n
  ·simp [ieq,h3,ile,c]
  ·simp [ieq,h3,ile,c]
 ·simp [ieq,h1,h3]
theorem X8s {path:List Int}{i:Int}(h:path.length≤10000):Q50 path i=some (path++[i]):=by
 unfold Q50
 rw [X4 (by simp [Q5];omega),X4 (by simp [Q5];omega)]
 rfl
theorem Q7p {w:List Q4}{col:Z5}{b:Z3} : (V5 w col b).length=if b.ctor = -1 then 0 else (V6 w col.t b.ctor).length:=by
 unfold V5
 split<;>simp
theorem Z5n {w:List Q4}{col:Z5}{b:Z3}(h:b.ctor≠-1){i:Nat}{t:Q6}(hi:(V6 w col.t b.ctor)[i]?=some t):(V5 w col b)[i]?=some ⟨col.path++[(i:Int)],t⟩:=by
 unfold V5
 rw [if_neg h,List.getElem?_mapIdx,hi];rfl
theorem Z4o {w:List Q4}{cols:List Z5}{k:Nat}{col:Z5}{b:Z3}(hT:WT w col.t)(hk:cols[k]?=some col)(hb:b.ctor≠-1→b.ctor∈X5 w col.t)(hcl:cols.length≤9000)(hp:col.path.length≤10000) :
  Q33 w (cols.map toD) (k:Int) b=some ((Q6a cols k (V5 w col b)).map toD):=by
 suffices hs:Ret (Q33 w (cols.map toD) (k:Int) b) (fun a=>a=(Q6a cols k (V5 w col b)).map toD) by
  obtain ⟨a,e,rfl⟩:=hs
  exact e
 have hlt:k<cols.length:=(List.getElem?_eq_some_iff.1 hk).1
 unfold Q33
 rw [Z4l (by rw [U7];omega)]
 simp only [U0]
 rw [X4 (by simp only [U6,U7,U4,Q5];omega)]
 simp only [U0]
 refine Ret.ctl (R:=fun _=>False) (B:=fun s=>s=(cols.map toD).take k++(V5 w col b).map toD) ?_ (fun r h=>h.elim) (fun s hs=>?_)
 ·by_cases hc:b.ctor = -1
  ·have e:(!ieq b.ctor (-1))=false:=by simp [ieq,hc]
   simp only [e,U2,if_false]
   exact .some (by simp [V5,hc])
  ·have e:(!ieq b.ctor (-1))=true:=by simp [ieq,hc]
   simp only [e,if_true]
   have hk2:(cols.map toD)[k]?=some (toD col):=by simp [hk]
   have hal:=hT.al _ (hb hc)
   rw [Q16 hk2]
   simp only [U0]
   rw [show (toD col).kind=col.t from rfl,hT.a1 _ (hb hc)]
   simp only [U0]
   refine Ret.ctl (Z4 (V6 w col.t b.ctor) (fun i s=>s=(cols.map toD).take k++((V5 w col b).take i).map toD) (fun _=>False) (fun s=>s=(cols.map toD).take k++(V5 w col b).map toD) (by simp) (fun i t s hi hI=>?_) (fun s hI=>?_)) (fun r hr=>hr.elim) (fun s hs=>.some hs)
   ·have hil:i<(V6 w col.t b.ctor).length:=(List.getElem?_eq_some_iff.1 hi).1
    rw [X8s (path:=(toD col).path) hp]
    simp only [U0]
    rw [X4 (by rw [hI];simp only [U5,U7,U6,U3,U4,Q5];omega)]
    exact .some (by simp only [Y9];rw [hI,List.take_add_one,Z5n hc hi];simp [toD])
   ·rw [hI,show (V6 w col.t b.ctor).length=(V5 w col b).length by rw [Q7p,if_neg hc],List.take_length]
 ·subst hs
  dsimp only
  have hal:(V5 w col b).length≤3:=by
   rw [Q7p]
   split
   ·omega
   ·rename_i hc;exact hT.al _ (hb hc)
  rw [V0 (by omega) (by omega),show ((k:Int)+1)=((k+1:Nat):Int) by simp,Z87 (by rw [U7];omega)]
  simp only [U0]
  rw [X4 (by simp only [U5,U7,U6,List.length_drop,Q5];omega)]
  simp only [U0]
  exact .some (by simp [Q6a,List.map_take,List.map_drop])
theorem X8h {w:List Q4}{n:Nat}(hn:100≤n){cols:List Z5}{rows:List Grow}{k:Nat}{col:Z5}{b:Z3}(hT:WT w col.t)(hk:cols[k]?=some col)(hb:b.ctor≠-1→b.ctor∈X5 w col.t)(hcl:cols.length≤9000)(hp:col.path.length≤9000)
  (hrl:rows.length≤100000) (hr:∀ r∈rows,W2b r k b (V5 w col b)∧r.pats.length=cols.length) :
  Q62 n w (cols.map toD) (rows.map toS) (k:Int) b=some ((Q5i rows k b (V5 w col b)).map toS):=by
 suffices hs:Ret (Q62 n w (cols.map toD) (rows.map toS) (k:Int) b) (fun a=>a=(Q5i rows k b (V5 w col b)).map toS) by
  obtain ⟨a,e,rfl⟩:=hs
  exact e
 have hlt:k<cols.length:=(List.getElem?_eq_some_iff.1 hk).1
 unfold Q62
 rw [Z4o hT hk hb hcl (by omega)]
 simp only [U0]
 generalize hargs:V5 w col b=args at *
 have hCL:(Q6a cols k args).length=cols.length-1+args.length:=by
  simp only [Q6a,U5,U6,List.length_drop];omega
 refine Ret.ctl (Z4 (rows.map toS) (fun i s=>s=(Q5i (rows.take i) k b args).map toS) (fun _=>False) (fun s=>s=(Q5i rows k b args).map toS) (by simp [Q5i]) (fun i r' s hi hI=>?_) (fun s hI=>by rw [hI,U7,List.take_length])) (fun r hr=>hr.elim) (fun s hs=>.some hs)
 rw [List.getElem?_map,U11] at hi
 obtain ⟨r,hi,rfl⟩:=hi
 obtain ⟨h,hrp⟩:=hr r (U1 hi)
 have hil:i<rows.length:=(List.getElem?_eq_some_iff.1 hi).1
 have hkp:=h.kl
 have hpl:=h.pl
 have hbl:=h.bl
 have hal:=h.al
 have hstep:Q5i (rows.take (i+1)) k b args=Q5i (rows.take i) k b args++(if Q4r (X6 r k) b=true then [Q7b r k args] else []):=by
  unfold Q5i
  rw [List.take_add_one,hi]
  simp only [Option.toList_some,List.filter_append,List.map_append]
  by_cases hf:Q4r (X6 r k) b=true<;>simp [hf]
 have hsl:s.length≤100000:=by
  rw [hI,U7,Q5i,U7]
  have:=List.length_filter_le (fun r=>Q4r (X6 r k) b) (rows.take i)
  rw [U6] at this
  omega
 rw [show idx (toS r).pats (k:Int)=some (X6 r k) from Q89 h.kl]
 simp only [U0]
 rw [X8i]
 simp only [U0]
 cases hfit:Q4r (X6 r k) b with
 | false=>
  simp only [Bool.not_false,if_true,U0]
  exact .some (by simp only [Y9];rw [hstep,hfit,hI];simp)
 | true=>
  simp only [Bool.not_true,U2,if_false]
  have hl:=h.len hfit
  rw [show Q7q (toS r).pats (k:Int)=some (r.pats.take k) from Z4l (by simp only [toS];omega)]
  simp only [U0]
  rw [X4 (by simp only [U6,U4,Q5];omega)]
  simp only [U0]
  generalize hz:zipS (Q1q (X6 r k) args) args=z
  have hzl:z.length=args.length:=by rw [←hz,zipS,List.length_zipWith,hl,Nat.min_self]
  refine Ret.ctl (R:=fun _=>False) (B:=fun s'=>s'=(Q5i (rows.take (i+1)) k b args).map toS) ?_ (fun r h=>h.elim) (fun s hs=>.some hs)
  refine Ret.ctl (Q1r (fun s=>∃ j:Nat,j≤args.length∧s=(r.clause,r.pats.take k++(z.take j).map (·.2),r.binds++(z.take j).flatMap (·.1),((k+j:Nat):Int))) (fun s=>k+args.length-s.2.2.2.toNat) (fun _=>False) (fun s=>s=(r.clause,r.pats.take k++z.map (·.2),r.binds++z.flatMap (·.1),((k+args.length:Nat):Int))) ⟨0,by omega,by simp [toS]⟩ (fun s hI=>?_) n (by simp only;omega)) (fun r h=>h.elim) (fun s hs=>?_)
  ·obtain ⟨j,hj,rfl⟩:=hI
   have hlim:wsub .i64 (lenZ ((Q6a cols k args).map toD).length) (wsub .i64 (wsub .i64 (lenZ (cols.map toD).length) (k:Int)) 1)=((k+args.length:Nat):Int):=by
    rw [Y0,Y0,U7,U7,hCL]
    rw [Q2k (a:=(cols.length:Int)) (by omega) (by omega),Q2k (a:=(cols.length:Int)-k) (by omega) (by omega),Q2k (by omega) (by omega)]
    omega
   dsimp only
   rw [hlim]
   by_cases hjl:j<args.length
   ·have e:ilt ((k+j:Nat):Int) ((k+args.length:Nat):Int)=true:=by rw [X1];omega
    simp only [e,if_true]
    obtain ⟨x,hx⟩:∃ x,(Q1q (X6 r k) args)[j]?=some x:=⟨_,U9 (by omega)⟩
    obtain ⟨c,hc⟩:∃ c,args[j]?=some c:=⟨_,U9 hjl⟩
    have hcp:=h.ap c (U1 hc)
    have hzi:z[j]?=some (Q6f x c.path):=by rw [←hz];exact Z80 hx hc
    have hfl:=Z4k (l:=z) (by rw [←hz];exact X1s) j
    unfold Q2o
    simp only [U0]
    refine Ret.ctl (R:=fun _=>False) (B:=fun y=>y=x) ?_ (fun r h=>h.elim) (fun y hy=>?_)
    ·by_cases h4:(X6 r k).op=4
     ·have e4:ieq (X6 r k).op 4=true:=by simp [ieq,h4]
      simp only [e4,if_true]
      rw [Q2k (by omega) (by omega),show ((k+j:Nat):Int)-(k:Int)=(j:Int) by omega]
      rw [Q1q,if_neg (by rw [h4];decide)] at hx
      rw [Q16 hx]
      exact .some rfl
     ·have e4:ieq (X6 r k).op 4=false:=by simp [ieq,h4]
      simp only [e4,U2,if_false]
      rcases h.op with h1 | ⟨h3,h0⟩ | h4'
      ·rw [Q1q,if_pos h1,List.getElem?_map,hc] at hx
       cases hx
       exact .some rfl
      ·rw [h0] at hjl;simp at hjl
      ·exact absurd h4' h4
    ·subst hy
     dsimp only
     have hidx:((Q6a cols k args).map toD)[k+j]?=some (toD c):=by
      have hj2:j<args.length:=hjl
      rw [List.getElem?_map]
      have:(Q6a cols k args)[k+j]?=some c:=by
       unfold Q6a
       rw [List.append_assoc,List.getElem?_append_right (by rw [U6];omega),U6,show k+j-min k cols.length=j by omega,List.getElem?_append_left hj2,hc]
      rw [this];rfl
     rw [Q16 hidx]
     simp only [U0]
     rw [V4s,X5i (d:=12) (h.as y (U1 hx)) (by omega) (by omega) (by simp only [U5];omega) (by simp only [toD];omega)]
     simp only [U0]
     rw [X4 (by simp only [U5,U7,U6,U3,U4,Q5];omega),V0 (by omega) (by omega)]
     refine .some ⟨⟨j+1,by omega,?_⟩,by simp only;omega⟩
     rw [List.take_add_one,hzi]
     simp [toD]
     omega
   ·have e:ilt ((k+j:Nat):Int) ((k+args.length:Nat):Int)=false:=by rw [V2];omega
    simp only [e,U2,if_false]
    have hje:j=args.length:=by omega
    exact .some (by simp only [Q8p];rw [hje,←hzl,List.take_length])
  ·subst hs
   dsimp only
   rw [V0 (by omega) (by omega),show ((k:Int)+1)=((k+1:Nat):Int) by simp,show X0j (toS r).pats ((k+1:Nat):Int)=some (r.pats.drop (k+1)) from Z87 (by simp only [toS];omega)]
   simp only [U0]
   rw [X4 (by simp only [U5,U7,U6,List.length_drop,Q5];omega)]
   simp only [U0]
   rw [X4 (by simp only [U3,U4,Q5];omega)]
   refine .some ?_
   simp only [Q5l]
   rw [hstep,hfit,if_pos rfl,hI,Q7b,hz]
   simp [toS]
def rng (n m:Int):Q0:=if (ieq n 0&&ieq m 9)=true then anyP else Q0.mk 3 0 n m 0 []
theorem X7s (d:Nat)(u:Q1):Z6 (d+1) anyP u=some []:=by simp [Z6,anyP]
theorem X0z {w:List Q4}{t:Q6}{p:Q0}(h:Q73 w t p=true)(h1:p.op=1):p=anyP:=by
 obtain ⟨ho,hl⟩:=Q0i h
 simp [Z3x,h1] at ho
 simp [Y1,h1] at hl
 exact Q0.ext' h1 ho.2 ho.1.2.1 ho.1.2.2 ho.1.1 hl
theorem Z2z {d:Nat} : ∀ {ps:List Q0} {vs:List Q1},(∀ q∈ps,q=anyP)→ps.length=vs.length→V7 (Z6 (d+1)) ps vs=some []
 | [],_,_,_=>rfl
 | q::ps,[],_,h=>by simp at h
 | q::ps,v::vs,hq,h=>by
  simp only [V7]
  rw [hq q (by simp),X7s,Z2z (fun x hx=>hq x (by simp [hx])) (by simpa using h)]
  rfl
def Z1t:Nat→Q1→Prop
 | 0,_=>False
 | d+1,v=>v.kids.length≤3∧∀ x∈v.kids,Z1t d x
theorem Z0f {w:List Q4}(hw:WW w):∀ (d:Nat) (t:Q6) (v:Q1),t∈tys w→Q30 w d t v→Z1t d v:=by
 intro d
 induction d with
 | zero=>intro t v _ h;exact h
 | succ d ih=>
  intro t v ht h
  have hT:=hw.ty t ht
  simp only [Q30] at h
  split at h
  ·obtain ⟨_,_,_,h4⟩:=h
   exact ⟨by rw [h4];simp,fun x hx=>by rw [h4] at hx;cases hx⟩
  ·obtain ⟨_,h2,h3,h4⟩:=h
   have hal:=hT.al _ h2
   refine ⟨by omega,fun x hx=>?_⟩
   obtain ⟨j,hj⟩:=List.mem_iff_getElem?.1 hx
   have hjl:=(List.getElem?_eq_some_iff.1 hj).1
   have ha:(V6 w t v.ctor)[j]?=some ((V6 w t v.ctor)[j]'(by omega)):=by simp
   exact ih _ x (hT.at_ _ h2 _ (U1 ha)) (h4 j _ x ha hj)
theorem Q1.ext' {a b:Q1}(h1:a.ctor=b.ctor)(h2:a.n=b.n)(h3:a.kids=b.kids):a=b:=by
 cases a;cases b;simp_all
theorem Z95:∀ (d n:Nat) (v:Q1),Z1t d v→d≤n→Q29 n v=some v:=by
 intro d
 induction d with
 | zero=>intro n v h;exact h.elim
 | succ d ih=>
  intro n v h hn
  obtain ⟨n,rfl⟩:∃ k,n=k+1:=⟨n-1,by omega⟩
  obtain ⟨h1,h2⟩:=h
  have hr:Ret (Q29 (n+1) v) (fun r=>r=v):=by
   unfold Q29
   refine Ret.ctl (Z4 v.kids (fun k s=>s=v.kids.take k) (fun _=>False) (fun s=>s=v.kids) (by simp) (fun k q s hq hI=>?_) (fun s hI=>?_)) (fun r hr=>hr.elim) (fun s hs=>.some (Q1.ext' rfl rfl hs))
   ·rw [ih n q (h2 q (U1 hq)) (by omega)]
    simp only [U0]
    rw [X4 (by simp only [Q5,U3,U4];rw [hI,U6];omega)]
    exact .some (by rw [hI,List.take_add_one,hq];rfl)
   ·rw [hI,List.take_length]
  obtain ⟨r,e,rfl⟩:=hr
  exact e
theorem X8m {α:Type}{xs:List α}{i:Int}{x:α}(h0:0≤i)(h:i<xs.length):setI xs i x=some (xs.set i.toNat x):=by
 unfold setI
 rw [if_pos ⟨h0,by omega⟩]
theorem Y0e:(List.range 13).all (fun k=>(Q7l (wcv .u64 (lenZ k))).isSome)=true:=by kernel_rfl
theorem V2s:∀ (d e:Nat) (v:Q1),d≤e→Z1t d v→Z1t e v:=by
 intro d
 induction d with
 | zero=>intro e v _ h;exact h.elim
 | succ d ih=>
  intro e v he h
  obtain ⟨e,rfl⟩:∃ k,e=k+1:=⟨e-1,by omega⟩
  exact ⟨h.1,fun x hx=>ih e x (by omega) (h.2 x hx)⟩
theorem Z3z:∀ (m:Nat) (l:List Int),l.Nodup→(∀ x∈l,0≤x∧x<m)→l.length≤m:=by
 intro m
 induction m with
 | zero=>
  intro l _ h
  cases l with
  | nil=>simp
  | cons x l=>have:=h x (by simp);omega
 | succ m ih=>
  intro l hn h
  have h1:=ih (l.erase (m:Int)) (hn.erase _) (fun x hx=>by
   have hx2:=(hn.mem_erase_iff).1 hx
   have:=h x hx2.2
   have:=hx2.1
   omega)
  have h2:=List.length_erase (a:=(m:Int)) (l:=l)
  split at h2<;>omega
def Z0v (l:List Q2):List Q2:=(List.range 6).flatMap fun (v:Nat)=>l.filter fun b=>decide (b.var=(v:Int))
theorem W2p:∀ (a b:List Q2),a.Pairwise (fun x y=>x.var<y.var)→b.Pairwise (fun x y=>x.var<y.var)→a.Perm b→a=b:=by
 intro a
 induction a with
 | nil=>intro b _ _ h;exact h.nil_eq
 | cons x a ih=>
  intro b ha hb h
  cases b with
  | nil=>exact absurd h.symm.nil_eq (by simp)
  | cons y b=>
   rw [List.pairwise_cons] at ha hb
   have hx:x∈y::b:=h.mem_iff.1 (by simp)
   have hy:y∈x::a:=h.mem_iff.2 (by simp)
   have hxy:x=y:=by
    rcases U8.1 hx with rfl | hx
    ·rfl
    ·rcases U8.1 hy with h1 | hy
     ·exact h1.symm
     ·have h1:=hb.1 x hx
      have h2:=ha.1 y hy
      omega
   subst hxy
   rw [ih b ha.2 hb.2 ((List.perm_cons x).1 h)]
theorem X5v {l:List Q2}(h:l.Pairwise (fun x y=>x.var≤y.var))(hn:(l.map (·.var)).Nodup):l.Pairwise (fun x y=>x.var<y.var):=by
 rw [List.Nodup,List.pairwise_map] at hn
 refine (h.and hn).imp fun ⟨h1,h2⟩=>?_
 omega
theorem Q9q {l:List Q2}(hn:(l.map (·.var)).Nodup):(Z0v l).Pairwise (fun x y=>x.var<y.var):=by
 unfold Z0v
 rw [List.pairwise_flatMap]
 refine ⟨fun v _=>?_,?_⟩
 ·have h1:(l.filter fun b=>decide (b.var=(v:Int))).Pairwise (fun x y=>x.var≤y.var):=by
   rw [List.pairwise_filter]
   refine List.pairwise_of_forall fun x y hx hy=>?_
   simp only [decide_eq_true_eq] at hx hy
   omega
  exact X5v h1 ((List.filter_sublist.map _).nodup hn)
 ·refine List.Pairwise.imp ?_ (List.pairwise_lt_range (n:=6))
  intro a b hab x hx y hy
  have h1:=(List.mem_filter.1 hx).2
  have h2:=(List.mem_filter.1 hy).2
  simp only [decide_eq_true_eq] at h1 h2
  omega
theorem X06 {α β:Type}(f g h:α→List β)(e:∀ v,f v=g v++h v):∀ L:List α,(L.flatMap f).Perm (L.flatMap g++L.flatMap h)
 | []=>by simp
 | v::L=>by
  rw [List.flatMap_cons,List.flatMap_cons,List.flatMap_cons,e v,List.append_assoc,List.append_assoc]
  refine List.Perm.append_left _ ?_
  refine ((X06 f g h e L).append_left (h v)).trans ?_
  rw [←List.append_assoc,←List.append_assoc]
  exact List.Perm.append_right _ List.perm_append_comm
theorem Q5z {l:List Q2}(hv:∀ b∈l,0≤b.var∧b.var≤5):(Z0v l).Perm l:=by
 induction l with
 | nil=>simp [Z0v]
 | cons x l ih=>
  have h1:=ih fun b hb=>hv b (by simp [hb])
  obtain ⟨x0,x5⟩:=hv x (by simp)
  have h2:=X06 (fun (v:Nat)=>(x::l).filter fun b=>decide (b.var=(v:Int))) (fun (v:Nat)=>if x.var=(v:Int) then [x] else []) (fun (v:Nat)=>l.filter fun b=>decide (b.var=(v:Int))) (fun v=>by
   by_cases hc:x.var=(v:Int)
   ·rw [List.filter_cons,if_pos (by simp [hc]),if_pos hc];rfl
   ·rw [List.filter_cons,if_neg (by simp [hc]),if_neg hc];rfl) (List.range 6)
  have hx:((List.range 6).flatMap fun (v:Nat)=>if x.var=(v:Int) then [x] else [])=[x]:=by
   have h6:x.var=0∨x.var=1∨x.var=2∨x.var=3∨x.var=4∨x.var=5:=by omega
   rcases h6 with h | h | h | h | h | h<;>simp [h,List.range,List.range.loop]
  rw [hx] at h2
  exact h2.trans (List.Perm.cons _ h1)
theorem W4g (a b:Int):Q2z a b=some (if a<b then -1 else if b<a then 1 else 0):=by
 unfold Q2z Q5w
 have e1:(!ieq a a)=false:=by simp [ieq]
 have e2:(!ieq b b)=false:=by simp [ieq]
 simp only [U0,e1,e2,U2,if_false]
 by_cases h:a<b
 ·have e:ilt a b=true:=by rw [X1];exact h
  simp only [e,if_true,if_pos h]
 ·have e:ilt a b=false:=by rw [V2];omega
  simp only [e,U2,if_false,if_neg h]
  by_cases h2:b<a
  ·have e:ilt b a=true:=by rw [X1];exact h2
   simp only [e,if_true,if_pos h2]
  ·have e:ilt b a=false:=by rw [V2];omega
   simp only [e,U2,if_false,if_neg h2]
theorem V14 (a b:Q2):Q02 a b=some (if a.var<b.var then -1 else if b.var<a.var then 1 else 0):=by
 unfold Q02
 rw [W4g]
 rfl
def OrdB (l:List Q2)(i j:Nat):Prop:=∀ a b x y,a<b→b≤i→b≠j→l[a]?=some x→l[b]?=some y→x.var≤y.var
theorem W34 {n:Nat}(hn:30≤n)(l:List Q2)(hl:l.length≤12) :
  Ret (Y2 n l 0 (lenZ l.length) (fun a b=>Q02 a b)) (fun r=>r.Perm l∧r.Pairwise (fun x y=>x.var≤y.var)):=by
 unfold Y2
 have z1:wadd .i64 0 1=1:=rfl
 rw [z1]
 refine Ret.ctl (Q1r (fun s:List Q2×Int=>s.1.Perm l∧1≤s.2∧s.2≤13∧∀ a b x y,a<b→b<s.2.toNat→s.1[a]?=some x→s.1[b]?=some y→x.var≤y.var) (fun s=>(14-s.2).toNat) (fun _=>False) (fun s=>s.1.Perm l∧s.1.Pairwise (fun x y=>x.var≤y.var)) ⟨.rfl,by simp,by simp,fun a b x y h1 h2=>by simp at h2;omega⟩ (fun s hI=>?_) n (by simp;omega)) (fun r hr=>hr.elim) (fun s hs=>.some hs)
 obtain ⟨i1,i3,i4,i5⟩:=hI
 refine Ret.ite (fun hlt=>?_) (fun hge=>?_)
 ·rw [X1] at hlt
  simp only [lenZ] at hlt
  refine Ret.ctl (Q1r (fun u:List Q2×Int=>u.1.Perm l∧0≤u.2∧u.2≤s.2∧OrdB u.1 s.2.toNat u.2.toNat) (fun u=>u.2.toNat) (fun _=>False) (fun u=>u.1.Perm l∧∀ a b x y,a<b→b≤s.2.toNat→u.1[a]?=some x→u.1[b]?=some y→x.var≤y.var) ⟨i1,by omega,Int.le_refl _,fun a b x y h1 h2 h3=>i5 a b x y h1 (by omega)⟩ (fun u hJ=>?_) n (by omega)) (fun r hr=>hr.elim) (fun u hu=>?_)
  ·obtain ⟨j1,j3,j4,j5⟩:=hJ
   have hlen:=j1.length_eq
   refine Ret.ite (fun hp=>?_) (fun hp=>?_)
   ·rw [X1] at hp
    have hs:wsub .i64 u.2 1=u.2-1:=Q2k (by omega) (by omega)
    rw [hs]
    have ex:idx u.1 u.2=some (u.1[u.2.toNat]'(by omega)):=Z67 j3 (U9 (by omega))
    have ey:idx u.1 (u.2-1)=some (u.1[(u.2-1).toNat]'(by omega)):=Z67 (by omega) (U9 (by omega))
    have gx:u.1[u.2.toNat]?=some (u.1[u.2.toNat]'(by omega)):=U9 (by omega)
    have gy:u.1[u.2.toNat-1]?=some (u.1[(u.2-1).toNat]'(by omega)):=by
     rw [show u.2.toNat-1=(u.2-1).toNat by omega]
     exact U9 (by omega)
    have hperm:=(List.set_set_perm (as:=u.1) (i:=u.2.toNat) (j:=(u.2-1).toNat) (by omega) (by omega)).trans j1
    generalize u.1[u.2.toNat]'(by omega)=x at *
    generalize u.1[(u.2-1).toNat]'(by omega)=y at *
    rw [ex,ey]
    simp only [U0]
    rw [V14]
    simp only [U0]
    by_cases hxy:x.var<y.var
    ·rw [if_pos hxy]
     have e:ilt (-1) 0=true:=rfl
     simp only [e,if_true]
     rw [X8m j3 (by omega)]
     simp only [U0]
     obtain ⟨z,ez,_⟩:=Q5a (xs:=u.1.set u.2.toNat y) (i:=u.2-1) (by omega) (by simp;omega)
     rw [ez]
     simp only [U0]
     rw [X8m (by omega) (by simp;omega)]
     refine .some ⟨⟨hperm,by simp;omega,by simp;omega,?_⟩,by simp;omega⟩
     simp only
     have hget:∀ (m:Nat) (v:Q2),((u.1.set u.2.toNat y).set (u.2-1).toNat x)[m]?=some v→(m=u.2.toNat-1∧v=x)∨(m=u.2.toNat∧v=y)∨(m≠u.2.toNat-1∧m≠u.2.toNat∧u.1[m]?=some v):=fun m v hv=>by
      rw [List.getElem?_set] at hv
      split at hv
      ·split at hv
       ·cases hv;exact .inl ⟨by omega,rfl⟩
       ·cases hv
      ·rw [List.getElem?_set] at hv
       split at hv
       ·split at hv
        ·cases hv;exact .inr (.inl ⟨by omega,rfl⟩)
        ·cases hv
       ·exact .inr (.inr ⟨by omega,by omega,hv⟩)
     intro a b p q hab hbi hbj hp' hq'
     rcases hget a p hp' with ⟨ha,rfl⟩ | ⟨ha,rfl⟩ | ⟨ha,ha',hpa⟩
     ·rcases hget b q hq' with ⟨hb,rfl⟩ | ⟨hb,rfl⟩ | ⟨hb,hb',hqb⟩
      ·omega
      ·omega
      ·exact j5 u.2.toNat b _ _ (by omega) hbi hb' gx hqb
     ·rcases hget b q hq' with ⟨hb,rfl⟩ | ⟨hb,rfl⟩ | ⟨hb,hb',hqb⟩
      ·omega
      ·omega
      ·exact j5 (u.2.toNat-1) b _ _ (by omega) hbi hb' gy hqb
     ·rcases hget b q hq' with ⟨hb,rfl⟩ | ⟨hb,rfl⟩ | ⟨hb,hb',hqb⟩
      ·exact absurd hb (by omega)
      ·exact j5 a (u.2.toNat-1) _ _ (by omega) (by omega) (by omega) hpa gy
      ·exact j5 a b _ _ hab hbi hb' hpa hqb
    ·rw [if_neg hxy]
     have e:ilt (if y.var<x.var then 1 else 0) 0=false:=by split<;>rfl
     simp only [e,U2,if_false]
     refine .some ⟨j1,fun a b p q hab hbi hp' hq'=>?_⟩
     by_cases hbj:b=u.2.toNat
     ·subst hbj
      rw [gx] at hq'
      cases hq'
      by_cases haj:a=u.2.toNat-1
      ·subst haj
       rw [gy] at hp'
       cases hp'
       omega
      ·have:=j5 a (u.2.toNat-1) p y (by omega) (by omega) (by omega) hp' gy
       omega
     ·exact j5 a b p q hab hbi hbj hp' hq'
   ·rw [V2] at hp
    refine .some ⟨j1,fun a b p q hab hbi hp' hq'=>j5 a b p q hab hbi (by omega) hp' hq'⟩
  ·obtain ⟨u1,u2⟩:=hu
   have hw:wadd .i64 s.2 1=s.2+1:=V0 (by omega) (by omega)
   refine .some ⟨⟨u1,by simp only [hw];omega,by simp only [hw];omega,fun a b x y h1 h2=>u2 a b x y h1 (by simp only [hw] at h2;omega)⟩,by simp only [hw];omega⟩
 ·rw [V2] at hge
  simp only [lenZ] at hge
  refine .some ⟨i1,?_⟩
  rw [List.pairwise_iff_getElem]
  intro a b ha hb hab
  have hlen:=i1.length_eq
  have hb':b<s.1.length:=hb
  exact i5 a b _ _ hab (by omega) (U9 ha) (U9 hb)
theorem W0p {n:Nat}(hn:40≤n){l:List Q2}(hl:l.length≤12)(hd:(l.map (·.var)).Nodup)(hv:∀ b∈l,0≤b.var∧b.var≤5) :
  Y6 n l (fun a b=>Q02 a b)=some (Z0v l):=by
 suffices hs:Ret (Y6 n l (fun a b=>Q02 a b)) (fun r=>r=Z0v l) by
  obtain ⟨a,e,rfl⟩:=hs
  exact e
 unfold Y6
 obtain ⟨b,hb⟩:=Option.isSome_iff_exists.1 (List.all_eq_true.1 Y0e l.length (List.mem_range.2 (by omega)))
 rw [hb]
 simp only [U0]
 have fin:∀ r:List Q2,r.Perm l→r.Pairwise (fun x y=>x.var≤y.var)→r=Z0v l:=fun r h1 h2=>
  W2p r (Z0v l) (X5v h2 ((h1.map _).nodup_iff.2 hd)) (Q9q hd) (h1.trans (Q5z hv).symm)
 obtain ⟨n,rfl⟩:∃ k,n=k+1:=⟨n-1,by omega⟩
 refine Ret.bind (P:=fun r=>r.Perm l∧r.Pairwise (fun x y=>x.var≤y.var)) ?_ (fun r hr=>?_)
 ·unfold Q0r
  refine Ret.ctl (Q1r (fun _=>True) (fun _=>0) (fun r:List Q2=>r.Perm l∧r.Pairwise (fun x y=>x.var≤y.var)) (fun _=>False) trivial (fun s _=>?_) n (by omega)) (fun r hr=>.some hr) (fun s hs=>hs.elim)
  have h0:wsub .i64 (lenZ l.length) 0=lenZ l.length:=by rw [Q2k]<;>simp only [lenZ]<;>omega
  rw [if_pos (by rw [Q03,h0];simp only [lenZ];omega)]
  refine Ret.bind (W34 (by omega) l hl) (fun r hr=>?_)
  rw [X0q (by simp [hr.1.length_eq])]
  exact .some hr
 ·rw [X0q (by simp [hr.1.length_eq])]
  exact .some (fin r hr.1 hr.2)
theorem Z70 {n:Nat}(hn:40≤n){l:List Q2}(hl:l.length≤1000)(hp:∀ b∈l,b.path.length≤100000):Q2n n l=some (Z0v l):=by
 suffices hs:Ret (Q2n n l) (fun r=>r=Z0v l) by
  obtain ⟨a,e,rfl⟩:=hs
  exact e
 unfold Q2n
 have hfl:∀ k:Nat,((List.range k).flatMap fun (v:Nat)=>l.filter fun b=>decide (b.var=(v:Int))).length≤k * 1000:=by
  intro k
  induction k with
  | zero=>simp
  | succ k ih=>
   rw [List.range_succ,List.flatMap_append,U5]
   have:=List.length_filter_le (fun b:Q2=>decide (b.var=(k:Int))) l
   simp only [List.flatMap_cons,List.flatMap_nil,List.append_nil]
   omega
 refine Ret.ctl (Q1r (fun s:List Q2×Int=>∃ k:Nat,k≤6∧s=((List.range k).flatMap (fun (v:Nat)=>l.filter fun b=>decide (b.var=(v:Int))),(k:Int))) (fun s=>(6-s.2).toNat) (fun _=>False) (fun s=>s.1=Z0v l) ⟨0,by omega,rfl⟩ (fun s hI=>?_) n (by simp;omega)) (fun r hr=>hr.elim) (fun s hs=>.some hs)
 obtain ⟨k,hk,rfl⟩:=hI
 dsimp only
 by_cases h5:k≤5
 ·have e:ile (k:Int) 5=true:=by rw [Q03];omega
  simp only [e,if_true]
  have hk1:=hfl k
  refine Ret.ctl (Z4 l (fun i s=>s=(List.range k).flatMap (fun (v:Nat)=>l.filter fun b=>decide (b.var=(v:Int)))++(l.take i).filter fun b=>decide (b.var=(k:Int))) (fun _=>False) (fun s=>s=(List.range (k+1)).flatMap (fun (v:Nat)=>l.filter fun b=>decide (b.var=(v:Int)))) (by simp) (fun i x s hi hI=>?_) (fun s hI=>?_)) (fun r hr=>hr.elim) (fun s hs=>?_)
  ·have hil:i<l.length:=(List.getElem?_eq_some_iff.1 hi).1
   have hf:=List.length_filter_le (fun b:Q2=>decide (b.var=(k:Int))) (l.take i)
   rw [U6] at hf
   have hxp:=hp x (U1 hi)
   by_cases hc:x.var=(k:Int)
   ·have e:ieq x.var (k:Int)=true:=by simp [ieq,hc]
    simp only [e,if_true]
    rw [X4 (by simp [Q5];omega)]
    simp only [U0]
    rw [X4 (by rw [hI];simp only [U5,U3,U4,Q5];omega)]
    refine .some ?_
    simp only [Y9]
    rw [hI,List.take_add_one,hi]
    simp only [Option.toList_some,List.filter_append,List.append_assoc]
    rw [←hc]
    simp
   ·have e:ieq x.var (k:Int)=false:=by simp [ieq,hc]
    simp only [e,U2,if_false]
    refine .some ?_
    simp only [Y9]
    rw [hI,List.take_add_one,hi]
    simp [hc]
  ·rw [hI,List.take_length,List.range_succ,List.flatMap_append]
   simp
  ·subst hs
   dsimp only
   rw [V0 (by omega) (by omega)]
   exact .some ⟨⟨k+1,by omega,by simp⟩,by simp only;omega⟩
 ·have e:ile (k:Int) 5=false:=by rw [Q6n];omega
  simp only [e,U2,if_false]
  exact .some (by simp only [Q8p];rw [show k=6 by omega];rfl)
def Q3l (rows:List Grow)(c:Int):List Grow:=rows.filter fun r=>!decide (r.clause=c)
theorem X5o {rows:List Grow}{c:Int}(hrl:rows.length≤100000):Q41 (rows.map toS) c=some ((Q3l rows c).map toS):=by
 suffices hs:Ret (Q41 (rows.map toS) c) (fun r=>r=(Q3l rows c).map toS) by
  obtain ⟨a,e,rfl⟩:=hs
  exact e
 unfold Q41
 refine Ret.ctl (Z4 (rows.map toS) (fun i s=>s=(Q3l (rows.take i) c).map toS) (fun _=>False) (fun s=>s=(Q3l rows c).map toS) (by simp [Q3l]) (fun i r' s hi hI=>?_) (fun s hI=>by rw [hI,U7,List.take_length])) (fun r hr=>hr.elim) (fun s hs=>.some hs)
 rw [List.getElem?_map,U11] at hi
 obtain ⟨r,hi,rfl⟩:=hi
 have hil:i<rows.length:=(List.getElem?_eq_some_iff.1 hi).1
 have hf:=List.length_filter_le (fun r:Grow=>!decide (r.clause=c)) (rows.take i)
 rw [U6] at hf
 have hsl:s.length≤100000:=by rw [hI,U7,Q3l];omega
 by_cases hc:r.clause=c
 ·have e:(!ieq (toS r).clause c)=false:=by simp [ieq,toS,hc]
  simp only [e,U2,if_false]
  exact .some (by simp only [Y9];rw [hI,List.take_add_one,hi];simp [Q3l,hc])
 ·have e:(!ieq (toS r).clause c)=true:=by simp [ieq,toS,hc]
  simp only [e,if_true]
  rw [X4 (by simp only [U3,U4,Q5];omega)]
  exact .some (by simp only [Y9];rw [hI,List.take_add_one,hi];simp [Q3l,hc])
theorem X6m {n:Nat}{r0:Grow}{rest:List Grow}(hrl:(r0::rest).length≤100000)(hn:rest.length+10≤n) :
  Q0x n (r0::rest) (fun a0=>Q01 a0 r0)=some (Q3l (r0::rest) r0.clause):=by
 suffices hs:Ret (Q0x n (r0::rest) (fun a0=>Q01 a0 r0)) (fun r=>r=Q3l (r0::rest) r0.clause) by
  obtain ⟨a,e,rfl⟩:=hs
  exact e
 unfold Q0x
 have h1:Q1o (r0::rest) (fun a0=>Q01 a0 r0)=some 0:=by
  unfold Q1o forL Q01
  simp [ieq]
 rw [h1]
 simp only [U0]
 have e:ieq 0 (-1)=false:=rfl
 simp only [e,U2,if_false]
 generalize hrows:r0::rest=rows at *
 have hlen:rows.length=rest.length+1:=by rw [←hrows];rfl
 refine Ret.ctl (Q1r (fun s=>∃ i j:Nat,s.2.1=(i:Int)∧s.2.2=(j:Int)∧i≤j∧j≤rows.length∧i<rows.length∧s.1.length=rows.length∧s.1.take i=Q3l (rows.take j) r0.clause∧(∀ m,j≤m→s.1[m]?=rows[m]?)∧i<j) (fun s=>rows.length-s.2.2.toNat) (fun _=>False) (fun s=>∃ i:Nat,s.2.1=(i:Int)∧i≤s.1.length∧s.1.take i=Q3l rows r0.clause) ⟨0,1,rfl,rfl,by omega,by omega,by omega,rfl,?_,fun _ _=>rfl,by omega⟩ (fun s hI=>?_) n (by simp only [V0 (a:=0) (b:=1) (by omega) (by omega)];omega)) (fun r hr=>hr.elim) (fun s hs=>?_)
 ·rw [←hrows];simp [Q3l]
 ·obtain ⟨i,j,e1,e2,h1,h2,h3,h4,h5,h6,h7⟩:=hI
  obtain ⟨l,wi,rj⟩:=s
  simp only at e1 e2 h4 h5 h6
  subst e1 e2
  dsimp only
  rw [h4]
  by_cases hj:j<rows.length
  ·have e:ilt (j:Int) (lenZ rows.length)=true:=by rw [X1,Y0];omega
   simp only [e,if_true]
   obtain ⟨x,hx⟩:∃ x,rows[j]?=some x:=⟨_,U9 hj⟩
   rw [Q16 (by rw [h6 j (Nat.le_refl _)];exact hx)]
   unfold Q01
   simp only [U0]
   have hstep:Q3l (rows.take (j+1)) r0.clause=Q3l (rows.take j) r0.clause++(if x.clause=r0.clause then [] else [x]):=by
    unfold Q3l
    rw [List.take_add_one,hx]
    by_cases hc:x.clause=r0.clause<;>simp [hc]
   rw [V0 (a:=(j:Int)) (by omega) (by omega)]
   by_cases hc:x.clause=r0.clause
   ·have e:(!ieq x.clause r0.clause)=false:=by simp [ieq,hc]
    simp only [e,U2,if_false,U0]
    refine .some ⟨⟨i,j+1,rfl,by simp,by omega,by omega,h3,h4,?_,fun m hm=>h6 m (by omega),by omega⟩,by simp only;omega⟩
    rw [hstep,if_pos hc,h5];simp
   ·have e:(!ieq x.clause r0.clause)=true:=by simp [ieq,hc]
    simp only [e,if_true]
    obtain ⟨y,hy⟩:∃ y,l[i]?=some y:=⟨_,U9 (by omega)⟩
    rw [Q16 hy]
    simp only [U0]
    rw [X8m (by omega) (by omega),V0 (by omega) (by omega)]
    simp only [U0]
    refine .some ⟨⟨i+1,j+1,by simp,by simp,by omega,by omega,by omega,by simp [h4],?_,fun m hm=>?_,by omega⟩,by simp only;omega⟩
    ·simp only
     rw [hstep,if_neg hc,←h5,List.take_add_one,List.take_set_of_le (by simp)]
     simp [show i<l.length by omega]
    ·simp only
     rw [List.getElem?_set_ne (by simp;omega)]
     exact h6 m (by omega)
  ·have e:ilt (j:Int) (lenZ rows.length)=false:=by rw [V2,Y0];omega
   simp only [e,U2,if_false]
   refine .some ⟨i,rfl,by simp only;omega,?_⟩
   simp only
   rw [h5,show j=rows.length by omega,List.take_length]
 ·obtain ⟨i,e1,h1,h2⟩:=hs
  dsimp only
  rw [e1,Z4l h1]
  exact .some h2
theorem W8g {l:List Grow}(h:l.length≤100000):Q2c l=some l:=by
 unfold Q2c
 rw [X4 (by simp [Q5];omega)]
 rfl
def PatC (w:List Q4)(t:Q6)(p:Q0):Prop:=Q09 w 12 t p=true∧Q7n 12 p∧(p.op=1∨p.op=3∨p.op=4)
def PatO (w:List Q4)(t:Q6)(p:Q0):Prop:=Q09 w 12 t p=true∧Q7n 12 p
def X15 (r:Grow):List Int:=r.binds.map (·.var)++r.pats.flatMap Q4s
theorem Q3w:∀ (d:Nat) (p:Q0),Q7n d p→Q7n (d+1) p:=by
 intro d
 induction d with
 | zero=>intro p h;exact h.elim
 | succ d ih=>intro p h;exact ⟨h.1,fun x hx=>ih x (h.2 x hx)⟩
theorem X3e (w:List Q4)(t:Q6):PatC w t anyP:=by
 refine ⟨?_,?_,.inl rfl⟩
 ·simp [Q09,Q73,Z3x,Y1,anyP]
 ·simp [Q7n,anyP]
theorem X3d {w:List Q4}{t:Q6}{p:Q0}(h:PatO w t p){k:Nat}{a:Q6}{q:Q0}(h1:(Y1 w t p)[k]?=some a)(h2:p.kids[k]?=some q):PatO w a q:=
 ⟨Q0u 11 a q (Q05 h.1 h1 h2),Q3w 11 q (h.2.2 q (U1 h2))⟩
theorem Z40 {w:List Q4}{t:Q6}{p:Q0}(h:Q73 w t p=true)(h4:p.op≠4)(h5:p.op≠5)(h6:p.op≠6):p.kids=[]:=by
 have:=(Q0i h).2
 rw [Y1,if_neg h4,if_neg h5,if_neg h6] at this
 exact List.eq_nil_of_length_eq_zero this
theorem Q85 {w:List Q4}{t:Q6}{p:Q0}(h:Q73 w t p=true):p.op=1∨p.op=2∨p.op=5∨p.op=6∨(p.op=3∧t.data = -1∧0≤p.n∧p.n≤p.m∧p.m≤9)∨(p.op=4∧p.ctor∈X5 w t):=by
 have h:=(Q0i h).1
 simp only [Z3x,Bool.and_eq_true,Bool.or_eq_true,decide_eq_true_eq] at h
 rcases h.2 with (h | h) | h
 ·omega
 ·exact .inr (.inr (.inr (.inr (.inl ⟨h.1.1.1.1,h.1.1.1.2,h.1.1.2,h.1.2,h.2⟩))))
 ·exact .inr (.inr (.inr (.inr (.inr h))))
theorem V4t {w:List Q4}{t:Q6}{path:List Int} : ∀ (d:Nat) (p:Q0),asOk d p→PatO w t p→PatC w t (Q1z d p path).2∧((Q1z d p path).1.map (·.var)++Q4s (Q1z d p path).2)=Q4s p∧∀ b∈(Q1z d p path).1,b.path=path:=by
 intro d
 induction d with
 | zero=>intro p h;exact h.elim
 | succ d ih=>
  intro p has h
  rw [Q31]
  have hn:=Q06 h.1
  by_cases h6:p.op=6
  ·obtain ⟨q,hq,hd⟩:=has h6
   rw [if_pos h6,hq]
   simp only [List.headD_cons]
   have hk:PatO w t q:=X3d h (k:=0) (a:=t) (by rw [Y1,if_neg (by rw [h6];decide),if_neg (by rw [h6];decide),if_pos h6];rfl) (by rw [hq];rfl)
   obtain ⟨i1,i2,i3⟩:=ih q hd hk
   refine ⟨i1,?_,fun b hb=>?_⟩
   ·rw [Q9p p,if_pos (.inr h6),hq,Q6t,List.map_cons,List.cons_append,i2]
    simp
   ·rcases U8.1 hb with rfl | hb
    ·rfl
    ·exact i3 b hb
  ·rw [if_neg h6]
   by_cases h2:p.op=2
   ·rw [if_pos h2]
    refine ⟨X3e w t,?_,fun b hb=>?_⟩
    ·rw [Q9p p,if_pos (.inl h2),Z40 hn (by omega) (by omega) (by omega),X59]
     simp [Q4s.varsSs]
    ·simp only [U8,List.not_mem_nil,or_false] at hb
     rw [hb]
   ·rw [if_neg h2]
    refine ⟨⟨h.1,h.2,?_⟩,by simp,by simp⟩
    have h5:=h.2.1
    rcases Q85 hn with h1 | h1 | h1 | h1 | h1 | h1
    ·exact .inl h1
    ·exact absurd h1 h2
    ·exact absurd h1 h5
    ·exact absurd h1 h6
    ·exact .inr (.inl h1.1)
    ·exact .inr (.inr h1.1)
theorem Z6v {w:List Q4}{t:Q6}{p:Q0}(path:List Int)(h:PatO w t p):PatC w t (Q6f p path).2∧((Q6f p path).1.map (·.var)++Q4s (Q6f p path).2)=Q4s p∧∀ b∈(Q6f p path).1,b.path=path:=
 V4t 12 p (Z9t 12 t p h.1) h
structure BrC (w:List Q4) (t:Q6) (b:Z3):Prop where
 int:t.data = -1→b.ctor = -1
 ctor:t.data≠-1→b.ctor∈X5 w t∧b.ctor≠-1
theorem Z0k (cut:Int→Bool):∀ (m:Nat) (n fr:Int),∀ b∈Z2m cut m n fr,b.ctor = -1
 | 0,_,_,b,h=>by simp [Z2m] at h
 | m+1,n,fr,b,h=>by
  unfold Z2m at h
  split at h
  ·rcases U8.1 h with rfl | h
   ·rfl
   ·exact Z0k cut m _ _ b h
  ·exact Z0k cut m _ _ b h
theorem V6k {w:List Q4}(hL:WL w){t:Q6}(ht:t∈tys w){rows:List Grow}{k:Nat} : ∀ b∈brsD w rows t k,BrC w t b:=fun b hb=>by
 unfold brsD at hb
 split at hb
 ·rename_i hd
  exact ⟨fun _=>Z0k _ _ _ _ b hb,fun h=>absurd hd h⟩
 ·rename_i hd
  obtain ⟨x,hx,rfl⟩:=U10.1 hb
  have hx:=(List.mem_filter.1 hx).1
  exact ⟨fun h=>absurd h hd,fun _=>⟨hx,hL.pos t ht hd x hx⟩⟩
theorem W13 {w:List Q4}(hS:WS w){t:Q6}(ht:t∈tys w){p:Q0}(h:PatC w t p){b:Z3}(hb:BrC w t b)(hf:Q4r p b=true){col:Z5}(hc:col.t=t) :
  (Q1q p (V5 w col b)).length=(V5 w col b).length∧(∀ (i:Nat) (x:Q0) (c:Z5),(Q1q p (V5 w col b))[i]?=some x→(V5 w col b)[i]?=some c→PatO w c.t x)∧(Q1q p (V5 w col b)).flatMap Q4s=Q4s p:=by
 have hn:=Q06 h.1
 by_cases h1:p.op=1
 ·have hk:Q1q p (V5 w col b)=(V5 w col b).map fun _=>anyP:=by rw [Q1q,if_pos h1]
  rw [hk]
  refine ⟨by simp,fun i x c hx _=>?_,?_⟩
  ·rw [List.getElem?_map,U11] at hx
   obtain ⟨_,_,rfl⟩:=hx
   exact ⟨(X3e w c.t).1,(X3e w c.t).2.1⟩
  ·rw [Q9p p,if_neg (by omega),Z40 hn (by omega) (by omega) (by omega)]
   generalize V5 w col b=l
   induction l with
   | nil=>rfl
   | cons a l ih=>rw [List.map_cons,List.flatMap_cons,ih,X59];rfl
 ·have hk:Q1q p (V5 w col b)=p.kids:=by rw [Q1q,if_neg h1]
  rw [hk]
  have hv:p.kids.flatMap Q4s=Q4s p:=by
   rw [Q9p p,if_neg (by rcases h.2.2 with h | h | h<;>omega),Q6t];rfl
  by_cases h3:p.op=3
  ·have hd:t.data = -1:=by rcases Q85 hn with h | h | h | h | h | h<;>first | omega | exact h.2.1
   have ha:V5 w col b=[]:=by unfold V5;rw [if_pos (hb.int hd)]
   have hk0:=Z40 hn (by omega) (by omega) (by omega)
   rw [ha,hk0]
   exact ⟨rfl,fun i x c hx _=>by simp at hx,by rw [←hv,hk0]⟩
  ·have h4:p.op=4:=by rcases h.2.2 with h | h | h<;>omega
   have hct:p.ctor∈X5 w t:=Q8r (Q0i hn).1 h4
   have hd:t.data≠-1:=fun hd=>by rw [hS.int t ht hd] at hct;cases hct
   have hfc:p.ctor=b.ctor:=by simpa [Q4r,h1,h3] using hf
   have hkt:Y1 w t p=V6 w t b.ctor:=by rw [Y1,if_pos h4,hfc]
   refine ⟨?_,fun i x c hx hc'=>?_,hv⟩
   ·rw [Q7p,if_neg (hb.ctor hd).2,(Q0i hn).2,hkt,hc]
   ·have hil:i<(V6 w col.t b.ctor).length:=by
     have:=(List.getElem?_eq_some_iff.1 hc').1
     rw [Q7p,if_neg (hb.ctor hd).2] at this
     exact this
    have hti:(V6 w col.t b.ctor)[i]?=some ((V6 w col.t b.ctor)[i]):=U9 hil
    have:=Z5n (col:=col) (hb.ctor hd).2 hti
    rw [this] at hc'
    cases hc'
    exact X3d ⟨h.1,h.2.1⟩ (by rw [hkt,←hc];exact hti) hx
structure RowC (w:List Q4) (lst:List Q3) (cols:List Z5) (r:Grow):Prop where
 len:r.pats.length=cols.length
 pat:∀ x∈cols.zip r.pats,PatC w x.1.t x.2
 nd:(X15 r).Nodup
 rg:∀ v∈X15 r,0≤v∧v≤5
 c0:0≤r.clause
 c1:r.clause<lst.length
 bp:∀ b∈r.binds,b.path.length≤1000
structure ColC (w:List Q4) (cols:List Z5) (left:Nat):Prop where
 ty:∀ c∈cols,c.t∈tys w
 path:∀ c∈cols,c.path.length+left≤300
 len:cols.length+2 * left≤601
theorem RowC.at {w:List Q4}{lst:List Q3}{cols:List Z5}{r:Grow}(h:RowC w lst cols r){k:Nat}{col:Z5}(hk:cols[k]?=some col):k<r.pats.length∧PatC w col.t (X6 r k):=by
 have hlt:k<r.pats.length:=by rw [h.len];exact (List.getElem?_eq_some_iff.1 hk).1
 have hp:r.pats[k]?=some (X6 r k):=by unfold X6;rw [U9 hlt];rfl
 exact ⟨hlt,h.pat (col,X6 r k) (U1 (Q92 hk hp))⟩
theorem RowC.binds {w:List Q4}{lst:List Q3}{cols:List Z5}{r:Grow}(h:RowC w lst cols r):(r.binds.map (·.var)).Nodup∧(∀ b∈r.binds,0≤b.var∧b.var≤5)∧r.binds.length≤6:=by
 have h1:=(List.nodup_append.1 h.nd).1
 have h2:∀ b∈r.binds,0≤b.var∧b.var≤5:=fun b hb=>h.rg b.var (by unfold X15;exact List.mem_append_left _ (List.mem_map_of_mem hb))
 refine ⟨h1,h2,?_⟩
 have h3:=Z3z 6 (r.binds.map (·.var)) h1 (fun x hx=>by
  obtain ⟨b,hb,rfl⟩:=U10.1 hx
  have:=h2 b hb
  omega)
 simpa using h3
theorem RowC.rng {w:List Q4}{lst:List Q3}{cols:List Z5}{rows:List Grow}(h:∀ r∈rows,RowC w lst cols r){k:Nat}(hk:k<cols.length):W09 rows k:=fun r hr=>by
 have hc:cols[k]?=some (cols[k]):=U9 hk
 obtain ⟨h1,h2⟩:=(h r hr).at hc
 refine ⟨h1,fun h3=>?_⟩
 rcases Q85 (Q06 h2.1) with h | h | h | h | h | h<;>first | omega | skip
theorem RowC.kept {w:List Q4}(hw:WW w)(hS:WS w){lst:List Q3}{cols:List Z5}{left:Nat}(hC:ColC w cols left){r:Grow}(h:RowC w lst cols r){k:Nat}{col:Z5}(hk:cols[k]?=some col){b:Z3}(hb:BrC w col.t b) :
  W2b r k b (V5 w col b):=by
 have hct:=hC.ty col (U1 hk)
 have hT:=hw.ty _ hct
 obtain ⟨h1,h2⟩:=h.at hk
 have hlen:=hC.len
 have hpl:=hC.path col (U1 hk)
 have hal:(V5 w col b).length≤3:=by
  rw [Q7p]
  split
  ·omega
  ·rename_i hne
   by_cases hd:col.t.data = -1
   ·exact absurd (hb.int hd) hne
   ·exact hT.al _ (hb.ctor hd).1
 refine ⟨h1,fun hf=>(W13 hS hct h2 hb hf rfl).1,fun x hx=>?_,?_,hal,fun c hc=>?_,by have:=h.binds.2.2;omega,by rw [h.len];omega⟩
 ·by_cases h1:(X6 r k).op=1
  ·rw [Q1q,if_pos h1] at hx
   obtain ⟨_,_,rfl⟩:=U10.1 hx
   exact fun h6=>absurd h6 (by decide)
  ·rw [Q1q,if_neg h1] at hx
   obtain ⟨i,hi⟩:=List.getElem?_of_mem hx
   have hil:=(List.getElem?_eq_some_iff.1 hi).1
   have hln:=(Q0i (Q06 h2.1)).2
   have hti:(Y1 w col.t (X6 r k))[i]?=some ((Y1 w col.t (X6 r k))[i]'(by omega)):=U9 (by omega)
   have:=X3d ⟨h2.1,h2.2.1⟩ hti hi
   exact Z9t 12 _ _ this.1
 ·rcases h2.2.2 with h | h | h
  ·exact .inl h
  ·refine .inr (.inl ⟨h,?_⟩)
   have hd:col.t.data = -1:=by rcases Q85 (Q06 h2.1) with h | h | h | h | h | h<;>first | omega | exact h.2.1
   unfold V5
   rw [if_pos (hb.int hd)]
  ·exact .inr (.inr h)
 ·unfold V5 at hc
  split at hc
  ·cases hc
  ·obtain ⟨i,hi⟩:=List.getElem?_of_mem hc
   rw [List.getElem?_mapIdx,U11] at hi
   obtain ⟨_,_,rfl⟩:=hi
   simp only [U5,U3,U4]
   omega
theorem V4k {α β:Type}{a1 a2 a3:List α}{b1 b2 b3:List β}(h1:a1.length=b1.length)(h2:a2.length=b2.length):(a1++a2++a3).zip (b1++b2++b3)=a1.zip b1++a2.zip b2++a3.zip b3:=by
 rw [List.zip_append (by simp [h1,h2]),List.zip_append h1]
theorem W0d {α β:Type} : ∀ (a:List α) (b:List β) (k:Nat),(a.take k).zip (b.take k)=(a.zip b).take k
 | [],_,_=>by simp
 | _::_,[],_=>by simp
 | _::_,_::_,0=>by simp
 | x::a,y::b,k+1=>by simp [W0d a b k]
theorem W0e {α β:Type} : ∀ (a:List α) (b:List β) (k:Nat),(a.drop k).zip (b.drop k)=(a.zip b).drop k
 | [],_,_=>by simp
 | _::_,[],_=>by simp
 | _::_,_::_,0=>by simp
 | x::a,y::b,k+1=>by simp [W0e a b k]
theorem X56 {w:List Q4} : ∀ (ks:List Q0) (args:List Z5),ks.length=args.length→(∀ (i:Nat) (x:Q0) (c:Z5),ks[i]?=some x→args[i]?=some c→PatO w c.t x)→
  (((zipS ks args).flatMap (·.1)).map (·.var)++((zipS ks args).map (·.2)).flatMap Q4s).Perm (ks.flatMap Q4s)
 | [],[],_,_=>by simp [zipS]
 | [],_::_,h,_=>by simp at h
 | _::_,[],h,_=>by simp at h
 | p::ks,c::args,hl,h=>by
  have h0:=(Z6v c.path (h 0 p c rfl rfl)).2.1
  have ih:=X56 ks args (by simpa using hl) fun i x c h1 h2=>h (i+1) x c (by simpa using h1) (by simpa using h2)
  have e:zipS (p::ks) (c::args)=Q6f p c.path::zipS ks args:=rfl
  rw [e,List.flatMap_cons,List.map_cons,List.flatMap_cons,List.flatMap_cons,List.map_append,←h0]
  generalize (Q6f p c.path).1.map (·.var)=A
  generalize Q4s (Q6f p c.path).2=B
  generalize ((zipS ks args).flatMap (·.1)).map (·.var)=A' at *
  generalize ((zipS ks args).map (·.2)).flatMap Q4s=B' at *
  rw [List.append_assoc,List.append_assoc]
  refine List.Perm.append_left A ?_
  refine List.Perm.trans ?_ (List.Perm.append_left B ih)
  rw [←List.append_assoc,←List.append_assoc]
  exact List.Perm.append_right _ List.perm_append_comm
theorem RowC.next {w:List Q4}(hw:WW w)(hS:WS w){lst:List Q3}{cols:List Z5}{left:Nat}(hC:ColC w cols left){r:Grow}(h:RowC w lst cols r){k:Nat}{col:Z5}(hk:cols[k]?=some col){b:Z3}(hb:BrC w col.t b)(hf:Q4r (X6 r k) b=true) :
  RowC w lst (Q6a cols k (V5 w col b)) (Q7b r k (V5 w col b)):=by
 have hct:=hC.ty col (U1 hk)
 obtain ⟨h1,h2⟩:=h.at hk
 obtain ⟨k1,k2,k3⟩:=W13 hS hct h2 hb hf (rfl:col.t=col.t)
 have hkl:k<cols.length:=(List.getElem?_eq_some_iff.1 hk).1
 have hlen:=h.len
 generalize hks:Q1q (X6 r k) (V5 w col b)=ks at *
 generalize hargs:V5 w col b=args at *
 have hzl:(zipS ks args).length=args.length:=by rw [zipS,List.length_zipWith,k1,Nat.min_self]
 have hvp:(X15 (Q7b r k args)).Perm (X15 r):=by
  unfold X15 Q7b
  rw [hks]
  have hp:r.pats=r.pats.take k++X6 r k::r.pats.drop (k+1):=by
   conv=>lhs;rw [←List.take_append_drop k r.pats]
   rw [List.drop_eq_getElem_cons h1]
   congr 2
   unfold X6
   rw [U9 h1];rfl
  conv=>rhs;rw [hp]
  simp only [List.map_append,List.flatMap_append,List.flatMap_cons]
  have hz:=X56 ks args k1 k2
  rw [k3] at hz
  generalize ((zipS ks args).flatMap (·.1)).map (·.var)=A at *
  generalize ((zipS ks args).map (·.2)).flatMap Q4s=B at *
  generalize (r.pats.take k).flatMap Q4s=X
  generalize (r.pats.drop (k+1)).flatMap Q4s=Y
  rw [List.append_assoc]
  refine List.Perm.append_left _ ?_
  have e1:(A++(X++B++Y)).Perm (X++(A++B)++Y):=by
   rw [←List.append_assoc,←List.append_assoc,←List.append_assoc]
   refine List.Perm.append_right _ (List.Perm.append_right _ List.perm_append_comm)
  have e2:(X++(A++B)++Y).Perm (X++Q4s (X6 r k)++Y):=List.Perm.append_right _ (List.Perm.append_left _ hz)
  refine (e1.trans e2).trans ?_
  rw [List.append_assoc]
 refine ⟨?_,fun x hx=>?_,hvp.nodup_iff.2 h.nd,fun v hv=>h.rg v (hvp.mem_iff.1 hv),h.c0,h.c1,fun x hx=>?_⟩
 ·simp only [Q7b,Q6a,hks,U5,U6,List.length_drop,U7,hzl]
  omega
 ·simp only [Q7b,Q6a,hks] at hx
  rw [V4k (by rw [U6,U6,hlen]) (by rw [U7,hzl]),W0d,W0e] at hx
  rcases List.mem_append.1 hx with hx | hx
  ·rcases List.mem_append.1 hx with hx | hx
   ·exact h.pat x (List.mem_of_mem_take hx)
   ·obtain ⟨i,hi⟩:=List.getElem?_of_mem hx
    rw [List.getElem?_zip_eq_some,List.getElem?_map,U11] at hi
    obtain ⟨hi1,z,hi2,hi3⟩:=hi
    have hil:i<ks.length:=by rw [k1];exact (List.getElem?_eq_some_iff.1 hi1).1
    have hki:ks[i]?=some (ks[i]):=U9 hil
    rw [Z80 hki hi1] at hi2
    cases hi2
    rw [←hi3]
    exact (Z6v x.1.path (k2 i _ _ hki hi1)).1
  ·exact h.pat x (List.mem_of_mem_drop hx)
 ·simp only [Q7b,hks] at hx
  rcases List.mem_append.1 hx with hx | hx
  ·exact h.bp x hx
  ·obtain ⟨z,hz,hxz⟩:=List.mem_flatMap.1 hx
   obtain ⟨i,hi⟩:=List.getElem?_of_mem hz
   have hil:i<args.length:=by rw [←hzl];exact (List.getElem?_eq_some_iff.1 hi).1
   have hki:ks[i]?=some (ks[i]'(by omega)):=U9 (by omega)
   have hai:args[i]?=some (args[i]):=U9 hil
   rw [Z80 hki hai] at hi
   cases hi
   rw [(Z6v _ (k2 i _ _ hki hai)).2.2 x hxz]
   have hK:=(RowC.kept hw hS hC h hk hb).ap
   rw [hargs] at hK
   have hpl:=hC.path col (U1 hk)
   have hm:args[i]∈V5 w col b:=by rw [hargs];exact List.getElem_mem _
   unfold V5 at hm
   split at hm
   ·cases hm
   ·obtain ⟨j,hj⟩:=List.getElem?_of_mem hm
    rw [List.getElem?_mapIdx,U11] at hj
    obtain ⟨_,_,hj⟩:=hj
    rw [←hj]
    simp only [U5,U3,U4]
    omega
theorem ColC.next {w:List Q4}(hw:WW w){cols:List Z5}{left:Nat}(hC:ColC w cols (left+1)){k:Nat}{col:Z5}(hk:cols[k]?=some col){b:Z3}(hb:BrC w col.t b):ColC w (Q6a cols k (V5 w col b)) left:=by
 have hct:=hC.ty col (U1 hk)
 have hT:=hw.ty _ hct
 have hkl:k<cols.length:=(List.getElem?_eq_some_iff.1 hk).1
 have hlen:=hC.len
 have hpl:=hC.path col (U1 hk)
 have harg:∀ c∈V5 w col b,c.t∈tys w∧c.path.length=col.path.length+1:=fun c hc=>by
  unfold V5 at hc
  split at hc
  ·cases hc
  ·rename_i hne
   have hd:col.t.data≠-1:=fun hd=>hne (hb.int hd)
   obtain ⟨i,hi⟩:=List.getElem?_of_mem hc
   rw [List.getElem?_mapIdx,U11] at hi
   obtain ⟨a,ha,rfl⟩:=hi
   exact ⟨hT.at_ _ (hb.ctor hd).1 a (U1 ha),by simp⟩
 have hal:(V5 w col b).length≤3:=by
  rw [Q7p]
  split
  ·omega
  ·rename_i hne
   by_cases hd:col.t.data = -1
   ·exact absurd (hb.int hd) hne
   ·exact hT.al _ (hb.ctor hd).1
 have hmem:∀ c∈Q6a cols k (V5 w col b),c∈cols∨c∈V5 w col b:=fun c hc=>by
  unfold Q6a at hc
  rcases List.mem_append.1 hc with hc | hc
  ·rcases List.mem_append.1 hc with hc | hc
   ·exact .inl (List.mem_of_mem_take hc)
   ·exact .inr hc
  ·exact .inl (List.mem_of_mem_drop hc)
 refine ⟨fun c hc=>?_,fun c hc=>?_,?_⟩
 ·rcases hmem c hc with h | h
  ·exact hC.ty c h
  ·exact (harg c h).1
 ·rcases hmem c hc with h | h
  ·have:=hC.path c h;omega
  ·have:=(harg c h).2;omega
 ·simp only [Q6a,U5,U6,List.length_drop]
  omega
end Go.Proofs.YtgjpamkllimhdaaGreat
