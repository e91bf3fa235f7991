import Derived.Test.YtbdkbdafhlcilaaGreatJP1
set_option linter.unusedSimpArgs false
set_option linter.unusedVariables false
namespace Go.Proofs.YtbdkbdafhlcilaaGreat
open Go Go.RowKit
def W4:Nat→Q0→Q0
 | 0,p=>p
 | d+1,p=>if p.op=2 then Q0.mk 1 0 0 0 0 [] else if p.op=6∧p.kids≠[] then W4 d (p.kids.headD p) else Q0.mk p.op p.ctor p.n p.m p.var (p.kids.map (W4 d))
def altD (w:List Q3):Nat→Q2→Q0→Prop
 | 0,_,_=>False
 | d+1,t,p=>p=Q0.mk 1 0 0 0 0 []∨(∃ n m,p=Q0.mk 3 0 n m 0 []∧t.data = -1∧0≤n∧n≤m∧m≤9)∨
  (∃ c ks,p=Q0.mk 4 c 0 0 0 ks∧t.data≠-1∧c∈X1 w t∧ks.length=(X4 w t c).length∧∀ (j:Nat) (a:Q2) (q:Q0),(X4 w t c)[j]?=some a→ks[j]?=some q→altD w d a q)∨
  (∃ a b,p=Q0.mk 5 0 0 0 0 [a,b]∧altD w d t a∧altD w d t b)
theorem Z8r {w:List Q3} : ∀ (d:Nat) (t:Q2) (p:Q0),altD w d t p→altD w (d+1) t p
 | 0,_,_,h=>h.elim
 | d+1,t,p,h=>by
  rcases h with h | h | ⟨c,ks,e,h1,h2,h3,h4⟩ | ⟨a,b,e,h1,h2⟩
  ·exact .inl h
  ·exact .inr (.inl h)
  ·exact .inr (.inr (.inl ⟨c,ks,e,h1,h2,h3,fun j a q ha hq=>Z8r d a q (h4 j a q ha hq)⟩))
  ·exact .inr (.inr (.inr ⟨a,b,e,Z8r d t a h1,Z8r d t b h2⟩))
theorem X2s {w:List Q3}{d:Nat}{t:Q2}{p:Q0}(h0:t.data = -1→X1 w t=[])(g:J6 w (d+1) t p=true) :
  p=Q0.mk 1 0 0 0 0 []∨(∃ v,p=Q0.mk 2 0 0 0 v [])∨(∃ n m,p=Q0.mk 3 0 n m 0 []∧t.data = -1∧0≤n∧n≤m∧m≤9)∨
  (∃ c ks,p=Q0.mk 4 c 0 0 0 ks∧t.data≠-1∧c∈X1 w t∧ks.length=(X4 w t c).length∧∀ (j:Nat) (a:Q2) (q:Q0),(X4 w t c)[j]?=some a→ks[j]?=some q→J6 w d a q=true)∨
  (∃ a b,p=Q0.mk 5 0 0 0 0 [a,b]∧J6 w d t a=true∧J6 w d t b=true)∨(∃ v a,p=Q0.mk 6 0 0 0 v [a]∧J6 w d t a=true):=by
 have hn:=Q0y (Q04 g)
 have hkid:=fun (j:Nat) (a:Q2) (q:Q0)=>Q06 (k:=j) (a:=a) (q:=q) g
 obtain ⟨op,ctor,n,m,var,kids⟩:=p
 have ho:=hn.1
 simp only [Z0j,Bool.and_eq_true,Bool.or_eq_true,decide_eq_true_eq] at ho
 obtain ⟨⟨⟨k1,k2⟩,k3⟩,k4⟩:=ho
 have hop:op=1∨op=2∨op=3∨op=4∨op=5∨op=6:=by
  rcases k4 with (h | h) | h
  ·rcases h with h | h | h | h<;>simp [h]
  ·simp [h.1.1.1.1]
  ·simp [h.1]
 rcases hop with rfl | rfl | rfl | rfl | rfl | rfl
 ·have hl:=hn.2
  simp [V5] at hl k1 k2 k3
  subst hl;obtain ⟨rfl,rfl⟩:=k2;subst k1;subst k3
  exact .inl rfl
 ·have hl:=hn.2
  simp [V5] at hl k2 k3
  subst hl;obtain ⟨rfl,rfl⟩:=k2;subst k3
  exact .inr (.inl ⟨var,rfl⟩)
 ·have hl:=hn.2
  simp [V5] at hl k1 k3 k4
  subst hl;subst k1;subst k3
  exact .inr (.inr (.inl ⟨n,m,rfl,k4.1.1.1,k4.1.1.2,k4.1.2,k4.2⟩))
 ·have hl:=hn.2
  simp [V5] at hl k1 k2 k4
  obtain ⟨rfl,rfl⟩:=k2;subst k1
  refine .inr (.inr (.inr (.inl ⟨ctor,kids,rfl,fun hd=>?_,k4,hl,fun j a q ha hq=>hkid j a q (by simpa [V5] using ha) hq⟩)))
  rw [h0 hd] at k4
  simp at k4
 ·have hl:=hn.2
  simp [V5] at hl k1 k2 k3
  obtain ⟨rfl,rfl⟩:=k2;subst k1;subst k3
  match kids,hl with
  | [a,b],_=>exact .inr (.inr (.inr (.inr (.inl ⟨a,b,rfl,hkid 0 t a (by simp [V5]) rfl,hkid 1 t b (by simp [V5]) rfl⟩))))
 ·have hl:=hn.2
  simp [V5] at hl k2 k3
  obtain ⟨rfl,rfl⟩:=k2;subst k3
  match kids,hl with
  | [a],_=>exact .inr (.inr (.inr (.inr (.inr ⟨var,a,rfl,hkid 0 t a (by simp [V5]) rfl⟩))))
theorem Q84 {w:List Q3}(h0:∀ t,t.data = -1→X1 w t=[]):∀ (d:Nat) (t:Q2) (p:Q0),J6 w d t p=true→altD w d t (W4 d p)
 | 0,_,_,h=>by simp [J6] at h
 | d+1,t,p,g=>by
  rcases X2s (h0 t) g with rfl | ⟨v,rfl⟩ | ⟨n,m,rfl,h⟩ | ⟨c,ks,rfl,h1,h2,h3,h4⟩ | ⟨a,b,rfl,h1,h2⟩ | ⟨v,a,rfl,h1⟩
  ·exact .inl (by simp [W4])
  ·exact .inl (by simp [W4])
  ·exact .inr (.inl ⟨n,m,by simp [W4],h⟩)
  ·refine .inr (.inr (.inl ⟨c,ks.map (W4 d),by simp [W4],h1,h2,by simpa using h3,fun j a q ha hq=>?_⟩))
   rw [List.getElem?_map] at hq
   obtain ⟨q',e1,e2⟩:=U12.1 hq
   subst e2
   exact Q84 h0 d a q' (h4 j a q' ha e1)
  ·exact .inr (.inr (.inr ⟨W4 d a,W4 d b,by simp [W4],Q84 h0 d t a h1,Q84 h0 d t b h2⟩))
  ·have:W4 (d+1) (Q0.mk 6 0 0 0 v [a])=W4 d a:=by simp [W4]
   rw [this]
   exact Z8r d t _ (Q84 h0 d t a h1)
def MemL (cs:List Q0)(ls:List (List Q0)):Prop:=cs.length=ls.length∧∀ (j:Nat) (c:Q0) (l:List Q0),cs[j]?=some c→ls[j]?=some l→c∈l
theorem Z2j {c:Q0}{cs:List Q0}{l:List Q0}{ls:List (List Q0)} : MemL (c::cs) (l::ls)↔c∈l∧MemL cs ls:=by
 constructor
 ·rintro ⟨h1,h2⟩
  exact ⟨h2 0 c l rfl rfl,by simpa using h1,fun j x y e1 e2=>h2 (j+1) x y (by simpa using e1) (by simpa using e2)⟩
 ·rintro ⟨h0,h1,h2⟩
  refine ⟨by simp [h1],fun j x y e1 e2=>?_⟩
  cases j with
  | zero=>simp at e1 e2;subst e1;subst e2;exact h0
  | succ j=>exact h2 j x y (by simpa using e1) (by simpa using e2)
theorem W1b:∀ (ls out:List (List Q0)) (ks:List Q0),ks∈ls.foldl tupD out↔∃ o∈out,∃ cs,MemL cs ls∧ks=o++cs
 | [],out,ks=>by
  simp only [List.foldl_nil]
  constructor
  ·exact fun h=>⟨ks,h,[],⟨rfl,fun j c l h=>by simp at h⟩,by simp⟩
  ·rintro ⟨o,ho,cs,h,rfl⟩
   have:cs=[]:=List.eq_nil_of_length_eq_zero (by simpa using h.1)
   subst this
   simpa using ho
 | l::ls,out,ks=>by
  simp only [List.foldl_cons]
  rw [W1b ls (tupD out l) ks]
  constructor
  ·rintro ⟨o,ho,cs,h,rfl⟩
   obtain ⟨q,hq,ho⟩:=List.mem_flatMap.1 ho
   obtain ⟨c,hc,rfl⟩:=U11.1 ho
   exact ⟨q,hq,c::cs,Z2j.2 ⟨hc,h⟩,by simp⟩
  ·rintro ⟨o,ho,cs,h,rfl⟩
   cases cs with
   | nil=>have:=h.1;simp at this
   | cons c cs=>
    obtain ⟨hc,h⟩:=Z2j.1 h
    exact ⟨o++[c],List.mem_flatMap.2 ⟨o,ho,U11.2 ⟨c,hc,rfl⟩⟩,cs,h,by simp⟩
theorem Z5n {ls:List (List Q0)}{ks:List Q0} : ks∈ls.foldl tupD [[]]↔MemL ks ls:=by
 rw [W1b]
 constructor
 ·rintro ⟨o,ho,cs,h,rfl⟩
  simp at ho
  subst ho
  simpa using h
 ·exact fun h=>⟨[],by simp,ks,h,by simp⟩
theorem Z0d {w:List Q3} : ∀ (d:Nat) (t:Q2) (p:Q0),altD w d t p→∀ q∈Q9 d p,X6 w d t q
 | 0,_,_,h,_,_=>h.elim
 | d+1,t,p,h,q,hq=>by
  rcases h with rfl | ⟨n,m,rfl,h⟩ | ⟨c,ks,rfl,h1,h2,h3,h4⟩ | ⟨a,b,rfl,h1,h2⟩
  ·simp [Q9,Q3v] at hq;subst hq;exact .inl rfl
  ·simp [Q9,Q3v] at hq;subst hq;exact .inr (.inl ⟨n,m,rfl,h⟩)
  ·have e5:¬(4:Int)=5:=by decide
   simp only [Q9,e5,if_false,U11] at hq
   obtain ⟨cs,hcs,rfl⟩:=hq
   obtain ⟨g1,g2⟩:=Z5n.1 hcs
   refine .inr (.inr ⟨c,cs,rfl,h1,h2,by simpa [h3] using g1,fun j a q ha hq=>?_⟩)
   obtain ⟨k,hk⟩:=Q27 h3 (List.getElem?_eq_some_iff.1 ha).1
   exact Z0d d a k (h4 j a k ha hk) q (g2 j q (Q9 d k) hq (by rw [List.getElem?_map,hk];rfl))
  ·simp only [Q9,if_true,List.flatMap_cons,List.flatMap_nil,List.append_nil,U9] at hq
   rcases hq with hq | hq
   ·exact Q6f d t q (Z0d d t a h1 q hq)
   ·exact Q6f d t q (Z0d d t b h2 q hq)
theorem Z36 {w:List Q3} : ∀ (d:Nat) (t:Q2) (p:Q0),altD w d t p→Q9 (d+1) p=Q9 d p
 | 0,_,_,h=>h.elim
 | d+1,t,p,h=>by
  rcases h with rfl | ⟨n,m,rfl,h⟩ | ⟨c,ks,rfl,h1,h2,h3,h4⟩ | ⟨a,b,rfl,h1,h2⟩
  ·simp [Q9]
  ·simp [Q9]
  ·have e5:¬(4:Int)=5:=by decide
   have:ks.map (Q9 (d+1))=ks.map (Q9 d):=by
    refine List.map_congr_left fun k hk=>?_
    obtain ⟨j,hj⟩:=List.mem_iff_getElem?.1 hk
    obtain ⟨a,ha⟩:=Q27 h3.symm (List.getElem?_eq_some_iff.1 hj).1
    exact Z36 d a k (h4 j a k ha hj)
   rw [Q9,Q9]
   simp only [e5,if_false,this]
  ·rw [Q9,Q9]
   simp only [if_true,List.flatMap_cons,List.flatMap_nil,Z36 d t a h1,Z36 d t b h2]
theorem X2l {f:Q0→Q4→Option (List Y3)}{S:Q0→List Q0} : ∀ (ps:List Q0) (vs:List Q4),ps.length=vs.length→
  (∀ (j:Nat) (p:Q0) (v:Q4),ps[j]?=some p→vs[j]?=some v→((f p v).isSome=true↔∃ q∈S p,fitP q v=true))→((V6 f ps vs).isSome=true↔∃ cs,MemL cs (ps.map S)∧fitL cs vs=true)
 | [],[],_,_=>by
  simp only [V6,Option.isSome_some,true_iff]
  exact ⟨[],⟨rfl,fun j c l h=>by simp at h⟩,by simp⟩
 | p::ps,v::vs,hl,h=>by
  have h0:=h 0 p v rfl rfl
  have ih:=X2l (f:=f) (S:=S) ps vs (by simpa using hl) fun j x y e1 e2=>h (j+1) x y (by simpa using e1) (by simpa using e2)
  have hm:(V6 f (p::ps) (v::vs)).isSome=((f p v).isSome&&(V6 f ps vs).isSome):=by
   simp only [V6]
   cases f p v with
   | none=>rfl
   | some l=>cases V6 f ps vs<;>rfl
  rw [hm,Bool.and_eq_true,h0,ih]
  constructor
  ·rintro ⟨⟨q,hq,g1⟩,cs,hcs,g2⟩
   exact ⟨q::cs,Z2j.2 ⟨hq,hcs⟩,by simp [g1,g2]⟩
  ·rintro ⟨cs,hcs,g⟩
   cases cs with
   | nil=>have:=hcs.1;simp at this
   | cons c cs=>
    obtain ⟨hc,hcs⟩:=Z2j.1 hcs
    simp only [Q5z,Bool.and_eq_true] at g
    exact ⟨⟨c,hc,g.1⟩,cs,hcs,g.2⟩
 | [],_::_,h,_=>by simp at h
 | _::_,[],h,_=>by simp at h
theorem Z0k {w:List Q3}(h0:∀ t,t.data = -1→X1 w t=[]):∀ (d e:Nat) (t:Q2) (p:Q0) (v:Q4),J6 w d t p=true→Q1r w e t v→((Z6 d p v).isSome=true↔∃ q∈Q9 d (W4 d p),fitP q v=true)
 | 0,_,_,_,_,h,_=>by simp [J6] at h
 | d+1,e,t,p,v,g,hv=>by
  rcases X2s (h0 t) g with rfl | ⟨x,rfl⟩ | ⟨n,m,rfl,h⟩ | ⟨c,ks,rfl,h1,h2,h3,h4⟩ | ⟨a,b,rfl,h1,h2⟩ | ⟨x,a,rfl,h1⟩
  ·simp [Z6,W4,Q9,Q3v,Q70]
  ·simp [Z6,W4,Q9,Q3v,Q70]
  ·have hb:W4 (d+1) (Q0.mk 3 0 n m 0 [])=Q0.mk 3 0 n m 0 []:=by simp [W4]
   have hs:Q9 (d+1) (Q0.mk 3 0 n m 0 [])=[Q0.mk 3 0 n m 0 []]:=by simp [Q9,Q3v]
   rw [hb,hs]
   simp only [List.mem_singleton,exists_eq_left]
   rw [Q6z rfl]
   have e1:¬(3:Int)=1:=by decide
   have e2:¬(3:Int)=2:=by decide
   simp only [Z6,e1,e2,if_false,if_true,decide_eq_true_eq]
   split<;>simp [*]
  ·have e1:¬(4:Int)=1:=by decide
   have e2:¬(4:Int)=2:=by decide
   have e3:¬(4:Int)=3:=by decide
   have e5:¬(4:Int)=5:=by decide
   have e6:¬(4:Int)=6:=by decide
   have hb:W4 (d+1) (Q0.mk 4 c 0 0 0 ks)=Q0.mk 4 c 0 0 0 (ks.map (W4 d)):=by simp [W4]
   rw [hb]
   simp only [Q9,e5,if_false,U11,Z6,e1,e2,e3,e6]
   obtain ⟨e',rfl,gv1,gv2,gv3⟩:=Q7y hv h1
   by_cases hc:c=v.ctor
   ·subst hc
    simp only [if_true]
    rw [X2l (f:=Z6 d) (S:=fun p=>Q9 d (W4 d p)) ks v.kids (h3.trans gv2.symm) fun j p u hp hu=>by
     obtain ⟨a,ha⟩:=Q27 h3.symm (List.getElem?_eq_some_iff.1 hp).1
     exact Z0k h0 d e' a p u (h4 j a p ha hp) (gv3 j a u ha hu)]
    have hmm:(ks.map (W4 d)).map (Q9 d)=ks.map (fun p=>Q9 d (W4 d p)):=by simp
    constructor
    ·rintro ⟨cs,hcs,g⟩
     refine ⟨_,⟨cs,?_,rfl⟩,?_⟩
     ·rw [hmm];exact Z5n.2 hcs
     ·rw [Q3v,Q22 rfl];simp [g]
    ·rintro ⟨_,⟨cs,hcs,rfl⟩,g⟩
     rw [hmm] at hcs
     rw [Q3v,Q22 rfl] at g
     simp only [Bool.and_eq_true] at g
     exact ⟨cs,Z5n.1 hcs,g.2⟩
   ·simp only [if_neg hc,Option.isSome_none,U2,false_iff]
    rintro ⟨_,⟨cs,hcs,rfl⟩,g⟩
    rw [Q3v,Q22 rfl] at g
    simp only [Bool.and_eq_true,decide_eq_true_eq] at g
    exact hc g.1
  ·have ia:=Z0k h0 d e t a v h1 hv
   have ib:=Z0k h0 d e t b v h2 hv
   have hb:W4 (d+1) (Q0.mk 5 0 0 0 0 [a,b])=Q0.mk 5 0 0 0 0 [W4 d a,W4 d b]:=by simp [W4]
   have e1:¬(5:Int)=1:=by decide
   have e2:¬(5:Int)=2:=by decide
   have e3:¬(5:Int)=3:=by decide
   rw [hb]
   simp only [Q9,if_true,List.flatMap_cons,List.flatMap_nil,List.append_nil,U9,Z6,e1,e2,e3,if_false]
   cases hm:Z6 d a v with
   | some l=>
    rw [hm] at ia
    obtain ⟨q,hq,g⟩:=ia.1 rfl
    simp only [Option.isSome_some,true_iff]
    exact ⟨q,.inl hq,g⟩
   | none=>
    rw [hm] at ia
    simp only
    rw [ib]
    constructor
    ·rintro ⟨q,hq,g⟩;exact ⟨q,.inr hq,g⟩
    ·rintro ⟨q,hq | hq,g⟩
     ·have:=ia.2 ⟨q,hq,g⟩;simp at this
     ·exact ⟨q,hq,g⟩
  ·have ia:=Z0k h0 d e t a v h1 hv
   have hb:W4 (d+1) (Q0.mk 6 0 0 0 x [a])=W4 d a:=by simp [W4]
   have e1:¬(6:Int)=1:=by decide
   have e2:¬(6:Int)=2:=by decide
   have e3:¬(6:Int)=3:=by decide
   have e5:¬(6:Int)=5:=by decide
   rw [hb,Z36 d t _ (Q84 h0 d t a h1)]
   simp only [Z6,e1,e2,e3,e5,if_false,if_true,Option.isSome_map]
   exact ia
theorem Q5a {α β ρ:Type}{f:Nat→α→List β→Option (Ctl ρ (List β))}(g:α→List β)(M:Nat):∀ (xs:List α) (k:Nat) (s:List β),(∀ k,∀ x∈xs,∀ s:List β,s.length+(g x).length≤M→f k x s=some (.go (s++g x)))→s.length+(xs.flatMap g).length≤M→forL f k xs s=some (.brk (s++xs.flatMap g))
 | [],k,s,_,_=>by simp [forL]
 | x::xs,k,s,h,hM=>by
  simp only [List.flatMap_cons,U5] at hM
  unfold forL
  rw [h k x (by simp) s (by omega)]
  simp only
  rw [Q5a g M xs (k+1) (s++g x) (fun k y hy=>h k y (by simp [hy])) (by simp only [U5];omega)]
  simp
theorem Q4i {α:Type}{l l':List α}{k:Nat}{a:α}(h:l.drop k=a::l'):l[k]?=some a∧l.drop (k+1)=l':=by
 constructor
 ·have:=congrArg (fun m=>m[0]?) h
  simpa [List.getElem?_drop] using this
 ·have:=congrArg (fun m=>m.drop 1) h
  simpa [List.drop_drop,Nat.add_comm] using this
theorem V2w {n:Int}(h0:0≤n)(h:n≤100000):Q2p n=some []:=by
 unfold Q2p
 have e:ilt n 0=false:=by rw [X7];exact h0
 have e0:wsub .i64 0 (lenZ 0)=0:=rfl
 have e1:wsub .i64 n 0=n:=by rw [Q2m]<;>omega
 simp only [e,U2,if_false,e0,e1]
 by_cases hn:0<n
 ·have e2:ilt 0 n=true:=by rw [Z9];exact hn
  have e3:mkS n (Q0.mk 0 0 0 0 0 [])=some (List.replicate n.toNat (Q0.mk 0 0 0 0 0 [])):=by
   unfold mkS;rw [if_pos ⟨h0,by simp [Q6];omega⟩]
  rw [if_pos e2,e3]
  rfl
 ·have e2:ilt 0 n=false:=by rw [X7];omega
  rw [if_neg (by rw [e2];simp)]
  rfl
theorem W50 {a b c:List Q0}(h:a.length+b.length+c.length≤100000):Q0g [a,b,c]=some (a++b++c):=by
 unfold Q0g
 have hA:wadd .i64 0 (lenZ a.length)=(a.length:Int):=by rw [V7]<;>simp only [lenZ]<;>omega
 have hB:wadd .i64 (a.length:Int) (lenZ b.length)=(a.length:Int)+b.length:=by rw [V7]<;>simp only [lenZ]<;>omega
 have hC:wadd .i64 ((a.length:Int)+b.length) (lenZ c.length)=(a.length:Int)+b.length+c.length:=by rw [V7]<;>simp only [lenZ]<;>omega
 have l1:ilt (a.length:Int) 0=false:=by rw [X7];omega
 have l2:ilt ((a.length:Int)+b.length) 0=false:=by rw [X7];omega
 have l3:ilt ((a.length:Int)+b.length+c.length) 0=false:=by rw [X7];omega
 simp only [forL,hA,hB,hC,l1,l2,l3,U2,if_false,U0]
 rw [V2w (by omega) (by omega)]
 simp only [U0]
 rw [X2 (by simp [Q6];omega)]
 simp only [U0,List.nil_append]
 rw [X2 (by simp only [Q6];omega)]
 simp only [U0]
 rw [X2 (by simp only [U5,Q6];omega)]
 rfl
theorem V4j (a b:Int):imax a b=max a b:=by unfold imax;omega
theorem V4i (a b:Int):imin a b=min a b:=by unfold imin;omega
def i3 (a b:Int):List Q0:=if a≤b then [Q0.mk 3 0 a b 0 []] else []
theorem V5y {n:Nat}(hn:2≤n)(a b:Int):Q34 n [a,b]=some (i3 a b):=by
 obtain ⟨m,rfl⟩:∃ m,n=m+2:=⟨n-2,by omega⟩
 have w1:wadd .i64 0 1=1:=rfl
 have w2:wadd .i64 0 2=2:=rfl
 unfold Q34 i3
 by_cases h:a≤b<;>simp [whileL,idx,ilt,ile,app,w1,w2,h,lenZ,Q6]
theorem V5x {n:Nat}(hn:3≤n)(a b c e:Int):Q34 n [a,b,c,e]=some (i3 a b++i3 c e):=by
 obtain ⟨m,rfl⟩:∃ m,n=m+3:=⟨n-3,by omega⟩
 have w1:wadd .i64 0 1=1:=rfl
 have w2:wadd .i64 0 2=2:=rfl
 have w3:wadd .i64 2 1=3:=rfl
 have w4:wadd .i64 2 2=4:=rfl
 unfold Q34 i3
 by_cases h:a≤b<;>by_cases h':c≤e<;>simp [whileL,idx,ilt,ile,app,w1,w2,w3,w4,h,h',lenZ,Q6]
def zP:Q0:=Q0.mk 0 0 0 0 0 []
def Z5o:Option Q0→Q0×Bool
 | some m=>(m,true)
 | none=>(zP,false)
theorem Z2e {w:List Q3}{d:Nat}{t:Q2}{p:Q0}(h:X6 w d t p):∃ e,d=e+1∧(p=Q0.mk 1 0 0 0 0 []∨(∃ n m,p=Q0.mk 3 0 n m 0 []∧t.data = -1∧0≤n∧n≤m∧m≤9)∨
  (∃ c ks,p=Q0.mk 4 c 0 0 0 ks∧t.data≠-1∧c∈X1 w t∧ks.length=(X4 w t c).length∧∀ (j:Nat) (a:Q2) (q:Q0),(X4 w t c)[j]?=some a→ks[j]?=some q→X6 w e a q)):=by
 cases d with
 | zero=>exact h.elim
 | succ e=>exact ⟨e,rfl,h⟩
theorem Z9z {w:List Q3}(hw:WW w)(S:List Int):∀ (d n x:Nat) (t:Q2) (a b:Q0),t∈tys w→X6 w x t a→X6 w d t b→d+3≤n→Y0 n ⟨w,S⟩ t a b=some (Z5o (Q0t d a b))
 | 0,_,_,_,_,_,_,_,h,_=>h.elim
 | d+1,n,x,t,a,b,ht,ha,hb,hn=>by
  obtain ⟨n,rfl⟩:∃ m,n=m+1:=⟨n-1,by omega⟩
  obtain ⟨x,rfl,ha⟩:=Z2e ha
  have i11:ieq 1 1=true:=rfl
  have i31:ieq 3 1=false:=rfl
  have i33:ieq 3 3=true:=rfl
  have i41:ieq 4 1=false:=rfl
  have i43:ieq 4 3=false:=rfl
  have e31:¬(3:Int)=1:=by decide
  have e41:¬(4:Int)=1:=by decide
  have e43:¬(4:Int)=3:=by decide
  rcases ha with rfl | ⟨n1,m1,rfl,hd,_⟩ | ⟨c,ks,rfl,hd,hc,hl,hk⟩
  ·simp [Y0,Q0t,Z5o,i11]
  ·rcases hb with rfl | ⟨n2,m2,rfl,_⟩ | ⟨c',ks',rfl,hd',_⟩
   ·simp [Y0,Q0t,Z5o,i11,i31]
   ·simp only [Y0,Q0t,i31,i33,e31,U2,if_false,if_true]
    rw [V5y (by omega),V4j,V4i]
    by_cases h:max n1 n2≤min m1 m2
    ·simp [i3,h,idx,ieq,lenZ,Z5o]
    ·simp [i3,h,ieq,lenZ,Z5o,zP]
   ·exact absurd hd hd'
  ·rcases hb with rfl | ⟨n2,m2,rfl,hd',_⟩ | ⟨c',ks',rfl,_,hc',hl',hk'⟩
   ·simp [Y0,Q0t,Z5o,i11,i41]
   ·exact absurd hd' hd
   ·simp only [Y0,Q0t,i41,i43,e41,e43,U2,if_false]
    by_cases hcc:c=c'
    ·subst hcc
     have ec:(!ieq c c)=false:=by simp [ieq]
     simp only [ec,U2,if_false,if_true]
     rw [(hw.ty t ht).a2 c hc]
     simp only [U0]
     have hal:=(hw.ty t ht).al c hc
     have hlp:∀ (ts:List Q2) (k:Nat) (s:List Q0) (as' bs':List Q0),(X4 w t c).drop k=ts→ks.drop k=as'→ks'.drop k=bs'→s.length+ts.length≤100→
       forL (fun k131 x132 (s125:(List Q0))=>
        ((idx ks (k131:Int)).bind fun x143=>
        ((idx ks' (k131:Int)).bind fun x144=>
        ((Y0 n ⟨w,S⟩ x132 x143 x144).bind fun r145=>
        (if (!r145.2)=true then
        some (Ctl.ret (((Q0.mk 0 0 0 0 0 []),false)))
        else
        ((app s125 [r145.1]).bind fun x148=>
        some (Ctl.go x148))))))) k ts s=some (match Q56 (Q0t d) as' bs' with | some ms=>.brk (s++ms) | none=>.ret (zP,false)):=by
      intro ts
      induction ts with
      | nil=>
       intro k s as' bs' h0 h1 h2 _
       have hge:(X4 w t c).length≤k:=by have:=congrArg List.length h0;simp at this;omega
       have e1:as'=[]:=by rw [←h1];exact List.drop_eq_nil_of_le (by omega)
       have e2:bs'=[]:=by rw [←h2];exact List.drop_eq_nil_of_le (by omega)
       subst e1;subst e2
       simp [forL,Q56]
      | cons u ts ih=>
       intro k s as' bs' h0 h1 h2 hs
       obtain ⟨u1,u2⟩:=Q4i h0
       have hkl:=(List.getElem?_eq_some_iff.1 u1).1
       cases as' with
       | nil=>have:=congrArg List.length h1;simp at this;omega
       | cons a as'=>
       cases bs' with
       | nil=>have:=congrArg List.length h2;simp at this;omega
       | cons b bs'=>
       obtain ⟨a1,a2⟩:=Q4i h1
       obtain ⟨b1,b2⟩:=Q4i h2
       simp only [U3] at hs
       unfold forL
       rw [Q1b a1,Q1b b1]
       simp only [U0]
       rw [Z9z hw S d n x u a b ((hw.ty t ht).at_ _ hc u (U1 u1)) (hk k u a u1 a1) (hk' k u b u1 b1) (by omega)]
       simp only [U0,Q56]
       cases hm:Q0t d a b with
       | none=>simp [Z5o,zP]
       | some m=>
        simp only [Z5o,Bool.not_true,U2,if_false,U0]
        rw [X2 (by simp only [U3,U4,Q6];omega)]
        simp only [U0]
        rw [ih (k+1) (s++[m]) as' bs' u2 a2 b2 (by simp;omega)]
        cases Q56 (Q0t d) as' bs' with
        | none=>simp
        | some ms=>simp
     have:=hlp (X4 w t c) 0 [] ks ks' rfl rfl rfl (by simp;omega)
     rw [this]
     cases Q56 (Q0t d) ks ks' with
     | none=>simp [Z5o]
     | some ms=>simp [Z5o]
    ·have ec:(!ieq c c')=true:=by simp [ieq,hcc]
     simp [ec,hcc,Z5o,zP]
theorem V0q {w:List Q3}(hw:WW w)(S:List Int){t:Q2}(ht:t∈tys w){c:Int}(hc:c∈X1 w t):Q3g ⟨w,S⟩ t c=some (Q69 w t c):=by
 unfold Q3g
 simp only
 rw [(hw.ty t ht).a2 c hc]
 simp only [U0]
 have hal:=(hw.ty t ht).al c hc
 rw [Q5a (fun _=>[Q0.mk 1 0 0 0 0 []]) 100 (X4 w t c) 0 [] (fun k x _ s hs=>by
  have:Q0p=some (Q0.mk 1 0 0 0 0 []):=rfl
  rw [this]
  simp only [U0]
  simp only [U3,U4] at hs
  rw [X2 (by simp only [U3,U4,Q6];omega)]
  rfl) (by
   have:∀ l:List Q2,(l.flatMap fun _=>[Q0.mk 1 0 0 0 0 []]).length=l.length:=fun l=>by induction l with | nil=>rfl | cons a l ih=>simp [ih]
   rw [this];simp;omega)]
 simp only [U0,List.nil_append,Q69]
 congr 2
 induction X4 w t c with
 | nil=>rfl
 | cons a l ih=>simp [ih]
theorem X2f (p:Q0):Q6s p=some (if p.op=1 then (0,9) else (p.n,p.m)):=by
 unfold Q6s
 by_cases h:p.op=1
 ·have:ieq p.op 1=true:=by rw [X5];exact h
  rw [if_pos this,if_pos h]
 ·have:ieq p.op 1=false:=by rw [X3];exact h
  rw [if_neg (by rw [this];simp),if_neg h]
theorem W7l {w:List Q3}{S:List Int}{n c0:Nat}{c:Int}{ks ks':List Q0}{fm:Q2→Q0→Q0→List Q0}{fj:Q0→Q0→Option Q0}{args:List Q2}
  (hl:ks.length=args.length) (hl':ks'.length=args.length) (ha3:args.length≤3)
  (hmin:∀ (k:Nat) (u:Q2) (a b:Q0),args[k]?=some u→ks[k]?=some a→ks'[k]?=some b→W2 n ⟨w,S⟩ u a b=some (fm u a b)∧Y0 n ⟨w,S⟩ u a b=some (Z5o (fj a b))) :
  ∀ (ts:List Q2) (k:Nat) (out front as' bs':List Q0),args.drop k=ts→ks.drop k=as'→ks'.drop k=bs'→front.length=k→out.length+(kmD fm fj ts as' bs').length≤50000→c0=c0→
  ∃ fr,forL (fun k1426 x1427 (s1422:(List Q0)×(List Q0))=>
   ((idx ks (k1426:Int)).bind fun x1558=>
   ((idx ks' (k1426:Int)).bind fun x1559=>
   ((W2 n ⟨w,S⟩ x1427 x1558 x1559).bind fun r1560=>
   ((forL (fun k1588 x1589 (s1584:(List Q0))=>
   ((Z1i ks (wadd .i64 (k1426:Int) 1)).bind fun x1596=>
   ((Q0g [s1422.2,[x1589],x1596]).bind fun r1597=>
   ((app s1584 [(Q0.mk 4 c 0 0 0 r1597)]).bind fun x1598=>
   some (Ctl.go x1598))))) 0 r1560 s1422.1).bind fun (o1583:Ctl (Ctl (List Q0) ((List Q0)×(List Q0))) ((List Q0)))=>match o1583 with
   | .ret r=>some r
   | .go _=>none
   | .brk s1592=>
   ((Y0 n ⟨w,S⟩ x1427 x1558 x1559).bind fun r1599=>
   (if (!r1599.2)=true then
   some (Ctl.brk (s1592,s1422.2))
   else
   ((app s1422.2 [r1599.1]).bind fun x1602=>
   some (Ctl.go (s1592,x1602)))))))))) k ts (out,front)=some (.brk (out++(kmD fm fj ts as' bs').map (fun q=>Q0.mk 4 c 0 0 0 (front++q)),fr)):=by
 intro ts
 induction ts with
 | nil=>
  intro k out front as' bs' h0 h1 h2 hf hs _
  exact ⟨front,by simp [forL,kmD]⟩
 | cons u ts ih=>
  intro k out front as' bs' h0 h1 h2 hf hs _
  obtain ⟨u1,u2⟩:=Q4i h0
  have hkl:=(List.getElem?_eq_some_iff.1 u1).1
  cases as' with
  | nil=>have:=congrArg List.length h1;simp at this;omega
  | cons a as'=>
  cases bs' with
  | nil=>have:=congrArg List.length h2;simp at this;omega
  | cons b bs'=>
  obtain ⟨a1,a2⟩:=Q4i h1
  obtain ⟨b1,b2⟩:=Q4i h2
  obtain ⟨m1,m2⟩:=hmin k u a b u1 a1 b1
  simp only [kmD,U5,U7] at hs
  have hw1:wadd .i64 (k:Int) 1=((k+1:Nat):Int):=by rw [V7]<;>omega
  have hdrop:Z1i ks ((k+1:Nat):Int)=some as':=by
   unfold Z1i
   rw [if_pos ⟨by omega,by omega⟩]
   simp [←a2]
  have has:as'.length≤3:=by rw [←a2];simp;omega
  unfold forL
  simp only [Q1b a1,Q1b b1,U0,m1,hw1,hdrop]
  have hin:=Q5a (ρ:=Ctl (List Q0) ((List Q0)×(List Q0))) (f:=fun (k1588:Nat) x1589 (s1584:(List Q0))=>
    ((Q0g [front,[x1589],as']).bind fun r1597=>
    ((app s1584 [(Q0.mk 4 c 0 0 0 r1597)]).bind fun x1598=>
    some (Ctl.go x1598)))) (fun x=>[Q0.mk 4 c 0 0 0 (front++x::as')]) 100000 (fm u a b) 0 out (fun k x _ s hs=>by
   simp only [U3,U4] at hs
   rw [W50 (by simp only [U3,U4];omega)]
   simp only [U0]
   rw [X2 (by simp only [U3,U4,Q6];omega)]
   simp) (by
    have:∀ l:List Q0,(l.flatMap fun x=>[Q0.mk 4 c 0 0 0 (front++x::as')]).length=l.length:=fun l=>by induction l with | nil=>rfl | cons a l ih=>simp [ih]
    rw [this];omega)
  have hfl:∀ l:List Q0,(l.flatMap fun x=>[Q0.mk 4 c 0 0 0 (front++x::as')])=l.map fun x=>Q0.mk 4 c 0 0 0 (front++x::as'):=fun l=>by induction l with | nil=>rfl | cons a l ih=>simp [ih]
  rw [hfl] at hin
  rw [hin]
  simp only [U0,m2]
  cases hm:fj a b with
  | none=>
   simp only [Z5o,Bool.not_false,if_true]
   refine ⟨front,?_⟩
   simp only [kmD,hm,List.append_nil,List.map_map]
   rfl
  | some m=>
   simp only [Z5o,Bool.not_true,U2,if_false]
   rw [X2 (by simp only [U3,U4,Q6];omega)]
   simp only [U0]
   rw [hm] at hs
   simp only [U7] at hs
   obtain ⟨fr,e⟩:=ih (k+1) (out++(fm u a b).map fun x=>Q0.mk 4 c 0 0 0 (front++x::as')) (front++[m]) as' bs' u2 a2 b2 (by simp;omega) (by simp only [U5,U7];omega) rfl
   refine ⟨fr,?_⟩
   rw [e]
   simp only [kmD,hm,List.map_append,List.map_map,List.append_assoc]
   congr 5
theorem Z7r {w:List Q3}(hw:WW w)(he:WE w)(S:List Int):∀ (d n x:Nat) (t:Q2) (a b:Q0),t∈tys w→X6 w x t a→X6 w d t b→cntP b≤10000→2 * d+5≤n→W2 n ⟨w,S⟩ t a b=some (W6 w d t a b)
 | 0,_,_,_,_,_,_,_,h,_,_=>h.elim
 | d+1,n,x,t,a,b,ht,ha,hb,hcnt,hn=>by
  obtain ⟨n,rfl⟩:∃ m,n=m+1:=⟨n-1,by omega⟩
  have i11:ieq 1 1=true:=rfl
  have i31:ieq 3 1=false:=rfl
  have i33:ieq 3 3=true:=rfl
  have i41:ieq 4 1=false:=rfl
  have i43:ieq 4 3=false:=rfl
  have e31:¬(3:Int)=1:=by decide
  have e41:¬(4:Int)=1:=by decide
  have e43:¬(4:Int)=3:=by decide
  obtain ⟨x,rfl,ha'⟩:=Z2e ha
  have hb0:=hb
  rcases hb with rfl | ⟨n2,m2,rfl,hd',g0,g1,g2⟩ | ⟨c',ks',rfl,hd',hc',hl',hk'⟩
  ·simp [W2,W6,i11]
  ·have hrg:∀ n1 m1:Int,0≤n1→m1≤9→Q34 n [n1,imin m1 (wsub .i64 n2 1),imax n1 (wadd .i64 m2 1),m1]=some (Z3j n1 m1 n2 m2):=fun n1 m1 h0 h9=>by
    rw [V5x (by omega),V4i,V4j,Q2m (by omega) (by omega),V7 (by omega) (by omega)]
    rfl
   rcases ha' with rfl | ⟨n1,m1,rfl,hd,h0,_,h9⟩ | ⟨c,ks,rfl,hd,_⟩
   ·simp only [W2,W6,i31,i33,e31,U2,if_false,if_true,X2f,U0]
    rw [hrg 0 9 (by omega) (by omega)]
    rfl
   ·simp only [W2,W6,i31,i33,e31,U2,if_false,if_true,X2f,U0]
    rw [hrg n1 m1 h0 h9]
    rfl
   ·exact absurd hd' hd
  ·have hcn:cntP (Q0.mk 4 c' 0 0 0 ks')=1+cntP.cntPs ks':=Q60 _
   have hkc:∀ q∈ks',cntP q≤10000:=fun q hq=>by
    have:=Z2y (p:=Q0.mk 4 c' 0 0 0 ks') (List.mem_iff_getElem?.1 hq).choose_spec
    omega
   have hA:∀ (N:Nat) (c:Int) (ks:List Q0) (y:Nat),2 * d+5≤N→c∈X1 w t→ks.length=(X4 w t c).length→(∀ (j:Nat) (a:Q2) (q:Q0),(X4 w t c)[j]?=some a→ks[j]?=some q→X6 w y a q)→
     W2 (N+1) ⟨w,S⟩ t (Q0.mk 4 c 0 0 0 ks) (Q0.mk 4 c' 0 0 0 ks')=some (cmD w (W6 w d) (Q0t d) t (Q0.mk 4 c 0 0 0 ks) (Q0.mk 4 c' 0 0 0 ks')):=fun N c ks y hN hc hl hk=>by
    simp only [W2,i41,i43,U2,if_false,cmD]
    by_cases hcc:c=c'
    ·subst hcc
     have ec:(!ieq c c)=false:=by simp [ieq]
     simp only [ec,U2,if_false,if_true]
     rw [(hw.ty t ht).a2 c hc]
     simp only [U0]
     have hlen:(kmD (W6 w d) (Q0t d) (X4 w t c) ks ks').length≤3 * cntP.cntPs ks':=
      W1f (X4 w t c) ks ks' fun j u p q h1 h2=>Q96 hw he d u p q ((hw.ty t ht).at_ _ hc u (U1 h1)) (hk' j u q h1 h2)
     obtain ⟨fr,e⟩:=W7l (w:=w) (S:=S) (n:=N) (c0:=0) (c:=c) (fm:=W6 w d) (fj:=Q0t d) hl hl' ((hw.ty t ht).al c hc) (fun k u p q h1 h2 h3=>
      have hu:=(hw.ty t ht).at_ _ hc u (U1 h1)
      ⟨Z7r hw he S d N y u p q hu (hk k u p h1 h2) (hk' k u q h1 h3) (hkc q (U1 h3)) (by omega),Z9z hw S d N y u p q hu (hk k u p h1 h2) (hk' k u q h1 h3) (by omega)⟩)
      (X4 w t c) 0 [] [] ks ks' rfl rfl rfl rfl (by simp only [U4];omega) rfl
     have e':=congrArg (fun z:Option (Ctl (List Q0) ((List Q0)×(List Q0)))=>z.bind fun o=>match o with | .ret r=>some r | .go _=>none | .brk s=>some s.1) e
     exact e'.trans (by simp)
    ·have ec:(!ieq c c')=true:=by simp [ieq,hcc]
     simp [ec,hcc]
   rcases ha' with rfl | ⟨n1,m1,rfl,hd,_⟩ | ⟨c,ks,rfl,hd,hc,hl,hk⟩
   ·simp only [W2,W6,i11,i41,i43,e41,e43,U2,if_false,if_true]
    rw [(hw.ty t ht).c2]
    simp only [U0]
    obtain ⟨N,rfl⟩:∃ m,n=m+1:=⟨n-1,by omega⟩
    have hlen:=Q96 hw he (d+1) t (Q0.mk 1 0 0 0 0 []) (Q0.mk 4 c' 0 0 0 ks') ht hb0
    simp only [W6,e41,e43,if_false,if_true] at hlen
    rw [Q5a (fun c=>cmD w (W6 w d) (Q0t d) t (Q69 w t c) (Q0.mk 4 c' 0 0 0 ks')) 1000000 (X1 w t) 0 [] (fun k c hc s hs=>by
     rw [V0q hw S ht hc]
     simp only [U0]
     rw [Q69,hA N c _ 1 (by omega) hc (by simp) (fun j a q ha hq=>by
      rw [List.getElem?_map,ha] at hq
      cases hq
      exact Z0y w 0 a)]
     simp only [U0]
     rw [X2 (by simp only [Q6];simp only [Q69] at hs;omega)]
     rfl) (by simp only [U4];omega)]
    simp
   ·exact absurd hd hd'
   ·rw [hA n c ks x (by omega) hc hl hk]
    simp [W6]
theorem Y0v {α:Type}{xs:List α}{i:Int}{x:α}(h0:0≤i)(h:i<xs.length):setI xs i x=some (xs.set i.toNat x):=by
 unfold setI
 rw [if_pos ⟨h0,by omega⟩]
theorem V5g {α:Type}{xs:List α}{i:Nat}(h:i≤xs.length):Q6a xs (i:Int)=some (xs.take i):=by
 unfold Q6a
 rw [if_pos ⟨by omega,by omega⟩]
 rfl
theorem X6s (f:Q0→Option Bool)(g:Q0→Bool):∀ (l:List Q0) (k:Nat),(∀ x∈l,f x=some (g x))→∃ i:Nat,
  (forL (ρ:=Int) (fun k70 x71 (_:Unit)=>((f x71).bind fun r78=>(if r78=true then some (Ctl.ret ((k70:Int))) else some (Ctl.go ())))) k l ()=some (.ret ((k+i:Nat):Int))∧(∃ x,l[i]?=some x∧g x=true)∧∀ x∈l.take i,g x=false)∨
  (forL (ρ:=Int) (fun k70 x71 (_:Unit)=>((f x71).bind fun r78=>(if r78=true then some (Ctl.ret ((k70:Int))) else some (Ctl.go ())))) k l ()=some (.brk ())∧∀ x∈l,g x=false)
 | [],k,_=>⟨0,.inr ⟨rfl,fun x hx=>by simp at hx⟩⟩
 | x::l,k,h=>by
  unfold forL
  rw [h x (by simp)]
  simp only [U0]
  cases hg:g x with
  | true=>exact ⟨0,.inl ⟨by simp,⟨x,rfl,hg⟩,by simp⟩⟩
  | false=>
   simp only [U2,if_false]
   obtain ⟨i,hi⟩:=X6s f g l (k+1) fun y hy=>h y (by simp [hy])
   rcases hi with ⟨e,⟨y,hy,gy⟩,hn⟩ | ⟨e,hn⟩
   ·refine ⟨i+1,.inl ⟨by rw [e];congr 3;omega,⟨y,by simpa using hy,gy⟩,fun z hz=>?_⟩⟩
    simp only [List.take_succ_cons,U8] at hz
    rcases hz with rfl | hz
    ·exact hg
    ·exact hn z hz
   ·exact ⟨0,.inr ⟨e,fun z hz=>by
     rcases U8.1 hz with rfl | hz
     ·exact hg
     ·exact hn z hz⟩⟩
theorem W4x {n:Nat}{l:List Q0}(f:Q0→Option Bool)(g:Q0→Bool)(hf:∀ x∈l,f x=some (g x))(hl:l.length≤10000000)(hn:l.length+5≤n):Q08 n l f=some (l.filter fun x=>!g x):=by
 suffices hs:Ret (Q08 n l f) (fun r=>r=l.filter fun x=>!g x) by
  obtain ⟨a,e,rfl⟩:=hs
  exact e
 unfold Q08
 have hix:∃ r,Q0e l f=some r∧((∃ i:Nat,r=(i:Int)∧(∃ x,l[i]?=some x∧g x=true)∧∀ x∈l.take i,g x=false)∨(r = -1∧∀ x∈l,g x=false)):=by
  obtain ⟨i,h⟩:=X6s f g l 0 hf
  unfold Q0e
  rcases h with ⟨e,h1,h2⟩ | ⟨e,h1⟩
  ·have e':=congrArg (fun z:Option (Ctl Int Unit)=>z.bind fun o=>match o with | .ret r=>some r | .go _=>none | .brk _=>some (-1)) e
   exact ⟨_,e',.inl ⟨i,by simp,h1,h2⟩⟩
  ·have e':=congrArg (fun z:Option (Ctl Int Unit)=>z.bind fun o=>match o with | .ret r=>some r | .go _=>none | .brk _=>some (-1)) e
   exact ⟨_,e',.inr ⟨rfl,h1⟩⟩
 obtain ⟨r,e,hr⟩:=hix
 rw [e]
 simp only [U0]
 rcases hr with ⟨i0,rfl,⟨x0,hx0,g0⟩,hn0⟩ | ⟨rfl,hno⟩
 ·have e1:ieq (i0:Int) (-1)=false:=by rw [X3];omega
  have hi0:=(List.getElem?_eq_some_iff.1 hx0).1
  simp only [e1,U2,if_false]
  rw [V7 (by omega) (by omega)]
  refine Ret.ctl (Q48 (fun s=>∃ i j:Nat,s.2.1=(i:Int)∧s.2.2=(j:Int)∧i≤j∧j≤l.length∧s.1.length=l.length∧s.1.take i=(l.take j).filter (fun x=>!g x)∧(∀ m,j≤m→s.1[m]?=l[m]?)∧i<l.length) (fun s=>l.length-s.2.2.toNat) (fun _=>False) (fun s=>∃ i:Nat,s.2.1=(i:Int)∧i≤s.1.length∧s.1.take i=l.filter (fun x=>!g x)) ?_ (fun s hI=>?_) n (by simp;omega)) (fun r hr=>hr.elim) (fun s hs=>?_)
  ·refine ⟨i0,i0+1,rfl,by simp,by omega,by omega,rfl,?_,fun m _=>rfl,hi0⟩
   have h1:(l.take i0).filter (fun x=>!g x)=l.take i0:=List.filter_eq_self.2 fun x hx=>by simp [hn0 x hx]
   rw [List.take_add_one,hx0,List.filter_append,h1]
   simp [g0]
  ·obtain ⟨i,j,e1,e2,h1,h2,h4,h5,h6,h7⟩:=hI
   obtain ⟨m,wi,rj⟩:=s
   simp only at e1 e2 h4 h5 h6
   subst e1 e2
   dsimp only
   rw [h4]
   by_cases hj:j<l.length
   ·have e:ilt (j:Int) (lenZ l.length)=true:=by rw [Z9,Q0j];omega
    simp only [e,if_true]
    obtain ⟨x,hx⟩:∃ x,l[j]?=some x:=⟨_,U10 hj⟩
    rw [Q1b (by rw [h6 j (Nat.le_refl _)];exact hx)]
    simp only [U0]
    rw [hf x (U1 hx)]
    simp only [U0]
    have hstep:(l.take (j+1)).filter (fun x=>!g x)=(l.take j).filter (fun x=>!g x)++(if g x=true then [] else [x]):=by
     rw [List.take_add_one,hx,List.filter_append]
     cases hc:g x<;>simp [hc]
    rw [V7 (a:=(j:Int)) (by omega) (by omega)]
    cases hc:g x with
    | true=>
     simp only [Bool.not_true,U2,if_false,U0]
     refine .some ⟨⟨i,j+1,rfl,by simp,by omega,by omega,h4,?_,fun m hm=>h6 m (by omega),h7⟩,by simp only;omega⟩
     rw [hstep,if_pos hc,h5];simp
    | false=>
     simp only [Bool.not_false,if_true]
     obtain ⟨y,hy⟩:∃ y,m[i]?=some y:=⟨_,U10 (by omega)⟩
     rw [Q1b hy]
     simp only [U0]
     rw [Y0v (by omega) (by omega),V7 (by omega) (by omega)]
     simp only [U0]
     have hfl:=List.length_filter_le (fun x=>!g x) (l.take j)
     have hil:i+1≤l.length:=by omega
     by_cases hi1:i+1<l.length
     ·refine .some ⟨⟨i+1,j+1,by simp,by simp,by omega,by omega,by simp [h4],?_,fun m' hm=>?_,hi1⟩,by simp only;omega⟩
      ·simp only
       rw [hstep,if_neg (by rw [hc];simp),←h5,List.take_add_one,List.take_set_of_le (by simp)]
       simp [show i<m.length by omega]
      ·simp only
       rw [List.getElem?_set_ne (by simp;omega)]
       exact h6 m' (by omega)
     ·exfalso
      have hij:i=j:=by omega
      have hk:((l.take j).filter fun x=>!g x).length=i:=by rw [←h5];simp;omega
      have hall:(l.take j).filter (fun x=>!g x)=l.take j:=(List.filter_sublist).eq_of_length (by rw [hk];simp;omega)
      have hj0:i0<j∨i0=j:=by omega
      rcases hj0 with hj0 | hj0
      ·have hm:x0∈l.take j:=U1 (i:=i0) (by rw [List.getElem?_take_of_lt hj0];exact hx0)
       rw [←hall] at hm
       have:=(List.mem_filter.1 hm).2
       simp [g0] at this
      ·subst hj0
       rw [hx] at hx0
       cases hx0
       rw [hc] at g0
       cases g0
   ·have e:ilt (j:Int) (lenZ l.length)=false:=by rw [X7,Q0j];omega
    simp only [e,U2,if_false]
    refine .some ⟨i,rfl,by simp only;omega,?_⟩
    simp only
    rw [h5,show j=l.length by omega,List.take_length]
  ·obtain ⟨i,e1,h1,h2⟩:=hs
   dsimp only
   rw [e1,V5g h1]
   exact .some h2
 ·have e1:ieq (-1) (-1)=true:=rfl
  simp only [e1,if_true]
  exact .some (List.filter_eq_self.2 fun x hx=>by simp [hno x hx]).symm
theorem W95 {l:List Q0}(h:l.length≤10000000):V8 l=some l:=by
 unfold V8
 rw [X2 (by simp [Q6];omega)]
 rfl
def chkF (w:List Q3):Bool:=(tys w).all fun t=>decide (Q28 (dimP w) t=some (depP w t))
theorem W54:Q0r.all chkF=true:=by kernel_rfl
theorem V73 {w:List Q3}(h:w∈Q0r){t:Q2}(ht:t∈tys w):Q28 (dimP w) t=some (depP w t):=by
 have:=List.all_eq_true.1 W54 w h
 simp only [chkF,List.all_eq_true,decide_eq_true_eq] at this
 exact this t ht
theorem W73 {w:List Q3}{d:Nat}{t:Q2}{p:Q0}(h:X6 w d t p):Q5k w t p=true∧V5 w t p=(if p.op=4 then X4 w t p.ctor else []):=by
 obtain ⟨e,rfl,h⟩:=Z2e h
 rcases h with rfl | ⟨n,m,rfl,hd,h0,h1,h2⟩ | ⟨c,ks,rfl,hd,hc,hl,hk⟩
 ·simp [Q5k,Z0j,V5]
 ·simp [Q5k,Z0j,V5,hd,h0,h1,h2]
 ·simp [Q5k,Z0j,V5,hc,hl]
theorem X3r {w:List Q3}(hw:WW w){d:Nat}{t:Q2}{p:Q0}(ht:t∈tys w)(h:X6 w d t p):Q5s w t p=some (if p.op=4 then X4 w t p.ctor else []):=by
 obtain ⟨h1,h2⟩:=W73 h
 obtain ⟨ts,e1,e2⟩:=W0x (hw.ty t ht) p
 unfold Q5s
 rw [e1]
 simp only [U0]
 rw [e2 h1,h2]
theorem Z7s {w:List Q3}(hww:w∈Q0r)(hw:WW w):∀ (d n:Nat) (t:Q2) (p:Q0),t∈tys w→X6 w d t p→d+1≤n→J4 n ⟨w,dimP w⟩ t p=some (Y5 w d t p)
 | 0,_,_,_,_,h,_=>h.elim
 | d+1,n,t,p,ht,hp,hn=>by
  obtain ⟨n,rfl⟩:∃ m,n=m+1:=⟨n-1,by omega⟩
  have hkt:=X3r hw ht hp
  have i11:ieq 1 1=true:=rfl
  have i31:ieq 3 1=false:=rfl
  have i32:ieq 3 2=false:=rfl
  have i35:ieq 3 5=false:=rfl
  have i41:ieq 4 1=false:=rfl
  have i42:ieq 4 2=false:=rfl
  have i45:ieq 4 5=false:=rfl
  have e31:¬(3:Int)=1:=by decide
  have e34:¬(3:Int)=4:=by decide
  have e41:¬(4:Int)=1:=by decide
  rcases hp with rfl | ⟨n1,m1,rfl,hd,_⟩ | ⟨c,ks,rfl,hd,hc,hl,hk⟩
  ·simp only [J4,i11,if_true,U0,V73 hww ht,Y5]
   rfl
  ·simp only [J4,i31,i32,i35,U2,if_false,U0,Y5,e31,e34]
   rw [hkt]
   simp [e34,forL]
  ·simp only [J4,i41,i42,i45,U2,if_false,U0,Y5,e41,if_true]
   rw [hkt]
   simp only [if_true,U0]
   have hlp:∀ (ts:List Q2) (k:Nat) (ks':List Q0),(X4 w t c).drop k=ts→ks.drop k=ks'→
     forL (ρ:=Bool) (fun k133 x134 (_:Unit)=>((idx ks (k133:Int)).bind fun x142=>((J4 n ⟨w,dimP w⟩ x134 x142).bind fun r143=>(if r143=true then some (Ctl.ret (true)) else some (Ctl.go ()))))) k ts ()=some (if ((ts.zip ks').any fun x=>Y5 w d x.1 x.2)=true then .ret true else .brk ()):=by
    intro ts
    induction ts with
    | nil=>intro k ks' _ _;simp [forL]
    | cons u ts ih=>
     intro k ks' h0 h1
     obtain ⟨u1,u2⟩:=Q4i h0
     have hkl:=(List.getElem?_eq_some_iff.1 u1).1
     cases ks' with
     | nil=>have:=congrArg List.length h1;simp at this;omega
     | cons q ks'=>
     obtain ⟨q1,q2⟩:=Q4i h1
     unfold forL
     simp only [Q1b q1,U0]
     rw [Z7s hww hw d n u q ((hw.ty t ht).at_ _ hc u (U1 u1)) (hk k u q u1 q1) (by omega)]
     simp only [U0,List.zip_cons_cons,List.any_cons]
     rcases Bool.eq_false_or_eq_true (Y5 w d u q) with hem | hem
     ·simp [hem]
     ·simp only [hem,U2,if_false,Bool.false_or]
      exact ih (k+1) ks' u2 q2
   have e:=hlp (X4 w t c) 0 ks rfl rfl
   have e':=congrArg (fun z:Option (Ctl Bool Unit)=>z.bind fun o=>match o with | .ret r=>some r | .go _=>none | .brk _=>some false) e
   refine e'.trans ?_
   cases ((X4 w t c).zip ks).any fun x=>Y5 w d x.1 x.2<;>simp
theorem Z5x {w:List Q3}(hww:w∈Q0r)(hw:WW w){d n:Nat}{t:Q2}(ht:t∈tys w){l:List Q0}(h:∀ a∈l,X6 w d t a)(hl:l.length≤10000000)(hn:l.length+d+5≤n):Q1d n ⟨w,dimP w⟩ t l=some (Q8c w d t l):=by
 unfold Q1d
 rw [W95 hl]
 simp only [U0]
 rw [W4x _ (fun p=>Y5 w d t p) (fun x hx=>by
  unfold Q3m
  rw [Z7s hww hw d n t x ht (h x hx) (by omega)]
  rfl) hl (by omega)]
 rfl
def optR:Option (List Q0)→List Q0×Bool
 | some r=>(r,true)
 | none=>([],false)
theorem X3s (w:List Q3)(x:Nat)(t:Q2)(l:List Q0):(Q8c w x t l).length≤l.length:=List.length_filter_le _ _
theorem Z3w {w:List Q3}(hww:w∈Q0r)(hw:WW w)(he:WE w){d x n:Nat}{t:Q2}(ht:t∈tys w)(hx:d+1≤x)(hx2:x≤100){l bs:List Q0}(hb:∀ b∈bs,X6 w d t b∧cntP b≤130)(h:∀ a∈l,X6 w x t a)(hl:l.length≤20000)(hn:20000000≤n) :
  Q1p n ⟨w,dimP w⟩ t l bs=some (optR (Q2h w d x t l bs)):=by
 unfold Q1p Q2h
 rw [Z5x hww hw ht h (by omega) (by omega)]
 simp only [U0]
 have hk:=X3s w x t l
 have hkp:∀ a∈Q8c w x t l,X6 w x t a:=fun a ha=>h a (List.mem_filter.1 ha).1
 generalize Q8c w x t l=s at hk hkp
 have hs:s.length≤20000:=by omega
 clear hk h hl
 have hlp:∀ (bs:List Q0) (k:Nat) (s:List Q0),(∀ b∈bs,X6 w d t b∧cntP b≤130)→(∀ a∈s,X6 w x t a)→s.length≤20000→
   forL (fun k871 x872 (s865:(List Q0))=>
   ((forL (fun k1028 x1029 (s1022:(List Q0))=>
   ((W2 n ⟨w,dimP w⟩ t x1029 x872).bind fun r1036=>
   ((app s1022 r1036).bind fun x1037=>
   some (Ctl.go x1037)))) 0 s865 []).bind fun (o1021:Ctl (Ctl ((List Q0)×Bool) ((List Q0))) ((List Q0)))=>match o1021 with
   | .ret r=>some r
   | .go _=>none
   | .brk s1032=>
   ((Q1d n ⟨w,dimP w⟩ t s1032).bind fun r1039=>
   (if (ilt 400 (lenZ r1039.length))=true then
   some (Ctl.ret (([],false)))
   else
   some (Ctl.go r1039))))) k bs s=some (match Q7b w d x t s bs with | some r=>.brk r | none=>.ret ([],false)):=by
  intro bs
  induction bs with
  | nil=>intro k s _ _ _;simp [forL,Q7b]
  | cons b bs ih=>
   intro k s hb hs hl
   obtain ⟨hb1,hb2⟩:=hb b (by simp)
   have hfl:=X5p hw he ht hb1 s
   have hfl2:(s.flatMap fun a=>W6 w d t a b).length≤7800000:=by
    have:s.length * (3 * cntP b)≤20000 * 390:=Nat.mul_le_mul (by omega) (by omega)
    omega
   unfold forL
   rw [Q5a (fun a=>W6 w d t a b) 10000000 s 0 [] (fun k a ha s' hs'=>by
    rw [Z7r hw he (dimP w) d n x t a b ht (hs a ha) hb1 (by omega) (by omega)]
    simp only [U0]
    rw [X2 (by simp only [Q6];omega)]
    rfl) (by simp only [U4];omega)]
   simp only [U0,List.nil_append]
   have hmp:∀ y∈s.flatMap (fun a=>W6 w d t a b),X6 w x t y:=fun y hy=>by
    obtain ⟨a,ha,hy⟩:=List.mem_flatMap.1 hy
    exact Q8x d x t a b hx (hs a ha) hb1 y hy
   rw [Z5x hww hw ht hmp (by omega) (by omega)]
   simp only [U0,Q7b]
   have hst:Q8c w x t (s.flatMap fun a=>W6 w d t a b)=Q3w w d x t s b:=rfl
   rw [hst]
   by_cases hc:400<(Q3w w d x t s b).length
   ·have e:ilt 400 (lenZ (Q3w w d x t s b).length)=true:=by rw [Z9,Q0j];omega
    simp only [e,if_true,if_pos hc]
   ·have e:ilt 400 (lenZ (Q3w w d x t s b).length)=false:=by rw [X7,Q0j];omega
    simp only [e,U2,if_false,if_neg hc]
    exact ih (k+1) _ (fun b hb'=>hb b (by simp [hb'])) (Q91 hx hb1 hs) (by omega)
 have e:=hlp bs 0 s hb hkp hs
 have e':=congrArg (fun z:Option (Ctl ((List Q0)×Bool) (List Q0))=>z.bind fun o=>match o with | .ret r=>some r | .go _=>none | .brk s=>some (s,true)) e
 refine e'.trans ?_
 cases Q7b w d x t s bs<;>simp [optR]
theorem W9f:∀ (d n:Nat) (p:Q0),X1z d p→d≤n→cntP p≤1000→J1 n p=some (W4 d p)
 | 0,_,_,h,_,_=>h.elim
 | d+1,n,p,h,hn,hc=>by
  obtain ⟨n,rfl⟩:∃ m,n=m+1:=⟨n-1,by omega⟩
  have hcp:=Q60 p
  have hkid:∀ q∈p.kids,J1 n q=some (W4 d q):=fun q hq=>by
   obtain ⟨j,hj⟩:=List.mem_iff_getElem?.1 hq
   have:=Z2y hj
   exact W9f d n q (h q hq) (by omega) (by omega)
  have hlen:p.kids.length≤1000:=by
   have:∀ l:List Q0,l.length≤cntP.cntPs l:=fun l=>by
    induction l with
    | nil=>simp
    | cons a l ih=>have:=Z1k a;simp only [U3,cntP.cntPs];omega
   have:=this p.kids
   omega
  have hloop:=Q5a (ρ:=Q0) (f:=fun (k102:Nat) x103 (s96:(List Q0))=>((J1 n x103).bind fun r110=>((app s96 [r110]).bind fun x111=>some (Ctl.go x111)))) (fun q=>[W4 d q]) 100000 p.kids 0 [] (fun k q hq s hs=>by
   rw [hkid q hq]
   simp only [U0]
   simp only [U3,U4] at hs
   rw [X2 (by simp only [U3,U4,Q6];omega)]
   rfl) (by
    have:∀ l:List Q0,(l.flatMap fun q=>[W4 d q]).length=l.length:=fun l=>by induction l with | nil=>rfl | cons a l ih=>simp [ih]
    rw [this];simp only [U4];omega)
  have hfl:∀ l:List Q0,(l.flatMap fun q=>[W4 d q])=l.map (W4 d):=fun l=>by induction l with | nil=>rfl | cons a l ih=>simp [ih]
  rw [hfl] at hloop
  have hany:Q0p=some (Q0.mk 1 0 0 0 0 []):=rfl
  by_cases h2:p.op=2
  ·have e:ieq p.op 2=true:=by rw [X5];exact h2
   have hb:W4 (d+1) p=Q0.mk 1 0 0 0 0 []:=by simp [W4,h2]
   rw [hb]
   simp only [J1,e,if_true,hany,U0]
  ·have e:ieq p.op 2=false:=by rw [X3];exact h2
   by_cases h6:p.op=6
   ·have e6:ieq p.op 6=true:=by rw [X5];exact h6
    cases hk:p.kids with
    | nil=>
     have e0:ilt 0 (lenZ p.kids.length)=false:=by rw [X7,hk,Q0j];simp
     rw [hk] at hloop
     simp only [J1,e,e6,e0,U2,if_false,if_true,U0,W4,h2,hk]
     have e':=congrArg (fun z:Option (Ctl Q0 (List Q0))=>z.bind fun o=>match o with | .ret r=>some r | .go _=>none | .brk s=>some (Q0.mk p.op p.ctor p.n p.m p.var s)) hloop
     refine e'.trans ?_
     simp
    | cons q ks=>
     have e0:ilt 0 (lenZ p.kids.length)=true:=by rw [Z9,hk,Q0j];simp
     have hq:=hkid q (by simp [hk])
     have hix:idx p.kids 0=some q:=Q1b (i:=0) (by simp [hk])
     have hb:W4 (d+1) p=W4 d q:=by simp [W4,h6,hk]
     rw [hb]
     simp only [J1,e,e6,e0,U2,if_false,if_true,hix,U0,hq]
   ·have e6:ieq p.op 6=false:=by rw [X3];exact h6
    simp only [J1,e,e6,U2,if_false,U0,W4,h2,h6,false_and]
    have e':=congrArg (fun z:Option (Ctl Q0 (List Q0))=>z.bind fun o=>match o with | .ret r=>some r | .go _=>none | .brk s=>some (Q0.mk p.op p.ctor p.n p.m p.var s)) hloop
    refine e'.trans ?_
    simp
theorem Z6f {w:List Q3}(hw:WW w):∀ (d:Nat) (t:Q2) (p:Q0),t∈tys w→altD w d t p→orOk d p
 | 0,_,_,_,h=>h.elim
 | d+1,t,p,ht,h=>by
  rcases h with rfl | ⟨n,m,rfl,h⟩ | ⟨c,ks,rfl,h1,h2,h3,h4⟩ | ⟨a,b,rfl,h1,h2⟩
  ·exact ⟨by simp,by simp,by simp⟩
  ·exact ⟨by simp,by simp,by simp⟩
  ·refine ⟨by simp only;rw [h3];exact (hw.ty t ht).al c h2,by simp,fun q hq=>?_⟩
   obtain ⟨j,hj⟩:=List.mem_iff_getElem?.1 hq
   obtain ⟨a,ha⟩:=Q27 h3.symm (List.getElem?_eq_some_iff.1 hj).1
   exact Z6f hw d a q ((hw.ty t ht).at_ _ h2 a (U1 ha)) (h4 j a q ha hj)
  ·refine ⟨by simp,by simp,fun q hq=>?_⟩
   simp at hq
   rcases hq with rfl | rfl
   ·exact Z6f hw d t _ ht h1
   ·exact Z6f hw d t _ ht h2
theorem Q9l {w:List Q3}(t:Q2)(h:t.data = -1):X1 w t=[]:=by
 unfold X1 Q0m
 have:ieq t.data (-1)=true:=by rw [X5];exact h
 rw [if_pos this]
 rfl
def Q72 (p:Q0):Option (List Q0):=if 40<(Q9 10 (W4 10 p)).length then none else some (Q9 10 (W4 10 p))
theorem Z7q {w:List Q3}(hw:WW w){n:Nat}{t:Q2}{p:Q0}(ht:t∈tys w)(g:J6 w 10 t p=true)(hc:cntP p≤1000)(hn:100≤n):Q5r n p=some (optR (Q72 p)):=by
 have ha:=Q84 Q9l 10 t p g
 have ho:=Z6f hw 10 t _ ht ha
 unfold Q5r Q72
 rw [W9f 10 n p (Q9e 10 t p g) (by omega) hc]
 simp only [U0]
 rw [Z6b 10 n _ ho (by omega)]
 simp only [U0]
 by_cases h:40<(Q9 10 (W4 10 p)).length
 ·have e:ilt 40 ((min (Q9 10 (W4 10 p)).length 401:Nat):Int)=true:=by rw [Z9];omega
  simp only [e,if_true,if_pos h]
  rfl
 ·have e:ilt 40 ((min (Q9 10 (W4 10 p)).length 401:Nat):Int)=false:=by rw [X7];omega
  simp only [e,U2,if_false,if_neg h]
  rw [Z7p 10 n _ ho (by omega) (by omega)]
  rfl
theorem Z73 (l:List Q0)(f:Q0→Option Bool)(g:Q0→Bool)(hf:∀ x∈l,f x=some (g x)):Q1n l f=some (l.any g):=W2n (Z39 l f g hf)
def Q31:List Q5→Option (List Q0)
 | []=>some []
 | c::cs=>if c.guard.op=0 then (Q72 c.pat).bind fun l=>(Q31 cs).map (l++·) else Q31 cs
theorem Q89 {p:Q0}{l:List Q0}(h:Q72 p=some l):l.length≤40∧l=Q9 10 (W4 10 p):=by
 unfold Q72 at h
 split at h
 ·cases h
 ·cases h;exact ⟨by omega,rfl⟩
theorem X6w {w:List Q3}(hw:WW w){n:Nat}{t:Q2}(ht:t∈tys w)(hn:100≤n):∀ (cs:List Q5),(∀ c∈cs,J6 w 10 t c.pat=true∧cntP c.pat≤1000)→cs.length≤1000→Q5u n cs=some (optR (Q31 cs)):=fun cs h hl=>by
 have hlp:∀ (cs:List Q5) (k:Nat) (s:List Q0),(∀ c∈cs,J6 w 10 t c.pat=true∧cntP c.pat≤1000)→s.length+40 * cs.length≤100000→
   forL (fun k130 x131 (s124:(List Q0))=>
   (((if (!ieq x131.guard.op 0)=true then
   some (Ctl.brk s124)
   else
   ((Q5r n x131.pat).bind fun r148=>
   (if (!r148.2)=true then
   some (Ctl.ret (Ctl.ret (([],false))))
   else
   ((app s124 r148.1).bind fun x151=>
   some (Ctl.brk x151)))))).bind fun (o143:Ctl (Ctl ((List Q0)×Bool) ((List Q0))) ((List Q0)))=>match o143 with
   | .ret r=>some r
   | .go _=>none
   | .brk s142=>
   some (Ctl.go s142))) k cs s=some (match Q31 cs with | some r=>.brk (s++r) | none=>.ret ([],false)):=by
  intro cs
  induction cs with
  | nil=>intro k s _ _;simp [forL,Q31]
  | cons c cs ih=>
   intro k s h hs
   obtain ⟨g,hc⟩:=h c (by simp)
   simp only [U3] at hs
   unfold forL
   by_cases hg:c.guard.op=0
   ·have e:(!ieq c.guard.op 0)=false:=by simp [ieq,hg]
    simp only [e,U2,if_false]
    rw [Z7q hw ht g hc hn]
    simp only [U0,Q31,if_pos hg]
    cases hp:Q72 c.pat with
    | none=>simp [optR]
    | some l=>
     have hl:=(Q89 hp).1
     simp only [optR,Bool.not_true,U2,if_false,U0]
     rw [X2 (by simp only [Q6];omega)]
     simp only [U0]
     rw [ih (k+1) (s++l) (fun c hc=>h c (by simp [hc])) (by simp only [U5];omega)]
     cases Q31 cs with
     | none=>simp
     | some r=>simp
   ·have e:(!ieq c.guard.op 0)=true:=by simp [ieq,hg]
    simp only [e,if_true,U0,Q31,if_neg hg]
    exact ih (k+1) s (fun c hc=>h c (by simp [hc])) (by omega)
 have e:=hlp cs 0 [] h (by simp only [U4];omega)
 unfold Q5u
 have e':=congrArg (fun z:Option (Ctl ((List Q0)×Bool) (List Q0))=>z.bind fun o=>match o with | .ret r=>some r | .go _=>none | .brk s=>some (s,true)) e
 refine e'.trans ?_
 cases Q31 cs<;>simp [optR]
theorem X3g {w:List Q3}(hw:WW w){n:Nat}(hn:100≤n){t:Q2}(ht:t∈tys w)(p:Q0):Q58 n w t p=some (Q1v w t p):=by
 unfold Q58
 obtain ⟨r,e,h1,_⟩:=Z3t hw hn t p ht
 rw [e]
 simp only [U0,h1]
theorem W3i {w:List Q3}{t:Q2}{n:Nat}(hn:10≤n):∀ {l:List Q0},(∀ p∈l,Q1v w t p=true)→l.length≤100000→Q44 n l=some l:=fun {l} h hl=>by
 unfold Q44
 have hloop:=Q5a (ρ:=List Q0) (f:=fun (k70:Nat) x71 (s64:(List Q0))=>((Q16 n x71).bind fun r78=>((app s64 [r78]).bind fun x79=>some (Ctl.go x79)))) (fun q=>[q]) 1000000 l 0 [] (fun k q hq s hs=>by
  obtain ⟨g,hc,_⟩:=Q3q (h q hq)
  rw [X2n 10 n q (Q9e 10 t q g) hn (by omega)]
  simp only [U0]
  simp only [U3,U4] at hs
  rw [X2 (by simp only [U3,U4,Q6];omega)]
  rfl) (by
   have:∀ l:List Q0,(l.flatMap fun q=>[q]).length=l.length:=fun l=>by induction l with | nil=>rfl | cons a l ih=>simp [ih]
   rw [this];simp only [U4];omega)
 have hfl:∀ l:List Q0,(l.flatMap fun q=>[q])=l:=fun l=>by induction l with | nil=>rfl | cons a l ih=>simp [ih]
 rw [hfl] at hloop
 have e':=congrArg (fun z:Option (Ctl (List Q0) (List Q0))=>z.bind fun o=>match o with | .ret r=>some r | .go _=>none | .brk s=>some s) hloop
 exact e'.trans (by simp)
def Z1u (w:List Q3)(t:Q2):Option (List Q0)→Option (List Q0)
 | none=>none
 | some l=>if l.all (Q1v w t)=true then some l else none
theorem Z5v {w:List Q3}(hw:WW w){S:List Int}{n:Nat}(hn:100≤n){t:Q2}(ht:t∈tys w)(o:Option (List Q0))(ho:∀ l,o=some l→l.length≤100000) :
  Q2z n ⟨w,S⟩ t (optR o).1 (optR o).2=some (optR (Z1u w t o)):=by
 unfold Q2z
 cases o with
 | none=>simp [optR,Z1u]
 | some l=>
  simp only [optR,Bool.not_true,U2,if_false]
  rw [Z73 l _ (fun p=>!Q1v w t p) (fun p _=>by
   unfold Q3l
   rw [X3g hw hn ht p]
   rfl)]
  simp only [U0,Z1u]
  by_cases h:l.all (Q1v w t)=true
  ·have e:(l.any fun p=>!Q1v w t p)=false:=by
    rw [List.any_eq_false]
    intro p hp
    simp [List.all_eq_true.1 h p hp]
   simp only [e,U2,if_false,if_pos h]
   rw [W3i (by omega) (fun p hp=>List.all_eq_true.1 h p hp) (ho l rfl)]
   rfl
  ·have e:(l.any fun p=>!Q1v w t p)=true:=by
    rw [List.any_eq_true]
    simp only [List.all_eq_true,Classical.not_forall] at h
    obtain ⟨p,hp,h⟩:=h
    exact ⟨p,hp,by simpa using h⟩
   simp only [e,if_true,if_neg h]
theorem Z7i {w:List Q3}(hw:WW w):∀ (d n:Nat) (t:Q2) (p:Q0),t∈tys w→X6 w d t p→d+1≤n→Y2 n w (tabP w) t p=some (!Y5 w d t p)
 | 0,_,_,_,_,h,_=>h.elim
 | d+1,n,t,p,ht,hp,hn=>by
  obtain ⟨n,rfl⟩:∃ m,n=m+1:=⟨n-1,by omega⟩
  have i11:ieq 1 1=true:=rfl
  have i31:ieq 3 1=false:=rfl
  have i33:ieq 3 3=true:=rfl
  have i41:ieq 4 1=false:=rfl
  have i43:ieq 4 3=false:=rfl
  have e31:¬(3:Int)=1:=by decide
  have e34:¬(3:Int)=4:=by decide
  have e41:¬(4:Int)=1:=by decide
  rcases hp with rfl | ⟨n1,m1,rfl,hd,_⟩ | ⟨c,ks,rfl,hd,hc,hl,hk⟩
  ·simp only [Y2,i11,if_true,U0,(hw.ty t ht).d1,Y5]
   have:=(hw.ty t ht).d0
   by_cases h:depP w t=0
   ·simp [h,ilt]
   ·have e:ilt 0 (depP w t)=true:=by rw [Z9];omega
    simp [h,e]
  ·simp [Y2,i31,i33,Y5,e34]
  ·simp only [Y2,i41,i43,U2,if_false,Y5,e41,if_true]
   rw [(hw.ty t ht).a1 c hc]
   simp only [U0]
   have hlp:∀ (ts:List Q2) (k:Nat) (ks':List Q0),(X4 w t c).drop k=ts→ks.drop k=ks'→
     forL (ρ:=Bool) (fun k87 x88 (s81:Unit)=>((idx ks (k87:Int)).bind fun x96=>((Y2 n w (tabP w) x88 x96).bind fun r97=>(if (!r97)=true then some (Ctl.ret (false)) else some (Ctl.go ()))))) k ts ()=some (if ((ts.zip ks').any fun x=>Y5 w d x.1 x.2)=true then .ret false else .brk ()):=by
    intro ts
    induction ts with
    | nil=>intro k ks' _ _;simp [forL]
    | cons u ts ih=>
     intro k ks' h0 h1
     obtain ⟨u1,u2⟩:=Q4i h0
     have hkl:=(List.getElem?_eq_some_iff.1 u1).1
     cases ks' with
     | nil=>have:=congrArg List.length h1;simp at this;omega
     | cons q ks'=>
     obtain ⟨q1,q2⟩:=Q4i h1
     unfold forL
     simp only [Q1b q1,U0]
     rw [Z7i hw d n u q ((hw.ty t ht).at_ _ hc u (U1 u1)) (hk k u q u1 q1) (by omega)]
     simp only [U0,List.zip_cons_cons,List.any_cons]
     rcases Bool.eq_false_or_eq_true (Y5 w d u q) with hem | hem
     ·simp [hem]
     ·simp only [hem,Bool.not_false,Bool.not_true,U2,if_false,Bool.false_or]
      exact ih (k+1) ks' u2 q2
   have e:=hlp (X4 w t c) 0 ks rfl rfl
   have e':=congrArg (fun z:Option (Ctl Bool Unit)=>z.bind fun o=>match o with | .ret r=>some r | .go _=>none | .brk _=>some true) e
   refine e'.trans ?_
   cases ((X4 w t c).zip ks).any fun x=>Y5 w d x.1 x.2<;>simp
theorem Z7e {w:List Q3}(hw:WW w){d n:Nat}{t:Q2}(ht:t∈tys w){l:List Q0}(h:∀ a∈l,X6 w d t a)(hl:l.length≤1000000)(hn:d+1≤n):Q3x n w (tabP w) t l=some (Q8c w d t l):=by
 have hlp:∀ (l:List Q0) (k:Nat) (s:List Q0),(∀ a∈l,X6 w d t a)→s.length+l.length≤1000000→
   forL (ρ:=List Q0) (fun k100 x101 (s94:(List Q0))=>
   ((((Y2 n w (tabP w) t x101).bind fun r113=>
   (if r113=true then
   ((app s94 [x101]).bind fun x115=>
   some (Ctl.brk x115))
   else
   some (Ctl.brk s94)))).bind fun (o110:Ctl (Ctl (List Q0) (List Q0)) ((List Q0)))=>match o110 with
   | .ret r=>some r
   | .go _=>none
   | .brk s109=>
   some (Ctl.go s109))) k l s=some (.brk (s++Q8c w d t l)):=by
  intro l
  induction l with
  | nil=>intro k s _ _;simp [forL,Q8c]
  | cons a l ih=>
   intro k s h hs
   simp only [U3] at hs
   unfold forL
   rw [Z7i hw d n t a ht (h a (by simp)) hn]
   simp only [U0]
   rcases Bool.eq_false_or_eq_true (Y5 w d t a) with hem | hem
   ·simp only [hem,Bool.not_true,U2,if_false,U0]
    rw [ih (k+1) s (fun a ha=>h a (by simp [ha])) (by omega)]
    simp [Q8c,hem]
   ·simp only [hem,Bool.not_false,if_true]
    rw [X2 (by simp only [U3,U4,Q6];omega)]
    simp only [U0]
    rw [ih (k+1) (s++[a]) (fun a ha=>h a (by simp [ha])) (by simp only [U5,U3,U4];omega)]
    simp [Q8c,hem]
 have e:=hlp l 0 [] h (by simp only [U4];omega)
 have e':=congrArg (fun z:Option (Ctl (List Q0) (List Q0))=>z.bind fun o=>match o with | .ret r=>some r | .go _=>none | .brk s=>some s) e
 exact e'.trans (by simp)
theorem Z94 {w:List Q3}(hw:WW w):∀ (d n x:Nat) (t:Q2) (a b:Q0),t∈tys w→X6 w x t a→X6 w d t b→d+3≤n→∃ q,Q13 n a b=some (match Q0t d a b with | some m=>(m,true) | none=>(q,false))
 | 0,_,_,_,_,_,_,_,h,_=>h.elim
 | d+1,n,x,t,a,b,ht,ha,hb,hn=>by
  obtain ⟨n,rfl⟩:∃ m,n=m+1:=⟨n-1,by omega⟩
  obtain ⟨x,rfl,ha⟩:=Z2e ha
  have i11:ieq 1 1=true:=rfl
  have i31:ieq 3 1=false:=rfl
  have i33:ieq 3 3=true:=rfl
  have i41:ieq 4 1=false:=rfl
  have i43:ieq 4 3=false:=rfl
  have e31:¬(3:Int)=1:=by decide
  have e41:¬(4:Int)=1:=by decide
  have e43:¬(4:Int)=3:=by decide
  rcases ha with rfl | ⟨n1,m1,rfl,hd,_⟩ | ⟨c,ks,rfl,hd,hc,hl,hk⟩
  ·exact ⟨zP,by simp [Q13,Q0t,i11]⟩
  ·rcases hb with rfl | ⟨n2,m2,rfl,_⟩ | ⟨c',ks',rfl,hd',_⟩
   ·exact ⟨zP,by simp [Q13,Q0t,i11,i31]⟩
   ·refine ⟨Q0.mk 3 0 (max n1 n2) (min m1 m2) 0 [],?_⟩
    simp only [Q13,Q0t,i31,i33,e31,U2,if_false,if_true]
    have h1:(if ilt n1 n2=true then some (Ctl.brk n2) else some (Ctl.brk n1):Option (Ctl (Q0×Bool) Int))=some (Ctl.brk (max n1 n2)):=by
     by_cases h:n1<n2
     ·rw [if_pos (by rw [Z9];exact h)];congr 2;omega
     ·rw [if_neg (by rw [Z9];exact h)];congr 2;omega
    have h2:(if ilt m2 m1=true then some (Ctl.brk m2) else some (Ctl.brk m1):Option (Ctl (Q0×Bool) Int))=some (Ctl.brk (min m1 m2)):=by
     by_cases h:m2<m1
     ·rw [if_pos (by rw [Z9];exact h)];congr 2;omega
     ·rw [if_neg (by rw [Z9];exact h)];congr 2;omega
    rw [h1,h2]
    simp only [U0]
    by_cases h:max n1 n2≤min m1 m2
    ·have:ile (max n1 n2) (min m1 m2)=true:=by rw [Q0l];exact h
     simp [h,this]
    ·have:ile (max n1 n2) (min m1 m2)=false:=by rw [Q30];omega
     simp [h,this]
   ·exact absurd hd hd'
  ·rcases hb with rfl | ⟨n2,m2,rfl,hd',_⟩ | ⟨c',ks',rfl,_,hc',hl',hk'⟩
   ·exact ⟨zP,by simp [Q13,Q0t,i11,i41]⟩
   ·exact absurd hd' hd
   ·refine ⟨zP,?_⟩
    simp only [Q13,Q0t,i41,i43,e41,e43,U2,if_false]
    by_cases hcc:c=c'
    ·subst hcc
     have ec:(!ieq c c)=false:=by simp [ieq]
     simp only [ec,U2,if_false,if_true]
     have hal:=(hw.ty t ht).al c hc
     have hlp:∀ (as':List Q0) (k:Nat) (s:List Q0) (bs':List Q0),ks.drop k=as'→ks'.drop k=bs'→s.length+as'.length≤100→
       forL (fun k132 x133 (s126:(List Q0))=>
        ((idx ks' (k132:Int)).bind fun x143=>
        ((Q13 n x133 x143).bind fun r144=>
        (if (!r144.2)=true then
        some (Ctl.ret (((Q0.mk 0 0 0 0 0 []),false)))
        else
        ((app s126 [r144.1]).bind fun x147=>
        some (Ctl.go x147)))))) k as' s=some (match Q56 (Q0t d) as' bs' with | some ms=>.brk (s++ms) | none=>.ret (zP,false)):=by
      intro as'
      induction as' with
      | nil=>
       intro k s bs' h1 h2 _
       simp [forL,Q56]
      | cons a as' ih=>
       intro k s bs' h1 h2 hs
       obtain ⟨a1,a2⟩:=Q4i h1
       have hkl:=(List.getElem?_eq_some_iff.1 a1).1
       cases bs' with
       | nil=>have:=congrArg List.length h2;simp at this;omega
       | cons b bs'=>
       obtain ⟨b1,b2⟩:=Q4i h2
       obtain ⟨u,u1⟩:=Q27 (l:=X4 w t c) (j:=k) rfl (by omega)
       simp only [U3] at hs
       unfold forL
       rw [Q1b b1]
       simp only [U0]
       obtain ⟨q,e⟩:=Z94 hw d n x u a b ((hw.ty t ht).at_ _ hc u (U1 u1)) (hk k u a u1 a1) (hk' k u b u1 b1) (by omega)
       rw [e]
       simp only [U0,Q56]
       cases hm:Q0t d a b with
       | none=>simp [zP]
       | some m=>
        simp only [Bool.not_true,U2,if_false,U0]
        rw [X2 (by simp only [U3,U4,Q6];omega)]
        simp only [U0]
        rw [ih (k+1) (s++[m]) bs' a2 b2 (by simp;omega)]
        cases Q56 (Q0t d) as' bs' with
        | none=>simp
        | some ms=>simp
     have:=hlp ks 0 [] ks' rfl rfl (by simp;omega)
     rw [this]
     cases Q56 (Q0t d) ks ks' with
     | none=>simp
     | some ms=>simp
    ·have ec:(!ieq c c')=true:=by simp [ieq,hcc]
     simp [ec,hcc,zP]
theorem Z53 {n1 m1 n2 m2:Int}{a b:Q0}(ha:a.n=n1∧a.m=m1)(hb:b.n=n2∧b.m=m2)(h1:0≤n2)(h2:n2≤9)(h3:0≤m2)(h4:m2≤9):Q4k a b=some (Z3j n1 m1 n2 m2):=by
 obtain ⟨rfl,rfl⟩:=ha
 obtain ⟨rfl,rfl⟩:=hb
 unfold Q4k Z3j
 have w1:wsub .i64 b.n 1=b.n-1:=Q2m (by omega) (by omega)
 have w2:wadd .i64 b.m 1=b.m+1:=V7 (by omega) (by omega)
 simp only [w1,w2]
 have g1:(if ilt (b.n-1) a.m=true then some (Ctl.brk (b.n-1)) else some (Ctl.brk a.m):Option (Ctl (List Q0) Int))=some (Ctl.brk (min a.m (b.n-1))):=by
  by_cases h:b.n-1<a.m
  ·rw [if_pos (by rw [Z9];exact h)];congr 2;omega
  ·rw [if_neg (by rw [Z9];exact h)];congr 2;omega
 have g2:(if ilt a.n (b.m+1)=true then some (Ctl.brk (b.m+1)) else some (Ctl.brk a.n):Option (Ctl (List Q0) Int))=some (Ctl.brk (max a.n (b.m+1))):=by
  by_cases h:a.n<b.m+1
  ·rw [if_pos (by rw [Z9];exact h)];congr 2;omega
  ·rw [if_neg (by rw [Z9];exact h)];congr 2;omega
 rw [g1,g2]
 simp only [U0]
 by_cases c1:a.n≤min a.m (b.n-1)
 ·by_cases c2:max a.n (b.m+1)≤a.m
  ·have e1:ile a.n (min a.m (b.n-1))=true:=by rw [Q0l];exact c1
   have e2:ile (max a.n (b.m+1)) a.m=true:=by rw [Q0l];exact c2
   simp [e1,e2,c1,c2,app,Q6]
  ·have e1:ile a.n (min a.m (b.n-1))=true:=by rw [Q0l];exact c1
   have e2:ile (max a.n (b.m+1)) a.m=false:=by rw [Q30];omega
   simp [e1,e2,c1,c2,app,Q6]
 ·by_cases c2:max a.n (b.m+1)≤a.m
  ·have e1:ile a.n (min a.m (b.n-1))=false:=by rw [Q30];omega
   have e2:ile (max a.n (b.m+1)) a.m=true:=by rw [Q0l];exact c2
   simp [e1,e2,c1,c2,app,Q6]
  ·have e1:ile a.n (min a.m (b.n-1))=false:=by rw [Q30];omega
   have e2:ile (max a.n (b.m+1)) a.m=false:=by rw [Q30];omega
   simp [e1,e2,c1,c2,app,Q6]
theorem V5e {w:List Q3}(hw:WW w){t:Q2}(ht:t∈tys w){c:Int}(hc:c∈X1 w t):Q2i w t c=some (Q69 w t c):=by
 unfold Q2i
 rw [(hw.ty t ht).a1 c hc]
 simp only [U0]
 have hal:=(hw.ty t ht).al c hc
 rw [Q5a (fun _=>[Q0.mk 1 0 0 0 0 []]) 100 (X4 w t c) 0 [] (fun k x _ s hs=>by
  have:Q3y=some (Q0.mk 1 0 0 0 0 []):=rfl
  rw [this]
  simp only [U0]
  simp only [U3,U4] at hs
  rw [X2 (by simp only [U3,U4,Q6];omega)]
  rfl) (by
   have:∀ l:List Q2,(l.flatMap fun _=>[Q0.mk 1 0 0 0 0 []]).length=l.length:=fun l=>by induction l with | nil=>rfl | cons a l ih=>simp [ih]
   rw [this];simp;omega)]
 simp only [U0,List.nil_append,Q69]
 congr 2
 induction X4 w t c with
 | nil=>rfl
 | cons a l ih=>simp [ih]
theorem X1g {n:Nat}{c:Int}{ks ks':List Q0}{fm:Q2→Q0→Q0→List Q0}{fj:Q0→Q0→Option Q0}{args:List Q2}{w:List Q3}
  (hl:ks.length=args.length) (hl':ks'.length=args.length) (ha3:args.length≤3)
  (hmin:∀ (k:Nat) (u:Q2) (a b:Q0),args[k]?=some u→ks[k]?=some a→ks'[k]?=some b→Y8 n w u a b=some (fm u a b)∧∃ q,Q13 n a b=some (match fj a b with | some m=>(m,true) | none=>(q,false))) :
  ∀ (ts:List Q2) (k:Nat) (out front as' bs':List Q0),args.drop k=ts→ks.drop k=as'→ks'.drop k=bs'→front.length=k→out.length+(kmD fm fj ts as' bs').length≤50000→
  ∃ o:Ctl (List Q0) ((List Q0)×(List Q0)),(match o with | .ret r=>some r | .go _=>none | .brk s=>some s.1)=some (out++(kmD fm fj ts as' bs').map (fun q=>Q0.mk 4 c 0 0 0 (front++q)))∧
  forL (fun k1173 x1174 (s1167:(List Q0)×(List Q0))=>
  ((idx ks (k1173:Int)).bind fun x1291=>
  ((idx ks' (k1173:Int)).bind fun x1292=>
  ((Y8 n w x1174 x1291 x1292).bind fun r1293=>
  ((forL (fun k1383 x1384 (s1377:(List Q0))=>
  ((app [] s1167.2).bind fun x1393=>
  ((app s1167.2 [x1384]).bind fun x1394=>
  ((Z1i ks (wadd .i64 (k1173:Int) 1)).bind fun x1395=>
  ((app x1394 x1395).bind fun x1396=>
  ((app s1377 [(Q0.mk 4 c 0 0 0 x1396)]).bind fun x1397=>
  some (Ctl.go (s1377++[(Q0.mk 4 c 0 0 0 x1396)])))))))) 0 r1293 s1167.1).bind fun (o1376:Ctl (Ctl (List Q0) ((List Q0)×(List Q0))) ((List Q0)))=>match o1376 with
  | .ret r=>some r
  | .go _=>none
  | .brk s1387=>
  ((Q13 n x1291 x1292).bind fun r1398=>
  (if (!r1398.2)=true then
  some (Ctl.ret (s1387))
  else
  ((app s1167.2 [r1398.1]).bind fun x1401=>
  some (Ctl.go (s1387,x1401)))))))))) k ts (out,front)=some o:=by
 intro ts
 induction ts with
 | nil=>
  intro k out front as' bs' h0 h1 h2 hf hs
  exact ⟨.brk (out,front),by simp [kmD],by simp [forL]⟩
 | cons u ts ih=>
  intro k out front as' bs' h0 h1 h2 hf hs
  obtain ⟨u1,u2⟩:=Q4i h0
  have hkl:=(List.getElem?_eq_some_iff.1 u1).1
  cases as' with
  | nil=>have:=congrArg List.length h1;simp at this;omega
  | cons a as'=>
  cases bs' with
  | nil=>have:=congrArg List.length h2;simp at this;omega
  | cons b bs'=>
  obtain ⟨a1,a2⟩:=Q4i h1
  obtain ⟨b1,b2⟩:=Q4i h2
  obtain ⟨m1,q,m2⟩:=hmin k u a b u1 a1 b1
  simp only [kmD,U5,U7] at hs
  have hw1:wadd .i64 (k:Int) 1=((k+1:Nat):Int):=by rw [V7]<;>omega
  have hdrop:Z1i ks ((k+1:Nat):Int)=some as':=by
   unfold Z1i
   rw [if_pos ⟨by omega,by omega⟩]
   simp [←a2]
  have has:as'.length≤3:=by rw [←a2];simp;omega
  unfold forL
  simp only [Q1b a1,Q1b b1,U0,m1,hw1,hdrop]
  have hin:=Q5a (ρ:=Ctl (List Q0) ((List Q0)×(List Q0))) (f:=fun (k1383:Nat) x1384 (s1377:(List Q0))=>
    ((app [] front).bind fun x1393=>
    ((app front [x1384]).bind fun x1394=>
    ((app x1394 as').bind fun x1396=>
    ((app s1377 [(Q0.mk 4 c 0 0 0 x1396)]).bind fun x1397=>
    some (Ctl.go (s1377++[(Q0.mk 4 c 0 0 0 x1396)]))))))) (fun x=>[Q0.mk 4 c 0 0 0 (front++x::as')]) 100000 (fm u a b) 0 out (fun k x _ s hs=>by
   simp only [U3,U4] at hs
   rw [X2 (by simp only [U4,Q6];omega),X2 (by simp only [U3,U4,Q6];omega)]
   simp only [U0]
   rw [X2 (by simp only [U5,U3,U4,Q6];omega)]
   simp only [U0]
   rw [X2 (by simp only [U3,U4,Q6];omega)]
   simp) (by
    have:∀ l:List Q0,(l.flatMap fun x=>[Q0.mk 4 c 0 0 0 (front++x::as')]).length=l.length:=fun l=>by induction l with | nil=>rfl | cons a l ih=>simp [ih]
    rw [this];omega)
  have hfl:∀ l:List Q0,(l.flatMap fun x=>[Q0.mk 4 c 0 0 0 (front++x::as')])=l.map fun x=>Q0.mk 4 c 0 0 0 (front++x::as'):=fun l=>by induction l with | nil=>rfl | cons a l ih=>simp [ih]
  rw [hfl] at hin
  rw [hin]
  simp only [U0,m2]
  cases hm:fj a b with
  | none=>
   simp only [Bool.not_false,if_true]
   refine ⟨_,?_,rfl⟩
   simp only [kmD,hm,List.append_nil,List.map_map]
   rfl
  | some m=>
   simp only [Bool.not_true,U2,if_false]
   rw [X2 (by simp only [U3,U4,Q6];omega)]
   simp only [U0]
   rw [hm] at hs
   simp only [U7] at hs
   obtain ⟨o,e1,e⟩:=ih (k+1) (out++(fm u a b).map fun x=>Q0.mk 4 c 0 0 0 (front++x::as')) (front++[m]) as' bs' u2 a2 b2 (by simp;omega) (by simp only [U5,U7];omega)
   refine ⟨o,?_,e⟩
   rw [e1]
   simp only [kmD,hm,List.map_append,List.map_map,List.append_assoc]
   congr 5
theorem Z7d {w:List Q3}(hw:WW w)(he:WE w):∀ (d n x:Nat) (t:Q2) (a b:Q0),t∈tys w→X6 w x t a→X6 w d t b→cntP b≤10000→3 * d+6≤n→Y8 n w t a b=some (W6 w d t a b)
 | 0,_,_,_,_,_,_,_,h,_,_=>h.elim
 | d+1,n,x,t,a,b,ht,ha,hb,hcnt,hn=>by
  obtain ⟨n,rfl⟩:∃ m,n=m+1:=⟨n-1,by omega⟩
  have i11:ieq 1 1=true:=rfl
  have i14:ieq 1 4=false:=rfl
  have i31:ieq 3 1=false:=rfl
  have i33:ieq 3 3=true:=rfl
  have i41:ieq 4 1=false:=rfl
  have i43:ieq 4 3=false:=rfl
  have i44:ieq 4 4=true:=rfl
  have e31:¬(3:Int)=1:=by decide
  have e41:¬(4:Int)=1:=by decide
  have e43:¬(4:Int)=3:=by decide
  obtain ⟨x,rfl,ha'⟩:=Z2e ha
  have hb0:=hb
  rcases hb with rfl | ⟨n2,m2,rfl,hd',g0,g1,g2⟩ | ⟨c',ks',rfl,hd',hc',hl',hk'⟩
  ·simp [Y8,W6,i11]
  ·rcases ha' with rfl | ⟨n1,m1,rfl,hd,h0,_,h9⟩ | ⟨c,ks,rfl,hd,_⟩
   ·simp only [Y8,W6,i31,i33,i11,e31,U2,if_false,if_true,U0]
    rw [Z53 (n1:=0) (m1:=9) (n2:=n2) (m2:=m2) ⟨rfl,rfl⟩ ⟨rfl,rfl⟩ (by omega) (by omega) (by omega) (by omega)]
    rfl
   ·simp only [Y8,W6,i31,i33,e31,U2,if_false,if_true,U0]
    rw [Z53 (n1:=n1) (m1:=m1) (n2:=n2) (m2:=m2) ⟨rfl,rfl⟩ ⟨rfl,rfl⟩ (by omega) (by omega) (by omega) (by omega)]
    rfl
   ·exact absurd hd' hd
  ·have hcn:cntP (Q0.mk 4 c' 0 0 0 ks')=1+cntP.cntPs ks':=Q60 _
   have hkc:∀ q∈ks',cntP q≤10000:=fun q hq=>by
    have:=Z2y (p:=Q0.mk 4 c' 0 0 0 ks') (List.mem_iff_getElem?.1 hq).choose_spec
    omega
   have hA:∀ (N:Nat) (c:Int) (ks:List Q0) (y:Nat),3 * d+7≤N→c∈X1 w t→ks.length=(X4 w t c).length→(∀ (j:Nat) (a:Q2) (q:Q0),(X4 w t c)[j]?=some a→ks[j]?=some q→X6 w y a q)→
     Y8 (N+1) w t (Q0.mk 4 c 0 0 0 ks) (Q0.mk 4 c' 0 0 0 ks')=some (cmD w (W6 w d) (Q0t d) t (Q0.mk 4 c 0 0 0 ks) (Q0.mk 4 c' 0 0 0 ks')):=fun N c ks y hN hc hl hk=>by
    obtain ⟨N,rfl⟩:∃ m,N=m+1:=⟨N-1,by omega⟩
    simp only [Y8,i41,i43,i44,U2,if_false,if_true,cmD]
    by_cases hcc:c=c'
    ·subst hcc
     have ec:(!ieq c c)=false:=by simp [ieq]
     simp only [ec,U2,if_false,if_true,Q7g]
     rw [(hw.ty t ht).a1 c hc]
     simp only [U0]
     have hlen:(kmD (W6 w d) (Q0t d) (X4 w t c) ks ks').length≤3 * cntP.cntPs ks':=
      W1f (X4 w t c) ks ks' fun j u p q h1 h2=>Q96 hw he d u p q ((hw.ty t ht).at_ _ hc u (U1 h1)) (hk' j u q h1 h2)
     obtain ⟨o,e1,e⟩:=X1g (w:=w) (n:=N) (c:=c) (fm:=W6 w d) (fj:=Q0t d) hl hl' ((hw.ty t ht).al c hc) (fun k u p q h1 h2 h3=>
      have hu:=(hw.ty t ht).at_ _ hc u (U1 h1)
      ⟨Z7d hw he d N y u p q hu (hk k u p h1 h2) (hk' k u q h1 h3) (hkc q (U1 h3)) (by omega),Z94 hw d N y u p q hu (hk k u p h1 h2) (hk' k u q h1 h3) (by omega)⟩)
      (X4 w t c) 0 [] [] ks ks' rfl rfl rfl rfl (by simp only [U4];omega)
     have e':=congrArg (fun z:Option (Ctl (List Q0) ((List Q0)×(List Q0)))=>(z.bind fun o=>match o with | .ret r=>some r | .go _=>none | .brk s=>some s.1).bind fun r=>some r) e
     refine e'.trans ?_
     simp only [U0,e1]
     simp
    ·have ec:(!ieq c c')=true:=by simp [ieq,hcc]
     simp [ec,hcc]
   rcases ha' with rfl | ⟨n1,m1,rfl,hd,_⟩ | ⟨c,ks,rfl,hd,hc,hl,hk⟩
   ·simp only [Y8,W6,i11,i14,i41,i43,e41,e43,U2,if_false,if_true]
    rw [(hw.ty t ht).c1]
    simp only [U0]
    obtain ⟨N,rfl⟩:∃ m,n=m+1:=⟨n-1,by omega⟩
    have hlen:=Q96 hw he (d+1) t (Q0.mk 1 0 0 0 0 []) (Q0.mk 4 c' 0 0 0 ks') ht hb0
    simp only [W6,e41,e43,if_false,if_true] at hlen
    rw [Q5a (fun c=>cmD w (W6 w d) (Q0t d) t (Q69 w t c) (Q0.mk 4 c' 0 0 0 ks')) 1000000 (X1 w t) 0 [] (fun k c hc s hs=>by
     rw [V5e hw ht hc]
     simp only [U0]
     rw [Q69,hA N c _ 1 (by omega) hc (by simp) (fun j a q ha hq=>by
      rw [List.getElem?_map,ha] at hq
      cases hq
      exact Z0y w 0 a)]
     simp only [U0]
     rw [X2 (by simp only [Q6];simp only [Q69] at hs;omega)]
     rfl) (by simp only [U4];omega)]
    simp
   ·exact absurd hd hd'
   ·rw [hA n c ks x (by omega) hc hl hk]
    simp [W6]
theorem X7y {w:List Q3}(hw:WW w)(he:WE w){d x:Nat}{t:Q2}(ht:t∈tys w)(hx:d+1≤x):∀ (bs l:List Q0),(∀ b∈bs,X6 w d t b)→(∀ a∈l,X6 w x t a)→(Q7b w d x t l bs).map (Q8c w x t)=Q2h w d x t l bs
 | [],l,_,_=>rfl
 | b::bs,l,hb,hl=>by
  have e:=X5o hw he ht hx (hb b (by simp)) hl
  simp only [Q2h,Q7b,e]
  by_cases hc:400<(Q3w w d x t l b).length
  ·simp [hc]
  ·simp only [if_neg hc]
   rw [X7y hw he ht hx bs (Q3w w d x t l b) (fun b hb'=>hb b (by simp [hb'])) (Q91 hx (hb b (by simp)) hl)]
   simp only [Q2h,X8o]
theorem Z27 {w:List Q3}(hw:WW w)(he:WE w){d x n:Nat}{t:Q2}(ht:t∈tys w)(hx:d+1≤x)(hx2:x≤100){l bs:List Q0}(hb:∀ b∈bs,X6 w d t b∧cntP b≤130)(h:∀ a∈l,X6 w x t a)(hl:l.length≤1000)(hn:2000≤n) :
  Q4l n w (tabP w) t l bs=some (optR (Q2h w d x t l bs)):=by
 have hin:∀ (b:Q0),X6 w d t b→cntP b≤130→∀ (s:List Q0) (k:Nat) (acc:List Q0),(∀ a∈s,X6 w x t a)→acc.length≤1000→
   ∃ r,forL (ρ:=Ctl (List Q0×Bool) (List Q0)) (fun k1807 x1808 (s1801:(List Q0))=>
   (if (ile (lenZ s1801.length) 400)=true then
   ((Y8 n w t x1808 b).bind fun r1819=>
   ((Q3x n w (tabP w) t r1819).bind fun r1820=>
   ((app s1801 r1820).bind fun x1821=>
   some (Ctl.go x1821))))
   else
   some (Ctl.brk s1801))) k s acc=some (.brk r)∧((acc++Q3w w d x t s b).length≤400→r=acc++Q3w w d x t s b)∧(400<(acc++Q3w w d x t s b).length→400<r.length):=by
  intro b hb hcb s
  induction s with
  | nil=>intro k acc _ _;exact ⟨acc,by simp [forL],by simp [Q3w,Q8c],by simp [Q3w,Q8c]⟩
  | cons a s ih=>
   intro k acc hs hacc
   have hstep:Q3w w d x t (a::s) b=Q8c w x t (W6 w d t a b)++Q3w w d x t s b:=by simp [Q3w,Q8c]
   rw [hstep]
   have hlen:=Q96 hw he d t a b ht hb
   have hkl:=X3s w x t (W6 w d t a b)
   unfold forL
   by_cases hc:acc.length≤400
   ·have e:ile (lenZ acc.length) 400=true:=by rw [Q0l,Q0j];omega
    simp only [e,if_true]
    rw [Z7d hw he d n x t a b ht (hs a (by simp)) hb (by omega) (by omega)]
    simp only [U0]
    rw [Z7e hw ht (fun y hy=>Q8x d x t a b hx (hs a (by simp)) hb y hy) (by omega) (by omega)]
    simp only [U0]
    rw [X2 (by simp only [Q6];omega)]
    simp only [U0]
    obtain ⟨r,e1,e2,e3⟩:=ih (k+1) (acc++Q8c w x t (W6 w d t a b)) (fun a ha=>hs a (by simp [ha])) (by simp only [U5];omega)
    rw [List.append_assoc] at e2 e3
    exact ⟨r,e1,e2,e3⟩
   ·have e:ile (lenZ acc.length) 400=false:=by rw [Q30,Q0j];omega
    simp only [e,U2,if_false]
    refine ⟨acc,rfl,fun h=>?_,fun _=>by omega⟩
    simp only [U5] at h
    omega
 have hlp:∀ (bs:List Q0) (k:Nat) (s:List Q0),(∀ b∈bs,X6 w d t b∧cntP b≤130)→(∀ a∈s,X6 w x t a)→
   forL (fun k1538 x1539 (s1532:(List Q0))=>
   ((forL (fun k1807 x1808 (s1801:(List Q0))=>
   (if (ile (lenZ s1801.length) 400)=true then
   ((Y8 n w t x1808 x1539).bind fun r1819=>
   ((Q3x n w (tabP w) t r1819).bind fun r1820=>
   ((app s1801 r1820).bind fun x1821=>
   some (Ctl.go x1821))))
   else
   some (Ctl.brk s1801))) 0 s1532 []).bind fun (o1800:Ctl (Ctl (List Q0×Bool) (List Q0)) ((List Q0)))=>match o1800 with
   | .ret r=>some r
   | .go _=>none
   | .brk s1811=>
   (if (ilt 400 (lenZ s1811.length))=true then
   some (Ctl.ret (([],false)))
   else
   some (Ctl.go s1811)))) k bs s=some (match Q7b w d x t s bs with | some r=>.brk r | none=>.ret ([],false)):=by
  intro bs
  induction bs with
  | nil=>intro k s _ _;simp [forL,Q7b]
  | cons b bs ih=>
   intro k s hb hs
   obtain ⟨hb1,hb2⟩:=hb b (by simp)
   unfold forL
   obtain ⟨r,e1,e2,e3⟩:=hin b hb1 hb2 s 0 [] hs (by simp)
   rw [e1]
   simp only [List.nil_append] at e2 e3
   simp only [U0,Q7b]
   by_cases hc:400<(Q3w w d x t s b).length
   ·have hr:=e3 hc
    have e:ilt 400 (lenZ r.length)=true:=by rw [Z9,Q0j];omega
    simp only [e,if_true,if_pos hc]
   ·have hr:=e2 (by omega)
    subst hr
    have e:ilt 400 (lenZ (Q3w w d x t s b).length)=false:=by rw [X7,Q0j];omega
    simp only [e,U2,if_false,if_neg hc]
    exact ih (k+1) _ (fun b hb'=>hb b (by simp [hb'])) (Q91 hx hb1 hs)
 have e:=hlp bs 0 l hb h
 have hk:=X7y hw he ht hx bs l (fun b hb'=>(hb b hb').1) h
 have hln:∀ (bs l r:List Q0),l.length≤1000→Q7b w d x t l bs=some r→r.length≤1000:=by
  intro bs
  induction bs with
  | nil=>intro l r h e;simp only [Q7b,Option.some.injEq] at e;subst e;exact h
  | cons b bs ih=>
   intro l r h e
   simp only [Q7b] at e
   split at e
   ·cases e
   ·exact ih _ r (by omega) e
 have e':=congrArg (fun z:Option (Ctl ((List Q0)×Bool) (List Q0))=>z.bind fun o=>match o with | .ret r=>some r | .go _=>none | .brk s=>(Q3x n w (tabP w) t s).bind fun r=>some (r,true)) e
 refine e'.trans ?_
 rw [←hk]
 cases hr:Q7b w d x t l bs with
 | none=>simp [optR]
 | some r=>
  have hl':=hln bs l r hl hr
  have hp:=X13 hx bs l r (fun b hb'=>(hb b hb').1) h hr
  simp only [U0,Option.map_some,optR]
  rw [Z7e hw ht hp (by omega) (by omega)]
  rfl
theorem Z97:∀ (d n:Nat) (p:Q0),X1z d p→d≤n→cntP p≤1000→J0 n p=some (W4 d p)
 | 0,_,_,h,_,_=>h.elim
 | d+1,n,p,h,hn,hc=>by
  obtain ⟨n,rfl⟩:∃ m,n=m+1:=⟨n-1,by omega⟩
  have hcp:=Q60 p
  have hkid:∀ q∈p.kids,J0 n q=some (W4 d q):=fun q hq=>by
   obtain ⟨j,hj⟩:=List.mem_iff_getElem?.1 hq
   have:=Z2y hj
   exact Z97 d n q (h q hq) (by omega) (by omega)
  have hlen:p.kids.length≤1000:=by
   have:∀ l:List Q0,l.length≤cntP.cntPs l:=fun l=>by
    induction l with
    | nil=>simp
    | cons a l ih=>have:=Z1k a;simp only [U3,cntP.cntPs];omega
   have:=this p.kids
   omega
  have hloop:=Q5a (ρ:=Q0) (f:=fun (k102:Nat) x103 (s96:(List Q0))=>((J0 n x103).bind fun r110=>((app s96 [r110]).bind fun x111=>some (Ctl.go x111)))) (fun q=>[W4 d q]) 100000 p.kids 0 [] (fun k q hq s hs=>by
   rw [hkid q hq]
   simp only [U0]
   simp only [U3,U4] at hs
   rw [X2 (by simp only [U3,U4,Q6];omega)]
   rfl) (by
    have:∀ l:List Q0,(l.flatMap fun q=>[W4 d q]).length=l.length:=fun l=>by induction l with | nil=>rfl | cons a l ih=>simp [ih]
    rw [this];simp only [U4];omega)
  have hfl:∀ l:List Q0,(l.flatMap fun q=>[W4 d q])=l.map (W4 d):=fun l=>by induction l with | nil=>rfl | cons a l ih=>simp [ih]
  rw [hfl] at hloop
  by_cases h2:p.op=2
  ·have e:ieq p.op 2=true:=by rw [X5];exact h2
   have hb:W4 (d+1) p=Q0.mk 1 0 0 0 0 []:=by simp [W4,h2]
   rw [hb]
   simp only [J0,e,if_true,U0]
  ·have e:ieq p.op 2=false:=by rw [X3];exact h2
   by_cases h6:p.op=6
   ·have e6:ieq p.op 6=true:=by rw [X5];exact h6
    cases hk:p.kids with
    | nil=>
     have e0:ilt 0 (lenZ p.kids.length)=false:=by rw [X7,hk,Q0j];simp
     rw [hk] at hloop
     simp only [J0,e,e6,e0,U2,if_false,if_true,U0,W4,h2,hk]
     have e':=congrArg (fun z:Option (Ctl Q0 (List Q0))=>z.bind fun o=>match o with | .ret r=>some r | .go _=>none | .brk s=>some (Q0.mk p.op p.ctor p.n p.m p.var s)) hloop
     refine e'.trans ?_
     simp
    | cons q ks=>
     have e0:ilt 0 (lenZ p.kids.length)=true:=by rw [Z9,hk,Q0j];simp
     have hq:=hkid q (by simp [hk])
     have hix:idx p.kids 0=some q:=Q1b (i:=0) (by simp [hk])
     have hb:W4 (d+1) p=W4 d q:=by simp [W4,h6,hk]
     rw [hb]
     simp only [J0,e,e6,e0,U2,if_false,if_true,hix,U0,hq]
   ·have e6:ieq p.op 6=false:=by rw [X3];exact h6
    simp only [J0,e,e6,U2,if_false,U0,W4,h2,h6,false_and]
    have e':=congrArg (fun z:Option (Ctl Q0 (List Q0))=>z.bind fun o=>match o with | .ret r=>some r | .go _=>none | .brk s=>some (Q0.mk p.op p.ctor p.n p.m p.var s)) hloop
    refine e'.trans ?_
    simp
theorem Z7c {w:List Q3}(hw:WW w){n:Nat}{t:Q2}{p:Q0}(ht:t∈tys w)(g:J6 w 10 t p=true)(hc:cntP p≤1000)(hn:100≤n):Q49 n p=some ((Q9 10 (W4 10 p)).take 401):=by
 have ha:=Q84 Q9l 10 t p g
 have ho:=Z6f hw 10 t _ ht ha
 unfold Q49
 rw [Z97 10 n p (Q9e 10 t p g) (by omega) hc]
 simp only [U0]
 rw [Z7b 10 n _ ho (by omega)]
 rfl
theorem X5w {w:List Q3}(hw:WW w){t:Q2}(ht:t∈tys w){cs:List Q5}{k:Nat}(hk:k≤cs.length)(h:∀ c∈cs,J6 w 10 t c.pat=true∧cntP c.pat≤1000)(hl:cs.length≤1000):Q6n NN cs (k:Int)=some (optR (Q31 (cs.take k))):=by
 have hlp:∀ (rest:List Q5) (i n:Nat) (s:List Q0),(cs.take k).drop i=rest→i≤k→rest.length+1≤n→s.length+40 * rest.length≤100000→
   whileL (fun (s138:(List Q0)×Int)=>
   (if (ilt s138.2 (k:Int))=true then
   ((((idx cs s138.2).bind fun x166=>
   (if (!ieq x166.guard.op 0)=true then
   some (Ctl.brk s138.1)
   else
   ((Q49 NN x166.pat).bind fun r168=>
   (if (ilt 40 (lenZ r168.length))=true then
   some (Ctl.ret (Ctl.ret (([],false))))
   else
   ((app s138.1 r168).bind fun x171=>
   some (Ctl.brk x171))))))).bind fun (o161:Ctl (Ctl (List Q0×Bool) ((List Q0)×Int)) ((List Q0)))=>match o161 with
   | .ret r=>some r
   | .go _=>none
   | .brk s160=>
   some (Ctl.go (s160,wadd .i64 s138.2 1)))
   else
   some (Ctl.brk (s138.1,s138.2)))) n (s,(i:Int))=some (match Q31 rest with | some r=>.brk (s++r,(k:Int)) | none=>.ret ([],false)):=by
  intro rest
  induction rest with
  | nil=>
   intro i n s h0 hi hn hs
   have hge:k≤i:=by
    have:=congrArg List.length h0
    simp only [List.length_drop,U6,U4] at this
    omega
   have:i=k:=by omega
   subst this
   obtain ⟨n,rfl⟩:∃ m,n=m+1:=⟨n-1,by simp only [U4] at hn;omega⟩
   have e:ilt (i:Int) (i:Int)=false:=by rw [X7];omega
   simp [whileL,e,Q31]
  | cons c rest ih=>
   intro i n s h0 hi hn hs
   obtain ⟨c1,c2⟩:=Q4i h0
   have hik:i<k:=by
    have:=(List.getElem?_eq_some_iff.1 c1).1
    simp only [U6] at this
    omega
   have c3:cs[i]?=some c:=by
    rw [List.getElem?_take] at c1
    rw [if_pos hik] at c1
    exact c1
   simp only [U3] at hn hs
   obtain ⟨n,rfl⟩:∃ m,n=m+1:=⟨n-1,by omega⟩
   obtain ⟨g,hc⟩:=h c (U1 c3)
   have e:ilt (i:Int) (k:Int)=true:=by rw [Z9];omega
   have hw1:wadd .i64 (i:Int) 1=((i+1:Nat):Int):=by rw [V7]<;>omega
   unfold whileL
   simp only [e,if_true,Q1b c3,U0,hw1]
   by_cases hg:c.guard.op=0
   ·have e0:(!ieq c.guard.op 0)=false:=by simp [ieq,hg]
    simp only [e0,U2,if_false]
    rw [Z7c hw ht g hc (by simp only [NN];omega)]
    simp only [U0,Q31,if_pos hg,Q72]
    by_cases hlen:40<(Q9 10 (W4 10 c.pat)).length
    ·have e4:ilt 40 (lenZ ((Q9 10 (W4 10 c.pat)).take 401).length)=true:=by rw [Z9,Q0j];simp only [U6];omega
     simp only [e4,if_true,if_pos hlen,U0,Option.bind_none]
    ·have e5:(Q9 10 (W4 10 c.pat)).take 401=Q9 10 (W4 10 c.pat):=List.take_of_length_le (by omega)
     have e4:ilt 40 (lenZ ((Q9 10 (W4 10 c.pat))).length)=false:=by rw [X7,Q0j];omega
     rw [e5]
     simp only [e4,U2,if_false,if_neg hlen,U0]
     rw [X2 (by simp only [Q6];omega)]
     simp only [U0]
     rw [ih (i+1) n (s++Q9 10 (W4 10 c.pat)) c2 (by omega) (by omega) (by simp only [U5];omega)]
     cases Q31 rest with
     | none=>simp
     | some r=>simp
   ·have e0:(!ieq c.guard.op 0)=true:=by simp [ieq,hg]
    simp only [e0,if_true,U0,Q31,if_neg hg]
    exact ih (i+1) n s c2 (by omega) (by omega) (by omega)
 have e:=hlp (cs.take k) 0 NN [] rfl (by omega) (by simp only [U6,NN];omega) (by simp only [U4,U6];omega)
 unfold Q6n
 have e':=congrArg (fun z:Option (Ctl ((List Q0)×Bool) ((List Q0)×Int))=>z.bind fun o=>match o with | .ret r=>some r | .go _=>none | .brk s=>some (s.1,true)) e
 refine e'.trans ?_
 cases Q31 (cs.take k)<;>simp [optR]
theorem W37 {w:List Q3}{t:Q2}{n:Nat}(hn:10≤n):∀ {l:List Q0},(∀ p∈l,Q1v w t p=true)→l.length≤100000→Q4s n l=some l:=fun {l} h hl=>by
 unfold Q4s
 have hloop:=Q5a (ρ:=List Q0) (f:=fun (k70:Nat) x71 (s64:(List Q0))=>((Q33 n x71).bind fun r78=>((app s64 [r78]).bind fun x79=>some (Ctl.go x79)))) (fun q=>[q]) 1000000 l 0 [] (fun k q hq s hs=>by
  obtain ⟨g,hc,_⟩:=Q3q (h q hq)
  rw [Z96 10 n q (Q9e 10 t q g) hn (by omega)]
  simp only [U0]
  simp only [U3,U4] at hs
  rw [X2 (by simp only [U3,U4,Q6];omega)]
  rfl) (by
   have:∀ l:List Q0,(l.flatMap fun q=>[q]).length=l.length:=fun l=>by induction l with | nil=>rfl | cons a l ih=>simp [ih]
   rw [this];simp only [U4];omega)
 have hfl:∀ l:List Q0,(l.flatMap fun q=>[q])=l:=fun l=>by induction l with | nil=>rfl | cons a l ih=>simp [ih]
 rw [hfl] at hloop
 have e':=congrArg (fun z:Option (Ctl (List Q0) (List Q0))=>z.bind fun o=>match o with | .ret r=>some r | .go _=>none | .brk s=>some s) hloop
 exact e'.trans (by simp)
theorem X5t {w:List Q3}(hw:WW w){n:Nat}(hn:100≤n){t:Q2}(ht:t∈tys w)(o:Option (List Q0))(ho:∀ l,o=some l→l.length≤100000) :
  Q6o n w t (optR o).1 (optR o).2=some (optR (Z1u w t o)):=by
 have hlp:∀ (l:List Q0) (k:Nat),forL (ρ:=(List Q0)×Bool) (fun k68 x69 (s62:Unit)=>
   ((Q5p n w t x69).bind fun r76=>
   (if (!r76)=true then
   some (Ctl.ret (([],false)))
   else
   some (Ctl.go ())))) k l ()=some (if l.all (Q1v w t)=true then .brk () else .ret ([],false)):=by
  intro l
  induction l with
  | nil=>intro k;simp [forL]
  | cons a l ih=>
   intro k
   unfold forL
   rw [Z95 hw hn t a ht]
   simp only [U0,List.all_cons]
   rcases Bool.eq_false_or_eq_true (Q1v w t a) with hv | hv
   ·simp only [hv,Bool.not_true,U2,if_false,Bool.true_and]
    exact ih (k+1)
   ·simp [hv]
 unfold Q6o
 cases o with
 | none=>
  have hnil:Q4s n []=some []:=by simp [Q4s,forL]
  simp [optR,Z1u,forL,hnil]
 | some l=>
  simp only [optR,Z1u]
  have e':=congrArg (fun z:Option (Ctl (List Q0×Bool) Unit)=>z.bind fun o=>match o with | .ret r=>some r | .go _=>none | .brk _=>(Q4s n l).bind fun r=>some (r,true)) (hlp l 0)
  refine e'.trans ?_
  by_cases h:l.all (Q1v w t)=true
  ·simp only [if_pos h,U0]
   rw [W37 (by omega) (fun p hp=>List.all_eq_true.1 h p hp) (ho l rfl)]
   rfl
  ·simp only [if_neg h,U0,optR]
theorem Z0o {w:List Q3}{t:Q2} : ∀ {cs:List Q5} {l:List Q0},(∀ c∈cs,J6 w 10 t c.pat=true)→Q31 cs=some l→∀ b∈l,X6 w 10 t b
 | [],l,_,e=>by simp only [Q31,Option.some.injEq] at e;subst e;simp
 | c::cs,l,h,e=>by
  simp only [Q31] at e
  split at e
  ·cases hp:Q72 c.pat with
   | none=>rw [hp] at e;simp at e
   | some m=>
    rw [hp] at e
    cases hc:Q31 cs with
    | none=>rw [hc] at e;simp at e
    | some r=>
     rw [hc] at e
     simp only [U0,Option.map_some,Option.some.injEq] at e
     subst e
     intro b hb
     rcases U9.1 hb with hb | hb
     ·rw [(Q89 hp).2] at hb
      exact Z0d 10 t _ (Q84 Q9l 10 t c.pat (h c (by simp))) b hb
     ·exact Z0o (fun c hc=>h c (by simp [hc])) hc b hb
  ·exact Z0o (fun c hc=>h c (by simp [hc])) e
theorem X4n:∀ (d:Nat) (p:Q0),cntP (W4 d p)≤cntP p
 | 0,p=>by simp [W4]
 | d+1,p=>by
  have hp:=Q60 p
  simp only [W4]
  split
  ·simp only [cntP,cntP.cntPs];omega
  ·split
   ·rename_i h
    cases hk:p.kids with
    | nil=>exact absurd hk h.2
    | cons q ks=>
     have:=X4n d q
     rw [hk] at hp
     simp only [cntP.cntPs] at hp
     simp only [List.headD_cons]
     omega
   ·have:∀ l:List Q0,cntP.cntPs (l.map (W4 d))≤cntP.cntPs l:=fun l=>by
     induction l with
     | nil=>simp
     | cons a l ih=>have:=X4n d a;simp only [List.map_cons,cntP.cntPs];omega
    have:=this p.kids
    rw [Q60]
    simp only
    omega
theorem Z92:∀ (d:Nat) (p:Q0),∀ q∈Q9 d p,cntP q≤cntP p
 | 0,_,_,h=>by simp [Q9] at h
 | d+1,p,q,h=>by
  have hp:=Q60 p
  simp only [Q9] at h
  split at h
  ·obtain ⟨k,hk,hq⟩:=List.mem_flatMap.1 h
   have h1:=Z92 d k q hq
   obtain ⟨j,hj⟩:=List.mem_iff_getElem?.1 hk
   have:=Z2y hj
   omega
  ·obtain ⟨cs,hcs,rfl⟩:=U11.1 h
   have hm:=Z5n.1 hcs
   have:∀ (ks cs:List Q0),MemL cs (ks.map (Q9 d))→cntP.cntPs cs≤cntP.cntPs ks:=fun ks=>by
    induction ks with
    | nil=>intro cs h;have:=h.1;simp at this;subst this;simp
    | cons k ks ih=>
     intro cs h
     cases cs with
     | nil=>have:=h.1;simp at this
     | cons c cs=>
      rw [List.map_cons,Z2j] at h
      have h1:=Z92 d k c h.1
      have h2:=ih cs h.2
      simp only [cntP.cntPs]
      omega
   have:=this p.kids cs hm
   rw [Q60]
   simp only [Q3v]
   omega
theorem Z9j {p:Q0}{l:List Q0}(h:Q72 p=some l):∀ q∈l,cntP q≤cntP p:=fun q hq=>by
 rw [(Q89 h).2] at hq
 exact Nat.le_trans (Z92 10 _ q hq) (X4n 10 p)
theorem Z6a {m:Nat} : ∀ {cs:List Q5} {l:List Q0},(∀ c∈cs,cntP c.pat≤m)→Q31 cs=some l→∀ b∈l,cntP b≤m
 | [],l,_,e=>by simp only [Q31,Option.some.injEq] at e;subst e;simp
 | c::cs,l,h,e=>by
  simp only [Q31] at e
  split at e
  ·cases hp:Q72 c.pat with
   | none=>rw [hp] at e;simp at e
   | some m=>
    rw [hp] at e
    cases hc:Q31 cs with
    | none=>rw [hc] at e;simp at e
    | some r=>
     rw [hc] at e
     simp only [U0,Option.map_some,Option.some.injEq] at e
     subst e
     intro b hb
     rcases U9.1 hb with hb | hb
     ·exact Nat.le_trans (Z9j hp b hb) (h c (by simp))
     ·exact Z6a (fun c hc=>h c (by simp [hc])) hc b hb
  ·exact Z6a (fun c hc=>h c (by simp [hc])) e
theorem Q78 {w:List Q3}{t:Q2}{cs:List Q5}(h:Q23 w t cs=true):cs.length≤8∧∀ c∈cs,Q1v w t c.pat=true∧J6 w 10 t c.pat=true∧cntP c.pat≤60:=by
 simp only [Q23,Bool.and_eq_true,decide_eq_true_eq,List.all_eq_true] at h
 refine ⟨h.1,fun c hc=>?_⟩
 have:=h.2 c hc
 simp only [Q7o,Bool.and_eq_true] at this
 obtain ⟨g1,g2,_⟩:=Q3q this.1
 exact ⟨this.1,g1,g2⟩
theorem X0u {w:List Q3}{e:Nat}{t:Q2}{v:Q4}(hv:Q1r w e t v):∀ {cs:List Q5} {l:List Q0},(∀ c∈cs,J6 w 10 t c.pat=true)→Q31 cs=some l→
  ((∃ b∈l,fitP b v=true)↔∃ c∈cs,c.guard.op=0∧(Z6 10 c.pat v).isSome=true)
 | [],l,_,e1=>by simp only [Q31,Option.some.injEq] at e1;subst e1;simp
 | c::cs,l,h,e1=>by
  simp only [Q31] at e1
  split at e1
  ·rename_i h0
   cases hp:Q72 c.pat with
   | none=>rw [hp] at e1;simp at e1
   | some m=>
    rw [hp] at e1
    cases hc:Q31 cs with
    | none=>rw [hc] at e1;simp at e1
    | some r=>
     rw [hc] at e1
     simp only [U0,Option.map_some,Option.some.injEq] at e1
     subst e1
     have ih:=X0u hv (fun c hc=>h c (by simp [hc])) hc
     have h1:=Z0k Q9l 10 e t c.pat v (h c (by simp)) hv
     rw [←(Q89 hp).2] at h1
     constructor
     ·rintro ⟨b,hb,g⟩
      rcases U9.1 hb with hb | hb
      ·exact ⟨c,by simp,h0,h1.2 ⟨b,hb,g⟩⟩
      ·obtain ⟨c',m1,m2⟩:=ih.1 ⟨b,hb,g⟩
       exact ⟨c',by simp [m1],m2⟩
     ·rintro ⟨c',hc',g0,g⟩
      rcases U8.1 hc' with rfl | hc'
      ·obtain ⟨b,hb,g⟩:=h1.1 g
       exact ⟨b,by simp [hb],g⟩
      ·obtain ⟨b,hb,g⟩:=ih.2 ⟨c',hc',g0,g⟩
       exact ⟨b,by simp [hb],g⟩
  ·rename_i h0
   have ih:=X0u hv (fun c hc=>h c (by simp [hc])) e1
   rw [ih]
   constructor
   ·rintro ⟨c',m1,m2⟩;exact ⟨c',by simp [m1],m2⟩
   ·rintro ⟨c',hc',g0,g⟩
    rcases U8.1 hc' with rfl | hc'
    ·exact absurd g0 h0
    ·exact ⟨c',hc',g0,g⟩
def sepP (w:List Q3)(t:Q2):List Q0→List Q0→Option (List Q0)
 | _,[]=>some []
 | bef,p::ps=>(Q2h w 10 11 t [p] bef).bind fun m=>(sepP w t (bef++[p]) ps).map (m++·)
theorem Z8i {w:List Q3}{t:Q2} : ∀ (ps bef r:List Q0),(∀ b∈bef,X6 w 10 t b)→(∀ p∈ps,X6 w 10 t p)→sepP w t bef ps=some r→∀ y∈r,X6 w 11 t y
 | [],_,r,_,_,e=>by simp only [sepP,Option.some.injEq] at e;subst e;simp
 | p::ps,bef,r,hb,hp,e=>by
  simp only [sepP] at e
  cases hm:Q2h w 10 11 t [p] bef with
  | none=>rw [hm] at e;simp at e
  | some m=>
   rw [hm] at e
   simp only [U0,U12] at e
   obtain ⟨r2,h2,rfl⟩:=e
   intro y hy
   rcases U9.1 hy with hy | hy
   ·exact X5d (by omega) hb (fun a ha=>by simp only [List.mem_singleton] at ha;rw [ha];exact Q6f 10 t p (hp p (by simp))) hm y hy
   ·exact Z8i ps (bef++[p]) r2 (fun b hb'=>by
     rcases U9.1 hb' with h | h
     ·exact hb b h
     ·simp only [List.mem_singleton] at h;rw [h];exact hp p (by simp)) (fun q hq=>hp q (by simp [hq])) h2 y hy
theorem X8w {w:List Q3}(hw:WW w)(he:WE w){t:Q2}(ht:t∈tys w){e:Nat}{v:Q4}(hv:Q1r w e t v):∀ (ps bef r:List Q0),(∀ b∈bef,X6 w 10 t b)→(∀ p∈ps,X6 w 10 t p)→sepP w t bef ps=some r→
  ((∃ y∈r,fitP y v=true)↔(∃ p∈ps,fitP p v=true)∧∀ b∈bef,fitP b v=false)
 | [],_,r,_,_,e=>by simp only [sepP,Option.some.injEq] at e;subst e;simp
 | p::ps,bef,r,hb,hp,e=>by
  simp only [sepP] at e
  cases hm:Q2h w 10 11 t [p] bef with
  | none=>rw [hm] at e;simp at e
  | some m=>
   rw [hm] at e
   simp only [U0,U12] at e
   obtain ⟨r2,h2,rfl⟩:=e
   have h3:=Z3z hw he ht (by omega) hv hb (fun a ha=>by simp only [List.mem_singleton] at ha;rw [ha];exact Q6f 10 t p (hp p (by simp))) hm
   have h4:=X8w hw he ht hv ps (bef++[p]) r2 (fun b hb'=>by
     rcases U9.1 hb' with h | h
     ·exact hb b h
     ·simp only [List.mem_singleton] at h;rw [h];exact hp p (by simp)) (fun q hq=>hp q (by simp [hq])) h2
   constructor
   ·rintro ⟨y,hy,hf⟩
    rcases U9.1 hy with hy | hy
    ·obtain ⟨⟨a,ha,haf⟩,hbf⟩:=h3.1 ⟨y,hy,hf⟩
     simp only [List.mem_singleton] at ha
     subst ha
     exact ⟨⟨a,by simp,haf⟩,hbf⟩
    ·obtain ⟨⟨a,ha,haf⟩,hbf⟩:=h4.1 ⟨y,hy,hf⟩
     exact ⟨⟨a,by simp [ha],haf⟩,fun b hb'=>hbf b (by simp [hb'])⟩
   ·rintro ⟨⟨a,ha,haf⟩,hbf⟩
    cases hpf:fitP p v with
    | true=>
     obtain ⟨y,hy,hf⟩:=h3.2 ⟨⟨p,by simp,hpf⟩,hbf⟩
     exact ⟨y,by simp [hy],hf⟩
    | false=>
     rcases U8.1 ha with rfl | ha
     ·rw [hpf] at haf;cases haf
     ·obtain ⟨y,hy,hf⟩:=h4.2 ⟨⟨a,ha,haf⟩,fun b hb'=>by
       rcases U9.1 hb' with h | h
       ·exact hbf b h
       ·simp only [List.mem_singleton] at h;rw [h];exact hpf⟩
      exact ⟨y,by simp [hy],hf⟩
def Q1i (w:List Q3)(t:Q2)(cs:List Q5)(i:Nat):Option (List Q0):=
 if Q23 w t cs=true then (match cs[i]? with
  | none=>none
  | some c=>(Q72 c.pat).bind fun mine=>(Q31 (cs.take i)).bind fun away=>Z1u w t ((sepP w t [] mine).bind fun out=>Q2h w 10 11 t out away)) else none
theorem W71 {w:List Q3}{t:Q2}{e:Nat}{v:Q4}(hv:Q1r w e t v){p:Q0}(g:J6 w 10 t p=true){l:List Q0}(h:Q72 p=some l):(∃ q∈l,fitP q v=true)↔(Z6 10 p v).isSome=true:=by
 obtain ⟨_,rfl⟩:=Q89 h
 exact (Z0k (fun t h=>Q9l t h) 10 e t p v g hv).symm
theorem Z6q {w:List Q3}{t:Q2}{p:Q0}(g:J6 w 10 t p=true){l:List Q0}(h:Q72 p=some l):∀ q∈l,X6 w 10 t q:=by
 obtain ⟨_,rfl⟩:=Q89 h
 exact Z0d 10 t _ (Q84 (fun t h=>Q9l t h) 10 t p g)
theorem W3b {w:List Q3}{t:Q2}{o:Option (List Q0)}{r:List Q0}(h:Z1u w t o=some r):o=some r:=by
 cases o with
 | none=>simp [Z1u] at h
 | some l=>
  simp only [Z1u] at h
  split at h
  ·exact h
  ·cases h
theorem W6u {w:List Q3}(hw:WW w)(he:WE w){e:Nat}{t:Q2}(ht:t∈tys w){v:Q4}(hv:Q1r w e t v){cs:List Q5}{i:Nat}{r:List Q0}(hr:Q1i w t cs i=some r) :
  ∃ c,cs[i]?=some c∧((∃ y∈r,fitP y v=true)↔(Z6 10 c.pat v).isSome=true∧∀ c'∈cs.take i,c'.guard.op=0→Z6 10 c'.pat v=none):=by
 unfold Q1i at hr
 split at hr
 ·rename_i hcl
  obtain ⟨_,hcs⟩:=Q78 hcl
  cases hc:cs[i]? with
  | none=>rw [hc] at hr;cases hr
  | some c=>
   rw [hc] at hr
   simp only at hr
   refine ⟨c,rfl,?_⟩
   have hcg:=(hcs c (U1 hc)).2.1
   cases hm:Q72 c.pat with
   | none=>rw [hm] at hr;simp at hr
   | some mine=>
    rw [hm] at hr
    simp only [U0] at hr
    cases ha:Q31 (cs.take i) with
    | none=>rw [ha] at hr;simp at hr
    | some away=>
     rw [ha] at hr
     simp only [U0] at hr
     have hr:=W3b hr
     cases hs:sepP w t [] mine with
     | none=>rw [hs] at hr;simp at hr
     | some out=>
      rw [hs] at hr
      simp only [U0] at hr
      have gt:∀ c'∈cs.take i,J6 w 10 t c'.pat=true:=fun c' h=>(hcs c' (List.mem_of_mem_take h)).2.1
      have hcp:=Z0o gt ha
      have hmp:=Z6q hcg hm
      have h1:=Z3z hw he ht (by omega) hv hcp (Z8i mine [] out (by simp) hmp hs) hr
      have h2:=X8w hw he ht hv mine [] out (by simp) hmp hs
      have h3:=W71 hv hcg hm
      have h4:=X0u hv gt ha
      rw [h1,h2,h3]
      constructor
      ·rintro ⟨⟨h5,_⟩,h6⟩
       refine ⟨h5,fun c' hc' h0=>?_⟩
       cases hmm:Z6 10 c'.pat v with
       | none=>rfl
       | some x=>
        obtain ⟨b,hb,hbf⟩:=h4.2 ⟨c',hc',h0,by rw [hmm];rfl⟩
        rw [h6 b hb] at hbf
        cases hbf
      ·rintro ⟨h5,h6⟩
       refine ⟨⟨h5,by simp⟩,fun b hb=>?_⟩
       cases hbf:fitP b v with
       | false=>rfl
       | true=>
        obtain ⟨c',hc',h0,h7⟩:=h4.1 ⟨b,hb,hbf⟩
        rw [h6 c' hc' h0] at h7
        cases h7
 ·cases hr
theorem X7x {w:List Q3}{d x m:Nat}{t:Q2}(hm:400≤m):∀ (bs l r:List Q0),l.length≤m→Q7b w d x t l bs=some r→r.length≤m
 | [],l,r,h,e=>by simp only [Q7b,Option.some.injEq] at e;subst e;exact h
 | b::bs,l,r,h,e=>by
  simp only [Q7b] at e
  split at e
  ·cases e
  ·exact X7x hm bs _ r (by omega) e
theorem Q85 {w:List Q3}{d x m:Nat}{t:Q2}{l bs r:List Q0}(hm:400≤m)(h:l.length≤m)(e:Q2h w d x t l bs=some r):r.length≤m:=
 X7x hm bs _ r (by have:=X3s w x t l;omega) e
theorem W6g {w:List Q3}{t:Q2} : ∀ (ps bef r:List Q0),sepP w t bef ps=some r→r.length≤400 * ps.length
 | [],_,r,e=>by simp only [sepP,Option.some.injEq] at e;subst e;simp
 | p::ps,bef,r,e=>by
  simp only [sepP] at e
  cases hm:Q2h w 10 11 t [p] bef with
  | none=>rw [hm] at e;simp at e
  | some m=>
   rw [hm] at e
   simp only [U0,U12] at e
   obtain ⟨r2,h2,rfl⟩:=e
   have h1:=Q85 (m:=400) (Nat.le_refl _) (by simp) hm
   have h3:=W6g ps (bef++[p]) r2 h2
   simp only [U5,U3]
   omega
theorem X37 {α:Type}{l:List α}{k:Nat}(h:k≤l.length):Q6a l (k:Int)=some (l.take k):=by
 unfold Q6a
 rw [if_pos ⟨by omega,by omega⟩]
 simp
theorem Z9y {w:List Q3}(hww:w∈Q0r)(hw:WW w)(he:WE w){t:Q2}(ht:t∈tys w){ps:List Q0}(hp:∀ p∈ps,X6 w 10 t p∧cntP p≤130)(hl:ps.length≤1600) :
  Q1h NN ⟨w,dimP w⟩ t ps=some (optR (sepP w t [] ps)):=by
 suffices hs:Ret (Q1h NN ⟨w,dimP w⟩ t ps) (fun r=>r=optR (sepP w t [] ps)) by
  obtain ⟨a,e,rfl⟩:=hs
  exact e
 unfold Q1h
 refine Ret.ctl (Z3 ps (fun k s=>s.length≤400 * k∧sepP w t [] ps=(sepP w t (ps.take k) (ps.drop k)).map (s++·)) (fun r=>r=([],false)∧sepP w t [] ps=none) (fun s=>sepP w t [] ps=some s) ⟨by simp,by simp⟩ (fun k p s hp' hI=>?_) (fun s hI=>?_)) (fun r hr=>.some (by rw [hr.1,hr.2];rfl)) (fun s hs=>.some (by rw [hs];rfl))
 ·obtain ⟨hsl,hI⟩:=hI
  have hk:=(List.getElem?_eq_some_iff.1 hp').1
  have hpm:=hp p (U1 hp')
  rw [X37 (by omega)]
  simp only [U0]
  rw [Z3w hww hw he (d:=10) (x:=11) ht (by omega) (by omega) (fun b hb=>hp b (List.mem_of_mem_take hb)) (fun a ha=>by simp only [List.mem_singleton] at ha;rw [ha];exact Q6f 10 t p hpm.1) (by simp) (by simp only [NN];omega)]
  simp only [U0]
  rw [Q9k hp'] at hI
  simp only [sepP] at hI
  cases hm:Q2h w 10 11 t [p] (ps.take k) with
  | none=>
   rw [hm] at hI
   simp only [Option.bind_none,Option.map_none] at hI
   simp only [optR,Bool.not_false,if_true]
   exact .some ⟨rfl,hI⟩
  | some m=>
   rw [hm] at hI
   have hml:=Q85 (m:=400) (Nat.le_refl _) (by simp) hm
   simp only [optR,Bool.not_true,U2,if_false]
   rw [X2 (by simp only [Q6];omega)]
   refine .some ⟨by simp only [U5];omega,?_⟩
   rw [hI]
   simp only [U0,Option.map_map]
   rw [List.take_add_one,hp']
   simp only [Option.toList_some]
   congr 1
   funext z
   simp
 ·obtain ⟨_,hI⟩:=hI
  rw [List.drop_length,sepP] at hI
  simpa using hI
theorem X1j {w:List Q3}(hww:w∈Q0r){t:Q2}(ht:t∈tys w){cs:List Q5}{i:Nat}(hi:i<cs.length):Q2e NN w t cs (i:Int)=some (optR (Q1i w t cs i)):=by
 have hw:=ww hww
 have he:=we hww
 unfold Q2e Q1i
 rw [Z07 hw ht]
 simp only [U0]
 by_cases h:Q23 w t cs=true
 ·obtain ⟨h8,hc⟩:=Q78 h
  have hin:(decide ((0:Int)≤(i:Int))&&decide ((i:Int)≤wsub .i64 (lenZ cs.length) 1))=true:=by
   rw [Q0j,Q2m (by omega) (by omega)]
   simp only [Bool.and_eq_true,decide_eq_true_eq]
   omega
  have hci:cs[i]?=some (cs[i]'hi):=by simp
  generalize cs[i]'hi=c at hci
  obtain ⟨hv,hg,hcn⟩:=hc c (U1 hci)
  simp only [h,Bool.not_true,U2,if_false,if_true]
  rw [Z09,hin,hci]
  simp only [U0,Bool.not_true,U2,if_false]
  rw [Q1b hci]
  simp only [U0]
  rw [Z7q hw ht hg (by omega) (by simp only [NN];omega),X37 (by omega)]
  simp only [U0]
  have htk:∀ c∈cs.take i,J6 w 10 t c.pat=true∧cntP c.pat≤60:=fun c m=>(hc c (List.mem_of_mem_take m)).2
  rw [X6w hw ht (by simp only [NN];omega) (cs.take i) (fun c m=>⟨(htk c m).1,by have:=(htk c m).2;omega⟩) (by rw [U6];omega)]
  simp only [U0]
  cases hm:Q72 c.pat with
  | none=>simp [optR]
  | some mine=>
   have hpp:=Z6q hg hm
   have hpc:=Z9j hm
   have hpl:=(Q89 hm).1
   cases ha:Q31 (cs.take i) with
   | none=>simp [optR]
   | some away=>
    have hap:=Z0o (fun c m=>(htk c m).1) ha
    have hac:=Z6a (m:=60) (fun c m=>(htk c m).2) ha
    simp only [optR,Bool.not_true,U2,if_false,U0]
    rw [(wl hww).dim]
    simp only [U0]
    rw [Z9y hww hw he ht (fun p hp=>⟨hpp p hp,by have:=hpc p hp;omega⟩) (by omega)]
    simp only [U0]
    cases hs:sepP w t [] mine with
    | none=>
     simp only [optR,U2,if_false,U0,Option.bind_none]
     have:=Z5v hw (S:=dimP w) (n:=NN) (by simp only [NN];omega) ht none (fun l h=>by cases h)
     simp only [optR] at this
     rw [this]
     rfl
    | some out=>
     have hol:=W6g mine [] out hs
     have hop:=Z8i mine [] out (by simp) hpp hs
     simp only [optR,if_true,U0]
     rw [Z3w hww hw he (d:=10) (x:=11) ht (by omega) (by omega) (fun b hb=>⟨hap b hb,by have:=hac b hb;omega⟩) hop (by omega) (by simp only [NN];omega)]
     simp only [U0]
     rw [Z5v hw (by simp only [NN];omega) ht _ (fun r hr=>by have:=Q85 (m:=20000) (by omega) (by omega) hr;omega)]
     cases Z1u w t (Q2h w 10 11 t out away)<;>rfl
 ·simp [h,optR]
def nilR:Option (List Q0)→Bool
 | some l=>decide (l.length=0)
 | none=>false
def redD (w:List Q3)(t:Q2)(cs:List Q5):List Int×Bool:=
 if Q23 w t cs=true∧∀ i,i<cs.length→(Q1i w t cs i).isSome=true then (((List.range cs.length).filter fun i=>nilR (Q1i w t cs i)).map (fun i:Nat=>(i:Int)),true) else ([],false)
theorem Z88 {w:List Q3}(hww:w∈Q0r){t:Q2}(ht:t∈tys w)(cs:List Q5):Q18 NN w t cs=some (redD w t cs):=by
 have hw:=ww hww
 suffices hs:Ret (Q18 NN w t cs) (fun r=>r=redD w t cs) by
  obtain ⟨a,e,rfl⟩:=hs
  exact e
 unfold Q18 redD
 rw [Z07 hw ht]
 simp only [U0]
 by_cases h:Q23 w t cs=true
 ·obtain ⟨h8,hc⟩:=Q78 h
  simp only [h,Bool.not_true,U2,if_false,true_and]
  refine Ret.ctl (Z3 cs (fun k s=>s=((List.range k).filter fun i=>nilR (Q1i w t cs i)).map (fun i:Nat=>(i:Int))∧∀ i,i<k→(Q1i w t cs i).isSome=true) (fun r=>r=([],false)∧¬∀ i,i<cs.length→(Q1i w t cs i).isSome=true) (fun s=>s=((List.range cs.length).filter fun i=>nilR (Q1i w t cs i)).map (fun i:Nat=>(i:Int))∧∀ i,i<cs.length→(Q1i w t cs i).isSome=true) ⟨by simp,by simp⟩ (fun k c s hck hI=>?_) (fun s hI=>hI)) (fun r hr=>.some (by rw [if_neg hr.2];exact hr.1)) (fun s hs=>.some (by rw [if_pos hs.2,hs.1]))
  obtain ⟨hI,hall⟩:=hI
  have hk:=(List.getElem?_eq_some_iff.1 hck).1
  have hsl:s.length≤8:=by
   rw [hI,U7]
   have:=List.length_filter_le (fun i=>nilR (Q1i w t cs i)) (List.range k)
   rw [List.length_range] at this
   omega
  rw [X1j hww ht hk]
  simp only [U0]
  have hnext:∀ i,i<k+1→(Q1i w t cs k).isSome=true→(Q1i w t cs i).isSome=true:=fun i hi hk'=>by
   by_cases hik:i=k
   ·rw [hik];exact hk'
   ·exact hall i (by omega)
  cases hr:Q1i w t cs k with
  | none=>
   simp only [optR,Bool.not_false,if_true,U0]
   exact .some ⟨rfl,fun hh=>by have:=hh k hk;rw [hr] at this;cases this⟩
  | some r=>
   simp only [optR,Bool.not_true,U2,if_false,len0]
   rw [hr] at hnext
   by_cases h0:r.length=0
   ·have hr0:r=[]:=List.eq_nil_of_length_eq_zero h0
    simp only [h0,decide_true,if_true]
    rw [X2 (by simp only [U3,U4,Q6];omega)]
    refine .some ⟨?_,fun i hi=>hnext i hi rfl⟩
    rw [hI,List.range_succ,List.filter_append,List.map_append]
    simp [hr,hr0,nilR]
   ·simp only [h0,decide_false,U2,if_false,U0]
    refine .some ⟨?_,fun i hi=>hnext i hi rfl⟩
    rw [hI,List.range_succ,List.filter_append,List.map_append]
    have:r≠[]:=fun e=>h0 (by rw [e];rfl)
    simp [hr,this,nilR]
 ·simp only [h,Bool.not_false,if_true,false_and,if_false]
  exact .some rfl
theorem W6t {w:List Q3}(hww:w∈Q0r){t:Q2}(ht:t∈tys w){cs:List Q5}{i:Nat}(hi:(i:Int)∈(redD w t cs).1){e:Nat}{v:Q4}(hv:Q1r w e t v){b:List Y3} : runD v 0 cs≠some (i,b):=by
 intro hr
 unfold redD at hi
 split at hi
 ·rename_i hh
  simp only [U11,List.mem_filter,List.mem_range] at hi
  obtain ⟨j,⟨hj,hj2⟩,hji⟩:=hi
  have hji:j=i:=by omega
  subst hji
  obtain ⟨r0,hr0,hj2⟩:∃ r,Q1i w t cs j=some r∧r=[]:=by
   cases hr0:Q1i w t cs j with
   | none=>rw [hr0] at hj2;cases hj2
   | some r0=>
    rw [hr0] at hj2
    exact ⟨r0,rfl,List.eq_nil_of_length_eq_zero (by simpa [nilR] using hj2)⟩
  subst hj2
  obtain ⟨c,hc,h1⟩:=W6u (ww hww) (we hww) ht hv hr0
  obtain ⟨j',c',b',g1,g2,g3,g4,g5,g6⟩:=Z0g hr
  simp only [Nat.zero_add] at g2
  subst g2
  rw [hc] at g1
  have g1:=Option.some.inj g1
  subst g1
  have h2:=h1.2 ⟨by rw [g3];rfl,fun c' hc' h0=>by
   obtain ⟨k,hk⟩:=List.mem_iff_getElem?.1 hc'
   rw [List.getElem?_take] at hk
   split at hk
   ·rename_i hkj
    cases hm:Z6 10 c'.pat v with
    | none=>rfl
    | some b'=>
     have:=g6 k c' hkj hk b' hm
     simp [Q38,h0] at this
   ·cases hk⟩
  obtain ⟨y,hy,_⟩:=h2
  cases hy
 ·cases hi
def Disj (w:List Q3)(t:Q2)(x y:Q0):Prop:=∀ (e:Nat) (v:Q4),Q1r w e t v→fitP x v=true→fitP y v=true→False
def V7o (w:List Q3)(ts:List Q2)(xs ys:List Q0):Prop:=∀ (e:Nat) (vs:List Q4),vs.length=ts.length→(∀ (j:Nat) (t:Q2) (v:Q4),ts[j]?=some t→vs[j]?=some v→Q1r w e t v)→fitL xs vs=true→fitL ys vs=true→False
theorem W7k {w:List Q3}{fm:Q2→Q0→Q0→List Q0}{fj:Q0→Q0→Option Q0} : ∀ (ts:List Q2) (as bs:List Q0),as.length=ts.length→bs.length=ts.length→
  (∀ (j:Nat) (t:Q2) (a b:Q0),ts[j]?=some t→as[j]?=some a→bs[j]?=some b→(fm t a b).Pairwise (Disj w t)∧∀ (e:Nat) (v:Q4),Q1r w e t v→(∀ y∈fm t a b,fitP y v=true→fitP b v=false)∧∀ m,fj a b=some m→fitP m v=true→fitP b v=true)→
  (kmD fm fj ts as bs).Pairwise (V7o w ts)
 | [],as,bs,_,_,_=>by simp [kmD]
 | t::ts,a::as,b::bs,h1,h2,h=>by
  obtain ⟨g1,g2⟩:=h 0 t a b rfl rfl rfl
  have ih:=W7k ts as bs (by simpa using h1) (by simpa using h2) fun j t a b e1 e2 e3=>h (j+1) t a b (by simpa using e1) (by simpa using e2) (by simpa using e3)
  simp only [kmD]
  rw [List.pairwise_append]
  have split2:∀ (x y:Q0) (xs ys:List Q0),(Disj w t x y∨V7o w ts xs ys)→V7o w (t::ts) (x::xs) (y::ys):=fun x y xs ys hd e vs hl hg hx hy=>by
   cases vs with
   | nil=>simp at hl
   | cons v vs=>
    rw [Q5z,Bool.and_eq_true] at hx hy
    rcases hd with hd | hd
    ·exact hd e v (hg 0 t v rfl rfl) hx.1 hy.1
    ·exact hd e vs (by simpa using hl) (fun j t v e1 e2=>hg (j+1) t v (by simpa using e1) (by simpa using e2)) hx.2 hy.2
  refine ⟨?_,?_,?_⟩
  ·rw [List.pairwise_map]
   exact g1.imp fun {x y} hd=>split2 x y as as (.inl hd)
  ·cases hm:fj a b with
   | none=>exact List.Pairwise.nil
   | some m=>
    simp only
    rw [List.pairwise_map]
    exact ih.imp fun {x y} hd=>split2 m m x y (.inr hd)
  ·intro x hx y hy
   obtain ⟨x0,hx0,rfl⟩:=U11.1 hx
   cases hm:fj a b with
   | none=>rw [hm] at hy;cases hy
   | some m=>
    rw [hm] at hy
    simp only at hy
    obtain ⟨y0,_,rfl⟩:=U11.1 hy
    refine split2 x0 m as y0 (.inl fun e v hv f1 f2=>?_)
    obtain ⟨q1,q2⟩:=g2 e v hv
    have:=q1 x0 hx0 f1
    rw [q2 m hm f2] at this
    cases this
 | _::_,[],_,h,_,_=>by simp at h
 | _::_,_::_,[],_,h,_=>by simp at h
theorem V52 {w:List Q3}{fm:Q2→Q0→Q0→List Q0}{fj:Q0→Q0→Option Q0}{t:Q2}{a b y:Q0}(ha:a.op=4)(hy:y∈cmD w fm fj t a b):y.op=4∧y.ctor=a.ctor:=by
 unfold cmD at hy
 split at hy
 ·obtain ⟨ks,_,rfl⟩:=U11.1 hy
  exact ⟨rfl,rfl⟩
 ·simp only [List.mem_singleton] at hy
  subst hy
  exact ⟨ha,rfl⟩
theorem W93 {w:List Q3}{d x:Nat}(hM:∀ (t:Q2) (a b:Q0) (x:Nat),t∈tys w→X6 w x t a→X6 w d t b→(W6 w d t a b).Pairwise (Disj w t)){t:Q2}{c c':Int}{ks ks':List Q0}(hat:∀ a∈X4 w t c,a∈tys w)(ht:t.data≠-1)
  (hl:ks.length=(X4 w t c).length) (hk:∀ (j:Nat) (a:Q2) (q:Q0),(X4 w t c)[j]?=some a→ks[j]?=some q→X6 w x a q)
  (hl':ks'.length=(X4 w t c').length) (hk':∀ (j:Nat) (a:Q2) (q:Q0),(X4 w t c')[j]?=some a→ks'[j]?=some q→X6 w d a q) :
  (cmD w (W6 w d) (Q0t d) t (Q0.mk 4 c 0 0 0 ks) (Q0.mk 4 c' 0 0 0 ks')).Pairwise (Disj w t):=by
 unfold cmD
 by_cases hc:c=c'
 ·subst hc
  simp only [if_true]
  rw [List.pairwise_map]
  refine (W7k (w:=w) (X4 w t c) ks ks' hl hl' fun j u a b e1 e2 e3=>⟨hM u a b x (hat u (U1 e1)) (hk j u a e1 e2) (hk' j u b e1 e3),fun e v hv=>⟨fun y hy hf=>?_,fun m hm hf=>?_⟩⟩).imp fun {xs ys} hd e v hv h1 h2=>?_
  ·exact ((Z2i d e u a b x (hk j u a e1 e2) (hk' j u b e1 e3) v hv).2 ⟨y,hy,hf⟩).2
  ·exact ((W1c d e u a b x (hk j u a e1 e2) (hk' j u b e1 e3) v hv).2 ⟨m,hm,hf⟩).2
  ·rw [Q22 rfl,Bool.and_eq_true,decide_eq_true_eq] at h1 h2
   obtain ⟨e',rfl,_,g2,g3⟩:=Q7y hv ht
   have hcv:c=v.ctor:=h1.1
   rw [←hcv] at g2 g3
   exact hd e' v.kids g2 (fun j u x e1 e2=>g3 j u x e1 e2) h1.2 h2.2
 ·simp only [if_neg hc,List.pairwise_cons,List.not_mem_nil,false_implies,implies_true,List.Pairwise.nil,and_self]
theorem X68 {w:List Q3}{t:Q2}{n m n' m':Int}(h:n'≤m'):(Z3j n m n' m').Pairwise (Disj w t):=by
 have hd:Disj w t (Q0.mk 3 0 n (min m (n'-1)) 0 []) (Q0.mk 3 0 (max n (m'+1)) m 0 []):=fun e v _ h1 h2=>by
  rw [Q6z rfl,decide_eq_true_eq] at h1 h2
  simp only at h1 h2
  omega
 unfold Z3j
 split<;>split<;>simp [hd]
theorem W3o {w:List Q3}(hw:WW w)(he:WE w):∀ (d:Nat) (t:Q2) (a b:Q0) (x:Nat),t∈tys w→X6 w x t a→X6 w d t b→(W6 w d t a b).Pairwise (Disj w t):=by
 intro d
 induction d with
 | zero=>intro t a b x _ _ h;exact h.elim
 | succ d ih=>
  intro t a b x ht ha hb
  cases x with
  | zero=>exact ha.elim
  | succ x=>
  rcases hb with rfl | ⟨n',m',rfl,ht',g0,g1,g2⟩ | ⟨c',ks',rfl,ht',hc',hl',hk'⟩
  ·simp [W6]
  ·have e1:¬(3:Int)=1:=by decide
   simp only [W6,e1,if_false,if_true]
   split
   ·exact X68 g1
   ·exact X68 g1
  ·have e1:¬(4:Int)=1:=by decide
   have e3:¬(4:Int)=3:=by decide
   simp only [W6,e1,e3,if_false]
   rcases ha with rfl | ⟨n,m,rfl,ht2,_⟩ | ⟨c,ks,rfl,_,hc,hl,hk⟩
   ·simp only [if_true]
    rw [List.pairwise_flatMap]
    refine ⟨fun c hc=>?_,?_⟩
    ·exact W93 (x:=1) ih ((hw.ty t ht).at_ c hc) ht' (by simp) (fun j a q ha hq=>by
      rw [List.getElem?_map,ha] at hq
      cases hq
      exact Z0y w 0 a) hl' hk'
    ·refine (he.nd t ht).imp fun {c1 c2} hne y hy z hz e v hv f1 f2=>?_
     obtain ⟨a1,a2⟩:=V52 (a:=Q69 w t c1) rfl hy
     obtain ⟨b1,b2⟩:=V52 (a:=Q69 w t c2) rfl hz
     rw [Q22 a1,Bool.and_eq_true,decide_eq_true_eq] at f1
     rw [Q22 b1,Bool.and_eq_true,decide_eq_true_eq] at f2
     have h1:y.ctor=c1:=a2
     have h2:z.ctor=c2:=b2
     exact hne (by rw [←h1,←h2,f1.1,f2.1])
   ·exact absurd ht2 ht'
   ·simp only [e1,if_false]
    exact W93 ih ((hw.ty t ht).at_ c hc) ht' hl hk hl' hk'
theorem V3f {w:List Q3}{t:Q2}{a b x y:Q0}(h:Disj w t a b)(hx:∀ e v,Q1r w e t v→fitP x v=true→fitP a v=true)(hy:∀ e v,Q1r w e t v→fitP y v=true→fitP b v=true):Disj w t x y:=
 fun e v hv h1 h2=>h e v hv (hx e v hv h1) (hy e v hv h2)
theorem W64 {w:List Q3}(hw:WW w)(he:WE w){d x:Nat}{t:Q2}(ht:t∈tys w){b:Q0}(hb:X6 w d t b){l:List Q0}(h:∀ a∈l,X6 w x t a)(hd:l.Pairwise (Disj w t)):(Q3w w d x t l b).Pairwise (Disj w t):=by
 unfold Q3w Q8c
 refine List.Pairwise.filter _ ?_
 rw [List.pairwise_flatMap]
 refine ⟨fun a ha=>W3o hw he d t a b x ht (h a ha) hb,?_⟩
 have hall:∀ l:List Q0,(∀ a∈l,X6 w x t a)→l.Pairwise (Disj w t)→l.Pairwise (fun a₁ a₂=>∀ y∈W6 w d t a₁ b,∀ z∈W6 w d t a₂ b,Disj w t y z):=by
  intro l
  induction l with
  | nil=>intro _ _;exact List.Pairwise.nil
  | cons a l ih=>
   intro h hd
   rw [List.pairwise_cons] at hd ⊢
   refine ⟨fun a2 ha2 y hy z hz=>V3f (hd.1 a2 ha2) (fun e v hv hf=>?_) (fun e v hv hf=>?_),ih (fun a ha=>h a (by simp [ha])) hd.2⟩
   ·exact ((Z2i d e t a b x (h a (by simp)) hb v hv).2 ⟨y,hy,hf⟩).1
   ·exact ((Z2i d e t a2 b x (h a2 (by simp [ha2])) hb v hv).2 ⟨z,hz,hf⟩).1
 exact hall l h hd
theorem X7z {w:List Q3}(hw:WW w)(he:WE w){d x:Nat}{t:Q2}(ht:t∈tys w)(hx:d+1≤x):∀ (bs l r:List Q0),(∀ b∈bs,X6 w d t b)→(∀ a∈l,X6 w x t a)→l.Pairwise (Disj w t)→Q7b w d x t l bs=some r→r.Pairwise (Disj w t)
 | [],l,r,_,_,hd,e=>by simp only [Q7b,Option.some.injEq] at e;subst e;exact hd
 | b::bs,l,r,hb,h,hd,e=>by
  simp only [Q7b] at e
  split at e
  ·cases e
  ·exact X7z hw he ht hx bs _ r (fun b hb'=>hb b (by simp [hb'])) (Q91 hx (hb b (by simp)) h) (W64 hw he ht (hb b (by simp)) h hd) e
theorem X5e {w:List Q3}(hw:WW w)(he:WE w){d x:Nat}{t:Q2}(ht:t∈tys w)(hx:d+1≤x){l bs r:List Q0}(hb:∀ b∈bs,X6 w d t b)(h:∀ a∈l,X6 w x t a)(hd:l.Pairwise (Disj w t))(e:Q2h w d x t l bs=some r):r.Pairwise (Disj w t):=
 X7z hw he ht hx bs _ r hb (fun a ha=>h a (List.mem_filter.1 ha).1) (hd.filter _) e
theorem W0y {w:List Q3}(hw:WW w)(he:WE w){t:Q2}(ht:t∈tys w):∀ (ps bef r:List Q0),(∀ b∈bef,X6 w 10 t b)→(∀ p∈ps,X6 w 10 t p)→sepP w t bef ps=some r→r.Pairwise (Disj w t)
 | [],_,r,_,_,e=>by simp only [sepP,Option.some.injEq] at e;subst e;exact List.Pairwise.nil
 | p::ps,bef,r,hb,hp,e=>by
  simp only [sepP] at e
  cases hm:Q2h w 10 11 t [p] bef with
  | none=>rw [hm] at e;simp at e
  | some m=>
   rw [hm] at e
   simp only [U0,U12] at e
   obtain ⟨r2,h2,rfl⟩:=e
   have hp1:∀ a∈[p],X6 w 11 t a:=fun a ha=>by simp only [List.mem_singleton] at ha;rw [ha];exact Q6f 10 t p (hp p (by simp))
   have hb2:∀ b∈bef++[p],X6 w 10 t b:=fun b hb'=>by
    rcases U9.1 hb' with h | h
    ·exact hb b h
    ·simp only [List.mem_singleton] at h;rw [h];exact hp p (by simp)
   rw [List.pairwise_append]
   refine ⟨X5e hw he ht (by omega) hb hp1 (List.pairwise_singleton _ _) hm,W0y hw he ht ps _ r2 hb2 (fun q hq=>hp q (by simp [hq])) h2,fun y hy z hz e v hv f1 f2=>?_⟩
   obtain ⟨⟨a,ha,haf⟩,_⟩:=(Z3z hw he ht (by omega) hv hb hp1 hm).1 ⟨y,hy,f1⟩
   simp only [List.mem_singleton] at ha
   subst ha
   have:=((X8w hw he ht hv ps _ r2 hb2 (fun q hq=>hp q (by simp [hq])) h2).1 ⟨z,hz,f2⟩).2 a (by simp)
   rw [haf] at this
   cases this
theorem W4w {w:List Q3}{t:Q2}{e:Nat}{C:List Q4}(hC:∀ v∈C,Q1r w e t v){l:List Q0}(hd:l.Pairwise (Disj w t))(h:∀ p∈l,∃ v∈C,fitP p v=true):l.length≤C.length:=by
 have key:∀ (l:List Q0),l.Pairwise (Disj w t)→(∀ p∈l,∃ v∈C,fitP p v=true)→∃ js:List Int,js.length=l.length∧js.Nodup∧∀ j∈js,∃ k:Nat,j=(k:Int)∧∃ v,C[k]?=some v∧∃ p∈l,fitP p v=true:=by
  intro l
  induction l with
  | nil=>intro _ _;exact ⟨[],rfl,List.nodup_nil,fun j h=>by cases h⟩
  | cons p l ih=>
   intro hd h
   rw [List.pairwise_cons] at hd
   obtain ⟨js,h1,h2,h3⟩:=ih hd.2 fun q hq=>h q (by simp [hq])
   obtain ⟨v,hv,hf⟩:=h p (by simp)
   obtain ⟨k,hk⟩:=List.mem_iff_getElem?.1 hv
   refine ⟨(k:Int)::js,by simp [h1],List.nodup_cons.2 ⟨fun hm=>?_,h2⟩,fun j hj=>?_⟩
   ·obtain ⟨k',e1,v',e2,q,hq,hqf⟩:=h3 _ hm
    have:k=k':=by omega
    subst this
    rw [hk] at e2
    cases e2
    exact hd.1 q hq e v (hC v hv) hf hqf
   ·rcases U8.1 hj with rfl | hj
    ·exact ⟨k,rfl,v,hk,p,by simp,hf⟩
    ·obtain ⟨k',e1,v',e2,q,hq,hqf⟩:=h3 j hj
     exact ⟨k',e1,v',e2,q,by simp [hq],hqf⟩
 obtain ⟨js,h1,h2,h3⟩:=key l hd h
 rw [←h1]
 refine Z0z C.length js h2 fun j hj=>?_
 obtain ⟨k,rfl,v,hv,_⟩:=h3 j hj
 have:=(List.getElem?_eq_some_iff.1 hv).1
 omega
def X6p (w:List Q3):Nat→Q2→Q4
 | 0,_=>⟨0,0,[]⟩
 | d+1,t=>if t.data = -1 then ⟨-1,0,[]⟩ else match (X1 w t).find? (fun c=>decide (Q6h w t c=depP w t)) with
  | none=>⟨0,0,[]⟩
  | some c=>⟨c,0,(X4 w t c).map (X6p w d)⟩
def Z3k (w:List Q3)(t:Q2):List Q4:=if t.data = -1 then (List.range 10).map numV else
 ((X1 w t).filter fun c=>(X4 w t c).all fun a=>decide (depP w a≠0)).map fun c=>⟨c,0,(X4 w t c).map (X6p w 5)⟩
def X1i (w:List Q3)(t:Q2):List Q4:=if t.data = -1 then (List.range 10).map numV else
 (X1 w t).flatMap fun c=>(((X4 w t c).map (Z3k w)).foldl tupV [[]]).map (mkV c)
def Y17 (l:List Nat):Nat:=l.foldl (fun a b=>a * max 1 b) 1
def chkR (w:List Q3):Bool:=(tys w).all fun t=>(decide (depP w t=0)||Q3j w 10 t (X6p w 5 t))&&(decide ((X1i w t).length≤400)&&(X1 w t).all fun c=>decide (Y17 ((X4 w t c).map fun a=>(Z3k w a).length)≤400))
theorem Y6p:Q0r.all chkR=true:=by kernel_rfl
structure WR (w:List Q3):Prop where
 least:∀ t∈tys w,depP w t≠0→Q1r w 10 t (X6p w 5 t)
 n2:∀ t∈tys w,(X1i w t).length≤400
 n1:∀ t∈tys w,∀ c∈X1 w t,Y17 ((X4 w t c).map fun a=>(Z3k w a).length)≤400
theorem wr {w:List Q3}(h:w∈Q0r):WR w:=by
 have h1:=List.all_eq_true.1 Y6p w h
 simp only [chkR,List.all_eq_true,Bool.and_eq_true,Bool.or_eq_true,decide_eq_true_eq] at h1
 exact ⟨fun t ht h0=>(X2t 10 t _).1 (((h1 t ht).1).resolve_left h0),fun t ht=>(h1 t ht).2.1,fun t ht c hc=>(h1 t ht).2.2 c hc⟩
def hgt1 (p:Q0):Prop:=p.op=1∨p.op=3∨(p.op=4∧∀ q∈p.kids,q.op=1)
def hgt2 (p:Q0):Prop:=p.op=1∨p.op=3∨(p.op=4∧∀ q∈p.kids,hgt1 q)
theorem Y1p {p:Q0}(h:hgt1 p):hgt2 p:=by
 rcases h with h | h | h
 ·exact .inl h
 ·exact .inr (.inl h)
 ·exact .inr (.inr ⟨h.1,fun q hq=>.inl (h.2 q hq)⟩)
theorem Z9p:∀ (ls:List (List Q4)) (out:List (List Q4)) (o vs:List Q4),o∈out→vs.length=ls.length→(∀ (j:Nat) (v:Q4) (l:List Q4),vs[j]?=some v→ls[j]?=some l→v∈l)→o++vs∈ls.foldl tupV out
 | [],out,o,[],ho,_,_=>by simpa using ho
 | l::ls,out,o,v::vs,ho,hl,h=>by
  rw [List.foldl_cons]
  have:=Z9p ls (tupV out l) (o++[v]) vs (List.mem_flatMap.2 ⟨o,ho,U11.2 ⟨v,h 0 v l rfl rfl,rfl⟩⟩) (by simpa using hl) fun j v l h1 h2=>h (j+1) v l (by simpa using h1) (by simpa using h2)
  simpa using this
 | [],_,_,_::_,_,h,_=>by simp at h
 | _::_,_,_,[],_,h,_=>by simp at h
theorem V6z {ps:List Q0} : ∀ {vs:List Q4},ps.length=vs.length→(∀ (j:Nat) (p:Q0) (v:Q4),ps[j]?=some p→vs[j]?=some v→fitP p v=true)→fitL ps vs=true:=by
 induction ps with
 | nil=>intro vs h _;cases vs with
  | nil=>exact Z8p
  | cons v vs=>simp at h
 | cons p ps ih=>
  intro vs h hf
  cases vs with
  | nil=>simp at h
  | cons v vs=>
   rw [Q5z,Bool.and_eq_true]
   exact ⟨hf 0 p v rfl rfl,ih (by simpa using h) fun j p v h1 h2=>hf (j+1) p v (by simpa using h1) (by simpa using h2)⟩
theorem X49 {w:List Q3}{e:Nat}{t:Q2}{c:Int}{vs:List Q4}(hd:t.data≠-1)(hc:c∈X1 w t)(hl:vs.length=(X4 w t c).length)(h:∀ (j:Nat) (a:Q2) (x:Q4),(X4 w t c)[j]?=some a→vs[j]?=some x→Q1r w e a x):Q1r w (e+1) t ⟨c,0,vs⟩:=by
 rw [Q1r,if_neg hd]
 exact ⟨rfl,hc,hl,h⟩
theorem X3n {w:List Q3}{e:Nat}{t:Q2}(hd:t.data = -1){n:Nat}(hn:n<10):Q1r w (e+1) t (numV n):=by
 rw [Q1r,if_pos hd]
 exact ⟨rfl,by simp only [numV];omega,by simp only [numV];omega,rfl⟩
theorem X2c {w:List Q3}(hw:WW w)(hr:WR w){t:Q2}(ht:t∈tys w){v:Q4}(hv:v∈Z3k w t):Q1r w 11 t v:=by
 unfold Z3k at hv
 split at hv
 ·rename_i hd
  obtain ⟨n,hn,rfl⟩:=U11.1 hv
  exact X3n hd (List.mem_range.1 hn)
 ·rename_i hd
  obtain ⟨c,hc,rfl⟩:=U11.1 hv
  obtain ⟨h1,h2⟩:=List.mem_filter.1 hc
  refine X49 hd h1 (by simp) fun j a x ha hx=>?_
  rw [List.getElem?_map,ha] at hx
  simp only [Option.map_some,Option.some.injEq] at hx
  subst hx
  have ham:=U1 ha
  exact hr.least a ((hw.ty t ht).at_ c h1 a ham) (by simpa using List.all_eq_true.1 h2 a ham)
theorem W3c {w:List Q3}(hw:WW w)(hr:WR w){t:Q2}(ht:t∈tys w){v:Q4}(hv:v∈X1i w t):Q1r w 12 t v:=by
 unfold X1i at hv
 split at hv
 ·rename_i hd
  obtain ⟨n,hn,rfl⟩:=U11.1 hv
  exact X3n hd (List.mem_range.1 hn)
 ·rename_i hd
  obtain ⟨c,hc,hv⟩:=List.mem_flatMap.1 hv
  obtain ⟨ks,hks,rfl⟩:=U11.1 hv
  obtain ⟨a,b,ha,rfl,hl,hb⟩:=Z8v _ _ _ hks
  simp only [List.mem_singleton] at ha
  subst ha
  simp only [U7] at hl
  refine X49 hd hc (by simpa using hl) fun j u x hu hx=>?_
  exact X2c hw hr ((hw.ty t ht).at_ c hc u (U1 hu)) (hb j x (Z3k w u) (by simpa using hx) (by rw [List.getElem?_map,hu];rfl))
theorem rep1 {w:List Q3}(hw:WW w){t:Q2}(ht:t∈tys w){d:Nat}{p:Q0}(hp:X6 w d t p)(h1:hgt1 p)(he:Y5 w d t p=false):∃ v∈Z3k w t,fitP p v=true:=by
 have hT:=hw.ty t ht
 cases d with
 | zero=>exact hp.elim
 | succ d=>
 rcases hp with rfl | ⟨n,m,rfl,hd,g0,g1,g2⟩ | ⟨c,ks,rfl,hd,hc,hl,hk⟩
 ·simp only [Y5,if_true,decide_eq_false_iff_not] at he
  unfold Z3k
  split
  ·exact ⟨numV 0,List.mem_map_of_mem (List.mem_range.2 (by omega)),Q70 rfl _⟩
  ·rename_i hd
   obtain ⟨k,hk,hm⟩:=hT.dm hd he
   exact ⟨_,List.mem_map_of_mem (List.mem_filter.2 ⟨hk,List.all_eq_true.2 fun a ha=>by
    have:=(hT.ma k hk (by omega) a ha).1
    simp only [ne_eq,decide_not,Bool.not_eq_true',decide_eq_false_iff_not];omega⟩),Q70 rfl _⟩
 ·unfold Z3k
  rw [if_pos hd]
  refine ⟨numV n.toNat,List.mem_map_of_mem (List.mem_range.2 (by omega)),?_⟩
  rw [Q6z rfl,decide_eq_true_eq]
  simp only [numV]
  omega
 ·unfold Z3k
  rw [if_neg hd]
  have hks:∀ q∈ks,q.op=1:=by
   rcases h1 with h | h | h
   ·simp at h
   ·simp at h
   ·exact h.2
  refine ⟨⟨c,0,(X4 w t c).map (X6p w 5)⟩,U11.2 ⟨c,List.mem_filter.2 ⟨hc,List.all_eq_true.2 fun a ha=>?_⟩,rfl⟩,?_⟩
  ·obtain ⟨j,hj⟩:=List.mem_iff_getElem?.1 ha
   have hjl:=(List.getElem?_eq_some_iff.1 hj).1
   have hq:ks[j]?=some (ks[j]'(by omega)):=by simp
   simp only [ne_eq,decide_not,Bool.not_eq_true',decide_eq_false_iff_not]
   intro h0
   have:Y5 w (d+1) t (Q0.mk 4 c 0 0 0 ks)=true:=Q5i.2 ⟨j,a,_,hj,hq,by
    cases d with
    | zero=>exact (hk j a _ hj hq).elim
    | succ d=>rw [Y5,if_pos (hks _ (U1 hq))];simpa using h0⟩
   rw [he] at this
   cases this
  ·rw [Q22 rfl,Bool.and_eq_true,decide_eq_true_eq]
   exact ⟨rfl,V6z (by simp only [U7];exact hl) fun j q v hq _=>Q70 (hks q (U1 hq)) v⟩
theorem rep2 {w:List Q3}(hw:WW w){t:Q2}(ht:t∈tys w){d:Nat}{p:Q0}(hp:X6 w d t p)(h2:hgt2 p)(he:Y5 w d t p=false):∃ v∈X1i w t,fitP p v=true:=by
 have hT:=hw.ty t ht
 cases d with
 | zero=>exact hp.elim
 | succ d=>
 have ctor:∀ (d:Nat) (c:Int) (ks:List Q0),t.data≠-1→c∈X1 w t→ks.length=(X4 w t c).length→(∀ (j:Nat) (a:Q2) (q:Q0),(X4 w t c)[j]?=some a→ks[j]?=some q→X6 w d a q∧hgt1 q∧Y5 w d a q=false)→∃ v∈X1i w t,fitP (Q0.mk 4 c 0 0 0 ks) v=true:=fun d c ks hd hc hl hk=>by
  have gen:∀ (ts:List Q2) (ks:List Q0),ks.length=ts.length→(∀ a∈ts,a∈tys w)→(∀ (j:Nat) (a:Q2) (q:Q0),ts[j]?=some a→ks[j]?=some q→X6 w d a q∧hgt1 q∧Y5 w d a q=false)→
    ∃ vs:List Q4,vs.length=ts.length∧(∀ (j:Nat) (v:Q4) (l:List Q4),vs[j]?=some v→(ts.map (Z3k w))[j]?=some l→v∈l)∧fitL ks vs=true:=by
   intro ts
   induction ts with
   | nil=>intro ks hl _ _;exact ⟨[],rfl,fun j v l h=>by simp at h,by cases ks with
     | nil=>exact Z8p
     | cons k ks=>simp at hl⟩
   | cons a ts ih=>
    intro ks hl hat hk
    cases ks with
    | nil=>simp at hl
    | cons q ks=>
     obtain ⟨vs,e1,e2,e3⟩:=ih ks (by simpa using hl) (fun x hx=>hat x (by simp [hx])) fun j a q h1 h2=>hk (j+1) a q (by simpa using h1) (by simpa using h2)
     obtain ⟨g1,g2,g3⟩:=hk 0 a q rfl rfl
     obtain ⟨v,hv,hf⟩:=rep1 hw (hat a (by simp)) g1 g2 g3
     refine ⟨v::vs,by simp [e1],fun j x l h1 h2=>?_,by rw [Q5z,hf,e3];rfl⟩
     cases j with
     | zero=>simp only [List.getElem?_cons_zero,List.map_cons,Option.some.injEq] at h1 h2;subst h1 h2;exact hv
     | succ j=>exact e2 j x l (by simpa using h1) (by simpa using h2)
  obtain ⟨vs,e1,e2,e3⟩:=gen _ ks hl (hT.at_ c hc) hk
  refine ⟨mkV c vs,?_,by rw [Q22 rfl];simp [mkV,e3]⟩
  unfold X1i
  rw [if_neg hd]
  refine List.mem_flatMap.2 ⟨c,hc,List.mem_map_of_mem ?_⟩
  have:=Z9p ((X4 w t c).map (Z3k w)) [[]] [] vs (by simp) (by simpa using e1) e2
  simpa using this
 rcases hp with rfl | ⟨n,m,rfl,hd,g0,g1,g2⟩ | ⟨c,ks,rfl,hd,hc,hl,hk⟩
 ·simp only [Y5,if_true,decide_eq_false_iff_not] at he
  by_cases hd:t.data = -1
  ·unfold X1i
   rw [if_pos hd]
   exact ⟨numV 0,List.mem_map_of_mem (List.mem_range.2 (by omega)),Q70 rfl _⟩
  ·obtain ⟨k,hk,hm⟩:=hT.dm hd he
   obtain ⟨v,hv,_⟩:=ctor 1 k ((X4 w t k).map fun _=>Q0.mk 1 0 0 0 0 []) hd hk (by simp) fun j a q ha hq=>by
    rw [List.getElem?_map,ha] at hq
    simp only [Option.map_some,Option.some.injEq] at hq
    subst hq
    refine ⟨Z0y w 0 a,.inl rfl,?_⟩
    have:=(hT.ma k hk (by omega) a (U1 ha)).1
    simp only [Y5,if_true,decide_eq_false_iff_not]
    omega
   exact ⟨v,hv,Q70 rfl _⟩
 ·unfold X1i
  rw [if_pos hd]
  refine ⟨numV n.toNat,List.mem_map_of_mem (List.mem_range.2 (by omega)),?_⟩
  rw [Q6z rfl,decide_eq_true_eq]
  simp only [numV]
  omega
 ·have hks:∀ q∈ks,hgt1 q:=by
   rcases h2 with h | h | h
   ·simp at h
   ·simp at h
   ·exact h.2
  refine ctor d c ks hd hc hl fun j a q ha hq=>⟨hk j a q ha hq,hks q (U1 hq),?_⟩
  cases hem:Y5 w d a q with
  | false=>rfl
  | true=>
   have:Y5 w (d+1) t (Q0.mk 4 c 0 0 0 ks)=true:=Q5i.2 ⟨j,a,q,ha,hq,hem⟩
   rw [he] at this
   cases this
theorem X2d {w:List Q3}(hw:WW w)(hr:WR w):∀ (d:Nat) (t:Q2) (p:Q0),t∈tys w→X6 w d t p→Y5 w d t p=false→∃ v,Q1r w (d+10) t v∧fitP p v=true
 | 0,_,_,_,h,_=>h.elim
 | d+1,t,p,ht,hp,he=>by
  rcases hp with rfl | ⟨n,m,rfl,hd,g0,g1,g2⟩ | ⟨c,ks,rfl,hd,hc,hl,hk⟩
  ·simp only [Y5,if_true,decide_eq_false_iff_not] at he
   exact ⟨_,X4b 10 _ t _ (by omega) (hr.least t ht he),Q70 rfl _⟩
  ·refine ⟨numV n.toNat,X3n hd (by omega),?_⟩
   rw [Q6z rfl,decide_eq_true_eq]
   simp only [numV]
   omega
  ·have hat:=(hw.ty t ht).at_ c hc
   have gen:∀ (ts:List Q2) (ks:List Q0),ks.length=ts.length→(∀ a∈ts,a∈tys w)→(∀ (j:Nat) (a:Q2) (q:Q0),ts[j]?=some a→ks[j]?=some q→X6 w d a q∧Y5 w d a q=false)→
     ∃ vs:List Q4,vs.length=ts.length∧(∀ (j:Nat) (a:Q2) (v:Q4),ts[j]?=some a→vs[j]?=some v→Q1r w (d+10) a v)∧fitL ks vs=true:=by
    intro ts
    induction ts with
    | nil=>intro ks hl _ _;exact ⟨[],rfl,fun j a v h=>by simp at h,by cases ks with
      | nil=>exact Z8p
      | cons k ks=>simp at hl⟩
    | cons a ts ih=>
     intro ks hl hat hk
     cases ks with
     | nil=>simp at hl
     | cons q ks=>
      obtain ⟨vs,e1,e2,e3⟩:=ih ks (by simpa using hl) (fun x hx=>hat x (by simp [hx])) fun j a q h1 h2=>hk (j+1) a q (by simpa using h1) (by simpa using h2)
      obtain ⟨g1,g3⟩:=hk 0 a q rfl rfl
      obtain ⟨v,hv,hf⟩:=X2d hw hr d a q (hat a (by simp)) g1 g3
      refine ⟨v::vs,by simp [e1],fun j b x h1 h2=>?_,by rw [Q5z,hf,e3];rfl⟩
      cases j with
      | zero=>simp only [List.getElem?_cons_zero,Option.some.injEq] at h1 h2;subst h1 h2;exact hv
      | succ j=>exact e2 j b x (by simpa using h1) (by simpa using h2)
   obtain ⟨vs,e1,e2,e3⟩:=gen _ ks hl hat fun j a q ha hq=>⟨hk j a q ha hq,by
    cases hem:Y5 w d a q with
    | false=>rfl
    | true=>
     have:Y5 w (d+1) t (Q0.mk 4 c 0 0 0 ks)=true:=Q5i.2 ⟨j,a,q,ha,hq,hem⟩
     rw [he] at this
     cases this⟩
   refine ⟨⟨c,0,vs⟩,?_,by rw [Q22 rfl];simp [e3]⟩
   have:=X49 (e:=d+10) hd hc e1 e2
   rw [show d+1+10=d+10+1 by omega]
   exact this
theorem W1d {d:Nat}{a b m:Q0}(ha:a.op=1)(h:Q0t d a b=some m):m=b:=by
 cases d with
 | zero=>simp [Q0t] at h
 | succ d=>rw [Q0t,if_pos ha] at h;cases h;rfl
theorem X6i {w:List Q3}{d:Nat}{t:Q2}{a b:Q0}(hb:b.op=1):W6 w d t a b=[]:=by
 cases d with
 | zero=>rfl
 | succ d=>rw [W6,if_pos hb]
theorem V5w {n m n' m':Int} : ∀ y∈Z3j n m n' m',y.op=3:=fun y hy=>by
 unfold Z3j at hy
 rcases U9.1 hy with h | h<;>split at h<;>simp at h<;>rw [h]
structure Cl (w:List Q3) (d x:Nat) (t:Q2) (P:Q0→Prop):Prop where
 mi:∀ a b,P a→P b→X6 w x t a→X6 w d t b→∀ y∈W6 w d t a b,P y
 me:∀ a b,P a→P b→X6 w x t a→X6 w d t b→∀ m,Q0t d a b=some m→P m
theorem Y1k {w:List Q3}{d x:Nat}{ts:List Q2}{as bs:List Q0}{P:Nat→Q0→Prop}(h1:as.length=ts.length)(h2:bs.length=ts.length)
  (h:∀ (j:Nat) (t:Q2) (a b:Q0),ts[j]?=some t→as[j]?=some a→bs[j]?=some b→P j a∧P j b∧X6 w x t a∧X6 w d t b∧Cl w d x t (P j)) :
  ∀ ks∈kmD (W6 w d) (Q0t d) ts as bs,ks.length=ts.length∧∀ (j:Nat) (q:Q0),ks[j]?=some q→P j q:=fun ks hks=>by
 obtain ⟨g1,i,hi,g2⟩:=W1g ts as bs h1 h2 ks hks
 refine ⟨g1,fun j q hq=>?_⟩
 have hj:=(List.getElem?_eq_some_iff.1 hq).1
 have ht:ts[j]?=some (ts[j]'(by omega)):=by simp
 have ha:as[j]?=some (as[j]'(by omega)):=by simp
 have hb:bs[j]?=some (bs[j]'(by omega)):=by simp
 obtain ⟨p1,p2,p3,p4,p5⟩:=h j _ _ _ ht ha hb
 obtain ⟨q1,q2,q3⟩:=g2 j _ _ _ q ht ha hb hq
 rcases Nat.lt_trichotomy j i with hji | hji | hji
 ·exact p5.me _ _ p1 p2 p3 p4 q (q1 hji)
 ·exact p5.mi _ _ p1 p2 p3 p4 q (q2 hji)
 ·rw [q3 hji];exact p1
theorem V1u {w:List Q3}{d x:Nat}{ts:List Q2}{as bs ms:List Q0}{P:Nat→Q0→Prop}(h1:as.length=ts.length)(h2:bs.length=ts.length)
  (h:∀ (j:Nat) (t:Q2) (a b:Q0),ts[j]?=some t→as[j]?=some a→bs[j]?=some b→P j a∧P j b∧X6 w x t a∧X6 w d t b∧Cl w d x t (P j)) (hm:Q56 (Q0t d) as bs=some ms) :
  ms.length=ts.length∧∀ (j:Nat) (q:Q0),ms[j]?=some q→P j q:=by
 obtain ⟨g1,g2⟩:=Z5p as bs ms (by omega) hm
 refine ⟨by omega,fun j q hq=>?_⟩
 have hj:=(List.getElem?_eq_some_iff.1 hq).1
 have ht:ts[j]?=some (ts[j]'(by omega)):=by simp
 have ha:as[j]?=some (as[j]'(by omega)):=by simp
 have hb:bs[j]?=some (bs[j]'(by omega)):=by simp
 obtain ⟨p1,p2,p3,p4,p5⟩:=h j _ _ _ ht ha hb
 obtain ⟨m,e1,e2⟩:=g2 j _ _ ha hb
 rw [hq] at e2
 cases e2
 exact p5.me _ _ p1 p2 p3 p4 q e1
def famP (Q:Q0→Prop)(p:Q0):Prop:=p.op=1∨p.op=3∨(p.op=4∧∀ q∈p.kids,Q q)
theorem V4x {w:List Q3}(hw:WW w){d x:Nat}(hx1:1≤x){Q:Q0→Prop}(hq:∀ p:Q0,p.op=1→Q p)(hQ:∀ t∈tys w,Cl w d x t Q){t:Q2}(ht:t∈tys w):Cl w (d+1) (x+1) t (famP Q):=by
 have hT:=hw.ty t ht
 have kids:∀ (c:Int) (ks ks':List Q0),c∈X1 w t→(∀ q∈ks,Q q)→(∀ q∈ks',Q q)→ks.length=(X4 w t c).length→ks'.length=(X4 w t c).length→
   (∀ (j:Nat) (a:Q2) (q:Q0),(X4 w t c)[j]?=some a→ks[j]?=some q→X6 w x a q)→(∀ (j:Nat) (a:Q2) (q:Q0),(X4 w t c)[j]?=some a→ks'[j]?=some q→X6 w d a q)→
   ∀ (j:Nat) (u:Q2) (a b:Q0),(X4 w t c)[j]?=some u→ks[j]?=some a→ks'[j]?=some b→(fun _=>Q) j a∧(fun _=>Q) j b∧X6 w x u a∧X6 w d u b∧Cl w d x u ((fun _=>Q) j):=
  fun c ks ks' hc h1 h2 _ _ h5 h6 j u a b e1 e2 e3=>⟨h1 a (U1 e2),h2 b (U1 e3),h5 j u a e1 e2,h6 j u b e1 e3,hQ u (hT.at_ c hc u (U1 e1))⟩
 have cm:∀ (x':Nat) (c c':Int) (ks ks':List Q0),x'≤x→c∈X1 w t→(∀ q∈ks,Q q)→(∀ q∈ks',Q q)→ks.length=(X4 w t c).length→ks'.length=(X4 w t c').length→
   (∀ (j:Nat) (a:Q2) (q:Q0),(X4 w t c)[j]?=some a→ks[j]?=some q→X6 w x' a q)→(∀ (j:Nat) (a:Q2) (q:Q0),(X4 w t c')[j]?=some a→ks'[j]?=some q→X6 w d a q)→
   ∀ y∈cmD w (W6 w d) (Q0t d) t (Q0.mk 4 c 0 0 0 ks) (Q0.mk 4 c' 0 0 0 ks'),famP Q y:=fun x' c c' ks ks' hx' hc h1 h2 h3 h4 h5 h6 y hy=>by
  unfold cmD at hy
  by_cases hcc:c=c'
  ·subst hcc
   simp only [if_true] at hy
   obtain ⟨zs,hz,rfl⟩:=U11.1 hy
   refine .inr (.inr ⟨rfl,fun q hq=>?_⟩)
   obtain ⟨j,hj⟩:=List.mem_iff_getElem?.1 hq
   exact (Y1k h3 h4 (kids c ks ks' hc h1 h2 h3 h4 (fun j a q e1 e2=>X92 (h5 j a q e1 e2) hx') h6) zs hz).2 j q hj
  ·simp only [if_neg hcc,List.mem_singleton] at hy
   subst hy
   exact .inr (.inr ⟨rfl,h1⟩)
 refine ⟨fun a b ha hb pa pb y hy=>?_,fun a b ha hb pa pb m hm=>?_⟩
 ·rcases pb with rfl | ⟨n',m',rfl,_⟩ | ⟨c',ks',rfl,hd',hc',hl',hk'⟩
  ·rw [X6i rfl] at hy;cases hy
  ·have e1:¬(3:Int)=1:=by decide
   simp only [W6,e1,if_false,if_true] at hy
   refine .inr (.inl ?_)
   split at hy<;>exact V5w y hy
  ·have e1:¬(4:Int)=1:=by decide
   have e3:¬(4:Int)=3:=by decide
   have hbk:∀ q∈ks',Q q:=by
    rcases hb with h | h | h
    ·simp at h
    ·simp at h
    ·exact h.2
   simp only [W6,e1,e3,if_false] at hy
   rcases pa with rfl | ⟨n,m,rfl,hd,_⟩ | ⟨c,ks,rfl,hd,hc,hl,hk⟩
   ·simp only [if_true,List.mem_flatMap] at hy
    obtain ⟨c,hc,hy⟩:=hy
    unfold Q69 at hy
    exact cm 1 c c' _ ks' hx1 hc (fun q hq'=>by obtain ⟨_,_,rfl⟩:=U11.1 hq';exact hq _ rfl) hbk (by simp) hl' (fun j a q ha hq'=>by
      rw [List.getElem?_map,ha] at hq'
      cases hq'
      exact Z0y w 0 a) hk' y hy
   ·exact absurd hd hd'
   ·have hak:∀ q∈ks,Q q:=by
     rcases ha with h | h | h
     ·simp at h
     ·simp at h
     ·exact h.2
    simp only [e1,if_false] at hy
    exact cm x c c' ks ks' (Nat.le_refl _) hc hak hbk hl hl' hk hk' y hy
 ·rcases pa with rfl | ⟨n,m,rfl,hd,_⟩ | ⟨c,ks,rfl,hd,hc,hl,hk⟩
  ·rw [W1d rfl hm];exact hb
  ·rcases pb with rfl | ⟨n',m',rfl,_⟩ | ⟨c',ks',rfl,hd',_⟩
   ·simp [Q0t] at hm;subst hm;exact .inr (.inl rfl)
   ·simp [Q0t] at hm;obtain ⟨_,rfl⟩:=hm;exact .inr (.inl rfl)
   ·exact absurd hd hd'
  ·rcases pb with rfl | ⟨n',m',rfl,hd',_⟩ | ⟨c',ks',rfl,hd',hc',hl',hk'⟩
   ·simp [Q0t] at hm;subst hm;exact ha
   ·exact absurd hd' hd
   ·have hak:∀ q∈ks,Q q:=by
     rcases ha with h | h | h
     ·simp at h
     ·simp at h
     ·exact h.2
    have hbk:∀ q∈ks',Q q:=by
     rcases hb with h | h | h
     ·simp at h
     ·simp at h
     ·exact h.2
    simp only [Q0t] at hm
    simp at hm
    obtain ⟨rfl,zs,hz,rfl⟩:=hm
    refine .inr (.inr ⟨rfl,fun q hq'=>?_⟩)
    obtain ⟨j,hj⟩:=List.mem_iff_getElem?.1 hq'
    exact (V1u hl hl' (kids c ks ks' hc hak hbk hl hl' hk hk') hz).2 j q hj
theorem Y2v {w:List Q3}(d x:Nat)(t:Q2):Cl w d x t (fun p=>p.op=1):=
 ⟨fun a b _ hb _ _ y hy=>(by rw [X6i hb] at hy;cases hy),fun a b ha hb _ _ m hm=>by rw [W1d ha hm];exact hb⟩
theorem Y2u {w:List Q3}(hw:WW w){d x:Nat}(hx1:1≤x){t:Q2}(ht:t∈tys w):Cl w (d+1) (x+1) t hgt1:=V4x hw hx1 (fun _ h=>h) (fun t _=>Y2v d x t) ht
theorem Y6n {w:List Q3}(hw:WW w){d x:Nat}(hx1:1≤x){t:Q2}(ht:t∈tys w):Cl w (d+2) (x+2) t hgt2:=V4x hw (by omega) (fun _ h=>.inl h) (fun t ht=>Y2u hw hx1 ht) ht
theorem X2k {f:Q0→Q0→Option Q0} : ∀ (as:List Q0),(∀ a∈as,f a a=some a)→Q56 f as as=some as
 | [],_=>rfl
 | a::as,h=>by
  simp only [Q56]
  rw [h a (by simp),X2k as fun x hx=>h x (by simp [hx])]
  rfl
theorem X6k {w:List Q3} : ∀ (d:Nat) (t:Q2) (a:Q0),X6 w d t a→Q0t d a a=some a
 | 0,_,_,h=>h.elim
 | d+1,t,a,h=>by
  rcases h with rfl | ⟨n,m,rfl,hd,g0,g1,g2⟩ | ⟨c,ks,rfl,hd,hc,hl,hk⟩
  ·simp [Q0t]
  ·have e1:¬(3:Int)=1:=by decide
   simp only [Q0t,e1,if_false,if_true]
   rw [if_pos (by omega)]
   congr 2<;>omega
  ·have e1:¬(4:Int)=1:=by decide
   have e3:¬(4:Int)=3:=by decide
   simp only [Q0t,e1,e3,if_false,if_true]
   rw [X2k ks fun q hq=>by
    obtain ⟨j,hj⟩:=List.mem_iff_getElem?.1 hq
    have hjl:=(List.getElem?_eq_some_iff.1 hj).1
    have ha:(X4 w t c)[j]?=some ((X4 w t c)[j]'(by omega)):=by simp
    exact X6k d _ q (hk j _ q ha hj)]
   rfl
theorem W7j {fm:Q2→Q0→Q0→List Q0}{fj:Q0→Q0→Option Q0} : ∀ (ts:List Q2) (as:List Q0),(∀ (j:Nat) (t:Q2) (a:Q0),ts[j]?=some t→as[j]?=some a→fm t a a=[])→kmD fm fj ts as as=[]
 | [],_,_=>by simp [kmD]
 | _::_,[],_=>by simp [kmD]
 | t::ts,a::as,h=>by
  simp only [kmD]
  rw [h 0 t a rfl rfl,W7j ts as fun j t a h1 h2=>h (j+1) t a (by simpa using h1) (by simpa using h2)]
  cases fj a a<;>simp
theorem X2i {w:List Q3} : ∀ (d:Nat) (t:Q2) (a:Q0),X6 w d t a→W6 w d t a a=[]
 | 0,_,_,h=>h.elim
 | d+1,t,a,h=>by
  rcases h with rfl | ⟨n,m,rfl,hd,g0,g1,g2⟩ | ⟨c,ks,rfl,hd,hc,hl,hk⟩
  ·simp [W6]
  ·have e1:¬(3:Int)=1:=by decide
   simp only [W6,e1,if_false,if_true]
   unfold Z3j
   rw [if_neg (by omega),if_neg (by omega)]
   rfl
  ·have e1:¬(4:Int)=1:=by decide
   have e3:¬(4:Int)=3:=by decide
   simp only [W6,e1,e3,if_false]
   unfold cmD
   simp only [if_true]
   rw [W7j _ ks fun j u q h1 h2=>X2i d u q (hk j u q h1 h2)]
   rfl
theorem Y2t {w:List Q3}{d x:Nat}{t:Q2}(α:Q0):Cl w d x t (fun p=>p=α):=
 ⟨fun a b ha hb _ pb y hy=>(by subst ha;subst hb;rw [X2i d t _ pb] at hy;cases hy),fun a b ha hb _ pb m hm=>by subst ha;subst hb;rw [X6k d t _ pb] at hm;cases hm;rfl⟩
structure Fam (w:List Q3) (t:Q2) (P:Q0→Prop):Prop where
 mi:∀ a b,P a→P b→X6 w 11 t a→X6 w 10 t b→∀ y∈W6 w 10 t a b,P y
 rep:∃ (C:List Q4) (e:Nat),C.length≤400∧(∀ v∈C,Q1r w e t v)∧∀ p,P p→X6 w 11 t p→Y5 w 11 t p=false→∃ v∈C,fitP p v=true
theorem Y1u {w:List Q3}(hw:WW w)(hr:WR w){t:Q2}(ht:t∈tys w):Fam w t hgt2:=
 ⟨(Y6n hw (d:=8) (x:=9) (by omega) ht).mi,X1i w t,12,hr.n2 t ht,fun v hv=>W3c hw hr ht hv,fun p h1 h2 h3=>rep2 hw ht h2 h1 h3⟩
def oneP (w:List Q3)(t:Q2)(c:Int)(K:Nat→Option Q0)(p:Q0):Prop:=∃ ks,p=Q0.mk 4 c 0 0 0 ks∧ks.length=(X4 w t c).length∧∀ (j:Nat) (q:Q0),ks[j]?=some q→match K j with
 | none=>hgt1 q
 | some α=>q=α
theorem W3f (ns:List Nat):∀ a b,a≤b→ns.foldl (fun a b=>a * max 1 b) a≤ns.foldl (fun a b=>a * max 1 b) b:=by
 induction ns with
 | nil=>intro a b h;exact h
 | cons n ns ih=>intro a b h;rw [List.foldl_cons,List.foldl_cons];exact ih _ _ (Nat.mul_le_mul_right _ h)
theorem Z8w:∀ (ls:List (List Q4)) (ns:List Nat) (out:List (List Q4)),ls.length=ns.length→(∀ (j:Nat) (l:List Q4) (n:Nat),ls[j]?=some l→ns[j]?=some n→l.length≤max 1 n)→(ls.foldl tupV out).length≤ns.foldl (fun a b=>a * max 1 b) out.length
 | [],[],_,_,_=>Nat.le_refl _
 | l::ls,n::ns,out,h,hb=>by
  rw [List.foldl_cons,List.foldl_cons]
  refine Nat.le_trans (Z8w ls ns (tupV out l) (by simpa using h) fun j l n h1 h2=>hb (j+1) l n (by simpa using h1) (by simpa using h2)) (W3f ns _ _ ?_)
  rw [V0w]
  exact Nat.mul_le_mul_left _ (hb 0 l n rfl rfl)
 | [],_::_,_,h,_=>by simp at h
 | _::_,[],_,h,_=>by simp at h
theorem V70 {w:List Q3}(hw:WW w)(hr:WR w){t:Q2}(ht:t∈tys w){c:Int}(hd:t.data≠-1)(hc:c∈X1 w t)(K:Nat→Option Q0):Fam w t (oneP w t c K):=by
 have hT:=hw.ty t ht
 refine ⟨fun a b ha hb pa pb y hy=>?_,?_⟩
 ·obtain ⟨ks,rfl,hl,hk⟩:=ha
  obtain ⟨ks',rfl,hl',hk'⟩:=hb
  have e1:¬(4:Int)=1:=by decide
  have e3:¬(4:Int)=3:=by decide
  simp only [W6,e1,e3,if_false] at hy
  unfold cmD at hy
  simp only [if_true] at hy
  obtain ⟨zs,hz,rfl⟩:=U11.1 hy
  have pk:∀ (j:Nat) (u:Q2) (q:Q0),(X4 w t c)[j]?=some u→ks[j]?=some q→X6 w 10 u q:=by
   rcases pa with h | ⟨_,_,h,_⟩ | ⟨c2,ks2,h,_,_,_,h4⟩
   ·cases h
   ·cases h
   ·cases h;exact h4
  have pk':∀ (j:Nat) (u:Q2) (q:Q0),(X4 w t c)[j]?=some u→ks'[j]?=some q→X6 w 9 u q:=by
   rcases pb with h | ⟨_,_,h,_⟩ | ⟨c2,ks2,h,_,_,_,h4⟩
   ·cases h
   ·cases h
   ·cases h;exact h4
  have:=Y1k (w:=w) (d:=9) (x:=10) (P:=fun j q=>match K j with
   | none=>hgt1 q
   | some α=>q=α) hl hl' (fun j u a b e1 e2 e3=>⟨hk j a e2,hk' j b e3,pk j u a e1 e2,pk' j u b e1 e3,by
    cases K j with
    | none=>exact Y2u hw (d:=8) (x:=9) (by omega) (hT.at_ c hc u (U1 e1))
    | some α=>exact Y2t α⟩) zs hz
  exact ⟨zs,rfl,this.1,this.2⟩
 ·have gen:∀ (ts:List Q2) (K:Nat→Option Q0),(∀ a∈ts,a∈tys w)→∃ ls:List (List Q4),ls.length=ts.length∧(∀ (j:Nat) (u:Q2) (l:List Q4),ts[j]?=some u→ls[j]?=some l→l.length≤max 1 (Z3k w u).length∧(∀ v∈l,Q1r w 20 u v)∧
    ∀ q,(match K j with | none=>hgt1 q | some α=>q=α)→X6 w 10 u q→Y5 w 10 u q=false→∃ v∈l,fitP q v=true):=by
   intro ts
   induction ts with
   | nil=>intro K _;exact ⟨[],rfl,fun j u l h=>by simp at h⟩
   | cons a ts ih=>
    intro K hat
    obtain ⟨ls,e1,e2⟩:=ih (fun j=>K (j+1)) fun x hx=>hat x (by simp [hx])
    have hat0:=hat a (by simp)
    have hex:∃ l:List Q4,l.length≤max 1 (Z3k w a).length∧(∀ v∈l,Q1r w 20 a v)∧∀ q,(match K 0 with | none=>hgt1 q | some α=>q=α)→X6 w 10 a q→Y5 w 10 a q=false→∃ v∈l,fitP q v=true:=by
     cases hK:K 0 with
     | none=>exact ⟨Z3k w a,by omega,fun v hv=>X4b 11 20 a v (by omega) (X2c hw hr hat0 hv),fun q h1 h2 h3=>rep1 hw hat0 h2 h1 h3⟩
     | some α=>
      by_cases hα:X6 w 10 a α∧Y5 w 10 a α=false
      ·obtain ⟨v,hv,hf⟩:=X2d hw hr 10 a α hat0 hα.1 hα.2
       exact ⟨[v],by simp only [List.length_singleton];omega,fun x hx=>by simp only [List.mem_singleton] at hx;rw [hx];exact hv,fun q h1 _ _=>⟨v,by simp,by rw [show q=α from h1];exact hf⟩⟩
      ·exact ⟨[],by simp,fun v hv=>by (cases hv),fun q h1 h2 h3=>absurd (by rw [show q=α from h1] at h2 h3;exact ⟨h2,h3⟩) hα⟩
    obtain ⟨l,g1,g2,g3⟩:=hex
    refine ⟨l::ls,by simp [e1],fun j u m h1 h2=>?_⟩
    cases j with
    | zero=>simp only [List.getElem?_cons_zero,Option.some.injEq] at h1 h2;subst h1 h2;exact ⟨g1,g2,g3⟩
    | succ j=>exact e2 j u m (by simpa using h1) (by simpa using h2)
  obtain ⟨ls,e1,e2⟩:=gen (X4 w t c) K (hT.at_ c hc)
  refine ⟨(ls.foldl tupV [[]]).map (mkV c),21,?_,fun v hv=>?_,fun p hp pp hem=>?_⟩
  ·rw [U7]
   refine Nat.le_trans (Z8w ls ((X4 w t c).map fun a=>(Z3k w a).length) [[]] (by simp [e1]) fun j l n h1 h2=>?_) (hr.n1 t ht c hc)
   rw [List.getElem?_map,U12] at h2
   obtain ⟨u,hu,rfl⟩:=h2
   exact (e2 j u l hu h1).1
  ·obtain ⟨ks,hks,rfl⟩:=U11.1 hv
   obtain ⟨a,b,ha,rfl,hl,hb⟩:=Z8v _ _ _ hks
   simp only [List.mem_singleton] at ha
   subst ha
   refine X49 hd hc (by simp;omega) fun j u x hu hx=>?_
   have hjl:=(List.getElem?_eq_some_iff.1 hu).1
   have hlj:ls[j]?=some (ls[j]'(by omega)):=by simp
   exact (e2 j u _ hu hlj).2.1 x (hb j x _ (by simpa using hx) hlj)
  ·obtain ⟨ks,rfl,hl,hk⟩:=hp
   have pk:∀ (j:Nat) (u:Q2) (q:Q0),(X4 w t c)[j]?=some u→ks[j]?=some q→X6 w 10 u q:=by
    rcases pp with h | ⟨_,_,h,_⟩ | ⟨c2,ks2,h,_,_,_,h4⟩
    ·cases h
    ·cases h
    ·cases h;exact h4
   have gen2:∀ (ts:List Q2) (ls:List (List Q4)) (ks:List Q0),ls.length=ts.length→ks.length=ts.length→(∀ (j:Nat) (u:Q2) (l:List Q4) (q:Q0),ts[j]?=some u→ls[j]?=some l→ks[j]?=some q→∃ v∈l,fitP q v=true)→
     ∃ vs:List Q4,vs.length=ls.length∧(∀ (j:Nat) (v:Q4) (l:List Q4),vs[j]?=some v→ls[j]?=some l→v∈l)∧fitL ks vs=true:=by
    intro ts
    induction ts with
    | nil=>intro ls ks h1 h2 _;exact ⟨[],by simp at h1;simp [h1],fun j v l h=>by simp at h,by
      simp at h2;rw [h2];exact Z8p⟩
    | cons u ts ih=>
     intro ls ks h1 h2 h
     cases ls with
     | nil=>simp at h1
     | cons l ls=>
      cases ks with
      | nil=>simp at h2
      | cons q ks=>
       obtain ⟨vs,g1,g2,g3⟩:=ih ls ks (by simpa using h1) (by simpa using h2) fun j u l q a1 a2 a3=>h (j+1) u l q (by simpa using a1) (by simpa using a2) (by simpa using a3)
       obtain ⟨v,hv,hf⟩:=h 0 u l q rfl rfl rfl
       refine ⟨v::vs,by simp [g1],fun j x m a1 a2=>?_,by rw [Q5z,hf,g3];rfl⟩
       cases j with
       | zero=>simp only [List.getElem?_cons_zero,Option.some.injEq] at a1 a2;subst a1 a2;exact hv
       | succ j=>exact g2 j x m (by simpa using a1) (by simpa using a2)
   obtain ⟨vs,g1,g2,g3⟩:=gen2 (X4 w t c) ls ks e1 hl fun j u l q a1 a2 a3=>(e2 j u l a1 a2).2.2 q (hk j q a3) (pk j u q a1 a3) (by
    cases hem2:Y5 w 10 u q with
    | false=>rfl
    | true=>
     have:Y5 w 11 t (Q0.mk 4 c 0 0 0 ks)=true:=Q5i.2 ⟨j,u,q,a1,a3,hem2⟩
     rw [hem] at this
     cases this)
   refine ⟨mkV c vs,List.mem_map_of_mem ?_,by rw [Q22 rfl];simp [mkV,g3]⟩
   have:=Z9p ls [[]] [] vs (by simp) g1 g2
   simpa using this
theorem W2k {w:List Q3}{t:Q2}{P:Q0→Prop}(hF:Fam w t P):∀ (bs l r:List Q0),(∀ b∈bs,P b∧X6 w 10 t b)→(∀ a∈l,P a∧X6 w 11 t a∧Y5 w 11 t a=false)→Q7b w 10 11 t l bs=some r→∀ y∈r,P y∧X6 w 11 t y∧Y5 w 11 t y=false
 | [],l,r,_,h,e=>by simp only [Q7b,Option.some.injEq] at e;subst e;exact h
 | b::bs,l,r,hb,h,e=>by
  simp only [Q7b] at e
  split at e
  ·cases e
  ·refine W2k hF bs _ r (fun b hb'=>hb b (by simp [hb'])) (fun y hy=>?_) e
   have hp:=Q91 (d:=10) (x:=11) (by omega) (hb b (by simp)).2 (fun a ha=>(h a ha).2.1) y hy
   unfold Q3w Q8c at hy
   obtain ⟨h1,h2⟩:=List.mem_filter.1 hy
   obtain ⟨a,ha,hya⟩:=List.mem_flatMap.1 h1
   exact ⟨hF.mi a b (h a ha).1 (hb b (by simp)).1 (h a ha).2.1 (hb b (by simp)).2 y hya,hp,by simpa using h2⟩
theorem W6h {w:List Q3}{t:Q2}{P:Q0→Prop}(hF:Fam w t P):∀ (ps bef r:List Q0),(∀ b∈bef,P b∧X6 w 10 t b)→(∀ p∈ps,P p∧X6 w 10 t p)→sepP w t bef ps=some r→∀ y∈r,P y∧X6 w 11 t y∧Y5 w 11 t y=false
 | [],_,r,_,_,e=>by simp only [sepP,Option.some.injEq] at e;subst e;simp
 | p::ps,bef,r,hb,hp,e=>by
  simp only [sepP] at e
  cases hm:Q2h w 10 11 t [p] bef with
  | none=>rw [hm] at e;simp at e
  | some m=>
   rw [hm] at e
   simp only [U0,U12] at e
   obtain ⟨r2,h2,rfl⟩:=e
   intro y hy
   rcases U9.1 hy with hy | hy
   ·refine W2k hF bef _ m hb (fun a ha=>?_) hm y hy
    obtain ⟨h3,h4⟩:=List.mem_filter.1 ha
    simp only [List.mem_singleton] at h3
    subst h3
    exact ⟨(hp a (by simp)).1,Q6f 10 t a (hp a (by simp)).2,by simpa using h4⟩
   ·exact W6h hF ps (bef++[p]) r2 (fun b hb'=>by
     rcases U9.1 hb' with h | h
     ·exact hb b h
     ·simp only [List.mem_singleton] at h;rw [h];exact hp p (by simp)) (fun q hq=>hp q (by simp [hq])) h2 y hy
theorem V5t {w:List Q3}(hw:WW w)(he:WE w){t:Q2}(ht:t∈tys w){P:Q0→Prop}(hF:Fam w t P){ps r:List Q0}(hp:∀ p∈ps,P p∧X6 w 10 t p)(h:sepP w t [] ps=some r):r.length≤400:=by
 obtain ⟨C,e,h1,h2,h3⟩:=hF.rep
 have h4:=W6h hF ps [] r (by simp) hp h
 exact Nat.le_trans (W4w h2 (W0y hw he ht ps [] r (by simp) (fun p hp'=>(hp p hp').2) h) fun p hp'=>h3 p (h4 p hp').1 (h4 p hp').2.1 (h4 p hp').2.2) h1
def lvB:Nat→Q0→Prop
 | 0,p=>p.op=1
 | m+1,p=>p.op=1∨p.op=3∨((p.op=4∨p.op=5)∧∀ q∈p.kids,lvB m q)
theorem X6n {m:Nat}{p:Q0}(h:p.op=1):lvB m p:=by
 cases m with
 | zero=>exact h
 | succ m=>exact .inl h
theorem W7f:∀ {m:Nat} {p:Q0},lvB m p→lvB (m+1) p
 | 0,_,h=>.inl h
 | m+1,_,h=>by
  rcases h with h | h | ⟨h,k⟩
  ·exact .inl h
  ·exact .inr (.inl h)
  ·exact .inr (.inr ⟨h,fun q hq=>W7f (k q hq)⟩)
theorem Z1q:∀ (D:Nat) {m:Nat} {p:Q0},lvB m p→lvB m (W4 D p)
 | 0,_,_,h=>h
 | D+1,m,p,h=>by
  have hop:p.op≠2∧p.op≠6:=by
   cases m with
   | zero=>have:p.op=1:=h;omega
   | succ m=>rcases h with h | h | ⟨h | h,_⟩<;>omega
  rw [W4,if_neg hop.1,if_neg (fun hh=>hop.2 hh.1)]
  cases m with
  | zero=>exact h
  | succ m=>
   rcases h with h | h | ⟨h,k⟩
   ·exact .inl h
   ·exact .inr (.inl h)
   ·refine .inr (.inr ⟨h,fun q hq=>?_⟩)
    obtain ⟨x,hx,rfl⟩:=U11.1 hq
    exact Z1q D (k x hx)
theorem Z52 {d:Nat}{q:Q0}(h:q∈Q9 d (Q0.mk 1 0 0 0 0 [])):q=Q0.mk 1 0 0 0 0 []:=by
 cases d with
 | zero=>simp [Q9] at h
 | succ d=>simpa [Q9,Q3v] using h
theorem X4q {w:List Q3}{d:Nat}{t:Q2}{p:Q0}(h:altD w d t p)(h1:p.op=1):p=Q0.mk 1 0 0 0 0 []:=by
 cases d with
 | zero=>exact h.elim
 | succ d=>
  rcases h with h | ⟨n,m,rfl,_⟩ | ⟨c,ks,rfl,_⟩ | ⟨a,b,rfl,_⟩
  ·exact h
  ·simp at h1
  ·simp at h1
  ·simp at h1
def oneS (d:Nat)(p:Q0):Prop:=∃ α,∀ q∈Q9 d p,q=α
theorem X6g {d:Nat}{p:Q0}(h5:p.op≠5)(h:∀ x∈p.kids,oneS d x):oneS (d+1) p:=by
 have gen:∀ ks:List Q0,(∀ x∈ks,oneS d x)→∃ as:List Q0,as.length=ks.length∧∀ (i:Nat) (x a y:Q0),ks[i]?=some x→as[i]?=some a→y∈Q9 d x→y=a:=by
  intro ks
  induction ks with
  | nil=>intro _;exact ⟨[],rfl,fun i x a y h=>by simp at h⟩
  | cons k ks ih=>
   intro h
   obtain ⟨as,e1,e2⟩:=ih fun x hx=>h x (by simp [hx])
   obtain ⟨α,hα⟩:=h k (by simp)
   refine ⟨α::as,by simp [e1],fun i x a y h1 h2 h3=>?_⟩
   cases i with
   | zero=>simp only [List.getElem?_cons_zero,Option.some.injEq] at h1 h2;subst h1 h2;exact hα y h3
   | succ i=>exact e2 i x a y (by simpa using h1) (by simpa using h2) h3
 obtain ⟨as,e1,e2⟩:=gen p.kids h
 refine ⟨Q3v p as,fun q hq=>?_⟩
 rcases Q6d hq with ⟨h,_⟩ | ⟨_,ks,rfl,hl,hk⟩
 ·exact absurd h h5
 ·congr 1
  refine List.ext_getElem? fun i=>?_
  by_cases hi:i<ks.length
  ·have h1:ks[i]?=some (ks[i]):=U10 hi
   have h2:p.kids[i]?=some (p.kids[i]'(by omega)):=U10 (by omega)
   have h3:as[i]?=some (as[i]'(by omega)):=U10 (by omega)
   rw [h1,h3,e2 i _ _ _ h2 h3 (hk i _ _ h1 h2)]
  ·rw [List.getElem?_eq_none (by omega),List.getElem?_eq_none (by omega)]
theorem Q8r {w:List Q3}{d:Nat}{t:Q2}{p x:Q0}(h:altD w (d+1) t p)(hx:x∈p.kids):∃ u,altD w d u x:=by
 rcases h with rfl | ⟨n,m,rfl,_⟩ | ⟨c,ks,rfl,_,_,hl,hk⟩ | ⟨a,b,rfl,h1,h2⟩
 ·cases hx
 ·cases hx
 ·obtain ⟨j,hj⟩:=List.mem_iff_getElem?.1 hx
  have hjl:=(List.getElem?_eq_some_iff.1 hj).1
  simp only at hjl hj
  have ha:(X4 w t c)[j]?=some ((X4 w t c)[j]'(by omega)):=by simp
  exact ⟨_,hk j _ x ha hj⟩
 ·simp only [U8,List.not_mem_nil,or_false] at hx
  rcases hx with rfl | rfl
  ·exact ⟨t,h1⟩
  ·exact ⟨t,h2⟩
theorem Z8s {w:List Q3}{d:Nat}{t:Q2}{p:Q0}(h:altD w d t p)(h4:p.op≠4)(h5:p.op≠5):p.kids=[]:=by
 cases d with
 | zero=>exact h.elim
 | succ d=>
  rcases h with rfl | ⟨n,m,rfl,_⟩ | ⟨c,ks,rfl,_⟩ | ⟨a,b,rfl,_⟩
  ·rfl
  ·rfl
  ·simp at h4
  ·simp at h5
theorem W7g {w:List Q3}{d:Nat}{t:Q2}{p:Q0}(h:altD w d t p)(l:lvB 1 p):∀ q∈Q9 d p,hgt1 q:=fun q hq=>by
 cases d with
 | zero=>exact h.elim
 | succ d=>
 rcases Q6d hq with ⟨h5,x,hx,hqx⟩ | ⟨h5,ks,rfl,hl,hk⟩
 ·rcases l with l | l | ⟨_,l⟩
  ·omega
  ·omega
  ·obtain ⟨u,hu⟩:=Q8r h hx
   rw [X4q hu (l x hx)] at hqx
   rw [Z52 hqx]
   exact .inl rfl
 ·rcases l with l | l | ⟨l | l,k⟩
  ·exact .inl l
  ·exact .inr (.inl l)
  ·refine .inr (.inr ⟨l,fun y hy=>?_⟩)
   obtain ⟨i,hi⟩:=List.mem_iff_getElem?.1 hy
   simp only [Q3v] at hi
   have hil:=(List.getElem?_eq_some_iff.1 hi).1
   have h2:p.kids[i]?=some (p.kids[i]'(by omega)):=U10 (by omega)
   have hxm:=U1 h2
   obtain ⟨u,hu⟩:=Q8r h hxm
   have:=hk i _ _ hi h2
   rw [X4q hu (k _ hxm)] at this
   rw [Z52 this]
  ·omega
theorem V6c {w:List Q3}{d:Nat}{t:Q2}{p:Q0}(h:altD w d t p)(l:lvB 1 p):oneS d p:=by
 cases d with
 | zero=>exact h.elim
 | succ d=>
 by_cases h5:p.op=5
 ·refine ⟨Q0.mk 1 0 0 0 0 [],fun q hq=>?_⟩
  rcases Q6d hq with ⟨_,x,hx,hqx⟩ | ⟨h6,_⟩
  ·rcases l with l | l | ⟨_,l⟩
   ·omega
   ·omega
   ·obtain ⟨u,hu⟩:=Q8r h hx
    rw [X4q hu (l x hx)] at hqx
    exact Z52 hqx
  ·exact absurd h5 h6
 ·refine X6g h5 fun x hx=>?_
  rcases l with l | l | ⟨l | l,k⟩
  ·rw [Z8s h (by omega) h5] at hx;cases hx
  ·rw [Z8s h (by omega) h5] at hx;cases hx
  ·obtain ⟨u,hu⟩:=Q8r h hx
   rw [X4q hu (k x hx)]
   exact ⟨_,fun q hq=>Z52 hq⟩
  ·omega
theorem Y1e {w:List Q3}{d:Nat}{t:Q2}{p:Q0}(h:altD w d t p)(l:lvB 2 p):∀ q∈Q9 d p,hgt2 q:=fun q hq=>by
 cases d with
 | zero=>exact h.elim
 | succ d=>
 rcases Q6d hq with ⟨h5,x,hx,hqx⟩ | ⟨h5,ks,rfl,hl,hk⟩
 ·rcases l with l | l | ⟨_,l⟩
  ·omega
  ·omega
  ·obtain ⟨u,hu⟩:=Q8r h hx
   exact Y1p (W7g hu (l x hx) q hqx)
 ·rcases l with l | l | ⟨l | l,k⟩
  ·exact .inl l
  ·exact .inr (.inl l)
  ·refine .inr (.inr ⟨l,fun y hy=>?_⟩)
   obtain ⟨i,hi⟩:=List.mem_iff_getElem?.1 hy
   simp only [Q3v] at hi
   have hil:=(List.getElem?_eq_some_iff.1 hi).1
   have h2:p.kids[i]?=some (p.kids[i]'(by omega)):=U10 (by omega)
   have hxm:=U1 h2
   obtain ⟨u,hu⟩:=Q8r h hxm
   exact W7g hu (k _ hxm) y (hk i _ _ hi h2)
  ·omega
theorem V6b {w:List Q3}{d:Nat}{t:Q2}{p:Q0}(h:altD w d t p)(l:lvB 2 p):∃ k:Option Q0,∀ q∈Q9 d p,match k with
  | none=>hgt1 q
  | some α=>q=α:=by
 cases d with
 | zero=>exact h.elim
 | succ d=>
 by_cases h5:p.op=5
 ·refine ⟨none,fun q hq=>?_⟩
  rcases Q6d hq with ⟨_,x,hx,hqx⟩ | ⟨h6,_⟩
  ·rcases l with l | l | ⟨_,l⟩
   ·omega
   ·omega
   ·obtain ⟨u,hu⟩:=Q8r h hx
    exact W7g hu (l x hx) q hqx
  ·exact absurd h5 h6
 ·have:oneS (d+1) p:=X6g h5 fun x hx=>by
   rcases l with l | l | ⟨l | l,k⟩
   ·rw [Z8s h (by omega) h5] at hx;cases hx
   ·rw [Z8s h (by omega) h5] at hx;cases hx
   ·obtain ⟨u,hu⟩:=Q8r h hx
    exact V6c hu (k x hx)
   ·omega
  obtain ⟨α,hα⟩:=this
  exact ⟨some α,hα⟩
def Y3n (w:List Q3)(t:Q2)(l:List Q0):Prop:=(∀ q∈l,hgt2 q)∨∃ (c:Int) (K:Nat→Option Q0),t.data≠-1∧c∈X1 w t∧∀ q∈l,oneP w t c K q
theorem Y1m {w:List Q3}(hw:WW w)(hr:WR w){t:Q2}(ht:t∈tys w){l:List Q0}(h:Y3n w t l):∃ P,Fam w t P∧∀ q∈l,P q:=by
 rcases h with h | ⟨c,K,hd,hc,h⟩
 ·exact ⟨hgt2,Y1u hw hr ht,h⟩
 ·exact ⟨oneP w t c K,V70 hw hr ht hd hc K,h⟩
theorem Y1d {w:List Q3}{t:Q2}{p:Q0}(h:altD w 10 t p)(l:lvB 3 p):Y3n w t (Q9 10 p):=by
 by_cases h4:p.op=4
 ·rcases h with rfl | ⟨n,m,rfl,_⟩ | ⟨c,ks,rfl,hd,hc,hl,hk⟩ | ⟨a,b,rfl,_⟩
  ·simp at h4
  ·simp at h4
  ·have lk:∀ q∈ks,lvB 2 q:=by
    rcases l with l | l | ⟨_,l⟩
    ·simp at l
    ·simp at l
    ·exact l
   have hex:∀ j:Nat,∃ k:Option Q0,∀ x,ks[j]?=some x→∀ q∈Q9 9 x,match k with
     | none=>hgt1 q
     | some α=>q=α:=fun j=>by
    cases hj:ks[j]? with
    | none=>exact ⟨none,fun x hx=>by cases hx⟩
    | some x=>
     have hjl:=(List.getElem?_eq_some_iff.1 hj).1
     have ha:(X4 w t c)[j]?=some ((X4 w t c)[j]'(by omega)):=by simp
     obtain ⟨k,hk2⟩:=V6b (hk j _ x ha hj) (lk x (U1 hj))
     exact ⟨k,fun y hy=>by cases hy;exact hk2⟩
   obtain ⟨K,hK⟩:=Classical.axiomOfChoice hex
   refine .inr ⟨c,K,hd,hc,fun q hq=>?_⟩
   rcases Q6d hq with ⟨h5,_⟩ | ⟨_,zs,rfl,hzl,hz⟩
   ·simp at h5
   ·refine ⟨zs,rfl,by simp only at hzl;omega,fun j y hy=>?_⟩
    have hjl:=(List.getElem?_eq_some_iff.1 hy).1
    simp only at hzl
    have h2:ks[j]?=some (ks[j]'(by omega)):=U10 (by omega)
    exact hK j _ h2 y (hz j y _ hy h2)
  ·simp at h4
 ·refine .inl fun q hq=>?_
  rcases Q6d hq with ⟨h5,x,hx,hqx⟩ | ⟨h5,ks,rfl,hl,hk⟩
  ·rcases l with l | l | ⟨_,l⟩
   ·omega
   ·omega
   ·obtain ⟨u,hu⟩:=Q8r h hx
    exact Y1e hu (l x hx) q hqx
  ·rcases l with l | l | ⟨l | l,_⟩
   ·exact .inl l
   ·exact .inr (.inl l)
   ·exact absurd l h4
   ·exact absurd l h5
theorem V6a {w:List Q3}(hw:WW w)(hr:WR w){t:Q2}(ht:t∈tys w){p:Q0}(h:altD w 10 t p)(l:lvB 3 p):∃ P,Fam w t P∧∀ q∈Q9 10 p,P q:=Y1m hw hr ht (Y1d h l)
theorem V3e:∀ (m n:Nat) (r:Z4) (w:List Q3) (t:Q2) (depth:Int),depth≤m+1→-1000+m≤depth→m≤100→Par (Q1l n r w t depth) (fun a=>lvB m a.1):=by
 intro m
 induction m with
 | zero=>
  intro n r w t depth h1 _ _
  cases n with
  | zero=>exact .none
  | succ n=>
   unfold Q1l
   rw [if_pos (by rw [Z9];omega)]
   exact .some rfl
 | succ m ih=>
  intro n r w t depth h1 h2 h3
  cases n with
  | zero=>exact .none
  | succ n=>
  unfold Q1l
  have hws:wsub .i64 depth 1=depth-1:=Q2m (by omega) (by omega)
  rw [hws]
  refine Par.ite (fun _=>.some (.inl rfl)) (fun _=>?_)
  refine Par.any fun a=>Par.ite (fun _=>.some (.inl rfl)) (fun _=>?_)
  refine Par.any fun b=>Par.ite (fun _=>?_) (fun _=>?_)
  ·refine Par.bind (ih n b.2 w t (depth-1) (by omega) (by omega) (by omega)) (fun c hc=>?_)
   refine Par.bind (ih n c.2 w t (depth-1) (by omega) (by omega) (by omega)) (fun d hd=>.some (.inr (.inr ⟨.inr rfl,fun q hq=>?_⟩)))
   simp only [U8,List.not_mem_nil,or_false] at hq
   rcases hq with rfl | rfl
   ·exact hc
   ·exact hd
  ·refine Par.ite (fun _=>?_) (fun _=>?_)
   ·exact Par.any fun c=>Par.any fun d=>Par.any fun e=>.some (.inr (.inl rfl))
   ·refine Par.any fun c=>Par.ite (fun _=>.some (.inl rfl)) (fun _=>?_)
    refine Par.any fun d=>Par.any fun e=>Par.any fun f=>?_
    refine Par.ctl (Z1f (fun _ (s:Z4×List Q0)=>∀ q∈s.2,lvB m q) (fun _=>False) (fun s=>∀ q∈s.2,lvB m q) f 0 _ (by simp) (fun k x s _ hI=>?_) (fun s hs=>hs)) (fun r hr=>hr.elim) (fun s hs=>.some (.inr (.inr ⟨.inl rfl,hs⟩)))
    refine Par.bind (ih n s.1 w x (depth-1) (by omega) (by omega) (by omega)) (fun b hb=>?_)
    refine Par.bind (P:=fun y=>y=s.2++[b.1]) (fun y hy=>?_) (fun y hy=>.some ?_)
    ·unfold app at hy
     split at hy
     ·cases hy;rfl
     ·cases hy
    ·subst hy
     simp only [Q0v]
     intro q hq
     rcases U9.1 hq with hq | hq
     ·exact hI q hq
     ·simp only [List.mem_singleton] at hq;rw [hq];exact hb
theorem X7w {D:Nat}{op c n m v:Int}{ks:List Q0}(h2:op≠2)(h6:op≠6):W4 (D+1) (Q0.mk op c n m v ks)=Q0.mk op c n m v (ks.map (W4 D)):=by
 rw [W4,if_neg h2,if_neg (fun hh=>h6 hh.1)]
theorem V1r:∀ (m n:Nat) (r:Z4) (p:Q0) (v:Int),lvB m p→Par (Q32 n r p v) (fun a=>∀ D,2 * (m+1)≤D→lvB m (W4 D a.1)):=by
 intro m
 induction m with
 | zero=>
  intro n r p v h
  have h1:p.op=1:=h
  cases n with
  | zero=>exact .none
  | succ n=>
  unfold Q32
  refine Par.ite (fun _=>.some fun D _=>Z1q D h) (fun _=>?_)
  refine Par.ite (fun _=>.some fun D _=>Z1q D h) (fun _=>?_)
  refine Par.ite (fun _=>.some fun D _=>Z1q D h) (fun _=>?_)
  refine Par.ctl (R:=fun (a:Q0×Int×Z4)=>∀ D,2 * (0+1)≤D→lvB 0 (W4 D a.1)) (B:=fun _=>True) ?_ (fun a ha=>.some ha) (fun s _=>?_)
  ·refine Par.ite (fun _=>?_) (fun _=>.some trivial)
   refine Par.any fun a=>Par.ite (fun _=>.some fun D hD=>?_) (fun _=>.some trivial)
   obtain ⟨D,rfl⟩:∃ k,D=k+1:=⟨D-1,by omega⟩
   simp [W4,lvB]
  ·refine Par.ctl (Z1f (fun _ _=>True) (fun _=>False) (fun _=>True) p.kids 0 _ trivial (fun k x s _ _=>Par.any fun a=>Par.any fun b=>.some trivial) (fun _ _=>trivial)) (fun r hr=>hr.elim) (fun u _=>?_)
   refine Par.ctl (R:=fun (a:Q0×Int×Z4)=>∀ D,2 * (0+1)≤D→lvB 0 (W4 D a.1)) (B:=fun _=>True) ?_ (fun a ha=>.some ha) (fun s _=>.some fun D hD=>?_)
   ·refine Par.ite (fun _=>?_) (fun _=>.some trivial)
    refine Par.any fun a=>Par.ite (fun _=>.some fun D hD=>?_) (fun _=>.some trivial)
    obtain ⟨D,rfl⟩:∃ k,D=k+2:=⟨D-2,by omega⟩
    rw [h1]
    simp [W4,lvB]
   ·obtain ⟨D,rfl⟩:∃ k,D=k+1:=⟨D-1,by omega⟩
    rw [h1,X7w (by decide) (by decide)]
    exact rfl
 | succ m ih=>
  intro n r p v h
  cases n with
  | zero=>exact .none
  | succ n=>
  unfold Q32
  refine Par.ite (fun _=>.some fun D _=>Z1q D h) (fun _=>?_)
  refine Par.ite (fun _=>.some fun D _=>Z1q D h) (fun h5=>?_)
  refine Par.ite (fun _=>.some fun D _=>Z1q D h) (fun h3=>?_)
  rw [X3] at h5 h3
  refine Par.ctl (R:=fun (a:Q0×Int×Z4)=>∀ D,2 * (m+1+1)≤D→lvB (m+1) (W4 D a.1)) (B:=fun _=>True) ?_ (fun a ha=>.some ha) (fun s _=>?_)
  ·refine Par.ite (fun _=>?_) (fun _=>.some trivial)
   refine Par.any fun a=>Par.ite (fun _=>.some fun D hD=>?_) (fun _=>.some trivial)
   obtain ⟨D,rfl⟩:∃ k,D=k+1:=⟨D-1,by omega⟩
   simp [W4,lvB]
  ·refine Par.ctl (Z1f (fun _ (u:Z4×List Q0×Int)=>p.op=1∨∀ q∈u.2.1,∀ D,2 * (m+1)≤D→lvB m (W4 D q)) (fun _=>False) (fun u=>p.op=1∨∀ q∈u.2.1,∀ D,2 * (m+1)≤D→lvB m (W4 D q)) p.kids 0 _ (by simp) (fun k x u hx hI=>?_) (fun _ hI=>hI)) (fun r hr=>hr.elim) (fun u hu=>?_)
   ·rcases h with h | h | ⟨_,hk⟩
    ·exact Par.any fun a=>Par.any fun b=>.some (.inl h)
    ·exact absurd h h3
    ·refine Par.bind (ih n u.1 x u.2.2 (hk x hx)) (fun a ha=>?_)
     refine Par.bind (X4p _ _) (fun b hb=>.some ?_)
     subst hb
     simp only [Q0v]
     rcases hI with hI | hI
     ·exact .inl hI
     ·refine .inr fun q hq=>?_
      rcases U9.1 hq with hq | hq
      ·exact hI q hq
      ·simp only [List.mem_singleton] at hq;rw [hq];exact ha
   ·have hop:p.op=1∨p.op=4:=by rcases h with h | h | ⟨h | h,_⟩<;>omega
    have hnode:∀ D,2 * (m+1)+1≤D→lvB (m+1) (W4 D (Q0.mk p.op p.ctor p.n p.m p.var u.2.1)):=fun D hD=>by
     obtain ⟨D,rfl⟩:∃ k,D=k+1:=⟨D-1,by omega⟩
     rw [X7w (by omega) (by omega)]
     rcases hop with h1 | h4
     ·exact .inl h1
     ·rcases hu with hu | hu
      ·omega
      ·refine .inr (.inr ⟨.inl h4,fun q hq=>?_⟩)
       obtain ⟨x,hx,rfl⟩:=U11.1 hq
       exact hu x hx D (by omega)
    refine Par.ctl (R:=fun (a:Q0×Int×Z4)=>∀ D,2 * (m+1+1)≤D→lvB (m+1) (W4 D a.1)) (B:=fun _=>True) ?_ (fun a ha=>.some ha) (fun s _=>.some fun D hD=>hnode D (by omega))
    refine Par.ite (fun _=>?_) (fun _=>.some trivial)
    refine Par.any fun a=>Par.ite (fun _=>.some fun D hD=>?_) (fun _=>.some trivial)
    obtain ⟨D,rfl⟩:∃ k,D=k+1:=⟨D-1,by omega⟩
    have:=hnode D (by omega)
    rw [W4]
    simpa using this
theorem V1c (r:Z4)(w:List Q3)(t:Q2):Par (Q50 NN r w t) (fun a=>lvB 3 (W4 10 a.1)):=by
 unfold Q50
 refine Par.bind (W7a r _) (fun a ha=>?_)
 refine Par.bind (V3e 3 NN a.2 w t a.1 (by simp at ha;omega) (by simp at ha;omega) (by omega)) (fun b hb=>?_)
 refine Par.bind (V1r 3 NN b.2 b.1 0 hb) (fun c hc=>Par.any fun d=>Par.ite (fun _=>.some ?_) (fun _=>.some (hc 10 (by omega))))
 exact Z1q 10 (X6n rfl)
theorem Ret.par {α:Type}{x:Option α}{P:α→Prop}(h:Ret x P):Par x P:=fun a e=>by
 obtain ⟨b,e',hp⟩:=h
 rw [e] at e'
 cases e'
 exact hp
theorem Par.both {α:Type}{x:Option α}{P Q:α→Prop}(h:Par x P)(k:Par x Q):Par x (fun a=>P a∧Q a):=fun a e=>⟨h a e,k a e⟩
theorem Z6l {σ ρ:Type}{f:σ→Option (Ctl ρ σ)}(I:σ→Prop)(R:ρ→Prop)(B:σ→Prop)(st:∀ s,I s→Par (f s) (RndQ R B I)):∀ (n:Nat) (s0:σ),I s0→Par (whileL f n s0) (CtlQ R B)
 | 0,_,_=>.none
 | n+1,s0,h0=>fun a e=>by
  unfold whileL at e
  have h1:=st s0 h0
  cases hf:f s0 with
  | none=>rw [hf] at e;cases e
  | some o=>
   rw [hf] at e
   have h2:=h1 o hf
   cases o with
   | ret r=>cases e;exact h2
   | brk s=>cases e;exact h2
   | go s=>exact Z6l I R B st n s h2 a e
def v0P:Q0:=Q0.mk 2 0 0 0 0 []
def Mut (p q:Q0):Prop:=((q.op=0∨q.op=7∨q.op=1∨q.op=2∨q.op=5)∧q.kids=p.kids∧q.var=p.var)∨
 (q.op=p.op∧(q.kids=p.kids∨(q.kids=p.kids++[v0P]∧q.var=p.var)∨q.kids=p.kids.set 0 v0P))
theorem W7b (r:Z4)(p:Q0):Par (Q2n r p) (fun a=>Mut p a.1):=by
 unfold Q2n
 refine Par.any fun x=>?_
 refine Par.ctl (R:=fun _=>False) (B:=fun (s:Z4×Int×Int×Int×Int×List Q0)=>Mut p (Q0.mk s.2.1 s.2.2.1 s.2.2.2.1 p.m s.2.2.2.2.1 s.2.2.2.2.2)) ?_ (fun r hr=>hr.elim) (fun s hs=>.some hs)
 have same:∀ (r:Z4) (c n v:Int),Par (some (Ctl.brk (ρ:=Q0×Z4) (r,p.op,c,n,v,p.kids))) (CtlQ (fun _=>False) (fun (s:Z4×Int×Int×Int×Int×List Q0)=>Mut p (Q0.mk s.2.1 s.2.2.1 s.2.2.2.1 p.m s.2.2.2.2.1 s.2.2.2.2.2))):=fun r c n v=>.some (.inr ⟨rfl,.inl rfl⟩)
 refine Par.any fun a=>Par.ite (fun _=>?_) (fun _=>Par.ite (fun _=>Par.any fun b=>same _ _ _ _) (fun _=>Par.ite (fun _=>Par.any fun b=>same _ _ _ _) (fun _=>Par.ite (fun _=>?_) (fun _=>Par.ite (fun _=>Par.ite (fun _=>Par.any fun b=>?_) (fun _=>same _ _ _ _)) (fun _=>Par.ite (fun _=>Par.any fun b=>same _ _ _ _) (fun _=>same _ _ _ _))))))
 ·refine Par.bind (W7a _ _) (fun b hb=>.some (.inl ⟨?_,rfl,rfl⟩))
  simpa using hb
 ·exact Par.any fun b=>.some (.inr ⟨rfl,.inr (.inl ⟨rfl,rfl⟩)⟩)
 ·refine Par.bind (P:=fun z=>z=p.kids.set 0 v0P) (fun z hz=>?_) (fun z hz=>.some (.inr ⟨rfl,.inr (.inr hz)⟩))
  unfold setI at hz
  split at hz
  ·cases hz;rfl
  ·cases hz
theorem W1a {p q:Q0}(h:Mut p q):∀ k∈q.kids,k∈p.kids∨k=v0P:=fun k hk=>by
 rcases h with ⟨_,h,_⟩ | ⟨_,h | ⟨h,_⟩ | h⟩
 ·rw [h] at hk;exact .inl hk
 ·rw [h] at hk;exact .inl hk
 ·rw [h] at hk;simpa using hk
 ·rw [h] at hk;exact List.mem_or_eq_of_mem_set hk
theorem W9e (d:Nat):lvB 2 (W4 (d+1) v0P):=by
 have:W4 (d+1) v0P=Q0.mk 1 0 0 0 0 []:=by simp [W4,v0P]
 rw [this]
 exact X6n rfl
theorem V66 {w:List Q3}{t:Q2}{p q1 q:Q0}(hp:J6 w 10 t p=true)(lp:linD w 10 t p=true)(hq:J6 w 10 t q=true)(lq:linD w 10 t q=true)(h:lvB 3 (W4 10 p))(m1:Mut p q1)(m2:Mut q1 q):lvB 3 (W4 10 q):=by
 obtain ⟨po,pl⟩:=Q0y (Q04 hp)
 obtain ⟨qo,ql⟩:=Q0y (Q04 hq)
 have pc:=po
 have qc:=qo
 simp only [Z0j,Bool.and_eq_true,Bool.or_eq_true,decide_eq_true_eq] at pc qc
 have hk:∀ k∈q.kids,k∈p.kids∨k=v0P:=fun k hk=>by
  rcases W1a m2 k hk with h | h
  ·exact W1a m1 k h
  ·exact .inr h
 have hop:q.op=p.op∨q.op=0∨q.op=7∨q.op=1∨q.op=2∨q.op=5:=by
  rcases m2 with ⟨h,_⟩ | ⟨h,_⟩
  ·exact .inr h
  ·rcases m1 with ⟨h',_⟩ | ⟨h',_⟩
   ·right;rw [h];exact h'
   ·left;rw [h,h']
 have qcase:q.op=1∨q.op=2∨q.op=5∨q.op=6∨q.op=3∨q.op=4:=by
  rcases qc.2 with (h | h) | h
  ·omega
  ·omega
  ·omega
 have pcase:p.op=1∨p.op=2∨p.op=5∨p.op=6∨p.op=3∨p.op=4:=by
  rcases pc.2 with (h | h) | h
  ·omega
  ·omega
  ·omega
 have bq:q.op≠2→q.op≠6→W4 10 q=Q0.mk q.op q.ctor q.n q.m q.var (q.kids.map (W4 9)):=fun h2 h6=>by
  rw [W4,if_neg h2,if_neg (fun h=>h6 h.1)]
 have bp:p.op≠2→p.op≠6→W4 10 p=Q0.mk p.op p.ctor p.n p.m p.var (p.kids.map (W4 9)):=fun h2 h6=>by
  rw [W4,if_neg h2,if_neg (fun h=>h6 h.1)]
 have pk:(p.op=4∨p.op=5)→∀ k∈p.kids,lvB 2 (W4 9 k):=fun ho k hk=>by
  rw [bp (by omega) (by omega)] at h
  rcases h with h | h | ⟨_,h⟩
  ·simp only at h;omega
  ·simp only at h;omega
  ·exact h _ (List.mem_map_of_mem hk)
 have fin:(q.op=4∨q.op=5)→(∀ k∈p.kids,k∈q.kids→lvB 2 (W4 9 k))→lvB 3 (W4 10 q):=fun ho hh=>by
  rw [bq (by omega) (by omega)]
  refine .inr (.inr ⟨ho,fun k hk'=>?_⟩)
  obtain ⟨k0,hk0,rfl⟩:=U11.1 hk'
  rcases hk k0 hk0 with h | h
  ·exact hh k0 h hk0
  ·rw [h];exact W9e 8
 rcases qcase with q1' | q2 | q5 | q6 | q3 | q4
 ·rw [bq (by omega) (by omega)]
  exact X6n q1'
 ·rw [W4,if_pos q2]
  exact X6n rfl
 ·refine fin (.inr q5) fun k hkp hkq=>?_
  rcases pcase with h' | h' | h' | h' | h' | h'
  ·have:p.kids=[]:=List.eq_nil_of_length_eq_zero (by rw [pl,V5,if_neg (by omega),if_neg (by omega),if_neg (by omega)];rfl)
   rw [this] at hkp;cases hkp
  ·have:p.kids=[]:=List.eq_nil_of_length_eq_zero (by rw [pl,V5,if_neg (by omega),if_neg (by omega),if_neg (by omega)];rfl)
   rw [this] at hkp;cases hkp
  ·exact pk (.inr h') k hkp
  ·exfalso
   have pl1:p.kids.length=1:=by rw [pl,V5,if_neg (by omega),if_neg (by omega),if_pos h'];rfl
   have ql2:q.kids.length=2:=by rw [ql,V5,if_neg (by omega),if_pos q5];rfl
   obtain ⟨k0,hk0⟩:∃ k0,p.kids=[k0]:=by
    match hp':p.kids,pl1 with
    | [a],_=>exact ⟨a,rfl⟩
   have hqk:q.kids=[k0,v0P]∧q.var=p.var:=by
    rcases m1 with ⟨_,a1,a2⟩ | ⟨a0,a1⟩
    ·rcases m2 with ⟨_,b1,b2⟩ | ⟨b0,b1 | ⟨b1,b2⟩ | b1⟩
     ·rw [b1,a1,hk0] at ql2;simp at ql2
     ·rw [b1,a1,hk0] at ql2;simp at ql2
     ·exact ⟨by rw [b1,a1,hk0];rfl,by rw [b2,a2]⟩
     ·rw [b1,a1,hk0] at ql2;simp at ql2
    ·rcases m2 with ⟨_,b1,b2⟩ | ⟨b0,_⟩
     ·rcases a1 with a1 | ⟨a1,a2⟩ | a1
      ·rw [b1,a1,hk0] at ql2;simp at ql2
      ·exact ⟨by rw [b1,a1,hk0];rfl,by rw [b2,a2]⟩
      ·rw [b1,a1,hk0] at ql2;simp at ql2
     ·omega
   have hv0:q.var=0:=by
    have:=qc.1.1.1
    rw [if_neg (by omega)] at this
    simpa using this
   have kq:V5 w t q=[t,t]:=by rw [V5,if_neg (by omega),if_pos q5]
   have kp:V5 w t p=[t]:=by rw [V5,if_neg (by omega),if_neg (by omega),if_pos h']
   have e1:kv w 9 t q 0=Q1x w 9 t k0:=by simp [kv,kq,hqk.1]
   have e2:kv w 9 t q 1=[⟨0,t⟩]:=by
    simp only [kv,kq,hqk.1]
    simp [Q1x,ownV,v0P]
   have e3:Q1x w 10 t p=⟨0,t⟩::Q1x w 9 t k0:=by
    rw [Q1x,kp,hk0,if_neg (by omega)]
    simp [ownV,h',←hqk.2,hv0]
   rw [linD,if_pos q5] at lq
   rw [linD,if_neg (by omega)] at lp
   simp only [Bool.and_eq_true] at lq lp
   have a:=lq.2
   have b:=lp.2
   rw [e1,e2] at a
   rw [e3] at b
   simp only [Q9o,Bool.and_eq_true,decide_eq_true_eq,List.all_eq_true] at a
   simp only [Q1u,decide_eq_true_eq] at b
   match hx:Q1x w 9 t k0,a with
   | [x],a=>
    have hxx:=a.2 x (by simp)
    simp only [List.mem_singleton] at hxx
    rw [hx,hxx] at b
    simp at b
  ·have:p.kids=[]:=List.eq_nil_of_length_eq_zero (by rw [pl,V5,if_neg (by omega),if_neg (by omega),if_neg (by omega)];rfl)
   rw [this] at hkp;cases hkp
  ·exact pk (.inl h') k hkp
 ·have p6:p.op=6:=by omega
  have pl1:p.kids.length=1:=by rw [pl,V5,if_neg (by omega),if_neg (by omega),if_pos p6];rfl
  have ql1:q.kids.length=1:=by rw [ql,V5,if_neg (by omega),if_neg (by omega),if_pos q6];rfl
  obtain ⟨k0,hk0⟩:∃ k0,p.kids=[k0]:=by
   match hp':p.kids,pl1 with
   | [a],_=>exact ⟨a,rfl⟩
  obtain ⟨k1,hk1⟩:∃ k0,q.kids=[k0]:=by
   match hp':q.kids,ql1 with
   | [a],_=>exact ⟨a,rfl⟩
  have eq:W4 10 q=W4 9 k1:=by rw [W4,if_neg (by omega),if_pos ⟨q6,by rw [hk1];simp⟩,hk1];rfl
  have ep:W4 10 p=W4 9 k0:=by rw [W4,if_neg (by omega),if_pos ⟨p6,by rw [hk0];simp⟩,hk0];rfl
  rw [eq]
  rcases hk k1 (by rw [hk1];simp) with h1 | h1
  ·rw [hk0,List.mem_singleton] at h1
   rw [h1,←ep]
   exact h
  ·rw [h1]
   exact W7f (W9e 8)
 ·rw [bq (by omega) (by omega)]
  exact .inr (.inl q3)
 ·exact fin (.inl q4) fun k hkp _=>pk (.inl (by omega)) k hkp
def X18 (w:List Q3)(t:Q2)(c:Q5):Prop:=Q1v w t c.pat=true→lvB 3 (W4 10 c.pat)
def Y6z (w:List Q3)(t:Q2)(c:Q5):Prop:=Q1v w t c.pat=true∧lvB 3 (W4 10 c.pat)
theorem W53 (r:Z4)(w:List Q3)(t:Q2):Par (Q3e NN r w t) (fun a=>lvB 3 (W4 10 a.1.pat)):=by
 unfold Q3e
 refine Par.bind (V1c r w t) (fun a ha=>Par.any fun b=>?_)
 exact Par.ctl (R:=fun _=>False) (B:=fun _=>True) (Z1f (fun _ _=>True) (fun _=>False) (fun _=>True) _ 0 _ trivial (fun k x s _ _=>by
  refine Par.ctl (R:=fun _=>False) (B:=fun _=>True) ?_ (fun r h=>h.elim) (fun s _=>.some trivial)
  refine Par.ite (fun _=>Par.any fun c=>Par.ite (fun _=>Par.any fun d=>Par.any fun e=>.some trivial) (fun _=>.some trivial)) (fun _=>.some trivial)) (fun _ _=>trivial)) (fun r h=>h.elim) (fun s _=>.some ha)
theorem V1y (r:Z4)(w:List Q3)(t:Q2):Par (Q4z NN r w t) (fun a=>∀ c∈a.1,lvB 3 (W4 10 c.pat)):=by
 unfold Q4z
 refine Par.any fun a=>?_
 refine Par.ctl (Z6l (fun s:Z4×List Q5×Int=>∀ c∈s.2.1,lvB 3 (W4 10 c.pat)) (fun _=>False) (fun s=>∀ c∈s.2.1,lvB 3 (W4 10 c.pat)) (fun s hI=>?_) NN _ (by simp)) (fun r h=>h.elim) (fun s hs=>.some hs)
 refine Par.ite (fun _=>?_) (fun _=>.some hI)
 refine Par.bind (W53 s.1 w t) (fun b hb=>?_)
 refine Par.bind (X4p _ _) (fun z hz=>.some ?_)
 subst hz
 intro c hc
 rcases U9.1 hc with hc | hc
 ·exact hI c hc
 ·simp only [List.mem_singleton] at hc;rw [hc];exact hb
theorem W5y (r:Z4):Par (Q2j NN r) (fun a=>∀ c∈a.2.2.1,lvB 3 (W4 10 c.pat)):=by
 unfold Q2j
 exact Par.any fun a=>Par.bind (V1y _ _ _) (fun b hb=>.some hb)
theorem Y39 (d:Nat):lvB 3 (W4 d (Q0.mk 1 0 0 0 0 [])):=Z1q d (X6n rfl)
theorem W3m {w:List Q3}{t:Q2}(r:Z4)(l:List Q5)(hl:∀ c∈l,Y6z w t c):Par (Q3d NN r l) (fun a=>∀ c∈a.1,X18 w t c):=by
 have hl':∀ c∈l,X18 w t c:=fun c hc _=>(hl c hc).2
 unfold Q3d
 refine Par.any fun x=>?_
 refine Par.ctl (R:=fun _=>False) (B:=fun (s:Z4×List Q5)=>∀ c∈s.2,X18 w t c) ?_ (fun r h=>h.elim) (fun s hs=>.some hs)
 have setP:∀ {i:Int} {c:Q5},X18 w t c→Par (setI l i c) (fun z=>∀ c∈z,X18 w t c):=fun {i c} hc z hz=>by
  unfold setI at hz
  split at hz
  ·cases hz
   intro y hy
   rcases List.mem_or_eq_of_mem_set hy with hy | rfl
   ·exact hl' y hy
   ·exact hc
  ·cases hz
 have idxP:∀ i:Int,Par (idx l i) (fun c=>c∈l):=fun i c hc=>by
  unfold idx at hc
  split at hc
  ·exact U1 hc
  ·cases hc
 refine Par.any fun a=>Par.ite (fun _=>Par.ite (fun _=>?_) (fun _=>.some hl')) (fun _=>Par.ite (fun _=>Par.ite (fun _=>?_) (fun _=>.some hl')) (fun _=>Par.ite (fun _=>?_) (fun _=>.some hl')))
 ·refine Par.any fun b=>Par.any fun c=>Par.any fun d=>Par.bind (idxP 0) (fun e he=>?_)
  exact Par.bind (setP (fun _=>(hl e he).2)) (fun z hz=>.some hz)
 ·refine Par.bind (idxP 0) (fun e he=>?_)
  refine Par.bind (W7b _ _) (fun f hf=>?_)
  refine Par.bind (W7b _ _) (fun g hg=>?_)
  refine Par.bind (setP (fun hv=>?_)) (fun z hz=>.some hz)
  obtain ⟨g1,_,l1⟩:=Q3q (hl e he).1
  obtain ⟨g2,_,l2⟩:=Q3q hv
  exact V66 g1 l1 g2 l2 (hl e he).2 hf hg
 ·refine Par.ctl (Z6l (fun s:List Q5=>∀ c∈s,X18 w t c) (fun _=>False) (fun s=>∀ c∈s,X18 w t c) (fun s hI=>?_) NN _ hl') (fun r h=>h.elim) (fun s hs=>.some hs)
  refine Par.ite (fun _=>Par.any fun y=>.some fun c hc=>?_) (fun _=>.some hI)
  rcases U9.1 hc with hc | hc
  ·exact hI c hc
  ·simp only [List.mem_singleton] at hc;rw [hc];exact fun _=>Y39 10
theorem X5z {w:List Q3}(hw:WW w)(he:WE w){t:Q2}(ht:t∈tys w){ps:List Q0}(hp:∀ p∈ps,X6 w 10 t p∧cntP p≤130)(hl:ps.length≤1600)(hfew:∀ r,sepP w t [] ps=some r→r.length≤400) :
  Q5b NN w (tabP w) t ps=some (optR (sepP w t [] ps)):=by
 suffices hs:Ret (Q5b NN w (tabP w) t ps) (fun r=>r=optR (sepP w t [] ps)) by
  obtain ⟨a,e,rfl⟩:=hs
  exact e
 unfold Q5b
 refine Ret.ctl (Z3 ps (fun k s=>s.length≤400∧sepP w t [] ps=(sepP w t (ps.take k) (ps.drop k)).map (s++·)) (fun r=>r=([],false)∧sepP w t [] ps=none) (fun s=>sepP w t [] ps=some s) ⟨by simp,by simp⟩ (fun k p s hp' hI=>?_) (fun s hI=>?_)) (fun r hr=>.some (by rw [hr.1,hr.2];rfl)) (fun s hs=>.some (by rw [hs];rfl))
 ·obtain ⟨hsl,hI⟩:=hI
  have hk:=(List.getElem?_eq_some_iff.1 hp').1
  have hpm:=hp p (U1 hp')
  have hsub:subI ps (k:Int) (wadd .i64 (k:Int) 1)=some [p]:=by
   rw [V7 (by omega) (by omega)]
   unfold subI
   rw [if_pos ⟨by omega,by omega,by omega⟩]
   have h1:((k:Int)+1).toNat=k+1:=by omega
   rw [h1,Int.toNat_natCast,List.take_add_one,hp',List.drop_append,U6,Nat.min_eq_left (by omega),Nat.sub_self,List.drop_of_length_le (by rw [U6];omega)]
   rfl
  rw [hsub]
  simp only [U0]
  rw [X37 (by omega)]
  simp only [U0]
  rw [Z27 hw he (d:=10) (x:=11) ht (by omega) (by omega) (fun b hb=>hp b (List.mem_of_mem_take hb)) (fun a ha=>by simp only [List.mem_singleton] at ha;rw [ha];exact Q6f 10 t p hpm.1) (by simp) (by simp only [NN];omega)]
  simp only [U0]
  rw [Q9k hp'] at hI
  simp only [sepP] at hI
  cases hm:Q2h w 10 11 t [p] (ps.take k) with
  | none=>
   rw [hm] at hI
   simp only [Option.bind_none,Option.map_none] at hI
   simp only [optR,Bool.not_false,if_true]
   exact .some ⟨rfl,hI⟩
  | some m=>
   rw [hm] at hI
   have hml:=Q85 (m:=400) (Nat.le_refl _) (by simp) hm
   have e1:wadd .i64 (lenZ s.length) (lenZ m.length)=((s.length+m.length:Nat):Int):=by
    rw [Q0j,Q0j,V7 (by omega) (by omega)]
    omega
   simp only [optR,Bool.not_true,U2,if_false,e1]
   refine Ret.ite (fun hgt=>?_) (fun hle=>?_)
   ·rw [Z9] at hgt
    refine .some ⟨rfl,?_⟩
    cases hz:sepP w t (ps.take k++[p]) (ps.drop (k+1)) with
    | none=>rw [hI];simp [hz]
    | some z=>
     rw [hz] at hI
     simp only [U0,Option.map_some] at hI
     have:=hfew _ hI
     simp only [U5] at this
     omega
   ·rw [X7] at hle
    rw [X2 (by simp only [Q6];omega)]
    refine .some ⟨by simp only [U5];omega,?_⟩
    rw [hI]
    simp only [U0,Option.map_map]
    rw [List.take_add_one,hp']
    simp only [Option.toList_some]
    congr 1
    funext z
    simp
 ·obtain ⟨_,hI⟩:=hI
  rw [List.drop_length,sepP] at hI
  simpa using hI
theorem X1h {w:List Q3}(hww:w∈Q0r){t:Q2}(ht:t∈tys w){cs:List Q5}(hf:∀ c∈cs,X18 w t c){i:Nat}(hi:i<cs.length):Q2b NN w t cs (i:Int)=some (optR (Q1i w t cs i)):=by
 have hw:=ww hww
 have he:=we hww
 unfold Q2b Q1i
 rw [Z03 hw ht]
 simp only [U0]
 by_cases h:Q23 w t cs=true
 ·obtain ⟨h8,hc⟩:=Q78 h
  have hci:cs[i]?=some (cs[i]'hi):=by simp
  generalize cs[i]'hi=c at hci
  have hcm:=U1 hci
  obtain ⟨hv,hg,hcn⟩:=hc c hcm
  simp only [h,Bool.not_true,U2,if_false,if_true]
  rw [if_neg (by rw [Z9];omega),if_neg (by rw [Q0l,Q0j];omega),hci,Q1b hci]
  simp only [U0]
  rw [Z7c hw ht hg (by omega) (by simp only [NN];omega)]
  simp only [U0]
  have htk:∀ c∈cs.take i,J6 w 10 t c.pat=true∧cntP c.pat≤60:=fun c m=>(hc c (List.mem_of_mem_take m)).2
  by_cases h40:40<(Q9 10 (W4 10 c.pat)).length
  ·have hm:Q72 c.pat=none:=by unfold Q72;rw [if_pos h40]
   rw [if_pos (by rw [Z9,Q0j,U6];omega),hm]
   rfl
  ·have hm:Q72 c.pat=some (Q9 10 (W4 10 c.pat)):=by unfold Q72;rw [if_neg h40]
   rw [List.take_of_length_le (by omega),if_neg (by rw [Z9,Q0j];omega),hm]
   have hpp:=Z6q hg hm
   have hpc:=Z9j hm
   have hpl:=(Q89 hm).1
   obtain ⟨P,hP,hPs⟩:=V6a hw (wr hww) ht (Q84 Q9l 10 t c.pat hg) (hf c hcm hv)
   have hfew:∀ r,sepP w t [] (Q9 10 (W4 10 c.pat))=some r→r.length≤400:=fun r hr=>V5t hw he ht hP (fun p hp=>⟨hPs p hp,hpp p hp⟩) hr
   generalize Q9 10 (W4 10 c.pat)=mine at hpp hpc hpl hfew hPs
   simp only [U0]
   rw [hw.tab]
   simp only [U0]
   rw [X5z hw he ht (fun p hp=>⟨hpp p hp,by have:=hpc p hp;omega⟩) (by omega) hfew]
   simp only [U0]
   cases hs:sepP w t [] mine with
   | none=>
    simp only [optR,Bool.not_false,if_true,Option.bind_none]
    cases Q31 (cs.take i)<;>rfl
   | some out=>
    have hol:=hfew out hs
    have hop:=Z8i mine [] out (by simp) hpp hs
    simp only [optR,Bool.not_true,U2,if_false]
    unfold Q8p
    rw [X5w hw ht (by omega) (fun c m=>⟨(hc c m).2.1,by have:=(hc c m).2.2;omega⟩) (by omega)]
    simp only [U0]
    cases ha:Q31 (cs.take i) with
    | none=>simp [optR]
    | some away=>
     have hap:=Z0o (fun c m=>(htk c m).1) ha
     have hac:=Z6a (m:=60) (fun c m=>(htk c m).2) ha
     simp only [optR,Bool.not_true,U2,if_false,U0]
     rw [hw.tab]
     simp only [U0]
     rw [Z27 hw he (d:=10) (x:=11) ht (by omega) (by omega) (fun b hb=>⟨hap b hb,by have:=hac b hb;omega⟩) hop (by omega) (by simp only [NN];omega)]
     simp only [U0]
     rw [X5t hw (by simp only [NN];omega) ht _ (fun r hr=>by have:=Q85 (m:=20000) (by omega) (by omega) hr;omega)]
     cases Z1u w t (Q2h w 10 11 t out away)<;>rfl
 ·simp [h,optR]
theorem Z85 {w:List Q3}(hww:w∈Q0r){t:Q2}(ht:t∈tys w){cs:List Q5}(hf:∀ c∈cs,X18 w t c):Q14 NN w t cs=some (redD w t cs):=by
 have hw:=ww hww
 suffices hs:Ret (Q14 NN w t cs) (fun r=>r=redD w t cs) by
  obtain ⟨a,e,rfl⟩:=hs
  exact e
 unfold Q14 redD
 rw [Z03 hw ht]
 simp only [U0]
 by_cases h:Q23 w t cs=true
 ·obtain ⟨h8,hc⟩:=Q78 h
  simp only [h,Bool.not_true,U2,if_false,true_and]
  refine Ret.ctl (Z3 cs (fun k s=>s=((List.range k).filter fun i=>nilR (Q1i w t cs i)).map (fun i:Nat=>(i:Int))∧∀ i,i<k→(Q1i w t cs i).isSome=true) (fun r=>r=([],false)∧¬∀ i,i<cs.length→(Q1i w t cs i).isSome=true) (fun s=>s=((List.range cs.length).filter fun i=>nilR (Q1i w t cs i)).map (fun i:Nat=>(i:Int))∧∀ i,i<cs.length→(Q1i w t cs i).isSome=true) ⟨by simp,by simp⟩ (fun k c s hck hI=>?_) (fun s hI=>hI)) (fun r hr=>.some (by rw [if_neg hr.2];exact hr.1)) (fun s hs=>.some (by rw [if_pos hs.2,hs.1]))
  obtain ⟨hI,hall⟩:=hI
  have hk:=(List.getElem?_eq_some_iff.1 hck).1
  have hsl:s.length≤8:=by
   rw [hI,U7]
   have:=List.length_filter_le (fun i=>nilR (Q1i w t cs i)) (List.range k)
   rw [List.length_range] at this
   omega
  rw [X1h hww ht hf hk]
  simp only [U0]
  have hnext:∀ i,i<k+1→(Q1i w t cs k).isSome=true→(Q1i w t cs i).isSome=true:=fun i hi hk'=>by
   by_cases hik:i=k
   ·rw [hik];exact hk'
   ·exact hall i (by omega)
  cases hr:Q1i w t cs k with
  | none=>
   simp only [optR,Bool.not_false,if_true,U0]
   exact .some ⟨rfl,fun hh=>by have:=hh k hk;rw [hr] at this;cases this⟩
  | some r=>
   simp only [optR,Bool.not_true,U2,if_false,len0]
   rw [hr] at hnext
   by_cases h0:r.length=0
   ·have hr0:r=[]:=List.eq_nil_of_length_eq_zero h0
    simp only [h0,decide_true,if_true]
    rw [X2 (by simp only [U3,U4,Q6];omega)]
    refine .some ⟨?_,fun i hi=>hnext i hi rfl⟩
    rw [hI,List.range_succ,List.filter_append,List.map_append]
    simp [hr,hr0,nilR]
   ·simp only [h0,decide_false,U2,if_false,U0]
    refine .some ⟨?_,fun i hi=>hnext i hi rfl⟩
    rw [hI,List.range_succ,List.filter_append,List.map_append]
    have:r≠[]:=fun e=>h0 (by rw [e];rfl)
    simp [hr,this,nilR]
 ·simp only [h,Bool.not_false,if_true,false_and,if_false]
  exact .some rfl
theorem W09 (l:List Q5)(f:Q5→Q5→Option Bool)(h:∀ c∈l,f c c=some true):Q0n l l f=some true:=by
 suffices hr:Ret (Q0n l l f) (fun r=>r=true) by
  obtain ⟨_,e,rfl⟩:=hr
  exact e
 unfold Q0n
 have e:(!ieq (lenZ l.length) (lenZ l.length))=false:=by simp [ieq]
 simp only [e,U2,if_false]
 refine Ret.ctl (Z3 l (fun _ _=>True) (fun _=>False) (fun _=>True) trivial (fun k c u hc _=>?_) (fun _ _=>trivial)) (fun r hr=>hr.elim) (fun _ _=>.some rfl)
 rw [Q1b hc]
 simp only [U0]
 rw [h c (U1 hc)]
 exact .some trivial
theorem Z8g {l:List Q5}(h:∀ c∈l,X1z 10 c.pat):Q1f NN l l=some true:=by
 unfold Q1f
 rw [W09 l _ fun c hc=>by
  unfold Q4h
  obtain ⟨r,e,hr⟩:=X9c 10 NN c.pat c.pat (h c hc) (by decide)
  rw [e,hr.2 rfl]
  simp [Q80,ieq]]
 rfl
theorem W2v {w:List Q3}{t:Q2}{l:List Q5}(h:∀ c∈l,Q1v w t c.pat=true):∀ c∈l,X1z 10 c.pat:=fun c hc=>Q9e 10 t c.pat (Q3q (h c hc)).1
theorem X3l {w:List Q3}{t:Q2}{l:List Q5}(h:∀ c∈l,Q1v w t c.pat=true)(hl:l.length≤1000):Q3a NN l=some l:=by
 suffices hr:Ret (Q3a NN l) (fun r=>r=l) by
  obtain ⟨_,e,rfl⟩:=hr
  exact e
 unfold Q3a
 refine Ret.ctl (Z3 l (fun i s=>s=l.take i) (fun _=>False) (fun s=>s=l) (by simp) (fun i c s hc hI=>?_) (fun s hI=>by rw [hI,List.take_length])) (fun r hr=>hr.elim) (fun s hs=>.some hs)
 obtain ⟨g,c1,_⟩:=Q3q (h c (U1 hc))
 rw [X2n 10 NN c.pat (Q9e 10 t c.pat g) (by decide) (by omega)]
 simp only [U0]
 rw [X2 (by rw [hI];simp only [U6,U3,U4,Q6];omega)]
 exact .some (by simp only [Q0v];rw [hI,List.take_add_one,hc];cases c;rfl)
def Q7a (p:Nat→Bool):Nat→List Q5→List Q5
 | _,[]=>[]
 | k,c::cs=>if p k=true then Q7a p (k+1) cs else c::Q7a p (k+1) cs
theorem Z5u {p:Nat→Bool} : ∀ {l:List Q5} {k:Nat} {c:Q5},c∈Q7a p k l→c∈l
 | [],_,_,h=>by simp [Q7a] at h
 | a::l,k,c,h=>by
  rw [Q7a] at h
  split at h
  ·exact List.mem_cons_of_mem _ (Z5u h)
  ·rcases U8.1 h with rfl | h
   ·simp
   ·exact List.mem_cons_of_mem _ (Z5u h)
theorem X6r (p:Nat→Bool):∀ (l:List Q5) (k:Nat),(Q7a p k l).length≤l.length
 | [],_=>by simp [Q7a]
 | a::l,k=>by
  rw [Q7a]
  have:=X6r p l (k+1)
  split<;>simp only [U3]<;>omega
def hitC (v:Q4)(c:Q5):Option (List Y3):=match Z6 10 c.pat v with
 | some b=>if Q38 c.guard b=true then some (Z45 b) else none
 | none=>none
theorem Z9b (v:Q4)(k:Nat)(c:Q5)(l:List Q5):runD v k (c::l)=match hitC v c with
  | some b=>some (k,b)
  | none=>runD v (k+1) l:=by
 simp only [runD,hitC]
 cases Z6 10 c.pat v with
 | none=>rfl
 | some b=>simp only;cases Q38 c.guard b<;>rfl
theorem W1h {v:Q4}{p:Nat→Bool} : ∀ (l:List Q5) (k:Nat),(∀ x,runD v k l=some x→p x.1=false)→match runD v k l with
  | none=>∀ j,runD v j (Q7a p k l)=none
  | some x=>k≤x.1∧∀ j,∃ i,runD v j (Q7a p k l)=some (j+i,x.2)∧(Q7a p k l)[i]?=l[x.1-k]?
 | [],k,_=>fun j=>rfl
 | c::l,k,h=>by
  rw [Z9b] at h ⊢
  cases hc:hitC v c with
  | some b=>
   rw [hc] at h
   have hp:p k=false:=h (k,b) rfl
   refine ⟨Nat.le_refl _,fun j=>⟨0,?_,?_⟩⟩
   ·rw [Q7a,if_neg (by rw [hp];simp),Z9b,hc]
    rfl
   ·rw [Q7a,if_neg (by rw [hp];simp)]
    simp
  | none=>
   rw [hc] at h
   simp only at h ⊢
   have ih:=W1h l (k+1) h
   have hsk:∀ (j:Nat),runD v j (Q7a p k (c::l))=if p k=true then runD v j (Q7a p (k+1) l) else runD v (j+1) (Q7a p (k+1) l):=fun j=>by
    rw [Q7a]
    by_cases hp:p k=true
    ·rw [if_pos hp,if_pos hp]
    ·rw [if_neg hp,if_neg hp,Z9b,hc]
   cases hr:runD v (k+1) l with
   | none=>
    rw [hr] at ih
    intro j
    rw [hsk]
    split
    ·exact ih j
    ·exact ih (j+1)
   | some x=>
    rw [hr] at ih
    obtain ⟨h1,h2⟩:=ih
    refine ⟨by omega,fun j=>?_⟩
    have hx:x.1-k=(x.1-(k+1))+1:=by omega
    rw [hsk,hx,List.getElem?_cons_succ,Q7a]
    by_cases hp:p k=true
    ·rw [if_pos hp,if_pos hp]
     exact h2 j
    ·rw [if_neg hp,if_neg hp]
     obtain ⟨i,g1,g2⟩:=h2 (j+1)
     exact ⟨i+1,by rw [g1];congr 2;omega,by rw [List.getElem?_cons_succ];exact g2⟩
theorem W90 (l:List Int)(x:Int):V3 l x=some (decide (x∈l)):=by
 suffices hs:Ret (V3 l x) (fun r=>r=decide (x∈l)) by
  obtain ⟨a,e,rfl⟩:=hs
  exact e
 unfold V3 Q43
 refine Ret.bind (P:=fun r=>ile 0 r=decide (x∈l)) ?_ (fun r hr=>.some hr)
 refine Ret.ctl (Z3 l (fun k _=>x∉l.take k) (fun r=>0≤r∧x∈l) (fun _=>x∉l) (by simp) (fun k y s hy hI=>?_) (fun s hI=>by rwa [List.take_length] at hI)) (fun r hr=>.some (by simp [ile,hr.1,hr.2])) (fun s hs=>.some (by simp [ile,hs]))
 refine Ret.ite (fun h=>?_) (fun h=>?_)
 ·rw [X5] at h
  exact .some ⟨by omega,h▸U1 hy⟩
 ·rw [X3] at h
  refine .some ?_
  simp only [Q0v]
  rw [List.take_add_one,hy]
  simp only [Option.toList_some,U9,List.mem_singleton,not_or]
  exact ⟨hI,h⟩
def Z67 (w:List Q3)(t:Q2)(cs:List Q5):List Q5×Bool:=
 if (redD w t cs).2=true then (Q7a (fun i=>nilR (Q1i w t cs i)) 0 cs,true) else ([],false)
theorem Z5e {w:List Q3}{t:Q2}{cs:List Q5}(h:(redD w t cs).2=true):Q23 w t cs=true∧(∀ i,i<cs.length→(Q1i w t cs i).isSome=true)∧∀ i:Nat,((i:Int)∈(redD w t cs).1↔i<cs.length∧nilR (Q1i w t cs i)=true):=by
 unfold redD at h ⊢
 split at h
 ·rename_i hh
  rw [if_pos hh]
  refine ⟨hh.1,hh.2,fun i=>?_⟩
  simp only [U11,List.mem_filter,List.mem_range]
  constructor
  ·rintro ⟨j,hj,he⟩
   have:j=i:=by omega
   rw [←this]
   exact hj
  ·intro hi
   exact ⟨i,hi,rfl⟩
 ·cases h
theorem X9e {w:List Q3}(hww:w∈Q0r){t:Q2}(ht:t∈tys w)(cs:List Q5):Q26 NN w t cs=some (Z67 w t cs):=by
 suffices hs:Ret (Q26 NN w t cs) (fun r=>r=Z67 w t cs) by
  obtain ⟨a,e,rfl⟩:=hs
  exact e
 unfold Q26 Z67
 rw [Z88 hww ht]
 simp only [U0]
 cases hok:(redD w t cs).2 with
 | false=>exact .some (by simp)
 | true=>
  obtain ⟨hcl,_,hiff⟩:=Z5e hok
  obtain ⟨h8,hv⟩:=Z30 hcl
  simp only [Bool.not_true,U2,if_false,if_true]
  have hlen:=X6r (fun i=>nilR (Q1i w t cs i)) cs 0
  refine Ret.ctl (Z3 cs (fun k s=>s.length≤k∧s++Q7a (fun i=>nilR (Q1i w t cs i)) k (cs.drop k)=Q7a (fun i=>nilR (Q1i w t cs i)) 0 cs) (fun _=>False) (fun s=>s=Q7a (fun i=>nilR (Q1i w t cs i)) 0 cs) ⟨by simp,by simp⟩ (fun k c s hc hI=>?_) (fun s hI=>?_)) (fun r hr=>hr.elim) (fun s hs=>?_)
  ·obtain ⟨i1,i2⟩:=hI
   have hk:=(List.getElem?_eq_some_iff.1 hc).1
   rw [Q9k hc,Q7a] at i2
   rw [W90]
   simp only [U0]
   by_cases hp:nilR (Q1i w t cs k)=true
   ·have e:decide ((k:Int)∈(redD w t cs).1)=true:=by rw [decide_eq_true_eq,hiff];exact ⟨hk,hp⟩
    rw [if_pos hp] at i2
    simp only [e,Bool.not_true,U2,if_false,U0]
    exact .some ⟨by omega,i2⟩
   ·have e:decide ((k:Int)∈(redD w t cs).1)=false:=by rw [decide_eq_false_iff_not,hiff];exact fun h=>hp h.2
    rw [if_neg hp] at i2
    simp only [e,Bool.not_false,if_true]
    rw [X2 (by simp only [U3,U4,Q6];omega)]
    exact .some ⟨by simp only [U5,U3,U4];omega,by rw [←i2];simp⟩
  ·rw [List.drop_length,Q7a,List.append_nil] at hI
   exact hI.2
  ·subst hs
   dsimp only
   rw [X3l (fun c hc=>hv c (Z5u hc)) (by omega)]
   exact .some rfl
theorem X8t {w:List Q3}(hww:w∈Q0r){t:Q2}(ht:t∈tys w){cs:List Q5}(hf:∀ c∈cs,X18 w t c):Q25 NN w t cs=some (Z67 w t cs):=by
 suffices hs:Ret (Q25 NN w t cs) (fun r=>r=Z67 w t cs) by
  obtain ⟨a,e,rfl⟩:=hs
  exact e
 unfold Q25 Z67
 rw [Z85 hww ht hf]
 simp only [U0]
 cases hok:(redD w t cs).2 with
 | false=>exact .some (by simp)
 | true=>
  obtain ⟨hcl,_,hiff⟩:=Z5e hok
  obtain ⟨h8,hv⟩:=Q78 hcl
  simp only [Bool.not_true,U2,if_false,if_true]
  refine Ret.ctl (Z3 cs (fun k s=>s.length≤k∧s++Q7a (fun i=>nilR (Q1i w t cs i)) k (cs.drop k)=Q7a (fun i=>nilR (Q1i w t cs i)) 0 cs) (fun _=>False) (fun s=>s=Q7a (fun i=>nilR (Q1i w t cs i)) 0 cs) ⟨by simp,by simp⟩ (fun k c s hc hI=>?_) (fun s hI=>?_)) (fun r hr=>hr.elim) (fun s hs=>.some (by rw [hs]))
  ·obtain ⟨i1,i2⟩:=hI
   have hk:=(List.getElem?_eq_some_iff.1 hc).1
   obtain ⟨_,g,hcn⟩:=hv c (U1 hc)
   rw [Q9k hc,Q7a] at i2
   rw [W8b]
   simp only [U0]
   by_cases hp:nilR (Q1i w t cs k)=true
   ·have e:decide ((k:Int)∈(redD w t cs).1)=true:=by rw [decide_eq_true_eq,hiff];exact ⟨hk,hp⟩
    rw [if_pos hp] at i2
    simp only [e,Bool.not_true,U2,if_false,U0]
    exact .some ⟨by omega,i2⟩
   ·have e:decide ((k:Int)∈(redD w t cs).1)=false:=by rw [decide_eq_false_iff_not,hiff];exact fun h=>hp h.2
    rw [if_neg hp] at i2
    simp only [e,Bool.not_false,if_true]
    rw [Z96 10 NN c.pat (Q9e 10 t c.pat g) (by decide) (by omega)]
    simp only [U0]
    rw [X2 (by simp only [U3,U4,Q6];omega)]
    exact .some ⟨by simp only [U5,U3,U4];omega,by rw [←i2];simp⟩
  ·rw [List.drop_length,Q7a,List.append_nil] at hI
   exact hI.2
theorem W4v (code:List Int)(hb:∀ x∈code,0≤x∧x≤255):Par (Q1z NN code) (fun a=>∀ c∈a.2.2.1,X18 a.1 a.2.1 c):=by
 unfold Q1z
 refine Par.bind (W75 code hb).par (fun r hr=>?_)
 refine Par.bind ((W5x (hr.le (by omega))).par.both (W5y r)) (fun a ha=>?_)
 obtain ⟨⟨h1,h2,h3,h4,h5⟩,h6⟩:=ha
 exact Par.bind (W3m a.2.2.2.2 a.2.2.1 fun c hc=>⟨h3 c hc,h6 c hc⟩) (fun b hb=>Par.any fun c=>Par.any fun d=>.some hb)
theorem W4t {w:List Q3}(hww:w∈Q0r){t:Q2}(ht:t∈tys w){cs:List Q5}(hok:(Z67 w t cs).2=true){v:Q4}{r s:Int×List Y3×Int}(hr:Z8y w t cs v r)(hs:Z8y w t (Z67 w t cs).1 v s)(h1:¬r.2.2<0)(h2:¬s.2.2<0):r.2.1=s.2.1:=by
 obtain ⟨c1,v1,_,r2⟩:=Z8x hr h1
 obtain ⟨c2,v2,_,s2⟩:=Z8x hs h2
 have hok':(redD w t cs).2=true:=by
  unfold Z67 at hok
  split at hok
  ·assumption
  ·cases hok
 obtain ⟨hcl,hall,hiff⟩:=Z5e hok'
 have hdrop:(Z67 w t cs).1=Q7a (fun i=>nilR (Q1i w t cs i)) 0 cs:=by unfold Z67;rw [if_pos hok']
 rw [r2,s2,hdrop]
 have hk:=W1h (v:=v) (p:=fun i=>nilR (Q1i w t cs i)) cs 0 fun x hx=>by
  cases hn:nilR (Q1i w t cs x.1) with
  | false=>rfl
  | true=>
   obtain ⟨i,c,b,q1,q2,_⟩:=Z0g hx
   have hlt:=(List.getElem?_eq_some_iff.1 q1).1
   exact absurd hx (W6t hww ht ((hiff x.1).2 ⟨by omega,hn⟩) (Z40 v1))
 cases hrr:runD v 0 cs with
 | none=>
  rw [hrr] at hk
  rw [hk 0]
 | some x=>
  rw [hrr] at hk
  obtain ⟨i,k1,_⟩:=hk.2 0
  rw [k1]
  rfl
theorem Z5s (code:List Int)(hb:∀ x∈code,0≤x∧x≤255):Q1g NN code=some true:=by
 suffices hr:Ret (Q1g NN code) (fun r=>r=true) by
  obtain ⟨_,e,rfl⟩:=hr
  exact e
 unfold Q1g
 refine Ret.ite (fun _=>.some rfl) (fun _=>?_)
 refine Ret.bind ((W4u code hb).both (W4v code hb)) (fun a ha=>?_)
 obtain ⟨w,t,cs,pick,v⟩:=a
 obtain ⟨⟨hww,ht⟩,hf⟩:=ha
 simp only at hww ht hf ⊢
 rw [X9e hww ht,X8t hww ht hf]
 simp only [U0,beq_self_eq_true,Bool.not_true,U2,if_false,if_true]
 have hdeep:∀ c∈(Z67 w t cs).1,X1z 10 c.pat:=fun c hc=>by
  unfold Z67 at hc
  split at hc
  ·rename_i hok
   obtain ⟨hcl,_,_⟩:=Z5e hok
   exact W2v (Z30 hcl).2 c (Z5u hc)
  ·cases hc
 rw [Z8g hdeep]
 simp only [U0,Bool.not_true,U2,if_false]
 refine Ret.ite (fun _=>.some rfl) (fun hok=>?_)
 rw [Bool.not_eq_false'] at hok
 obtain ⟨r,e1,_,hr⟩:=W2i hww ht cs 0 v
 obtain ⟨s,e2,_,hs⟩:=W2i hww ht (Z67 w t cs).1 0 v
 rw [e1,e2]
 simp only [U0]
 refine Ret.ite (fun _=>.some rfl) (fun h1=>?_)
 refine Ret.ite (fun _=>.some rfl) (fun h2=>?_)
 rw [X7] at h1 h2
 rw [W4t hww ht hok hr hs (by omega) (by omega),X6e (W2z hww ht hs)]
 exact .some rfl
end Go.Proofs.YtbdkbdafhlcilaaGreat
