import Derived.Test.YtfhpjeogjcfkaaaGreatBJMa0
import Derived.Test.YtfhpjeogjcfkaaaGreatBJP1
set_option linter.unusedSimpArgs false
set_option linter.unusedVariables false
namespace Go.Proofs.YtfhpjeogjcfkaaaGreat
open Go Go.RowKit
theorem V4c {w:List Q4}(hw:WW w):∀ (d n:Nat) (t:Q7) (p:Q0) (v:Q2) (e:Nat),t∈tys w→Q0e w d t p=true→Q3u w e t v→d+2≤n→cntP p≤1000→
  Ret (Q4b n p v) (fun r=>r.1.length≤cntP p∧r.2=(Z6 d p v).isSome∧∀ l,Z6 d p v=some l→r.1=l):=by
 intro d
 induction d with
 | zero=>intro n t p v e ht h;cases h
 | succ d ih=>
  intro n t p v e ht hg hv hn hc
  obtain ⟨n,rfl⟩:∃ k,n=k+1:=⟨n-1,by omega⟩
  obtain ⟨ho,hl⟩:=Q0l (Q00 hg)
  have hT:=hw.ty t ht
  have hpos:=X63 p
  unfold Q4b
  refine Ret.ite (fun h=>?_) (fun h1=>?_)
  ·rw [Q9] at h
   exact .some ⟨by simp,by simp [Z6,h],fun l hl=>by simp [Z6,h] at hl;exact hl.symm⟩
  rw [X2] at h1
  refine Ret.ite (fun h=>?_) (fun h2=>?_)
  ·rw [Q9] at h
   exact .some ⟨by simp;omega,by simp [Z6,h],fun l hl=>by simp [Z6,h] at hl;exact hl⟩
  rw [X2] at h2
  refine Ret.ite (fun h=>?_) (fun h3=>?_)
  ·rw [Q9] at h
   rw [Q8a]
   refine .some ⟨by simp,?_,fun l hl=>?_⟩
   ·by_cases hr:p.n≤v.n∧v.n≤p.m
    ·simp [Z6,h,hr]
    ·simp only [Z6,h]
     simp [hr]
     simpa using hr
   ·simp only [Z6,h] at hl
    simp at hl
    exact hl.2.symm
  rw [X2] at h3
  refine Ret.ite (fun h=>?_) (fun h5=>?_)
  ·rw [Q9] at h
   obtain ⟨a,b,hkids,hk⟩:=kid0 h hl
   have ca:=Z3z (p:=p) (k:=0) (by rw [hkids];rfl)
   have cb:=Z3z (p:=p) (k:=1) (by rw [hkids];rfl)
   have ga:=Y0 hg (k:=0) (by rw [hk];rfl) (by rw [hkids];rfl)
   have gb:=Y0 hg (k:=1) (by rw [hk];rfl) (by rw [hkids];rfl)
   have i0:idx [a,b] 0=some a:=rfl
   have i1:idx [a,b] 1=some b:=rfl
   rw [hkids,i0,i1]
   simp only [U0]
   have hm:Z6 (d+1) p v=(match Z6 d a v with | some l=>some l | none=>Z6 d b v):=by
    simp [Z6,h,hkids]<;>rfl
   rw [hm]
   refine Ret.bind (ih n t a v e ht ga hv (by omega) (by omega)) (fun r hr=>?_)
   obtain ⟨r0,r1,r2⟩:=hr
   rw [r1]
   cases hma:Z6 d a v with
   | some l=>exact .some ⟨by simp only;omega,rfl,fun l' hl'=>by cases hl';exact r2 l hma⟩
   | none=>
    simp only [Option.isSome_none,U2,if_false]
    refine Ret.bind (ih n t b v e ht gb hv (by omega) (by omega)) (fun s hs=>?_)
    obtain ⟨s0,s1,s2⟩:=hs
    exact .some ⟨by simp only;omega,s1,fun l' hl'=>s2 l' hl'⟩
  rw [X2] at h5
  refine Ret.ite (fun h=>?_) (fun h6=>?_)
  ·rw [Q9] at h
   obtain ⟨a,hkids,hk⟩:=X10 h hl
   have ca:=Z3z (p:=p) (k:=0) (by rw [hkids];rfl)
   have ga:=Y0 hg (k:=0) (by rw [hk];rfl) (by rw [hkids];rfl)
   have i0:idx [a] 0=some a:=rfl
   rw [hkids,i0]
   simp only [U0]
   have hm:Z6 (d+1) p v=(Z6 d a v).map (fun l=>⟨p.var,v⟩::l):=by
    simp [Z6,h,hkids]
   rw [hm]
   refine Ret.bind (ih n t a v e ht ga hv (by omega) (by omega)) (fun r hr=>?_)
   obtain ⟨r0,r1,r2⟩:=hr
   rw [X6 (by simp [Q5];omega)]
   refine .some ⟨by simp;omega,by rw [r1];simp,fun l' hl'=>?_⟩
   simp only [U11] at hl'
   obtain ⟨l,e1,rfl⟩:=hl'
   rw [r2 l e1]
   rfl
  rw [X2] at h6
  have h4:p.op=4:=by
   simp [Z4n,h1,h2,h3,h5,h6] at ho
   exact ho.2.1
  have hcm:=Z00 ho h4
  have hm:Z6 (d+1) p v=if p.ctor=v.ctor then W8 (Z6 d) p.kids v.kids else none:=by
   simp [Z6,h4]
  rw [hm]
  refine Ret.ite (fun h=>?_) (fun h=>?_)
  ·rw [Bool.not_eq_true',X2] at h
   rw [if_neg h]
   exact .some ⟨by simp,rfl,fun l hl=>by cases hl⟩
  ·rw [Bool.not_eq_false',Q9] at h
   rw [if_pos h]
   have hkt:V5 w t p=Q09 w t p.ctor:=by simp [V5,h4]
   obtain ⟨e,rfl⟩:∃ e',e=e'+1:=by cases e with
    | zero=>exact hv.elim
    | succ e=>exact ⟨e,rfl⟩
   have hdata:t.data≠-1:=fun hd=>by
    obtain ⟨rfl,_⟩:=hT.ti hd
    have:W9 w tI=[]:=rfl
    rw [this] at hcm
    cases hcm
   simp only [Q3u,if_neg hdata] at hv
   obtain ⟨v1,v2,v3,v4⟩:=hv
   rw [←h] at v3 v4
   have hlen:p.kids.length=v.kids.length:=by rw [v3,hl,hkt]
   refine Ret.ctl (Z5 p.kids (fun k s=>W8 (Z6 d) p.kids v.kids=(W8 (Z6 d) (p.kids.drop k) (v.kids.drop k)).map (fun l=>s++l)∧s.length≤cntP.cntPs (p.kids.take k)) (fun r=>r=([],false)∧W8 (Z6 d) p.kids v.kids=none)
    (fun s=>W8 (Z6 d) p.kids v.kids=some s∧s.length≤cntP.cntPs p.kids) ⟨by simp,by simp⟩ (fun k q s hq hI=>?_) (fun s hI=>?_)) (fun r hr=>?_) (fun s hs=>?_)
   ·obtain ⟨i1,i2⟩:=hI
    have hlt:=(List.getElem?_eq_some_iff.1 hq).1
    have hx:v.kids[k]?=some (v.kids[k]'(by omega)):=by simp
    have ha:(V5 w t p)[k]?=some ((V5 w t p)[k]'(by omega)):=by simp
    rw [Q0f hx]
    simp only [U0]
    have cq:=Z3z hq
    have hcd:=Z0e p.kids k q hq
    have hct:=Q5l p.kids (k+1)
    have hcp:=Q7x p
    refine Ret.bind (ih n _ q _ e (Q8p hT ht ho _ (U1 ha)) (Y0 hg ha hq) (v4 k _ _ (by rw [←hkt];exact ha) hx) (by omega) (by omega)) (fun r hr=>?_)
    obtain ⟨r0,r1,r2⟩:=hr
    have hd1:p.kids.drop k=q::p.kids.drop (k+1):=by
     rw [List.drop_eq_getElem_cons hlt]
     rw [U9 hlt] at hq
     cases hq
     rfl
    have hd2:v.kids.drop k=v.kids[k]'(by omega)::v.kids.drop (k+1):=List.drop_eq_getElem_cons (by omega)
    rw [hd1,hd2] at i1
    simp only [W8] at i1
    cases hmq:Z6 d q (v.kids[k]'(by omega)) with
    | none=>
     rw [hmq] at i1 r1
     rw [r1]
     exact .some ⟨rfl,i1⟩
    | some l=>
     rw [hmq] at i1 r1
     have e1:=r2 l hmq
     rw [r1]
     simp only [Option.isSome_some,Bool.not_true,U2,if_false]
     rw [X6 (by simp only [Q5];omega),e1]
     refine .some ⟨?_,by rw [U5,←e1];omega⟩
     rw [i1]
     cases W8 (Z6 d) (p.kids.drop (k+1)) (v.kids.drop (k+1)) with
     | none=>rfl
     | some m=>simp
   ·obtain ⟨i1,i2⟩:=hI
    rw [List.take_length] at i2
    refine ⟨?_,i2⟩
    rw [i1,List.drop_length]
    simp [W8]
   ·obtain ⟨rfl,hr⟩:=hr
    exact .some ⟨by simp,by rw [hr];rfl,fun l hl=>by rw [hr] at hl;cases hl⟩
   ·have hcp:=Q7x p
    exact .some ⟨by simp only;omega,by rw [hs.1];rfl,fun l hl=>by rw [hs.1] at hl;cases hl;rfl⟩
theorem W1y (a:List Q2)(f:Q2→Q2→Option Bool)(hf:∀ x∈a,f x x=some true):Q0v a a f=some true:=by
 have hr:Ret (Q0v a a f) (fun r=>r=true):=by
  unfold Q0v
  rw [if_neg (by simp [ieq])]
  refine Ret.ctl (Z5 a (fun _ _=>True) (fun _=>False) (fun _=>True) trivial (fun k x s hx _=>?_) (fun _ _=>trivial)) (fun r hr=>hr.elim) (fun s _=>.some rfl)
  rw [Q0f hx]
  simp only [U0]
  rw [hf x (U1 hx)]
  exact .some trivial
 obtain ⟨_,e,rfl⟩:=hr
 exact e
theorem X2n:∀ (d n:Nat) (v:Q2),Z1m d v→d≤n→Q42 n v v=some true:=by
 intro d
 induction d with
 | zero=>intro n v h;exact h.elim
 | succ d ih=>
  intro n v h hn
  obtain ⟨n,rfl⟩:∃ k,n=k+1:=⟨n-1,by omega⟩
  unfold Q42
  rw [if_pos (by simp [ieq]),if_pos (by simp [ieq]),W1y _ _ fun x hx=>ih n x (h.2 x hx) (by omega)]
  rfl
def DB (l:List X3):Prop:=∀ b∈l,Z1m 10 b.value
theorem Z8o {l:List X3}(h:DB l):Q13 NN l l=some true:=by
 have hr:Ret (Q13 NN l l) (fun r=>r=true):=by
  unfold Q13
  rw [if_neg (by simp [ieq])]
  refine Ret.ctl (Z5 l (fun _ _=>True) (fun _=>False) (fun _=>True) trivial (fun k x s hx _=>?_) (fun _ _=>trivial)) (fun r hr=>hr.elim) (fun s _=>.some rfl)
  rw [Q0f hx]
  simp only [U0]
  rw [if_neg (by simp [ieq]),X2n 10 NN x.value (h x (U1 hx)) (by decide)]
  exact .some trivial
 obtain ⟨_,e,rfl⟩:=hr
 exact e
theorem X3v:∀ (d:Nat) (p:Q0) (e:Nat) (v:Q2) (l:List X3),Z1m e v→Z6 d p v=some l→∀ b∈l,∃ e',e'≤e∧Z1m e' b.value:=by
 intro d
 induction d with
 | zero=>intro p e v l _ h;cases h
 | succ d ih=>
  intro p e v l hv hm b hb
  rw [Z6] at hm
  split at hm
  ·cases hm;cases hb
  split at hm
  ·cases hm
   simp only [U8,List.not_mem_nil,or_false] at hb
   subst hb
   exact ⟨e,Nat.le_refl _,hv⟩
  split at hm
  ·split at hm
   ·cases hm;cases hb
   ·cases hm
  split at hm
  ·split at hm
   ·split at hm
    ·rename_i l' hl'
     cases hm
     exact ih _ e v _ hv hl' b hb
    ·exact ih _ e v _ hv hm b hb
   ·cases hm
  split at hm
  ·split at hm
   ·rename_i a _
    cases ha:Z6 d a v with
    | none=>rw [ha] at hm;cases hm
    | some l'=>
     rw [ha] at hm
     cases hm
     rcases U8.1 hb with h | h
     ·subst h
      exact ⟨e,Nat.le_refl _,hv⟩
     ·exact ih _ e v _ hv ha b h
   ·cases hm
  split at hm
  ·cases e with
   | zero=>exact hv.elim
   | succ e=>
    have hk:=hv.2
    have gen:∀ (ps:List Q0) (vs:List Q2) (l:List X3),(∀ x∈vs,Z1m e x)→W8 (Z6 d) ps vs=some l→∀ b∈l,∃ e',e'≤e∧Z1m e' b.value:=by
     intro ps
     induction ps with
     | nil=>intro vs l _ h b hb;simp only [W8] at h;cases h;cases hb
     | cons q ps ihp=>
      intro vs l hvs h b hb
      cases vs with
      | nil=>cases h
      | cons u vs=>
       simp only [W8] at h
       cases hq:Z6 d q u with
       | none=>rw [hq] at h;cases h
       | some l1=>
        rw [hq] at h
        simp only at h
        cases hps:W8 (Z6 d) ps vs with
        | none=>rw [hps] at h;cases h
        | some l2=>
         rw [hps] at h
         cases h
         rcases List.mem_append.1 hb with hb | hb
         ·exact ih q e u l1 (hvs u (by simp)) hq b hb
         ·exact ihp vs l2 (fun x hx=>hvs x (by simp [hx])) hps b hb
    obtain ⟨e',h1,h2⟩:=gen _ _ _ hk hm b hb
    exact ⟨e',by omega,h2⟩
  ·cases hm
theorem V3c {w:List Q4}{t:Q7}{p:Q0}{d:Nat}(g:Q0e w d t p=true)(l:linD w d t p=true):(Q1n w d t p).length≤6:=by
 have h1:=Q3b d t p g l
 simp only [Q1i,decide_eq_true_eq] at h1
 have:=Z2c 6 _ h1 (fun x hx=>by
  obtain ⟨y,hy,rfl⟩:=U10.1 hx
  have:=Z07 d t p g y hy
  omega)
 simpa using this
theorem W22 (a b:Int):Q18 a b=some (if a<b then -1 else if b<a then 1 else 0):=by
 unfold Q18 Q54
 have e1:(!ieq a a)=false:=by simp [ieq]
 have e2:(!ieq b b)=false:=by simp [ieq]
 simp only [U0,e1,e2,U2,if_false]
 by_cases h:a<b
 ·have e:ilt a b=true:=by rw [Z9];exact h
  simp only [e,if_true,if_pos h]
 ·have e:ilt a b=false:=by rw [W6];omega
  simp only [e,U2,if_false,if_neg h]
  by_cases h2:b<a
  ·have e:ilt b a=true:=by rw [Z9];exact h2
   simp only [e,if_true,if_pos h2]
  ·have e:ilt b a=false:=by rw [W6];omega
   simp only [e,U2,if_false,if_neg h2]
theorem W0o (a b:X3):Q26 a b=some (if a.var<b.var then -1 else if b.var<a.var then 1 else 0):=by
 unfold Q26
 rw [W22]
 rfl
def OrdV (l:List X3)(i j:Nat):Prop:=∀ a b x y,a<b→b≤i→b≠j→l[a]?=some x→l[b]?=some y→x.var≤y.var
theorem W50 {n:Nat}(hn:30≤n)(l:List X3)(hl:l.length≤12) :
  Ret (J9 n l 0 (lenZ l.length) (fun a b=>Q26 a b)) (fun r=>r.Perm l∧r.Pairwise (fun x y=>x.var≤y.var)):=by
 unfold J9
 have z1:wadd .i64 0 1=1:=rfl
 rw [z1]
 refine Ret.ctl (Q0y (fun s:List X3×Int=>s.1.Perm l∧1≤s.2∧s.2≤13∧∀ a b x y,a<b→b<s.2.toNat→s.1[a]?=some x→s.1[b]?=some y→x.var≤y.var) (fun s=>(14-s.2).toNat) (fun _=>False) (fun s=>s.1.Perm l∧s.1.Pairwise (fun x y=>x.var≤y.var)) ⟨.rfl,by simp,by simp,fun a b x y h1 h2=>by simp at h2;omega⟩ (fun s hI=>?_) n (by simp;omega)) (fun r hr=>hr.elim) (fun s hs=>.some hs)
 obtain ⟨i1,i3,i4,i5⟩:=hI
 refine Ret.ite (fun hlt=>?_) (fun hge=>?_)
 ·rw [Z9] at hlt
  simp only [lenZ] at hlt
  refine Ret.ctl (Q0y (fun u:List X3×Int=>u.1.Perm l∧0≤u.2∧u.2≤s.2∧OrdV u.1 s.2.toNat u.2.toNat) (fun u=>u.2.toNat) (fun _=>False) (fun u=>u.1.Perm l∧∀ a b x y,a<b→b≤s.2.toNat→u.1[a]?=some x→u.1[b]?=some y→x.var≤y.var) ⟨i1,by omega,Int.le_refl _,fun a b x y h1 h2 h3=>i5 a b x y h1 (by omega)⟩ (fun u hJ=>?_) n (by omega)) (fun r hr=>hr.elim) (fun u hu=>?_)
  ·obtain ⟨j1,j3,j4,j5⟩:=hJ
   have hlen:=j1.length_eq
   refine Ret.ite (fun hp=>?_) (fun hp=>?_)
   ·rw [Z9] at hp
    have hs:wsub .i64 u.2 1=u.2-1:=Q3h (by omega) (by omega)
    rw [hs]
    have ex:idx u.1 u.2=some (u.1[u.2.toNat]'(by omega)):=Z2p j3 (U9 (by omega))
    have ey:idx u.1 (u.2-1)=some (u.1[(u.2-1).toNat]'(by omega)):=Z2p (by omega) (U9 (by omega))
    have gx:u.1[u.2.toNat]?=some (u.1[u.2.toNat]'(by omega)):=U9 (by omega)
    have gy:u.1[u.2.toNat-1]?=some (u.1[(u.2-1).toNat]'(by omega)):=by
     rw [show u.2.toNat-1=(u.2-1).toNat by omega]
     exact U9 (by omega)
    have hperm:=(List.set_set_perm (as:=u.1) (i:=u.2.toNat) (j:=(u.2-1).toNat) (by omega) (by omega)).trans j1
    generalize u.1[u.2.toNat]'(by omega)=x at *
    generalize u.1[(u.2-1).toNat]'(by omega)=y at *
    rw [ex,ey]
    simp only [U0]
    rw [W0o]
    simp only [U0]
    by_cases hxy:x.var<y.var
    ·rw [if_pos hxy]
     have e:ilt (-1) 0=true:=rfl
     simp only [e,if_true]
     rw [Z7f j3 (by omega)]
     simp only [U0]
     obtain ⟨z,ez,_⟩:=Q55 (xs:=u.1.set u.2.toNat y) (i:=u.2-1) (by omega) (by simp;omega)
     rw [ez]
     simp only [U0]
     rw [Z7f (by omega) (by simp;omega)]
     refine .some ⟨⟨hperm,by simp;omega,by simp;omega,?_⟩,by simp;omega⟩
     simp only
     have hget:∀ (m:Nat) (v:X3),((u.1.set u.2.toNat y).set (u.2-1).toNat x)[m]?=some v→(m=u.2.toNat-1∧v=x)∨(m=u.2.toNat∧v=y)∨(m≠u.2.toNat-1∧m≠u.2.toNat∧u.1[m]?=some v):=fun m v hv=>by
      rw [List.getElem?_set] at hv
      split at hv
      ·split at hv
       ·cases hv;exact .inl ⟨by omega,rfl⟩
       ·cases hv
      ·rw [List.getElem?_set] at hv
       split at hv
       ·split at hv
        ·cases hv;exact .inr (.inl ⟨by omega,rfl⟩)
        ·cases hv
       ·exact .inr (.inr ⟨by omega,by omega,hv⟩)
     intro a b p q hab hbi hbj hp' hq'
     rcases hget a p hp' with ⟨ha,rfl⟩ | ⟨ha,rfl⟩ | ⟨ha,ha',hpa⟩
     ·rcases hget b q hq' with ⟨hb,rfl⟩ | ⟨hb,rfl⟩ | ⟨hb,hb',hqb⟩
      ·omega
      ·omega
      ·exact j5 u.2.toNat b _ _ (by omega) hbi hb' gx hqb
     ·rcases hget b q hq' with ⟨hb,rfl⟩ | ⟨hb,rfl⟩ | ⟨hb,hb',hqb⟩
      ·omega
      ·omega
      ·exact j5 (u.2.toNat-1) b _ _ (by omega) hbi hb' gy hqb
     ·rcases hget b q hq' with ⟨hb,rfl⟩ | ⟨hb,rfl⟩ | ⟨hb,hb',hqb⟩
      ·exact absurd hb (by omega)
      ·exact j5 a (u.2.toNat-1) _ _ (by omega) (by omega) (by omega) hpa gy
      ·exact j5 a b _ _ hab hbi hb' hpa hqb
    ·rw [if_neg hxy]
     have e:ilt (if y.var<x.var then 1 else 0) 0=false:=by split<;>rfl
     simp only [e,U2,if_false]
     refine .some ⟨j1,fun a b p q hab hbi hp' hq'=>?_⟩
     by_cases hbj:b=u.2.toNat
     ·subst hbj
      rw [gx] at hq'
      cases hq'
      by_cases haj:a=u.2.toNat-1
      ·subst haj
       rw [gy] at hp'
       cases hp'
       omega
      ·have:=j5 a (u.2.toNat-1) p y (by omega) (by omega) (by omega) hp' gy
       omega
     ·exact j5 a b p q hab hbi hbj hp' hq'
   ·rw [W6] at hp
    refine .some ⟨j1,fun a b p q hab hbi hp' hq'=>j5 a b p q hab hbi (by omega) hp' hq'⟩
  ·obtain ⟨u1,u2⟩:=hu
   have hw:wadd .i64 s.2 1=s.2+1:=V9 (by omega) (by omega)
   refine .some ⟨⟨u1,by simp only [hw];omega,by simp only [hw];omega,fun a b x y h1 h2=>u2 a b x y h1 (by simp only [hw] at h2;omega)⟩,by simp only [hw];omega⟩
 ·rw [W6] at hge
  simp only [lenZ] at hge
  refine .some ⟨i1,?_⟩
  rw [List.pairwise_iff_getElem]
  intro a b ha hb hab
  have hlen:=i1.length_eq
  have hb':b<s.1.length:=hb
  exact i5 a b _ _ hab (by omega) (U9 ha) (U9 hb)
theorem V3u {n:Nat}(hn:40≤n){l:List X3}(hl:l.length≤12)(hd:(l.map (·.var)).Nodup)(hv:∀ b∈l,0≤b.var∧b.var≤5) :
  Q1d n l (fun a b=>Q26 a b)=some (Q95 l):=by
 suffices hs:Ret (Q1d n l (fun a b=>Q26 a b)) (fun r=>r=Q95 l) by
  obtain ⟨a,e,rfl⟩:=hs
  exact e
 unfold Q1d
 obtain ⟨b,hb⟩:=Option.isSome_iff_exists.1 (List.all_eq_true.1 V7e l.length (List.mem_range.2 (by omega)))
 rw [hb]
 simp only [U0]
 have fin:∀ r:List X3,r.Perm l→r.Pairwise (fun x y=>x.var≤y.var)→r=Q95 l:=fun r h1 h2=>
  Z28 r (Q95 l) (X3n h2 ((h1.map _).nodup_iff.2 hd)) (Q9k hd) (h1.trans (Q4s hv).symm)
 obtain ⟨n,rfl⟩:∃ k,n=k+1:=⟨n-1,by omega⟩
 refine Ret.bind (P:=fun r=>r.Perm l∧r.Pairwise (fun x y=>x.var≤y.var)) ?_ (fun r hr=>?_)
 ·unfold Q1r
  refine Ret.ctl (Q0y (fun _=>True) (fun _=>0) (fun r:List X3=>r.Perm l∧r.Pairwise (fun x y=>x.var≤y.var)) (fun _=>False) trivial (fun s _=>?_) n (by omega)) (fun r hr=>.some hr) (fun s hs=>hs.elim)
  have h0:wsub .i64 (lenZ l.length) 0=lenZ l.length:=by rw [Q3h]<;>simp only [lenZ]<;>omega
  rw [if_pos (by rw [J6,h0];simp only [lenZ];omega)]
  refine Ret.bind (W50 (by omega) l hl) (fun r hr=>?_)
  rw [Z53 (by simp [hr.1.length_eq])]
  exact .some hr
 ·rw [Z53 (by simp [hr.1.length_eq])]
  exact .some (fin r hr.1 hr.2)
theorem W2r:∀ {a b:List Int},a.Nodup→(∀ x∈a,x∈b)→a.length=b.length→a.Perm b
 | [],b,_,_,h=>by have:b=[]:=List.eq_nil_of_length_eq_zero (by simpa using h.symm);rw [this]
 | x::a,b,hn,hs,h=>by
  have hx:=hs x (by simp)
  have hn':=List.nodup_cons.1 hn
  have hl:=List.length_erase_of_mem hx
  refine (List.Perm.cons x (W2r hn'.2 (fun y hy=>?_) (by simp at h;omega))).trans (List.perm_cons_erase hx).symm
  have hne:y≠x:=fun e=>hn'.1 (e▸hy)
  exact (List.mem_erase_of_ne hne).2 (hs y (by simp [hy]))
theorem W0k {a b:List Z4}(ha:Q1i a=true)(h:Z0z a b=true):(a.map (·.var)).Perm (b.map (·.var)):=by
 simp only [Z0z,Bool.and_eq_true,decide_eq_true_eq,List.all_eq_true] at h
 have hn:(a.map (·.var)).Nodup:=by simpa [Q1i] using ha
 refine W2r hn (fun x hx=>?_) (by simp [h.1])
 obtain ⟨v,hv,rfl⟩:=U10.1 hx
 exact U10.2 ⟨v,h.2 v hv,rfl⟩
theorem W4x {w:List Q4} : ∀ (d:Nat) (t:Q7) (p:Q0),Q0e w d t p=true→linD w d t p=true→∀ v l,Z6 d p v=some l→(l.map (·.var)).Perm ((Q1n w d t p).map (·.var)):=by
 intro d
 induction d with
 | zero=>intro t p h;cases h
 | succ d ih=>
  intro t p hg hlin v l hm
  obtain ⟨ho,hl⟩:=Q0l (Q00 hg)
  simp only [linD,Bool.and_eq_true,List.all_eq_true] at hlin
  rw [Q1n]
  rw [Z6] at hm
  have hnil:p.op≠4→p.op≠5→p.op≠6→V5 w t p=[]:=fun h4 h5 h6=>by simp [V5,h4,h5,h6]
  by_cases h1:p.op=1
  ·rw [if_pos h1] at hm;cases hm
   simp [ownV,h1,hnil]
  rw [if_neg h1] at hm
  by_cases h2:p.op=2
  ·rw [if_pos h2] at hm;cases hm
   simp [ownV,h2,hnil]
  rw [if_neg h2] at hm
  by_cases h3:p.op=3
  ·rw [if_pos h3] at hm
   split at hm
   ·cases hm
    simp [ownV,h3,hnil]
   ·cases hm
  rw [if_neg h3] at hm
  by_cases h5:p.op=5
  ·rw [if_pos h5] at hm
   obtain ⟨a,b,hkids,hkt⟩:=kid0 h5 hl
   have ga:=Y0 hg (k:=0) (by rw [hkt];rfl) (by rw [hkids];rfl)
   have gb:=Y0 hg (k:=1) (by rw [hkt];rfl) (by rw [hkids];rfl)
   have g0:=hlin.1 (t,a) (by rw [hkids,hkt];simp)
   have g1:=hlin.1 (t,b) (by rw [hkids,hkt];simp)
   have hal:=hlin.2
   rw [if_pos h5] at hal
   have k0:kv w d t p 0=Q1n w d t a:=by simp [kv,hkids,hkt]
   have k1:kv w d t p 1=Q1n w d t b:=by simp [kv,hkids,hkt]
   rw [k0,k1] at hal
   have hv:ownV t p=[]:=by simp [ownV,h5]
   rw [hv,hkids,hkt,if_pos h5]
   simp only [List.zip_cons_cons,List.zip_nil_right,List.take_succ_cons,List.take_zero,List.flatMap_cons,List.flatMap_nil,List.append_nil,List.nil_append]
   rw [hkids] at hm
   simp only at hm
   split at hm
   ·rename_i l' hl'
    cases hm
    exact ih t a ga g0 v _ hl'
   ·exact (ih t b gb g1 v _ hm).trans (W0k (Q3b d t a ga g0) hal).symm
  rw [if_neg h5] at hm
  rw [if_neg h5,List.take_of_length_le (by rw [List.length_zip];omega)]
  by_cases h6:p.op=6
  ·rw [if_pos h6] at hm
   obtain ⟨a,hkids,hk2⟩:=X10 h6 hl
   have ga:=Y0 hg (k:=0) (by rw [hk2];rfl) (by rw [hkids];rfl)
   have g0:=hlin.1 (t,a) (by rw [hkids,hk2];simp)
   rw [hkids] at hm
   simp only at hm
   cases ha:Z6 d a v with
   | none=>rw [ha] at hm;cases hm
   | some l'=>
    rw [ha] at hm
    cases hm
    have:=ih t a ga g0 v l' ha
    rw [hkids,hk2]
    simpa [ownV,h6] using this
  rw [if_neg h6] at hm
  have hv:ownV t p=[]:=by simp [ownV,h2,h6]
  rw [hv,List.nil_append]
  split at hm
  ·have gen:∀ (ts:List Q7) (ps:List Q0) (vs:List Q2) (l:List X3),ts.length=ps.length→(∀ x∈ts.zip ps,∀ v l,Z6 d x.2 v=some l→(l.map (·.var)).Perm ((Q1n w d x.1 x.2).map (·.var)))→W8 (Z6 d) ps vs=some l→(l.map (·.var)).Perm (((ts.zip ps).flatMap fun x=>Q1n w d x.1 x.2).map (·.var)):=by
    intro ts ps
    induction ps generalizing ts with
    | nil=>intro vs l _ _ h;simp only [W8] at h;cases h;simp
    | cons q ps ihp=>
     intro vs l hl hx h
     cases ts with
     | nil=>simp at hl
     | cons a ts=>
      cases vs with
      | nil=>cases h
      | cons u vs=>
       simp only [W8] at h
       cases hq:Z6 d q u with
       | none=>rw [hq] at h;cases h
       | some l1=>
        rw [hq] at h
        simp only at h
        cases hps:W8 (Z6 d) ps vs with
        | none=>rw [hps] at h;cases h
        | some l2=>
         rw [hps] at h
         cases h
         have e1:=hx (a,q) (by simp) u l1 hq
         have e2:=ihp ts vs l2 (by simpa using hl) (fun x hxx=>hx x (by simp [hxx])) hps
         simp only [List.zip_cons_cons,List.flatMap_cons,List.map_append]
         exact e1.append e2
   refine gen _ _ _ _ hl.symm (fun x hx v l h=>?_) hm
   obtain ⟨j,hj⟩:=List.mem_iff_getElem?.1 hx
   obtain ⟨e1,e2⟩:=List.getElem?_zip_eq_some.1 hj
   exact ih _ _ (Y0 hg e1 e2) (hlin.1 x hx) v l h
  ·cases hm
theorem Z5f {w:List Q4}{d:Nat}{t:Q7}{p:Q0}(g:Q0e w d t p=true)(l:linD w d t p=true){v:Q2}{r:List X3}(h:Z6 d p v=some r):X6h r:=by
 have hp:=W4x d t p g l v r h
 have hd:=Q3b d t p g l
 simp only [Q1i,decide_eq_true_eq] at hd
 refine ⟨hp.nodup_iff.2 hd,fun b hb=>?_,?_⟩
 ·obtain ⟨y,hy,e⟩:=U10.1 (hp.mem_iff.1 (List.mem_map_of_mem hb))
  have:=Z07 d t p g y hy
  omega
 ·have h1:=hp.length_eq
  have h2:=V3c g l
  simp only [U7] at h1
  omega
theorem V8d {l:List X3}(hn:(l.map (·.var)).Nodup){x y:X3}(hx:x∈l)(hy:y∈l)(h:x.var=y.var):x=y:=by
 induction l with
 | nil=>cases hx
 | cons a l ih=>
  simp only [List.map_cons,List.nodup_cons,U10,not_exists,not_and] at hn
  rcases U8.1 hx with h1 | h1
  ·rcases U8.1 hy with h2 | h2
   ·rw [h1,h2]
   ·exact absurd (by rw [←h1];exact h.symm) (hn.1 y h2)
  ·rcases U8.1 hy with h2 | h2
   ·exact absurd (by rw [←h2];exact h) (hn.1 x h1)
   ·exact ih hn.2 h1 h2
theorem V61 {l:List X3}(hn:(l.map (·.var)).Nodup){x:X3}{v:Int}(hx:x∈l)(h:x.var=v):l.find? (fun b=>decide (b.var=v))=some x:=by
 cases hf:l.find? (fun b=>decide (b.var=v)) with
 | none=>
  have:=List.find?_eq_none.1 hf x hx
  simp [h] at this
 | some y=>
  have h1:=List.find?_some hf
  have h2:=List.mem_of_find?_eq_some hf
  simp only [decide_eq_true_eq] at h1
  rw [V8d hn h2 hx (by omega)]
theorem Z8p (g:Q27){l:List X3}(hn:(l.map (·.var)).Nodup):J2 g l=some (J8 g l):=by
 suffices hs:Ret (J2 g l) (fun r=>r=J8 g l) by
  obtain ⟨a,e,rfl⟩:=hs
  exact e
 unfold J2
 refine Ret.ite (fun h0=>.some ?_) (fun h0=>?_)
 ·rw [Q9] at h0
  simp [J8,h0]
 rw [X2] at h0
 refine Ret.bind (Z4b l (fun a0=>Q2d a0 g) (fun b=>ieq b.var g.var) (fun _ _=>rfl)) (fun i hi=>?_)
 rcases hi with ⟨k,x,rfl,hx,hxv⟩ | ⟨rfl,hall⟩
 ·rw [if_neg (by rw [Z9];omega),Q0f hx]
  simp only [U0]
  rw [Q9] at hxv
  have hG:J8 g l=(ieq x.value.ctor (-1)&&((ieq g.op 1&&ilt x.value.n g.n)||(ieq g.op 2&&ieq x.value.n g.n))):=by
   unfold J8
   rw [V61 hn (U1 hx) hxv,decide_eq_false h0]
   rfl
  rw [hG]
  generalize ieq x.value.ctor (-1)=b1
  generalize ieq g.op 1=b2
  generalize ilt x.value.n g.n=b3
  generalize ieq g.op 2=b4
  generalize ieq x.value.n g.n=b5
  cases b1<;>cases b2<;>cases b3<;>cases b4<;>cases b5<;>exact .some rfl
 ·refine .some ?_
  have hf:l.find? (fun b=>decide (b.var=g.var))=none:=List.find?_eq_none.2 fun x hx=>by
   have:=hall x hx
   rw [X2] at this
   simpa using this
  simp [J8,hf,h0]
def matR:Option (List X3)→List X3×Bool
 | none=>([],false)
 | some l=>(Q95 l,true)
theorem X2r {w:List Q4}(hw:WW w){t:Q7}(ht:t∈tys w){p:Q0}(g:Q0e w 10 t p=true)(ln:linD w 10 t p=true)(hc:cntP p≤1000){e:Nat}{v:Q2}(hv:Q3u w e t v)(he:e≤10) :
  Q62 NN p v=some (matR (Z6 10 p v)):=by
 suffices hs:Ret (Q62 NN p v) (fun r=>r=matR (Z6 10 p v)) by
  obtain ⟨a,e,rfl⟩:=hs
  exact e
 have hdv:=Z9s e 10 v he (Z1z hw e t v ht hv)
 unfold Q62
 refine Ret.bind (V4c hw 10 NN t p v e ht g hv (by decide) hc) (fun r hr=>?_)
 obtain ⟨_,h2,h3⟩:=hr
 cases hm:Z6 10 p v with
 | none=>
  rw [hm] at h2
  simp only [Option.isSome_none] at h2
  rw [h2]
  exact .some rfl
 | some l=>
  rw [hm] at h2
  simp only [Option.isSome_some] at h2
  have h1:=h3 l hm
  have hb:=Z5f g ln hm
  rw [h2,h1]
  simp only [Bool.not_true,U2,if_false]
  rw [V3u (by decide) (by have:=hb.ln;omega) hb.nd hb.rg]
  have hpm:=Q4s hb.rg
  simp only [U0]
  rw [Z53 (by simp [hpm.length_eq])]
  simp only [U0]
  have hdb:∀ b∈Q95 l,Z1m 10 b.value:=fun b hb'=>by
   obtain ⟨e',h1,h2⟩:=X3v 10 p 10 v l hdv hm b (hpm.mem_iff.1 hb')
   exact Z9s _ _ _ h1 h2
  rw [show matR (some l)=(Q95 l,true) from rfl]
  generalize Q95 l=r at *
  refine Ret.ctl (Z5 r (fun _ s=>s=r) (fun _=>False) (fun s=>s=r) rfl (fun k b s hb hI=>?_) (fun s hI=>hI)) (fun r hr=>hr.elim) (fun s hs=>.some (by rw [hs]))
  subst hI
  have hk:=(List.getElem?_eq_some_iff.1 hb).1
  have hy:s[k]?=some s[k]:=by simp
  rw [Q0f hy]
  simp only [U0]
  rw [X0l 10 NN _ (hdb _ (U1 hy)) (by decide)]
  simp only [U0]
  rw [Z7f (by omega) (by omega)]
  refine .some ?_
  exact List.set_getElem_self (as:=s) (i:=k) hk
theorem W54 {w:List Q4}(hw:WW w){t:Q7}(ht:t∈tys w){l:List Q3}(hl:∀ c∈l,Q3i w t c.pat=true){e:Nat}{v:Q2}(hv:Q3u w e t v)(he:e≤10) :
  Z0d NN l v=some (runR (runD v 0 l)):=by
 suffices hs:Ret (Z0d NN l v) (fun r=>r=runR (runD v 0 l)) by
  obtain ⟨a,e,rfl⟩:=hs
  exact e
 unfold Z0d
 refine Ret.ctl (Z5 l (fun k _=>runD v 0 l=runD v k (l.drop k)) (fun r:Int×List X3=>r=runR (runD v 0 l)) (fun _=>runD v 0 l=none) rfl (fun k c s hc hI=>?_) (fun s hI=>by rw [hI,List.drop_length];rfl)) (fun r hr=>.some hr) (fun s hs=>.some (by rw [hs];rfl))
 obtain ⟨g,c1,ln⟩:=Q5u (hl c (U1 hc))
 rw [Q9c hc] at hI
 simp only [runD] at hI
 rw [X2r hw ht g ln (by omega) hv he]
 simp only [U0]
 cases hm:Z6 10 c.pat v with
 | none=>
  simp only [hm] at hI
  simp only [matR,U2,if_false,U0]
  exact .some hI
 | some r=>
  simp only [hm] at hI
  have hb:=Z5f g ln hm
  have hn:((Q95 r).map (·.var)).Nodup:=((Q4s hb.rg).map _).nodup_iff.2 hb.nd
  simp only [matR,if_true]
  rw [Z8p _ hn,X15 hb]
  simp only [U0]
  cases hg:J8 c.guard r with
  | true=>
   rw [hg] at hI
   simp only [if_true,U0] at hI ⊢
   exact .some (by simp only [Z48];rw [hI];rfl)
  | false=>
   rw [hg] at hI
   simp only [U2,if_false,U0] at hI ⊢
   exact .some hI
def Q9q {α:Type}(f:Q0→List Int→List α)(path:List Int):Nat→List Q0→List α
 | _,[]=>[]
 | i,k::ks=>f k (path++[(i:Int)])++Q9q f path (i+1) ks
def Q0z:Nat→Q0→List Int→List X8
 | 0,_,_=>[]
 | d+1,p,path=>if p.op=3 then [⟨1,path,-1,p.n,p.m,0,[],0⟩] else if p.op=4 then ⟨1,path,p.ctor,0,0,0,[],0⟩::Q9q (Q0z d) path 0 p.kids
  else if p.op=6 then (match p.kids with | [a]=>Q0z d a path | _=>[]) else []
def Q4r:Nat→Q0→List Int→List Q1
 | 0,_,_=>[]
 | d+1,p,path=>if p.op=2 then [⟨p.var,path⟩] else if p.op=4 then Q9q (Q4r d) path 0 p.kids
  else if p.op=6 then ⟨p.var,path⟩::(match p.kids with | [a]=>Q4r d a path | _=>[]) else []
def toJ (j:Nat)(s:X8):X8:=⟨s.op,s.path,s.ctor,s.n,s.m,s.clause,s.binds,(j:Int)⟩
def W92 (i e off:Nat)(q:Q0):List X8:=(Q0z 12 q []).map (toJ (off+(Q0z 12 q []).length+1))++[⟨2,[],0,0,0,(i:Int),Z0i (Q4r 12 q []),(e:Int)⟩]
def Z19 (i e:Nat):Nat→List Q0→List X8
 | _,[]=>[]
 | off,q::qs=>W92 i e off q++Z19 i e (off+(Q0z 12 q []).length+1) qs
def lenS:List Q0→Nat
 | []=>0
 | q::qs=>(Q0z 12 q []).length+1+lenS qs
def Z1n:Nat→Nat→List Q3→List X8
 | _,_,[]=>[⟨3,[],0,0,0,0,[],0⟩]
 | off,i,c::cs=>Z19 i (off+lenS (Z3 10 c.pat)) off (Z3 10 c.pat)++Z1n (off+lenS (Z3 10 c.pat)) (i+1) cs
theorem X7x (i e off:Nat)(q:Q0):(W92 i e off q).length=(Q0z 12 q []).length+1:=by simp [W92]
theorem Z1v (i e:Nat):∀ (qs:List Q0) (off:Nat),(Z19 i e off qs).length=lenS qs
 | [],_=>rfl
 | q::qs,off=>by simp only [Z19,lenS,U5,X7x,Z1v i e qs]
def Z7k (s:X8)(u:Q2):Bool:=decide (s.ctor=u.ctor)&&(decide (s.ctor≠-1)||(decide (s.n≤u.n)&&decide (u.n≤s.m)))
def runK (code:List X8)(lst:List Q3)(v:Q2):Nat→Nat→Option (Int×List X3×List (List Int))
 | 0,_=>none
 | n+1,a=>(code[a]?).bind fun s=>if s.op=3 then some (-1,[],[]) else
   if s.op=1 then (Q69 v s.path).bind fun u=>(runK code lst v n (if Z7k s u=true then a+1 else s.to.toNat)).map fun r=>(r.1,r.2.1,s.path::r.2.2)
   else (Q1a s.binds v).bind fun l=>(idx lst s.clause).bind fun c=>if J8 c.guard l=true then some (s.clause,l,[]) else runK code lst v n s.to.toNat
def addP (ps:List (List Int))(r:Int×List X3×List (List Int)):Int×List X3×List (List Int):=(r.1,r.2.1,ps++r.2.2)
def seg (code:List X8)(a:Nat)(xs:List X8):Prop:=∀ (j:Nat) (x:X8),xs[j]?=some x→code[a+j]?=some x
theorem X07 {code:List X8}{a:Nat}{xs ys:List X8}(h:seg code a (xs++ys)):seg code a xs∧seg code (a+xs.length) ys:=by
 refine ⟨fun j x hx=>h j x ?_,fun j x hx=>?_⟩
 ·rw [List.getElem?_append_left (List.getElem?_eq_some_iff.1 hx).1]
  exact hx
 ·rw [Nat.add_assoc]
  refine h _ x ?_
  rw [List.getElem?_append_right (by omega),show xs.length+j-xs.length=j by omega]
  exact hx
theorem X52 (ps qs:List (List Int))(o:Option (Int×List X3×List (List Int))):(o.map (addP qs)).map (addP ps)=o.map (addP (ps++qs)):=by
 cases o<;>simp [addP]
theorem W46 (o:Option (Int×List X3×List (List Int))):o.map (addP [])=o:=by
 cases o<;>simp [addP]
def Tst (code:List X8)(lst:List Q3)(v:Q2)(a T J:Nat)(hit:Bool):Prop:=∃ (k:Nat) (ps:List (List Int)),k≤T∧∀ n,runK code lst v (n+k) a=(runK code lst v n (if hit=true then a+T else J)).map (addP ps)
theorem W01 {code:List X8}{lst:List Q3}{v:Q2}{a J:Nat} : Tst code lst v a 0 J true:=⟨0,[],Nat.le_refl _,fun n=>by simp [W46]⟩
theorem W7z {code:List X8}{lst:List Q3}{v:Q2}{a T1 T2 J:Nat}{h1 h2:Bool}(x:Tst code lst v a T1 J h1)(y:Tst code lst v (a+T1) T2 J h2):Tst code lst v a (T1+T2) J (h1&&h2):=by
 obtain ⟨k1,ps1,l1,e1⟩:=x
 obtain ⟨k2,ps2,l2,e2⟩:=y
 cases h1 with
 | false=>exact ⟨k1,ps1,by omega,fun n=>by rw [e1];simp⟩
 | true=>
  refine ⟨k1+k2,ps1++ps2,by omega,fun n=>?_⟩
  rw [show n+(k1+k2)=n+k2+k1 by omega,e1,if_pos rfl,e2,X52]
  simp only [Bool.true_and,Nat.add_assoc]
theorem W80 {code:List X8}{lst:List Q3}{v u:Q2}{a J:Nat}{s:X8}(hc:code[a]?=some s)(h1:s.op=1)(hu:Q69 v s.path=some u)(hJ:s.to=(J:Int)):Tst code lst v a 1 J (Z7k s u):=by
 refine ⟨1,[s.path],Nat.le_refl _,fun n=>?_⟩
 rw [runK,hc]
 simp only [U0]
 rw [if_neg (by omega),if_pos h1,hu]
 simp only [U0]
 rw [hJ,Int.toNat_natCast]
 cases runK code lst v n (if Z7k s u=true then a+1 else J)<;>rfl
theorem W81 {w:List Q4}(hw:WW w)(hS:WS w)(hL:WL w){code:List X8}{lst:List Q3}{v:Q2}{J:Nat} : ∀ (d e:Nat) (t:Q7) (q:Q0) (u:Q2) (path:List Int) (a:Nat),Q0e w d t q=true→Q9x d q→Q3u w e t u→t∈tys w→Q69 v path=some u→
  seg code a ((Q0z d q path).map (toJ J))→Tst code lst v a (Q0z d q path).length J (Z6 d q u).isSome:=by
 intro d
 induction d with
 | zero=>intro e t q u path a h;cases h
 | succ d ih=>
  intro e t q u path a g f hu ht hp hs
  have hn:=Q00 g
  rw [Q0z] at hs ⊢
  rw [Z6]
  rcases Z01 hn with h | h | h | h | h | h
  ·rw [if_neg (by omega),if_neg (by omega),if_neg (by omega),if_pos h]
   exact W01
  ·rw [if_neg (by omega),if_neg (by omega),if_neg (by omega),if_neg (by omega),if_pos h]
   exact W01
  ·exact absurd h f.1
  ·rw [if_neg (by omega),if_neg (by omega),if_pos h] at hs
   rw [if_neg (by omega),if_neg (by omega),if_pos h,if_neg (by omega),if_neg (by omega),if_neg (by omega),if_neg (by omega),if_pos h]
   have hl:=(Q0l hn).2
   have hk:V5 w t q=[t]:=by unfold V5;rw [if_neg (by omega),if_neg (by omega),if_pos h]
   rw [hk] at hl
   match hks:q.kids,hl with
   | [x],_=>
    rw [hks] at hs
    have gx:=Y0 g (k:=0) (a:=t) (q:=x) (by rw [hk];rfl) (by rw [hks];rfl)
    have:=ih e t x u path a gx (f.2 x (by rw [hks];simp)) hu ht hp hs
    simpa using this
  ·obtain ⟨h,hd,_⟩:=h
   rw [if_pos h] at hs
   rw [if_pos h,if_neg (by omega),if_neg (by omega),if_pos h]
   have hc:=hs 0 _ rfl
   have hx:=W80 (lst:=lst) hc rfl hp rfl
   have hu1:u.ctor = -1:=by
    cases e with
    | zero=>exact hu.elim
    | succ e=>rw [Q3u,if_pos hd] at hu;exact hu.1
   have hpass:Z7k (toJ J ⟨1,path,-1,q.n,q.m,0,[],0⟩) u=(if q.n≤u.n∧u.n≤q.m then some ([]:List X3) else none).isSome:=by
    unfold Z7k toJ
    simp only [hu1]
    by_cases hr:q.n≤u.n∧u.n≤q.m
    ·rw [if_pos hr];simp [hr.1,hr.2]
    ·rw [if_neg hr]
     simp
     omega
   rw [hpass] at hx
   exact hx
  ·obtain ⟨h,hcm⟩:=h
   rw [if_neg (by omega),if_pos h] at hs
   rw [if_neg (by omega),if_pos h,if_neg (by omega),if_neg (by omega),if_neg (by omega),if_neg (by omega),if_neg (by omega)]
   have hd:t.data≠-1:=fun hd=>by
    rw [hS.int t ht hd] at hcm
    cases hcm
   cases e with
   | zero=>exact hu.elim
   | succ e=>
   rw [Q3u,if_neg hd] at hu
   obtain ⟨_,hcu,hlu,hku⟩:=hu
   rw [List.map_cons] at hs
   have hs1:seg code a [toJ J ⟨1,path,q.ctor,0,0,0,[],0⟩]∧seg code (a+1) ((Q9q (Q0z d) path 0 q.kids).map (toJ J)):=by
    have:=X07 (xs:=[toJ J ⟨1,path,q.ctor,0,0,0,[],0⟩]) (ys:=(Q9q (Q0z d) path 0 q.kids).map (toJ J)) hs
    exact this
   have hc:=hs1.1 0 _ rfl
   rw [Nat.add_zero] at hc
   have hx:=W80 (lst:=lst) hc rfl hp rfl
   have hpass:Z7k (toJ J ⟨1,path,q.ctor,0,0,0,[],0⟩) u=decide (q.ctor=u.ctor):=by
    have:=hL.pos t ht hd _ hcm
    unfold Z7k toJ
    simp [this]
   rw [hpass] at hx
   rw [U3,Nat.add_comm]
   by_cases hcq:q.ctor=u.ctor
   ·rw [if_pos hcq]
    rw [decide_eq_true hcq] at hx
    have hkT:V5 w t q=Q09 w t u.ctor:=by unfold V5;rw [if_pos h,hcq]
    have hlq:=(Q0l hn).2
    rw [hkT] at hlq
    have kids:∀ (ks:List Q0) (us:List Q2) (i b:Nat),ks.length=us.length→(∀ (j:Nat) (x:Q0) (y:Q2),ks[j]?=some x→us[j]?=some y→∃ a',a'∈tys w∧Q0e w d a' x=true∧Q9x d x∧Q3u w e a' y∧Q69 v (path++[((i+j:Nat):Int)])=some y)→
      seg code b ((Q9q (Q0z d) path i ks).map (toJ J))→Tst code lst v b (Q9q (Q0z d) path i ks).length J (W8 (Z6 d) ks us).isSome:=by
     intro ks
     induction ks with
     | nil=>intro us i b _ _ _;exact W01
     | cons x ks ihk=>
      intro us i b hl hj hsb
      cases us with
      | nil=>simp at hl
      | cons y us=>
       obtain ⟨a',c0,c1,c2,c3,c4⟩:=hj 0 x y rfl rfl
       rw [Q9q,List.map_append] at hsb
       obtain ⟨s1,s2⟩:=X07 hsb
       rw [U7] at s2
       have t1:=ih e a' x y (path++[(i:Int)]) b c1 c2 c3 c0 (by simpa using c4) s1
       have t2:=ihk us (i+1) (b+(Q0z d x (path++[(i:Int)])).length) (by simpa using hl) (fun j x' y' h1 h2=>by
        obtain ⟨a2,q0,q1,q2,q3,q4⟩:=hj (j+1) x' y' (by simpa using h1) (by simpa using h2)
        exact ⟨a2,q0,q1,q2,q3,by rw [show i+1+j=i+(j+1) by omega];exact q4⟩) s2
       have:=W7z t1 t2
       rw [Q9q,U5]
       have hm:(W8 (Z6 d) (x::ks) (y::us)).isSome=((Z6 d x y).isSome&&(W8 (Z6 d) ks us).isSome):=by
        rw [W8]
        cases Z6 d x y with
        | none=>rfl
        | some l=>cases W8 (Z6 d) ks us<;>rfl
       rw [hm]
       exact this
    have hy:=kids q.kids u.kids 0 (a+1) (by omega) (fun j x y h1 h2=>by
     have hjl:=(List.getElem?_eq_some_iff.1 h1).1
     have ha:(Q09 w t u.ctor)[j]?=some ((Q09 w t u.ctor)[j]'(by omega)):=by simp
     refine ⟨_,(hw.ty t ht).at_ _ hcu _ (U1 ha),Y0 g (by rw [hkT];exact ha) h1,f.2 x (U1 h1),hku j _ y ha h2,?_⟩
     rw [Z4a,hp]
     simp only [U0,Nat.zero_add]
     exact Q0f h2) hs1.2
    have:=W7z hx hy
    simpa using this
   ·rw [if_neg hcq]
    rw [decide_eq_false hcq] at hx
    obtain ⟨k,ps,l1,e1⟩:=hx
    exact ⟨k,ps,by omega,fun n=>by rw [e1];simp⟩
theorem V1l {w:List Q4}(hw:WW w)(hS:WS w){v:Q2} : ∀ (d e:Nat) (t:Q7) (q:Q0) (u:Q2) (path:List Int) (l:List X3),Q0e w d t q=true→Q9x d q→Q3u w e t u→t∈tys w→Q69 v path=some u→Z6 d q u=some l→Q1a (Q4r d q path) v=some l:=by
 intro d
 induction d with
 | zero=>intro e t q u path l h;cases h
 | succ d ih=>
  intro e t q u path l g f hu ht hp hm
  have hn:=Q00 g
  rw [Q4r]
  rw [Z6] at hm
  rcases Z01 hn with h | h | h | h | h | h
  ·rw [if_neg (by omega),if_neg (by omega),if_neg (by omega)]
   rw [if_pos h] at hm
   cases hm
   rfl
  ·rw [if_pos h]
   rw [if_neg (by omega),if_pos h] at hm
   cases hm
   simp [Q1a,hp]
  ·exact absurd h f.1
  ·rw [if_neg (by omega),if_neg (by omega),if_pos h]
   rw [if_neg (by omega),if_neg (by omega),if_neg (by omega),if_neg (by omega),if_pos h] at hm
   have hl:=(Q0l hn).2
   have hk:V5 w t q=[t]:=by unfold V5;rw [if_neg (by omega),if_neg (by omega),if_pos h]
   rw [hk] at hl
   match hks:q.kids,hl with
   | [x],_=>
    rw [hks] at hm
    simp only [U11] at hm
    obtain ⟨m,hm,rfl⟩:=hm
    have gx:=Y0 g (k:=0) (a:=t) (q:=x) (by rw [hk];rfl) (by rw [hks];rfl)
    have:=ih e t x u path m gx (f.2 x (by rw [hks];simp)) hu ht hp hm
    rw [Q1a,hp]
    simp only [U0]
    rw [this]
    rfl
  ·obtain ⟨h,_⟩:=h
   rw [if_neg (by omega),if_neg (by omega),if_neg (by omega)]
   rw [if_neg (by omega),if_neg (by omega),if_pos h] at hm
   split at hm
   ·cases hm;rfl
   ·cases hm
  ·obtain ⟨h,hcm⟩:=h
   rw [if_neg (by omega),if_pos h]
   rw [if_neg (by omega),if_neg (by omega),if_neg (by omega),if_neg (by omega),if_neg (by omega)] at hm
   split at hm
   ·rename_i hcq
    have hd:t.data≠-1:=fun hd=>by
     rw [hS.int t ht hd] at hcm
     cases hcm
    cases e with
    | zero=>exact hu.elim
    | succ e=>
    rw [Q3u,if_neg hd] at hu
    obtain ⟨_,hcu,hlu,hku⟩:=hu
    have hkT:V5 w t q=Q09 w t u.ctor:=by unfold V5;rw [if_pos h,hcq]
    have hlq:=(Q0l hn).2
    rw [hkT] at hlq
    have kids:∀ (ks:List Q0) (us:List Q2) (i:Nat) (l:List X3),(∀ (j:Nat) (x:Q0) (y:Q2),ks[j]?=some x→us[j]?=some y→∃ a',a'∈tys w∧Q0e w d a' x=true∧Q9x d x∧Q3u w e a' y∧Q69 v (path++[((i+j:Nat):Int)])=some y)→
      W8 (Z6 d) ks us=some l→Q1a (Q9q (Q4r d) path i ks) v=some l:=by
     intro ks
     induction ks with
     | nil=>intro us i l _ hl;rw [W8] at hl;cases hl;rfl
     | cons x ks ihk=>
      intro us i l hj hl
      cases us with
      | nil=>rw [W8] at hl;cases hl
      | cons y us=>
       obtain ⟨a',c0,c1,c2,c3,c4⟩:=hj 0 x y rfl rfl
       rw [W8] at hl
       cases hx:Z6 d x y with
       | none=>rw [hx] at hl;cases hl
       | some l1=>
        rw [hx] at hl
        simp only at hl
        cases hy:W8 (Z6 d) ks us with
        | none=>rw [hy] at hl;cases hl
        | some l2=>
         rw [hy] at hl
         cases hl
         have t1:=ih e a' x y (path++[(i:Int)]) l1 c1 c2 c3 c0 (by simpa using c4) hx
         have t2:=ihk us (i+1) l2 (fun j x' y' h1 h2=>by
          obtain ⟨a2,q0,q1,q2,q3,q4⟩:=hj (j+1) x' y' (by simpa using h1) (by simpa using h2)
          exact ⟨a2,q0,q1,q2,q3,by rw [show i+1+j=i+(j+1) by omega];exact q4⟩) hy
         rw [Q9q,Z05,t1]
         simp only [U0]
         rw [t2]
         rfl
    exact kids q.kids u.kids 0 l (fun j x y h1 h2=>by
     have hjl:=(List.getElem?_eq_some_iff.1 h1).1
     have ha:(Q09 w t u.ctor)[j]?=some ((Q09 w t u.ctor)[j]'(by omega)):=by simp
     refine ⟨_,(hw.ty t ht).at_ _ hcu _ (U1 ha),Y0 g (by rw [hkT];exact ha) h1,f.2 x (U1 h1),hku j _ y ha h2,?_⟩
     rw [Z4a,hp]
     simp only [U0,Nat.zero_add]
     exact Q0f h2) hm
   ·cases hm
theorem W4j {v:Q2}{bs:List Q1}{l:List X3}(h:Q1a bs v=some l)(hn:(bs.map (·.var)).Nodup)(hr:∀ b∈bs,0≤b.var∧b.var≤5):Q1a (Z0i bs) v=some (Q95 l):=by
 obtain ⟨l',e1,e2⟩:=X26 (Q80 hr).symm h
 have hv:=Q6r h
 have hs:l'.Pairwise (fun x y=>x.var<y.var):=by
  have h1:=Z3b hn
  have h2:=Q6r e1
  have h3:(l'.map (·.var)).Pairwise (· < ·):=by rw [h2,List.pairwise_map];exact h1
  exact List.pairwise_map.1 h3
 have hnl:(l.map (·.var)).Nodup:=by rw [hv];exact hn
 have hrl:∀ b∈l,0≤b.var∧b.var≤5:=fun b hb=>by
  have:b.var∈bs.map (·.var):=by rw [←hv];exact List.mem_map_of_mem hb
  obtain ⟨x,hx,e⟩:=U10.1 this
  rw [←e]
  exact hr x hx
 rw [e1,Z28 _ _ hs (Q9k hnl) (e2.symm.trans (Q4s hrl).symm)]
theorem X27:∀ (d:Nat) (q:Q0) (path:List Int),Q9x d q→((Q4r d q path).map (·.var)).Sublist (Q56 q):=by
 intro d
 induction d with
 | zero=>intro q path f;exact f.elim
 | succ d ih=>
  intro q path f
  have kids:∀ (ks:List Q0) (i:Nat),(∀ x∈ks,Q9x d x)→((Q9q (Q4r d) path i ks).map (·.var)).Sublist (ks.flatMap Q56):=by
   intro ks
   induction ks with
   | nil=>intro i _;exact List.Sublist.slnil
   | cons x ks ihk=>
    intro i h
    rw [Q9q,List.map_append,List.flatMap_cons]
    exact (ih x _ (h x (by simp))).append (ihk (i+1) fun y hy=>h y (by simp [hy]))
  rw [Q4r,Z14,Q7q]
  by_cases h2:q.op=2
  ·rw [if_pos h2,if_pos (.inl h2)]
   exact List.sublist_append_left _ _
  ·rw [if_neg h2]
   by_cases h4:q.op=4
   ·rw [if_pos h4,if_neg (by omega)]
    simpa using kids q.kids 0 f.2
   ·rw [if_neg h4]
    by_cases h6:q.op=6
    ·rw [if_pos h6,if_pos (.inr h6),List.map_cons]
     refine List.Sublist.cons_cons _ ?_
     match hk:q.kids with
     | []=>simp
     | [a]=>
      have:=ih a path (f.2 a (by rw [hk];simp))
      simpa using this
     | _::_::_=>simp
    ·rw [if_neg h6]
     exact List.nil_sublist _
theorem X74 {w:List Q4}(hw:WW w)(hS:WS w)(hL:WL w){t:Q7}(ht:t∈tys w){lst:List Q3}{v:Q2}{e:Nat}(hv:Q3u w e t v){code:List X8} : ∀ (cs:List Q3) (off i:Nat),(∀ c∈cs,Q3i w t c.pat=true)→(∀ (j:Nat) (c:Q3),cs[j]?=some c→lst[i+j]?=some c)→seg code off (Z1n off i cs)→
  ∃ (k:Nat) (ps:List (List Int)),k≤(Z1n off i cs).length∧∀ n,runK code lst v (n+k) off=some ((runR (runD v i cs)).1,(runR (runD v i cs)).2,ps)
 | [],off,i,_,_,hs=>by
  refine ⟨1,[],by simp [Z1n],fun n=>?_⟩
  have hc:=hs 0 _ rfl
  rw [runK,show code[off]?=some (⟨3,[],0,0,0,0,[],0⟩:X8) from hc]
  rfl
 | c::cs,off,i,hP,hl,hs=>by
  rw [Z1n] at hs
  obtain ⟨s1,s2⟩:=X07 hs
  rw [Z1v] at s2
  have ih:=X74 hw hS hL ht hv cs (off+lenS (Z3 10 c.pat)) (i+1) (fun x hx=>hP x (by simp [hx])) (fun j x hx=>by rw [show i+1+j=i+(j+1) by omega];exact hl (j+1) x (by simpa using hx)) s2
  obtain ⟨k2,ps2,l2,e2⟩:=ih
  obtain ⟨g1,_,g3⟩:=Q5u (hP c (by simp))
  have hcl:idx lst (i:Int)=some c:=Q0f (by have:=hl 0 c rfl;simpa using this)
  have hsf:(Z3 10 c.pat).findSome? (fun q=>Z6 10 q v)=Z6 10 c.pat v:=X3j hw hS 10 e t c.pat v ht g1 hv
  have Q1v:∀ (qs:List Q0) (o:Nat),(∀ q∈qs,q∈Z3 10 c.pat)→seg code o (Z19 i (off+lenS (Z3 10 c.pat)) o qs)→o+lenS qs=off+lenS (Z3 10 c.pat)→
    ∃ (k:Nat) (ps:List (List Int)),k≤lenS qs∧match qs.findSome? (fun q=>Z6 10 q v) with
     | none=>∀ n,runK code lst v (n+k) o=(runK code lst v n (off+lenS (Z3 10 c.pat))).map (addP ps)
     | some b=>if J8 c.guard b=true then ∀ n,runK code lst v (n+k) o=some ((i:Int),Q95 b,ps) else ∀ n,runK code lst v (n+k) o=(runK code lst v n (off+lenS (Z3 10 c.pat))).map (addP ps):=by
   intro qs
   induction qs with
   | nil=>
    intro o _ _ ho
    refine ⟨0,[],Nat.le_refl _,fun n=>?_⟩
    rw [W46]
    simp only [lenS,Nat.add_zero] at ho ⊢
    rw [ho]
   | cons q qs ihq=>
    intro o hm hsq ho
    rw [Z19] at hsq
    obtain ⟨h1,h2⟩:=X07 hsq
    rw [X7x] at h2
    obtain ⟨h3,h4⟩:=X07 (show seg code o ((Q0z 12 q []).map (toJ (o+(Q0z 12 q []).length+1))++_) from h1)
    rw [U7] at h4
    have hq:=hm q (by simp)
    have q10:=Q7z 10 t c.pat q g1 hq
    have q12:Q0e w 12 t q=true:=Q31 11 t q (Q31 10 t q q10)
    have f12:Q9x 12 q:=Q6p 11 q (Q6p 10 q (Z1t 10 c.pat q hq))
    have m12:Z6 12 q v=Z6 10 q v:=by rw [(Z2d 11 t q (Q31 10 t q q10)).2.2.2 v,(Z2d 10 t q q10).2.2.2 v]
    obtain ⟨k1,ps1,l1,e1⟩:=W81 (lst:=lst) hw hS hL 12 e t q v [] o q12 f12 hv ht rfl h3
    rw [m12] at e1
    rw [List.findSome?_cons]
    cases hmq:Z6 10 q v with
    | none=>
     rw [hmq] at e1
     simp only [Option.isSome_none,U2,if_false] at e1
     obtain ⟨k3,ps3,l3,e3⟩:=ihq (o+((Q0z 12 q []).length+1)) (fun x hx=>hm x (by simp [hx])) (by simpa [Nat.add_assoc] using h2) (by rw [lenS] at ho;omega)
     refine ⟨k3+k1,ps1++ps3,by rw [lenS];omega,?_⟩
     simp only
     have cmb:∀ n,runK code lst v (n+(k3+k1)) o=(runK code lst v (n+k3) (o+((Q0z 12 q []).length+1))).map (addP ps1):=fun n=>by
      rw [←Nat.add_assoc]
      exact e1 (n+k3)
     cases hf:qs.findSome? (fun q=>Z6 10 q v) with
     | none=>
      rw [hf] at e3
      intro n
      rw [cmb,e3,X52]
     | some b=>
      rw [hf] at e3
      simp only at e3 ⊢
      split
      ·rename_i hg
       rw [if_pos hg] at e3
       intro n
       rw [cmb,e3]
       rfl
      ·rename_i hg
       rw [if_neg hg] at e3
       intro n
       rw [cmb,e3,X52]
    | some b=>
     rw [hmq] at e1
     simp only [Option.isSome_some,if_true] at e1
     simp only
     have hcd:=h4 0 _ rfl
     rw [Nat.add_zero] at hcd
     have hb:=V1l hw hS 12 e t q v [] b q12 f12 hv ht rfl (by rw [m12];exact hmq)
     have hvs:(Q56 q).Perm ((Q1n w 10 t c.pat).map (·.var)):=Z7d 10 t c.pat q g1 g3 hq
     have hds:=Q3b 10 t c.pat g1 g3
     simp only [Q1i,decide_eq_true_eq] at hds
     have hsub:=X27 12 q [] f12
     have hnd:((Q4r 12 q []).map (·.var)).Nodup:=hsub.nodup (hvs.nodup_iff.2 hds)
     have hrg:∀ x∈Q4r 12 q [],0≤x.var∧x.var≤5:=fun x hx=>by
      obtain ⟨y,hy,e⟩:=U10.1 (hvs.mem_iff.1 (hsub.subset (List.mem_map_of_mem hx)))
      rw [←e]
      exact Z07 10 t c.pat g1 y hy
     have hsr:=W4j hb hnd hrg
     have hbn:(b.map (·.var)).Nodup:=by rw [Q6r hb];exact hnd
     have hrb:∀ x∈b,0≤x.var∧x.var≤5:=fun x hx=>by
      have:x.var∈(Q4r 12 q []).map (·.var):=by rw [←Q6r hb];exact List.mem_map_of_mem hx
      obtain ⟨y,hy,e⟩:=U10.1 this
      rw [←e]
      exact hrg y hy
     have hgs:J8 c.guard (Q95 b)=J8 c.guard b:=by
      unfold J8
      rw [X8z (by rw [(List.Perm.map _ (Q4s hrb)).nodup_iff];exact hbn) (Q4s hrb) c.guard.var]
     have stp:∀ n,runK code lst v (n+1) (o+(Q0z 12 q []).length)=if J8 c.guard b=true then some ((i:Int),Q95 b,[]) else runK code lst v n (off+lenS (Z3 10 c.pat)):=fun n=>by
      rw [runK,hcd]
      simp only [U0]
      rw [if_neg (by decide),if_neg (by decide),hsr]
      simp only [U0]
      rw [hcl]
      simp only [U0]
      rw [hgs,Int.toNat_natCast]
     refine ⟨1+k1,ps1,by rw [lenS];omega,?_⟩
     split
     ·rename_i hg
      intro n
      rw [←Nat.add_assoc,e1,stp,if_pos hg]
      simp [addP]
     ·rename_i hg
      intro n
      rw [←Nat.add_assoc,e1,stp,if_neg hg]
  obtain ⟨k1,ps1,l1,e1⟩:=Q1v (Z3 10 c.pat) off (fun q h=>h) s1 rfl
  rw [hsf] at e1
  have hlen:(Z1n off i (c::cs)).length=lenS (Z3 10 c.pat)+(Z1n (off+lenS (Z3 10 c.pat)) (i+1) cs).length:=by rw [Z1n,U5,Z1v]
  rw [runD]
  cases hm:Z6 10 c.pat v with
  | none=>
   rw [hm] at e1
   refine ⟨k2+k1,ps1++ps2,by omega,fun n=>?_⟩
   rw [←Nat.add_assoc,e1,e2]
   rfl
  | some b=>
   rw [hm] at e1
   simp only at e1 ⊢
   by_cases hg:J8 c.guard b=true
   ·rw [if_pos hg] at e1 ⊢
    exact ⟨k1,ps1,by omega,fun n=>by rw [e1];rfl⟩
   ·rw [if_neg hg] at e1 ⊢
    refine ⟨k2+k1,ps1++ps2,by omega,fun n=>?_⟩
    rw [←Nat.add_assoc,e1,e2]
    rfl
theorem X0z {α:Type}{f:Q0→List Int→List α}(h:∀ x p,(f x p).length≤cntP x)(path:List Int):∀ (ks:List Q0) (i:Nat),(Q9q f path i ks).length≤cntP.cntPs ks
 | [],_=>by simp [Q9q]
 | x::ks,i=>by
  have h1:=h x (path++[(i:Int)])
  have h2:=X0z h path ks (i+1)
  simp only [Q9q,U5,cntP.cntPs]
  omega
theorem Z1s:∀ (d:Nat) (q:Q0) (path:List Int),(Q0z d q path).length≤cntP q
 | 0,q,path=>by simp [Q0z]
 | d+1,q,path=>by
  have hc:=Q7x q
  rw [Q0z]
  split
  ·simp only [U3,U4];omega
  ·split
   ·have:=X0z (Z1s d) path q.kids 0
    simp only [U3]
    omega
   ·split
    ·match hk:q.kids with
     | []=>simp
     | [a]=>
      have h1:=Z1s d a path
      rw [hk] at hc
      simp only [cntP.cntPs] at hc
      simp only
      omega
     | _::_::_=>simp
    ·simp
theorem Z4i:∀ (d:Nat) (q:Q0) (path:List Int),(Q4r d q path).length≤cntP q
 | 0,q,path=>by simp [Q4r]
 | d+1,q,path=>by
  have hc:=Q7x q
  rw [Q4r]
  split
  ·simp only [U3,U4];omega
  ·split
   ·have:=X0z (Z4i d) path q.kids 0
    omega
   ·split
    ·match hk:q.kids with
     | []=>simp only [U3,U4];omega
     | [a]=>
      have h1:=Z4i d a path
      rw [hk] at hc
      simp only [cntP.cntPs] at hc
      simp only [U3]
      omega
     | _::_::_=>simp only [U3,U4];omega
    ·simp
theorem X88 {ρ:Type}{F:Nat→Q0→List X8×List Q1→Option (Ctl ρ (List X8×List Q1))}{f:Q0→List Int→List X8}{g:Q0→List Int→List Q1}{path:List Int}
  (hf:∀ x p,(f x p).length≤cntP x) (hg:∀ x p,(g x p).length≤cntP x):∀ (ks:List Q0) (i:Nat) (st:List X8) (bs:List Q1),st.length+cntP.cntPs ks≤100000→bs.length+cntP.cntPs ks≤100000→
  (∀ (k:Nat) (x:Q0) (st:List X8) (bs:List Q1),x∈ks→i≤k→k<i+ks.length→st.length+cntP x≤100000→bs.length+cntP x≤100000→F k x (st,bs)=some (.go (st++f x (path++[(k:Int)]),bs++g x (path++[(k:Int)]))))→
  forL F i ks (st,bs)=some (.brk (st++Q9q f path i ks,bs++Q9q g path i ks))
 | [],i,st,bs,_,_,_=>by simp [forL,Q9q]
 | x::ks,i,st,bs,h1,h2,h=>by
  simp only [cntP.cntPs] at h1 h2
  have l1:=hf x (path++[(i:Int)])
  have l2:=hg x (path++[(i:Int)])
  unfold forL
  rw [h i x st bs (by simp) (Nat.le_refl _) (by simp) (by omega) (by omega)]
  simp only
  rw [X88 hf hg ks (i+1) _ _ (by rw [U5];omega) (by rw [U5];omega) (fun k y st bs hy hk1 hk2=>h k y st bs (by simp [hy]) (by omega) (by simp only [U3];omega))]
  simp [Q9q]
theorem X56 {ρ α:Type}{F:Nat→Q0→List α→Option (Ctl ρ (List α))}{f:Q0→List Int→List α}{path:List Int}(hf:∀ x p,(f x p).length≤cntP x):∀ (ks:List Q0) (i:Nat) (st:List α),st.length+cntP.cntPs ks≤100000→
  (∀ (k:Nat) (x:Q0) (st:List α),x∈ks→i≤k→k<i+ks.length→st.length+cntP x≤100000→F k x st=some (.go (st++f x (path++[(k:Int)]))))→forL F i ks st=some (.brk (st++Q9q f path i ks))
 | [],i,st,_,_=>by simp [forL,Q9q]
 | x::ks,i,st,h1,h=>by
  simp only [cntP.cntPs] at h1
  have l1:=hf x (path++[(i:Int)])
  unfold forL
  rw [h i x st (by simp) (Nat.le_refl _) (by simp) (by omega)]
  simp only
  rw [X56 hf ks (i+1) _ (by rw [U5];omega) (fun k y st hy hk1 hk2=>h k y st (by simp [hy]) (by omega) (by simp only [U3];omega))]
  simp [Q9q]
theorem Z7z {w:List Q4}{d:Nat}{t:Q7}{q:Q0}(g:Q0e w (d+1) t q=true)(f:Q9x (d+1) q) :
  (q.op=1∧q.kids=[])∨(q.op=2∧q.kids=[])∨(q.op=6∧∃ a,q.kids=[a]∧Q0e w d t a=true∧Q9x d a)∨(q.op=3∧q.kids=[])∨(q.op=4∧q.kids.length=(Q09 w t q.ctor).length∧q.ctor∈W9 w t∧∀ (j:Nat) (x:Q0) (u:Q7),q.kids[j]?=some x→(Q09 w t q.ctor)[j]?=some u→Q0e w d u x=true∧Q9x d x):=by
 have hn:=Q00 g
 have hl:=(Q0l hn).2
 rcases Z01 hn with h | h | h | h | h | h
 ·refine .inl ⟨h,?_⟩
  have hk:V5 w t q=[]:=by unfold V5;rw [if_neg (by omega),if_neg (by omega),if_neg (by omega)]
  rw [hk] at hl
  exact List.length_eq_zero_iff.1 hl
 ·refine .inr (.inl ⟨h,?_⟩)
  have hk:V5 w t q=[]:=by unfold V5;rw [if_neg (by omega),if_neg (by omega),if_neg (by omega)]
  rw [hk] at hl
  exact List.length_eq_zero_iff.1 hl
 ·exact absurd h f.1
 ·have hk:V5 w t q=[t]:=by unfold V5;rw [if_neg (by omega),if_neg (by omega),if_pos h]
  rw [hk] at hl
  match hks:q.kids,hl with
  | [x],_=>
   exact .inr (.inr (.inl ⟨h,x,rfl,Y0 g (k:=0) (a:=t) (q:=x) (by rw [hk];rfl) (by rw [hks];rfl),f.2 x (by rw [hks];simp)⟩))
 ·obtain ⟨h,_⟩:=h
  refine .inr (.inr (.inr (.inl ⟨h,?_⟩)))
  have hk:V5 w t q=[]:=by unfold V5;rw [if_neg (by omega),if_neg (by omega),if_neg (by omega)]
  rw [hk] at hl
  exact List.length_eq_zero_iff.1 hl
 ·obtain ⟨h,hc⟩:=h
  have hk:V5 w t q=Q09 w t q.ctor:=by unfold V5;rw [if_pos h]
  rw [hk] at hl
  exact .inr (.inr (.inr (.inr ⟨h,hl,hc,fun j x u hx hu=>⟨Y0 g (by rw [hk];exact hu) hx,f.2 x (U1 hx)⟩⟩)))
theorem X58 {w:List Q4}(hw:WW w):∀ (d n:Nat) (t:Q7) (q:Q0) (path:List Int) (st:List X8) (bs:List Q1),t∈tys w→Q0e w d t q=true→Q9x d q→d≤n→path.length+d≤1000→st.length+cntP q≤100000→bs.length+cntP q≤100000→
  Q85 n q path st bs=some (st++Q0z d q path,bs++Q4r d q path):=by
 intro d
 induction d with
 | zero=>intro n t q path st bs _ h;cases h
 | succ d ih=>
  intro n t q path st bs ht g f hn hp h1 h2
  obtain ⟨n,rfl⟩:∃ m,n=m+1:=⟨n-1,by omega⟩
  have hc:=Q7x q
  have hcl:∀ p:List Int,p.length≤1000→X7 p=some p:=fun p h=>Q6q p (by simp only [Q5];omega)
  rw [Q85,hcl path (by omega),Q0z,Q4r]
  simp only [U0]
  rcases Z7z g f with ⟨h,hk⟩ | ⟨h,hk⟩ | ⟨h,a,hk,ga,fa⟩ | ⟨h,hk⟩ | ⟨h,hl,hct,hkid⟩
  ·have e1:ieq (1:Int) 2=false:=rfl
   have e2:ieq (1:Int) 6=false:=rfl
   have e3:ieq (1:Int) 3=false:=rfl
   have e4:ieq (1:Int) 4=false:=rfl
   simp [h,hk,e1,e2,e3,e4,forL]
  ·have e1:ieq (2:Int) 2=true:=rfl
   simp only [h,e1,if_true,U0]
   rw [X6 (by simp only [U3,U4,Q5];omega)]
   simp [hk,forL]
  ·have e1:ieq (6:Int) 2=false:=rfl
   have e2:ieq (6:Int) 6=true:=rfl
   have e4:ieq (6:Int) 4=false:=rfl
   rw [hk] at hc
   simp only [cntP.cntPs] at hc
   simp only [h,e1,e2,e4,U2,if_false,if_true,U0]
   rw [X6 (by simp only [U3,U4,Q5];omega)]
   simp only [hk,forL,U0]
   rw [ih n t a path st (bs++[Q1.mk q.var path]) ht ga fa (by omega) (by omega) (by omega) (by simp only [U5,U3,U4];omega)]
   simp
  ·have e1:ieq (3:Int) 2=false:=rfl
   have e2:ieq (3:Int) 6=false:=rfl
   have e3:ieq (3:Int) 3=true:=rfl
   have e4:ieq (3:Int) 4=false:=rfl
   simp only [h,e1,e2,e3,U2,if_false,if_true,U0]
   rw [X6 (by simp only [U3,U4,Q5];omega)]
   simp [hk,forL]
  ·have e1:ieq (4:Int) 2=false:=rfl
   have e2:ieq (4:Int) 6=false:=rfl
   have e3:ieq (4:Int) 3=false:=rfl
   have e4:ieq (4:Int) 4=true:=rfl
   have hal:=(hw.ty t ht).al _ hct
   simp only [h,e1,e2,e3,e4,U2,if_false,if_true,U0]
   rw [X6 (by simp only [U3,U4,Q5];omega)]
   simp only [U0]
   rw [X88 (path:=path) (Z1s d) (Z4i d) q.kids 0 _ bs (by simp only [U5,U3,U4];omega) (by omega) (fun k x st bs hx _ hk2 hs hb=>by
    obtain ⟨j,hj⟩:=List.mem_iff_getElem?.1 hx
    have hjl:=(List.getElem?_eq_some_iff.1 hj).1
    have hu:(Q09 w t q.ctor)[j]?=some ((Q09 w t q.ctor)[j]'(by omega)):=by simp
    obtain ⟨gx,fx⟩:=hkid j x _ hj hu
    rw [X6 (by simp only [U3,U4,Q5];omega)]
    simp only [U0]
    rw [ih n _ x (path++[(k:Int)]) st bs ((hw.ty t ht).at_ _ hct _ (U1 hu)) gx fx (by omega) (by simp only [U5,U3,U4];omega) hs hb]
    rfl)]
   simp
theorem X4k {w:List Q4}(hw:WW w):∀ (d n:Nat) (t:Q7) (q:Q0) (path:List Int) (st:List X8),t∈tys w→Q0e w d t q=true→Q9x d q→d≤n→path.length+d≤1000→st.length+cntP q≤100000→
  Q4f n st q path=some (st++Q0z d q path):=by
 intro d
 induction d with
 | zero=>intro n t q path st _ h;cases h
 | succ d ih=>
  intro n t q path st ht g f hn hp h1
  obtain ⟨n,rfl⟩:∃ m,n=m+1:=⟨n-1,by omega⟩
  have hc:=Q7x q
  rw [Q4f,Q0z]
  rcases Z7z g f with ⟨h,hk⟩ | ⟨h,hk⟩ | ⟨h,a,hk,ga,fa⟩ | ⟨h,hk⟩ | ⟨h,hl,hct,hkid⟩
  ·have e2:ieq (1:Int) 6=false:=rfl
   have e3:ieq (1:Int) 3=false:=rfl
   have e4:ieq (1:Int) 4=false:=rfl
   simp [h,e2,e3,e4]
  ·have e2:ieq (2:Int) 6=false:=rfl
   have e3:ieq (2:Int) 3=false:=rfl
   have e4:ieq (2:Int) 4=false:=rfl
   simp [h,e2,e3,e4]
  ·have e2:ieq (6:Int) 6=true:=rfl
   have hix:idx q.kids 0=some a:=Q0f (i:=0) (by simp [hk])
   rw [hk] at hc
   simp only [cntP.cntPs] at hc
   simp only [h,e2,if_true,hix,U0]
   rw [ih n t a path st ht ga fa (by omega) (by omega) (by omega)]
   simp [hk]
  ·have e2:ieq (3:Int) 6=false:=rfl
   have e3:ieq (3:Int) 3=true:=rfl
   simp only [h,e2,e3,U2,if_false,if_true]
   rw [X6 (by simp only [U4,Q5];omega)]
   simp only [U0]
   rw [X6 (by simp only [U3,U4,Q5];omega)]
   simp
  ·have e2:ieq (4:Int) 6=false:=rfl
   have e3:ieq (4:Int) 3=false:=rfl
   have e4:ieq (4:Int) 4=true:=rfl
   have hal:=(hw.ty t ht).al _ hct
   simp only [h,e2,e3,e4,U2,if_false,if_true]
   rw [X6 (by simp only [U4,Q5];omega)]
   simp only [U0]
   rw [X6 (by simp only [U3,U4,Q5];omega)]
   simp only [U0]
   rw [X56 (path:=path) (Z1s d) q.kids 0 _ (by simp only [U5,U3,U4];omega) (fun k x st hx _ hk2 hs=>by
    obtain ⟨j,hj⟩:=List.mem_iff_getElem?.1 hx
    have hjl:=(List.getElem?_eq_some_iff.1 hj).1
    have hu:(Q09 w t q.ctor)[j]?=some ((Q09 w t q.ctor)[j]'(by omega)):=by simp
    obtain ⟨gx,fx⟩:=hkid j x _ hj hu
    rw [W0l (by omega)]
    simp only [U0]
    rw [ih n _ x (path++[(k:Int)]) st ((hw.ty t ht).at_ _ hct _ (U1 hu)) gx fx (by omega) (by simp only [U5,U3,U4];omega) hs]
    rfl)]
   simp
theorem X4n {w:List Q4}(hw:WW w):∀ (d n:Nat) (t:Q7) (q:Q0) (path:List Int) (bs:List Q1),t∈tys w→Q0e w d t q=true→Q9x d q→d≤n→path.length+d≤1000→bs.length+cntP q≤100000→
  Q5v n bs q path=some (bs++Q4r d q path):=by
 intro d
 induction d with
 | zero=>intro n t q path bs _ h;cases h
 | succ d ih=>
  intro n t q path bs ht g f hn hp h1
  obtain ⟨n,rfl⟩:∃ m,n=m+1:=⟨n-1,by omega⟩
  have hc:=Q7x q
  rw [Q5v,Q4r]
  rcases Z7z g f with ⟨h,hk⟩ | ⟨h,hk⟩ | ⟨h,a,hk,ga,fa⟩ | ⟨h,hk⟩ | ⟨h,hl,hct,hkid⟩
  ·have e1:ieq (1:Int) 2=false:=rfl
   have e2:ieq (1:Int) 6=false:=rfl
   have e4:ieq (1:Int) 4=false:=rfl
   simp [h,hk,e1,e2,e4,forL]
  ·have e1:ieq (2:Int) 2=true:=rfl
   simp only [h,e1,if_true]
   rw [X6 (by simp only [U4,Q5];omega)]
   simp only [U0]
   rw [X6 (by simp only [U3,U4,Q5];omega)]
   simp [hk,forL]
  ·have e1:ieq (6:Int) 2=false:=rfl
   have e2:ieq (6:Int) 6=true:=rfl
   have e4:ieq (6:Int) 4=false:=rfl
   rw [hk] at hc
   simp only [cntP.cntPs] at hc
   simp only [h,e1,e2,e4,U2,if_false,if_true]
   rw [X6 (by simp only [U4,Q5];omega)]
   simp only [U0]
   rw [X6 (by simp only [U3,U4,Q5];omega)]
   simp only [hk,forL,U0]
   rw [ih n t a path (bs++[Q1.mk q.var path]) ht ga fa (by omega) (by omega) (by simp only [U5,U3,U4];omega)]
   simp
  ·have e1:ieq (3:Int) 2=false:=rfl
   have e2:ieq (3:Int) 6=false:=rfl
   have e4:ieq (3:Int) 4=false:=rfl
   simp [h,hk,e1,e2,e4,forL]
  ·have e1:ieq (4:Int) 2=false:=rfl
   have e2:ieq (4:Int) 6=false:=rfl
   have e4:ieq (4:Int) 4=true:=rfl
   have hal:=(hw.ty t ht).al _ hct
   simp only [h,e1,e2,e4,U2,if_false,if_true,U0]
   rw [X56 (path:=path) (Z4i d) q.kids 0 bs (by omega) (fun k x bs hx _ hk2 hb=>by
    obtain ⟨j,hj⟩:=List.mem_iff_getElem?.1 hx
    have hjl:=(List.getElem?_eq_some_iff.1 hj).1
    have hu:(Q09 w t q.ctor)[j]?=some ((Q09 w t q.ctor)[j]'(by omega)):=by simp
    obtain ⟨gx,fx⟩:=hkid j x _ hj hu
    rw [W0l (by omega)]
    simp only [U0]
    rw [ih n _ x (path++[(k:Int)]) bs ((hw.ty t ht).at_ _ hct _ (U1 hu)) gx fx (by omega) (by simp only [U5,U3,U4];omega) hb]
    rfl)]
   simp
def MemL (cs:List Q0)(ls:List (List Q0)):Prop:=cs.length=ls.length∧∀ (j:Nat) (c:Q0) (l:List Q0),cs[j]?=some c→ls[j]?=some l→c∈l
theorem X0r {c:Q0}{cs:List Q0}{l:List Q0}{ls:List (List Q0)} : MemL (c::cs) (l::ls)↔c∈l∧MemL cs ls:=by
 constructor
 ·rintro ⟨h1,h2⟩
  exact ⟨h2 0 c l rfl rfl,by simpa using h1,fun j x y e1 e2=>h2 (j+1) x y (by simpa using e1) (by simpa using e2)⟩
 ·rintro ⟨h0,h1,h2⟩
  refine ⟨by simp [h1],fun j x y e1 e2=>?_⟩
  cases j with
  | zero=>simp at e1 e2;subst e1;subst e2;exact h0
  | succ j=>exact h2 j x y (by simpa using e1) (by simpa using e2)
theorem W2x:∀ (ls out:List (List Q0)) (ks:List Q0),ks∈ls.foldl tupD out↔∃ o∈out,∃ cs,MemL cs ls∧ks=o++cs
 | [],out,ks=>by
  simp only [List.foldl_nil]
  constructor
  ·exact fun h=>⟨ks,h,[],⟨rfl,fun j c l h=>by simp at h⟩,by simp⟩
  ·rintro ⟨o,ho,cs,h,rfl⟩
   have:cs=[]:=List.eq_nil_of_length_eq_zero (by simpa using h.1)
   subst this
   simpa using ho
 | l::ls,out,ks=>by
  simp only [List.foldl_cons]
  rw [W2x ls (tupD out l) ks]
  constructor
  ·rintro ⟨o,ho,cs,h,rfl⟩
   obtain ⟨q,hq,ho⟩:=List.mem_flatMap.1 ho
   obtain ⟨c,hc,rfl⟩:=U10.1 ho
   exact ⟨q,hq,c::cs,X0r.2 ⟨hc,h⟩,by simp⟩
  ·rintro ⟨o,ho,cs,h,rfl⟩
   cases cs with
   | nil=>have:=h.1;simp at this
   | cons c cs=>
    obtain ⟨hc,h⟩:=X0r.1 h
    exact ⟨o++[c],List.mem_flatMap.2 ⟨o,ho,U10.2 ⟨c,hc,rfl⟩⟩,cs,h,by simp⟩
theorem W9d {ls:List (List Q0)}{ks:List Q0} : ks∈ls.foldl tupD [[]]↔MemL ks ls:=by
 rw [W2x]
 constructor
 ·rintro ⟨o,ho,cs,h,rfl⟩
  simp at ho
  subst ho
  simpa using h
 ·exact fun h=>⟨[],by simp,ks,h,by simp⟩
def i3 (a b:Int):List Q0:=if a≤b then [Q0.mk 3 0 a b 0 []] else []
theorem X03:∀ (d:Nat) (p:Q0),∀ q∈Z3 d p,cntP q≤cntP p
 | 0,_,_,h=>by simp [Z3] at h
 | d+1,p,q,h=>by
  have hp:=Q7x p
  simp only [Z3] at h
  split at h
  ·obtain ⟨k,hk,hq⟩:=List.mem_flatMap.1 h
   have h1:=X03 d k q hq
   obtain ⟨j,hj⟩:=List.mem_iff_getElem?.1 hk
   have:=Z3z hj
   omega
  ·obtain ⟨cs,hcs,rfl⟩:=U10.1 h
   have hm:=W9d.1 hcs
   have:∀ (ks cs:List Q0),MemL cs (ks.map (Z3 d))→cntP.cntPs cs≤cntP.cntPs ks:=fun ks=>by
    induction ks with
    | nil=>intro cs h;have:=h.1;simp at this;subst this;simp
    | cons k ks ih=>
     intro cs h
     cases cs with
     | nil=>have:=h.1;simp at this
     | cons c cs=>
      rw [List.map_cons,X0r] at h
      have h1:=X03 d k c h.1
      have h2:=ih cs h.2
      simp only [cntP.cntPs]
      omega
   have:=this p.kids cs hm
   rw [Q7x]
   simp only [Q79]
   omega
theorem Q89 {w:List Q4}{t:Q7}{cs:List Q3}(h:Q2m w t cs=true):cs.length≤8∧∀ c∈cs,Q3i w t c.pat=true:=by
 simp only [Q2m,Bool.and_eq_true,decide_eq_true_eq,List.all_eq_true] at h
 refine ⟨h.1,fun c hc=>?_⟩
 have:=h.2 c hc
 simp only [Q8t,Bool.and_eq_true] at this
 exact this.1
def runC (w:List Q4)(t:Q7)(l:List Q3)(v:Q2):Int×List X3×Bool:=
 if (Q2m w t l&&Q9z w t v)=true then ((runR (runD v 0 l)).1,(runR (runD v 0 l)).2,true) else (-1,[],false)
theorem V4k {w:List Q4}(hw:WW w){t:Q7}(ht:t∈tys w)(l:List Q3)(v:Q2):Q52 NN w t l v=some (runC w t l v):=by
 unfold Q52 runC
 rw [Z1l hw ht l]
 simp only [U0]
 cases hc:Q2m w t l with
 | false=>simp
 | true=>
  simp only [Bool.not_true,U2,if_false,Bool.true_and]
  rw [Z3o hw ht v]
  simp only [U0]
  cases hv:Q9z w t v with
  | false=>simp
  | true=>
   simp only [Bool.not_true,U2,if_false,if_true]
   rw [W54 hw ht (Q89 hc).2 (Q92 hv) (by omega)]
   rfl
theorem V8u {w:List Q4}{t:Q7}{l:List Q3}{v:Q2}(hc:Q2m w t l=true)(hv:Q9z w t v=true):runC w t l v=((runR (runD v 0 l)).1,(runR (runD v 0 l)).2,true):=by
 unfold runC
 rw [hc,hv];rfl
theorem Z7g {v:Q2} : ∀ {cs:List Q3} {k:Nat} {x:Nat×List X3},runD v k cs=some x→∃ i c b,cs[i]?=some c∧x.1=k+i∧Z6 10 c.pat v=some b∧J8 c.guard b=true∧x.2=Q95 b∧∀ (j:Nat) (c':Q3),j<i→cs[j]?=some c'→∀ b',Z6 10 c'.pat v=some b'→J8 c'.guard b'=false
 | [],_,_,h=>by cases h
 | c::cs,k,x,h=>by
  simp only [runD] at h
  cases hm:Z6 10 c.pat v with
  | none=>
   rw [hm] at h
   obtain ⟨i,c1,b,h1,h2,h3,h4,h5,h6⟩:=Z7g h
   refine ⟨i+1,c1,b,by simpa using h1,by omega,h3,h4,h5,fun j c' hj hc' b' hb'=>?_⟩
   cases j with
   | zero=>simp only [List.getElem?_cons_zero,Option.some.injEq] at hc';subst hc';rw [hm] at hb';cases hb'
   | succ j=>exact h6 j c' (by omega) (by simpa using hc') b' hb'
  | some l=>
   rw [hm] at h
   simp only at h
   split at h
   ·rename_i hg
    cases h
    exact ⟨0,c,l,rfl,rfl,hm,hg,rfl,fun j c' hj=>by omega⟩
   ·rename_i hg
    obtain ⟨i,c1,b,h1,h2,h3,h4,h5,h6⟩:=Z7g h
    refine ⟨i+1,c1,b,by simpa using h1,by omega,h3,h4,h5,fun j c' hj hc' b' hb'=>?_⟩
    cases j with
    | zero=>simp only [List.getElem?_cons_zero,Option.some.injEq] at hc';subst hc';rw [hm] at hb';cases hb';simpa using hg
    | succ j=>exact h6 j c' (by omega) (by simpa using hc') b' hb'
theorem Y3y {w:List Q4}(hw:WW w){t:Q7}(ht:t∈tys w){l:List Q3}(hl:∀ c∈l,Q3i w t c.pat=true){v:Q2}(hv:Q3u w 10 t v):DB (runR (runD v 0 l)).2:=by
 cases h:runD v 0 l with
 | none=>intro b hb;cases hb
 | some x=>
  obtain ⟨i,c,b,h1,_,h3,_,h5,_⟩:=Z7g h
  obtain ⟨g,_,ln⟩:=Q5u (hl c (U1 h1))
  have hb:=Z5f g ln h3
  intro y hy
  simp only [runR,h5] at hy
  obtain ⟨e',e1,e2⟩:=X3v 10 c.pat 10 v b (Z1z hw 10 t v ht hv) h3 y ((Q4s hb.rg).mem_iff.1 hy)
  exact Z9s _ _ _ e1 e2
theorem setK {L:List X8}{k:Nat}(h:k<L.length)(y:X8):setI L (k:Int) y=some (L.set k y):=by
 unfold setI
 rw [if_pos ⟨by omega,by simpa using h⟩]
 simp
theorem Z9k {ρ:Type}{F:List X8×Int→Option (Ctl ρ (List X8×Int))}(A S:List X8)(f:X8→X8)(hlen:A.length+S.length≤100000)
  (hgo:∀ (k:Nat) (x:X8) (L:List X8),S[k]?=some x→L.length=A.length+S.length→L[A.length+k]?=some x→F (L,((A.length+k:Nat):Int))=some (.go (L.set (A.length+k) (f x),((A.length+k+1:Nat):Int))))
  (hend:∀ L:List X8,L.length=A.length+S.length→F (L,((A.length+S.length:Nat):Int))=some (.brk (L,((A.length+S.length:Nat):Int)))) :
  whileL F NN (A++S,lenZ A.length)=some (.brk (A++S.map f,((A.length+S.length:Nat):Int))):=by
 have h:Ret (whileL F NN (A++S,lenZ A.length)) (CtlQ (fun _=>False) fun s=>s=(A++S.map f,((A.length+S.length:Nat):Int))):=by
  refine Q0y (fun s:List X8×Int=>∃ k:Nat,k≤S.length∧s=(A++((S.take k).map f++S.drop k),((A.length+k:Nat):Int))) (fun s=>(A.length+S.length-s.2).toNat) (fun _=>False) _ ⟨0,by omega,by simp [V7]⟩ (fun s hI=>?_) NN (by simp only [V7,NN];omega)
  obtain ⟨k,hk,rfl⟩:=hI
  have hL:(A++((S.take k).map f++S.drop k)).length=A.length+S.length:=by
   simp only [U5,U7,U6,List.length_drop];omega
  by_cases hkl:k<S.length
  ·have hx:S[k]?=some (S[k]'hkl):=by simp
   have hd:S.drop k=S[k]::S.drop (k+1):=List.drop_eq_getElem_cons hkl
   have hml:((S.take k).map f).length=k:=by simp only [U7,U6];omega
   rw [hgo k _ _ hx hL (by
    rw [List.getElem?_append_right (by omega),List.getElem?_append_right (by omega),hml,hd]
    simp)]
   refine .some ⟨⟨k+1,by omega,?_⟩,by simp only;omega⟩
   congr 1
   rw [List.set_append_right _ _ (by omega),show A.length+k-A.length=k by omega,List.set_append_right _ _ (by omega),hml,Nat.sub_self,hd,List.set_cons_zero,List.take_add_one,hx,List.map_append]
   simp only [Option.toList_some,List.map_cons,List.map_nil,List.append_assoc,List.cons_append,List.nil_append]
  ·obtain rfl:k=S.length:=by omega
   rw [hend _ hL]
   refine .some ?_
   simp
 obtain ⟨o,ho,hq⟩:=h
 cases o with
 | ret r=>exact hq.elim
 | go s=>exact hq.elim
 | brk s=>rw [ho];simp only [Q9j] at hq;rw [hq]
def X7z (i:Nat)(g:Nat→Int)(off:Nat)(q:Q0):List X8:=(Q0z 12 q []).map (toJ (off+(Q0z 12 q []).length+1))++[⟨2,[],0,0,0,(i:Int),Z0i (Q4r 12 q []),g (off+(Q0z 12 q []).length+1)⟩]
def Z4y (i:Nat)(g:Nat→Int):Nat→List Q0→List X8
 | _,[]=>[]
 | off,q::qs=>X7z i g off q++Z4y i g (off+(Q0z 12 q []).length+1) qs
theorem X7y (i:Nat)(g:Nat→Int)(off:Nat)(q:Q0):(X7z i g off q).length=(Q0z 12 q []).length+1:=by simp [X7z]
theorem Z7n (i:Nat)(g:Nat→Int):∀ (qs:List Q0) (off:Nat),(Z4y i g off qs).length=lenS qs
 | [],_=>rfl
 | q::qs,off=>by simp only [Z4y,lenS,U5,X7y,Z7n i g qs]
def setT (e:Int)(s:X8):X8:=if s.op=2 then ⟨s.op,s.path,s.ctor,s.n,s.m,s.clause,s.binds,e⟩ else s
theorem W30 {f:Q0→List Int→List X8}(h:∀ x p,∀ s∈f x p,s.op=1)(path:List Int):∀ (ks:List Q0) (i:Nat),∀ s∈Q9q f path i ks,s.op=1
 | [],_,s,hs=>by cases hs
 | x::ks,i,s,hs=>by
  rcases List.mem_append.1 hs with hs | hs
  ·exact h x _ s hs
  ·exact W30 h path ks (i+1) s hs
theorem Z5z:∀ (d:Nat) (q:Q0) (path:List Int),∀ s∈Q0z d q path,s.op=1
 | 0,_,_,s,hs=>by cases hs
 | d+1,q,path,s,hs=>by
  rw [Q0z] at hs
  split at hs
  ·simp only [List.mem_singleton] at hs;rw [hs]
  ·split at hs
   ·rcases U8.1 hs with hs | hs
    ·rw [hs]
    ·exact W30 (Z5z d) path q.kids 0 s hs
   ·split at hs
    ·split at hs
     ·exact Z5z d _ path s hs
     ·cases hs
    ·cases hs
theorem Z7m (i e:Nat)(g:Nat→Int):∀ (qs:List Q0) (off:Nat),(Z4y i g off qs).map (setT (e:Int))=Z19 i e off qs
 | [],_=>rfl
 | q::qs,off=>by
  have ht:((Q0z 12 q []).map (toJ (off+(Q0z 12 q []).length+1))).map (setT (e:Int))=(Q0z 12 q []).map (toJ (off+(Q0z 12 q []).length+1)):=by
   rw [List.map_map]
   refine List.map_congr_left fun s hs=>?_
   have:=Z5z 12 q [] s hs
   simp [setT,toJ,this]
  simp only [Z4y,Z19,List.map_append,Z7m i e g qs]
  congr 1
  simp only [X7z,W92,List.map_append,ht]
  simp [setT]
theorem Z7l {ρ:Type}{i:Nat}{g:Nat→Int}{F:Nat→Q0→List X8→Option (Ctl ρ (List X8))} : ∀ (qs:List Q0) (k:Nat) (s:List X8),s.length+lenS qs≤50000→
  (∀ (k:Nat) (q:Q0) (s:List X8),q∈qs→s.length+(Q0z 12 q []).length+1≤50000→F k q s=some (.go (s++X7z i g s.length q)))→forL F k qs s=some (.brk (s++Z4y i g s.length qs))
 | [],k,s,_,_=>by simp [forL,Z4y]
 | q::qs,k,s,h,hF=>by
  simp only [lenS] at h
  have hl:(s++X7z i g s.length q).length=s.length+(Q0z 12 q []).length+1:=by rw [U5,X7y];omega
  unfold forL
  rw [hF k q s (by simp) (by omega)]
  simp only
  rw [Z7l qs (k+1) _ (by rw [hl];omega) (fun k q s hq hs=>hF k q s (by simp [hq]) hs),hl]
  simp [Z4y]
def X62:Nat→Nat→List Q3→List X8
 | _,_,[]=>[]
 | off,i,c::cs=>Z19 i (off+lenS (Z3 10 c.pat)) off (Z3 10 c.pat)++X62 (off+lenS (Z3 10 c.pat)) (i+1) cs
theorem Z9t:∀ (cs:List Q3) (off i:Nat),Z1n off i cs=X62 off i cs++[⟨3,[],0,0,0,0,[],0⟩]
 | [],_,_=>rfl
 | c::cs,off,i=>by rw [Z1n,X62,Z9t cs];simp
def lenC:List Q3→Nat
 | []=>0
 | c::cs=>lenS (Z3 10 c.pat)+lenC cs
theorem Z74:∀ (cs:List Q3) (off i:Nat),(X62 off i cs).length=lenC cs
 | [],_,_=>rfl
 | c::cs,off,i=>by rw [X62,U5,Z1v,Z74 cs];rfl
theorem X21 {ρ α:Type}{h:Q3→α}{F:Nat→α→List X8→Option (Ctl ρ (List X8))} : ∀ (cs:List Q3) (i:Nat) (s:List X8),s.length+lenC cs≤40000→
  (∀ (i:Nat) (c:Q3) (s:List X8),c∈cs→s.length+lenS (Z3 10 c.pat)≤40000→F i (h c) s=some (.go (s++Z19 i (s.length+lenS (Z3 10 c.pat)) s.length (Z3 10 c.pat))))→forL F i (cs.map h) s=some (.brk (s++X62 s.length i cs))
 | [],i,s,_,_=>by simp [forL,X62]
 | c::cs,i,s,hl,hF=>by
  simp only [lenC] at hl
  have hn:(s++Z19 i (s.length+lenS (Z3 10 c.pat)) s.length (Z3 10 c.pat)).length=s.length+lenS (Z3 10 c.pat):=by rw [U5,Z1v]
  rw [List.map_cons]
  unfold forL
  rw [hF i c s (by simp) (by omega)]
  simp only
  rw [X21 cs (i+1) _ (by rw [hn];omega) (fun i c s hc hs=>hF i c s (by simp [hc]) hs),hn]
  simp [X62]
theorem W6m {ρ:Type}{F:Nat→Q3→List X8→Option (Ctl ρ (List X8))}(cs:List Q3)(i:Nat)(s:List X8)(hl:s.length+lenC cs≤40000)
  (hF:∀ (i:Nat) (c:Q3) (s:List X8),c∈cs→s.length+lenS (Z3 10 c.pat)≤40000→F i c s=some (.go (s++Z19 i (s.length+lenS (Z3 10 c.pat)) s.length (Z3 10 c.pat)))):forL F i cs s=some (.brk (s++X62 s.length i cs)):=by
 have:=X21 (h:=fun c=>c) (F:=F) cs i s hl hF
 rwa [List.map_id'] at this
theorem X87 {f:Q0→List Int→List Q1}{d:Nat}(h:∀ x p,∀ b∈f x p,b.path.length≤p.length+d)(path:List Int):∀ (ks:List Q0) (i:Nat),∀ b∈Q9q f path i ks,b.path.length≤path.length+d+1
 | [],_,b,hb=>by cases hb
 | x::ks,i,b,hb=>by
  rcases List.mem_append.1 hb with hb | hb
  ·have:=h x _ b hb
   simp only [U5,U3,U4] at this
   omega
  ·exact X87 h path ks (i+1) b hb
theorem Z87:∀ (d:Nat) (q:Q0) (path:List Int),∀ b∈Q4r d q path,b.path.length≤path.length+d
 | 0,_,_,b,hb=>by cases hb
 | d+1,q,path,b,hb=>by
  rw [Q4r] at hb
  split at hb
  ·simp only [List.mem_singleton] at hb;rw [hb];simp only;omega
  ·split at hb
   ·exact X87 (Z87 d) path q.kids 0 b hb
   ·split at hb
    ·rcases U8.1 hb with hb | hb
     ·rw [hb];simp only;omega
     ·split at hb
      ·have:=Z87 d _ path b hb;omega
      ·cases hb
    ·cases hb
structure QOk (w:List Q4) (t:Q7) (q:Q0):Prop where
 g:Q0e w 12 t q=true
 f:Q9x 12 q
 c:cntP q≤60
 nd:((Q4r 12 q []).map (·.var)).Nodup
 rg:∀ x∈Q4r 12 q [],0≤x.var∧x.var≤5
theorem qOk {w:List Q4}{t:Q7}{p q:Q0}(h:Q3i w t p=true)(hq:q∈Z3 10 p):QOk w t q:=by
 obtain ⟨g1,g2,g3⟩:=Q5u h
 have q10:=Q7z 10 t p q g1 hq
 have f12:Q9x 12 q:=Q6p 11 q (Q6p 10 q (Z1t 10 p q hq))
 have hvs:(Q56 q).Perm ((Q1n w 10 t p).map (·.var)):=Z7d 10 t p q g1 g3 hq
 have hds:=Q3b 10 t p g1 g3
 simp only [Q1i,decide_eq_true_eq] at hds
 have hsub:=X27 12 q [] f12
 refine ⟨Q31 11 t q (Q31 10 t q q10),f12,by have:=X03 10 p q hq;omega,hsub.nodup (hvs.nodup_iff.2 hds),fun x hx=>?_⟩
 obtain ⟨y,hy,e⟩:=U10.1 (hvs.mem_iff.1 (hsub.subset (List.mem_map_of_mem hx)))
 rw [←e]
 exact Z07 10 t p g1 y hy
theorem QOk.len {w:List Q4}{t:Q7}{q:Q0}(h:QOk w t q):(Q0z 12 q []).length≤60∧(Q4r 12 q []).length≤6:=by
 refine ⟨by have:=Z1s 12 q [];have:=h.c;omega,?_⟩
 have:=Z2c 6 _ h.nd (fun x hx=>by
  obtain ⟨y,hy,rfl⟩:=U10.1 hx
  have:=h.rg y hy
  omega)
 simpa using this
theorem W9i {w:List Q4}{t:Q7} : ∀ {qs:List Q0},(∀ q∈qs,QOk w t q)→lenS qs≤61 * qs.length
 | [],_=>by simp [lenS]
 | q::qs,h=>by
  have h1:=(h q (by simp)).len.1
  have h2:=W9i (qs:=qs) fun x hx=>h x (by simp [hx])
  simp only [lenS,U3]
  omega
theorem X53 {w:List Q4}{t:Q7} : ∀ {cs:List Q3},(∀ c∈cs,Q3i w t c.pat=true∧(Z3 10 c.pat).length≤40)→lenC cs≤2440 * cs.length
 | [],_=>by simp [lenC]
 | c::cs,h=>by
  obtain ⟨h1,h3⟩:=h c (by simp)
  have h2:=X53 (cs:=cs) fun x hx=>h x (by simp [hx])
  have h4:=W9i (w:=w) (t:=t) (qs:=Z3 10 c.pat) (fun q hq=>qOk h1 hq)
  simp only [lenC,U3]
  omega
def Z63 (w:List Q4)(t:Q7)(cs:List Q3):List X8×Bool:=
 if Q2m w t cs=true∧cs.all (fun c=>decide ((Z3 10 c.pat).length≤40))=true then (Z1n 0 0 cs,true) else ([],false)
theorem W0u {w:List Q4}{t:Q7}{q:Q0}(h:QOk w t q):Y7 NN (Q4r 12 q []) (fun a0 a1=>Q4c a0 a1)=some (Z0i (Q4r 12 q [])):=
 W2l (n:=NN) (by decide) (by have:=h.len.2;omega) h.nd h.rg
theorem X8a {w:List Q4}(hww:w∈Q0r){t:Q7}(ht:t∈tys w)(cs:List Q3):Q3q NN w t cs=some (Z63 w t cs):=by
 have hw:=ww hww
 unfold Q3q Z63
 rw [Z1l hw ht]
 simp only [U0]
 by_cases hc:Q2m w t cs=true
 ·obtain ⟨h8,hP⟩:=Z5c hc
  simp only [hc,Bool.not_true,U2,if_false,true_and]
  rw [Z6q hw ht hP h8]
  simp only [U0]
  by_cases ha:cs.all (fun c=>decide ((Z3 10 c.pat).length≤40))=true
  ·simp only [ha,if_true,Bool.not_true,U2,if_false]
   have hv:∀ c∈cs,Q3i w t c.pat=true∧(Z3 10 c.pat).length≤40:=fun c hcm=>⟨(Q89 hc).2 c hcm,by simpa using List.all_eq_true.1 ha c hcm⟩
   have hlc:=X53 hv
   rw [X21 (h:=fun c=>Z3 10 c.pat) cs 0 [] (by simp only [U4];omega) (fun i c s hcm hs=>by
    obtain ⟨v1,v2⟩:=hv c hcm
    have hq:∀ q∈Z3 10 c.pat,QOk w t q:=fun q hq=>qOk v1 hq
    rw [Z7l (i:=i) (g:=fun _=>0) (Z3 10 c.pat) 0 s (by omega) (fun k q s hqm hs=>by
     have hk:=hq q hqm
     have hl:=hk.len
     have hcq:=hk.c
     rw [X58 hw 12 NN t q [] s [] ht hk.g hk.f (by decide) (by simp) (by omega) (by simp only [U4];omega)]
     simp only [U0,List.nil_append]
     rw [W0u hk]
     simp only [U0]
     rw [Z53 (by simp [(Q80 hk.rg).length_eq])]
     simp only [U0]
     rw [Z9k s (Q0z 12 q []) (toJ (s.length+(Q0z 12 q []).length+1)) (by omega) (fun k x L hx hL hLx=>by
      have hkx:=(List.getElem?_eq_some_iff.1 hx).1
      dsimp only
      rw [if_pos (by rw [Z9,V7,hL];omega),Q0f hLx]
      simp only [U0]
      rw [setK (by omega),V7,hL,V9 (by omega) (by omega),V9 (by omega) (by omega)]
      rfl) (fun L hL=>by
      dsimp only
      rw [if_neg (by rw [Z9,V7,hL];omega)])]
     simp only [U0]
     rw [X6 (by simp only [U5,U7,U3,U4,Q5];omega)]
     simp [X7z])]
    simp only [U0]
    have hpl:=Z7n i (fun _=>0) (Z3 10 c.pat) s.length
    rw [Z9k s (Z4y i (fun _=>0) s.length (Z3 10 c.pat)) (setT ((s.length+lenS (Z3 10 c.pat):Nat):Int)) (by omega) (fun k x L hx hL hLx=>by
     have hkx:=(List.getElem?_eq_some_iff.1 hx).1
     dsimp only
     rw [if_pos (by rw [Z9,V7,hL];omega),Q0f hLx]
     simp only [U0]
     rw [V9 (by omega) (by omega)]
     by_cases h2:x.op=2
     ·rw [if_pos (by rw [Q9];exact h2),setK (by omega),V7,hL,hpl]
      simp [setT,h2]
     ·rw [if_neg (by rw [Q9];exact h2)]
      simp only [U0,setT,if_neg h2]
      have hset:L.set (s.length+k) x=L:=by
       obtain ⟨hh,he⟩:=List.getElem?_eq_some_iff.1 hLx
       rw [←he,List.set_getElem_self]
      rw [hset]
      simp) (fun L hL=>by
     dsimp only
     rw [if_neg (by rw [Z9,V7,hL];omega)])]
    simp only [U0]
    rw [Z7m])]
   simp only [U0,List.nil_append,U4]
   rw [X6 (by simp only [Z74,U3,U4,Q5];omega)]
   simp [Z9t]
  ·simp [ha]
 ·simp [hc]
theorem X76 {w:List Q4}(hww:w∈Q0r){t:Q7}(ht:t∈tys w)(cs:List Q3):Q3m NN w t cs=some (Z63 w t cs):=by
 have hw:=ww hww
 unfold Q3m Z63
 rw [Z4s hw ht]
 simp only [U0]
 by_cases hc:Q2m w t cs=true
 ·obtain ⟨h8,hP⟩:=Z5c hc
  simp only [hc,Bool.not_true,U2,if_false,true_and]
  have hsp:∀ c∈cs,Y5 NN c.pat=some ((Z3 10 c.pat).take 401):=fun c hcm=>by
   have hg:=(Q5u ((Q89 hc).2 c hcm)).1
   exact Z8f 10 NN c.pat (X18 hw 10 t c.pat ht hg) (by decide)
  have hloop:forL (fun k73 x74 (s67:Unit)=>((Y5 NN x74.pat).bind fun r81=>(if (ilt 40 (lenZ r81.length))=true then some (Ctl.ret ((([]:List X8),false))) else some (Ctl.go ())))) 0 cs ()=some (if cs.all (fun c=>decide ((Z3 10 c.pat).length≤40))=true then .brk () else .ret ([],false)):=by
   have:∀ (l:List Q3) (k:Nat),(∀ c∈l,c∈cs)→forL (fun k73 x74 (s67:Unit)=>((Y5 NN x74.pat).bind fun r81=>(if (ilt 40 (lenZ r81.length))=true then some (Ctl.ret ((([]:List X8),false))) else some (Ctl.go ())))) k l ()=some (if l.all (fun c=>decide ((Z3 10 c.pat).length≤40))=true then .brk () else .ret ([],false)):=by
    intro l
    induction l with
    | nil=>intro k _;simp [forL]
    | cons c l ih=>
     intro k hl
     unfold forL
     rw [hsp c (hl c (by simp))]
     simp only [U0]
     by_cases h4:(Z3 10 c.pat).length≤40
     ·rw [if_neg (by rw [Z9,V7,U6];omega)]
      simp only [List.all_cons,h4,decide_true,Bool.true_and]
      exact ih (k+1) fun x hx=>hl x (by simp [hx])
     ·rw [if_pos (by rw [Z9,V7,U6];omega)]
      simp [h4]
   exact this cs 0 fun c hc=>hc
  rw [hloop]
  by_cases ha:cs.all (fun c=>decide ((Z3 10 c.pat).length≤40))=true
  ·simp only [ha,if_true,U0]
   have hv:∀ c∈cs,Q3i w t c.pat=true∧(Z3 10 c.pat).length≤40:=fun c hcm=>⟨(Q89 hc).2 c hcm,by simpa using List.all_eq_true.1 ha c hcm⟩
   have hlc:=X53 hv
   unfold Q7k
   rw [W6m cs 0 [] (by simp only [U4];omega) (fun i c s hcm hs=>by
    obtain ⟨v1,v2⟩:=hv c hcm
    have hq:∀ q∈Z3 10 c.pat,QOk w t q:=fun q hq=>qOk v1 hq
    rw [hsp c hcm,List.take_of_length_le (by omega)]
    simp only [U0]
    rw [Z7l (i:=i) (g:=fun J=>(J:Int)) (Z3 10 c.pat) 0 s (by omega) (fun k q s hqm hs=>by
     have hk:=hq q hqm
     have hl:=hk.len
     have hcq:=hk.c
     rw [X4k hw 12 NN t q [] s ht hk.g hk.f (by decide) (by simp) (by omega),X4n hw 12 NN t q [] [] ht hk.g hk.f (by decide) (by simp) (by simp only [U4];omega)]
     simp only [U0,List.nil_append]
     rw [Z8h (n:=NN) (by decide) (by omega) (fun b hb=>by have:=Z87 12 q [] b hb;simp only [U4] at this;omega)]
     simp only [U0]
     rw [X6 (by simp only [U5,U3,U4,Q5];omega)]
     simp only [U0]
     rw [List.append_assoc]
     rw [Z9k s (Q0z 12 q []++[X8.mk 2 [] 0 0 0 (i:Int) (Z0i (Q4r 12 q [])) 0]) (toJ (s.length+(Q0z 12 q []).length+1)) (by simp only [U5,U3,U4];omega) (fun k x L hx hL hLx=>by
      have hkx:=(List.getElem?_eq_some_iff.1 hx).1
      simp only [U5,U3,U4] at hL hkx
      dsimp only
      rw [if_pos (by rw [Z9,V7,hL];omega),Q0f hLx]
      simp only [U0]
      rw [setK (by omega),V9 (by omega) (by omega),V7,hL]
      rfl) (fun L hL=>by
      dsimp only
      rw [if_neg (by rw [Z9,V7,hL];omega)])]
     simp [X7z,toJ])]
    simp only [U0]
    have hpl:=Z7n i (fun J=>(J:Int)) (Z3 10 c.pat) s.length
    rw [Z9k s (Z4y i (fun J=>(J:Int)) s.length (Z3 10 c.pat)) (setT ((s.length+lenS (Z3 10 c.pat):Nat):Int)) (by omega) (fun k x L hx hL hLx=>by
     have hkx:=(List.getElem?_eq_some_iff.1 hx).1
     dsimp only
     rw [if_pos (by rw [Z9,V7,hL];omega),Q0f hLx]
     simp only [U0]
     rw [V9 (by omega) (by omega)]
     by_cases h2:x.op=2
     ·rw [if_pos (by rw [Q9];exact h2),setK (by omega),V7,hL,hpl]
      simp [setT,h2]
     ·rw [if_neg (by rw [Q9];exact h2)]
      simp only [U0,setT,if_neg h2]
      have hset:L.set (s.length+k) x=L:=by
       obtain ⟨hh,he⟩:=List.getElem?_eq_some_iff.1 hLx
       rw [←he,List.set_getElem_self]
      rw [hset]
      simp) (fun L hL=>by
     dsimp only
     rw [if_neg (by rw [Z9,V7,hL];omega)])]
    simp only [U0]
    rw [Z7m])]
   simp only [U0,List.nil_append,U4]
   rw [X6 (by simp only [Z74,U3,U4,Q5];omega)]
   simp [Z9t]
  ·simp [ha]
 ·simp [hc]
theorem X9d:∀ (d n:Nat) (v:Q2),Z1m d v→d≤n→Q5d n v=some v:=by
 intro d
 induction d with
 | zero=>intro n v h;exact h.elim
 | succ d ih=>
  intro n v h hn
  obtain ⟨n,rfl⟩:∃ k,n=k+1:=⟨n-1,by omega⟩
  obtain ⟨h1,h2⟩:=h
  have hr:Ret (Q5d (n+1) v) (fun r=>r=v):=by
   unfold Q5d
   refine Ret.ctl (Z5 v.kids (fun k s=>s=v.kids.take k) (fun _=>False) (fun s=>s=v.kids) (by simp) (fun k q s hq hI=>?_) (fun s hI=>?_)) (fun r hr=>hr.elim) (fun s hs=>.some (Q2.ext' rfl rfl hs))
   ·rw [ih n q (h2 q (U1 hq)) (by omega)]
    simp only [U0]
    rw [X6 (by simp only [Q5,U3,U4];rw [hI,U6];omega)]
    exact .some (by rw [hI,List.take_add_one,hq];rfl)
   ·rw [hI,List.take_length]
  obtain ⟨r,e,rfl⟩:=hr
  exact e
theorem X7c (g:Q27)(l:List X3):Q3d g l=some (J8 g l):=by
 suffices hs:Ret (Q3d g l) (fun r=>r=J8 g l) by
  obtain ⟨a,e,rfl⟩:=hs
  exact e
 unfold Q3d
 refine Ret.ite (fun h0=>.some ?_) (fun h0=>?_)
 ·rw [Q9] at h0
  simp [J8,h0]
 rw [X2] at h0
 have hG:J8 g l=match l.find? fun b=>decide (b.var=g.var) with
   | none=>false
   | some b=>ieq b.value.ctor (-1)&&((ieq g.op 1&&ilt b.value.n g.n)||(ieq g.op 2&&ieq b.value.n g.n)):=by
  unfold J8
  rw [decide_eq_false h0,Bool.false_or]
  rfl
 refine Ret.ctl (Z5 l (fun k _=>l.find? (fun b=>decide (b.var=g.var))=(l.drop k).find? (fun b=>decide (b.var=g.var))) (fun r=>r=J8 g l) (fun _=>J8 g l=false) rfl (fun k x s hx hI=>?_) (fun s hI=>?_)) (fun r hr=>.some hr) (fun s hs=>.some hs.symm)
 ·rw [Q9c hx,List.find?_cons] at hI
  by_cases hv:x.var=g.var
  ·have e:(!ieq x.var g.var)=false:=by simp [ieq,hv]
   simp only [e,U2,if_false]
   rw [decide_eq_true hv] at hI
   simp only at hI
   rw [hI] at hG
   simp only at hG
   rw [hG]
   generalize ieq x.value.ctor (-1)=b1
   generalize ieq g.op 1=b2
   generalize ilt x.value.n g.n=b3
   generalize ieq g.op 2=b4
   generalize ieq x.value.n g.n=b5
   cases b1<;>cases b2<;>cases b3<;>cases b4<;>cases b5<;>exact .some rfl
  ·have e:(!ieq x.var g.var)=true:=by simp [ieq,hv]
   simp only [e,if_true,U0]
   rw [decide_eq_false hv] at hI
   exact .some hI
 ·rw [List.drop_length] at hI
  rw [hG,hI]
  rfl
theorem X05 {v u:Q2}{path:List Int}(h:Q69 v path=some u):Q7u v path=some u:=by
 suffices hs:Ret (Q7u v path) (fun r=>r=u) by
  obtain ⟨a,e,rfl⟩:=hs
  exact e
 unfold Q7u
 refine Ret.ctl (Z5 path (fun k s=>Q69 s (path.drop k)=some u) (fun _=>False) (fun s=>s=u) (by simpa using h) (fun k x s hx hI=>?_) (fun s hI=>by rw [List.drop_length,Q69] at hI;exact Option.some.inj hI)) (fun r hr=>hr.elim) (fun s hs=>.some hs)
 rw [Q9c hx,Q69] at hI
 cases hi:idx s.kids x with
 | none=>rw [hi] at hI;cases hI
 | some y=>
  rw [hi] at hI
  exact .some hI
theorem X7e {v:Q2}(hv:Z1m 10 v){l:List Q1}{r:List X3}(hl:l.length≤1000)(h:Q1a l v=some r):Q4u NN l v=some r:=by
 suffices hs:Ret (Q4u NN l v) (fun a=>a=r) by
  obtain ⟨a,e,rfl⟩:=hs
  exact e
 unfold Q4u
 refine Ret.ctl (Z5 l (fun k s=>s.length=k∧∃ s',Q1a (l.drop k) v=some s'∧s++s'=r) (fun _=>False) (fun s=>s=r) ⟨rfl,r,by simpa using h,rfl⟩ (fun k x s hx hI=>?_) (fun s hI=>?_)) (fun r hr=>hr.elim) (fun s hs=>.some hs)
 ·obtain ⟨i1,s',i2,i3⟩:=hI
  have hk:=(List.getElem?_eq_some_iff.1 hx).1
  rw [Q9c hx,Q1a,U12] at i2
  obtain ⟨u,hu,i2⟩:=i2
  rw [U11] at i2
  obtain ⟨m,hm,rfl⟩:=i2
  rw [X05 hu]
  simp only [U0]
  rw [X9d 10 NN u (X0k hv (Nat.le_refl _) hu) (by decide)]
  simp only [U0]
  rw [X6 (by simp only [U3,U4,Q5];omega)]
  exact .some ⟨by simp [i1],m,hm,by rw [←i3];simp⟩
 ·obtain ⟨_,s',i2,i3⟩:=hI
  rw [List.drop_length,Q1a,Option.some.injEq] at i2
  rw [←i3,←i2]
  simp
theorem Z54 {σ ρ:Type}{f:σ→Option (Ctl ρ σ)}(I:Nat→σ→Prop)(R:ρ→Prop)(B:σ→Prop)(h0:∀ s,¬I 0 s)(step:∀ k s,I (k+1) s→Ret (f s) (RndQ R B (I k))):∀ (k n:Nat) (s:σ),I k s→k≤n→Ret (whileL f n s) (CtlQ R B)
 | 0,_,s,h,_=>absurd h (h0 s)
 | k+1,n,s,h,hn=>by
  obtain ⟨n,rfl⟩:∃ m,n=m+1:=⟨n-1,by omega⟩
  obtain ⟨o,ho,hq⟩:=step k s h
  unfold whileL
  rw [ho]
  cases o with
  | ret r=>exact .some hq
  | brk s'=>exact .some hq
  | go s'=>exact Z54 I R B h0 step k n s' hq (by omega)
theorem Z6d {code:List X8}{lst:List Q3}{v:Q2} : ∀ {k a:Nat} {r:Int×List X3×List (List Int)},runK code lst v k a=some r→r.2.2.length≤k
 | 0,_,_,h=>by cases h
 | k+1,a,r,h=>by
  rw [runK,U12] at h
  obtain ⟨s,_,h⟩:=h
  split at h
  ·cases h;simp
  ·split at h
   ·obtain ⟨u,_,h⟩:=U12.1 h
    obtain ⟨r',h1,rfl⟩:=U11.1 h
    have:=Z6d h1
    simp only [U3]
    omega
   ·obtain ⟨l,_,h⟩:=U12.1 h
    obtain ⟨c,_,h⟩:=U12.1 h
    split at h
    ·cases h;simp
    ·have:=Z6d h;omega
structure X9l (s:X8):Prop where
 op:s.op=1∨s.op=2∨s.op=3
 to:0≤s.to
 bl:s.binds.length≤1000
 nd:(s.binds.map (·.var)).Nodup
theorem X70 {f:Q0→List Int→List X8}(h:∀ x p,∀ s∈f x p,s.binds=[])(path:List Int):∀ (ks:List Q0) (i:Nat),∀ s∈Q9q f path i ks,s.binds=[]
 | [],_,s,hs=>by cases hs
 | x::ks,i,s,hs=>by
  rcases List.mem_append.1 hs with hs | hs
  ·exact h x _ s hs
  ·exact X70 h path ks (i+1) s hs
theorem Z56:∀ (d:Nat) (q:Q0) (path:List Int),∀ s∈Q0z d q path,s.binds=[]
 | 0,_,_,s,hs=>by cases hs
 | d+1,q,path,s,hs=>by
  rw [Q0z] at hs
  split at hs
  ·simp only [List.mem_singleton] at hs;rw [hs]
  ·split at hs
   ·rcases U8.1 hs with hs | hs
    ·rw [hs]
    ·exact X70 (Z56 d) path q.kids 0 s hs
   ·split at hs
    ·split at hs
     ·exact Z56 d _ path s hs
     ·cases hs
    ·cases hs
theorem X0j {w:List Q4}{t:Q7}{i e:Nat} : ∀ {qs:List Q0} {off:Nat},(∀ q∈qs,QOk w t q)→∀ s∈Z19 i e off qs,X9l s
 | [],_,_,s,hs=>by cases hs
 | q::qs,off,h,s,hs=>by
  rw [Z19] at hs
  rcases List.mem_append.1 hs with hs | hs
  ·have hq:=h q (by simp)
   rw [W92] at hs
   rcases List.mem_append.1 hs with hs | hs
   ·obtain ⟨s',h1,rfl⟩:=U10.1 hs
    have e1:=Z5z 12 q [] s' h1
    have e2:=Z56 12 q [] s' h1
    exact ⟨.inl e1,by simp only [toJ];omega,by simp [toJ,e2],by simp [toJ,e2]⟩
   ·simp only [List.mem_singleton] at hs
    subst hs
    have hp:=Q80 hq.rg
    refine ⟨.inr (.inl rfl),by simp only;omega,by simp only;rw [hp.length_eq];have:=hq.len.2;omega,?_⟩
    simp only
    exact ((hp.map _).nodup_iff).2 hq.nd
  ·exact X0j (fun x hx=>h x (by simp [hx])) s hs
theorem X48 {w:List Q4}{t:Q7} : ∀ {cs:List Q3} {off i:Nat},(∀ c∈cs,Q3i w t c.pat=true)→∀ s∈Z1n off i cs,X9l s
 | [],_,_,_,s,hs=>by
  simp only [Z1n,List.mem_singleton] at hs
  subst hs
  exact ⟨.inr (.inr rfl),by simp,by simp,by simp⟩
 | c::cs,off,i,h,s,hs=>by
  rw [Z1n] at hs
  rcases List.mem_append.1 hs with hs | hs
  ·exact X0j (fun q hq=>qOk (h c (by simp)) hq) s hs
  ·exact X48 (fun x hx=>h x (by simp [hx])) s hs
theorem W1l (s:X8)(u:Q2):Q3a s.ctor s.n s.m u=some (Z7k s u):=by
 unfold Q3a Z7k
 rw [Q8a]
 by_cases h1:s.ctor=u.ctor
 ·by_cases h2:u.ctor = -1
  ·simp [ieq,h1,h2]
  ·simp [ieq,h1,h2]
 ·simp [ieq,h1]
theorem W4r (s:X8)(u:Q2):Q6a s u=some (Z7k s u):=by
 unfold Q6a Z7k
 by_cases h1:s.ctor=u.ctor
 ·by_cases h2:u.ctor = -1
  ·by_cases h3:s.n≤u.n<;>simp [ieq,ile,h1,h2,h3]
  ·simp [ieq,h1,h2]
 ·have h1':¬u.ctor=s.ctor:=fun e=>h1 e.symm
  simp [ieq,h1,h1']
theorem W0v {code:List X8}{lst:List Q3}{v:Q2}(hv:Z1m 10 v)(hc:∀ s∈code,X9l s)(hl:code.length≤100000){told:X8→Option Unit}(ht:∀ s,told s=some ()){k:Nat}{r:Int×List X3×List (List Int)}(h:runK code lst v k 0=some r)(hk:k≤100000) :
  Q4y NN code lst v told=some (r.1,r.2.1,(r.2.2.length:Int)):=by
 suffices hs:Ret (Q4y NN code lst v told) (fun a=>a=(r.1,r.2.1,(r.2.2.length:Int))) by
  obtain ⟨_,e,rfl⟩:=hs
  exact e
 unfold Q4y
 have hr:=Z6d h
 refine Ret.ctl (Z54 (fun k s=>∃ (a cnt:Nat) (r':Int×List X3×List (List Int)),s=((cnt:Int),(a:Int))∧runK code lst v k a=some r'∧r'.1=r.1∧r'.2.1=r.2.1∧cnt+r'.2.2.length=r.2.2.length) (fun a=>a=(r.1,r.2.1,(r.2.2.length:Int))) (fun _=>False) (fun s hI=>?_) (fun k s hI=>?_) k NN (0,0) ⟨0,0,r,rfl,h,rfl,rfl,by omega⟩ (by simp only [NN];omega)) (fun a ha=>.some ha) (fun s hs=>hs.elim)
 ·obtain ⟨_,_,_,_,h1,_⟩:=hI
  cases h1
 ·obtain ⟨a,cnt,r',rfl,h1,h2,h3,h4⟩:=hI
  rw [runK,U12] at h1
  obtain ⟨s,hs,h1⟩:=h1
  have hso:=hc s (U1 hs)
  have hal:=(List.getElem?_eq_some_iff.1 hs).1
  dsimp only
  rw [Q0f hs]
  simp only [U0]
  by_cases o3:s.op=3
  ·rw [if_pos o3] at h1
   rw [if_pos (by rw [Q9];exact o3)]
   cases h1
   refine .some ?_
   simp only [Z48]
   simp only [U4,Nat.add_zero] at h4
   rw [←h2,←h3,←h4]
  ·rw [if_neg o3] at h1
   rw [if_neg (by rw [Q9];exact o3),ht]
   simp only [U0]
   by_cases o1:s.op=1
   ·rw [if_pos o1] at h1
    rw [if_pos (by rw [Q9];exact o1)]
    obtain ⟨u,hu,h1⟩:=U12.1 h1
    obtain ⟨r2,h5,rfl⟩:=U11.1 h1
    simp only [U3] at h4
    rw [Z2n hu]
    simp only [U0]
    rw [W1l]
    simp only [U0]
    rw [V9 (by omega) (by omega),V9 (by omega) (by omega)]
    cases hp:Z7k s u with
    | true=>
     rw [hp] at h5
     simp only [if_true] at h5
     simp only [Bool.not_true,U2,if_false,U0]
     exact .some ⟨a+1,cnt+1,r2,by simp,h5,h2,h3,by omega⟩
    | false=>
     rw [hp] at h5
     simp only [U2,if_false] at h5
     simp only [Bool.not_false,if_true,U0]
     exact .some ⟨s.to.toNat,cnt+1,r2,by rw [Int.toNat_of_nonneg hso.to];simp,h5,h2,h3,by omega⟩
   ·rw [if_neg o1] at h1
    rw [if_neg (by rw [Q9];exact o1)]
    obtain ⟨l,hl',h1⟩:=U12.1 h1
    obtain ⟨c,hcl,h1⟩:=U12.1 h1
    rw [Z3q hv hso.bl hl']
    simp only [U0]
    rw [hcl]
    simp only [U0]
    rw [Z8p c.guard (by rw [Q6r hl'];exact hso.nd)]
    simp only [U0]
    by_cases hg:J8 c.guard l=true
    ·rw [if_pos hg] at h1 ⊢
     cases h1
     refine .some ?_
     simp only [Z48]
     simp only [U4,Nat.add_zero] at h4
     rw [←h2,←h3,←h4]
    ·rw [if_neg hg] at h1 ⊢
     exact .some ⟨s.to.toNat,cnt,r',by rw [Int.toNat_of_nonneg hso.to],h1,h2,h3,h4⟩
theorem W07 {code:List X8}{lst:List Q3}{v:Q2}(hv:Z1m 10 v)(hc:∀ s∈code,X9l s)(hl:code.length≤100000){k:Nat}{r:Int×List X3×List (List Int)}(h:runK code lst v k 0=some r)(hk:k≤100000) :
  Q83 NN lst code v=some r:=by
 suffices hs:Ret (Q83 NN lst code v) (fun a=>a=r) by
  obtain ⟨_,e,rfl⟩:=hs
  exact e
 unfold Q83
 have hr:=Z6d h
 refine Ret.ctl (Z54 (fun k s=>∃ (a:Nat) (ps:List (List Int)) (r':Int×List X3×List (List Int)),s=((a:Int),ps)∧runK code lst v k a=some r'∧r'.1=r.1∧r'.2.1=r.2.1∧ps++r'.2.2=r.2.2) (fun a=>a=r) (fun s=>((-1:Int),([]:List X3),s.2)=r) (fun s hI=>?_) (fun k s hI=>?_) k NN (0,[]) ⟨0,[],r,rfl,h,rfl,rfl,rfl⟩ (by simp only [NN];omega)) (fun a ha=>.some ha) (fun s hs=>.some hs)
 ·obtain ⟨_,_,_,_,h1,_⟩:=hI
  cases h1
 ·obtain ⟨a,ps,r',rfl,h1,h2,h3,h4⟩:=hI
  have hpl:ps.length≤100000:=by
   have:=congrArg List.length h4
   rw [U5] at this
   omega
  have hrr:r=(r.1,r.2.1,r.2.2):=rfl
  rw [runK,U12] at h1
  obtain ⟨s,hs,h1⟩:=h1
  have hso:=hc s (U1 hs)
  have hal:=(List.getElem?_eq_some_iff.1 hs).1
  dsimp only
  rw [Q0f hs]
  simp only [U0]
  by_cases o3:s.op=3
  ·rw [if_pos o3] at h1
   have e3:ieq s.op 3=true:=by rw [Q9];exact o3
   simp only [e3,Bool.not_true,U2,if_false]
   cases h1
   refine .some ?_
   simp only [Z15]
   rw [List.append_nil] at h4
   rw [hrr,←h2,←h3,←h4]
  ·rw [if_neg o3] at h1
   have e3:ieq s.op 3=false:=by rw [X2];exact o3
   simp only [e3,Bool.not_false,if_true]
   by_cases o1:s.op=1
   ·rw [if_pos o1] at h1
    rw [if_neg (by rw [Q9];omega)]
    obtain ⟨u,hu,h1⟩:=U12.1 h1
    obtain ⟨r2,h5,rfl⟩:=U11.1 h1
    rw [X6 (by simp only [U3,U4,Q5];omega)]
    simp only [U0]
    rw [X05 hu]
    simp only [U0]
    rw [W4r]
    simp only [U0]
    cases hp:Z7k s u with
    | true=>
     rw [hp] at h5
     simp only [if_true] at h5
     simp only [if_true]
     rw [V9 (by omega) (by omega)]
     exact .some ⟨a+1,ps++[s.path],r2,by simp,h5,h2,h3,by rw [←h4];simp⟩
    | false=>
     rw [hp] at h5
     simp only [U2,if_false] at h5
     simp only [U2,if_false]
     exact .some ⟨s.to.toNat,ps++[s.path],r2,by rw [Int.toNat_of_nonneg hso.to],h5,h2,h3,by rw [←h4];simp⟩
   ·rw [if_neg o1] at h1
    have o2:s.op=2:=by rcases hso.op with h | h | h<;>omega
    rw [if_pos (by rw [Q9];exact o2)]
    obtain ⟨l,hl',h1⟩:=U12.1 h1
    obtain ⟨c,hcl,h1⟩:=U12.1 h1
    rw [X7e hv hso.bl hl']
    simp only [U0]
    rw [hcl]
    simp only [U0]
    rw [X7c]
    simp only [U0]
    by_cases hg:J8 c.guard l=true
    ·rw [if_pos hg] at h1 ⊢
     cases h1
     refine .some ?_
     simp only [Z48]
     rw [List.append_nil] at h4
     rw [hrr,←h2,←h3,←h4]
    ·rw [if_neg hg] at h1 ⊢
     exact .some ⟨s.to.toNat,ps,r',by rw [Int.toNat_of_nonneg hso.to],h1,h2,h3,h4⟩
theorem V6g {w:List Q4}(hww:w∈Q0r){t:Q7}(ht:t∈tys w){cs:List Q3}(hc:Z63 w t cs=(Z1n 0 0 cs,true)){v:Q2}(hv:Q3u w 10 t v):∃ (k:Nat) (ps:List (List Int)),k≤50000∧runK (Z1n 0 0 cs) cs v k 0=some ((runR (runD v 0 cs)).1,(runR (runD v 0 cs)).2,ps)∧(Z1n 0 0 cs).length≤50000∧(∀ s∈Z1n 0 0 cs,X9l s)∧Q2m w t cs=true:=by
 unfold Z63 at hc
 split at hc
 ·rename_i h
  obtain ⟨h8,hP⟩:=Q89 h.1
  have hlc:=X53 (w:=w) (t:=t) (cs:=cs) (fun c hcm=>⟨hP c hcm,by simpa using List.all_eq_true.1 h.2 c hcm⟩)
  have hl:(Z1n 0 0 cs).length≤50000:=by rw [Z9t,U5,Z74,List.length_singleton];omega
  obtain ⟨k,ps,h1,h2⟩:=X74 (ww hww) (ws hww) (wl hww) ht (lst:=cs) hv (code:=Z1n 0 0 cs) cs 0 0 hP (fun j c hj=>by rwa [Nat.zero_add]) (fun j x hx=>by rwa [Nat.zero_add])
  exact ⟨k,ps,by omega,by have:=h2 0;rwa [Nat.zero_add] at this,hl,X48 hP,h.1⟩
 ·have:=congrArg Prod.snd hc
  cases this
theorem W20 (code:List Int)(hb:∀ x∈code,0≤x∧x≤255):Ret (Q2o NN code) (fun a=>a.1∈Q0r∧a.2.1∈tys a.1):=by
 unfold Q2o
 refine Ret.bind (W2t code hb) (fun r hr=>?_)
 obtain ⟨hr,hp0⟩:=hr
 refine Ret.bind (X3e (hr.le (by omega))) (fun a ha=>?_)
 obtain ⟨h1,h2,h3,h4,h5,h6,_⟩:=ha
 have hr1:ROk a.2.2.2.2 900000:=ROk.nx (c:=4000) (hr.le (by omega)) h5
 refine Ret.bind (Z7o (hr1.le (by omega)) a.2.2.1 (by omega) (fun c hc=>by have:=Z7c (ww h1) h2 (h3 c hc);omega)) (fun b hb=>?_)
 have hr2:ROk b.2 800000:=ROk.nx (c:=10) (hr1.le (by omega)) hb.2
 have hp:b.2.p≤5000:=by
  have e1:=h5.ge
  have e2:=hb.2.ge
  omega
 refine Ret.bind (X3t (hr2.le (by omega)) hp (Z45 (by omega) _ h6)) (fun d _=>.some ⟨h1,h2⟩)
theorem X54 (code:List Int)(hb:∀ x∈code,0≤x∧x≤255):Q3e NN code=some true:=by
 suffices hr:Ret (Q3e NN code) (fun r=>r=true) by
  obtain ⟨_,e,rfl⟩:=hr
  exact e
 unfold Q3e Q5f
 refine Ret.ite (fun _=>.some rfl) (fun _=>?_)
 obtain ⟨⟨w,t,cs,v⟩,e,hww,ht⟩:=W20 code hb
 rw [e]
 simp only [U0] at hww ht ⊢
 have hw:=ww hww
 have hno:Q13 NN [] []=some true:=Z8o (fun b hb=>by cases hb)
 unfold Q8o Q8m
 rw [X8a hww ht,X76 hww ht]
 simp only [U0]
 have n1:ieq (-1:Int) (-1)=true:=rfl
 have n2:ilt (-1:Int) 0=true:=rfl
 by_cases hs:Z63 w t cs=(Z1n 0 0 cs,true)
 ·rw [hs]
  simp only [Bool.not_true,U2,if_false]
  rw [Z3o hw ht,Z8e hw ht]
  simp only [U0]
  by_cases hv:Q9z w t v=true
  ·obtain ⟨k,ps,hk,h1,h2,h3,hcl⟩:=V6g hww ht hs (Q92 hv)
   have hg:=Q92 hv
   have hdv:=Z1z hw 10 t v ht hg
   have hps:=Z6d h1
   have hps2:ps.length≤50000:=Nat.le_trans hps hk
   simp only [hv,Bool.not_true,U2,if_false]
   rw [W0v hdv h3 (by omega) (told:=fun a0=>Q73 a0) (fun _=>rfl) h1 (by omega),W07 hdv h3 (by omega) h1 (by omega)]
   simp only [U0]
   have hpt:=Z8o (Y3y hw ht (Q89 hcl).2 hg)
   have e1:ieq (runR (runD v 0 cs)).1 (runR (runD v 0 cs)).1=true:=by rw [Q9]
   have e2:ieq (ps.length:Int) (lenZ ps.length)=true:=by rw [Q9,V7]
   have e3:ilt (ps.length:Int) 0=false:=by rw [W6];omega
   simp only [e1,e2,e3,hpt,Bool.not_true,U2,if_false,U0]
   rw [V4k hw ht,V8u hcl hv]
   simp only [U0,if_true,e1,hpt]
   exact .some rfl
  ·simp only [hv,Bool.not_false,if_true,U0,n1,n2,Bool.not_true,U2,if_false,hno]
   exact .some rfl
 ·have hs2:Z63 w t cs=([],false):=by
   unfold Z63 at hs ⊢
   split
   ·rename_i h
    rw [if_pos h] at hs
    exact absurd rfl hs
   ·rfl
  rw [hs2]
  simp only [Bool.not_false,if_true,U0,n1,n2,Bool.not_true,U2,if_false,hno]
  exact .some rfl
end Go.Proofs.YtfhpjeogjcfkaaaGreat
