import Derived.Test.YtjgapphpbkapmaaGreatJMb0
import Derived.Test.YtjgapphpbkapmaaGreatJP1
set_option linter.unusedSimpArgs false
set_option linter.unusedVariables false
namespace Go.Proofs.YtjgapphpbkapmaaGreat
open Go Go.RowKit
theorem Z9t (l:List Q4) (f:Q4→Option Bool) (g:Q4→Bool) (hf:∀ x∈l,f x=some (g x)):Q07 l f=some (l.any g):=X9k (Q9n l f g hf)
theorem W8c {w:List Q3} (hw:WW w):∀ (d n:Nat) (t:Q4) (p:Q0) (v:Q1) (e:Nat),t∈tys w→Q0l w d t p=true→Q46 w e t v→d+2≤n→cntP p≤1000→
  Ret (Q3f n p v) (fun r=>r.1.length≤cntP p∧r.2=(Z7 d p v).isSome∧∀ l,Z7 d p v=some l→r.1=l):=by
 intro d
 induction d with
 | zero=>intro n t p v e ht h;cases h
 | succ d ih=>
  intro n t p v e ht hg hv hn hc
  obtain ⟨n,rfl⟩:∃ k,n=k+1:=⟨n-1,by omega⟩
  obtain ⟨ho,hl⟩:=Q0w (Q04 hg)
  have hT:=hw.ty t ht
  have hpos:=X2d p
  unfold Q3f
  refine Ret.ite (fun h=>?_) (fun h1=>?_)
  ·rw [Q8] at h
   exact .some ⟨by simp,by simp [Z7,h],fun l hl=>by simp [Z7,h] at hl;exact hl.symm⟩
  rw [Z9] at h1
  refine Ret.ite (fun h=>?_) (fun h2=>?_)
  ·rw [Q8] at h
   exact .some ⟨by simp;omega,by simp [Z7,h],fun l hl=>by simp [Z7,h] at hl;exact hl⟩
  rw [Z9] at h2
  refine Ret.ite (fun h=>?_) (fun h3=>?_)
  ·rw [Q8] at h
   rw [Q7g]
   refine .some ⟨by simp,?_,fun l hl=>?_⟩
   ·by_cases hr:p.n≤v.n∧v.n≤p.m
    ·simp [Z7,h,hr]
    ·simp only [Z7,h]
     simp [hr]
     simpa using hr
   ·simp only [Z7,h] at hl
    simp at hl
    exact hl.2.symm
  rw [Z9] at h3
  refine Ret.ite (fun h=>?_) (fun h5=>?_)
  ·rw [Q8] at h
   obtain ⟨a,b,hkids,hk⟩:=kid0 h hl
   have ca:=Z33 (p:=p) (k:=0) (by rw [hkids];rfl)
   have cb:=Z33 (p:=p) (k:=1) (by rw [hkids];rfl)
   have ga:=Y7 hg (k:=0) (by rw [hk];rfl) (by rw [hkids];rfl)
   have gb:=Y7 hg (k:=1) (by rw [hk];rfl) (by rw [hkids];rfl)
   have i0:idx [a,b] 0=some a:=rfl
   have i1:idx [a,b] 1=some b:=rfl
   rw [hkids,i0,i1]
   simp only [U0]
   have hm:Z7 (d+1) p v=(match Z7 d a v with | some l=>some l | none=>Z7 d b v):=by
    simp [Z7,h,hkids] <;> rfl
   rw [hm]
   refine Ret.bind (ih n t a v e ht ga hv (by omega) (by omega)) (fun r hr=>?_)
   obtain ⟨r0,r1,r2⟩:=hr
   rw [r1]
   cases hma:Z7 d a v with
   | some l=>exact .some ⟨by simp only;omega,rfl,fun l' hl'=>by cases hl';exact r2 l hma⟩
   | none=>
    simp only [Option.isSome_none,U2,if_false]
    refine Ret.bind (ih n t b v e ht gb hv (by omega) (by omega)) (fun s hs=>?_)
    obtain ⟨s0,s1,s2⟩:=hs
    exact .some ⟨by simp only;omega,s1,fun l' hl'=>s2 l' hl'⟩
  rw [Z9] at h5
  refine Ret.ite (fun h=>?_) (fun h6=>?_)
  ·rw [Q8] at h
   obtain ⟨a,hkids,hk⟩:=Z7s h hl
   have ca:=Z33 (p:=p) (k:=0) (by rw [hkids];rfl)
   have ga:=Y7 hg (k:=0) (by rw [hk];rfl) (by rw [hkids];rfl)
   have i0:idx [a] 0=some a:=rfl
   rw [hkids,i0]
   simp only [U0]
   have hm:Z7 (d+1) p v=(Z7 d a v).map (fun l=>⟨p.var,v⟩::l):=by
    simp [Z7,h,hkids]
   rw [hm]
   refine Ret.bind (ih n t a v e ht ga hv (by omega) (by omega)) (fun r hr=>?_)
   obtain ⟨r0,r1,r2⟩:=hr
   rw [W3 (by simp [Q5];omega)]
   refine .some ⟨by simp;omega,by rw [r1];simp,fun l' hl'=>?_⟩
   simp only [U11] at hl'
   obtain ⟨l,e1,rfl⟩:=hl'
   rw [r2 l e1]
   rfl
  rw [Z9] at h6
  have h4:p.op=4:=by
   simp [Z22,h1,h2,h3,h5,h6] at ho
   exact ho.2.1
  have hcm:=Q82 ho h4
  have hm:Z7 (d+1) p v=if p.ctor=v.ctor then V3 (Z7 d) p.kids v.kids else none:=by
   simp [Z7,h4]
  rw [hm]
  refine Ret.ite (fun h=>?_) (fun h=>?_)
  ·rw [Bool.not_eq_true',Z9] at h
   rw [if_neg h]
   exact .some ⟨by simp,rfl,fun l hl=>by cases hl⟩
  ·rw [Bool.not_eq_false',Q8] at h
   rw [if_pos h]
   have hkt:Y0 w t p=V6 w t p.ctor:=by simp [Y0,h4]
   obtain ⟨e,rfl⟩:∃ e',e=e'+1:=by cases e with
    | zero=>exact hv.elim
    | succ e=>exact ⟨e,rfl⟩
   have hdata:t.data≠-1:=fun hd=>by
    obtain ⟨rfl,_⟩:=hT.ti hd
    have:X3 w tI=[]:=rfl
    rw [this] at hcm
    cases hcm
   simp only [Q46,if_neg hdata] at hv
   obtain ⟨v1,v2,v3,v4⟩:=hv
   rw [←h] at v3 v4
   have hlen:p.kids.length=v.kids.length:=by rw [v3,hl,hkt]
   refine Ret.ctl (Z4 p.kids (fun k s=>V3 (Z7 d) p.kids v.kids=(V3 (Z7 d) (p.kids.drop k) (v.kids.drop k)).map (fun l=>s++l)∧s.length≤cntP.cntPs (p.kids.take k)) (fun r=>r=([],false)∧V3 (Z7 d) p.kids v.kids=none)
    (fun s=>V3 (Z7 d) p.kids v.kids=some s∧s.length≤cntP.cntPs p.kids) ⟨by simp,by simp⟩ (fun k q s hq hI=>?_) (fun s hI=>?_)) (fun r hr=>?_) (fun s hs=>?_)
   ·obtain ⟨i1,i2⟩:=hI
    have hlt:=(List.getElem?_eq_some_iff.1 hq).1
    have hx:v.kids[k]?=some (v.kids[k]'(by omega)):=by simp
    have ha:(Y0 w t p)[k]?=some ((Y0 w t p)[k]'(by omega)):=by simp
    rw [Q2a hx]
    simp only [U0]
    have cq:=Z33 hq
    have hcd:=Q8h p.kids k q hq
    have hct:=Q4i p.kids (k+1)
    have hcp:=Z1m p
    refine Ret.bind (ih n _ q _ e (Q6y hT ht ho _ (U1 ha)) (Y7 hg ha hq) (v4 k _ _ (by rw [←hkt];exact ha) hx) (by omega) (by omega)) (fun r hr=>?_)
    obtain ⟨r0,r1,r2⟩:=hr
    have hd1:p.kids.drop k=q::p.kids.drop (k+1):=by
     rw [List.drop_eq_getElem_cons hlt]
     rw [U9 hlt] at hq
     cases hq
     rfl
    have hd2:v.kids.drop k=v.kids[k]'(by omega)::v.kids.drop (k+1):=List.drop_eq_getElem_cons (by omega)
    rw [hd1,hd2] at i1
    simp only [V3] at i1
    cases hmq:Z7 d q (v.kids[k]'(by omega)) with
    | none=>
     rw [hmq] at i1 r1
     rw [r1]
     exact .some ⟨rfl,i1⟩
    | some l=>
     rw [hmq] at i1 r1
     have e1:=r2 l hmq
     rw [r1]
     simp only [Option.isSome_some,Bool.not_true,U2,if_false]
     rw [W3 (by simp only [Q5];omega),e1]
     refine .some ⟨?_,by rw [U5,←e1];omega⟩
     rw [i1]
     cases V3 (Z7 d) (p.kids.drop (k+1)) (v.kids.drop (k+1)) with
     | none=>rfl
     | some m=>simp
   ·obtain ⟨i1,i2⟩:=hI
    rw [List.take_length] at i2
    refine ⟨?_,i2⟩
    rw [i1,List.drop_length]
    simp [V3]
   ·obtain ⟨rfl,hr⟩:=hr
    exact .some ⟨by simp,by rw [hr];rfl,fun l hl=>by rw [hr] at hl;cases hl⟩
   ·have hcp:=Z1m p
    exact .some ⟨by simp only;omega,by rw [hs.1];rfl,fun l hl=>by rw [hs.1] at hl;cases hl;rfl⟩
theorem W0h:∀ (d:Nat) (p:Q0) (e:Nat) (v:Q1) (l:List X8),Z4g e v→Z7 d p v=some l→∀ b∈l,∃ e',e'≤e∧Z4g e' b.value:=by
 intro d
 induction d with
 | zero=>intro p e v l _ h;cases h
 | succ d ih=>
  intro p e v l hv hm b hb
  rw [Z7] at hm
  split at hm
  ·cases hm;cases hb
  split at hm
  ·cases hm
   simp only [U8,List.not_mem_nil,or_false] at hb
   subst hb
   exact ⟨e,Nat.le_refl _,hv⟩
  split at hm
  ·split at hm
   ·cases hm;cases hb
   ·cases hm
  split at hm
  ·split at hm
   ·split at hm
    ·rename_i l' hl'
     cases hm
     exact ih _ e v _ hv hl' b hb
    ·exact ih _ e v _ hv hm b hb
   ·cases hm
  split at hm
  ·split at hm
   ·rename_i a _
    cases ha:Z7 d a v with
    | none=>rw [ha] at hm;cases hm
    | some l'=>
     rw [ha] at hm
     cases hm
     rcases U8.1 hb with h | h
     ·subst h
      exact ⟨e,Nat.le_refl _,hv⟩
     ·exact ih _ e v _ hv ha b h
   ·cases hm
  split at hm
  ·cases e with
   | zero=>exact hv.elim
   | succ e=>
    have hk:=hv.2
    have gen:∀ (ps:List Q0) (vs:List Q1) (l:List X8),(∀ x∈vs,Z4g e x)→V3 (Z7 d) ps vs=some l→∀ b∈l,∃ e',e'≤e∧Z4g e' b.value:=by
     intro ps
     induction ps with
     | nil=>intro vs l _ h b hb;simp only [V3] at h;cases h;cases hb
     | cons q ps ihp=>
      intro vs l hvs h b hb
      cases vs with
      | nil=>cases h
      | cons u vs=>
       simp only [V3] at h
       cases hq:Z7 d q u with
       | none=>rw [hq] at h;cases h
       | some l1=>
        rw [hq] at h
        simp only at h
        cases hps:V3 (Z7 d) ps vs with
        | none=>rw [hps] at h;cases h
        | some l2=>
         rw [hps] at h
         cases h
         rcases List.mem_append.1 hb with hb | hb
         ·exact ih q e u l1 (hvs u (by simp)) hq b hb
         ·exact ihp vs l2 (fun x hx=>hvs x (by simp [hx])) hps b hb
    obtain ⟨e',h1,h2⟩:=gen _ _ _ hk hm b hb
    exact ⟨e',by omega,h2⟩
  ·cases hm
theorem W7d {w:List Q3} {t:Q4} {p:Q0} {d:Nat} (g:Q0l w d t p=true) (l:linD w d t p=true):(Q1d w d t p).length≤6:=by
 have h1:=Q49 d t p g l
 simp only [Q1k,decide_eq_true_eq] at h1
 have:=Z2p 6 _ h1 (fun x hx=>by
  obtain ⟨y,hy,rfl⟩:=U10.1 hx
  have:=Z1r d t p g y hy
  omega)
 simpa using this
theorem X7p (a b:Int):Q1a a b=some (if a<b then -1 else if b<a then 1 else 0):=by
 unfold Q1a Q45
 have e1:(!ieq a a)=false:=by simp [ieq]
 have e2:(!ieq b b)=false:=by simp [ieq]
 simp only [U0,e1,e2,U2,if_false]
 by_cases h:a<b
 ·have e:ilt a b=true:=by rw [X4];exact h
  simp only [e,if_true,if_pos h]
 ·have e:ilt a b=false:=by rw [W1];omega
  simp only [e,U2,if_false,if_neg h]
  by_cases h2:b<a
  ·have e:ilt b a=true:=by rw [X4];exact h2
   simp only [e,if_true,if_pos h2]
  ·have e:ilt b a=false:=by rw [W1];omega
   simp only [e,U2,if_false,if_neg h2]
theorem X6l (a b:X8):Q1n a b=some (if a.var<b.var then -1 else if b.var<a.var then 1 else 0):=by
 unfold Q1n
 rw [X7p]
 rfl
def OrdV (l:List X8) (i j:Nat):Prop:=∀ a b x y,a<b→b≤i→b≠j→l[a]?=some x→l[b]?=some y→x.var≤y.var
theorem W0i {n:Nat} (hn:30≤n) (l:List X8) (hl:l.length≤12) :
  Ret (J1 n l 0 (lenZ l.length) (fun a b=>Q1n a b)) (fun r=>r.Perm l∧r.Pairwise (fun x y=>x.var≤y.var)):=by
 unfold J1
 have z1:wadd .i64 0 1=1:=rfl
 rw [z1]
 refine Ret.ctl (Q1v (fun s:List X8×Int=>s.1.Perm l∧1≤s.2∧s.2≤13∧∀ a b x y,a<b→b<s.2.toNat→s.1[a]?=some x→s.1[b]?=some y→x.var≤y.var) (fun s=>(14-s.2).toNat) (fun _=>False) (fun s=>s.1.Perm l∧s.1.Pairwise (fun x y=>x.var≤y.var)) ⟨.rfl,by simp,by simp,fun a b x y h1 h2=>by simp at h2;omega⟩ (fun s hI=>?_) n (by simp;omega)) (fun r hr=>hr.elim) (fun s hs=>.some hs)
 obtain ⟨i1,i3,i4,i5⟩:=hI
 refine Ret.ite (fun hlt=>?_) (fun hge=>?_)
 ·rw [X4] at hlt
  simp only [lenZ] at hlt
  refine Ret.ctl (Q1v (fun u:List X8×Int=>u.1.Perm l∧0≤u.2∧u.2≤s.2∧OrdV u.1 s.2.toNat u.2.toNat) (fun u=>u.2.toNat) (fun _=>False) (fun u=>u.1.Perm l∧∀ a b x y,a<b→b≤s.2.toNat→u.1[a]?=some x→u.1[b]?=some y→x.var≤y.var) ⟨i1,by omega,Int.le_refl _,fun a b x y h1 h2 h3=>i5 a b x y h1 (by omega)⟩ (fun u hJ=>?_) n (by omega)) (fun r hr=>hr.elim) (fun u hu=>?_)
  ·obtain ⟨j1,j3,j4,j5⟩:=hJ
   have hlen:=j1.length_eq
   refine Ret.ite (fun hp=>?_) (fun hp=>?_)
   ·rw [X4] at hp
    have hs:wsub .i64 u.2 1=u.2-1:=Q1u (by omega) (by omega)
    rw [hs]
    have ex:idx u.1 u.2=some (u.1[u.2.toNat]'(by omega)):=Z0b j3 (U9 (by omega))
    have ey:idx u.1 (u.2-1)=some (u.1[(u.2-1).toNat]'(by omega)):=Z0b (by omega) (U9 (by omega))
    have gx:u.1[u.2.toNat]?=some (u.1[u.2.toNat]'(by omega)):=U9 (by omega)
    have gy:u.1[u.2.toNat-1]?=some (u.1[(u.2-1).toNat]'(by omega)):=by
     rw [show u.2.toNat-1=(u.2-1).toNat by omega]
     exact U9 (by omega)
    have hperm:=(List.set_set_perm (as:=u.1) (i:=u.2.toNat) (j:=(u.2-1).toNat) (by omega) (by omega)).trans j1
    generalize u.1[u.2.toNat]'(by omega)=x at *
    generalize u.1[(u.2-1).toNat]'(by omega)=y at *
    rw [ex,ey]
    simp only [U0]
    rw [X6l]
    simp only [U0]
    by_cases hxy:x.var<y.var
    ·rw [if_pos hxy]
     have e:ilt (-1) 0=true:=rfl
     simp only [e,if_true]
     rw [Z4u j3 (by omega)]
     simp only [U0]
     obtain ⟨z,ez,_⟩:=Q3h (xs:=u.1.set u.2.toNat y) (i:=u.2-1) (by omega) (by simp;omega)
     rw [ez]
     simp only [U0]
     rw [Z4u (by omega) (by simp;omega)]
     refine .some ⟨⟨hperm,by simp;omega,by simp;omega,?_⟩,by simp;omega⟩
     simp only
     have hget:∀ (m:Nat) (v:X8),((u.1.set u.2.toNat y).set (u.2-1).toNat x)[m]?=some v→(m=u.2.toNat-1∧v=x)∨(m=u.2.toNat∧v=y)∨(m≠u.2.toNat-1∧m≠u.2.toNat∧u.1[m]?=some v):=fun m v hv=>by
      rw [List.getElem?_set] at hv
      split at hv
      ·split at hv
       ·cases hv;exact .inl ⟨by omega,rfl⟩
       ·cases hv
      ·rw [List.getElem?_set] at hv
       split at hv
       ·split at hv
        ·cases hv;exact .inr (.inl ⟨by omega,rfl⟩)
        ·cases hv
       ·exact .inr (.inr ⟨by omega,by omega,hv⟩)
     intro a b p q hab hbi hbj hp' hq'
     rcases hget a p hp' with ⟨ha,rfl⟩ | ⟨ha,rfl⟩ | ⟨ha,ha',hpa⟩
     ·rcases hget b q hq' with ⟨hb,rfl⟩ | ⟨hb,rfl⟩ | ⟨hb,hb',hqb⟩
      ·omega
      ·omega
      ·exact j5 u.2.toNat b _ _ (by omega) hbi hb' gx hqb
     ·rcases hget b q hq' with ⟨hb,rfl⟩ | ⟨hb,rfl⟩ | ⟨hb,hb',hqb⟩
      ·omega
      ·omega
      ·exact j5 (u.2.toNat-1) b _ _ (by omega) hbi hb' gy hqb
     ·rcases hget b q hq' with ⟨hb,rfl⟩ | ⟨hb,rfl⟩ | ⟨hb,hb',hqb⟩
      ·exact absurd hb (by omega)
      ·exact j5 a (u.2.toNat-1) _ _ (by omega) (by omega) (by omega) hpa gy
      ·exact j5 a b _ _ hab hbi hb' hpa hqb
    ·rw [if_neg hxy]
     have e:ilt (if y.var<x.var then 1 else 0) 0=false:=by split<;>rfl
     simp only [e,U2,if_false]
     refine .some ⟨j1,fun a b p q hab hbi hp' hq'=>?_⟩
     by_cases hbj:b=u.2.toNat
     ·subst hbj
      rw [gx] at hq'
      cases hq'
      by_cases haj:a=u.2.toNat-1
      ·subst haj
       rw [gy] at hp'
       cases hp'
       omega
      ·have:=j5 a (u.2.toNat-1) p y (by omega) (by omega) (by omega) hp' gy
       omega
     ·exact j5 a b p q hab hbi hbj hp' hq'
   ·rw [W1] at hp
    refine .some ⟨j1,fun a b p q hab hbi hp' hq'=>j5 a b p q hab hbi (by omega) hp' hq'⟩
  ·obtain ⟨u1,u2⟩:=hu
   have hw:wadd .i64 s.2 1=s.2+1:=Y5 (by omega) (by omega)
   refine .some ⟨⟨u1,by simp only [hw];omega,by simp only [hw];omega,fun a b x y h1 h2=>u2 a b x y h1 (by simp only [hw] at h2;omega)⟩,by simp only [hw];omega⟩
 ·rw [W1] at hge
  simp only [lenZ] at hge
  refine .some ⟨i1,?_⟩
  rw [List.pairwise_iff_getElem]
  intro a b ha hb hab
  have hlen:=i1.length_eq
  have hb':b<s.1.length:=hb
  exact i5 a b _ _ hab (by omega) (U9 ha) (U9 hb)
theorem W7u {n:Nat} (hn:40≤n) {l:List X8} (hl:l.length≤12) (hd:(l.map (·.var)).Nodup) (hv:∀ b∈l,0≤b.var∧b.var≤5) :
  Q0y n l (fun a b=>Q1n a b)=some (Q90 l):=by
 suffices hs:Ret (Q0y n l (fun a b=>Q1n a b)) (fun r=>r=Q90 l) by
  obtain ⟨a,e,rfl⟩:=hs
  exact e
 unfold Q0y
 obtain ⟨b,hb⟩:=Option.isSome_iff_exists.1 (List.all_eq_true.1 V19 l.length (List.mem_range.2 (by omega)))
 rw [hb]
 simp only [U0]
 have fin:∀ r:List X8,r.Perm l→r.Pairwise (fun x y=>x.var≤y.var)→r=Q90 l:=fun r h1 h2=>
  Z2i r (Q90 l) (X06 h2 ((h1.map _).nodup_iff.2 hd)) (Q93 hd) (h1.trans (Q76 hv).symm)
 obtain ⟨n,rfl⟩:∃ k,n=k+1:=⟨n-1,by omega⟩
 refine Ret.bind (P:=fun r=>r.Perm l∧r.Pairwise (fun x y=>x.var≤y.var)) ?_ (fun r hr=>?_)
 ·unfold Q1b
  refine Ret.ctl (Q1v (fun _=>True) (fun _=>0) (fun r:List X8=>r.Perm l∧r.Pairwise (fun x y=>x.var≤y.var)) (fun _=>False) trivial (fun s _=>?_) n (by omega)) (fun r hr=>.some hr) (fun s hs=>hs.elim)
  have h0:wsub .i64 (lenZ l.length) 0=lenZ l.length:=by rw [Q1u]<;>simp only [lenZ]<;>omega
  rw [if_pos (by rw [Q15,h0];simp only [lenZ];omega)]
  refine Ret.bind (W0i (by omega) l hl) (fun r hr=>?_)
  rw [Z4h (by simp [hr.1.length_eq])]
  exact .some hr
 ·rw [Z4h (by simp [hr.1.length_eq])]
  exact .some (fin r hr.1 hr.2)
theorem X8h:∀ {a b:List Int},a.Nodup→(∀ x∈a,x∈b)→a.length=b.length→a.Perm b
 | [],b,_,_,h=>by have:b=[]:=List.eq_nil_of_length_eq_zero (by simpa using h.symm);rw [this]
 | x::a,b,hn,hs,h=>by
  have hx:=hs x (by simp)
  have hn':=List.nodup_cons.1 hn
  have hl:=List.length_erase_of_mem hx
  refine (List.Perm.cons x (X8h hn'.2 (fun y hy=>?_) (by simp at h;omega))).trans (List.perm_cons_erase hx).symm
  have hne:y≠x:=fun e=>hn'.1 (e▸hy)
  exact (List.mem_erase_of_ne hne).2 (hs y (by simp [hy]))
theorem X6g {a b:List Z1} (ha:Q1k a=true) (h:Q8y a b=true):(a.map (·.var)).Perm (b.map (·.var)):=by
 simp only [Q8y,Bool.and_eq_true,decide_eq_true_eq,List.all_eq_true] at h
 have hn:(a.map (·.var)).Nodup:=by simpa [Q1k] using ha
 refine X8h hn (fun x hx=>?_) (by simp [h.1])
 obtain ⟨v,hv,rfl⟩:=U10.1 hx
 exact U10.2 ⟨v,h.2 v hv,rfl⟩
theorem W0g {w:List Q3} : ∀ (d:Nat) (t:Q4) (p:Q0),Q0l w d t p=true→linD w d t p=true→∀ v l,Z7 d p v=some l→(l.map (·.var)).Perm ((Q1d w d t p).map (·.var)):=by
 intro d
 induction d with
 | zero=>intro t p h;cases h
 | succ d ih=>
  intro t p hg hlin v l hm
  obtain ⟨ho,hl⟩:=Q0w (Q04 hg)
  simp only [linD,Bool.and_eq_true,List.all_eq_true] at hlin
  rw [Q1d]
  rw [Z7] at hm
  have hnil:p.op≠4→p.op≠5→p.op≠6→Y0 w t p=[]:=fun h4 h5 h6=>by simp [Y0,h4,h5,h6]
  by_cases h1:p.op=1
  ·rw [if_pos h1] at hm;cases hm
   simp [ownV,h1,hnil]
  rw [if_neg h1] at hm
  by_cases h2:p.op=2
  ·rw [if_pos h2] at hm;cases hm
   simp [ownV,h2,hnil]
  rw [if_neg h2] at hm
  by_cases h3:p.op=3
  ·rw [if_pos h3] at hm
   split at hm
   ·cases hm
    simp [ownV,h3,hnil]
   ·cases hm
  rw [if_neg h3] at hm
  by_cases h5:p.op=5
  ·rw [if_pos h5] at hm
   obtain ⟨a,b,hkids,hkt⟩:=kid0 h5 hl
   have ga:=Y7 hg (k:=0) (by rw [hkt];rfl) (by rw [hkids];rfl)
   have gb:=Y7 hg (k:=1) (by rw [hkt];rfl) (by rw [hkids];rfl)
   have g0:=hlin.1 (t,a) (by rw [hkids,hkt];simp)
   have g1:=hlin.1 (t,b) (by rw [hkids,hkt];simp)
   have hal:=hlin.2
   rw [if_pos h5] at hal
   have k0:kv w d t p 0=Q1d w d t a:=by simp [kv,hkids,hkt]
   have k1:kv w d t p 1=Q1d w d t b:=by simp [kv,hkids,hkt]
   rw [k0,k1] at hal
   have hv:ownV t p=[]:=by simp [ownV,h5]
   rw [hv,hkids,hkt,if_pos h5]
   simp only [List.zip_cons_cons,List.zip_nil_right,List.take_succ_cons,List.take_zero,List.flatMap_cons,List.flatMap_nil,List.append_nil,List.nil_append]
   rw [hkids] at hm
   simp only at hm
   split at hm
   ·rename_i l' hl'
    cases hm
    exact ih t a ga g0 v _ hl'
   ·exact (ih t b gb g1 v _ hm).trans (X6g (Q49 d t a ga g0) hal).symm
  rw [if_neg h5] at hm
  rw [if_neg h5,List.take_of_length_le (by rw [List.length_zip];omega)]
  by_cases h6:p.op=6
  ·rw [if_pos h6] at hm
   obtain ⟨a,hkids,hk2⟩:=Z7s h6 hl
   have ga:=Y7 hg (k:=0) (by rw [hk2];rfl) (by rw [hkids];rfl)
   have g0:=hlin.1 (t,a) (by rw [hkids,hk2];simp)
   rw [hkids] at hm
   simp only at hm
   cases ha:Z7 d a v with
   | none=>rw [ha] at hm;cases hm
   | some l'=>
    rw [ha] at hm
    cases hm
    have:=ih t a ga g0 v l' ha
    rw [hkids,hk2]
    simpa [ownV,h6] using this
  rw [if_neg h6] at hm
  have hv:ownV t p=[]:=by simp [ownV,h2,h6]
  rw [hv,List.nil_append]
  split at hm
  ·have gen:∀ (ts:List Q4) (ps:List Q0) (vs:List Q1) (l:List X8),ts.length=ps.length→(∀ x∈ts.zip ps,∀ v l,Z7 d x.2 v=some l→(l.map (·.var)).Perm ((Q1d w d x.1 x.2).map (·.var)))→V3 (Z7 d) ps vs=some l→(l.map (·.var)).Perm (((ts.zip ps).flatMap fun x=>Q1d w d x.1 x.2).map (·.var)):=by
    intro ts ps
    induction ps generalizing ts with
    | nil=>intro vs l _ _ h;simp only [V3] at h;cases h;simp
    | cons q ps ihp=>
     intro vs l hl hx h
     cases ts with
     | nil=>simp at hl
     | cons a ts=>
      cases vs with
      | nil=>cases h
      | cons u vs=>
       simp only [V3] at h
       cases hq:Z7 d q u with
       | none=>rw [hq] at h;cases h
       | some l1=>
        rw [hq] at h
        simp only at h
        cases hps:V3 (Z7 d) ps vs with
        | none=>rw [hps] at h;cases h
        | some l2=>
         rw [hps] at h
         cases h
         have e1:=hx (a,q) (by simp) u l1 hq
         have e2:=ihp ts vs l2 (by simpa using hl) (fun x hxx=>hx x (by simp [hxx])) hps
         simp only [List.zip_cons_cons,List.flatMap_cons,List.map_append]
         exact e1.append e2
   refine gen _ _ _ _ hl.symm (fun x hx v l h=>?_) hm
   obtain ⟨j,hj⟩:=List.mem_iff_getElem?.1 hx
   obtain ⟨e1,e2⟩:=List.getElem?_zip_eq_some.1 hj
   exact ih _ _ (Y7 hg e1 e2) (hlin.1 x hx) v l h
  ·cases hm
theorem Z7k {w:List Q3} {d:Nat} {t:Q4} {p:Q0} (g:Q0l w d t p=true) (l:linD w d t p=true) {v:Q1} {r:List X8} (h:Z7 d p v=some r):X2o r:=by
 have hp:=W0g d t p g l v r h
 have hd:=Q49 d t p g l
 simp only [Q1k,decide_eq_true_eq] at hd
 refine ⟨hp.nodup_iff.2 hd,fun b hb=>?_,?_⟩
 ·obtain ⟨y,hy,e⟩:=U10.1 (hp.mem_iff.1 (List.mem_map_of_mem hb))
  have:=Z1r d t p g y hy
  omega
 ·have h1:=hp.length_eq
  have h2:=W7d g l
  simp only [U7] at h1
  omega
theorem V23 {l:List X8} (hn:(l.map (·.var)).Nodup) {x y:X8} (hx:x∈l) (hy:y∈l) (h:x.var=y.var):x=y:=by
 induction l with
 | nil=>cases hx
 | cons a l ih=>
  simp only [List.map_cons,List.nodup_cons,U10,not_exists,not_and] at hn
  rcases U8.1 hx with h1 | h1
  ·rcases U8.1 hy with h2 | h2
   ·rw [h1,h2]
   ·exact absurd (by rw [←h1];exact h.symm) (hn.1 y h2)
  ·rcases U8.1 hy with h2 | h2
   ·exact absurd (by rw [←h2];exact h) (hn.1 x h1)
   ·exact ih hn.2 h1 h2
theorem W9w {l:List X8} (hn:(l.map (·.var)).Nodup) {x:X8} {v:Int} (hx:x∈l) (h:x.var=v):l.find? (fun b=>decide (b.var=v))=some x:=by
 cases hf:l.find? (fun b=>decide (b.var=v)) with
 | none=>
  have:=List.find?_eq_none.1 hf x hx
  simp [h] at this
 | some y=>
  have h1:=List.find?_some hf
  have h2:=List.mem_of_find?_eq_some hf
  simp only [decide_eq_true_eq] at h1
  rw [V23 hn h2 hx (by omega)]
theorem X4e (g:Q2i) {l:List X8} (hn:(l.map (·.var)).Nodup):Q03 g l=some (Q1j g l):=by
 suffices hs:Ret (Q03 g l) (fun r=>r=Q1j g l) by
  obtain ⟨a,e,rfl⟩:=hs
  exact e
 unfold Q03
 refine Ret.ite (fun h0=>.some ?_) (fun h0=>?_)
 ·rw [Q8] at h0
  simp [Q1j,h0]
 rw [Z9] at h0
 refine Ret.bind (Q9n l (fun a0=>Q23 a0 g) (fun b=>ieq b.var g.var) (fun _ _=>rfl)) (fun i hi=>?_)
 rcases hi with ⟨k,x,rfl,hx,hxv⟩ | ⟨rfl,hall⟩
 ·rw [if_neg (by rw [X4];omega),Q2a hx]
  simp only [U0]
  rw [Q8] at hxv
  have hG:Q1j g l=(ieq x.value.ctor (-1)&&((ieq g.op 1&&ilt x.value.n g.n)||(ieq g.op 2&&ieq x.value.n g.n))):=by
   unfold Q1j
   rw [W9w hn (U1 hx) hxv,decide_eq_false h0]
   rfl
  rw [hG]
  generalize ieq x.value.ctor (-1)=b1
  generalize ieq g.op 1=b2
  generalize ilt x.value.n g.n=b3
  generalize ieq g.op 2=b4
  generalize ieq x.value.n g.n=b5
  cases b1<;>cases b2<;>cases b3<;>cases b4<;>cases b5<;>exact .some rfl
 ·refine .some ?_
  have hf:l.find? (fun b=>decide (b.var=g.var))=none:=List.find?_eq_none.2 fun x hx=>by
   have:=hall x hx
   rw [Z9] at this
   simpa using this
  simp [Q1j,hf,h0]
def matR:Option (List X8)→List X8×Bool
 | none=>([],false)
 | some l=>(Q90 l,true)
theorem Z9b {w:List Q3} (hw:WW w) {t:Q4} (ht:t∈tys w) {p:Q0} (g:Q0l w 10 t p=true) (ln:linD w 10 t p=true) (hc:cntP p≤1000) {e:Nat} {v:Q1} (hv:Q46 w e t v) (he:e≤10) :
  Q4v NN p v=some (matR (Z7 10 p v)):=by
 suffices hs:Ret (Q4v NN p v) (fun r=>r=matR (Z7 10 p v)) by
  obtain ⟨a,e,rfl⟩:=hs
  exact e
 have hdv:=X2b e 10 v he (Z55 hw e t v ht hv)
 unfold Q4v
 refine Ret.bind (W8c hw 10 NN t p v e ht g hv (by decide) hc) (fun r hr=>?_)
 obtain ⟨_,h2,h3⟩:=hr
 cases hm:Z7 10 p v with
 | none=>
  rw [hm] at h2
  simp only [Option.isSome_none] at h2
  rw [h2]
  exact .some rfl
 | some l=>
  rw [hm] at h2
  simp only [Option.isSome_some] at h2
  have h1:=h3 l hm
  have hb:=Z7k g ln hm
  rw [h2,h1]
  simp only [Bool.not_true,U2,if_false]
  rw [W7u (by decide) (by have:=hb.ln;omega) hb.nd hb.rg]
  have hpm:=Q76 hb.rg
  simp only [U0]
  rw [Z4h (by simp [hpm.length_eq])]
  simp only [U0]
  have hdb:∀ b∈Q90 l,Z4g 10 b.value:=fun b hb'=>by
   obtain ⟨e',h1,h2⟩:=W0h 10 p 10 v l hdv hm b (hpm.mem_iff.1 hb')
   exact X2b _ _ _ h1 h2
  rw [show matR (some l)=(Q90 l,true) from rfl]
  generalize Q90 l=r at *
  refine Ret.ctl (Z4 r (fun _ s=>s=r) (fun _=>False) (fun s=>s=r) rfl (fun k b s hb hI=>?_) (fun s hI=>hI)) (fun r hr=>hr.elim) (fun s hs=>.some (by rw [hs]))
  subst hI
  have hk:=(List.getElem?_eq_some_iff.1 hb).1
  have hy:s[k]?=some s[k]:=by simp
  rw [Q2a hy]
  simp only [U0]
  rw [Z2n 10 NN _ (hdb _ (U1 hy)) (by decide)]
  simp only [U0]
  rw [Z4u (by omega) (by omega)]
  refine .some ?_
  exact List.set_getElem_self (as:=s) (i:=k) hk
theorem W0k {w:List Q3} (hw:WW w) {t:Q4} (ht:t∈tys w) {l:List Q6} (hl:∀ c∈l,Q4y w t c.pat=true) {e:Nat} {v:Q1} (hv:Q46 w e t v) (he:e≤10) :
  Q8f NN l v=some (runR (runD v 0 l)):=by
 suffices hs:Ret (Q8f NN l v) (fun r=>r=runR (runD v 0 l)) by
  obtain ⟨a,e,rfl⟩:=hs
  exact e
 unfold Q8f
 refine Ret.ctl (Z4 l (fun k _=>runD v 0 l=runD v k (l.drop k)) (fun r:Int×List X8=>r=runR (runD v 0 l)) (fun _=>runD v 0 l=none) rfl (fun k c s hc hI=>?_) (fun s hI=>by rw [hI,List.drop_length];rfl)) (fun r hr=>.some hr) (fun s hs=>.some (by rw [hs];rfl))
 obtain ⟨g,c1,ln⟩:=Q88 (hl c (U1 hc))
 rw [Z30 hc] at hI
 simp only [runD] at hI
 rw [Z9b hw ht g ln (by omega) hv he]
 simp only [U0]
 cases hm:Z7 10 c.pat v with
 | none=>
  simp only [hm] at hI
  simp only [matR,U2,if_false,U0]
  exact .some hI
 | some r=>
  simp only [hm] at hI
  have hb:=Z7k g ln hm
  have hn:((Q90 r).map (·.var)).Nodup:=((Q76 hb.rg).map _).nodup_iff.2 hb.nd
  simp only [matR,if_true]
  rw [X4e _ hn,Z7u hb]
  simp only [U0]
  cases hg:Q1j c.guard r with
  | true=>
   rw [hg] at hI
   simp only [if_true,U0] at hI ⊢
   exact .some (by simp only [X8e];rw [hI];rfl)
  | false=>
   rw [hg] at hI
   simp only [U2,if_false,U0] at hI ⊢
   exact .some hI
theorem V0d {w:List Q3} (hw:WW w):∀ (d:Nat) (t:Q4) (v:Q1),t∈tys w→Q46 w d t v→2 * cntV v+1≤3 ^ d:=by
 intro d
 induction d with
 | zero=>intro t v _ h;exact h.elim
 | succ d ih=>
  intro t v ht h
  have hT:=hw.ty t ht
  have hcv:=Q5g v
  have hp:3≤3 ^ (d+1):=by
   have:=Nat.one_le_two_pow (n:=d)
   have h3:1≤3 ^ d:=Nat.one_le_pow _ _ (by omega)
   rw [Nat.pow_succ];omega
  simp only [Q46] at h
  split at h
  ·obtain ⟨_,_,_,h4⟩:=h
   rw [h4] at hcv
   simp only [cntV.cntVs] at hcv
   omega
  ·obtain ⟨_,h2,h3,h4⟩:=h
   have hal:=hT.al _ h2
   have key:∀ k,k≤v.kids.length→2 * cntV.cntVs (v.kids.take k)+k≤k * 3 ^ d:=by
    intro k
    induction k with
    | zero=>intro _;simp [cntV.cntVs]
    | succ k ihk=>
     intro hk
     have hx:v.kids[k]?=some (v.kids[k]'(by omega)):=by simp
     have ha:(V6 w t v.ctor)[k]?=some ((V6 w t v.ctor)[k]'(by omega)):=by simp
     have h5:=ih _ _ (hT.at_ _ h2 _ (U1 ha)) (h4 k _ _ ha hx)
     have h6:=ihk (by omega)
     rw [Q8g _ _ _ hx]
     have e:(k+1) * 3 ^ d=k * 3 ^ d+3 ^ d:=Nat.succ_mul _ _
     omega
   have h7:=key v.kids.length (Nat.le_refl _)
   rw [List.take_length] at h7
   have h8:v.kids.length * 3 ^ d≤3 * 3 ^ d:=Nat.mul_le_mul_right _ (by omega)
   rw [Nat.pow_succ]
   by_cases h0:v.kids.length=0
   ·rw [List.eq_nil_of_length_eq_zero h0] at hcv
    simp only [cntV.cntVs] at hcv
    rw [Nat.pow_succ] at hp
    omega
   ·have h9:v.kids.length=1∨v.kids.length=2∨v.kids.length=3:=by omega
    have h3d:1≤3 ^ d:=Nat.one_le_pow _ _ (by omega)
    rcases h9 with h9 | h9 | h9<;>rw [h9] at h7<;>omega
theorem X3k {w:List Q3} (hw:WW w) {d:Nat} (hd:d≤4) {t:Q4} {v:Q1} (ht:t∈tys w) (h:Q46 w d t v):Q8i w t v=true:=by
 have h1:=Z47 d 4 t v hd h
 have h2:=V0d hw 4 t v ht h1
 simp only [Q8i,Bool.and_eq_true,decide_eq_true_eq]
 exact ⟨(X0i 10 t v).2 (Z47 4 10 t v (by omega) h1),by omega⟩
theorem W3h {lst:List Q6} {v:Q1} : ∀ (d:Nat) (t:X9) (r:Int×List Int×Bool×List (List Int)),runP d t lst v=some r→(r.2.2.1=true→r.1 = -1∧∃ u,Q5h v r.2.1=some u∧u.ctor = -2)∧(r.2.2.1=false→r.2.1=[]):=by
 intro d
 induction d with
 | zero=>intro t r h;cases h
 | succ d ih=>
  intro t r hp
  rw [runP] at hp
  have mapc:∀ (x:X9) (f:List (List Int)→List (List Int)),((runP d x lst v).map fun r=>(r.1,r.2.1,r.2.2.1,f r.2.2.2))=some r→(r.2.2.1=true→r.1 = -1∧∃ u,Q5h v r.2.1=some u∧u.ctor = -2)∧(r.2.2.1=false→r.2.1=[]):=fun x f h=>by
   rw [U11] at h
   obtain ⟨y,hy,rfl⟩:=h
   exact ih x y hy
  by_cases h2:t.op=2
  ·rw [if_pos h2,U12] at hp
   obtain ⟨u,hu,hp⟩:=hp
   by_cases hh:u.ctor = -2
   ·rw [if_pos hh] at hp
    cases hp
    exact ⟨fun _=>⟨rfl,u,hu,hh⟩,fun h=>(by cases h)⟩
   ·rw [if_neg hh] at hp
    cases hf:t.branches.find? (fun b=>X6 b u) with
    | none=>
     rw [hf] at hp
     cases hp
     exact ⟨fun h=>(by cases h),fun _=>rfl⟩
    | some b=>
     rw [hf] at hp
     exact mapc b.tree (t.path::·) hp
  ·rw [if_neg h2] at hp
   by_cases h1:t.op=1
   ·rw [if_pos h1,U12] at hp
    obtain ⟨c,hc,hp⟩:=hp
    by_cases hg0:c.guard.op=0
    ·rw [if_pos hg0] at hp
     cases hp
     exact ⟨fun h=>(by cases h),fun _=>rfl⟩
    ·rw [if_neg hg0] at hp
     cases hf:t.binds.find? (fun b=>decide (b.var=c.guard.var)) with
     | none=>rw [hf] at hp;cases hp
     | some b=>
      rw [hf] at hp
      simp only [U12] at hp
      obtain ⟨u,hu,hp⟩:=hp
      by_cases hh:u.ctor = -2
      ·rw [if_pos hh] at hp
       cases hp
       exact ⟨fun _=>⟨rfl,u,hu,hh⟩,fun h=>(by cases h)⟩
      ·rw [if_neg hh] at hp
       split at hp
       ·split at hp
        ·cases hp
         exact ⟨fun h=>(by cases h),fun _=>rfl⟩
        ·split at hp
         ·exact mapc _ (b.path::·) hp
         ·cases hp
       ·cases hp
   ·rw [if_neg h1] at hp
    cases hp
    exact ⟨fun h=>(by cases h),fun _=>rfl⟩
def X1e:Nat→Q1→Q1→Prop
 | 0,_,_=>False
 | d+1,a,b=>b.ctor = -2∨(a.ctor=b.ctor∧a.n=b.n∧a.kids.length=b.kids.length∧∀ (j:Nat) (x y:Q1),a.kids[j]?=some x→b.kids[j]?=some y→X1e d x y)
theorem Z7h:∀ {path:List Int} {d:Nat} {a b u:Q1},X1e d a b→Q5h b path=some u→u.ctor≠-2→∃ x e,Q5h a path=some x∧X1e e x u
 | [],d,a,b,u,h,hp,hu=>by
  rw [Q5h,Option.some.injEq] at hp
  subst hp
  exact ⟨a,d,rfl,h⟩
 | i::path,d,a,b,u,h,hp,hu=>by
  cases d with
  | zero=>exact h.elim
  | succ d=>
   rw [Q5h] at hp
   by_cases hb:b.ctor = -2
   ·rw [if_pos hb] at hp
    cases hp
    exact absurd hb hu
   ·rw [if_neg hb,U12] at hp
    obtain ⟨y,hy,hp⟩:=hp
    rcases h with h | ⟨h1,h2,h3,h4⟩
    ·exact absurd h hb
    ·have hi0:0≤i∧b.kids[i.toNat]?=some y:=by
      unfold idx at hy
      split at hy
      ·rename_i h0;exact ⟨h0,hy⟩
      ·cases hy
     have hl:=(List.getElem?_eq_some_iff.1 hi0.2).1
     have hx:a.kids[i.toNat]?=some (a.kids[i.toNat]'(by omega)):=by simp
     obtain ⟨x,e,g1,g2⟩:=Z7h (h4 _ _ _ hx hi0.2) hp hu
     refine ⟨x,e,?_,g2⟩
     rw [Q5h,if_neg (by rw [h1];exact hb),Z0b hi0.1 hx]
     exact g1
theorem X42 {d:Nat} {x u:Q1} (h:X1e d x u) (hu:u.ctor≠-2):x.ctor=u.ctor∧x.n=u.n:=by
 cases d with
 | zero=>exact h.elim
 | succ d=>
  rcases h with h | h
  ·exact absurd h hu
  ·exact ⟨h.1,h.2.1⟩
theorem X3p {lst:List Q6} {e:Nat} {a b:Q1} (hm:X1e e a b):∀ (d:Nat) (t:X9) (r:Int×List Int×Bool×List (List Int)),runP d t lst b=some r→r.2.2.1=false→runP d t lst a=some r:=by
 intro d
 induction d with
 | zero=>intro t r h;cases h
 | succ d ih=>
  intro t r hp hn
  rw [runP] at hp ⊢
  by_cases h2:t.op=2
  ·rw [if_pos h2] at hp ⊢
   rw [U12] at hp
   obtain ⟨u,hu,hp⟩:=hp
   by_cases hh:u.ctor = -2
   ·rw [if_pos hh] at hp
    cases hp
    cases hn
   ·rw [if_neg hh] at hp
    obtain ⟨x,e',hx,hxm⟩:=Z7h hm hu hh
    obtain ⟨s1,s2⟩:=X42 hxm hh
    rw [hx]
    simp only [U0]
    rw [if_neg (by rw [s1];exact hh)]
    have hfe:(fun b=>X6 b x)=(fun b=>X6 b u):=funext fun b=>by unfold X6;rw [s1,s2]
    rw [hfe]
    cases hf:t.branches.find? (fun b=>X6 b u) with
    | none=>rw [hf] at hp;exact hp
    | some br=>
     rw [hf] at hp
     simp only [U11] at hp ⊢
     obtain ⟨y,hy,rfl⟩:=hp
     exact ⟨y,ih _ y hy hn,rfl⟩
  ·rw [if_neg h2] at hp ⊢
   by_cases h1:t.op=1
   ·rw [if_pos h1] at hp ⊢
    rw [U12] at hp
    obtain ⟨c,hc,hp⟩:=hp
    rw [hc]
    simp only [U0]
    by_cases hg0:c.guard.op=0
    ·rw [if_pos hg0] at hp ⊢
     exact hp
    ·rw [if_neg hg0] at hp ⊢
     cases hf:t.binds.find? (fun b=>decide (b.var=c.guard.var)) with
     | none=>rw [hf] at hp;cases hp
     | some bd=>
      rw [hf] at hp
      simp only [U12] at hp
      obtain ⟨u,hu,hp⟩:=hp
      by_cases hh:u.ctor = -2
      ·rw [if_pos hh] at hp
       cases hp
       cases hn
      ·rw [if_neg hh] at hp
       obtain ⟨x,e',hx,hxm⟩:=Z7h hm hu hh
       obtain ⟨s1,s2⟩:=X42 hxm hh
       simp only
       rw [hx]
       simp only [U0]
       rw [if_neg (by rw [s1];exact hh)]
       have hge:Q1j c.guard [⟨c.guard.var,x⟩]=Q1j c.guard [⟨c.guard.var,u⟩]:=by
        unfold Q1j
        simp [s1,s2]
       rw [hge,s1]
       split at hp
       ·rename_i hi
        rw [if_pos hi]
        split at hp
        ·rename_i hg
         rw [if_pos hg]
         exact hp
        ·rename_i hg
         rw [if_neg hg]
         cases hel:t.else_ with
         | nil=>rw [hel] at hp;cases hp
         | cons el rest=>
          rw [hel] at hp
          simp only [U11] at hp ⊢
          obtain ⟨y,hy,rfl⟩:=hp
          exact ⟨y,ih _ y hy hn,rfl⟩
       ·cases hp
   ·rw [if_neg h1] at hp ⊢
    exact hp
def tupV (out:List (List Q1)) (l:List Q1):List (List Q1):=out.flatMap fun q=>l.map fun c=>q++[c]
def mkV (c:Int) (ks:List Q1):Q1:=Q1.mk c 0 ks
def numV (n:Nat):Q1:=Q1.mk (-1) (n:Int) []
def Q2p (w:List Q3):Nat→Q4→List Q1
 | 0,_=>[]
 | d+1,t=>if t.data = -1 then (List.range 10).map numV else (X3 w t).flatMap fun c=>(((V6 w t c).map (Q2p w d)).foldl tupV [[]]).map (mkV c)
theorem Z6g (out:List (List Q1)) (l:List Q1):(tupV out l).length=out.length * l.length:=by
 induction out with
 | nil=>simp [tupV]
 | cons q out ih=>
  have e:tupV (q::out) l=(l.map fun c=>q++[c])++tupV out l:=by simp [tupV]
  rw [e,U5,ih,U7,U3,Nat.succ_mul]
  omega
theorem X36:∀ (ls:List (List Q1)) (out:List (List Q1)),(out=[]∨[]∈ls)→ls.foldl tupV out=[]
 | [],out,h=>by
  rcases h with h | h
  ·exact h
  ·cases h
 | l::ls,out,h=>by
  rw [List.foldl_cons]
  refine X36 ls _ ?_
  rcases h with rfl | h
  ·left;simp [tupV]
  ·rcases U8.1 h with rfl | h
   ·left;simp [tupV]
   ·right;exact h
theorem X0y:∀ (ls:List (List Q1)) (out:List (List Q1)),(∀ l∈ls,l≠[])→out.length≤(ls.foldl tupV out).length
 | [],_,_=>Nat.le_refl _
 | l::ls,out,h=>by
  rw [List.foldl_cons]
  have h1:=X0y ls (tupV out l) fun x hx=>h x (by simp [hx])
  rw [Z6g] at h1
  have h2:1≤l.length:=List.length_pos_iff.2 (h l (by simp))
  exact Nat.le_trans (Nat.le_mul_of_pos_right _ h2) h1
theorem Z9z {ls:List (List Q1)} (h:∀ l∈ls,l≠[]) (k:Nat):((ls.take k).foldl tupV [[]]).length≤(ls.foldl tupV [[]]).length:=by
 rw [←List.take_append_drop k ls,List.foldl_append,List.take_append_drop]
 exact X0y _ _ fun l hl=>h l (List.mem_of_mem_drop hl)
theorem Z4r {ls:List (List Q1)} {k:Nat} {l:List Q1} (h:ls[k]?=some l):(ls.take (k+1)).foldl tupV [[]]=tupV ((ls.take k).foldl tupV [[]]) l:=by
 rw [List.take_add_one,h];simp
theorem W2v {ls:List (List Q1)} (h:∀ l∈ls,l≠[]):1≤(ls.foldl tupV [[]]).length:=X0y ls [[]] h
theorem Z6r:∀ (ls:List (List Q1)) (out:List (List Q1)) (ks:List Q1),ks∈ls.foldl tupV out→
  ∃ a b,a∈out∧ks=a++b∧b.length=ls.length∧∀ (i:Nat) (q:Q1) (l:List Q1),b[i]?=some q→ls[i]?=some l→q∈l
 | [],out,ks,h=>⟨ks,[],by simpa using h,by simp,rfl,by simp⟩
 | l::ls,out,ks,h=>by
  rw [List.foldl_cons] at h
  obtain ⟨a,b,ha,rfl,hl,hb⟩:=Z6r ls (tupV out l) ks h
  simp only [tupV,List.mem_flatMap,U10] at ha
  obtain ⟨a0,h0,c,hc,rfl⟩:=ha
  refine ⟨a0,c::b,h0,by simp,by simp [hl],fun i q m h1 h2=>?_⟩
  cases i with
  | zero=>simp at h1 h2;subst h1 h2;exact hc
  | succ i=>exact hb i q m (by simpa using h1) (by simpa using h2)
theorem X33 {w:List Q3} : ∀ (d:Nat) (t:Q4) (v:Q1),v∈Q2p w d t→Q46 w d t v:=by
 intro d
 induction d with
 | zero=>intro t v h;simp [Q2p] at h
 | succ d ih=>
  intro t v h
  rw [Q2p] at h
  rw [Q46]
  split
  ·rename_i hd
   rw [if_pos hd] at h
   obtain ⟨n,hn,rfl⟩:=U10.1 h
   have:=List.mem_range.1 hn
   exact ⟨rfl,by simp only [numV];omega,by simp only [numV];omega,rfl⟩
  ·rename_i hd
   rw [if_neg hd] at h
   obtain ⟨c,hc,h⟩:=List.mem_flatMap.1 h
   obtain ⟨ks,hks,rfl⟩:=U10.1 h
   obtain ⟨a,b,ha,rfl,hl,hb⟩:=Z6r _ _ _ hks
   simp only [List.mem_singleton] at ha
   subst ha
   simp only [U7] at hl
   refine ⟨rfl,hc,by simp [mkV,hl],fun j u x hu hx=>ih u x ?_⟩
   simp only [mkV] at hu hx
   exact hb j x (Q2p w d u) (by simpa using hx) (by rw [List.getElem?_map,hu];rfl)
theorem W8b {a b m:Nat} : min (min a m * min b m) m=min (a * b) m:=by
 rcases Nat.eq_zero_or_pos a with rfl | ha
 ·simp
 rcases Nat.eq_zero_or_pos b with rfl | hb
 ·simp
 rcases Nat.le_total a m with h1 | h1<;>rcases Nat.le_total b m with h2 | h2
 ·rw [Nat.min_eq_left h1,Nat.min_eq_left h2]
 ·rw [Nat.min_eq_left h1,Nat.min_eq_right h2,Nat.min_eq_right,Nat.min_eq_right]
  ·exact Nat.le_trans h2 (Nat.le_mul_of_pos_left _ ha)
  ·exact Nat.le_mul_of_pos_left _ ha
 ·rw [Nat.min_eq_right h1,Nat.min_eq_left h2,Nat.min_eq_right,Nat.min_eq_right]
  ·exact Nat.le_trans h1 (Nat.le_mul_of_pos_right _ hb)
  ·exact Nat.le_mul_of_pos_right _ hb
 ·rw [Nat.min_eq_right h1,Nat.min_eq_right h2]
  rcases Nat.eq_zero_or_pos m with rfl | hm
  ·simp
  ·rw [Nat.min_eq_right (Nat.le_mul_of_pos_left _ hm),Nat.min_eq_right (Nat.le_trans h2 (Nat.le_mul_of_pos_left _ ha))]
theorem X8p (a b:Nat):imin (a:Int) (b:Int)=((min a b:Nat):Int):=by
 unfold imin
 split<;>omega
theorem X5c {w:List Q3} (hw:WW w):∀ (d n:Nat) (t:Q4),t∈tys w→d+2≤n→d≤100→Q0i n w t (d:Int)=some ((min (Q2p w d t).length 401:Nat):Int):=by
 intro d
 induction d with
 | zero=>
  intro n t ht hn _
  obtain ⟨n,rfl⟩:∃ k,n=k+1:=⟨n-1,by omega⟩
  unfold Q0i
  rw [if_pos (by simp [ieq])]
  rfl
 | succ d ih=>
  intro n t ht hn hd
  obtain ⟨n,rfl⟩:∃ k,n=k+1:=⟨n-1,by omega⟩
  have hT:=hw.ty t ht
  suffices hs:Ret (Q0i (n+1) w t ((d+1:Nat):Int)) (fun a=>a=((min (Q2p w (d+1) t).length 401:Nat):Int)) by
   obtain ⟨a,e,rfl⟩:=hs
   exact e
  unfold Q0i
  rw [if_neg (by rw [Q8];omega)]
  have e1:wsub .i64 ((d+1:Nat):Int) 1=(d:Int):=by rw [Q1u]<;>omega
  rw [e1]
  by_cases hi:t.data = -1
  ·rw [if_pos (by rw [Q8];exact hi)]
   refine .some ?_
   simp [Q2p,hi]
  ·rw [if_neg (by rw [Q8];exact hi),hT.c2]
   simp only [U0]
   have hv:Q2p w (d+1) t=(X3 w t).flatMap fun c=>(((V6 w t c).map (Q2p w d)).foldl tupV [[]]).map (mkV c):=by rw [Q2p,if_neg hi]
   rw [hv]
   generalize hF:(fun c=>(((V6 w t c).map (Q2p w d)).foldl tupV [[]]).map (mkV c))=F
   refine Ret.ctl (Z4 (X3 w t) (fun i s=>s=((min (((X3 w t).take i).flatMap F).length 401:Nat):Int)) (fun _=>False) (fun s=>s=((min ((X3 w t).flatMap F).length 401:Nat):Int)) (by simp) (fun i c s hc hI=>?_) (fun s hI=>by rw [hI,List.take_length])) (fun r hr=>hr.elim) (fun s hs=>.some hs)
   have hcm:=U1 hc
   rw [hT.a2 _ hcm]
   simp only [U0]
   refine Ret.ctl (Z4 (V6 w t c) (fun k s=>s=((min ((((V6 w t c).map (Q2p w d)).take k).foldl tupV [[]]).length 401:Nat):Int)) (fun _=>False) (fun s=>s=((min (F c).length 401:Nat):Int)) (by simp) (fun k a u ha hJ=>?_) (fun s hJ=>?_)) (fun r hr=>hr.elim) (fun u hu=>?_)
   ·rw [ih n a (hT.at_ _ hcm _ (U1 ha)) (by omega) (by omega)]
    simp only [U0]
    refine .some ?_
    simp only [Q0j]
    rw [Z4r (l:=Q2p w d a) (by rw [List.getElem?_map,ha];rfl),Z6g,hJ]
    generalize ((((V6 w t c).map (Q2p w d)).take k).foldl tupV [[]]).length=A
    generalize (Q2p w d a).length=B
    have hm:min A 401 * min B 401≤401 * 401:=Nat.mul_le_mul (Nat.min_le_right _ _) (Nat.min_le_right _ _)
    have e:((min A 401:Nat):Int) * ((min B 401:Nat):Int)=((min A 401 * min B 401:Nat):Int):=by simp
    rw [Q7t (by rw [e];omega) (by rw [e];omega),e,show (401:Int)=((401:Nat):Int) from rfl,X8p,W8b]
   ·rw [hJ,List.take_of_length_le (by simp),←hF,U7]
   ·refine .some ?_
    simp only [Q0j]
    rw [hu,hI,List.take_add_one,hc]
    simp only [Option.toList_some,List.flatMap_append,List.flatMap_cons,List.flatMap_nil,List.append_nil,U5]
    generalize (((X3 w t).take i).flatMap F).length=A
    generalize (F c).length=B
    rw [Y5 (by omega) (by omega)]
    have e:((min A 401:Nat):Int)+((min B 401:Nat):Int)=((min A 401+min B 401:Nat):Int):=by omega
    rw [e,show (401:Int)=((401:Nat):Int) from rfl,X8p]
    congr 1
    omega
theorem X7q (l:List Q1) (h:l.length≤Q5):Q1l l=some l:=by
 unfold Q1l
 rw [W3 (by simpa using h)]
 rfl
theorem X22 {α β:Type} (l:List α) (F:α→List β) (i:Nat):((l.take i).flatMap F).length≤(l.flatMap F).length:=by
 conv=>rhs;rw [←List.take_append_drop i l,List.flatMap_append,U5]
 omega
theorem X1i {w:List Q3} (hw:WW w):∀ (d n:Nat) (t:Q4),t∈tys w→d+20≤n→d≤100→(Q2p w d t).length≤400→Q3d n w t (d:Int)=some (Q2p w d t):=by
 intro d
 induction d with
 | zero=>
  intro n t ht hn _ _
  obtain ⟨n,rfl⟩:∃ k,n=k+1:=⟨n-1,by omega⟩
  unfold Q3d
  rw [if_pos (by simp [ieq])]
  rfl
 | succ d ih=>
  intro n t ht hn hd hlen
  obtain ⟨n,rfl⟩:∃ k,n=k+1:=⟨n-1,by omega⟩
  have hT:=hw.ty t ht
  suffices hs:Ret (Q3d (n+1) w t ((d+1:Nat):Int)) (fun a=>a=Q2p w (d+1) t) by
   obtain ⟨a,e,rfl⟩:=hs
   exact e
  unfold Q3d
  rw [if_neg (by rw [Q8];omega)]
  have e1:wsub .i64 ((d+1:Nat):Int) 1=(d:Int):=by rw [Q1u]<;>omega
  rw [e1]
  by_cases hi:t.data = -1
  ·rw [if_pos (by rw [Q8];exact hi)]
   have hv:Q2p w (d+1) t=(List.range 10).map numV:=by rw [Q2p,if_pos hi]
   rw [hv]
   refine Ret.ctl (Q1v (fun s:List Q1×Int=>∃ k:Nat,k≤10∧s=((List.range k).map numV,(k:Int))) (fun s=>(10-s.2).toNat) (fun _=>False) (fun s=>s.1=(List.range 10).map numV) ⟨0,by omega,rfl⟩ (fun s hI=>?_) n (by simp;omega)) (fun r hr=>hr.elim) (fun s hs=>.some hs)
   obtain ⟨k,hk,rfl⟩:=hI
   refine Ret.ite (fun h1=>?_) (fun h1=>?_)
   ·rw [X4] at h1
    simp only [Q83,U0]
    rw [W3 (by simp only [U7,List.length_range,U3,U4,Q5];omega)]
    simp only [U0]
    have e2:wadd .i64 (k:Int) 1=((k+1:Nat):Int):=by rw [Y5]<;>omega
    rw [e2]
    refine .some ⟨⟨k+1,by omega,?_⟩,by simp only;omega⟩
    rw [List.range_succ,List.map_append];rfl
   ·rw [W1] at h1
    refine .some ?_
    simp only at h1
    rw [show k=10 by omega]
    exact rfl
  ·rw [if_neg (by rw [Q8];exact hi),hT.c2]
   simp only [U0]
   have hv:Q2p w (d+1) t=(X3 w t).flatMap fun c=>(((V6 w t c).map (Q2p w d)).foldl tupV [[]]).map (mkV c):=by rw [Q2p,if_neg hi]
   rw [hv] at hlen ⊢
   generalize hF:(fun c=>(((V6 w t c).map (Q2p w d)).foldl tupV [[]]).map (mkV c))=F at *
   refine Ret.ctl (Z4 (X3 w t) (fun i s=>s=((X3 w t).take i).flatMap F) (fun _=>False) (fun s=>s=(X3 w t).flatMap F) (by simp) (fun i c s hc hI=>?_) (fun s hI=>by rw [hI,List.take_length])) (fun r hr=>hr.elim) (fun s hs=>.some hs)
   have hcm:=U1 hc
   have hFc:F c=(((V6 w t c).map (Q2p w d)).foldl tupV [[]]).map (mkV c):=by rw [←hF]
   have hnext:((X3 w t).take (i+1)).flatMap F=((X3 w t).take i).flatMap F++F c:=by
    rw [List.take_add_one,hc];simp
   have hle:=X22 (X3 w t) F (i+1)
   rw [hnext,U5] at hle
   have hat:=hT.at_ _ hcm
   have hal:=hT.al _ hcm
   refine Ret.bind (P:=CtlQ (fun r:Ctl (List Q1) (List Q1)=>RndQ (fun _=>False) (fun s=>s=(X3 w t).flatMap F) (fun s=>s=((X3 w t).take (i+1)).flatMap F) r) (fun s=>s=((X3 w t).take (i+1)).flatMap F)) ?_ (fun o ho=>?_)
   ·rw [hT.a2 _ hcm]
    simp only [U0]
    have hcf:Q07 (V6 w t c) (fun a0=>Q59 n a0 w ((d+1:Nat):Int))=some ((V6 w t c).any fun a=>decide ((Q2p w d a).length=0)):=by
     refine Z9t _ _ _ fun a ha=>?_
     unfold Q59
     rw [e1,X5c hw d n a (hat _ ha) (by omega) (by omega)]
     simp only [U0,ieq]
     congr 1
     by_cases h0:(Q2p w d a).length=0
     ·simp [h0]
     ·rw [decide_eq_false h0,decide_eq_false];omega
    rw [hcf]
    simp only [U0]
    cases hany:(V6 w t c).any fun a=>decide ((Q2p w d a).length=0) with
    | true=>
     simp only [if_true]
     refine .some ?_
     simp only [Z0j]
     rw [hnext,hI]
     obtain ⟨a,ha,h0⟩:=List.any_eq_true.1 hany
     simp only [decide_eq_true_eq] at h0
     have:F c=[]:=by
      rw [hFc,X36 _ _ (.inr (U10.2 ⟨a,ha,List.eq_nil_of_length_eq_zero h0⟩))];rfl
     rw [this,List.append_nil]
    | false=>
     simp only [U2,if_false]
     have hne:∀ l∈(V6 w t c).map (Q2p w d),l≠[]:=fun l hl e=>by
      obtain ⟨a,ha,rfl⟩:=U10.1 hl
      have:=List.any_eq_false.1 hany a ha
      simp [e] at this
     have hlenF:(F c).length=(((V6 w t c).map (Q2p w d)).foldl tupV [[]]).length:=by rw [hFc,U7]
     refine Ret.ctl (Z4 (V6 w t c) (fun k s=>s=((((V6 w t c).map (Q2p w d)).take k).foldl tupV [[]]).map (mkV c)) (fun _=>False) (fun s=>s=F c) (by simp [mkV]) (fun k a u ha hJ=>?_) (fun s hJ=>by rw [hJ,List.take_of_length_le (by simp),hFc])) (fun r hr=>hr.elim) (fun u hu=>?_)
     ·have hk1:=Z9z hne (k+1)
      have hk0:=Z9z hne k
      have hg:((V6 w t c).map (Q2p w d))[k]?=some (Q2p w d a):=by rw [List.getElem?_map,ha];rfl
      have hp:1≤((((V6 w t c).map (Q2p w d)).take k).foldl tupV [[]]).length:=W2v fun l hl=>hne l (List.mem_of_mem_take hl)
      have ha1:1≤(Q2p w d a).length:=List.length_pos_iff.2 (hne _ (U1 hg))
      rw [Z4r hg,Z6g] at hk1
      have hva:(Q2p w d a).length≤400:=by
       have:=Nat.le_mul_of_pos_left (Q2p w d a).length hp
       omega
      rw [ih n a (hat _ (U1 ha)) (by omega) (by omega) hva]
      simp only [U0]
      rw [Z4r hg]
      have hkl:∀ ks∈(((V6 w t c).map (Q2p w d)).take k).foldl tupV [[]],ks.length≤3:=fun ks hks=>by
       obtain ⟨x,y,hx,rfl,hl,_⟩:=Z6r _ _ _ hks
       simp only [List.mem_singleton] at hx
       subst hx
       simp only [U6,U7] at hl
       simp only [List.nil_append]
       omega
      generalize ((((V6 w t c).map (Q2p w d)).take k).foldl tupV [[]])=T at *
      generalize Q2p w d a=L at *
      refine Ret.ctl (Z4 u (fun j z=>z=(tupV (T.take j) L).map (mkV c)) (fun _=>False) (fun z=>z=(tupV T L).map (mkV c)) (by simp [tupV]) (fun j x z hx hK=>?_) (fun z hK=>by rw [hK,hJ,U7,List.take_length])) (fun r hr=>hr.elim) (fun z hz=>.some hz)
      rw [hJ,List.getElem?_map] at hx
      obtain ⟨ks,hks,rfl⟩:=U11.1 hx
      have hjl:=(List.getElem?_eq_some_iff.1 hks).1
      have hks3:=hkl ks (U1 hks)
      have hnj:tupV (T.take (j+1)) L=tupV (T.take j) L++L.map (fun c=>ks++[c]):=by
       rw [List.take_add_one,hks];simp [tupV]
      rw [hnj]
      refine Ret.ctl (Z4 L (fun i v=>v=(tupV (T.take j) L++(L.take i).map (fun c=>ks++[c])).map (mkV c)) (fun _=>False) (fun v=>v=(tupV (T.take j) L++L.map (fun c=>ks++[c])).map (mkV c)) (by simp [hK]) (fun i y v hy hM=>?_) (fun v hM=>by rw [hM,List.take_length])) (fun r hr=>hr.elim) (fun v hv=>.some hv)
      simp only [mkV]
      rw [X7q _ (by simp only [Q5];omega)]
      simp only [U0]
      rw [W3 (by simp only [Q5,U3,U4];omega)]
      simp only [U0]
      have hil:=(List.getElem?_eq_some_iff.1 hy).1
      have hvl:v.length≤1000 * 1000+1000:=by
       rw [hM,U7,U5,Z6g,U7,U6,U6]
       have:=Nat.mul_le_mul (show min j T.length≤1000 by omega) (show L.length≤1000 by omega)
       omega
      rw [W3 (by simp only [Q5,U3,U4];omega)]
      refine .some ?_
      simp only [Q0j]
      rw [hM,List.take_add_one,hy]
      simp [mkV]
     ·have hsl:s.length≤400:=by rw [hI];omega
      dsimp only
      rw [W3 (by rw [hu];simp only [Q5];omega)]
      simp only [U0]
      exact .some (by simp only [Z0j];rw [hnext,hI,hu])
   ·cases o with
    | ret r=>exact .some ho
    | brk s=>exact .some ho
    | go s=>exact ho.elim
theorem X6r {w:List Q3} (hw:WW w) {t:Q4} (ht:t∈tys w) {d:Nat} (hd:d≤4):Q22 NN w t (d:Int)=some (if (Q2p w d t).length≤400 then (Q2p w d t,true) else ([],false)):=by
 suffices hs:Ret (Q22 NN w t (d:Int)) (fun r=>r=if (Q2p w d t).length≤400 then (Q2p w d t,true) else ([],false)) by
  obtain ⟨a,e,rfl⟩:=hs
  exact e
 unfold Q22
 rw [X48 hw ht]
 simp only [U0,Bool.not_true,U2,if_false]
 rw [Q7g]
 have e0:(decide ((0:Int)≤(d:Int))&&decide ((d:Int)≤4))=true:=by simp only [Bool.and_eq_true,decide_eq_true_eq];omega
 rw [e0]
 simp only [U0,Bool.not_true,U2,if_false]
 rw [X5c hw d NN t ht (by simp only [NN];omega) (by omega)]
 simp only [U0]
 refine Ret.ite (fun h=>?_) (fun h=>?_)
 ·rw [X4] at h
  rw [if_neg (by omega)]
  exact .some rfl
 ·rw [W1] at h
  have hl:(Q2p w d t).length≤400:=by omega
  rw [if_pos hl,X1i hw d NN t ht (by simp only [NN];omega) (by omega) hl]
  simp only [U0]
  refine Ret.ctl (Z4 (Q2p w d t) (fun i s=>s=(Q2p w d t).take i) (fun _=>False) (fun s=>s=Q2p w d t) (by simp) (fun i v s hv hI=>?_) (fun s hI=>by rw [hI,List.take_length])) (fun r hr=>hr.elim) (fun s hs=>.some (by rw [hs]))
  have hg:=X33 d t v (U1 hv)
  rw [Z2n d NN v (Z55 hw d t v ht hg) (by simp only [NN];omega)]
  simp only [U0]
  rw [W3 (by rw [hI];simp only [U6,U3,U4,Q5];omega)]
  refine .some ?_
  simp only [Q0j]
  rw [hI,List.take_add_one,hv]
  rfl
theorem Z9a {w:List Q3} (hw:WW w) {t:Q4} (ht:t∈tys w) {d:Int} (h1:1≤d) (h3:d≤3):∃ r,Q22 NN w t d=some r∧r.1.length≤400∧∀ v∈r.1,Q8i w t v=true∧Q46 w 4 t v:=by
 obtain ⟨k,rfl⟩:∃ k:Nat,d=(k:Int):=⟨d.toNat,by omega⟩
 refine ⟨_,X6r hw ht (by omega),?_,fun v hv=>?_⟩
 ·split
  ·assumption
  ·simp
 ·split at hv
  ·have hg:=X33 k t v hv
   exact ⟨X3k hw (by omega) ht hg,Z47 k 4 t v (by omega) hg⟩
  ·cases hv
theorem X5f {w:List Q3} {t:Q4} {cs:List Q6} (h:Q3i w t cs=true):cs.length≤8∧∀ c∈cs,Q4y w t c.pat=true:=by
 simp only [Q3i,Bool.and_eq_true,decide_eq_true_eq,List.all_eq_true] at h
 refine ⟨h.1,fun c hc=>?_⟩
 have:=h.2 c hc
 simp only [Q71,Bool.and_eq_true] at this
 exact this.1
def runC (w:List Q3) (t:Q4) (l:List Q6) (v:Q1):Int×List X8×Bool:=
 if (Q3i w t l&&Q8i w t v)=true then ((runR (runD v 0 l)).1,(runR (runD v 0 l)).2,true) else (-1,[],false)
theorem W8k {w:List Q3} (hw:WW w) {t:Q4} (ht:t∈tys w) (l:List Q6) (v:Q1):Q44 NN w t l v=some (runC w t l v):=by
 unfold Q44 runC
 rw [Z2c hw ht l]
 simp only [U0]
 cases hc:Q3i w t l with
 | false=>simp
 | true=>
  simp only [Bool.not_true,U2,if_false,Bool.true_and]
  rw [Z5u hw ht v]
  simp only [U0]
  cases hv:Q8i w t v with
  | false=>simp
  | true=>
   simp only [Bool.not_true,U2,if_false,if_true]
   rw [W0k hw ht (X5f hc).2 (Q9y hv) (by omega)]
   rfl
theorem V2k {w:List Q3} {t:Q4} {l:List Q6} {v:Q1} (hc:Q3i w t l=true) (hv:Q8i w t v=true):runC w t l v=((runR (runD v 0 l)).1,(runR (runD v 0 l)).2,true):=by
 unfold runC
 rw [hc,hv];rfl
theorem Z8q:∀ (a b:List Q1),cntV.cntVs (a++b)=cntV.cntVs a+cntV.cntVs b
 | [],b=>by simp [cntV.cntVs]
 | x::a,b=>by
  have:=Z8q a b
  simp only [List.cons_append,cntV.cntVs]
  omega
theorem X5d:∀ (l:List Q1) (k:Nat) (x y:Q1),l[k]?=some x→cntV.cntVs (l.set k y)+cntV x=cntV.cntVs l+cntV y
 | [],k,x,y,h=>by simp at h
 | a::l,0,x,y,h=>by
  simp only [List.getElem?_cons_zero,Option.some.injEq] at h
  subst h
  simp only [List.set_cons_zero,cntV.cntVs]
  omega
 | a::l,k+1,x,y,h=>by
  have:=X5d l k x y (by simpa using h)
  simp only [List.set_cons_succ,cntV.cntVs]
  omega
theorem X6j {b:List Int} (hb:∀ x∈b,0≤x∧x≤255) (hl:b.length≤2000) {E:Nat} {V:Nat→Int} (hE:E≤20000000) (hP:Zed.Pot (pk24 ⟨b,0⟩) E V):∀ (k n:Nat) (v:Q1) (p m:Nat) (P:Int),E-p≤k→k<n→m≤100+p→widV m v→1≤P→2 * P≤V p→
  Ret (Q0n n ⟨b,(p:Int)⟩ v) (fun a=>∃ p':Nat,a.2=⟨b,(p':Int)⟩∧p<p'∧p'≤E+2∧2 * (P-1)≤V p'∧widV (m+(p'-p)) a.1∧cntV a.1≤cntV v+(p'-p)):=by
 intro k
 induction k with
 | zero=>
  intro n v p m P hk hn hm hv h1 h2
  have:=hP.fin p (by omega)
  omega
 | succ k ih=>
  intro n v p m P hk hn hm hv h1 h2
  obtain ⟨n,rfl⟩:∃ j,n=j+1:=⟨n-1,by omega⟩
  have hpE:p<E:=by
   rcases Nat.lt_or_ge p E with h | h
   ·exact h
   ·have:=hP.fin p h
    omega
  have hv':=(Q81 m v).1 hv
  have hcv:=Q5g v
  unfold Q0n
  rw [W3 (by simp only [U4,Q5];omega)]
  simp only [U0]
  have hpk:=V17 (r:=⟨b,(p:Int)⟩) hb hl rfl (by omega:p≤30000000)
  have hpe:pk24 ⟨b,(p:Int)⟩ p=pk24 ⟨b,0⟩ p:=rfl
  rw [hpe] at hpk
  simp only at hpk
  have hr1:ROk ⟨b,((p+1:Nat):Int)⟩ 1:=⟨hb,hl,by simp only;omega,by simp only;omega⟩
  refine Ret.ctl (R:=fun _=>False) (B:=fun (s:X0×Int×Int×List Q1)=>∃ p':Nat,s.1=⟨b,(p':Int)⟩∧p<p'∧p'≤E+2∧2 * (P-1)≤V p'∧s.2.2.2.length≤m+(p'-p)∧(∀ x∈s.2.2.2,widV (m+(p'-p)) x)∧1+cntV.cntVs s.2.2.2≤cntV v+(p'-p)) ?_ (fun r hr=>hr.elim) (fun s hs=>?_)
  ·rw [hpk]
   simp only [U0]
   have kidsOk:∀ q:Nat,v.kids.length≤m+q∧∀ x∈v.kids,widV (m+q) x:=fun q=>⟨by omega,fun x hx=>Q80 (by omega) x (hv'.2 x hx)⟩
   have skip:pk24 ⟨b,0⟩ p≤1→∀ (a:Int×X0),Nx ⟨b,((p+1:Nat):Int)⟩ a.2 1→a.2.p=((p+2:Nat):Int)→a.2=⟨b,((p+2:Nat):Int)⟩∧2 * (P-1)≤V (p+2):=fun h a hn hp2=>by
    have:=hP.skip p hpE h
    refine ⟨?_,by omega⟩
    cases a with
    | mk x r=>
     cases r with
     | mk bb pp=>
      have e1:bb=b:=hn.b
      simp only at hp2
      rw [e1,hp2]
   have num2:∀ l:List Int,1≤l.length→l.length≤1000→Ret (X5 ⟨b,((p+1:Nat):Int)⟩ l) (fun a=>Nx ⟨b,((p+1:Nat):Int)⟩ a.2 1∧a.2.p=((p+2:Nat):Int)):=fun l hl1 hl2=>by
    obtain ⟨a,e,_,hn⟩:=Q7k hr1 l hl1 hl2
    refine ⟨a,e,hn,?_⟩
    unfold X5 at e
    cases hpick:Z8 ⟨b,((p+1:Nat):Int)⟩ (lenZ l.length) with
    | none=>rw [hpick] at e;cases e
    | some q=>
     rw [hpick] at e
     simp only [U0] at e
     cases hi:idx l q.1 with
     | none=>rw [hi] at e;cases e
     | some y=>
      rw [hi] at e
      simp only [U0,Option.some.injEq] at e
      subst e
      simp only
      have:=X3y hpick (by simp only;omega)
      rw [this]
      show wadd .i64 ((p+1:Nat):Int) 1=_
      rw [Y5 (by omega) (by omega)]
      omega
   refine Ret.ite (fun h0=>?_) (fun h0=>?_)
   ·rw [Q8] at h0
    refine Ret.bind (num2 _ (by simp) (by simp)) (fun a ha=>.some ?_)
    obtain ⟨e1,e2⟩:=skip (by omega) a ha.1 ha.2
    exact ⟨p+2,e1,by omega,by omega,e2,(kidsOk _).1,(kidsOk _).2,by simp only;omega⟩
   rw [Z9] at h0
   refine Ret.ite (fun h1'=>?_) (fun h1'=>?_)
   ·rw [Q8] at h1'
    refine Ret.bind (num2 _ (by simp) (by simp)) (fun a ha=>.some ?_)
    obtain ⟨e1,e2⟩:=skip (by omega) a ha.1 ha.2
    exact ⟨p+2,e1,by omega,by omega,e2,(kidsOk _).1,(kidsOk _).2,by simp only;omega⟩
   rw [Z9] at h1'
   refine Ret.ite (fun h2'=>?_) (fun h2'=>?_)
   ·rw [Q8] at h2'
    have hot:=hP.other p hpE (by omega) (by omega)
    rw [W3 (by simp only [U3,U4,Q5];omega)]
    refine .some ⟨p+1,rfl,by omega,by omega,by omega,by simp only [U5,U3,U4];omega,fun x hx=>?_,?_⟩
    ·rcases List.mem_append.1 hx with hx | hx
     ·exact (kidsOk _).2 x hx
     ·simp only [List.mem_singleton] at hx
      rw [hx,Q81]
      exact ⟨by simp,fun y hy=>by cases hy⟩
    ·have e1:=Z8q v.kids [Q1.mk (-1) 0 []]
     have e2:cntV.cntVs [Q1.mk (-1) 0 []]=1:=by simp [cntV.cntVs,Q5g]
     simp only at e1 ⊢
     omega
   rw [Z9] at h2'
   refine Ret.ite (fun h3=>?_) (fun h3=>?_)
   ·rw [Q8] at h3
    have hth:=hP.three p hpE (by omega)
    refine Ret.ite (fun h4=>?_) (fun h4=>?_)
    ·rw [X4] at h4
     simp only [lenZ] at h4
     obtain ⟨x,hx,hxm⟩:=Q3h (xs:=v.kids) (i:=0) (by omega) (by omega)
     rw [hx]
     simp only [U0]
     refine Ret.bind (ih n x (p+1) m (P+1) (by omega) (by omega) (by omega) (hv'.2 x hxm) (by omega) (by omega)) (fun a ha=>?_)
     obtain ⟨p1,e1,e2,e3,e4,e5,e6⟩:=ha
     rw [e1]
     refine Ret.bind (ih n a.1 p1 (m+(p1-(p+1))) P (by omega) (by omega) (by omega) e5 h1 (by omega)) (fun c hc=>?_)
     obtain ⟨p2,g1,g2,g3,g4,g5,g6⟩:=hc
     have hset:setI v.kids 0 c.1=some (v.kids.set 0 c.1):=by
      unfold setI
      rw [if_pos ⟨by omega,by show 0<v.kids.length;omega⟩]
      rfl
     rw [hset]
     simp only [U0]
     refine .some ⟨p2,g1,by omega,g3,g4,by simp only [List.length_set];omega,fun y hy=>?_,?_⟩
     ·rcases List.mem_or_eq_of_mem_set hy with hy | rfl
      ·exact (kidsOk _).2 y hy
      ·exact Q80 (by omega) _ g5
     ·have hx0:v.kids[0]?=some x:=by
       unfold idx at hx
       split at hx
       ·exact hx
       ·cases hx
      have e7:=X5d v.kids 0 x c.1 hx0
      simp only at e7 ⊢
      omega
    ·exact .some ⟨p+1,rfl,by omega,by omega,by omega,(kidsOk _).1,(kidsOk _).2,by simp only;omega⟩
   ·rw [Z9] at h3
    have hot:=hP.other p hpE (by omega) (by omega)
    exact .some ⟨p+1,rfl,by omega,by omega,by omega,(kidsOk _).1,(kidsOk _).2,by simp only;omega⟩
  ·obtain ⟨p',e1,e2,e3,e4,e5,e6,e7⟩:=hs
   exact .some ⟨p',e1,e2,e3,e4,(Q81 _ _).2 ⟨e5,e6⟩,by rw [Q5g];exact e7⟩
theorem X6k {r:X0} (hr:ROk r 1) (hp:r.p≤5000) {v:Q1} (hv:widV 100 v):Ret (Q0n NN r v) (fun a=>Nx r a.2 20000010∧cntV a.1≤cntV v+20000010):=by
 obtain ⟨b,p⟩:=r
 obtain ⟨h1,h2,h3,h4⟩:=hr
 simp only at h1 h2 h3 h4 hp
 obtain ⟨p,rfl⟩:=Int.eq_ofNat_of_zero_le h3
 have hex:∃ E V,Zed.Pot (pk24 ⟨b,0⟩) E V∧2≤V p∧E≤20000000:=by
  by_cases hb:b.length=0
  ·obtain ⟨E,V,g1,g2,g3⟩:=Zed.pot0 p
   refine ⟨E,V,?_,g2,by omega⟩
   have:pk24 ⟨b,0⟩=fun _=>0:=by
    funext q
    unfold pk24
    rw [if_pos hb]
   rw [this]
   exact g1
  ·obtain ⟨E,V,g1,g2,g3⟩:=Zed.pot (byt ⟨b,0⟩) (fun i=>by
    unfold byt
    simp only
    rw [List.getD_eq_getElem?_getD]
    cases hi:b[i]? with
    | none=>simp
    | some x=>
     have:=h1 x (U1 hi)
     simp only [Option.getD_some]
     omega) (L:=b.length) (p0:=p) (by omega) h2 (by omega)
   refine ⟨E,V,?_,g2,g3⟩
   have:pk24 ⟨b,0⟩=Zed.pkv (byt ⟨b,0⟩) b.length:=by
    funext q
    unfold pk24
    rw [if_neg hb]
   rw [this]
   exact g1
 obtain ⟨E,V,g1,g2,g3⟩:=hex
 refine Ret.mono ?_ (X6j h1 h2 g3 g1 (E-p) NN v p (100+p) 1 (Nat.le_refl _) (by simp only [NN];omega) (Nat.le_refl _) (Q80 (by omega) v hv) (by omega) (by omega))
 rintro a ⟨p',e1,e2,e3,_,_,e6⟩
 rw [e1]
 refine ⟨⟨rfl,?_,?_⟩,by omega⟩
 ·show ((p:Nat):Int)≤((p':Nat):Int)
  omega
 ·show ((p':Nat):Int)≤((p:Nat):Int)+((20000010:Nat):Int)
  omega
theorem W5i {w:List Q3} (hw:WW w):∀ (m n:Nat) (r:X0) (t:Q4) (depth:Int),t∈tys w→depP w t≠0→depth≤m→depP w t≤m→-1000+m≤depth→m≤100→m+1≤n→ROk r (Q62 m)→
  Ret (Q26 n r w (tabP w) t depth) (fun a=>Nx r a.2 (Q62 m)∧cntV a.1≤Q62 m):=by
 intro m
 induction m with
 | zero=>
  intro n r t depth ht hd h1 h2 h3 hm100 hn hr
  have:=(hw.ty t ht).d0
  omega
 | succ m ih=>
  intro n r t depth ht hd h1 h2 h3 hm100 hn hr
  obtain ⟨n,rfl⟩:∃ k,n=k+1:=⟨n-1,by omega⟩
  have hT:=hw.ty t ht
  have hpos:=X5g (m+1)
  unfold Q26
  refine Ret.ite (fun h=>?_) (fun h=>?_)
  ·refine Ret.bind (Q34 (hr.le hpos) (by omega) (by omega)) (fun a ha=>.some ⟨ha.2.2.le' hpos,by rw [Q5g];simpa [cntV.cntVs] using hpos⟩)
  ·rw [Z9] at h
   rw [hT.c1]
   simp only [U0]
   obtain ⟨kb,hkb,hmb⟩:=hT.dm h hd
   have hd0:=hT.d0
   refine Ret.ctl (Z4 (X3 w t) (fun k s=>(∀ x∈s,x∈X3 w t∧0<Q2b w t x∧(Q2b w t x≤depth∨Q2b w t x=depP w t))∧s.length≤k∧(∀ j,j<k→(X3 w t)[j]?=some kb→s≠[])) (fun _=>False)
    (fun s=>(∀ x∈s,x∈X3 w t∧0<Q2b w t x∧(Q2b w t x≤depth∨Q2b w t x=depP w t))∧s≠[]∧s.length≤4) ⟨by simp,by simp,fun j hj=>by omega⟩ (fun k x s hx hI=>?_) (fun s hI=>?_)) (fun r hr=>hr.elim) (fun s hs=>?_)
   ·obtain ⟨i1,i2,i3⟩:=hI
    have hxm:=U1 hx
    have hkl:=(List.getElem?_eq_some_iff.1 hx).1
    have hcl:=hT.cl
    have take:∀ (hp:0<Q2b w t x∧(Q2b w t x≤depth∨Q2b w t x=depP w t)),Ret ((app s [x]).bind fun x310=>some (Ctl.brk (ρ:=Ctl (Q1×X0) (List Int)) x310)) (CtlQ (fun _=>False) (fun s'=>(∀ x∈s',x∈X3 w t∧0<Q2b w t x∧(Q2b w t x≤depth∨Q2b w t x=depP w t))∧s'.length≤k+1∧(∀ j,j<k+1→(X3 w t)[j]?=some kb→s'≠[]))):=fun hp=>by
     rw [W3 (by simp only [Q5,U3,U4];omega)]
     refine .some ⟨fun y hy=>?_,by simp;omega,fun _ _ _=>by simp⟩
     rcases List.mem_append.1 hy with hy | hy
     ·exact i1 y hy
     ·simp at hy;subst hy;exact ⟨hxm,hp⟩
    have pass:(¬(0<Q2b w t x∧(Q2b w t x≤depth∨Q2b w t x=depP w t)))→Ret (some (Ctl.brk (ρ:=Ctl (Q1×X0) (List Int)) s)) (CtlQ (fun _=>False) (fun s'=>(∀ x∈s',x∈X3 w t∧0<Q2b w t x∧(Q2b w t x≤depth∨Q2b w t x=depP w t))∧s'.length≤k+1∧(∀ j,j<k+1→(X3 w t)[j]?=some kb→s'≠[]))):=fun hp=>by
     refine .some ⟨i1,by omega,fun j hj hjk=>?_⟩
     by_cases hjk2:j=k
     ·subst hjk2
      rw [hx] at hjk
      cases hjk
      exact absurd ⟨by omega,.inr hmb⟩ hp
     ·exact i3 j (by omega) hjk
    refine Ret.ctl (R:=fun _=>False) (B:=fun (s':List Int)=>(∀ x∈s',x∈X3 w t∧0<Q2b w t x∧(Q2b w t x≤depth∨Q2b w t x=depP w t))∧s'.length≤k+1∧(∀ j,j<k+1→(X3 w t)[j]?=some kb→s'≠[])) ?_ (fun r hr=>hr.elim) (fun s' hs'=>⟨_,rfl,hs'⟩)
    rw [hT.m1 x hxm]
    simp only [U0]
    refine Ret.ite (fun c=>?_) (fun c=>?_)
    ·rw [X4] at c
     refine Ret.ite (fun c2=>?_) (fun c2=>?_)
     ·rw [Q15] at c2
      exact take ⟨c,.inl c2⟩
     ·rw [Q61] at c2
      rw [hT.d1]
      simp only [U0]
      refine Ret.ite (fun c3=>?_) (fun c3=>?_)
      ·rw [Q8] at c3
       exact take ⟨c,.inr c3⟩
      ·rw [Z9] at c3
       exact pass (by omega)
    ·rw [W1] at c
     exact pass (by omega)
   ·obtain ⟨i1,i2,i3⟩:=hI
    obtain ⟨j,hj⟩:=List.mem_iff_getElem?.1 hkb
    have:=hT.cl
    exact ⟨i1,i3 j ((List.getElem?_eq_some_iff.1 hj).1) hj,by omega⟩
   ·obtain ⟨i1,i2,i3⟩:=hs
    have hsl:1≤s.length:=by cases s with
     | nil=>exact absurd rfl i2
     | cons=>simp
    refine Ret.bind (Q34 (hr.le hpos) (k:=lenZ s.length) (by simp [lenZ];omega) (by simp [lenZ];omega)) (fun a ha=>?_)
    obtain ⟨x,hx,hxm⟩:=Q3h (xs:=s) ha.1 (by simpa [lenZ] using ha.2.1)
    obtain ⟨hxc,hx0,hxd⟩:=i1 x hxm
    rw [hx]
    simp only [U0]
    rw [hT.a1 x hxc]
    simp only [U0]
    have hal:=hT.al x hxc
    have hr1:ROk a.2 (3 * Q62 m):=ROk.nx (c:=1) hr ha.2.2
    refine Ret.ctl (Z4 (V6 w t x) (fun k s=>Nx a.2 s.1 (k * Q62 m)∧s.2.length≤k∧cntV.cntVs s.2≤k * Q62 m) (fun _=>False) (fun s=>Nx a.2 s.1 (3 * Q62 m)∧cntV.cntVs s.2≤3 * Q62 m) ⟨by simpa using Nx.refl a.2,by simp,by simp [cntV.cntVs]⟩ (fun k y s hy hI=>?_) (fun s hI=>?_)) (fun r hr=>hr.elim) (fun s hs=>?_)
    ·obtain ⟨j1,j2,j3⟩:=hI
     have hym:=U1 hy
     have hkl:=(List.getElem?_eq_some_iff.1 hy).1
     obtain ⟨d1,d2⟩:=hT.ma x hxc (by omega) y hym
     have hws:wsub .i64 depth 1=depth-1:=Q1u (by omega) (by omega)
     rw [hws]
     have hr2:ROk s.1 (Q62 m):=by
      have:k * Q62 m+Q62 m≤3 * Q62 m:=by
       rw [←Nat.succ_mul]
       exact Nat.mul_le_mul_right _ (by omega)
      exact ROk.nx (c:=k * Q62 m) (hr1.le this) j1
     refine Ret.bind (ih n s.1 y (depth-1) (hT.at_ x hxc y hym) (by omega) (by omega) (by omega) (by omega) (by omega) (by omega) hr2) (fun b hb=>?_)
     rw [W3 (by simp only [Q5,U3,U4];omega)]
     refine .some ⟨?_,by simp;omega,?_⟩
     ·have:=j1.trans hb.1
      rw [←Nat.succ_mul] at this
      exact this
     ·have e1:=Z8q s.2 [b.1]
      have e2:cntV.cntVs [b.1]=cntV b.1:=by simp [cntV.cntVs]
      have e3:=hb.2
      have e4:(k+1) * Q62 m=k * Q62 m+Q62 m:=Nat.succ_mul k (Q62 m)
      simp only at e1 ⊢
      omega
    ·obtain ⟨j1,j2,j3⟩:=hI
     exact ⟨j1.le' (Nat.mul_le_mul_right _ hal),Nat.le_trans j3 (Nat.mul_le_mul_right _ hal)⟩
    ·refine .some ⟨ha.2.2.trans hs.1,?_⟩
     have e1:=hs.2
     have e2:Q62 (m+1)=1+3 * Q62 m:=rfl
     rw [Q5g]
     simp only
     omega
theorem X9u {r:X0} (h:ROk r 1000):Ret (Q3s NN r) (fun a=>a.1∈Q0z∧a.2.1∈tys a.1∧Nx r a.2.2.2 500∧widV 3 a.2.2.1∧depP a.1 a.2.1≠0∧cntV a.2.2.1≤121):=by
 unfold Q3s
 refine Ret.bind (X81 (h.le (by omega))) (fun a ha=>?_)
 obtain ⟨hw,hn1⟩:=ha
 have hW:=ww hw
 rw [hW.tab]
 simp only [U0]
 have hr1:ROk a.2 999:=ROk.nx (c:=1) h hn1
 have hpos:=hW.pos
 have hle:=hW.le
 refine Ret.bind (Q34 (hr1.le (by omega)) (k:=lenZ a.1.length) (by simp only [lenZ];omega) (by simp only [lenZ];omega)) (fun b hb=>?_)
 have hr2:ROk b.2 998:=ROk.nx (c:=1) hr1 hb.2.2
 refine Ret.bind (Q7k (hr2.le (by omega)) [0,0,1,2] (by simp) (by simp)) (fun c hc=>?_)
 have hr3:ROk c.2 997:=ROk.nx (c:=1) hr2 hc.2
 have hty:(Q4.mk b.1 c.1)∈tys a.1:=by
  obtain ⟨i,hi⟩:=Int.eq_ofNat_of_zero_le hb.1
  have hil:i<a.1.length:=by have:=hb.2.1;simp only [lenZ] at this;omega
  have hci:∃ j:Nat,j<4∧c.1=(j:Int):=by
   have:=hc.1
   simp at this
   rcases this with h | h | h
   ·exact ⟨0,by omega,h⟩
   ·exact ⟨1,by omega,h⟩
   ·exact ⟨2,by omega,h⟩
  obtain ⟨j,hj,hcj⟩:=hci
  unfold tys
  refine List.mem_cons_of_mem _ (List.mem_flatMap.2 ⟨i,List.mem_range.2 hil,U10.2 ⟨j,List.mem_range.2 hj,?_⟩⟩)
  rw [hi,hcj]
  rfl
 have htI:tI∈tys a.1:=by unfold tys;exact List.mem_cons_self
 refine Ret.ctl (R:=fun _=>False) (B:=fun s=>(Q4.mk s.1 s.2)∈tys a.1∧depP a.1 (Q4.mk s.1 s.2)≠0) ?_ (fun r hr=>hr.elim) (fun s hs=>?_)
 ·rw [(hW.ty _ hty).d1]
  simp only [U0]
  refine Ret.ite (fun h=>?_) (fun h=>?_)
  ·refine .some ⟨htI,?_⟩
   have:=(hW.ty tI htI).ti rfl
   show depP a.1 tI≠0
   omega
  ·rw [Z9] at h
   exact .some ⟨hty,h⟩
 ·refine Ret.bind (Q7k (hr3.le (by omega)) [3,2,4,1] (by simp) (by simp)) (fun d hd=>?_)
  have hr4:ROk d.2 996:=ROk.nx (c:=1) hr3 hd.2
  have hd4:1≤d.1∧d.1≤4:=by
   have:=hd.1
   simp at this
   omega
  have hdep:=(hW.ty _ hs.1).d4
  refine Ret.bind ((W5i hW 4 NN d.2 _ d.1 hs.1 hs.2 (by omega) (by omega) (by omega) (by omega) (by decide) (hr4.le (by decide))).both (X5a hW NN d.2 _ d.1 hs.1)) (fun e he=>?_)
  refine .some ⟨hw,hs.1,?_,he.2,hs.2,he.1.2⟩
  have:=(((hn1.trans hb.2.2).trans hc.2).trans hd.2).trans he.1.1
  exact this.le' (by decide)
theorem X9s {r:X0} (h:ROk r 5000):Ret (Q3p NN r) (fun a=>a.1∈Q0z∧a.2.1∈tys a.1∧(∀ c∈a.2.2.1,Q4y a.1 a.2.1 c.pat=true)∧a.2.2.1.length≤5∧Nx r a.2.2.2.2 4000∧widV 3 a.2.2.2.1∧depP a.1 a.2.1≠0∧cntV a.2.2.2.1≤121):=by
 unfold Q3p
 refine Ret.bind (X9u (h.le (by omega))) (fun a ha=>?_)
 obtain ⟨h1,h2,h3,h4,h5,h6⟩:=ha
 refine Ret.bind (X8m (ww h1) h2 (ROk.nx (c:=500) (h.le (by omega)) h3)) (fun b hb=>?_)
 exact .some ⟨h1,h2,hb.1,hb.2.1,(h3.trans hb.2.2).le' (by omega),h4,h5,h6⟩
theorem X7n (code:List Int) (hb:∀ x∈code,0≤x∧x≤255):Ret (Q0x NN code) (fun a=>a.1∈Q0z∧a.2.1∈tys a.1∧cntV a.2.2.2.2≤20000131):=by
 unfold Q0x
 refine Ret.bind (X1d code hb) (fun r hr=>?_)
 obtain ⟨hr,hp0⟩:=hr
 refine Ret.bind (X9s (hr.le (by omega))) (fun a ha=>?_)
 obtain ⟨h1,h2,h3,h4,h5,h6,_,h8⟩:=ha
 have hr1:ROk a.2.2.2.2 900000:=ROk.nx (c:=4000) (hr.le (by omega)) h5
 refine Ret.bind (X0c (hr1.le (by omega)) a.2.2.1 (by omega) (fun c hc=>by have:=Z9y (ww h1) h2 (h3 c hc);omega)) (fun b hb=>?_)
 have hr2:ROk b.2 800000:=ROk.nx (c:=10) (hr1.le (by omega)) hb.2
 refine Ret.bind (Q7k (hr2.le (by omega)) [0,1,2,0,3] (by simp) (by simp)) (fun c hc=>?_)
 have hr3:ROk c.2 700000:=ROk.nx (c:=1) (hr2.le (by omega)) hc.2
 have hp:c.2.p≤5000:=by
  have e1:=h5.ge
  have e2:=hb.2.ge
  have e3:=hc.2.ge
  omega
 refine Ret.bind (X6k (hr3.le (by omega)) hp (Q80 (by omega) _ h6)) (fun d hd=>.some ⟨h1,h2,by have:=hd.2;simp only;omega⟩)
theorem X5e:∀ l:List Q1,l.length≤cntV.cntVs l
 | []=>by simp [cntV.cntVs]
 | v::l=>by
  have h1:=X5e l
  have h2:=Q5g v
  simp only [U3,cntV.cntVs]
  omega
theorem W3b:∀ (n:Nat) (r:X0) (v:Q1) (m:Nat),cntV v≤m→m<n→m≤30000000→ROk r m→Ret (Q4u n r v) (fun a=>Nx r a.2 (cntV v)):=by
 intro n
 induction n with
 | zero=>intro r v m _ h;omega
 | succ n ih=>
  intro r v m hm hn h3 hr
  have hcv:=Q5g v
  unfold Q4u
  refine Ret.bind (Q34 (hr.le (by omega)) (by omega) (by omega)) (fun a ha=>?_)
  refine Ret.ite (fun _=>.some (ha.2.2.le' (by omega))) (fun _=>?_)
  have hr1:ROk a.2 (m-1):=ROk.nx (c:=1) (hr.le (by omega)) ha.2.2
  refine Ret.ctl (Z4 v.kids (fun k (s:X0×List Q1)=>Nx a.2 s.1 (cntV.cntVs (v.kids.take k))∧s.2.length=k) (fun _=>False) (fun s=>Nx a.2 s.1 (cntV.cntVs v.kids)) ⟨by simpa [cntV.cntVs] using Nx.refl a.2,by simp⟩ (fun k x s hx hI=>?_) (fun s hI=>by rw [List.take_length] at hI;exact hI.1)) (fun r hr=>hr.elim) (fun s hs=>.some ?_)
  ·obtain ⟨i1,i2⟩:=hI
   have htk:=Q8g v.kids k x hx
   have hle:=Q70 v.kids (k+1)
   have hkl:=(List.getElem?_eq_some_iff.1 hx).1
   have hlen:=X5e v.kids
   refine Ret.bind (ih s.1 x (m-1-cntV.cntVs (v.kids.take k)) (by omega) (by omega) (by omega) (ROk.nx (c:=cntV.cntVs (v.kids.take k)) (hr1.le (by omega)) i1)) (fun b hb=>?_)
   rw [W3 (by simp only [U3,U4,Q5];omega)]
   refine .some ⟨?_,by simp [i2]⟩
   rw [htk]
   exact i1.trans hb
  ·have:=ha.2.2.trans hs
   exact this.le' (by omega)
theorem Z8l (code:List Int) (hb:∀ x∈code,0≤x∧x≤255):Ret (Q16 NN code) (fun a=>a.1∈Q0z∧a.2.1∈tys a.1):=by
 unfold Q16
 refine Ret.bind (X7n code hb) (fun a ha=>?_)
 obtain ⟨h1,h2,h3⟩:=ha
 refine Ret.bind (X1d code hb) (fun r hr=>?_)
 obtain ⟨hr,hp0⟩:=hr
 refine Ret.bind (W3b NN r a.2.2.2.2 20000131 h3 (by decide) (by omega) ⟨hr.bytes,hr.len,hr.p0,by omega⟩) (fun b _=>.some ⟨h1,h2⟩)
theorem X6s {w:List Q3} : ∀ (d n:Nat) (t:Q4) (a b:Q1),Q91 w d t b→d≤n→Ret (Q7c n a b) (fun r=>r=true→X1e d a b):=by
 intro d
 induction d with
 | zero=>intro n t a b h;exact h.elim
 | succ d ih=>
  intro n t a b h hn
  obtain ⟨n,rfl⟩:∃ j,n=j+1:=⟨n-1,by omega⟩
  unfold Q7c
  refine Ret.ite (fun hc=>.some fun _=>.inl (by rw [Q8] at hc;exact hc)) (fun hc=>?_)
  rw [Z9] at hc
  refine Ret.ite (fun _=>.some fun h=>(by cases h)) (fun h1=>?_)
  refine Ret.ite (fun _=>.some fun h=>(by cases h)) (fun h2=>?_)
  refine Ret.ite (fun _=>.some fun h=>(by cases h)) (fun h3=>?_)
  rw [Bool.not_eq_false',Q8] at h1 h2 h3
  simp only [lenZ] at h3
  have hkid:∀ (j:Nat) (y:Q1),b.kids[j]?=some y→∃ t',Q91 w d t' y:=fun j y hy=>by
   rw [Q91] at h
   rcases h with h | ⟨_,h⟩
   ·exact absurd h.1 hc
   ·split at h
    ·rw [h.2.2.2] at hy
     cases hy
    ·obtain ⟨_,_,g3,g4⟩:=h
     have hjl:=(List.getElem?_eq_some_iff.1 hy).1
     have ha:(V6 w t b.ctor)[j]?=some ((V6 w t b.ctor)[j]'(by omega)):=by simp
     exact ⟨_,g4 j _ y ha hy⟩
  refine Ret.ctl (Z4 b.kids (fun k _=>∀ (j:Nat) (x y:Q1),j<k→a.kids[j]?=some x→b.kids[j]?=some y→X1e d x y) (fun r=>r=false) (fun _=>∀ (j:Nat) (x y:Q1),a.kids[j]?=some x→b.kids[j]?=some y→X1e d x y) (fun j x y hj=>by omega) (fun k y s hy hI=>?_) (fun s hI j x y hx hy=>hI j x y (List.getElem?_eq_some_iff.1 hy).1 hx hy)) (fun r hr=>.some fun h=>(by rw [hr] at h;cases h)) (fun s hs=>.some fun _=>.inr ⟨h1,h2,by omega,hs⟩)
  have hkl:=(List.getElem?_eq_some_iff.1 hy).1
  have hx:a.kids[k]?=some (a.kids[k]'(by omega)):=by simp
  rw [Q2a hx]
  simp only [U0]
  obtain ⟨t',ht'⟩:=hkid k y hy
  refine Ret.bind (ih n t' _ y ht' (by omega)) (fun r hr=>?_)
  refine Ret.ite (fun _=>.some rfl) (fun hrr=>.some fun j x z hj h4 h5=>?_)
  rw [Bool.not_eq_false'] at hrr
  by_cases hjk:j=k
  ·subst hjk
   rw [hx] at h4
   rw [hy] at h5
   cases h4
   cases h5
   exact hr hrr
  ·exact hI j x z (by omega) h4 h5
theorem Z44 {w:List Q3} (hw:WW w) {t:Q4} (ht:t∈tys w) (a b:Q1):Ret (Q37 NN w t a b) (fun r=>r=true→Q9j w t a=true∧X1e 10 a b):=by
 unfold Q37
 rw [Z2s hw ht]
 simp only [U0]
 refine Ret.ite (fun ha=>?_) (fun _=>.some fun h=>(by cases h))
 rw [Z2s hw ht]
 simp only [U0]
 refine Ret.ite (fun hb=>?_) (fun _=>.some fun h=>(by cases h))
 refine Ret.bind (X6s 10 NN t a b (Z6q hb) (by decide)) (fun r hr=>.some fun h=>⟨ha,hr h⟩)
theorem Z7q (code more:List Int) (hb:∀ x∈code,0≤x∧x≤255) (hm:∀ x∈more,0≤x∧x≤255):Q20 NN code more=some true:=by
 suffices hr:Ret (Q20 NN code more) (fun r=>r=true) by
  obtain ⟨_,e,rfl⟩:=hr
  exact e
 unfold Q20
 refine Ret.ite (fun _=>.some rfl) (fun _=>?_)
 refine Ret.ite (fun _=>.some rfl) (fun _=>?_)
 refine Ret.bind (Z8l code hb) (fun a ha=>?_)
 obtain ⟨w,t,l,pick,v⟩:=a
 obtain ⟨hww,ht⟩:=ha
 simp only at hww ht ⊢
 have hw:=ww hww
 obtain ⟨tr,ok,e1,e2,h1,h2,h3⟩:=(Q9s hww ht l pick).eq
 obtain ⟨r,p1,p2,hr⟩:=Z8w hww ht e1 e2 h2 v
 have r1:ieq r.1 r.1=true:=by simp [ieq]
 rw [p1,p2]
 simp only [U0,r1,beq_self_eq_true,Bool.not_true,U2,if_false,if_true]
 rw [Z7c]
 simp only [U0,Bool.not_true,U2,if_false,if_true]
 refine Ret.ite (fun _=>.some rfl) (fun hk=>?_)
 rw [Bool.not_eq_false'] at hk
 rcases hr with ⟨rfl,_⟩ | ⟨hok,hv,q,hq,rfl⟩
 ·cases hk
 subst hok
 have hneed:q.2.2.1=false:=by
  simp only at hk
  simpa using hk
 have hq1:=(W3h 300 tr q hq).2 hneed
 refine Ret.bind (Z8l more hm) (fun b _=>?_)
 refine Ret.bind (Z44 hw ht b.2.2.2.2 v) (fun km hkm=>?_)
 refine Ret.ite (fun h=>?_) (fun _=>?_)
 ·obtain ⟨hvb,hmo⟩:=hkm h
  obtain ⟨s,s1,_,hs⟩:=Z8w hww ht e1 e2 h2 b.2.2.2.2
  rw [s1]
  simp only [U0]
  rcases hs with ⟨_,hs⟩ | ⟨_,_,q',hq',rfl⟩
  ·exact absurd ⟨rfl,hvb⟩ hs
  ·have:=X3p hmo 300 tr q hq hneed
   rw [this] at hq'
   cases hq'
   simp only [hneed,Bool.not_false,if_true]
   exact .some (by simp [ieq])
 ·obtain ⟨vs,hvs,_,hvv⟩:=Z9a hw ht (d:=2) (by decide) (by decide)
  rw [hvs]
  simp only [U0]
  refine Ret.ctl (Z4 vs.1 (fun _ _=>True) (fun _=>False) (fun _=>True) trivial (fun k x u hx _=>?_) (fun _ _=>trivial)) (fun r hr=>hr.elim) (fun _ _=>.some rfl)
  obtain ⟨g1,g2⟩:=hvv x (U1 hx)
  refine Ret.ctl (R:=fun _=>False) (B:=fun _=>True) ?_ (fun r h=>h.elim) (fun _ _=>.some trivial)
  have hcan:=Z1l hww ht e1
  simp only [canC,Bool.and_eq_true] at hcan
  rw [W8k hw ht l x,V2k hcan.1.1 g1]
  simp only [U0]
  refine Ret.bind (Z44 hw ht x v) (fun km hkm=>?_)
  refine Ret.ite (fun h=>?_) (fun _=>.some trivial)
  obtain ⟨_,hmo⟩:=hkm h
  have hqx:=X3p hmo 300 tr q hq hneed
  obtain ⟨c1,_,_⟩:=X8b hww ht e1 (Z47 4 10 t x (by omega) g2) hqx
  rw [if_neg (by rw [Bool.not_eq_true,Bool.not_eq_false',Q8];exact c1.symm)]
  exact .some trivial
end Go.Proofs.YtjgapphpbkapmaaGreat
