import Derived.Test.YtenmmbjgnlflnaaGreatBJMc0
import Derived.Test.YtenmmbjgnlflnaaGreatBJP1
set_option linter.unusedSimpArgs false
set_option linter.unusedVariables false
namespace Go.Proofs.YtenmmbjgnlflnaaGreat
open Go Go.RowKit
theorem W31 {m:Nat} : ∀ {l:List Q1},(∀ x∈l,depV x≤m)→depV.depVs l≤m
 | [],_=>by simp [depV.depVs]
 | x::l,h=>by
  rw [depV.depVs]
  exact Nat.max_le.2 ⟨h x (by simp),W31 fun y hy=>h y (by simp [hy])⟩
theorem X7k {w:List Q4} : ∀ (d:Nat) (t:Q2) (v:Q1),Q2f w d t v→depV v≤d:=by
 intro d
 induction d with
 | zero=>intro t v h;exact h.elim
 | succ d ih=>
  intro t v h
  rw [W12]
  simp only [Q2f] at h
  split at h
  ·rw [h.2.2.2,depV.depVs];omega
  ·have:depV.depVs v.kids≤d:=W31 fun x hx=>by
    obtain ⟨j,hj⟩:=List.mem_iff_getElem?.1 hx
    have hlt:=(List.getElem?_eq_some_iff.1 hj).1
    have ha:(W0 w t v.ctor)[j]?=some ((W0 w t v.ctor)[j]'(by omega)):=by simp
    exact ih _ x (h.2.2.2 j _ x ha hj)
   omega
def Z36:Nat→Q0→Int→Bool
 | 0,_,_=>false
 | d+1,p,x=>((decide (p.op=2)||decide (p.op=6))&&decide (p.var=x))||p.kids.any fun q=>Z36 d q x
def Q27:Nat→Q0→Int→Bool
 | 0,_,_=>false
 | d+1,p,x=>if p.op=6 then Q27 d (p.kids.getD 0 default) x else if p.op=5 then Q27 d (p.kids.getD 0 default) x&&Q27 d (p.kids.getD 1 default) x
  else if p.op=4 then p.kids.any fun q=>Z36 d q x else false
def Q2w (w:List Q4):Nat→Q2→Q0→List Int
 | 0,_,_=>[]
 | d+1,t,p=>if p.op=6 then Q2w w d t (p.kids.getD 0 default) else if p.op=5 then (Q2w w d t (p.kids.getD 0 default)).filter fun x=>decide (x∈Q2w w d t (p.kids.getD 1 default))
  else if p.op=4 then ((W0 w t p.ctor).zip p.kids).flatMap fun x=>(Q0x w d x.1 x.2).map (·.var) else []
theorem Z9o {w:List Q4} : ∀ (d:Nat) (t:Q2) (p:Q0),Q0r w d t p=true→linD w d t p=true→∀ x,Z36 d p x=true↔x∈(Q0x w d t p).map (·.var):=by
 intro d
 induction d with
 | zero=>intro t p h;cases h
 | succ d ih=>
  intro t p hg hlin x
  obtain ⟨ho,hl⟩:=Q3c (Q2e hg)
  simp only [linD,Bool.and_eq_true,List.all_eq_true] at hlin
  rw [Q0x,Z36]
  simp only [Bool.or_eq_true,Bool.and_eq_true,decide_eq_true_eq,List.any_eq_true,List.map_append,U9]
  have kid:∀ q∈p.kids,∃ a,(a,q)∈(V4 w t p).zip p.kids∧Q0r w d a q=true∧linD w d a q=true:=fun q hq=>by
   obtain ⟨j,hj⟩:=List.mem_iff_getElem?.1 hq
   have hjl:=(List.getElem?_eq_some_iff.1 hj).1
   have ha:(V4 w t p)[j]?=some ((V4 w t p)[j]'(by omega)):=by simp
   have hz:=U1 (Q3u ha hj)
   exact ⟨_,hz,W9 hg ha hj,hlin.1 _ hz⟩
  have hown:x∈(ownV t p).map (·.var)↔(p.op=2∨p.op=6)∧p.var=x:=by
   unfold ownV
   split
   ·rename_i h;simp [h,eq_comm]
   ·rename_i h;simp [h]
  rw [hown]
  refine or_congr Iff.rfl ?_
  by_cases h5:p.op=5
  ·obtain ⟨a,c,hkids,hkt⟩:=kid0 h5 hl
   have ga:=W9 hg (k:=0) (by rw [hkt];rfl) (by rw [hkids];rfl)
   have gc:=W9 hg (k:=1) (by rw [hkt];rfl) (by rw [hkids];rfl)
   have g0:=hlin.1 (t,a) (by rw [hkids,hkt];simp)
   have g1:=hlin.1 (t,c) (by rw [hkids,hkt];simp)
   have hal:=hlin.2
   rw [if_pos h5] at hal
   have k0:kv w d t p 0=Q0x w d t a:=by simp [kv,hkids,hkt]
   have k1:kv w d t p 1=Q0x w d t c:=by simp [kv,hkids,hkt]
   rw [k0,k1] at hal
   have hp:=Z5a (Q1l d t a ga g0) hal
   rw [hkids,hkt,if_pos h5]
   simp only [List.zip_cons_cons,List.zip_nil_right,List.take_succ_cons,List.take_zero,List.flatMap_cons,List.flatMap_nil,List.append_nil,U8,List.not_mem_nil,or_false]
   constructor
   ·rintro ⟨q,rfl | rfl,h⟩
    ·exact (ih t _ ga g0 x).1 h
    ·exact hp.mem_iff.2 ((ih t _ gc g1 x).1 h)
   ·exact fun h=>⟨a,.inl rfl,(ih t a ga g0 x).2 h⟩
  ·rw [if_neg h5,List.take_of_length_le (by rw [List.length_zip];omega)]
   simp only [U11,List.mem_flatMap]
   constructor
   ·rintro ⟨q,hq,h⟩
    obtain ⟨a,hz,g,ln⟩:=kid q hq
    obtain ⟨u,h1,h2⟩:=U11.1 ((ih a q g ln x).1 h)
    exact ⟨u,⟨(a,q),hz,h1⟩,h2⟩
   ·rintro ⟨u,⟨y,hy,h1⟩,h2⟩
    obtain ⟨j,hj⟩:=List.mem_iff_getElem?.1 hy
    obtain ⟨e1,e2⟩:=List.getElem?_zip_eq_some.1 hj
    exact ⟨y.2,U1 e2,(ih y.1 y.2 (W9 hg e1 e2) (hlin.1 y hy) x).2 (U11.2 ⟨u,h1,h2⟩)⟩
theorem Z8a {w:List Q4} : ∀ (d:Nat) (t:Q2) (p:Q0),Q0r w d t p=true→linD w d t p=true→∀ x,Q27 d p x=true↔x∈Q2w w d t p:=by
 intro d
 induction d with
 | zero=>intro t p h;cases h
 | succ d ih=>
  intro t p hg hlin x
  obtain ⟨ho,hl⟩:=Q3c (Q2e hg)
  simp only [linD,Bool.and_eq_true,List.all_eq_true] at hlin
  rw [Q2w,Q27]
  by_cases h6:p.op=6
  ·obtain ⟨a,hkids,hk2⟩:=Z2e h6 hl
   have ga:=W9 hg (k:=0) (by rw [hk2];rfl) (by rw [hkids];rfl)
   have g0:=hlin.1 (t,a) (by rw [hkids,hk2];simp)
   rw [if_pos h6,if_pos h6,hkids]
   exact ih t a ga g0 x
  rw [if_neg h6,if_neg h6]
  by_cases h5:p.op=5
  ·obtain ⟨a,c,hkids,hkt⟩:=kid0 h5 hl
   have ga:=W9 hg (k:=0) (by rw [hkt];rfl) (by rw [hkids];rfl)
   have gc:=W9 hg (k:=1) (by rw [hkt];rfl) (by rw [hkids];rfl)
   have g0:=hlin.1 (t,a) (by rw [hkids,hkt];simp)
   have g1:=hlin.1 (t,c) (by rw [hkids,hkt];simp)
   rw [if_pos h5,if_pos h5,hkids]
   simp only [Bool.and_eq_true,List.mem_filter,decide_eq_true_eq]
   exact and_congr (ih t a ga g0 x) (ih t c gc g1 x)
  rw [if_neg h5,if_neg h5]
  by_cases h4:p.op=4
  ·rw [if_pos h4,if_pos h4]
   have hk4:V4 w t p=W0 w t p.ctor:=by simp [V4,h4]
   rw [←hk4]
   simp only [List.any_eq_true,List.mem_flatMap]
   constructor
   ·rintro ⟨q,hq,h⟩
    obtain ⟨j,hj⟩:=List.mem_iff_getElem?.1 hq
    have hjl:=(List.getElem?_eq_some_iff.1 hj).1
    have ha:(V4 w t p)[j]?=some ((V4 w t p)[j]'(by omega)):=by simp
    have hz:=U1 (Q3u ha hj)
    exact ⟨_,hz,(Z9o d _ q (W9 hg ha hj) (hlin.1 _ hz) x).1 h⟩
   ·rintro ⟨y,hy,h⟩
    obtain ⟨j,hj⟩:=List.mem_iff_getElem?.1 hy
    obtain ⟨e1,e2⟩:=List.getElem?_zip_eq_some.1 hj
    exact ⟨y.2,U1 e2,(Z9o d y.1 y.2 (W9 hg e1 e2) (hlin.1 y hy) x).2 h⟩
  ·rw [if_neg h4,if_neg h4]
   simp
theorem W3r {w:List Q4} : ∀ (d:Nat) (t:Q2) (p:Q0),Q0r w d t p=true→linD w d t p=true→∀ x,x∈Q2w w d t p→x∈(Q0x w d t p).map (·.var):=by
 intro d
 induction d with
 | zero=>intro t p h;cases h
 | succ d ih=>
  intro t p hg hlin x hx
  obtain ⟨ho,hl⟩:=Q3c (Q2e hg)
  simp only [linD,Bool.and_eq_true,List.all_eq_true] at hlin
  rw [Q2w] at hx
  rw [Q0x,List.map_append,U9]
  refine .inr ?_
  by_cases h6:p.op=6
  ·obtain ⟨a,hkids,hk2⟩:=Z2e h6 hl
   have ga:=W9 hg (k:=0) (by rw [hk2];rfl) (by rw [hkids];rfl)
   have g0:=hlin.1 (t,a) (by rw [hkids,hk2];simp)
   rw [if_pos h6,hkids] at hx
   have:=ih t a ga g0 x hx
   rw [if_neg (by omega),hkids,hk2]
   simpa using this
  rw [if_neg h6] at hx
  by_cases h5:p.op=5
  ·obtain ⟨a,c,hkids,hkt⟩:=kid0 h5 hl
   have ga:=W9 hg (k:=0) (by rw [hkt];rfl) (by rw [hkids];rfl)
   have g0:=hlin.1 (t,a) (by rw [hkids,hkt];simp)
   rw [if_pos h5,hkids] at hx
   have:=ih t a ga g0 x (List.mem_filter.1 hx).1
   rw [if_pos h5,hkids,hkt]
   simpa using this
  rw [if_neg h5] at hx
  split at hx
  ·rename_i h4
   have hk4:V4 w t p=W0 w t p.ctor:=by simp [V4,h4]
   rw [if_neg h5,List.take_of_length_le (by rw [List.length_zip];omega),hk4]
   obtain ⟨y,hy,h⟩:=List.mem_flatMap.1 hx
   obtain ⟨u,h1,h2⟩:=U11.1 h
   exact U11.2 ⟨u,List.mem_flatMap.2 ⟨y,hy,h1⟩,h2⟩
  ·cases hx
theorem X9k {w:List Q4} : ∀ (d:Nat) (t:Q2) (p:Q0) (e:Nat) (v:Q1) (l:List X1),Q0r w d t p=true→linD w d t p=true→Q2f w e t v→X7 d p v=some l→∀ b∈l,Q27 d p b.var=true→depV b.value<depV v:=by
 intro d
 induction d with
 | zero=>intro t p e v l h;cases h
 | succ d ih=>
  intro t p e v l hg hlin hv hm b hb hp
  have hmt:=X0m (d+1) t p e v l hg hlin hv hm b hb
  obtain ⟨ho,hl⟩:=Q3c (Q2e hg)
  have hdis:=Q1l (d+1) t p hg hlin
  simp only [linD,Bool.and_eq_true,List.all_eq_true] at hlin
  rw [Q27] at hp
  rw [X7] at hm
  by_cases h6:p.op=6
  ·rw [if_pos h6] at hp
   obtain ⟨a,hkids,hk2⟩:=Z2e h6 hl
   have ga:=W9 hg (k:=0) (by rw [hk2];rfl) (by rw [hkids];rfl)
   have g0:=hlin.1 (t,a) (by rw [hkids,hk2];simp)
   rw [if_neg (by omega),if_neg (by omega),if_neg (by omega),if_neg (by omega),if_pos h6,hkids] at hm
   simp only at hm
   have hp:Q27 d a b.var=true:=by rw [hkids] at hp;exact hp
   cases ha:X7 d a v with
   | none=>rw [ha] at hm;cases hm
   | some l'=>
    rw [ha] at hm
    cases hm
    rcases U8.1 hb with rfl | hb
    ·exfalso
     simp only at hp
     have hpp:=(Z8a d t a ga g0 p.var).1 hp
     have hmem:p.var∈(Q0x w d t a).map (·.var):=by
      exact W3r d t a ga g0 p.var hpp
     simp only [Q0e,decide_eq_true_eq] at hdis
     rw [Q0x,hkids,hk2] at hdis
     simp only [ownV,h6,or_true,if_true,List.zip_cons_cons,List.zip_nil_right,U3,U4,List.flatMap_cons,List.flatMap_nil,List.append_nil,List.map_append,List.map_cons,List.map_nil] at hdis
     simp at hdis
     obtain ⟨u,h1,h2⟩:=U11.1 hmem
     exact hdis.1 u h1 h2
    ·exact ih t a e v l' ga g0 hv ha b hb hp
  rw [if_neg h6] at hp
  by_cases h5:p.op=5
  ·rw [if_pos h5,Bool.and_eq_true] at hp
   obtain ⟨a,c,hkids,hkt⟩:=kid0 h5 hl
   have ga:=W9 hg (k:=0) (by rw [hkt];rfl) (by rw [hkids];rfl)
   have gc:=W9 hg (k:=1) (by rw [hkt];rfl) (by rw [hkids];rfl)
   have g0:=hlin.1 (t,a) (by rw [hkids,hkt];simp)
   have g1:=hlin.1 (t,c) (by rw [hkids,hkt];simp)
   rw [hkids] at hp
   rw [if_neg (by omega),if_neg (by omega),if_neg (by omega),if_pos h5,hkids] at hm
   simp only at hm
   split at hm
   ·rename_i l' hl'
    cases hm
    exact ih t a e v _ ga g0 hv hl' b hb hp.1
   ·exact ih t c e v _ gc g1 hv hm b hb hp.2
  rw [if_neg h5] at hp
  split at hp
  ·rename_i h4
   obtain ⟨u,_,_,_,_,_,h⟩:=hmt
   exact h h4
  ·cases hp
def X5d (f:Int)(pr:Int→Bool)(e:Z1):Bool:=decide (e.op=5)&&(decide (f<e.n)||(decide (e.n=f)&&!(decide ((e.kids.getD 0 default).op=2)&&pr (e.kids.getD 0 default).n)))
def Z0s (f:Int)(pr:Int→Bool):Nat→Z1→Bool
 | 0,_=>false
 | d+1,e=>!X5d f pr e&&e.kids.all fun q=>Z0s f pr d q
def Y5f (w:List Q4)(F:List GFun)(f:Int)(D:Nat)(cl:Int→Q1→Rn→Q1×Rn):Prop:=∀ (h:Int) (g:GFun) (v:Q1) (s:Rn),0≤h→F[h.toNat]?=some g→Q0z w g.typ.arg v=true→s.code=0→(h<f∨h=f∧depV v<D)→(cl h v s).2.code≠3
theorem V4m {w:List Q4}(hw:WW w)(hf:Fit w){F:List GFun}(hF:Z17 w F){f:Int}{D:Nat}{cl:Int→Q1→Rn→Q1×Rn}(hok:ClOk w F cl)(hcl:Y5f w F f D cl){vars:List Q5}{l:List X1}(hl:Z8m w vars l)
  {pr:Int→Bool} (hpr:∀ x u,vars.find? (fun v=>decide (v.var=x))=some u→pr x=true→depV (Z7x l x)<D) :
  ∀ (d n:Nat) (t:Q2) (e:Z1) (s:Rn),t∈tys w→Q5e w (F.map (·.typ)) vars d t e=true→Z0s f pr n e=true→s.code=0→(evE w (F.map (·.typ)) cl l d t e s).2.code≠3:=by
 intro d
 induction d with
 | zero=>intro n t e s _ h;cases h
 | succ d ih=>
  intro n t e s ht h hdes hs
  obtain ⟨hn,hlen⟩:=Q87 h
  obtain ⟨n,rfl⟩:∃ m,n=m+1:=by
   cases n with
   | zero=>cases hdes
   | succ n=>exact ⟨n,rfl⟩
  simp only [Z0s,Bool.and_eq_true,Bool.not_eq_true',List.all_eq_true] at hdes
  rw [evE]
  by_cases h1:e.op=1
  ·rw [if_pos h1];show s.code≠3;omega
  rw [if_neg h1]
  by_cases h2:e.op=2
  ·rw [if_pos h2];show s.code≠3;omega
  rw [if_neg h2]
  have hkt:=Z0i hw (Z6e hF) ht hn
  have hq:=Z1p (w:=w) (ev:=evE w (F.map (·.typ)) cl l d) (Y9 w (F.map (·.typ)) t e) e.kids s hlen hs (fun j a x s' ha hx hs'=>Z1q hw hf hF hok hl d a x s' (hkt a (U1 ha)) (Q5d h ha hx) hs')
  have hnq:=W0y (w:=w) (c:=3) (by omega) (ev:=evE w (F.map (·.typ)) cl l d) (Y9 w (F.map (·.typ)) t e) e.kids s hlen hs (fun j a x s' ha hx hs'=>ih n a x s' (hkt a (U1 ha)) (Q5d h ha hx) (hdes.2 x (U1 hx)) hs')
  generalize hqe:evK (evE w (F.map (·.typ)) cl l d) (Y9 w (F.map (·.typ)) t e) e.kids s=q at *
  unfold finE
  split
  ·exact hnq
  rename_i hne
  have h0:q.2.code=0:=by simpa using hne
  have hq:=hq h0
  split
  ·exact hnq
  split
  ·split
   ·exact hnq
   ·show (4:Int)≠3;omega
  ·rename_i h4 h3
   have ho:e.op=5:=by
    rcases Z4h hn with ho | ho | ho | ho | ho
    ·exact absurd ho h1
    ·exact absurd ho h2
    ·exact absurd ho h3
    ·exact absurd ho h4
    ·exact ho
   obtain ⟨n0,n1,fn,hfn,hfit⟩:=X9o hn ho
   obtain ⟨g,hg,rfl,gok⟩:=Z7f hF hfn
   have hk:Y9 w (F.map (·.typ)) t e=[g.typ.arg]:=by
    unfold Y9
    rw [if_neg (by omega),if_neg (by omega),if_pos ho,hfn]
    rfl
   rw [hk] at hq hlen hqe
   match hek:e.kids,hlen with
   | [kid],_=>
    match hq1:q.1,hq with
    | [v],hq=>
     refine hcl e.n g v q.2 n0 hg hq.1 h0 ?_
     have hc:=hdes.1
     unfold X5d at hc
     rw [decide_eq_true ho,Bool.true_and,hek] at hc
     simp only [List.getD_cons_zero,Bool.or_eq_false_iff,decide_eq_false_iff_not,Bool.and_eq_false_iff,Bool.not_eq_false',Bool.and_eq_true,decide_eq_true_eq] at hc
     rcases hc.2 with h5 | h5
     ·exact .inl (by omega)
     ·by_cases he:e.n=f
      ·refine .inr ⟨he,?_⟩
       rw [hek] at hqe
       have hgk:=Q5d h (k:=0) (a:=g.typ.arg) (q:=kid) (by rw [hk];rfl) (by rw [hek];rfl)
       cases d with
       | zero=>cases hgk
       | succ d=>
        have hgn:=(Q87 hgk).1
        obtain ⟨u,hu,_⟩:=V7v hgn h5.1
        have hev:evE w (F.map (·.typ)) cl l (d+1) g.typ.arg kid s=(Z7x l kid.n,s):=by
         rw [evE,if_neg (by have:=h5.1;omega),if_pos h5.1]
        simp only [evK,hev] at hqe
        rw [if_pos hs] at hqe
        rw [←hqe] at hq1
        simp only [List.cons.injEq,and_true] at hq1
        rw [←hq1]
        exact hpr _ u hu h5.2
      ·exact .inl (by omega)
def V6w (F:List GFun)(f:Nat):Prop:=∀ (i:Nat) (g:GFun),i≤f→F[i]?=some g→∀ (j:Nat) (c:Z6) (e:Z1),g.clauses[j]?=some c→g.bodies[j]?=some e→Z0s (i:Int) (Q27 10 c.pat) 10 e=true
theorem W32 (v:Q1):1≤depV v:=by rw [W12];omega
theorem V4n {w:List Q4}(hw:WW w)(hf:Fit w){F:List GFun}(hF:Z17 w F){m:Nat}(hD:V6w F m):∀ (k f:Nat) (g:GFun) (v:Q1) (s:Rn),f≤m→F[f]?=some g→Q0z w g.typ.arg v=true→s.code=0→10 * f+depV v≤k→(evC w F k (f:Int) v s).2.code≠3:=by
 intro k
 induction k with
 | zero=>
  intro f g v s _ _ _ _ h
  have:=W32 v
  omega
 | succ k ih=>
  intro f g v s hfm hg hv hs hk
  simp only [evC]
  split
  ·show (2:Int)≠3;omega
  rw [Int.toNat_natCast,hg]
  simp only
  cases hr:runD v 0 g.clauses with
  | none=>show (1:Int)≠3;omega
  | some x=>
   simp only
   have gok:=hF.2 g (U1 hg)
   obtain ⟨c,e,b,e1,e2,e3,e4,e5,e6,e7⟩:=X1w hw gok hv hr
   rw [List.getD_eq_getElem?_getD,e2]
   obtain ⟨gp,_,ln⟩:=Q15 e5
   refine V4m hw hf hF (f:=(f:Int)) (D:=depV v) (pr:=Q27 10 c.pat) (Z1r hw hf hF k) (fun h g' u s' h0 hg' hu hs' hlt=>?_) e7 (fun y u hu hp=>?_) 10 10 _ e _ gok.res (Q3w e6) (hD f g hfm hg x.1 c e e1 e2) hs
   ·obtain ⟨h,rfl⟩:=Int.eq_ofNat_of_zero_le h0
    have hdu:=X7k 10 _ u (Q2g hu)
    have hdv:=W32 v
    refine ih h g' u s' (by omega) (by simpa using hg') hu hs' ?_
    rcases hlt with hlt | ⟨hlt,hd⟩
    ·omega
    ·omega
   ·
    have hx:=List.find?_some hu
    simp only [decide_eq_true_eq] at hx
    obtain ⟨b',h1,h2⟩:=U11.1 ((Z4i 10 _ c.pat gp ln v b e3).mem_iff.2 (List.mem_map_of_mem (List.mem_of_find?_eq_some hu)))
    have hb:=Q6h gp ln e3
    have hn:((Q90 b).map (·.var)).Nodup:=((Q53 hb.rg).map _).nodup_iff.2 hb.nd
    have hfd:(Q90 b).find? (fun b=>decide (b.var=y))=some b':=Z9g hn ((Q53 hb.rg).mem_iff.2 h1) (by omega)
    unfold Z7x
    rw [e4,hfd]
    exact X9k 10 _ c.pat 10 v b gp ln (Q2g hv) e3 b' h1 (by rw [show b'.var=y by omega];exact hp)
theorem X1n (l:List Q0)(f:Q0→Option Bool)(g:Q0→Bool)(hf:∀ x∈l,f x=some (g x)):X4 l f=some (l.any g):=X20 (Q6b l f g hf)
theorem V4r (l:List Z1)(f:Z1→Option Bool)(g:Z1→Bool)(hf:∀ x∈l,f x=some (g x)):Q11 l f=some (l.any g):=X20 (Q6b l f g hf)
theorem X75 {w:List Q4}{d:Nat}{t:Q2}{p:Q0}(hg:Q0r w (d+1) t p=true){q:Q0}(hq:q∈p.kids):∃ a,Q0r w d a q=true:=by
 obtain ⟨ho,hl⟩:=Q3c (Q2e hg)
 obtain ⟨j,hj⟩:=List.mem_iff_getElem?.1 hq
 have hjl:=(List.getElem?_eq_some_iff.1 hj).1
 have ha:(V4 w t p)[j]?=some ((V4 w t p)[j]'(by omega)):=by simp
 exact ⟨_,W9 hg ha hj⟩
theorem X4i {w:List Q4} : ∀ (d n:Nat) (t:Q2) (p:Q0),Q0r w d t p=true→2 * d≤n→∀ x,Q5p n p x=some (Z36 d p x):=by
 intro d
 induction d with
 | zero=>intro n t p h;cases h
 | succ d ih=>
  intro n t p hg hn x
  obtain ⟨n,rfl⟩:∃ m,n=m+2:=⟨n-2,by omega⟩
  have hc:X4 p.kids (fun a0=>Q31 (n+1) a0 x)=some (p.kids.any fun q=>Z36 d q x):=X1n _ _ _ fun q hq=>by
   obtain ⟨a,ga⟩:=X75 hg hq
   unfold Q31
   rw [ih n a q ga (by omega) x]
   rfl
  unfold Q5p
  rw [hc,Z36]
  simp only [U0]
  by_cases h2:p.op=2
  ·rw [if_pos (by rw [Q8];exact h2)]
   by_cases hv:p.var=x
   ·rw [if_pos (by rw [Q8];exact hv)]
    simp [h2,hv]
   ·rw [if_neg (by rw [Q8];exact hv)]
    simp [hv]
  ·rw [if_neg (by rw [Q8];exact h2)]
   by_cases h6:p.op=6
   ·rw [if_pos (by rw [Q8];exact h6)]
    by_cases hv:p.var=x
    ·rw [if_pos (by rw [Q8];exact hv)]
     simp [h6,hv]
    ·rw [if_neg (by rw [Q8];exact hv)]
     simp [hv]
   ·rw [if_neg (by rw [Q8];exact h6)]
    simp [h2,h6]
theorem X4k {w:List Q4} : ∀ (d n:Nat) (t:Q2) (p:Q0),Q0r w d t p=true→2 * d≤n→∀ x,Q4o n p x=some (Q27 d p x):=by
 intro d
 induction d with
 | zero=>intro n t p h;cases h
 | succ d ih=>
  intro n t p hg hn x
  obtain ⟨n,rfl⟩:∃ m,n=m+2:=⟨n-2,by omega⟩
  obtain ⟨ho,hl⟩:=Q3c (Q2e hg)
  unfold Q4o
  rw [Q27]
  by_cases h6:p.op=6
  ·obtain ⟨a,hkids,hk2⟩:=Z2e h6 hl
   have ga:=W9 hg (k:=0) (by rw [hk2];rfl) (by rw [hkids];rfl)
   rw [if_pos (by rw [Q8];exact h6),if_pos h6,hkids,show (0:Int)=((0:Nat):Int) from rfl,Q00 (xs:=[a]) (i:=0) rfl]
   simp only [U0]
   rw [ih (n+1) t a ga (by omega) x]
   rfl
  rw [if_neg (by rw [Q8];exact h6),if_neg h6]
  by_cases h5:p.op=5
  ·obtain ⟨a,c,hkids,hkt⟩:=kid0 h5 hl
   have ga:=W9 hg (k:=0) (by rw [hkt];rfl) (by rw [hkids];rfl)
   have gc:=W9 hg (k:=1) (by rw [hkt];rfl) (by rw [hkids];rfl)
   rw [if_pos (by rw [Q8];exact h5),if_pos h5,hkids,show (0:Int)=((0:Nat):Int) from rfl,Q00 (xs:=[a,c]) (i:=0) rfl]
   simp only [U0]
   rw [ih (n+1) t a ga (by omega) x]
   simp only [U0]
   rw [show (1:Int)=((1:Nat):Int) from rfl,Q00 (xs:=[a,c]) (i:=1) rfl]
   simp only [U0]
   rw [ih (n+1) t c gc (by omega) x]
   show (if Q27 d a x=true then _ else _)=some (Q27 d a x&&Q27 d c x)
   cases Q27 d a x<;>rfl
  rw [if_neg (by rw [Q8];exact h5),if_neg h5]
  by_cases h4:p.op=4
  ·rw [if_pos (by rw [Q8];exact h4),if_pos h4]
   rw [X1n _ _ (fun q=>Z36 d q x) (fun q hq=>by
    obtain ⟨a,ga⟩:=X75 hg hq
    unfold Q8j
    rw [X4i d (n+1) a q ga (by omega) x]
    rfl)]
   rfl
  ·rw [if_neg (by rw [Q8];exact h4),if_neg h4]
theorem X74 {w:List Q4}{T:List Z0}{vars:List Q5}{d:Nat}{t:Q2}{e:Z1}(h:Q5e w T vars (d+1) t e=true){q:Z1}(hq:q∈e.kids):∃ a,Q5e w T vars d a q=true:=by
 obtain ⟨_,hl⟩:=Q87 h
 obtain ⟨j,hj⟩:=List.mem_iff_getElem?.1 hq
 have hjl:=(List.getElem?_eq_some_iff.1 hj).1
 have ha:(Y9 w T t e)[j]?=some ((Y9 w T t e)[j]'(by omega)):=by simp
 exact ⟨_,Q5d h ha hj⟩
theorem W35 {w:List Q4}{T:List Z0}{vars:List Q5}{d:Nat}{t:Q2}{e:Z1}(h:Q5e w T vars (d+1) t e=true)(h5:e.op=5):∃ q,e.kids=[q]:=by
 obtain ⟨_,hl⟩:=Q87 h
 have:(Y9 w T t e).length=1:=by simp [Y9,h5]
 rw [this] at hl
 exact List.length_eq_one_iff.1 hl
theorem X9w {w:List Q4}{T:List Z0}{vars:List Q5}{f:Int}{tp:Q2}{p:Q0}(hp:Q0r w 10 tp p=true):∀ (d n:Nat) (t:Q2) (e:Z1),Q5e w T vars d t e=true→2 * d+30≤n→Q44 n e f p=some (Z0s f (Q27 10 p) d e):=by
 intro d
 induction d with
 | zero=>intro n t e h;cases h
 | succ d ih=>
  intro n t e hg hn
  obtain ⟨n,rfl⟩:∃ m,n=m+2:=⟨n-2,by omega⟩
  have hc:Q11 e.kids (fun a0=>Q3p (n+1) a0 f p)=some (e.kids.any fun q=>!Z0s f (Q27 10 p) d q):=V4r _ _ _ fun q hq=>by
   obtain ⟨a,ga⟩:=X74 hg hq
   unfold Q3p
   rw [ih n a q ga (by omega)]
   rfl
  have hall:(!(e.kids.any fun q=>!Z0s f (Q27 10 p) d q))=(e.kids.all fun q=>Z0s f (Q27 10 p) d q):=by
   rw [List.any_eq_not_all_not]
   simp
  unfold Q44
  rw [hc,Z0s,X5d]
  simp only [U0,hall]
  by_cases h5:e.op=5
  ·rw [if_pos (by rw [Q8];exact h5),decide_eq_true h5,Bool.true_and]
   obtain ⟨q,hq⟩:=W35 hg h5
   by_cases h1:f≤e.n
   ·rw [if_pos (by rw [W4];exact h1)]
    by_cases h2:f<e.n
    ·rw [if_pos (by rw [Z5];exact h2),decide_eq_true h2]
     rfl
    ·rw [if_neg (by rw [Z5];exact h2),decide_eq_false h2,decide_eq_true (show e.n=f by omega),hq,show (0:Int)=((0:Nat):Int) from rfl,Q00 (xs:=[q]) (i:=0) rfl]
     simp only [U0]
     by_cases h3:q.op=2
     ·rw [if_neg (by rw [Bool.not_eq_true',Z2];exact fun h=>h h3),X4k 10 (n+1) tp p hp (by omega)]
      simp only [U0]
      have e0:([q]:List Z1).getD 0 default=q:=rfl
      rw [e0,decide_eq_true h3]
      cases Q27 10 p q.n<;>rfl
     ·rw [if_pos (by rw [Bool.not_eq_true',Z2];exact h3)]
      have e0:([q]:List Z1).getD 0 default=q:=rfl
      rw [e0,decide_eq_false h3]
      rfl
   ·rw [if_neg (by rw [W4];exact h1),decide_eq_false (show ¬f<e.n by omega),decide_eq_false (show ¬e.n=f by omega)]
    rfl
  ·rw [if_neg (by rw [Q8];exact h5),decide_eq_false h5]
   rfl
def outC (o:Ctl Bool Unit):Option Bool:=match o with
 | .ret r=>some r
 | .go _=>none
 | .brk _=>some true
theorem X99 {w:List Q4}{T:List Z0}{vars:List Q5}{f:Int}(l:List Int):∀ (d n:Nat) (t:Q2) (e:Z1),Q5e w T vars d t e=true→d≤n→Q1w n e f l=some (Z0s f (fun x=>decide (x∈l)) d e):=by
 intro d
 induction d with
 | zero=>intro n t e h;cases h
 | succ d ih=>
  intro n t e hg hn
  obtain ⟨n,rfl⟩:∃ m,n=m+1:=⟨n-1,by omega⟩
  have hl:=Z4 (ρ:=Bool) (f:=fun (k118:Nat) (x119:Z1) (s112:Unit)=>
    ((Q1w n x119 f l).bind fun r126=>
    (if (!r126)=true then
    some (Ctl.ret (false))
    else
    some (Ctl.go ())))) e.kids (s0:=()) (fun k _=>∀ j q,j<k→e.kids[j]?=some q→Z0s f (fun x=>decide (x∈l)) d q=true) (fun r=>r=false∧(e.kids.all fun q=>Z0s f (fun x=>decide (x∈l)) d q)=false) (fun _=>(e.kids.all fun q=>Z0s f (fun x=>decide (x∈l)) d q)=true) (fun j q hj=>by omega) (fun k q s hq hI=>by
   obtain ⟨a,ga⟩:=X74 hg (U1 hq)
   rw [ih n a q ga (by omega)]
   simp only [U0]
   cases hd:Z0s f (fun x=>decide (x∈l)) d q with
   | false=>
    refine .some ⟨rfl,?_⟩
    rw [List.all_eq_false]
    exact ⟨q,U1 hq,by rw [hd];simp⟩
   | true=>
    refine .some (fun j y hj hy=>?_)
    by_cases hjk:j=k
    ·subst hjk
     rw [hq] at hy
     cases hy
     exact hd
    ·exact hI j y (by omega) hy) (fun s hI=>by
   rw [List.all_eq_true]
   intro q hq
   obtain ⟨j,hj⟩:=List.mem_iff_getElem?.1 hq
   exact hI j q (List.getElem?_eq_some_iff.1 hj).1 hj)
  obtain ⟨o,ho,hq⟩:=hl
  have hall:outC o=some (e.kids.all fun q=>Z0s f (fun x=>decide (x∈l)) d q):=by
   cases o with
   | ret r=>obtain ⟨rfl,h2⟩:=hq;rw [h2];rfl
   | go s=>exact hq.elim
   | brk s=>have h2:(e.kids.all fun q=>Z0s f (fun x=>decide (x∈l)) d q)=true:=hq;rw [h2];rfl
  unfold Q1w
  rw [ho,Z0s,X5d]
  simp only [U0]
  by_cases h5:e.op=5
  ·rw [if_pos (by rw [Q8];exact h5),decide_eq_true h5,Bool.true_and]
   obtain ⟨q,hq⟩:=W35 hg h5
   by_cases h2:f<e.n
   ·rw [if_pos (by rw [Z5];exact h2),decide_eq_true h2]
    rfl
   ·rw [if_neg (by rw [Z5];exact h2),decide_eq_false h2]
    by_cases h1:e.n=f
    ·have hi:idx e.kids 0=some q:=by
      rw [hq]
      rfl
     have e0:e.kids.getD 0 default=q:=by
      rw [hq]
      rfl
     rw [if_pos (by rw [Q8];exact h1),decide_eq_true h1,hi,e0]
     simp only [U0]
     by_cases h3:q.op=2
     ·rw [if_neg (by rw [Bool.not_eq_true',Z2];exact fun h=>h h3),X3j,decide_eq_true h3]
      simp only [U0]
      cases decide (q.n∈l) with
      | false=>rfl
      | true=>exact hall
     ·rw [if_pos (by rw [Bool.not_eq_true',Z2];exact h3),decide_eq_false h3]
      rfl
    ·rw [if_neg (by rw [Q8];exact h1),decide_eq_false h1]
     exact hall
  ·rw [if_neg (by rw [Q8];exact h5),decide_eq_false h5]
   exact hall
theorem X41 {w:List Q4}(hw:WW w):∀ (d n:Nat) (t:Q2) (p:Q0),t∈tys w→Q0r w d t p=true→cntP p≤1000→d+5≤n→Q2y n w t p=some (Q2w w d t p)∧(Q2w w d t p).length≤cntP p:=by
 intro d
 induction d with
 | zero=>intro n t p ht h;cases h
 | succ d ih=>
  intro n t p ht hg hc hn
  obtain ⟨n,rfl⟩:∃ m,n=m+1:=⟨n-1,by omega⟩
  have hT:=hw.ty t ht
  obtain ⟨ho,hl⟩:=Q3c (Q2e hg)
  have hcnt:=Q46 p
  unfold Q2y
  rw [Q2w]
  by_cases h6:p.op=6
  ·obtain ⟨a,hkids,hk2⟩:=Z2e h6 hl
   have ga:=W9 hg (k:=0) (by rw [hk2];rfl) (by rw [hkids];rfl)
   have hca:cntP p=1+cntP a:=by rw [hcnt,hkids];simp [cntP.cntPs]
   rw [if_pos (by rw [Q8];exact h6),if_pos h6,hkids,show (0:Int)=((0:Nat):Int) from rfl,Q00 (xs:=[a]) (i:=0) rfl]
   simp only [U0]
   obtain ⟨i1,i2⟩:=ih n t a ht ga (by omega) (by omega)
   rw [i1]
   exact ⟨rfl,by show (Q2w w d t a).length≤_;omega⟩
  rw [if_neg (by rw [Q8];exact h6),if_neg h6]
  by_cases h5:p.op=5
  ·obtain ⟨a,c,hkids,hkt⟩:=kid0 h5 hl
   have ga:=W9 hg (k:=0) (by rw [hkt];rfl) (by rw [hkids];rfl)
   have gc:=W9 hg (k:=1) (by rw [hkt];rfl) (by rw [hkids];rfl)
   have hca:cntP p=1+(cntP a+cntP c):=by rw [hcnt,hkids];simp [cntP.cntPs]
   obtain ⟨i1,i2⟩:=ih n t a ht ga (by omega) (by omega)
   obtain ⟨j1,j2⟩:=ih n t c ht gc (by omega) (by omega)
   rw [if_pos (by rw [Q8];exact h5),if_pos h5,hkids,show (0:Int)=((0:Nat):Int) from rfl,Q00 (xs:=[a,c]) (i:=0) rfl]
   simp only [U0]
   rw [i1]
   simp only [U0]
   rw [show (1:Int)=((1:Nat):Int) from rfl,Q00 (xs:=[a,c]) (i:=1) rfl]
   simp only [U0]
   rw [j1]
   simp only [U0]
   have e0:([a,c]:List Q0).getD 0 default=a:=rfl
   have e1:([a,c]:List Q0).getD 1 default=c:=rfl
   rw [e0,e1]
   have hfl:((Q2w w d t a).filter fun x=>decide (x∈Q2w w d t c)).length≤(Q2w w d t a).length:=List.length_filter_le ..
   refine ⟨?_,by omega⟩
   suffices hs:Ret _ (fun r=>r=(Q2w w d t a).filter fun x=>decide (x∈Q2w w d t c)) by
    obtain ⟨b,e,rfl⟩:=hs
    exact e
   refine Ret.ctl (Z4 (Q2w w d t a) (fun k s=>s=((Q2w w d t a).take k).filter fun x=>decide (x∈Q2w w d t c)) (fun _=>False) (fun s=>s=(Q2w w d t a).filter fun x=>decide (x∈Q2w w d t c)) (by simp) (fun k x s hx hI=>?_) (fun s hI=>by rw [hI,List.take_length])) (fun r hr=>hr.elim) (fun s hs=>.some hs)
   have hsl:s.length≤1000:=by
    rw [hI]
    have:=List.length_filter_le (fun x=>decide (x∈Q2w w d t c)) ((Q2w w d t a).take k)
    rw [U6] at this
    omega
   rw [X3j]
   simp only [U0]
   rw [List.take_add_one,hx]
   by_cases hm:x∈Q2w w d t c
   ·rw [decide_eq_true hm,if_pos rfl,V5 (by simp only [U3,U4,Q9];omega)]
    refine .some ?_
    show s++[x]=_
    rw [hI]
    simp [hm]
   ·rw [decide_eq_false hm,if_neg (by simp)]
    refine .some ?_
    show s=_
    rw [hI]
    simp [hm]
  rw [if_neg (by rw [Q8];exact h5),if_neg h5]
  by_cases h4:p.op=4
  ·rw [if_pos (by rw [Q8];exact h4),if_pos h4]
   have hk4:V4 w t p=W0 w t p.ctor:=by simp [V4,h4]
   have hci:p.ctor∈X2 w t:=Z11 ho h4
   rw [hT.a1 _ hci]
   simp only [U0]
   rw [←hk4]
   have fin:∀ (x:Option (List Int)),Ret x (fun r=>r=((V4 w t p).zip p.kids).flatMap (fun x=>(Q0x w d x.1 x.2).map (·.var))∧r.length≤cntP.cntPs p.kids)→x=some (((V4 w t p).zip p.kids).flatMap (fun x=>(Q0x w d x.1 x.2).map (·.var)))∧(((V4 w t p).zip p.kids).flatMap (fun x=>(Q0x w d x.1 x.2).map (·.var))).length≤cntP p:=by
    rintro x ⟨a,rfl,rfl,h2⟩
    exact ⟨rfl,by omega⟩
   refine fin _ (Ret.ctl (Z4 (V4 w t p) (s0:=[]) (fun k s=>s=(((V4 w t p).zip p.kids).take k).flatMap (fun x=>(Q0x w d x.1 x.2).map (·.var))∧s.length≤cntP.cntPs (p.kids.take k))
    (fun _=>False) (fun s=>s=((V4 w t p).zip p.kids).flatMap (fun x=>(Q0x w d x.1 x.2).map (·.var))∧s.length≤cntP.cntPs p.kids) ⟨by simp,by simp⟩ (fun k a s ha hI=>?_) (fun s hI=>?_)) (fun r hr=>hr.elim) (fun s hs=>.some hs))
   ·obtain ⟨hs,hlen⟩:=hI
    have hlt:k<p.kids.length:=by have:=(List.getElem?_eq_some_iff.1 ha).1;omega
    have hq:p.kids[k]?=some p.kids[k]:=by simp [hlt]
    have h1:=Q6c p.kids k _ hq
    have h2:=Q20 p.kids (k+1)
    rw [Q00 hq]
    simp only [U0]
    obtain ⟨e1,e2⟩:=Q7p hw d n a p.kids[k] [] (Q8k hT ht ho a (U1 ha)) (W9 hg ha hq) (by omega) (by simp only [U4];omega)
    rw [e1]
    simp only [U0,List.nil_append]
    refine Ret.ctl (Z4 (Q0x w d a p.kids[k]) (fun i z=>z=s++((Q0x w d a p.kids[k]).take i).map (·.var)) (fun _=>False) (fun z=>z=s++(Q0x w d a p.kids[k]).map (·.var)) (by simp) (fun i u z hu hz=>?_) (fun z hz=>by rw [hz,List.take_length])) (fun r hr=>hr.elim) (fun z hz=>.some ?_)
    ·have hil:=(List.getElem?_eq_some_iff.1 hu).1
     rw [V5 (by rw [hz];simp only [U5,U7,U6,U3,U4,Q9];omega)]
     refine .some ?_
     show z++[u.var]=_
     rw [hz,List.take_add_one,hu]
     simp
    ·refine ⟨?_,?_⟩
     ·show z=_
      rw [hz,List.take_add_one,Q3u ha hq,hs]
      simp
     ·show z.length≤_
      rw [hz,U5,U7]
      omega
   ·obtain ⟨hs,hlen⟩:=hI
    rw [←hl] at hs hlen
    refine ⟨?_,by rw [List.take_length] at hlen;exact hlen⟩
    rw [hs,List.take_of_length_le (by rw [List.length_zip];omega)]
  ·rw [if_neg (by rw [Q8];exact h4),if_neg h4]
   exact ⟨rfl,by simp⟩
def dscF (f:Int)(g:GFun):Bool:=(g.clauses.zip g.bodies).all fun x=>Z0s f (Q27 10 x.1.pat) 10 x.2
def dscB (w:List Q4)(F:List GFun)(f:Int):Bool:=Z0m w F&&(decide (0≤f)&&(F[f.toNat]?).elim false (dscF f))
theorem Z53 {w:List Q4}(hw:WW w){F:List GFun}(hF:F.length≤1000)(f:Int):Q14 NN w F f=some (dscB w F f):=by
 suffices hs:Ret (Q14 NN w F f) (fun r=>r=dscB w F f) by
  obtain ⟨a,e,rfl⟩:=hs
  exact e
 unfold Q14 dscB
 rw [Z2h hw hF]
 simp only [U0]
 cases h1:Z0m w F with
 | false=>exact .some rfl
 | true=>
  have hk:=Q6t h1
  rw [if_neg (by simp),Z4b]
  simp only [U0]
  have e:wsub .i64 (lenZ F.length) 1=(F.length:Int)-1:=by unfold lenZ;rw [Q3v]<;>omega
  rw [e]
  by_cases h2:0≤f∧f<F.length
  ·have h3:(decide (0≤f)&&decide (f≤(F.length:Int)-1))=true:=by simp only [Bool.and_eq_true,decide_eq_true_eq];omega
   have hg:F[f.toNat]?=some (F[f.toNat]'(by omega)):=U10 (by omega)
   generalize F[f.toNat]'(by omega)=g at hg
   have gok:=hk.2 g (U1 hg)
   rw [h3,if_neg (by simp),Q7b h2.1 hg,hg,decide_eq_true h2.1]
   simp only [U0,Bool.true_and,Option.elim_some]
   refine Ret.ctl (Z4 g.bodies (fun k _=>∀ (j:Nat) (c:Z6) (e:Z1),j<k→g.clauses[j]?=some c→g.bodies[j]?=some e→Z0s f (Q27 10 c.pat) 10 e=true) (fun r=>r=dscF f g) (fun _=>dscF f g=true) (fun j c e hj=>by omega) (fun k x s hx hI=>?_) (fun s hI=>?_)) (fun r hr=>.some hr) (fun s hs=>.some hs.symm)
   ·have hi:=(List.getElem?_eq_some_iff.1 hx).1
    have hlen:=gok.len
    have hc:g.clauses[k]?=some (g.clauses[k]'(by omega)):=by simp
    generalize g.clauses[k]'(by omega)=c at hc
    rw [Q00 hc]
    simp only [U0]
    obtain ⟨gp,_,ln⟩:=Q15 ((Q6w gok.cls).2 c (U1 hc))
    rw [X9w gp 10 NN _ x (Q3w (gok.bod k c x hc hx)) (by decide)]
    simp only [U0]
    cases hd:Z0s f (Q27 10 c.pat) 10 x with
    | false=>
     refine .some ?_
     show false=_
     symm
     unfold dscF
     rw [List.all_eq_false]
     exact ⟨(c,x),U1 (Q3u hc hx),by rw [hd];simp⟩
    | true=>
     refine .some (fun j c' e' hj hc' he'=>?_)
     by_cases hjk:j=k
     ·subst hjk
      rw [hc] at hc'
      rw [hx] at he'
      cases hc'
      cases he'
      exact hd
     ·exact hI j c' e' (by omega) hc' he'
   ·exact (Z70 gok.len).2 fun i c e hc he=>hI i c e (List.getElem?_eq_some_iff.1 he).1 hc he
  ·have h3:(decide (0≤f)&&decide (f≤(F.length:Int)-1))=false:=by rw [Bool.eq_false_iff];simp only [ne_eq,Bool.and_eq_true,decide_eq_true_eq];omega
   rw [h3]
   refine .some ?_
   by_cases h4:0≤f
   ·rw [List.getElem?_eq_none (by omega)]
    simp
   ·rw [decide_eq_false h4]
    rfl
theorem X2c {w:List Q4}(hw:WW w){F:List GFun}(hF:F.length≤1000)(f:Int):Q0h NN w F f=some (dscB w F f):=by
 suffices hs:Ret (Q0h NN w F f) (fun r=>r=dscB w F f) by
  obtain ⟨a,e,rfl⟩:=hs
  exact e
 unfold Q0h dscB
 rw [Z0x hw hF]
 simp only [U0]
 cases h1:Z0m w F with
 | false=>exact .some rfl
 | true=>
  have hk:=Q6t h1
  rw [if_neg (by simp)]
  by_cases h2:0≤f
  ·rw [if_neg (by rw [Z5];omega),decide_eq_true h2]
   by_cases h3:f<F.length
   ·rw [if_neg (by rw [W4];simp only [lenZ];omega)]
    have hg:F[f.toNat]?=some (F[f.toNat]'(by omega)):=U10 (by omega)
    generalize F[f.toNat]'(by omega)=g at hg
    have gok:=hk.2 g (U1 hg)
    rw [Q7b h2 hg,hg]
    simp only [U0,Bool.true_and,Option.elim_some]
    refine Ret.ctl (Z4 g.clauses (fun k _=>∀ (j:Nat) (c:Z6) (e:Z1),j<k→g.clauses[j]?=some c→g.bodies[j]?=some e→Z0s f (Q27 10 c.pat) 10 e=true) (fun r=>r=dscF f g) (fun _=>dscF f g=true) (fun j c e hj=>by omega) (fun k c s hc hI=>?_) (fun s hI=>?_)) (fun r hr=>.some hr) (fun s hs=>.some hs.symm)
    ·have hi:=(List.getElem?_eq_some_iff.1 hc).1
     have hlen:=gok.len
     have hx:g.bodies[k]?=some (g.bodies[k]'(by omega)):=by simp
     generalize g.bodies[k]'(by omega)=x at hx
     rw [Q00 hx]
     simp only [U0]
     obtain ⟨gp,hcn,ln⟩:=Q15 ((Q6w gok.cls).2 c (U1 hc))
     rw [(X41 hw 10 NN g.typ.arg c.pat gok.arg gp (by omega) (by decide)).1]
     simp only [U0]
     rw [X99 (Q2w w 10 g.typ.arg c.pat) 10 NN _ x (Q3w (gok.bod k c x hc hx)) (by decide)]
     simp only [U0]
     have hpr:(fun x=>decide (x∈Q2w w 10 g.typ.arg c.pat))=Q27 10 c.pat:=by
      funext y
      rw [Bool.eq_iff_iff,decide_eq_true_eq,Z8a 10 _ c.pat gp ln y]
     rw [hpr]
     cases hd:Z0s f (Q27 10 c.pat) 10 x with
     | false=>
      refine .some ?_
      show false=_
      symm
      unfold dscF
      rw [List.all_eq_false]
      exact ⟨(c,x),U1 (Q3u hc hx),by rw [hd];simp⟩
     | true=>
      refine .some (fun j c' e' hj hc' he'=>?_)
      by_cases hjk:j=k
      ·subst hjk
       rw [hc] at hc'
       rw [hx] at he'
       cases hc'
       cases he'
       exact hd
      ·exact hI j c' e' (by omega) hc' he'
    ·exact (Z70 gok.len).2 fun i c e hc he=>hI i c e (List.getElem?_eq_some_iff.1 hc).1 hc he
   ·rw [if_pos (by rw [W4];simp only [lenZ];omega),List.getElem?_eq_none (by omega)]
    exact .some (by simp)
  ·rw [if_pos (by rw [Z5];omega),decide_eq_false h2]
   exact .some (by simp)
theorem Y3v {w:List Q4}{F:List GFun}{f:Int}(h:dscB w F f=true){g:GFun}(hg:F[f.toNat]?=some g):0≤f∧Z17 w F∧∀ (j:Nat) (c:Z6) (e:Z1),g.clauses[j]?=some c→g.bodies[j]?=some e→Z0s f (Q27 10 c.pat) 10 e=true:=by
 simp only [dscB,Bool.and_eq_true,decide_eq_true_eq] at h
 obtain ⟨h1,h2,h3⟩:=h
 have hk:=Q6t h1
 rw [hg] at h3
 have gok:=hk.2 g (U1 hg)
 exact ⟨h2,hk,(Z70 gok.len).1 h3⟩
theorem X2g (code:List Int)(hb:∀ x∈code,0≤x∧x≤255):Q17 NN code=some true:=by
 suffices hs:Ret (Q17 NN code) (fun r=>r=true) by
  obtain ⟨a,e,rfl⟩:=hs
  exact e
 unfold Q17
 refine Ret.ite (fun _=>.some rfl) (fun _=>?_)
 refine Ret.bind (Z2r code hb) (fun a ha=>?_)
 obtain ⟨hm,hl,hf0,hf4⟩:=ha
 have hw:=ww hm
 have hf:=W2u hm
 rw [Z53 hw hl,X2c hw hl]
 simp only [U0]
 rw [if_neg (by simp)]
 cases hd:dscB a.1 a.2.1 a.2.2.1 with
 | false=>exact .some rfl
 | true=>
  rw [if_neg (by simp)]
  refine Ret.ctl (Q7o (fun (s:Bool×Int)=>0≤s.2∧(s.2≤a.2.2.1∨s.2=0)∧(s.1=true→∀ i:Int,0≤i→i<s.2→dscB a.1 a.2.1 i=true)) (fun s=>(a.2.2.1-s.2).toNat) (fun _=>False) (fun s=>s.1=true→∀ i:Int,0≤i→i<a.2.2.1→dscB a.1 a.2.1 i=true) ⟨by simp only;omega,.inr rfl,fun _ i h1 h2=>by simp only at h2;omega⟩ (fun s hs=>?_) NN (by simp only [NN];omega)) (fun r hr=>hr.elim) (fun s hs=>?_)
  ·obtain ⟨s1,s2,s3⟩:=hs
   refine Ret.ite (fun h=>?_) (fun h=>?_)
   ·rw [Z5] at h
    have hadd:wadd .i64 s.2 1=s.2+1:=by rw [J9]<;>omega
    refine Ret.ctl (R:=fun _=>False) (B:=fun b=>b=true→s.1=true∧dscB a.1 a.2.1 s.2=true) ?_ (fun r hr=>hr.elim) (fun b hb=>.some ?_)
    ·refine Ret.ite (fun hs1=>?_) (fun hs1=>.some (fun h=>by cases h))
     rw [Z53 hw hl]
     exact .some (fun h=>⟨hs1,h⟩)
    ·rw [hadd]
     refine ⟨⟨by simp only;omega,.inl (by simp only;omega),fun hb1 i h1 h2=>?_⟩,by simp only;omega⟩
     simp only at h2 hb1
     obtain ⟨g1,g2⟩:=hb hb1
     by_cases hi:i=s.2
     ·rw [hi];exact g2
     ·exact s3 g1 i h1 (by omega)
   ·rw [J8] at h
    exact .some (fun hs1 i h1 h2=>s3 hs1 i h1 (by omega))
  ·rw [Z2g hw hf hl]
   simp only [U0]
   refine Ret.ite (fun _=>.some rfl) (fun hs1=>.some ?_)
   have hs1:s.1=true:=by simpa using hs1
   have hs:=hs hs1
   rw [Bool.not_eq_true',Z2]
   unfold Z1j
   cases hr:Z1k a.1 a.2.1 a.2.2.1 a.2.2.2.1 a.2.2.2.2 with
   | false=>
    rw [if_neg (by simp)]
    show (5:Int)≠3
    omega
   | true=>
    rw [if_pos rfl]
    obtain ⟨g,h⟩:=Z4f hr
    have hk:=Q6t h.funs
    unfold outV
    split
    ·show (0:Int)≠3
     omega
    ·show (X45 a.1 a.2.1 a.2.2.1 a.2.2.2.1 a.2.2.2.2).2.code≠3
     have hD:V6w a.2.1 a.2.2.1.toNat:=fun i g' hi hg' j c e hc he=>by
      have hb:dscB a.1 a.2.1 (i:Int)=true:=by
       by_cases hie:(i:Int)=a.2.2.1
       ·rw [hie];exact hd
       ·exact hs (i:Int) (by omega) (by have:=h.f0;omega)
      exact (Y3v hb (g:=g') (by simpa using hg')).2.2 j c e hc he
     have h4:=hk.1
     have h5:=h.f1
     have h6:=h.f0
     have hdv:=X7k 10 _ _ (Q2g h.vv)
     have:=V4n hw hf hk hD 50 a.2.2.1.toNat g a.2.2.2.1 ⟨a.2.2.2.2,0,0⟩ (Nat.le_refl _) h.gg h.vv rfl (by omega)
     rw [show ((a.2.2.1.toNat:Nat):Int)=a.2.2.1 by omega] at this
     exact this
end Go.Proofs.YtenmmbjgnlflnaaGreat
