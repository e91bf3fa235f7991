import Derived.Test.YtgjpamkllimhdaaGreatJMa0
import Derived.Test.YtgjpamkllimhdaaGreatJZa0
import Derived.Test.YtgjpamkllimhdaaGreatJP2
set_option linter.unusedSimpArgs false
set_option linter.unusedVariables false
namespace Go.Proofs.YtgjpamkllimhdaaGreat
open Go Go.RowKit
def cntV:Q1→Nat
 | ⟨_,_,kids⟩=>1+cntVs kids
where cntVs:List Q1→Nat
 | []=>0
 | v::l=>cntV v+cntVs l
theorem X0p (v:Q1):cntV v=1+cntV.cntVs v.kids:=by cases v;rw [cntV]
theorem Z6l:∀ (l:List Q1) (k:Nat) (q:Q1),l[k]?=some q→cntV.cntVs (l.take (k+1))=cntV.cntVs (l.take k)+cntV q
 | [],k,q,h=>by simp at h
 | p::l,0,q,h=>by simp at h;subst h;simp [cntV.cntVs]
 | p::l,k+1,q,h=>by
  have:=Z6l l k q (by simpa using h)
  simp only [List.take_succ_cons,cntV.cntVs]
  omega
theorem Z1j:∀ (l:List Q1) (k:Nat),cntV.cntVs (l.take k)≤cntV.cntVs l
 | [],k=>by simp
 | p::l,0=>by simp [cntV.cntVs]
 | p::l,k+1=>by
  have:=Z1j l k
  simp only [List.take_succ_cons,cntV.cntVs]
  omega
def Q3c (w:List Q4):Nat→Q6→Q1→Bool
 | 0,_,_=>false
 | d+1,t,v=>if t.data = -1 then decide (v.ctor = -1)&&(decide (0≤v.n)&&(decide (v.n≤9)&&decide (v.kids.length=0)))
  else decide (v.n=0)&&(decide (v.ctor∈X5 w t)&&(decide (v.kids.length=(V6 w t v.ctor).length)&&((V6 w t v.ctor).zip v.kids).all fun x=>Q3c w d x.1 x.2))
theorem W3m {w:List Q4} : ∀ (d:Nat) (t:Q6) (v:Q1),Q3c w d t v=true↔Q30 w d t v:=by
 intro d
 induction d with
 | zero=>intro t v;simp [Q3c,Q30]
 | succ d ih=>
  intro t v
  rw [Q3c,Q30]
  split
  ·simp only [Bool.and_eq_true,decide_eq_true_eq,List.length_eq_zero_iff]
  ·simp only [Bool.and_eq_true,decide_eq_true_eq,List.all_eq_true]
   constructor
   ·rintro ⟨h1,h2,h3,h4⟩
    exact ⟨h1,h2,h3,fun j a x ha hx=>(ih a x).1 (h4 (a,x) (U1 (Q92 ha hx)))⟩
   ·rintro ⟨h1,h2,h3,h4⟩
    refine ⟨h1,h2,h3,fun x hx=>?_⟩
    obtain ⟨j,hj⟩:=List.mem_iff_getElem?.1 hx
    obtain ⟨e1,e2⟩:=List.getElem?_zip_eq_some.1 hj
    exact (ih _ _).2 (h4 j _ _ e1 e2)
def okV (w:List Q4)(d:Nat)(t:Q6)(v:Q1)(c:Nat):Bool:=Q3c w d t v&&decide (c+cntV v≤60)
def Q93 (w:List Q4)(t:Q6)(v:Q1):Bool:=Q3c w 10 t v&&decide (cntV v≤60)
theorem Z3o {w:List Q4}{t:Q6}{v:Q1}(h:Q93 w t v=true):Q30 w 10 t v:=by
 simp only [Q93,Bool.and_eq_true] at h
 exact (W3m 10 t v).1 h.1
theorem W6q {w:List Q4}{d:Nat}{t:Q6}{v:Q1}{c:Nat}(h:Q3c w d t v=false):okV w d t v c=false:=by simp [okV,h]
theorem V7i {w:List Q4}(hw:WW w):∀ (d n:Nat) (t:Q6) (v:Q1) (c:Nat),t∈tys w→c≤60→d+2≤n→d≤10→
  Ret (Q2f n w t v (11-(d:Int)) false (c:Int)) (fun r=>r.1=okV w d t v c∧(okV w d t v c=true→r.2=((c+cntV v:Nat):Int))):=by
 intro d
 induction d with
 | zero=>
  intro n t v c ht hc hn hd
  obtain ⟨n,rfl⟩:∃ k,n=k+1:=⟨n-1,by omega⟩
  have hb:okV w 0 t v c=false:=W6q rfl
  unfold Q2f
  refine Ret.ite (fun _=>.some ⟨hb.symm,fun h=>by rw [hb] at h;cases h⟩) (fun _=>?_)
  rw [if_pos (by rw [X1];omega)]
  exact .some ⟨hb.symm,fun h=>by rw [hb] at h;cases h⟩
 | succ d ih=>
  intro n t v c ht hc hn hd
  obtain ⟨n,rfl⟩:∃ k,n=k+1:=⟨n-1,by omega⟩
  have hT:=hw.ty t ht
  unfold Q2f
  have hc1:wadd .i64 (c:Int) 1=((c+1:Nat):Int):=by rw [V0]<;>omega
  rw [hc1]
  have hpos:1≤cntV v:=by rw [X0p];omega
  refine Ret.ite (fun hlt=>?_) (fun hle=>?_)
  ·rw [X1] at hlt
   have hb:okV w (d+1) t v c=false:=by simp only [okV,Bool.and_eq_false_iff,decide_eq_false_iff_not];right;omega
   exact .some ⟨hb.symm,fun h=>by rw [hb] at h;cases h⟩
  rw [V2] at hle
  rw [if_neg (by rw [X1];omega),if_neg (by simp)]
  have bad:Q3c w (d+1) t v=false→okV w (d+1) t v c=false:=W6q
  refine Ret.ctl (R:=fun r:Bool×Int=>r.1=okV w (d+1) t v c∧(okV w (d+1) t v c=true→r.2=((c+cntV v:Nat):Int))) (B:=fun _:Unit=>t.data≠-1∧v.n=0∧v.ctor∈X5 w t) ?_ (fun r hr=>.some hr) (fun s hs=>?_)
  ·refine Ret.ite (fun hi=>?_) (fun hi=>?_)
   ·rw [Z8] at hi
    have hg:Q3c w (d+1) t v=(decide (v.ctor = -1)&&(decide (0≤v.n)&&(decide (v.n≤9)&&decide (v.kids.length=0)))):=by rw [Q3c,if_pos hi]
    refine Ret.ite (fun h1=>?_) (fun h1=>?_)
    ·rw [Z8] at h1
     rw [Q86]
     simp only [U0]
     refine Ret.ite (fun h2=>?_) (fun h2=>?_)
     ·simp only [Bool.and_eq_true,decide_eq_true_eq] at h2
      have hk:Q3c w (d+1) t v=decide (v.kids.length=0):=by rw [hg];simp [h1,h2.1,h2.2]
      refine .some ?_
      have h0:v.kids.length=0→cntV v=1:=fun h=>by rw [X0p,List.eq_nil_of_length_eq_zero h];rfl
      by_cases hz:v.kids.length=0
      ·have e1:okV w (d+1) t v c=true:=by simp only [okV,hk,hz,decide_true,Bool.true_and,decide_eq_true_eq];have:=h0 hz;omega
       rw [e1]
       refine ⟨?_,fun _=>?_⟩
       ·simp only [Z8,lenZ];omega
       ·have:=h0 hz;simp only;omega
      ·have e1:okV w (d+1) t v c=false:=bad (by rw [hk];simp [hz])
       rw [e1]
       refine ⟨?_,fun h=>by cases h⟩
       simp only [W2,lenZ];omega
     ·have e1:okV w (d+1) t v c=false:=bad (by
       rw [hg]
       simp only [Bool.and_eq_false_iff,decide_eq_false_iff_not] at h2 ⊢
       rcases h2 with h2 | h2
       ·exact .inr (.inl h2)
       ·exact .inr (.inr (.inl h2)))
      exact .some ⟨e1.symm,fun h=>by rw [e1] at h;cases h⟩
    ·rw [W2] at h1
     have e1:okV w (d+1) t v c=false:=bad (by rw [hg];simp [h1])
     exact .some ⟨e1.symm,fun h=>by rw [e1] at h;cases h⟩
   ·rw [W2] at hi
    have hg:Q3c w (d+1) t v=(decide (v.n=0)&&(decide (v.ctor∈X5 w t)&&(decide (v.kids.length=(V6 w t v.ctor).length)&&((V6 w t v.ctor).zip v.kids).all fun x=>Q3c w d x.1 x.2))):=by rw [Q3c,if_neg hi]
    refine Ret.ite (fun h1=>?_) (fun h1=>?_)
    ·rw [Bool.not_eq_true',W2] at h1
     have e1:okV w (d+1) t v c=false:=bad (by rw [hg];simp [h1])
     exact .some ⟨e1.symm,fun h=>by rw [e1] at h;cases h⟩
    rw [Bool.not_eq_false',Z8] at h1
    rw [hT.c2]
    simp only [U0]
    rw [Z2n]
    simp only [U0]
    refine Ret.ite (fun h2=>?_) (fun h2=>?_)
    ·rw [Bool.not_eq_true',decide_eq_false_iff_not] at h2
     have e1:okV w (d+1) t v c=false:=bad (by rw [hg];simp [h2])
     exact .some ⟨e1.symm,fun h=>by rw [e1] at h;cases h⟩
    rw [Bool.not_eq_false',decide_eq_true_eq] at h2
    exact .some ⟨hi,h1,h2⟩
  ·obtain ⟨s1,s2,s3⟩:=hs
   have hg:Q3c w (d+1) t v=(decide (v.kids.length=(V6 w t v.ctor).length)&&((V6 w t v.ctor).zip v.kids).all fun x=>Q3c w d x.1 x.2):=by rw [Q3c,if_neg s1];simp [s2,s3]
   rw [hT.a2 _ s3]
   simp only [U0]
   refine Ret.ite (fun hl=>?_) (fun hl=>?_)
   ·rw [Bool.not_eq_true',W2] at hl
    simp only [lenZ] at hl
    have e1:okV w (d+1) t v c=false:=bad (by rw [hg];simp only [Bool.and_eq_false_iff,decide_eq_false_iff_not];left;omega)
    exact .some ⟨e1.symm,fun h=>by rw [e1] at h;cases h⟩
   rw [Bool.not_eq_false',Z8] at hl
   simp only [lenZ] at hl
   have hcv:=X0p v
   refine Ret.ctl (Z4 v.kids (fun k s=>s=((c+1+cntV.cntVs (v.kids.take k):Nat):Int)∧c+1+cntV.cntVs (v.kids.take k)≤60∧∀ (j:Nat) (a:Q6) (x:Q1),j<k→(V6 w t v.ctor)[j]?=some a→v.kids[j]?=some x→Q3c w d a x=true) (fun r:Bool×Int=>r.1=okV w (d+1) t v c∧(okV w (d+1) t v c=true→r.2=((c+cntV v:Nat):Int))) (fun s=>s=((c+cntV v:Nat):Int)∧okV w (d+1) t v c=true) ⟨by simp [cntV.cntVs],by simp only [List.take_zero,cntV.cntVs];omega,fun j a x hj=>by omega⟩ (fun k x s hx hI=>?_) (fun s hI=>?_)) (fun r hr=>.some hr) (fun s hs=>.some ⟨hs.2.symm,fun _=>hs.1⟩)
   ·obtain ⟨rfl,i2,i3⟩:=hI
    have hk:=(List.getElem?_eq_some_iff.1 hx).1
    have ha:(V6 w t v.ctor)[k]?=some ((V6 w t v.ctor)[k]'(by omega)):=by simp
    rw [Q16 ha]
    simp only [U0]
    have hdd:wadd .i64 (11-((d+1:Nat):Int)) 1=11-(d:Int):=by rw [V0]<;>omega
    rw [hdd]
    refine Ret.bind (ih n _ x _ (hT.at_ _ s3 _ (U1 ha)) i2 (by omega) (by omega)) (fun r hr=>?_)
    obtain ⟨r1,r2⟩:=hr
    have htk:=Z6l v.kids k x hx
    refine Ret.ite (fun h=>?_) (fun h=>?_)
    ·rw [Bool.not_eq_true',r1] at h
     have e1:okV w (d+1) t v c=false:=by
      simp only [okV,Bool.and_eq_false_iff,decide_eq_false_iff_not] at h ⊢
      rcases h with h | h
      ·left
       rw [hg,Bool.and_eq_false_iff]
       right
       rw [List.all_eq_false]
       exact ⟨_,U1 (Q92 ha hx),by simp [h]⟩
      ·right
       have:=Z1j v.kids (k+1)
       omega
     exact .some ⟨e1.symm,fun h=>by rw [e1] at h;cases h⟩
    ·rw [Bool.not_eq_false',r1] at h
     have r3:=r2 h
     simp only [okV,Bool.and_eq_true,decide_eq_true_eq] at h
     refine .some ⟨?_,by omega,fun j a y hj h1 h2=>?_⟩
     ·rw [r3];omega
     ·by_cases hjk:j=k
      ·subst hjk
       rw [ha] at h1
       rw [hx] at h2
       cases h1
       cases h2
       exact h.1
      ·exact i3 j a y (by omega) h1 h2
   ·obtain ⟨rfl,i2,i3⟩:=hI
    rw [List.take_length] at i2 ⊢
    refine ⟨by omega,?_⟩
    simp only [okV,Bool.and_eq_true,decide_eq_true_eq]
    refine ⟨?_,by omega⟩
    rw [hg]
    simp only [Bool.and_eq_true,decide_eq_true_eq,List.all_eq_true]
    refine ⟨by omega,fun y hy=>?_⟩
    obtain ⟨j,hj⟩:=List.mem_iff_getElem?.1 hy
    obtain ⟨e1,e2⟩:=List.getElem?_zip_eq_some.1 hj
    exact i3 j _ _ (List.getElem?_eq_some_iff.1 e2).1 e1 e2
theorem Z77 {w:List Q4}(hw:WW w){t:Q6}(ht:t∈tys w)(v:Q1):Q2r NN w t v=some (Q93 w t v):=by
 suffices hs:Ret (Q2r NN w t v) (fun r=>r=Q93 w t v) by
  obtain ⟨a,e,rfl⟩:=hs
  exact e
 unfold Q2r
 refine Ret.bind (V7i hw 10 NN t v 0 ht (by omega) (by decide) (by omega)) (fun r hr=>.some ?_)
 rw [hr.1]
 simp [okV,Q93]
theorem len0 (n:Nat):ieq (lenZ n) 0=decide (n=0):=by
 by_cases h:n=0
 ·subst h;rfl
 ·rw [decide_eq_false h,W2];simp only [lenZ];omega
theorem X8k:∀ (n:Nat) (p:Q1) (most:Nat),most<n→most≤1000→Q47 n p (most:Int)=some ((min (cntV p) (most+1):Nat):Int):=by
 intro n
 induction n with
 | zero=>intro p most h;omega
 | succ n ih=>
  intro p most hn hm
  unfold Q47
  have key:=Z4 (ρ:=Int) (f:=fun k94 x95 (s88:Int)=>
   (if (ile s88 (most:Int))=true then
   ((Q47 n x95 (wsub .i64 (most:Int) s88)).bind fun r103=>
   some (Ctl.go (wadd .i64 s88 r103)))
   else
   some (Ctl.brk s88))) p.kids (s0:=1) (fun k s=>∃ m:Nat,s=(m:Int)∧m=min (1+cntV.cntVs (p.kids.take k)) (most+1)) (fun _=>False) (fun s=>s=((min (cntV p) (most+1):Nat):Int)) ⟨1,rfl,by simp [cntV.cntVs]⟩ (fun k q s hq hI=>?_) (fun s hI=>?_)
  ·have:=Ret.ctl (Q:=fun b=>b=((min (cntV p) (most+1):Nat):Int)) key (g:=fun (o:Ctl Int Int)=>match o with
    | .ret r=>some r
    | .go _=>none
    | .brk s=>some s) (fun r hr=>hr.elim) (fun s hs=>.some hs)
   obtain ⟨b,e,rfl⟩:=this
   exact e
  ·obtain ⟨m,rfl,hm2⟩:=hI
   refine Ret.ite (fun h=>?_) (fun h=>?_)
   ·rw [Q03] at h
    have hle:m≤most:=by omega
    have hws:wsub .i64 (most:Int) (m:Int)=((most-m:Nat):Int):=by rw [Q2k (by omega) (by omega)];omega
    rw [hws,ih q (most-m) (by omega) (by omega)]
    simp only [U0]
    rw [V0 (by omega) (by omega)]
    refine .some ⟨m+min (cntV q) (most-m+1),by push_cast;rfl,?_⟩
    rw [Z6l p.kids k q hq]
    omega
   ·rw [Q6n] at h
    refine .some ?_
    have h1:=Z1j p.kids k
    have h2:=X0p p
    show (m:Int)=_
    have:m=min (cntV p) (most+1):=by omega
    rw [this]
  ·obtain ⟨m,rfl,hm2⟩:=hI
   rw [List.take_length] at hm2
   have h2:=X0p p
   have:m=min (cntV p) (most+1):=by omega
   rw [this]
theorem X8j {w:List Q4}(hw:WW w):∀ (d n:Nat) (t:Q6) (v:Q1),t∈tys w→d+1≤n→d≤100→Q3o n w t v (d:Int)=some (Q3c w d t v):=by
 intro d
 induction d with
 | zero=>
  intro n t v ht hn hd
  obtain ⟨m,rfl⟩:∃ m,n=m+1:=⟨n-1,by omega⟩
  unfold Q3o
  rw [if_pos (by rw [X1];omega)]
  rfl
 | succ d ih=>
  intro n t v ht hn hd
  obtain ⟨m,rfl⟩:∃ m,n=m+1:=⟨n-1,by omega⟩
  have hT:=hw.ty t ht
  suffices hs:Ret (Q3o (m+1) w t v ((d+1:Nat):Int)) (fun r=>r=Q3c w (d+1) t v) by
   obtain ⟨a,e,rfl⟩:=hs
   exact e
  unfold Q3o
  rw [if_neg (by rw [X1];omega)]
  have hws:wsub .i64 ((d+1:Nat):Int) 1=(d:Int):=by rw [Q2k]<;>omega
  rw [hws]
  refine Ret.ite (fun hi=>?_) (fun hi=>?_)
  ·rw [Z8] at hi
   have hg:Q3c w (d+1) t v=(decide (v.ctor = -1)&&(decide (0≤v.n)&&(decide (v.n≤9)&&decide (v.kids.length=0)))):=by rw [Q3c,if_pos hi]
   rw [hg]
   refine Ret.ite (fun h1=>?_) (fun h1=>.some ?_)
   ·rw [Z8] at h1
    refine Ret.ite (fun h2=>?_) (fun h2=>.some ?_)
    ·rw [Q03] at h2
     refine Ret.ite (fun h3=>.some ?_) (fun h3=>.some ?_)
     ·rw [Q03] at h3
      simp only [h1,h2,h3,decide_true,Bool.true_and]
      exact len0 _
     ·rw [Q6n] at h3
      simp [show ¬v.n≤9 by omega]
    ·rw [Q6n] at h2
     simp [show ¬0≤v.n by omega]
   ·rw [W2] at h1
    simp [h1]
  ·rw [W2] at hi
   have hg:Q3c w (d+1) t v=(decide (v.n=0)&&(decide (v.ctor∈X5 w t)&&(decide (v.kids.length=(V6 w t v.ctor).length)&&((V6 w t v.ctor).zip v.kids).all fun x=>Q3c w d x.1 x.2))):=by rw [Q3c,if_neg hi]
   rw [hg]
   refine Ret.ite (fun h1=>.some ?_) (fun h1=>?_)
   ·rw [Bool.not_eq_true',W2] at h1
    simp [h1]
   rw [Bool.not_eq_false',Z8] at h1
   rw [hT.c1]
   simp only [U0]
   rw [V49]
   simp only [U0]
   refine Ret.ite (fun h2=>.some ?_) (fun h2=>?_)
   ·rw [Bool.not_eq_true',decide_eq_false_iff_not] at h2
    simp [h2]
   rw [Bool.not_eq_false',decide_eq_true_eq] at h2
   rw [hT.a1 _ h2]
   simp only [U0]
   refine Ret.ite (fun hl=>.some ?_) (fun hl=>?_)
   ·rw [Bool.not_eq_true',W2] at hl
    simp only [lenZ] at hl
    have:¬v.kids.length=(V6 w t v.ctor).length:=by omega
    simp [this]
   rw [Bool.not_eq_false',Z8] at hl
   simp only [lenZ] at hl
   have hl2:v.kids.length=(V6 w t v.ctor).length:=by omega
   simp only [h1,h2,hl2,decide_true,Bool.true_and]
   refine Ret.ctl (Z4 (V6 w t v.ctor) (fun k _=>∀ (j:Nat) (a:Q6) (x:Q1),j<k→(V6 w t v.ctor)[j]?=some a→v.kids[j]?=some x→Q3c w d a x=true) (fun b=>b=false∧(((V6 w t v.ctor).zip v.kids).all fun x=>Q3c w d x.1 x.2)=false) (fun _=>(((V6 w t v.ctor).zip v.kids).all fun x=>Q3c w d x.1 x.2)=true) (fun j a x hj=>by omega) (fun k a s ha hI=>?_) (fun s hI=>?_)) (fun r hr=>.some (by rw [hr.1,hr.2])) (fun s hs=>.some hs.symm)
   ·have hlt:k<v.kids.length:=by have:=(List.getElem?_eq_some_iff.1 ha).1;omega
    have hq:v.kids[k]?=some v.kids[k]:=by simp [hlt]
    rw [Q16 hq]
    simp only [U0]
    rw [ih m a v.kids[k] (hT.at_ _ h2 a (U1 ha)) (by omega) (by omega)]
    simp only [U0]
    cases hgk:Q3c w d a v.kids[k] with
    | false=>
     refine .some ⟨rfl,?_⟩
     rw [List.all_eq_false]
     exact ⟨(a,v.kids[k]),U1 (Q92 ha hq),by simp [hgk]⟩
    | true=>
     refine .some (fun j a' q' hj ha' hq'=>?_)
     by_cases hjk:j=k
     ·subst hjk
      rw [ha] at ha'
      rw [hq] at hq'
      cases ha'
      cases hq'
      exact hgk
     ·exact hI j a' q' (by omega) ha' hq'
   ·rw [List.all_eq_true]
    intro x hx
    obtain ⟨j,hj⟩:=List.mem_iff_getElem?.1 hx
    obtain ⟨h3,h4⟩:=List.getElem?_zip_eq_some.1 hj
    exact hI j x.1 x.2 ((List.getElem?_eq_some_iff.1 h3).1) h3 h4
theorem X5l {w:List Q4}(hw:WW w){t:Q6}(ht:t∈tys w)(v:Q1):Q9a NN w t v=some (Q93 w t v):=by
 unfold Q9a Q93
 rw [show (10:Int)=((10:Nat):Int) from rfl,X8j hw 10 NN t v ht (by decide) (by omega)]
 simp only [U0]
 cases Q3c w 10 t v with
 | false=>rfl
 | true=>
  simp only [if_true,Bool.true_and]
  rw [show (60:Int)=((60:Nat):Int) from rfl,X8k NN v 60 (by decide) (by omega)]
  simp only [U0]
  congr 1
  by_cases h:cntV v≤60
  ·rw [decide_eq_true h,Q03];omega
  ·rw [decide_eq_false h,Q6n];omega
def byt (r:Z9)(i:Nat):Nat:=(r.b.getD i 0).toNat
def pk24 (r:Z9)(p:Nat):Nat:=if r.b.length=0 then 0 else Zed.pkv (byt r) r.b.length p
theorem V4o {a:Nat}(h:a<1099511627776):wxor .i64 (a:Int) ((a / 64:Nat):Int)=((a ^^^ (a / 64):Nat):Int):=by
 have e:(BitVec.ofInt IntKind.i64.bits (a:Int) ^^^ BitVec.ofInt IntKind.i64.bits ((a / 64:Nat):Int)).toNat=a ^^^ (a / 64):=by
  have ha:(BitVec.ofInt IntKind.i64.bits (a:Int)).toNat=a:=by
   rw [BitVec.toNat_ofInt]
   show (((a:Int) % ((2 ^ 64:Nat):Int))).toNat=a
   omega
  have hb:(BitVec.ofInt IntKind.i64.bits ((a / 64:Nat):Int)).toNat=a / 64:=by
   rw [BitVec.toNat_ofInt]
   show ((((a / 64:Nat):Int) % ((2 ^ 64:Nat):Int))).toNat=a / 64
   omega
  rw [BitVec.toNat_xor,ha,hb]
 have hlt:a ^^^ (a / 64)<2 ^ 40:=Nat.xor_lt_two_pow (by omega) (by omega)
 unfold wxor
 rw [e,Z4c (by omega) (by omega)]
theorem Y07 {r:Z9}(hb:∀ x∈r.b,0≤x∧x≤255)(hl:r.b.length≤2000){p:Nat}(hp:r.p=(p:Int))(hp2:p≤30000000):Z7 r 24=some (((pk24 r p:Nat):Int),⟨r.b,((p+1:Nat):Int)⟩):=by
 have ep:wadd .i64 r.p 1=((p+1:Nat):Int):=by rw [hp,V0]<;>omega
 have eq:wsub .i64 ((p+1:Nat):Int) 1=(p:Int):=by rw [Q2k]<;>omega
 unfold Z7
 rw [ep,eq,if_neg (by rw [X1];omega)]
 unfold pk24
 by_cases h0:r.b.length=0
 ·rw [if_pos (by rw [Z8];simp only [lenZ];omega),if_pos h0]
  rfl
 rw [if_neg (by rw [Z8];simp only [lenZ];omega),if_neg h0]
 have hpos:0<r.b.length:=by omega
 have hk0:chk (!ieq 24 0)=some ():=rfl
 have hb0:chk (!ieq (lenZ r.b.length) 0)=some ():=X0q (by rw [Bool.not_eq_true',W2];simp only [lenZ];omega)
 have get:∀ i:Nat,i<r.b.length→idx r.b (i:Int)=some ((byt r i:Nat):Int)∧byt r i≤255:=fun i hi=>by
  have h1:r.b[i]?=some r.b[i]:=U9 hi
  obtain ⟨b1,b2⟩:=hb _ (U1 h1)
  have h2:byt r i=r.b[i].toNat:=by unfold byt;rw [List.getD_eq_getElem?_getD,h1];rfl
  rw [Q16 h1,h2]
  exact ⟨by congr 1;omega,by omega⟩
 unfold Zed.pkv
 by_cases hlt:p<r.b.length
 ·rw [if_pos (by rw [X1];simp only [lenZ];omega),if_pos hlt]
  obtain ⟨g1,g2⟩:=get p hlt
  rw [g1,hk0]
  simp only [U0]
  rw [X1t (by omega) (by omega)]
  congr 2
 ·rw [if_neg (by rw [X1];simp only [lenZ];omega),if_neg hlt,hb0]
  simp only [U0]
  have e7:wmul .i64 (p:Int) 7=((p * 7:Nat):Int):=by rw [Q8h]<;>omega
  have e73:wadd .i64 ((p * 7:Nat):Int) 3=((p * 7+3:Nat):Int):=by rw [V0]<;>omega
  rw [e7,e73]
  have rm:∀ a:Nat,wrem (a:Int) (lenZ r.b.length)=((a % r.b.length:Nat):Int):=fun a=>by
   unfold wrem lenZ
   rw [Int.tmod_eq_emod_of_nonneg (by omega)]
   rfl
  rw [rm,rm]
  obtain ⟨g1,g2⟩:=get (p % r.b.length) (Nat.mod_lt _ hpos)
  obtain ⟨g3,g4⟩:=get ((p * 7+3) % r.b.length) (Nat.mod_lt _ hpos)
  rw [g1,g3,hk0]
  simp only [U0]
  generalize byt r (p % r.b.length)=x at g2 ⊢
  generalize byt r ((p * 7+3) % r.b.length)=y at g4 ⊢
  have f1:wcv .i64 (x:Int)=(x:Int):=X1t (by omega) (by omega)
  have f2:wcv .i64 (y:Int)=(y:Int):=X1t (by omega) (by omega)
  have f3:wmul .i64 (x:Int) 131=((x * 131:Nat):Int):=by rw [Q8h]<;>omega
  have f4:wmul .i64 (y:Int) 1117=((y * 1117:Nat):Int):=by rw [Q8h]<;>omega
  have f5:wmul .i64 (p:Int) 29=((p * 29:Nat):Int):=by rw [Q8h]<;>omega
  have hq:p / r.b.length≤p:=Nat.div_le_self _ _
  have f6:wquo .i64 (p:Int) (lenZ r.b.length)=((p / r.b.length:Nat):Int):=by
   have:(p:Int).tdiv (lenZ r.b.length)=((p / r.b.length:Nat):Int):=by
    rw [Int.tdiv_eq_ediv_of_nonneg (by omega)]
    rfl
   generalize p / r.b.length=q at hq this ⊢
   rw [X2x (by rw [this];omega) (by rw [this];omega),this]
  rw [f1,f2,f3,f4,f5,f6]
  generalize p / r.b.length=q at hq ⊢
  have f7:wmul .i64 (q:Int) 53=((q * 53:Nat):Int):=by rw [Q8h]<;>omega
  have f8:wadd .i64 ((x * 131:Nat):Int) ((y * 1117:Nat):Int)=((x * 131+y * 1117:Nat):Int):=by rw [V0]<;>omega
  have f9:wadd .i64 ((x * 131+y * 1117:Nat):Int) ((p * 29:Nat):Int)=((x * 131+y * 1117+p * 29:Nat):Int):=by rw [V0]<;>omega
  have f10:wadd .i64 ((x * 131+y * 1117+p * 29:Nat):Int) ((q * 53:Nat):Int)=((x * 131+y * 1117+p * 29+q * 53:Nat):Int):=by rw [V0]<;>omega
  rw [f7,f8,f9,f10]
  have hz:x * 131+y * 1117+p * 29+q * 53<1099511627776:=by omega
  generalize x * 131+y * 1117+p * 29+q * 53=z at hz ⊢
  have f11:wquo .i64 (z:Int) 64=((z / 64:Nat):Int):=by
   have:(z:Int).tdiv 64=((z / 64:Nat):Int):=by
    rw [Int.tdiv_eq_ediv_of_nonneg (by omega)]
    rfl
   rw [X2x (by rw [this];omega) (by rw [this];omega),this]
  rw [f11]
  have f12:wxor .i64 (z:Int) ((z / 64:Nat):Int)=((z ^^^ (z / 64):Nat):Int):=V4o hz
  rw [f12]
  unfold Zed.yv
  have:wrem ((z ^^^ (z / 64):Nat):Int) 24=(((z ^^^ (z / 64)) % 24:Nat):Int):=by
   unfold wrem
   rw [Int.tmod_eq_emod_of_nonneg (by omega)]
   rfl
  rw [this]
def widV (m:Nat):Q1→Prop
 | ⟨_,_,ks⟩=>ks.length≤m∧widVs m ks
where widVs (m:Nat):List Q1→Prop
 | []=>True
 | v::l=>widV m v∧widVs m l
theorem X57 (m:Nat):∀ l:List Q1,widV.widVs m l↔∀ x∈l,widV m x
 | []=>by simp [widV.widVs]
 | v::l=>by simp only [widV.widVs,U8,forall_eq_or_imp,X57 m l]
theorem Z2r (m:Nat)(v:Q1):widV m v↔v.kids.length≤m∧∀ x∈v.kids,widV m x:=by
 cases v
 rw [widV,X57]
theorem Z4d {m k:Nat}(h:m≤k):∀ v:Q1,widV m v→widV k v
 | ⟨a,b,ks⟩,hv=>by
  rw [Z2r] at hv ⊢
  refine ⟨Nat.le_trans hv.1 h,fun x hx=>?_⟩
  have:=hv.2 x hx
  exact Z4d h x this
termination_by v=>SizeOf.sizeOf v
decreasing_by
 simp_wf
 have:=List.sizeOf_lt_of_mem hx
 simp at this
 omega
theorem W6j {r r':Z9}{k x:Int}(h:Z7 r k=some (x,r'))(hp:r.p≤40000000):r'.p=wadd .i64 r.p 1:=by
 unfold Z7 at h
 split at h
 ·cases h;rfl
 split at h
 ·cases h;rfl
 split at h
 ·simp only [U12,Option.some.injEq,Prod.mk.injEq] at h
  obtain ⟨_,_,_,_,_,rfl⟩:=h
  rfl
 ·simp only [U12,Option.some.injEq,Prod.mk.injEq] at h
  obtain ⟨_,_,_,_,_,_,_,_,_,rfl⟩:=h
  rfl
theorem W2z {b:List Int}(hb:∀ x∈b,0≤x∧x≤255)(hl:b.length≤2000){E:Nat}{V:Nat→Int}(hE:E≤20000000)(hP:Zed.Pot (pk24 ⟨b,0⟩) E V):∀ (k n:Nat) (v:Q1) (p m:Nat) (P:Int),E-p≤k→k<n→m≤100+p→widV m v→1≤P→2 * P≤V p→
  Ret (Q26 n ⟨b,(p:Int)⟩ v) (fun a=>∃ p':Nat,a.2=⟨b,(p':Int)⟩∧p<p'∧p'≤E+2∧2 * (P-1)≤V p'∧widV (m+(p'-p)) a.1):=by
 intro k
 induction k with
 | zero=>
  intro n v p m P hk hn hm hv h1 h2
  have:=hP.fin p (by omega)
  omega
 | succ k ih=>
  intro n v p m P hk hn hm hv h1 h2
  obtain ⟨n,rfl⟩:∃ j,n=j+1:=⟨n-1,by omega⟩
  have hpE:p<E:=by
   rcases Nat.lt_or_ge p E with h | h
   ·exact h
   ·have:=hP.fin p h
    omega
  have hv':=(Z2r m v).1 hv
  unfold Q26
  rw [X4 (by simp only [U4,Q5];omega)]
  simp only [U0]
  have hpk:=Y07 (r:=⟨b,(p:Int)⟩) hb hl rfl (by omega:p≤30000000)
  have hpe:pk24 ⟨b,(p:Int)⟩ p=pk24 ⟨b,0⟩ p:=rfl
  rw [hpe] at hpk
  simp only at hpk
  have hr1:ROk ⟨b,((p+1:Nat):Int)⟩ 1:=⟨hb,hl,by simp only;omega,by simp only;omega⟩
  refine Ret.ctl (R:=fun _=>False) (B:=fun (s:Z9×Int×Int×List Q1)=>∃ p':Nat,s.1=⟨b,(p':Int)⟩∧p<p'∧p'≤E+2∧2 * (P-1)≤V p'∧s.2.2.2.length≤m+(p'-p)∧∀ x∈s.2.2.2,widV (m+(p'-p)) x) ?_ (fun r hr=>hr.elim) (fun s hs=>?_)
  ·rw [hpk]
   simp only [U0]
   have kidsOk:∀ q:Nat,v.kids.length≤m+q∧∀ x∈v.kids,widV (m+q) x:=fun q=>⟨by omega,fun x hx=>Z4d (by omega) x (hv'.2 x hx)⟩
   have skip:pk24 ⟨b,0⟩ p≤1→∀ (a:Int×Z9),Nx ⟨b,((p+1:Nat):Int)⟩ a.2 1→a.2.p=((p+2:Nat):Int)→a.2=⟨b,((p+2:Nat):Int)⟩∧2 * (P-1)≤V (p+2):=fun h a hn hp2=>by
    have:=hP.skip p hpE h
    refine ⟨?_,by omega⟩
    cases a with
    | mk x r=>
     cases r with
     | mk bb pp=>
      have e1:bb=b:=hn.b
      simp only at hp2
      rw [e1,hp2]
   have num2:∀ l:List Int,1≤l.length→l.length≤1000→Ret (X8 ⟨b,((p+1:Nat):Int)⟩ l) (fun a=>Nx ⟨b,((p+1:Nat):Int)⟩ a.2 1∧a.2.p=((p+2:Nat):Int)):=fun l hl1 hl2=>by
    obtain ⟨a,e,_,hn⟩:=Q8n hr1 l hl1 hl2
    refine ⟨a,e,hn,?_⟩
    unfold X8 at e
    cases hpick:Z7 ⟨b,((p+1:Nat):Int)⟩ (lenZ l.length) with
    | none=>rw [hpick] at e;cases e
    | some q=>
     rw [hpick] at e
     simp only [U0] at e
     cases hi:idx l q.1 with
     | none=>rw [hi] at e;cases e
     | some y=>
      rw [hi] at e
      simp only [U0,Option.some.injEq] at e
      subst e
      simp only
      have:=W6j hpick (by simp only;omega)
      rw [this]
      show wadd .i64 ((p+1:Nat):Int) 1=_
      rw [V0 (by omega) (by omega)]
      omega
   refine Ret.ite (fun h0=>?_) (fun h0=>?_)
   ·rw [Z8] at h0
    refine Ret.bind (num2 _ (by simp) (by simp)) (fun a ha=>.some ?_)
    obtain ⟨e1,e2⟩:=skip (by omega) a ha.1 ha.2
    exact ⟨p+2,e1,by omega,by omega,e2,(kidsOk _).1,(kidsOk _).2⟩
   rw [W2] at h0
   refine Ret.ite (fun h1'=>?_) (fun h1'=>?_)
   ·rw [Z8] at h1'
    refine Ret.bind (num2 _ (by simp) (by simp)) (fun a ha=>.some ?_)
    obtain ⟨e1,e2⟩:=skip (by omega) a ha.1 ha.2
    exact ⟨p+2,e1,by omega,by omega,e2,(kidsOk _).1,(kidsOk _).2⟩
   rw [W2] at h1'
   refine Ret.ite (fun h2'=>?_) (fun h2'=>?_)
   ·rw [Z8] at h2'
    have hot:=hP.other p hpE (by omega) (by omega)
    rw [X4 (by simp only [U3,U4,Q5];omega)]
    refine .some ⟨p+1,rfl,by omega,by omega,by omega,by simp only [U5,U3,U4];omega,fun x hx=>?_⟩
    rcases List.mem_append.1 hx with hx | hx
    ·exact (kidsOk _).2 x hx
    ·simp only [List.mem_singleton] at hx
     rw [hx,Z2r]
     exact ⟨by simp,fun y hy=>by cases hy⟩
   rw [W2] at h2'
   refine Ret.ite (fun h3=>?_) (fun h3=>?_)
   ·rw [Z8] at h3
    have hth:=hP.three p hpE (by omega)
    refine Ret.ite (fun h4=>?_) (fun h4=>?_)
    ·rw [X1] at h4
     simp only [lenZ] at h4
     obtain ⟨x,hx,hxm⟩:=Q5a (xs:=v.kids) (i:=0) (by omega) (by omega)
     rw [hx]
     simp only [U0]
     refine Ret.bind (ih n x (p+1) m (P+1) (by omega) (by omega) (by omega) (hv'.2 x hxm) (by omega) (by omega)) (fun a ha=>?_)
     obtain ⟨p1,e1,e2,e3,e4,e5⟩:=ha
     rw [e1]
     refine Ret.bind (ih n a.1 p1 (m+(p1-(p+1))) P (by omega) (by omega) (by omega) e5 h1 (by omega)) (fun c hc=>?_)
     obtain ⟨p2,g1,g2,g3,g4,g5⟩:=hc
     have hset:setI v.kids 0 c.1=some (v.kids.set 0 c.1):=by
      unfold setI
      rw [if_pos ⟨by omega,by show 0<v.kids.length;omega⟩]
      rfl
     rw [hset]
     simp only [U0]
     refine .some ⟨p2,g1,by omega,g3,g4,by simp only [List.length_set];omega,fun y hy=>?_⟩
     rcases List.mem_or_eq_of_mem_set hy with hy | rfl
     ·exact (kidsOk _).2 y hy
     ·exact Z4d (by omega) _ g5
    ·exact .some ⟨p+1,rfl,by omega,by omega,by omega,(kidsOk _).1,(kidsOk _).2⟩
   ·rw [W2] at h3
    have hot:=hP.other p hpE (by omega) (by omega)
    exact .some ⟨p+1,rfl,by omega,by omega,by omega,(kidsOk _).1,(kidsOk _).2⟩
  ·obtain ⟨p',e1,e2,e3,e4,e5,e6⟩:=hs
   exact .some ⟨p',e1,e2,e3,e4,(Z2r _ _).2 ⟨e5,e6⟩⟩
theorem W30 {r:Z9}(hr:ROk r 1)(hp:r.p≤5000){v:Q1}(hv:widV 100 v):Ret (Q26 NN r v) (fun a=>Nx r a.2 20000010):=by
 obtain ⟨b,p⟩:=r
 obtain ⟨h1,h2,h3,h4⟩:=hr
 simp only at h1 h2 h3 h4 hp
 obtain ⟨p,rfl⟩:=Int.eq_ofNat_of_zero_le h3
 have hex:∃ E V,Zed.Pot (pk24 ⟨b,0⟩) E V∧2≤V p∧E≤20000000:=by
  by_cases hb:b.length=0
  ·obtain ⟨E,V,g1,g2,g3⟩:=Zed.pot0 p
   refine ⟨E,V,?_,g2,by omega⟩
   have:pk24 ⟨b,0⟩=fun _=>0:=by
    funext q
    unfold pk24
    rw [if_pos hb]
   rw [this]
   exact g1
  ·obtain ⟨E,V,g1,g2,g3⟩:=Zed.pot (byt ⟨b,0⟩) (fun i=>by
    unfold byt
    simp only
    rw [List.getD_eq_getElem?_getD]
    cases hi:b[i]? with
    | none=>simp
    | some x=>
     have:=h1 x (U1 hi)
     simp only [Option.getD_some]
     omega) (L:=b.length) (p0:=p) (by omega) h2 (by omega)
   refine ⟨E,V,?_,g2,g3⟩
   have:pk24 ⟨b,0⟩=Zed.pkv (byt ⟨b,0⟩) b.length:=by
    funext q
    unfold pk24
    rw [if_neg hb]
   rw [this]
   exact g1
 obtain ⟨E,V,g1,g2,g3⟩:=hex
 refine Ret.mono ?_ (W2z h1 h2 g3 g1 (E-p) NN v p (100+p) 1 (Nat.le_refl _) (by simp only [NN];omega) (Nat.le_refl _) (Z4d (by omega) v hv) (by omega) (by omega))
 rintro a ⟨p',e1,e2,e3,_,_⟩
 rw [e1]
 refine ⟨rfl,?_,?_⟩
 ·show ((p:Nat):Int)≤((p':Nat):Int)
  omega
 ·show ((p':Nat):Int)≤((p:Nat):Int)+((20000010:Nat):Int)
  omega
theorem X45 {α σ ρ:Type}{f:Nat→α→σ→Option (Ctl ρ σ)}(I:Nat→σ→Prop)(R:ρ→Prop)(B:σ→Prop):∀ (xs:List α) (i:Nat) (s0:σ),I i s0→(∀ k x s,x∈xs→I k s→Par (f k x s) (RndQ R B (I (k+1))))→(∀ s,I (i+xs.length) s→B s)→Par (forL f i xs s0) (CtlQ R B)
 | [],i,s0,h0,_,hb=>by
  unfold forL
  exact .some (hb s0 (by simpa using h0))
 | x::xs,i,s0,h0,st,hb=>by
  unfold forL
  have h1:=st i x s0 (by simp) h0
  intro a e
  cases hf:f i x s0 with
  | none=>rw [hf] at e;cases e
  | some o=>
   rw [hf] at e
   have h2:=h1 o hf
   cases o with
   | ret r=>cases e;exact h2
   | brk s=>cases e;exact h2
   | go s=>exact X45 I R B xs (i+1) s h2 (fun k y s hy=>st k y s (by simp [hy])) (fun s hs=>hb s (by simpa [Nat.add_assoc,Nat.add_comm 1] using hs)) a e
theorem Ret.both {α:Type}{x:Option α}{P Q:α→Prop}(h:Ret x P)(k:Par x Q):Ret x (fun a=>P a∧Q a):=by
 obtain ⟨a,e,hp⟩:=h
 exact ⟨a,e,hp,k a e⟩
theorem W8p {α:Type}(xs ys:List α):Par (app xs ys) (fun z=>z=xs++ys):=fun z hz=>by
 unfold app at hz
 split at hz
 ·cases hz;rfl
 ·cases hz
theorem W2y {code:List Int}{q:Z9}(h:((if (ilt 2000 (lenZ code.length))=true then ((Q7q code 2000).bind fun x8=>some (Ctl.brk (ρ:=Z9) x8)) else some (Ctl.brk code)))=some (.ret q)):False:=by
 split at h
 ·cases ht:Q7q code 2000 with
  | none=>rw [ht] at h;cases h
  | some x=>rw [ht] at h;cases h
 ·cases h
theorem W89 {w:List Q4}(hw:WW w):∀ (n:Nat) (r:Z9) (t:Q6) (depth:Int),t∈tys w→Par (Q3p n r w (tabP w) t depth) (fun a=>widV 3 a.1):=by
 intro n
 induction n with
 | zero=>intro r t depth _;exact .none
 | succ n ih=>
  intro r t depth ht
  have hT:=hw.ty t ht
  unfold Q3p
  refine Par.ite (fun _=>?_) (fun _=>?_)
  ·exact Par.any fun a=>.some ((Z2r _ _).2 ⟨by simp,fun x hx=>by cases hx⟩)
  ·rw [hT.c1]
   simp only [U0]
   refine Par.ctl (X45 (fun _ (s:List Int)=>∀ x∈s,x∈X5 w t) (fun _=>False) (fun s=>∀ x∈s,x∈X5 w t) (X5 w t) 0 _ (by simp) (fun k x s hx hI=>?_) (fun s hs=>hs)) (fun r hr=>hr.elim) (fun s hs=>?_)
   ·have add:Par ((app s [x]).bind fun x310=>some (Ctl.brk (ρ:=Ctl (Q1×Z9) (List Int)) x310)) (CtlQ (fun _=>False) (fun s'=>∀ x∈s',x∈X5 w t)):=by
     refine Par.bind (W8p _ _) (fun z hz=>.some ?_)
     subst hz
     intro y hy
     rcases List.mem_append.1 hy with hy | hy
     ·exact hI y hy
     ·simp only [List.mem_singleton] at hy;rw [hy];exact hx
    have pass:Par (some (Ctl.brk (ρ:=Ctl (Q1×Z9) (List Int)) s)) (CtlQ (fun _=>False) (fun s'=>∀ x∈s',x∈X5 w t)):=.some hI
    refine Par.ctl (R:=fun _=>False) (B:=fun (s':List Int)=>∀ x∈s',x∈X5 w t) ?_ (fun r hr=>hr.elim) (fun s' hs'=>.some hs')
    refine Par.any fun a=>Par.ite (fun _=>Par.ite (fun _=>add) (fun _=>Par.any fun b=>Par.ite (fun _=>add) (fun _=>pass))) (fun _=>pass)
   ·refine Par.any fun a=>?_
    refine Par.bind (P:=fun x=>x∈X5 w t) (fun x hx=>?_) (fun x hx=>?_)
    ·unfold idx at hx
     split at hx
     ·exact hs x (U1 hx)
     ·cases hx
    ·rw [hT.a1 x hx]
     simp only [U0]
     have hal:=hT.al x hx
     refine Par.ctl (X45 (fun k (u:Z9×List Q1)=>u.2.length≤k∧∀ y∈u.2,widV 3 y) (fun _=>False) (fun u=>u.2.length≤3∧∀ y∈u.2,widV 3 y) (V6 w t x) 0 _ (by simp) (fun k y u hy hI=>?_) (fun u hu=>⟨by have:=hu.1;omega,hu.2⟩)) (fun r hr=>hr.elim) (fun u hu=>.some ((Z2r _ _).2 hu))
     refine Par.bind (ih u.1 y _ (hT.at_ x hx y hy)) (fun b hb=>?_)
     refine Par.bind (W8p _ _) (fun z hz=>.some ?_)
     subst hz
     refine ⟨by simp only [U5,U3,U4];have:=hI.1;omega,fun q hq=>?_⟩
     rcases List.mem_append.1 hq with hq | hq
     ·exact hI.2 q hq
     ·simp only [List.mem_singleton] at hq;rw [hq];exact hb
theorem W2f {r:Z9}(h:ROk r 1000):Ret (Q46 NN r) (fun a=>a.1∈Q0s∧a.2.1∈tys a.1∧Nx r a.2.2.2 500∧widV 3 a.2.2.1∧depP a.1 a.2.1≠0):=by
 unfold Q46
 refine Ret.bind (W0g (h.le (by omega))) (fun a ha=>?_)
 obtain ⟨hw,hn1⟩:=ha
 have hW:=ww hw
 rw [hW.tab]
 simp only [U0]
 have hr1:ROk a.2 999:=ROk.nx (c:=1) h hn1
 have hpos:=hW.pos
 have hle:=hW.le
 refine Ret.bind (Q3d (hr1.le (by omega)) (k:=lenZ a.1.length) (by simp only [lenZ];omega) (by simp only [lenZ];omega)) (fun b hb=>?_)
 have hr2:ROk b.2 998:=ROk.nx (c:=1) hr1 hb.2.2
 refine Ret.bind (Q8n (hr2.le (by omega)) [0,0,1,2] (by simp) (by simp)) (fun c hc=>?_)
 have hr3:ROk c.2 997:=ROk.nx (c:=1) hr2 hc.2
 have hty:(Q6.mk b.1 c.1)∈tys a.1:=by
  obtain ⟨i,hi⟩:=Int.eq_ofNat_of_zero_le hb.1
  have hil:i<a.1.length:=by have:=hb.2.1;simp only [lenZ] at this;omega
  have hci:∃ j:Nat,j<4∧c.1=(j:Int):=by
   have:=hc.1
   simp at this
   rcases this with h | h | h
   ·exact ⟨0,by omega,h⟩
   ·exact ⟨1,by omega,h⟩
   ·exact ⟨2,by omega,h⟩
  obtain ⟨j,hj,hcj⟩:=hci
  unfold tys
  refine List.mem_cons_of_mem _ (List.mem_flatMap.2 ⟨i,List.mem_range.2 hil,U10.2 ⟨j,List.mem_range.2 hj,?_⟩⟩)
  rw [hi,hcj]
  rfl
 have htI:tI∈tys a.1:=by unfold tys;exact List.mem_cons_self
 refine Ret.ctl (R:=fun _=>False) (B:=fun s=>(Q6.mk s.1 s.2)∈tys a.1∧depP a.1 (Q6.mk s.1 s.2)≠0) ?_ (fun r hr=>hr.elim) (fun s hs=>?_)
 ·rw [(hW.ty _ hty).d1]
  simp only [U0]
  refine Ret.ite (fun h=>?_) (fun h=>?_)
  ·refine .some ⟨htI,?_⟩
   have:=(hW.ty tI htI).ti rfl
   show depP a.1 tI≠0
   omega
  ·rw [W2] at h
   exact .some ⟨hty,h⟩
 ·refine Ret.bind (Q8n (hr3.le (by omega)) [3,2,4,1] (by simp) (by simp)) (fun d hd=>?_)
  have hr4:ROk d.2 996:=ROk.nx (c:=1) hr3 hd.2
  have hd4:1≤d.1∧d.1≤4:=by
   have:=hd.1
   simp at this
   omega
  have hdep:=(hW.ty _ hs.1).d4
  refine Ret.bind ((W1y hW 4 NN d.2 _ d.1 hs.1 hs.2 (by omega) (by omega) (by omega) (by omega) (by decide) (hr4.le (by decide))).both (W89 hW NN d.2 _ d.1 hs.1)) (fun e he=>?_)
  refine .some ⟨hw,hs.1,?_,he.2,hs.2⟩
  have:=(((hn1.trans hb.2.2).trans hc.2).trans hd.2).trans he.1
  exact this.le' (by decide)
theorem W2e {r:Z9}(h:ROk r 5000):Ret (Q2p NN r) (fun a=>a.1∈Q0s∧a.2.1∈tys a.1∧(∀ c∈a.2.2.1,Q2i a.1 a.2.1 c.pat=true)∧a.2.2.1.length≤5∧Nx r a.2.2.2.2 4000∧widV 3 a.2.2.2.1∧depP a.1 a.2.1≠0):=by
 unfold Q2p
 refine Ret.bind (W2f (h.le (by omega))) (fun a ha=>?_)
 obtain ⟨h1,h2,h3,h4,h5⟩:=ha
 refine Ret.bind (W11 (ww h1) h2 (ROk.nx (c:=500) (h.le (by omega)) h3)) (fun b hb=>?_)
 exact .some ⟨h1,h2,hb.1,hb.2.1,(h3.trans hb.2.2).le' (by omega),h4,h5⟩
theorem V0w (code:List Int)(hb:∀ x∈code,0≤x∧x≤255):Ret (Q1h code) (fun r=>ROk r 1000000∧r.p=0):=by
 obtain ⟨r,e,hr⟩:=X3h code hb
 refine ⟨r,e,hr,?_⟩
 unfold Q1h at e
 simp only [U12] at e
 obtain ⟨o,h1,h2⟩:=e
 cases o with
 | ret q=>exact (W2y h1).elim
 | go s=>cases h2
 | brk s=>simp only [Option.some.injEq] at h2;rw [←h2]
theorem X9z (code:List Int)(hb:∀ x∈code,0≤x∧x≤255):Ret (Q27 NN code) (fun a=>a.1∈Q0s∧a.2.1∈tys a.1):=by
 unfold Q27
 refine Ret.bind (V0w code hb) (fun r hr=>?_)
 obtain ⟨hr,hp0⟩:=hr
 refine Ret.bind (W2e (hr.le (by omega))) (fun a ha=>?_)
 obtain ⟨h1,h2,h3,h4,h5,h6,_⟩:=ha
 have hr1:ROk a.2.2.2.2 900000:=ROk.nx (c:=4000) (hr.le (by omega)) h5
 refine Ret.bind (X2f (hr1.le (by omega)) a.2.2.1 (by omega) (fun c hc=>by have:=X1v (ww h1) h2 (h3 c hc);omega)) (fun b hb=>?_)
 have hr2:ROk b.2 800000:=ROk.nx (c:=10) (hr1.le (by omega)) hb.2
 have hp:b.2.p≤5000:=by
  have e1:=h5.ge
  have e2:=hb.2.ge
  omega
 refine Ret.bind (W30 (hr2.le (by omega)) hp (Z4d (by omega) _ h6)) (fun d _=>.some ⟨h1,h2⟩)
theorem Z8s {α:Type}{a b:List α}(hl:a.length=b.length){f:Nat→α→Unit→Option (Ctl Bool Unit)}(hf:∀ (k:Nat) (x y:α),b[k]?=some y→(x=y→f k x ()=some (.go ()))∧(x≠y→f k x ()=some (.ret false))):Ret (forL f 0 a ()) (CtlQ (fun r=>r=false∧a≠b) (fun _=>a=b)):=by
 refine Z4 a (fun k _=>a.take k=b.take k) _ _ (by simp) (fun k x s hx hI=>?_) (fun s hI=>?_)
 ·have hk:=(List.getElem?_eq_some_iff.1 hx).1
  have hy:b[k]?=some (b[k]'(by omega)):=U9 (by omega)
  by_cases h:x=b[k]'(by omega)
  ·refine Ret.of ((hf k x _ hy).1 h) ?_
   simp only [Y9]
   rw [Z3r hx,Z3r hy,hI,h]
  ·refine Ret.of ((hf k x _ hy).2 h) ?_
   refine (show false=false∧a≠b from ⟨rfl,fun e=>h ?_⟩)
   subst e
   rw [hx] at hy
   exact Option.some.inj hy
 ·rw [List.take_length,hl,List.take_length] at hI
  exact hI
theorem Z0j {α:Type} [DecidableEq α] {a b:α}(h:a≠b):false=decide (a=b):=(decide_eq_false h).symm
theorem X4f {α:Type} [DecidableEq α] {a b:α}(h:a=b):true=decide (a=b):=(decide_eq_true h).symm
theorem X5z (a b:List Int):Q1t a b=some (decide (a=b)):=by
 suffices hs:Ret (Q1t a b) (fun r=>r=decide (a=b)) by
  obtain ⟨_,e,rfl⟩:=hs
  exact e
 unfold Q1t
 refine Ret.ite (fun h=>.some (Z0j ?_)) (fun h=>?_)
 ·rintro rfl
  simp [ieq] at h
 ·rw [Bool.not_eq_false',Z8,Y0,Y0] at h
  refine Ret.ctl (Z8s (b:=b) (by omega) (fun k x y hy=>?_)) (fun r hr=>.some ?_) (fun s hs=>.some (X4f hs))
  ·rw [Q16 hy]
   simp only [U0]
   exact ⟨fun e=>by simp [ieq,e],fun e=>by simp [ieq,e]⟩
  ·rw [hr.1]
   exact Z0j hr.2
theorem W8u (acc:List (List Int))(p:List Int):(Z7z acc p).length≤acc.length+1:=by
 unfold Z7z
 split<;>simp
theorem Z52:∀ (ps acc:List (List Int)),(Q6w acc ps).length≤acc.length+ps.length
 | [],acc=>by simp [Q6w]
 | p::ps,acc=>by
  have h1:=Z52 ps (Z7z acc p)
  have h2:=W8u acc p
  simp only [Q6w,U3]
  omega
theorem W4d (a b:List Int):Q2b a b=some (decide (a=b)):=by
 suffices hs:Ret (Q2b a b) (fun r=>r=decide (a=b)) by
  obtain ⟨_,e,rfl⟩:=hs
  exact e
 unfold Q2b
 refine Ret.ite (fun h=>.some (Z0j ?_)) (fun h=>?_)
 ·rintro rfl
  simp [ieq] at h
 ·rw [Bool.not_eq_false',Z8,Y0,Y0] at h
  refine Ret.ctl (Z8s (b:=b) (by omega) (fun k x y hy=>?_)) (fun r hr=>.some ?_) (fun s hs=>.some (X4f hs))
  ·rw [Q16 hy]
   simp only [U0]
   exact ⟨fun e=>by simp [ieq,e],fun e=>by simp [ieq,e]⟩
  ·rw [hr.1]
   exact Z0j hr.2
theorem X4k (l:List (List Int))(p:List Int)(f:List Int→Option Bool)(hf:∀ a,f a=some (decide (a=p))):Q0k l f=some (decide (p∈l)):=by
 suffices hs:Ret (Q0k l f) (fun r=>r=decide (p∈l)) by
  obtain ⟨_,e,rfl⟩:=hs
  exact e
 unfold Q0k Q3a
 refine Ret.bind (P:=fun r=>ile 0 r=decide (p∈l)) ?_ (fun r hr=>.some hr)
 refine Ret.ctl (Z4 l (fun k _=>p∉l.take k) (fun r=>0≤r∧p∈l) (fun _=>p∉l) (by simp) (fun k x s hx hI=>?_) (fun s hI=>by rwa [List.take_length] at hI)) (fun r hr=>.some ?_) (fun s hs=>.some ?_)
 ·rw [hf]
  simp only [U0]
  refine Ret.ite (fun h=>.some ?_) (fun h=>.some ?_)
  ·rw [decide_eq_true_eq] at h
   subst h
   exact ⟨by omega,U1 hx⟩
  ·rw [decide_eq_false_iff_not] at h
   simp only [Y9]
   rw [Z3r hx,List.mem_append,List.mem_singleton]
   rintro (h' | h')
   ·exact hI h'
   ·exact h h'.symm
 ·rw [decide_eq_true hr.2,Q03]
  exact hr.1
 ·rw [decide_eq_false hs]
  rfl
theorem W08 {acc:List (List Int)}{p:List Int}(hp:p.length≤1000)(ha:acc.length≤100000):Q6l acc p=some (Z7z acc p):=by
 unfold Q6l Z7z
 rw [X4k acc p _ (fun a=>by unfold Q6s;rw [W4d];rfl)]
 simp only [U0]
 by_cases h:p∈acc
 ·simp [h]
 ·rw [if_neg (by simpa using h),Q9k p (by simp only [Q5];omega)]
  simp only [U0]
  rw [X4 (by simp only [U3,U4,Q5];omega),if_neg h]
  rfl
theorem Z99 (acc ps:List (List Int))(p:List Int):Q6w acc (ps++[p])=Z7z (Q6w acc ps) p:=by
 induction ps generalizing acc with
 | nil=>rfl
 | cons q ps ih=>simp only [List.cons_append,Q6w,ih]
theorem W0v:∀ {d:Nat} {v u:Q1} {p:List Int},Z1t d v→Q4h v p=some u→p.length≤d
 | d,v,u,[],_,_=>by simp
 | 0,v,u,i::p,h,_=>h.elim
 | d+1,v,u,i::p,h,hp=>by
  rw [Q4h,U12] at hp
  obtain ⟨x,hx,hp⟩:=hp
  have:=W0v (h.2 x (by
   unfold idx at hx
   split at hx
   ·exact U1 hx
   ·cases hx)) hp
  simp only [U3]
  omega
theorem X2e {v u:Q1}{p:List Int}(h:Z1t 10 v)(hp:Q4h v p=some u):p.length≤10:=W0v h hp
theorem X2b (a b:List Int):Q54 a b=some (decide (a=b)):=by
 suffices hs:Ret (Q54 a b) (fun r=>r=decide (a=b)) by
  obtain ⟨_,e,rfl⟩:=hs
  exact e
 unfold Q54
 refine Ret.ite (fun h=>.some (Z0j ?_)) (fun h=>?_)
 ·rintro rfl
  simp [ieq] at h
 ·rw [Bool.not_eq_false',Z8,Y0,Y0] at h
  refine Ret.ctl (Z8s (b:=b) (by omega) (fun k x y hy=>?_)) (fun r hr=>.some ?_) (fun s hs=>.some (X4f hs))
  ·rw [Q16 hy]
   simp only [U0]
   exact ⟨fun e=>by simp [ieq,e],fun e=>by simp [ieq,e]⟩
  ·rw [hr.1]
   exact Z0j hr.2
theorem W2u (l:List (List Int))(p:List Int):Q65 l p=some (decide (p∈l)):=by
 suffices hs:Ret (Q65 l p) (fun r=>r=decide (p∈l)) by
  obtain ⟨_,e,rfl⟩:=hs
  exact e
 unfold Q65
 refine Ret.ctl (Z4 l (fun k _=>p∉l.take k) (fun r=>r=true∧p∈l) (fun _=>p∉l) (by simp) (fun k x s hx hI=>?_) (fun s hI=>by rwa [List.take_length] at hI)) (fun r hr=>.some (by rw [hr.1,decide_eq_true hr.2])) (fun s hs=>.some (by rw [decide_eq_false hs]))
 rw [X2b]
 simp only [U0]
 refine Ret.ite (fun h=>.some ?_) (fun h=>.some ?_)
 ·rw [decide_eq_true_eq] at h
  subst h
  exact ⟨rfl,U1 hx⟩
 ·rw [decide_eq_false_iff_not] at h
  simp only [Y9]
  rw [Z3r hx,List.mem_append,List.mem_singleton]
  rintro (h' | h')
  ·exact hI h'
  ·exact h h'.symm
theorem Z98:∀ (ps acc:List (List Int)),acc.Nodup→(Q6w acc ps).Nodup
 | [],_,h=>h
 | p::ps,acc,h=>by
  rw [Q6w]
  refine Z98 ps _ ?_
  unfold Z7z
  split
  ·exact h
  ·rename_i hp
   rw [List.nodup_append]
   refine ⟨h,by simp,fun a ha b hb=>?_⟩
   simp only [List.mem_singleton] at hb
   rintro rfl
   exact hp (hb▸ha)
theorem W6s {α:Type}{l:List α}(h:l.Nodup){k:Nat}{x:α}(hx:l[k]?=some x):x∉l.take k:=by
 have hd:=List.drop_eq_getElem_cons (List.getElem?_eq_some_iff.1 hx).1
 rw [(List.getElem?_eq_some_iff.1 hx).2] at hd
 have:=h
 rw [←List.take_append_drop k l,hd,List.nodup_append] at this
 exact fun hm=>this.2.2 x hm x (by simp) rfl
theorem X3p {code:List X0}{lst:List Q3}{v:Q1}(hv:Z1t 10 v)(hc:∀ s∈code,X2v s)(hl:code.length≤100000){k:Nat}{r:Int×List W9×List (List Int)}(h:runK code lst v k 0=some r)(hk:k≤100000) :
  J4 NN code lst v []=some (r.1,r.2.1,(r.2.2.length:Int),Q6w [] r.2.2):=by
 suffices hs:Ret (J4 NN code lst v []) (fun a=>a=(r.1,r.2.1,(r.2.2.length:Int),Q6w [] r.2.2)) by
  obtain ⟨_,e,rfl⟩:=hs
  exact e
 unfold J4
 have hr:=Z0x h
 refine Ret.ctl (Z0r (fun k s=>∃ (a:Nat) (ps:List (List Int)) (r':Int×List W9×List (List Int)),s=(Q6w [] ps,(ps.length:Int),(a:Int))∧runK code lst v k a=some r'∧r'.1=r.1∧r'.2.1=r.2.1∧ps++r'.2.2=r.2.2) (fun a=>a=(r.1,r.2.1,(r.2.2.length:Int),Q6w [] r.2.2)) (fun _=>False) (fun s hI=>?_) (fun k s hI=>?_) k NN ([],0,0) ⟨0,[],r,rfl,h,rfl,rfl,rfl⟩ (by simp only [NN];omega)) (fun a ha=>.some ha) (fun s hs=>hs.elim)
 ·obtain ⟨_,_,_,_,h1,_⟩:=hI
  cases h1
 ·obtain ⟨a,ps,r',rfl,h1,h2,h3,h4⟩:=hI
  have hpl:ps.length+r'.2.2.length=r.2.2.length:=by rw [←h4,U5]
  have hol:=Z52 ps []
  rw [U4] at hol
  rw [runK,U12] at h1
  obtain ⟨s,hs,h1⟩:=h1
  have hso:=hc s (U1 hs)
  have hal:=(List.getElem?_eq_some_iff.1 hs).1
  dsimp only
  rw [Q16 hs]
  simp only [U0]
  by_cases o3:s.op=3
  ·rw [if_pos o3] at h1
   rw [if_pos (by rw [Z8];exact o3)]
   cases h1
   refine .some ?_
   simp only [Z2v]
   rw [List.append_nil] at h4
   rw [←h2,←h3,←h4]
  ·rw [if_neg o3] at h1
   rw [if_neg (by rw [Z8];exact o3)]
   unfold Q4e
   by_cases o1:s.op=1
   ·rw [if_pos o1] at h1
    have e1:ieq s.op 1=true:=by rw [Z8];exact o1
    simp only [e1,if_true]
    obtain ⟨u,hu,h1⟩:=U12.1 h1
    obtain ⟨r2,h5,rfl⟩:=U11.1 h1
    simp only [U3] at hpl
    have hpp:=X2e hv hu
    rw [W08 (by omega) (by omega)]
    simp only [U0]
    rw [Q9e hu]
    simp only [U0]
    rw [X03]
    simp only [U0]
    rw [V0 (by omega) (by omega),V0 (by omega) (by omega)]
    cases hp:Q8q s u with
    | true=>
     rw [hp] at h5
     simp only [if_true] at h5
     simp only [Bool.not_true,U2,if_false,U0]
     exact .some ⟨a+1,ps++[s.path],r2,by rw [Z99];simp,h5,h2,h3,by rw [←h4];simp⟩
    | false=>
     rw [hp] at h5
     simp only [U2,if_false] at h5
     simp only [Bool.not_false,if_true,U0]
     exact .some ⟨s.to.toNat,ps++[s.path],r2,by rw [Z99,Int.toNat_of_nonneg hso.to];simp,h5,h2,h3,by rw [←h4];simp⟩
   ·rw [if_neg o1] at h1
    have e1:ieq s.op 1=false:=by rw [W2];exact o1
    simp only [e1,U2,if_false,U0]
    obtain ⟨l,hl',h1⟩:=U12.1 h1
    obtain ⟨c,hcl,h1⟩:=U12.1 h1
    rw [Q9x hv hso.bl hl']
    simp only [U0]
    rw [hcl]
    simp only [U0]
    rw [Z7a c.guard (by rw [Q2h hl'];exact hso.nd)]
    simp only [U0]
    by_cases hg:Q08 c.guard l=true
    ·rw [if_pos hg] at h1 ⊢
     cases h1
     refine .some ?_
     simp only [Z2v]
     rw [List.append_nil] at h4
     rw [←h2,←h3,←h4]
    ·rw [if_neg hg] at h1 ⊢
     exact .some ⟨s.to.toNat,ps,r',by rw [Int.toNat_of_nonneg hso.to],h1,h2,h3,h4⟩
theorem X5q {l:List (List Int)}(hl:l.length≤100000)(hp:∀ p∈l,p.length≤1000){ρ:Type}(F:Nat→List Int→List (List Int)→Option (Ctl ρ (List (List Int))))
  (hF:∀ (k:Nat) (p:List Int) (s:List (List Int)),p.length≤1000→s.length≤100000→F k p s=some (.go (Z7z s p))):forL F 0 l []=some (.brk (Q6w [] l)):=by
 have hs:Ret (forL F 0 l []) (CtlQ (fun _=>False) (fun s=>s=Q6w [] l)):=by
  refine Z4 l (fun k s=>s=Q6w [] (l.take k)) (fun _=>False) (fun s=>s=Q6w [] l) rfl (fun k p s hk hI=>?_) (fun s hI=>by rwa [List.take_length] at hI)
  have hsl:=Z52 (l.take k) []
  rw [U6,U4] at hsl
  rw [hF k p s (hp p (U1 hk)) (by rw [hI];omega)]
  refine .some ?_
  simp only [Y9]
  rw [Z3r hk,Z99,hI]
 obtain ⟨o,ho,hq⟩:=hs
 cases o with
 | ret r=>exact hq.elim
 | go s=>exact hq.elim
 | brk s=>rw [ho];simp only [Q5l] at hq;rw [hq]
theorem W45 (s:List (List Int))(p:List Int){ρ:Type}(F:Nat→List Int→Bool→Option (Ctl ρ Bool))(hF:∀ (k:Nat) (x:List Int) (b:Bool),F k x b=some (.go (b||decide (x=p)))):forL F 0 s false=some (.brk (decide (p∈s))):=by
 have hs:Ret (forL F 0 s false) (CtlQ (fun _=>False) (fun b=>b=decide (p∈s))):=by
  refine Z4 s (fun k b=>b=decide (p∈s.take k)) (fun _=>False) (fun b=>b=decide (p∈s)) (by simp) (fun k x b hk hI=>?_) (fun b hI=>by rwa [List.take_length] at hI)
  rw [hF]
  refine .some ?_
  simp only [Y9]
  rw [Z3r hk,hI]
  by_cases h1:p∈s.take k
  ·simp [h1]
  ·by_cases h2:x=p
   ·simp [h2]
   ·have h3:¬p=x:=fun e=>h2 e.symm
    simp [h1,h2,h3]
 obtain ⟨o,ho,hq⟩:=hs
 cases o with
 | ret r=>exact hq.elim
 | go s=>exact hq.elim
 | brk s=>rw [ho];simp only [Q5l] at hq;rw [hq]
theorem Z60 {code:List X0}{lst:List Q3}{v:Q1}(hv:Z1t 10 v):∀ {k a:Nat} {r:Int×List W9×List (List Int)},runK code lst v k a=some r→∀ p∈r.2.2,p.length≤1000
 | 0,_,_,h=>by cases h
 | k+1,a,r,h=>by
  rw [runK,U12] at h
  obtain ⟨s,_,h⟩:=h
  split at h
  ·cases h;simp
  ·split at h
   ·obtain ⟨u,hu,h⟩:=U12.1 h
    obtain ⟨r',h1,rfl⟩:=U11.1 h
    intro p hp
    rcases U8.1 hp with rfl | hp
    ·have:=X2e hv hu;omega
    ·exact Z60 hv h1 p hp
   ·obtain ⟨l,_,h⟩:=U12.1 h
    obtain ⟨c,_,h⟩:=U12.1 h
    split at h
    ·cases h;simp
    ·exact Z60 hv h
def X5p (l:List (List Int)):Option (List (List Int)):=
  ((forL (fun k1129 x1130 (s1123:(List (List Int)))=>
  ((((forL (fun k1310 x1311 (s1304:Bool)=>
  (((if s1304=true then
  some (Ctl.brk true)
  else
  ((Q1t x1311 x1130).bind fun r1323=>
  some (Ctl.brk r1323)))).bind fun (o1319:Ctl _ (Bool))=>match o1319 with
  | .ret r=>some r
  | .go _=>none
  | .brk s1318=>
  some (Ctl.go s1318))) 0 s1123 false).bind fun (o1303:Ctl _ (Bool))=>match o1303 with
  | .ret r=>some r
  | .go _=>none
  | .brk s1314=>
  (if (!s1314)=true then
  ((app [] x1130).bind fun x1326=>
  ((app s1123 [x1130]).bind fun x1327=>
  some (Ctl.brk (s1123++[x1130]))))
  else
  some (Ctl.brk s1123)))).bind fun (o1230:Ctl _ ((List (List Int))))=>match o1230 with
  | .ret r=>some r
  | .go _=>none
  | .brk s1229=>
  some (Ctl.go s1229))) 0 l []).bind fun (o1122:Ctl _ ((List (List Int))))=>match o1122 with
  | .ret r=>some r
  | .go _=>none
  | .brk s1133=>
  some (s1133))
theorem X34 {l:List (List Int)}(hl:l.length≤100000)(hp:∀ p∈l,p.length≤1000):X5p l=some (Q6w [] l):=by
 unfold X5p
 rw [X5q hl hp]
 ·rfl
 ·intro k p s h1 h2
  try dsimp only
  rw [W45 s p]
  ·simp only [U0]
   unfold Z7z
   by_cases h:p∈s
   ·simp only [h,decide_true,Bool.not_true,U2,if_false,if_true,U0]
   ·simp only [h,decide_false,Bool.not_false,if_true,if_false]
    rw [X4 (by simp only [U4,Q5];omega)]
    simp only [U0]
    rw [X4 (by simp only [U3,U4,Q5];omega)]
    rfl
  ·intro k x b
   try dsimp only
   rw [X5z]
   cases b<;>simp
theorem W04 {w:List Q4}(hww:w∈Q0s){t:Q6}(ht:t∈tys w)(l:List Q3)(v:Q1) :
  (∃ (n:Nat) (r:Int×List W9×List (List Int)),Q6g w t l=(Q4b 0 0 l,true)∧Q93 w t v=true∧runK (Q4b 0 0 l) l v n 0=some r∧Q2e NN w t l v=some (Q6w [] r.2.2)∧Q2a NN w t l v=some (Q6w [] r.2.2)∧r.2.2.length≤50000∧Q4q NN w t l v=some (r.1,r.2.1,(r.2.2.length:Int)))∨
  (¬(Q6g w t l=(Q4b 0 0 l,true)∧Q93 w t v=true)∧Q2e NN w t l v=some []∧Q2a NN w t l v=some []∧Q4q NN w t l v=some (-1,[],-1)):=by
 have hw:=ww hww
 unfold Q2e Q2a Q4q
 rw [Z79 hww ht,Z6x hww ht]
 simp only [U0]
 by_cases hs:Q6g w t l=(Q4b 0 0 l,true)
 case neg=>
  rw [Z4m hs]
  exact .inr ⟨fun h=>hs (by rw [Z4m hs];exact h.1),by simp,by simp,by simp⟩
 rw [hs]
 simp only [Bool.not_true,U2,if_false]
 rw [Z77 hw ht,X5l hw ht]
 simp only [U0]
 by_cases hv:Q93 w t v=true
 case neg=>
  have hv':Q93 w t v=false:=by simpa using hv
  rw [hv']
  exact .inr ⟨fun h=>by simp at h,by simp,by simp,by simp⟩
 have hg:=Z3o hv
 obtain ⟨k,ps,hk,h1,h2,h3,hcl⟩:=W21 hww ht hs hg
 have hdv:=Z0f hw 10 t v ht hg
 have hpl:=Z0x h1
 simp only at hpl
 have hpp:∀ p∈ps,p.length≤1000:=Z60 hdv h1
 simp only [hv,Bool.not_true,U2,if_false]
 rw [X3p hdv h3 (by omega) h1 (by omega),Z8q hdv h3 (by omega) h1 (by omega),Z9o hdv h3 (by omega) (told:=fun a0=>Q67 a0) (fun _=>rfl) h1 (by omega)]
 simp only [U0]
 refine .inl ⟨k,_,trivial,trivial,h1,rfl,?_,by simp only;omega,rfl⟩
 exact X34 (by omega) hpp
theorem X1b (code:List Int)(hb:∀ x∈code,0≤x∧x≤255):Q2d NN code=some true:=by
 suffices hr:Ret (Q2d NN code) (fun r=>r=true) by
  obtain ⟨_,e,rfl⟩:=hr
  exact e
 unfold Q2d Q38
 refine Ret.ite (fun _=>.some rfl) (fun _=>?_)
 obtain ⟨⟨w,t,l,v⟩,e,hww,ht⟩:=X9z code hb
 rw [e]
 simp only [U0] at hww ht ⊢
 have hw:=ww hww
 obtain ⟨tr,ok,e1,e2,g1,g2,g3⟩:=(Z0m hww ht l 0).eq
 have hrun:∃ a bs,Q6m NN w t l 0 v=some (a,bs,if ok=true∧Q93 w t v=true then (Z5i tr l v:Int) else -1):=by
  unfold Q6m
  rw [e1]
  simp only [U0]
  cases ok with
  | false=>exact ⟨_,_,by simp;exact ⟨rfl,rfl⟩⟩
  | true=>
   simp only [Bool.not_true,U2,if_false]
   rw [Z77 hw ht]
   simp only [U0]
   cases hv:Q93 w t v with
   | false=>exact ⟨_,_,by simp;exact ⟨rfl,rfl⟩⟩
   | true=>
    obtain ⟨a,bs,q1,_⟩:=X4h hww ht e1 g2 (Z3o hv)
    simp only [Bool.not_true,U2,if_false]
    rw [q1]
    exact ⟨a,bs,by simp⟩
 obtain ⟨a,bs,hrun⟩:=hrun
 rcases W04 hww ht l v with ⟨n,r,hs,hv,h1,h2,h3,h4,h5⟩ | ⟨hno,h2,h3,h5⟩
 ·rw [h2,h3]
  simp only [U0]
  have z:ieq (lenZ (Q6w [] r.2.2).length) (lenZ (Q6w [] r.2.2).length)=true:=by rw [Z8]
  simp only [z,Bool.not_true,U2,if_false]
  refine Ret.ctl (Z4 (Q6w [] r.2.2) (fun _ _=>True) (fun _=>False) (fun _=>True) trivial (fun k p s hk _=>?_) (fun _ _=>trivial)) (fun r hr=>hr.elim) (fun s _=>?_)
  ·have htk:Q7q (Q6w [] r.2.2) (k:Int)=some ((Q6w [] r.2.2).take k):=by
    unfold Q7q
    have:=(List.getElem?_eq_some_iff.1 hk).1
    rw [if_pos ⟨by omega,by omega⟩]
    simp
   rw [Q16 hk]
   simp only [U0]
   rw [X2b,htk]
   simp only [U0,decide_true,Bool.not_true,U2,if_false]
   rw [W2u,decide_eq_false (W6s (Z98 _ _ List.nodup_nil) hk)]
   exact .some trivial
  ·dsimp only
   rw [hrun,h5]
   simp only [U0]
   have hol:=Z52 r.2.2 []
   rw [U4] at hol
   have hle:ile (if ok=true∧Q93 w t v=true then (Z5i tr l v:Int) else -1) (lenZ (Q6w [] r.2.2).length)=true:=by
    rw [Q03,Y0]
    split
    ·rename_i hok
     have hok1:=hok.1
     subst hok1
     have hg:=Z3o hv
     obtain ⟨k,hk⟩:=Z1x hww ht e1 hg
     have:=(X2m hww ht e1 hg hk h1).1
     have hc:Z5i tr l v=k:=by unfold Z5i;rw [hk]
     omega
    ·omega
   have hm:ilt (r.2.2.length:Int) 0=false:=by rw [V2];omega
   simp only [hle,hm,if_true,U2,if_false]
   refine .some ?_
   rw [Q03,Y0]
   omega
 ·rw [h2,h3]
  simp only [U0]
  have z:ieq (lenZ ([]:List (List Int)).length) (lenZ ([]:List (List Int)).length)=true:=rfl
  simp only [z,Bool.not_true,U2,if_false]
  refine Ret.ctl (Z4 ([]:List (List Int)) (fun _ _=>True) (fun _=>False) (fun _=>True) trivial (fun k p s hk _=>by simp at hk) (fun _ _=>trivial)) (fun r hr=>hr.elim) (fun s _=>?_)
  dsimp only
  rw [hrun,h5]
  simp only [U0]
  have hc:¬(ok=true∧Q93 w t v=true):=fun h=>hno ⟨by
   have h1:=h.1
   subst h1
   have hcan:=Q9z hww ht e1
   simp only [canC,Bool.and_eq_true] at hcan
   unfold Q6g
   rw [if_pos ⟨hcan.1.1,hcan.2⟩],h.2⟩
  rw [if_neg hc]
  exact .some rfl
end Go.Proofs.YtgjpamkllimhdaaGreat
