import Derived.Test.YtenmmbjgnlflnaaGreatJP0
import Derived.Test.YtenmmbjgnlflnaaGreatJZ0
set_option linter.unusedSimpArgs false
set_option linter.unusedVariables false
namespace Go.Proofs.YtenmmbjgnlflnaaGreat
open Go Go.RowKit
def mkRn (w:List Q2)(F:List GFun)(s:Rn):Y2:=Y2.mk w F s.fuel s.count 0 s.code F
def mkSp (w:List Q2)(F:List GFun)(s:Rn):Y1:=Y1.mk w F [] s.fuel s.count 0 s.code
def Rg (s:Rn):Prop:=0≤s.fuel∧0≤s.count∧s.count+s.fuel≤1000
theorem Rg.acc {s r:Rn}(h:Rg s)(k:Acc s r):Rg r:=⟨k.2.2.1,by have:=h.2.1;have:=k.1;have:=k.2.1;omega,by have:=h.2.2;have:=k.1;omega⟩
def BOk (vars:List Q1)(l:List Z3):Prop:=(l.map (·.var)).Nodup∧∀ x v,vars.find? (fun v=>decide (v.var=x))=some v→∃ b∈l,b.var=x
theorem W0w {w:List Q2}{t:Q3}{p:Q5}(hp:Q5w w t p=true){v:Q0}{l:List Z3}(hm:W4 10 p v=some l):BOk (Q1a w 10 t p) (Q6h l):=by
 obtain ⟨g,_,ln⟩:=Q24 hp
 have hb:=Q4o g ln hm
 refine ⟨((Q42 hb.rg).map _).nodup_iff.2 hb.nd,fun x u hu=>?_⟩
 have hx:=List.find?_some hu
 simp only [decide_eq_true_eq] at hx
 obtain ⟨b,h1,h2⟩:=U9.1 ((Z2a 10 t p g ln v l hm).mem_iff.2 (List.mem_map_of_mem (List.mem_of_find?_eq_some hu)))
 exact ⟨b,(Q42 hb.rg).mem_iff.2 h1,by omega⟩
theorem X0a {w:List Q2}{T:List Q8}{vars:List Q1}{t:Q3}(hT:WT w t){e:Z4}(h:Q29 w T vars t e=true):(J2 w T t e).length≤3:=by
 unfold J2
 split
 ·exact hT.al _ (W2v h ‹_›).2
 split
 ·simp
 split<;>simp
theorem X54 {ev:Q3→Z4→Rn→Q0×Rn}{ts:List Q3}{es:List Z4}{k:Nat}{t:Q3}{e:Z4}(ht:ts[k]?=some t)(he:es[k]?=some e)(s:Rn) :
  evK ev (ts.drop k) (es.drop k) s=if (ev t e s).2.code=0 then ((ev t e s).1::(evK ev (ts.drop (k+1)) (es.drop (k+1)) (ev t e s).2).1,(evK ev (ts.drop (k+1)) (es.drop (k+1)) (ev t e s).2).2) else ([],(ev t e s).2):=by
 rw [Q9v ht,Q9v he,evK]
def W6c (w:List Q2)(F:List GFun)(k:Nat):Prop:=∀ (n:Nat) (f:Int) (g:GFun) (v:Q0) (s:Rn),1000+30 * k≤n→0≤f→F[f.toNat]?=some g→Q14 w g.typ.arg v=true→s.code=0→Rg s→
  W9 n (mkRn w F s) f v (50-(k:Int))=some ((evC w F k f v s).1,mkRn w F (evC w F k f v s).2)
theorem X2k {w:List Q2}(hw:WW w)(hf:Fit w){F:List GFun}(hF:Z20 w F){k:Nat}(hk:k≤50)(hcl:W6c w F k){vars:List Q1}{l:List Z3}(hl:X1a w vars l)(hb:BOk vars l)(hll:l.length≤1000) :
  ∀ (d n:Nat) (t:Q3) (e:Z4) (s:Rn),1000+30 * k+d≤n→t∈tys w→Q51 w (F.map (·.typ)) vars d t e=true→s.code=0→Rg s→
  Y4 n (mkRn w F s) t e l (50-(k:Int))=some ((evE w (F.map (·.typ)) (evC w F k) l d t e s).1,mkRn w F (evE w (F.map (·.typ)) (evC w F k) l d t e s).2):=by
 intro d
 induction d with
 | zero=>intro n t e s _ _ h;cases h
 | succ d ih=>
  intro n t e s hn ht h hs hr
  obtain ⟨n,rfl⟩:∃ m,n=m+1:=⟨n-1,by omega⟩
  obtain ⟨hnd,hlen⟩:=Z2d h
  have hT:=hw.ty t ht
  have hkt:=Q9k hw (Z8i hF) ht hnd
  have hkl:=X0a hT hnd
  suffices hsu:Ret (Y4 (n+1) (mkRn w F s) t e l (50-(k:Int))) (fun r=>r=((evE w (F.map (·.typ)) (evC w F k) l (d+1) t e s).1,mkRn w F (evE w (F.map (·.typ)) (evC w F k) l (d+1) t e s).2)) by
   obtain ⟨a,e,rfl⟩:=hsu
   exact e
  unfold Y4
  rw [evE]
  by_cases h1:e.op=1
  ·rw [if_pos (by rw [Q7];exact h1),if_pos h1]
   exact .some rfl
  rw [if_neg (by rw [Q7];exact h1),if_neg h1]
  by_cases h2:e.op=2
  ·rw [if_pos (by rw [Q7];exact h2),if_pos h2]
   obtain ⟨u,hu,_⟩:=V2g hnd h2
   obtain ⟨b,hbm,hbv⟩:=hb.2 _ u hu
   obtain ⟨i,hi,hh⟩:=Q5o l (fun a0=>Q0b a0 e) (fun b=>decide (b.var=e.n)) (fun b _=>by unfold Q0b;rw [ieqD])
   rw [show Q0i l (fun a0=>Q0b a0 e)=some i from hi]
   simp only [U0]
   rcases hh with ⟨j,c,rfl,g1,g2⟩ | ⟨_,g2⟩
   ·rw [Q1m g1]
    simp only [U0]
    have hfd:=Z8n hb.1 (U1 g1) (by simpa using g2)
    refine .some ?_
    unfold Z6x
    rw [hfd]
    rfl
   ·have:=g2 b hbm
    simp [hbv] at this
  rw [if_neg (by rw [Q7];exact h2),if_neg h2]
  refine Ret.ctl (R:=fun _=>False) (B:=fun ts=>ts=J2 w (F.map (·.typ)) t e) ?_ (fun r hr=>hr.elim) (fun ts hts=>?_)
  ·rcases Z42 hnd with ho | ho | ho | ho | ho
   ·exact absurd ho h1
   ·exact absurd ho h2
   ·rw [if_pos (by rw [Q7];exact ho)]
    show Ret ((Q0k w t e.ctor).bind _) _
    rw [hT.a2 _ (W2v hnd ho).2]
    exact .some (by simp [J2,ho])
   ·rw [if_neg (by rw [Q7];omega),if_pos (by rw [Q7];exact ho)]
    exact .some (by simp [J2,ho])
   ·rw [if_neg (by rw [Q7];omega),if_neg (by rw [Q7];omega)]
    obtain ⟨n0,n1,f,hfn,_⟩:=X8x hnd ho
    obtain ⟨g,hg,rfl,_⟩:=Z8h hF hfn
    show Ret ((idx F e.n).bind _) _
    rw [Q59 n0 hg]
    refine .some ?_
    show [g.typ.arg]=_
    simp only [J2,show ¬e.op=3 by omega,show ¬e.op=4 by omega,ho,if_true,if_false,hfn]
    rfl
  subst hts
  generalize hqe:evK (evE w (F.map (·.typ)) (evC w F k) l d) (J2 w (F.map (·.typ)) t e) e.kids s=q
  have hacc:=Z2o w (F.map (·.typ)) (Z5u w F k) l d
  refine Ret.ctl (Z9 e.kids (fun i (z:Y2×List Q0)=>∃ si:Rn,z.1=mkRn w F si∧si.code=0∧Rg si∧z.2.length=i∧q=(z.2++(evK (evE w (F.map (·.typ)) (evC w F k) l d) ((J2 w (F.map (·.typ)) t e).drop i) (e.kids.drop i) si).1,(evK (evE w (F.map (·.typ)) (evC w F k) l d) ((J2 w (F.map (·.typ)) t e).drop i) (e.kids.drop i) si).2))
    (fun r:Q0×Y2=>q.2.code≠0∧r=(zV,mkRn w F q.2)) (fun z=>z=(mkRn w F q.2,q.1)∧q.2.code=0∧Rg q.2) ⟨s,rfl,hs,hr,rfl,by rw [←hqe];simp⟩ (fun i x z hx hI=>?_) (fun z hI=>?_)) (fun r hr=>.some ?_) (fun z hz=>?_)
  ·obtain ⟨si,e1,e2,e3,e4,e5⟩:=hI
   have hi:=(List.getElem?_eq_some_iff.1 hx).1
   have ha:(J2 w (F.map (·.typ)) t e)[i]?=some ((J2 w (F.map (·.typ)) t e)[i]'(by omega)):=by simp
   rw [Q1m ha]
   simp only [U0]
   rw [e1,ih n _ x si (by omega) (hkt _ (U1 ha)) (Q9o h ha hx) e2 e3]
   simp only [U0]
   have hac:=hacc ((J2 w (F.map (·.typ)) t e)[i]'(by omega)) x si e3.1 e2
   rw [X54 ha hx] at e5
   generalize evE w (F.map (·.typ)) (evC w F k) l d ((J2 w (F.map (·.typ)) t e)[i]'(by omega)) x si=y at *
   by_cases hc:y.2.code=0
   ·rw [if_neg (by rw [Bool.not_eq_true',Q9];exact fun h=>h hc),Q33 (by simp only [Z0,U3,U4];omega)]
    rw [if_pos hc] at e5
    exact .some ⟨y.2,rfl,hc,e3.acc hac,by simp [e4],by rw [e5];simp⟩
   ·rw [if_pos (by rw [Bool.not_eq_true',Q9];exact hc)]
    rw [if_neg hc] at e5
    refine .some ⟨by rw [e5];exact hc,by rw [e5];rfl⟩
  ·obtain ⟨si,e1,e2,e3,e4,e5⟩:=hI
   have d1:(J2 w (F.map (·.typ)) t e).drop e.kids.length=[]:=List.drop_eq_nil_of_le (by omega)
   rw [d1,List.drop_length] at e5
   simp only [evK,List.append_nil] at e5
   rw [e5]
   exact ⟨by rw [←e1],e2,e3⟩
  ·obtain ⟨h3,rfl⟩:=hr
   rw [Z2n h3]
  ·obtain ⟨rfl,hq0,hqr⟩:=hz
   dsimp only
   have hqv:=Z1s (w:=w) (ev:=evE w (F.map (·.typ)) (evC w F k) l d) (J2 w (F.map (·.typ)) t e) e.kids s hlen hs (fun j a x s' ha hx hs'=>Z5r hw hf hF (Z5t hw hf hF k) hl d a x s' (hkt a (U1 ha)) (Q9o h ha hx) hs')
   rw [hqe] at hqv
   have hqv:=hqv hq0
   rcases Z42 hnd with ho | ho | ho | ho | ho
   ·exact absurd ho h1
   ·exact absurd ho h2
   ·rw [if_neg (by rw [Q7];omega),if_pos (by rw [Q7];exact ho),X51 hq0 ho]
    show Ret ((Q12 n w t (Q0.mk e.ctor 0 q.1)).bind _) _
    rw [Z0n (by omega) hw ht]
    simp only [U0]
    cases hv:Q14 w t (Q0.mk e.ctor 0 q.1) with
    | false=>exact .some rfl
    | true=>exact .some rfl
   ·rw [if_pos (by rw [Q7];exact ho),X50 hq0 ho]
    have hk4:J2 w (F.map (·.typ)) t e=[t,t]:=by simp [J2,ho]
    rw [hk4] at hqv
    match hq1:q.1,hqv with
    | [a,b],hqv=>
     have ha:=Z13 (W2u hnd ho) hqv.1
     have hb:=Z13 (W2u hnd ho) hqv.2.1
     show Ret ((idx [a,b] 0).bind _) _
     rw [show (0:Int)=((0:Nat):Int) from rfl,Q1m (xs:=[a,b]) (i:=0) rfl]
     simp only [U0]
     rw [show (1:Int)=((1:Nat):Int) from rfl,Q1m (xs:=[a,b]) (i:=1) rfl]
     simp only [U0]
     rw [Q0f (by omega) (by omega)]
     refine .some ?_
     have:wrem (a.n+b.n) 10=(a.n+b.n) % 10:=by
      unfold wrem
      rw [Int.tmod_eq_emod_of_nonneg (by omega)]
     rw [this]
     rfl
   ·rw [if_neg (by rw [Q7];omega),if_neg (by rw [Q7];omega),X0s hq0 (by omega) (by omega)]
    obtain ⟨n0,n1,f,hfn,_⟩:=X8x hnd ho
    obtain ⟨g,hg,rfl,_⟩:=Z8h hF hfn
    have hk5:J2 w (F.map (·.typ)) t e=[g.typ.arg]:=by
     simp only [J2,show ¬e.op=3 by omega,show ¬e.op=4 by omega,ho,if_true,if_false,hfn]
     rfl
    rw [hk5] at hqv
    match hq1:q.1,hqv with
    | [v],hqv=>
     show Ret ((idx [v] 0).bind _) _
     rw [show (0:Int)=((0:Nat):Int) from rfl,Q1m (xs:=[v]) (i:=0) rfl]
     simp only [U0]
     rw [hcl n e.n g v q.2 (by omega) n0 hg hqv.1 hq0 hqr]
     exact .some rfl
theorem Z58 {w:List Q2}(hw:WW w)(hf:Fit w){F:List GFun}(hF:Z20 w F):∀ k:Nat,k≤50→W6c w F k:=by
 intro k
 induction k with
 | zero=>
  intro _ n f g v s hn h0 hg hv hs hr
  obtain ⟨n,rfl⟩:∃ m,n=m+1:=⟨n-1,by omega⟩
  unfold W9
  by_cases h1:s.fuel=0
  ·rw [if_pos (by rw [Q7];exact h1)]
   simp [Y9,evC,h1,mkRn,zV]
  ·rw [if_neg (by rw [Q7];exact h1),if_pos (by rw [Q7];omega)]
   simp [Y9,evC,h1,mkRn,zV]
 | succ k ih=>
  intro hk50 n f g v s hn h0 hg hv hs hr
  obtain ⟨n,rfl⟩:∃ m,n=m+1:=⟨n-1,by omega⟩
  have gok:=hF.2 g (U1 hg)
  unfold W9
  by_cases h1:s.fuel=0
  ·rw [if_pos (by rw [Q7];exact h1)]
   simp [Y9,evC,h1,mkRn,zV]
  ·rw [if_neg (by rw [Q7];exact h1),if_neg (by rw [Q7];omega)]
   simp only [evC,if_neg h1]
   rw [hg]
   simp only
   have hch:Q0y n f v (mkRn w F s).choose=some ((runR (runD v 0 g.clauses)).1,(runR (runD v 0 g.clauses)).2,0):=by
    show Q0y n f v F=_
    unfold Q0y
    rw [Q59 h0 hg]
    simp only [U0]
    rw [X98 (by omega) hw gok.arg (Q63 gok.cls).2 (Q5h hv) (by omega)]
    rfl
   rw [hch]
   simp only [U0]
   have w1:wsub .i64 (mkRn w F s).fuel 1=s.fuel-1:=by show wsub .i64 s.fuel 1=_;have:=hr.1;have:=hr.2.1;have:=hr.2.2;rw [Q3q]<;>omega
   have w2:wadd .i64 (mkRn w F s).count 1=s.count+1:=by show wadd .i64 s.count 1=_;have:=hr.1;have:=hr.2.1;have:=hr.2.2;rw [Q0f]<;>omega
   have w3:wadd .i64 (mkRn w F s).tests 0=0:=rfl
   rw [w1,w2,w3]
   cases hrd:runD v 0 g.clauses with
   | none=>
    rw [if_pos (by rw [W0];show (-1:Int)<0;omega)]
    rfl
   | some x=>
    rw [if_neg (by rw [W0];show ¬((x.1:Nat):Int)<0;omega)]
    show ((idx F f).bind _)=_
    rw [Q59 h0 hg]
    simp only [U0]
    obtain ⟨c,e,b,e1,e2,e3,e4,e5,e6,e7⟩:=X3p hw gok hv hrd
    show ((idx g.bodies ((x.1:Nat):Int)).bind _)=_
    rw [Q1m e2]
    simp only [U0]
    have w4:wadd .i64 (50-((k+1:Nat):Int)) 1=50-(k:Int):=by rw [Q0f]<;>omega
    rw [w4]
    have hbo:=W0w e5 e3
    rw [←e4] at hbo
    have hbl:x.2.length≤1000:=by
     rw [e4,(Q42 (Q4o (Q24 e5).1 (Q24 e5).2.2 e3).rg).length_eq]
     have:=(Q4o (Q24 e5).1 (Q24 e5).2.2 e3).ln
     omega
    have hr1:Rg ⟨s.fuel-1,s.count+1,s.code⟩:=⟨by have:=hr.1;simp only;omega,by have:=hr.2.1;simp only;omega,by have:=hr.2.2;simp only;omega⟩
    have:=X2k hw hf hF (by omega) (ih (by omega)) e7 hbo hbl 10 n g.typ.res e ⟨s.fuel-1,s.count+1,s.code⟩ (by omega) gok.res (Z0j e6) hs hr1
    rw [List.getD_eq_getElem?_getD,e2]
    show ((Y4 n (mkRn w F ⟨s.fuel-1,s.count+1,s.code⟩) g.typ.res e x.2 (50-(k:Int))).bind _)=_
    rw [this]
    rfl
theorem X1w (l:List Z3)(x:Int):Q3i l x=some (Z6x l x):=by
 suffices hs:Ret (Q3i l x) (fun r=>r=Z6x l x) by
  obtain ⟨a,e,rfl⟩:=hs
  exact e
 unfold Q3i
 refine Ret.ctl (Z9 l (fun k _=>l.find? (fun b=>decide (b.var=x))=(l.drop k).find? (fun b=>decide (b.var=x))) (fun r=>r=Z6x l x) (fun _=>Z6x l x=zV) rfl (fun k b s hb hI=>?_) (fun s hI=>?_)) (fun r hr=>.some hr) (fun s hs=>.some hs.symm)
 ·rw [Q9v hb,List.find?_cons] at hI
  refine Ret.ite (fun h=>.some ?_) (fun h=>.some ?_)
  ·rw [Q7] at h
   unfold Z6x
   rw [hI,decide_eq_true h]
   rfl
  ·rw [Q9] at h
   rw [decide_eq_false h] at hI
   exact hI
 ·rw [List.drop_length] at hI
  unfold Z6x
  rw [hI]
  rfl
def W6b (w:List Q2)(F:List GFun)(k:Nat):Prop:=∀ (n:Nat) (f:Int) (g:GFun) (v:Q0) (s:Rn),1000+40 * k≤n→0≤f→F[f.toNat]?=some g→Q14 w g.typ.arg v=true→s.code=0→Rg s→
  Q05 n (mkSp w F s) f v (k:Int)=some (mkSp w F (evC w F k f v s).2,(evC w F k f v s).1)
theorem X1t {w:List Q2}{F:List GFun}{n:Nat}{l:List Z3}{k:Nat}{ev:Q3→Z4→Rn→Q0×Rn}(hacc:∀ t e (s:Rn),0≤s.fuel→s.code=0→Acc s (ev t e s).2){ts:List Q3}{es:List Z4}(hlen:es.length=ts.length)(hl3:ts.length≤3){s:Rn}(hs:s.code=0)(hr:Rg s)
  (hev:∀ (j:Nat) (t:Q3) (e:Z4) (s:Rn),ts[j]?=some t→es[j]?=some e→s.code=0→Rg s→Q0e n (mkSp w F s) t e l (k:Int)=some (mkSp w F (ev t e s).2,(ev t e s).1)) :
  Ret (Q1j (n+1) (mkSp w F s) ts es l (k:Int)) (fun r=>r.1=mkSp w F (evK ev ts es s).2∧Rg (evK ev ts es s).2∧((evK ev ts es s).2.code=0→r.2=(evK ev ts es s).1)):=by
 generalize hqe:evK ev ts es s=q
 unfold Q1j
 refine Ret.ctl (Z9 es (fun i (z:Y1×List Q0)=>(∃ si:Rn,z.1=mkSp w F si∧si.code=0∧Rg si∧z.2.length=i∧q=(z.2++(evK ev (ts.drop i) (es.drop i) si).1,(evK ev (ts.drop i) (es.drop i) si).2))∨(z.1=mkSp w F q.2∧q.2.code≠0∧Rg q.2∧z.2.length≤i))
   (fun _=>False) (fun z=>z.1=mkSp w F q.2∧Rg q.2∧(q.2.code=0→z.2=q.1)) (.inl ⟨s,rfl,hs,hr,rfl,by rw [←hqe];simp⟩) (fun i x z hx hI=>?_) (fun z hI=>?_)) (fun r hr=>hr.elim) (fun z hz=>.some hz)
 ·have hi:=(List.getElem?_eq_some_iff.1 hx).1
  rcases hI with ⟨si,e1,e2,e3,e4,e5⟩ | ⟨e1,e2,e3,e4⟩
  ·have ha:ts[i]?=some (ts[i]'(by omega)):=by simp
   have hend:z.1.end_=0:=by rw [e1];exact e2
   rw [if_pos (by rw [Q7];exact hend),Q1m ha]
   simp only [U0]
   rw [e1,hev i _ x si ha hx e2 e3]
   simp only [U0]
   have hac:=hacc (ts[i]'(by omega)) x si e3.1 e2
   rw [X54 ha hx] at e5
   generalize ev (ts[i]'(by omega)) x si=y at *
   rw [Q33 (by simp only [Z0,U3,U4];omega)]
   by_cases hc:y.2.code=0
   ·rw [if_pos hc] at e5
    exact .some (.inl ⟨y.2,rfl,hc,e3.acc hac,by simp [e4],by rw [e5];simp⟩)
   ·rw [if_neg hc] at e5
    exact .some (.inr ⟨by rw [e5],by rw [e5];exact hc,by rw [e5];exact e3.acc hac,by simp [e4]⟩)
  ·rw [if_neg (by rw [Q7,e1];exact e2)]
   exact .some ⟨e1,e3,fun h=>absurd h e2⟩
 ·rcases hI with ⟨si,e1,e2,e3,e4,e5⟩ | ⟨e1,e2,e3,e4⟩
  ·have d1:ts.drop es.length=[]:=List.drop_eq_nil_of_le (by omega)
   rw [d1,List.drop_length] at e5
   simp only [evK,List.append_nil] at e5
   rw [e5]
   exact ⟨e1,e3,fun _=>rfl⟩
  ·exact ⟨e1,e3,fun h=>absurd h e2⟩
theorem X1y {w:List Q2}(hw:WW w)(hf:Fit w){F:List GFun}(hF:Z20 w F){k:Nat}(hk:k≤50)(hcl:W6b w F k){vars:List Q1}{l:List Z3}(hl:X1a w vars l) :
  ∀ (d n:Nat) (t:Q3) (e:Z4) (s:Rn),1000+40 * k+2 * d≤n→t∈tys w→Q51 w (F.map (·.typ)) vars d t e=true→s.code=0→Rg s→
  Q0e n (mkSp w F s) t e l (k:Int)=some (mkSp w F (evE w (F.map (·.typ)) (evC w F k) l d t e s).2,(evE w (F.map (·.typ)) (evC w F k) l d t e s).1):=by
 intro d
 induction d with
 | zero=>intro n t e s _ _ h;cases h
 | succ d ih=>
  intro n t e s hn ht h hs hr
  obtain ⟨n,rfl⟩:∃ m,n=m+2:=⟨n-2,by omega⟩
  obtain ⟨hnd,hlen⟩:=Z2d h
  have hT:=hw.ty t ht
  have hkt:=Q9k hw (Z8i hF) ht hnd
  have hkl:=X0a hT hnd
  suffices hsu:Ret (Q0e (n+2) (mkSp w F s) t e l (k:Int)) (fun r=>r=(mkSp w F (evE w (F.map (·.typ)) (evC w F k) l (d+1) t e s).2,(evE w (F.map (·.typ)) (evC w F k) l (d+1) t e s).1)) by
   obtain ⟨a,e,rfl⟩:=hsu
   exact e
  unfold Q0e
  rw [evE]
  by_cases h1:e.op=1
  ·rw [if_pos (by rw [Q7];exact h1),if_pos h1]
   exact .some rfl
  rw [if_neg (by rw [Q7];exact h1),if_neg h1]
  by_cases h2:e.op=2
  ·rw [if_pos (by rw [Q7];exact h2),if_pos h2,X1w]
   exact .some rfl
  rw [if_neg (by rw [Q7];exact h2),if_neg h2]
  have hacc:=Z2o w (F.map (·.typ)) (Z5u w F k) l d
  have hks:=X1t (w:=w) (F:=F) (n:=n) (l:=l) (k:=k) hacc hlen hkl hs hr (fun j a x s' ha hx hs' hr'=>ih n a x s' (by omega) (hkt a (U1 ha)) (Q9o h ha hx) hs' hr')
  have hqv:=Z1s (w:=w) (ev:=evE w (F.map (·.typ)) (evC w F k) l d) (J2 w (F.map (·.typ)) t e) e.kids s hlen hs (fun j a x s' ha hx hs'=>Z5r hw hf hF (Z5t hw hf hF k) hl d a x s' (hkt a (U1 ha)) (Q9o h ha hx) hs')
  generalize evK (evE w (F.map (·.typ)) (evC w F k) l d) (J2 w (F.map (·.typ)) t e) e.kids s=q at *
  rcases Z42 hnd with ho | ho | ho | ho | ho
  ·exact absurd ho h1
  ·exact absurd ho h2
  ·rw [if_neg (by rw [Q7];omega),if_neg (by rw [Q7];omega)]
   have hk3:J2 w (F.map (·.typ)) t e=Q0z w t e.ctor:=by simp [J2,ho]
   show Ret ((V8 w t e.ctor).bind _) _
   rw [hT.a1 _ (W2v hnd ho).2]
   simp only [U0]
   rw [hk3] at hks
   refine Ret.bind hks (fun r hr2=>?_)
   obtain ⟨r1,r2,r3⟩:=hr2
   have hre:r.1.end_=q.2.code:=by rw [r1];rfl
   by_cases hq0:q.2.code=0
   ·rw [X51 hq0 ho]
    have r3:=r3 hq0
    refine Ret.ctl (R:=fun _=>False) (B:=fun c=>c=if Q14 w t (Q0.mk e.ctor 0 q.1)=true then 0 else 4) ?_ (fun r hr=>hr.elim) (fun c hc=>?_)
    ·rw [if_pos (by rw [Q7,hre];exact hq0)]
     show Ret ((Q4q (n+1) w t (Q0.mk e.ctor 0 r.2)).bind _) _
     rw [Z4g (by omega) hw ht,r3]
     simp only [U0]
     cases Q14 w t (Q0.mk e.ctor 0 q.1) with
     | false=>exact .some rfl
     | true=>exact .some (by rw [hre];exact hq0)
    ·cases hv:Q14 w t (Q0.mk e.ctor 0 q.1) with
     | false=>
      rw [hv] at hc
      have hc:c=4:=hc
      subst hc
      refine .some ?_
      rw [r1]
      rfl
     | true=>
      rw [hv] at hc
      have hc:c=0:=hc
      subst hc
      refine .some ?_
      rw [r1,r3]
      show (Y1.mk w F [] q.2.fuel q.2.count 0 0,Q0.mk e.ctor 0 q.1)=(Y1.mk w F [] q.2.fuel q.2.count 0 q.2.code,Q0.mk e.ctor 0 q.1)
      rw [hq0]
   ·rw [Z2n hq0]
    refine Ret.ctl (R:=fun _=>False) (B:=fun c=>c=q.2.code) ?_ (fun r hr=>hr.elim) (fun c hc=>?_)
    ·rw [if_neg (by rw [Q7,hre];exact hq0)]
     exact .some hre
    ·subst hc
     dsimp only
     rw [if_pos (by rw [Bool.not_eq_true',Q9];exact hq0)]
     refine .some ?_
     rw [r1]
     rfl
  ·rw [if_pos (by rw [Q7];exact ho)]
   have hti:=(hT.ti (W2u hnd ho)).1
   have hk4:J2 w (F.map (·.typ)) t e=[Q3.mk (-1) 0,Q3.mk (-1) 0]:=by simp only [J2,ho,if_true];rw [hti];rfl
   rw [hk4] at hks hqv
   refine Ret.bind hks (fun r hr2=>?_)
   obtain ⟨r1,r2,r3⟩:=hr2
   have hre:r.1.end_=q.2.code:=by rw [r1];rfl
   by_cases hq0:q.2.code=0
   ·rw [X50 hq0 ho,if_neg (by rw [Bool.not_eq_true',Q9,hre];exact fun h=>h hq0)]
    have r3:=r3 hq0
    have hqv:=hqv hq0
    rw [r3]
    match hq1:q.1,hqv with
    | [a,b],hqv=>
     have ha:=Z13 (t:=Q3.mk (-1) 0) rfl hqv.1
     have hb:=Z13 (t:=Q3.mk (-1) 0) rfl hqv.2.1
     rw [show (0:Int)=((0:Nat):Int) from rfl,Q1m (xs:=[a,b]) (i:=0) rfl]
     simp only [U0]
     rw [show (1:Int)=((1:Nat):Int) from rfl,Q1m (xs:=[a,b]) (i:=1) rfl]
     simp only [U0]
     rw [Q0f (by omega) (by omega)]
     refine .some ?_
     have:wrem (a.n+b.n) 10=(a.n+b.n) % 10:=by
      unfold wrem
      rw [Int.tmod_eq_emod_of_nonneg (by omega)]
     rw [this,r1]
     rfl
   ·rw [Z2n hq0,if_pos (by rw [Bool.not_eq_true',Q9,hre];exact hq0)]
    exact .some (by rw [r1];rfl)
  ·rw [if_neg (by rw [Q7];omega),if_pos (by rw [Q7];exact ho)]
   obtain ⟨n0,n1,f,hfn,_⟩:=X8x hnd ho
   obtain ⟨g,hg,rfl,_⟩:=Z8h hF hfn
   have hk5:J2 w (F.map (·.typ)) t e=[g.typ.arg]:=by
    simp only [J2,show ¬e.op=3 by omega,show ¬e.op=4 by omega,ho,if_true,if_false,hfn]
    rfl
   rw [hk5] at hks hqv
   show Ret ((idx F e.n).bind _) _
   rw [Q59 n0 hg]
   simp only [U0]
   refine Ret.bind hks (fun r hr2=>?_)
   obtain ⟨r1,r2,r3⟩:=hr2
   have hre:r.1.end_=q.2.code:=by rw [r1];rfl
   by_cases hq0:q.2.code=0
   ·rw [X0s hq0 (by omega) (by omega),if_neg (by rw [Bool.not_eq_true',Q9,hre];exact fun h=>h hq0)]
    have r3:=r3 hq0
    have hqv:=hqv hq0
    rw [r3]
    match hq1:q.1,hqv with
    | [v],hqv=>
     rw [show (0:Int)=((0:Nat):Int) from rfl,Q1m (xs:=[v]) (i:=0) rfl]
     simp only [U0]
     rw [r1,hcl (n+1) e.n g v q.2 (by omega) n0 hg hqv.1 hq0 r2]
     exact .some rfl
   ·rw [Z2n hq0,if_pos (by rw [Bool.not_eq_true',Q9,hre];exact hq0)]
    exact .some (by rw [r1];rfl)
theorem Z4i {w:List Q2}(hw:WW w)(hf:Fit w){F:List GFun}(hF:Z20 w F):∀ k:Nat,k≤50→W6b w F k:=by
 intro k
 induction k with
 | zero=>
  intro _ n f g v s hn h0 hg hv hs hr
  obtain ⟨n,rfl⟩:∃ m,n=m+1:=⟨n-1,by omega⟩
  unfold Q05
  by_cases h1:s.fuel=0
  ·rw [if_pos (by rw [Q7];exact h1)]
   simp [evC,h1,mkSp,zV]
  ·rw [if_neg (by rw [Q7];exact h1),if_pos (by rw [Q7];rfl)]
   simp [evC,h1,mkSp,zV]
 | succ k ih=>
  intro hk50 n f g v s hn h0 hg hv hs hr
  obtain ⟨n,rfl⟩:∃ m,n=m+1:=⟨n-1,by omega⟩
  have gok:=hF.2 g (U1 hg)
  unfold Q05
  by_cases h1:s.fuel=0
  ·rw [if_pos (by rw [Q7];exact h1)]
   simp [evC,h1,mkSp,zV]
  ·rw [if_neg (by rw [Q7];exact h1),if_neg (by rw [Q7];omega)]
   simp only [evC,if_neg h1]
   rw [hg]
   simp only
   have w1:wsub .i64 (mkSp w F s).fuel 1=s.fuel-1:=by show wsub .i64 s.fuel 1=_;have:=hr.1;have:=hr.2.1;have:=hr.2.2;rw [Q3q]<;>omega
   have w2:wadd .i64 (mkSp w F s).calls 1=s.count+1:=by show wadd .i64 s.count 1=_;have:=hr.1;have:=hr.2.1;have:=hr.2.2;rw [Q0f]<;>omega
   rw [w1,w2]
   have hch:Q25 n (mkSp w F ⟨s.fuel-1,s.count+1,s.code⟩) f v=some (mkSp w F ⟨s.fuel-1,s.count+1,s.code⟩,(runR (runD v 0 g.clauses)).1,(runR (runD v 0 g.clauses)).2):=by
    unfold Q25
    rw [if_neg (by rw [W0];show ¬(0:Int)<0;omega)]
    show ((idx F f).bind _)=_
    rw [Q59 h0 hg]
    simp only [U0]
    rw [X86 (by omega) hw gok.arg (Q63 gok.cls).2 (Q5h hv) (by omega)]
    rfl
   show ((Q25 n (mkSp w F ⟨s.fuel-1,s.count+1,s.code⟩) f v).bind _)=_
   rw [hch]
   simp only [U0]
   cases hrd:runD v 0 g.clauses with
   | none=>
    rw [if_pos (by rw [W0];show (-1:Int)<0;omega)]
    rfl
   | some x=>
    rw [if_neg (by rw [W0];show ¬((x.1:Nat):Int)<0;omega)]
    show ((idx F f).bind _)=_
    rw [Q59 h0 hg]
    simp only [U0]
    obtain ⟨c,e,b,e1,e2,e3,e4,e5,e6,e7⟩:=X3p hw gok hv hrd
    show ((idx g.bodies ((x.1:Nat):Int)).bind _)=_
    rw [Q1m e2]
    simp only [U0]
    have w4:wsub .i64 ((k+1:Nat):Int) 1=(k:Int):=by rw [Q3q]<;>omega
    rw [w4]
    have hr1:Rg ⟨s.fuel-1,s.count+1,s.code⟩:=⟨by have:=hr.1;simp only;omega,by have:=hr.2.1;simp only;omega,by have:=hr.2.2;simp only;omega⟩
    have:=X1y hw hf hF (by omega) (ih (by omega)) e7 10 n g.typ.res e ⟨s.fuel-1,s.count+1,s.code⟩ (by omega) gok.res (Z0j e6) hs hr1
    rw [List.getD_eq_getElem?_getD,e2]
    show ((Q0e n (mkSp w F ⟨s.fuel-1,s.count+1,s.code⟩) g.typ.res e x.2 (k:Int)).bind _)=_
    rw [this]
    rfl
def byt (r:X3)(i:Nat):Nat:=(r.b.getD i 0).toNat
def pk24 (r:X3)(p:Nat):Nat:=if r.b.length=0 then 0 else Zed.pkv (byt r) r.b.length p
theorem W6g {a:Nat}(h:a<1099511627776):wxor .i64 (a:Int) ((a / 64:Nat):Int)=((a ^^^ (a / 64):Nat):Int):=by
 have e:(BitVec.ofInt IntKind.i64.bits (a:Int) ^^^ BitVec.ofInt IntKind.i64.bits ((a / 64:Nat):Int)).toNat=a ^^^ (a / 64):=by
  have ha:(BitVec.ofInt IntKind.i64.bits (a:Int)).toNat=a:=by
   rw [BitVec.toNat_ofInt]
   show (((a:Int) % ((2 ^ 64:Nat):Int))).toNat=a
   omega
  have hb:(BitVec.ofInt IntKind.i64.bits ((a / 64:Nat):Int)).toNat=a / 64:=by
   rw [BitVec.toNat_ofInt]
   show ((((a / 64:Nat):Int) % ((2 ^ 64:Nat):Int))).toNat=a / 64
   omega
  rw [BitVec.toNat_xor,ha,hb]
 have hlt:a ^^^ (a / 64)<2 ^ 40:=Nat.xor_lt_two_pow (by omega) (by omega)
 unfold wxor
 rw [e,Z31 (by omega) (by omega)]
theorem X03 {r:X3}(hb:∀ x∈r.b,0≤x∧x≤255)(hl:r.b.length≤2000){p:Nat}(hp:r.p=(p:Int))(hp2:p≤30000000):Z1 r 24=some (((pk24 r p:Nat):Int),⟨r.b,((p+1:Nat):Int)⟩):=by
 have ep:wadd .i64 r.p 1=((p+1:Nat):Int):=by rw [hp,Q0f]<;>omega
 have eq:wsub .i64 ((p+1:Nat):Int) 1=(p:Int):=by rw [Q3q]<;>omega
 unfold Z1
 rw [ep,eq,if_neg (by rw [W0];omega)]
 unfold pk24
 by_cases h0:r.b.length=0
 ·rw [if_pos (by rw [Q7];simp only [lenZ];omega),if_pos h0]
  rfl
 rw [if_neg (by rw [Q7];simp only [lenZ];omega),if_neg h0]
 have hpos:0<r.b.length:=by omega
 have hk0:chk (!ieq 24 0)=some ():=rfl
 have hb0:chk (!ieq (lenZ r.b.length) 0)=some ():=Z61 (by rw [Bool.not_eq_true',Q9];simp only [lenZ];omega)
 have get:∀ i:Nat,i<r.b.length→idx r.b (i:Int)=some ((byt r i:Nat):Int)∧byt r i≤255:=fun i hi=>by
  have h1:r.b[i]?=some r.b[i]:=U8 hi
  obtain ⟨b1,b2⟩:=hb _ (U1 h1)
  have h2:byt r i=r.b[i].toNat:=by unfold byt;rw [List.getD_eq_getElem?_getD,h1];rfl
  rw [Q1m h1,h2]
  exact ⟨by congr 1;omega,by omega⟩
 unfold Zed.pkv
 by_cases hlt:p<r.b.length
 ·rw [if_pos (by rw [W0];simp only [lenZ];omega),if_pos hlt]
  obtain ⟨g1,g2⟩:=get p hlt
  rw [g1,hk0]
  simp only [U0]
  rw [Z70 (by omega) (by omega)]
  congr 2
 ·rw [if_neg (by rw [W0];simp only [lenZ];omega),if_neg hlt,hb0]
  simp only [U0]
  have e7:wmul .i64 (p:Int) 7=((p * 7:Nat):Int):=by rw [Q7t]<;>omega
  have e73:wadd .i64 ((p * 7:Nat):Int) 3=((p * 7+3:Nat):Int):=by rw [Q0f]<;>omega
  rw [e7,e73]
  have rm:∀ a:Nat,wrem (a:Int) (lenZ r.b.length)=((a % r.b.length:Nat):Int):=fun a=>by
   unfold wrem lenZ
   rw [Int.tmod_eq_emod_of_nonneg (by omega)]
   rfl
  rw [rm,rm]
  obtain ⟨g1,g2⟩:=get (p % r.b.length) (Nat.mod_lt _ hpos)
  obtain ⟨g3,g4⟩:=get ((p * 7+3) % r.b.length) (Nat.mod_lt _ hpos)
  rw [g1,g3,hk0]
  simp only [U0]
  generalize byt r (p % r.b.length)=x at g2 ⊢
  generalize byt r ((p * 7+3) % r.b.length)=y at g4 ⊢
  have f1:wcv .i64 (x:Int)=(x:Int):=Z70 (by omega) (by omega)
  have f2:wcv .i64 (y:Int)=(y:Int):=Z70 (by omega) (by omega)
  have f3:wmul .i64 (x:Int) 131=((x * 131:Nat):Int):=by rw [Q7t]<;>omega
  have f4:wmul .i64 (y:Int) 1117=((y * 1117:Nat):Int):=by rw [Q7t]<;>omega
  have f5:wmul .i64 (p:Int) 29=((p * 29:Nat):Int):=by rw [Q7t]<;>omega
  have hq:p / r.b.length≤p:=Nat.div_le_self _ _
  have f6:wquo .i64 (p:Int) (lenZ r.b.length)=((p / r.b.length:Nat):Int):=by
   have:(p:Int).tdiv (lenZ r.b.length)=((p / r.b.length:Nat):Int):=by
    rw [Int.tdiv_eq_ediv_of_nonneg (by omega)]
    rfl
   generalize p / r.b.length=q at hq this ⊢
   rw [Z7s (by rw [this];omega) (by rw [this];omega),this]
  rw [f1,f2,f3,f4,f5,f6]
  generalize p / r.b.length=q at hq ⊢
  have f7:wmul .i64 (q:Int) 53=((q * 53:Nat):Int):=by rw [Q7t]<;>omega
  have f8:wadd .i64 ((x * 131:Nat):Int) ((y * 1117:Nat):Int)=((x * 131+y * 1117:Nat):Int):=by rw [Q0f]<;>omega
  have f9:wadd .i64 ((x * 131+y * 1117:Nat):Int) ((p * 29:Nat):Int)=((x * 131+y * 1117+p * 29:Nat):Int):=by rw [Q0f]<;>omega
  have f10:wadd .i64 ((x * 131+y * 1117+p * 29:Nat):Int) ((q * 53:Nat):Int)=((x * 131+y * 1117+p * 29+q * 53:Nat):Int):=by rw [Q0f]<;>omega
  rw [f7,f8,f9,f10]
  have hz:x * 131+y * 1117+p * 29+q * 53<1099511627776:=by omega
  generalize x * 131+y * 1117+p * 29+q * 53=z at hz ⊢
  have f11:wquo .i64 (z:Int) 64=((z / 64:Nat):Int):=by
   have:(z:Int).tdiv 64=((z / 64:Nat):Int):=by
    rw [Int.tdiv_eq_ediv_of_nonneg (by omega)]
    rfl
   rw [Z7s (by rw [this];omega) (by rw [this];omega),this]
  rw [f11]
  have f12:wxor .i64 (z:Int) ((z / 64:Nat):Int)=((z ^^^ (z / 64):Nat):Int):=W6g hz
  rw [f12]
  unfold Zed.yv
  have:wrem ((z ^^^ (z / 64):Nat):Int) 24=(((z ^^^ (z / 64)) % 24:Nat):Int):=by
   unfold wrem
   rw [Int.tmod_eq_emod_of_nonneg (by omega)]
   rfl
  rw [this]
def widV (m:Nat):Q0→Prop
 | ⟨_,_,ks⟩=>ks.length≤m∧widVs m ks
where widVs (m:Nat):List Q0→Prop
 | []=>True
 | v::l=>widV m v∧widVs m l
theorem Z98 (m:Nat):∀ l:List Q0,widV.widVs m l↔∀ x∈l,widV m x
 | []=>by simp [widV.widVs]
 | v::l=>by simp only [widV.widVs,U7,forall_eq_or_imp,Z98 m l]
theorem Q9z (m:Nat)(v:Q0):widV m v↔v.kids.length≤m∧∀ x∈v.kids,widV m x:=by
 cases v
 rw [widV,Z98]
theorem Z3x {m k:Nat}(h:m≤k):∀ v:Q0,widV m v→widV k v
 | ⟨a,b,ks⟩,hv=>by
  rw [Q9z] at hv ⊢
  refine ⟨Nat.le_trans hv.1 h,fun x hx=>?_⟩
  have:=hv.2 x hx
  exact Z3x h x this
termination_by v=>SizeOf.sizeOf v
decreasing_by
 simp_wf
 have:=List.sizeOf_lt_of_mem hx
 simp at this
 omega
theorem Z4w {r r':X3}{k x:Int}(h:Z1 r k=some (x,r'))(hp:r.p≤40000000):r'.p=wadd .i64 r.p 1:=by
 unfold Z1 at h
 split at h
 ·cases h;rfl
 split at h
 ·cases h;rfl
 split at h
 ·simp only [Option.bind_eq_some_iff,Option.some.injEq,Prod.mk.injEq] at h
  obtain ⟨_,_,_,_,_,rfl⟩:=h
  rfl
 ·simp only [Option.bind_eq_some_iff,Option.some.injEq,Prod.mk.injEq] at h
  obtain ⟨_,_,_,_,_,_,_,_,_,rfl⟩:=h
  rfl
theorem X5o {b:List Int}(hb:∀ x∈b,0≤x∧x≤255)(hl:b.length≤2000){E:Nat}{V:Nat→Int}(hE:E≤20000000)(hP:Zed.Pot (pk24 ⟨b,0⟩) E V):∀ (k n:Nat) (v:Q0) (p m:Nat) (P:Int),E-p≤k→k<n→m≤100+p→widV m v→1≤P→2 * P≤V p→
  Ret (Q1u n ⟨b,(p:Int)⟩ v) (fun a=>∃ p':Nat,a.2=⟨b,(p':Int)⟩∧p<p'∧p'≤E+2∧2 * (P-1)≤V p'∧widV (m+(p'-p)) a.1):=by
 intro k
 induction k with
 | zero=>
  intro n v p m P hk hn hm hv h1 h2
  have:=hP.fin p (by omega)
  omega
 | succ k ih=>
  intro n v p m P hk hn hm hv h1 h2
  obtain ⟨n,rfl⟩:∃ j,n=j+1:=⟨n-1,by omega⟩
  have hpE:p<E:=by
   rcases Nat.lt_or_ge p E with h | h
   ·exact h
   ·have:=hP.fin p h
    omega
  have hv':=(Q9z m v).1 hv
  unfold Q1u
  rw [Q33 (by simp only [U4,Z0];omega)]
  simp only [U0]
  have hpk:=X03 (r:=⟨b,(p:Int)⟩) hb hl rfl (by omega:p≤30000000)
  have hpe:pk24 ⟨b,(p:Int)⟩ p=pk24 ⟨b,0⟩ p:=rfl
  rw [hpe] at hpk
  simp only at hpk
  have hr1:ROk ⟨b,((p+1:Nat):Int)⟩ 1:=⟨hb,hl,by simp only;omega,by simp only;omega⟩
  refine Ret.ctl (R:=fun _=>False) (B:=fun (s:X3×Int×Int×List Q0)=>∃ p':Nat,s.1=⟨b,(p':Int)⟩∧p<p'∧p'≤E+2∧2 * (P-1)≤V p'∧s.2.2.2.length≤m+(p'-p)∧∀ x∈s.2.2.2,widV (m+(p'-p)) x) ?_ (fun r hr=>hr.elim) (fun s hs=>?_)
  ·rw [hpk]
   simp only [U0]
   have kidsOk:∀ q:Nat,v.kids.length≤m+q∧∀ x∈v.kids,widV (m+q) x:=fun q=>⟨by omega,fun x hx=>Z3x (by omega) x (hv'.2 x hx)⟩
   have skip:pk24 ⟨b,0⟩ p≤1→∀ (a:Int×X3),Nx ⟨b,((p+1:Nat):Int)⟩ a.2 1→a.2.p=((p+2:Nat):Int)→a.2=⟨b,((p+2:Nat):Int)⟩∧2 * (P-1)≤V (p+2):=fun h a hn hp2=>by
    have:=hP.skip p hpE h
    refine ⟨?_,by omega⟩
    cases a with
    | mk x r=>
     cases r with
     | mk bb pp=>
      have e1:bb=b:=hn.b
      simp only at hp2
      rw [e1,hp2]
   have num2:∀ l:List Int,1≤l.length→l.length≤1000→Ret (X5 ⟨b,((p+1:Nat):Int)⟩ l) (fun a=>Nx ⟨b,((p+1:Nat):Int)⟩ a.2 1∧a.2.p=((p+2:Nat):Int)):=fun l hl1 hl2=>by
    obtain ⟨a,e,_,hn⟩:=W5l hr1 l hl1 hl2
    refine ⟨a,e,hn,?_⟩
    unfold X5 at e
    cases hpick:Z1 ⟨b,((p+1:Nat):Int)⟩ (lenZ l.length) with
    | none=>rw [hpick] at e;cases e
    | some q=>
     rw [hpick] at e
     simp only [U0] at e
     cases hi:idx l q.1 with
     | none=>rw [hi] at e;cases e
     | some y=>
      rw [hi] at e
      simp only [U0,Option.some.injEq] at e
      subst e
      simp only
      have:=Z4w hpick (by simp only;omega)
      rw [this]
      show wadd .i64 ((p+1:Nat):Int) 1=_
      rw [Q0f (by omega) (by omega)]
      omega
   refine Ret.ite (fun h0=>?_) (fun h0=>?_)
   ·rw [Q7] at h0
    refine Ret.bind (num2 _ (by simp) (by simp)) (fun a ha=>.some ?_)
    obtain ⟨e1,e2⟩:=skip (by omega) a ha.1 ha.2
    exact ⟨p+2,e1,by omega,by omega,e2,(kidsOk _).1,(kidsOk _).2⟩
   rw [Q9] at h0
   refine Ret.ite (fun h1'=>?_) (fun h1'=>?_)
   ·rw [Q7] at h1'
    refine Ret.bind (num2 _ (by simp) (by simp)) (fun a ha=>.some ?_)
    obtain ⟨e1,e2⟩:=skip (by omega) a ha.1 ha.2
    exact ⟨p+2,e1,by omega,by omega,e2,(kidsOk _).1,(kidsOk _).2⟩
   rw [Q9] at h1'
   refine Ret.ite (fun h2'=>?_) (fun h2'=>?_)
   ·rw [Q7] at h2'
    have hot:=hP.other p hpE (by omega) (by omega)
    rw [Q33 (by simp only [U3,U4,Z0];omega)]
    refine .some ⟨p+1,rfl,by omega,by omega,by omega,by simp only [U5,U3,U4];omega,fun x hx=>?_⟩
    rcases List.mem_append.1 hx with hx | hx
    ·exact (kidsOk _).2 x hx
    ·simp only [List.mem_singleton] at hx
     rw [hx,Q9z]
     exact ⟨by simp,fun y hy=>by cases hy⟩
   rw [Q9] at h2'
   refine Ret.ite (fun h3=>?_) (fun h3=>?_)
   ·rw [Q7] at h3
    have hth:=hP.three p hpE (by omega)
    refine Ret.ite (fun h4=>?_) (fun h4=>?_)
    ·rw [W0] at h4
     simp only [lenZ] at h4
     obtain ⟨x,hx,hxm⟩:=Q1g (xs:=v.kids) (i:=0) (by omega) (by omega)
     rw [hx]
     simp only [U0]
     refine Ret.bind (ih n x (p+1) m (P+1) (by omega) (by omega) (by omega) (hv'.2 x hxm) (by omega) (by omega)) (fun a ha=>?_)
     obtain ⟨p1,e1,e2,e3,e4,e5⟩:=ha
     rw [e1]
     refine Ret.bind (ih n a.1 p1 (m+(p1-(p+1))) P (by omega) (by omega) (by omega) e5 h1 (by omega)) (fun c hc=>?_)
     obtain ⟨p2,g1,g2,g3,g4,g5⟩:=hc
     have hset:setI v.kids 0 c.1=some (v.kids.set 0 c.1):=by
      unfold setI
      rw [if_pos ⟨by omega,by show 0<v.kids.length;omega⟩]
      rfl
     rw [hset]
     simp only [U0]
     refine .some ⟨p2,g1,by omega,g3,g4,by simp only [List.length_set];omega,fun y hy=>?_⟩
     rcases List.mem_or_eq_of_mem_set hy with hy | rfl
     ·exact (kidsOk _).2 y hy
     ·exact Z3x (by omega) _ g5
    ·exact .some ⟨p+1,rfl,by omega,by omega,by omega,(kidsOk _).1,(kidsOk _).2⟩
   ·rw [Q9] at h3
    have hot:=hP.other p hpE (by omega) (by omega)
    exact .some ⟨p+1,rfl,by omega,by omega,by omega,(kidsOk _).1,(kidsOk _).2⟩
  ·obtain ⟨p',e1,e2,e3,e4,e5,e6⟩:=hs
   exact .some ⟨p',e1,e2,e3,e4,(Q9z _ _).2 ⟨e5,e6⟩⟩
theorem W5j {b:List Int}(h1:∀ x∈b,0≤x∧x≤255)(h2:b.length≤2000){p:Nat}(hp:p≤5000):∃ E V,Zed.Pot (pk24 ⟨b,0⟩) E V∧6≤V p∧E≤20000000:=by
 by_cases hb:b.length=0
 ·obtain ⟨E,V,g1,g2,g3⟩:=Zed.pot0 p
  refine ⟨E,V,?_,g2,by omega⟩
  have:pk24 ⟨b,0⟩=fun _=>0:=by
   funext q
   unfold pk24
   rw [if_pos hb]
  rw [this]
  exact g1
 ·obtain ⟨E,V,g1,g2,g3⟩:=Zed.pot (byt ⟨b,0⟩) (fun i=>by
   unfold byt
   simp only
   rw [List.getD_eq_getElem?_getD]
   cases hi:b[i]? with
   | none=>simp
   | some x=>
    have:=h1 x (U1 hi)
    simp only [Option.getD_some]
    omega) (L:=b.length) (p0:=p) (by omega) h2 (by omega)
  refine ⟨E,V,?_,g2,g3⟩
  have:pk24 ⟨b,0⟩=Zed.pkv (byt ⟨b,0⟩) b.length:=by
   funext q
   unfold pk24
   rw [if_neg hb]
  rw [this]
  exact g1
set_option maxRecDepth 100000
def widE (m:Nat):Z4→Prop
 | ⟨_,_,_,ks⟩=>ks.length≤m∧widEs m ks
where widEs (m:Nat):List Z4→Prop
 | []=>True
 | v::l=>widE m v∧widEs m l
theorem Z99 (m:Nat):∀ l:List Z4,widE.widEs m l↔∀ x∈l,widE m x
 | []=>by simp [widE.widEs]
 | v::l=>by simp only [widE.widEs,U7,forall_eq_or_imp,Z99 m l]
theorem Z3y (m:Nat)(v:Z4):widE m v↔v.kids.length≤m∧∀ x∈v.kids,widE m x:=by
 cases v
 rw [widE,Z99]
theorem Z11 {m k:Nat}(h:m≤k):∀ v:Z4,widE m v→widE k v
 | ⟨a,b,c,ks⟩,hv=>by
  rw [Z3y] at hv ⊢
  refine ⟨Nat.le_trans hv.1 h,fun x hx=>?_⟩
  have:=hv.2 x hx
  exact Z11 h x this
termination_by v=>SizeOf.sizeOf v
decreasing_by
 simp_wf
 have:=List.sizeOf_lt_of_mem hx
 simp at this
 omega
def X5e (m:Nat):Z4→Bool
 | ⟨_,_,_,ks⟩=>decide (ks.length≤m)&&widEbs m ks
where widEbs (m:Nat):List Z4→Bool
 | []=>true
 | v::l=>X5e m v&&widEbs m l
mutual
theorem X3x (m:Nat):∀ v,X5e m v=true→widE m v
 | ⟨_,_,_,ks⟩,h=>by
  rw [X5e,Bool.and_eq_true,decide_eq_true_eq] at h
  rw [widE]
  exact ⟨h.1,Z9a m ks h.2⟩
theorem Z9a (m:Nat):∀ l,X5e.widEbs m l=true→widE.widEs m l
 | [],_=>by simp [widE.widEs]
 | v::l,h=>by
  rw [X5e.widEbs,Bool.and_eq_true] at h
  rw [widE.widEs]
  exact ⟨X3x m v h.1,Z9a m l h.2⟩
end
def chkF (w:List Q2)(F:List GFun):Bool:=decide (1≤F.length)&&decide (F.length≤4)&&F.all fun f=>decide (f.typ.arg∈tys w)&&decide (f.typ.res∈tys w)&&decide (1≤depP w f.typ.arg)&&decide (f.clauses.length≤8)&&decide (f.bodies.length=f.clauses.length)&&f.bodies.all (X5e 3)
def V38 (i j:Nat):Option (List GFun×Bool):=Y8.bind fun r6=>(idx r6 (i:Int)).bind fun x7=>(idx x7 (j:Int)).bind fun x9=>Q3e NN (Q4e.getD i []) x9
def lenF (i:Nat):Nat:=((Y8.bind fun r=>idx r (i:Int)).map List.length).getD 0
def okF (i:Nat):Bool:=decide (1≤lenF i)&&decide (lenF i≤2)&&(List.range (lenF i)).all fun j=>(V38 i j).any fun r=>chkF (Q4e.getD i []) r.1
theorem okF0:okF 0=true:=by kernel_rfl
theorem okF1:okF 1=true:=by kernel_rfl
theorem okF2:okF 2=true:=by kernel_rfl
theorem okF3:okF 3=true:=by kernel_rfl
theorem okF4:okF 4=true:=by kernel_rfl
theorem okF5:okF 5=true:=by kernel_rfl
theorem okF6:okF 6=true:=by kernel_rfl
theorem lenP:(Y8.map List.length)=some 7:=by kernel_rfl
def Par {α:Type}(x:Option α)(Q:α→Prop):Prop:=∀ a,x=some a→Q a
theorem Par.some {α:Type}{a:α}{Q:α→Prop}(h:Q a):Par (some a) Q:=fun b e=>by cases e;exact h
theorem Par.none {α:Type}{Q:α→Prop} : Par (none:Option α) Q:=fun b e=>by cases e
theorem Par.bind {α β:Type}{x:Option α}{f:α→Option β}{P:α→Prop}{Q:β→Prop}(hx:Par x P)(hf:∀ a,P a→Par (f a) Q):Par (x.bind f) Q:=fun b e=>by
 cases hx':x with
 | none=>rw [hx'] at e;cases e
 | some a=>rw [hx'] at e;exact hf a (hx a hx') b e
theorem Par.any {α β:Type}{x:Option α}{f:α→Option β}{Q:β→Prop}(hf:∀ a,Par (f a) Q):Par (x.bind f) Q:=Par.bind (P:=fun _=>True) (fun _ _=>trivial) fun a _=>hf a
theorem Par.ite {α:Type}{b:Bool}{x y:Option α}{Q:α→Prop}(h1:b=true→Par x Q)(h2:b=false→Par y Q):Par (if b=true then x else y) Q:=by
 cases b with
 | true=>exact h1 rfl
 | false=>exact h2 rfl
theorem Par.mono {α:Type}{x:Option α}{P Q:α→Prop}(h:∀ a,P a→Q a)(hx:Par x P):Par x Q:=fun a e=>h a (hx a e)
theorem Par.ctl {ρ σ τ:Type}{x:Option (Ctl ρ σ)}{g:Ctl ρ σ→Option τ}{R:ρ→Prop}{B:σ→Prop}{Q:τ→Prop}(h:Par x (CtlQ R B))(hr:∀ r,R r→Par (g (.ret r)) Q)(hb:∀ s,B s→Par (g (.brk s)) Q):Par (x.bind g) Q:=
 Par.bind h fun a ha=>by
  cases a with
  | ret r=>exact hr r ha
  | brk s=>exact hb s ha
  | go s=>exact ha.elim
theorem Z8m {α σ ρ:Type}{f:Nat→α→σ→Option (Ctl ρ σ)}(I:Nat→σ→Prop)(R:ρ→Prop)(B:σ→Prop):∀ (xs:List α) (i:Nat) (s0:σ),I i s0→(∀ k x s,x∈xs→I k s→Par (f k x s) (RndQ R B (I (k+1))))→(∀ s,I (i+xs.length) s→B s)→Par (forL f i xs s0) (CtlQ R B)
 | [],i,s0,h0,_,hb=>by
  unfold forL
  exact .some (hb s0 (by simpa using h0))
 | x::xs,i,s0,h0,st,hb=>by
  unfold forL
  have h1:=st i x s0 (by simp) h0
  intro a e
  cases hf:f i x s0 with
  | none=>rw [hf] at e;cases e
  | some o=>
   rw [hf] at e
   have h2:=h1 o hf
   cases o with
   | ret r=>cases e;exact h2
   | brk s=>cases e;exact h2
   | go s=>exact Z8m I R B xs (i+1) s h2 (fun k y s hy=>st k y s (by simp [hy])) (fun s hs=>hb s (by simpa [Nat.add_assoc,Nat.add_comm 1] using hs)) a e
theorem Ret.both {α:Type}{x:Option α}{P Q:α→Prop}(h:Ret x P)(k:Par x Q):Ret x (fun a=>P a∧Q a):=by
 obtain ⟨a,e,hp⟩:=h
 exact ⟨a,e,hp,k a e⟩
theorem W0x {α:Type}(xs ys:List α):Par (app xs ys) (fun z=>z=xs++ys):=fun z hz=>by
 unfold app at hz
 split at hz
 ·cases hz;rfl
 ·cases hz
theorem X5m {code:List Int}{q:X3}(h:((if (ilt 2000 (lenZ code.length))=true then ((Q96 code 2000).bind fun x8=>some (Ctl.brk (ρ:=X3) x8)) else some (Ctl.brk code)))=some (.ret q)):False:=by
 split at h
 ·cases ht:Q96 code 2000 with
  | none=>rw [ht] at h;cases h
  | some x=>rw [ht] at h;cases h
 ·cases h
theorem W0l {w:List Q2}(hw:WW w):∀ (n:Nat) (r:X3) (t:Q3) (depth:Int),t∈tys w→Par (Q2c n r w (tabP w) t depth) (fun a=>widV 3 a.1):=by
 intro n
 induction n with
 | zero=>intro r t depth _;exact .none
 | succ n ih=>
  intro r t depth ht
  have hT:=hw.ty t ht
  unfold Q2c
  refine Par.ite (fun _=>?_) (fun _=>?_)
  ·exact Par.any fun a=>.some ((Q9z _ _).2 ⟨by simp,fun x hx=>by cases hx⟩)
  ·rw [hT.c1]
   simp only [U0]
   refine Par.ctl (Z8m (fun _ (s:List Int)=>∀ x∈s,x∈Y0 w t) (fun _=>False) (fun s=>∀ x∈s,x∈Y0 w t) (Y0 w t) 0 _ (by simp) (fun k x s hx hI=>?_) (fun s hs=>hs)) (fun r hr=>hr.elim) (fun s hs=>?_)
   ·have add:Par ((app s [x]).bind fun x310=>some (Ctl.brk (ρ:=Ctl (Q0×X3) (List Int)) x310)) (CtlQ (fun _=>False) (fun s'=>∀ x∈s',x∈Y0 w t)):=by
     refine Par.bind (W0x _ _) (fun z hz=>.some ?_)
     subst hz
     intro y hy
     rcases List.mem_append.1 hy with hy | hy
     ·exact hI y hy
     ·simp only [List.mem_singleton] at hy;rw [hy];exact hx
    have pass:Par (some (Ctl.brk (ρ:=Ctl (Q0×X3) (List Int)) s)) (CtlQ (fun _=>False) (fun s'=>∀ x∈s',x∈Y0 w t)):=.some hI
    refine Par.ctl (R:=fun _=>False) (B:=fun (s':List Int)=>∀ x∈s',x∈Y0 w t) ?_ (fun r hr=>hr.elim) (fun s' hs'=>.some hs')
    refine Par.any fun a=>Par.ite (fun _=>Par.ite (fun _=>add) (fun _=>Par.any fun b=>Par.ite (fun _=>add) (fun _=>pass))) (fun _=>pass)
   ·refine Par.any fun a=>?_
    refine Par.bind (P:=fun x=>x∈Y0 w t) (fun x hx=>?_) (fun x hx=>?_)
    ·unfold idx at hx
     split at hx
     ·exact hs x (U1 hx)
     ·cases hx
    ·rw [hT.a1 x hx]
     simp only [U0]
     have hal:=hT.al x hx
     refine Par.ctl (Z8m (fun k (u:X3×List Q0)=>u.2.length≤k∧∀ y∈u.2,widV 3 y) (fun _=>False) (fun u=>u.2.length≤3∧∀ y∈u.2,widV 3 y) (Q0z w t x) 0 _ (by simp) (fun k y u hy hI=>?_) (fun u hu=>⟨by have:=hu.1;omega,hu.2⟩)) (fun r hr=>hr.elim) (fun u hu=>.some ((Q9z _ _).2 hu))
     refine Par.bind (ih u.1 y _ (hT.at_ x hx y hy)) (fun b hb=>?_)
     refine Par.bind (W0x _ _) (fun z hz=>.some ?_)
     subst hz
     refine ⟨by simp only [U5,U3,U4];have:=hI.1;omega,fun q hq=>?_⟩
     rcases List.mem_append.1 hq with hq | hq
     ·exact hI.2 q hq
     ·simp only [List.mem_singleton] at hq;rw [hq];exact hb
theorem W2t (code:List Int)(hb:∀ x∈code,0≤x∧x≤255):Ret (Q2n code) (fun r=>ROk r 1000000∧r.p=0):=by
 obtain ⟨r,e,hr⟩:=W73 code hb
 refine ⟨r,e,hr,?_⟩
 unfold Q2n at e
 simp only [Option.bind_eq_some_iff] at e
 obtain ⟨o,h1,h2⟩:=e
 cases o with
 | ret q=>exact (X5m h1).elim
 | go s=>cases h2
 | brk s=>simp only [Option.some.injEq] at h2;rw [←h2]
theorem Z37 {b:List Int}(hb:∀ x∈b,0≤x∧x≤255)(hl:b.length≤2000){E:Nat}{V:Nat→Int}(hE:E≤20000000)(hP:Zed.Pot (pk24 ⟨b,0⟩) E V):∀ (k n:Nat) (v:Z4) (p m:Nat) (P:Int),E-p≤k→k<n→m≤100+p→widE m v→1≤P→2 * P≤V p→
  Ret (Q0m n ⟨b,(p:Int)⟩ v) (fun a=>∃ p':Nat,a.2=⟨b,(p':Int)⟩∧p<p'∧p'≤E+2∧2 * (P-1)≤V p'∧widE (m+(p'-p)) a.1):=by
 intro k
 induction k with
 | zero=>
  intro n v p m P hk hn hm hv h1 h2
  have:=hP.fin p (by omega)
  omega
 | succ k ih=>
  intro n v p m P hk hn hm hv h1 h2
  obtain ⟨n,rfl⟩:∃ j,n=j+1:=⟨n-1,by omega⟩
  have hpE:p<E:=by
   rcases Nat.lt_or_ge p E with h | h
   ·exact h
   ·have:=hP.fin p h
    omega
  have hv':=(Z3y m v).1 hv
  unfold Q0m
  rw [Q33 (by simp only [U4,Z0];omega)]
  simp only [U0]
  have hpk:=X03 (r:=⟨b,(p:Int)⟩) hb hl rfl (by omega:p≤30000000)
  have hpe:pk24 ⟨b,(p:Int)⟩ p=pk24 ⟨b,0⟩ p:=rfl
  rw [hpe] at hpk
  simp only at hpk
  have hr1:ROk ⟨b,((p+1:Nat):Int)⟩ 1:=⟨hb,hl,by simp only;omega,by simp only;omega⟩
  refine Ret.ctl (R:=fun _=>False) (B:=fun (s:X3×Int×Int×List Z4)=>∃ p':Nat,s.1=⟨b,(p':Int)⟩∧p<p'∧p'≤E+2∧2 * (P-1)≤V p'∧s.2.2.2.length≤m+(p'-p)∧∀ x∈s.2.2.2,widE (m+(p'-p)) x) ?_ (fun r hr=>hr.elim) (fun s hs=>?_)
  ·rw [hpk]
   simp only [U0]
   have kidsOk:∀ q:Nat,v.kids.length≤m+q∧∀ x∈v.kids,widE (m+q) x:=fun q=>⟨by omega,fun x hx=>Z11 (by omega) x (hv'.2 x hx)⟩
   have skip:pk24 ⟨b,0⟩ p≤1→∀ (a:Int×X3),Nx ⟨b,((p+1:Nat):Int)⟩ a.2 1→a.2.p=((p+2:Nat):Int)→a.2=⟨b,((p+2:Nat):Int)⟩∧2 * (P-1)≤V (p+2):=fun h a hn hp2=>by
    have:=hP.skip p hpE h
    refine ⟨?_,by omega⟩
    cases a with
    | mk x r=>
     cases r with
     | mk bb pp=>
      have e1:bb=b:=hn.b
      simp only at hp2
      rw [e1,hp2]
   have num2:∀ l:List Int,1≤l.length→l.length≤1000→Ret (X5 ⟨b,((p+1:Nat):Int)⟩ l) (fun a=>Nx ⟨b,((p+1:Nat):Int)⟩ a.2 1∧a.2.p=((p+2:Nat):Int)):=fun l hl1 hl2=>by
    obtain ⟨a,e,_,hn⟩:=W5l hr1 l hl1 hl2
    refine ⟨a,e,hn,?_⟩
    unfold X5 at e
    cases hpick:Z1 ⟨b,((p+1:Nat):Int)⟩ (lenZ l.length) with
    | none=>rw [hpick] at e;cases e
    | some q=>
     rw [hpick] at e
     simp only [U0] at e
     cases hi:idx l q.1 with
     | none=>rw [hi] at e;cases e
     | some y=>
      rw [hi] at e
      simp only [U0,Option.some.injEq] at e
      subst e
      simp only
      have:=Z4w hpick (by simp only;omega)
      rw [this]
      show wadd .i64 ((p+1:Nat):Int) 1=_
      rw [Q0f (by omega) (by omega)]
      omega
   refine Ret.ite (fun h0=>?_) (fun h0=>?_)
   ·rw [Q7] at h0
    refine Ret.bind (num2 _ (by simp) (by simp)) (fun a ha=>.some ?_)
    obtain ⟨e1,e2⟩:=skip (by omega) a ha.1 ha.2
    exact ⟨p+2,e1,by omega,by omega,e2,(kidsOk _).1,(kidsOk _).2⟩
   rw [Q9] at h0
   refine Ret.ite (fun h1'=>?_) (fun h1'=>?_)
   ·rw [Q7] at h1'
    refine Ret.bind (num2 _ (by simp) (by simp)) (fun a ha=>.some ?_)
    obtain ⟨e1,e2⟩:=skip (by omega) a ha.1 ha.2
    exact ⟨p+2,e1,by omega,by omega,e2,(kidsOk _).1,(kidsOk _).2⟩
   rw [Q9] at h1'
   refine Ret.ite (fun h2'=>?_) (fun h2'=>?_)
   ·rw [Q7] at h2'
    have hot:=hP.other p hpE (by omega) (by omega)
    rw [Q33 (by simp only [U3,U4,Z0];omega)]
    refine .some ⟨p+1,rfl,by omega,by omega,by omega,by simp only [U5,U3,U4];omega,fun x hx=>?_⟩
    rcases List.mem_append.1 hx with hx | hx
    ·exact (kidsOk _).2 x hx
    ·simp only [List.mem_singleton] at hx
     rw [hx,Z3y]
     exact ⟨by simp,fun y hy=>by cases hy⟩
   rw [Q9] at h2'
   refine Ret.ite (fun h3=>?_) (fun h3=>?_)
   ·rw [Q7] at h3
    have hth:=hP.three p hpE (by omega)
    refine Ret.ite (fun h4=>?_) (fun h4=>?_)
    ·rw [W0] at h4
     simp only [lenZ] at h4
     obtain ⟨x,hx,hxm⟩:=Q1g (xs:=v.kids) (i:=0) (by omega) (by omega)
     rw [hx]
     simp only [U0]
     refine Ret.bind (ih n x (p+1) m (P+1) (by omega) (by omega) (by omega) (hv'.2 x hxm) (by omega) (by omega)) (fun a ha=>?_)
     obtain ⟨p1,e1,e2,e3,e4,e5⟩:=ha
     rw [e1]
     refine Ret.bind (ih n a.1 p1 (m+(p1-(p+1))) P (by omega) (by omega) (by omega) e5 h1 (by omega)) (fun c hc=>?_)
     obtain ⟨p2,g1,g2,g3,g4,g5⟩:=hc
     have hset:setI v.kids 0 c.1=some (v.kids.set 0 c.1):=by
      unfold setI
      rw [if_pos ⟨by omega,by show 0<v.kids.length;omega⟩]
      rfl
     rw [hset]
     simp only [U0]
     refine .some ⟨p2,g1,by omega,g3,g4,by simp only [List.length_set];omega,fun y hy=>?_⟩
     rcases List.mem_or_eq_of_mem_set hy with hy | rfl
     ·exact (kidsOk _).2 y hy
     ·exact Z11 (by omega) _ g5
    ·exact .some ⟨p+1,rfl,by omega,by omega,by omega,(kidsOk _).1,(kidsOk _).2⟩
   ·rw [Q9] at h3
    have hot:=hP.other p hpE (by omega) (by omega)
    exact .some ⟨p+1,rfl,by omega,by omega,by omega,(kidsOk _).1,(kidsOk _).2⟩
  ·obtain ⟨p',e1,e2,e3,e4,e5,e6⟩:=hs
   exact .some ⟨p',e1,e2,e3,e4,(Z3y _ _).2 ⟨e5,e6⟩⟩
theorem X02 {b:List Int}(hb:∀ x∈b,0≤x∧x≤255)(hl:b.length≤2000){p:Nat}(hp:p≤30000000){k:Int}(h1:1≤k)(h2:k≤1000000):Ret (Z1 ⟨b,(p:Int)⟩ k) (fun a=>0≤a.1∧a.1<k∧a.2=⟨b,((p+1:Nat):Int)⟩):=by
 obtain ⟨a,e,a0,a1,an⟩:=Z84 (r:=⟨b,(p:Int)⟩) ⟨hb,hl,by simp only;omega,by simp only;omega⟩ h1 h2
 refine ⟨a,e,a0,a1,?_⟩
 have hn:=Z4w e (by simp only;omega)
 have e1:=an.b
 obtain ⟨x,bb,pp⟩:=a
 simp only at hn e1
 rw [Q0f (by omega) (by omega)] at hn
 rw [e1,hn]
 rfl
theorem numN {b:List Int}(hb:∀ x∈b,0≤x∧x≤255)(hl:b.length≤2000){p:Nat}(hp:p≤30000000)(l:List Int)(h1:1≤l.length)(h2:l.length≤1000):Ret (X5 ⟨b,(p:Int)⟩ l) (fun a=>a.1∈l∧a.2=⟨b,((p+1:Nat):Int)⟩):=by
 unfold X5
 refine Ret.bind (X02 hb hl hp (k:=lenZ l.length) (by simp [lenZ];omega) (by simp [lenZ];omega)) (fun a ha=>?_)
 obtain ⟨x,hx,hm⟩:=Q1g (xs:=l) ha.1 (by simpa [lenZ] using ha.2.1)
 rw [hx]
 exact .some ⟨hm,ha.2.2⟩
theorem V3r {F:List GFun}(h:F.length≤4)(hc:∀ f∈F,f.clauses.length≤8∧f.bodies.length≤8) :
  Ret (forL (fun (k66:Nat) (x67:GFun) (s62:List GFun)=>((app [] x67.clauses).bind fun x74=>((app [] x67.bodies).bind fun x75=>((app s62 [x67]).bind fun x76=>some (Ctl.go (ρ:=List GFun×X3) (s62++[x67])))))) 0 F []) (CtlQ (fun _=>False) (fun s=>s=F)):=by
 refine Z9 F (fun k s=>s=F.take k) _ _ (by simp) (fun k x s hx hI=>?_) (fun s hI=>by rw [hI];exact List.take_length ..)
 have hx1:=hc x (U1 hx)
 have hk:=(List.getElem?_eq_some_iff.1 hx).1
 rw [Q33 (by simp only [U4,Z0];omega)]
 simp only [U0]
 rw [Q33 (by simp only [U4,Z0];omega)]
 simp only [U0]
 rw [Q33 (by rw [hI];simp only [U6,U3,U4,Z0];omega)]
 refine .some ?_
 show s++[x]=F.take (k+1)
 rw [hI,List.take_add_one,hx]
 rfl
def Mok (b:List Int)(a:List GFun×X3):Prop:=a.1.length≤1000∧∃ (p:Nat) (E:Nat) (V:Nat→Int),a.2=⟨b,(p:Int)⟩∧Zed.Pot (pk24 ⟨b,0⟩) E V∧E≤20000000∧2≤V p
structure FD (F:List GFun):Prop where
 l1:1≤F.length
 l4:F.length≤4
 fs:∀ f∈F,f.clauses.length≤8∧f.bodies.length≤8
 eq:∀ f∈F,f.bodies.length=f.clauses.length
 wid:∀ f∈F,∀ e∈f.bodies,widE 3 e
theorem X8z {b:List Int}(hb:∀ x∈b,0≤x∧x≤255)(hl:b.length≤2000){p:Nat}(hp:p≤4000){F:List GFun}(hF:FD F)(h1:pk24 ⟨b,0⟩ (p+1)≠1)(h2:pk24 ⟨b,0⟩ (p+1)≠2):Ret (Q0u NN ⟨b,(p:Int)⟩ F) (Mok b):=by
 have hl1:=hF.l1
 have hl4:=hF.l4
 unfold Q0u
 refine Ret.ctl (V3r hF.l4 hF.fs) (fun r hr=>hr.elim) (fun s hs=>?_)
 obtain rfl:=hs
 dsimp only
 rw [if_neg (by rw [Q7];simp only [lenZ];omega)]
 refine Ret.bind (X02 hb hl (by omega) (k:=lenZ s.length) (by simp only [lenZ];omega) (by simp only [lenZ];omega)) (fun a ha=>?_)
 obtain ⟨a0,a1,a2⟩:=ha
 rw [a2]
 simp only [lenZ] at a1
 obtain ⟨x,hx,hxm⟩:=Q1g a0 a1
 refine Ret.ctl (R:=fun _=>False) (B:=fun (t:X3×List GFun)=>t.2.length≤1000∧∃ q:Nat,t.1=⟨b,(q:Int)⟩∧q≤5000) ?_ (fun r hr=>hr.elim) (fun t ht=>?_)
 ·have hpk:=X03 (r:=⟨b,((p+1:Nat):Int)⟩) hb hl rfl (by omega:p+1≤30000000)
  have hpe:pk24 ⟨b,((p+1:Nat):Int)⟩ (p+1)=pk24 ⟨b,0⟩ (p+1):=rfl
  rw [hpe] at hpk
  rw [hpk]
  simp only [U0]
  generalize pk24 ⟨b,0⟩ (p+1)=v at h1 h2
  refine Ret.ite (fun _=>?_) (fun _=>?_)
  ·refine Ret.bind (numN hb hl (by omega) _ (by simp) (by simp)) (fun c hc=>?_)
   rw [hx]
   simp only [U0]
   rw [Z26 a0 a1]
   exact .some ⟨by simp only [List.length_set];omega,p+3,hc.2,by omega⟩
  refine Ret.ite (fun h=>by rw [Q7] at h;omega) (fun _=>?_)
  refine Ret.ite (fun h=>by rw [Q7] at h;omega) (fun _=>?_)
  refine Ret.ite (fun _=>?_) (fun _=>?_)
  ·have:Q96 s a.1=some (s.take a.1.toNat):=by
    unfold Q96
    rw [if_pos ⟨a0,by omega⟩]
   rw [this]
   exact .some ⟨by simp only [U6];omega,p+2,rfl,by omega⟩
  refine Ret.ite (fun _=>?_) (fun _=>?_)
  ·refine Ret.ctl (Q6w (fun (t:List GFun)=>1≤t.length∧t.length≤5) (fun t=>6-t.length) (fun _=>False) (fun t=>t.length≤1000) ⟨hl1,by omega⟩ (fun t ht=>?_) NN (by simp only [NN];omega)) (fun r hr=>hr.elim) (fun t ht=>?_)
   ·refine Ret.ite (fun h=>?_) (fun h=>.some (by show t.length≤1000;omega))
    rw [W5] at h
    simp only [lenZ] at h
    obtain ⟨y,hy,_⟩:=Q1g (xs:=t) (i:=0) (by omega) (by omega)
    rw [hy]
    simp only [U0]
    rw [Q33 (by simp only [U3,U4,Z0];omega)]
    refine .some ?_
    show (1≤(t++[y]).length∧(t++[y]).length≤5)∧6-(t++[y]).length<6-t.length
    simp only [U5,U3,U4]
    omega
   ·exact .some ⟨ht,p+2,rfl,by omega⟩
  refine Ret.ite (fun _=>?_) (fun _=>?_)
  ·rw [hx]
   simp only [U0]
   refine Ret.ite (fun h=>?_) (fun _=>.some ⟨by simp only;omega,p+2,rfl,by omega⟩)
   rw [W0] at h
   simp only [lenZ] at h
   have hbl:=hF.eq x hxm
   have d1:Z6w x.clauses 1=some (x.clauses.drop 1):=by
    unfold Z6w
    rw [if_pos ⟨by omega,by omega⟩]
    rfl
   have d2:Z6w x.bodies 1=some (x.bodies.drop 1):=by
    unfold Z6w
    rw [if_pos ⟨by omega,by omega⟩]
    rfl
   rw [d1]
   simp only [U0]
   rw [Z26 a0 a1]
   simp only [U0]
   rw [Q59 a0 (x:=GFun.mk x.typ (x.clauses.drop 1) x.bodies) (by rw [List.getElem?_set_self (by omega)])]
   simp only [U0]
   rw [d2]
   simp only [U0]
   rw [Z26 a0 (by rw [List.length_set];exact a1)]
   exact .some ⟨by simp only [List.length_set];omega,p+2,rfl,by omega⟩
  ·exact .some ⟨by simp only;omega,p+2,rfl,by omega⟩
 ·obtain ⟨t1,q,t2,t3⟩:=ht
  obtain ⟨E,V,g1,g2,g3⟩:=W5j hb hl t3
  exact .some ⟨t1,q,E,V,t2,g1,g3,by omega⟩
theorem X90 {b:List Int}(hb:∀ x∈b,0≤x∧x≤255)(hl:b.length≤2000){p:Nat}(hp:p≤4000){F:List GFun}(hF:FD F)(h:pk24 ⟨b,0⟩ (p+1)=1∨pk24 ⟨b,0⟩ (p+1)=2):Q0u NN ⟨b,(p:Int)⟩ F=none:=by
 have hl1:=hF.l1
 have hl4:=hF.l4
 unfold Q0u
 obtain ⟨o,ho,hq⟩:=V3r hF.l4 hF.fs
 rw [ho]
 cases o with
 | ret r=>exact hq.elim
 | go s=>exact hq.elim
 | brk s=>
  obtain rfl:s=F:=hq
  simp only [U0]
  rw [if_neg (by rw [Q7];simp only [lenZ];omega)]
  obtain ⟨a,e,a0,a1,a2⟩:=X02 hb hl (p:=p) (by omega) (k:=lenZ s.length) (by simp only [lenZ];omega) (by simp only [lenZ];omega)
  rw [e]
  simp only [U0]
  rw [a2]
  have hpk:=X03 (r:=⟨b,((p+1:Nat):Int)⟩) hb hl rfl (by omega:p+1≤30000000)
  have hpe:pk24 ⟨b,((p+1:Nat):Int)⟩ (p+1)=pk24 ⟨b,0⟩ (p+1):=rfl
  rw [hpe] at hpk
  rw [hpk]
  simp only [U0]
  generalize pk24 ⟨b,0⟩ (p+1)=v at h
  rcases h with rfl | rfl
  ·rfl
  ·rfl
theorem X8y {b:List Int}(hb:∀ x∈b,0≤x∧x≤255)(hl:b.length≤2000){p:Nat}(hp:p≤4000){F:List GFun}(hF:FD F)(h:pk24 ⟨b,0⟩ (p+1)=1∨pk24 ⟨b,0⟩ (p+1)=2):Ret (Q2t NN ⟨b,(p:Int)⟩ F) (Mok b):=by
 have hl1:=hF.l1
 have hl4:=hF.l4
 unfold Q2t
 rw [Z61 (by
  rw [Bool.and_eq_true,decide_eq_true_eq,List.all_eq_true]
  refine ⟨by omega,fun x hx=>?_⟩
  have:=hF.fs x hx
  rw [Bool.and_eq_true,decide_eq_true_eq,decide_eq_true_eq]
  omega)]
 simp only [U0]
 refine Ret.bind (X02 hb hl (by omega) (k:=lenZ F.length) (by simp only [lenZ];omega) (by simp only [lenZ];omega)) (fun a ha=>?_)
 obtain ⟨a0,a1,a2⟩:=ha
 rw [a2]
 simp only [lenZ] at a1
 have hpk:=X03 (r:=⟨b,((p+1:Nat):Int)⟩) hb hl rfl (by omega:p+1≤30000000)
 have hpe:pk24 ⟨b,((p+1:Nat):Int)⟩ (p+1)=pk24 ⟨b,0⟩ (p+1):=rfl
 rw [hpe] at hpk
 rw [hpk]
 simp only [U0]
 obtain ⟨x,hx,hxm⟩:=Q1g a0 a1
 rw [hx]
 simp only [U0]
 obtain ⟨E,V,g1,g2,g3⟩:=W5j hb hl (p:=p+2) (by omega)
 generalize pk24 ⟨b,0⟩ (p+1)=v at h
 have dn:∀ (G:List GFun),G.length=F.length→Mok b (G,⟨b,((p+2:Nat):Int)⟩):=fun G hG=>⟨by simp only;omega,p+2,E,V,rfl,g1,g3,by omega⟩
 refine Ret.ite (fun _=>.some (dn _ (by simp))) (fun h1=>?_)
 rw [Q9] at h1
 rw [if_pos (by rw [Q7];omega)]
 refine Ret.ite (fun h0=>?_) (fun _=>.some (dn _ rfl))
 rw [W0] at h0
 simp only [lenZ] at h0
 obtain ⟨e,he,hem⟩:=Q1g (xs:=x.bodies) (i:=0) (by omega) (by omega)
 rw [he]
 simp only [U0]
 refine Ret.bind (Z37 hb hl g3 g1 (E-(p+2)) NN e (p+2) (100+(p+2)) 3 (Nat.le_refl _) (by simp only [NN];omega) (Nat.le_refl _) (Z11 (by omega) e (hF.wid x hxm e hem)) (by omega) (by omega)) (fun c hc=>?_)
 obtain ⟨p1,e1,e2,e3,e4,e5⟩:=hc
 rw [e1]
 refine Ret.bind (Z37 hb hl g3 g1 (E-p1) NN c.1 p1 _ 2 (Nat.le_refl _) (by simp only [NN];omega) (by omega) e5 (by omega) (by omega)) (fun d hd=>?_)
 obtain ⟨p2,f1,f2,f3,f4,f5⟩:=hd
 exact .some ⟨by simp only [List.length_set];omega,p2,E,V,f1,g1,g3,by omega⟩
theorem W78 {b:List Int}(hb:∀ x∈b,0≤x∧x≤255)(hl:b.length≤2000){p:Nat}(hp:p≤4000){F:List GFun}(hF:FD F):Ret (Q3d NN ⟨b,(p:Int)⟩ F) (Mok b):=by
 unfold Q3d
 by_cases h:pk24 ⟨b,0⟩ (p+1)=1∨pk24 ⟨b,0⟩ (p+1)=2
 ·rw [X90 hb hl hp hF h]
  exact X8y hb hl hp hF h
 ·obtain ⟨r,e,hr⟩:=X8z hb hl hp hF (fun h1=>h (.inl h1)) (fun h1=>h (.inr h1))
  rw [e]
  exact ⟨r,rfl,hr⟩
theorem W0k {i:Nat}(h:i<7):Z8u i=some (Q4e.getD i [],true):=by
 match i,h with
 | 0,_=>exact V37
 | 1,_=>exact V36
 | 2,_=>exact V35
 | 3,_=>exact V34
 | 4,_=>exact V33
 | 5,_=>exact V32
 | 6,_=>exact V31
theorem X5d {i:Nat}(h:i<7):Q4e.getD i []∈Q4e:=by
 match i,h with
 | 0,_=>simp [Q4e]
 | 1,_=>simp [Q4e]
 | 2,_=>simp [Q4e]
 | 3,_=>simp [Q4e]
 | 4,_=>simp [Q4e]
 | 5,_=>simp [Q4e]
 | 6,_=>simp [Q4e]
theorem W76 {i:Nat}(h:i<7):okF i=true:=by
 match i,h with
 | 0,_=>exact okF0
 | 1,_=>exact okF1
 | 2,_=>exact okF2
 | 3,_=>exact okF3
 | 4,_=>exact okF4
 | 5,_=>exact okF5
 | 6,_=>exact okF6
structure FW (w:List Q2) (F:List GFun):Prop where
 fd:FD F
 ty:∀ f∈F,f.typ.arg∈tys w∧depP w f.typ.arg≠0
theorem W88 {w:List Q2}{F:List GFun}(h:chkF w F=true):FW w F:=by
 unfold chkF at h
 simp only [Bool.and_eq_true,decide_eq_true_eq,List.all_eq_true] at h
 obtain ⟨⟨h1,h2⟩,h3⟩:=h
 refine ⟨⟨h1,h2,fun f hf=>?_,fun f hf=>(h3 f hf).1.2,fun f hf e he=>X3x 3 e ((h3 f hf).2 e he)⟩,fun f hf=>?_⟩
 ·obtain ⟨⟨⟨⟨⟨a1,a2⟩,a3⟩,a4⟩,a5⟩,a6⟩:=h3 f hf
  omega
 ·obtain ⟨⟨⟨⟨⟨a1,a2⟩,a3⟩,a4⟩,a5⟩,a6⟩:=h3 f hf
  exact ⟨a1,by omega⟩
theorem W4g {b:List Int}(hb:∀ x∈b,0≤x∧x≤255)(hl:b.length≤2000){p:Nat}(hp:p≤4000):Ret (Q4h NN ⟨b,(p:Int)⟩) (fun a=>a.1∈Q4e∧FW a.1 a.2.1∧a.2.2=⟨b,((p+2:Nat):Int)⟩):=by
 unfold Q4h
 cases hP:Y8 with
 | none=>
  have:=lenP
  rw [hP] at this
  cases this
 | some P=>
  have hPl:P.length=7:=by
   have:=lenP
   rw [hP] at this
   simpa using this
  simp only [U0]
  refine Ret.bind (X02 hb hl (by omega) (k:=lenZ P.length) (by simp only [lenZ];omega) (by simp only [lenZ];omega)) (fun a ha=>?_)
  obtain ⟨a0,a1,a2⟩:=ha
  simp only [lenZ] at a1
  obtain ⟨i,hi⟩:=Int.eq_ofNat_of_zero_le a0
  have hi7:i<7:=by omega
  have hok:=W76 hi7
  have hw:=W0k hi7
  have hwm:=X5d hi7
  unfold Z8u at hw
  obtain ⟨T,hT,hw⟩:=bindE hw
  obtain ⟨x,hx,hw⟩:=bindE hw
  rw [hT,hi]
  simp only [U0]
  rw [hx]
  simp only [U0]
  rw [hw]
  simp only [U0]
  obtain ⟨X,hX,_⟩:=Q1g (xs:=P) (i:=(i:Int)) (by omega) (by omega)
  rw [hX]
  simp only [U0]
  unfold okF at hok
  simp only [Bool.and_eq_true,decide_eq_true_eq,List.all_eq_true,List.mem_range] at hok
  obtain ⟨⟨k1,k2⟩,k3⟩:=hok
  have hlen:lenF i=X.length:=by
   unfold lenF
   rw [hP]
   simp only [U0]
   rw [hX]
   rfl
  rw [hlen] at k1 k2 k3
  rw [a2]
  refine Ret.bind (X02 hb hl (by omega) (k:=lenZ X.length) (by simp only [lenZ];omega) (by simp only [lenZ];omega)) (fun c hc=>?_)
  obtain ⟨c0,c1,c2⟩:=hc
  simp only [lenZ] at c1
  obtain ⟨j,hj⟩:=Int.eq_ofNat_of_zero_le c0
  have hq:=k3 j (by omega)
  unfold V38 at hq
  rw [hP] at hq
  simp only [U0] at hq
  rw [hX] at hq
  simp only [U0] at hq
  obtain ⟨y,hy,_⟩:=Q1g (xs:=X) (i:=(j:Int)) (by omega) (by omega)
  rw [hj,hy]
  rw [hy] at hq
  simp only [U0] at hq ⊢
  cases hr:Q3e NN (Q4e.getD i []) y with
  | none=>rw [hr] at hq;cases hq
  | some r=>
   rw [hr] at hq
   simp only [U0]
   exact .some ⟨hwm,W88 hq,c2⟩
theorem Z7g (code:List Int)(hb:∀ x∈code,0≤x∧x≤255):Ret (Q3j NN code) (fun a=>a.1∈Q4e∧a.2.1.length≤1000∧-1≤a.2.2.1∧a.2.2.1≤4):=by
 unfold Q3j
 refine Ret.bind (W2t code hb) (fun r hr=>?_)
 obtain ⟨⟨r1,r2,r3,r4⟩,r5⟩:=hr
 obtain ⟨b,q⟩:=r
 simp only at r1 r2 r5
 subst r5
 refine Ret.bind (W4g r1 r2 (p:=0) (by omega)) (fun a ha=>?_)
 obtain ⟨hw,hF,a3⟩:=ha
 have hW:=ww hw
 have hf1:=hF.fd.l1
 have hf4:=hF.fd.l4
 rw [a3]
 refine Ret.bind (X02 r1 r2 (by omega) (k:=lenZ a.2.1.length) (by simp only [lenZ];omega) (by simp only [lenZ];omega)) (fun c hc=>?_)
 obtain ⟨c0,c1,c2⟩:=hc
 simp only [lenZ] at c1
 obtain ⟨x,hx,hxm⟩:=Q1g c0 c1
 rw [hx,hW.tab]
 simp only [U0]
 rw [c2]
 refine Ret.bind (numN r1 r2 (by omega) _ (by simp) (by simp)) (fun d hd=>?_)
 obtain ⟨d1,d2⟩:=hd
 have hd4:1≤d.1∧d.1≤4:=by
  simp at d1
  omega
 rw [d2]
 obtain ⟨t1,t2⟩:=hF.ty x hxm
 have hdep:=(hW.ty _ t1).d4
 refine Ret.bind ((W4h hW 4 NN ⟨b,((0+2+1+1:Nat):Int)⟩ _ d.1 t1 t2 (by omega) (by omega) (by omega) (by omega) (by decide) ⟨r1,r2,by simp only;omega,by have:Z0w 4=121:=rfl;simp only;omega⟩).both (W0l hW NN _ _ d.1 t1)) (fun e he=>?_)
 obtain ⟨e1,e2⟩:=he
 obtain ⟨v,bb,q⟩:=e
 have g1:bb=b:=e1.b
 have g2:=e1.le
 have g3:=e1.ge
 simp only at g2 g3 e2
 subst g1
 have:Z0w 4=121:=rfl
 obtain ⟨q,rfl⟩:=Int.eq_ofNat_of_zero_le (show 0≤q by omega)
 refine Ret.ctl (R:=fun _=>False) (B:=fun (s:X3×Int)=>(∃ k:Nat,s.1=⟨bb,(k:Int)⟩∧k≤4000)∧-1≤s.2∧s.2≤4) ?_ (fun r hr=>hr.elim) (fun s hs=>?_)
 ·refine Ret.bind (X02 r1 r2 (by omega) (by omega) (by omega)) (fun g hg=>?_)
  obtain ⟨_,_,hg⟩:=hg
  refine Ret.ite (fun _=>?_) (fun _=>.some ⟨⟨q+1,hg,by omega⟩,by simp only;omega,by simp only;omega⟩)
  rw [hg]
  refine Ret.bind (numN r1 r2 (by omega) _ (by simp) (by simp)) (fun h hh=>.some ⟨⟨q+2,hh.2,by omega⟩,?_⟩)
  have:=hh.1
  simp at this
  simp only
  omega
 ·obtain ⟨⟨k,k1,k2⟩,k3,k4⟩:=hs
  obtain ⟨s1,s2⟩:=s
  simp only at k1 k3 k4
  subst k1
  refine Ret.bind (W78 r1 r2 k2 hF.fd) (fun m hm=>?_)
  obtain ⟨m1,p',E,V,m2,m3,m4,m5⟩:=hm
  rw [m2]
  refine Ret.bind (X5o r1 r2 m4 m3 (E-p') NN v p' (100+p') 1 (Nat.le_refl _) (by simp only [NN];omega) (Nat.le_refl _) (Z3x (by omega) v e2) (by omega) (by omega)) (fun u hu=>?_)
  obtain ⟨p2,u1,u2,u3,u4,u5⟩:=hu
  rw [u1]
  refine Ret.bind (numN r1 r2 (by omega) _ (by simp) (by simp)) (fun z hz=>.some ⟨hw,m1,k3,k4⟩)
theorem Z1u (code:List Int)(hb:∀ x∈code,0≤x∧x≤255):Ret (Q1n NN code) (fun a=>a.1∈Q4e∧a.2.1.length≤1000∧-1≤a.2.2.1∧a.2.2.1≤4):=by
 unfold Q1n
 exact Ret.bind (Z7g code hb) (fun a ha=>.some ha)
def Q7k (w:List Q2)(F:List GFun)(f:Int)(v:Q0)(fuel:Int):Bool:=
 Z3o w F&&(decide (0≤f)&&decide (f<F.length))&&(decide (0≤fuel)&&decide (fuel≤300))&&(F[f.toNat]?).elim false fun g=>Q14 w g.typ.arg v
structure Q7s (w:List Q2) (F:List GFun) (f:Int) (v:Q0) (fuel:Int) (g:GFun):Prop where
 funs:Z3o w F=true
 f0:0≤f
 f1:f<F.length
 a0:0≤fuel
 a1:fuel≤300
 gg:F[f.toNat]?=some g
 vv:Q14 w g.typ.arg v=true
theorem Q8g {w:List Q2}{F:List GFun}{f:Int}{v:Q0}{fuel:Int}(h:Q7k w F f v fuel=true):∃ g,Q7s w F f v fuel g:=by
 simp only [Q7k,Bool.and_eq_true,decide_eq_true_eq] at h
 obtain ⟨⟨⟨h1,h2,h3⟩,h4,h5⟩,h6⟩:=h
 cases hg:F[f.toNat]? with
 | none=>rw [hg] at h6;cases h6
 | some g=>
  rw [hg] at h6
  exact ⟨g,h1,h2,h3,h4,h5,hg,h6⟩
theorem Q7s.ok {w:List Q2}{F:List GFun}{f:Int}{v:Q0}{fuel:Int}{g:GFun}(h:Q7s w F f v fuel g):Q7k w F f v fuel=true:=by
 simp only [Q7k,Bool.and_eq_true,decide_eq_true_eq]
 refine ⟨⟨⟨h.funs,h.f0,h.f1⟩,h.a0,h.a1⟩,?_⟩
 rw [h.gg]
 exact h.vv
theorem Z6z (a b c:Int):X8 a b c=some (decide (b≤a)&&decide (a≤c)):=by
 unfold X8
 by_cases h:b≤a
 ·rw [if_pos (by rw [W5];exact h)]
  simp [ile,h]
 ·rw [if_neg (by rw [W5];exact h)]
  simp [h]
theorem Z57 {w:List Q2}(hw:WW w){F:List GFun}(hF:F.length≤1000)(f:Int)(v:Q0)(fuel:Int):Q5m NN w F f v fuel=some (Q7k w F f v fuel):=by
 unfold Q5m Q7k
 rw [X2i hw hF]
 simp only [U0]
 cases h1:Z3o w F with
 | false=>rfl
 | true=>
  have hk:=Q9p h1
  rw [if_pos rfl,Z6z]
  simp only [U0]
  have e:wsub .i64 (lenZ F.length) 1=(F.length:Int)-1:=by unfold lenZ;rw [Q3q]<;>omega
  rw [e]
  by_cases h2:0≤f∧f<F.length
  ·have h3:(decide (0≤f)&&decide (f≤(F.length:Int)-1))=true:=by simp only [Bool.and_eq_true,decide_eq_true_eq];omega
   have h4:(decide (0≤f)&&decide (f<(F.length:Int)))=true:=by simp only [Bool.and_eq_true,decide_eq_true_eq];omega
   rw [h3,h4,if_pos rfl,Z6z]
   simp only [U0]
   cases h5:(decide (0≤fuel)&&decide (fuel≤300)) with
   | false=>rfl
   | true=>
    rw [if_pos rfl]
    have hg:F[f.toNat]?=some (F[f.toNat]'(by omega)):=U8 (by omega)
    rw [Q59 h2.1 hg]
    simp only [U0]
    rw [Z0n (by decide) hw (hk.2 _ (U1 hg)).arg,hg]
    simp
  ·have h3:(decide (0≤f)&&decide (f≤(F.length:Int)-1))=false:=by rw [Bool.eq_false_iff];simp only [ne_eq,Bool.and_eq_true,decide_eq_true_eq];omega
   have h4:(decide (0≤f)&&decide (f<(F.length:Int)))=false:=by rw [Bool.eq_false_iff];simp only [ne_eq,Bool.and_eq_true,decide_eq_true_eq];omega
   rw [h3,h4]
   rfl
theorem Z33 {w:List Q2}(hw:WW w){F:List GFun}(hF:F.length≤1000)(f:Int)(v:Q0)(fuel:Int):Q2s NN w F f v fuel=some (Q7k w F f v fuel):=by
 unfold Q2s Q7k
 rw [Z9n hw hF]
 simp only [U0]
 cases h1:Z3o w F with
 | false=>rfl
 | true=>
  have hk:=Q9p h1
  rw [if_pos rfl]
  by_cases h2:0≤f
  ·rw [if_pos (by rw [W5];exact h2),decide_eq_true h2]
   by_cases h3:f<F.length
   ·rw [if_pos (by rw [W0];exact h3),decide_eq_true h3]
    by_cases h4:0≤fuel
    ·rw [if_pos (by rw [W5];exact h4),decide_eq_true h4]
     by_cases h5:fuel≤300
     ·rw [if_pos (by rw [W5];exact h5),decide_eq_true h5]
      have hg:F[f.toNat]?=some (F[f.toNat]'(by omega)):=U8 (by omega)
      rw [Q59 h2 hg]
      simp only [U0]
      rw [Z4g (by decide) hw (hk.2 _ (U1 hg)).arg,hg]
      simp
     ·rw [if_neg (by rw [W5];exact h5),decide_eq_false h5]
      rfl
    ·rw [if_neg (by rw [W5];exact h4),decide_eq_false h4]
     rfl
   ·rw [if_neg (by rw [W0];exact h3),decide_eq_false h3]
    rfl
  ·rw [if_neg (by rw [W5];exact h2),decide_eq_false h2]
   rfl
def outV (q:Q0×Rn):Q0×Int:=if q.2.code=0 then (q.1,0) else (zV,q.2.code)
def Q5d (w:List Q2)(F:List GFun)(f:Int)(v:Q0)(fuel:Int):Q0×Rn:=evC w F 50 f v ⟨fuel,0,0⟩
theorem Q7s.rg {w:List Q2}{F:List GFun}{f:Int}{v:Q0}{fuel:Int}{g:GFun}(h:Q7s w F f v fuel g):Rg ⟨fuel,0,0⟩:=⟨h.a0,Int.le_refl _,by have:=h.a1;simp only;omega⟩
theorem X71 {w:List Q2}(hw:WW w){t:Q3}(ht:t∈tys w){v:Q0}(h:Q14 w t v=true):Q8z 10 v:=Z2c hw 10 t v ht (Q5h h)
theorem W64:Q8z 10 zV:=⟨by simp [zV],fun x hx=>by cases hx⟩
theorem Z3z {w:List Q2}(hw:WW w)(hf:Fit w){F:List GFun}{f:Int}{v:Q0}{fuel:Int}{g:GFun}(h:Q7s w F f v fuel g):(Q5d w F f v fuel).2.code=0→Q14 w g.typ.res (Q5d w F f v fuel).1=true∧Q8z 10 (Q5d w F f v fuel).1:=fun h0=>by
 have hk:=Q9p h.funs
 have:=Z5t hw hf hk 50 f g v ⟨fuel,0,0⟩ h.f0 h.gg h.vv rfl h0
 exact ⟨this,X71 hw (hk.2 g (U1 h.gg)).res this⟩
theorem W2s {w:List Q2}(hw:WW w)(hf:Fit w){F:List GFun}{f:Int}{v:Q0}{fuel:Int}{g:GFun}(h:Q7s w F f v fuel g):Q8z 10 (outV (Q5d w F f v fuel)).1:=by
 unfold outV
 split
 ·exact (Z3z hw hf h ‹_›).2
 ·exact W64
theorem X8l {w:List Q2}{F:List GFun}{q:Q0×Rn}(h:q.2.code=0→Q8z 10 q.1):Q17 NN (mkRn w F q.2) q.1=some ((outV q).1,(outV q).2,mkRn w F q.2):=by
 unfold Q17 outV
 by_cases hc:q.2.code=0
 ·rw [if_neg (by rw [Bool.not_eq_true',Q9];exact fun h=>h hc),Z4y 10 NN q.1 (h hc) (by decide),if_pos hc]
  rfl
 ·rw [if_pos (by rw [Bool.not_eq_true',Q9];exact hc),if_neg hc]
  rfl
theorem W2a {w:List Q2}{F:List GFun}{q:Q0×Rn}(h:q.2.code=0→Q8z 10 q.1):Q3r NN (mkSp w F q.2) q.1=some (outV q):=by
 unfold Q3r outV
 by_cases hc:q.2.code=0
 ·rw [if_neg (by rw [Bool.not_eq_true',Q9];exact fun h=>h hc),Z3f 10 NN q.1 (h hc) (by decide),if_pos hc]
  rfl
 ·rw [if_pos (by rw [Bool.not_eq_true',Q9];exact hc),if_neg hc]
  rfl
def Q6z (w:List Q2)(F:List GFun)(f:Int)(v:Q0)(fuel:Int):Q0×Int:=if Q7k w F f v fuel=true then outV (Q5d w F f v fuel) else (zV,5)
theorem Q8u {w:List Q2}(hw:WW w)(hf:Fit w){F:List GFun}(hF:F.length≤1000)(f:Int)(v:Q0)(fuel:Int):Q37 NN w F f v fuel=some (Q6z w F f v fuel):=by
 unfold Q37 Q6z
 rw [Z57 hw hF]
 simp only [U0]
 cases hr:Q7k w F f v fuel with
 | false=>rfl
 | true=>
  obtain ⟨g,h⟩:=Q8g hr
  rw [if_neg (by simp),if_pos rfl]
  show (W9 NN (mkRn w F ⟨fuel,0,0⟩) f v (50-((50:Nat):Int))).bind _=_
  rw [Z58 hw hf (Q9p h.funs) 50 (by omega) NN f g v ⟨fuel,0,0⟩ (by decide) h.f0 h.gg h.vv rfl h.rg]
  simp only [U0]
  rw [X8l (q:=evC w F 50 f v ⟨fuel,0,0⟩) (fun h0=>(Z3z hw hf h h0).2)]
  rfl
theorem Z16 {w:List Q2}(hw:WW w)(hf:Fit w){F:List GFun}(hF:F.length≤1000)(f:Int)(v:Q0)(fuel:Int):Q45 NN w F f v fuel=some (Q6z w F f v fuel):=by
 unfold Q45 Q6z
 rw [Z33 hw hF]
 simp only [U0]
 cases hr:Q7k w F f v fuel with
 | false=>rfl
 | true=>
  obtain ⟨g,h⟩:=Q8g hr
  rw [if_neg (by simp),if_pos rfl]
  show (Q05 NN (mkSp w F ⟨fuel,0,0⟩) f v ((50:Nat):Int)).bind _=_
  rw [Z4i hw hf (Q9p h.funs) 50 (by omega) NN f g v ⟨fuel,0,0⟩ (by decide) h.f0 h.gg h.vv rfl h.rg]
  simp only [U0]
  rw [W2a (q:=evC w F 50 f v ⟨fuel,0,0⟩) (fun h0=>(Z3z hw hf h h0).2)]
  rfl
theorem Z86 {w:List Q2}(hw:WW w)(hf:Fit w)(F:List GFun)(f:Int)(v:Q0)(fuel:Int):W2 NN (Q6z w F f v fuel).1 (Q6z w F f v fuel).1=some true:=by
 refine Z6e 10 NN _ ?_ (by decide)
 unfold Q6z
 split
 ·obtain ⟨g,h⟩:=Q8g ‹_›
  exact W2s hw hf h
 ·exact W64
theorem X04 {w:List Q2}{F:List GFun}{f:Int}{v:Q0}{fuel:Int}(h:(Q6z w F f v fuel).2≠5):∃ g,Q7s w F f v fuel g:=by
 unfold Q6z at h
 split at h
 ·exact Q8g ‹_›
 ·exact absurd rfl h
theorem X44 {w:List Q2}{F:List GFun}{f:Int}{v:Q0}{fuel:Int}{g:GFun}(h:Q7s w F f v fuel g)(hc:(Q5d w F f v fuel).2.code≠2):Q5d w F f v 300=((Q5d w F f v fuel).1,(Q5d w F f v fuel).2.more (300-fuel)):=by
 have:=W4d w F (n:=300-fuel) (by have:=h.a1;omega) 50 f v ⟨fuel,0,0⟩ h.a0 rfl hc
 unfold Q5d
 rw [←this]
 show evC w F 50 f v ⟨300,0,0⟩=evC w F 50 f v ⟨fuel+(300-fuel),0,0⟩
 rw [show fuel+(300-fuel)=300 by omega]
theorem Q7s.more {w:List Q2}{F:List GFun}{f:Int}{v:Q0}{fuel:Int}{g:GFun}(h:Q7s w F f v fuel g):Q7s w F f v 300 g:=⟨h.funs,h.f0,h.f1,by omega,by omega,h.gg,h.vv⟩
end Go.Proofs.YtenmmbjgnlflnaaGreat
