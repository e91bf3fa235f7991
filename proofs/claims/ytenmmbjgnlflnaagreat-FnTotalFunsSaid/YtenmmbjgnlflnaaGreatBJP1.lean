import Derived.Test.YtenmmbjgnlflnaaGreatBJP0
import Derived.Test.YtenmmbjgnlflnaaGreatBJZ0
set_option linter.unusedSimpArgs false
set_option linter.unusedVariables false
namespace Go.Proofs.YtenmmbjgnlflnaaGreat
open Go Go.RowKit
def mkRn (w:List Q4)(F:List GFun)(s:Rn):Q06:=Q06.mk w F s.fuel s.count 0 s.code F
def mkSp (w:List Q4)(F:List GFun)(s:Rn):Q05:=Q05.mk w F [] s.fuel s.count 0 s.code
def Rg (s:Rn):Prop:=0≤s.fuel∧0≤s.count∧s.count+s.fuel≤1000
theorem Rg.acc {s r:Rn}(h:Rg s)(k:Acc s r):Rg r:=⟨k.2.2.1,by have:=h.2.1;have:=k.1;have:=k.2.1;omega,by have:=h.2.2;have:=k.1;omega⟩
def BOk (vars:List Q5)(l:List X1):Prop:=(l.map (·.var)).Nodup∧∀ x v,vars.find? (fun v=>decide (v.var=x))=some v→∃ b∈l,b.var=x
theorem V99:BOk [] []:=⟨by simp,fun x v h=>by simp at h⟩
theorem V0h {w:List Q4}{t:Q2}{p:Q0}(hp:Q4j w t p=true){v:Q1}{l:List X1}(hm:X7 10 p v=some l):BOk (Q0x w 10 t p) (Q90 l):=by
 obtain ⟨g,_,ln⟩:=Q15 hp
 have hb:=Q6h g ln hm
 refine ⟨((Q53 hb.rg).map _).nodup_iff.2 hb.nd,fun x u hu=>?_⟩
 have hx:=List.find?_some hu
 simp only [decide_eq_true_eq] at hx
 obtain ⟨b,h1,h2⟩:=U11.1 ((Z4i 10 t p g ln v l hm).mem_iff.2 (List.mem_map_of_mem (List.mem_of_find?_eq_some hu)))
 exact ⟨b,(Q53 hb.rg).mem_iff.2 h1,by omega⟩
theorem X73 {w:List Q4}{T:List Z0}{vars:List Q5}{t:Q2}(hT:WT w t){e:Z1}(h:Q4a w T vars t e=true):(Y9 w T t e).length≤3:=by
 unfold Y9
 split
 ·exact hT.al _ (V2p h ‹_›).2
 split
 ·simp
 split<;>simp
theorem W2y {ev:Q2→Z1→Rn→Q1×Rn}{ts:List Q2}{es:List Z1}{k:Nat}{t:Q2}{e:Z1}(ht:ts[k]?=some t)(he:es[k]?=some e)(s:Rn) :
  evK ev (ts.drop k) (es.drop k) s=if (ev t e s).2.code=0 then ((ev t e s).1::(evK ev (ts.drop (k+1)) (es.drop (k+1)) (ev t e s).2).1,(evK ev (ts.drop (k+1)) (es.drop (k+1)) (ev t e s).2).2) else ([],(ev t e s).2):=by
 rw [Z44 ht,Z44 he,evK]
def V6u (w:List Q4)(F:List GFun)(k:Nat):Prop:=∀ (n:Nat) (f:Int) (g:GFun) (v:Q1) (s:Rn),1000+30 * k≤n→0≤f→F[f.toNat]?=some g→Q0z w g.typ.arg v=true→s.code=0→Rg s→
  Q0a n (mkRn w F s) f v (50-(k:Int))=some ((evC w F k f v s).1,mkRn w F (evC w F k f v s).2)
theorem X0t {w:List Q4}(hw:WW w)(hf:Fit w){F:List GFun}(hF:Z17 w F){k:Nat}(hk:k≤50)(hcl:V6u w F k){vars:List Q5}{l:List X1}(hl:Z8m w vars l)(hb:BOk vars l)(hll:l.length≤1000) :
  ∀ (d n:Nat) (t:Q2) (e:Z1) (s:Rn),1000+30 * k+d≤n→t∈tys w→Q5e w (F.map (·.typ)) vars d t e=true→s.code=0→Rg s→
  Y5 n (mkRn w F s) t e l (50-(k:Int))=some ((evE w (F.map (·.typ)) (evC w F k) l d t e s).1,mkRn w F (evE w (F.map (·.typ)) (evC w F k) l d t e s).2):=by
 intro d
 induction d with
 | zero=>intro n t e s _ _ h;cases h
 | succ d ih=>
  intro n t e s hn ht h hs hr
  obtain ⟨n,rfl⟩:∃ m,n=m+1:=⟨n-1,by omega⟩
  obtain ⟨hnd,hlen⟩:=Q87 h
  have hT:=hw.ty t ht
  have hkt:=Z0i hw (Z6e hF) ht hnd
  have hkl:=X73 hT hnd
  suffices hsu:Ret (Y5 (n+1) (mkRn w F s) t e l (50-(k:Int))) (fun r=>r=((evE w (F.map (·.typ)) (evC w F k) l (d+1) t e s).1,mkRn w F (evE w (F.map (·.typ)) (evC w F k) l (d+1) t e s).2)) by
   obtain ⟨a,e,rfl⟩:=hsu
   exact e
  unfold Y5
  rw [evE]
  by_cases h1:e.op=1
  ·rw [if_pos (by rw [Q8];exact h1),if_pos h1]
   exact .some rfl
  rw [if_neg (by rw [Q8];exact h1),if_neg h1]
  by_cases h2:e.op=2
  ·rw [if_pos (by rw [Q8];exact h2),if_pos h2]
   obtain ⟨u,hu,_⟩:=V7v hnd h2
   obtain ⟨b,hbm,hbv⟩:=hb.2 _ u hu
   obtain ⟨i,hi,hh⟩:=Q6b l (fun a0=>Q1h a0 e) (fun b=>decide (b.var=e.n)) (fun b _=>by unfold Q1h;rw [ieqD])
   rw [show Q1x l (fun a0=>Q1h a0 e)=some i from hi]
   simp only [U0]
   rcases hh with ⟨j,c,rfl,g1,g2⟩ | ⟨_,g2⟩
   ·rw [Q00 g1]
    simp only [U0]
    have hfd:=Z9g hb.1 (U1 g1) (by simpa using g2)
    refine .some ?_
    unfold Z7x
    rw [hfd]
    rfl
   ·have:=g2 b hbm
    simp [hbv] at this
  rw [if_neg (by rw [Q8];exact h2),if_neg h2]
  refine Ret.ctl (R:=fun _=>False) (B:=fun ts=>ts=Y9 w (F.map (·.typ)) t e) ?_ (fun r hr=>hr.elim) (fun ts hts=>?_)
  ·rcases Z4h hnd with ho | ho | ho | ho | ho
   ·exact absurd ho h1
   ·exact absurd ho h2
   ·rw [if_pos (by rw [Q8];exact ho)]
    show Ret ((Q04 w t e.ctor).bind _) _
    rw [hT.a2 _ (V2p hnd ho).2]
    exact .some (by simp [Y9,ho])
   ·rw [if_neg (by rw [Q8];omega),if_pos (by rw [Q8];exact ho)]
    exact .some (by simp [Y9,ho])
   ·rw [if_neg (by rw [Q8];omega),if_neg (by rw [Q8];omega)]
    obtain ⟨n0,n1,f,hfn,_⟩:=X9o hnd ho
    obtain ⟨g,hg,rfl,_⟩:=Z7f hF hfn
    show Ret ((idx F e.n).bind _) _
    rw [Q7b n0 hg]
    refine .some ?_
    show [g.typ.arg]=_
    simp only [Y9,show ¬e.op=3 by omega,show ¬e.op=4 by omega,ho,if_true,if_false,hfn]
    rfl
  subst hts
  generalize hqe:evK (evE w (F.map (·.typ)) (evC w F k) l d) (Y9 w (F.map (·.typ)) t e) e.kids s=q
  have hacc:=W0z w (F.map (·.typ)) (W9z w F k) l d
  refine Ret.ctl (Z4 e.kids (fun i (z:Q06×List Q1)=>∃ si:Rn,z.1=mkRn w F si∧si.code=0∧Rg si∧z.2.length=i∧q=(z.2++(evK (evE w (F.map (·.typ)) (evC w F k) l d) ((Y9 w (F.map (·.typ)) t e).drop i) (e.kids.drop i) si).1,(evK (evE w (F.map (·.typ)) (evC w F k) l d) ((Y9 w (F.map (·.typ)) t e).drop i) (e.kids.drop i) si).2))
    (fun r:Q1×Q06=>q.2.code≠0∧r=(zV,mkRn w F q.2)) (fun z=>z=(mkRn w F q.2,q.1)∧q.2.code=0∧Rg q.2) ⟨s,rfl,hs,hr,rfl,by rw [←hqe];simp⟩ (fun i x z hx hI=>?_) (fun z hI=>?_)) (fun r hr=>.some ?_) (fun z hz=>?_)
  ·obtain ⟨si,e1,e2,e3,e4,e5⟩:=hI
   have hi:=(List.getElem?_eq_some_iff.1 hx).1
   have ha:(Y9 w (F.map (·.typ)) t e)[i]?=some ((Y9 w (F.map (·.typ)) t e)[i]'(by omega)):=by simp
   rw [Q00 ha]
   simp only [U0]
   rw [e1,ih n _ x si (by omega) (hkt _ (U1 ha)) (Q5d h ha hx) e2 e3]
   simp only [U0]
   have hac:=hacc ((Y9 w (F.map (·.typ)) t e)[i]'(by omega)) x si e3.1 e2
   rw [W2y ha hx] at e5
   generalize evE w (F.map (·.typ)) (evC w F k) l d ((Y9 w (F.map (·.typ)) t e)[i]'(by omega)) x si=y at *
   by_cases hc:y.2.code=0
   ·rw [if_neg (by rw [Bool.not_eq_true',Z2];exact fun h=>h hc),V5 (by simp only [Q9,U3,U4];omega)]
    rw [if_pos hc] at e5
    exact .some ⟨y.2,rfl,hc,e3.acc hac,by simp [e4],by rw [e5];simp⟩
   ·rw [if_pos (by rw [Bool.not_eq_true',Z2];exact hc)]
    rw [if_neg hc] at e5
    refine .some ⟨by rw [e5];exact hc,by rw [e5];rfl⟩
  ·obtain ⟨si,e1,e2,e3,e4,e5⟩:=hI
   have d1:(Y9 w (F.map (·.typ)) t e).drop e.kids.length=[]:=List.drop_eq_nil_of_le (by omega)
   rw [d1,List.drop_length] at e5
   simp only [evK,List.append_nil] at e5
   rw [e5]
   exact ⟨by rw [←e1],e2,e3⟩
  ·obtain ⟨h3,rfl⟩:=hr
   rw [X4y h3]
  ·obtain ⟨rfl,hq0,hqr⟩:=hz
   dsimp only
   have hqv:=Z1p (w:=w) (ev:=evE w (F.map (·.typ)) (evC w F k) l d) (Y9 w (F.map (·.typ)) t e) e.kids s hlen hs (fun j a x s' ha hx hs'=>Z1q hw hf hF (Z1r hw hf hF k) hl d a x s' (hkt a (U1 ha)) (Q5d h ha hx) hs')
   rw [hqe] at hqv
   have hqv:=hqv hq0
   rcases Z4h hnd with ho | ho | ho | ho | ho
   ·exact absurd ho h1
   ·exact absurd ho h2
   ·rw [if_neg (by rw [Q8];omega),if_pos (by rw [Q8];exact ho),W9m hq0 ho]
    show Ret ((Q2u n w t (Q1.mk e.ctor 0 q.1)).bind _) _
    rw [Z2f (by omega) hw ht]
    simp only [U0]
    cases hv:Q0z w t (Q1.mk e.ctor 0 q.1) with
    | false=>exact .some rfl
    | true=>exact .some rfl
   ·rw [if_pos (by rw [Q8];exact ho),V6i hq0 ho]
    have hk4:Y9 w (F.map (·.typ)) t e=[t,t]:=by simp [Y9,ho]
    rw [hk4] at hqv
    match hq1:q.1,hqv with
    | [a,b],hqv=>
     have ha:=Z5l (V2o hnd ho) hqv.1
     have hb:=Z5l (V2o hnd ho) hqv.2.1
     show Ret ((idx [a,b] 0).bind _) _
     rw [show (0:Int)=((0:Nat):Int) from rfl,Q00 (xs:=[a,b]) (i:=0) rfl]
     simp only [U0]
     rw [show (1:Int)=((1:Nat):Int) from rfl,Q00 (xs:=[a,b]) (i:=1) rfl]
     simp only [U0]
     rw [J9 (by omega) (by omega)]
     refine .some ?_
     have:wrem (a.n+b.n) 10=(a.n+b.n) % 10:=by
      unfold wrem
      rw [Int.tmod_eq_emod_of_nonneg (by omega)]
     rw [this]
     rfl
   ·rw [if_neg (by rw [Q8];omega),if_neg (by rw [Q8];omega),W9l hq0 (by omega) (by omega)]
    obtain ⟨n0,n1,f,hfn,_⟩:=X9o hnd ho
    obtain ⟨g,hg,rfl,_⟩:=Z7f hF hfn
    have hk5:Y9 w (F.map (·.typ)) t e=[g.typ.arg]:=by
     simp only [Y9,show ¬e.op=3 by omega,show ¬e.op=4 by omega,ho,if_true,if_false,hfn]
     rfl
    rw [hk5] at hqv
    match hq1:q.1,hqv with
    | [v],hqv=>
     show Ret ((idx [v] 0).bind _) _
     rw [show (0:Int)=((0:Nat):Int) from rfl,Q00 (xs:=[v]) (i:=0) rfl]
     simp only [U0]
     rw [hcl n e.n g v q.2 (by omega) n0 hg hqv.1 hq0 hqr]
     exact .some rfl
theorem X0u {w:List Q4}(hw:WW w)(hf:Fit w){F:List GFun}(hF:Z17 w F):∀ k:Nat,k≤50→V6u w F k:=by
 intro k
 induction k with
 | zero=>
  intro _ n f g v s hn h0 hg hv hs hr
  obtain ⟨n,rfl⟩:∃ m,n=m+1:=⟨n-1,by omega⟩
  unfold Q0a
  by_cases h1:s.fuel=0
  ·rw [if_pos (by rw [Q8];exact h1)]
   simp [Q0m,evC,h1,mkRn,zV]
  ·rw [if_neg (by rw [Q8];exact h1),if_pos (by rw [Q8];omega)]
   simp [Q0m,evC,h1,mkRn,zV]
 | succ k ih=>
  intro hk50 n f g v s hn h0 hg hv hs hr
  obtain ⟨n,rfl⟩:∃ m,n=m+1:=⟨n-1,by omega⟩
  have gok:=hF.2 g (U1 hg)
  unfold Q0a
  by_cases h1:s.fuel=0
  ·rw [if_pos (by rw [Q8];exact h1)]
   simp [Q0m,evC,h1,mkRn,zV]
  ·rw [if_neg (by rw [Q8];exact h1),if_neg (by rw [Q8];omega)]
   simp only [evC,if_neg h1]
   rw [hg]
   simp only
   have hch:Q2n n f v (mkRn w F s).choose=some ((runR (runD v 0 g.clauses)).1,(runR (runD v 0 g.clauses)).2,0):=by
    show Q2n n f v F=_
    unfold Q2n
    rw [Q7b h0 hg]
    simp only [U0]
    rw [W87 (by omega) hw gok.arg (Q6w gok.cls).2 (Q2g hv) (by omega)]
    rfl
   rw [hch]
   simp only [U0]
   have w1:wsub .i64 (mkRn w F s).fuel 1=s.fuel-1:=by show wsub .i64 s.fuel 1=_;have:=hr.1;have:=hr.2.1;have:=hr.2.2;rw [Q3v]<;>omega
   have w2:wadd .i64 (mkRn w F s).count 1=s.count+1:=by show wadd .i64 s.count 1=_;have:=hr.1;have:=hr.2.1;have:=hr.2.2;rw [J9]<;>omega
   have w3:wadd .i64 (mkRn w F s).tests 0=0:=rfl
   rw [w1,w2,w3]
   cases hrd:runD v 0 g.clauses with
   | none=>
    rw [if_pos (by rw [Z5];show (-1:Int)<0;omega)]
    rfl
   | some x=>
    rw [if_neg (by rw [Z5];show ¬((x.1:Nat):Int)<0;omega)]
    show ((idx F f).bind _)=_
    rw [Q7b h0 hg]
    simp only [U0]
    obtain ⟨c,e,b,e1,e2,e3,e4,e5,e6,e7⟩:=X1w hw gok hv hrd
    show ((idx g.bodies ((x.1:Nat):Int)).bind _)=_
    rw [Q00 e2]
    simp only [U0]
    have w4:wadd .i64 (50-((k+1:Nat):Int)) 1=50-(k:Int):=by rw [J9]<;>omega
    rw [w4]
    have hbo:=V0h e5 e3
    rw [←e4] at hbo
    have hbl:x.2.length≤1000:=by
     rw [e4,(Q53 (Q6h (Q15 e5).1 (Q15 e5).2.2 e3).rg).length_eq]
     have:=(Q6h (Q15 e5).1 (Q15 e5).2.2 e3).ln
     omega
    have hr1:Rg ⟨s.fuel-1,s.count+1,s.code⟩:=⟨by have:=hr.1;simp only;omega,by have:=hr.2.1;simp only;omega,by have:=hr.2.2;simp only;omega⟩
    have:=X0t hw hf hF (by omega) (ih (by omega)) e7 hbo hbl 10 n g.typ.res e ⟨s.fuel-1,s.count+1,s.code⟩ (by omega) gok.res (Q3w e6) hs hr1
    rw [List.getD_eq_getElem?_getD,e2]
    show ((Y5 n (mkRn w F ⟨s.fuel-1,s.count+1,s.code⟩) g.typ.res e x.2 (50-(k:Int))).bind _)=_
    rw [this]
    rfl
theorem X98 (l:List X1)(x:Int):Q68 l x=some (Z7x l x):=by
 suffices hs:Ret (Q68 l x) (fun r=>r=Z7x l x) by
  obtain ⟨a,e,rfl⟩:=hs
  exact e
 unfold Q68
 refine Ret.ctl (Z4 l (fun k _=>l.find? (fun b=>decide (b.var=x))=(l.drop k).find? (fun b=>decide (b.var=x))) (fun r=>r=Z7x l x) (fun _=>Z7x l x=zV) rfl (fun k b s hb hI=>?_) (fun s hI=>?_)) (fun r hr=>.some hr) (fun s hs=>.some hs.symm)
 ·rw [Z44 hb,List.find?_cons] at hI
  refine Ret.ite (fun h=>.some ?_) (fun h=>.some ?_)
  ·rw [Q8] at h
   unfold Z7x
   rw [hI,decide_eq_true h]
   rfl
  ·rw [Z2] at h
   rw [decide_eq_false h] at hI
   exact hI
 ·rw [List.drop_length] at hI
  unfold Z7x
  rw [hI]
  rfl
def V6t (w:List Q4)(F:List GFun)(k:Nat):Prop:=∀ (n:Nat) (f:Int) (g:GFun) (v:Q1) (s:Rn),1000+40 * k≤n→0≤f→F[f.toNat]?=some g→Q0z w g.typ.arg v=true→s.code=0→Rg s→
  Q2s n (mkSp w F s) f v (k:Int)=some (mkSp w F (evC w F k f v s).2,(evC w F k f v s).1)
theorem X96 {w:List Q4}{F:List GFun}{n:Nat}{l:List X1}{k:Nat}{ev:Q2→Z1→Rn→Q1×Rn}(hacc:∀ t e (s:Rn),0≤s.fuel→s.code=0→Acc s (ev t e s).2){ts:List Q2}{es:List Z1}(hlen:es.length=ts.length)(hl3:ts.length≤3){s:Rn}(hs:s.code=0)(hr:Rg s)
  (hev:∀ (j:Nat) (t:Q2) (e:Z1) (s:Rn),ts[j]?=some t→es[j]?=some e→s.code=0→Rg s→Q0u n (mkSp w F s) t e l (k:Int)=some (mkSp w F (ev t e s).2,(ev t e s).1)) :
  Ret (Q3i (n+1) (mkSp w F s) ts es l (k:Int)) (fun r=>r.1=mkSp w F (evK ev ts es s).2∧Rg (evK ev ts es s).2∧((evK ev ts es s).2.code=0→r.2=(evK ev ts es s).1)):=by
 generalize hqe:evK ev ts es s=q
 unfold Q3i
 refine Ret.ctl (Z4 es (fun i (z:Q05×List Q1)=>(∃ si:Rn,z.1=mkSp w F si∧si.code=0∧Rg si∧z.2.length=i∧q=(z.2++(evK ev (ts.drop i) (es.drop i) si).1,(evK ev (ts.drop i) (es.drop i) si).2))∨(z.1=mkSp w F q.2∧q.2.code≠0∧Rg q.2∧z.2.length≤i))
   (fun _=>False) (fun z=>z.1=mkSp w F q.2∧Rg q.2∧(q.2.code=0→z.2=q.1)) (.inl ⟨s,rfl,hs,hr,rfl,by rw [←hqe];simp⟩) (fun i x z hx hI=>?_) (fun z hI=>?_)) (fun r hr=>hr.elim) (fun z hz=>.some hz)
 ·have hi:=(List.getElem?_eq_some_iff.1 hx).1
  rcases hI with ⟨si,e1,e2,e3,e4,e5⟩ | ⟨e1,e2,e3,e4⟩
  ·have ha:ts[i]?=some (ts[i]'(by omega)):=by simp
   have hend:z.1.end_=0:=by rw [e1];exact e2
   rw [if_pos (by rw [Q8];exact hend),Q00 ha]
   simp only [U0]
   rw [e1,hev i _ x si ha hx e2 e3]
   simp only [U0]
   have hac:=hacc (ts[i]'(by omega)) x si e3.1 e2
   rw [W2y ha hx] at e5
   generalize ev (ts[i]'(by omega)) x si=y at *
   rw [V5 (by simp only [Q9,U3,U4];omega)]
   by_cases hc:y.2.code=0
   ·rw [if_pos hc] at e5
    exact .some (.inl ⟨y.2,rfl,hc,e3.acc hac,by simp [e4],by rw [e5];simp⟩)
   ·rw [if_neg hc] at e5
    exact .some (.inr ⟨by rw [e5],by rw [e5];exact hc,by rw [e5];exact e3.acc hac,by simp [e4]⟩)
  ·rw [if_neg (by rw [Q8,e1];exact e2)]
   exact .some ⟨e1,e3,fun h=>absurd h e2⟩
 ·rcases hI with ⟨si,e1,e2,e3,e4,e5⟩ | ⟨e1,e2,e3,e4⟩
  ·have d1:ts.drop es.length=[]:=List.drop_eq_nil_of_le (by omega)
   rw [d1,List.drop_length] at e5
   simp only [evK,List.append_nil] at e5
   rw [e5]
   exact ⟨e1,e3,fun _=>rfl⟩
  ·exact ⟨e1,e3,fun h=>absurd h e2⟩
theorem Z9x {w:List Q4}(hw:WW w)(hf:Fit w){F:List GFun}(hF:Z17 w F){k:Nat}(hk:k≤50)(hcl:V6t w F k){vars:List Q5}{l:List X1}(hl:Z8m w vars l) :
  ∀ (d n:Nat) (t:Q2) (e:Z1) (s:Rn),1000+40 * k+2 * d≤n→t∈tys w→Q5e w (F.map (·.typ)) vars d t e=true→s.code=0→Rg s→
  Q0u n (mkSp w F s) t e l (k:Int)=some (mkSp w F (evE w (F.map (·.typ)) (evC w F k) l d t e s).2,(evE w (F.map (·.typ)) (evC w F k) l d t e s).1):=by
 intro d
 induction d with
 | zero=>intro n t e s _ _ h;cases h
 | succ d ih=>
  intro n t e s hn ht h hs hr
  obtain ⟨n,rfl⟩:∃ m,n=m+2:=⟨n-2,by omega⟩
  obtain ⟨hnd,hlen⟩:=Q87 h
  have hT:=hw.ty t ht
  have hkt:=Z0i hw (Z6e hF) ht hnd
  have hkl:=X73 hT hnd
  suffices hsu:Ret (Q0u (n+2) (mkSp w F s) t e l (k:Int)) (fun r=>r=(mkSp w F (evE w (F.map (·.typ)) (evC w F k) l (d+1) t e s).2,(evE w (F.map (·.typ)) (evC w F k) l (d+1) t e s).1)) by
   obtain ⟨a,e,rfl⟩:=hsu
   exact e
  unfold Q0u
  rw [evE]
  by_cases h1:e.op=1
  ·rw [if_pos (by rw [Q8];exact h1),if_pos h1]
   exact .some rfl
  rw [if_neg (by rw [Q8];exact h1),if_neg h1]
  by_cases h2:e.op=2
  ·rw [if_pos (by rw [Q8];exact h2),if_pos h2,X98]
   exact .some rfl
  rw [if_neg (by rw [Q8];exact h2),if_neg h2]
  have hacc:=W0z w (F.map (·.typ)) (W9z w F k) l d
  have hks:=X96 (w:=w) (F:=F) (n:=n) (l:=l) (k:=k) hacc hlen hkl hs hr (fun j a x s' ha hx hs' hr'=>ih n a x s' (by omega) (hkt a (U1 ha)) (Q5d h ha hx) hs' hr')
  have hqv:=Z1p (w:=w) (ev:=evE w (F.map (·.typ)) (evC w F k) l d) (Y9 w (F.map (·.typ)) t e) e.kids s hlen hs (fun j a x s' ha hx hs'=>Z1q hw hf hF (Z1r hw hf hF k) hl d a x s' (hkt a (U1 ha)) (Q5d h ha hx) hs')
  generalize evK (evE w (F.map (·.typ)) (evC w F k) l d) (Y9 w (F.map (·.typ)) t e) e.kids s=q at *
  rcases Z4h hnd with ho | ho | ho | ho | ho
  ·exact absurd ho h1
  ·exact absurd ho h2
  ·rw [if_neg (by rw [Q8];omega),if_neg (by rw [Q8];omega)]
   have hk3:Y9 w (F.map (·.typ)) t e=W0 w t e.ctor:=by simp [Y9,ho]
   show Ret ((V2 w t e.ctor).bind _) _
   rw [hT.a1 _ (V2p hnd ho).2]
   simp only [U0]
   rw [hk3] at hks
   refine Ret.bind hks (fun r hr2=>?_)
   obtain ⟨r1,r2,r3⟩:=hr2
   have hre:r.1.end_=q.2.code:=by rw [r1];rfl
   by_cases hq0:q.2.code=0
   ·rw [W9m hq0 ho]
    have r3:=r3 hq0
    refine Ret.ctl (R:=fun _=>False) (B:=fun c=>c=if Q0z w t (Q1.mk e.ctor 0 q.1)=true then 0 else 4) ?_ (fun r hr=>hr.elim) (fun c hc=>?_)
    ·rw [if_pos (by rw [Q8,hre];exact hq0)]
     show Ret ((Q7u (n+1) w t (Q1.mk e.ctor 0 r.2)).bind _) _
     rw [Z9r (by omega) hw ht,r3]
     simp only [U0]
     cases Q0z w t (Q1.mk e.ctor 0 q.1) with
     | false=>exact .some rfl
     | true=>exact .some (by rw [hre];exact hq0)
    ·cases hv:Q0z w t (Q1.mk e.ctor 0 q.1) with
     | false=>
      rw [hv] at hc
      have hc:c=4:=hc
      subst hc
      refine .some ?_
      rw [r1]
      rfl
     | true=>
      rw [hv] at hc
      have hc:c=0:=hc
      subst hc
      refine .some ?_
      rw [r1,r3]
      show (Q05.mk w F [] q.2.fuel q.2.count 0 0,Q1.mk e.ctor 0 q.1)=(Q05.mk w F [] q.2.fuel q.2.count 0 q.2.code,Q1.mk e.ctor 0 q.1)
      rw [hq0]
   ·rw [X4y hq0]
    refine Ret.ctl (R:=fun _=>False) (B:=fun c=>c=q.2.code) ?_ (fun r hr=>hr.elim) (fun c hc=>?_)
    ·rw [if_neg (by rw [Q8,hre];exact hq0)]
     exact .some hre
    ·subst hc
     dsimp only
     rw [if_pos (by rw [Bool.not_eq_true',Z2];exact hq0)]
     refine .some ?_
     rw [r1]
     rfl
  ·rw [if_pos (by rw [Q8];exact ho)]
   have hti:=(hT.ti (V2o hnd ho)).1
   have hk4:Y9 w (F.map (·.typ)) t e=[Q2.mk (-1) 0,Q2.mk (-1) 0]:=by simp only [Y9,ho,if_true];rw [hti];rfl
   rw [hk4] at hks hqv
   refine Ret.bind hks (fun r hr2=>?_)
   obtain ⟨r1,r2,r3⟩:=hr2
   have hre:r.1.end_=q.2.code:=by rw [r1];rfl
   by_cases hq0:q.2.code=0
   ·rw [V6i hq0 ho,if_neg (by rw [Bool.not_eq_true',Z2,hre];exact fun h=>h hq0)]
    have r3:=r3 hq0
    have hqv:=hqv hq0
    rw [r3]
    match hq1:q.1,hqv with
    | [a,b],hqv=>
     have ha:=Z5l (t:=Q2.mk (-1) 0) rfl hqv.1
     have hb:=Z5l (t:=Q2.mk (-1) 0) rfl hqv.2.1
     rw [show (0:Int)=((0:Nat):Int) from rfl,Q00 (xs:=[a,b]) (i:=0) rfl]
     simp only [U0]
     rw [show (1:Int)=((1:Nat):Int) from rfl,Q00 (xs:=[a,b]) (i:=1) rfl]
     simp only [U0]
     rw [J9 (by omega) (by omega)]
     refine .some ?_
     have:wrem (a.n+b.n) 10=(a.n+b.n) % 10:=by
      unfold wrem
      rw [Int.tmod_eq_emod_of_nonneg (by omega)]
     rw [this,r1]
     rfl
   ·rw [X4y hq0,if_pos (by rw [Bool.not_eq_true',Z2,hre];exact hq0)]
    exact .some (by rw [r1];rfl)
  ·rw [if_neg (by rw [Q8];omega),if_pos (by rw [Q8];exact ho)]
   obtain ⟨n0,n1,f,hfn,_⟩:=X9o hnd ho
   obtain ⟨g,hg,rfl,_⟩:=Z7f hF hfn
   have hk5:Y9 w (F.map (·.typ)) t e=[g.typ.arg]:=by
    simp only [Y9,show ¬e.op=3 by omega,show ¬e.op=4 by omega,ho,if_true,if_false,hfn]
    rfl
   rw [hk5] at hks hqv
   show Ret ((idx F e.n).bind _) _
   rw [Q7b n0 hg]
   simp only [U0]
   refine Ret.bind hks (fun r hr2=>?_)
   obtain ⟨r1,r2,r3⟩:=hr2
   have hre:r.1.end_=q.2.code:=by rw [r1];rfl
   by_cases hq0:q.2.code=0
   ·rw [W9l hq0 (by omega) (by omega),if_neg (by rw [Bool.not_eq_true',Z2,hre];exact fun h=>h hq0)]
    have r3:=r3 hq0
    have hqv:=hqv hq0
    rw [r3]
    match hq1:q.1,hqv with
    | [v],hqv=>
     rw [show (0:Int)=((0:Nat):Int) from rfl,Q00 (xs:=[v]) (i:=0) rfl]
     simp only [U0]
     rw [r1,hcl (n+1) e.n g v q.2 (by omega) n0 hg hqv.1 hq0 r2]
     exact .some rfl
   ·rw [X4y hq0,if_pos (by rw [Bool.not_eq_true',Z2,hre];exact hq0)]
    exact .some (by rw [r1];rfl)
theorem Z9z {w:List Q4}(hw:WW w)(hf:Fit w){F:List GFun}(hF:Z17 w F):∀ k:Nat,k≤50→V6t w F k:=by
 intro k
 induction k with
 | zero=>
  intro _ n f g v s hn h0 hg hv hs hr
  obtain ⟨n,rfl⟩:∃ m,n=m+1:=⟨n-1,by omega⟩
  unfold Q2s
  by_cases h1:s.fuel=0
  ·rw [if_pos (by rw [Q8];exact h1)]
   simp [evC,h1,mkSp,zV]
  ·rw [if_neg (by rw [Q8];exact h1),if_pos (by rw [Q8];rfl)]
   simp [evC,h1,mkSp,zV]
 | succ k ih=>
  intro hk50 n f g v s hn h0 hg hv hs hr
  obtain ⟨n,rfl⟩:∃ m,n=m+1:=⟨n-1,by omega⟩
  have gok:=hF.2 g (U1 hg)
  unfold Q2s
  by_cases h1:s.fuel=0
  ·rw [if_pos (by rw [Q8];exact h1)]
   simp [evC,h1,mkSp,zV]
  ·rw [if_neg (by rw [Q8];exact h1),if_neg (by rw [Q8];omega)]
   simp only [evC,if_neg h1]
   rw [hg]
   simp only
   have w1:wsub .i64 (mkSp w F s).fuel 1=s.fuel-1:=by show wsub .i64 s.fuel 1=_;have:=hr.1;have:=hr.2.1;have:=hr.2.2;rw [Q3v]<;>omega
   have w2:wadd .i64 (mkSp w F s).calls 1=s.count+1:=by show wadd .i64 s.count 1=_;have:=hr.1;have:=hr.2.1;have:=hr.2.2;rw [J9]<;>omega
   rw [w1,w2]
   have hch:Q4g n (mkSp w F ⟨s.fuel-1,s.count+1,s.code⟩) f v=some (mkSp w F ⟨s.fuel-1,s.count+1,s.code⟩,(runR (runD v 0 g.clauses)).1,(runR (runD v 0 g.clauses)).2):=by
    unfold Q4g
    rw [if_neg (by rw [Z5];show ¬(0:Int)<0;omega)]
    show ((idx F f).bind _)=_
    rw [Q7b h0 hg]
    simp only [U0]
    rw [W71 (by omega) hw gok.arg (Q6w gok.cls).2 (Q2g hv) (by omega)]
    rfl
   show ((Q4g n (mkSp w F ⟨s.fuel-1,s.count+1,s.code⟩) f v).bind _)=_
   rw [hch]
   simp only [U0]
   cases hrd:runD v 0 g.clauses with
   | none=>
    rw [if_pos (by rw [Z5];show (-1:Int)<0;omega)]
    rfl
   | some x=>
    rw [if_neg (by rw [Z5];show ¬((x.1:Nat):Int)<0;omega)]
    show ((idx F f).bind _)=_
    rw [Q7b h0 hg]
    simp only [U0]
    obtain ⟨c,e,b,e1,e2,e3,e4,e5,e6,e7⟩:=X1w hw gok hv hrd
    show ((idx g.bodies ((x.1:Nat):Int)).bind _)=_
    rw [Q00 e2]
    simp only [U0]
    have w4:wsub .i64 ((k+1:Nat):Int) 1=(k:Int):=by rw [Q3v]<;>omega
    rw [w4]
    have hr1:Rg ⟨s.fuel-1,s.count+1,s.code⟩:=⟨by have:=hr.1;simp only;omega,by have:=hr.2.1;simp only;omega,by have:=hr.2.2;simp only;omega⟩
    have:=Z9x hw hf hF (by omega) (ih (by omega)) e7 10 n g.typ.res e ⟨s.fuel-1,s.count+1,s.code⟩ (by omega) gok.res (Q3w e6) hs hr1
    rw [List.getD_eq_getElem?_getD,e2]
    show ((Q0u n (mkSp w F ⟨s.fuel-1,s.count+1,s.code⟩) g.typ.res e x.2 (k:Int)).bind _)=_
    rw [this]
    rfl
def byt (r:X3)(i:Nat):Nat:=(r.b.getD i 0).toNat
def pk24 (r:X3)(p:Nat):Nat:=if r.b.length=0 then 0 else Zed.pkv (byt r) r.b.length p
theorem V6z {a:Nat}(h:a<1099511627776):wxor .i64 (a:Int) ((a / 64:Nat):Int)=((a ^^^ (a / 64):Nat):Int):=by
 have e:(BitVec.ofInt IntKind.i64.bits (a:Int) ^^^ BitVec.ofInt IntKind.i64.bits ((a / 64:Nat):Int)).toNat=a ^^^ (a / 64):=by
  have ha:(BitVec.ofInt IntKind.i64.bits (a:Int)).toNat=a:=by
   rw [BitVec.toNat_ofInt]
   show (((a:Int) % ((2 ^ 64:Nat):Int))).toNat=a
   omega
  have hb:(BitVec.ofInt IntKind.i64.bits ((a / 64:Nat):Int)).toNat=a / 64:=by
   rw [BitVec.toNat_ofInt]
   show ((((a / 64:Nat):Int) % ((2 ^ 64:Nat):Int))).toNat=a / 64
   omega
  rw [BitVec.toNat_xor,ha,hb]
 have hlt:a ^^^ (a / 64)<2 ^ 40:=Nat.xor_lt_two_pow (by omega) (by omega)
 unfold wxor
 rw [e,Z81 (by omega) (by omega)]
theorem X6v {r:X3}(hb:∀ x∈r.b,0≤x∧x≤255)(hl:r.b.length≤2000){p:Nat}(hp:r.p=(p:Int))(hp2:p≤30000000):Z3 r 24=some (((pk24 r p:Nat):Int),⟨r.b,((p+1:Nat):Int)⟩):=by
 have ep:wadd .i64 r.p 1=((p+1:Nat):Int):=by rw [hp,J9]<;>omega
 have eq:wsub .i64 ((p+1:Nat):Int) 1=(p:Int):=by rw [Q3v]<;>omega
 unfold Z3
 rw [ep,eq,if_neg (by rw [Z5];omega)]
 unfold pk24
 by_cases h0:r.b.length=0
 ·rw [if_pos (by rw [Q8];simp only [lenZ];omega),if_pos h0]
  rfl
 rw [if_neg (by rw [Q8];simp only [lenZ];omega),if_neg h0]
 have hpos:0<r.b.length:=by omega
 have hk0:chk (!ieq 24 0)=some ():=rfl
 have hb0:chk (!ieq (lenZ r.b.length) 0)=some ():=X1r (by rw [Bool.not_eq_true',Z2];simp only [lenZ];omega)
 have get:∀ i:Nat,i<r.b.length→idx r.b (i:Int)=some ((byt r i:Nat):Int)∧byt r i≤255:=fun i hi=>by
  have h1:r.b[i]?=some r.b[i]:=U10 hi
  obtain ⟨b1,b2⟩:=hb _ (U1 h1)
  have h2:byt r i=r.b[i].toNat:=by unfold byt;rw [List.getD_eq_getElem?_getD,h1];rfl
  rw [Q00 h1,h2]
  exact ⟨by congr 1;omega,by omega⟩
 unfold Zed.pkv
 by_cases hlt:p<r.b.length
 ·rw [if_pos (by rw [Z5];simp only [lenZ];omega),if_pos hlt]
  obtain ⟨g1,g2⟩:=get p hlt
  rw [g1,hk0]
  simp only [U0]
  rw [X2y (by omega) (by omega)]
  congr 2
 ·rw [if_neg (by rw [Z5];simp only [lenZ];omega),if_neg hlt,hb0]
  simp only [U0]
  have e7:wmul .i64 (p:Int) 7=((p * 7:Nat):Int):=by rw [Z05]<;>omega
  have e73:wadd .i64 ((p * 7:Nat):Int) 3=((p * 7+3:Nat):Int):=by rw [J9]<;>omega
  rw [e7,e73]
  have rm:∀ a:Nat,wrem (a:Int) (lenZ r.b.length)=((a % r.b.length:Nat):Int):=fun a=>by
   unfold wrem lenZ
   rw [Int.tmod_eq_emod_of_nonneg (by omega)]
   rfl
  rw [rm,rm]
  obtain ⟨g1,g2⟩:=get (p % r.b.length) (Nat.mod_lt _ hpos)
  obtain ⟨g3,g4⟩:=get ((p * 7+3) % r.b.length) (Nat.mod_lt _ hpos)
  rw [g1,g3,hk0]
  simp only [U0]
  generalize byt r (p % r.b.length)=x at g2 ⊢
  generalize byt r ((p * 7+3) % r.b.length)=y at g4 ⊢
  have f1:wcv .i64 (x:Int)=(x:Int):=X2y (by omega) (by omega)
  have f2:wcv .i64 (y:Int)=(y:Int):=X2y (by omega) (by omega)
  have f3:wmul .i64 (x:Int) 131=((x * 131:Nat):Int):=by rw [Z05]<;>omega
  have f4:wmul .i64 (y:Int) 1117=((y * 1117:Nat):Int):=by rw [Z05]<;>omega
  have f5:wmul .i64 (p:Int) 29=((p * 29:Nat):Int):=by rw [Z05]<;>omega
  have hq:p / r.b.length≤p:=Nat.div_le_self _ _
  have f6:wquo .i64 (p:Int) (lenZ r.b.length)=((p / r.b.length:Nat):Int):=by
   have:(p:Int).tdiv (lenZ r.b.length)=((p / r.b.length:Nat):Int):=by
    rw [Int.tdiv_eq_ediv_of_nonneg (by omega)]
    rfl
   generalize p / r.b.length=q at hq this ⊢
   rw [X3v (by rw [this];omega) (by rw [this];omega),this]
  rw [f1,f2,f3,f4,f5,f6]
  generalize p / r.b.length=q at hq ⊢
  have f7:wmul .i64 (q:Int) 53=((q * 53:Nat):Int):=by rw [Z05]<;>omega
  have f8:wadd .i64 ((x * 131:Nat):Int) ((y * 1117:Nat):Int)=((x * 131+y * 1117:Nat):Int):=by rw [J9]<;>omega
  have f9:wadd .i64 ((x * 131+y * 1117:Nat):Int) ((p * 29:Nat):Int)=((x * 131+y * 1117+p * 29:Nat):Int):=by rw [J9]<;>omega
  have f10:wadd .i64 ((x * 131+y * 1117+p * 29:Nat):Int) ((q * 53:Nat):Int)=((x * 131+y * 1117+p * 29+q * 53:Nat):Int):=by rw [J9]<;>omega
  rw [f7,f8,f9,f10]
  have hz:x * 131+y * 1117+p * 29+q * 53<1099511627776:=by omega
  generalize x * 131+y * 1117+p * 29+q * 53=z at hz ⊢
  have f11:wquo .i64 (z:Int) 64=((z / 64:Nat):Int):=by
   have:(z:Int).tdiv 64=((z / 64:Nat):Int):=by
    rw [Int.tdiv_eq_ediv_of_nonneg (by omega)]
    rfl
   rw [X3v (by rw [this];omega) (by rw [this];omega),this]
  rw [f11]
  have f12:wxor .i64 (z:Int) ((z / 64:Nat):Int)=((z ^^^ (z / 64):Nat):Int):=V6z hz
  rw [f12]
  unfold Zed.yv
  have:wrem ((z ^^^ (z / 64):Nat):Int) 24=(((z ^^^ (z / 64)) % 24:Nat):Int):=by
   unfold wrem
   rw [Int.tmod_eq_emod_of_nonneg (by omega)]
   rfl
  rw [this]
def widV (m:Nat):Q1→Prop
 | ⟨_,_,ks⟩=>ks.length≤m∧widVs m ks
where widVs (m:Nat):List Q1→Prop
 | []=>True
 | v::l=>widV m v∧widVs m l
theorem X5x (m:Nat):∀ l:List Q1,widV.widVs m l↔∀ x∈l,widV m x
 | []=>by simp [widV.widVs]
 | v::l=>by simp only [widV.widVs,U8,forall_eq_or_imp,X5x m l]
theorem Q9k (m:Nat)(v:Q1):widV m v↔v.kids.length≤m∧∀ x∈v.kids,widV m x:=by
 cases v
 rw [widV,X5x]
theorem Z97 {m k:Nat}(h:m≤k):∀ v:Q1,widV m v→widV k v
 | ⟨a,b,ks⟩,hv=>by
  rw [Q9k] at hv ⊢
  refine ⟨Nat.le_trans hv.1 h,fun x hx=>?_⟩
  have:=hv.2 x hx
  exact Z97 h x this
termination_by v=>SizeOf.sizeOf v
decreasing_by
 simp_wf
 have:=List.sizeOf_lt_of_mem hx
 simp at this
 omega
theorem X0d {r r':X3}{k x:Int}(h:Z3 r k=some (x,r'))(hp:r.p≤40000000):r'.p=wadd .i64 r.p 1:=by
 unfold Z3 at h
 split at h
 ·cases h;rfl
 split at h
 ·cases h;rfl
 split at h
 ·simp only [Option.bind_eq_some_iff,Option.some.injEq,Prod.mk.injEq] at h
  obtain ⟨_,_,_,_,_,rfl⟩:=h
  rfl
 ·simp only [Option.bind_eq_some_iff,Option.some.injEq,Prod.mk.injEq] at h
  obtain ⟨_,_,_,_,_,_,_,_,_,rfl⟩:=h
  rfl
theorem W3u {b:List Int}(hb:∀ x∈b,0≤x∧x≤255)(hl:b.length≤2000){E:Nat}{V:Nat→Int}(hE:E≤20000000)(hP:Zed.Pot (pk24 ⟨b,0⟩) E V):∀ (k n:Nat) (v:Q1) (p m:Nat) (P:Int),E-p≤k→k<n→m≤100+p→widV m v→1≤P→2 * P≤V p→
  Ret (Q3z n ⟨b,(p:Int)⟩ v) (fun a=>∃ p':Nat,a.2=⟨b,(p':Int)⟩∧p<p'∧p'≤E+2∧2 * (P-1)≤V p'∧widV (m+(p'-p)) a.1):=by
 intro k
 induction k with
 | zero=>
  intro n v p m P hk hn hm hv h1 h2
  have:=hP.fin p (by omega)
  omega
 | succ k ih=>
  intro n v p m P hk hn hm hv h1 h2
  obtain ⟨n,rfl⟩:∃ j,n=j+1:=⟨n-1,by omega⟩
  have hpE:p<E:=by
   rcases Nat.lt_or_ge p E with h | h
   ·exact h
   ·have:=hP.fin p h
    omega
  have hv':=(Q9k m v).1 hv
  unfold Q3z
  rw [V5 (by simp only [U4,Q9];omega)]
  simp only [U0]
  have hpk:=X6v (r:=⟨b,(p:Int)⟩) hb hl rfl (by omega:p≤30000000)
  have hpe:pk24 ⟨b,(p:Int)⟩ p=pk24 ⟨b,0⟩ p:=rfl
  rw [hpe] at hpk
  simp only at hpk
  have hr1:ROk ⟨b,((p+1:Nat):Int)⟩ 1:=⟨hb,hl,by simp only;omega,by simp only;omega⟩
  refine Ret.ctl (R:=fun _=>False) (B:=fun (s:X3×Int×Int×List Q1)=>∃ p':Nat,s.1=⟨b,(p':Int)⟩∧p<p'∧p'≤E+2∧2 * (P-1)≤V p'∧s.2.2.2.length≤m+(p'-p)∧∀ x∈s.2.2.2,widV (m+(p'-p)) x) ?_ (fun r hr=>hr.elim) (fun s hs=>?_)
  ·rw [hpk]
   simp only [U0]
   have kidsOk:∀ q:Nat,v.kids.length≤m+q∧∀ x∈v.kids,widV (m+q) x:=fun q=>⟨by omega,fun x hx=>Z97 (by omega) x (hv'.2 x hx)⟩
   have skip:pk24 ⟨b,0⟩ p≤1→∀ (a:Int×X3),Nx ⟨b,((p+1:Nat):Int)⟩ a.2 1→a.2.p=((p+2:Nat):Int)→a.2=⟨b,((p+2:Nat):Int)⟩∧2 * (P-1)≤V (p+2):=fun h a hn hp2=>by
    have:=hP.skip p hpE h
    refine ⟨?_,by omega⟩
    cases a with
    | mk x r=>
     cases r with
     | mk bb pp=>
      have e1:bb=b:=hn.b
      simp only at hp2
      rw [e1,hp2]
   have num2:∀ l:List Int,1≤l.length→l.length≤1000→Ret (X8 ⟨b,((p+1:Nat):Int)⟩ l) (fun a=>Nx ⟨b,((p+1:Nat):Int)⟩ a.2 1∧a.2.p=((p+2:Nat):Int)):=fun l hl1 hl2=>by
    obtain ⟨a,e,_,hn⟩:=V5t hr1 l hl1 hl2
    refine ⟨a,e,hn,?_⟩
    unfold X8 at e
    cases hpick:Z3 ⟨b,((p+1:Nat):Int)⟩ (lenZ l.length) with
    | none=>rw [hpick] at e;cases e
    | some q=>
     rw [hpick] at e
     simp only [U0] at e
     cases hi:idx l q.1 with
     | none=>rw [hi] at e;cases e
     | some y=>
      rw [hi] at e
      simp only [U0,Option.some.injEq] at e
      subst e
      simp only
      have:=X0d hpick (by simp only;omega)
      rw [this]
      show wadd .i64 ((p+1:Nat):Int) 1=_
      rw [J9 (by omega) (by omega)]
      omega
   refine Ret.ite (fun h0=>?_) (fun h0=>?_)
   ·rw [Q8] at h0
    refine Ret.bind (num2 _ (by simp) (by simp)) (fun a ha=>.some ?_)
    obtain ⟨e1,e2⟩:=skip (by omega) a ha.1 ha.2
    exact ⟨p+2,e1,by omega,by omega,e2,(kidsOk _).1,(kidsOk _).2⟩
   rw [Z2] at h0
   refine Ret.ite (fun h1'=>?_) (fun h1'=>?_)
   ·rw [Q8] at h1'
    refine Ret.bind (num2 _ (by simp) (by simp)) (fun a ha=>.some ?_)
    obtain ⟨e1,e2⟩:=skip (by omega) a ha.1 ha.2
    exact ⟨p+2,e1,by omega,by omega,e2,(kidsOk _).1,(kidsOk _).2⟩
   rw [Z2] at h1'
   refine Ret.ite (fun h2'=>?_) (fun h2'=>?_)
   ·rw [Q8] at h2'
    have hot:=hP.other p hpE (by omega) (by omega)
    rw [V5 (by simp only [U3,U4,Q9];omega)]
    refine .some ⟨p+1,rfl,by omega,by omega,by omega,by simp only [U5,U3,U4];omega,fun x hx=>?_⟩
    rcases U9.1 hx with hx | hx
    ·exact (kidsOk _).2 x hx
    ·simp only [List.mem_singleton] at hx
     rw [hx,Q9k]
     exact ⟨by simp,fun y hy=>by cases hy⟩
   rw [Z2] at h2'
   refine Ret.ite (fun h3=>?_) (fun h3=>?_)
   ·rw [Q8] at h3
    have hth:=hP.three p hpE (by omega)
    refine Ret.ite (fun h4=>?_) (fun h4=>?_)
    ·rw [Z5] at h4
     simp only [lenZ] at h4
     obtain ⟨x,hx,hxm⟩:=Q2d (xs:=v.kids) (i:=0) (by omega) (by omega)
     rw [hx]
     simp only [U0]
     refine Ret.bind (ih n x (p+1) m (P+1) (by omega) (by omega) (by omega) (hv'.2 x hxm) (by omega) (by omega)) (fun a ha=>?_)
     obtain ⟨p1,e1,e2,e3,e4,e5⟩:=ha
     rw [e1]
     refine Ret.bind (ih n a.1 p1 (m+(p1-(p+1))) P (by omega) (by omega) (by omega) e5 h1 (by omega)) (fun c hc=>?_)
     obtain ⟨p2,g1,g2,g3,g4,g5⟩:=hc
     have hset:setI v.kids 0 c.1=some (v.kids.set 0 c.1):=by
      unfold setI
      rw [if_pos ⟨by omega,by show 0<v.kids.length;omega⟩]
      rfl
     rw [hset]
     simp only [U0]
     refine .some ⟨p2,g1,by omega,g3,g4,by simp only [List.length_set];omega,fun y hy=>?_⟩
     rcases List.mem_or_eq_of_mem_set hy with hy | rfl
     ·exact (kidsOk _).2 y hy
     ·exact Z97 (by omega) _ g5
    ·exact .some ⟨p+1,rfl,by omega,by omega,by omega,(kidsOk _).1,(kidsOk _).2⟩
   ·rw [Z2] at h3
    have hot:=hP.other p hpE (by omega) (by omega)
    exact .some ⟨p+1,rfl,by omega,by omega,by omega,(kidsOk _).1,(kidsOk _).2⟩
  ·obtain ⟨p',e1,e2,e3,e4,e5,e6⟩:=hs
   exact .some ⟨p',e1,e2,e3,e4,(Q9k _ _).2 ⟨e5,e6⟩⟩
theorem V5r {b:List Int}(h1:∀ x∈b,0≤x∧x≤255)(h2:b.length≤2000){p:Nat}(hp:p≤5000):∃ E V,Zed.Pot (pk24 ⟨b,0⟩) E V∧6≤V p∧E≤20000000:=by
 by_cases hb:b.length=0
 ·obtain ⟨E,V,g1,g2,g3⟩:=Zed.pot0 p
  refine ⟨E,V,?_,g2,by omega⟩
  have:pk24 ⟨b,0⟩=fun _=>0:=by
   funext q
   unfold pk24
   rw [if_pos hb]
  rw [this]
  exact g1
 ·obtain ⟨E,V,g1,g2,g3⟩:=Zed.pot (byt ⟨b,0⟩) (fun i=>by
   unfold byt
   simp only
   rw [List.getD_eq_getElem?_getD]
   cases hi:b[i]? with
   | none=>simp
   | some x=>
    have:=h1 x (U1 hi)
    simp only [Option.getD_some]
    omega) (L:=b.length) (p0:=p) (by omega) h2 (by omega)
  refine ⟨E,V,?_,g2,g3⟩
  have:pk24 ⟨b,0⟩=Zed.pkv (byt ⟨b,0⟩) b.length:=by
   funext q
   unfold pk24
   rw [if_neg hb]
  rw [this]
  exact g1
set_option maxRecDepth 100000
def widE (m:Nat):Z1→Prop
 | ⟨_,_,_,ks⟩=>ks.length≤m∧widEs m ks
where widEs (m:Nat):List Z1→Prop
 | []=>True
 | v::l=>widE m v∧widEs m l
theorem X5y (m:Nat):∀ l:List Z1,widE.widEs m l↔∀ x∈l,widE m x
 | []=>by simp [widE.widEs]
 | v::l=>by simp only [widE.widEs,U8,forall_eq_or_imp,X5y m l]
theorem Q9l (m:Nat)(v:Z1):widE m v↔v.kids.length≤m∧∀ x∈v.kids,widE m x:=by
 cases v
 rw [widE,X5y]
theorem Z33 {m k:Nat}(h:m≤k):∀ v:Z1,widE m v→widE k v
 | ⟨a,b,c,ks⟩,hv=>by
  rw [Q9l] at hv ⊢
  refine ⟨Nat.le_trans hv.1 h,fun x hx=>?_⟩
  have:=hv.2 x hx
  exact Z33 h x this
termination_by v=>SizeOf.sizeOf v
decreasing_by
 simp_wf
 have:=List.sizeOf_lt_of_mem hx
 simp at this
 omega
def W3f (m:Nat):Z1→Bool
 | ⟨_,_,_,ks⟩=>decide (ks.length≤m)&&widEbs m ks
where widEbs (m:Nat):List Z1→Bool
 | []=>true
 | v::l=>W3f m v&&widEbs m l
mutual
theorem W1d (m:Nat):∀ v,W3f m v=true→widE m v
 | ⟨_,_,_,ks⟩,h=>by
  rw [W3f,Bool.and_eq_true,decide_eq_true_eq] at h
  rw [widE]
  exact ⟨h.1,X5z m ks h.2⟩
theorem X5z (m:Nat):∀ l,W3f.widEbs m l=true→widE.widEs m l
 | [],_=>by simp [widE.widEs]
 | v::l,h=>by
  rw [W3f.widEbs,Bool.and_eq_true] at h
  rw [widE.widEs]
  exact ⟨W1d m v h.1,X5z m l h.2⟩
end
def V93 (w:List Q4)(F:List GFun):Bool:=decide (1≤F.length)&&decide (F.length≤4)&&F.all fun f=>decide (f.typ.arg∈tys w)&&decide (f.typ.res∈tys w)&&decide (1≤depP w f.typ.arg)&&decide (f.clauses.length≤8)&&decide (f.bodies.length=f.clauses.length)&&f.bodies.all (W3f 3)
def Y43 (i j:Nat):Option (List GFun×Bool):=Q0l.bind fun r6=>(idx r6 (i:Int)).bind fun x7=>(idx x7 (j:Int)).bind fun x9=>Q5y NN (Q0j.getD i []) x9
def lenF (i:Nat):Nat:=((Q0l.bind fun r=>idx r (i:Int)).map List.length).getD 0
def okF (i:Nat):Bool:=decide (1≤lenF i)&&decide (lenF i≤2)&&(List.range (lenF i)).all fun j=>(Y43 i j).any fun r=>V93 (Q0j.getD i []) r.1
theorem okF0:okF 0=true:=by kernel_rfl
theorem okF1:okF 1=true:=by kernel_rfl
theorem okF2:okF 2=true:=by kernel_rfl
theorem okF3:okF 3=true:=by kernel_rfl
theorem okF4:okF 4=true:=by kernel_rfl
theorem okF5:okF 5=true:=by kernel_rfl
theorem okF6:okF 6=true:=by kernel_rfl
theorem lenP:(Q0l.map List.length)=some 7:=by kernel_rfl
def Par {α:Type}(x:Option α)(Q:α→Prop):Prop:=∀ a,x=some a→Q a
theorem Par.some {α:Type}{a:α}{Q:α→Prop}(h:Q a):Par (some a) Q:=fun b e=>by cases e;exact h
theorem Par.none {α:Type}{Q:α→Prop} : Par (none:Option α) Q:=fun b e=>by cases e
theorem Par.bind {α β:Type}{x:Option α}{f:α→Option β}{P:α→Prop}{Q:β→Prop}(hx:Par x P)(hf:∀ a,P a→Par (f a) Q):Par (x.bind f) Q:=fun b e=>by
 cases hx':x with
 | none=>rw [hx'] at e;cases e
 | some a=>rw [hx'] at e;exact hf a (hx a hx') b e
theorem Par.any {α β:Type}{x:Option α}{f:α→Option β}{Q:β→Prop}(hf:∀ a,Par (f a) Q):Par (x.bind f) Q:=Par.bind (P:=fun _=>True) (fun _ _=>trivial) fun a _=>hf a
theorem Par.ite {α:Type}{b:Bool}{x y:Option α}{Q:α→Prop}(h1:b=true→Par x Q)(h2:b=false→Par y Q):Par (if b=true then x else y) Q:=by
 cases b with
 | true=>exact h1 rfl
 | false=>exact h2 rfl
theorem Par.mono {α:Type}{x:Option α}{P Q:α→Prop}(h:∀ a,P a→Q a)(hx:Par x P):Par x Q:=fun a e=>h a (hx a e)
theorem Par.ctl {ρ σ τ:Type}{x:Option (Ctl ρ σ)}{g:Ctl ρ σ→Option τ}{R:ρ→Prop}{B:σ→Prop}{Q:τ→Prop}(h:Par x (CtlQ R B))(hr:∀ r,R r→Par (g (.ret r)) Q)(hb:∀ s,B s→Par (g (.brk s)) Q):Par (x.bind g) Q:=
 Par.bind h fun a ha=>by
  cases a with
  | ret r=>exact hr r ha
  | brk s=>exact hb s ha
  | go s=>exact ha.elim
theorem Z2o {α σ ρ:Type}{f:Nat→α→σ→Option (Ctl ρ σ)}(I:Nat→σ→Prop)(R:ρ→Prop)(B:σ→Prop):∀ (xs:List α) (i:Nat) (s0:σ),I i s0→(∀ k x s,x∈xs→I k s→Par (f k x s) (RndQ R B (I (k+1))))→(∀ s,I (i+xs.length) s→B s)→Par (forL f i xs s0) (CtlQ R B)
 | [],i,s0,h0,_,hb=>by
  unfold forL
  exact .some (hb s0 (by simpa using h0))
 | x::xs,i,s0,h0,st,hb=>by
  unfold forL
  have h1:=st i x s0 (by simp) h0
  intro a e
  cases hf:f i x s0 with
  | none=>rw [hf] at e;cases e
  | some o=>
   rw [hf] at e
   have h2:=h1 o hf
   cases o with
   | ret r=>cases e;exact h2
   | brk s=>cases e;exact h2
   | go s=>exact Z2o I R B xs (i+1) s h2 (fun k y s hy=>st k y s (by simp [hy])) (fun s hs=>hb s (by simpa [Nat.add_assoc,Nat.add_comm 1] using hs)) a e
theorem Ret.both {α:Type}{x:Option α}{P Q:α→Prop}(h:Ret x P)(k:Par x Q):Ret x (fun a=>P a∧Q a):=by
 obtain ⟨a,e,hp⟩:=h
 exact ⟨a,e,hp,k a e⟩
theorem X1z {α:Type}(xs ys:List α):Par (app xs ys) (fun z=>z=xs++ys):=fun z hz=>by
 unfold app at hz
 split at hz
 ·cases hz;rfl
 ·cases hz
theorem X9m {code:List Int}{q:X3}(h:((if (ilt 2000 (lenZ code.length))=true then ((Z06 code 2000).bind fun x8=>some (Ctl.brk (ρ:=X3) x8)) else some (Ctl.brk code)))=some (.ret q)):False:=by
 split at h
 ·cases ht:Z06 code 2000 with
  | none=>rw [ht] at h;cases h
  | some x=>rw [ht] at h;cases h
 ·cases h
theorem W5h {w:List Q4}(hw:WW w):∀ (n:Nat) (r:X3) (t:Q2) (depth:Int),t∈tys w→Par (Y7 n r w (tabP w) t depth) (fun a=>widV 3 a.1):=by
 intro n
 induction n with
 | zero=>intro r t depth _;exact .none
 | succ n ih=>
  intro r t depth ht
  have hT:=hw.ty t ht
  unfold Y7
  refine Par.ite (fun _=>?_) (fun _=>?_)
  ·exact Par.any fun a=>.some ((Q9k _ _).2 ⟨by simp,fun x hx=>by cases hx⟩)
  ·rw [hT.c1]
   simp only [U0]
   refine Par.ctl (Z2o (fun _ (s:List Int)=>∀ x∈s,x∈X2 w t) (fun _=>False) (fun s=>∀ x∈s,x∈X2 w t) (X2 w t) 0 _ (by simp) (fun k x s hx hI=>?_) (fun s hs=>hs)) (fun r hr=>hr.elim) (fun s hs=>?_)
   ·have add:Par ((app s [x]).bind fun x310=>some (Ctl.brk (ρ:=Ctl (Q1×X3) (List Int)) x310)) (CtlQ (fun _=>False) (fun s'=>∀ x∈s',x∈X2 w t)):=by
     refine Par.bind (X1z _ _) (fun z hz=>.some ?_)
     subst hz
     intro y hy
     rcases U9.1 hy with hy | hy
     ·exact hI y hy
     ·simp only [List.mem_singleton] at hy;rw [hy];exact hx
    have pass:Par (some (Ctl.brk (ρ:=Ctl (Q1×X3) (List Int)) s)) (CtlQ (fun _=>False) (fun s'=>∀ x∈s',x∈X2 w t)):=.some hI
    refine Par.ctl (R:=fun _=>False) (B:=fun (s':List Int)=>∀ x∈s',x∈X2 w t) ?_ (fun r hr=>hr.elim) (fun s' hs'=>.some hs')
    refine Par.any fun a=>Par.ite (fun _=>Par.ite (fun _=>add) (fun _=>Par.any fun b=>Par.ite (fun _=>add) (fun _=>pass))) (fun _=>pass)
   ·refine Par.any fun a=>?_
    refine Par.bind (P:=fun x=>x∈X2 w t) (fun x hx=>?_) (fun x hx=>?_)
    ·unfold idx at hx
     split at hx
     ·exact hs x (U1 hx)
     ·cases hx
    ·rw [hT.a1 x hx]
     simp only [U0]
     have hal:=hT.al x hx
     refine Par.ctl (Z2o (fun k (u:X3×List Q1)=>u.2.length≤k∧∀ y∈u.2,widV 3 y) (fun _=>False) (fun u=>u.2.length≤3∧∀ y∈u.2,widV 3 y) (W0 w t x) 0 _ (by simp) (fun k y u hy hI=>?_) (fun u hu=>⟨by have:=hu.1;omega,hu.2⟩)) (fun r hr=>hr.elim) (fun u hu=>.some ((Q9k _ _).2 hu))
     refine Par.bind (ih u.1 y _ (hT.at_ x hx y hy)) (fun b hb=>?_)
     refine Par.bind (X1z _ _) (fun z hz=>.some ?_)
     subst hz
     refine ⟨by simp only [U5,U3,U4];have:=hI.1;omega,fun q hq=>?_⟩
     rcases U9.1 hq with hq | hq
     ·exact hI.2 q hq
     ·simp only [List.mem_singleton] at hq;rw [hq];exact hb
theorem X6w (code:List Int)(hb:∀ x∈code,0≤x∧x≤255):Ret (Q3h code) (fun r=>ROk r 1000000∧r.p=0):=by
 obtain ⟨r,e,hr⟩:=V7q code hb
 refine ⟨r,e,hr,?_⟩
 unfold Q3h at e
 simp only [Option.bind_eq_some_iff] at e
 obtain ⟨o,h1,h2⟩:=e
 cases o with
 | ret q=>exact (X9m h1).elim
 | go s=>cases h2
 | brk s=>simp only [Option.some.injEq] at h2;rw [←h2]
theorem Z3n {b:List Int}(hb:∀ x∈b,0≤x∧x≤255)(hl:b.length≤2000){E:Nat}{V:Nat→Int}(hE:E≤20000000)(hP:Zed.Pot (pk24 ⟨b,0⟩) E V):∀ (k n:Nat) (v:Z1) (p m:Nat) (P:Int),E-p≤k→k<n→m≤100+p→widE m v→1≤P→2 * P≤V p→
  Ret (Q1b n ⟨b,(p:Int)⟩ v) (fun a=>∃ p':Nat,a.2=⟨b,(p':Int)⟩∧p<p'∧p'≤E+2∧2 * (P-1)≤V p'∧widE (m+(p'-p)) a.1):=by
 intro k
 induction k with
 | zero=>
  intro n v p m P hk hn hm hv h1 h2
  have:=hP.fin p (by omega)
  omega
 | succ k ih=>
  intro n v p m P hk hn hm hv h1 h2
  obtain ⟨n,rfl⟩:∃ j,n=j+1:=⟨n-1,by omega⟩
  have hpE:p<E:=by
   rcases Nat.lt_or_ge p E with h | h
   ·exact h
   ·have:=hP.fin p h
    omega
  have hv':=(Q9l m v).1 hv
  unfold Q1b
  rw [V5 (by simp only [U4,Q9];omega)]
  simp only [U0]
  have hpk:=X6v (r:=⟨b,(p:Int)⟩) hb hl rfl (by omega:p≤30000000)
  have hpe:pk24 ⟨b,(p:Int)⟩ p=pk24 ⟨b,0⟩ p:=rfl
  rw [hpe] at hpk
  simp only at hpk
  have hr1:ROk ⟨b,((p+1:Nat):Int)⟩ 1:=⟨hb,hl,by simp only;omega,by simp only;omega⟩
  refine Ret.ctl (R:=fun _=>False) (B:=fun (s:X3×Int×Int×List Z1)=>∃ p':Nat,s.1=⟨b,(p':Int)⟩∧p<p'∧p'≤E+2∧2 * (P-1)≤V p'∧s.2.2.2.length≤m+(p'-p)∧∀ x∈s.2.2.2,widE (m+(p'-p)) x) ?_ (fun r hr=>hr.elim) (fun s hs=>?_)
  ·rw [hpk]
   simp only [U0]
   have kidsOk:∀ q:Nat,v.kids.length≤m+q∧∀ x∈v.kids,widE (m+q) x:=fun q=>⟨by omega,fun x hx=>Z33 (by omega) x (hv'.2 x hx)⟩
   have skip:pk24 ⟨b,0⟩ p≤1→∀ (a:Int×X3),Nx ⟨b,((p+1:Nat):Int)⟩ a.2 1→a.2.p=((p+2:Nat):Int)→a.2=⟨b,((p+2:Nat):Int)⟩∧2 * (P-1)≤V (p+2):=fun h a hn hp2=>by
    have:=hP.skip p hpE h
    refine ⟨?_,by omega⟩
    cases a with
    | mk x r=>
     cases r with
     | mk bb pp=>
      have e1:bb=b:=hn.b
      simp only at hp2
      rw [e1,hp2]
   have num2:∀ l:List Int,1≤l.length→l.length≤1000→Ret (X8 ⟨b,((p+1:Nat):Int)⟩ l) (fun a=>Nx ⟨b,((p+1:Nat):Int)⟩ a.2 1∧a.2.p=((p+2:Nat):Int)):=fun l hl1 hl2=>by
    obtain ⟨a,e,_,hn⟩:=V5t hr1 l hl1 hl2
    refine ⟨a,e,hn,?_⟩
    unfold X8 at e
    cases hpick:Z3 ⟨b,((p+1:Nat):Int)⟩ (lenZ l.length) with
    | none=>rw [hpick] at e;cases e
    | some q=>
     rw [hpick] at e
     simp only [U0] at e
     cases hi:idx l q.1 with
     | none=>rw [hi] at e;cases e
     | some y=>
      rw [hi] at e
      simp only [U0,Option.some.injEq] at e
      subst e
      simp only
      have:=X0d hpick (by simp only;omega)
      rw [this]
      show wadd .i64 ((p+1:Nat):Int) 1=_
      rw [J9 (by omega) (by omega)]
      omega
   refine Ret.ite (fun h0=>?_) (fun h0=>?_)
   ·rw [Q8] at h0
    refine Ret.bind (num2 _ (by simp) (by simp)) (fun a ha=>.some ?_)
    obtain ⟨e1,e2⟩:=skip (by omega) a ha.1 ha.2
    exact ⟨p+2,e1,by omega,by omega,e2,(kidsOk _).1,(kidsOk _).2⟩
   rw [Z2] at h0
   refine Ret.ite (fun h1'=>?_) (fun h1'=>?_)
   ·rw [Q8] at h1'
    refine Ret.bind (num2 _ (by simp) (by simp)) (fun a ha=>.some ?_)
    obtain ⟨e1,e2⟩:=skip (by omega) a ha.1 ha.2
    exact ⟨p+2,e1,by omega,by omega,e2,(kidsOk _).1,(kidsOk _).2⟩
   rw [Z2] at h1'
   refine Ret.ite (fun h2'=>?_) (fun h2'=>?_)
   ·rw [Q8] at h2'
    have hot:=hP.other p hpE (by omega) (by omega)
    rw [V5 (by simp only [U3,U4,Q9];omega)]
    refine .some ⟨p+1,rfl,by omega,by omega,by omega,by simp only [U5,U3,U4];omega,fun x hx=>?_⟩
    rcases U9.1 hx with hx | hx
    ·exact (kidsOk _).2 x hx
    ·simp only [List.mem_singleton] at hx
     rw [hx,Q9l]
     exact ⟨by simp,fun y hy=>by cases hy⟩
   rw [Z2] at h2'
   refine Ret.ite (fun h3=>?_) (fun h3=>?_)
   ·rw [Q8] at h3
    have hth:=hP.three p hpE (by omega)
    refine Ret.ite (fun h4=>?_) (fun h4=>?_)
    ·rw [Z5] at h4
     simp only [lenZ] at h4
     obtain ⟨x,hx,hxm⟩:=Q2d (xs:=v.kids) (i:=0) (by omega) (by omega)
     rw [hx]
     simp only [U0]
     refine Ret.bind (ih n x (p+1) m (P+1) (by omega) (by omega) (by omega) (hv'.2 x hxm) (by omega) (by omega)) (fun a ha=>?_)
     obtain ⟨p1,e1,e2,e3,e4,e5⟩:=ha
     rw [e1]
     refine Ret.bind (ih n a.1 p1 (m+(p1-(p+1))) P (by omega) (by omega) (by omega) e5 h1 (by omega)) (fun c hc=>?_)
     obtain ⟨p2,g1,g2,g3,g4,g5⟩:=hc
     have hset:setI v.kids 0 c.1=some (v.kids.set 0 c.1):=by
      unfold setI
      rw [if_pos ⟨by omega,by show 0<v.kids.length;omega⟩]
      rfl
     rw [hset]
     simp only [U0]
     refine .some ⟨p2,g1,by omega,g3,g4,by simp only [List.length_set];omega,fun y hy=>?_⟩
     rcases List.mem_or_eq_of_mem_set hy with hy | rfl
     ·exact (kidsOk _).2 y hy
     ·exact Z33 (by omega) _ g5
    ·exact .some ⟨p+1,rfl,by omega,by omega,by omega,(kidsOk _).1,(kidsOk _).2⟩
   ·rw [Z2] at h3
    have hot:=hP.other p hpE (by omega) (by omega)
    exact .some ⟨p+1,rfl,by omega,by omega,by omega,(kidsOk _).1,(kidsOk _).2⟩
  ·obtain ⟨p',e1,e2,e3,e4,e5,e6⟩:=hs
   exact .some ⟨p',e1,e2,e3,e4,(Q9l _ _).2 ⟨e5,e6⟩⟩
theorem X49 {b:List Int}(hb:∀ x∈b,0≤x∧x≤255)(hl:b.length≤2000){p:Nat}(hp:p≤30000000){k:Int}(h1:1≤k)(h2:k≤1000000):Ret (Z3 ⟨b,(p:Int)⟩ k) (fun a=>0≤a.1∧a.1<k∧a.2=⟨b,((p+1:Nat):Int)⟩):=by
 obtain ⟨a,e,a0,a1,an⟩:=Z3h (r:=⟨b,(p:Int)⟩) ⟨hb,hl,by simp only;omega,by simp only;omega⟩ h1 h2
 refine ⟨a,e,a0,a1,?_⟩
 have hn:=X0d e (by simp only;omega)
 have e1:=an.b
 obtain ⟨x,bb,pp⟩:=a
 simp only at hn e1
 rw [J9 (by omega) (by omega)] at hn
 rw [e1,hn]
 rfl
theorem numN {b:List Int}(hb:∀ x∈b,0≤x∧x≤255)(hl:b.length≤2000){p:Nat}(hp:p≤30000000)(l:List Int)(h1:1≤l.length)(h2:l.length≤1000):Ret (X8 ⟨b,(p:Int)⟩ l) (fun a=>a.1∈l∧a.2=⟨b,((p+1:Nat):Int)⟩):=by
 unfold X8
 refine Ret.bind (X49 hb hl hp (k:=lenZ l.length) (by simp [lenZ];omega) (by simp [lenZ];omega)) (fun a ha=>?_)
 obtain ⟨x,hx,hm⟩:=Q2d (xs:=l) ha.1 (by simpa [lenZ] using ha.2.1)
 rw [hx]
 exact .some ⟨hm,ha.2.2⟩
theorem Y4m {F:List GFun}(h:F.length≤4)(hc:∀ f∈F,f.clauses.length≤8∧f.bodies.length≤8) :
  Ret (forL (fun (k66:Nat) (x67:GFun) (s62:List GFun)=>((app [] x67.clauses).bind fun x74=>((app [] x67.bodies).bind fun x75=>((app s62 [x67]).bind fun x76=>some (Ctl.go (ρ:=List GFun×X3) (s62++[x67])))))) 0 F []) (CtlQ (fun _=>False) (fun s=>s=F)):=by
 refine Z4 F (fun k s=>s=F.take k) _ _ (by simp) (fun k x s hx hI=>?_) (fun s hI=>by rw [hI];exact List.take_length ..)
 have hx1:=hc x (U1 hx)
 have hk:=(List.getElem?_eq_some_iff.1 hx).1
 rw [V5 (by simp only [U4,Q9];omega)]
 simp only [U0]
 rw [V5 (by simp only [U4,Q9];omega)]
 simp only [U0]
 rw [V5 (by rw [hI];simp only [U6,U3,U4,Q9];omega)]
 refine .some ?_
 show s++[x]=F.take (k+1)
 rw [hI,List.take_add_one,hx]
 rfl
def Mok (b:List Int)(a:List GFun×X3):Prop:=a.1.length≤1000∧∃ (p:Nat) (E:Nat) (V:Nat→Int),a.2=⟨b,(p:Int)⟩∧Zed.Pot (pk24 ⟨b,0⟩) E V∧E≤20000000∧2≤V p
structure FD (F:List GFun):Prop where
 l1:1≤F.length
 l4:F.length≤4
 fs:∀ f∈F,f.clauses.length≤8∧f.bodies.length≤8
 eq:∀ f∈F,f.bodies.length=f.clauses.length
 wid:∀ f∈F,∀ e∈f.bodies,widE 3 e
theorem W7v {b:List Int}(hb:∀ x∈b,0≤x∧x≤255)(hl:b.length≤2000){p:Nat}(hp:p≤4000){F:List GFun}(hF:FD F)(h1:pk24 ⟨b,0⟩ (p+1)≠1)(h2:pk24 ⟨b,0⟩ (p+1)≠2):Ret (Q2i NN ⟨b,(p:Int)⟩ F) (Mok b):=by
 have hl1:=hF.l1
 have hl4:=hF.l4
 unfold Q2i
 refine Ret.ctl (Y4m hF.l4 hF.fs) (fun r hr=>hr.elim) (fun s hs=>?_)
 obtain rfl:=hs
 dsimp only
 rw [if_neg (by rw [Q8];simp only [lenZ];omega)]
 refine Ret.bind (X49 hb hl (by omega) (k:=lenZ s.length) (by simp only [lenZ];omega) (by simp only [lenZ];omega)) (fun a ha=>?_)
 obtain ⟨a0,a1,a2⟩:=ha
 rw [a2]
 simp only [lenZ] at a1
 obtain ⟨x,hx,hxm⟩:=Q2d a0 a1
 refine Ret.ctl (R:=fun _=>False) (B:=fun (t:X3×List GFun)=>t.2.length≤1000∧∃ q:Nat,t.1=⟨b,(q:Int)⟩∧q≤5000) ?_ (fun r hr=>hr.elim) (fun t ht=>?_)
 ·have hpk:=X6v (r:=⟨b,((p+1:Nat):Int)⟩) hb hl rfl (by omega:p+1≤30000000)
  have hpe:pk24 ⟨b,((p+1:Nat):Int)⟩ (p+1)=pk24 ⟨b,0⟩ (p+1):=rfl
  rw [hpe] at hpk
  rw [hpk]
  simp only [U0]
  generalize pk24 ⟨b,0⟩ (p+1)=v at h1 h2
  refine Ret.ite (fun _=>?_) (fun _=>?_)
  ·refine Ret.bind (numN hb hl (by omega) _ (by simp) (by simp)) (fun c hc=>?_)
   rw [hx]
   simp only [U0]
   rw [Z77 a0 a1]
   exact .some ⟨by simp only [List.length_set];omega,p+3,hc.2,by omega⟩
  refine Ret.ite (fun h=>by rw [Q8] at h;omega) (fun _=>?_)
  refine Ret.ite (fun h=>by rw [Q8] at h;omega) (fun _=>?_)
  refine Ret.ite (fun _=>?_) (fun _=>?_)
  ·have:Z06 s a.1=some (s.take a.1.toNat):=by
    unfold Z06
    rw [if_pos ⟨a0,by omega⟩]
   rw [this]
   exact .some ⟨by simp only [U6];omega,p+2,rfl,by omega⟩
  refine Ret.ite (fun _=>?_) (fun _=>?_)
  ·refine Ret.ctl (Q7o (fun (t:List GFun)=>1≤t.length∧t.length≤5) (fun t=>6-t.length) (fun _=>False) (fun t=>t.length≤1000) ⟨hl1,by omega⟩ (fun t ht=>?_) NN (by simp only [NN];omega)) (fun r hr=>hr.elim) (fun t ht=>?_)
   ·refine Ret.ite (fun h=>?_) (fun h=>.some (by show t.length≤1000;omega))
    rw [W4] at h
    simp only [lenZ] at h
    obtain ⟨y,hy,_⟩:=Q2d (xs:=t) (i:=0) (by omega) (by omega)
    rw [hy]
    simp only [U0]
    rw [V5 (by simp only [U3,U4,Q9];omega)]
    refine .some ?_
    show (1≤(t++[y]).length∧(t++[y]).length≤5)∧6-(t++[y]).length<6-t.length
    simp only [U5,U3,U4]
    omega
   ·exact .some ⟨ht,p+2,rfl,by omega⟩
  refine Ret.ite (fun _=>?_) (fun _=>?_)
  ·rw [hx]
   simp only [U0]
   refine Ret.ite (fun h=>?_) (fun _=>.some ⟨by simp only;omega,p+2,rfl,by omega⟩)
   rw [Z5] at h
   simp only [lenZ] at h
   have hbl:=hF.eq x hxm
   have d1:Z30 x.clauses 1=some (x.clauses.drop 1):=by
    unfold Z30
    rw [if_pos ⟨by omega,by omega⟩]
    rfl
   have d2:Z30 x.bodies 1=some (x.bodies.drop 1):=by
    unfold Z30
    rw [if_pos ⟨by omega,by omega⟩]
    rfl
   rw [d1]
   simp only [U0]
   rw [Z77 a0 a1]
   simp only [U0]
   rw [Q7b a0 (x:=GFun.mk x.typ (x.clauses.drop 1) x.bodies) (by rw [List.getElem?_set_self (by omega)])]
   simp only [U0]
   rw [d2]
   simp only [U0]
   rw [Z77 a0 (by rw [List.length_set];exact a1)]
   exact .some ⟨by simp only [List.length_set];omega,p+2,rfl,by omega⟩
  ·exact .some ⟨by simp only;omega,p+2,rfl,by omega⟩
 ·obtain ⟨t1,q,t2,t3⟩:=ht
  obtain ⟨E,V,g1,g2,g3⟩:=V5r hb hl t3
  exact .some ⟨t1,q,E,V,t2,g1,g3,by omega⟩
theorem W7w {b:List Int}(hb:∀ x∈b,0≤x∧x≤255)(hl:b.length≤2000){p:Nat}(hp:p≤4000){F:List GFun}(hF:FD F)(h:pk24 ⟨b,0⟩ (p+1)=1∨pk24 ⟨b,0⟩ (p+1)=2):Q2i NN ⟨b,(p:Int)⟩ F=none:=by
 have hl1:=hF.l1
 have hl4:=hF.l4
 unfold Q2i
 obtain ⟨o,ho,hq⟩:=Y4m hF.l4 hF.fs
 rw [ho]
 cases o with
 | ret r=>exact hq.elim
 | go s=>exact hq.elim
 | brk s=>
  obtain rfl:s=F:=hq
  simp only [U0]
  rw [if_neg (by rw [Q8];simp only [lenZ];omega)]
  obtain ⟨a,e,a0,a1,a2⟩:=X49 hb hl (p:=p) (by omega) (k:=lenZ s.length) (by simp only [lenZ];omega) (by simp only [lenZ];omega)
  rw [e]
  simp only [U0]
  rw [a2]
  have hpk:=X6v (r:=⟨b,((p+1:Nat):Int)⟩) hb hl rfl (by omega:p+1≤30000000)
  have hpe:pk24 ⟨b,((p+1:Nat):Int)⟩ (p+1)=pk24 ⟨b,0⟩ (p+1):=rfl
  rw [hpe] at hpk
  rw [hpk]
  simp only [U0]
  generalize pk24 ⟨b,0⟩ (p+1)=v at h
  rcases h with rfl | rfl
  ·rfl
  ·rfl
theorem W7u {b:List Int}(hb:∀ x∈b,0≤x∧x≤255)(hl:b.length≤2000){p:Nat}(hp:p≤4000){F:List GFun}(hF:FD F)(h:pk24 ⟨b,0⟩ (p+1)=1∨pk24 ⟨b,0⟩ (p+1)=2):Ret (Q57 NN ⟨b,(p:Int)⟩ F) (Mok b):=by
 have hl1:=hF.l1
 have hl4:=hF.l4
 unfold Q57
 rw [X1r (by
  rw [Bool.and_eq_true,decide_eq_true_eq,List.all_eq_true]
  refine ⟨by omega,fun x hx=>?_⟩
  have:=hF.fs x hx
  rw [Bool.and_eq_true,decide_eq_true_eq,decide_eq_true_eq]
  omega)]
 simp only [U0]
 refine Ret.bind (X49 hb hl (by omega) (k:=lenZ F.length) (by simp only [lenZ];omega) (by simp only [lenZ];omega)) (fun a ha=>?_)
 obtain ⟨a0,a1,a2⟩:=ha
 rw [a2]
 simp only [lenZ] at a1
 have hpk:=X6v (r:=⟨b,((p+1:Nat):Int)⟩) hb hl rfl (by omega:p+1≤30000000)
 have hpe:pk24 ⟨b,((p+1:Nat):Int)⟩ (p+1)=pk24 ⟨b,0⟩ (p+1):=rfl
 rw [hpe] at hpk
 rw [hpk]
 simp only [U0]
 obtain ⟨x,hx,hxm⟩:=Q2d a0 a1
 rw [hx]
 simp only [U0]
 obtain ⟨E,V,g1,g2,g3⟩:=V5r hb hl (p:=p+2) (by omega)
 generalize pk24 ⟨b,0⟩ (p+1)=v at h
 have dn:∀ (G:List GFun),G.length=F.length→Mok b (G,⟨b,((p+2:Nat):Int)⟩):=fun G hG=>⟨by simp only;omega,p+2,E,V,rfl,g1,g3,by omega⟩
 refine Ret.ite (fun _=>.some (dn _ (by simp))) (fun h1=>?_)
 rw [Z2] at h1
 rw [if_pos (by rw [Q8];omega)]
 refine Ret.ite (fun h0=>?_) (fun _=>.some (dn _ rfl))
 rw [Z5] at h0
 simp only [lenZ] at h0
 obtain ⟨e,he,hem⟩:=Q2d (xs:=x.bodies) (i:=0) (by omega) (by omega)
 rw [he]
 simp only [U0]
 refine Ret.bind (Z3n hb hl g3 g1 (E-(p+2)) NN e (p+2) (100+(p+2)) 3 (Nat.le_refl _) (by simp only [NN];omega) (Nat.le_refl _) (Z33 (by omega) e (hF.wid x hxm e hem)) (by omega) (by omega)) (fun c hc=>?_)
 obtain ⟨p1,e1,e2,e3,e4,e5⟩:=hc
 rw [e1]
 refine Ret.bind (Z3n hb hl g3 g1 (E-p1) NN c.1 p1 _ 2 (Nat.le_refl _) (by simp only [NN];omega) (by omega) e5 (by omega) (by omega)) (fun d hd=>?_)
 obtain ⟨p2,f1,f2,f3,f4,f5⟩:=hd
 exact .some ⟨by simp only [List.length_set];omega,p2,E,V,f1,g1,g3,by omega⟩
theorem W7x {b:List Int}(hb:∀ x∈b,0≤x∧x≤255)(hl:b.length≤2000){p:Nat}(hp:p≤4000){F:List GFun}(hF:FD F):Ret (Q4f NN ⟨b,(p:Int)⟩ F) (Mok b):=by
 unfold Q4f
 by_cases h:pk24 ⟨b,0⟩ (p+1)=1∨pk24 ⟨b,0⟩ (p+1)=2
 ·rw [W7w hb hl hp hF h]
  exact W7u hb hl hp hF h
 ·obtain ⟨r,e,hr⟩:=W7v hb hl hp hF (fun h1=>h (.inl h1)) (fun h1=>h (.inr h1))
  rw [e]
  exact ⟨r,rfl,hr⟩
theorem V03 {i:Nat}(h:i<7):X57 i=some (Q0j.getD i [],true):=by
 match i,h with
 | 0,_=>exact Y42
 | 1,_=>exact Y41
 | 2,_=>exact Y40
 | 3,_=>exact Y3z
 | 4,_=>exact Y3y
 | 5,_=>exact Y3x
 | 6,_=>exact Y3w
theorem W3e {i:Nat}(h:i<7):Q0j.getD i []∈Q0j:=by
 match i,h with
 | 0,_=>simp [Q0j]
 | 1,_=>simp [Q0j]
 | 2,_=>simp [Q0j]
 | 3,_=>simp [Q0j]
 | 4,_=>simp [Q0j]
 | 5,_=>simp [Q0j]
 | 6,_=>simp [Q0j]
theorem V7t {i:Nat}(h:i<7):okF i=true:=by
 match i,h with
 | 0,_=>exact okF0
 | 1,_=>exact okF1
 | 2,_=>exact okF2
 | 3,_=>exact okF3
 | 4,_=>exact okF4
 | 5,_=>exact okF5
 | 6,_=>exact okF6
structure FW (w:List Q4) (F:List GFun):Prop where
 fd:FD F
 ty:∀ f∈F,f.typ.arg∈tys w∧depP w f.typ.arg≠0
 rs:∀ f∈F,f.typ.res∈tys w
theorem V92 {w:List Q4}{F:List GFun}(h:V93 w F=true):FW w F:=by
 unfold V93 at h
 simp only [Bool.and_eq_true,decide_eq_true_eq,List.all_eq_true] at h
 obtain ⟨⟨h1,h2⟩,h3⟩:=h
 refine ⟨⟨h1,h2,fun f hf=>?_,fun f hf=>(h3 f hf).1.2,fun f hf e he=>W1d 3 e ((h3 f hf).2 e he)⟩,fun f hf=>?_,fun f hf=>?_⟩
 ·obtain ⟨⟨⟨⟨⟨a1,a2⟩,a3⟩,a4⟩,a5⟩,a6⟩:=h3 f hf
  omega
 ·obtain ⟨⟨⟨⟨⟨a1,a2⟩,a3⟩,a4⟩,a5⟩,a6⟩:=h3 f hf
  exact ⟨a1,by omega⟩
 ·obtain ⟨⟨⟨⟨⟨a1,a2⟩,a3⟩,a4⟩,a5⟩,a6⟩:=h3 f hf
  exact a2
theorem W30 {b:List Int}(hb:∀ x∈b,0≤x∧x≤255)(hl:b.length≤2000){p:Nat}(hp:p≤4000):Ret (Q69 NN ⟨b,(p:Int)⟩) (fun a=>a.1∈Q0j∧FW a.1 a.2.1∧a.2.2=⟨b,((p+2:Nat):Int)⟩):=by
 unfold Q69
 cases hP:Q0l with
 | none=>
  have:=lenP
  rw [hP] at this
  cases this
 | some P=>
  have hPl:P.length=7:=by
   have:=lenP
   rw [hP] at this
   simpa using this
  simp only [U0]
  refine Ret.bind (X49 hb hl (by omega) (k:=lenZ P.length) (by simp only [lenZ];omega) (by simp only [lenZ];omega)) (fun a ha=>?_)
  obtain ⟨a0,a1,a2⟩:=ha
  simp only [lenZ] at a1
  obtain ⟨i,hi⟩:=Int.eq_ofNat_of_zero_le a0
  have hi7:i<7:=by omega
  have hok:=V7t hi7
  have hw:=V03 hi7
  have hwm:=W3e hi7
  unfold X57 at hw
  obtain ⟨T,hT,hw⟩:=bindE hw
  obtain ⟨x,hx,hw⟩:=bindE hw
  rw [hT,hi]
  simp only [U0]
  rw [hx]
  simp only [U0]
  rw [hw]
  simp only [U0]
  obtain ⟨X,hX,_⟩:=Q2d (xs:=P) (i:=(i:Int)) (by omega) (by omega)
  rw [hX]
  simp only [U0]
  unfold okF at hok
  simp only [Bool.and_eq_true,decide_eq_true_eq,List.all_eq_true,List.mem_range] at hok
  obtain ⟨⟨k1,k2⟩,k3⟩:=hok
  have hlen:lenF i=X.length:=by
   unfold lenF
   rw [hP]
   simp only [U0]
   rw [hX]
   rfl
  rw [hlen] at k1 k2 k3
  rw [a2]
  refine Ret.bind (X49 hb hl (by omega) (k:=lenZ X.length) (by simp only [lenZ];omega) (by simp only [lenZ];omega)) (fun c hc=>?_)
  obtain ⟨c0,c1,c2⟩:=hc
  simp only [lenZ] at c1
  obtain ⟨j,hj⟩:=Int.eq_ofNat_of_zero_le c0
  have hq:=k3 j (by omega)
  unfold Y43 at hq
  rw [hP] at hq
  simp only [U0] at hq
  rw [hX] at hq
  simp only [U0] at hq
  obtain ⟨y,hy,_⟩:=Q2d (xs:=X) (i:=(j:Int)) (by omega) (by omega)
  rw [hj,hy]
  rw [hy] at hq
  simp only [U0] at hq ⊢
  cases hr:Q5y NN (Q0j.getD i []) y with
  | none=>rw [hr] at hq;cases hq
  | some r=>
   rw [hr] at hq
   simp only [U0]
   exact .some ⟨hwm,V92 hq,c2⟩
theorem W3y (code:List Int)(hb:∀ x∈code,0≤x∧x≤255):Ret (Q7g NN code) (fun a=>a.1∈Q0j∧a.2.1.length≤1000∧-1≤a.2.2.1∧a.2.2.1≤4):=by
 unfold Q7g
 refine Ret.bind (X6w code hb) (fun r hr=>?_)
 obtain ⟨⟨r1,r2,r3,r4⟩,r5⟩:=hr
 obtain ⟨b,q⟩:=r
 simp only at r1 r2 r5
 subst r5
 refine Ret.bind (W30 r1 r2 (p:=0) (by omega)) (fun a ha=>?_)
 obtain ⟨hw,hF,a3⟩:=ha
 have hW:=ww hw
 have hf1:=hF.fd.l1
 have hf4:=hF.fd.l4
 rw [a3]
 refine Ret.bind (X49 r1 r2 (by omega) (k:=lenZ a.2.1.length) (by simp only [lenZ];omega) (by simp only [lenZ];omega)) (fun c hc=>?_)
 obtain ⟨c0,c1,c2⟩:=hc
 simp only [lenZ] at c1
 obtain ⟨x,hx,hxm⟩:=Q2d c0 c1
 rw [hx,hW.tab]
 simp only [U0]
 rw [c2]
 refine Ret.bind (numN r1 r2 (by omega) _ (by simp) (by simp)) (fun d hd=>?_)
 obtain ⟨d1,d2⟩:=hd
 have hd4:1≤d.1∧d.1≤4:=by
  simp at d1
  omega
 rw [d2]
 obtain ⟨t1,t2⟩:=hF.ty x hxm
 have hdep:=(hW.ty _ t1).d4
 refine Ret.bind ((V4q hW 4 NN ⟨b,((0+2+1+1:Nat):Int)⟩ _ d.1 t1 t2 (by omega) (by omega) (by omega) (by omega) (by decide) ⟨r1,r2,by simp only;omega,by have:Q5f 4=121:=rfl;simp only;omega⟩).both (W5h hW NN _ _ d.1 t1)) (fun e he=>?_)
 obtain ⟨e1,e2⟩:=he
 obtain ⟨v,bb,q⟩:=e
 have g1:bb=b:=e1.b
 have g2:=e1.le
 have g3:=e1.ge
 simp only at g2 g3 e2
 subst g1
 have:Q5f 4=121:=rfl
 obtain ⟨q,rfl⟩:=Int.eq_ofNat_of_zero_le (show 0≤q by omega)
 refine Ret.ctl (R:=fun _=>False) (B:=fun (s:X3×Int)=>(∃ k:Nat,s.1=⟨bb,(k:Int)⟩∧k≤4000)∧-1≤s.2∧s.2≤4) ?_ (fun r hr=>hr.elim) (fun s hs=>?_)
 ·refine Ret.bind (X49 r1 r2 (by omega) (by omega) (by omega)) (fun g hg=>?_)
  obtain ⟨_,_,hg⟩:=hg
  refine Ret.ite (fun _=>?_) (fun _=>.some ⟨⟨q+1,hg,by omega⟩,by simp only;omega,by simp only;omega⟩)
  rw [hg]
  refine Ret.bind (numN r1 r2 (by omega) _ (by simp) (by simp)) (fun h hh=>.some ⟨⟨q+2,hh.2,by omega⟩,?_⟩)
  have:=hh.1
  simp at this
  simp only
  omega
 ·obtain ⟨⟨k,k1,k2⟩,k3,k4⟩:=hs
  obtain ⟨s1,s2⟩:=s
  simp only at k1 k3 k4
  subst k1
  refine Ret.bind (W7x r1 r2 k2 hF.fd) (fun m hm=>?_)
  obtain ⟨m1,p',E,V,m2,m3,m4,m5⟩:=hm
  rw [m2]
  refine Ret.bind (W3u r1 r2 m4 m3 (E-p') NN v p' (100+p') 1 (Nat.le_refl _) (by simp only [NN];omega) (Nat.le_refl _) (Z97 (by omega) v e2) (by omega) (by omega)) (fun u hu=>?_)
  obtain ⟨p2,u1,u2,u3,u4,u5⟩:=hu
  rw [u1]
  refine Ret.bind (numN r1 r2 (by omega) _ (by simp) (by simp)) (fun z hz=>.some ⟨hw,m1,k3,k4⟩)
theorem Z2r (code:List Int)(hb:∀ x∈code,0≤x∧x≤255):Ret (Q2k NN code) (fun a=>a.1∈Q0j∧a.2.1.length≤1000∧-1≤a.2.2.1∧a.2.2.1≤4):=by
 unfold Q2k
 exact Ret.bind (W3y code hb) (fun a ha=>.some ha)
def Z1k (w:List Q4)(F:List GFun)(f:Int)(v:Q1)(fuel:Int):Bool:=
 Z0m w F&&(decide (0≤f)&&decide (f<F.length))&&(decide (0≤fuel)&&decide (fuel≤300))&&(F[f.toNat]?).elim false fun g=>Q0z w g.typ.arg v
structure Z6y (w:List Q4) (F:List GFun) (f:Int) (v:Q1) (fuel:Int) (g:GFun):Prop where
 funs:Z0m w F=true
 f0:0≤f
 f1:f<F.length
 a0:0≤fuel
 a1:fuel≤300
 gg:F[f.toNat]?=some g
 vv:Q0z w g.typ.arg v=true
theorem Z4f {w:List Q4}{F:List GFun}{f:Int}{v:Q1}{fuel:Int}(h:Z1k w F f v fuel=true):∃ g,Z6y w F f v fuel g:=by
 simp only [Z1k,Bool.and_eq_true,decide_eq_true_eq] at h
 obtain ⟨⟨⟨h1,h2,h3⟩,h4,h5⟩,h6⟩:=h
 cases hg:F[f.toNat]? with
 | none=>rw [hg] at h6;cases h6
 | some g=>
  rw [hg] at h6
  exact ⟨g,h1,h2,h3,h4,h5,hg,h6⟩
theorem Z6y.ok {w:List Q4}{F:List GFun}{f:Int}{v:Q1}{fuel:Int}{g:GFun}(h:Z6y w F f v fuel g):Z1k w F f v fuel=true:=by
 simp only [Z1k,Bool.and_eq_true,decide_eq_true_eq]
 refine ⟨⟨⟨h.funs,h.f0,h.f1⟩,h.a0,h.a1⟩,?_⟩
 rw [h.gg]
 exact h.vv
theorem Z4b (a b c:Int):X9 a b c=some (decide (b≤a)&&decide (a≤c)):=by
 unfold X9
 by_cases h:b≤a
 ·rw [if_pos (by rw [W4];exact h)]
  simp [ile,h]
 ·rw [if_neg (by rw [W4];exact h)]
  simp [h]
theorem X9v {w:List Q4}(hw:WW w){F:List GFun}(hF:F.length≤1000)(f:Int)(v:Q1)(fuel:Int):Z0g NN w F f v fuel=some (Z1k w F f v fuel):=by
 unfold Z0g Z1k
 rw [Z2h hw hF]
 simp only [U0]
 cases h1:Z0m w F with
 | false=>rfl
 | true=>
  have hk:=Q6t h1
  rw [if_pos rfl,Z4b]
  simp only [U0]
  have e:wsub .i64 (lenZ F.length) 1=(F.length:Int)-1:=by unfold lenZ;rw [Q3v]<;>omega
  rw [e]
  by_cases h2:0≤f∧f<F.length
  ·have h3:(decide (0≤f)&&decide (f≤(F.length:Int)-1))=true:=by simp only [Bool.and_eq_true,decide_eq_true_eq];omega
   have h4:(decide (0≤f)&&decide (f<(F.length:Int)))=true:=by simp only [Bool.and_eq_true,decide_eq_true_eq];omega
   rw [h3,h4,if_pos rfl,Z4b]
   simp only [U0]
   cases h5:(decide (0≤fuel)&&decide (fuel≤300)) with
   | false=>rfl
   | true=>
    rw [if_pos rfl]
    have hg:F[f.toNat]?=some (F[f.toNat]'(by omega)):=U10 (by omega)
    rw [Q7b h2.1 hg]
    simp only [U0]
    rw [Z2f (by decide) hw (hk.2 _ (U1 hg)).arg,hg]
    simp
  ·have h3:(decide (0≤f)&&decide (f≤(F.length:Int)-1))=false:=by rw [Bool.eq_false_iff];simp only [ne_eq,Bool.and_eq_true,decide_eq_true_eq];omega
   have h4:(decide (0≤f)&&decide (f<(F.length:Int)))=false:=by rw [Bool.eq_false_iff];simp only [ne_eq,Bool.and_eq_true,decide_eq_true_eq];omega
   rw [h3,h4]
   rfl
def outV (q:Q1×Rn):Q1×Int:=if q.2.code=0 then (q.1,0) else (zV,q.2.code)
def X45 (w:List Q4)(F:List GFun)(f:Int)(v:Q1)(fuel:Int):Q1×Rn:=evC w F 50 f v ⟨fuel,0,0⟩
theorem Z6y.rg {w:List Q4}{F:List GFun}{f:Int}{v:Q1}{fuel:Int}{g:GFun}(h:Z6y w F f v fuel g):Rg ⟨fuel,0,0⟩:=⟨h.a0,Int.le_refl _,by have:=h.a1;simp only;omega⟩
theorem Z4m {w:List Q4}(hw:WW w){t:Q2}(ht:t∈tys w){v:Q1}(h:Q0z w t v=true):Z1h 10 v:=Z7d hw 10 t v ht (Q2g h)
theorem W33:Z1h 10 zV:=⟨by simp [zV],fun x hx=>by cases hx⟩
theorem X44 {w:List Q4}(hw:WW w)(hf:Fit w){F:List GFun}{f:Int}{v:Q1}{fuel:Int}{g:GFun}(h:Z6y w F f v fuel g):(X45 w F f v fuel).2.code=0→Q0z w g.typ.res (X45 w F f v fuel).1=true∧Z1h 10 (X45 w F f v fuel).1:=fun h0=>by
 have hk:=Q6t h.funs
 have:=Z1r hw hf hk 50 f g v ⟨fuel,0,0⟩ h.f0 h.gg h.vv rfl h0
 exact ⟨this,Z4m hw (hk.2 g (U1 h.gg)).res this⟩
theorem X6o {w:List Q4}{F:List GFun}{q:Q1×Rn}(h:q.2.code=0→Z1h 10 q.1):Q1g NN (mkRn w F q.2) q.1=some ((outV q).1,(outV q).2,mkRn w F q.2):=by
 unfold Q1g outV
 by_cases hc:q.2.code=0
 ·rw [if_neg (by rw [Bool.not_eq_true',Z2];exact fun h=>h hc),X0e 10 NN q.1 (h hc) (by decide),if_pos hc]
  rfl
 ·rw [if_pos (by rw [Bool.not_eq_true',Z2];exact hc),if_neg hc]
  rfl
theorem W1h {w:List Q4}{F:List GFun}{q:Q1×Rn}(h:q.2.code=0→Z1h 10 q.1):Q56 NN (mkSp w F q.2) q.1=some (outV q):=by
 unfold Q56 outV
 by_cases hc:q.2.code=0
 ·rw [if_neg (by rw [Bool.not_eq_true',Z2];exact fun h=>h hc),Z8k 10 NN q.1 (h hc) (by decide),if_pos hc]
  rfl
 ·rw [if_pos (by rw [Bool.not_eq_true',Z2];exact hc),if_neg hc]
  rfl
def Z1j (w:List Q4)(F:List GFun)(f:Int)(v:Q1)(fuel:Int):Q1×Int:=if Z1k w F f v fuel=true then outV (X45 w F f v fuel) else (zV,5)
theorem Z2g {w:List Q4}(hw:WW w)(hf:Fit w){F:List GFun}(hF:F.length≤1000)(f:Int)(v:Q1)(fuel:Int):Q5r NN w F f v fuel=some (Z1j w F f v fuel):=by
 unfold Q5r Z1j
 rw [X9v hw hF]
 simp only [U0]
 cases hr:Z1k w F f v fuel with
 | false=>rfl
 | true=>
  obtain ⟨g,h⟩:=Z4f hr
  rw [if_neg (by simp),if_pos rfl]
  show (Q0a NN (mkRn w F ⟨fuel,0,0⟩) f v (50-((50:Nat):Int))).bind _=_
  rw [X0u hw hf (Q6t h.funs) 50 (by omega) NN f g v ⟨fuel,0,0⟩ (by decide) h.f0 h.gg h.vv rfl h.rg]
  simp only [U0]
  rw [X6o (q:=evC w F 50 f v ⟨fuel,0,0⟩) (fun h0=>(X44 hw hf h h0).2)]
  rfl
theorem W88:∀ (d n:Nat) (v:Q1),Z1h d v→d≤n→Q5q n v=some (exV v):=by
 intro d
 induction d with
 | zero=>intro n v h;exact h.elim
 | succ d ih=>
  intro n v h hn
  obtain ⟨n,rfl⟩:∃ m,n=m+1:=⟨n-1,by omega⟩
  obtain ⟨h1,h2⟩:=h
  suffices hs:Ret (Q5q (n+1) v) (fun r=>r=exV v) by
   obtain ⟨a,e,rfl⟩:=hs
   exact e
  unfold Q5q
  rw [W2x]
  refine Ret.ite (fun h=>?_) (fun h=>?_)
  ·rw [Q8] at h
   rw [if_pos h]
   exact .some rfl
  ·rw [Z2] at h
   rw [if_neg h]
   refine Ret.ctl (Z4 v.kids (fun k s=>s=(v.kids.take k).map exV) (fun _=>False) (fun s=>s=v.kids.map exV) (by simp) (fun k q s hq hI=>?_) (fun s hI=>by rw [hI,List.take_length])) (fun r hr=>hr.elim) (fun s hs=>.some (by rw [hs,Z6j]))
   have hk:=(List.getElem?_eq_some_iff.1 hq).1
   rw [ih n q (h2 q (U1 hq)) (by omega)]
   simp only [U0]
   rw [V5 (by rw [hI];simp only [U7,U6,U3,U4,Q9];omega)]
   refine .some ?_
   show s++[exV q]=_
   rw [hI,List.take_add_one,hq]
   simp
theorem Z69 {w:List Q4}(hw:WW w){t:Q2}(ht:t∈tys w)(v:Q1):Q76 NN w t v=some (if Q0z w t v=true then (exV v,true) else (Z1.mk 0 0 0 [],false)):=by
 unfold Q76 Q3r
 rw [Z67 hw ht]
 simp only [U0]
 rw [if_pos trivial,Z2f (by decide) hw ht]
 simp only [U0]
 cases hv:Q0z w t v with
 | false=>rfl
 | true=>
  rw [if_neg (by simp),W88 10 NN v (Z4m hw ht hv) (by decide)]
  rfl
theorem Z8t {w:List Q4}(hw:WW w){T:List Z0}(hTl:T.length≤1000){t:Q2}(ht:t∈tys w)(hT:Z5m w T=true)(e:Z1):Q62 NN w T [] t e=some (Q5x w T [] t e):=by
 unfold Q62
 rw [Z67 hw ht]
 simp only [U0]
 have hwl:w.length≤1000:=by have:=hw.le;omega
 rw [if_pos trivial,X36 hwl,hT]
 simp only [U0]
 have hTa:∀ f∈T,f.arg∈tys w:=fun f hf=>by
  simp only [Z5m,Bool.and_eq_true,decide_eq_true_eq,List.all_eq_true] at hT
  exact (hT.2 f hf).1
 rw [if_pos trivial,X0s hw hTl hTa (vars:=[]) rfl (by decide) ht]
 rfl
def exB (w:List Q4)(F:List GFun)(t:Q2)(e:Z1)(fuel:Int):Bool:=Z0m w F&&Q5x w (F.map (·.typ)) [] t e&&(decide (0≤fuel)&&decide (fuel≤300))
def exQ (w:List Q4)(F:List GFun)(t:Q2)(e:Z1)(fuel:Int):Q1×Rn:=evE w (F.map (·.typ)) (evC w F 50) [] 10 t e ⟨fuel,0,0⟩
def Z3z (w:List Q4)(F:List GFun)(t:Q2)(e:Z1)(fuel:Int):Q1×Int:=if exB w F t e fuel=true then outV (exQ w F t e fuel) else (zV,5)
theorem X3w (w:List Q4):Z8m w [] []:=fun x v h=>by simp at h
theorem X7l {w:List Q4}{F:List GFun}(h:Z0m w F=true):Z5m w (F.map (·.typ))=true:=by
 simp only [Z0m,Bool.and_eq_true] at h
 exact h.1
theorem X4z {w:List Q4}(hw:WW w)(hf:Fit w){F:List GFun}{t:Q2}(ht:t∈tys w){e:Z1}{fuel:Int}(h:exB w F t e fuel=true):(exQ w F t e fuel).2.code=0→Q0z w t (exQ w F t e fuel).1=true∧Z1h 10 (exQ w F t e fuel).1:=fun h0=>by
 simp only [exB,Bool.and_eq_true,decide_eq_true_eq] at h
 have hk:=Q6t h.1.1
 have:=Z1q hw hf hk (Z1r hw hf hk 50) (X3w w) 10 t e ⟨fuel,0,0⟩ ht (Q3w h.1.2) rfl h0
 exact ⟨this,Z4m hw ht this⟩
theorem Z0j {w:List Q4}(hw:WW w)(hf:Fit w){F:List GFun}(hF:F.length≤1000){t:Q2}(ht:t∈tys w)(e:Z1)(fuel:Int):Q45 NN w F t e fuel=some (Z3z w F t e fuel):=by
 unfold Q45 Z3z
 rw [Z2h hw hF]
 simp only [U0]
 cases h1:Z0m w F with
 | false=>simp only [exB,h1];rfl
 | true=>
  have hk:=Q6t h1
  rw [if_neg (by simp),X0x hF]
  simp only [U0]
  rw [Z8t hw (by simpa using hF) ht (X7l h1)]
  simp only [U0]
  cases h2:Q5x w (F.map (·.typ)) [] t e with
  | false=>simp only [exB,h1,h2];rfl
  | true=>
   rw [if_neg (by simp),Z4b]
   simp only [U0]
   cases h3:(decide (0≤fuel)&&decide (fuel≤300)) with
   | false=>simp only [exB,h1,h2,h3];rfl
   | true=>
    have hb:exB w F t e fuel=true:=by simp only [exB,h1,h2,h3];rfl
    rw [if_neg (by simp),if_pos hb]
    simp only [Bool.and_eq_true,decide_eq_true_eq] at h3
    show (Y5 NN (mkRn w F ⟨fuel,0,0⟩) t e [] (50-((50:Nat):Int))).bind _=_
    rw [X0t hw hf hk (k:=50) (by omega) (X0u hw hf hk 50 (by omega)) (X3w w) V99 (by simp) 10 NN t e ⟨fuel,0,0⟩ (by decide) ht (Q3w h2) rfl ⟨h3.1,Int.le_refl _,by simp only;omega⟩]
    simp only [U0]
    have hq:evE w (F.map (·.typ)) (evC w F 50) [] 10 t e ⟨fuel,0,0⟩=exQ w F t e fuel:=rfl
    rw [hq,X6o (fun h0=>(X4z hw hf ht hb h0).2)]
    rfl
end Go.Proofs.YtenmmbjgnlflnaaGreat
