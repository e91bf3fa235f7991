import Derived.Test.YtjgapphpbkapmaaGreatJMa0
import Derived.Test.YtjgapphpbkapmaaGreatJP1
set_option linter.unusedSimpArgs false
set_option linter.unusedVariables false
namespace Go.Proofs.YtjgapphpbkapmaaGreat
open Go Go.RowKit
theorem V06 {w:List Q3} (hw:WW w):∀ (m n:Nat) (r:X0) (t:Q4) (depth:Int),t∈tys w→depP w t≠0→depth≤m→depP w t≤m→-1000+m≤depth→m≤100→m+1≤n→ROk r (Q62 m)→
  Ret (Q26 n r w (tabP w) t depth) (fun a=>Nx r a.2 (Q62 m)):=by
 intro m
 induction m with
 | zero=>
  intro n r t depth ht hd h1 h2 h3 hm100 hn hr
  have:=(hw.ty t ht).d0
  omega
 | succ m ih=>
  intro n r t depth ht hd h1 h2 h3 hm100 hn hr
  obtain ⟨n,rfl⟩:∃ k,n=k+1:=⟨n-1,by omega⟩
  have hT:=hw.ty t ht
  have hpos:=X5g (m+1)
  unfold Q26
  refine Ret.ite (fun h=>?_) (fun h=>?_)
  ·refine Ret.bind (Q34 (hr.le hpos) (by omega) (by omega)) (fun a ha=>.some (ha.2.2.le' hpos))
  ·rw [Z9] at h
   rw [hT.c1]
   simp only [U0]
   obtain ⟨kb,hkb,hmb⟩:=hT.dm h hd
   have hd0:=hT.d0
   refine Ret.ctl (Z4 (X3 w t) (fun k s=>(∀ x∈s,x∈X3 w t∧0<Q2b w t x∧(Q2b w t x≤depth∨Q2b w t x=depP w t))∧s.length≤k∧(∀ j,j<k→(X3 w t)[j]?=some kb→s≠[])) (fun _=>False)
    (fun s=>(∀ x∈s,x∈X3 w t∧0<Q2b w t x∧(Q2b w t x≤depth∨Q2b w t x=depP w t))∧s≠[]∧s.length≤4) ⟨by simp,by simp,fun j hj=>by omega⟩ (fun k x s hx hI=>?_) (fun s hI=>?_)) (fun r hr=>hr.elim) (fun s hs=>?_)
   ·obtain ⟨i1,i2,i3⟩:=hI
    have hxm:=U1 hx
    have hkl:=(List.getElem?_eq_some_iff.1 hx).1
    have hcl:=hT.cl
    have take:∀ (hp:0<Q2b w t x∧(Q2b w t x≤depth∨Q2b w t x=depP w t)),Ret ((app s [x]).bind fun x310=>some (Ctl.brk (ρ:=Ctl (Q1×X0) (List Int)) x310)) (CtlQ (fun _=>False) (fun s'=>(∀ x∈s',x∈X3 w t∧0<Q2b w t x∧(Q2b w t x≤depth∨Q2b w t x=depP w t))∧s'.length≤k+1∧(∀ j,j<k+1→(X3 w t)[j]?=some kb→s'≠[]))):=fun hp=>by
     rw [W3 (by simp only [Q5,U3,U4];omega)]
     refine .some ⟨fun y hy=>?_,by simp;omega,fun _ _ _=>by simp⟩
     rcases List.mem_append.1 hy with hy | hy
     ·exact i1 y hy
     ·simp at hy;subst hy;exact ⟨hxm,hp⟩
    have pass:(¬(0<Q2b w t x∧(Q2b w t x≤depth∨Q2b w t x=depP w t)))→Ret (some (Ctl.brk (ρ:=Ctl (Q1×X0) (List Int)) s)) (CtlQ (fun _=>False) (fun s'=>(∀ x∈s',x∈X3 w t∧0<Q2b w t x∧(Q2b w t x≤depth∨Q2b w t x=depP w t))∧s'.length≤k+1∧(∀ j,j<k+1→(X3 w t)[j]?=some kb→s'≠[]))):=fun hp=>by
     refine .some ⟨i1,by omega,fun j hj hjk=>?_⟩
     by_cases hjk2:j=k
     ·subst hjk2
      rw [hx] at hjk
      cases hjk
      exact absurd ⟨by omega,.inr hmb⟩ hp
     ·exact i3 j (by omega) hjk
    refine Ret.ctl (R:=fun _=>False) (B:=fun (s':List Int)=>(∀ x∈s',x∈X3 w t∧0<Q2b w t x∧(Q2b w t x≤depth∨Q2b w t x=depP w t))∧s'.length≤k+1∧(∀ j,j<k+1→(X3 w t)[j]?=some kb→s'≠[])) ?_ (fun r hr=>hr.elim) (fun s' hs'=>⟨_,rfl,hs'⟩)
    rw [hT.m1 x hxm]
    simp only [U0]
    refine Ret.ite (fun c=>?_) (fun c=>?_)
    ·rw [X4] at c
     refine Ret.ite (fun c2=>?_) (fun c2=>?_)
     ·rw [Q15] at c2
      exact take ⟨c,.inl c2⟩
     ·rw [Q61] at c2
      rw [hT.d1]
      simp only [U0]
      refine Ret.ite (fun c3=>?_) (fun c3=>?_)
      ·rw [Q8] at c3
       exact take ⟨c,.inr c3⟩
      ·rw [Z9] at c3
       exact pass (by omega)
    ·rw [W1] at c
     exact pass (by omega)
   ·obtain ⟨i1,i2,i3⟩:=hI
    obtain ⟨j,hj⟩:=List.mem_iff_getElem?.1 hkb
    have:=hT.cl
    exact ⟨i1,i3 j ((List.getElem?_eq_some_iff.1 hj).1) hj,by omega⟩
   ·obtain ⟨i1,i2,i3⟩:=hs
    have hsl:1≤s.length:=by cases s with
     | nil=>exact absurd rfl i2
     | cons=>simp
    refine Ret.bind (Q34 (hr.le hpos) (k:=lenZ s.length) (by simp [lenZ];omega) (by simp [lenZ];omega)) (fun a ha=>?_)
    obtain ⟨x,hx,hxm⟩:=Q3h (xs:=s) ha.1 (by simpa [lenZ] using ha.2.1)
    obtain ⟨hxc,hx0,hxd⟩:=i1 x hxm
    rw [hx]
    simp only [U0]
    rw [hT.a1 x hxc]
    simp only [U0]
    have hal:=hT.al x hxc
    have hr1:ROk a.2 (3 * Q62 m):=ROk.nx (c:=1) hr ha.2.2
    refine Ret.ctl (Z4 (V6 w t x) (fun k s=>Nx a.2 s.1 (k * Q62 m)∧s.2.length≤k) (fun _=>False) (fun s=>Nx a.2 s.1 (3 * Q62 m)) ⟨by simpa using Nx.refl a.2,by simp⟩ (fun k y s hy hI=>?_) (fun s hI=>?_)) (fun r hr=>hr.elim) (fun s hs=>?_)
    ·obtain ⟨j1,j2⟩:=hI
     have hym:=U1 hy
     have hkl:=(List.getElem?_eq_some_iff.1 hy).1
     obtain ⟨d1,d2⟩:=hT.ma x hxc (by omega) y hym
     have hws:wsub .i64 depth 1=depth-1:=Q1u (by omega) (by omega)
     rw [hws]
     have hr2:ROk s.1 (Q62 m):=by
      have:k * Q62 m+Q62 m≤3 * Q62 m:=by
       rw [←Nat.succ_mul]
       exact Nat.mul_le_mul_right _ (by omega)
      exact ROk.nx (c:=k * Q62 m) (hr1.le this) j1
     refine Ret.bind (ih n s.1 y (depth-1) (hT.at_ x hxc y hym) (by omega) (by omega) (by omega) (by omega) (by omega) (by omega) hr2) (fun b hb=>?_)
     rw [W3 (by simp only [Q5,U3,U4];omega)]
     refine .some ⟨?_,by simp;omega⟩
     have:=j1.trans hb
     rw [←Nat.succ_mul] at this
     exact this
    ·obtain ⟨j1,j2⟩:=hI
     exact j1.le' (Nat.mul_le_mul_right _ hal)
    ·exact .some (ha.2.2.trans hs)
theorem Z2t {v u:Q1} {path:List Int} (h:Q7j v path=some u):Q6a v path=some u:=by
 suffices hs:Ret (Q6a v path) (fun r=>r=u) by
  obtain ⟨a,e,rfl⟩:=hs
  exact e
 unfold Q6a
 refine Ret.ctl (Z4 path (fun k s=>Q7j s (path.drop k)=some u) (fun _=>False) (fun s=>s=u) (by simpa using h) (fun k x s hx hI=>?_) (fun s hI=>by rw [List.drop_length,Q7j] at hI;exact Option.some.inj hI)) (fun r hr=>hr.elim) (fun s hs=>.some hs)
 rw [Z30 hx,Q7j] at hI
 cases hi:idx s.kids x with
 | none=>rw [hi] at hI;cases hI
 | some y=>
  rw [hi] at hI
  exact .some hI
theorem V34 {α:Type} {xs:List α} {i:Int} {x:α} (h:idx xs i=some x):x∈xs:=by
 unfold idx at h
 split at h
 ·exact U1 h
 ·cases h
theorem X40:∀ {path:List Int} {v u:Q1} {d:Nat},Z4g d v→d≤10→Q7j v path=some u→Z4g 10 u
 | [],v,u,d,hv,hd,h=>by
  rw [Q7j,Option.some.injEq] at h
  subst h
  exact X2b _ _ _ hd hv
 | i::path,v,u,d,hv,hd,h=>by
  rw [Q7j,U12] at h
  obtain ⟨x,hx,h⟩:=h
  cases d with
  | zero=>exact hv.elim
  | succ d=>exact X40 (hv.2 x (V34 hx)) (by omega) h
theorem Z5v {v:Q1} (hv:Z4g 10 v) {l:List Q2} {r:List X8} (hl:l.length≤1000) (h:Q2h l v=some r):Q6h NN l v=some r:=by
 suffices hs:Ret (Q6h NN l v) (fun a=>a=r) by
  obtain ⟨a,e,rfl⟩:=hs
  exact e
 unfold Q6h
 refine Ret.ctl (Z4 l (fun k s=>s.length=k∧∃ s',Q2h (l.drop k) v=some s'∧s++s'=r) (fun _=>False) (fun s=>s=r) ⟨rfl,r,by simpa using h,rfl⟩ (fun k x s hx hI=>?_) (fun s hI=>?_)) (fun r hr=>hr.elim) (fun s hs=>.some hs)
 ·obtain ⟨i1,s',i2,i3⟩:=hI
  have hk:=(List.getElem?_eq_some_iff.1 hx).1
  rw [Z30 hx,Q2h,U12] at i2
  obtain ⟨u,hu,i2⟩:=i2
  rw [U11] at i2
  obtain ⟨m,hm,rfl⟩:=i2
  rw [Z2t hu]
  simp only [U0]
  rw [Z2n 10 NN u (X40 hv (Nat.le_refl _) hu) (by decide)]
  simp only [U0]
  rw [W3 (by simp only [U3,U4,Q5];omega)]
  exact .some ⟨by simp [i1],m,hm,by rw [←i3];simp⟩
 ·obtain ⟨_,s',i2,i3⟩:=hI
  rw [List.drop_length,Q2h,Option.some.injEq] at i2
  rw [←i3,←i2]
  simp
theorem W8j {lst:List Q6} {v:Q1} (hv:Z4g 10 v) {t:X9} {a:Int} {bs:List X8} {k:Nat} (hd:Z0v 300 t) (h:runT 300 t lst v=some (a,bs,k)):Q5x NN t lst v=some (a,bs,(k:Int)):=by
 unfold Q5x
 generalize hf:(fun (s:X9×Int)=>_:X9×Int→Option (Ctl (Int×List X8×Int) (X9×Int)))=f
 have key:∀ (d n:Nat) (t:X9) (c k:Nat),Z0v d t→runT d t lst v=some (a,bs,k)→d≤n→c+d≤300→whileL f n (t,(c:Int))=some (.ret (a,bs,((c+k:Nat):Int))):=by
  intro d
  induction d with
  | zero=>intro n t c k h;exact h.elim
  | succ d ih=>
   intro n t c k hd h hn hc
   obtain ⟨n,rfl⟩:∃ j,n=j+1:=⟨n-1,by omega⟩
   obtain ⟨⟨hd1,hd2,hd3,hd4,hd5⟩,hd6⟩:=hd
   have e1:wadd .i64 (c:Int) 1=((c+1:Nat):Int):=by rw [Y5 (by omega) (by omega)];omega
   rw [runT] at h
   split at h
   ·rename_i h2
    rw [U12] at h
    obtain ⟨u,hu,h⟩:=h
    obtain ⟨q,hq,hqq⟩:=Z45 t.branches u
    split at h
    ·rename_i hnone
     rw [hnone] at hqq
     simp only [Option.some.injEq,Prod.mk.injEq] at h hqq
     obtain ⟨rfl,rfl,rfl⟩:=h
     subst hqq
     refine Q2c ?_
     subst hf
     simp only
     rw [if_pos (by rw [Q8];exact h2),Z2t hu]
     simp only [U0]
     rw [hq]
     simp only [U0]
     rw [if_pos (by rw [X4];omega),e1]
    ·rename_i b hsome
     rw [hsome] at hqq
     obtain ⟨i,rfl,hi⟩:=hqq
     rw [U11] at h
     obtain ⟨r,hr,h⟩:=h
     simp only [Prod.mk.injEq] at h
     obtain ⟨rfl,rfl,rfl⟩:=h
     have hgo:f (t,(c:Int))=some (.go (b.tree,((c+1:Nat):Int))):=by
      subst hf
      simp only
      rw [if_pos (by rw [Q8];exact h2),Z2t hu]
      simp only [U0]
      rw [hq]
      simp only [U0]
      rw [if_neg (by rw [X4];omega),Q2a hi,e1]
      rfl
     rw [Z0z hgo,ih n b.tree (c+1) r.2.2 (hd6 _ (List.mem_append_left _ (List.mem_map_of_mem (U1 hi)))) hr (by omega) (by omega)]
     congr 4
     omega
   ·rename_i h2
    split at h
    ·rename_i h1
     rw [U12] at h
     obtain ⟨cl,hcl,h⟩:=h
     rw [U12] at h
     obtain ⟨l,hl,h⟩:=h
     split at h
     ·rename_i hg
      simp only [Option.some.injEq,Prod.mk.injEq] at h
      obtain ⟨rfl,rfl,rfl⟩:=h
      refine Q2c ?_
      subst hf
      simp only
      rw [if_neg (by rw [Q8];exact h2),if_pos (by rw [Q8];exact h1),Z5v hv hd1 hl]
      simp only [U0]
      rw [hcl]
      simp only [U0]
      rw [Q84]
      simp only [U0]
      rw [if_pos hg]
      rfl
     ·rename_i hg
      split at h
      ·rename_i el rest hel
       have hgo:f (t,(c:Int))=some (.go (el,(c:Int))):=by
        subst hf
        simp only
        rw [if_neg (by rw [Q8];exact h2),if_pos (by rw [Q8];exact h1),Z5v hv hd1 hl]
        simp only [U0]
        rw [hcl]
        simp only [U0]
        rw [Q84]
        simp only [U0]
        rw [if_neg hg,hel]
        rfl
       rw [Z0z hgo]
       exact ih n el c k (hd6 _ (List.mem_append_right _ (by rw [hel];simp))) h (by omega) (by omega)
      ·cases h
    ·rename_i h1
     simp only [Option.some.injEq,Prod.mk.injEq] at h
     obtain ⟨rfl,rfl,rfl⟩:=h
     refine Q2c ?_
     subst hf
     simp only
     rw [if_neg (by rw [Q8];exact h2),if_neg (by rw [Q8];exact h1)]
     rfl
 rw [show (0:Int)=((0:Nat):Int) from rfl,key 300 NN t 0 k hd h (by decide) (by omega)]
 simp
theorem W0d {b:List Int} (hb:∀ x∈b,0≤x∧x≤255) (hl:b.length≤2000) {E:Nat} {V:Nat→Int} (hE:E≤20000000) (hP:Zed.Pot (pk24 ⟨b,0⟩) E V):∀ (k n:Nat) (v:Q1) (p m:Nat) (P:Int),E-p≤k→k<n→m≤100+p→widV m v→1≤P→2 * P≤V p→
  Ret (Q0n n ⟨b,(p:Int)⟩ v) (fun a=>∃ p':Nat,a.2=⟨b,(p':Int)⟩∧p<p'∧p'≤E+2∧2 * (P-1)≤V p'∧widV (m+(p'-p)) a.1):=by
 intro k
 induction k with
 | zero=>
  intro n v p m P hk hn hm hv h1 h2
  have:=hP.fin p (by omega)
  omega
 | succ k ih=>
  intro n v p m P hk hn hm hv h1 h2
  obtain ⟨n,rfl⟩:∃ j,n=j+1:=⟨n-1,by omega⟩
  have hpE:p<E:=by
   rcases Nat.lt_or_ge p E with h | h
   ·exact h
   ·have:=hP.fin p h
    omega
  have hv':=(Q81 m v).1 hv
  unfold Q0n
  rw [W3 (by simp only [U4,Q5];omega)]
  simp only [U0]
  have hpk:=V17 (r:=⟨b,(p:Int)⟩) hb hl rfl (by omega:p≤30000000)
  have hpe:pk24 ⟨b,(p:Int)⟩ p=pk24 ⟨b,0⟩ p:=rfl
  rw [hpe] at hpk
  simp only at hpk
  have hr1:ROk ⟨b,((p+1:Nat):Int)⟩ 1:=⟨hb,hl,by simp only;omega,by simp only;omega⟩
  refine Ret.ctl (R:=fun _=>False) (B:=fun (s:X0×Int×Int×List Q1)=>∃ p':Nat,s.1=⟨b,(p':Int)⟩∧p<p'∧p'≤E+2∧2 * (P-1)≤V p'∧s.2.2.2.length≤m+(p'-p)∧∀ x∈s.2.2.2,widV (m+(p'-p)) x) ?_ (fun r hr=>hr.elim) (fun s hs=>?_)
  ·rw [hpk]
   simp only [U0]
   have kidsOk:∀ q:Nat,v.kids.length≤m+q∧∀ x∈v.kids,widV (m+q) x:=fun q=>⟨by omega,fun x hx=>Q80 (by omega) x (hv'.2 x hx)⟩
   have skip:pk24 ⟨b,0⟩ p≤1→∀ (a:Int×X0),Nx ⟨b,((p+1:Nat):Int)⟩ a.2 1→a.2.p=((p+2:Nat):Int)→a.2=⟨b,((p+2:Nat):Int)⟩∧2 * (P-1)≤V (p+2):=fun h a hn hp2=>by
    have:=hP.skip p hpE h
    refine ⟨?_,by omega⟩
    cases a with
    | mk x r=>
     cases r with
     | mk bb pp=>
      have e1:bb=b:=hn.b
      simp only at hp2
      rw [e1,hp2]
   have num2:∀ l:List Int,1≤l.length→l.length≤1000→Ret (X5 ⟨b,((p+1:Nat):Int)⟩ l) (fun a=>Nx ⟨b,((p+1:Nat):Int)⟩ a.2 1∧a.2.p=((p+2:Nat):Int)):=fun l hl1 hl2=>by
    obtain ⟨a,e,_,hn⟩:=Q7k hr1 l hl1 hl2
    refine ⟨a,e,hn,?_⟩
    unfold X5 at e
    cases hpick:Z8 ⟨b,((p+1:Nat):Int)⟩ (lenZ l.length) with
    | none=>rw [hpick] at e;cases e
    | some q=>
     rw [hpick] at e
     simp only [U0] at e
     cases hi:idx l q.1 with
     | none=>rw [hi] at e;cases e
     | some y=>
      rw [hi] at e
      simp only [U0,Option.some.injEq] at e
      subst e
      simp only
      have:=X3y hpick (by simp only;omega)
      rw [this]
      show wadd .i64 ((p+1:Nat):Int) 1=_
      rw [Y5 (by omega) (by omega)]
      omega
   refine Ret.ite (fun h0=>?_) (fun h0=>?_)
   ·rw [Q8] at h0
    refine Ret.bind (num2 _ (by simp) (by simp)) (fun a ha=>.some ?_)
    obtain ⟨e1,e2⟩:=skip (by omega) a ha.1 ha.2
    exact ⟨p+2,e1,by omega,by omega,e2,(kidsOk _).1,(kidsOk _).2⟩
   rw [Z9] at h0
   refine Ret.ite (fun h1'=>?_) (fun h1'=>?_)
   ·rw [Q8] at h1'
    refine Ret.bind (num2 _ (by simp) (by simp)) (fun a ha=>.some ?_)
    obtain ⟨e1,e2⟩:=skip (by omega) a ha.1 ha.2
    exact ⟨p+2,e1,by omega,by omega,e2,(kidsOk _).1,(kidsOk _).2⟩
   rw [Z9] at h1'
   refine Ret.ite (fun h2'=>?_) (fun h2'=>?_)
   ·rw [Q8] at h2'
    have hot:=hP.other p hpE (by omega) (by omega)
    rw [W3 (by simp only [U3,U4,Q5];omega)]
    refine .some ⟨p+1,rfl,by omega,by omega,by omega,by simp only [U5,U3,U4];omega,fun x hx=>?_⟩
    rcases List.mem_append.1 hx with hx | hx
    ·exact (kidsOk _).2 x hx
    ·simp only [List.mem_singleton] at hx
     rw [hx,Q81]
     exact ⟨by simp,fun y hy=>by cases hy⟩
   rw [Z9] at h2'
   refine Ret.ite (fun h3=>?_) (fun h3=>?_)
   ·rw [Q8] at h3
    have hth:=hP.three p hpE (by omega)
    refine Ret.ite (fun h4=>?_) (fun h4=>?_)
    ·rw [X4] at h4
     simp only [lenZ] at h4
     obtain ⟨x,hx,hxm⟩:=Q3h (xs:=v.kids) (i:=0) (by omega) (by omega)
     rw [hx]
     simp only [U0]
     refine Ret.bind (ih n x (p+1) m (P+1) (by omega) (by omega) (by omega) (hv'.2 x hxm) (by omega) (by omega)) (fun a ha=>?_)
     obtain ⟨p1,e1,e2,e3,e4,e5⟩:=ha
     rw [e1]
     refine Ret.bind (ih n a.1 p1 (m+(p1-(p+1))) P (by omega) (by omega) (by omega) e5 h1 (by omega)) (fun c hc=>?_)
     obtain ⟨p2,g1,g2,g3,g4,g5⟩:=hc
     have hset:setI v.kids 0 c.1=some (v.kids.set 0 c.1):=by
      unfold setI
      rw [if_pos ⟨by omega,by show 0<v.kids.length;omega⟩]
      rfl
     rw [hset]
     simp only [U0]
     refine .some ⟨p2,g1,by omega,g3,g4,by simp only [List.length_set];omega,fun y hy=>?_⟩
     rcases List.mem_or_eq_of_mem_set hy with hy | rfl
     ·exact (kidsOk _).2 y hy
     ·exact Q80 (by omega) _ g5
    ·exact .some ⟨p+1,rfl,by omega,by omega,by omega,(kidsOk _).1,(kidsOk _).2⟩
   ·rw [Z9] at h3
    have hot:=hP.other p hpE (by omega) (by omega)
    exact .some ⟨p+1,rfl,by omega,by omega,by omega,(kidsOk _).1,(kidsOk _).2⟩
  ·obtain ⟨p',e1,e2,e3,e4,e5,e6⟩:=hs
   exact .some ⟨p',e1,e2,e3,e4,(Q81 _ _).2 ⟨e5,e6⟩⟩
theorem W0e {r:X0} (hr:ROk r 1) (hp:r.p≤5000) {v:Q1} (hv:widV 100 v):Ret (Q0n NN r v) (fun a=>Nx r a.2 20000010):=by
 obtain ⟨b,p⟩:=r
 obtain ⟨h1,h2,h3,h4⟩:=hr
 simp only at h1 h2 h3 h4 hp
 obtain ⟨p,rfl⟩:=Int.eq_ofNat_of_zero_le h3
 have hex:∃ E V,Zed.Pot (pk24 ⟨b,0⟩) E V∧2≤V p∧E≤20000000:=by
  by_cases hb:b.length=0
  ·obtain ⟨E,V,g1,g2,g3⟩:=Zed.pot0 p
   refine ⟨E,V,?_,g2,by omega⟩
   have:pk24 ⟨b,0⟩=fun _=>0:=by
    funext q
    unfold pk24
    rw [if_pos hb]
   rw [this]
   exact g1
  ·obtain ⟨E,V,g1,g2,g3⟩:=Zed.pot (byt ⟨b,0⟩) (fun i=>by
    unfold byt
    simp only
    rw [List.getD_eq_getElem?_getD]
    cases hi:b[i]? with
    | none=>simp
    | some x=>
     have:=h1 x (U1 hi)
     simp only [Option.getD_some]
     omega) (L:=b.length) (p0:=p) (by omega) h2 (by omega)
   refine ⟨E,V,?_,g2,g3⟩
   have:pk24 ⟨b,0⟩=Zed.pkv (byt ⟨b,0⟩) b.length:=by
    funext q
    unfold pk24
    rw [if_neg hb]
   rw [this]
   exact g1
 obtain ⟨E,V,g1,g2,g3⟩:=hex
 refine Ret.mono ?_ (W0d h1 h2 g3 g1 (E-p) NN v p (100+p) 1 (Nat.le_refl _) (by simp only [NN];omega) (Nat.le_refl _) (Q80 (by omega) v hv) (by omega) (by omega))
 rintro a ⟨p',e1,e2,e3,_,_⟩
 rw [e1]
 refine ⟨rfl,?_,?_⟩
 ·show ((p:Nat):Int)≤((p':Nat):Int)
  omega
 ·show ((p':Nat):Int)≤((p:Nat):Int)+((20000010:Nat):Int)
  omega
theorem X9t {r:X0} (h:ROk r 1000):Ret (Q3s NN r) (fun a=>a.1∈Q0z∧a.2.1∈tys a.1∧Nx r a.2.2.2 500∧widV 3 a.2.2.1∧depP a.1 a.2.1≠0):=by
 unfold Q3s
 refine Ret.bind (X81 (h.le (by omega))) (fun a ha=>?_)
 obtain ⟨hw,hn1⟩:=ha
 have hW:=ww hw
 rw [hW.tab]
 simp only [U0]
 have hr1:ROk a.2 999:=ROk.nx (c:=1) h hn1
 have hpos:=hW.pos
 have hle:=hW.le
 refine Ret.bind (Q34 (hr1.le (by omega)) (k:=lenZ a.1.length) (by simp only [lenZ];omega) (by simp only [lenZ];omega)) (fun b hb=>?_)
 have hr2:ROk b.2 998:=ROk.nx (c:=1) hr1 hb.2.2
 refine Ret.bind (Q7k (hr2.le (by omega)) [0,0,1,2] (by simp) (by simp)) (fun c hc=>?_)
 have hr3:ROk c.2 997:=ROk.nx (c:=1) hr2 hc.2
 have hty:(Q4.mk b.1 c.1)∈tys a.1:=by
  obtain ⟨i,hi⟩:=Int.eq_ofNat_of_zero_le hb.1
  have hil:i<a.1.length:=by have:=hb.2.1;simp only [lenZ] at this;omega
  have hci:∃ j:Nat,j<4∧c.1=(j:Int):=by
   have:=hc.1
   simp at this
   rcases this with h | h | h
   ·exact ⟨0,by omega,h⟩
   ·exact ⟨1,by omega,h⟩
   ·exact ⟨2,by omega,h⟩
  obtain ⟨j,hj,hcj⟩:=hci
  unfold tys
  refine List.mem_cons_of_mem _ (List.mem_flatMap.2 ⟨i,List.mem_range.2 hil,U10.2 ⟨j,List.mem_range.2 hj,?_⟩⟩)
  rw [hi,hcj]
  rfl
 have htI:tI∈tys a.1:=by unfold tys;exact List.mem_cons_self
 refine Ret.ctl (R:=fun _=>False) (B:=fun s=>(Q4.mk s.1 s.2)∈tys a.1∧depP a.1 (Q4.mk s.1 s.2)≠0) ?_ (fun r hr=>hr.elim) (fun s hs=>?_)
 ·rw [(hW.ty _ hty).d1]
  simp only [U0]
  refine Ret.ite (fun h=>?_) (fun h=>?_)
  ·refine .some ⟨htI,?_⟩
   have:=(hW.ty tI htI).ti rfl
   show depP a.1 tI≠0
   omega
  ·rw [Z9] at h
   exact .some ⟨hty,h⟩
 ·refine Ret.bind (Q7k (hr3.le (by omega)) [3,2,4,1] (by simp) (by simp)) (fun d hd=>?_)
  have hr4:ROk d.2 996:=ROk.nx (c:=1) hr3 hd.2
  have hd4:1≤d.1∧d.1≤4:=by
   have:=hd.1
   simp at this
   omega
  have hdep:=(hW.ty _ hs.1).d4
  refine Ret.bind ((V06 hW 4 NN d.2 _ d.1 hs.1 hs.2 (by omega) (by omega) (by omega) (by omega) (by decide) (hr4.le (by decide))).both (X5a hW NN d.2 _ d.1 hs.1)) (fun e he=>?_)
  refine .some ⟨hw,hs.1,?_,he.2,hs.2⟩
  have:=(((hn1.trans hb.2.2).trans hc.2).trans hd.2).trans he.1
  exact this.le' (by decide)
theorem X9r {r:X0} (h:ROk r 5000):Ret (Q3p NN r) (fun a=>a.1∈Q0z∧a.2.1∈tys a.1∧(∀ c∈a.2.2.1,Q4y a.1 a.2.1 c.pat=true)∧a.2.2.1.length≤5∧Nx r a.2.2.2.2 4000∧widV 3 a.2.2.2.1∧depP a.1 a.2.1≠0):=by
 unfold Q3p
 refine Ret.bind (X9t (h.le (by omega))) (fun a ha=>?_)
 obtain ⟨h1,h2,h3,h4,h5⟩:=ha
 refine Ret.bind (X8m (ww h1) h2 (ROk.nx (c:=500) (h.le (by omega)) h3)) (fun b hb=>?_)
 exact .some ⟨h1,h2,hb.1,hb.2.1,(h3.trans hb.2.2).le' (by omega),h4,h5⟩
theorem W1t (code:List Int) (hb:∀ x∈code,0≤x∧x≤255):Ret (Q0x NN code) (fun a=>a.1∈Q0z∧a.2.1∈tys a.1):=by
 unfold Q0x
 refine Ret.bind (X1d code hb) (fun r hr=>?_)
 obtain ⟨hr,hp0⟩:=hr
 refine Ret.bind (X9r (hr.le (by omega))) (fun a ha=>?_)
 obtain ⟨h1,h2,h3,h4,h5,h6,_⟩:=ha
 have hr1:ROk a.2.2.2.2 900000:=ROk.nx (c:=4000) (hr.le (by omega)) h5
 refine Ret.bind (X0c (hr1.le (by omega)) a.2.2.1 (by omega) (fun c hc=>by have:=Z9y (ww h1) h2 (h3 c hc);omega)) (fun b hb=>?_)
 have hr2:ROk b.2 800000:=ROk.nx (c:=10) (hr1.le (by omega)) hb.2
 refine Ret.bind (Q7k (hr2.le (by omega)) [0,1,2,0,3] (by simp) (by simp)) (fun c hc=>?_)
 have hr3:ROk c.2 700000:=ROk.nx (c:=1) (hr2.le (by omega)) hc.2
 have hp:c.2.p≤5000:=by
  have e1:=h5.ge
  have e2:=hb.2.ge
  have e3:=hc.2.ge
  omega
 refine Ret.bind (W0e (hr3.le (by omega)) hp (Q80 (by omega) _ h6)) (fun d _=>.some ⟨h1,h2⟩)
theorem V88 {w:List Q3} (hww:w∈Q0z):∀ (d:Nat) (t:Q4) (v:Q1),t∈tys w→Q46 w d t v→Q91 w d t v:=by
 intro d
 induction d with
 | zero=>intro t v _ h;exact h
 | succ d ih=>
  intro t v ht h
  have hwh:=X0h hww (d+1) t v ht h
  rw [Q46] at h
  rw [Q91]
  refine .inr ⟨hwh.1,?_⟩
  split at h
  ·rename_i hd
   rw [if_pos hd]
   exact h
  ·rename_i hd
   rw [if_neg hd]
   obtain ⟨h1,h2,h3,h4⟩:=h
   exact ⟨h1,h2,h3,fun j a x ha hx=>ih a x (((ww hww).ty t ht).at_ _ h2 a (U1 ha)) (h4 j a x ha hx)⟩
theorem V24 {w:List Q3} (hww:w∈Q0z) {t:Q4} (ht:t∈tys w) {v:Q1} (h:Q8i w t v=true):Q9j w t v=true:=by
 have hg:=(X0j 10 t v).2 (V88 hww 10 t v ht (Q9y h))
 simp only [Q8i,Bool.and_eq_true] at h
 simp only [Q9j,hg,h.2,Bool.and_self]
theorem X1g (code:List Int) (hb:∀ x∈code,0≤x∧x≤255):Q2y NN code=some true:=by
 suffices hr:Ret (Q2y NN code) (fun r=>r=true) by
  obtain ⟨_,e,rfl⟩:=hr
  exact e
 unfold Q2y
 refine Ret.ite (fun _=>.some rfl) (fun _=>?_)
 refine Ret.bind (P:=fun a=>a.1∈Q0z∧a.2.1∈tys a.1) ?_ (fun a ha=>?_)
 ·unfold Q1r
  exact Ret.bind (W1t code hb) (fun a ha=>.some ha)
 obtain ⟨w,t,l,pick,v⟩:=a
 obtain ⟨hww,ht⟩:=ha
 simp only at hww ht ⊢
 have hw:=ww hww
 obtain ⟨tr,ok,e1,e2,h1,h2,h3⟩:=(Q9s hww ht l pick).eq
 obtain ⟨r,p1,p2,hr⟩:=Z8w hww ht e1 e2 h2 v
 have r1:ieq r.1 r.1=true:=by simp [ieq]
 have hT:∃ s,Q4w NN w t l pick v=some s∧(¬s.2.2<0→ok=true∧Q8i w t v=true∧s.1=(runR (runD v 0 l)).1):=by
  unfold Q4w
  rw [e1]
  simp only [U0]
  cases ok with
  | false=>exact ⟨_,rfl,fun h=>absurd (by simp) h⟩
  | true=>
   simp only [Bool.not_true,U2,if_false]
   rw [Z5u hw ht v]
   simp only [U0]
   cases hv:Q8i w t v with
   | false=>exact ⟨_,rfl,fun h=>absurd (by simp) h⟩
   | true=>
    simp only [Bool.not_true,U2,if_false]
    have hg:=Q9y hv
    obtain ⟨k,hk⟩:=Z5l hww ht e1 hg
    rw [W8j (Z55 hw 10 t v ht hg) h2 hk]
    exact ⟨_,rfl,fun _=>⟨trivial,trivial,rfl⟩⟩
 obtain ⟨s,q1,q2⟩:=hT
 rw [p1,p2,q1]
 simp only [U0,r1,beq_self_eq_true,Bool.not_true,U2,if_false,if_true]
 rw [Z7c]
 simp only [U0,Bool.not_true,U2,if_false,if_true]
 refine Ret.ite (fun _=>.some rfl) (fun hn=>?_)
 rw [W1] at hn
 obtain ⟨hok,hv,hs⟩:=q2 (by omega)
 subst hok
 rcases hr with ⟨_,hr⟩ | ⟨_,_,q,hq,rfl⟩
 ·exact absurd ⟨rfl,V24 hww ht hv⟩ hr
 ·obtain ⟨g1,g2,g3⟩:=X8b hww ht e1 (Q9y hv) hq
  simp only [g2,g3,Bool.not_false,if_true]
  rw [if_pos (by rw [Q8,g1,hs])]
  exact .some rfl
end Go.Proofs.YtjgapphpbkapmaaGreat
