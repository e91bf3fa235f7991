import Derived.Test.YtfhpjeogjcfkaaaGreatSJP0
set_option linter.unusedSimpArgs false
set_option linter.unusedVariables false
namespace Go.Proofs.YtfhpjeogjcfkaaaGreat
open Go Go.RowKit
def sepP (w:List Q4)(t:Q1):List Q0→List Q0→Option (List Q0)
 | _,[]=>some []
 | bef,p::ps=>(Q0t w 10 11 t [p] bef).bind fun m=>(sepP w t (bef++[p]) ps).map (m++·)
theorem Z65 {w:List Q4}{t:Q1} : ∀ (ps bef r:List Q0),(∀ b∈bef,Z7 w 10 t b)→(∀ p∈ps,Z7 w 10 t p)→sepP w t bef ps=some r→∀ y∈r,Z7 w 11 t y
 | [],_,r,_,_,e=>by simp only [sepP,Option.some.injEq] at e;subst e;simp
 | p::ps,bef,r,hb,hp,e=>by
  simp only [sepP] at e
  cases hm:Q0t w 10 11 t [p] bef with
  | none=>rw [hm] at e;simp at e
  | some m=>
   rw [hm] at e
   simp only [U0,U11] at e
   obtain ⟨r2,h2,rfl⟩:=e
   intro y hy
   rcases List.mem_append.1 hy with hy | hy
   ·exact Z0b (by omega) hb (fun a ha=>by simp only [List.mem_singleton] at ha;rw [ha];exact Q5y 10 t p (hp p (by simp))) hm y hy
   ·exact Z65 ps (bef++[p]) r2 (fun b hb'=>by
     rcases List.mem_append.1 hb' with h | h
     ·exact hb b h
     ·simp only [List.mem_singleton] at h;rw [h];exact hp p (by simp)) (fun q hq=>hp q (by simp [hq])) h2 y hy
theorem W35 {w:List Q4}(hw:WW w)(he:WE w){t:Q1}(ht:t∈tys w){e:Nat}{v:Q3}(hv:Q1j w e t v):∀ (ps bef r:List Q0),(∀ b∈bef,Z7 w 10 t b)→(∀ p∈ps,Z7 w 10 t p)→sepP w t bef ps=some r→
  ((∃ y∈r,fitP y v=true)↔(∃ p∈ps,fitP p v=true)∧∀ b∈bef,fitP b v=false)
 | [],_,r,_,_,e=>by simp only [sepP,Option.some.injEq] at e;subst e;simp
 | p::ps,bef,r,hb,hp,e=>by
  simp only [sepP] at e
  cases hm:Q0t w 10 11 t [p] bef with
  | none=>rw [hm] at e;simp at e
  | some m=>
   rw [hm] at e
   simp only [U0,U11] at e
   obtain ⟨r2,h2,rfl⟩:=e
   have h3:=Z6k hw he ht (by omega) hv hb (fun a ha=>by simp only [List.mem_singleton] at ha;rw [ha];exact Q5y 10 t p (hp p (by simp))) hm
   have h4:=W35 hw he ht hv ps (bef++[p]) r2 (fun b hb'=>by
     rcases List.mem_append.1 hb' with h | h
     ·exact hb b h
     ·simp only [List.mem_singleton] at h;rw [h];exact hp p (by simp)) (fun q hq=>hp q (by simp [hq])) h2
   constructor
   ·rintro ⟨y,hy,hf⟩
    rcases List.mem_append.1 hy with hy | hy
    ·obtain ⟨⟨a,ha,haf⟩,hbf⟩:=h3.1 ⟨y,hy,hf⟩
     simp only [List.mem_singleton] at ha
     subst ha
     exact ⟨⟨a,by simp,haf⟩,hbf⟩
    ·obtain ⟨⟨a,ha,haf⟩,hbf⟩:=h4.1 ⟨y,hy,hf⟩
     exact ⟨⟨a,by simp [ha],haf⟩,fun b hb'=>hbf b (by simp [hb'])⟩
   ·rintro ⟨⟨a,ha,haf⟩,hbf⟩
    cases hpf:fitP p v with
    | true=>
     obtain ⟨y,hy,hf⟩:=h3.2 ⟨⟨p,by simp,hpf⟩,hbf⟩
     exact ⟨y,by simp [hy],hf⟩
    | false=>
     rcases U8.1 ha with rfl | ha
     ·rw [hpf] at haf;cases haf
     ·obtain ⟨y,hy,hf⟩:=h4.2 ⟨⟨a,ha,haf⟩,fun b hb'=>by
       rcases List.mem_append.1 hb' with h | h
       ·exact hbf b h
       ·simp only [List.mem_singleton] at h;rw [h];exact hpf⟩
      exact ⟨y,by simp [hy],hf⟩
def Q53 (w:List Q4)(t:Q1)(cs:List Q5)(i:Nat):Option (List Q0):=
 if Y5 w t cs=true then (match cs[i]? with
  | none=>none
  | some c=>(Q6t c.pat).bind fun mine=>(Q2h (cs.take i)).bind fun away=>Q78 w t ((sepP w t [] mine).bind fun out=>Q0t w 10 11 t out away)) else none
theorem Z4h {w:List Q4}{t:Q1}{p:Q0}(g:Q18 w 10 t p=true){l:List Q0}(h:Q6t p=some l):∀ q∈l,Z7 w 10 t q:=by
 obtain ⟨_,rfl⟩:=Q91 h
 exact Q8z 10 t _ (Q7n (fun t h=>Z14 t h) 10 t p g)
theorem Z9v {w:List Q4}{t:Q1}{o:Option (List Q0)}{r:List Q0}(h:Q78 w t o=some r):o=some r:=by
 cases o with
 | none=>simp [Q78] at h
 | some l=>
  simp only [Q78] at h
  split at h
  ·exact h
  ·cases h
structure ROk (r:Z0) (m:Nat):Prop where
 bytes:∀ x∈r.b,0≤x∧x≤255
 len:r.b.length≤2000
 p0:0≤r.p
 pm:r.p+m≤40000000
structure Nx (r r':Z0) (c:Nat):Prop where
 b:r'.b=r.b
 le:r.p≤r'.p
 ge:r'.p≤r.p+c
theorem ROk.le {r:Z0}{m m':Nat}(h:ROk r m)(hm:m'≤m):ROk r m':=⟨h.bytes,h.len,h.p0,by have:=h.pm;omega⟩
theorem ROk.nx {r r':Z0}{c m:Nat}(h:ROk r (c+m))(hn:Nx r r' c):ROk r' m:=⟨by rw [hn.b];exact h.bytes,by rw [hn.b];exact h.len,by have:=h.p0;have:=hn.le;omega,by have:=h.pm;have:=hn.ge;omega⟩
theorem Nx.refl (r:Z0):Nx r r 0:=⟨rfl,by omega,by omega⟩
theorem Nx.trans {a b c:Z0}{m n:Nat}(h:Nx a b m)(k:Nx b c n):Nx a c (m+n):=⟨k.b.trans h.b,by have:=h.le;have:=k.le;omega,by have:=h.ge;have:=k.ge;omega⟩
theorem Nx.le' {a b:Z0}{m n:Nat}(h:Nx a b m)(hm:m≤n):Nx a b n:=⟨h.b,h.le,by have:=h.ge;omega⟩
theorem W2e {x y:Int}(hx:0≤x)(hx':x<1099511627776)(hy:0≤y)(hy':y<1099511627776):0≤wxor .i64 x y∧wxor .i64 x y<1099511627776:=by
 obtain ⟨a,rfl⟩:=Int.eq_ofNat_of_zero_le hx
 obtain ⟨b,rfl⟩:=Int.eq_ofNat_of_zero_le hy
 have e:(BitVec.ofInt IntKind.i64.bits (a:Int) ^^^ BitVec.ofInt IntKind.i64.bits (b:Int)).toNat=a ^^^ b:=by
  have ha:(BitVec.ofInt IntKind.i64.bits (a:Int)).toNat=a:=by
   rw [BitVec.toNat_ofInt]
   show (((a:Int) % ((2 ^ 64:Nat):Int))).toNat=a
   omega
  have hb:(BitVec.ofInt IntKind.i64.bits (b:Int)).toNat=b:=by
   rw [BitVec.toNat_ofInt]
   show (((b:Int) % ((2 ^ 64:Nat):Int))).toNat=b
   omega
  rw [BitVec.toNat_xor,ha,hb]
 have hlt:a ^^^ b<2 ^ 40:=Nat.xor_lt_two_pow (by omega) (by omega)
 unfold wxor
 rw [e,Z6j (by omega) (by omega)]
 omega
theorem Q3o {r:Z0}(h:ROk r 1){k:Int}(h1:1≤k)(h2:k≤1000000):Ret (Z4 r k) (fun a=>0≤a.1∧a.1<k∧Nx r a.2 1):=by
 have hp0:=h.p0
 have hpm:=h.pm
 have hlen:=h.len
 have ep:wadd .i64 r.p 1=r.p+1:=Q10 (by omega) (by omega)
 have eq:wsub .i64 (r.p+1) 1=r.p:=by rw [Q3z (by omega) (by omega)];omega
 have nx:Nx r (Z0.mk r.b (r.p+1)) 1:=⟨rfl,by simp only;omega,by simp only;omega⟩
 unfold Z4
 rw [ep,eq]
 refine Ret.ite (fun c=>by rw [Z9] at c;omega) (fun _=>?_)
 refine Ret.ite (fun c=>.some ⟨by simp,by simp;omega,nx⟩) (fun c=>?_)
 rw [X0] at c
 simp only [lenZ] at c
 have hpos:0<r.b.length:=by omega
 have hk0:chk (!ieq k 0)=some ():=X0h (by simp [ieq];omega)
 have hb0:chk (!ieq (lenZ r.b.length) 0)=some ():=X0h (by rw [Bool.not_eq_true',X0];simp only [lenZ];omega)
 have rem:∀ x:Int,0≤x→0≤wrem x k∧wrem x k<k:=fun x hx=>by
  unfold wrem
  rw [Int.tmod_eq_emod_of_nonneg hx]
  exact ⟨Int.emod_nonneg _ (by omega),Int.emod_lt_of_pos _ (by omega)⟩
 refine Ret.ite (fun c2=>?_) (fun c2=>?_)
 ·rw [Z9] at c2
  simp only [lenZ] at c2
  obtain ⟨x,hx,hm⟩:=Q5h hp0 c2
  obtain ⟨b1,b2⟩:=h.bytes x hm
  rw [hx,hk0]
  simp only [U0]
  rw [W2h (by omega) (by omega)]
  exact .some ⟨(rem x b1).1,(rem x b1).2,nx⟩
 ·rw [hb0]
  simp only [U0]
  have remb:∀ x:Int,0≤x→0≤wrem x (lenZ r.b.length)∧wrem x (lenZ r.b.length)<r.b.length:=fun x hx=>by
   unfold wrem lenZ
   rw [Int.tmod_eq_emod_of_nonneg hx]
   exact ⟨Int.emod_nonneg _ (by omega),Int.emod_lt_of_pos _ (by omega)⟩
  have e7:wmul .i64 r.p 7=r.p * 7:=Z23 (by omega) (by omega)
  have e73:wadd .i64 (r.p * 7) 3=r.p * 7+3:=Q10 (by omega) (by omega)
  rw [e7,e73]
  obtain ⟨x,hx,hm⟩:=Q5h (remb r.p hp0).1 (remb r.p hp0).2
  obtain ⟨y,hy,hn⟩:=Q5h (remb (r.p * 7+3) (by omega)).1 (remb (r.p * 7+3) (by omega)).2
  obtain ⟨b1,b2⟩:=h.bytes x hm
  obtain ⟨b3,b4⟩:=h.bytes y hn
  rw [hx,hy,hk0]
  simp only [U0]
  have f1:wcv .i64 x=x:=W2h (by omega) (by omega)
  have f2:wcv .i64 y=y:=W2h (by omega) (by omega)
  have f3:wmul .i64 x 131=x * 131:=Z23 (by omega) (by omega)
  have f4:wmul .i64 y 1117=y * 1117:=Z23 (by omega) (by omega)
  have f5:wmul .i64 r.p 29=r.p * 29:=Z23 (by omega) (by omega)
  have hq:0≤r.p.tdiv (lenZ r.b.length)∧r.p.tdiv (lenZ r.b.length)≤r.p:=by
   rw [Int.tdiv_eq_ediv_of_nonneg hp0]
   exact ⟨Int.ediv_nonneg hp0 (by simp [lenZ]),Int.ediv_le_self _ hp0⟩
  have f6:wquo .i64 r.p (lenZ r.b.length)=r.p.tdiv (lenZ r.b.length):=W2f (by omega) (by omega)
  rw [f1,f2,f3,f4,f5,f6]
  generalize r.p.tdiv (lenZ r.b.length)=q at hq ⊢
  have f7:wmul .i64 q 53=q * 53:=Z23 (by omega) (by omega)
  have f8:wadd .i64 (x * 131) (y * 1117)=x * 131+y * 1117:=Q10 (by omega) (by omega)
  have f9:wadd .i64 (x * 131+y * 1117) (r.p * 29)=x * 131+y * 1117+r.p * 29:=Q10 (by omega) (by omega)
  rw [f7,f8,f9,Q10 (by omega) (by omega)]
  have hz:0≤x * 131+y * 1117+r.p * 29+q * 53∧x * 131+y * 1117+r.p * 29+q * 53<1099511627776:=⟨by omega,by omega⟩
  generalize x * 131+y * 1117+r.p * 29+q * 53=z at hz ⊢
  have hz64:z.tdiv 64=z / 64:=Int.tdiv_eq_ediv_of_nonneg hz.1
  rw [W2f (by rw [hz64];omega) (by rw [hz64];omega),hz64]
  have hxr:=W2e hz.1 hz.2 (show 0≤z / 64 by omega) (show z / 64<1099511627776 by omega)
  exact .some ⟨(rem _ hxr.1).1,(rem _ hxr.1).2,nx⟩
theorem Z06 {r:Z0}(h:ROk r 1)(l:List Int)(h1:1≤l.length)(h2:l.length≤1000):Ret (W2 r l) (fun a=>a.1∈l∧Nx r a.2 1):=by
 unfold W2
 refine Ret.bind (Q3o h (k:=lenZ l.length) (by simp [lenZ];omega) (by simp [lenZ];omega)) (fun a ha=>?_)
 obtain ⟨x,hx,hm⟩:=Q5h (xs:=l) ha.1 (by simpa [lenZ] using ha.2.1)
 rw [hx]
 exact .some ⟨hm,ha.2.2⟩
theorem X0w (code:List Int)(hb:∀ x∈code,0≤x∧x≤255):Ret (Q3t code) (fun r=>ROk r 1000000):=by
 unfold Q3t
 refine Ret.ctl (R:=fun _=>False) (B:=fun s=>(∀ x∈s,0≤x∧x≤255)∧s.length≤2000) ?_ (fun r hr=>hr.elim) (fun s hs=>?_)
 ·refine Ret.ite (fun h=>?_) (fun h=>?_)
  ·rw [Z9] at h
   simp only [lenZ] at h
   have:Q7x code 2000=some (code.take 2000):=by
    unfold Q7x
    rw [if_pos ⟨by omega,by omega⟩]
    rfl
   rw [this]
   exact .some ⟨fun x hx=>hb x (List.mem_of_mem_take hx),by simp;omega⟩
  ·rw [J0] at h
   simp only [lenZ] at h
   exact .some ⟨hb,by omega⟩
 ·exact .some ⟨hs.1,hs.2,by simp,by simp⟩
theorem W6y {r:Z0}(h:ROk r 1):Ret (Q63 NN r) (fun a=>a.1∈Q0a∧Nx r a.2 1):=by
 unfold Q63
 obtain ⟨T,hT⟩:∃ T,Q51=some T:=⟨_,rfl⟩
 have hlen:T.length=8:=by
  have h8:Q51.map List.length=some 8:=rfl
  rw [hT] at h8
  simpa using h8
 rw [hT]
 simp only [U0]
 have e7:wsub .i64 (lenZ T.length) 1=7:=by rw [hlen];rfl
 rw [e7]
 refine Ret.bind (Q3o h (by omega) (by omega)) (fun a ha=>?_)
 obtain ⟨i,hi⟩:=Int.eq_ofNat_of_zero_le ha.1
 obtain ⟨w,hw,hm⟩:=W9j (i:=i) (by have:=ha.2.1;omega)
 unfold X1o at hw
 rw [hT] at hw
 simp only [U0] at hw
 rw [hi]
 obtain ⟨x,hx,hw⟩:=bindE hw
 rw [hx]
 simp only [U0]
 rw [hw]
 exact .some ⟨hm,ha.2.2⟩
def Z4z:Nat→Nat
 | 0=>1
 | m+1=>1+3 * Z4z m
theorem W5q:∀ m,1≤Z4z m
 | 0=>Nat.le_refl _
 | m+1=>by simp only [Z4z];omega
theorem W9m {w:List Q4}(hw:WW w):∀ (m n:Nat) (r:Z0) (t:Q1) (depth:Int),t∈tys w→depP w t≠0→depth≤m→depP w t≤m→-1000+m≤depth→m≤100→m+1≤n→ROk r (Z4z m)→
  Ret (Q5p n r w (tabP w) t depth) (fun a=>Nx r a.2 (Z4z m)):=by
 intro m
 induction m with
 | zero=>
  intro n r t depth ht hd h1 h2 h3 hm100 hn hr
  have:=(hw.ty t ht).d0
  omega
 | succ m ih=>
  intro n r t depth ht hd h1 h2 h3 hm100 hn hr
  obtain ⟨n,rfl⟩:∃ k,n=k+1:=⟨n-1,by omega⟩
  have hT:=hw.ty t ht
  have hpos:=W5q (m+1)
  unfold Q5p
  refine Ret.ite (fun h=>?_) (fun h=>?_)
  ·refine Ret.bind (Q3o (hr.le hpos) (by omega) (by omega)) (fun a ha=>.some (ha.2.2.le' hpos))
  ·rw [X0] at h
   rw [hT.c1]
   simp only [U0]
   obtain ⟨kb,hkb,hmb⟩:=hT.dm h hd
   have hd0:=hT.d0
   refine Ret.ctl (Z1 (X1 w t) (fun k s=>(∀ x∈s,x∈X1 w t∧0<Q5z w t x∧(Q5z w t x≤depth∨Q5z w t x=depP w t))∧s.length≤k∧(∀ j,j<k→(X1 w t)[j]?=some kb→s≠[])) (fun _=>False)
    (fun s=>(∀ x∈s,x∈X1 w t∧0<Q5z w t x∧(Q5z w t x≤depth∨Q5z w t x=depP w t))∧s≠[]∧s.length≤4) ⟨by simp,by simp,fun j hj=>by omega⟩ (fun k x s hx hI=>?_) (fun s hI=>?_)) (fun r hr=>hr.elim) (fun s hs=>?_)
   ·obtain ⟨i1,i2,i3⟩:=hI
    have hxm:=U1 hx
    have hkl:=(List.getElem?_eq_some_iff.1 hx).1
    have hcl:=hT.cl
    have take:∀ (hp:0<Q5z w t x∧(Q5z w t x≤depth∨Q5z w t x=depP w t)),Ret ((app s [x]).bind fun x310=>some (Ctl.brk (ρ:=Ctl (Q3×Z0) (List Int)) x310)) (CtlQ (fun _=>False) (fun s'=>(∀ x∈s',x∈X1 w t∧0<Q5z w t x∧(Q5z w t x≤depth∨Q5z w t x=depP w t))∧s'.length≤k+1∧(∀ j,j<k+1→(X1 w t)[j]?=some kb→s'≠[]))):=fun hp=>by
     rw [W5 (by simp only [Q7,U3,U4];omega)]
     refine .some ⟨fun y hy=>?_,by simp;omega,fun _ _ _=>by simp⟩
     rcases List.mem_append.1 hy with hy | hy
     ·exact i1 y hy
     ·simp at hy;subst hy;exact ⟨hxm,hp⟩
    have pass:(¬(0<Q5z w t x∧(Q5z w t x≤depth∨Q5z w t x=depP w t)))→Ret (some (Ctl.brk (ρ:=Ctl (Q3×Z0) (List Int)) s)) (CtlQ (fun _=>False) (fun s'=>(∀ x∈s',x∈X1 w t∧0<Q5z w t x∧(Q5z w t x≤depth∨Q5z w t x=depP w t))∧s'.length≤k+1∧(∀ j,j<k+1→(X1 w t)[j]?=some kb→s'≠[]))):=fun hp=>by
     refine .some ⟨i1,by omega,fun j hj hjk=>?_⟩
     by_cases hjk2:j=k
     ·subst hjk2
      rw [hx] at hjk
      cases hjk
      exact absurd ⟨by omega,.inr hmb⟩ hp
     ·exact i3 j (by omega) hjk
    refine Ret.ctl (R:=fun _=>False) (B:=fun (s':List Int)=>(∀ x∈s',x∈X1 w t∧0<Q5z w t x∧(Q5z w t x≤depth∨Q5z w t x=depP w t))∧s'.length≤k+1∧(∀ j,j<k+1→(X1 w t)[j]?=some kb→s'≠[])) ?_ (fun r hr=>hr.elim) (fun s' hs'=>⟨_,rfl,hs'⟩)
    rw [hT.m1 x hxm]
    simp only [U0]
    refine Ret.ite (fun c=>?_) (fun c=>?_)
    ·rw [Z9] at c
     refine Ret.ite (fun c2=>?_) (fun c2=>?_)
     ·rw [J1] at c2
      exact take ⟨c,.inl c2⟩
     ·rw [Q1z] at c2
      rw [hT.d1]
      simp only [U0]
      refine Ret.ite (fun c3=>?_) (fun c3=>?_)
      ·rw [X2] at c3
       exact take ⟨c,.inr c3⟩
      ·rw [X0] at c3
       exact pass (by omega)
    ·rw [J0] at c
     exact pass (by omega)
   ·obtain ⟨i1,i2,i3⟩:=hI
    obtain ⟨j,hj⟩:=List.mem_iff_getElem?.1 hkb
    have:=hT.cl
    exact ⟨i1,i3 j ((List.getElem?_eq_some_iff.1 hj).1) hj,by omega⟩
   ·obtain ⟨i1,i2,i3⟩:=hs
    have hsl:1≤s.length:=by cases s with
     | nil=>exact absurd rfl i2
     | cons=>simp
    refine Ret.bind (Q3o (hr.le hpos) (k:=lenZ s.length) (by simp [lenZ];omega) (by simp [lenZ];omega)) (fun a ha=>?_)
    obtain ⟨x,hx,hxm⟩:=Q5h (xs:=s) ha.1 (by simpa [lenZ] using ha.2.1)
    obtain ⟨hxc,hx0,hxd⟩:=i1 x hxm
    rw [hx]
    simp only [U0]
    rw [hT.a1 x hxc]
    simp only [U0]
    have hal:=hT.al x hxc
    have hr1:ROk a.2 (3 * Z4z m):=ROk.nx (c:=1) hr ha.2.2
    refine Ret.ctl (Z1 (Z6 w t x) (fun k s=>Nx a.2 s.1 (k * Z4z m)∧s.2.length≤k) (fun _=>False) (fun s=>Nx a.2 s.1 (3 * Z4z m)) ⟨by simpa using Nx.refl a.2,by simp⟩ (fun k y s hy hI=>?_) (fun s hI=>?_)) (fun r hr=>hr.elim) (fun s hs=>?_)
    ·obtain ⟨j1,j2⟩:=hI
     have hym:=U1 hy
     have hkl:=(List.getElem?_eq_some_iff.1 hy).1
     obtain ⟨d1,d2⟩:=hT.ma x hxc (by omega) y hym
     have hws:wsub .i64 depth 1=depth-1:=Q3z (by omega) (by omega)
     rw [hws]
     have hr2:ROk s.1 (Z4z m):=by
      have:k * Z4z m+Z4z m≤3 * Z4z m:=by
       rw [←Nat.succ_mul]
       exact Nat.mul_le_mul_right _ (by omega)
      exact ROk.nx (c:=k * Z4z m) (hr1.le this) j1
     refine Ret.bind (ih n s.1 y (depth-1) (hT.at_ x hxc y hym) (by omega) (by omega) (by omega) (by omega) (by omega) (by omega) hr2) (fun b hb=>?_)
     rw [W5 (by simp only [Q7,U3,U4];omega)]
     refine .some ⟨?_,by simp;omega⟩
     have:=j1.trans hb
     rw [←Nat.succ_mul] at this
     exact this
    ·obtain ⟨j1,j2⟩:=hI
     exact j1.le' (Nat.mul_le_mul_right _ hal)
    ·exact .some (ha.2.2.trans hs)
theorem W2p {r:Z0}(h:ROk r 1000):Ret (Q62 NN r) (fun a=>a.1∈Q0a∧a.2.1∈tys a.1∧Nx r a.2.2.2 500):=by
 unfold Q62
 refine Ret.bind (W6y (h.le (by omega))) (fun a ha=>?_)
 obtain ⟨hw,hn1⟩:=ha
 have hW:=ww hw
 rw [hW.tab]
 simp only [U0]
 have hr1:ROk a.2 999:=ROk.nx (c:=1) h hn1
 have hpos:=hW.pos
 have hle:=hW.le
 refine Ret.bind (Q3o (hr1.le (by omega)) (k:=lenZ a.1.length) (by simp only [lenZ];omega) (by simp only [lenZ];omega)) (fun b hb=>?_)
 have hr2:ROk b.2 998:=ROk.nx (c:=1) hr1 hb.2.2
 refine Ret.bind (Z06 (hr2.le (by omega)) [0,0,1,2] (by simp) (by simp)) (fun c hc=>?_)
 have hr3:ROk c.2 997:=ROk.nx (c:=1) hr2 hc.2
 have hty:(Q1.mk b.1 c.1)∈tys a.1:=by
  obtain ⟨i,hi⟩:=Int.eq_ofNat_of_zero_le hb.1
  have hil:i<a.1.length:=by have:=hb.2.1;simp only [lenZ] at this;omega
  have hci:∃ j:Nat,j<4∧c.1=(j:Int):=by
   have:=hc.1
   simp at this
   rcases this with h | h | h
   ·exact ⟨0,by omega,h⟩
   ·exact ⟨1,by omega,h⟩
   ·exact ⟨2,by omega,h⟩
  obtain ⟨j,hj,hcj⟩:=hci
  unfold tys
  refine List.mem_cons_of_mem _ (List.mem_flatMap.2 ⟨i,List.mem_range.2 hil,U10.2 ⟨j,List.mem_range.2 hj,?_⟩⟩)
  rw [hi,hcj]
  rfl
 have htI:tI∈tys a.1:=by unfold tys;exact List.mem_cons_self
 refine Ret.ctl (R:=fun _=>False) (B:=fun s=>(Q1.mk s.1 s.2)∈tys a.1∧depP a.1 (Q1.mk s.1 s.2)≠0) ?_ (fun r hr=>hr.elim) (fun s hs=>?_)
 ·rw [(hW.ty _ hty).d1]
  simp only [U0]
  refine Ret.ite (fun h=>?_) (fun h=>?_)
  ·refine .some ⟨htI,?_⟩
   have:=(hW.ty tI htI).ti rfl
   show depP a.1 tI≠0
   omega
  ·rw [X0] at h
   exact .some ⟨hty,h⟩
 ·refine Ret.bind (Z06 (hr3.le (by omega)) [3,2,4,1] (by simp) (by simp)) (fun d hd=>?_)
  have hr4:ROk d.2 996:=ROk.nx (c:=1) hr3 hd.2
  have hd4:1≤d.1∧d.1≤4:=by
   have:=hd.1
   simp at this
   omega
  have hdep:=(hW.ty _ hs.1).d4
  refine Ret.bind (W9m hW 4 NN d.2 _ d.1 hs.1 hs.2 (by omega) (by omega) (by omega) (by omega) (by decide) (hr4.le (by decide))) (fun e he=>?_)
  refine .some ⟨hw,hs.1,?_⟩
  have:=(((hn1.trans hb.2.2).trans hc.2).trans hd.2).trans he
  exact this.le' (by decide)
def Z9t:Nat→Q0→Prop
 | 0,_=>False
 | d+1,p=>p.kids.length≤3∧∀ q∈p.kids,Z9t d q
theorem Z32 (d:Nat):Z9t (d+1) (Q0.mk 1 0 0 0 0 []):=⟨by simp,by simp⟩
def cD3:Nat→Nat
 | 0=>0
 | m+1=>5+3 * cD3 m
def cN3:Nat→Nat
 | 0=>0
 | m+1=>2+3 * cN3 m
theorem W9k {w:List Q4}(hw:WW w):∀ (m n:Nat) (r:Z0) (t:Q1) (depth:Int),t∈tys w→depth≤m+1→-1000+m≤depth→m≤100→m+1≤n→ROk r (cD3 m)→
  Ret (Q15 n r w t depth) (fun a=>Z9t (m+1) a.1∧Nx r a.2 (cD3 m)):=by
 intro m
 induction m with
 | zero=>
  intro n r t depth ht h1 h2 h3 hn hr
  obtain ⟨n,rfl⟩:∃ k,n=k+1:=⟨n-1,by omega⟩
  unfold Q15
  rw [if_pos (by rw [Z9];omega)]
  exact .some ⟨Z32 0,Nx.refl r⟩
 | succ m ih=>
  intro n r t depth ht h1 h2 h3 hn hr
  obtain ⟨n,rfl⟩:∃ k,n=k+1:=⟨n-1,by omega⟩
  have hT:=hw.ty t ht
  have ec:cD3 (m+1)=5+3 * cD3 m:=rfl
  rw [ec] at hr ⊢
  have hws:wsub .i64 depth 1=depth-1:=Q3z (by omega) (by omega)
  unfold Q15
  refine Ret.ite (fun h=>.some ⟨Z32 _,(Nx.refl r).le' (by omega)⟩) (fun h=>?_)
  refine Ret.bind (Q3o (hr.le (by omega)) (by omega) (by omega)) (fun a ha=>?_)
  have hr1:ROk a.2 (4+3 * cD3 m):=ROk.nx (c:=1) (hr.le (by omega)) ha.2.2
  refine Ret.ite (fun h=>.some ⟨Z32 _,ha.2.2.le' (by omega)⟩) (fun h=>?_)
  refine Ret.bind (Q3o (hr1.le (by omega)) (by omega) (by omega)) (fun b hb=>?_)
  have hr2:ROk b.2 (3+3 * cD3 m):=ROk.nx (c:=1) (hr1.le (by omega)) hb.2.2
  have hab:=ha.2.2.trans hb.2.2
  rw [hws]
  refine Ret.ite (fun h=>?_) (fun h=>?_)
  ·refine Ret.bind (ih n b.2 t (depth-1) ht (by omega) (by omega) (by omega) (by omega) (hr2.le (by omega))) (fun c hc=>?_)
   have hr3:ROk c.2 (cD3 m):=ROk.nx (c:=cD3 m) (hr2.le (by omega)) hc.2
   refine Ret.bind (ih n c.2 t (depth-1) ht (by omega) (by omega) (by omega) (by omega) hr3) (fun d hd=>?_)
   refine .some ⟨⟨by simp,fun q hq=>?_⟩,((hab.trans hc.2).trans hd.2).le' (by omega)⟩
   simp at hq
   rcases hq with rfl | rfl
   ·exact hc.1
   ·exact hd.1
  ·refine Ret.ite (fun h=>?_) (fun h=>?_)
   ·refine Ret.bind (Q3o (hr2.le (by omega)) (by omega) (by omega)) (fun c hc=>?_)
    have hr3:ROk c.2 (2+3 * cD3 m):=ROk.nx (c:=1) (hr2.le (by omega)) hc.2.2
    have e10:wsub .i64 10 c.1=10-c.1:=Q3z (by omega) (by omega)
    rw [e10]
    refine Ret.bind (Q3o (hr3.le (by omega)) (by omega) (by omega)) (fun d hd=>?_)
    have hr4:ROk d.2 (1+3 * cD3 m):=ROk.nx (c:=1) (hr3.le (by omega)) hd.2.2
    refine Ret.bind (Q3o (hr4.le (by omega)) (by omega) (by omega)) (fun e he=>?_)
    exact .some ⟨⟨by simp,by simp⟩,(((hab.trans hc.2.2).trans hd.2.2).trans he.2.2).le' (by omega)⟩
   ·rw [hT.c1]
    simp only [U0]
    refine Ret.ite (fun h=>.some ⟨Z32 _,hab.le' (by omega)⟩) (fun h=>?_)
    rw [X0] at h
    simp only [lenZ] at h
    have hcl:=hT.cl
    refine Ret.bind (Q3o (hr2.le (by omega)) (k:=lenZ (X1 w t).length) (by simp only [lenZ];omega) (by simp only [lenZ];omega)) (fun c hc=>?_)
    have hr3:ROk c.2 (3 * cD3 m):=ROk.nx (c:=1) (hr2.le (by omega)) hc.2.2
    obtain ⟨x,hx,hxm⟩:=Q5h (xs:=X1 w t) hc.1 (by simpa [lenZ] using hc.2.1)
    rw [hx]
    simp only [U0]
    rw [hT.a1 x hxm]
    simp only [U0]
    have hal:=hT.al x hxm
    refine Ret.ctl (Z1 (Z6 w t x) (fun k s=>Nx c.2 s.1 (k * cD3 m)∧s.2.length=k∧∀ q∈s.2,Z9t (m+1) q) (fun _=>False) (fun s=>Nx c.2 s.1 (3 * cD3 m)∧s.2.length≤3∧∀ q∈s.2,Z9t (m+1) q) ⟨by simpa using Nx.refl c.2,by simp,by simp⟩ (fun k y s hy hI=>?_) (fun s hI=>?_)) (fun r hr=>hr.elim) (fun s hs=>?_)
    ·obtain ⟨j1,j2,j3⟩:=hI
     have hym:=U1 hy
     have hkl:=(List.getElem?_eq_some_iff.1 hy).1
     have hr4:ROk s.1 (cD3 m):=by
      have:k * cD3 m+cD3 m≤3 * cD3 m:=by
       rw [←Nat.succ_mul]
       exact Nat.mul_le_mul_right _ (by omega)
      exact ROk.nx (c:=k * cD3 m) (hr3.le this) j1
     refine Ret.bind (ih n s.1 y (depth-1) (hT.at_ x hxm y hym) (by omega) (by omega) (by omega) (by omega) hr4) (fun b hb=>?_)
     rw [W5 (by simp only [Q7,U3,U4];omega)]
     refine .some ⟨?_,by simp;omega,fun q hq=>?_⟩
     ·have:=j1.trans hb.2
      rw [←Nat.succ_mul] at this
      exact this
     ·rcases List.mem_append.1 hq with hq | hq
      ·exact j3 q hq
      ·simp at hq;subst hq;exact hb.1
    ·obtain ⟨j1,j2,j3⟩:=hI
     exact ⟨j1.le' (Nat.mul_le_mul_right _ hal),by omega,j3⟩
    ·exact .some ⟨⟨hs.2.1,hs.2.2⟩,((hab.trans hc.2.2).trans hs.1).le' (by omega)⟩
theorem W7q:∀ (m n:Nat) (r:Z0) (p:Q0) (v:Int),Z9t m p→m+1≤n→ROk r (cN3 m)→Ret (Q2i n r p v) (fun a=>Nx r a.2.2 (cN3 m)):=by
 intro m
 induction m with
 | zero=>intro n r p v h;exact h.elim
 | succ m ih=>
  intro n r p v hp hn hr
  obtain ⟨n,rfl⟩:∃ k,n=k+1:=⟨n-1,by omega⟩
  obtain ⟨hk,hq⟩:=hp
  have ec:cN3 (m+1)=2+3 * cN3 m:=rfl
  rw [ec] at hr ⊢
  unfold Q2i
  refine Ret.ite (fun h=>.some ((Nx.refl r).le' (by omega))) (fun h=>?_)
  refine Ret.ite (fun h=>.some ((Nx.refl r).le' (by omega))) (fun h=>?_)
  refine Ret.ite (fun h=>.some ((Nx.refl r).le' (by omega))) (fun h=>?_)
  refine Ret.ctl (R:=fun (a:Q0×Int×Z0)=>Nx r a.2.2 (2+3 * cN3 m)) (B:=fun (s:Z0)=>Nx r s 1) ?_ (fun a ha=>.some ha) (fun s hs=>?_)
  ·refine Ret.ite (fun h=>?_) (fun h=>.some ((Nx.refl r).le' (by omega)))
   refine Ret.bind (Q3o (hr.le (by omega)) (by omega) (by omega)) (fun a ha=>?_)
   exact Ret.ite (fun h=>.some (ha.2.2.le' (by omega))) (fun h=>.some ha.2.2)
  ·have hr1:ROk s (1+3 * cN3 m):=ROk.nx (c:=1) (hr.le (by omega)) hs
   refine Ret.ctl (Z1 p.kids (fun k u=>Nx s u.1 (k * cN3 m)∧u.2.1.length=k) (fun _=>False) (fun u=>Nx s u.1 (3 * cN3 m)∧u.2.1.length≤3) ⟨by simpa using Nx.refl s,by simp⟩ (fun k y u hy hI=>?_) (fun u hI=>?_)) (fun r hr=>hr.elim) (fun u hu=>?_)
   ·obtain ⟨j1,j2⟩:=hI
    have hym:=U1 hy
    have hkl:=(List.getElem?_eq_some_iff.1 hy).1
    have hr4:ROk u.1 (cN3 m):=by
     have:k * cN3 m+cN3 m≤1+3 * cN3 m:=by
      rw [←Nat.succ_mul]
      have:=Nat.mul_le_mul_right (cN3 m) (show k.succ≤3 by omega)
      omega
     exact ROk.nx (c:=k * cN3 m) (hr1.le this) j1
    refine Ret.bind (ih n u.1 y _ (hq y hym) (by omega) hr4) (fun b hb=>?_)
    rw [W5 (by simp only [Q7,U3,U4];omega)]
    refine .some ⟨?_,by simp;omega⟩
    have:=j1.trans hb
    rw [←Nat.succ_mul] at this
    exact this
   ·obtain ⟨j1,j2⟩:=hI
    exact ⟨j1.le' (Nat.mul_le_mul_right _ hk),by omega⟩
   ·have hr2:ROk u.1 1:=ROk.nx (c:=3 * cN3 m) (hr1.le (by omega)) hu.1
    have hsu:=hs.trans hu.1
    refine Ret.ctl (R:=fun (a:Q0×Int×Z0)=>Nx r a.2.2 (2+3 * cN3 m)) (B:=fun (s:Z0)=>Nx r s (2+3 * cN3 m)) ?_ (fun a ha=>.some ha) (fun s hs=>.some hs)
    refine Ret.ite (fun h=>?_) (fun h=>.some (hsu.le' (by omega)))
    refine Ret.bind (Q3o hr2 (by omega) (by omega)) (fun a ha=>?_)
    have:=(hsu.trans ha.2.2).le' (show 1+3 * cN3 m+1≤2+3 * cN3 m by omega)
    exact Ret.ite (fun h=>.some this) (fun h=>.some this)
def anyP:Q0:=Q0.mk 1 0 0 0 0 []
theorem X54 (w:List Q4)(t:Q1):Q0u w t anyP=true:=by
 simp [Q0u,anyP,Q18,Q7a,Q9j,Y2,linD,Q3a,ownV,Q27,cntP,cntP.cntPs]
theorem W7d {w:List Q4}(hw:WW w){r:Z0}{t:Q1}(ht:t∈tys w)(h:ROk r 200):Ret (Q4j NN r w t) (fun a=>Q0u w t a.1=true∧Nx r a.2 200):=by
 unfold Q4j
 refine Ret.bind (Z06 (h.le (by omega)) [3,2,4,1] (by simp) (by simp)) (fun a ha=>?_)
 have hr1:ROk a.2 199:=ROk.nx (c:=1) h ha.2
 have hd4:1≤a.1∧a.1≤4:=by
  have:=ha.1
  simp at this
  omega
 refine Ret.bind (W9k hw 3 NN a.2 t a.1 ht (by omega) (by omega) (by omega) (by decide) (hr1.le (by decide))) (fun b hb=>?_)
 have hr2:ROk b.2 80:=ROk.nx (c:=cD3 3) (hr1.le (by decide)) hb.2
 refine Ret.bind (W7q 4 NN b.2 b.1 0 hb.1 (by decide) (hr2.le (by decide))) (fun c hc=>?_)
 rw [Z31 hw (by decide) t c.1 ht]
 simp only [U0]
 have hnx:=((ha.2.trans hb.2).trans hc).le' (show 1+cD3 3+cN3 4≤200 by decide)
 cases hv:Q0u w t c.1 with
 | false=>exact .some ⟨X54 w t,hnx⟩
 | true=>exact .some ⟨hv,hnx⟩
theorem W1s {w:List Q4}(hw:WW w){r:Z0}{t:Q1}(ht:t∈tys w)(h:ROk r 500):Ret (Q2t NN r w t) (fun a=>Q0u w t a.1.pat=true∧Nx r a.2 500):=by
 unfold Q2t
 refine Ret.bind (W7d hw ht (h.le (by omega))) (fun a ha=>?_)
 have hr1:ROk a.2 300:=ROk.nx (c:=200) h ha.2
 obtain ⟨g1,g2,g3⟩:=Q4w ha.1
 obtain ⟨v1,v2⟩:=Q6v hw 10 NN t a.1 [] ht g1 (by decide) (by simp;omega)
 rw [v1]
 simp only [U0,List.nil_append]
 refine Ret.ctl (Z1 (Q3a w 10 t a.1) (fun k s=>Nx a.2 s.1 (k * 3)) (fun _=>False) (fun s=>Nx a.2 s.1 300) (by simpa using Nx.refl a.2) (fun k y s hy hI=>?_) (fun s hI=>hI.le' (by omega))) (fun r hr=>hr.elim) (fun s hs=>.some ⟨ha.1,(ha.2.trans hs).le' (by omega)⟩)
 have hkl:=(List.getElem?_eq_some_iff.1 hy).1
 have hr2:ROk s.1 3:=ROk.nx (c:=k * 3) (hr1.le (by omega)) hI
 refine Ret.ctl (R:=fun _=>False) (B:=fun (u:Z0×Int×Int×Int)=>Nx a.2 u.1 ((k+1) * 3)) ?_ (fun r hr=>hr.elim) (fun u hu=>.some hu)
 refine Ret.ite (fun h=>?_) (fun h=>.some (hI.le' (by omega)))
 refine Ret.bind (Q3o (hr2.le (by omega)) (by omega) (by omega)) (fun b hb=>?_)
 have hr3:ROk b.2 2:=ROk.nx (c:=1) hr2 hb.2.2
 refine Ret.ite (fun h=>?_) (fun h=>.some ((hI.trans hb.2.2).le' (by omega)))
 refine Ret.bind (Q3o (hr3.le (by omega)) (by omega) (by omega)) (fun c hc=>?_)
 have hr4:ROk c.2 1:=ROk.nx (c:=1) hr3 hc.2.2
 refine Ret.bind (Q3o hr4 (by omega) (by omega)) (fun d hd=>?_)
 exact .some ((((hI.trans hb.2.2).trans hc.2.2).trans hd.2.2).le' (by omega))
theorem X00 {r:Z0}(h:ROk r 2)(p:Q0)(hp:p.kids.length≤1000):Ret (Q2a r p) (fun a=>a.1.kids.length≤p.kids.length+1∧Nx r a.2 2):=by
 unfold Q2a
 rw [W5 (by simp [Q7];omega)]
 simp only [U0,List.nil_append]
 refine Ret.ctl (R:=fun _=>False) (B:=fun (s:Z0×Int×Int×Int×Int×(List Q0))=>Nx r s.1 2∧s.2.2.2.2.2.length≤p.kids.length+1) ?_ (fun r hr=>hr.elim) (fun s hs=>.some ⟨hs.2,hs.1⟩)
 refine Ret.bind (Q3o (h.le (by omega)) (by omega) (by omega)) (fun a ha=>?_)
 have hr1:ROk a.2 1:=ROk.nx (c:=1) h ha.2.2
 refine Ret.ite (fun _=>Ret.bind (Z06 hr1 _ (by simp) (by simp)) (fun b hb=>.some ⟨(ha.2.2.trans hb.2),by simp⟩)) (fun _=>?_)
 refine Ret.ite (fun _=>Ret.bind (Z06 hr1 _ (by simp) (by simp)) (fun b hb=>.some ⟨(ha.2.2.trans hb.2),by simp⟩)) (fun _=>?_)
 refine Ret.ite (fun _=>Ret.bind (Z06 hr1 _ (by simp) (by simp)) (fun b hb=>.some ⟨(ha.2.2.trans hb.2),by simp⟩)) (fun _=>?_)
 refine Ret.ite (fun _=>?_) (fun _=>?_)
 ·rw [W5 (by simp [Q7];omega)]
  exact .some ⟨ha.2.2.le' (by omega),by simp⟩
 refine Ret.ite (fun _=>?_) (fun _=>?_)
 ·refine Ret.ite (fun c=>?_) (fun _=>.some ⟨ha.2.2.le' (by omega),by simp⟩)
  rw [Z9] at c
  simp only [lenZ] at c
  obtain ⟨x,hx,hm⟩:=Q5h (xs:=p.kids) (i:=0) (by omega) (by omega)
  rw [hx]
  simp only [U0]
  have:setI p.kids 0 (Q0.mk 2 0 0 0 0 [])=some (p.kids.set 0 (Q0.mk 2 0 0 0 0 [])):=by
   unfold setI
   rw [if_pos ⟨by omega,by show 0<p.kids.length;omega⟩]
   rfl
  rw [this]
  exact .some ⟨ha.2.2.le' (by omega),by simp⟩
 refine Ret.ite (fun _=>Ret.bind (Z06 hr1 _ (by simp) (by simp)) (fun b hb=>.some ⟨(ha.2.2.trans hb.2),by simp⟩)) (fun _=>?_)
 exact .some ⟨ha.2.2.le' (by omega),by simp⟩
theorem W02 {r:Z0}(h:ROk r 10)(l:List Q5)(hl:l.length≤8)(hk:∀ c∈l,c.pat.kids.length≤100):Ret (Q2s NN r l) (fun a=>a.1.length≤9∧Nx r a.2 10):=by
 unfold Q2s
 rw [W5 (by simp [Q7];omega)]
 simp only [U0,List.nil_append]
 refine Ret.ctl (R:=fun _=>False) (B:=fun (s:Z0×(List Q5))=>Nx r s.1 10∧s.2.length≤9) ?_ (fun r hr=>hr.elim) (fun s hs=>.some ⟨hs.2,hs.1⟩)
 refine Ret.bind (Q3o (h.le (by omega)) (by omega) (by omega)) (fun a ha=>?_)
 have hr1:ROk a.2 9:=ROk.nx (c:=1) h ha.2.2
 have hset:∀ c:Q5,0<l.length→setI l 0 c=some (l.set 0 c):=fun c h0=>by
  unfold setI
  rw [if_pos ⟨by omega,by show 0<l.length;omega⟩]
  rfl
 have pass:Ret (some (Ctl.brk (ρ:=List Q5×Z0) (a.2,l))) (CtlQ (fun _=>False) (fun (s:Z0×(List Q5))=>Nx r s.1 10∧s.2.length≤9)):=.some ⟨ha.2.2.le' (by omega),by simp only;omega⟩
 refine Ret.ite (fun _=>?_) (fun _=>?_)
 ·refine Ret.ite (fun c=>?_) (fun _=>pass)
  rw [Z9] at c
  simp only [lenZ] at c
  refine Ret.bind (Z06 (hr1.le (by omega)) _ (by simp) (by simp)) (fun b hb=>?_)
  have hr2:ROk b.2 8:=ROk.nx (c:=1) hr1 hb.2
  refine Ret.bind (Z06 (hr2.le (by omega)) _ (by simp) (by simp)) (fun d hd=>?_)
  have hr3:ROk d.2 7:=ROk.nx (c:=1) hr2 hd.2
  refine Ret.bind (Z06 (hr3.le (by omega)) _ (by simp) (by simp)) (fun e he=>?_)
  obtain ⟨x,hx,hm⟩:=Q5h (xs:=l) (i:=0) (by omega) (by omega)
  rw [hx]
  simp only [U0]
  rw [hset _ (by omega)]
  exact .some ⟨(((ha.2.2.trans hb.2).trans hd.2).trans he.2).le' (by omega),by simp;omega⟩
 refine Ret.ite (fun _=>?_) (fun _=>?_)
 ·refine Ret.ite (fun c=>?_) (fun _=>pass)
  rw [Z9] at c
  simp only [lenZ] at c
  obtain ⟨x,hx,hm⟩:=Q5h (xs:=l) (i:=0) (by omega) (by omega)
  have hxk:=hk x hm
  rw [hx]
  simp only [U0]
  refine Ret.bind (X00 (hr1.le (by omega)) x.pat (by omega)) (fun b hb=>?_)
  have hr2:ROk b.2 7:=ROk.nx (c:=2) hr1 hb.2
  refine Ret.bind (X00 (hr2.le (by omega)) b.1 (by have:=hb.1;omega)) (fun d hd=>?_)
  rw [hset _ (by omega)]
  exact .some ⟨((ha.2.2.trans hb.2).trans hd.2).le' (by omega),by simp;omega⟩
 refine Ret.ite (fun _=>?_) (fun _=>pass)
 refine Ret.ctl (Q4f (fun (s:List Q5)=>s.length≤9) (fun s=>9-s.length) (fun _=>False) (fun s=>s.length≤9) (by omega) (fun s hI=>?_) NN (by show 9-l.length<30000000;omega)) (fun r hr=>hr.elim) (fun s hs=>.some ⟨ha.2.2.le' (by omega),hs⟩)
 refine Ret.ite (fun c=>?_) (fun _=>.some hI)
 rw [J1] at c
 simp only [lenZ] at c
 rw [W5 (by simp [Q7];omega)]
 exact .some ⟨by simp;omega,by simp;omega⟩
theorem X9q {w:List Q4}(hw:WW w){t:Q1}(ht:t∈tys w){p:Q0}(h:Q0u w t p=true):p.kids.length≤3:=by
 obtain ⟨ho,hl⟩:=Q54 (Q4a (Q4w h).1)
 rw [hl]
 exact W49 (hw.ty t ht) ho
def Z3z:Nat→Q3→Prop
 | 0,_=>False
 | d+1,v=>v.kids.length≤3∧∀ x∈v.kids,Z3z d x
theorem Q7u {w:List Q4}(hw:WW w):∀ (d:Nat) (t:Q1) (v:Q3),t∈tys w→Q1j w d t v→Z3z d v:=by
 intro d
 induction d with
 | zero=>intro t v _ h;exact h
 | succ d ih=>
  intro t v ht h
  have hT:=hw.ty t ht
  simp only [Q1j] at h
  split at h
  ·obtain ⟨_,_,_,h4⟩:=h
   exact ⟨by rw [h4];simp,fun x hx=>by rw [h4] at hx;cases hx⟩
  ·obtain ⟨_,h2,h3,h4⟩:=h
   have hal:=hT.al _ h2
   refine ⟨by omega,fun x hx=>?_⟩
   obtain ⟨j,hj⟩:=List.mem_iff_getElem?.1 hx
   have hjl:=(List.getElem?_eq_some_iff.1 hj).1
   have ha:(Z6 w t v.ctor)[j]?=some ((Z6 w t v.ctor)[j]'(by omega)):=by simp
   exact ih _ x (hT.at_ _ h2 _ (U1 ha)) (h4 j _ x ha hj)
theorem Q3.ext' {a b:Q3}(h1:a.ctor=b.ctor)(h2:a.n=b.n)(h3:a.kids=b.kids):a=b:=by
 cases a;cases b;simp_all
theorem Z7a:∀ (d n:Nat) (v:Q3),Z3z d v→d≤n→Q2c n v=some v:=by
 intro d
 induction d with
 | zero=>intro n v h;exact h.elim
 | succ d ih=>
  intro n v h hn
  obtain ⟨n,rfl⟩:∃ k,n=k+1:=⟨n-1,by omega⟩
  obtain ⟨h1,h2⟩:=h
  have hr:Ret (Q2c (n+1) v) (fun r=>r=v):=by
   unfold Q2c
   refine Ret.ctl (Z1 v.kids (fun k s=>s=v.kids.take k) (fun _=>False) (fun s=>s=v.kids) (by simp) (fun k q s hq hI=>?_) (fun s hI=>?_)) (fun r hr=>hr.elim) (fun s hs=>.some (Q3.ext' rfl rfl hs))
   ·rw [ih n q (h2 q (U1 hq)) (by omega)]
    simp only [U0]
    rw [W5 (by simp only [Q7,U3,U4];rw [hI,U6];omega)]
    exact .some (by rw [hI,List.take_add_one,hq];rfl)
   ·rw [hI,List.take_length]
  obtain ⟨r,e,rfl⟩:=hr
  exact e
theorem X7h (a:List Q3)(f:Q3→Q3→Option Bool)(hf:∀ x∈a,f x x=some true):Q0g a a f=some true:=by
 have hr:Ret (Q0g a a f) (fun r=>r=true):=by
  unfold Q0g
  rw [if_neg (by simp [ieq])]
  refine Ret.ctl (Z1 a (fun _ _=>True) (fun _=>False) (fun _=>True) trivial (fun k x s hx _=>?_) (fun _ _=>trivial)) (fun r hr=>hr.elim) (fun s _=>.some rfl)
  rw [Q1m hx]
  simp only [U0]
  rw [hf x (U1 hx)]
  exact .some trivial
 obtain ⟨_,e,rfl⟩:=hr
 exact e
theorem Q8s:∀ (d n:Nat) (v:Q3),Z3z d v→d≤n→Q06 n v v=some true:=by
 intro d
 induction d with
 | zero=>intro n v h;exact h.elim
 | succ d ih=>
  intro n v h hn
  obtain ⟨n,rfl⟩:∃ k,n=k+1:=⟨n-1,by omega⟩
  unfold Q06
  rw [if_pos (by simp [ieq]),if_pos (by simp [ieq]),X7h _ _ fun x hx=>ih n x (h.2 x hx) (by omega)]
  rfl
def DB (l:List X3):Prop:=∀ b∈l,Z3z 10 b.value
theorem X5x {α:Type}{xs:List α}{i:Int}{x:α}(h0:0≤i)(h:i<xs.length):setI xs i x=some (xs.set i.toNat x):=by
 unfold setI
 rw [if_pos ⟨h0,by omega⟩]
theorem V7k:(List.range 13).all (fun k=>(Q6p (wcv .u64 (lenZ k))).isSome)=true:=by kernel_rfl
theorem X07:∀ (d:Nat) (p:Q0) (e:Nat) (v:Q3) (l:List X3),Z3z e v→V5 d p v=some l→∀ b∈l,∃ e',e'≤e∧Z3z e' b.value:=by
 intro d
 induction d with
 | zero=>intro p e v l _ h;cases h
 | succ d ih=>
  intro p e v l hv hm b hb
  rw [V5] at hm
  split at hm
  ·cases hm;cases hb
  split at hm
  ·cases hm
   simp only [U8,List.not_mem_nil,or_false] at hb
   subst hb
   exact ⟨e,Nat.le_refl _,hv⟩
  split at hm
  ·split at hm
   ·cases hm;cases hb
   ·cases hm
  split at hm
  ·split at hm
   ·split at hm
    ·rename_i l' hl'
     cases hm
     exact ih _ e v _ hv hl' b hb
    ·exact ih _ e v _ hv hm b hb
   ·cases hm
  split at hm
  ·split at hm
   ·rename_i a _
    cases ha:V5 d a v with
    | none=>rw [ha] at hm;cases hm
    | some l'=>
     rw [ha] at hm
     cases hm
     rcases U8.1 hb with h | h
     ·subst h
      exact ⟨e,Nat.le_refl _,hv⟩
     ·exact ih _ e v _ hv ha b h
   ·cases hm
  split at hm
  ·cases e with
   | zero=>exact hv.elim
   | succ e=>
    have hk:=hv.2
    have gen:∀ (ps:List Q0) (vs:List Q3) (l:List X3),(∀ x∈vs,Z3z e x)→Q4u (V5 d) ps vs=some l→∀ b∈l,∃ e',e'≤e∧Z3z e' b.value:=by
     intro ps
     induction ps with
     | nil=>intro vs l _ h b hb;simp only [Q4u] at h;cases h;cases hb
     | cons q ps ihp=>
      intro vs l hvs h b hb
      cases vs with
      | nil=>cases h
      | cons u vs=>
       simp only [Q4u] at h
       cases hq:V5 d q u with
       | none=>rw [hq] at h;cases h
       | some l1=>
        rw [hq] at h
        simp only at h
        cases hps:Q4u (V5 d) ps vs with
        | none=>rw [hps] at h;cases h
        | some l2=>
         rw [hps] at h
         cases h
         rcases List.mem_append.1 hb with hb | hb
         ·exact ih q e u l1 (hvs u (by simp)) hq b hb
         ·exact ihp vs l2 (fun x hx=>hvs x (by simp [hx])) hps b hb
    obtain ⟨e',h1,h2⟩:=gen _ _ _ hk hm b hb
    exact ⟨e',by omega,h2⟩
  ·cases hm
theorem Z6g:∀ (d e:Nat) (v:Q3),d≤e→Z3z d v→Z3z e v:=by
 intro d
 induction d with
 | zero=>intro e v _ h;exact h.elim
 | succ d ih=>
  intro e v he h
  obtain ⟨e,rfl⟩:∃ k,e=k+1:=⟨e-1,by omega⟩
  exact ⟨h.1,fun x hx=>ih e x (by omega) (h.2 x hx)⟩
theorem Z7d:∀ (m:Nat) (l:List Int),l.Nodup→(∀ x∈l,0≤x∧x<m)→l.length≤m:=by
 intro m
 induction m with
 | zero=>
  intro l _ h
  cases l with
  | nil=>simp
  | cons x l=>have:=h x (by simp);omega
 | succ m ih=>
  intro l hn h
  have h1:=ih (l.erase (m:Int)) (hn.erase _) (fun x hx=>by
   have hx2:=(hn.mem_erase_iff).1 hx
   have:=h x hx2.2
   have:=hx2.1
   omega)
  have h2:=List.length_erase (a:=(m:Int)) (l:=l)
  split at h2<;>omega
theorem W71 {w:List Q4}{t:Q1}{p:Q0}{d:Nat}(g:Q18 w d t p=true)(l:linD w d t p=true):(Q3a w d t p).length≤6:=by
 have h1:=Q6e d t p g l
 simp only [Q27,decide_eq_true_eq] at h1
 have:=Z7d 6 _ h1 (fun x hx=>by
  obtain ⟨y,hy,rfl⟩:=U10.1 hx
  have:=Z48 d t p g y hy
  omega)
 simpa using this
def Q9c (l:List X3):List X3:=(List.range 6).flatMap fun (v:Nat)=>l.filter fun b=>decide (b.var=(v:Int))
theorem X5w:∀ (a b:List X3),a.Pairwise (fun x y=>x.var<y.var)→b.Pairwise (fun x y=>x.var<y.var)→a.Perm b→a=b:=by
 intro a
 induction a with
 | nil=>intro b _ _ h;exact h.nil_eq
 | cons x a ih=>
  intro b ha hb h
  cases b with
  | nil=>exact absurd h.symm.nil_eq (by simp)
  | cons y b=>
   rw [List.pairwise_cons] at ha hb
   have hx:x∈y::b:=h.mem_iff.1 (by simp)
   have hy:y∈x::a:=h.mem_iff.2 (by simp)
   have hxy:x=y:=by
    rcases U8.1 hx with rfl | hx
    ·rfl
    ·rcases U8.1 hy with h1 | hy
     ·exact h1.symm
     ·have h1:=hb.1 x hx
      have h2:=ha.1 y hy
      omega
   subst hxy
   rw [ih b ha.2 hb.2 ((List.perm_cons x).1 h)]
theorem Z9s {l:List X3}(h:l.Pairwise (fun x y=>x.var≤y.var))(hn:(l.map (·.var)).Nodup):l.Pairwise (fun x y=>x.var<y.var):=by
 rw [List.Nodup,List.pairwise_map] at hn
 refine (h.and hn).imp fun ⟨h1,h2⟩=>?_
 omega
theorem X30 {l:List X3}(hn:(l.map (·.var)).Nodup):(Q9c l).Pairwise (fun x y=>x.var<y.var):=by
 unfold Q9c
 rw [List.pairwise_flatMap]
 refine ⟨fun v _=>?_,?_⟩
 ·have h1:(l.filter fun b=>decide (b.var=(v:Int))).Pairwise (fun x y=>x.var≤y.var):=by
   rw [List.pairwise_filter]
   refine List.pairwise_of_forall fun x y hx hy=>?_
   simp only [decide_eq_true_eq] at hx hy
   omega
  exact Z9s h1 ((List.filter_sublist.map _).nodup hn)
 ·refine List.Pairwise.imp ?_ (List.pairwise_lt_range (n:=6))
  intro a b hab x hx y hy
  have h1:=(List.mem_filter.1 hx).2
  have h2:=(List.mem_filter.1 hy).2
  simp only [decide_eq_true_eq] at h1 h2
  omega
theorem Z5k {α β:Type}(f g h:α→List β)(e:∀ v,f v=g v++h v):∀ L:List α,(L.flatMap f).Perm (L.flatMap g++L.flatMap h)
 | []=>by simp
 | v::L=>by
  rw [List.flatMap_cons,List.flatMap_cons,List.flatMap_cons,e v,List.append_assoc,List.append_assoc]
  refine List.Perm.append_left _ ?_
  refine ((Z5k f g h e L).append_left (h v)).trans ?_
  rw [←List.append_assoc,←List.append_assoc]
  exact List.Perm.append_right _ List.perm_append_comm
theorem Z1b {l:List X3}(hv:∀ b∈l,0≤b.var∧b.var≤5):(Q9c l).Perm l:=by
 induction l with
 | nil=>simp [Q9c]
 | cons x l ih=>
  have h1:=ih fun b hb=>hv b (by simp [hb])
  obtain ⟨x0,x5⟩:=hv x (by simp)
  have h2:=Z5k (fun (v:Nat)=>(x::l).filter fun b=>decide (b.var=(v:Int))) (fun (v:Nat)=>if x.var=(v:Int) then [x] else []) (fun (v:Nat)=>l.filter fun b=>decide (b.var=(v:Int))) (fun v=>by
   by_cases hc:x.var=(v:Int)
   ·rw [List.filter_cons,if_pos (by simp [hc]),if_pos hc];rfl
   ·rw [List.filter_cons,if_neg (by simp [hc]),if_neg hc];rfl) (List.range 6)
  have hx:((List.range 6).flatMap fun (v:Nat)=>if x.var=(v:Int) then [x] else [])=[x]:=by
   have h6:x.var=0∨x.var=1∨x.var=2∨x.var=3∨x.var=4∨x.var=5:=by omega
   rcases h6 with h | h | h | h | h | h<;>simp [h,List.range,List.range.loop]
  rw [hx] at h2
  exact h2.trans (List.Perm.cons _ h1)
theorem X7l (a b:Int):Q49 a b=some (if a<b then -1 else if b<a then 1 else 0):=by
 unfold Q49 Q5g
 have e1:(!ieq a a)=false:=by simp [ieq]
 have e2:(!ieq b b)=false:=by simp [ieq]
 simp only [U0,e1,e2,U2,if_false]
 by_cases h:a<b
 ·have e:ilt a b=true:=by rw [Z9];exact h
  simp only [e,if_true,if_pos h]
 ·have e:ilt a b=false:=by rw [J0];omega
  simp only [e,U2,if_false,if_neg h]
  by_cases h2:b<a
  ·have e:ilt b a=true:=by rw [Z9];exact h2
   simp only [e,if_true,if_pos h2]
  ·have e:ilt b a=false:=by rw [J0];omega
   simp only [e,U2,if_false,if_neg h2]
theorem X68 (a b:X3):Q1r a b=some (if a.var<b.var then -1 else if b.var<a.var then 1 else 0):=by
 unfold Q1r
 rw [X7l]
 rfl
def OrdV (l:List X3)(i j:Nat):Prop:=∀ a b x y,a<b→b≤i→b≠j→l[a]?=some x→l[b]?=some y→x.var≤y.var
theorem W07 {n:Nat}(hn:30≤n)(l:List X3)(hl:l.length≤12) :
  Ret (Y4 n l 0 (lenZ l.length) (fun a b=>Q1r a b)) (fun r=>r.Perm l∧r.Pairwise (fun x y=>x.var≤y.var)):=by
 unfold Y4
 have z1:wadd .i64 0 1=1:=rfl
 rw [z1]
 refine Ret.ctl (Q4f (fun s:List X3×Int=>s.1.Perm l∧1≤s.2∧s.2≤13∧∀ a b x y,a<b→b<s.2.toNat→s.1[a]?=some x→s.1[b]?=some y→x.var≤y.var) (fun s=>(14-s.2).toNat) (fun _=>False) (fun s=>s.1.Perm l∧s.1.Pairwise (fun x y=>x.var≤y.var)) ⟨.rfl,by simp,by simp,fun a b x y h1 h2=>by simp at h2;omega⟩ (fun s hI=>?_) n (by simp;omega)) (fun r hr=>hr.elim) (fun s hs=>.some hs)
 obtain ⟨i1,i3,i4,i5⟩:=hI
 refine Ret.ite (fun hlt=>?_) (fun hge=>?_)
 ·rw [Z9] at hlt
  simp only [lenZ] at hlt
  refine Ret.ctl (Q4f (fun u:List X3×Int=>u.1.Perm l∧0≤u.2∧u.2≤s.2∧OrdV u.1 s.2.toNat u.2.toNat) (fun u=>u.2.toNat) (fun _=>False) (fun u=>u.1.Perm l∧∀ a b x y,a<b→b≤s.2.toNat→u.1[a]?=some x→u.1[b]?=some y→x.var≤y.var) ⟨i1,by omega,Int.le_refl _,fun a b x y h1 h2 h3=>i5 a b x y h1 (by omega)⟩ (fun u hJ=>?_) n (by omega)) (fun r hr=>hr.elim) (fun u hu=>?_)
  ·obtain ⟨j1,j3,j4,j5⟩:=hJ
   have hlen:=j1.length_eq
   refine Ret.ite (fun hp=>?_) (fun hp=>?_)
   ·rw [Z9] at hp
    have hs:wsub .i64 u.2 1=u.2-1:=Q3z (by omega) (by omega)
    rw [hs]
    have ex:idx u.1 u.2=some (u.1[u.2.toNat]'(by omega)):=W4e j3 (U9 (by omega))
    have ey:idx u.1 (u.2-1)=some (u.1[(u.2-1).toNat]'(by omega)):=W4e (by omega) (U9 (by omega))
    have gx:u.1[u.2.toNat]?=some (u.1[u.2.toNat]'(by omega)):=U9 (by omega)
    have gy:u.1[u.2.toNat-1]?=some (u.1[(u.2-1).toNat]'(by omega)):=by
     rw [show u.2.toNat-1=(u.2-1).toNat by omega]
     exact U9 (by omega)
    have hperm:=(List.set_set_perm (as:=u.1) (i:=u.2.toNat) (j:=(u.2-1).toNat) (by omega) (by omega)).trans j1
    generalize u.1[u.2.toNat]'(by omega)=x at *
    generalize u.1[(u.2-1).toNat]'(by omega)=y at *
    rw [ex,ey]
    simp only [U0]
    rw [X68]
    simp only [U0]
    by_cases hxy:x.var<y.var
    ·rw [if_pos hxy]
     have e:ilt (-1) 0=true:=rfl
     simp only [e,if_true]
     rw [X5x j3 (by omega)]
     simp only [U0]
     obtain ⟨z,ez,_⟩:=Q5h (xs:=u.1.set u.2.toNat y) (i:=u.2-1) (by omega) (by simp;omega)
     rw [ez]
     simp only [U0]
     rw [X5x (by omega) (by simp;omega)]
     refine .some ⟨⟨hperm,by simp;omega,by simp;omega,?_⟩,by simp;omega⟩
     simp only
     have hget:∀ (m:Nat) (v:X3),((u.1.set u.2.toNat y).set (u.2-1).toNat x)[m]?=some v→(m=u.2.toNat-1∧v=x)∨(m=u.2.toNat∧v=y)∨(m≠u.2.toNat-1∧m≠u.2.toNat∧u.1[m]?=some v):=fun m v hv=>by
      rw [List.getElem?_set] at hv
      split at hv
      ·split at hv
       ·cases hv;exact .inl ⟨by omega,rfl⟩
       ·cases hv
      ·rw [List.getElem?_set] at hv
       split at hv
       ·split at hv
        ·cases hv;exact .inr (.inl ⟨by omega,rfl⟩)
        ·cases hv
       ·exact .inr (.inr ⟨by omega,by omega,hv⟩)
     intro a b p q hab hbi hbj hp' hq'
     rcases hget a p hp' with ⟨ha,rfl⟩ | ⟨ha,rfl⟩ | ⟨ha,ha',hpa⟩
     ·rcases hget b q hq' with ⟨hb,rfl⟩ | ⟨hb,rfl⟩ | ⟨hb,hb',hqb⟩
      ·omega
      ·omega
      ·exact j5 u.2.toNat b _ _ (by omega) hbi hb' gx hqb
     ·rcases hget b q hq' with ⟨hb,rfl⟩ | ⟨hb,rfl⟩ | ⟨hb,hb',hqb⟩
      ·omega
      ·omega
      ·exact j5 (u.2.toNat-1) b _ _ (by omega) hbi hb' gy hqb
     ·rcases hget b q hq' with ⟨hb,rfl⟩ | ⟨hb,rfl⟩ | ⟨hb,hb',hqb⟩
      ·exact absurd hb (by omega)
      ·exact j5 a (u.2.toNat-1) _ _ (by omega) (by omega) (by omega) hpa gy
      ·exact j5 a b _ _ hab hbi hb' hpa hqb
    ·rw [if_neg hxy]
     have e:ilt (if y.var<x.var then 1 else 0) 0=false:=by split<;>rfl
     simp only [e,U2,if_false]
     refine .some ⟨j1,fun a b p q hab hbi hp' hq'=>?_⟩
     by_cases hbj:b=u.2.toNat
     ·subst hbj
      rw [gx] at hq'
      cases hq'
      by_cases haj:a=u.2.toNat-1
      ·subst haj
       rw [gy] at hp'
       cases hp'
       omega
      ·have:=j5 a (u.2.toNat-1) p y (by omega) (by omega) (by omega) hp' gy
       omega
     ·exact j5 a b p q hab hbi hbj hp' hq'
   ·rw [J0] at hp
    refine .some ⟨j1,fun a b p q hab hbi hp' hq'=>j5 a b p q hab hbi (by omega) hp' hq'⟩
  ·obtain ⟨u1,u2⟩:=hu
   have hw:wadd .i64 s.2 1=s.2+1:=Q10 (by omega) (by omega)
   refine .some ⟨⟨u1,by simp only [hw];omega,by simp only [hw];omega,fun a b x y h1 h2=>u2 a b x y h1 (by simp only [hw] at h2;omega)⟩,by simp only [hw];omega⟩
 ·rw [J0] at hge
  simp only [lenZ] at hge
  refine .some ⟨i1,?_⟩
  rw [List.pairwise_iff_getElem]
  intro a b ha hb hab
  have hlen:=i1.length_eq
  have hb':b<s.1.length:=hb
  exact i5 a b _ _ hab (by omega) (U9 ha) (U9 hb)
theorem W7c {n:Nat}(hn:40≤n){l:List X3}(hl:l.length≤12)(hd:(l.map (·.var)).Nodup)(hv:∀ b∈l,0≤b.var∧b.var≤5) :
  Q0w n l (fun a b=>Q1r a b)=some (Q9c l):=by
 suffices hs:Ret (Q0w n l (fun a b=>Q1r a b)) (fun r=>r=Q9c l) by
  obtain ⟨a,e,rfl⟩:=hs
  exact e
 unfold Q0w
 obtain ⟨b,hb⟩:=Option.isSome_iff_exists.1 (List.all_eq_true.1 V7k l.length (List.mem_range.2 (by omega)))
 rw [hb]
 simp only [U0]
 have fin:∀ r:List X3,r.Perm l→r.Pairwise (fun x y=>x.var≤y.var)→r=Q9c l:=fun r h1 h2=>
  X5w r (Q9c l) (Z9s h2 ((h1.map _).nodup_iff.2 hd)) (X30 hd) (h1.trans (Z1b hv).symm)
 obtain ⟨n,rfl⟩:∃ k,n=k+1:=⟨n-1,by omega⟩
 refine Ret.bind (P:=fun r=>r.Perm l∧r.Pairwise (fun x y=>x.var≤y.var)) ?_ (fun r hr=>?_)
 ·unfold Q1h
  refine Ret.ctl (Q4f (fun _=>True) (fun _=>0) (fun r:List X3=>r.Perm l∧r.Pairwise (fun x y=>x.var≤y.var)) (fun _=>False) trivial (fun s _=>?_) n (by omega)) (fun r hr=>.some hr) (fun s hs=>hs.elim)
  have h0:wsub .i64 (lenZ l.length) 0=lenZ l.length:=by rw [Q3z]<;>simp only [lenZ]<;>omega
  rw [if_pos (by rw [J1,h0];simp only [lenZ];omega)]
  refine Ret.bind (W07 (by omega) l hl) (fun r hr=>?_)
  rw [X0h (by simp [hr.1.length_eq])]
  exact .some hr
 ·rw [X0h (by simp [hr.1.length_eq])]
  exact .some (fin r hr.1 hr.2)
theorem X8b:∀ {a b:List Int},a.Nodup→(∀ x∈a,x∈b)→a.length=b.length→a.Perm b
 | [],b,_,_,h=>by have:b=[]:=List.eq_nil_of_length_eq_zero (by simpa using h.symm);rw [this]
 | x::a,b,hn,hs,h=>by
  have hx:=hs x (by simp)
  have hn':=List.nodup_cons.1 hn
  have hl:=List.length_erase_of_mem hx
  refine (List.Perm.cons x (X8b hn'.2 (fun y hy=>?_) (by simp at h;omega))).trans (List.perm_cons_erase hx).symm
  have hne:y≠x:=fun e=>hn'.1 (e▸hy)
  exact (List.mem_erase_of_ne hne).2 (hs y (by simp [hy]))
theorem X65 {a b:List Q9}(ha:Q27 a=true)(h:Q96 a b=true):(a.map (·.var)).Perm (b.map (·.var)):=by
 simp only [Q96,Bool.and_eq_true,decide_eq_true_eq,List.all_eq_true] at h
 have hn:(a.map (·.var)).Nodup:=by simpa [Q27] using ha
 refine X8b hn (fun x hx=>?_) (by simp [h.1])
 obtain ⟨v,hv,rfl⟩:=U10.1 hx
 exact U10.2 ⟨v,h.2 v hv,rfl⟩
theorem W06 {w:List Q4} : ∀ (d:Nat) (t:Q1) (p:Q0),Q18 w d t p=true→linD w d t p=true→∀ v l,V5 d p v=some l→(l.map (·.var)).Perm ((Q3a w d t p).map (·.var)):=by
 intro d
 induction d with
 | zero=>intro t p h;cases h
 | succ d ih=>
  intro t p hg hlin v l hm
  obtain ⟨ho,hl⟩:=Q54 (Q4a hg)
  simp only [linD,Bool.and_eq_true,List.all_eq_true] at hlin
  rw [Q3a]
  rw [V5] at hm
  have hnil:p.op≠4→p.op≠5→p.op≠6→Y2 w t p=[]:=fun h4 h5 h6=>by simp [Y2,h4,h5,h6]
  by_cases h1:p.op=1
  ·rw [if_pos h1] at hm;cases hm
   simp [ownV,h1,hnil]
  rw [if_neg h1] at hm
  by_cases h2:p.op=2
  ·rw [if_pos h2] at hm;cases hm
   simp [ownV,h2,hnil]
  rw [if_neg h2] at hm
  by_cases h3:p.op=3
  ·rw [if_pos h3] at hm
   split at hm
   ·cases hm
    simp [ownV,h3,hnil]
   ·cases hm
  rw [if_neg h3] at hm
  by_cases h5:p.op=5
  ·rw [if_pos h5] at hm
   obtain ⟨a,b,hkids,hkt⟩:=kid0 h5 hl
   have ga:=Q26 hg (k:=0) (by rw [hkt];rfl) (by rw [hkids];rfl)
   have gb:=Q26 hg (k:=1) (by rw [hkt];rfl) (by rw [hkids];rfl)
   have g0:=hlin.1 (t,a) (by rw [hkids,hkt];simp)
   have g1:=hlin.1 (t,b) (by rw [hkids,hkt];simp)
   have hal:=hlin.2
   rw [if_pos h5] at hal
   have k0:kv w d t p 0=Q3a w d t a:=by simp [kv,hkids,hkt]
   have k1:kv w d t p 1=Q3a w d t b:=by simp [kv,hkids,hkt]
   rw [k0,k1] at hal
   have hv:ownV t p=[]:=by simp [ownV,h5]
   rw [hv,hkids,hkt,if_pos h5]
   simp only [List.zip_cons_cons,List.zip_nil_right,List.take_succ_cons,List.take_zero,List.flatMap_cons,List.flatMap_nil,List.append_nil,List.nil_append]
   rw [hkids] at hm
   simp only at hm
   split at hm
   ·rename_i l' hl'
    cases hm
    exact ih t a ga g0 v _ hl'
   ·exact (ih t b gb g1 v _ hm).trans (X65 (Q6e d t a ga g0) hal).symm
  rw [if_neg h5] at hm
  rw [if_neg h5,List.take_of_length_le (by rw [List.length_zip];omega)]
  by_cases h6:p.op=6
  ·rw [if_pos h6] at hm
   obtain ⟨a,hkids,hk2⟩:=X6c h6 hl
   have ga:=Q26 hg (k:=0) (by rw [hk2];rfl) (by rw [hkids];rfl)
   have g0:=hlin.1 (t,a) (by rw [hkids,hk2];simp)
   rw [hkids] at hm
   simp only at hm
   cases ha:V5 d a v with
   | none=>rw [ha] at hm;cases hm
   | some l'=>
    rw [ha] at hm
    cases hm
    have:=ih t a ga g0 v l' ha
    rw [hkids,hk2]
    simpa [ownV,h6] using this
  rw [if_neg h6] at hm
  have hv:ownV t p=[]:=by simp [ownV,h2,h6]
  rw [hv,List.nil_append]
  split at hm
  ·have gen:∀ (ts:List Q1) (ps:List Q0) (vs:List Q3) (l:List X3),ts.length=ps.length→(∀ x∈ts.zip ps,∀ v l,V5 d x.2 v=some l→(l.map (·.var)).Perm ((Q3a w d x.1 x.2).map (·.var)))→Q4u (V5 d) ps vs=some l→(l.map (·.var)).Perm (((ts.zip ps).flatMap fun x=>Q3a w d x.1 x.2).map (·.var)):=by
    intro ts ps
    induction ps generalizing ts with
    | nil=>intro vs l _ _ h;simp only [Q4u] at h;cases h;simp
    | cons q ps ihp=>
     intro vs l hl hx h
     cases ts with
     | nil=>simp at hl
     | cons a ts=>
      cases vs with
      | nil=>cases h
      | cons u vs=>
       simp only [Q4u] at h
       cases hq:V5 d q u with
       | none=>rw [hq] at h;cases h
       | some l1=>
        rw [hq] at h
        simp only at h
        cases hps:Q4u (V5 d) ps vs with
        | none=>rw [hps] at h;cases h
        | some l2=>
         rw [hps] at h
         cases h
         have e1:=hx (a,q) (by simp) u l1 hq
         have e2:=ihp ts vs l2 (by simpa using hl) (fun x hxx=>hx x (by simp [hxx])) hps
         simp only [List.zip_cons_cons,List.flatMap_cons,List.map_append]
         exact e1.append e2
   refine gen _ _ _ _ hl.symm (fun x hx v l h=>?_) hm
   obtain ⟨j,hj⟩:=List.mem_iff_getElem?.1 hx
   obtain ⟨e1,e2⟩:=List.getElem?_zip_eq_some.1 hj
   exact ih _ _ (Q26 hg e1 e2) (hlin.1 x hx) v l h
  ·cases hm
structure W5x (l:List X3):Prop where
 nd:(l.map (·.var)).Nodup
 rg:∀ b∈l,0≤b.var∧b.var≤5
 ln:l.length≤6
theorem Z29 {w:List Q4}{d:Nat}{t:Q1}{p:Q0}(g:Q18 w d t p=true)(l:linD w d t p=true){v:Q3}{r:List X3}(h:V5 d p v=some r):W5x r:=by
 have hp:=W06 d t p g l v r h
 have hd:=Q6e d t p g l
 simp only [Q27,decide_eq_true_eq] at hd
 refine ⟨hp.nodup_iff.2 hd,fun b hb=>?_,?_⟩
 ·obtain ⟨y,hy,e⟩:=U10.1 (hp.mem_iff.1 (List.mem_map_of_mem hb))
  have:=Z48 d t p g y hy
  omega
 ·have h1:=hp.length_eq
  have h2:=W71 g l
  simp only [U7] at h1
  omega
def Q5i (g:Q34)(l:List X3):Bool:=decide (g.op=0)||match l.find? fun b=>decide (b.var=g.var) with
 | none=>false
 | some b=>decide (b.value.ctor = -1)&&((decide (g.op=1)&&decide (b.value.n<g.n))||(decide (g.op=2)&&decide (b.value.n=g.n)))
theorem W53 {a b:List X3}(hn:(a.map (·.var)).Nodup)(h:a.Perm b)(v:Int):a.find? (fun x=>decide (x.var=v))=b.find? (fun x=>decide (x.var=v)):=by
 induction h with
 | nil=>rfl
 | cons x h ih=>
  rw [List.find?_cons,List.find?_cons]
  split
  ·rfl
  ·exact ih (List.nodup_cons.1 (by simpa using hn)).2
 | swap x y l=>
  simp only [List.map_cons,List.nodup_cons,U8,not_or] at hn
  simp only [List.find?_cons]
  by_cases h1:x.var=v
  ·have h2:¬y.var=v:=fun e=>hn.1.1 (by omega)
   simp [h1,h2]
  ·simp [h1]
 | trans h1 h2 ih1 ih2=>rw [ih1 hn,ih2 ((h1.map _).nodup_iff.1 hn)]
theorem X6u {a b:List X3}(hn:(a.map (·.var)).Nodup)(h:a.Perm b)(g:Q34):Q5i g a=Q5i g b:=by
 unfold Q5i
 rw [W53 hn h]
theorem X6t {l:List X3}(h:W5x l)(g:Q34):Q5i g (Q9c l)=Q5i g l:=(X6u h.nd (Z1b h.rg).symm g).symm
def runD (v:Q3):Nat→List Q5→Option (Nat×List X3)
 | _,[]=>none
 | k,c::cs=>match V5 10 c.pat v with
  | none=>runD v (k+1) cs
  | some l=>if Q5i c.guard l=true then some (k,Q9c l) else runD v (k+1) cs
def runR:Option (Nat×List X3)→Int×List X3
 | none=>(-1,[])
 | some x=>((x.1:Int),x.2)
theorem V1l {l:List X3}(hn:(l.map (·.var)).Nodup){x y:X3}(hx:x∈l)(hy:y∈l)(h:x.var=y.var):x=y:=by
 induction l with
 | nil=>cases hx
 | cons a l ih=>
  simp only [List.map_cons,List.nodup_cons,U10,not_exists,not_and] at hn
  rcases U8.1 hx with h1 | h1
  ·rcases U8.1 hy with h2 | h2
   ·rw [h1,h2]
   ·exact absurd (by rw [←h1];exact h.symm) (hn.1 y h2)
  ·rcases U8.1 hy with h2 | h2
   ·exact absurd (by rw [←h2];exact h) (hn.1 x h1)
   ·exact ih hn.2 h1 h2
theorem W9a {l:List X3}(hn:(l.map (·.var)).Nodup){x:X3}{v:Int}(hx:x∈l)(h:x.var=v):l.find? (fun b=>decide (b.var=v))=some x:=by
 cases hf:l.find? (fun b=>decide (b.var=v)) with
 | none=>
  have:=List.find?_eq_none.1 hf x hx
  simp [h] at this
 | some y=>
  have h1:=List.find?_some hf
  have h2:=List.mem_of_find?_eq_some hf
  simp only [decide_eq_true_eq] at h1
  rw [V1l hn h2 hx (by omega)]
theorem X41 (g:Q34){l:List X3}(hn:(l.map (·.var)).Nodup):Q2q g l=some (Q5i g l):=by
 suffices hs:Ret (Q2q g l) (fun r=>r=Q5i g l) by
  obtain ⟨a,e,rfl⟩:=hs
  exact e
 unfold Q2q
 refine Ret.ite (fun h0=>.some ?_) (fun h0=>?_)
 ·rw [X2] at h0
  simp [Q5i,h0]
 rw [X0] at h0
 refine Ret.bind (Q7t l (fun a0=>Q4q a0 g) (fun b=>ieq b.var g.var) (fun _ _=>rfl)) (fun i hi=>?_)
 rcases hi with ⟨k,x,rfl,hx,hxv⟩ | ⟨rfl,hall⟩
 ·rw [if_neg (by rw [Z9];omega),Q1m hx]
  simp only [U0]
  rw [X2] at hxv
  have hG:Q5i g l=(ieq x.value.ctor (-1)&&((ieq g.op 1&&ilt x.value.n g.n)||(ieq g.op 2&&ieq x.value.n g.n))):=by
   unfold Q5i
   rw [W9a hn (U1 hx) hxv,decide_eq_false h0]
   rfl
  rw [hG]
  generalize ieq x.value.ctor (-1)=b1
  generalize ieq g.op 1=b2
  generalize ilt x.value.n g.n=b3
  generalize ieq g.op 2=b4
  generalize ieq x.value.n g.n=b5
  cases b1<;>cases b2<;>cases b3<;>cases b4<;>cases b5<;>exact .some rfl
 ·refine .some ?_
  have hf:l.find? (fun b=>decide (b.var=g.var))=none:=List.find?_eq_none.2 fun x hx=>by
   have:=hall x hx
   rw [X0] at this
   simpa using this
  simp [Q5i,hf,h0]
def matR:Option (List X3)→List X3×Bool
 | none=>([],false)
 | some l=>(Q9c l,true)
theorem Z95 {w:List Q4}(hw:WW w){t:Q1}(ht:t∈tys w){p:Q0}(g:Q18 w 10 t p=true)(ln:linD w 10 t p=true)(hc:cntP p≤1000){e:Nat}{v:Q3}(hv:Q1j w e t v)(he:e≤10) :
  Q52 NN p v=some (matR (V5 10 p v)):=by
 suffices hs:Ret (Q52 NN p v) (fun r=>r=matR (V5 10 p v)) by
  obtain ⟨a,e,rfl⟩:=hs
  exact e
 have hdv:=Z6g e 10 v he (Q7u hw e t v ht hv)
 unfold Q52
 refine Ret.bind (W7w hw 10 NN t p v e ht g hv (by decide) hc) (fun r hr=>?_)
 obtain ⟨_,h2,h3⟩:=hr
 cases hm:V5 10 p v with
 | none=>
  rw [hm] at h2
  simp only [Option.isSome_none] at h2
  rw [h2]
  exact .some rfl
 | some l=>
  rw [hm] at h2
  simp only [Option.isSome_some] at h2
  have h1:=h3 l hm
  have hb:=Z29 g ln hm
  rw [h2,h1]
  simp only [Bool.not_true,U2,if_false]
  rw [W7c (by decide) (by have:=hb.ln;omega) hb.nd hb.rg]
  have hpm:=Z1b hb.rg
  simp only [U0]
  rw [X0h (by simp [hpm.length_eq])]
  simp only [U0]
  have hdb:∀ b∈Q9c l,Z3z 10 b.value:=fun b hb'=>by
   obtain ⟨e',h1,h2⟩:=X07 10 p 10 v l hdv hm b (hpm.mem_iff.1 hb')
   exact Z6g _ _ _ h1 h2
  rw [show matR (some l)=(Q9c l,true) from rfl]
  generalize Q9c l=r at *
  refine Ret.ctl (Z1 r (fun _ s=>s=r) (fun _=>False) (fun s=>s=r) rfl (fun k b s hb hI=>?_) (fun s hI=>hI)) (fun r hr=>hr.elim) (fun s hs=>.some (by rw [hs]))
  subst hI
  have hk:=(List.getElem?_eq_some_iff.1 hb).1
  have hy:s[k]?=some s[k]:=by simp
  rw [Q1m hy]
  simp only [U0]
  rw [Z7a 10 NN _ (hdb _ (U1 hy)) (by decide)]
  simp only [U0]
  rw [X5x (by omega) (by omega)]
  refine .some ?_
  exact List.set_getElem_self (as:=s) (i:=k) hk
theorem Z13 {α:Type}{l:List α}{k:Nat}{x:α}(h:l[k]?=some x):l.drop k=x::l.drop (k+1):=by
 obtain ⟨hk,rfl⟩:=List.getElem?_eq_some_iff.1 h
 exact List.drop_eq_getElem_cons hk
theorem Z1d {w:List Q4}(hw:WW w){t:Q1}(ht:t∈tys w){l:List Q5}(hl:∀ c∈l,Q0u w t c.pat=true){e:Nat}{v:Q3}(hv:Q1j w e t v)(he:e≤10) :
  Q5s NN l v=some (runR (runD v 0 l)):=by
 suffices hs:Ret (Q5s NN l v) (fun r=>r=runR (runD v 0 l)) by
  obtain ⟨a,e,rfl⟩:=hs
  exact e
 unfold Q5s
 refine Ret.ctl (Z1 l (fun k _=>runD v 0 l=runD v k (l.drop k)) (fun r:Int×List X3=>r=runR (runD v 0 l)) (fun _=>runD v 0 l=none) rfl (fun k c s hc hI=>?_) (fun s hI=>by rw [hI,List.drop_length];rfl)) (fun r hr=>.some hr) (fun s hs=>.some (by rw [hs];rfl))
 obtain ⟨g,c1,ln⟩:=Q4w (hl c (U1 hc))
 rw [Z13 hc] at hI
 simp only [runD] at hI
 rw [Z95 hw ht g ln (by omega) hv he]
 simp only [U0]
 cases hm:V5 10 c.pat v with
 | none=>
  simp only [hm] at hI
  simp only [matR,U2,if_false,U0]
  exact .some hI
 | some r=>
  simp only [hm] at hI
  have hb:=Z29 g ln hm
  have hn:((Q9c r).map (·.var)).Nodup:=((Z1b hb.rg).map _).nodup_iff.2 hb.nd
  simp only [matR,if_true]
  rw [X41 _ hn,X6t hb]
  simp only [U0]
  cases hg:Q5i c.guard r with
  | true=>
   rw [hg] at hI
   simp only [if_true,U0] at hI ⊢
   exact .some (by simp only [X89];rw [hI];rfl)
  | false=>
   rw [hg] at hI
   simp only [U2,if_false,U0] at hI ⊢
   exact .some hI
def cntV:Q3→Nat
 | ⟨_,_,kids⟩=>1+cntVs kids
where cntVs:List Q3→Nat
 | []=>0
 | v::l=>cntV v+cntVs l
theorem Z4w (v:Q3):cntV v=1+cntV.cntVs v.kids:=by cases v;rw [cntV]
theorem Z1g:∀ (l:List Q3) (k:Nat) (q:Q3),l[k]?=some q→cntV.cntVs (l.take (k+1))=cntV.cntVs (l.take k)+cntV q
 | [],k,q,h=>by simp at h
 | p::l,0,q,h=>by simp at h;subst h;simp [cntV.cntVs]
 | p::l,k+1,q,h=>by
  have:=Z1g l k q (by simpa using h)
  simp only [List.take_succ_cons,cntV.cntVs]
  omega
theorem Z02:∀ (l:List Q3) (k:Nat),cntV.cntVs (l.take k)≤cntV.cntVs l
 | [],k=>by simp
 | p::l,0=>by simp [cntV.cntVs]
 | p::l,k+1=>by
  have:=Z02 l k
  simp only [List.take_succ_cons,cntV.cntVs]
  omega
def Q30 (w:List Q4):Nat→Q1→Q3→Bool
 | 0,_,_=>false
 | d+1,t,v=>if t.data = -1 then decide (v.ctor = -1)&&(decide (0≤v.n)&&(decide (v.n≤9)&&decide (v.kids.length=0)))
  else decide (v.n=0)&&(decide (v.ctor∈X1 w t)&&(decide (v.kids.length=(Z6 w t v.ctor).length)&&((Z6 w t v.ctor).zip v.kids).all fun x=>Q30 w d x.1 x.2))
theorem Z4k {w:List Q4} : ∀ (d:Nat) (t:Q1) (v:Q3),Q30 w d t v=true↔Q1j w d t v:=by
 intro d
 induction d with
 | zero=>intro t v;simp [Q30,Q1j]
 | succ d ih=>
  intro t v
  rw [Q30,Q1j]
  split
  ·simp only [Bool.and_eq_true,decide_eq_true_eq,List.length_eq_zero_iff]
  ·simp only [Bool.and_eq_true,decide_eq_true_eq,List.all_eq_true]
   constructor
   ·rintro ⟨h1,h2,h3,h4⟩
    exact ⟨h1,h2,h3,fun j a x ha hx=>(ih a x).1 (h4 (a,x) (U1 (Q9b ha hx)))⟩
   ·rintro ⟨h1,h2,h3,h4⟩
    refine ⟨h1,h2,h3,fun x hx=>?_⟩
    obtain ⟨j,hj⟩:=List.mem_iff_getElem?.1 hx
    obtain ⟨e1,e2⟩:=List.getElem?_zip_eq_some.1 hj
    exact (ih _ _).2 (h4 j _ _ e1 e2)
def okV (w:List Q4)(d:Nat)(t:Q1)(v:Q3)(c:Nat):Bool:=Q30 w d t v&&decide (c+cntV v≤60)
def Q29 (w:List Q4)(t:Q1)(v:Q3):Bool:=Q30 w 10 t v&&decide (cntV v≤60)
theorem Q4g {w:List Q4}{t:Q1}{v:Q3}(h:Q29 w t v=true):Q1j w 10 t v:=by
 simp only [Q29,Bool.and_eq_true] at h
 exact (Z4k 10 t v).1 h.1
theorem W3t {w:List Q4}{d:Nat}{t:Q1}{v:Q3}{c:Nat}(h:Q30 w d t v=false):okV w d t v c=false:=by simp [okV,h]
theorem V4d {w:List Q4}(hw:WW w):∀ (d n:Nat) (t:Q1) (v:Q3) (c:Nat),t∈tys w→c≤60→d+2≤n→d≤10→
  Ret (Q2f n w t v (11-(d:Int)) false (c:Int)) (fun r=>r.1=okV w d t v c∧(okV w d t v c=true→r.2=((c+cntV v:Nat):Int))):=by
 intro d
 induction d with
 | zero=>
  intro n t v c ht hc hn hd
  obtain ⟨n,rfl⟩:∃ k,n=k+1:=⟨n-1,by omega⟩
  have hb:okV w 0 t v c=false:=W3t rfl
  unfold Q2f
  refine Ret.ite (fun _=>.some ⟨hb.symm,fun h=>by rw [hb] at h;cases h⟩) (fun _=>?_)
  rw [if_pos (by rw [Z9];omega)]
  exact .some ⟨hb.symm,fun h=>by rw [hb] at h;cases h⟩
 | succ d ih=>
  intro n t v c ht hc hn hd
  obtain ⟨n,rfl⟩:∃ k,n=k+1:=⟨n-1,by omega⟩
  have hT:=hw.ty t ht
  unfold Q2f
  have hc1:wadd .i64 (c:Int) 1=((c+1:Nat):Int):=by rw [Q10]<;>omega
  rw [hc1]
  have hpos:1≤cntV v:=by rw [Z4w];omega
  refine Ret.ite (fun hlt=>?_) (fun hle=>?_)
  ·rw [Z9] at hlt
   have hb:okV w (d+1) t v c=false:=by simp only [okV,Bool.and_eq_false_iff,decide_eq_false_iff_not];right;omega
   exact .some ⟨hb.symm,fun h=>by rw [hb] at h;cases h⟩
  rw [J0] at hle
  rw [if_neg (by rw [Z9];omega),if_neg (by simp)]
  have bad:Q30 w (d+1) t v=false→okV w (d+1) t v c=false:=W3t
  refine Ret.ctl (R:=fun r:Bool×Int=>r.1=okV w (d+1) t v c∧(okV w (d+1) t v c=true→r.2=((c+cntV v:Nat):Int))) (B:=fun _:Unit=>t.data≠-1∧v.n=0∧v.ctor∈X1 w t) ?_ (fun r hr=>.some hr) (fun s hs=>?_)
  ·refine Ret.ite (fun hi=>?_) (fun hi=>?_)
   ·rw [X2] at hi
    have hg:Q30 w (d+1) t v=(decide (v.ctor = -1)&&(decide (0≤v.n)&&(decide (v.n≤9)&&decide (v.kids.length=0)))):=by rw [Q30,if_pos hi]
    refine Ret.ite (fun h1=>?_) (fun h1=>?_)
    ·rw [X2] at h1
     rw [Q77]
     simp only [U0]
     refine Ret.ite (fun h2=>?_) (fun h2=>?_)
     ·simp only [Bool.and_eq_true,decide_eq_true_eq] at h2
      have hk:Q30 w (d+1) t v=decide (v.kids.length=0):=by rw [hg];simp [h1,h2.1,h2.2]
      refine .some ?_
      have h0:v.kids.length=0→cntV v=1:=fun h=>by rw [Z4w,List.eq_nil_of_length_eq_zero h];rfl
      by_cases hz:v.kids.length=0
      ·have e1:okV w (d+1) t v c=true:=by simp only [okV,hk,hz,decide_true,Bool.true_and,decide_eq_true_eq];have:=h0 hz;omega
       rw [e1]
       refine ⟨?_,fun _=>?_⟩
       ·simp only [X2,lenZ];omega
       ·have:=h0 hz;simp only;omega
      ·have e1:okV w (d+1) t v c=false:=bad (by rw [hk];simp [hz])
       rw [e1]
       refine ⟨?_,fun h=>by cases h⟩
       simp only [X0,lenZ];omega
     ·have e1:okV w (d+1) t v c=false:=bad (by
       rw [hg]
       simp only [Bool.and_eq_false_iff,decide_eq_false_iff_not] at h2 ⊢
       rcases h2 with h2 | h2
       ·exact .inr (.inl h2)
       ·exact .inr (.inr (.inl h2)))
      exact .some ⟨e1.symm,fun h=>by rw [e1] at h;cases h⟩
    ·rw [X0] at h1
     have e1:okV w (d+1) t v c=false:=bad (by rw [hg];simp [h1])
     exact .some ⟨e1.symm,fun h=>by rw [e1] at h;cases h⟩
   ·rw [X0] at hi
    have hg:Q30 w (d+1) t v=(decide (v.n=0)&&(decide (v.ctor∈X1 w t)&&(decide (v.kids.length=(Z6 w t v.ctor).length)&&((Z6 w t v.ctor).zip v.kids).all fun x=>Q30 w d x.1 x.2))):=by rw [Q30,if_neg hi]
    refine Ret.ite (fun h1=>?_) (fun h1=>?_)
    ·rw [Bool.not_eq_true',X0] at h1
     have e1:okV w (d+1) t v c=false:=bad (by rw [hg];simp [h1])
     exact .some ⟨e1.symm,fun h=>by rw [e1] at h;cases h⟩
    rw [Bool.not_eq_false',X2] at h1
    rw [hT.c2]
    simp only [U0]
    rw [Z15]
    simp only [U0]
    refine Ret.ite (fun h2=>?_) (fun h2=>?_)
    ·rw [Bool.not_eq_true',decide_eq_false_iff_not] at h2
     have e1:okV w (d+1) t v c=false:=bad (by rw [hg];simp [h2])
     exact .some ⟨e1.symm,fun h=>by rw [e1] at h;cases h⟩
    rw [Bool.not_eq_false',decide_eq_true_eq] at h2
    exact .some ⟨hi,h1,h2⟩
  ·obtain ⟨s1,s2,s3⟩:=hs
   have hg:Q30 w (d+1) t v=(decide (v.kids.length=(Z6 w t v.ctor).length)&&((Z6 w t v.ctor).zip v.kids).all fun x=>Q30 w d x.1 x.2):=by rw [Q30,if_neg s1];simp [s2,s3]
   rw [hT.a2 _ s3]
   simp only [U0]
   refine Ret.ite (fun hl=>?_) (fun hl=>?_)
   ·rw [Bool.not_eq_true',X0] at hl
    simp only [lenZ] at hl
    have e1:okV w (d+1) t v c=false:=bad (by rw [hg];simp only [Bool.and_eq_false_iff,decide_eq_false_iff_not];left;omega)
    exact .some ⟨e1.symm,fun h=>by rw [e1] at h;cases h⟩
   rw [Bool.not_eq_false',X2] at hl
   simp only [lenZ] at hl
   have hcv:=Z4w v
   refine Ret.ctl (Z1 v.kids (fun k s=>s=((c+1+cntV.cntVs (v.kids.take k):Nat):Int)∧c+1+cntV.cntVs (v.kids.take k)≤60∧∀ (j:Nat) (a:Q1) (x:Q3),j<k→(Z6 w t v.ctor)[j]?=some a→v.kids[j]?=some x→Q30 w d a x=true) (fun r:Bool×Int=>r.1=okV w (d+1) t v c∧(okV w (d+1) t v c=true→r.2=((c+cntV v:Nat):Int))) (fun s=>s=((c+cntV v:Nat):Int)∧okV w (d+1) t v c=true) ⟨by simp [cntV.cntVs],by simp only [List.take_zero,cntV.cntVs];omega,fun j a x hj=>by omega⟩ (fun k x s hx hI=>?_) (fun s hI=>?_)) (fun r hr=>.some hr) (fun s hs=>.some ⟨hs.2.symm,fun _=>hs.1⟩)
   ·obtain ⟨rfl,i2,i3⟩:=hI
    have hk:=(List.getElem?_eq_some_iff.1 hx).1
    have ha:(Z6 w t v.ctor)[k]?=some ((Z6 w t v.ctor)[k]'(by omega)):=by simp
    rw [Q1m ha]
    simp only [U0]
    have hdd:wadd .i64 (11-((d+1:Nat):Int)) 1=11-(d:Int):=by rw [Q10]<;>omega
    rw [hdd]
    refine Ret.bind (ih n _ x _ (hT.at_ _ s3 _ (U1 ha)) i2 (by omega) (by omega)) (fun r hr=>?_)
    obtain ⟨r1,r2⟩:=hr
    have htk:=Z1g v.kids k x hx
    refine Ret.ite (fun h=>?_) (fun h=>?_)
    ·rw [Bool.not_eq_true',r1] at h
     have e1:okV w (d+1) t v c=false:=by
      simp only [okV,Bool.and_eq_false_iff,decide_eq_false_iff_not] at h ⊢
      rcases h with h | h
      ·left
       rw [hg,Bool.and_eq_false_iff]
       right
       rw [List.all_eq_false]
       exact ⟨_,U1 (Q9b ha hx),by simp [h]⟩
      ·right
       have:=Z02 v.kids (k+1)
       omega
     exact .some ⟨e1.symm,fun h=>by rw [e1] at h;cases h⟩
    ·rw [Bool.not_eq_false',r1] at h
     have r3:=r2 h
     simp only [okV,Bool.and_eq_true,decide_eq_true_eq] at h
     refine .some ⟨?_,by omega,fun j a y hj h1 h2=>?_⟩
     ·rw [r3];omega
     ·by_cases hjk:j=k
      ·subst hjk
       rw [ha] at h1
       rw [hx] at h2
       cases h1
       cases h2
       exact h.1
      ·exact i3 j a y (by omega) h1 h2
   ·obtain ⟨rfl,i2,i3⟩:=hI
    rw [List.take_length] at i2 ⊢
    refine ⟨by omega,?_⟩
    simp only [okV,Bool.and_eq_true,decide_eq_true_eq]
    refine ⟨?_,by omega⟩
    rw [hg]
    simp only [Bool.and_eq_true,decide_eq_true_eq,List.all_eq_true]
    refine ⟨by omega,fun y hy=>?_⟩
    obtain ⟨j,hj⟩:=List.mem_iff_getElem?.1 hy
    obtain ⟨e1,e2⟩:=List.getElem?_zip_eq_some.1 hj
    exact i3 j _ _ (List.getElem?_eq_some_iff.1 e2).1 e1 e2
theorem Q8m {w:List Q4}(hw:WW w){t:Q1}(ht:t∈tys w)(v:Q3):Q25 NN w t v=some (Q29 w t v):=by
 suffices hs:Ret (Q25 NN w t v) (fun r=>r=Q29 w t v) by
  obtain ⟨a,e,rfl⟩:=hs
  exact e
 unfold Q25
 refine Ret.bind (V4d hw 10 NN t v 0 ht (by omega) (by decide) (by omega)) (fun r hr=>.some ?_)
 rw [hr.1]
 simp [okV,Q29]
theorem Z6c {w:List Q4} : ∀ (d e:Nat) (t:Q1) (v:Q3),d≤e→Q1j w d t v→Q1j w e t v:=by
 intro d
 induction d with
 | zero=>intro e t v _ h;exact h.elim
 | succ d ih=>
  intro e t v he h
  obtain ⟨e,rfl⟩:∃ k,e=k+1:=⟨e-1,by omega⟩
  rw [Q1j] at h ⊢
  split
  ·rename_i hd;rw [if_pos hd] at h;exact h
  ·rename_i hd
   rw [if_neg hd] at h
   exact ⟨h.1,h.2.1,h.2.2.1,fun j a x ha hx=>ih e a x (by omega) (h.2.2.2 j a x ha hx)⟩
def tupV (out:List (List Q3))(l:List Q3):List (List Q3):=out.flatMap fun q=>l.map fun c=>q++[c]
def mkV (c:Int)(ks:List Q3):Q3:=Q3.mk c 0 ks
def numV (n:Nat):Q3:=Q3.mk (-1) (n:Int) []
theorem Z2r (out:List (List Q3))(l:List Q3):(tupV out l).length=out.length * l.length:=by
 induction out with
 | nil=>simp [tupV]
 | cons q out ih=>
  have e:tupV (q::out) l=(l.map fun c=>q++[c])++tupV out l:=by simp [tupV]
  rw [e,U5,ih,U7,U3,Nat.succ_mul]
  omega
theorem Z0c:∀ (ls:List (List Q3)) (out:List (List Q3)) (ks:List Q3),ks∈ls.foldl tupV out→
  ∃ a b,a∈out∧ks=a++b∧b.length=ls.length∧∀ (i:Nat) (q:Q3) (l:List Q3),b[i]?=some q→ls[i]?=some l→q∈l
 | [],out,ks,h=>⟨ks,[],by simpa using h,by simp,rfl,by simp⟩
 | l::ls,out,ks,h=>by
  rw [List.foldl_cons] at h
  obtain ⟨a,b,ha,rfl,hl,hb⟩:=Z0c ls (tupV out l) ks h
  simp only [tupV,List.mem_flatMap,U10] at ha
  obtain ⟨a0,h0,c,hc,rfl⟩:=ha
  refine ⟨a0,c::b,h0,by simp,by simp [hl],fun i q m h1 h2=>?_⟩
  cases i with
  | zero=>simp at h1 h2;subst h1 h2;exact hc
  | succ i=>exact hb i q m (by simpa using h1) (by simpa using h2)
theorem len0 (n:Nat):ieq (lenZ n) 0=decide (n=0):=by
 by_cases h:n=0
 ·subst h;rfl
 ·rw [decide_eq_false h,X0];simp only [lenZ];omega
theorem Q3m {w:List Q4}{t:Q1}{cs:List Q5}(h:Y5 w t cs=true):cs.length≤8∧∀ c∈cs,Q0u w t c.pat=true:=by
 simp only [Y5,Bool.and_eq_true,decide_eq_true_eq,List.all_eq_true] at h
 refine ⟨h.1,fun c hc=>?_⟩
 have:=h.2 c hc
 simp only [Q72,Bool.and_eq_true] at this
 exact this.1
def runC (w:List Q4)(t:Q1)(l:List Q5)(v:Q3):Int×List X3×Bool:=
 if (Y5 w t l&&Q29 w t v)=true then ((runR (runD v 0 l)).1,(runR (runD v 0 l)).2,true) else (-1,[],false)
theorem X12 {w:List Q4}(hw:WW w){t:Q1}(ht:t∈tys w)(l:List Q5)(v:Q3):Q23 NN w t l v=some (runC w t l v):=by
 unfold Q23 runC
 rw [Q3x hw ht l]
 simp only [U0]
 cases hc:Y5 w t l with
 | false=>simp
 | true=>
  simp only [Bool.not_true,U2,if_false,Bool.true_and]
  rw [Q8m hw ht v]
  simp only [U0]
  cases hv:Q29 w t v with
  | false=>simp
  | true=>
   simp only [Bool.not_true,U2,if_false,if_true]
   rw [Z1d hw ht (Q3m hc).2 (Q4g hv) (by omega)]
   rfl
theorem X61 {w:List Q4}{t:Q1}{l:List Q5}{v:Q3}(hc:Y5 w t l=true)(hv:Q29 w t v=true):runC w t l v=((runR (runD v 0 l)).1,(runR (runD v 0 l)).2,true):=by
 unfold runC
 rw [hc,hv];rfl
theorem W7f (o:Option (Nat×List X3)):(0≤(runR o).1)↔o.isSome=true:=by
 cases o with
 | none=>simp [runR]
 | some x=>simp [runR]
theorem Z4e {v:Q3} : ∀ {cs:List Q5} {k:Nat} {x:Nat×List X3},runD v k cs=some x→∃ i c b,cs[i]?=some c∧x.1=k+i∧V5 10 c.pat v=some b∧Q5i c.guard b=true∧x.2=Q9c b∧∀ (j:Nat) (c':Q5),j<i→cs[j]?=some c'→∀ b',V5 10 c'.pat v=some b'→Q5i c'.guard b'=false
 | [],_,_,h=>by cases h
 | c::cs,k,x,h=>by
  simp only [runD] at h
  cases hm:V5 10 c.pat v with
  | none=>
   rw [hm] at h
   obtain ⟨i,c1,b,h1,h2,h3,h4,h5,h6⟩:=Z4e h
   refine ⟨i+1,c1,b,by simpa using h1,by omega,h3,h4,h5,fun j c' hj hc' b' hb'=>?_⟩
   cases j with
   | zero=>simp only [List.getElem?_cons_zero,Option.some.injEq] at hc';subst hc';rw [hm] at hb';cases hb'
   | succ j=>exact h6 j c' (by omega) (by simpa using hc') b' hb'
  | some l=>
   rw [hm] at h
   simp only at h
   split at h
   ·rename_i hg
    cases h
    exact ⟨0,c,l,rfl,rfl,hm,hg,rfl,fun j c' hj=>by omega⟩
   ·rename_i hg
    obtain ⟨i,c1,b,h1,h2,h3,h4,h5,h6⟩:=Z4e h
    refine ⟨i+1,c1,b,by simpa using h1,by omega,h3,h4,h5,fun j c' hj hc' b' hb'=>?_⟩
    cases j with
    | zero=>simp only [List.getElem?_cons_zero,Option.some.injEq] at hc';subst hc';rw [hm] at hb';cases hb';simpa using hg
    | succ j=>exact h6 j c' (by omega) (by simpa using hc') b' hb'
theorem X4z {w:List Q4}{d x m:Nat}{t:Q1}(hm:400≤m):∀ (bs l r:List Q0),l.length≤m→Q57 w d x t l bs=some r→r.length≤m
 | [],l,r,h,e=>by simp only [Q57,Option.some.injEq] at e;subst e;exact h
 | b::bs,l,r,h,e=>by
  simp only [Q57] at e
  split at e
  ·cases e
  ·exact X4z hm bs _ r (by omega) e
theorem Q76 {w:List Q4}{d x m:Nat}{t:Q1}{l bs r:List Q0}(hm:400≤m)(h:l.length≤m)(e:Q0t w d x t l bs=some r):r.length≤m:=
 X4z hm bs _ r (by have:=Z69 w x t l;omega) e
theorem W34 {w:List Q4}{t:Q1} : ∀ (ps bef r:List Q0),sepP w t bef ps=some r→r.length≤400 * ps.length
 | [],_,r,e=>by simp only [sepP,Option.some.injEq] at e;subst e;simp
 | p::ps,bef,r,e=>by
  simp only [sepP] at e
  cases hm:Q0t w 10 11 t [p] bef with
  | none=>rw [hm] at e;simp at e
  | some m=>
   rw [hm] at e
   simp only [U0,U11] at e
   obtain ⟨r2,h2,rfl⟩:=e
   have h1:=Q76 (m:=400) (Nat.le_refl _) (by simp) hm
   have h3:=W34 ps (bef++[p]) r2 h2
   simp only [U5,U3]
   omega
theorem X0p {α:Type}{l:List α}{k:Nat}(h:k≤l.length):Q7x l (k:Int)=some (l.take k):=by
 unfold Q7x
 rw [if_pos ⟨by omega,by omega⟩]
 simp
theorem Z7p {w:List Q4}(hww:w∈Q0a)(hw:WW w)(he:WE w){t:Q1}(ht:t∈tys w){ps:List Q0}(hp:∀ p∈ps,Z7 w 10 t p∧cntP p≤130)(hl:ps.length≤1600) :
  Q0y NN ⟨w,dimP w⟩ t ps=some (optR (sepP w t [] ps)):=by
 suffices hs:Ret (Q0y NN ⟨w,dimP w⟩ t ps) (fun r=>r=optR (sepP w t [] ps)) by
  obtain ⟨a,e,rfl⟩:=hs
  exact e
 unfold Q0y
 refine Ret.ctl (Z1 ps (fun k s=>s.length≤400 * k∧sepP w t [] ps=(sepP w t (ps.take k) (ps.drop k)).map (s++·)) (fun r=>r=([],false)∧sepP w t [] ps=none) (fun s=>sepP w t [] ps=some s) ⟨by simp,by simp⟩ (fun k p s hp' hI=>?_) (fun s hI=>?_)) (fun r hr=>.some (by rw [hr.1,hr.2];rfl)) (fun s hs=>.some (by rw [hs];rfl))
 ·obtain ⟨hsl,hI⟩:=hI
  have hk:=(List.getElem?_eq_some_iff.1 hp').1
  have hpm:=hp p (U1 hp')
  rw [X0p (by omega)]
  simp only [U0]
  rw [Q8w hww hw he (d:=10) (x:=11) ht (by omega) (by omega) (fun b hb=>hp b (List.mem_of_mem_take hb)) (fun a ha=>by simp only [List.mem_singleton] at ha;rw [ha];exact Q5y 10 t p hpm.1) (by simp) (by simp only [NN];omega)]
  simp only [U0]
  rw [Z13 hp'] at hI
  simp only [sepP] at hI
  cases hm:Q0t w 10 11 t [p] (ps.take k) with
  | none=>
   rw [hm] at hI
   simp only [Option.bind_none,Option.map_none] at hI
   simp only [optR,Bool.not_false,if_true]
   exact .some ⟨rfl,hI⟩
  | some m=>
   rw [hm] at hI
   have hml:=Q76 (m:=400) (Nat.le_refl _) (by simp) hm
   simp only [optR,Bool.not_true,U2,if_false]
   rw [W5 (by simp only [Q7];omega)]
   refine .some ⟨by simp only [U5];omega,?_⟩
   rw [hI]
   simp only [U0,Option.map_map]
   rw [List.take_add_one,hp']
   simp only [Option.toList_some]
   congr 1
   funext z
   simp
 ·obtain ⟨_,hI⟩:=hI
  rw [List.drop_length,sepP] at hI
  simpa using hI
theorem Z1z {w:List Q4}(hww:w∈Q0a){t:Q1}(ht:t∈tys w){cs:List Q5}{i:Nat}(hi:i<cs.length):J3 NN w t cs (i:Int)=some (optR (Q53 w t cs i)):=by
 have hw:=ww hww
 have he:=we hww
 unfold J3 Q53
 rw [Q3x hw ht]
 simp only [U0]
 by_cases h:Y5 w t cs=true
 ·obtain ⟨h8,hc⟩:=Q5k h
  have hin:(decide ((0:Int)≤(i:Int))&&decide ((i:Int)≤wsub .i64 (lenZ cs.length) 1))=true:=by
   rw [Q0e,Q3z (by omega) (by omega)]
   simp only [Bool.and_eq_true,decide_eq_true_eq]
   omega
  have hci:cs[i]?=some (cs[i]'hi):=by simp
  generalize cs[i]'hi=c at hci
  obtain ⟨hv,hg,hcn⟩:=hc c (U1 hci)
  simp only [h,Bool.not_true,U2,if_false,if_true]
  rw [Q77,hin,hci]
  simp only [U0,Bool.not_true,U2,if_false]
  rw [Q1m hci]
  simp only [U0]
  rw [Z5g hw ht hg (by omega) (by simp only [NN];omega),X0p (by omega)]
  simp only [U0]
  have htk:∀ c∈cs.take i,Q18 w 10 t c.pat=true∧cntP c.pat≤60:=fun c m=>(hc c (List.mem_of_mem_take m)).2
  rw [Z5i hw ht (by simp only [NN];omega) (cs.take i) (fun c m=>⟨(htk c m).1,by have:=(htk c m).2;omega⟩) (by rw [U6];omega)]
  simp only [U0]
  cases hm:Q6t c.pat with
  | none=>simp [optR]
  | some mine=>
   have hpp:=Z4h hg hm
   have hpc:=Z79 hm
   have hpl:=(Q91 hm).1
   cases ha:Q2h (cs.take i) with
   | none=>simp [optR]
   | some away=>
    have hap:=Q6g (fun c m=>(htk c m).1) ha
    have hac:=Q94 (m:=60) (fun c m=>(htk c m).2) ha
    simp only [optR,Bool.not_true,U2,if_false,U0]
    rw [(wl hww).dim]
    simp only [U0]
    rw [Z7p hww hw he ht (fun p hp=>⟨hpp p hp,by have:=hpc p hp;omega⟩) (by omega)]
    simp only [U0]
    cases hs:sepP w t [] mine with
    | none=>
     simp only [optR,U2,if_false,U0,Option.bind_none]
     have:=Q9t hw (S:=dimP w) (n:=NN) (by simp only [NN];omega) ht none (fun l h=>by cases h)
     simp only [optR] at this
     rw [this]
     rfl
    | some out=>
     have hol:=W34 mine [] out hs
     have hop:=Z65 mine [] out (by simp) hpp hs
     simp only [optR,if_true,U0]
     rw [Q8w hww hw he (d:=10) (x:=11) ht (by omega) (by omega) (fun b hb=>⟨hap b hb,by have:=hac b hb;omega⟩) hop (by omega) (by simp only [NN];omega)]
     simp only [U0]
     rw [Q9t hw (by simp only [NN];omega) ht _ (fun r hr=>by have:=Q76 (m:=20000) (by omega) (by omega) hr;omega)]
     cases Q78 w t (Q0t w 10 11 t out away)<;>rfl
 ·simp [h,optR]
def Q6s (l:List Q5)(v:Q3)(i:Nat):Bool:=match runD v 0 l with
 | some x=>decide (x.1=i)
 | none=>false
def hitB (l:List Q5)(vs:List Q3)(i:Nat):Bool:=vs.any fun v=>Q6s l v i
def V2q (l:List Q5)(vs:List Q3):List Nat:=(List.range l.length).filter (hitB l vs)
def covD (w:List Q4)(t:Q1)(l:List Q5)(vs:List Q3):List Int:=
 if Y5 w t l=true∧vs.all (Q29 w t)=true then (V2q l vs).map (fun i:Nat=>(i:Int)) else []
theorem X1b {l:List Q5}{vs:List Q3}{k:Nat}{v:Q3}(h:vs[k]?=some v)(i:Nat):hitB l (vs.take (k+1)) i=(hitB l (vs.take k) i||Q6s l v i):=by
 unfold hitB
 rw [List.take_add_one,h]
 simp
theorem W1e {l:List Q5}{vs:List Q3}{k N:Nat}{v:Q3}(h:vs[k]?=some v){x:Nat×List X3}(hr:runD v 0 l=some x):((List.range N).map (hitB l (vs.take k))).set x.1 true=(List.range N).map (hitB l (vs.take (k+1))):=by
 apply List.ext_getElem?
 intro i
 rw [List.getElem?_set,List.getElem?_map,List.getElem?_map]
 by_cases hi:i<N
 ·rw [List.getElem?_range hi]
  simp only [Option.map_some,U7,List.length_range]
  by_cases hx:x.1=i
  ·rw [if_pos hx,if_pos (by omega),X1b h]
   simp [Q6s,hr,hx]
  ·rw [if_neg hx,X1b h]
   simp [Q6s,hr,hx]
 ·rw [List.getElem?_eq_none (by simpa using hi)]
  simp only [Option.map_none,U7,List.length_range]
  by_cases hx:x.1=i
  ·rw [if_pos hx,if_neg (by omega)]
  ·rw [if_neg hx]
theorem W1f {l:List Q5}{vs:List Q3}{k N:Nat}{v:Q3}(h:vs[k]?=some v)(hr:runD v 0 l=none):(List.range N).map (hitB l (vs.take k))=(List.range N).map (hitB l (vs.take (k+1))):=by
 refine List.map_congr_left fun i _=>?_
 rw [X1b h]
 simp [Q6s,hr]
theorem W3b {v:Q3}{l:List Q5}{x:Nat×List X3}(h:runD v 0 l=some x):x.1<l.length:=by
 obtain ⟨i,c,b,h1,h2,_⟩:=Z4e h
 have:=(List.getElem?_eq_some_iff.1 h1).1
 omega
theorem W3d {o:Option (Nat×List X3)}(h:0≤(runR o).1):∃ x,o=some x∧(runR o).1=(x.1:Int):=by
 cases o with
 | none=>simp [runR] at h
 | some x=>exact ⟨x,rfl,rfl⟩
theorem X4i (p:Nat→Bool)(N k:Nat)(hk:k<N):((List.range N).map p)[k]?=some (p k):=by
 rw [List.getElem?_map,List.getElem?_range hk];rfl
theorem Z20 {w:List Q4}(hww:w∈Q0a){t:Q1}(ht:t∈tys w)(l:List Q5)(vs:List Q3):Q0l NN w t l vs=some (covD w t l vs):=by
 have hw:=ww hww
 suffices hs:Ret (Q0l NN w t l vs) (fun r=>r=covD w t l vs) by
  obtain ⟨a,e,rfl⟩:=hs
  exact e
 unfold Q0l covD
 rw [Q3x hw ht]
 simp only [U0]
 by_cases hc:Y5 w t l=true
 ·obtain ⟨h8,hpv⟩:=Q3m hc
  simp only [hc,Bool.not_true,U2,if_false,true_and]
  refine Ret.ctl (Z1 vs (fun k s=>s=(List.range 8).map (hitB l (vs.take k))∧∀ v∈vs.take k,Q29 w t v=true) (fun r=>r=[]∧vs.all (Q29 w t)=false) (fun s=>s=(List.range 8).map (hitB l vs)∧vs.all (Q29 w t)=true) ⟨rfl,by simp⟩ (fun k v s hv hI=>?_) (fun s hI=>?_)) (fun r hr=>.some (by rw [if_neg (by rw [hr.2];simp)];exact hr.1)) (fun s hs=>?_)
  ·obtain ⟨hI,hall⟩:=hI
   have hlen:s.length=8:=by rw [hI];simp
   rw [Q8m hw ht v]
   simp only [U0]
   cases hvv:Q29 w t v with
   | false=>
    simp only [Bool.not_false,if_true,U0]
    refine .some ⟨rfl,?_⟩
    rw [List.all_eq_false]
    exact ⟨v,U1 hv,by rw [hvv];simp⟩
   | true=>
    simp only [Bool.not_true,U2,if_false]
    rw [Z1d hw ht hpv (Q4g hvv) (Nat.le_refl _)]
    simp only [U0]
    have hall':∀ u∈vs.take (k+1),Q29 w t u=true:=fun u hu=>by
     rw [List.take_add_one,hv] at hu
     rcases List.mem_append.1 hu with hu | hu
     ·exact hall u hu
     ·simp only [Option.toList_some,List.mem_singleton] at hu;rw [hu];exact hvv
    by_cases h0:0≤(runR (runD v 0 l)).1
    ·rw [if_pos (by rw [J1];exact h0)]
     obtain ⟨x,hx,hx2⟩:=W3d h0
     have hxl:=W3b hx
     rw [hx2]
     have hset:aset 8 s (x.1:Int) true=some (s.set x.1 true):=by
      unfold aset setI
      rw [if_pos hlen,if_pos ⟨by omega,by simp only [Int.toNat_natCast];omega⟩]
      simp
     rw [hset]
     refine .some ⟨?_,hall'⟩
     rw [hI,W1e hv hx]
    ·rw [if_neg (by rw [J1];exact h0)]
     refine .some ⟨?_,hall'⟩
     rw [hI]
     refine W1f hv ?_
     cases hr:runD v 0 l with
     | none=>rfl
     | some x=>exact absurd ((W7f _).2 (by rw [hr];rfl)) h0
  ·rw [List.take_length] at hI
   exact ⟨hI.1,List.all_eq_true.2 hI.2⟩
  ·obtain ⟨hs1,hs2⟩:=hs
   rw [if_pos hs2]
   have hlen:s.length=8:=by rw [hs1];simp
   dsimp only
   rw [X0h (by simp [hlen])]
   simp only [U0]
   refine Ret.ctl (Q4f (fun u:List Int×Int=>∃ k:Nat,k≤8∧u=(((List.range k).filter (hitB l vs)).map (fun i:Nat=>(i:Int)),(k:Int))) (fun u=>(8-u.2).toNat) (fun _=>False) (fun u=>u.1=((List.range 8).filter (hitB l vs)).map (fun i:Nat=>(i:Int))) ⟨0,by omega,rfl⟩ (fun u hI=>?_) NN (by show (8-((0:Nat):Int)).toNat<30000000;omega)) (fun r hr=>hr.elim) (fun u hu=>.some ?_)
   ·obtain ⟨k,hk,rfl⟩:=hI
    dsimp only
    by_cases h8':k<8
    ·rw [if_pos (by rw [Z9];omega)]
     have hget:aget 8 s (k:Int)=some (hitB l vs k):=by
      unfold aget
      rw [if_pos hlen,Q1m]
      rw [hs1,X4i _ _ _ h8']
     rw [hget,Q10 (by omega) (by omega)]
     simp only [U0]
     have hfl:(((List.range k).filter (hitB l vs)).map (fun i:Nat=>(i:Int))).length≤8:=by
      rw [U7]
      have:=List.length_filter_le (hitB l vs) (List.range k)
      rw [List.length_range] at this
      omega
     cases hh:hitB l vs k with
     | true=>
      simp only [if_true]
      rw [W5 (by simp only [U3,U4,Q7];omega)]
      refine .some ⟨⟨k+1,by omega,?_⟩,by simp only;omega⟩
      rw [List.range_succ,List.filter_append,List.map_append]
      simp [hh]
     | false=>
      simp only [U2,if_false,U0]
      refine .some ⟨⟨k+1,by omega,?_⟩,by simp only;omega⟩
      rw [List.range_succ,List.filter_append,List.map_append]
      simp [hh]
    ·rw [if_neg (by rw [Z9];omega)]
     exact .some (by simp only [Z67];rw [show k=8 by omega])
   ·rw [hu]
    unfold V2q
    have hno:∀ i,l.length≤i→hitB l vs i=false:=fun i hi=>by
     unfold hitB
     rw [List.any_eq_false]
     intro v _
     unfold Q6s
     cases hr:runD v 0 l with
     | none=>simp
     | some x=>
      have:=W3b hr
      simp only [decide_eq_true_eq]
      omega
    obtain ⟨e,he⟩:∃ e,8=l.length+e:=⟨8-l.length,by omega⟩
    rw [he,List.range_add,List.filter_append]
    have:(List.map (fun x=>l.length+x) (List.range e)).filter (hitB l vs)=[]:=by
     rw [List.filter_eq_nil_iff]
     intro a ha
     obtain ⟨x,_,rfl⟩:=U10.1 ha
     rw [hno _ (by omega)]
     simp
    rw [this,List.append_nil]
 ·simp only [hc,Bool.not_false,if_true,false_and,if_false]
  exact .some rfl
theorem W40 {w:List Q4}{t:Q1}{l:List Q5}{vs:List Q3}{k:Nat} : (k:Int)∈covD w t l vs↔(Y5 w t l=true∧vs.all (Q29 w t)=true)∧∃ v∈vs,∃ b,runD v 0 l=some (k,b):=by
 unfold covD
 by_cases h:Y5 w t l=true∧vs.all (Q29 w t)=true
 ·rw [if_pos h]
  simp only [U10,V2q,List.mem_filter,List.mem_range,h,true_and,and_self]
  constructor
  ·rintro ⟨i,⟨_,hi⟩,he⟩
   have:i=k:=by omega
   subst this
   obtain ⟨v,hv,hr⟩:=List.any_eq_true.1 hi
   unfold Q6s at hr
   cases hd:runD v 0 l with
   | none=>rw [hd] at hr;cases hr
   | some x=>
    rw [hd] at hr
    simp only [decide_eq_true_eq] at hr
    subst hr
    exact ⟨v,hv,x.2,hd⟩
  ·rintro ⟨v,hv,b,hr⟩
   exact ⟨k,⟨W3b hr,List.any_eq_true.2 ⟨v,hv,by simp [Q6s,hr]⟩⟩,rfl⟩
 ·rw [if_neg h]
  exact ⟨fun e=>by simp at e,fun e=>absurd e.1 h⟩
theorem X3v {w:List Q4}{x:Nat}{t:Q1}{l:List Q0}{y:Q0}(h:y∈Q6z w x t l):W1 w x t y=false:=by
 have:=(List.mem_filter.1 h).2
 simpa using this
theorem X51 {w:List Q4}{d x:Nat}{t:Q1} : ∀ (bs l r:List Q0),(∀ a∈l,W1 w x t a=false)→Q57 w d x t l bs=some r→∀ y∈r,W1 w x t y=false
 | [],l,r,h,e=>by simp only [Q57,Option.some.injEq] at e;subst e;exact h
 | b::bs,l,r,h,e=>by
  simp only [Q57] at e
  split at e
  ·cases e
  ·exact X51 bs _ r (fun a ha=>X3v ha) e
theorem Z53 {w:List Q4}{d x:Nat}{t:Q1}{l bs r:List Q0}(e:Q0t w d x t l bs=some r):∀ y∈r,W1 w x t y=false:=
 X51 bs _ r (fun a ha=>X3v ha) e
def X3u (w:List Q4)(t:Q1):Q3:=(Q5e 60 w (dimP w) t).getD (Q3.mk 0 0 [])
def Z25 (w:List Q4):Nat→Q1→Q0→Q3
 | 0,_,_=>Q3.mk 0 0 []
 | d+1,t,p=>if p.op=1 then X3u w t else if p.op=3 then Q3.mk (-1) p.n [] else Q3.mk p.ctor 0 (((Z6 w t p.ctor).zip p.kids).map fun x=>Z25 w d x.1 x.2)
def Z5r (w:List Q4)(t:Q1)(p:Q0):Option Q3:=if Q29 w t (Z25 w 11 t p)=true then some (Z25 w 11 t p) else none
def valR:Option Q3→Q3×Bool
 | some v=>(v,true)
 | none=>(Q3.mk 0 0 [],false)
def csL (w:List Q4)(t:Q1)(cs:List Q5)(i:Nat):List Q0→Option Q3
 | []=>none
 | p::r=>match Z5r w t p with
  | none=>csL w t cs i r
  | some v=>if Q6s cs v i=true then some v else csL w t cs i r
def csD (w:List Q4)(t:Q1)(cs:List Q5)(i:Nat):Option Q3:=(Q53 w t cs i).bind (csL w t cs i)
theorem Q90 {w:List Q4}{t:Q1}{p:Q0}{v:Q3}(h:Z5r w t p=some v):Q29 w t v=true:=by
 unfold Z5r at h
 split at h
 ·rename_i hv
  cases h
  exact hv
 ·cases h
theorem X1p {w:List Q4}{t:Q1}{cs:List Q5}{i:Nat}{v:Q3} : ∀ {r:List Q0},csL w t cs i r=some v→Q29 w t v=true∧Q6s cs v i=true∧r≠[]
 | [],h=>by cases h
 | p::r,h=>by
  simp only [csL] at h
  split at h
  ·obtain ⟨h1,h2,_⟩:=X1p h
   exact ⟨h1,h2,by simp⟩
  ·rename_i v' hv
   split at h
   ·rename_i hr
    cases h
    exact ⟨Q90 hv,hr,by simp⟩
   ·obtain ⟨h1,h2,_⟩:=X1p h
    exact ⟨h1,h2,by simp⟩
theorem X60 {cs:List Q5}{v:Q3}{i:Nat}(h:Q6s cs v i=true):∃ b,runD v 0 cs=some (i,b):=by
 unfold Q6s at h
 split at h
 ·rename_i x hx
  simp only [decide_eq_true_eq] at h
  subst h
  exact ⟨x.2,hx⟩
 ·cases h
theorem Z40 {w:List Q4}{t:Q1}{cs:List Q5}{i:Nat}{v:Q3}(h:csD w t cs i=some v):Q29 w t v=true∧(∃ b,runD v 0 cs=some (i,b))∧∃ r,Q53 w t cs i=some r∧r≠[]:=by
 unfold csD at h
 obtain ⟨r,hr,h⟩:=Option.bind_eq_some_iff.1 h
 obtain ⟨h1,h2,h3⟩:=X1p h
 exact ⟨h1,X60 h2,r,hr,h3⟩
def tvL (w:List Q4)(t:Q1)(cs:List Q5)(k:Nat):List Q3:=(List.range k).filterMap (csD w t cs)
def mvD (w:List Q4)(t:Q1)(cs:List Q5):Option Q3:=(X0z w t cs).bind fun r=>match r with
 | []=>none
 | p::_=>Z5r w t p
def mvL (w:List Q4)(t:Q1)(cs:List Q5):List Q3:=match mvD w t cs with
 | some v=>if (runD v 0 cs).isSome=true then [] else [v]
 | none=>[]
def tvD (w:List Q4)(t:Q1)(cs:List Q5):List Q3:=tvL w t cs cs.length++mvL w t cs
theorem Z64 (w:List Q4)(t:Q1)(cs:List Q5)(k:Nat):tvL w t cs (k+1)=tvL w t cs k++(csD w t cs k).toList:=by
 unfold tvL
 rw [List.range_succ,List.filterMap_append]
 cases h:csD w t cs k<;>simp [h]
theorem Z6n (w:List Q4)(t:Q1)(cs:List Q5)(k:Nat):(tvL w t cs k).length≤k:=by
 have:=List.length_filterMap_le (csD w t cs) (List.range k)
 rwa [List.length_range] at this
theorem X67 (w:List Q4)(t:Q1)(cs:List Q5):mvL w t cs=[]∨∃ v,mvL w t cs=[v]∧Q29 w t v=true∧runD v 0 cs=none:=by
 unfold mvL
 split
 ·rename_i v hv
  split
  ·exact .inl rfl
  ·rename_i hr
   refine .inr ⟨v,rfl,?_,by simpa using hr⟩
   unfold mvD at hv
   obtain ⟨r,_,hv⟩:=Option.bind_eq_some_iff.1 hv
   split at hv
   ·cases hv
   ·exact Q90 hv
 ·exact .inl rfl
theorem W2q (w:List Q4)(t:Q1)(cs:List Q5):(tvD w t cs).length≤cs.length+1:=by
 unfold tvD
 rw [U5]
 have h1:=Z6n w t cs cs.length
 rcases X67 w t cs with h | ⟨v,h,_⟩<;>rw [h]<;>simp only [U4,U3]<;>omega
theorem Z2q {w:List Q4}{t:Q1}{cs:List Q5}{v:Q3}(h:v∈tvD w t cs):Q29 w t v=true:=by
 rcases List.mem_append.1 h with h | h
 ·obtain ⟨i,_,hi⟩:=List.mem_filterMap.1 h
  exact (Z40 hi).1
 ·rcases X67 w t cs with h1 | ⟨u,h1,h2,_⟩
  ·rw [h1] at h;cases h
  ·rw [h1] at h
   simp only [List.mem_singleton] at h
   rw [h];exact h2
theorem X5v:∀ (n:Nat) (p:Q3) (most:Nat),most<n→most≤1000→Q3s n p (most:Int)=some ((min (cntV p) (most+1):Nat):Int):=by
 intro n
 induction n with
 | zero=>intro p most h;omega
 | succ n ih=>
  intro p most hn hm
  unfold Q3s
  have key:=Z1 (ρ:=Int) (f:=fun k94 x95 (s88:Int)=>
   (if (ile s88 (most:Int))=true then
   ((Q3s n x95 (wsub .i64 (most:Int) s88)).bind fun r103=>
   some (Ctl.go (wadd .i64 s88 r103)))
   else
   some (Ctl.brk s88))) p.kids (s0:=1) (fun k s=>∃ m:Nat,s=(m:Int)∧m=min (1+cntV.cntVs (p.kids.take k)) (most+1)) (fun _=>False) (fun s=>s=((min (cntV p) (most+1):Nat):Int)) ⟨1,rfl,by simp [cntV.cntVs]⟩ (fun k q s hq hI=>?_) (fun s hI=>?_)
  ·have:=Ret.ctl (Q:=fun b=>b=((min (cntV p) (most+1):Nat):Int)) key (g:=fun (o:Ctl Int Int)=>match o with
    | .ret r=>some r
    | .go _=>none
    | .brk s=>some s) (fun r hr=>hr.elim) (fun s hs=>.some hs)
   obtain ⟨b,e,rfl⟩:=this
   exact e
  ·obtain ⟨m,rfl,hm2⟩:=hI
   refine Ret.ite (fun h=>?_) (fun h=>?_)
   ·rw [J1] at h
    have hle:m≤most:=by omega
    have hws:wsub .i64 (most:Int) (m:Int)=((most-m:Nat):Int):=by rw [Q3z (by omega) (by omega)];omega
    rw [hws,ih q (most-m) (by omega) (by omega)]
    simp only [U0]
    rw [Q10 (by omega) (by omega)]
    refine .some ⟨m+min (cntV q) (most-m+1),by push_cast;rfl,?_⟩
    rw [Z1g p.kids k q hq]
    omega
   ·rw [Q1z] at h
    refine .some ?_
    have h1:=Z02 p.kids k
    have h2:=Z4w p
    show (m:Int)=_
    have:m=min (cntV p) (most+1):=by omega
    rw [this]
  ·obtain ⟨m,rfl,hm2⟩:=hI
   rw [List.take_length] at hm2
   have h2:=Z4w p
   have:m=min (cntV p) (most+1):=by omega
   rw [this]
theorem X4x:∀ (d n:Nat) (v:Q3),Z3z d v→d≤n→Q4l n v=some v:=by
 intro d
 induction d with
 | zero=>intro n v h;exact h.elim
 | succ d ih=>
  intro n v h hn
  obtain ⟨n,rfl⟩:∃ k,n=k+1:=⟨n-1,by omega⟩
  obtain ⟨h1,h2⟩:=h
  have hr:Ret (Q4l (n+1) v) (fun r=>r=v):=by
   unfold Q4l
   refine Ret.ctl (Z1 v.kids (fun k s=>s=v.kids.take k) (fun _=>False) (fun s=>s=v.kids) (by simp) (fun k q s hq hI=>?_) (fun s hI=>?_)) (fun r hr=>hr.elim) (fun s hs=>.some (Q3.ext' rfl rfl hs))
   ·rw [ih n q (h2 q (U1 hq)) (by omega)]
    simp only [U0]
    rw [W5 (by simp only [Q7,U3,U4];rw [hI,U6];omega)]
    exact .some (by rw [hI,List.take_add_one,hq];rfl)
   ·rw [hI,List.take_length]
  obtain ⟨r,e,rfl⟩:=hr
  exact e
theorem X5t {w:List Q4}(hw:WW w):∀ (d n:Nat) (t:Q1) (v:Q3),t∈tys w→d+1≤n→d≤100→Q3f n w t v (d:Int)=some (Q30 w d t v):=by
 intro d
 induction d with
 | zero=>
  intro n t v ht hn hd
  obtain ⟨m,rfl⟩:∃ m,n=m+1:=⟨n-1,by omega⟩
  unfold Q3f
  rw [if_pos (by rw [Z9];omega)]
  rfl
 | succ d ih=>
  intro n t v ht hn hd
  obtain ⟨m,rfl⟩:∃ m,n=m+1:=⟨n-1,by omega⟩
  have hT:=hw.ty t ht
  suffices hs:Ret (Q3f (m+1) w t v ((d+1:Nat):Int)) (fun r=>r=Q30 w (d+1) t v) by
   obtain ⟨a,e,rfl⟩:=hs
   exact e
  unfold Q3f
  rw [if_neg (by rw [Z9];omega)]
  have hws:wsub .i64 ((d+1:Nat):Int) 1=(d:Int):=by rw [Q3z]<;>omega
  rw [hws]
  refine Ret.ite (fun hi=>?_) (fun hi=>?_)
  ·rw [X2] at hi
   have hg:Q30 w (d+1) t v=(decide (v.ctor = -1)&&(decide (0≤v.n)&&(decide (v.n≤9)&&decide (v.kids.length=0)))):=by rw [Q30,if_pos hi]
   rw [hg]
   refine Ret.ite (fun h1=>?_) (fun h1=>.some ?_)
   ·rw [X2] at h1
    refine Ret.ite (fun h2=>?_) (fun h2=>.some ?_)
    ·rw [J1] at h2
     refine Ret.ite (fun h3=>.some ?_) (fun h3=>.some ?_)
     ·rw [J1] at h3
      simp only [h1,h2,h3,decide_true,Bool.true_and]
      exact len0 _
     ·rw [Q1z] at h3
      simp [show ¬v.n≤9 by omega]
    ·rw [Q1z] at h2
     simp [show ¬0≤v.n by omega]
   ·rw [X0] at h1
    simp [h1]
  ·rw [X0] at hi
   have hg:Q30 w (d+1) t v=(decide (v.n=0)&&(decide (v.ctor∈X1 w t)&&(decide (v.kids.length=(Z6 w t v.ctor).length)&&((Z6 w t v.ctor).zip v.kids).all fun x=>Q30 w d x.1 x.2))):=by rw [Q30,if_neg hi]
   rw [hg]
   refine Ret.ite (fun h1=>.some ?_) (fun h1=>?_)
   ·rw [Bool.not_eq_true',X0] at h1
    simp [h1]
   rw [Bool.not_eq_false',X2] at h1
   rw [hT.c1]
   simp only [U0]
   rw [V14]
   simp only [U0]
   refine Ret.ite (fun h2=>.some ?_) (fun h2=>?_)
   ·rw [Bool.not_eq_true',decide_eq_false_iff_not] at h2
    simp [h2]
   rw [Bool.not_eq_false',decide_eq_true_eq] at h2
   rw [hT.a1 _ h2]
   simp only [U0]
   refine Ret.ite (fun hl=>.some ?_) (fun hl=>?_)
   ·rw [Bool.not_eq_true',X0] at hl
    simp only [lenZ] at hl
    have:¬v.kids.length=(Z6 w t v.ctor).length:=by omega
    simp [this]
   rw [Bool.not_eq_false',X2] at hl
   simp only [lenZ] at hl
   have hl2:v.kids.length=(Z6 w t v.ctor).length:=by omega
   simp only [h1,h2,hl2,decide_true,Bool.true_and]
   refine Ret.ctl (Z1 (Z6 w t v.ctor) (fun k _=>∀ (j:Nat) (a:Q1) (x:Q3),j<k→(Z6 w t v.ctor)[j]?=some a→v.kids[j]?=some x→Q30 w d a x=true) (fun b=>b=false∧(((Z6 w t v.ctor).zip v.kids).all fun x=>Q30 w d x.1 x.2)=false) (fun _=>(((Z6 w t v.ctor).zip v.kids).all fun x=>Q30 w d x.1 x.2)=true) (fun j a x hj=>by omega) (fun k a s ha hI=>?_) (fun s hI=>?_)) (fun r hr=>.some (by rw [hr.1,hr.2])) (fun s hs=>.some hs.symm)
   ·have hlt:k<v.kids.length:=by have:=(List.getElem?_eq_some_iff.1 ha).1;omega
    have hq:v.kids[k]?=some v.kids[k]:=by simp [hlt]
    rw [Q1m hq]
    simp only [U0]
    rw [ih m a v.kids[k] (hT.at_ _ h2 a (U1 ha)) (by omega) (by omega)]
    simp only [U0]
    cases hgk:Q30 w d a v.kids[k] with
    | false=>
     refine .some ⟨rfl,?_⟩
     rw [List.all_eq_false]
     exact ⟨(a,v.kids[k]),U1 (Q9b ha hq),by simp [hgk]⟩
    | true=>
     refine .some (fun j a' q' hj ha' hq'=>?_)
     by_cases hjk:j=k
     ·subst hjk
      rw [ha] at ha'
      rw [hq] at hq'
      cases ha'
      cases hq'
      exact hgk
     ·exact hI j a' q' (by omega) ha' hq'
   ·rw [List.all_eq_true]
    intro x hx
    obtain ⟨j,hj⟩:=List.mem_iff_getElem?.1 hx
    obtain ⟨h3,h4⟩:=List.getElem?_zip_eq_some.1 hj
    exact hI j x.1 x.2 ((List.getElem?_eq_some_iff.1 h3).1) h3 h4
theorem X2q {w:List Q4}(hw:WW w){t:Q1}(ht:t∈tys w)(v:Q3):Q85 NN w t v=some (Q29 w t v):=by
 unfold Q85 Q29
 rw [show (10:Int)=((10:Nat):Int) from rfl,X5t hw 10 NN t v ht (by decide) (by omega)]
 simp only [U0]
 cases Q30 w 10 t v with
 | false=>rfl
 | true=>
  simp only [if_true,Bool.true_and]
  rw [show (60:Int)=((60:Nat):Int) from rfl,X5v NN v 60 (by decide) (by omega)]
  simp only [U0]
  congr 1
  by_cases h:cntV v≤60
  ·rw [decide_eq_true h,J1];omega
  ·rw [decide_eq_false h,Q1z];omega
theorem X2x (g:Q34)(l:List X3):Q2p g l=some (Q5i g l):=by
 suffices hs:Ret (Q2p g l) (fun r=>r=Q5i g l) by
  obtain ⟨a,e,rfl⟩:=hs
  exact e
 unfold Q2p
 refine Ret.ite (fun h0=>.some ?_) (fun h0=>?_)
 ·rw [X2] at h0
  simp [Q5i,h0]
 rw [X0] at h0
 have hG:Q5i g l=match l.find? fun b=>decide (b.var=g.var) with
   | none=>false
   | some b=>ieq b.value.ctor (-1)&&((ieq g.op 1&&ilt b.value.n g.n)||(ieq g.op 2&&ieq b.value.n g.n)):=by
  unfold Q5i
  rw [decide_eq_false h0,Bool.false_or]
  rfl
 refine Ret.ctl (Z1 l (fun k _=>l.find? (fun b=>decide (b.var=g.var))=(l.drop k).find? (fun b=>decide (b.var=g.var))) (fun r=>r=Q5i g l) (fun _=>Q5i g l=false) rfl (fun k x s hx hI=>?_) (fun s hI=>?_)) (fun r hr=>.some hr) (fun s hs=>.some hs.symm)
 ·rw [Z13 hx,List.find?_cons] at hI
  by_cases hv:x.var=g.var
  ·have e:(!ieq x.var g.var)=false:=by simp [ieq,hv]
   simp only [e,U2,if_false]
   rw [decide_eq_true hv] at hI
   simp only at hI
   rw [hI] at hG
   simp only at hG
   rw [hG]
   generalize ieq x.value.ctor (-1)=b1
   generalize ieq g.op 1=b2
   generalize ilt x.value.n g.n=b3
   generalize ieq g.op 2=b4
   generalize ieq x.value.n g.n=b5
   cases b1<;>cases b2<;>cases b3<;>cases b4<;>cases b5<;>exact .some rfl
  ·have e:(!ieq x.var g.var)=true:=by simp [ieq,hv]
   simp only [e,if_true,U0]
   rw [decide_eq_false hv] at hI
   exact .some hI
 ·rw [List.drop_length] at hI
  rw [hG,hI]
  rfl
def W9h:Nat→Q3→Q3→Bool
 | 0,_,_=>false
 | d+1,a,b=>decide (a.ctor=b.ctor)&&decide (a.n=b.n)&&decide (a.kids.length=b.kids.length)&&(a.kids.zip b.kids).all fun x=>W9h d x.1 x.2
theorem X9f:∀ (d:Nat) (a b:Q3),W9h d a b=true→a=b
 | 0,_,_,h=>by cases h
 | d+1,⟨c,n,ks⟩,⟨c',n',ks'⟩,h=>by
  simp only [W9h,Bool.and_eq_true,decide_eq_true_eq,List.all_eq_true] at h
  obtain ⟨⟨⟨h1,h2⟩,h3⟩,h4⟩:=h
  subst h1;subst h2
  have:ks=ks':=List.ext_getElem h3 fun i hi hi'=>X9f d _ _ (h4 (ks[i],ks'[i]) (List.mem_iff_getElem.2 ⟨i,by simp only [List.length_zip];omega,by simp⟩))
  rw [this]
def eqO:Option Q3→Option Q3→Bool
 | some a,some b=>W9h 20 a b
 | _,_=>false
theorem V18:∀ {a b:Option Q3},eqO a b=true→a=b
 | some a,some b,h=>by rw [X9f 20 a b h]
 | none,none,h=>rfl
 | some _,none,h=>by cases h
 | none,some _,h=>by cases h
def V8z (m:Nat)(w:List Q4):Bool:=(tys w).all fun t=>decide (depP w t=0)||(eqO (Q5e (m+60) w (dimP w) t) (some (X3u w t))&&eqO (Q50 (m+60) w (tabP w) t) (some (X3u w t)))
theorem V3a (m:Nat):Q0a.all (V8z m)=true:=by kernel_rfl
theorem X8k {w:List Q4}(hww:w∈Q0a){t:Q1}(ht:t∈tys w)(h:depP w t≠0){n:Nat}(hn:60≤n):Q5e n w (dimP w) t=some (X3u w t)∧Q50 n w (tabP w) t=some (X3u w t):=by
 obtain ⟨m,rfl⟩:∃ m,n=m+60:=⟨n-60,by omega⟩
 have h1:=List.all_eq_true.1 (V3a m) w hww
 have h2:=List.all_eq_true.1 h1 t ht
 simp only [Bool.or_eq_true,decide_eq_true_eq,Bool.and_eq_true] at h2
 rcases h2 with h2 | h2
 ·exact absurd h2 h
 ·exact ⟨V18 h2.1,V18 h2.2⟩
theorem X7v {ρ:Type}{F:Nat→Q1→List Q3→Option (Ctl ρ (List Q3))}(g:Q1→Q0→Q3){ts:List Q1}{ks:List Q0}(hl:ks.length=ts.length)(h3:ts.length≤100)
  (hF:∀ k u q s,ts[k]?=some u→ks[k]?=some q→s.length≤100→F k u s=some (.go (s++[g u q]))):forL F 0 ts []=some (.brk ((ts.zip ks).map fun x=>g x.1 x.2)):=by
 have h:Ret (forL F 0 ts []) (CtlQ (fun _=>False) fun s=>s=(ts.zip ks).map fun x=>g x.1 x.2):=by
  refine Z1 ts (fun k s=>s=((ts.zip ks).take k).map fun x=>g x.1 x.2) (fun _=>False) (fun s=>s=(ts.zip ks).map fun x=>g x.1 x.2) (by simp) (fun k u s hu hI=>?_) (fun s hI=>?_)
  ·have hk:=(List.getElem?_eq_some_iff.1 hu).1
   obtain ⟨q,hq⟩:=Q0z hl hk
   have hz:(ts.zip ks)[k]?=some (u,q):=List.getElem?_zip_eq_some.2 ⟨hu,hq⟩
   rw [hF k u q s hu hq (by rw [hI,U7,U6];omega)]
   refine .some ?_
   simp only [Q2r]
   rw [hI,List.take_add_one,hz]
   simp
  ·rw [hI,List.take_of_length_le (by rw [List.length_zip];omega)]
 obtain ⟨o,ho,hq⟩:=h
 cases o with
 | ret r=>exact hq.elim
 | go s=>exact hq.elim
 | brk s=>rw [ho];simp only [Z01] at hq;rw [hq]
theorem Q9k {w:List Q4}{d:Nat}{t:Q1}{c:Int}{ks:List Q0}(h:W1 w (d+1) t (Q0.mk 4 c 0 0 0 ks)=false){j:Nat}{a:Q1}{q:Q0}(ha:(Z6 w t c)[j]?=some a)(hq:ks[j]?=some q):W1 w d a q=false:=by
 cases he:W1 w d a q with
 | false=>rfl
 | true=>rw [Q4b.2 ⟨j,a,q,ha,hq,he⟩] at h;cases h
theorem Z3l {w:List Q4}(hww:w∈Q0a)(hw:WW w):∀ (d n:Nat) (t:Q1) (p:Q0),t∈tys w→Z7 w d t p→W1 w d t p=false→d+70≤n→V1 n ⟨w,dimP w⟩ t p=some (Z25 w d t p)
 | 0,_,_,_,_,h,_,_=>h.elim
 | d+1,n,t,p,ht,hp,hem,hn=>by
  obtain ⟨n,rfl⟩:∃ m,n=m+1:=⟨n-1,by omega⟩
  have i11:ieq 1 1=true:=rfl
  have i31:ieq 3 1=false:=rfl
  have i32:ieq 3 2=false:=rfl
  have i33:ieq 3 3=true:=rfl
  have i41:ieq 4 1=false:=rfl
  have i42:ieq 4 2=false:=rfl
  have i43:ieq 4 3=false:=rfl
  have i45:ieq 4 5=false:=rfl
  have i46:ieq 4 6=false:=rfl
  have e31:¬(3:Int)=1:=by decide
  have e41:¬(4:Int)=1:=by decide
  have e43:¬(4:Int)=3:=by decide
  rcases hp with rfl | ⟨n1,m1,rfl,hd,_⟩ | ⟨c,ks,rfl,hd,hc,hl,hk⟩
  ·have h0:depP w t≠0:=by simpa [W1] using hem
   simp only [V1,i11,if_true,U0]
   rw [(X8k hww ht h0 (by omega)).1]
   simp [Z25]
  ·simp [V1,i31,i32,i33,Q4p,Z25,e31]
  ·simp only [V1,i41,i42,i43,i45,i46,U2,if_false,U0]
   rw [(hw.ty t ht).a2 c hc]
   simp only [U0]
   rw [X7v (fun u q=>Z25 w d u q) hl (by have:=(hw.ty t ht).al c hc;omega) (fun k u q s hu hq hs=>by
    simp only [Q1m hq,U0]
    rw [Z3l hww hw d n u q ((hw.ty t ht).at_ _ hc u (U1 hu)) (hk k u q hu hq) (Q9k hem hu hq) (by omega)]
    simp only [U0]
    rw [W5 (by simp only [U3,U4,Q7];omega)]
    rfl)]
   simp [Z25,e41,e43]
theorem Z2z {w:List Q4}(hww:w∈Q0a)(hw:WW w):∀ (d n:Nat) (t:Q1) (p:Q0),t∈tys w→Z7 w d t p→W1 w d t p=false→d+70≤n→Q0i n w (tabP w) t p=some (Z25 w d t p)
 | 0,_,_,_,_,h,_,_=>h.elim
 | d+1,n,t,p,ht,hp,hem,hn=>by
  obtain ⟨n,rfl⟩:∃ m,n=m+1:=⟨n-1,by omega⟩
  have i11:ieq 1 1=true:=rfl
  have i31:ieq 3 1=false:=rfl
  have i32:ieq 3 2=false:=rfl
  have i33:ieq 3 3=true:=rfl
  have i41:ieq 4 1=false:=rfl
  have i42:ieq 4 2=false:=rfl
  have i43:ieq 4 3=false:=rfl
  have i45:ieq 4 5=false:=rfl
  have i46:ieq 4 6=false:=rfl
  have e31:¬(3:Int)=1:=by decide
  have e41:¬(4:Int)=1:=by decide
  have e43:¬(4:Int)=3:=by decide
  rcases hp with rfl | ⟨n1,m1,rfl,hd,_⟩ | ⟨c,ks,rfl,hd,hc,hl,hk⟩
  ·have h0:depP w t≠0:=by simpa [W1] using hem
   simp only [Q0i,i11,if_true,U0]
   rw [(X8k hww ht h0 (by omega)).2]
   simp [Z25]
  ·simp [Q0i,i31,i32,i33,Z25,e31]
  ·simp only [Q0i,i41,i42,i43,i45,i46,U2,if_false,U0]
   rw [(hw.ty t ht).a1 c hc]
   simp only [U0]
   rw [X7v (fun u q=>Z25 w d u q) hl (by have:=(hw.ty t ht).al c hc;omega) (fun k u q s hu hq hs=>by
    simp only [Q1m hq,U0]
    rw [Z2z hww hw d n u q ((hw.ty t ht).at_ _ hc u (U1 hu)) (hk k u q hu hq) (Q9k hem hu hq) (by omega)]
    simp only [U0]
    rw [W5 (by simp only [U3,U4,Q7];omega)]
    rfl)]
   simp [Z25,e41,e43]
theorem X10 {w:List Q4}{ρ:Type}{F:Nat→Q1→Unit→Option (Ctl ρ Unit)}{ts:List Q1}(hF:∀ k u,ts[k]?=some u→F k u ()=some (.go ())):forL F 0 ts ()=some (.brk ()):=by
 have h:Ret (forL F 0 ts ()) (CtlQ (fun _=>False) fun _=>True):=Z1 ts (fun _ _=>True) (fun _=>False) (fun _=>True) trivial (fun k u s hu _=>by
  rw [hF k u hu]
  exact .some trivial) (fun _ _=>trivial)
 obtain ⟨o,ho,hq⟩:=h
 cases o with
 | ret r=>exact hq.elim
 | go s=>exact hq.elim
 | brk s=>exact ho
theorem Z7r {w:List Q4}(hww:w∈Q0a)(hw:WW w):∀ (d n:Nat) (t:Q1) (p:Q0),t∈tys w→Z7 w d t p→d+1≤n→J7 n ⟨w,dimP w⟩ t p=some false
 | 0,_,_,_,_,h,_=>h.elim
 | d+1,n,t,p,ht,hp,hn=>by
  obtain ⟨n,rfl⟩:∃ m,n=m+1:=⟨n-1,by omega⟩
  have hkt:=Z3k hw ht hp
  have i11:ieq 1 1=true:=rfl
  have i31:ieq 3 1=false:=rfl
  have i32:ieq 3 2=false:=rfl
  have i41:ieq 4 1=false:=rfl
  have i42:ieq 4 2=false:=rfl
  have e34:¬(3:Int)=4:=by decide
  rcases hp with rfl | ⟨n1,m1,rfl,hd,_⟩ | ⟨c,ks,rfl,hd,hc,hl,hk⟩
  ·have h4:=(hw.ty t ht).d4
   simp only [J7,i11,if_true,U0,W5e hww ht]
   rw [show ilt 10 (depP w t)=false from by rw [J0];omega]
  ·simp only [J7,i31,i32,U2,if_false,U0]
   rw [hkt]
   simp [e34,forL]
  ·simp only [J7,i41,i42,U2,if_false,U0]
   rw [hkt]
   simp only [if_true,U0]
   rw [X10 (w:=w) (fun k u hu=>by
    obtain ⟨q,hq⟩:=Q0z hl (List.getElem?_eq_some_iff.1 hu).1
    simp only [Q1m hq,U0]
    rw [Z7r hww hw d n u q ((hw.ty t ht).at_ _ hc u (U1 hu)) (hk k u q hu hq) (by omega)]
    rfl)]
   rfl
theorem Z9q {w:List Q4}(hw:WW w):∀ (d n:Nat) (t:Q1) (p:Q0),t∈tys w→Z7 w d t p→d+10≤n→Q4c n w (tabP w) t p=some true
 | 0,_,_,_,_,h,_=>h.elim
 | d+1,n,t,p,ht,hp,hn=>by
  obtain ⟨n,rfl⟩:∃ m,n=m+1:=⟨n-1,by omega⟩
  obtain ⟨_,hkT⟩:=X3f hp
  have i11:ieq 1 1=true:=rfl
  have i31:ieq 3 1=false:=rfl
  have i32:ieq 3 2=false:=rfl
  have i41:ieq 4 1=false:=rfl
  have i42:ieq 4 2=false:=rfl
  have e34:¬(3:Int)=4:=by decide
  rcases hp with rfl | ⟨n1,m1,rfl,hd,_⟩ | ⟨c,ks,rfl,hd,hc,hl,hk⟩
  ·have h4:=(hw.ty t ht).d4
   simp only [Q4c,i11,if_true,(hw.ty t ht).d1,U0]
   rw [show ile (depP w t) 10=true from by rw [J1];omega]
  ·have htp:=Z2p (hw.ty t ht) (Q0.mk 3 0 n1 m1 0 []) (fun h=>absurd h e34) (n:=n) (by omega)
   simp only [Q4c,i31,i32,U2,if_false]
   rw [htp,hkT]
   simp [e34,forL]
  ·have htp:=Z2p (hw.ty t ht) (Q0.mk 4 c 0 0 0 ks) (fun _=>hc) (n:=n) (by omega)
   simp only [Q4c,i41,i42,U2,if_false]
   rw [htp,hkT]
   simp only [if_true,U0]
   rw [X10 (w:=w) (fun k u hu=>by
    obtain ⟨q,hq⟩:=Q0z hl (List.getElem?_eq_some_iff.1 hu).1
    simp only [Q1m hq,U0]
    rw [Z9q hw d n u q ((hw.ty t ht).at_ _ hc u (U1 hu)) (hk k u q hu hq) (by omega)]
    rfl)]
   rfl
theorem Z6v {w:List Q4}(hw:WW w):∀ (d n:Nat) (t:Q1) (p:Q0),t∈tys w→Z7 w d t p→W1 w d t p=false→d+1≤n→Q13 n w (tabP w) t p=some true
 | 0,_,_,_,_,h,_,_=>h.elim
 | d+1,n,t,p,ht,hp,hem,hn=>by
  obtain ⟨n,rfl⟩:∃ m,n=m+1:=⟨n-1,by omega⟩
  have i11:ieq 1 1=true:=rfl
  have i31:ieq 3 1=false:=rfl
  have i32:ieq 3 2=false:=rfl
  have i33:ieq 3 3=true:=rfl
  have i41:ieq 4 1=false:=rfl
  have i42:ieq 4 2=false:=rfl
  have i43:ieq 4 3=false:=rfl
  have i45:ieq 4 5=false:=rfl
  have i46:ieq 4 6=false:=rfl
  rcases hp with rfl | ⟨n1,m1,rfl,hd,_⟩ | ⟨c,ks,rfl,hd,hc,hl,hk⟩
  ·have h0:depP w t≠0:=by simpa [W1] using hem
   have h1:=(hw.ty t ht).d0
   simp only [Q13,i11,if_true,(hw.ty t ht).d1,U0]
   rw [show ilt 0 (depP w t)=true from by rw [Z9];omega]
  ·simp [Q13,i31,i32,i33]
  ·simp only [Q13,i41,i42,i43,i45,i46,U2,if_false,U0]
   rw [(hw.ty t ht).a1 c hc]
   simp only [U0]
   rw [X10 (w:=w) (fun k u hu=>by
    obtain ⟨q,hq⟩:=Q0z hl (List.getElem?_eq_some_iff.1 hu).1
    simp only [Q1m hq,U0]
    rw [Z6v hw d n u q ((hw.ty t ht).at_ _ hc u (U1 hu)) (hk k u q hu hq) (Q9k hem hu hq) (by omega)]
    rfl)]
   rfl
theorem W08 {w:List Q4}(hw:WW w){t:Q1}(ht:t∈tys w)(p:Q0):Q2y NN w t p=some (Q0u w t p):=by
 unfold Q2y
 rw [Z0s hw ht]
 simp only [U0,if_true]
 rw [Z3d hw (by decide) ht]
 rfl
theorem X9s {w:List Q4}(hw:WW w){t:Q1}(ht:t∈tys w)(p:Q0):Q20 NN w t p=some (Q0u w t p):=by
 unfold Q20
 rw [X2r hw ht]
 simp only [U0,if_true]
 rw [Z31 hw (n:=NN) (by decide) t p ht]
 rfl
theorem X3z {w:List Q4}(hww:w∈Q0a){t:Q1}(ht:t∈tys w){p:Q0}(hv:Q0u w t p=true)(hp:Z7 w 11 t p)(hem:W1 w 11 t p=false):Q1q NN w t p=some (valR (Z5r w t p)):=by
 have hw:=ww hww
 unfold Q1q
 rw [W08 hw ht,hv]
 simp only [U0,Bool.not_true,U2,if_false]
 rw [(wl hww).dim]
 simp only [U0]
 rw [Z0t hww hw 11 NN t p ht hp (by decide),hem]
 simp only [U0,U2,if_false]
 rw [Z7r hww hw 11 NN t p ht hp (by decide)]
 simp only [U0,U2,if_false]
 rw [Z3l hww hw 11 NN t p ht hp hem (by decide)]
 simp only [U0]
 rw [Q8m hw ht]
 simp only [U0,Z5r]
 cases Q29 w t (Z25 w 11 t p)<;>simp [valR]
theorem X2u {w:List Q4}(hww:w∈Q0a){t:Q1}(ht:t∈tys w){p:Q0}(hv:Q0u w t p=true)(hp:Z7 w 11 t p)(hem:W1 w 11 t p=false):Q1n NN w t p=some (valR (Z5r w t p)):=by
 have hw:=ww hww
 unfold Q1n Q4m
 rw [X9s hw ht,hv]
 simp only [U0,Bool.not_true,U2,if_false]
 rw [hw.tab]
 simp only [U0]
 rw [Z6v hw 11 NN t p ht hp hem (by decide)]
 simp only [U0,Bool.not_true,U2,if_false]
 rw [Z9q hw 11 NN t p ht hp (by decide)]
 simp only [U0,Bool.not_true,U2,if_false]
 rw [Z2z hww hw 11 NN t p ht hp hem (by decide)]
 simp only [U0]
 rw [X2q hw ht]
 simp only [U0,Z5r]
 cases Q29 w t (Z25 w 11 t p)<;>simp [valR]
def Disj (w:List Q4)(t:Q1)(x y:Q0):Prop:=∀ (e:Nat) (v:Q3),Q1j w e t v→fitP x v=true→fitP y v=true→False
def V3m (w:List Q4)(ts:List Q1)(xs ys:List Q0):Prop:=∀ (e:Nat) (vs:List Q3),vs.length=ts.length→(∀ (j:Nat) (t:Q1) (v:Q3),ts[j]?=some t→vs[j]?=some v→Q1j w e t v)→fitL xs vs=true→fitL ys vs=true→False
theorem W47 {w:List Q4}{fm:Q1→Q0→Q0→List Q0}{fj:Q0→Q0→Option Q0} : ∀ (ts:List Q1) (as bs:List Q0),as.length=ts.length→bs.length=ts.length→
  (∀ (j:Nat) (t:Q1) (a b:Q0),ts[j]?=some t→as[j]?=some a→bs[j]?=some b→(fm t a b).Pairwise (Disj w t)∧∀ (e:Nat) (v:Q3),Q1j w e t v→(∀ y∈fm t a b,fitP y v=true→fitP b v=false)∧∀ m,fj a b=some m→fitP m v=true→fitP b v=true)→
  (kmD fm fj ts as bs).Pairwise (V3m w ts)
 | [],as,bs,_,_,_=>by simp [kmD]
 | t::ts,a::as,b::bs,h1,h2,h=>by
  obtain ⟨g1,g2⟩:=h 0 t a b rfl rfl rfl
  have ih:=W47 ts as bs (by simpa using h1) (by simpa using h2) fun j t a b e1 e2 e3=>h (j+1) t a b (by simpa using e1) (by simpa using e2) (by simpa using e3)
  simp only [kmD]
  rw [List.pairwise_append]
  have split2:∀ (x y:Q0) (xs ys:List Q0),(Disj w t x y∨V3m w ts xs ys)→V3m w (t::ts) (x::xs) (y::ys):=fun x y xs ys hd e vs hl hg hx hy=>by
   cases vs with
   | nil=>simp at hl
   | cons v vs=>
    rw [Q66,Bool.and_eq_true] at hx hy
    rcases hd with hd | hd
    ·exact hd e v (hg 0 t v rfl rfl) hx.1 hy.1
    ·exact hd e vs (by simpa using hl) (fun j t v e1 e2=>hg (j+1) t v (by simpa using e1) (by simpa using e2)) hx.2 hy.2
  refine ⟨?_,?_,?_⟩
  ·rw [List.pairwise_map]
   exact g1.imp fun {x y} hd=>split2 x y as as (.inl hd)
  ·cases hm:fj a b with
   | none=>exact List.Pairwise.nil
   | some m=>
    simp only
    rw [List.pairwise_map]
    exact ih.imp fun {x y} hd=>split2 m m x y (.inr hd)
  ·intro x hx y hy
   obtain ⟨x0,hx0,rfl⟩:=U10.1 hx
   cases hm:fj a b with
   | none=>rw [hm] at hy;cases hy
   | some m=>
    rw [hm] at hy
    simp only at hy
    obtain ⟨y0,_,rfl⟩:=U10.1 hy
    refine split2 x0 m as y0 (.inl fun e v hv f1 f2=>?_)
    obtain ⟨q1,q2⟩:=g2 e v hv
    have:=q1 x0 hx0 f1
    rw [q2 m hm f2] at this
    cases this
 | _::_,[],_,h,_,_=>by simp at h
 | _::_,_::_,[],_,h,_=>by simp at h
theorem V1d {w:List Q4}{fm:Q1→Q0→Q0→List Q0}{fj:Q0→Q0→Option Q0}{t:Q1}{a b y:Q0}(ha:a.op=4)(hy:y∈cmD w fm fj t a b):y.op=4∧y.ctor=a.ctor:=by
 unfold cmD at hy
 split at hy
 ·obtain ⟨ks,_,rfl⟩:=U10.1 hy
  exact ⟨rfl,rfl⟩
 ·simp only [List.mem_singleton] at hy
  subst hy
  exact ⟨ha,rfl⟩
theorem W5k {w:List Q4}{d x:Nat}(hM:∀ (t:Q1) (a b:Q0) (x:Nat),t∈tys w→Z7 w x t a→Z7 w d t b→(W0 w d t a b).Pairwise (Disj w t)){t:Q1}{c c':Int}{ks ks':List Q0}(hat:∀ a∈Z6 w t c,a∈tys w)(ht:t.data≠-1)
  (hl:ks.length=(Z6 w t c).length) (hk:∀ (j:Nat) (a:Q1) (q:Q0),(Z6 w t c)[j]?=some a→ks[j]?=some q→Z7 w x a q)
  (hl':ks'.length=(Z6 w t c').length) (hk':∀ (j:Nat) (a:Q1) (q:Q0),(Z6 w t c')[j]?=some a→ks'[j]?=some q→Z7 w d a q) :
  (cmD w (W0 w d) (Q0c d) t (Q0.mk 4 c 0 0 0 ks) (Q0.mk 4 c' 0 0 0 ks')).Pairwise (Disj w t):=by
 unfold cmD
 by_cases hc:c=c'
 ·subst hc
  simp only [if_true]
  rw [List.pairwise_map]
  refine (W47 (w:=w) (Z6 w t c) ks ks' hl hl' fun j u a b e1 e2 e3=>⟨hM u a b x (hat u (U1 e1)) (hk j u a e1 e2) (hk' j u b e1 e3),fun e v hv=>⟨fun y hy hf=>?_,fun m hm hf=>?_⟩⟩).imp fun {xs ys} hd e v hv h1 h2=>?_
  ·exact ((Z0p d e u a b x (hk j u a e1 e2) (hk' j u b e1 e3) v hv).2 ⟨y,hy,hf⟩).2
  ·exact ((X8i d e u a b x (hk j u a e1 e2) (hk' j u b e1 e3) v hv).2 ⟨m,hm,hf⟩).2
  ·rw [Q2e rfl,Bool.and_eq_true,decide_eq_true_eq] at h1 h2
   obtain ⟨e',rfl,_,g2,g3⟩:=Q7v hv ht
   have hcv:c=v.ctor:=h1.1
   rw [←hcv] at g2 g3
   exact hd e' v.kids g2 (fun j u x e1 e2=>g3 j u x e1 e2) h1.2 h2.2
 ·simp only [if_neg hc,List.pairwise_cons,List.not_mem_nil,false_implies,implies_true,List.Pairwise.nil,and_self]
theorem X36 {w:List Q4}{t:Q1}{n m n' m':Int}(h:n'≤m'):(Z1l n m n' m').Pairwise (Disj w t):=by
 have hd:Disj w t (Q0.mk 3 0 n (min m (n'-1)) 0 []) (Q0.mk 3 0 (max n (m'+1)) m 0 []):=fun e v _ h1 h2=>by
  rw [Q6r rfl,decide_eq_true_eq] at h1 h2
  simp only at h1 h2
  omega
 unfold Z1l
 split<;>split<;>simp [hd]
theorem W04 {w:List Q4}(hw:WW w)(he:WE w):∀ (d:Nat) (t:Q1) (a b:Q0) (x:Nat),t∈tys w→Z7 w x t a→Z7 w d t b→(W0 w d t a b).Pairwise (Disj w t):=by
 intro d
 induction d with
 | zero=>intro t a b x _ _ h;exact h.elim
 | succ d ih=>
  intro t a b x ht ha hb
  cases x with
  | zero=>exact ha.elim
  | succ x=>
  rcases hb with rfl | ⟨n',m',rfl,ht',g0,g1,g2⟩ | ⟨c',ks',rfl,ht',hc',hl',hk'⟩
  ·simp [W0]
  ·have e1:¬(3:Int)=1:=by decide
   simp only [W0,e1,if_false,if_true]
   split
   ·exact X36 g1
   ·exact X36 g1
  ·have e1:¬(4:Int)=1:=by decide
   have e3:¬(4:Int)=3:=by decide
   simp only [W0,e1,e3,if_false]
   rcases ha with rfl | ⟨n,m,rfl,ht2,_⟩ | ⟨c,ks,rfl,_,hc,hl,hk⟩
   ·simp only [if_true]
    rw [List.pairwise_flatMap]
    refine ⟨fun c hc=>?_,?_⟩
    ·exact W5k (x:=1) ih ((hw.ty t ht).at_ c hc) ht' (by simp) (fun j a q ha hq=>by
      rw [List.getElem?_map,ha] at hq
      cases hq
      exact Q75 w 0 a) hl' hk'
    ·refine (he.nd t ht).imp fun {c1 c2} hne y hy z hz e v hv f1 f2=>?_
     obtain ⟨a1,a2⟩:=V1d (a:=Q5v w t c1) rfl hy
     obtain ⟨b1,b2⟩:=V1d (a:=Q5v w t c2) rfl hz
     rw [Q2e a1,Bool.and_eq_true,decide_eq_true_eq] at f1
     rw [Q2e b1,Bool.and_eq_true,decide_eq_true_eq] at f2
     have h1:y.ctor=c1:=a2
     have h2:z.ctor=c2:=b2
     exact hne (by rw [←h1,←h2,f1.1,f2.1])
   ·exact absurd ht2 ht'
   ·simp only [e1,if_false]
    exact W5k ih ((hw.ty t ht).at_ c hc) ht' hl hk hl' hk'
theorem W9n {w:List Q4}{t:Q1}{a b x y:Q0}(h:Disj w t a b)(hx:∀ e v,Q1j w e t v→fitP x v=true→fitP a v=true)(hy:∀ e v,Q1j w e t v→fitP y v=true→fitP b v=true):Disj w t x y:=
 fun e v hv h1 h2=>h e v hv (hx e v hv h1) (hy e v hv h2)
theorem W2v {w:List Q4}(hw:WW w)(he:WE w){d x:Nat}{t:Q1}(ht:t∈tys w){b:Q0}(hb:Z7 w d t b){l:List Q0}(h:∀ a∈l,Z7 w x t a)(hd:l.Pairwise (Disj w t)):(Q3b w d x t l b).Pairwise (Disj w t):=by
 unfold Q3b Q6z
 refine List.Pairwise.filter _ ?_
 rw [List.pairwise_flatMap]
 refine ⟨fun a ha=>W04 hw he d t a b x ht (h a ha) hb,?_⟩
 have hall:∀ l:List Q0,(∀ a∈l,Z7 w x t a)→l.Pairwise (Disj w t)→l.Pairwise (fun a₁ a₂=>∀ y∈W0 w d t a₁ b,∀ z∈W0 w d t a₂ b,Disj w t y z):=by
  intro l
  induction l with
  | nil=>intro _ _;exact List.Pairwise.nil
  | cons a l ih=>
   intro h hd
   rw [List.pairwise_cons] at hd ⊢
   refine ⟨fun a2 ha2 y hy z hz=>W9n (hd.1 a2 ha2) (fun e v hv hf=>?_) (fun e v hv hf=>?_),ih (fun a ha=>h a (by simp [ha])) hd.2⟩
   ·exact ((Z0p d e t a b x (h a (by simp)) hb v hv).2 ⟨y,hy,hf⟩).1
   ·exact ((Z0p d e t a2 b x (h a2 (by simp [ha2])) hb v hv).2 ⟨z,hz,hf⟩).1
 exact hall l h hd
theorem X52 {w:List Q4}(hw:WW w)(he:WE w){d x:Nat}{t:Q1}(ht:t∈tys w)(hx:d+1≤x):∀ (bs l r:List Q0),(∀ b∈bs,Z7 w d t b)→(∀ a∈l,Z7 w x t a)→l.Pairwise (Disj w t)→Q57 w d x t l bs=some r→r.Pairwise (Disj w t)
 | [],l,r,_,_,hd,e=>by simp only [Q57,Option.some.injEq] at e;subst e;exact hd
 | b::bs,l,r,hb,h,hd,e=>by
  simp only [Q57] at e
  split at e
  ·cases e
  ·exact X52 hw he ht hx bs _ r (fun b hb'=>hb b (by simp [hb'])) (Q7y hx (hb b (by simp)) h) (W2v hw he ht (hb b (by simp)) h hd) e
theorem X2f {w:List Q4}(hw:WW w)(he:WE w){d x:Nat}{t:Q1}(ht:t∈tys w)(hx:d+1≤x){l bs r:List Q0}(hb:∀ b∈bs,Z7 w d t b)(h:∀ a∈l,Z7 w x t a)(hd:l.Pairwise (Disj w t))(e:Q0t w d x t l bs=some r):r.Pairwise (Disj w t):=
 X52 hw he ht hx bs _ r hb (fun a ha=>h a (List.mem_filter.1 ha).1) (hd.filter _) e
theorem X84 {w:List Q4}(hw:WW w)(he:WE w){t:Q1}(ht:t∈tys w):∀ (ps bef r:List Q0),(∀ b∈bef,Z7 w 10 t b)→(∀ p∈ps,Z7 w 10 t p)→sepP w t bef ps=some r→r.Pairwise (Disj w t)
 | [],_,r,_,_,e=>by simp only [sepP,Option.some.injEq] at e;subst e;exact List.Pairwise.nil
 | p::ps,bef,r,hb,hp,e=>by
  simp only [sepP] at e
  cases hm:Q0t w 10 11 t [p] bef with
  | none=>rw [hm] at e;simp at e
  | some m=>
   rw [hm] at e
   simp only [U0,U11] at e
   obtain ⟨r2,h2,rfl⟩:=e
   have hp1:∀ a∈[p],Z7 w 11 t a:=fun a ha=>by simp only [List.mem_singleton] at ha;rw [ha];exact Q5y 10 t p (hp p (by simp))
   have hb2:∀ b∈bef++[p],Z7 w 10 t b:=fun b hb'=>by
    rcases List.mem_append.1 hb' with h | h
    ·exact hb b h
    ·simp only [List.mem_singleton] at h;rw [h];exact hp p (by simp)
   rw [List.pairwise_append]
   refine ⟨X2f hw he ht (by omega) hb hp1 (List.pairwise_singleton _ _) hm,X84 hw he ht ps _ r2 hb2 (fun q hq=>hp q (by simp [hq])) h2,fun y hy z hz e v hv f1 f2=>?_⟩
   obtain ⟨⟨a,ha,haf⟩,_⟩:=(Z6k hw he ht (by omega) hv hb hp1 hm).1 ⟨y,hy,f1⟩
   simp only [List.mem_singleton] at ha
   subst ha
   have:=((W35 hw he ht hv ps _ r2 hb2 (fun q hq=>hp q (by simp [hq])) h2).1 ⟨z,hz,f2⟩).2 a (by simp)
   rw [haf] at this
   cases this
theorem W1n {w:List Q4}{t:Q1}{e:Nat}{C:List Q3}(hC:∀ v∈C,Q1j w e t v){l:List Q0}(hd:l.Pairwise (Disj w t))(h:∀ p∈l,∃ v∈C,fitP p v=true):l.length≤C.length:=by
 have key:∀ (l:List Q0),l.Pairwise (Disj w t)→(∀ p∈l,∃ v∈C,fitP p v=true)→∃ js:List Int,js.length=l.length∧js.Nodup∧∀ j∈js,∃ k:Nat,j=(k:Int)∧∃ v,C[k]?=some v∧∃ p∈l,fitP p v=true:=by
  intro l
  induction l with
  | nil=>intro _ _;exact ⟨[],rfl,List.nodup_nil,fun j h=>by cases h⟩
  | cons p l ih=>
   intro hd h
   rw [List.pairwise_cons] at hd
   obtain ⟨js,h1,h2,h3⟩:=ih hd.2 fun q hq=>h q (by simp [hq])
   obtain ⟨v,hv,hf⟩:=h p (by simp)
   obtain ⟨k,hk⟩:=List.mem_iff_getElem?.1 hv
   refine ⟨(k:Int)::js,by simp [h1],List.nodup_cons.2 ⟨fun hm=>?_,h2⟩,fun j hj=>?_⟩
   ·obtain ⟨k',e1,v',e2,q,hq,hqf⟩:=h3 _ hm
    have:k=k':=by omega
    subst this
    rw [hk] at e2
    cases e2
    exact hd.1 q hq e v (hC v hv) hf hqf
   ·rcases U8.1 hj with rfl | hj
    ·exact ⟨k,rfl,v,hk,p,by simp,hf⟩
    ·obtain ⟨k',e1,v',e2,q,hq,hqf⟩:=h3 j hj
     exact ⟨k',e1,v',e2,q,by simp [hq],hqf⟩
 obtain ⟨js,h1,h2,h3⟩:=key l hd h
 rw [←h1]
 refine Z7d C.length js h2 fun j hj=>?_
 obtain ⟨k,rfl,v,hv,_⟩:=h3 j hj
 have:=(List.getElem?_eq_some_iff.1 hv).1
 omega
def X3t (w:List Q4):Nat→Q1→Q3
 | 0,_=>⟨0,0,[]⟩
 | d+1,t=>if t.data = -1 then ⟨-1,0,[]⟩ else match (X1 w t).find? (fun c=>decide (Q5z w t c=depP w t)) with
  | none=>⟨0,0,[]⟩
  | some c=>⟨c,0,(Z6 w t c).map (X3t w d)⟩
def Z1m (w:List Q4)(t:Q1):List Q3:=if t.data = -1 then (List.range 10).map numV else
 ((X1 w t).filter fun c=>(Z6 w t c).all fun a=>decide (depP w a≠0)).map fun c=>⟨c,0,(Z6 w t c).map (X3t w 5)⟩
def Z93 (w:List Q4)(t:Q1):List Q3:=if t.data = -1 then (List.range 10).map numV else
 (X1 w t).flatMap fun c=>(((Z6 w t c).map (Z1m w)).foldl tupV [[]]).map (mkV c)
def V7b (l:List Nat):Nat:=l.foldl (fun a b=>a * max 1 b) 1
def chkR (w:List Q4):Bool:=(tys w).all fun t=>(decide (depP w t=0)||Q30 w 10 t (X3t w 5 t))&&(decide ((Z93 w t).length≤400)&&(X1 w t).all fun c=>decide (V7b ((Z6 w t c).map fun a=>(Z1m w a).length)≤400))
theorem Y2m:Q0a.all chkR=true:=by kernel_rfl
structure WR (w:List Q4):Prop where
 least:∀ t∈tys w,depP w t≠0→Q1j w 10 t (X3t w 5 t)
 n2:∀ t∈tys w,(Z93 w t).length≤400
 n1:∀ t∈tys w,∀ c∈X1 w t,V7b ((Z6 w t c).map fun a=>(Z1m w a).length)≤400
theorem wr {w:List Q4}(h:w∈Q0a):WR w:=by
 have h1:=List.all_eq_true.1 Y2m w h
 simp only [chkR,List.all_eq_true,Bool.and_eq_true,Bool.or_eq_true,decide_eq_true_eq] at h1
 exact ⟨fun t ht h0=>(Z4k 10 t _).1 (((h1 t ht).1).resolve_left h0),fun t ht=>(h1 t ht).2.1,fun t ht c hc=>(h1 t ht).2.2 c hc⟩
def hgt1 (p:Q0):Prop:=p.op=1∨p.op=3∨(p.op=4∧∀ q∈p.kids,q.op=1)
def hgt2 (p:Q0):Prop:=p.op=1∨p.op=3∨(p.op=4∧∀ q∈p.kids,hgt1 q)
theorem V7t {p:Q0}(h:hgt1 p):hgt2 p:=by
 rcases h with h | h | h
 ·exact .inl h
 ·exact .inr (.inl h)
 ·exact .inr (.inr ⟨h.1,fun q hq=>.inl (h.2 q hq)⟩)
theorem Z7g:∀ (ls:List (List Q3)) (out:List (List Q3)) (o vs:List Q3),o∈out→vs.length=ls.length→(∀ (j:Nat) (v:Q3) (l:List Q3),vs[j]?=some v→ls[j]?=some l→v∈l)→o++vs∈ls.foldl tupV out
 | [],out,o,[],ho,_,_=>by simpa using ho
 | l::ls,out,o,v::vs,ho,hl,h=>by
  rw [List.foldl_cons]
  have:=Z7g ls (tupV out l) (o++[v]) vs (List.mem_flatMap.2 ⟨o,ho,U10.2 ⟨v,h 0 v l rfl rfl,rfl⟩⟩) (by simpa using hl) fun j v l h1 h2=>h (j+1) v l (by simpa using h1) (by simpa using h2)
  simpa using this
 | [],_,_,_::_,_,h,_=>by simp at h
 | _::_,_,_,[],_,h,_=>by simp at h
theorem V2z {ps:List Q0} : ∀ {vs:List Q3},ps.length=vs.length→(∀ (j:Nat) (p:Q0) (v:Q3),ps[j]?=some p→vs[j]?=some v→fitP p v=true)→fitL ps vs=true:=by
 induction ps with
 | nil=>intro vs h _;cases vs with
  | nil=>exact Z6f
  | cons v vs=>simp at h
 | cons p ps ih=>
  intro vs h hf
  cases vs with
  | nil=>simp at h
  | cons v vs=>
   rw [Q66,Bool.and_eq_true]
   exact ⟨hf 0 p v rfl rfl,ih (by simpa using h) fun j p v h1 h2=>hf (j+1) p v (by simpa using h1) (by simpa using h2)⟩
theorem X1c {w:List Q4}{e:Nat}{t:Q1}{c:Int}{vs:List Q3}(hd:t.data≠-1)(hc:c∈X1 w t)(hl:vs.length=(Z6 w t c).length)(h:∀ (j:Nat) (a:Q1) (x:Q3),(Z6 w t c)[j]?=some a→vs[j]?=some x→Q1j w e a x):Q1j w (e+1) t ⟨c,0,vs⟩:=by
 rw [Q1j,if_neg hd]
 exact ⟨rfl,hc,hl,h⟩
theorem X0x {w:List Q4}{e:Nat}{t:Q1}(hd:t.data = -1){n:Nat}(hn:n<10):Q1j w (e+1) t (numV n):=by
 rw [Q1j,if_pos hd]
 exact ⟨rfl,by simp only [numV];omega,by simp only [numV];omega,rfl⟩
theorem Z9x {w:List Q4}(hw:WW w)(hr:WR w){t:Q1}(ht:t∈tys w){v:Q3}(hv:v∈Z1m w t):Q1j w 11 t v:=by
 unfold Z1m at hv
 split at hv
 ·rename_i hd
  obtain ⟨n,hn,rfl⟩:=U10.1 hv
  exact X0x hd (List.mem_range.1 hn)
 ·rename_i hd
  obtain ⟨c,hc,rfl⟩:=U10.1 hv
  obtain ⟨h1,h2⟩:=List.mem_filter.1 hc
  refine X1c hd h1 (by simp) fun j a x ha hx=>?_
  rw [List.getElem?_map,ha] at hx
  simp only [Option.map_some,Option.some.injEq] at hx
  subst hx
  have ham:=U1 ha
  exact hr.least a ((hw.ty t ht).at_ c h1 a ham) (by simpa using List.all_eq_true.1 h2 a ham)
theorem X9w {w:List Q4}(hw:WW w)(hr:WR w){t:Q1}(ht:t∈tys w){v:Q3}(hv:v∈Z93 w t):Q1j w 12 t v:=by
 unfold Z93 at hv
 split at hv
 ·rename_i hd
  obtain ⟨n,hn,rfl⟩:=U10.1 hv
  exact X0x hd (List.mem_range.1 hn)
 ·rename_i hd
  obtain ⟨c,hc,hv⟩:=List.mem_flatMap.1 hv
  obtain ⟨ks,hks,rfl⟩:=U10.1 hv
  obtain ⟨a,b,ha,rfl,hl,hb⟩:=Z0c _ _ _ hks
  simp only [List.mem_singleton] at ha
  subst ha
  simp only [U7] at hl
  refine X1c hd hc (by simpa using hl) fun j u x hu hx=>?_
  exact Z9x hw hr ((hw.ty t ht).at_ c hc u (U1 hu)) (hb j x (Z1m w u) (by simpa using hx) (by rw [List.getElem?_map,hu];rfl))
theorem rep1 {w:List Q4}(hw:WW w){t:Q1}(ht:t∈tys w){d:Nat}{p:Q0}(hp:Z7 w d t p)(h1:hgt1 p)(he:W1 w d t p=false):∃ v∈Z1m w t,fitP p v=true:=by
 have hT:=hw.ty t ht
 cases d with
 | zero=>exact hp.elim
 | succ d=>
 rcases hp with rfl | ⟨n,m,rfl,hd,g0,g1,g2⟩ | ⟨c,ks,rfl,hd,hc,hl,hk⟩
 ·simp only [W1,if_true,decide_eq_false_iff_not] at he
  unfold Z1m
  split
  ·exact ⟨numV 0,List.mem_map_of_mem (List.mem_range.2 (by omega)),Q71 rfl _⟩
  ·rename_i hd
   obtain ⟨k,hk,hm⟩:=hT.dm hd he
   exact ⟨_,List.mem_map_of_mem (List.mem_filter.2 ⟨hk,List.all_eq_true.2 fun a ha=>by
    have:=(hT.ma k hk (by omega) a ha).1
    simp only [ne_eq,decide_not,Bool.not_eq_true',decide_eq_false_iff_not];omega⟩),Q71 rfl _⟩
 ·unfold Z1m
  rw [if_pos hd]
  refine ⟨numV n.toNat,List.mem_map_of_mem (List.mem_range.2 (by omega)),?_⟩
  rw [Q6r rfl,decide_eq_true_eq]
  simp only [numV]
  omega
 ·unfold Z1m
  rw [if_neg hd]
  have hks:∀ q∈ks,q.op=1:=by
   rcases h1 with h | h | h
   ·simp at h
   ·simp at h
   ·exact h.2
  refine ⟨⟨c,0,(Z6 w t c).map (X3t w 5)⟩,U10.2 ⟨c,List.mem_filter.2 ⟨hc,List.all_eq_true.2 fun a ha=>?_⟩,rfl⟩,?_⟩
  ·obtain ⟨j,hj⟩:=List.mem_iff_getElem?.1 ha
   have hjl:=(List.getElem?_eq_some_iff.1 hj).1
   have hq:ks[j]?=some (ks[j]'(by omega)):=by simp
   simp only [ne_eq,decide_not,Bool.not_eq_true',decide_eq_false_iff_not]
   intro h0
   have:W1 w (d+1) t (Q0.mk 4 c 0 0 0 ks)=true:=Q4b.2 ⟨j,a,_,hj,hq,by
    cases d with
    | zero=>exact (hk j a _ hj hq).elim
    | succ d=>rw [W1,if_pos (hks _ (U1 hq))];simpa using h0⟩
   rw [he] at this
   cases this
  ·rw [Q2e rfl,Bool.and_eq_true,decide_eq_true_eq]
   exact ⟨rfl,V2z (by simp only [U7];exact hl) fun j q v hq _=>Q71 (hks q (U1 hq)) v⟩
theorem rep2 {w:List Q4}(hw:WW w){t:Q1}(ht:t∈tys w){d:Nat}{p:Q0}(hp:Z7 w d t p)(h2:hgt2 p)(he:W1 w d t p=false):∃ v∈Z93 w t,fitP p v=true:=by
 have hT:=hw.ty t ht
 cases d with
 | zero=>exact hp.elim
 | succ d=>
 have ctor:∀ (d:Nat) (c:Int) (ks:List Q0),t.data≠-1→c∈X1 w t→ks.length=(Z6 w t c).length→(∀ (j:Nat) (a:Q1) (q:Q0),(Z6 w t c)[j]?=some a→ks[j]?=some q→Z7 w d a q∧hgt1 q∧W1 w d a q=false)→∃ v∈Z93 w t,fitP (Q0.mk 4 c 0 0 0 ks) v=true:=fun d c ks hd hc hl hk=>by
  have gen:∀ (ts:List Q1) (ks:List Q0),ks.length=ts.length→(∀ a∈ts,a∈tys w)→(∀ (j:Nat) (a:Q1) (q:Q0),ts[j]?=some a→ks[j]?=some q→Z7 w d a q∧hgt1 q∧W1 w d a q=false)→
    ∃ vs:List Q3,vs.length=ts.length∧(∀ (j:Nat) (v:Q3) (l:List Q3),vs[j]?=some v→(ts.map (Z1m w))[j]?=some l→v∈l)∧fitL ks vs=true:=by
   intro ts
   induction ts with
   | nil=>intro ks hl _ _;exact ⟨[],rfl,fun j v l h=>by simp at h,by cases ks with
     | nil=>exact Z6f
     | cons k ks=>simp at hl⟩
   | cons a ts ih=>
    intro ks hl hat hk
    cases ks with
    | nil=>simp at hl
    | cons q ks=>
     obtain ⟨vs,e1,e2,e3⟩:=ih ks (by simpa using hl) (fun x hx=>hat x (by simp [hx])) fun j a q h1 h2=>hk (j+1) a q (by simpa using h1) (by simpa using h2)
     obtain ⟨g1,g2,g3⟩:=hk 0 a q rfl rfl
     obtain ⟨v,hv,hf⟩:=rep1 hw (hat a (by simp)) g1 g2 g3
     refine ⟨v::vs,by simp [e1],fun j x l h1 h2=>?_,by rw [Q66,hf,e3];rfl⟩
     cases j with
     | zero=>simp only [List.getElem?_cons_zero,List.map_cons,Option.some.injEq] at h1 h2;subst h1 h2;exact hv
     | succ j=>exact e2 j x l (by simpa using h1) (by simpa using h2)
  obtain ⟨vs,e1,e2,e3⟩:=gen _ ks hl (hT.at_ c hc) hk
  refine ⟨mkV c vs,?_,by rw [Q2e rfl];simp [mkV,e3]⟩
  unfold Z93
  rw [if_neg hd]
  refine List.mem_flatMap.2 ⟨c,hc,List.mem_map_of_mem ?_⟩
  have:=Z7g ((Z6 w t c).map (Z1m w)) [[]] [] vs (by simp) (by simpa using e1) e2
  simpa using this
 rcases hp with rfl | ⟨n,m,rfl,hd,g0,g1,g2⟩ | ⟨c,ks,rfl,hd,hc,hl,hk⟩
 ·simp only [W1,if_true,decide_eq_false_iff_not] at he
  by_cases hd:t.data = -1
  ·unfold Z93
   rw [if_pos hd]
   exact ⟨numV 0,List.mem_map_of_mem (List.mem_range.2 (by omega)),Q71 rfl _⟩
  ·obtain ⟨k,hk,hm⟩:=hT.dm hd he
   obtain ⟨v,hv,_⟩:=ctor 1 k ((Z6 w t k).map fun _=>Q0.mk 1 0 0 0 0 []) hd hk (by simp) fun j a q ha hq=>by
    rw [List.getElem?_map,ha] at hq
    simp only [Option.map_some,Option.some.injEq] at hq
    subst hq
    refine ⟨Q75 w 0 a,.inl rfl,?_⟩
    have:=(hT.ma k hk (by omega) a (U1 ha)).1
    simp only [W1,if_true,decide_eq_false_iff_not]
    omega
   exact ⟨v,hv,Q71 rfl _⟩
 ·unfold Z93
  rw [if_pos hd]
  refine ⟨numV n.toNat,List.mem_map_of_mem (List.mem_range.2 (by omega)),?_⟩
  rw [Q6r rfl,decide_eq_true_eq]
  simp only [numV]
  omega
 ·have hks:∀ q∈ks,hgt1 q:=by
   rcases h2 with h | h | h
   ·simp at h
   ·simp at h
   ·exact h.2
  refine ctor d c ks hd hc hl fun j a q ha hq=>⟨hk j a q ha hq,hks q (U1 hq),?_⟩
  cases hem:W1 w d a q with
  | false=>rfl
  | true=>
   have:W1 w (d+1) t (Q0.mk 4 c 0 0 0 ks)=true:=Q4b.2 ⟨j,a,q,ha,hq,hem⟩
   rw [he] at this
   cases this
theorem Z9y {w:List Q4}(hw:WW w)(hr:WR w):∀ (d:Nat) (t:Q1) (p:Q0),t∈tys w→Z7 w d t p→W1 w d t p=false→∃ v,Q1j w (d+10) t v∧fitP p v=true
 | 0,_,_,_,h,_=>h.elim
 | d+1,t,p,ht,hp,he=>by
  rcases hp with rfl | ⟨n,m,rfl,hd,g0,g1,g2⟩ | ⟨c,ks,rfl,hd,hc,hl,hk⟩
  ·simp only [W1,if_true,decide_eq_false_iff_not] at he
   exact ⟨_,Z6c 10 _ t _ (by omega) (hr.least t ht he),Q71 rfl _⟩
  ·refine ⟨numV n.toNat,X0x hd (by omega),?_⟩
   rw [Q6r rfl,decide_eq_true_eq]
   simp only [numV]
   omega
  ·have hat:=(hw.ty t ht).at_ c hc
   have gen:∀ (ts:List Q1) (ks:List Q0),ks.length=ts.length→(∀ a∈ts,a∈tys w)→(∀ (j:Nat) (a:Q1) (q:Q0),ts[j]?=some a→ks[j]?=some q→Z7 w d a q∧W1 w d a q=false)→
     ∃ vs:List Q3,vs.length=ts.length∧(∀ (j:Nat) (a:Q1) (v:Q3),ts[j]?=some a→vs[j]?=some v→Q1j w (d+10) a v)∧fitL ks vs=true:=by
    intro ts
    induction ts with
    | nil=>intro ks hl _ _;exact ⟨[],rfl,fun j a v h=>by simp at h,by cases ks with
      | nil=>exact Z6f
      | cons k ks=>simp at hl⟩
    | cons a ts ih=>
     intro ks hl hat hk
     cases ks with
     | nil=>simp at hl
     | cons q ks=>
      obtain ⟨vs,e1,e2,e3⟩:=ih ks (by simpa using hl) (fun x hx=>hat x (by simp [hx])) fun j a q h1 h2=>hk (j+1) a q (by simpa using h1) (by simpa using h2)
      obtain ⟨g1,g3⟩:=hk 0 a q rfl rfl
      obtain ⟨v,hv,hf⟩:=Z9y hw hr d a q (hat a (by simp)) g1 g3
      refine ⟨v::vs,by simp [e1],fun j b x h1 h2=>?_,by rw [Q66,hf,e3];rfl⟩
      cases j with
      | zero=>simp only [List.getElem?_cons_zero,Option.some.injEq] at h1 h2;subst h1 h2;exact hv
      | succ j=>exact e2 j b x (by simpa using h1) (by simpa using h2)
   obtain ⟨vs,e1,e2,e3⟩:=gen _ ks hl hat fun j a q ha hq=>⟨hk j a q ha hq,by
    cases hem:W1 w d a q with
    | false=>rfl
    | true=>
     have:W1 w (d+1) t (Q0.mk 4 c 0 0 0 ks)=true:=Q4b.2 ⟨j,a,q,ha,hq,hem⟩
     rw [he] at this
     cases this⟩
   refine ⟨⟨c,0,vs⟩,?_,by rw [Q2e rfl];simp [e3]⟩
   have:=X1c (e:=d+10) hd hc e1 e2
   rw [show d+1+10=d+10+1 by omega]
   exact this
theorem X8j {d:Nat}{a b m:Q0}(ha:a.op=1)(h:Q0c d a b=some m):m=b:=by
 cases d with
 | zero=>simp [Q0c] at h
 | succ d=>rw [Q0c,if_pos ha] at h;cases h;rfl
theorem X3l {w:List Q4}{d:Nat}{t:Q1}{a b:Q0}(hb:b.op=1):W0 w d t a b=[]:=by
 cases d with
 | zero=>rfl
 | succ d=>rw [W0,if_pos hb]
theorem V1z {n m n' m':Int} : ∀ y∈Z1l n m n' m',y.op=3:=fun y hy=>by
 unfold Z1l at hy
 rcases List.mem_append.1 hy with h | h<;>split at h<;>simp at h<;>rw [h]
structure Cl (w:List Q4) (d x:Nat) (t:Q1) (P:Q0→Prop):Prop where
 mi:∀ a b,P a→P b→Z7 w x t a→Z7 w d t b→∀ y∈W0 w d t a b,P y
 me:∀ a b,P a→P b→Z7 w x t a→Z7 w d t b→∀ m,Q0c d a b=some m→P m
theorem V7n {w:List Q4}{d x:Nat}{ts:List Q1}{as bs:List Q0}{P:Nat→Q0→Prop}(h1:as.length=ts.length)(h2:bs.length=ts.length)
  (h:∀ (j:Nat) (t:Q1) (a b:Q0),ts[j]?=some t→as[j]?=some a→bs[j]?=some b→P j a∧P j b∧Z7 w x t a∧Z7 w d t b∧Cl w d x t (P j)) :
  ∀ ks∈kmD (W0 w d) (Q0c d) ts as bs,ks.length=ts.length∧∀ (j:Nat) (q:Q0),ks[j]?=some q→P j q:=fun ks hks=>by
 obtain ⟨g1,i,hi,g2⟩:=X8m ts as bs h1 h2 ks hks
 refine ⟨g1,fun j q hq=>?_⟩
 have hj:=(List.getElem?_eq_some_iff.1 hq).1
 have ht:ts[j]?=some (ts[j]'(by omega)):=by simp
 have ha:as[j]?=some (as[j]'(by omega)):=by simp
 have hb:bs[j]?=some (bs[j]'(by omega)):=by simp
 obtain ⟨p1,p2,p3,p4,p5⟩:=h j _ _ _ ht ha hb
 obtain ⟨q1,q2,q3⟩:=g2 j _ _ _ q ht ha hb hq
 rcases Nat.lt_trichotomy j i with hji | hji | hji
 ·exact p5.me _ _ p1 p2 p3 p4 q (q1 hji)
 ·exact p5.mi _ _ p1 p2 p3 p4 q (q2 hji)
 ·rw [q3 hji];exact p1
theorem W7v {w:List Q4}{d x:Nat}{ts:List Q1}{as bs ms:List Q0}{P:Nat→Q0→Prop}(h1:as.length=ts.length)(h2:bs.length=ts.length)
  (h:∀ (j:Nat) (t:Q1) (a b:Q0),ts[j]?=some t→as[j]?=some a→bs[j]?=some b→P j a∧P j b∧Z7 w x t a∧Z7 w d t b∧Cl w d x t (P j)) (hm:Q4t (Q0c d) as bs=some ms) :
  ms.length=ts.length∧∀ (j:Nat) (q:Q0),ms[j]?=some q→P j q:=by
 obtain ⟨g1,g2⟩:=Z3g as bs ms (by omega) hm
 refine ⟨by omega,fun j q hq=>?_⟩
 have hj:=(List.getElem?_eq_some_iff.1 hq).1
 have ht:ts[j]?=some (ts[j]'(by omega)):=by simp
 have ha:as[j]?=some (as[j]'(by omega)):=by simp
 have hb:bs[j]?=some (bs[j]'(by omega)):=by simp
 obtain ⟨p1,p2,p3,p4,p5⟩:=h j _ _ _ ht ha hb
 obtain ⟨m,e1,e2⟩:=g2 j _ _ ha hb
 rw [hq] at e2
 cases e2
 exact p5.me _ _ p1 p2 p3 p4 q e1
def famP (Q:Q0→Prop)(p:Q0):Prop:=p.op=1∨p.op=3∨(p.op=4∧∀ q∈p.kids,Q q)
theorem V16 {w:List Q4}(hw:WW w){d x:Nat}(hx1:1≤x){Q:Q0→Prop}(hq:∀ p:Q0,p.op=1→Q p)(hQ:∀ t∈tys w,Cl w d x t Q){t:Q1}(ht:t∈tys w):Cl w (d+1) (x+1) t (famP Q):=by
 have hT:=hw.ty t ht
 have kids:∀ (c:Int) (ks ks':List Q0),c∈X1 w t→(∀ q∈ks,Q q)→(∀ q∈ks',Q q)→ks.length=(Z6 w t c).length→ks'.length=(Z6 w t c).length→
   (∀ (j:Nat) (a:Q1) (q:Q0),(Z6 w t c)[j]?=some a→ks[j]?=some q→Z7 w x a q)→(∀ (j:Nat) (a:Q1) (q:Q0),(Z6 w t c)[j]?=some a→ks'[j]?=some q→Z7 w d a q)→
   ∀ (j:Nat) (u:Q1) (a b:Q0),(Z6 w t c)[j]?=some u→ks[j]?=some a→ks'[j]?=some b→(fun _=>Q) j a∧(fun _=>Q) j b∧Z7 w x u a∧Z7 w d u b∧Cl w d x u ((fun _=>Q) j):=
  fun c ks ks' hc h1 h2 _ _ h5 h6 j u a b e1 e2 e3=>⟨h1 a (U1 e2),h2 b (U1 e3),h5 j u a e1 e2,h6 j u b e1 e3,hQ u (hT.at_ c hc u (U1 e1))⟩
 have cm:∀ (x':Nat) (c c':Int) (ks ks':List Q0),x'≤x→c∈X1 w t→(∀ q∈ks,Q q)→(∀ q∈ks',Q q)→ks.length=(Z6 w t c).length→ks'.length=(Z6 w t c').length→
   (∀ (j:Nat) (a:Q1) (q:Q0),(Z6 w t c)[j]?=some a→ks[j]?=some q→Z7 w x' a q)→(∀ (j:Nat) (a:Q1) (q:Q0),(Z6 w t c')[j]?=some a→ks'[j]?=some q→Z7 w d a q)→
   ∀ y∈cmD w (W0 w d) (Q0c d) t (Q0.mk 4 c 0 0 0 ks) (Q0.mk 4 c' 0 0 0 ks'),famP Q y:=fun x' c c' ks ks' hx' hc h1 h2 h3 h4 h5 h6 y hy=>by
  unfold cmD at hy
  by_cases hcc:c=c'
  ·subst hcc
   simp only [if_true] at hy
   obtain ⟨zs,hz,rfl⟩:=U10.1 hy
   refine .inr (.inr ⟨rfl,fun q hq=>?_⟩)
   obtain ⟨j,hj⟩:=List.mem_iff_getElem?.1 hq
   exact (V7n h3 h4 (kids c ks ks' hc h1 h2 h3 h4 (fun j a q e1 e2=>X66 (h5 j a q e1 e2) hx') h6) zs hz).2 j q hj
  ·simp only [if_neg hcc,List.mem_singleton] at hy
   subst hy
   exact .inr (.inr ⟨rfl,h1⟩)
 refine ⟨fun a b ha hb pa pb y hy=>?_,fun a b ha hb pa pb m hm=>?_⟩
 ·rcases pb with rfl | ⟨n',m',rfl,_⟩ | ⟨c',ks',rfl,hd',hc',hl',hk'⟩
  ·rw [X3l rfl] at hy;cases hy
  ·have e1:¬(3:Int)=1:=by decide
   simp only [W0,e1,if_false,if_true] at hy
   refine .inr (.inl ?_)
   split at hy<;>exact V1z y hy
  ·have e1:¬(4:Int)=1:=by decide
   have e3:¬(4:Int)=3:=by decide
   have hbk:∀ q∈ks',Q q:=by
    rcases hb with h | h | h
    ·simp at h
    ·simp at h
    ·exact h.2
   simp only [W0,e1,e3,if_false] at hy
   rcases pa with rfl | ⟨n,m,rfl,hd,_⟩ | ⟨c,ks,rfl,hd,hc,hl,hk⟩
   ·simp only [if_true,List.mem_flatMap] at hy
    obtain ⟨c,hc,hy⟩:=hy
    unfold Q5v at hy
    exact cm 1 c c' _ ks' hx1 hc (fun q hq'=>by obtain ⟨_,_,rfl⟩:=U10.1 hq';exact hq _ rfl) hbk (by simp) hl' (fun j a q ha hq'=>by
      rw [List.getElem?_map,ha] at hq'
      cases hq'
      exact Q75 w 0 a) hk' y hy
   ·exact absurd hd hd'
   ·have hak:∀ q∈ks,Q q:=by
     rcases ha with h | h | h
     ·simp at h
     ·simp at h
     ·exact h.2
    simp only [e1,if_false] at hy
    exact cm x c c' ks ks' (Nat.le_refl _) hc hak hbk hl hl' hk hk' y hy
 ·rcases pa with rfl | ⟨n,m,rfl,hd,_⟩ | ⟨c,ks,rfl,hd,hc,hl,hk⟩
  ·rw [X8j rfl hm];exact hb
  ·rcases pb with rfl | ⟨n',m',rfl,_⟩ | ⟨c',ks',rfl,hd',_⟩
   ·simp [Q0c] at hm;subst hm;exact .inr (.inl rfl)
   ·simp [Q0c] at hm;obtain ⟨_,rfl⟩:=hm;exact .inr (.inl rfl)
   ·exact absurd hd hd'
  ·rcases pb with rfl | ⟨n',m',rfl,hd',_⟩ | ⟨c',ks',rfl,hd',hc',hl',hk'⟩
   ·simp [Q0c] at hm;subst hm;exact ha
   ·exact absurd hd' hd
   ·have hak:∀ q∈ks,Q q:=by
     rcases ha with h | h | h
     ·simp at h
     ·simp at h
     ·exact h.2
    have hbk:∀ q∈ks',Q q:=by
     rcases hb with h | h | h
     ·simp at h
     ·simp at h
     ·exact h.2
    simp only [Q0c] at hm
    simp at hm
    obtain ⟨rfl,zs,hz,rfl⟩:=hm
    refine .inr (.inr ⟨rfl,fun q hq'=>?_⟩)
    obtain ⟨j,hj⟩:=List.mem_iff_getElem?.1 hq'
    exact (W7v hl hl' (kids c ks ks' hc hak hbk hl hl' hk hk') hz).2 j q hj
theorem V8y {w:List Q4}(d x:Nat)(t:Q1):Cl w d x t (fun p=>p.op=1):=
 ⟨fun a b _ hb _ _ y hy=>(by rw [X3l hb] at hy;cases hy),fun a b ha hb _ _ m hm=>by rw [X8j ha hm];exact hb⟩
theorem V8x {w:List Q4}(hw:WW w){d x:Nat}(hx1:1≤x){t:Q1}(ht:t∈tys w):Cl w (d+1) (x+1) t hgt1:=V16 hw hx1 (fun _ h=>h) (fun t _=>V8y d x t) ht
theorem Y2l {w:List Q4}(hw:WW w){d x:Nat}(hx1:1≤x){t:Q1}(ht:t∈tys w):Cl w (d+2) (x+2) t hgt2:=V16 hw (by omega) (fun _ h=>.inl h) (fun t ht=>V8x hw hx1 ht) ht
theorem X06 {f:Q0→Q0→Option Q0} : ∀ (as:List Q0),(∀ a∈as,f a a=some a)→Q4t f as as=some as
 | [],_=>rfl
 | a::as,h=>by
  simp only [Q4t]
  rw [h a (by simp),X06 as fun x hx=>h x (by simp [hx])]
  rfl
theorem X3o {w:List Q4} : ∀ (d:Nat) (t:Q1) (a:Q0),Z7 w d t a→Q0c d a a=some a
 | 0,_,_,h=>h.elim
 | d+1,t,a,h=>by
  rcases h with rfl | ⟨n,m,rfl,hd,g0,g1,g2⟩ | ⟨c,ks,rfl,hd,hc,hl,hk⟩
  ·simp [Q0c]
  ·have e1:¬(3:Int)=1:=by decide
   simp only [Q0c,e1,if_false,if_true]
   rw [if_pos (by omega)]
   congr 2<;>omega
  ·have e1:¬(4:Int)=1:=by decide
   have e3:¬(4:Int)=3:=by decide
   simp only [Q0c,e1,e3,if_false,if_true]
   rw [X06 ks fun q hq=>by
    obtain ⟨j,hj⟩:=List.mem_iff_getElem?.1 hq
    have hjl:=(List.getElem?_eq_some_iff.1 hj).1
    have ha:(Z6 w t c)[j]?=some ((Z6 w t c)[j]'(by omega)):=by simp
    exact X3o d _ q (hk j _ q ha hj)]
   rfl
theorem W46 {fm:Q1→Q0→Q0→List Q0}{fj:Q0→Q0→Option Q0} : ∀ (ts:List Q1) (as:List Q0),(∀ (j:Nat) (t:Q1) (a:Q0),ts[j]?=some t→as[j]?=some a→fm t a a=[])→kmD fm fj ts as as=[]
 | [],_,_=>by simp [kmD]
 | _::_,[],_=>by simp [kmD]
 | t::ts,a::as,h=>by
  simp only [kmD]
  rw [h 0 t a rfl rfl,W46 ts as fun j t a h1 h2=>h (j+1) t a (by simpa using h1) (by simpa using h2)]
  cases fj a a<;>simp
theorem X04 {w:List Q4} : ∀ (d:Nat) (t:Q1) (a:Q0),Z7 w d t a→W0 w d t a a=[]
 | 0,_,_,h=>h.elim
 | d+1,t,a,h=>by
  rcases h with rfl | ⟨n,m,rfl,hd,g0,g1,g2⟩ | ⟨c,ks,rfl,hd,hc,hl,hk⟩
  ·simp [W0]
  ·have e1:¬(3:Int)=1:=by decide
   simp only [W0,e1,if_false,if_true]
   unfold Z1l
   rw [if_neg (by omega),if_neg (by omega)]
   rfl
  ·have e1:¬(4:Int)=1:=by decide
   have e3:¬(4:Int)=3:=by decide
   simp only [W0,e1,e3,if_false]
   unfold cmD
   simp only [if_true]
   rw [W46 _ ks fun j u q h1 h2=>X04 d u q (hk j u q h1 h2)]
   rfl
theorem V8w {w:List Q4}{d x:Nat}{t:Q1}(α:Q0):Cl w d x t (fun p=>p=α):=
 ⟨fun a b ha hb _ pb y hy=>(by subst ha;subst hb;rw [X04 d t _ pb] at hy;cases hy),fun a b ha hb _ pb m hm=>by subst ha;subst hb;rw [X3o d t _ pb] at hm;cases hm;rfl⟩
structure Fam (w:List Q4) (t:Q1) (P:Q0→Prop):Prop where
 mi:∀ a b,P a→P b→Z7 w 11 t a→Z7 w 10 t b→∀ y∈W0 w 10 t a b,P y
 rep:∃ (C:List Q3) (e:Nat),C.length≤400∧(∀ v∈C,Q1j w e t v)∧∀ p,P p→Z7 w 11 t p→W1 w 11 t p=false→∃ v∈C,fitP p v=true
theorem V7x {w:List Q4}(hw:WW w)(hr:WR w){t:Q1}(ht:t∈tys w):Fam w t hgt2:=
 ⟨(Y2l hw (d:=8) (x:=9) (by omega) ht).mi,Z93 w t,12,hr.n2 t ht,fun v hv=>X9w hw hr ht hv,fun p h1 h2 h3=>rep2 hw ht h2 h1 h3⟩
def oneP (w:List Q4)(t:Q1)(c:Int)(K:Nat→Option Q0)(p:Q0):Prop:=∃ ks,p=Q0.mk 4 c 0 0 0 ks∧ks.length=(Z6 w t c).length∧∀ (j:Nat) (q:Q0),ks[j]?=some q→match K j with
 | none=>hgt1 q
 | some α=>q=α
theorem X9z (ns:List Nat):∀ a b,a≤b→ns.foldl (fun a b=>a * max 1 b) a≤ns.foldl (fun a b=>a * max 1 b) b:=by
 induction ns with
 | nil=>intro a b h;exact h
 | cons n ns ih=>intro a b h;rw [List.foldl_cons,List.foldl_cons];exact ih _ _ (Nat.mul_le_mul_right _ h)
theorem Z6o:∀ (ls:List (List Q3)) (ns:List Nat) (out:List (List Q3)),ls.length=ns.length→(∀ (j:Nat) (l:List Q3) (n:Nat),ls[j]?=some l→ns[j]?=some n→l.length≤max 1 n)→(ls.foldl tupV out).length≤ns.foldl (fun a b=>a * max 1 b) out.length
 | [],[],_,_,_=>Nat.le_refl _
 | l::ls,n::ns,out,h,hb=>by
  rw [List.foldl_cons,List.foldl_cons]
  refine Nat.le_trans (Z6o ls ns (tupV out l) (by simpa using h) fun j l n h1 h2=>hb (j+1) l n (by simpa using h1) (by simpa using h2)) (X9z ns _ _ ?_)
  rw [Z2r]
  exact Nat.mul_le_mul_left _ (hb 0 l n rfl rfl)
 | [],_::_,_,h,_=>by simp at h
 | _::_,[],_,h,_=>by simp at h
theorem V30 {w:List Q4}(hw:WW w)(hr:WR w){t:Q1}(ht:t∈tys w){c:Int}(hd:t.data≠-1)(hc:c∈X1 w t)(K:Nat→Option Q0):Fam w t (oneP w t c K):=by
 have hT:=hw.ty t ht
 refine ⟨fun a b ha hb pa pb y hy=>?_,?_⟩
 ·obtain ⟨ks,rfl,hl,hk⟩:=ha
  obtain ⟨ks',rfl,hl',hk'⟩:=hb
  have e1:¬(4:Int)=1:=by decide
  have e3:¬(4:Int)=3:=by decide
  simp only [W0,e1,e3,if_false] at hy
  unfold cmD at hy
  simp only [if_true] at hy
  obtain ⟨zs,hz,rfl⟩:=U10.1 hy
  have pk:∀ (j:Nat) (u:Q1) (q:Q0),(Z6 w t c)[j]?=some u→ks[j]?=some q→Z7 w 10 u q:=by
   rcases pa with h | ⟨_,_,h,_⟩ | ⟨c2,ks2,h,_,_,_,h4⟩
   ·cases h
   ·cases h
   ·cases h;exact h4
  have pk':∀ (j:Nat) (u:Q1) (q:Q0),(Z6 w t c)[j]?=some u→ks'[j]?=some q→Z7 w 9 u q:=by
   rcases pb with h | ⟨_,_,h,_⟩ | ⟨c2,ks2,h,_,_,_,h4⟩
   ·cases h
   ·cases h
   ·cases h;exact h4
  have:=V7n (w:=w) (d:=9) (x:=10) (P:=fun j q=>match K j with
   | none=>hgt1 q
   | some α=>q=α) hl hl' (fun j u a b e1 e2 e3=>⟨hk j a e2,hk' j b e3,pk j u a e1 e2,pk' j u b e1 e3,by
    cases K j with
    | none=>exact V8x hw (d:=8) (x:=9) (by omega) (hT.at_ c hc u (U1 e1))
    | some α=>exact V8w α⟩) zs hz
  exact ⟨zs,rfl,this.1,this.2⟩
 ·have gen:∀ (ts:List Q1) (K:Nat→Option Q0),(∀ a∈ts,a∈tys w)→∃ ls:List (List Q3),ls.length=ts.length∧(∀ (j:Nat) (u:Q1) (l:List Q3),ts[j]?=some u→ls[j]?=some l→l.length≤max 1 (Z1m w u).length∧(∀ v∈l,Q1j w 20 u v)∧
    ∀ q,(match K j with | none=>hgt1 q | some α=>q=α)→Z7 w 10 u q→W1 w 10 u q=false→∃ v∈l,fitP q v=true):=by
   intro ts
   induction ts with
   | nil=>intro K _;exact ⟨[],rfl,fun j u l h=>by simp at h⟩
   | cons a ts ih=>
    intro K hat
    obtain ⟨ls,e1,e2⟩:=ih (fun j=>K (j+1)) fun x hx=>hat x (by simp [hx])
    have hat0:=hat a (by simp)
    have hex:∃ l:List Q3,l.length≤max 1 (Z1m w a).length∧(∀ v∈l,Q1j w 20 a v)∧∀ q,(match K 0 with | none=>hgt1 q | some α=>q=α)→Z7 w 10 a q→W1 w 10 a q=false→∃ v∈l,fitP q v=true:=by
     cases hK:K 0 with
     | none=>exact ⟨Z1m w a,by omega,fun v hv=>Z6c 11 20 a v (by omega) (Z9x hw hr hat0 hv),fun q h1 h2 h3=>rep1 hw hat0 h2 h1 h3⟩
     | some α=>
      by_cases hα:Z7 w 10 a α∧W1 w 10 a α=false
      ·obtain ⟨v,hv,hf⟩:=Z9y hw hr 10 a α hat0 hα.1 hα.2
       exact ⟨[v],by simp only [List.length_singleton];omega,fun x hx=>by simp only [List.mem_singleton] at hx;rw [hx];exact hv,fun q h1 _ _=>⟨v,by simp,by rw [show q=α from h1];exact hf⟩⟩
      ·exact ⟨[],by simp,fun v hv=>by (cases hv),fun q h1 h2 h3=>absurd (by rw [show q=α from h1] at h2 h3;exact ⟨h2,h3⟩) hα⟩
    obtain ⟨l,g1,g2,g3⟩:=hex
    refine ⟨l::ls,by simp [e1],fun j u m h1 h2=>?_⟩
    cases j with
    | zero=>simp only [List.getElem?_cons_zero,Option.some.injEq] at h1 h2;subst h1 h2;exact ⟨g1,g2,g3⟩
    | succ j=>exact e2 j u m (by simpa using h1) (by simpa using h2)
  obtain ⟨ls,e1,e2⟩:=gen (Z6 w t c) K (hT.at_ c hc)
  refine ⟨(ls.foldl tupV [[]]).map (mkV c),21,?_,fun v hv=>?_,fun p hp pp hem=>?_⟩
  ·rw [U7]
   refine Nat.le_trans (Z6o ls ((Z6 w t c).map fun a=>(Z1m w a).length) [[]] (by simp [e1]) fun j l n h1 h2=>?_) (hr.n1 t ht c hc)
   rw [List.getElem?_map,U11] at h2
   obtain ⟨u,hu,rfl⟩:=h2
   exact (e2 j u l hu h1).1
  ·obtain ⟨ks,hks,rfl⟩:=U10.1 hv
   obtain ⟨a,b,ha,rfl,hl,hb⟩:=Z0c _ _ _ hks
   simp only [List.mem_singleton] at ha
   subst ha
   refine X1c hd hc (by simp;omega) fun j u x hu hx=>?_
   have hjl:=(List.getElem?_eq_some_iff.1 hu).1
   have hlj:ls[j]?=some (ls[j]'(by omega)):=by simp
   exact (e2 j u _ hu hlj).2.1 x (hb j x _ (by simpa using hx) hlj)
  ·obtain ⟨ks,rfl,hl,hk⟩:=hp
   have pk:∀ (j:Nat) (u:Q1) (q:Q0),(Z6 w t c)[j]?=some u→ks[j]?=some q→Z7 w 10 u q:=by
    rcases pp with h | ⟨_,_,h,_⟩ | ⟨c2,ks2,h,_,_,_,h4⟩
    ·cases h
    ·cases h
    ·cases h;exact h4
   have gen2:∀ (ts:List Q1) (ls:List (List Q3)) (ks:List Q0),ls.length=ts.length→ks.length=ts.length→(∀ (j:Nat) (u:Q1) (l:List Q3) (q:Q0),ts[j]?=some u→ls[j]?=some l→ks[j]?=some q→∃ v∈l,fitP q v=true)→
     ∃ vs:List Q3,vs.length=ls.length∧(∀ (j:Nat) (v:Q3) (l:List Q3),vs[j]?=some v→ls[j]?=some l→v∈l)∧fitL ks vs=true:=by
    intro ts
    induction ts with
    | nil=>intro ls ks h1 h2 _;exact ⟨[],by simp at h1;simp [h1],fun j v l h=>by simp at h,by
      simp at h2;rw [h2];exact Z6f⟩
    | cons u ts ih=>
     intro ls ks h1 h2 h
     cases ls with
     | nil=>simp at h1
     | cons l ls=>
      cases ks with
      | nil=>simp at h2
      | cons q ks=>
       obtain ⟨vs,g1,g2,g3⟩:=ih ls ks (by simpa using h1) (by simpa using h2) fun j u l q a1 a2 a3=>h (j+1) u l q (by simpa using a1) (by simpa using a2) (by simpa using a3)
       obtain ⟨v,hv,hf⟩:=h 0 u l q rfl rfl rfl
       refine ⟨v::vs,by simp [g1],fun j x m a1 a2=>?_,by rw [Q66,hf,g3];rfl⟩
       cases j with
       | zero=>simp only [List.getElem?_cons_zero,Option.some.injEq] at a1 a2;subst a1 a2;exact hv
       | succ j=>exact g2 j x m (by simpa using a1) (by simpa using a2)
   obtain ⟨vs,g1,g2,g3⟩:=gen2 (Z6 w t c) ls ks e1 hl fun j u l q a1 a2 a3=>(e2 j u l a1 a2).2.2 q (hk j q a3) (pk j u q a1 a3) (by
    cases hem2:W1 w 10 u q with
    | false=>rfl
    | true=>
     have:W1 w 11 t (Q0.mk 4 c 0 0 0 ks)=true:=Q4b.2 ⟨j,u,q,a1,a3,hem2⟩
     rw [hem] at this
     cases this)
   refine ⟨mkV c vs,List.mem_map_of_mem ?_,by rw [Q2e rfl];simp [mkV,g3]⟩
   have:=Z7g ls [[]] [] vs (by simp) g1 g2
   simpa using this
theorem X9k {w:List Q4}{t:Q1}{P:Q0→Prop}(hF:Fam w t P):∀ (bs l r:List Q0),(∀ b∈bs,P b∧Z7 w 10 t b)→(∀ a∈l,P a∧Z7 w 11 t a∧W1 w 11 t a=false)→Q57 w 10 11 t l bs=some r→∀ y∈r,P y∧Z7 w 11 t y∧W1 w 11 t y=false
 | [],l,r,_,h,e=>by simp only [Q57,Option.some.injEq] at e;subst e;exact h
 | b::bs,l,r,hb,h,e=>by
  simp only [Q57] at e
  split at e
  ·cases e
  ·refine X9k hF bs _ r (fun b hb'=>hb b (by simp [hb'])) (fun y hy=>?_) e
   have hp:=Q7y (d:=10) (x:=11) (by omega) (hb b (by simp)).2 (fun a ha=>(h a ha).2.1) y hy
   unfold Q3b Q6z at hy
   obtain ⟨h1,h2⟩:=List.mem_filter.1 hy
   obtain ⟨a,ha,hya⟩:=List.mem_flatMap.1 h1
   exact ⟨hF.mi a b (h a ha).1 (hb b (by simp)).1 (h a ha).2.1 (hb b (by simp)).2 y hya,hp,by simpa using h2⟩
theorem W36 {w:List Q4}{t:Q1}{P:Q0→Prop}(hF:Fam w t P):∀ (ps bef r:List Q0),(∀ b∈bef,P b∧Z7 w 10 t b)→(∀ p∈ps,P p∧Z7 w 10 t p)→sepP w t bef ps=some r→∀ y∈r,P y∧Z7 w 11 t y∧W1 w 11 t y=false
 | [],_,r,_,_,e=>by simp only [sepP,Option.some.injEq] at e;subst e;simp
 | p::ps,bef,r,hb,hp,e=>by
  simp only [sepP] at e
  cases hm:Q0t w 10 11 t [p] bef with
  | none=>rw [hm] at e;simp at e
  | some m=>
   rw [hm] at e
   simp only [U0,U11] at e
   obtain ⟨r2,h2,rfl⟩:=e
   intro y hy
   rcases List.mem_append.1 hy with hy | hy
   ·refine X9k hF bef _ m hb (fun a ha=>?_) hm y hy
    obtain ⟨h3,h4⟩:=List.mem_filter.1 ha
    simp only [List.mem_singleton] at h3
    subst h3
    exact ⟨(hp a (by simp)).1,Q5y 10 t a (hp a (by simp)).2,by simpa using h4⟩
   ·exact W36 hF ps (bef++[p]) r2 (fun b hb'=>by
     rcases List.mem_append.1 hb' with h | h
     ·exact hb b h
     ·simp only [List.mem_singleton] at h;rw [h];exact hp p (by simp)) (fun q hq=>hp q (by simp [hq])) h2 y hy
theorem V1x {w:List Q4}(hw:WW w)(he:WE w){t:Q1}(ht:t∈tys w){P:Q0→Prop}(hF:Fam w t P){ps r:List Q0}(hp:∀ p∈ps,P p∧Z7 w 10 t p)(h:sepP w t [] ps=some r):r.length≤400:=by
 obtain ⟨C,e,h1,h2,h3⟩:=hF.rep
 have h4:=W36 hF ps [] r (by simp) hp h
 exact Nat.le_trans (W1n h2 (X84 hw he ht ps [] r (by simp) (fun p hp'=>(hp p hp').2) h) fun p hp'=>h3 p (h4 p hp').1 (h4 p hp').2.1 (h4 p hp').2.2) h1
theorem W2t:∀ (ls:List (List Q0)) (out:List (List Q0)) (ks:List Q0),ks∈ls.foldl tupD out→
  ∃ a b,a∈out∧ks=a++b∧b.length=ls.length∧∀ (i:Nat) (q:Q0) (l:List Q0),b[i]?=some q→ls[i]?=some l→q∈l
 | [],out,ks,h=>⟨ks,[],by simpa using h,by simp,rfl,by simp⟩
 | l::ls,out,ks,h=>by
  rw [List.foldl_cons] at h
  obtain ⟨a,b,ha,rfl,hl,hb⟩:=W2t ls (tupD out l) ks h
  simp only [tupD,List.mem_flatMap,U10] at ha
  obtain ⟨a0,h0,c,hc,rfl⟩:=ha
  refine ⟨a0,c::b,h0,by simp,by simp [hl],fun i q m h1 h2=>?_⟩
  cases i with
  | zero=>simp at h1 h2;subst h1 h2;exact hc
  | succ i=>exact hb i q m (by simpa using h1) (by simpa using h2)
theorem Q7z {d:Nat}{p q:Q0}(h:q∈Z3 (d+1) p):(p.op=5∧∃ x∈p.kids,q∈Z3 d x)∨
  (p.op≠5∧∃ ks,q=Q8r p ks∧ks.length=p.kids.length∧∀ (i:Nat) (y x:Q0),ks[i]?=some y→p.kids[i]?=some x→y∈Z3 d x):=by
 simp only [Z3] at h
 split at h
 ·rename_i h5
  obtain ⟨x,hx,hq⟩:=List.mem_flatMap.1 h
  exact .inl ⟨h5,x,hx,hq⟩
 ·rename_i h5
  obtain ⟨ks,hks,rfl⟩:=U10.1 h
  obtain ⟨a,b,ha,rfl,hl,hb⟩:=W2t _ _ ks hks
  simp only [List.mem_singleton] at ha
  subst ha
  refine .inr ⟨h5,b,by simp,by simpa using hl,fun i y x hy hx=>?_⟩
  exact hb i y (Z3 d x) hy (by rw [List.getElem?_map,hx];rfl)
def Par {α:Type}(x:Option α)(Q:α→Prop):Prop:=∀ a,x=some a→Q a
theorem Par.some {α:Type}{a:α}{Q:α→Prop}(h:Q a):Par (some a) Q:=fun b e=>by cases e;exact h
theorem Par.none {α:Type}{Q:α→Prop} : Par (none:Option α) Q:=fun b e=>by cases e
theorem Par.bind {α β:Type}{x:Option α}{f:α→Option β}{P:α→Prop}{Q:β→Prop}(hx:Par x P)(hf:∀ a,P a→Par (f a) Q):Par (x.bind f) Q:=fun b e=>by
 cases hx':x with
 | none=>rw [hx'] at e;cases e
 | some a=>rw [hx'] at e;exact hf a (hx a hx') b e
theorem Par.any {α β:Type}{x:Option α}{f:α→Option β}{Q:β→Prop}(hf:∀ a,Par (f a) Q):Par (x.bind f) Q:=Par.bind (P:=fun _=>True) (fun _ _=>trivial) fun a _=>hf a
theorem Par.ite {α:Type}{b:Bool}{x y:Option α}{Q:α→Prop}(h1:b=true→Par x Q)(h2:b=false→Par y Q):Par (if b=true then x else y) Q:=by
 cases b with
 | true=>exact h1 rfl
 | false=>exact h2 rfl
theorem Par.mono {α:Type}{x:Option α}{P Q:α→Prop}(h:∀ a,P a→Q a)(hx:Par x P):Par x Q:=fun a e=>h a (hx a e)
theorem Par.ctl {ρ σ τ:Type}{x:Option (Ctl ρ σ)}{g:Ctl ρ σ→Option τ}{R:ρ→Prop}{B:σ→Prop}{Q:τ→Prop}(h:Par x (CtlQ R B))(hr:∀ r,R r→Par (g (.ret r)) Q)(hb:∀ s,B s→Par (g (.brk s)) Q):Par (x.bind g) Q:=
 Par.bind h fun a ha=>by
  cases a with
  | ret r=>exact hr r ha
  | brk s=>exact hb s ha
  | go s=>exact ha.elim
theorem Z3t {α σ ρ:Type}{f:Nat→α→σ→Option (Ctl ρ σ)}(I:Nat→σ→Prop)(R:ρ→Prop)(B:σ→Prop):∀ (xs:List α) (i:Nat) (s0:σ),I i s0→(∀ k x s,x∈xs→I k s→Par (f k x s) (RndQ R B (I (k+1))))→(∀ s,I (i+xs.length) s→B s)→Par (forL f i xs s0) (CtlQ R B)
 | [],i,s0,h0,_,hb=>by
  unfold forL
  exact .some (hb s0 (by simpa using h0))
 | x::xs,i,s0,h0,st,hb=>by
  unfold forL
  have h1:=st i x s0 (by simp) h0
  intro a e
  cases hf:f i x s0 with
  | none=>rw [hf] at e;cases e
  | some o=>
   rw [hf] at e
   have h2:=h1 o hf
   cases o with
   | ret r=>cases e;exact h2
   | brk s=>cases e;exact h2
   | go s=>exact Z3t I R B xs (i+1) s h2 (fun k y s hy=>st k y s (by simp [hy])) (fun s hs=>hb s (by simpa [Nat.add_assoc,Nat.add_comm 1] using hs)) a e
theorem Ret.both {α:Type}{x:Option α}{P Q:α→Prop}(h:Ret x P)(k:Par x Q):Ret x (fun a=>P a∧Q a):=by
 obtain ⟨a,e,hp⟩:=h
 exact ⟨a,e,hp,k a e⟩
theorem X1v {α:Type}(xs ys:List α):Par (app xs ys) (fun z=>z=xs++ys):=fun z hz=>by
 unfold app at hz
 split at hz
 ·cases hz;rfl
 ·cases hz
theorem W3v (r:Z0)(l:List Int):Par (W2 r l) (fun a=>a.1∈l):=by
 unfold W2
 refine Par.any fun a=>?_
 refine Par.bind (P:=fun x=>x∈l) (fun x hx=>?_) (fun x hx=>.some hx)
 unfold idx at hx
 split at hx
 ·exact U1 hx
 ·cases hx
def lvB:Nat→Q0→Prop
 | 0,p=>p.op=1
 | m+1,p=>p.op=1∨p.op=3∨((p.op=4∨p.op=5)∧∀ q∈p.kids,lvB m q)
theorem X3r {m:Nat}{p:Q0}(h:p.op=1):lvB m p:=by
 cases m with
 | zero=>exact h
 | succ m=>exact .inl h
theorem W42:∀ {m:Nat} {p:Q0},lvB m p→lvB (m+1) p
 | 0,_,h=>.inl h
 | m+1,_,h=>by
  rcases h with h | h | ⟨h,k⟩
  ·exact .inl h
  ·exact .inr (.inl h)
  ·exact .inr (.inr ⟨h,fun q hq=>W42 (k q hq)⟩)
theorem Z04:∀ (D:Nat) {m:Nat} {p:Q0},lvB m p→lvB m (W7 D p)
 | 0,_,_,h=>h
 | D+1,m,p,h=>by
  have hop:p.op≠2∧p.op≠6:=by
   cases m with
   | zero=>have:p.op=1:=h;omega
   | succ m=>rcases h with h | h | ⟨h | h,_⟩<;>omega
  rw [W7,if_neg hop.1,if_neg (fun hh=>hop.2 hh.1)]
  cases m with
  | zero=>exact h
  | succ m=>
   rcases h with h | h | ⟨h,k⟩
   ·exact .inl h
   ·exact .inr (.inl h)
   ·refine .inr (.inr ⟨h,fun q hq=>?_⟩)
    obtain ⟨x,hx,rfl⟩:=U10.1 hq
    exact Z04 D (k x hx)
theorem Z2y {d:Nat}{q:Q0}(h:q∈Z3 d (Q0.mk 1 0 0 0 0 [])):q=Q0.mk 1 0 0 0 0 []:=by
 cases d with
 | zero=>simp [Z3] at h
 | succ d=>simpa [Z3,Q8r] using h
theorem X1w {w:List Q4}{d:Nat}{t:Q1}{p:Q0}(h:altD w d t p)(h1:p.op=1):p=Q0.mk 1 0 0 0 0 []:=by
 cases d with
 | zero=>exact h.elim
 | succ d=>
  rcases h with h | ⟨n,m,rfl,_⟩ | ⟨c,ks,rfl,_⟩ | ⟨a,b,rfl,_⟩
  ·exact h
  ·simp at h1
  ·simp at h1
  ·simp at h1
def oneS (d:Nat)(p:Q0):Prop:=∃ α,∀ q∈Z3 d p,q=α
theorem X3g {d:Nat}{p:Q0}(h5:p.op≠5)(h:∀ x∈p.kids,oneS d x):oneS (d+1) p:=by
 have gen:∀ ks:List Q0,(∀ x∈ks,oneS d x)→∃ as:List Q0,as.length=ks.length∧∀ (i:Nat) (x a y:Q0),ks[i]?=some x→as[i]?=some a→y∈Z3 d x→y=a:=by
  intro ks
  induction ks with
  | nil=>intro _;exact ⟨[],rfl,fun i x a y h=>by simp at h⟩
  | cons k ks ih=>
   intro h
   obtain ⟨as,e1,e2⟩:=ih fun x hx=>h x (by simp [hx])
   obtain ⟨α,hα⟩:=h k (by simp)
   refine ⟨α::as,by simp [e1],fun i x a y h1 h2 h3=>?_⟩
   cases i with
   | zero=>simp only [List.getElem?_cons_zero,Option.some.injEq] at h1 h2;subst h1 h2;exact hα y h3
   | succ i=>exact e2 i x a y (by simpa using h1) (by simpa using h2) h3
 obtain ⟨as,e1,e2⟩:=gen p.kids h
 refine ⟨Q8r p as,fun q hq=>?_⟩
 rcases Q7z hq with ⟨h,_⟩ | ⟨_,ks,rfl,hl,hk⟩
 ·exact absurd h h5
 ·congr 1
  refine List.ext_getElem? fun i=>?_
  by_cases hi:i<ks.length
  ·have h1:ks[i]?=some (ks[i]):=U9 hi
   have h2:p.kids[i]?=some (p.kids[i]'(by omega)):=U9 (by omega)
   have h3:as[i]?=some (as[i]'(by omega)):=U9 (by omega)
   rw [h1,h3,e2 i _ _ _ h2 h3 (hk i _ _ h1 h2)]
  ·rw [List.getElem?_eq_none (by omega),List.getElem?_eq_none (by omega)]
theorem Q7o {w:List Q4}{d:Nat}{t:Q1}{p x:Q0}(h:altD w (d+1) t p)(hx:x∈p.kids):∃ u,altD w d u x:=by
 rcases h with rfl | ⟨n,m,rfl,_⟩ | ⟨c,ks,rfl,_,_,hl,hk⟩ | ⟨a,b,rfl,h1,h2⟩
 ·cases hx
 ·cases hx
 ·obtain ⟨j,hj⟩:=List.mem_iff_getElem?.1 hx
  have hjl:=(List.getElem?_eq_some_iff.1 hj).1
  simp only at hjl hj
  have ha:(Z6 w t c)[j]?=some ((Z6 w t c)[j]'(by omega)):=by simp
  exact ⟨_,hk j _ x ha hj⟩
 ·simp only [U8,List.not_mem_nil,or_false] at hx
  rcases hx with rfl | rfl
  ·exact ⟨t,h1⟩
  ·exact ⟨t,h2⟩
theorem Z6i {w:List Q4}{d:Nat}{t:Q1}{p:Q0}(h:altD w d t p)(h4:p.op≠4)(h5:p.op≠5):p.kids=[]:=by
 cases d with
 | zero=>exact h.elim
 | succ d=>
  rcases h with rfl | ⟨n,m,rfl,_⟩ | ⟨c,ks,rfl,_⟩ | ⟨a,b,rfl,_⟩
  ·rfl
  ·rfl
  ·simp at h4
  ·simp at h5
theorem W43 {w:List Q4}{d:Nat}{t:Q1}{p:Q0}(h:altD w d t p)(l:lvB 1 p):∀ q∈Z3 d p,hgt1 q:=fun q hq=>by
 cases d with
 | zero=>exact h.elim
 | succ d=>
 rcases Q7z hq with ⟨h5,x,hx,hqx⟩ | ⟨h5,ks,rfl,hl,hk⟩
 ·rcases l with l | l | ⟨_,l⟩
  ·omega
  ·omega
  ·obtain ⟨u,hu⟩:=Q7o h hx
   rw [X1w hu (l x hx)] at hqx
   rw [Z2y hqx]
   exact .inl rfl
 ·rcases l with l | l | ⟨l | l,k⟩
  ·exact .inl l
  ·exact .inr (.inl l)
  ·refine .inr (.inr ⟨l,fun y hy=>?_⟩)
   obtain ⟨i,hi⟩:=List.mem_iff_getElem?.1 hy
   simp only [Q8r] at hi
   have hil:=(List.getElem?_eq_some_iff.1 hi).1
   have h2:p.kids[i]?=some (p.kids[i]'(by omega)):=U9 (by omega)
   have hxm:=U1 h2
   obtain ⟨u,hu⟩:=Q7o h hxm
   have:=hk i _ _ hi h2
   rw [X1w hu (k _ hxm)] at this
   rw [Z2y this]
  ·omega
theorem V2f {w:List Q4}{d:Nat}{t:Q1}{p:Q0}(h:altD w d t p)(l:lvB 1 p):oneS d p:=by
 cases d with
 | zero=>exact h.elim
 | succ d=>
 by_cases h5:p.op=5
 ·refine ⟨Q0.mk 1 0 0 0 0 [],fun q hq=>?_⟩
  rcases Q7z hq with ⟨_,x,hx,hqx⟩ | ⟨h6,_⟩
  ·rcases l with l | l | ⟨_,l⟩
   ·omega
   ·omega
   ·obtain ⟨u,hu⟩:=Q7o h hx
    rw [X1w hu (l x hx)] at hqx
    exact Z2y hqx
  ·exact absurd h5 h6
 ·refine X3g h5 fun x hx=>?_
  rcases l with l | l | ⟨l | l,k⟩
  ·rw [Z6i h (by omega) h5] at hx;cases hx
  ·rw [Z6i h (by omega) h5] at hx;cases hx
  ·obtain ⟨u,hu⟩:=Q7o h hx
   rw [X1w hu (k x hx)]
   exact ⟨_,fun q hq=>Z2y hq⟩
  ·omega
theorem V7h {w:List Q4}{d:Nat}{t:Q1}{p:Q0}(h:altD w d t p)(l:lvB 2 p):∀ q∈Z3 d p,hgt2 q:=fun q hq=>by
 cases d with
 | zero=>exact h.elim
 | succ d=>
 rcases Q7z hq with ⟨h5,x,hx,hqx⟩ | ⟨h5,ks,rfl,hl,hk⟩
 ·rcases l with l | l | ⟨_,l⟩
  ·omega
  ·omega
  ·obtain ⟨u,hu⟩:=Q7o h hx
   exact V7t (W43 hu (l x hx) q hqx)
 ·rcases l with l | l | ⟨l | l,k⟩
  ·exact .inl l
  ·exact .inr (.inl l)
  ·refine .inr (.inr ⟨l,fun y hy=>?_⟩)
   obtain ⟨i,hi⟩:=List.mem_iff_getElem?.1 hy
   simp only [Q8r] at hi
   have hil:=(List.getElem?_eq_some_iff.1 hi).1
   have h2:p.kids[i]?=some (p.kids[i]'(by omega)):=U9 (by omega)
   have hxm:=U1 h2
   obtain ⟨u,hu⟩:=Q7o h hxm
   exact W43 hu (k _ hxm) y (hk i _ _ hi h2)
  ·omega
theorem V2e {w:List Q4}{d:Nat}{t:Q1}{p:Q0}(h:altD w d t p)(l:lvB 2 p):∃ k:Option Q0,∀ q∈Z3 d p,match k with
  | none=>hgt1 q
  | some α=>q=α:=by
 cases d with
 | zero=>exact h.elim
 | succ d=>
 by_cases h5:p.op=5
 ·refine ⟨none,fun q hq=>?_⟩
  rcases Q7z hq with ⟨_,x,hx,hqx⟩ | ⟨h6,_⟩
  ·rcases l with l | l | ⟨_,l⟩
   ·omega
   ·omega
   ·obtain ⟨u,hu⟩:=Q7o h hx
    exact W43 hu (l x hx) q hqx
  ·exact absurd h5 h6
 ·have:oneS (d+1) p:=X3g h5 fun x hx=>by
   rcases l with l | l | ⟨l | l,k⟩
   ·rw [Z6i h (by omega) h5] at hx;cases hx
   ·rw [Z6i h (by omega) h5] at hx;cases hx
   ·obtain ⟨u,hu⟩:=Q7o h hx
    exact V2f hu (k x hx)
   ·omega
  obtain ⟨α,hα⟩:=this
  exact ⟨some α,hα⟩
def V9e (w:List Q4)(t:Q1)(l:List Q0):Prop:=(∀ q∈l,hgt2 q)∨∃ (c:Int) (K:Nat→Option Q0),t.data≠-1∧c∈X1 w t∧∀ q∈l,oneP w t c K q
theorem V7q {w:List Q4}(hw:WW w)(hr:WR w){t:Q1}(ht:t∈tys w){l:List Q0}(h:V9e w t l):∃ P,Fam w t P∧∀ q∈l,P q:=by
 rcases h with h | ⟨c,K,hd,hc,h⟩
 ·exact ⟨hgt2,V7x hw hr ht,h⟩
 ·exact ⟨oneP w t c K,V30 hw hr ht hd hc K,h⟩
theorem V7g {w:List Q4}{t:Q1}{p:Q0}(h:altD w 10 t p)(l:lvB 3 p):V9e w t (Z3 10 p):=by
 by_cases h4:p.op=4
 ·rcases h with rfl | ⟨n,m,rfl,_⟩ | ⟨c,ks,rfl,hd,hc,hl,hk⟩ | ⟨a,b,rfl,_⟩
  ·simp at h4
  ·simp at h4
  ·have lk:∀ q∈ks,lvB 2 q:=by
    rcases l with l | l | ⟨_,l⟩
    ·simp at l
    ·simp at l
    ·exact l
   have hex:∀ j:Nat,∃ k:Option Q0,∀ x,ks[j]?=some x→∀ q∈Z3 9 x,match k with
     | none=>hgt1 q
     | some α=>q=α:=fun j=>by
    cases hj:ks[j]? with
    | none=>exact ⟨none,fun x hx=>by cases hx⟩
    | some x=>
     have hjl:=(List.getElem?_eq_some_iff.1 hj).1
     have ha:(Z6 w t c)[j]?=some ((Z6 w t c)[j]'(by omega)):=by simp
     obtain ⟨k,hk2⟩:=V2e (hk j _ x ha hj) (lk x (U1 hj))
     exact ⟨k,fun y hy=>by cases hy;exact hk2⟩
   obtain ⟨K,hK⟩:=Classical.axiomOfChoice hex
   refine .inr ⟨c,K,hd,hc,fun q hq=>?_⟩
   rcases Q7z hq with ⟨h5,_⟩ | ⟨_,zs,rfl,hzl,hz⟩
   ·simp at h5
   ·refine ⟨zs,rfl,by simp only at hzl;omega,fun j y hy=>?_⟩
    have hjl:=(List.getElem?_eq_some_iff.1 hy).1
    simp only at hzl
    have h2:ks[j]?=some (ks[j]'(by omega)):=U9 (by omega)
    exact hK j _ h2 y (hz j y _ hy h2)
  ·simp at h4
 ·refine .inl fun q hq=>?_
  rcases Q7z hq with ⟨h5,x,hx,hqx⟩ | ⟨h5,ks,rfl,hl,hk⟩
  ·rcases l with l | l | ⟨_,l⟩
   ·omega
   ·omega
   ·obtain ⟨u,hu⟩:=Q7o h hx
    exact V7h hu (l x hx) q hqx
  ·rcases l with l | l | ⟨l | l,_⟩
   ·exact .inl l
   ·exact .inr (.inl l)
   ·exact absurd l h4
   ·exact absurd l h5
theorem V2d {w:List Q4}(hw:WW w)(hr:WR w){t:Q1}(ht:t∈tys w){p:Q0}(h:altD w 10 t p)(l:lvB 3 p):∃ P,Fam w t P∧∀ q∈Z3 10 p,P q:=V7q hw hr ht (V7g h l)
theorem W9l:∀ (m n:Nat) (r:Z0) (w:List Q4) (t:Q1) (depth:Int),depth≤m+1→-1000+m≤depth→m≤100→Par (Q15 n r w t depth) (fun a=>lvB m a.1):=by
 intro m
 induction m with
 | zero=>
  intro n r w t depth h1 _ _
  cases n with
  | zero=>exact .none
  | succ n=>
   unfold Q15
   rw [if_pos (by rw [Z9];omega)]
   exact .some rfl
 | succ m ih=>
  intro n r w t depth h1 h2 h3
  cases n with
  | zero=>exact .none
  | succ n=>
  unfold Q15
  have hws:wsub .i64 depth 1=depth-1:=Q3z (by omega) (by omega)
  rw [hws]
  refine Par.ite (fun _=>.some (.inl rfl)) (fun _=>?_)
  refine Par.any fun a=>Par.ite (fun _=>.some (.inl rfl)) (fun _=>?_)
  refine Par.any fun b=>Par.ite (fun _=>?_) (fun _=>?_)
  ·refine Par.bind (ih n b.2 w t (depth-1) (by omega) (by omega) (by omega)) (fun c hc=>?_)
   refine Par.bind (ih n c.2 w t (depth-1) (by omega) (by omega) (by omega)) (fun d hd=>.some (.inr (.inr ⟨.inr rfl,fun q hq=>?_⟩)))
   simp only [U8,List.not_mem_nil,or_false] at hq
   rcases hq with rfl | rfl
   ·exact hc
   ·exact hd
  ·refine Par.ite (fun _=>?_) (fun _=>?_)
   ·exact Par.any fun c=>Par.any fun d=>Par.any fun e=>.some (.inr (.inl rfl))
   ·refine Par.any fun c=>Par.ite (fun _=>.some (.inl rfl)) (fun _=>?_)
    refine Par.any fun d=>Par.any fun e=>Par.any fun f=>?_
    refine Par.ctl (Z3t (fun _ (s:Z0×List Q0)=>∀ q∈s.2,lvB m q) (fun _=>False) (fun s=>∀ q∈s.2,lvB m q) f 0 _ (by simp) (fun k x s _ hI=>?_) (fun s hs=>hs)) (fun r hr=>hr.elim) (fun s hs=>.some (.inr (.inr ⟨.inl rfl,hs⟩)))
    refine Par.bind (ih n s.1 w x (depth-1) (by omega) (by omega) (by omega)) (fun b hb=>?_)
    refine Par.bind (P:=fun y=>y=s.2++[b.1]) (fun y hy=>?_) (fun y hy=>.some ?_)
    ·unfold app at hy
     split at hy
     ·cases hy;rfl
     ·cases hy
    ·subst hy
     simp only [Q2r]
     intro q hq
     rcases List.mem_append.1 hq with hq | hq
     ·exact hI q hq
     ·simp only [List.mem_singleton] at hq;rw [hq];exact hb
theorem X4y {D:Nat}{op c n m v:Int}{ks:List Q0}(h2:op≠2)(h6:op≠6):W7 (D+1) (Q0.mk op c n m v ks)=Q0.mk op c n m v (ks.map (W7 D)):=by
 rw [W7,if_neg h2,if_neg (fun hh=>h6 hh.1)]
theorem W7r:∀ (m n:Nat) (r:Z0) (p:Q0) (v:Int),lvB m p→Par (Q2i n r p v) (fun a=>∀ D,2 * (m+1)≤D→lvB m (W7 D a.1)):=by
 intro m
 induction m with
 | zero=>
  intro n r p v h
  have h1:p.op=1:=h
  cases n with
  | zero=>exact .none
  | succ n=>
  unfold Q2i
  refine Par.ite (fun _=>.some fun D _=>Z04 D h) (fun _=>?_)
  refine Par.ite (fun _=>.some fun D _=>Z04 D h) (fun _=>?_)
  refine Par.ite (fun _=>.some fun D _=>Z04 D h) (fun _=>?_)
  refine Par.ctl (R:=fun (a:Q0×Int×Z0)=>∀ D,2 * (0+1)≤D→lvB 0 (W7 D a.1)) (B:=fun _=>True) ?_ (fun a ha=>.some ha) (fun s _=>?_)
  ·refine Par.ite (fun _=>?_) (fun _=>.some trivial)
   refine Par.any fun a=>Par.ite (fun _=>.some fun D hD=>?_) (fun _=>.some trivial)
   obtain ⟨D,rfl⟩:∃ k,D=k+1:=⟨D-1,by omega⟩
   simp [W7,lvB]
  ·refine Par.ctl (Z3t (fun _ _=>True) (fun _=>False) (fun _=>True) p.kids 0 _ trivial (fun k x s _ _=>Par.any fun a=>Par.any fun b=>.some trivial) (fun _ _=>trivial)) (fun r hr=>hr.elim) (fun u _=>?_)
   refine Par.ctl (R:=fun (a:Q0×Int×Z0)=>∀ D,2 * (0+1)≤D→lvB 0 (W7 D a.1)) (B:=fun _=>True) ?_ (fun a ha=>.some ha) (fun s _=>.some fun D hD=>?_)
   ·refine Par.ite (fun _=>?_) (fun _=>.some trivial)
    refine Par.any fun a=>Par.ite (fun _=>.some fun D hD=>?_) (fun _=>.some trivial)
    obtain ⟨D,rfl⟩:∃ k,D=k+2:=⟨D-2,by omega⟩
    rw [h1]
    simp [W7,lvB]
   ·obtain ⟨D,rfl⟩:∃ k,D=k+1:=⟨D-1,by omega⟩
    rw [h1,X4y (by decide) (by decide)]
    exact rfl
 | succ m ih=>
  intro n r p v h
  cases n with
  | zero=>exact .none
  | succ n=>
  unfold Q2i
  refine Par.ite (fun _=>.some fun D _=>Z04 D h) (fun _=>?_)
  refine Par.ite (fun _=>.some fun D _=>Z04 D h) (fun h5=>?_)
  refine Par.ite (fun _=>.some fun D _=>Z04 D h) (fun h3=>?_)
  rw [X0] at h5 h3
  refine Par.ctl (R:=fun (a:Q0×Int×Z0)=>∀ D,2 * (m+1+1)≤D→lvB (m+1) (W7 D a.1)) (B:=fun _=>True) ?_ (fun a ha=>.some ha) (fun s _=>?_)
  ·refine Par.ite (fun _=>?_) (fun _=>.some trivial)
   refine Par.any fun a=>Par.ite (fun _=>.some fun D hD=>?_) (fun _=>.some trivial)
   obtain ⟨D,rfl⟩:∃ k,D=k+1:=⟨D-1,by omega⟩
   simp [W7,lvB]
  ·refine Par.ctl (Z3t (fun _ (u:Z0×List Q0×Int)=>p.op=1∨∀ q∈u.2.1,∀ D,2 * (m+1)≤D→lvB m (W7 D q)) (fun _=>False) (fun u=>p.op=1∨∀ q∈u.2.1,∀ D,2 * (m+1)≤D→lvB m (W7 D q)) p.kids 0 _ (by simp) (fun k x u hx hI=>?_) (fun _ hI=>hI)) (fun r hr=>hr.elim) (fun u hu=>?_)
   ·rcases h with h | h | ⟨_,hk⟩
    ·exact Par.any fun a=>Par.any fun b=>.some (.inl h)
    ·exact absurd h h3
    ·refine Par.bind (ih n u.1 x u.2.2 (hk x hx)) (fun a ha=>?_)
     refine Par.bind (X1v _ _) (fun b hb=>.some ?_)
     subst hb
     simp only [Q2r]
     rcases hI with hI | hI
     ·exact .inl hI
     ·refine .inr fun q hq=>?_
      rcases List.mem_append.1 hq with hq | hq
      ·exact hI q hq
      ·simp only [List.mem_singleton] at hq;rw [hq];exact ha
   ·have hop:p.op=1∨p.op=4:=by rcases h with h | h | ⟨h | h,_⟩<;>omega
    have hnode:∀ D,2 * (m+1)+1≤D→lvB (m+1) (W7 D (Q0.mk p.op p.ctor p.n p.m p.var u.2.1)):=fun D hD=>by
     obtain ⟨D,rfl⟩:∃ k,D=k+1:=⟨D-1,by omega⟩
     rw [X4y (by omega) (by omega)]
     rcases hop with h1 | h4
     ·exact .inl h1
     ·rcases hu with hu | hu
      ·omega
      ·refine .inr (.inr ⟨.inl h4,fun q hq=>?_⟩)
       obtain ⟨x,hx,rfl⟩:=U10.1 hq
       exact hu x hx D (by omega)
    refine Par.ctl (R:=fun (a:Q0×Int×Z0)=>∀ D,2 * (m+1+1)≤D→lvB (m+1) (W7 D a.1)) (B:=fun _=>True) ?_ (fun a ha=>.some ha) (fun s _=>.some fun D hD=>hnode D (by omega))
    refine Par.ite (fun _=>?_) (fun _=>.some trivial)
    refine Par.any fun a=>Par.ite (fun _=>.some fun D hD=>?_) (fun _=>.some trivial)
    obtain ⟨D,rfl⟩:∃ k,D=k+1:=⟨D-1,by omega⟩
    have:=hnode D (by omega)
    rw [W7]
    simpa using this
theorem W7e (r:Z0)(w:List Q4)(t:Q1):Par (Q4j NN r w t) (fun a=>lvB 3 (W7 10 a.1)):=by
 unfold Q4j
 refine Par.bind (W3v r _) (fun a ha=>?_)
 refine Par.bind (W9l 3 NN a.2 w t a.1 (by simp at ha;omega) (by simp at ha;omega) (by omega)) (fun b hb=>?_)
 refine Par.bind (W7r 3 NN b.2 b.1 0 hb) (fun c hc=>Par.any fun d=>Par.ite (fun _=>.some ?_) (fun _=>.some (hc 10 (by omega))))
 exact Z04 10 (X3r rfl)
theorem W80 {w:List Q4}(hw:WW w){r:Z0}{t:Q1}(ht:t∈tys w)(h:ROk r 2600):Ret (Q4i NN r w t) (fun a=>(∀ c∈a.1,Q0u w t c.pat=true)∧a.1.length≤5∧Nx r a.2 2600):=by
 unfold Q4i
 refine Ret.bind (Z06 (h.le (by omega)) [3,2,4,5,1,0] (by simp) (by simp)) (fun a ha=>?_)
 have hr1:ROk a.2 2599:=ROk.nx (c:=1) h ha.2
 have hd:0≤a.1∧a.1≤5:=by
  have:=ha.1
  simp at this
  omega
 refine Ret.ctl (Q4f (fun s=>0≤s.2.2∧s.2.2≤5∧(s.2.1.length:Int)+s.2.2=a.1∧(∀ c∈s.2.1,Q0u w t c.pat=true)∧Nx a.2 s.1 (s.2.1.length * 500)) (fun s=>s.2.2.toNat) (fun _=>False) (fun s=>s.2.1.length≤5∧(∀ c∈s.2.1,Q0u w t c.pat=true)∧Nx a.2 s.1 2500)
  ⟨hd.1,hd.2,by simp,by simp,by simpa using Nx.refl a.2⟩ (fun s hI=>?_) NN (by have:=hd;show (a.1).toNat<30000000;omega)) (fun r hr=>hr.elim) (fun s hs=>.some ⟨hs.2.1,hs.1,(ha.2.trans hs.2.2).le' (by omega)⟩)
 obtain ⟨i1,i2,i3,i4,i5⟩:=hI
 refine Ret.ite (fun h=>?_) (fun h=>?_)
 ·rw [Z9] at h
  have hr2:ROk s.1 500:=ROk.nx (c:=s.2.1.length * 500) (hr1.le (by omega)) i5
  refine Ret.bind (W1s hw ht hr2) (fun b hb=>?_)
  rw [W5 (by simp only [Q7,U3,U4];omega)]
  have hws:wsub .i64 s.2.2 1=s.2.2-1:=Q3z (by omega) (by omega)
  simp only [U0]
  rw [hws]
  refine .some ⟨⟨by simp only;omega,by simp only;omega,by simp;omega,fun c hc=>?_,?_⟩,by simp only;omega⟩
  ·rcases List.mem_append.1 hc with hc | hc
   ·exact i4 c hc
   ·simp at hc;subst hc;exact hb.1
  ·have:=i5.trans hb.2
   simp only [U5,U3,U4]
   exact this.le' (by omega)
 ·exact .some ⟨by simp only;omega,i4,i5.le' (by omega)⟩
theorem X2k {r:Z0}(h:ROk r 5000):Ret (Q3q NN r) (fun a=>a.1∈Q0a∧a.2.1∈tys a.1∧(∀ c∈a.2.2.1,Q0u a.1 a.2.1 c.pat=true)∧a.2.2.1.length≤5∧Nx r a.2.2.2.2 4000):=by
 unfold Q3q
 refine Ret.bind (W2p (h.le (by omega))) (fun a ha=>?_)
 obtain ⟨h1,h2,h3⟩:=ha
 refine Ret.bind (W80 (ww h1) h2 (ROk.nx (c:=500) (h.le (by omega)) h3)) (fun b hb=>?_)
 exact .some ⟨h1,h2,hb.1,hb.2.1,(h3.trans hb.2.2).le' (by omega)⟩
theorem X02 (code:List Int)(hb:∀ x∈code,0≤x∧x≤255):Ret (W9 NN code) (fun a=>a.1∈Q0a∧a.2.1∈tys a.1∧a.2.2.length≤9):=by
 unfold W9
 refine Ret.bind (X0w code hb) (fun r hr=>?_)
 refine Ret.bind (X2k (hr.le (by omega))) (fun a ha=>?_)
 obtain ⟨h1,h2,h3,h4,h5⟩:=ha
 have hr1:ROk a.2.2.2.2 1000:=ROk.nx (c:=4000) (hr.le (by omega)) h5
 refine Ret.ctl (R:=fun _=>False) (B:=fun (s:Z0×List Q5)=>ROk s.1 100∧s.2.length≤8∧∀ c∈s.2,c.pat.kids.length≤100) ?_ (fun r hr=>hr.elim) (fun s hs=>?_)
 ·have hk:∀ c∈a.2.2.1,c.pat.kids.length≤100:=fun c hc=>by have:=X9q (ww h1) h2 (h3 c hc);omega
  refine Ret.ite (fun _=>?_) (fun _=>.some ⟨hr1.le (by omega),by simp only;omega,hk⟩)
  refine Ret.bind (Q3o (hr1.le (by omega)) (by omega) (by omega)) (fun b hb=>?_)
  have hr2:ROk b.2 999:=ROk.nx (c:=1) hr1 hb.2.2
  refine Ret.ite (fun _=>?_) (fun _=>.some ⟨hr2.le (by omega),by simp only;omega,hk⟩)
  simp only [Q4d,U0]
  rw [W5 (by simp [Q7];omega)]
  refine .some ⟨hr2.le (by omega),by simp;omega,fun c hc=>?_⟩
  rcases List.mem_append.1 hc with hc | hc
  ·exact hk c hc
  ·simp at hc;subst hc;simp
 ·refine Ret.bind (W02 (hs.1.le (by omega)) s.2 hs.2.1 hs.2.2) (fun b hb=>.some ⟨h1,h2,hb.1⟩)
theorem Ret.par {α:Type}{x:Option α}{P:α→Prop}(h:Ret x P):Par x P:=fun a e=>by
 obtain ⟨b,e',hp⟩:=h
 rw [e] at e'
 cases e'
 exact hp
theorem Par.both {α:Type}{x:Option α}{P Q:α→Prop}(h:Par x P)(k:Par x Q):Par x (fun a=>P a∧Q a):=fun a e=>⟨h a e,k a e⟩
theorem Z47 {σ ρ:Type}{f:σ→Option (Ctl ρ σ)}(I:σ→Prop)(R:ρ→Prop)(B:σ→Prop)(st:∀ s,I s→Par (f s) (RndQ R B I)):∀ (n:Nat) (s0:σ),I s0→Par (whileL f n s0) (CtlQ R B)
 | 0,_,_=>.none
 | n+1,s0,h0=>fun a e=>by
  unfold whileL at e
  have h1:=st s0 h0
  cases hf:f s0 with
  | none=>rw [hf] at e;cases e
  | some o=>
   rw [hf] at e
   have h2:=h1 o hf
   cases o with
   | ret r=>cases e;exact h2
   | brk s=>cases e;exact h2
   | go s=>exact Z47 I R B st n s h2 a e
def v0P:Q0:=Q0.mk 2 0 0 0 0 []
def Mut (p q:Q0):Prop:=((q.op=0∨q.op=7∨q.op=1∨q.op=2∨q.op=5)∧q.kids=p.kids∧q.var=p.var)∨
 (q.op=p.op∧(q.kids=p.kids∨(q.kids=p.kids++[v0P]∧q.var=p.var)∨q.kids=p.kids.set 0 v0P))
theorem W3w (r:Z0)(p:Q0):Par (Q2a r p) (fun a=>Mut p a.1):=by
 unfold Q2a
 refine Par.any fun x=>?_
 refine Par.ctl (R:=fun _=>False) (B:=fun (s:Z0×Int×Int×Int×Int×List Q0)=>Mut p (Q0.mk s.2.1 s.2.2.1 s.2.2.2.1 p.m s.2.2.2.2.1 s.2.2.2.2.2)) ?_ (fun r hr=>hr.elim) (fun s hs=>.some hs)
 have same:∀ (r:Z0) (c n v:Int),Par (some (Ctl.brk (ρ:=Q0×Z0) (r,p.op,c,n,v,p.kids))) (CtlQ (fun _=>False) (fun (s:Z0×Int×Int×Int×Int×List Q0)=>Mut p (Q0.mk s.2.1 s.2.2.1 s.2.2.2.1 p.m s.2.2.2.2.1 s.2.2.2.2.2))):=fun r c n v=>.some (.inr ⟨rfl,.inl rfl⟩)
 refine Par.any fun a=>Par.ite (fun _=>?_) (fun _=>Par.ite (fun _=>Par.any fun b=>same _ _ _ _) (fun _=>Par.ite (fun _=>Par.any fun b=>same _ _ _ _) (fun _=>Par.ite (fun _=>?_) (fun _=>Par.ite (fun _=>Par.ite (fun _=>Par.any fun b=>?_) (fun _=>same _ _ _ _)) (fun _=>Par.ite (fun _=>Par.any fun b=>same _ _ _ _) (fun _=>same _ _ _ _))))))
 ·refine Par.bind (W3v _ _) (fun b hb=>.some (.inl ⟨?_,rfl,rfl⟩))
  simpa using hb
 ·exact Par.any fun b=>.some (.inr ⟨rfl,.inr (.inl ⟨rfl,rfl⟩)⟩)
 ·refine Par.bind (P:=fun z=>z=p.kids.set 0 v0P) (fun z hz=>?_) (fun z hz=>.some (.inr ⟨rfl,.inr (.inr hz)⟩))
  unfold setI at hz
  split at hz
  ·cases hz;rfl
  ·cases hz
theorem X8g {p q:Q0}(h:Mut p q):∀ k∈q.kids,k∈p.kids∨k=v0P:=fun k hk=>by
 rcases h with ⟨_,h,_⟩ | ⟨_,h | ⟨h,_⟩ | h⟩
 ·rw [h] at hk;exact .inl hk
 ·rw [h] at hk;exact .inl hk
 ·rw [h] at hk;simpa using hk
 ·rw [h] at hk;exact List.mem_or_eq_of_mem_set hk
theorem W5r (d:Nat):lvB 2 (W7 (d+1) v0P):=by
 have:W7 (d+1) v0P=Q0.mk 1 0 0 0 0 []:=by simp [W7,v0P]
 rw [this]
 exact X3r rfl
theorem V29 {w:List Q4}{t:Q1}{p q1 q:Q0}(hp:Q18 w 10 t p=true)(lp:linD w 10 t p=true)(hq:Q18 w 10 t q=true)(lq:linD w 10 t q=true)(h:lvB 3 (W7 10 p))(m1:Mut p q1)(m2:Mut q1 q):lvB 3 (W7 10 q):=by
 obtain ⟨po,pl⟩:=Q54 (Q4a hp)
 obtain ⟨qo,ql⟩:=Q54 (Q4a hq)
 have pc:=po
 have qc:=qo
 simp only [Q9j,Bool.and_eq_true,Bool.or_eq_true,decide_eq_true_eq] at pc qc
 have hk:∀ k∈q.kids,k∈p.kids∨k=v0P:=fun k hk=>by
  rcases X8g m2 k hk with h | h
  ·exact X8g m1 k h
  ·exact .inr h
 have hop:q.op=p.op∨q.op=0∨q.op=7∨q.op=1∨q.op=2∨q.op=5:=by
  rcases m2 with ⟨h,_⟩ | ⟨h,_⟩
  ·exact .inr h
  ·rcases m1 with ⟨h',_⟩ | ⟨h',_⟩
   ·right;rw [h];exact h'
   ·left;rw [h,h']
 have qcase:q.op=1∨q.op=2∨q.op=5∨q.op=6∨q.op=3∨q.op=4:=by
  rcases qc.2 with (h | h) | h
  ·omega
  ·omega
  ·omega
 have pcase:p.op=1∨p.op=2∨p.op=5∨p.op=6∨p.op=3∨p.op=4:=by
  rcases pc.2 with (h | h) | h
  ·omega
  ·omega
  ·omega
 have bq:q.op≠2→q.op≠6→W7 10 q=Q0.mk q.op q.ctor q.n q.m q.var (q.kids.map (W7 9)):=fun h2 h6=>by
  rw [W7,if_neg h2,if_neg (fun h=>h6 h.1)]
 have bp:p.op≠2→p.op≠6→W7 10 p=Q0.mk p.op p.ctor p.n p.m p.var (p.kids.map (W7 9)):=fun h2 h6=>by
  rw [W7,if_neg h2,if_neg (fun h=>h6 h.1)]
 have pk:(p.op=4∨p.op=5)→∀ k∈p.kids,lvB 2 (W7 9 k):=fun ho k hk=>by
  rw [bp (by omega) (by omega)] at h
  rcases h with h | h | ⟨_,h⟩
  ·simp only at h;omega
  ·simp only at h;omega
  ·exact h _ (List.mem_map_of_mem hk)
 have fin:(q.op=4∨q.op=5)→(∀ k∈p.kids,k∈q.kids→lvB 2 (W7 9 k))→lvB 3 (W7 10 q):=fun ho hh=>by
  rw [bq (by omega) (by omega)]
  refine .inr (.inr ⟨ho,fun k hk'=>?_⟩)
  obtain ⟨k0,hk0,rfl⟩:=U10.1 hk'
  rcases hk k0 hk0 with h | h
  ·exact hh k0 h hk0
  ·rw [h];exact W5r 8
 rcases qcase with q1' | q2 | q5 | q6 | q3 | q4
 ·rw [bq (by omega) (by omega)]
  exact X3r q1'
 ·rw [W7,if_pos q2]
  exact X3r rfl
 ·refine fin (.inr q5) fun k hkp hkq=>?_
  rcases pcase with h' | h' | h' | h' | h' | h'
  ·have:p.kids=[]:=List.eq_nil_of_length_eq_zero (by rw [pl,Y2,if_neg (by omega),if_neg (by omega),if_neg (by omega)];rfl)
   rw [this] at hkp;cases hkp
  ·have:p.kids=[]:=List.eq_nil_of_length_eq_zero (by rw [pl,Y2,if_neg (by omega),if_neg (by omega),if_neg (by omega)];rfl)
   rw [this] at hkp;cases hkp
  ·exact pk (.inr h') k hkp
  ·exfalso
   have pl1:p.kids.length=1:=by rw [pl,Y2,if_neg (by omega),if_neg (by omega),if_pos h'];rfl
   have ql2:q.kids.length=2:=by rw [ql,Y2,if_neg (by omega),if_pos q5];rfl
   obtain ⟨k0,hk0⟩:∃ k0,p.kids=[k0]:=by
    match hp':p.kids,pl1 with
    | [a],_=>exact ⟨a,rfl⟩
   have hqk:q.kids=[k0,v0P]∧q.var=p.var:=by
    rcases m1 with ⟨_,a1,a2⟩ | ⟨a0,a1⟩
    ·rcases m2 with ⟨_,b1,b2⟩ | ⟨b0,b1 | ⟨b1,b2⟩ | b1⟩
     ·rw [b1,a1,hk0] at ql2;simp at ql2
     ·rw [b1,a1,hk0] at ql2;simp at ql2
     ·exact ⟨by rw [b1,a1,hk0];rfl,by rw [b2,a2]⟩
     ·rw [b1,a1,hk0] at ql2;simp at ql2
    ·rcases m2 with ⟨_,b1,b2⟩ | ⟨b0,_⟩
     ·rcases a1 with a1 | ⟨a1,a2⟩ | a1
      ·rw [b1,a1,hk0] at ql2;simp at ql2
      ·exact ⟨by rw [b1,a1,hk0];rfl,by rw [b2,a2]⟩
      ·rw [b1,a1,hk0] at ql2;simp at ql2
     ·omega
   have hv0:q.var=0:=by
    have:=qc.1.1.1
    rw [if_neg (by omega)] at this
    simpa using this
   have kq:Y2 w t q=[t,t]:=by rw [Y2,if_neg (by omega),if_pos q5]
   have kp:Y2 w t p=[t]:=by rw [Y2,if_neg (by omega),if_neg (by omega),if_pos h']
   have e1:kv w 9 t q 0=Q3a w 9 t k0:=by simp [kv,kq,hqk.1]
   have e2:kv w 9 t q 1=[⟨0,t⟩]:=by
    simp only [kv,kq,hqk.1]
    simp [Q3a,ownV,v0P]
   have e3:Q3a w 10 t p=⟨0,t⟩::Q3a w 9 t k0:=by
    rw [Q3a,kp,hk0,if_neg (by omega)]
    simp [ownV,h',←hqk.2,hv0]
   rw [linD,if_pos q5] at lq
   rw [linD,if_neg (by omega)] at lp
   simp only [Bool.and_eq_true] at lq lp
   have a:=lq.2
   have b:=lp.2
   rw [e1,e2] at a
   rw [e3] at b
   simp only [Q96,Bool.and_eq_true,decide_eq_true_eq,List.all_eq_true] at a
   simp only [Q27,decide_eq_true_eq] at b
   match hx:Q3a w 9 t k0,a with
   | [x],a=>
    have hxx:=a.2 x (by simp)
    simp only [List.mem_singleton] at hxx
    rw [hx,hxx] at b
    simp at b
  ·have:p.kids=[]:=List.eq_nil_of_length_eq_zero (by rw [pl,Y2,if_neg (by omega),if_neg (by omega),if_neg (by omega)];rfl)
   rw [this] at hkp;cases hkp
  ·exact pk (.inl h') k hkp
 ·have p6:p.op=6:=by omega
  have pl1:p.kids.length=1:=by rw [pl,Y2,if_neg (by omega),if_neg (by omega),if_pos p6];rfl
  have ql1:q.kids.length=1:=by rw [ql,Y2,if_neg (by omega),if_neg (by omega),if_pos q6];rfl
  obtain ⟨k0,hk0⟩:∃ k0,p.kids=[k0]:=by
   match hp':p.kids,pl1 with
   | [a],_=>exact ⟨a,rfl⟩
  obtain ⟨k1,hk1⟩:∃ k0,q.kids=[k0]:=by
   match hp':q.kids,ql1 with
   | [a],_=>exact ⟨a,rfl⟩
  have eq:W7 10 q=W7 9 k1:=by rw [W7,if_neg (by omega),if_pos ⟨q6,by rw [hk1];simp⟩,hk1];rfl
  have ep:W7 10 p=W7 9 k0:=by rw [W7,if_neg (by omega),if_pos ⟨p6,by rw [hk0];simp⟩,hk0];rfl
  rw [eq]
  rcases hk k1 (by rw [hk1];simp) with h1 | h1
  ·rw [hk0,List.mem_singleton] at h1
   rw [h1,←ep]
   exact h
  ·rw [h1]
   exact W42 (W5r 8)
 ·rw [bq (by omega) (by omega)]
  exact .inr (.inl q3)
 ·exact fin (.inl q4) fun k hkp _=>pk (.inl (by omega)) k hkp
def Z1s (w:List Q4)(t:Q1)(c:Q5):Prop:=Q0u w t c.pat=true→lvB 3 (W7 10 c.pat)
def V3l (w:List Q4)(t:Q1)(c:Q5):Prop:=Q0u w t c.pat=true∧lvB 3 (W7 10 c.pat)
theorem W1t (r:Z0)(w:List Q4)(t:Q1):Par (Q2t NN r w t) (fun a=>lvB 3 (W7 10 a.1.pat)):=by
 unfold Q2t
 refine Par.bind (W7e r w t) (fun a ha=>Par.any fun b=>?_)
 exact Par.ctl (R:=fun _=>False) (B:=fun _=>True) (Z3t (fun _ _=>True) (fun _=>False) (fun _=>True) _ 0 _ trivial (fun k x s _ _=>by
  refine Par.ctl (R:=fun _=>False) (B:=fun _=>True) ?_ (fun r h=>h.elim) (fun s _=>.some trivial)
  refine Par.ite (fun _=>Par.any fun c=>Par.ite (fun _=>Par.any fun d=>Par.any fun e=>.some trivial) (fun _=>.some trivial)) (fun _=>.some trivial)) (fun _ _=>trivial)) (fun r h=>h.elim) (fun s _=>.some ha)
theorem W81 (r:Z0)(w:List Q4)(t:Q1):Par (Q4i NN r w t) (fun a=>∀ c∈a.1,lvB 3 (W7 10 c.pat)):=by
 unfold Q4i
 refine Par.any fun a=>?_
 refine Par.ctl (Z47 (fun s:Z0×List Q5×Int=>∀ c∈s.2.1,lvB 3 (W7 10 c.pat)) (fun _=>False) (fun s=>∀ c∈s.2.1,lvB 3 (W7 10 c.pat)) (fun s hI=>?_) NN _ (by simp)) (fun r h=>h.elim) (fun s hs=>.some hs)
 refine Par.ite (fun _=>?_) (fun _=>.some hI)
 refine Par.bind (W1t s.1 w t) (fun b hb=>?_)
 refine Par.bind (X1v _ _) (fun z hz=>.some ?_)
 subst hz
 intro c hc
 rcases List.mem_append.1 hc with hc | hc
 ·exact hI c hc
 ·simp only [List.mem_singleton] at hc;rw [hc];exact hb
theorem W2o (r:Z0):Par (Q3q NN r) (fun a=>∀ c∈a.2.2.1,lvB 3 (W7 10 c.pat)):=by
 unfold Q3q
 exact Par.any fun a=>Par.bind (W81 _ _ _) (fun b hb=>.some hb)
theorem V1g (d:Nat):lvB 3 (W7 d (Q0.mk 1 0 0 0 0 [])):=Z04 d (X3r rfl)
theorem W03 {w:List Q4}{t:Q1}(r:Z0)(l:List Q5)(hl:∀ c∈l,V3l w t c):Par (Q2s NN r l) (fun a=>∀ c∈a.1,Z1s w t c):=by
 have hl':∀ c∈l,Z1s w t c:=fun c hc _=>(hl c hc).2
 unfold Q2s
 refine Par.any fun x=>?_
 refine Par.ctl (R:=fun _=>False) (B:=fun (s:Z0×List Q5)=>∀ c∈s.2,Z1s w t c) ?_ (fun r h=>h.elim) (fun s hs=>.some hs)
 have setP:∀ {i:Int} {c:Q5},Z1s w t c→Par (setI l i c) (fun z=>∀ c∈z,Z1s w t c):=fun {i c} hc z hz=>by
  unfold setI at hz
  split at hz
  ·cases hz
   intro y hy
   rcases List.mem_or_eq_of_mem_set hy with hy | rfl
   ·exact hl' y hy
   ·exact hc
  ·cases hz
 have idxP:∀ i:Int,Par (idx l i) (fun c=>c∈l):=fun i c hc=>by
  unfold idx at hc
  split at hc
  ·exact U1 hc
  ·cases hc
 refine Par.any fun a=>Par.ite (fun _=>Par.ite (fun _=>?_) (fun _=>.some hl')) (fun _=>Par.ite (fun _=>Par.ite (fun _=>?_) (fun _=>.some hl')) (fun _=>Par.ite (fun _=>?_) (fun _=>.some hl')))
 ·refine Par.any fun b=>Par.any fun c=>Par.any fun d=>Par.bind (idxP 0) (fun e he=>?_)
  exact Par.bind (setP (fun _=>(hl e he).2)) (fun z hz=>.some hz)
 ·refine Par.bind (idxP 0) (fun e he=>?_)
  refine Par.bind (W3w _ _) (fun f hf=>?_)
  refine Par.bind (W3w _ _) (fun g hg=>?_)
  refine Par.bind (setP (fun hv=>?_)) (fun z hz=>.some hz)
  obtain ⟨g1,_,l1⟩:=Q4w (hl e he).1
  obtain ⟨g2,_,l2⟩:=Q4w hv
  exact V29 g1 l1 g2 l2 (hl e he).2 hf hg
 ·refine Par.ctl (Z47 (fun s:List Q5=>∀ c∈s,Z1s w t c) (fun _=>False) (fun s=>∀ c∈s,Z1s w t c) (fun s hI=>?_) NN _ hl') (fun r h=>h.elim) (fun s hs=>.some hs)
  refine Par.ite (fun _=>Par.any fun y=>.some fun c hc=>?_) (fun _=>.some hI)
  rcases List.mem_append.1 hc with hc | hc
  ·exact hI c hc
  ·simp only [List.mem_singleton] at hc;rw [hc];exact fun _=>V1g 10
theorem X03 (code:List Int)(hb:∀ x∈code,0≤x∧x≤255):Par (W9 NN code) (fun a=>∀ c∈a.2.2,Z1s a.1 a.2.1 c):=by
 unfold W9
 refine Par.bind (X0w code hb).par (fun r hr=>?_)
 refine Par.bind ((X2k (hr.le (by omega))).par.both (W2o r)) (fun a ha=>?_)
 obtain ⟨⟨h1,h2,h3,h4,h5⟩,h6⟩:=ha
 have hd:∀ c∈a.2.2.1,V3l a.1 a.2.1 c:=fun c hc=>⟨h3 c hc,h6 c hc⟩
 refine Par.ctl (R:=fun _=>False) (B:=fun (s:Z0×List Q5)=>∀ c∈s.2,V3l a.1 a.2.1 c) ?_ (fun r hr=>hr.elim) (fun s hs=>Par.bind (W03 s.1 s.2 hs) (fun b hb=>.some hb))
 refine Par.ite (fun _=>Par.any fun b=>Par.ite (fun _=>Par.bind (P:=fun p=>p=Q0.mk 1 0 0 0 0 []) (.some rfl) (fun p hp=>Par.bind (X1v _ _) (fun z hz=>.some ?_))) (fun _=>.some hd)) (fun _=>.some hd)
 subst hz hp
 intro c hc
 rcases List.mem_append.1 hc with hc | hc
 ·exact hd c hc
 ·simp only [List.mem_singleton] at hc
  rw [hc]
  exact ⟨X54 _ _,V1g 10⟩
theorem X2z {w:List Q4}(hw:WW w)(he:WE w){t:Q1}(ht:t∈tys w){ps:List Q0}(hp:∀ p∈ps,Z7 w 10 t p∧cntP p≤130)(hl:ps.length≤1600)(hfew:∀ r,sepP w t [] ps=some r→r.length≤400) :
  Q4x NN w (tabP w) t ps=some (optR (sepP w t [] ps)):=by
 suffices hs:Ret (Q4x NN w (tabP w) t ps) (fun r=>r=optR (sepP w t [] ps)) by
  obtain ⟨a,e,rfl⟩:=hs
  exact e
 unfold Q4x
 refine Ret.ctl (Z1 ps (fun k s=>s.length≤400∧sepP w t [] ps=(sepP w t (ps.take k) (ps.drop k)).map (s++·)) (fun r=>r=([],false)∧sepP w t [] ps=none) (fun s=>sepP w t [] ps=some s) ⟨by simp,by simp⟩ (fun k p s hp' hI=>?_) (fun s hI=>?_)) (fun r hr=>.some (by rw [hr.1,hr.2];rfl)) (fun s hs=>.some (by rw [hs];rfl))
 ·obtain ⟨hsl,hI⟩:=hI
  have hk:=(List.getElem?_eq_some_iff.1 hp').1
  have hpm:=hp p (U1 hp')
  have hsub:subI ps (k:Int) (wadd .i64 (k:Int) 1)=some [p]:=by
   rw [Q10 (by omega) (by omega)]
   unfold subI
   rw [if_pos ⟨by omega,by omega,by omega⟩]
   have h1:((k:Int)+1).toNat=k+1:=by omega
   rw [h1,Int.toNat_natCast,List.take_add_one,hp',List.drop_append,U6,Nat.min_eq_left (by omega),Nat.sub_self,List.drop_of_length_le (by rw [U6];omega)]
   rfl
  rw [hsub]
  simp only [U0]
  rw [X0p (by omega)]
  simp only [U0]
  rw [Q80 hw he (d:=10) (x:=11) ht (by omega) (by omega) (fun b hb=>hp b (List.mem_of_mem_take hb)) (fun a ha=>by simp only [List.mem_singleton] at ha;rw [ha];exact Q5y 10 t p hpm.1) (by simp) (by simp only [NN];omega)]
  simp only [U0]
  rw [Z13 hp'] at hI
  simp only [sepP] at hI
  cases hm:Q0t w 10 11 t [p] (ps.take k) with
  | none=>
   rw [hm] at hI
   simp only [Option.bind_none,Option.map_none] at hI
   simp only [optR,Bool.not_false,if_true]
   exact .some ⟨rfl,hI⟩
  | some m=>
   rw [hm] at hI
   have hml:=Q76 (m:=400) (Nat.le_refl _) (by simp) hm
   have e1:wadd .i64 (lenZ s.length) (lenZ m.length)=((s.length+m.length:Nat):Int):=by
    rw [Q0e,Q0e,Q10 (by omega) (by omega)]
    omega
   simp only [optR,Bool.not_true,U2,if_false,e1]
   refine Ret.ite (fun hgt=>?_) (fun hle=>?_)
   ·rw [Z9] at hgt
    refine .some ⟨rfl,?_⟩
    cases hz:sepP w t (ps.take k++[p]) (ps.drop (k+1)) with
    | none=>rw [hI];simp [hz]
    | some z=>
     rw [hz] at hI
     simp only [U0,Option.map_some] at hI
     have:=hfew _ hI
     simp only [U5] at this
     omega
   ·rw [J0] at hle
    rw [W5 (by simp only [Q7];omega)]
    refine .some ⟨by simp only [U5];omega,?_⟩
    rw [hI]
    simp only [U0,Option.map_map]
    rw [List.take_add_one,hp']
    simp only [Option.toList_some]
    congr 1
    funext z
    simp
 ·obtain ⟨_,hI⟩:=hI
  rw [List.drop_length,sepP] at hI
  simpa using hI
theorem Z90 {w:List Q4}(hww:w∈Q0a){t:Q1}(ht:t∈tys w){cs:List Q5}(hf:∀ c∈cs,Z1s w t c){i:Nat}(hi:i<cs.length):Q1w NN w t cs (i:Int)=some (optR (Q53 w t cs i)):=by
 have hw:=ww hww
 have he:=we hww
 unfold Q1w Q53
 rw [Q74 hw ht]
 simp only [U0]
 by_cases h:Y5 w t cs=true
 ·obtain ⟨h8,hc⟩:=Q5k h
  have hci:cs[i]?=some (cs[i]'hi):=by simp
  generalize cs[i]'hi=c at hci
  have hcm:=U1 hci
  obtain ⟨hv,hg,hcn⟩:=hc c hcm
  simp only [h,Bool.not_true,U2,if_false,if_true]
  rw [if_neg (by rw [Z9];omega),if_neg (by rw [J1,Q0e];omega),hci,Q1m hci]
  simp only [U0]
  rw [Z56 hw ht hg (by omega) (by simp only [NN];omega)]
  simp only [U0]
  have htk:∀ c∈cs.take i,Q18 w 10 t c.pat=true∧cntP c.pat≤60:=fun c m=>(hc c (List.mem_of_mem_take m)).2
  by_cases h40:40<(Z3 10 (W7 10 c.pat)).length
  ·have hm:Q6t c.pat=none:=by unfold Q6t;rw [if_pos h40]
   rw [if_pos (by rw [Z9,Q0e,U6];omega),hm]
   rfl
  ·have hm:Q6t c.pat=some (Z3 10 (W7 10 c.pat)):=by unfold Q6t;rw [if_neg h40]
   rw [List.take_of_length_le (by omega),if_neg (by rw [Z9,Q0e];omega),hm]
   have hpp:=Z4h hg hm
   have hpc:=Z79 hm
   have hpl:=(Q91 hm).1
   obtain ⟨P,hP,hPs⟩:=V2d hw (wr hww) ht (Q7n Z14 10 t c.pat hg) (hf c hcm hv)
   have hfew:∀ r,sepP w t [] (Z3 10 (W7 10 c.pat))=some r→r.length≤400:=fun r hr=>V1x hw he ht hP (fun p hp=>⟨hPs p hp,hpp p hp⟩) hr
   generalize Z3 10 (W7 10 c.pat)=mine at hpp hpc hpl hfew hPs
   simp only [U0]
   rw [hw.tab]
   simp only [U0]
   rw [X2z hw he ht (fun p hp=>⟨hpp p hp,by have:=hpc p hp;omega⟩) (by omega) hfew]
   simp only [U0]
   cases hs:sepP w t [] mine with
   | none=>
    simp only [optR,Bool.not_false,if_true,Option.bind_none]
    cases Q2h (cs.take i)<;>rfl
   | some out=>
    have hol:=hfew out hs
    have hop:=Z65 mine [] out (by simp) hpp hs
    simp only [optR,Bool.not_true,U2,if_false]
    unfold Q5n
    rw [Z59 hw ht (by omega) (fun c m=>⟨(hc c m).2.1,by have:=(hc c m).2.2;omega⟩) (by omega)]
    simp only [U0]
    cases ha:Q2h (cs.take i) with
    | none=>simp [optR]
    | some away=>
     have hap:=Q6g (fun c m=>(htk c m).1) ha
     have hac:=Q94 (m:=60) (fun c m=>(htk c m).2) ha
     simp only [optR,Bool.not_true,U2,if_false,U0]
     rw [hw.tab]
     simp only [U0]
     rw [Q80 hw he (d:=10) (x:=11) ht (by omega) (by omega) (fun b hb=>⟨hap b hb,by have:=hac b hb;omega⟩) hop (by omega) (by simp only [NN];omega)]
     simp only [U0]
     rw [Z55 hw (by simp only [NN];omega) ht _ (fun r hr=>by have:=Q76 (m:=20000) (by omega) (by omega) hr;omega)]
     cases Q78 w t (Q0t w 10 11 t out away)<;>rfl
 ·simp [h,optR]
theorem X2v {w:List Q4}(hw:WW w):∀ (d n:Nat) (t:Q1) (p:Q0) (v:Q3) (e:Nat) (out:List X3),t∈tys w→Q18 w d t p=true→Q1j w e t v→d+2≤n→out.length+cntP p≤100000→
  Ret (Q24 n out p v) (fun r=>r.2=(V5 d p v).isSome∧∀ l,V5 d p v=some l→r.1=out++l∧l.length≤cntP p):=by
 intro d
 induction d with
 | zero=>intro n t p v e out _ h;simp [Q18] at h
 | succ d ih=>
  intro n t p v e out ht g hv hn hc
  obtain ⟨n,rfl⟩:∃ k,n=k+1:=⟨n-1,by omega⟩
  have hT:=hw.ty t ht
  obtain ⟨ho,hl⟩:=Q54 (Q4a g)
  have hpos:=Q7m p
  unfold Q24
  rw [V5]
  refine Ret.ite (fun h1=>?_) (fun h1=>?_)
  ·rw [X2] at h1
   rw [if_pos h1]
   exact .some ⟨rfl,fun l h=>by cases h;simp⟩
  rw [X0] at h1
  rw [if_neg h1]
  refine Ret.ite (fun h2=>?_) (fun h2=>?_)
  ·rw [X2] at h2
   rw [if_pos h2,W5 (by simp only [U4,Q7];omega)]
   simp only [U0]
   rw [W5 (by simp only [U3,U4,Q7];omega)]
   exact .some ⟨rfl,fun l h=>by cases h;exact ⟨rfl,hpos⟩⟩
  rw [X0] at h2
  rw [if_neg h2]
  refine Ret.ite (fun h3=>?_) (fun h3=>?_)
  ·rw [X2] at h3
   rw [if_pos h3]
   refine Ret.ite (fun h4=>.some ?_) (fun h4=>.some ?_)
   ·rw [J1] at h4
    by_cases h5:v.n≤p.m
    ·rw [if_pos ⟨h4,h5⟩]
     exact ⟨by simp only [Option.isSome_some];rw [J1];exact h5,fun l h=>by cases h;simp⟩
    ·rw [if_neg fun hh=>h5 hh.2]
     exact ⟨by simp only [Option.isSome_none];rw [Q1z];omega,fun l h=>by cases h⟩
   ·rw [Q1z] at h4
    rw [if_neg (fun hh=>by omega)]
    exact ⟨rfl,fun l h=>by cases h⟩
  rw [X0] at h3
  rw [if_neg h3]
  refine Ret.ite (fun h5=>?_) (fun h5=>?_)
  ·rw [X2] at h5
   rw [if_pos h5]
   obtain ⟨a,b,hab,hkt⟩:=kid0 h5 hl
   have ga:=Q26 g (k:=0) (a:=t) (q:=a) (by rw [hkt];rfl) (by rw [hab];rfl)
   have gb:=Q26 g (k:=1) (a:=t) (q:=b) (by rw [hkt];rfl) (by rw [hab];rfl)
   have hcp:=Q36 p
   rw [hab] at hcp ⊢
   simp only [cntP.cntPs] at hcp
   rw [show idx [a,b] 0=some a from rfl,show idx [a,b] 1=some b from rfl]
   simp only [U0]
   refine Ret.bind (ih n t a v e out ht ga hv (by omega) (by omega)) (fun r hr=>?_)
   obtain ⟨r1,r2⟩:=hr
   cases hm:V5 d a v with
   | some l=>
    rw [hm] at r1
    rw [if_pos (by rw [r1];rfl)]
    obtain ⟨q1,q2⟩:=r2 l hm
    exact .some ⟨rfl,fun l' h=>by cases h;exact ⟨q1,by omega⟩⟩
   | none=>
    rw [hm] at r1
    rw [if_neg (by rw [r1];simp)]
    refine Ret.bind (ih n t b v e out ht gb hv (by omega) (by omega)) (fun s hs=>.some ⟨hs.1,fun l h=>?_⟩)
    obtain ⟨q1,q2⟩:=hs.2 l h
    exact ⟨q1,by omega⟩
  rw [X0] at h5
  rw [if_neg h5]
  refine Ret.ite (fun h6=>?_) (fun h6=>?_)
  ·rw [X2] at h6
   rw [if_pos h6]
   obtain ⟨a,hk,hkt⟩:=X6c h6 hl
   have ga:=Q26 g (k:=0) (a:=t) (q:=a) (by rw [hkt];rfl) (by rw [hk];rfl)
   have hcp:=Q36 p
   rw [hk] at hcp ⊢
   simp only [cntP.cntPs] at hcp
   rw [show idx [a] 0=some a from rfl]
   simp only [U0]
   rw [W5 (by simp only [U4,Q7];omega)]
   simp only [U0]
   rw [W5 (by simp only [U3,U4,Q7];omega)]
   simp only [U0]
   refine Ret.bind (ih n t a v e (out++[⟨p.var,v⟩]) ht ga hv (by omega) (by simp only [U5,U3,U4];omega)) (fun r hr=>.some ?_)
   cases hm:V5 d a v with
   | none=>rw [hm] at hr;exact ⟨hr.1,fun l h=>by cases h⟩
   | some l=>
    rw [hm] at hr
    obtain ⟨q1,q2⟩:=hr.2 l rfl
    exact ⟨hr.1,fun l' h=>by cases h;exact ⟨by rw [q1];simp,by simp only [U3];omega⟩⟩
  rw [X0] at h6
  rw [if_neg h6]
  have h4:p.op=4:=by
   simp only [Q9j,Bool.and_eq_true,Bool.or_eq_true,decide_eq_true_eq] at ho
   rcases ho.2 with (h | h) | h
   ·omega
   ·exact absurd h.1.1.1.1 h3
   ·exact h.1
  have hct:=Q9i ho h4
  refine Ret.ite (fun h7=>?_) (fun h7=>?_)
  ·rw [Bool.not_eq_true',X0] at h7
   rw [if_neg (fun hh=>h7 hh.symm)]
   exact .some ⟨rfl,fun l h=>by cases h⟩
  rw [Bool.not_eq_false',X2] at h7
  rw [if_pos h7.symm]
  have hkt:Y2 w t p=Z6 w t v.ctor:=by rw [Y2,if_pos h4,h7]
  cases e with
  | zero=>exact hv.elim
  | succ e=>
  have hd:t.data≠-1:=fun hd=>by
   obtain ⟨rfl,_⟩:=hT.ti hd
   have:X1 w tI=[]:=rfl
   rw [this] at hct
   cases hct
  rw [Q1j,if_neg hd] at hv
  obtain ⟨_,_,hvl,hvk⟩:=hv
  have hcp:=Q36 p
  have hlen:p.kids.length=v.kids.length:=by rw [hl,hkt,hvl]
  refine Ret.ctl (Z1 p.kids (fun k s=>∃ s',s=out++s'∧Q4u (V5 d) p.kids v.kids=(Q4u (V5 d) (p.kids.drop k) (v.kids.drop k)).map (s'++·)∧s'.length≤cntP.cntPs (p.kids.take k)) (fun r:List X3×Bool=>r.2=false∧Q4u (V5 d) p.kids v.kids=none)
   (fun s=>∃ s',s=out++s'∧Q4u (V5 d) p.kids v.kids=some s'∧s'.length≤cntP.cntPs p.kids) ⟨[],by simp,by simp,by simp⟩ (fun k q s hq hI=>?_) (fun s hI=>?_)) (fun r hr=>?_) (fun s hs=>?_)
  ·obtain ⟨s',rfl,i1,i2⟩:=hI
   have hlt:=(List.getElem?_eq_some_iff.1 hq).1
   have hx:v.kids[k]?=some (v.kids[k]'(by omega)):=by simp
   obtain ⟨a,ha⟩:∃ a,(Z6 w t v.ctor)[k]?=some a:=⟨_,U9 (by omega)⟩
   rw [Q1m hx]
   simp only [U0]
   have hcd:=Q5u p.kids k q hq
   have hct2:=Q28 p.kids (k+1)
   have hkm:a∈Y2 w t p:=by rw [hkt];exact U1 ha
   refine Ret.bind (ih n a q (v.kids[k]'(by omega)) e (out++s') (Q7c hT ht ho a hkm) (Q26 g (by rw [hkt];exact ha) hq) (hvk k a _ ha hx) (by omega) (by simp only [U5];omega)) (fun r hr=>?_)
   obtain ⟨r1,r2⟩:=hr
   rw [Z13 hq,Z13 hx] at i1
   simp only [Q4u] at i1
   cases hmq:V5 d q (v.kids[k]'(by omega)) with
   | none=>
    rw [hmq] at i1 r1
    rw [r1]
    exact .some ⟨rfl,i1⟩
   | some l=>
    rw [hmq] at i1 r1
    obtain ⟨q1,q2⟩:=r2 l hmq
    rw [r1]
    simp only [Option.isSome_some,Bool.not_true,U2,if_false]
    refine .some ⟨s'++l,by rw [q1];simp,?_,by simp only [U5];omega⟩
    rw [i1]
    cases Q4u (V5 d) (p.kids.drop (k+1)) (v.kids.drop (k+1)) with
    | none=>rfl
    | some m=>simp
  ·obtain ⟨s',rfl,i1,i2⟩:=hI
   rw [List.take_length] at i2
   refine ⟨s',rfl,?_,i2⟩
   rw [i1,List.drop_length]
   simp [Q4u]
  ·exact .some ⟨by rw [hr.1,hr.2];rfl,fun l h=>by rw [hr.2] at h;cases h⟩
  ·obtain ⟨s',rfl,h1,h2⟩:=hs
   refine .some ⟨by rw [h1];rfl,fun l h=>?_⟩
   rw [h1] at h
   cases h
   exact ⟨rfl,by omega⟩
theorem X5s {l:List X3}(hl:l.length≤100)(hd:DB l):Q5o NN l=some (Q9c l):=by
 suffices hs:Ret (Q5o NN l) (fun r=>r=Q9c l) by
  obtain ⟨a,e,rfl⟩:=hs
  exact e
 unfold Q5o
 have hfl:∀ k:Nat,((List.range k).flatMap fun (v:Nat)=>l.filter fun b=>decide (b.var=(v:Int))).length≤k * 100:=by
  intro k
  induction k with
  | zero=>simp
  | succ k ih=>
   rw [List.range_succ,List.flatMap_append,U5]
   have:=List.length_filter_le (fun b:X3=>decide (b.var=(k:Int))) l
   simp only [List.flatMap_cons,List.flatMap_nil,List.append_nil]
   omega
 refine Ret.ctl (Q4f (fun s:List X3×Int=>∃ k:Nat,k≤6∧s=((List.range k).flatMap (fun (v:Nat)=>l.filter fun b=>decide (b.var=(v:Int))),(k:Int))) (fun s=>(6-s.2).toNat) (fun _=>False) (fun s=>s.1=Q9c l) ⟨0,by omega,rfl⟩ (fun s hI=>?_) NN (by simp;decide)) (fun r hr=>hr.elim) (fun s hs=>.some hs)
 obtain ⟨k,hk,rfl⟩:=hI
 dsimp only
 by_cases h5:k≤5
 ·have e:ile (k:Int) 5=true:=by rw [J1];omega
  simp only [e,if_true]
  have hk1:=hfl k
  refine Ret.ctl (Z1 l (fun i s=>s=(List.range k).flatMap (fun (v:Nat)=>l.filter fun b=>decide (b.var=(v:Int)))++(l.take i).filter fun b=>decide (b.var=(k:Int))) (fun _=>False) (fun s=>s=(List.range (k+1)).flatMap (fun (v:Nat)=>l.filter fun b=>decide (b.var=(v:Int)))) (by simp) (fun i x s hi hI=>?_) (fun s hI=>?_)) (fun r hr=>hr.elim) (fun s hs=>?_)
  ·have hil:i<l.length:=(List.getElem?_eq_some_iff.1 hi).1
   have hf:=List.length_filter_le (fun b:X3=>decide (b.var=(k:Int))) (l.take i)
   rw [U6] at hf
   by_cases hc:x.var=(k:Int)
   ·have e:ieq x.var (k:Int)=true:=by simp [ieq,hc]
    simp only [e,if_true]
    rw [X4x 10 NN x.value (hd x (U1 hi)) (by decide)]
    simp only [U0]
    rw [W5 (by rw [hI];simp only [U5,U3,U4,Q7];omega)]
    refine .some ?_
    simp only [Q2r]
    rw [hI,List.take_add_one,hi]
    simp only [Option.toList_some,List.filter_append,List.append_assoc]
    rw [←hc]
    simp
   ·have e:ieq x.var (k:Int)=false:=by simp [ieq,hc]
    simp only [e,U2,if_false]
    refine .some ?_
    simp only [Q2r]
    rw [hI,List.take_add_one,hi]
    simp [hc]
  ·rw [hI,List.take_length,List.range_succ,List.flatMap_append]
   simp
  ·subst hs
   dsimp only
   rw [Q10 (by omega) (by omega)]
   exact .some ⟨⟨k+1,by omega,by simp⟩,by simp only;omega⟩
 ·have e:ile (k:Int) 5=false:=by rw [Q1z];omega
  simp only [e,U2,if_false]
  exact .some (by simp only [Z67];rw [show k=6 by omega];rfl)
theorem Z9p {w:List Q4}(hw:WW w){t:Q1}(ht:t∈tys w){l:List Q5}(hl:∀ c∈l,Q0u w t c.pat=true){e:Nat}{v:Q3}(hv:Q1j w e t v)(he:e≤10) :
  Q58 NN l v=some (runR (runD v 0 l)):=by
 suffices hs:Ret (Q58 NN l v) (fun r=>r=runR (runD v 0 l)) by
  obtain ⟨a,e,rfl⟩:=hs
  exact e
 unfold Q58
 refine Ret.ctl (Z1 l (fun k _=>runD v 0 l=runD v k (l.drop k)) (fun r:Int×List X3=>r=runR (runD v 0 l)) (fun _=>runD v 0 l=none) rfl (fun k c s hc hI=>?_) (fun s hI=>by rw [hI,List.drop_length];rfl)) (fun r hr=>.some hr) (fun s hs=>.some (by rw [hs];rfl))
 obtain ⟨g,c1,ln⟩:=Q4w (hl c (U1 hc))
 rw [Z13 hc] at hI
 simp only [runD] at hI
 obtain ⟨r,er,r1,r2⟩:=X2v hw 10 NN t c.pat v e [] ht g hv (by decide) (by simp only [U4];omega)
 rw [er]
 simp only [U0]
 cases hm:V5 10 c.pat v with
 | none=>
  simp only [hm] at hI
  rw [hm] at r1
  rw [r1]
  simp only [Option.isSome_none,U2,if_false,U0]
  exact .some hI
 | some b=>
  simp only [hm] at hI
  rw [hm] at r1
  have hb:=Z29 g ln hm
  have hr1:r.1=b:=by
   have:=(r2 b hm).1
   simpa using this
  rw [r1,hr1]
  simp only [Option.isSome_some,if_true]
  rw [X2x]
  simp only [U0]
  cases hg:Q5i c.guard b with
  | true=>
   rw [hg] at hI
   simp only [if_true] at hI ⊢
   have hdv:=Z6g e 10 v he (Q7u hw e t v ht hv)
   rw [X5s (by have:=hb.ln;omega) (fun y hy=>by
    obtain ⟨e',h1,h2⟩:=X07 10 c.pat 10 v b hdv hm y hy
    exact Z6g _ _ _ h1 h2)]
   simp only [U0]
   exact .some (by simp only [X89];rw [hI];rfl)
  | false=>
   rw [hg] at hI
   simp only [U2,if_false,U0] at hI ⊢
   exact .some hI
theorem Z71 {w:List Q4}{t:Q1}{o:Option (List Q0)}{r:List Q0}(h:Q78 w t o=some r):∀ y∈r,Q0u w t y=true:=by
 cases o with
 | none=>cases h
 | some l=>
  simp only [Q78] at h
  split at h
  ·rename_i ha
   cases h
   exact List.all_eq_true.1 ha
  ·cases h
def V9f (w:List Q4)(t:Q1)(y:Q0):Prop:=Q0u w t y=true∧Z7 w 11 t y∧W1 w 11 t y=false
theorem Z4g {w:List Q4}{t:Q1}{cs:List Q5}{i:Nat}{r:List Q0}(hr:Q53 w t cs i=some r):Y5 w t cs=true∧∀ y∈r,V9f w t y:=by
 unfold Q53 at hr
 split at hr
 ·rename_i hcl
  refine ⟨hcl,?_⟩
  obtain ⟨_,hcs⟩:=Q5k hcl
  cases hc:cs[i]? with
  | none=>rw [hc] at hr;cases hr
  | some c=>
   rw [hc] at hr
   simp only at hr
   have hcg:=(hcs c (U1 hc)).2.1
   cases hm:Q6t c.pat with
   | none=>rw [hm] at hr;simp at hr
   | some mine=>
    rw [hm] at hr
    simp only [U0] at hr
    cases ha:Q2h (cs.take i) with
    | none=>rw [ha] at hr;simp at hr
    | some away=>
     rw [ha] at hr
     simp only [U0] at hr
     have hval:=Z71 hr
     have hr:=Z9v hr
     cases hs:sepP w t [] mine with
     | none=>rw [hs] at hr;simp at hr
     | some out=>
      rw [hs] at hr
      simp only [U0] at hr
      have gt:∀ c'∈cs.take i,Q18 w 10 t c'.pat=true:=fun c' h=>(hcs c' (List.mem_of_mem_take h)).2.1
      have hp:=Z0b (by omega) (Q6g gt ha) (Z65 mine [] out (by simp) (Z4h hcg hm) hs) hr
      exact fun y hy=>⟨hval y hy,hp y hy,Z53 hr y hy⟩
 ·cases hr
theorem X3k {w:List Q4}{t:Q1}{cs:List Q5}{r:List Q0}(hr:X0z w t cs=some r):Y5 w t cs=true∧∀ y∈r,V9f w t y:=by
 unfold X0z at hr
 split at hr
 ·rename_i h
  refine ⟨h,?_⟩
  obtain ⟨h8,hc⟩:=Q5k h
  cases hl:Q2h cs with
  | none=>rw [hl] at hr;cases hr
  | some l=>
   rw [hl] at hr
   simp only [U0] at hr
   have hval:=Z71 hr
   have hr:=Z9v hr
   have hp:=Z0b (by omega) (Q6g (fun c m=>(hc c m).2.1) hl) (fun a ha=>by simp only [List.mem_singleton] at ha;subst ha;exact Q75 w 10 t) hr
   exact fun y hy=>⟨hval y hy,hp y hy,Z53 hr y hy⟩
 ·cases hr
theorem W39 (cs:List Q5)(v:Q3)(i:Nat):ieq (runR (runD v 0 cs)).1 (i:Int)=Q6s cs v i:=by
 unfold Q6s
 cases h:runD v 0 cs with
 | none=>
  simp only [runR]
  rw [X0]
  omega
 | some x=>
  simp only [runR]
  by_cases hx:x.1=i
  ·rw [decide_eq_true hx,X2];omega
  ·rw [decide_eq_false hx,X0];omega
theorem X7j {w:List Q4}{t:Q1}{cs:List Q5}{i:Nat}{F:Nat→Q0→Unit→Option (Ctl (Q3×Bool) Unit)} : ∀ (r:List Q0) (k:Nat),
  (∀ k p,p∈r→F k p ()=some (match Z5r w t p with | none=>.go () | some v=>if Q6s cs v i=true then .ret (v,true) else .go ()))→
  forL F k r ()=some (match csL w t cs i r with | some v=>.ret (v,true) | none=>.brk ())
 | [],k,_=>by simp [forL,csL]
 | p::r,k,h=>by
  have ih:=X7j (w:=w) (t:=t) (cs:=cs) (i:=i) (F:=F) r (k+1) (fun k q hq=>h k q (by simp [hq]))
  unfold forL
  rw [h k p (by simp)]
  simp only [csL]
  cases Z5r w t p with
  | none=>exact ih
  | some v=>
   simp only
   by_cases hr:Q6s cs v i=true
   ·simp [hr]
   ·simp only [hr]
    exact ih
theorem Z7s {w:List Q4}(hww:w∈Q0a){t:Q1}(ht:t∈tys w){cs:List Q5}{i:Nat}(hi:i<cs.length):Q03 NN w t cs (i:Int)=some (valR (csD w t cs i)):=by
 have hw:=ww hww
 unfold Q03 csD
 rw [Z1z hww ht hi]
 simp only [U0]
 cases hr:Q53 w t cs i with
 | none=>simp [optR,valR]
 | some r=>
  obtain ⟨hcl,hf⟩:=Z4g hr
  have hpv:=(Q3m hcl).2
  simp only [optR,Bool.not_true,U2,if_false,U0]
  rw [X7j (w:=w) (t:=t) (cs:=cs) (i:=i) r 0 (fun k p hp=>by
   obtain ⟨h1,h2,h3⟩:=hf p hp
   rw [X3z hww ht h1 h2 h3]
   simp only [U0]
   cases hs:Z5r w t p with
   | none=>simp [valR]
   | some v=>
    simp only [valR,Bool.not_true,U2,if_false]
    rw [Z1d hw ht hpv (Q4g (Q90 hs)) (Nat.le_refl _)]
    simp only [U0]
    rw [W39]
    cases Q6s cs v i<;>simp)]
  cases csL w t cs i r<;>simp [valR]
theorem Z9r {w:List Q4}(hww:w∈Q0a){t:Q1}(ht:t∈tys w){cs:List Q5}(hfl:∀ c∈cs,Z1s w t c){i:Nat}(hi:i<cs.length):Q37 NN w t cs (i:Int)=some (valR (csD w t cs i)):=by
 have hw:=ww hww
 unfold Q37 csD
 rw [Z90 hww ht hfl hi]
 simp only [U0]
 cases hr:Q53 w t cs i with
 | none=>simp [optR,valR,forL]
 | some r=>
  obtain ⟨hcl,hf⟩:=Z4g hr
  have hpv:=(Q3m hcl).2
  simp only [optR,if_true,U0]
  rw [X7j (w:=w) (t:=t) (cs:=cs) (i:=i) r 0 (fun k p hp=>by
   obtain ⟨h1,h2,h3⟩:=hf p hp
   rw [X2u hww ht h1 h2 h3]
   simp only [U0]
   cases hs:Z5r w t p with
   | none=>simp [valR]
   | some v=>
    simp only [valR,Bool.not_true,U2,if_false]
    rw [Z9p hw ht hpv (Q4g (Q90 hs)) (Nat.le_refl _)]
    simp only [U0]
    rw [W39]
    cases Q6s cs v i<;>simp)]
  cases csL w t cs i r<;>simp [valR]
theorem X64 (l:List Int)(x:Int):Q5a l x=some (decide (x∈l)):=by
 suffices hs:Ret (Q5a l x) (fun r=>r=decide (x∈l)) by
  obtain ⟨a,e,rfl⟩:=hs
  exact e
 unfold Q5a
 refine Ret.ctl (Z1 l (fun k _=>x∉l.take k) (fun r=>r=true∧x∈l) (fun _=>x∉l) (by simp) (fun k y s hy hI=>?_) (fun s hI=>by rwa [List.take_length] at hI)) (fun r hr=>.some (by rw [hr.1];simp [hr.2])) (fun s hs=>.some (by simp [hs]))
 refine Ret.ite (fun h=>?_) (fun h=>?_)
 ·rw [X2] at h
  exact .some ⟨rfl,h▸U1 hy⟩
 ·rw [X0] at h
  refine .some ?_
  simp only [Q2r]
  rw [List.take_add_one,hy]
  simp only [Option.toList_some,List.mem_append,List.mem_singleton,not_or]
  exact ⟨hI,fun e=>h e.symm⟩
theorem W4b {w:List Q4}(hww:w∈Q0a){t:Q1}(ht:t∈tys w)(cs:List Q5):Q2z NN w t cs=some (valR (mvD w t cs)):=by
 unfold Q2z mvD
 rw [Z94 hww (ww hww) (we hww) ht]
 simp only [U0]
 cases hr:X0z w t cs with
 | none=>simp [optR,valR]
 | some r=>
  obtain ⟨_,hf⟩:=X3k hr
  cases r with
  | nil=>simp [optR,valR,ieq,Q0e]
  | cons p r=>
   obtain ⟨h1,h2,h3⟩:=hf p (by simp)
   have hne:ieq (lenZ (p::r).length) 0=false:=by rw [X0,Q0e];simp only [U3];omega
   rw [show optR (some (p::r))=(p::r,true) from rfl]
   simp only [Bool.not_true,U2,if_false,hne]
   have hix:idx (p::r) 0=some p:=Q1m (i:=0) (by simp)
   rw [hix]
   simp only [U0]
   rw [X3z hww ht h1 h2 h3]
   rfl
theorem W32 {w:List Q4}(hww:w∈Q0a){t:Q1}(ht:t∈tys w)(cs:List Q5):Q2v NN w t cs=some (valR (mvD w t cs)):=by
 unfold Q2v mvD
 rw [Z91 hww (ww hww) (we hww) ht]
 simp only [U0]
 cases hr:X0z w t cs with
 | none=>simp [optR,valR]
 | some r=>
  obtain ⟨_,hf⟩:=X3k hr
  cases r with
  | nil=>simp [optR,valR,ieq,Q0e]
  | cons p r=>
   obtain ⟨h1,h2,h3⟩:=hf p (by simp)
   have hne:ieq (lenZ (p::r).length) 0=false:=by rw [X0,Q0e];simp only [U3];omega
   rw [show optR (some (p::r))=(p::r,true) from rfl]
   simp only [Bool.not_true,U2,if_false,hne]
   have hix:idx (p::r) 0=some p:=Q1m (i:=0) (by simp)
   rw [hix]
   simp only [U0]
   rw [X2u hww ht h1 h2 h3]
   rfl
theorem X3h {w:List Q4}{t:Q1}{cs:List Q5}{v:Q3}(h:mvD w t cs=some v):Q29 w t v=true:=by
 unfold mvD at h
 obtain ⟨r,_,h⟩:=Option.bind_eq_some_iff.1 h
 split at h
 ·cases h
 ·exact Q90 h
def tvR (w:List Q4)(t:Q1)(cs:List Q5):List Q3×Bool:=if Y5 w t cs=true then (tvD w t cs,true) else ([],false)
theorem W3a (cs:List Q5)(v:Q3):ilt (runR (runD v 0 cs)).1 0=!(runD v 0 cs).isSome:=by
 cases h:runD v 0 cs with
 | none=>
  simp only [runR,Option.isSome_none,Bool.not_false]
  rw [Z9];omega
 | some x=>
  simp only [runR,Option.isSome_some,Bool.not_true]
  rw [J0];omega
theorem Z4j {w:List Q4}(hww:w∈Q0a){t:Q1}(ht:t∈tys w)(cs:List Q5):Q1g NN w t cs=some (tvR w t cs):=by
 have hw:=ww hww
 suffices hs:Ret (Q1g NN w t cs) (fun r=>r=tvR w t cs) by
  obtain ⟨a,e,rfl⟩:=hs
  exact e
 unfold Q1g tvR
 rw [Q3x hw ht]
 simp only [U0]
 by_cases hc:Y5 w t cs=true
 ·obtain ⟨h8,hpv⟩:=Q3m hc
  simp only [hc,Bool.not_true,U2,if_false,if_true]
  refine Ret.ctl (Z1 cs (fun k s=>s=tvL w t cs k) (fun _=>False) (fun s=>s=tvL w t cs cs.length) rfl (fun k c s hk hI=>?_) (fun s hI=>hI)) (fun r hr=>hr.elim) (fun s hs=>?_)
  ·have hlt:=(List.getElem?_eq_some_iff.1 hk).1
   have hlen:=Z6n w t cs k
   rw [Z7s hww ht hlt]
   simp only [U0]
   subst hI
   cases hcs:csD w t cs k with
   | none=>
    simp only [valR,U2,if_false,U0]
    refine .some ?_
    simp only [Q2r]
    rw [Z64,hcs]
    simp
   | some v=>
    simp only [valR,if_true]
    rw [W5 (by simp only [U3,U4,Q7];omega)]
    simp only [U0]
    refine .some ?_
    simp only [Q2r]
    rw [Z64,hcs]
    rfl
  ·have hlen:=Z6n w t cs cs.length
   dsimp only
   rw [W4b hww ht]
   simp only [U0]
   subst hs
   unfold tvD mvL
   cases hm:mvD w t cs with
   | none=>simp only [valR,U2,if_false,U0,List.append_nil];exact .some rfl
   | some v=>
    simp only [valR,if_true]
    rw [Z1d hw ht hpv (Q4g (X3h hm)) (Nat.le_refl _)]
    simp only [U0]
    rw [W3a]
    cases (runD v 0 cs).isSome with
    | true=>simp only [Bool.not_true,U2,if_false,if_true,U0,List.append_nil];exact .some rfl
    | false=>
     simp only [Bool.not_false,if_true,U2,if_false]
     rw [W5 (by simp only [U3,U4,Q7];omega)]
     exact .some rfl
 ·simp only [hc,Bool.not_false,if_true,if_false]
  exact .some rfl
theorem Z4c {w:List Q4}(hww:w∈Q0a){t:Q1}(ht:t∈tys w){cs:List Q5}(hfl:∀ c∈cs,Z1s w t c):Q1a NN w t cs=some (tvR w t cs):=by
 have hw:=ww hww
 suffices hs:Ret (Q1a NN w t cs) (fun r=>r=tvR w t cs) by
  obtain ⟨a,e,rfl⟩:=hs
  exact e
 unfold Q1a tvR
 rw [Q74 hw ht]
 simp only [U0]
 by_cases hc:Y5 w t cs=true
 ·obtain ⟨h8,hpv⟩:=Q3m hc
  simp only [hc,Bool.not_true,U2,if_false,if_true]
  refine Ret.ctl (Z1 cs (fun k s=>s=tvL w t cs k) (fun _=>False) (fun s=>s=tvL w t cs cs.length) rfl (fun k c s hk hI=>?_) (fun s hI=>hI)) (fun r hr=>hr.elim) (fun s hs=>?_)
  ·have hlt:=(List.getElem?_eq_some_iff.1 hk).1
   have hlen:=Z6n w t cs k
   rw [Z9r hww ht hfl hlt]
   simp only [U0]
   subst hI
   cases hcs:csD w t cs k with
   | none=>
    simp only [valR,U2,if_false,U0]
    refine .some ?_
    simp only [Q2r]
    rw [Z64,hcs]
    simp
   | some v=>
    simp only [valR,if_true]
    rw [W5 (by simp only [U3,U4,Q7];omega)]
    simp only [U0]
    refine .some ?_
    simp only [Q2r]
    rw [Z64,hcs]
    rfl
  ·have hlen:=Z6n w t cs cs.length
   dsimp only
   rw [W32 hww ht]
   simp only [U0]
   subst hs
   unfold tvD mvL
   cases hm:mvD w t cs with
   | none=>simp only [valR,U2,if_false,U0,List.append_nil];exact .some rfl
   | some v=>
    simp only [valR,if_true]
    rw [Z9p hw ht hpv (Q4g (X3h hm)) (Nat.le_refl _)]
    simp only [U0]
    rw [W3a]
    cases (runD v 0 cs).isSome with
    | true=>simp only [Bool.not_true,U2,if_false,if_true,U0,List.append_nil];exact .some rfl
    | false=>
     simp only [Bool.not_false,if_true,U2,if_false]
     rw [W5 (by simp only [U3,U4,Q7];omega)]
     exact .some rfl
 ·simp only [hc,Bool.not_false,if_true,if_false]
  exact .some rfl
theorem Z8g (code:List Int)(hb:∀ x∈code,0≤x∧x≤255):Ret (Q0j NN code) (fun a=>(a.1∈Q0a∧a.2.1∈tys a.1)∧∀ c∈a.2.2,Z1s a.1 a.2.1 c):=by
 unfold Q0j
 obtain ⟨a,e,ha⟩:=X02 code hb
 have hl:=X03 code hb a e
 exact Ret.bindE e (.some ⟨⟨ha.1,ha.2.1⟩,hl⟩)
end Go.Proofs.YtfhpjeogjcfkaaaGreat
