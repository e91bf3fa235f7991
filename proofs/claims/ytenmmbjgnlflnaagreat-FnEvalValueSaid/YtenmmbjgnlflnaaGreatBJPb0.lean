import Derived.Test.YtenmmbjgnlflnaaGreatBJMb0
import Derived.Test.YtenmmbjgnlflnaaGreatBJP1
set_option linter.unusedSimpArgs false
set_option linter.unusedVariables false
namespace Go.Proofs.YtenmmbjgnlflnaaGreat
open Go Go.RowKit
theorem W9e {w:List Q4}(hww:w∈Q0j)(T:List Z0)(vars:List Q5):∀ (d:Nat) (t:Q2) (v:Q1),t∈tys w→Q2f w d t v→Q5e w T vars d t (exV v)=true:=by
 have hw:=ww hww
 intro d
 induction d with
 | zero=>intro t v _ h;exact h.elim
 | succ d ih=>
  intro t v ht h
  simp only [Q2f] at h
  rw [W2x]
  split at h
  ·rename_i hd
   obtain ⟨h1,h2,h3,h4⟩:=h
   rw [if_pos h1]
   simp [Q5e,Q4a,Y9,hd,h2,h3]
  ·obtain ⟨h1,h2,h3,h4⟩:=h
   have h0:=V8t hww ht _ h2
   rw [if_neg (by omega),Q5e]
   have hk:Y9 w T t (Z1.mk 3 0 v.ctor (exV.exVs v.kids))=W0 w t v.ctor:=by simp [Y9]
   rw [hk]
   simp only [Q4a,Z6j,U7,h3,decide_true,Bool.true_and,Bool.and_eq_true,List.all_eq_true]
   refine ⟨by simp [h2],fun x hx=>?_⟩
   obtain ⟨j,hj⟩:=List.mem_iff_getElem?.1 hx
   obtain ⟨e1,e2⟩:=List.getElem?_zip_eq_some.1 hj
   rw [List.getElem?_map] at e2
   cases hy:v.kids[j]? with
   | none=>rw [hy] at e2;cases e2
   | some y=>
    rw [hy] at e2
    have:exV y=x.2:=by simpa using e2
    rw [←this]
    exact ih x.1 y ((hw.ty t ht).at_ _ h2 _ (U1 e1)) (h4 j _ y e1 hy)
mutual
theorem W34:∀ v:Q1,cntE (exV v)≤cntV v
 | ⟨c,n,kids⟩=>by
  rw [exV]
  split
  ·simp [cntE,cntE.cntEs,cntV]
  ·rw [cntE,cntV]
   have:=X89 kids
   omega
theorem X89:∀ l:List Q1,cntE.cntEs (exV.exVs l)≤cntV.cntVs l
 | []=>by simp [exV.exVs,cntE.cntEs,cntV.cntVs]
 | v::l=>by
  rw [exV.exVs,cntE.cntEs,cntV.cntVs]
  have:=W34 v
  have:=X89 l
  omega
end
theorem W3g {w:List Q4}(hww:w∈Q0j)(T:List Z0)(vars:List Q5){t:Q2}{v:Q1}(ht:t∈tys w)(hv:Q0z w t v=true):Q5x w T vars t (exV v)=true:=by
 simp only [Q5x,Bool.and_eq_true,decide_eq_true_eq]
 exact ⟨W9e hww T vars 10 t v ht (Q2g hv),Nat.le_trans (W34 v) (Z34 hv)⟩
theorem W5d {w:List Q4}(hw:WW w)(hf:Fit w)(F:List GFun){t:Q2}(ht:t∈tys w)(e:Z1)(fuel:Int):V1 NN (Z3z w F t e fuel).1 (Z3z w F t e fuel).1=some true:=by
 refine Z18 10 NN _ ?_ (by decide)
 unfold Z3z
 split
 ·unfold outV
  split
  ·exact (X4z hw hf ht ‹_› ‹_›).2
  ·exact W33
 ·exact W33
theorem X88:∀ (a b:List Q1),cntV.cntVs (a++b)=cntV.cntVs a+cntV.cntVs b
 | [],b=>by simp [cntV.cntVs]
 | x::a,b=>by
  have:=X88 a b
  simp only [List.cons_append,cntV.cntVs]
  omega
theorem V04 {w:List Q4}(hw:WW w):∀ (n:Nat) (r:X3) (t:Q2) (depth:Int),t∈tys w→Par (Y7 n r w (tabP w) t depth) (fun a=>widV 3 a.1):=by
 intro n
 induction n with
 | zero=>intro r t depth _;exact .none
 | succ n ih=>
  intro r t depth ht
  have hT:=hw.ty t ht
  unfold Y7
  refine Par.ite (fun _=>?_) (fun _=>?_)
  ·exact Par.any fun a=>.some ((Q9k _ _).2 ⟨by simp,fun x hx=>by cases hx⟩)
  ·rw [hT.c1]
   simp only [U0]
   refine Par.ctl (Z2o (fun _ (s:List Int)=>∀ x∈s,x∈X2 w t) (fun _=>False) (fun s=>∀ x∈s,x∈X2 w t) (X2 w t) 0 _ (by simp) (fun k x s hx hI=>?_) (fun s hs=>hs)) (fun r hr=>hr.elim) (fun s hs=>?_)
   ·have add:Par ((app s [x]).bind fun x310=>some (Ctl.brk (ρ:=Ctl (Q1×X3) (List Int)) x310)) (CtlQ (fun _=>False) (fun s'=>∀ x∈s',x∈X2 w t)):=by
     refine Par.bind (X1z _ _) (fun z hz=>.some ?_)
     subst hz
     intro y hy
     rcases U9.1 hy with hy | hy
     ·exact hI y hy
     ·simp only [List.mem_singleton] at hy;rw [hy];exact hx
    have pass:Par (some (Ctl.brk (ρ:=Ctl (Q1×X3) (List Int)) s)) (CtlQ (fun _=>False) (fun s'=>∀ x∈s',x∈X2 w t)):=.some hI
    refine Par.ctl (R:=fun _=>False) (B:=fun (s':List Int)=>∀ x∈s',x∈X2 w t) ?_ (fun r hr=>hr.elim) (fun s' hs'=>.some hs')
    refine Par.any fun a=>Par.ite (fun _=>Par.ite (fun _=>add) (fun _=>Par.any fun b=>Par.ite (fun _=>add) (fun _=>pass))) (fun _=>pass)
   ·refine Par.any fun a=>?_
    refine Par.bind (P:=fun x=>x∈X2 w t) (fun x hx=>?_) (fun x hx=>?_)
    ·unfold idx at hx
     split at hx
     ·exact hs x (U1 hx)
     ·cases hx
    ·rw [hT.a1 x hx]
     simp only [U0]
     have hal:=hT.al x hx
     refine Par.ctl (Z2o (fun k (u:X3×List Q1)=>u.2.length≤k∧∀ y∈u.2,widV 3 y) (fun _=>False) (fun u=>u.2.length≤3∧∀ y∈u.2,widV 3 y) (W0 w t x) 0 _ (by simp) (fun k y u hy hI=>?_) (fun u hu=>⟨by have:=hu.1;omega,hu.2⟩)) (fun r hr=>hr.elim) (fun u hu=>.some ((Q9k _ _).2 hu))
     refine Par.bind (ih u.1 y _ (hT.at_ x hx y hy)) (fun b hb=>?_)
     refine Par.bind (X1z _ _) (fun z hz=>.some ?_)
     subst hz
     refine ⟨by simp only [U5,U3,U4];have:=hI.1;omega,fun q hq=>?_⟩
     rcases U9.1 hq with hq | hq
     ·exact hI.2 q hq
     ·simp only [List.mem_singleton] at hq;rw [hq];exact hb
theorem X85 {w:List Q4}(hw:WW w):∀ (m n:Nat) (r:X3) (t:Q2) (depth:Int),t∈tys w→depP w t≠0→depth≤m→depP w t≤m→-1000+m≤depth→m≤100→m+1≤n→ROk r (Q5f m)→
  Ret (Y7 n r w (tabP w) t depth) (fun a=>Nx r a.2 (Q5f m)∧cntV a.1≤Q5f m):=by
 intro m
 induction m with
 | zero=>
  intro n r t depth ht hd h1 h2 h3 hm100 hn hr
  have:=(hw.ty t ht).d0
  omega
 | succ m ih=>
  intro n r t depth ht hd h1 h2 h3 hm100 hn hr
  obtain ⟨n,rfl⟩:∃ k,n=k+1:=⟨n-1,by omega⟩
  have hT:=hw.ty t ht
  have hpos:=X8b (m+1)
  unfold Y7
  refine Ret.ite (fun h=>?_) (fun h=>?_)
  ·refine Ret.bind (Z3h (hr.le hpos) (by omega) (by omega)) (fun a ha=>.some ⟨ha.2.2.le' hpos,by rw [Z2s];simpa [cntV.cntVs] using hpos⟩)
  ·rw [Z2] at h
   rw [hT.c1]
   simp only [U0]
   obtain ⟨kb,hkb,hmb⟩:=hT.dm h hd
   have hd0:=hT.d0
   refine Ret.ctl (Z4 (X2 w t) (fun k s=>(∀ x∈s,x∈X2 w t∧0<Q1p w t x∧(Q1p w t x≤depth∨Q1p w t x=depP w t))∧s.length≤k∧(∀ j,j<k→(X2 w t)[j]?=some kb→s≠[])) (fun _=>False)
    (fun s=>(∀ x∈s,x∈X2 w t∧0<Q1p w t x∧(Q1p w t x≤depth∨Q1p w t x=depP w t))∧s≠[]∧s.length≤4) ⟨by simp,by simp,fun j hj=>by omega⟩ (fun k x s hx hI=>?_) (fun s hI=>?_)) (fun r hr=>hr.elim) (fun s hs=>?_)
   ·obtain ⟨i1,i2,i3⟩:=hI
    have hxm:=U1 hx
    have hkl:=(List.getElem?_eq_some_iff.1 hx).1
    have hcl:=hT.cl
    have take:∀ (hp:0<Q1p w t x∧(Q1p w t x≤depth∨Q1p w t x=depP w t)),Ret ((app s [x]).bind fun x310=>some (Ctl.brk (ρ:=Ctl (Q1×X3) (List Int)) x310)) (CtlQ (fun _=>False) (fun s'=>(∀ x∈s',x∈X2 w t∧0<Q1p w t x∧(Q1p w t x≤depth∨Q1p w t x=depP w t))∧s'.length≤k+1∧(∀ j,j<k+1→(X2 w t)[j]?=some kb→s'≠[]))):=fun hp=>by
     rw [V5 (by simp only [Q9,U3,U4];omega)]
     refine .some ⟨fun y hy=>?_,by simp;omega,fun _ _ _=>by simp⟩
     rcases U9.1 hy with hy | hy
     ·exact i1 y hy
     ·simp at hy;subst hy;exact ⟨hxm,hp⟩
    have pass:(¬(0<Q1p w t x∧(Q1p w t x≤depth∨Q1p w t x=depP w t)))→Ret (some (Ctl.brk (ρ:=Ctl (Q1×X3) (List Int)) s)) (CtlQ (fun _=>False) (fun s'=>(∀ x∈s',x∈X2 w t∧0<Q1p w t x∧(Q1p w t x≤depth∨Q1p w t x=depP w t))∧s'.length≤k+1∧(∀ j,j<k+1→(X2 w t)[j]?=some kb→s'≠[]))):=fun hp=>by
     refine .some ⟨i1,by omega,fun j hj hjk=>?_⟩
     by_cases hjk2:j=k
     ·subst hjk2
      rw [hx] at hjk
      cases hjk
      exact absurd ⟨by omega,.inr hmb⟩ hp
     ·exact i3 j (by omega) hjk
    refine Ret.ctl (R:=fun _=>False) (B:=fun (s':List Int)=>(∀ x∈s',x∈X2 w t∧0<Q1p w t x∧(Q1p w t x≤depth∨Q1p w t x=depP w t))∧s'.length≤k+1∧(∀ j,j<k+1→(X2 w t)[j]?=some kb→s'≠[])) ?_ (fun r hr=>hr.elim) (fun s' hs'=>⟨_,rfl,hs'⟩)
    rw [hT.m1 x hxm]
    simp only [U0]
    refine Ret.ite (fun c=>?_) (fun c=>?_)
    ·rw [Z5] at c
     refine Ret.ite (fun c2=>?_) (fun c2=>?_)
     ·rw [W4] at c2
      exact take ⟨c,.inl c2⟩
     ·rw [Q0n] at c2
      rw [hT.d1]
      simp only [U0]
      refine Ret.ite (fun c3=>?_) (fun c3=>?_)
      ·rw [Q8] at c3
       exact take ⟨c,.inr c3⟩
      ·rw [Z2] at c3
       exact pass (by omega)
    ·rw [J8] at c
     exact pass (by omega)
   ·obtain ⟨i1,i2,i3⟩:=hI
    obtain ⟨j,hj⟩:=List.mem_iff_getElem?.1 hkb
    have:=hT.cl
    exact ⟨i1,i3 j ((List.getElem?_eq_some_iff.1 hj).1) hj,by omega⟩
   ·obtain ⟨i1,i2,i3⟩:=hs
    have hsl:1≤s.length:=by cases s with
     | nil=>exact absurd rfl i2
     | cons=>simp
    refine Ret.bind (Z3h (hr.le hpos) (k:=lenZ s.length) (by simp [lenZ];omega) (by simp [lenZ];omega)) (fun a ha=>?_)
    obtain ⟨x,hx,hxm⟩:=Q2d (xs:=s) ha.1 (by simpa [lenZ] using ha.2.1)
    obtain ⟨hxc,hx0,hxd⟩:=i1 x hxm
    rw [hx]
    simp only [U0]
    rw [hT.a1 x hxc]
    simp only [U0]
    have hal:=hT.al x hxc
    have hr1:ROk a.2 (3 * Q5f m):=ROk.nx (c:=1) hr ha.2.2
    refine Ret.ctl (Z4 (W0 w t x) (fun k s=>Nx a.2 s.1 (k * Q5f m)∧s.2.length≤k∧cntV.cntVs s.2≤k * Q5f m) (fun _=>False) (fun s=>Nx a.2 s.1 (3 * Q5f m)∧cntV.cntVs s.2≤3 * Q5f m) ⟨by simpa using Nx.refl a.2,by simp,by simp [cntV.cntVs]⟩ (fun k y s hy hI=>?_) (fun s hI=>?_)) (fun r hr=>hr.elim) (fun s hs=>?_)
    ·obtain ⟨j1,j2,j3⟩:=hI
     have hym:=U1 hy
     have hkl:=(List.getElem?_eq_some_iff.1 hy).1
     obtain ⟨d1,d2⟩:=hT.ma x hxc (by omega) y hym
     have hws:wsub .i64 depth 1=depth-1:=Q3v (by omega) (by omega)
     rw [hws]
     have hr2:ROk s.1 (Q5f m):=by
      have:k * Q5f m+Q5f m≤3 * Q5f m:=by
       rw [←Nat.succ_mul]
       exact Nat.mul_le_mul_right _ (by omega)
      exact ROk.nx (c:=k * Q5f m) (hr1.le this) j1
     refine Ret.bind (ih n s.1 y (depth-1) (hT.at_ x hxc y hym) (by omega) (by omega) (by omega) (by omega) (by omega) (by omega) hr2) (fun b hb=>?_)
     rw [V5 (by simp only [Q9,U3,U4];omega)]
     refine .some ⟨?_,by simp;omega,?_⟩
     ·have:=j1.trans hb.1
      rw [←Nat.succ_mul] at this
      exact this
     ·have e1:=X88 s.2 [b.1]
      have e2:cntV.cntVs [b.1]=cntV b.1:=by simp [cntV.cntVs]
      have e3:=hb.2
      have e4:(k+1) * Q5f m=k * Q5f m+Q5f m:=Nat.succ_mul k (Q5f m)
      simp only at e1 ⊢
      omega
    ·obtain ⟨j1,j2,j3⟩:=hI
     exact ⟨j1.le' (Nat.mul_le_mul_right _ hal),Nat.le_trans j3 (Nat.mul_le_mul_right _ hal)⟩
    ·refine .some ⟨ha.2.2.trans hs.1,?_⟩
     have e1:=hs.2
     have e2:Q5f (m+1)=1+3 * Q5f m:=rfl
     rw [Z2s]
     simp only
     omega
set_option maxRecDepth 100000
theorem W13:(Q0j.all fun w=>(tys w).all fun t=>decide (depP w t≤3))=true:=by kernel_rfl
theorem X93:(Q0j.all fun w=>[NN-1,NN-2,NN-3,NN-4,NN-5].all fun n=>decide (Q19 n w=some (tabP w)))=true:=by kernel_rfl
theorem V8s {w:List Q4}(hww:w∈Q0j){t:Q2}(ht:t∈tys w):depP w t≤3:=by
 have h:=List.all_eq_true.1 (List.all_eq_true.1 W13 w hww) t ht
 simpa using h
theorem V75 {w:List Q4}(hww:w∈Q0j){n:Nat}(h1:NN-5≤n)(h2:n<NN):Q19 n w=some (tabP w):=by
 have h:=List.all_eq_true.1 (List.all_eq_true.1 X93 w hww) n (by simp only [U8,List.not_mem_nil,or_false,NN] at h1 h2 ⊢;omega)
 simpa using h
theorem W5i {w:List Q4}(hw:WW w):∀ (n:Nat) (r:X3) (t:Q2) (depth:Int),t∈tys w→t.data≠-1→Par (Y7 n r w (tabP w) t depth) (fun a=>a.1.ctor∈X2 w t∧0<Q1p w t a.1.ctor):=by
 intro n
 cases n with
 | zero=>intro r t depth _ _;exact .none
 | succ n=>
  intro r t depth ht hd
  have hT:=hw.ty t ht
  unfold Y7
  refine Par.ite (fun h=>?_) (fun _=>?_)
  ·rw [Q8] at h
   exact absurd h hd
  ·rw [hT.c1]
   simp only [U0]
   refine Par.ctl (Z2o (fun _ (s:List Int)=>∀ x∈s,x∈X2 w t∧0<Q1p w t x) (fun _=>False) (fun s=>∀ x∈s,x∈X2 w t∧0<Q1p w t x) (X2 w t) 0 _ (by simp) (fun k x s hx hI=>?_) (fun s hs=>hs)) (fun r hr=>hr.elim) (fun s hs=>?_)
   ·have add:0<Q1p w t x→Par ((app s [x]).bind fun x310=>some (Ctl.brk (ρ:=Ctl (Q1×X3) (List Int)) x310)) (CtlQ (fun _=>False) (fun s'=>∀ x∈s',x∈X2 w t∧0<Q1p w t x)):=fun h0=>by
     refine Par.bind (X1z _ _) (fun z hz=>.some ?_)
     subst hz
     intro y hy
     rcases U9.1 hy with hy | hy
     ·exact hI y hy
     ·simp only [List.mem_singleton] at hy;rw [hy];exact ⟨hx,h0⟩
    have pass:Par (some (Ctl.brk (ρ:=Ctl (Q1×X3) (List Int)) s)) (CtlQ (fun _=>False) (fun s'=>∀ x∈s',x∈X2 w t∧0<Q1p w t x)):=.some hI
    refine Par.ctl (R:=fun _=>False) (B:=fun (s':List Int)=>∀ x∈s',x∈X2 w t∧0<Q1p w t x) ?_ (fun r hr=>hr.elim) (fun s' hs'=>.some hs')
    rw [hT.m1 x hx]
    simp only [U0]
    refine Par.ite (fun h0=>?_) (fun _=>pass)
    rw [Z5] at h0
    exact Par.ite (fun _=>add h0) (fun _=>Par.any fun b=>Par.ite (fun _=>add h0) (fun _=>pass))
   ·refine Par.any fun a=>?_
    refine Par.bind (P:=fun x=>x∈X2 w t∧0<Q1p w t x) (fun x hx=>?_) (fun x hx=>?_)
    ·unfold idx at hx
     split at hx
     ·exact hs x (U1 hx)
     ·cases hx
    ·refine Par.any fun ar=>?_
     refine Par.ctl (R:=fun _=>False) (B:=fun _=>True) (Z2o (fun _ _=>True) (fun _=>False) (fun _=>True) ar 0 _ trivial (fun k y u hy hI=>?_) (fun u hu=>trivial)) (fun r hr=>hr.elim) (fun u hu=>.some hx)
     exact Par.any fun b=>Par.any fun z=>.some trivial
theorem V2x:∀ (n:Nat) (v:Q1),cntV v≤n→widV 3 v→Ret (Q5j n v) (fun e=>widE 3 e):=by
 intro n
 induction n with
 | zero=>
  intro v h _
  rw [Z2s] at h
  omega
 | succ n ih=>
  intro v h hv
  have hv':=(Q9k 3 v).1 hv
  unfold Q5j
  refine Ret.ite (fun _=>.some ((Q9l _ _).2 ⟨by simp,fun x hx=>by cases hx⟩)) (fun _=>?_)
  refine Ret.ctl (Z4 v.kids (fun k (s:List Z1)=>s.length=k∧∀ e∈s,widE 3 e) (fun _=>False) (fun s=>s.length≤3∧∀ e∈s,widE 3 e) ⟨rfl,fun e he=>by cases he⟩ (fun k q s hq hI=>?_) (fun s hI=>⟨by have:=hv'.1;have:=hI.1;omega,hI.2⟩)) (fun r hr=>hr.elim) (fun s hs=>.some ((Q9l _ _).2 hs))
  have hk:=(List.getElem?_eq_some_iff.1 hq).1
  have hc:=X59 hq
  refine Ret.bind (ih q (by omega) (hv'.2 q (U1 hq))) (fun e he=>?_)
  rw [V5 (by simp only [U3,U4,Q9];have:=hv'.1;have:=hI.1;omega)]
  refine .some ⟨by show (s++[e]).length=_;simp [hI.1],fun y hy=>?_⟩
  rcases U9.1 hy with hy | hy
  ·exact hI.2 y hy
  ·simp only [List.mem_singleton] at hy;rw [hy];exact he
def c12:Nat→Nat
 | 0=>0
 | m+1=>6+Q5f (max (m+1) 3)+3 * c12 m
theorem V05 {w:List Q4}(hww:w∈Q0j){T:List Z0}(hT4:T.length≤4)(hTa:∀ f∈T,f.arg∈tys w):∀ (m n:Nat) (r:X3) (t:Q2) (depth:Int),t∈tys w→depP w t≠0→1≤depth→depth≤m→m≤4→NN-4+m≤n→n≤NN→ROk r (c12 m)→
  Ret (Q2t n r w T [] t depth) (fun a=>Nx r a.2 (c12 m)∧widE 3 a.1):=by
 have hw:=ww hww
 intro m
 induction m with
 | zero=>intro n r t depth _ _ h1 h2;omega
 | succ m ih=>
  intro n r t depth ht hd h1 h2 hm hn hn2 hr
  obtain ⟨n,rfl⟩:∃ k,n=k+1:=⟨n-1,by simp only [NN] at hn;omega⟩
  have hT:=hw.ty t ht
  have hc:c12 (m+1)=6+Q5f (max (m+1) 3)+3 * c12 m:=rfl
  have hdm:=V8s hww ht
  have hd0:=hT.d0
  have hws:wsub .i64 depth 1=depth-1:=Q3v (by omega) (by omega)
  unfold Q2t
  rw [V75 hww (by simp only [NN] at hn ⊢;omega) (by omega)]
  simp only [U0]
  refine Ret.ctl (R:=fun _=>False) (B:=fun s=>s=r) (Z4 [] (fun _ s=>s=r) (fun _=>False) (fun s=>s=r) rfl (fun k x s hx=>by simp at hx) (fun s h=>h)) (fun r hr=>hr.elim) (fun s hs=>?_)
  subst hs
  refine Ret.ctl (Z4 T (fun k s'=>Nx s s' k) (fun res=>Nx s res.2 (c12 (m+1))∧widE 3 res.1) (fun s'=>Nx s s' 4) (Nx.refl s) (fun k f s' hf hI=>?_) (fun s' hI=>hI.le' hT4)) (fun res h=>.some h) (fun s4 hs4=>?_)
  ·have hfm:=U1 hf
   have hkl:=(List.getElem?_eq_some_iff.1 hf).1
   refine Ret.ite (fun hp=>?_) (fun _=>.some (hI.le' (by omega)))
   rw [Z5] at hp
   refine Ret.ctl (R:=fun c=>∃ res,c=Ctl.ret res∧Nx s res.2 (c12 (m+1))∧widE 3 res.1) (B:=fun s'=>Nx s s' (k+1)) ?_ (fun c hc=>?_) (fun s'' hs''=>.some hs'')
   ·rw [Z39]
    simp only [U0]
    refine Ret.ite (fun _=>?_) (fun _=>.some (hI.le' (by omega)))
    rw [(hw.ty _ (hTa f hfm)).d1]
    simp only [U0]
    refine Ret.ite (fun hdp=>?_) (fun _=>.some (hI.le' (by omega)))
    rw [Z5] at hdp
    have hrs:ROk s' (1+c12 m):=ROk.nx (c:=k) (hr.le (by omega)) hI
    refine Ret.bind (Z3h (hrs.le (by omega)) (by omega) (by omega)) (fun a ha=>?_)
    refine Ret.ite (fun _=>?_) (fun _=>.some (hI.trans ha.2.2))
    rw [hws]
    refine Ret.bind (ih n a.2 f.arg (depth-1) (hTa f hfm) (by omega) (by omega) (by omega) (by omega) (by simp only [NN] at hn ⊢;omega) (by omega) (ROk.nx (c:=1) hrs ha.2.2)) (fun b hb=>.some ⟨_,rfl,?_,?_⟩)
    ·exact ((hI.trans ha.2.2).trans hb.1).le' (by omega)
    ·exact (Q9l _ _).2 ⟨by simp,fun x hx=>by simp only [List.mem_singleton] at hx;rw [hx];exact hb.2⟩
   ·obtain ⟨res,rfl,h⟩:=hc
    exact .some h
  ·have hr4:ROk s4 (2+Q5f (max (m+1) 3)+3 * c12 m):=ROk.nx (c:=4) (hr.le (by omega)) hs4
   refine Ret.ctl (R:=fun res=>Nx s res.2 (c12 (m+1))∧widE 3 res.1) (B:=fun s5=>Nx s4 s5 1) ?_ (fun res h=>.some h) (fun s5 hs5=>?_)
   ·refine Ret.ite (fun _=>?_) (fun _=>.some ((Nx.refl s4).le' (by omega)))
    refine Ret.ite (fun hp=>?_) (fun _=>.some ((Nx.refl s4).le' (by omega)))
    rw [Z5] at hp
    refine Ret.bind (Z3h (hr4.le (by omega)) (by omega) (by omega)) (fun a ha=>?_)
    refine Ret.ite (fun _=>?_) (fun _=>.some ha.2.2)
    have hra:ROk a.2 (1+Q5f (max (m+1) 3)+3 * c12 m):=ROk.nx (c:=1) (hr4.le (by omega)) ha.2.2
    rw [hws]
    refine Ret.bind (ih n a.2 t (depth-1) ht hd (by omega) (by omega) (by omega) (by simp only [NN] at hn ⊢;omega) (by omega) (hra.le (by omega))) (fun b hb=>?_)
    have hrb:ROk b.2 (c12 m):=ROk.nx (c:=c12 m) (hra.le (by omega)) hb.1
    refine Ret.bind (ih n b.2 t (depth-1) ht hd (by omega) (by omega) (by omega) (by simp only [NN] at hn ⊢;omega) (by omega) hrb) (fun c hc=>.some ⟨?_,?_⟩)
    ·exact ((((hs4.trans ha.2.2).trans hb.1).trans hc.1)).le' (by omega)
    ·exact (Q9l _ _).2 ⟨by simp,fun x hx=>by
      simp only [U8,List.not_mem_nil,or_false] at hx
      rcases hx with rfl | rfl
      ·exact hb.2
      ·exact hc.2⟩
   ·have hr5:ROk s5 (1+Q5f (max (m+1) 3)+3 * c12 m):=ROk.nx (c:=1) (hr4.le (by omega)) hs5
    have hs05:Nx s s5 5:=(hs4.trans hs5).le' (by omega)
    have hn1:1000≤n:=by simp only [NN] at hn;omega
    have hmm:(max (m+1) 3:Nat)≤4:=by omega
    have hm3:3≤max (m+1) 3:=by omega
    have hmd:m+1≤max (m+1) 3:=by omega
    have hcd:Q5f (max (m+1) 3)≤121:=by
     have:max (m+1) 3=3∨max (m+1) 3=4:=by omega
     rcases this with h | h<;>rw [h]<;>decide
    generalize max (m+1) 3=M at *
    have leaf:Ret ((Y7 n s5 w (tabP w) t 1).bind fun r879=>((Q5j n r879.1).bind fun r880=>some ((r880,r879.2)))) (fun a=>Nx s a.2 (c12 (m+1))∧widE 3 a.1):=by
     refine Ret.bind ((X85 hw M n s5 t 1 ht hd (by omega) (by omega) (by omega) (by omega) (by omega) (hr5.le (by omega))).both (V04 hw n s5 t 1 ht)) (fun e he=>?_)
     refine Ret.bind (V2x n e.1 (by have:=he.1.2;omega) he.2) (fun q hq=>.some ⟨(hs05.trans he.1.1).le' (by omega),hq⟩)
    refine Ret.ite (fun _=>leaf) (fun hp=>?_)
    rw [J8] at hp
    refine Ret.ite (fun _=>leaf) (fun ht1=>?_)
    rw [Z2] at ht1
    refine Ret.bind ((X85 hw M n s5 t depth ht hd (by omega) (by omega) (by omega) (by omega) (by omega) (hr5.le (by omega))).both (W5i hw n s5 t depth ht ht1)) (fun e he=>?_)
    obtain ⟨⟨e1,_⟩,e3,e4⟩:=he
    have hr6:ROk e.2 (3 * c12 m):=ROk.nx (c:=Q5f M) (hr5.le (by omega)) e1
    rw [hT.a1 _ e3]
    simp only [U0]
    have hal:=hT.al _ e3
    refine Ret.ctl (Z4 (W0 w t e.1.ctor) (fun k u=>Nx e.2 u.1 (k * c12 m)∧u.2.length=k∧∀ x∈u.2,widE 3 x) (fun _=>False) (fun u=>Nx e.2 u.1 (3 * c12 m)∧u.2.length≤3∧∀ x∈u.2,widE 3 x) ⟨by simpa using Nx.refl e.2,rfl,fun x hx=>by cases hx⟩ (fun k y u hy hI=>?_) (fun u hI=>⟨hI.1.le' (Nat.mul_le_mul_right _ hal),by have:=hI.2.1;omega,hI.2.2⟩)) (fun r hr=>hr.elim) (fun u hu=>.some ⟨((hs05.trans e1).trans hu.1).le' (by omega),(Q9l _ _).2 ⟨hu.2.1,hu.2.2⟩⟩)
    obtain ⟨j1,j2,j3⟩:=hI
    have hym:=U1 hy
    have hkl:=(List.getElem?_eq_some_iff.1 hy).1
    obtain ⟨d1,d2⟩:=hT.ma _ e3 (by omega) y hym
    rw [hws]
    have hru:ROk u.1 (c12 m):=by
     have:k * c12 m+c12 m≤3 * c12 m:=by
      rw [←Nat.succ_mul]
      exact Nat.mul_le_mul_right _ (by omega)
     exact ROk.nx (c:=k * c12 m) (hr6.le this) j1
    refine Ret.bind (ih n u.1 y (depth-1) (hT.at_ _ e3 y hym) (by omega) (by omega) (by omega) (by omega) (by simp only [NN] at hn ⊢;omega) (by omega) hru) (fun b hb=>?_)
    rw [V5 (by simp only [Q9,U3,U4];omega)]
    refine .some ⟨?_,by show (u.2++[b.1]).length=_;simp [j2],fun x hx=>?_⟩
    ·have:=j1.trans hb.1
     rw [←Nat.succ_mul] at this
     exact this
    ·rcases U9.1 hx with hx | hx
     ·exact j3 x hx
     ·simp only [List.mem_singleton] at hx;rw [hx];exact hb.2
theorem X1l (code:List Int)(hb:∀ x∈code,0≤x∧x≤255):Ret (Q41 NN code) (fun a=>a.1∈Q0j∧a.2.1.length≤1000∧a.2.2.1∈tys a.1):=by
 unfold Q41
 refine Ret.bind (X6w code hb) (fun r hr=>?_)
 obtain ⟨⟨r1,r2,r3,r4⟩,r5⟩:=hr
 obtain ⟨b,q⟩:=r
 simp only at r1 r2 r5
 subst r5
 refine Ret.bind (W30 r1 r2 (p:=0) (by omega)) (fun a ha=>?_)
 obtain ⟨hm,hF,a3⟩:=ha
 have hW:=ww hm
 have hf1:=hF.fd.l1
 have hf4:=hF.fd.l4
 rw [a3]
 refine Ret.bind (X49 r1 r2 (by omega) (k:=lenZ a.2.1.length) (by simp only [lenZ];omega) (by simp only [lenZ];omega)) (fun c hc=>?_)
 obtain ⟨c0,c1,c2⟩:=hc
 simp only [lenZ] at c1
 obtain ⟨x,hx,hxm⟩:=Q2d c0 c1
 rw [hx]
 simp only [U0]
 have hres:=hF.rs x hxm
 refine Ret.ctl (R:=fun _=>False) (B:=fun s=>(Q2.mk s.1 s.2)∈tys a.1∧depP a.1 (Q2.mk s.1 s.2)≠0) ?_ (fun r hr=>hr.elim) (fun s hs=>?_)
 ·rw [hW.tab]
  simp only [U0]
  rw [(hW.ty _ hres).d1]
  simp only [U0]
  have htI:tI∈tys a.1:=by unfold tys;exact List.mem_cons_self
  refine Ret.ite (fun h=>?_) (fun h=>?_)
  ·refine .some ⟨htI,?_⟩
   have:=(hW.ty tI htI).ti rfl
   show depP a.1 tI≠0
   omega
  ·rw [Z2] at h
   exact .some ⟨hres,h⟩
 ·obtain ⟨s1,s2⟩:=hs
  rw [Z38 (by omega)]
  simp only [U0]
  rw [c2]
  refine Ret.bind (numN r1 r2 (by omega) _ (by simp) (by simp)) (fun d hd=>?_)
  obtain ⟨d1,d2⟩:=hd
  have hd4:1≤d.1∧d.1≤4:=by
   simp at d1
   omega
  rw [d2]
  have hc4:c12 4=1921:=by decide
  refine Ret.bind (V05 hm (T:=a.2.1.map (·.typ)) (by simpa using hf4) (fun f hf=>by
   obtain ⟨g,hg,rfl⟩:=U11.1 hf
   exact (hF.ty g hg).1) 4 NN ⟨b,((0+2+1+1:Nat):Int)⟩ _ d.1 s1 s2 (by omega) (by omega) (by omega) (by simp only [NN];omega) (by omega) ⟨r1,r2,by simp only;omega,by simp only;omega⟩) (fun e he=>?_)
  obtain ⟨e1,e2⟩:=he
  obtain ⟨ex,bb,q⟩:=e
  have g1:bb=b:=e1.b
  have g2:=e1.le
  have g3:=e1.ge
  simp only at g2 g3 e2
  subst g1
  obtain ⟨q,rfl⟩:=Int.eq_ofNat_of_zero_le (show 0≤q by omega)
  refine Ret.bind (W7x r1 r2 (p:=q) (by omega) hF.fd) (fun m hm'=>?_)
  obtain ⟨m1,p',E,V,m2,m3,m4,m5⟩:=hm'
  rw [m2]
  refine Ret.bind (Z3n r1 r2 m4 m3 (E-p') NN ex p' (100+p') 1 (Nat.le_refl _) (by simp only [NN];omega) (Nat.le_refl _) (Z33 (by omega) ex e2) (by omega) (by omega)) (fun u hu=>?_)
  obtain ⟨p2,u1,u2,u3,u4,u5⟩:=hu
  rw [u1]
  refine Ret.bind (numN r1 r2 (by omega) _ (by simp) (by simp)) (fun z hz=>.some ⟨hm,m1,s1⟩)
theorem Z8q {w:List Q4}(hw:WW w){T:List Z0}(hTl:T.length≤1000){t:Q2}(ht:t∈tys w)(hT:Z5m w T=true)(e:Z1):Q5z NN w T [] t e=some (Q5x w T [] t e):=by
 unfold Q5z Q6j
 rw [X68 hw ht]
 simp only [U0]
 have hTa:∀ f∈T,f.arg∈tys w:=fun f hf=>by
  have hT:=hT
  simp only [Z5m,Bool.and_eq_true,decide_eq_true_eq,List.all_eq_true] at hT
  exact (hT.2 f hf).1
 have hv:Q8y w []=some true:=rfl
 rw [if_pos trivial,Z9v T hTl,hT,hv]
 simp only [U0]
 rw [if_pos trivial]
 simp only [U0]
 rw [if_pos trivial,Z9w hw hTl hTa (vars:=[]) rfl (by decide) ht]
 rfl
theorem Z9y {w:List Q4}(hw:WW w)(hf:Fit w){F:List GFun}(hF:F.length≤1000){t:Q2}(ht:t∈tys w)(e:Z1)(fuel:Int):Q6m NN w F t e fuel=some (Z3z w F t e fuel):=by
 unfold Q6m Z3z
 rw [Z0x hw hF]
 simp only [U0]
 cases h1:Z0m w F with
 | false=>simp only [exB,h1];rfl
 | true=>
  have hk:=Q6t h1
  rw [if_neg (by simp)]
  by_cases h3:0≤fuel
  ·rw [if_neg (by rw [Z5];omega)]
   by_cases h4:fuel≤300
   ·rw [if_neg (by rw [Z5];omega),Z38 hF]
    simp only [U0]
    rw [Z8q hw (by simpa using hF) ht (X7l h1)]
    simp only [U0]
    cases h2:Q5x w (F.map (·.typ)) [] t e with
    | false=>simp only [exB,h1,h2];rfl
    | true=>
     have hb:exB w F t e fuel=true:=by simp only [exB,h1,h2,decide_eq_true h3,decide_eq_true h4];rfl
     rw [if_neg (by simp),if_pos hb]
     show (Q0u NN (mkSp w F ⟨fuel,0,0⟩) t e [] ((50:Nat):Int)).bind _=_
     rw [Z9x hw hf hk (k:=50) (by omega) (Z9z hw hf hk 50 (by omega)) (X3w w) 10 NN t e ⟨fuel,0,0⟩ (by decide) ht (Q3w h2) rfl ⟨h3,Int.le_refl _,by simp only;omega⟩]
     simp only [U0]
     have hq:evE w (F.map (·.typ)) (evC w F 50) [] 10 t e ⟨fuel,0,0⟩=exQ w F t e fuel:=rfl
     rw [hq,W1h (fun h0=>(X4z hw hf ht hb h0).2)]
     rfl
   ·rw [if_pos (by rw [Z5];omega)]
    simp only [exB,decide_eq_false h4,Bool.and_false]
    rfl
  ·rw [if_pos (by rw [Z5];omega)]
   simp only [exB,decide_eq_false h3,Bool.false_and,Bool.and_false]
   rfl
theorem X2f (code:List Int)(hb:∀ x∈code,0≤x∧x≤255):Q35 NN code=some true:=by
 suffices hs:Ret (Q35 NN code) (fun r=>r=true) by
  obtain ⟨a,e,rfl⟩:=hs
  exact e
 unfold Q35
 refine Ret.ite (fun _=>.some rfl) (fun _=>?_)
 refine Ret.bind (X1l code hb) (fun a ha=>?_)
 obtain ⟨hm,hl,ht⟩:=ha
 have hw:=ww hm
 have hf:=W2u hm
 rw [Z0j hw hf hl ht,Z9y hw hf hl ht]
 simp only [U0]
 rw [if_neg (by simp [ieq]),W5d hw hf _ ht]
 simp only [U0]
 rw [if_neg (by simp)]
 refine Ret.ite (fun _=>?_) (fun h0=>?_)
 ·rw [if_pos (by simp [ieq])]
  exact .some rfl
 have h0:(Z3z a.1 a.2.1 a.2.2.1 a.2.2.2.1 a.2.2.2.2).2=0:=by simpa [ieq] using h0
 have hx:exB a.1 a.2.1 a.2.2.1 a.2.2.2.1 a.2.2.2.2=true:=by
  cases hx:exB a.1 a.2.1 a.2.2.1 a.2.2.2.1 a.2.2.2.2 with
  | true=>rfl
  | false=>
   unfold Z3z at h0
   rw [hx] at h0
   cases h0
 have hv:Q0z a.1 a.2.2.1 (Z3z a.1 a.2.1 a.2.2.1 a.2.2.2.1 a.2.2.2.2).1=true:=by
  unfold Z3z at h0 ⊢
  rw [if_pos hx] at h0 ⊢
  unfold outV at h0 ⊢
  by_cases hc:(exQ a.1 a.2.1 a.2.2.1 a.2.2.2.1 a.2.2.2.2).2.code=0
  ·rw [if_pos hc]
   exact (X4z hw hf ht hx hc).1
  ·rw [if_neg hc] at h0
   exact absurd h0 hc
 generalize (Z3z a.1 a.2.1 a.2.2.1 a.2.2.2.1 a.2.2.2.2).1=v at hv ⊢
 rw [Z69 hw ht,if_pos hv]
 simp only [U0]
 rw [Z0j hw hf hl ht]
 simp only [U0]
 have he:Z3z a.1 a.2.1 a.2.2.1 (exV v) 0=(v,0):=by
  have hb:exB a.1 a.2.1 a.2.2.1 (exV v) 0=true:=by
   simp only [exB,Bool.and_eq_true] at hx ⊢
   exact ⟨⟨hx.1.1,W3g hm _ _ ht hv⟩,rfl,rfl⟩
  unfold Z3z exQ
  rw [if_pos hb,W9w hm _ _ _ rfl 10 _ _ ht (Q2g hv) (by omega) (Z34 hv)]
  rfl
 rw [he]
 unfold Q3r
 rw [Z67 hw ht]
 simp only [U0]
 rw [if_pos trivial,Z2f (by decide) hw ht,hv]
 simp only [U0]
 rw [if_pos trivial,if_pos trivial,if_pos (by simp [ieq]),Z18 10 NN v (Z4m hw ht hv) (by decide)]
 exact .some rfl
end Go.Proofs.YtenmmbjgnlflnaaGreat
