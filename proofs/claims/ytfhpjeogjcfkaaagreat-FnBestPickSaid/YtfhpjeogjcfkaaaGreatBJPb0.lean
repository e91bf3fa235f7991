import Derived.Test.YtfhpjeogjcfkaaaGreatBJMb0
import Derived.Test.YtfhpjeogjcfkaaaGreatBJP1
set_option linter.unusedSimpArgs false
set_option linter.unusedVariables false
namespace Go.Proofs.YtfhpjeogjcfkaaaGreat
open Go Go.RowKit
theorem W7w {r:X1}(h:ROk r 1000):Ret (Q4m NN r) (fun a=>a.1∈Q0r∧a.2.1∈tys a.1∧Nx r a.2.2.2 500):=by
 unfold Q4m
 refine Ret.bind (W2d (h.le (by omega))) (fun a ha=>?_)
 obtain ⟨hw,hn1⟩:=ha
 have hW:=ww hw
 rw [hW.tab]
 simp only [U0]
 have hr1:ROk a.2 999:=ROk.nx (c:=1) h hn1
 have hpos:=hW.pos
 have hle:=hW.le
 refine Ret.bind (Q3w (hr1.le (by omega)) (k:=lenZ a.1.length) (by simp only [lenZ];omega) (by simp only [lenZ];omega)) (fun b hb=>?_)
 have hr2:ROk b.2 998:=ROk.nx (c:=1) hr1 hb.2.2
 refine Ret.bind (Z0n (hr2.le (by omega)) [0,0,1,2] (by simp) (by simp)) (fun c hc=>?_)
 have hr3:ROk c.2 997:=ROk.nx (c:=1) hr2 hc.2
 have hty:(Q7.mk b.1 c.1)∈tys a.1:=by
  obtain ⟨i,hi⟩:=Int.eq_ofNat_of_zero_le hb.1
  have hil:i<a.1.length:=by have:=hb.2.1;simp only [lenZ] at this;omega
  have hci:∃ j:Nat,j<4∧c.1=(j:Int):=by
   have:=hc.1
   simp at this
   rcases this with h | h | h
   ·exact ⟨0,by omega,h⟩
   ·exact ⟨1,by omega,h⟩
   ·exact ⟨2,by omega,h⟩
  obtain ⟨j,hj,hcj⟩:=hci
  unfold tys
  refine List.mem_cons_of_mem _ (List.mem_flatMap.2 ⟨i,List.mem_range.2 hil,U10.2 ⟨j,List.mem_range.2 hj,?_⟩⟩)
  rw [hi,hcj]
  rfl
 have htI:tI∈tys a.1:=by unfold tys;exact List.mem_cons_self
 refine Ret.ctl (R:=fun _=>False) (B:=fun s=>(Q7.mk s.1 s.2)∈tys a.1∧depP a.1 (Q7.mk s.1 s.2)≠0) ?_ (fun r hr=>hr.elim) (fun s hs=>?_)
 ·rw [(hW.ty _ hty).d1]
  simp only [U0]
  refine Ret.ite (fun h=>?_) (fun h=>?_)
  ·refine .some ⟨htI,?_⟩
   have:=(hW.ty tI htI).ti rfl
   show depP a.1 tI≠0
   omega
  ·rw [X2] at h
   exact .some ⟨hty,h⟩
 ·refine Ret.bind (Z0n (hr3.le (by omega)) [3,2,4,1] (by simp) (by simp)) (fun d hd=>?_)
  have hr4:ROk d.2 996:=ROk.nx (c:=1) hr3 hd.2
  have hd4:1≤d.1∧d.1≤4:=by
   have:=hd.1
   simp at this
   omega
  have hdep:=(hW.ty _ hs.1).d4
  refine Ret.bind (W3v hW 4 NN d.2 _ d.1 hs.1 hs.2 (by omega) (by omega) (by omega) (by omega) (by decide) (hr4.le (by decide))) (fun e he=>?_)
  refine .some ⟨hw,hs.1,?_⟩
  have:=(((hn1.trans hb.2.2).trans hc.2).trans hd.2).trans he
  exact this.le' (by decide)
theorem W7v {r:X1}(h:ROk r 5000):Ret (Q2h NN r) (fun a=>a.1∈Q0r∧a.2.1∈tys a.1∧(∀ c∈a.2.2.1,Q3i a.1 a.2.1 c.pat=true)∧a.2.2.1.length≤5∧Nx r a.2.2.2.2 4000):=by
 unfold Q2h
 refine Ret.bind (W7w (h.le (by omega))) (fun a ha=>?_)
 obtain ⟨h1,h2,h3⟩:=ha
 refine Ret.bind (W2z (ww h1) h2 (ROk.nx (c:=500) (h.le (by omega)) h3)) (fun b hb=>?_)
 exact .some ⟨h1,h2,hb.1,hb.2.1,(h3.trans hb.2.2).le' (by omega)⟩
theorem W4v (code:List Int)(hb:∀ x∈code,0≤x∧x≤255):Ret (Q19 NN code) (fun a=>a.1∈Q0r∧a.2.1∈tys a.1∧a.2.2.length≤9):=by
 unfold Q19
 refine Ret.bind (W0n code hb) (fun r hr=>?_)
 refine Ret.bind (W7v (hr.le (by omega))) (fun a ha=>?_)
 obtain ⟨h1,h2,h3,h4,h5⟩:=ha
 have hr1:ROk a.2.2.2.2 1000:=ROk.nx (c:=4000) (hr.le (by omega)) h5
 refine Ret.ctl (R:=fun _=>False) (B:=fun (s:X1×List Q3)=>ROk s.1 100∧s.2.length≤8∧∀ c∈s.2,c.pat.kids.length≤100) ?_ (fun r hr=>hr.elim) (fun s hs=>?_)
 ·have hk:∀ c∈a.2.2.1,c.pat.kids.length≤100:=fun c hc=>by have:=Z7c (ww h1) h2 (h3 c hc);omega
  refine Ret.ite (fun _=>?_) (fun _=>.some ⟨hr1.le (by omega),by simp only;omega,hk⟩)
  refine Ret.bind (Q3w (hr1.le (by omega)) (by omega) (by omega)) (fun b hb=>?_)
  have hr2:ROk b.2 999:=ROk.nx (c:=1) hr1 hb.2.2
  refine Ret.ite (fun _=>?_) (fun _=>.some ⟨hr2.le (by omega),by simp only;omega,hk⟩)
  simp only [Q36,U0]
  rw [X6 (by simp [Q5];omega)]
  refine .some ⟨hr2.le (by omega),by simp;omega,fun c hc=>?_⟩
  rcases List.mem_append.1 hc with hc | hc
  ·exact hk c hc
  ·simp at hc;subst hc;simp
 ·refine Ret.bind (Z7o (hs.1.le (by omega)) s.2 hs.2.1 hs.2.2) (fun b hb=>.some ⟨h1,h2,hb.1⟩)
def addE (f:List Q0a→X0→List Q0a×Int):List Q0a→List Z1→List Q0a×List Z11
 | ns,[]=>(ns,[])
 | ns,b::bs=>((addE f (f ns b.tree).1 bs).1,⟨b.ctor,b.n,b.m,(f ns b.tree).2⟩::(addE f (f ns b.tree).1 bs).2)
def addL (f:List Q0a→X0→List Q0a×Int)(ns:List Q0a):List X0→List Q0a×Int
 | []=>(ns,-1)
 | y::_=>f ns y
def putN (ns:List Q0a)(n:Q0a):List Q0a×Int:=match ns.idxOf? n with
 | some k=>(ns,(k:Int))
 | none=>(ns++[n],(ns.length:Int))
def addN:Nat→List Q0a→X0→List Q0a×Int
 | 0,ns,_=>(ns,-1)
 | d+1,ns,x=>putN (addL (addN d) (addE (addN d) ns x.branches).1 x.else_).1
   ⟨x.op,x.clause,x.binds,x.path,(addE (addN d) ns x.branches).2,(addL (addN d) (addE (addN d) ns x.branches).1 x.else_).2⟩
theorem X4q (a b:List Q1):Q2s a b=some (decide (a=b)):=by
 suffices hs:Ret (Q2s a b) (fun r=>r=decide (a=b)) by
  obtain ⟨_,e,rfl⟩:=hs
  exact e
 unfold Q2s
 refine Ret.ite (fun h=>.some (Q22 ?_)) (fun h=>?_)
 ·rintro rfl
  simp [ieq] at h
 ·rw [Bool.not_eq_false',Q9,V7,V7] at h
  refine Ret.ctl (Z0k (b:=b) (by omega) (fun k x y hy=>?_)) (fun r hr=>.some ?_) (fun s hs=>.some (Z2x hs))
  ·rw [Q0f hy]
   simp only [U0,Z3d]
   refine ⟨fun e=>by subst e;simp [ieq],fun e=>?_⟩
   by_cases h1:x.var=y.var
   ·have h2:x.path≠y.path:=fun h2=>e (by cases x;cases y;simp only at h1 h2;rw [h1,h2])
    simp [ieq,h1,h2]
   ·simp [ieq,h1]
  ·rw [hr.1]
   exact Q22 hr.2
theorem X45 (a b:Z11):Q8r [ieq a.ctor b.ctor,ieq a.n b.n,ieq a.m b.m,ieq a.to b.to]=decide (a=b):=by
 obtain ⟨v,d,i,j⟩:=a
 obtain ⟨v',d',i',j'⟩:=b
 simp [Q8r,ieq]
theorem V3y (a b:Q0a):Q6u a b=some (decide (a=b)):=by
 suffices hs:Ret (Q6u a b) (fun r=>r=decide (a=b)) by
  obtain ⟨_,e,rfl⟩:=hs
  exact e
 unfold Q6u
 refine Ret.ite (fun h=>.some (Q22 ?_)) (fun h1=>?_)
 ·rintro rfl
  simp [ieq] at h
 refine Ret.ite (fun h=>.some (Q22 ?_)) (fun h2=>?_)
 ·rintro rfl
  simp [ieq] at h
 refine Ret.ite (fun h=>.some (Q22 ?_)) (fun h3=>?_)
 ·rintro rfl
  simp [ieq] at h
 rw [X4q,Z3d]
 simp only [U0]
 refine Ret.ite (fun h=>.some (Q22 ?_)) (fun h4=>?_)
 ·rintro rfl
  simp at h
 refine Ret.ite (fun h=>.some (Q22 ?_)) (fun h5=>?_)
 ·rintro rfl
  simp at h
 refine Ret.ite (fun h=>.some (Q22 ?_)) (fun h6=>?_)
 ·rintro rfl
  simp [ieq] at h
 rw [Bool.not_eq_false',Q9] at h1 h2 h3 h6
 rw [V7,V7] at h6
 rw [Bool.not_eq_false',decide_eq_true_eq] at h4 h5
 refine Ret.ctl (Z0k (b:=b.edges) (by omega) (fun k x y hy=>?_)) (fun r hr=>.some ?_) (fun s hs=>.some (Z2x ?_))
 ·rw [Q0f hy]
  simp only [U0,X45]
  exact ⟨fun e=>by simp [e],fun e=>by simp [e]⟩
 ·rw [hr.1]
  exact Q22 fun e=>hr.2 (by rw [e])
 ·cases a;cases b
  simp only at h1 h2 h3 h4 h5 hs
  rw [h1,h2,h3,h4,h5,hs]
theorem W6q {l:List Q1}(hl:l.length≤1000)(hp:∀ b∈l,b.path.length≤1000):Q5w l=some l:=by
 suffices hs:Ret (Q5w l) (fun r=>r=l) by
  obtain ⟨_,e,rfl⟩:=hs
  exact e
 unfold Q5w
 refine Ret.ctl (Z5 l (fun k s=>s=l.take k) (fun _=>False) (fun s=>s=l) (by simp) (fun k x s hx hI=>?_) (fun s hI=>by rw [hI,List.take_length])) (fun r hr=>hr.elim) (fun s hs=>.some hs)
 have h1:=hp x (U1 hx)
 subst hI
 rw [X6 (by simp only [U4,Q5];omega)]
 simp only [U0]
 rw [X6 (by simp only [U6,U3,U4,Q5];omega)]
 simp only [U0]
 refine .some ?_
 simp only [Q05]
 rw [Q93 hx]
theorem X2f (f:List Q0a→X0→List Q0a×Int)(b:Z1):∀ (l:List Z1) (ns:List Q0a),addE f ns (l++[b])=((f (addE f ns l).1 b.tree).1,(addE f ns l).2++[⟨b.ctor,b.n,b.m,(f (addE f ns l).1 b.tree).2⟩])
 | [],ns=>rfl
 | x::l,ns=>by
  rw [List.cons_append,addE,X2f f b l]
  rfl
theorem Z4l {f:List Q0a→X0→List Q0a×Int}{d:Nat}(hf:∀ ns x,(f ns x).1.length≤ns.length+Q2g d x):∀ (l:List Z1) (ns:List Q0a),(addE f ns l).1.length≤ns.length+((l.map fun b=>b.tree).map (Q2g d)).sum∧(addE f ns l).2.length=l.length
 | [],ns=>by simp [addE]
 | b::l,ns=>by
  have h1:=hf ns b.tree
  obtain ⟨h2,h3⟩:=Z4l hf l (f ns b.tree).1
  constructor
  ·simp only [addE,List.map_cons,List.sum_cons]
   omega
  ·simp only [addE,U3,h3]
theorem X6d {f:List Q0a→X0→List Q0a×Int}{d:Nat}(hf:∀ ns x,(f ns x).1.length≤ns.length+Q2g d x)(l:List X0)(ns:List Q0a):(addL f ns l).1.length≤ns.length+(l.map (Q2g d)).sum:=by
 cases l with
 | nil=>simp [addL]
 | cons y l=>
  have h1:=hf ns y
  simp only [addL,List.map_cons,List.sum_cons]
  omega
theorem V45 (ns:List Q0a)(n:Q0a):(putN ns n).1.length≤ns.length+1:=by
 unfold putN
 split
 ·simp
 ·simp
theorem Z33:∀ (d:Nat) (ns:List Q0a) (x:X0),(addN d ns x).1.length≤ns.length+Q2g d x:=by
 intro d
 induction d with
 | zero=>intro ns x;simp [addN]
 | succ d ih=>
  intro ns x
  rw [addN,Q2g]
  refine Nat.le_trans (V45 _ _) ?_
  have h1:=X6d ih x.else_ (addE (addN d) ns x.branches).1
  have h2:=(Z4l ih x.branches ns).1
  unfold Q57
  simp only [List.map_append,List.sum_append]
  omega
theorem X7t {ns:List Q0a}{n:Q0a}{k:Nat}(h:ns[k]?=some n)(h2:∀ m∈ns.take k,m≠n):putN ns n=(ns,(k:Int)):=by
 have:ns.idxOf? n=some k:=by
  unfold List.idxOf?
  rw [List.findIdx?_eq_some_iff_getElem]
  obtain ⟨hk,e⟩:=List.getElem?_eq_some_iff.1 h
  refine ⟨hk,by simp [e],fun j hj=>?_⟩
  have:=h2 ns[j] (List.mem_take_iff_getElem.2 ⟨j,by omega,rfl⟩)
  simpa using this
 unfold putN
 rw [this]
theorem X7u {ns:List Q0a}{n:Q0a}(h:∀ m∈ns,m≠n):putN ns n=(ns++[n],(ns.length:Int)):=by
 have:ns.idxOf? n=none:=by
  rw [List.idxOf?_eq_none_iff]
  exact fun e=>h n e rfl
 unfold putN
 rw [this]
theorem W9j:∀ (d n:Nat) (ns:List Q0a) (x:X0),Q9y d x→d≤n→ns.length+Q2g d x≤100000→Q43 n ns x=some (addN d ns x):=by
 intro d
 induction d with
 | zero=>intro n ns x h;exact h.elim
 | succ d ih=>
  intro n ns x hx hn hs
  obtain ⟨n,rfl⟩:∃ j,n=j+1:=⟨n-1,by omega⟩
  obtain ⟨⟨d1,d2,d3,d4,d5⟩,d6⟩:=hx
  have hb:∀ b∈x.branches,b.tree∈Q57 x:=fun b hb=>List.mem_append_left _ (List.mem_map_of_mem hb)
  have he:∀ y∈x.else_,y∈Q57 x:=fun y hy=>List.mem_append_right _ hy
  have hsz:((x.branches.map fun b=>b.tree).map (Q2g d)).sum+(x.else_.map (Q2g d)).sum+1=Q2g (d+1) x:=by
   rw [Q2g]
   unfold Q57
   simp only [List.map_append,List.sum_append]
   omega
  suffices hr:Ret (Q43 (n+1) ns x) (fun r=>r=addN (d+1) ns x) by
   obtain ⟨_,e,rfl⟩:=hr
   exact e
  rw [Q43,W6q d1 d2,X6 (by simp only [U4,Q5];omega)]
  unfold Z02
  simp only [U0]
  refine Ret.ctl (Z5 x.branches (fun k s=>s=addE (addN d) ns (x.branches.take k)) (fun _=>False) (fun s=>s=addE (addN d) ns x.branches) (by simp [addE]) (fun k b s hk hI=>?_) (fun s hI=>by rw [hI,List.take_length])) (fun r hr=>hr.elim) (fun s hs'=>?_)
  ·have hm:=U1 hk
   obtain ⟨l1,l2⟩:=Z4l (Z33 d) (x.branches.take k) ns
   have l3:((((x.branches.take k)).map fun b=>b.tree).map (Q2g d)).sum+Q2g d b.tree≤((x.branches.map fun b=>b.tree).map (Q2g d)).sum:=by
    have:x.branches=x.branches.take k++(b::x.branches.drop (k+1)):=by rw [←Q9c hk,List.take_append_drop]
    conv=>rhs;rw [this]
    simp only [List.map_append,List.sum_append,List.map_cons,List.sum_cons]
    omega
   subst hI
   rw [ih n _ b.tree (d6 _ (hb b hm)) (by omega) (by omega)]
   simp only [U0]
   rw [X6 (by simp only [l2,U6,U3,U4,Q5];omega)]
   simp only [U0]
   refine .some ?_
   simp only [Q05]
   rw [Q93 hk,X2f]
  ·subst hs'
   obtain ⟨l1,l2⟩:=Z4l (Z33 d) x.branches ns
   rw [addN]
   generalize addE (addN d) ns x.branches=E at l1 l2 ⊢
   have l3:=X6d (Z33 d) x.else_ E.1
   refine Ret.bind (P:=fun o=>o=Ctl.brk (addL (addN d) E.1 x.else_)) ?_ (fun o ho=>?_)
   ·refine Ret.ite (fun h=>?_) (fun h=>?_)
    ·cases hel:x.else_ with
     | nil=>rw [hel] at h;cases h
     | cons y l=>
      have hy:y∈x.else_:=by rw [hel];simp
      have l4:Q2g d y≤(x.else_.map (Q2g d)).sum:=by rw [hel];simp
      rw [show idx (y::l) 0=some y from rfl]
      simp only [U0]
      rw [ih n _ y (d6 _ (he y hy)) (by omega) (by omega)]
      exact .some rfl
    ·have hel:x.else_=[]:=by
      cases h':x.else_ with
      | nil=>rfl
      | cons y l=>rw [h'] at h;simp [lenZ,ilt] at h
     rw [hel]
     exact .some rfl
   ·subst ho
    simp only
    generalize addL (addN d) E.1 x.else_=L at l3 ⊢
    refine Ret.ctl (Z5 L.1 (fun k _=>∀ m∈L.1.take k,m≠(⟨x.op,x.clause,x.binds,x.path,E.2,L.2⟩:Q0a)) (fun r=>r=putN L.1 ⟨x.op,x.clause,x.binds,x.path,E.2,L.2⟩) (fun _=>∀ m∈L.1,m≠(⟨x.op,x.clause,x.binds,x.path,E.2,L.2⟩:Q0a)) (by simp) (fun k m s hk hI=>?_) (fun s hI=>by rw [List.take_length] at hI;exact hI)) (fun r hr=>.some hr) (fun s hs'=>?_)
    ·rw [V3y]
     simp only [U0]
     refine Ret.ite (fun h=>.some ?_) (fun h=>.some ?_)
     ·rw [decide_eq_true_eq] at h
      simp only [Z48]
      subst h
      rw [X7t hk hI]
     ·rw [decide_eq_false_iff_not] at h
      simp only [Q05]
      intro m' hm'
      rw [Q93 hk,List.mem_append,List.mem_singleton] at hm'
      rcases hm' with hm' | rfl
      ·exact hI m' hm'
      ·exact h
    ·rw [X6 (by simp only [U3,U4,Q5];omega),X7u hs']
     exact .some rfl
theorem X7q (code:List Int)(hb:∀ x∈code,0≤x∧x≤255):Ret (Q10 NN code) (fun a=>a.1∈Q0r∧a.2.1∈tys a.1∧a.2.2.length≤10):=by
 unfold Q10
 refine Ret.bind (W0n code hb) (fun r hr=>?_)
 refine Ret.bind (W4v code hb) (fun a ha=>?_)
 obtain ⟨w,t,l⟩:=a
 obtain ⟨h1,h2,h3⟩:=ha
 simp only at h1 h2 h3 ⊢
 refine Ret.ctl (R:=fun _=>False) (B:=fun s=>s.length≤10) ?_ (fun r h=>h.elim) (fun s hs=>.some ⟨h1,h2,hs⟩)
 refine Ret.ite (fun c1=>?_) (fun _=>.some (by simp only [Q9j];omega))
 refine Ret.ite (fun c2=>?_) (fun _=>.some (by simp only [Q9j];omega))
 rw [Z9] at c1 c2
 simp only [lenZ] at c1 c2
 refine Ret.bind (Q3w (hr.le (by omega)) (by omega) (by omega)) (fun p hp=>?_)
 refine Ret.ite (fun _=>?_) (fun _=>.some (by simp only [Q9j];omega))
 refine Ret.bind (Q3w (r:=p.2) ((hr.le (by omega:1+1≤1000000)).nx hp.2.2) (by simp only [lenZ];omega) (by simp only [lenZ];omega)) (fun q hq=>?_)
 obtain ⟨x,hx,_⟩:=Q55 hq.1 hq.2.1
 rw [hx]
 simp only [U0]
 rw [X6 (by simp only [U3,U4,Q5];omega)]
 exact .some (by simp only [Q9j,U5,U3,U4];omega)
theorem Z9z {d:Nat}{t:X0}(h:Q9y d t):Q3n t=some (Q57 t):=by
 cases d with
 | zero=>exact h.elim
 | succ d=>
 obtain ⟨⟨h1,h2,h3,h4,h5⟩,h6⟩:=h
 suffices hs:Ret (Q3n t) (fun a=>a=Q57 t) by
  obtain ⟨a,e,rfl⟩:=hs
  exact e
 unfold Q3n
 refine Ret.ctl (Z5 t.branches (fun i s=>s=(t.branches.take i).map (fun b=>b.tree)) (fun _=>False) (fun s=>s=t.branches.map (fun b=>b.tree)) (by simp) (fun i x s hi hI=>?_) (fun s hI=>by rw [hI,List.take_length])) (fun r hr=>hr.elim) (fun s hs=>?_)
 ·rw [X6 (by rw [hI];simp only [U7,U6,U3,U4,Q5];omega)]
  exact .some (by simp only [Q05];rw [hI,List.take_add_one,hi];simp)
 ·subst hs
  dsimp only
  rw [X6 (by simp only [U7,Q5];omega)]
  exact .some rfl
theorem Z9y (f:X0→Nat):∀ (l:List X0) (i:Nat),((l.take i).map f).sum≤(l.map f).sum
 | [],i=>by simp
 | x::l,0=>by simp
 | x::l,i+1=>by
  have:=Z9y f l i
  simp only [List.take_succ_cons,List.map_cons,List.sum_cons]
  omega
theorem X3h (f:X0→Nat):∀ (l:List X0) (x:X0),x∈l→f x≤(l.map f).sum
 | y::l,x,h=>by
  rcases U8.1 h with rfl | h
  ·simp
  ·have:=X3h f l x h
   simp;omega
theorem V3n (f:X0→Nat){l:List X0}{i:Nat}{x:X0}(h:l[i]?=some x):((l.take (i+1)).map f).sum=((l.take i).map f).sum+f x:=by
 rw [List.take_add_one,h];simp
theorem W03:∀ (d n:Nat) (t:X0),Q9y d t→d≤n→Q2g d t≤1000→Q3p n t=some (Q2g d t:Int):=by
 intro d
 induction d with
 | zero=>intro n t h;exact h.elim
 | succ d ih=>
  intro n t h hn hz
  obtain ⟨n,rfl⟩:∃ k,n=k+1:=⟨n-1,by omega⟩
  suffices hs:Ret (Q3p (n+1) t) (fun a=>a=(Q2g (d+1) t:Int)) by
   obtain ⟨a,e,rfl⟩:=hs
   exact e
  unfold Q3p
  rw [Z9z h]
  simp only [U0]
  unfold Q2g at hz ⊢
  refine Ret.ctl (Z5 (Q57 t) (fun i s=>s=((1+(((Q57 t).take i).map (Q2g d)).sum:Nat):Int)) (fun _=>False) (fun s=>s=((1+((Q57 t).map (Q2g d)).sum:Nat):Int)) (by simp) (fun i x s hi hI=>?_) (fun s hI=>by rw [hI,List.take_length])) (fun r hr=>hr.elim) (fun s hs=>.some hs)
  have hm:=U1 hi
  have h1:=X3h (Q2g d) (Q57 t) x hm
  have h2:=Z9y (Q2g d) (Q57 t) i
  rw [ih n x (h.2 x hm) (by omega) (by omega)]
  simp only [U0]
  refine .some ?_
  simp only [Q05]
  rw [hI,V3n (Q2g d) hi,V9 (by omega) (by omega)]
  omega
def X4p:Nat→X0→Prop
 | 0,_=>False
 | d+1,t=>(0≤t.op∧t.op≤2∧t.branches.length≤10∧t.else_.length≤1)∧∀ x∈Q57 t,X4p d x
theorem W40 {P:Z1→X0→Prop} : ∀ {bs xs:List Z1},brsR P bs xs→bs.length=xs.length∧∀ x∈xs,∃ b∈bs,P b x.tree
 | [],[],_=>⟨rfl,fun x hx=>by cases hx⟩
 | b::bs,x::xs,h=>by
  obtain ⟨h1,h2⟩:=W40 h.2
  refine ⟨by simp [h1],fun y hy=>?_⟩
  rcases U8.1 hy with rfl | hy
  ·exact ⟨b,by simp,h.1.2.2.2⟩
  ·obtain ⟨c,hc,hp⟩:=h2 y hy
   exact ⟨c,by simp [hc],hp⟩
 | [],_::_,h=>h.elim
 | _::_,[],h=>h.elim
theorem W02 {w:List Q4}(hww:w∈Q0r){lst:List Q3}{pick:Int} : ∀ (d:Nat) (t:X0) (rows:List Grow) (cols:List Z7),Q8x w lst pick d t rows cols→ColC w cols d→X4p d t:=by
 have hw:=ww hww
 intro d
 induction d with
 | zero=>intro t rows cols h;exact h.elim
 | succ d ih=>
  intro t rows cols h hC
  have hCd:ColC w cols d:=⟨hC.ty,fun c hc=>by have:=hC.path c hc;omega,by have:=hC.len;omega⟩
  cases rows with
  | nil=>
   simp only [Q8x] at h
   subst h
   exact ⟨by simp [zT],by simp [Q57,zT]⟩
  | cons r0 rest=>
   simp only [Q8x] at h
   cases hp:Z12 w (r0::rest) cols pick with
   | none=>
    rw [hp] at h
    simp only at h
    obtain ⟨h1,h2,h3,h4,h5,cl,h6,h7⟩:=h
    rcases h7 with ⟨_,h8⟩ | ⟨_,el,h8,h9⟩
    ·exact ⟨by rw [h1,h5,h8];simp,by simp [Q57,h5,h8]⟩
    ·refine ⟨by rw [h1,h5,h8];simp,fun x hx=>?_⟩
     simp only [Q57,h5,h8,List.map_nil,List.nil_append,List.mem_singleton] at hx
     subst hx
     exact ih x _ cols h9 hCd
   | some k=>
    rw [hp] at h
    simp only at h
    obtain ⟨col,h1,h2,h3,h4,h5,h6,h7⟩:=h
    have hct:=hC.ty col (U1 h1)
    obtain ⟨hl,hm⟩:=W40 h7
    have hb:=W24 (hw.ty _ hct) (r0::rest) k
    refine ⟨by rw [h2,h6];simp only [U4];omega,fun x hx=>?_⟩
    simp only [Q57,h6,List.append_nil] at hx
    obtain ⟨b,hbm,rfl⟩:=U10.1 hx
    obtain ⟨b',hb',hT⟩:=hm b hbm
    exact ih _ _ _ hT (hC.next hw h1 (V6o (wl hww) hct b' hb'))
theorem W52 {f:X0→Option Bool}{l:List X0}(h:∀ x∈l,f x=some false):Q0j l f=some false:=by
 suffices hs:Ret (Q0j l f) (fun r=>r=false) by
  obtain ⟨_,e,rfl⟩:=hs
  exact e
 unfold Q0j Q34
 refine Ret.bind (P:=fun r=>r = -1) ?_ (fun r hr=>.some (by rw [hr];rfl))
 refine Ret.ctl (Z5 l (fun _ _=>True) (fun _=>False) (fun _=>True) trivial (fun k x s hx _=>?_) (fun _ _=>trivial)) (fun r hr=>hr.elim) (fun _ _=>.some rfl)
 rw [h x (U1 hx)]
 exact .some trivial
theorem W8g:∀ (d n:Nat) (t:X0),X4p d t→Q9y d t→2 * d≤n→Q5i n t=some true:=by
 intro d
 induction d with
 | zero=>intro n t h;exact h.elim
 | succ d ih=>
  intro n t h hd hn
  obtain ⟨n,rfl⟩:∃ k,n=k+2:=⟨n-2,by omega⟩
  obtain ⟨⟨h1,h2,h3,h4⟩,h5⟩:=h
  rw [Q5i,Q8a]
  have e1:(decide ((0:Int)≤t.op)&&decide (t.op≤2))=true:=by simp [h1,h2]
  have e2:ile (lenZ t.branches.length) 10=true:=by rw [J6,V7];omega
  have e3:ile (lenZ t.else_.length) 1=true:=by rw [J6,V7];omega
  simp only [U0,e1,e2,e3,if_true]
  rw [Z9z hd]
  simp only [U0]
  rw [W52 (l:=Q57 t) (fun x hx=>by
   rw [Q6h,ih n x (h5 x hx) (hd.2 x hx) (by omega)]
   rfl)]
  rfl
theorem Z8y (a b:List Int):J3 a b=some (decide (a=b)):=by
 suffices hs:Ret (J3 a b) (fun r=>r=decide (a=b)) by
  obtain ⟨_,e,rfl⟩:=hs
  exact e
 unfold J3
 refine Ret.ite (fun h=>.some (Q22 ?_)) (fun h=>?_)
 ·rintro rfl
  simp [ieq] at h
 ·rw [Bool.not_eq_false',Q9,V7,V7] at h
  refine Ret.ctl (Z0k (b:=b) (by omega) (fun k x y hy=>?_)) (fun r hr=>.some ?_) (fun s hs=>.some (Z2x hs))
  ·rw [Q0f hy]
   simp only [U0]
   exact ⟨fun e=>by simp [ieq,e],fun e=>by simp [ieq,e]⟩
  ·rw [hr.1]
   exact Q22 hr.2
theorem X5z (a b:List Z11):Q2c a b=some (decide (a=b)):=by
 suffices hs:Ret (Q2c a b) (fun r=>r=decide (a=b)) by
  obtain ⟨_,e,rfl⟩:=hs
  exact e
 unfold Q2c
 refine Ret.ite (fun h=>.some (Q22 ?_)) (fun h=>?_)
 ·rintro rfl
  simp [ieq] at h
 ·rw [Bool.not_eq_false',Q9,V7,V7] at h
  refine Ret.ctl (Z0k (b:=b) (by omega) (fun k x y hy=>?_)) (fun r hr=>.some ?_) (fun s hs=>.some (Z2x hs))
  ·rw [Q0f hy]
   simp only [U0,X45]
   exact ⟨fun e=>by simp [e],fun e=>by simp [e]⟩
  ·rw [hr.1]
   exact Q22 hr.2
theorem X38 (a b:List Q1):Q40 a b=some (decide (a=b)):=by
 suffices hs:Ret (Q40 a b) (fun r=>r=decide (a=b)) by
  obtain ⟨_,e,rfl⟩:=hs
  exact e
 unfold Q40 Q20
 refine Ret.bind (P:=fun r=>r=decide (a=b)) ?_ (fun r hr=>.some hr)
 refine Ret.ite (fun h=>.some (Q22 ?_)) (fun h=>?_)
 ·rintro rfl
  simp [ieq] at h
 ·rw [Bool.not_eq_false',Q9,V7,V7] at h
  refine Ret.ctl (Z0k (b:=b) (by omega) (fun k x y hy=>?_)) (fun r hr=>.some ?_) (fun s hs=>.some (Z2x hs))
  ·rw [Q0f hy]
   simp only [U0]
   unfold Q66
   simp only [Z8y,U0]
   refine ⟨fun e=>by subst e;simp [ieq],fun e=>?_⟩
   by_cases h1:x.var=y.var
   ·have h2:x.path≠y.path:=fun h2=>e (by cases x;cases y;simp only at h1 h2;rw [h1,h2])
    simp [ieq,h1,h2]
   ·simp [ieq,h1]
  ·rw [hr.1]
   exact Q22 hr.2
theorem X7j (a b:Q0a):Q6j a b=some (decide (a=b)):=by
 unfold Q6j
 rw [X38,Z8y,X5z]
 simp only [U0]
 obtain ⟨o,c,bs,p,es,k⟩:=a
 obtain ⟨o',c',bs',p',es',k'⟩:=b
 simp only [Q0a.mk.injEq]
 by_cases h1:o=o'
 ·by_cases h2:c=c'
  ·by_cases h3:bs=bs'
   ·by_cases h4:p=p'
    ·by_cases h5:es=es'
     ·by_cases h6:k=k'
      ·simp [ieq,h1,h2,h3,h4,h5,h6]
      ·simp [ieq,h1,h2,h3,h4,h5,h6]
     ·simp [ieq,h1,h2,h3,h4,h5]
    ·simp [ieq,h1,h2,h3,h4]
   ·simp [ieq,h1,h2,h3]
  ·simp [ieq,h1,h2]
 ·simp [ieq,h1]
theorem W53 (ns:List Q0a)(n:Q0a)(a:Q0a→Option Bool)(ha:∀ m,a m=some (decide (m=n))):Ret (Q1y ns a) (fun r=>(r = -1∧∀ m∈ns,m≠n)∨∃ k:Nat,r=(k:Int)∧ns[k]?=some n∧∀ m∈ns.take k,m≠n):=by
 unfold Q1y
 refine Ret.ctl (Z5 ns (fun k _=>∀ m∈ns.take k,m≠n) (fun r=>∃ k:Nat,r=(k:Int)∧ns[k]?=some n∧∀ m∈ns.take k,m≠n) (fun _=>∀ m∈ns,m≠n) (by simp) (fun k x s hx hI=>?_) (fun s hI=>by rw [List.take_length] at hI;exact hI)) (fun r hr=>.some (.inr hr)) (fun s hs=>.some (.inl ⟨rfl,hs⟩))
 rw [ha]
 simp only [U0]
 refine Ret.ite (fun h=>.some ?_) (fun h=>.some ?_)
 ·rw [decide_eq_true_eq] at h
  subst h
  exact ⟨k,rfl,hx,hI⟩
 ·rw [decide_eq_false_iff_not] at h
  simp only [Q05]
  intro m hm
  rw [Q93 hx,List.mem_append,List.mem_singleton] at hm
  rcases hm with hm | rfl
  ·exact hI m hm
  ·exact h
theorem W8h:∀ (d n:Nat) (ns:List Q0a) (x:X0),Q9y d x→d≤n→ns.length+Q2g d x≤100000→Q58 n x ns=some ((addN d ns x).2,(addN d ns x).1):=by
 intro d
 induction d with
 | zero=>intro n ns x h;exact h.elim
 | succ d ih=>
  intro n ns x hx hn hs
  obtain ⟨n,rfl⟩:∃ j,n=j+1:=⟨n-1,by omega⟩
  obtain ⟨⟨d1,d2,d3,d4,d5⟩,d6⟩:=hx
  have hb:∀ b∈x.branches,b.tree∈Q57 x:=fun b hb=>List.mem_append_left _ (List.mem_map_of_mem hb)
  have he:∀ y∈x.else_,y∈Q57 x:=fun y hy=>List.mem_append_right _ hy
  have hsz:((x.branches.map fun b=>b.tree).map (Q2g d)).sum+(x.else_.map (Q2g d)).sum+1=Q2g (d+1) x:=by
   rw [Q2g]
   unfold Q57
   simp only [List.map_append,List.sum_append]
   omega
  suffices hr:Ret (Q58 (n+1) x ns) (fun r=>r=((addN (d+1) ns x).2,(addN (d+1) ns x).1)) by
   obtain ⟨_,e,rfl⟩:=hr
   exact e
  rw [Q58,X0m d1 d2,Q6q _ (by simp only [Q5];omega)]
  simp only [U0]
  refine Ret.ctl (Z5 x.branches (fun k s=>s=addE (addN d) ns (x.branches.take k)) (fun _=>False) (fun s=>s=addE (addN d) ns x.branches) (by simp [addE]) (fun k b s hk hI=>?_) (fun s hI=>by rw [hI,List.take_length])) (fun r hr=>hr.elim) (fun s hs'=>?_)
  ·have hm:=U1 hk
   obtain ⟨l1,l2⟩:=Z4l (Z33 d) (x.branches.take k) ns
   have l3:((((x.branches.take k)).map fun b=>b.tree).map (Q2g d)).sum+Q2g d b.tree≤((x.branches.map fun b=>b.tree).map (Q2g d)).sum:=by
    have:x.branches=x.branches.take k++(b::x.branches.drop (k+1)):=by rw [←Q9c hk,List.take_append_drop]
    conv=>rhs;rw [this]
    simp only [List.map_append,List.sum_append,List.map_cons,List.sum_cons]
    omega
   subst hI
   rw [ih n _ b.tree (d6 _ (hb b hm)) (by omega) (by omega)]
   simp only [U0]
   rw [X6 (by simp only [l2,U6,U3,U4,Q5];omega)]
   simp only [U0]
   refine .some ?_
   simp only [Q05]
   rw [Q93 hk,X2f]
  ·subst hs'
   obtain ⟨l1,l2⟩:=Z4l (Z33 d) x.branches ns
   rw [addN]
   generalize addE (addN d) ns x.branches=E at l1 l2 ⊢
   have l3:=X6d (Z33 d) x.else_ E.1
   dsimp only
   refine Ret.ctl (Z5 x.else_ (fun k s=>s=addL (addN d) E.1 (x.else_.take k)) (fun _=>False) (fun s=>s=addL (addN d) E.1 x.else_) (by simp [addL]) (fun k y s hk hI=>?_) (fun s hI=>by rw [hI,List.take_length])) (fun r hr=>hr.elim) (fun s hs'=>?_)
   ·have hk0:=(List.getElem?_eq_some_iff.1 hk).1
    obtain rfl:k=0:=by omega
    have hm:=U1 hk
    have l4:Q2g d y≤(x.else_.map (Q2g d)).sum:=by
     match hx:x.else_,hk with
     | z::l,hk=>
      simp only [List.getElem?_cons_zero,Option.some.injEq] at hk
      subst hk
      simp
    subst hI
    simp only [List.take_zero,addL]
    rw [ih n _ y (d6 _ (he y hm)) (by omega) (by omega)]
    simp only [U0]
    refine .some ?_
    simp only [Q05]
    rw [Q93 hk]
    simp [addL]
   ·subst hs'
    generalize addL (addN d) E.1 x.else_=L at l3 ⊢
    dsimp only
    refine Ret.bind (W53 L.1 ⟨x.op,x.clause,x.binds,x.path,E.2,L.2⟩ _ (fun m=>by
     unfold Q9f
     rw [X7j]
     rfl)) (fun r hr=>?_)
    rcases hr with ⟨rfl,hr⟩ | ⟨k,rfl,h1,h2⟩
    ·have e1:ilt (-1) 0=true:=rfl
     simp only [e1,if_true]
     rw [X6 (by simp only [U3,U4,Q5];omega),X7u hr]
     exact .some rfl
    ·have e1:ilt (k:Int) 0=false:=by rw [W6];omega
     simp only [e1,U2,if_false,U0]
     rw [X7t h1 h2]
     exact .some rfl
theorem Z8i {d:Nat}{t:X0}(h:X4p d t)(hd:Q9y d t)(hz:Q2g d t≤300)(hn:2 * d≤NN):Q14 NN t=some ((addN d [] t).1,true):=by
 unfold Q14
 rw [W03 d NN t hd (by omega) (by omega)]
 simp only [U0]
 rw [show ilt 300 (Q2g d t:Int)=false from by rw [W6];omega]
 simp only [U2,if_false]
 rw [W8g d NN t h hd hn]
 simp only [U0,Bool.not_true,U2,if_false]
 rw [W8h d NN [] t hd (by omega) (by simp only [U4];omega)]
 rfl
def V6z (w:List Q4)(t:Q7)(cs:List Q3)(p:Int)(o:Option Nat):Prop:=∃ tr,W2 NN w t cs p=some (tr,o.isSome)∧Q0g NN w t cs p=some (tr,o.isSome)∧
 match o with
 | some k=>k≤300∧(∃ ns,Q14 NN tr=some (ns,true)∧ns.length=k)∧∃ r,Q43 NN [] tr=some r∧r.1.length=k
 | none=>Q14 NN tr≠none
theorem V39:Q14 NN zT≠none:=by
 rw [Z8i (d:=300) (t:=zT) ⟨by simp [zT],by simp [Q57,zT]⟩ W7l (by rw [W7k];omega) (by decide)]
 simp
theorem Y8y {w:List Q4}(hww:w∈Q0r){t:Q7}(ht:t∈tys w)(cs:List Q3)(p:Int):∃ o,V6z w t cs p o:=by
 obtain ⟨tr,ok,e1,e2,h1,h2,h3⟩:=(Q9d hww ht cs p).eq
 cases ok with
 | false=>
  refine ⟨none,tr,e1,e2,?_⟩
  simp only
  rw [h1 rfl]
  exact V39
 | true=>
  have hT:=(Q9d hww ht cs p).tr tr e1
  have hs:=W02 hww 300 tr _ _ hT (X4j ht)
  have h4:=Z33 300 [] tr
  refine ⟨some (addN 300 [] tr).1.length,tr,e1,e2,?_,⟨_,Z8i hs h2 h3 (by decide),rfl⟩,_,W9j 300 NN [] tr h2 (by decide) (by simp only [U4];omega),rfl⟩
  simp only [U4] at h4
  omega
def W25 (o:Option Nat)(p:Int)(s:Int×Int):Int×Int:=match o with
 | none=>s
 | some k=>if s.1<0 then (p,(k:Int)) else if (k:Int)<s.2 then (p,(k:Int)) else s
def Q2f (f:Nat→Option Nat):Nat→Int×Int
 | 0=>(-1,0)
 | n+1=>W25 (f n) (n:Int) (Q2f f n)
def Y9z (f:Nat→Option Nat)(n:Nat)(s:Int×Int):Prop:=(s.1 = -1∧∀ i,i<n→f i=none)∨∃ p k:Nat,s=((p:Int),(k:Int))∧p<n∧f p=some k∧∀ i j,i<n→f i=some j→k≤j
theorem V85 (f:Nat→Option Nat):∀ n,Y9z f n (Q2f f n)
 | 0=>.inl ⟨rfl,fun i h=>by omega⟩
 | n+1=>by
  have ih:=V85 f n
  rw [Q2f]
  generalize Q2f f n=s at ih ⊢
  cases hf:f n with
  | none=>
   simp only [W25]
   rcases ih with ⟨h1,h2⟩ | ⟨p,k,h1,h2,h3,h4⟩
   ·refine .inl ⟨h1,fun i hi=>?_⟩
    by_cases h:i=n
    ·rw [h,hf]
    ·exact h2 i (by omega)
   ·refine .inr ⟨p,k,h1,by omega,h3,fun i j hi hj=>?_⟩
    by_cases h:i=n
    ·rw [h,hf] at hj;cases hj
    ·exact h4 i j (by omega) hj
  | some m=>
   simp only [W25]
   rcases ih with ⟨h1,h2⟩ | ⟨p,k,h1,h2,h3,h4⟩
   ·rw [if_pos (by omega)]
    refine .inr ⟨n,m,rfl,by omega,hf,fun i j hi hj=>?_⟩
    by_cases h:i=n
    ·rw [h,hf] at hj;cases hj;exact Nat.le_refl _
    ·rw [h2 i (by omega)] at hj;cases hj
   ·subst h1
    simp only
    rw [if_neg (by omega)]
    by_cases hk:(m:Int)<(k:Int)
    ·rw [if_pos hk]
     refine .inr ⟨n,m,rfl,by omega,hf,fun i j hi hj=>?_⟩
     by_cases h:i=n
     ·rw [h,hf] at hj;cases hj;exact Nat.le_refl _
     ·have:=h4 i j (by omega) hj;omega
    ·rw [if_neg hk]
     refine .inr ⟨p,k,rfl,by omega,h3,fun i j hi hj=>?_⟩
     by_cases h:i=n
     ·rw [h,hf] at hj;cases hj;omega
     ·exact h4 i j (by omega) hj
theorem W0z {w:List Q4}{t:Q7}{cs:List Q3}{f:Nat→Option Nat}(hf:∀ i:Nat,V6z w t cs (i:Int) (f i)):Q53 NN w t cs=some (imax 0 (Q2f f 3).1,ile 0 (Q2f f 3).1):=by
 suffices hs:Ret (Q53 NN w t cs) (fun r=>r=(imax 0 (Q2f f 3).1,ile 0 (Q2f f 3).1)) by
  obtain ⟨_,e,rfl⟩:=hs
  exact e
 unfold Q53
 refine Ret.ctl (Q0y (fun s:Int×Int×Int=>∃ k:Nat,k≤3∧s=((Q2f f k).1,(Q2f f k).2,(k:Int))) (fun s=>(3-s.2.2).toNat) (fun _=>False) (fun s=>s.1=(Q2f f 3).1) ⟨0,by omega,rfl⟩ (fun s hI=>?_) NN (by show (3-(0:Int)).toNat<30000000;omega)) (fun r hr=>hr.elim) (fun s hs=>.some (by rw [hs]))
 obtain ⟨k,hk,rfl⟩:=hI
 dsimp only
 by_cases h3:k<3
 ·rw [if_pos (by rw [J6];omega)]
  obtain ⟨tr,e1,_,e3⟩:=hf k
  rw [e1]
  simp only [U0]
  rw [V9 (by omega) (by omega)]
  cases ho:f k with
  | none=>
   simp only [Option.isSome_none,Bool.not_false,if_true,U0]
   refine .some ⟨⟨k+1,by omega,?_⟩,by simp only;omega⟩
   simp [Q2f,W25,ho]
  | some m=>
   rw [ho] at e3
   obtain ⟨hm,⟨ns,e4,e5⟩,_⟩:=e3
   simp only [Option.isSome_some,Bool.not_true,U2,if_false]
   rw [e4]
   simp only [U0]
   rw [V7,e5]
   have hb:Q2f f (k+1)=if (Q2f f k).1<0 then ((k:Int),(m:Int)) else if (m:Int)<(Q2f f k).2 then ((k:Int),(m:Int)) else Q2f f k:=by simp only [Q2f,W25,ho]
   by_cases c1:(Q2f f k).1<0
   ·rw [if_pos (by rw [Z9];exact c1)]
    rw [if_pos c1] at hb
    simp only [U0]
    exact .some ⟨⟨k+1,by omega,by rw [hb];simp⟩,by simp only;omega⟩
   ·rw [if_neg (by rw [Z9];exact c1)]
    rw [if_neg c1] at hb
    by_cases c2:(m:Int)<(Q2f f k).2
    ·rw [if_pos (by rw [Z9];exact c2)]
     rw [if_pos c2] at hb
     simp only [U0]
     exact .some ⟨⟨k+1,by omega,by rw [hb];simp⟩,by simp only;omega⟩
    ·rw [if_neg (by rw [Z9];exact c2)]
     rw [if_neg c2] at hb
     simp only [U0]
     exact .some ⟨⟨k+1,by omega,by rw [hb];simp⟩,by simp only;omega⟩
 ·rw [if_neg (by rw [J6];omega)]
  refine .some ?_
  simp only [Z15]
  rw [show k=3 by omega]
theorem W0e {w:List Q4}{t:Q7}{cs:List Q3}{f:Nat→Option Nat}(hf:∀ i:Nat,V6z w t cs (i:Int) (f i)):Q4x NN w t cs=some (if (Q2f f 3).1<0 then (0,false) else ((Q2f f 3).1,true)):=by
 suffices hs:Ret (Q4x NN w t cs) (fun r=>r=if (Q2f f 3).1<0 then (0,false) else ((Q2f f 3).1,true)) by
  obtain ⟨_,e,rfl⟩:=hs
  exact e
 unfold Q4x
 refine Ret.ctl (Q0y (fun s:Int×Int×Int=>∃ k:Nat,k≤3∧s=((Q2f f k).1,(Q2f f k).2,(k:Int))) (fun s=>(3-s.2.2).toNat) (fun _=>False) (fun s=>s.1=(Q2f f 3).1) ⟨0,by omega,rfl⟩ (fun s hI=>?_) NN (by show (3-(0:Int)).toNat<30000000;omega)) (fun r hr=>hr.elim) (fun s hs=>?_)
 ·obtain ⟨k,hk,rfl⟩:=hI
  dsimp only
  by_cases h3:k<3
  ·rw [if_pos (by rw [J6];omega)]
   obtain ⟨tr,_,e1,e3⟩:=hf k
   rw [e1]
   simp only [U0]
   rw [V9 (by omega) (by omega)]
   cases ho:f k with
   | none=>
    simp only [Option.isSome_none,Bool.not_false,if_true,U0]
    refine .some ⟨⟨k+1,by omega,?_⟩,by simp only;omega⟩
    simp [Q2f,W25,ho]
   | some m=>
    rw [ho] at e3
    obtain ⟨hm,_,r,e4,e5⟩:=e3
    simp only [Option.isSome_some,Bool.not_true,U2,if_false]
    rw [e4]
    simp only [U0]
    rw [V7,e5]
    have hb:Q2f f (k+1)=if (Q2f f k).1<0 then ((k:Int),(m:Int)) else if (m:Int)<(Q2f f k).2 then ((k:Int),(m:Int)) else Q2f f k:=by simp only [Q2f,W25,ho]
    by_cases c1:(Q2f f k).1<0
    ·rw [if_pos (by rw [Z9];exact c1)]
     rw [if_pos c1] at hb
     simp only [U0]
     exact .some ⟨⟨k+1,by omega,by rw [hb];simp⟩,by simp only;omega⟩
    ·rw [if_neg (by rw [Z9];exact c1)]
     rw [if_neg c1] at hb
     by_cases c2:(m:Int)<(Q2f f k).2
     ·rw [if_pos (by rw [Z9];exact c2)]
      rw [if_pos c2] at hb
      simp only [U0]
      exact .some ⟨⟨k+1,by omega,by rw [hb];simp⟩,by simp only;omega⟩
     ·rw [if_neg (by rw [Z9];exact c2)]
      rw [if_neg c2] at hb
      simp only [U0]
      exact .some ⟨⟨k+1,by omega,by rw [hb];simp⟩,by simp only;omega⟩
  ·rw [if_neg (by rw [J6];omega)]
   refine .some ?_
   simp only [Z15]
   rw [show k=3 by omega]
 ·dsimp only
  rw [hs]
  by_cases h:(Q2f f 3).1<0
  ·rw [if_pos (by rw [Z9];exact h),if_pos h]
   exact .some rfl
  ·rw [if_neg (by rw [Z9];exact h),if_neg h]
   exact .some rfl
theorem X55 (code:List Int)(hb:∀ x∈code,0≤x∧x≤255):Q3f NN code=some true:=by
 suffices hr:Ret (Q3f NN code) (fun r=>r=true) by
  obtain ⟨_,e,rfl⟩:=hr
  exact e
 unfold Q3f Q5g
 refine Ret.ite (fun _=>.some rfl) (fun _=>?_)
 obtain ⟨⟨w,t,cs⟩,e,hww,ht,_⟩:=X7q code hb
 rw [e]
 simp only [U0] at hww ht ⊢
 have hex:∀ i:Nat,∃ o,V6z w t cs (i:Int) o:=fun i=>Y8y hww ht cs i
 obtain ⟨f,hf⟩:=Classical.axiomOfChoice hex
 rw [W0z hf,W0e hf]
 simp only [U0]
 have hq:=V85 f 3
 generalize Q2f f 3=s at hq ⊢
 rcases hq with ⟨h1,h2⟩ | ⟨p,k,h1,h2,h3,h4⟩
 ·have hn:s.1<0:=by omega
  rw [if_pos hn,h1]
  have e1:imax 0 (-1)=0:=rfl
  have e2:ile 0 (-1)=false:=rfl
  have e3:ieq 0 0=true:=rfl
  simp only [e1,e2,e3,beq_self_eq_true,Bool.not_true,Bool.not_false,U2,if_false,if_true]
  exact .some rfl
 ·subst h1
  have hn:¬((p:Int),(k:Int)).1<0:=by simp only;omega
  rw [if_neg hn]
  have e1:imax 0 (p:Int)=(p:Int):=by unfold imax;split<;>omega
  have e2:ile 0 (p:Int)=true:=by rw [J6];omega
  have e3:ieq (p:Int) (p:Int)=true:=by rw [Q9]
  simp only [e1,e2,e3,beq_self_eq_true,Bool.not_true,U2,if_false]
  obtain ⟨tr,c1,_,c3⟩:=hf p
  rw [h3] at c1 c3
  obtain ⟨hk,⟨ns,c4,c5⟩,_⟩:=c3
  rw [c1]
  simp only [U0]
  rw [c4]
  simp only [U0,Option.isSome_some,if_true]
  refine Ret.ctl (Q0y (fun s:Int=>∃ i:Nat,i≤3∧s=(i:Int)) (fun s=>(3-s).toNat) (fun _=>False) (fun _=>True) ⟨0,by omega,rfl⟩ (fun s hI=>?_) NN (by show (3-(0:Int)).toNat<30000000;omega)) (fun r hr=>hr.elim) (fun s hs=>?_)
  rotate_left 1
  ·exact .some rfl
  obtain ⟨i,hi,rfl⟩:=hI
  by_cases h3':i<3
  ·rw [if_pos (by rw [J6];omega)]
   obtain ⟨tr',g1,_,g3⟩:=hf i
   rw [g1]
   simp only [U0]
   rw [V9 (by omega) (by omega)]
   cases ho:f i with
   | none=>
    rw [ho] at g3
    simp only at g3
    obtain ⟨z,hz⟩:=Option.ne_none_iff_exists'.1 g3
    rw [hz]
    simp only [U0,Option.isSome_none,U2,if_false]
    exact .some ⟨⟨i+1,by omega,by simp⟩,by omega⟩
   | some m=>
    rw [ho] at g3
    obtain ⟨_,⟨ns',g4,g5⟩,_⟩:=g3
    rw [g4]
    simp only [U0,Option.isSome_some,if_true]
    have hle:=h4 i m h3' ho
    rw [if_neg (by rw [Z9,V7,V7,g5,c5];omega)]
    simp only [U0]
    exact .some ⟨⟨i+1,by omega,by simp⟩,by omega⟩
  ·rw [if_neg (by rw [J6];omega)]
   exact .some trivial
end Go.Proofs.YtfhpjeogjcfkaaaGreat
