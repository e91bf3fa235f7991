import Derived.Test.YtfhpjeogjcfkaaaGreatBJMc0
import Derived.Test.YtfhpjeogjcfkaaaGreatBJP1
set_option linter.unusedSimpArgs false
set_option linter.unusedVariables false
namespace Go.Proofs.YtfhpjeogjcfkaaaGreat
open Go Go.RowKit
theorem X9i (d:Nat)(u:Q2):Z6 (d+1) anyP u=some []:=by simp [Z6,anyP]
theorem X2d {w:List Q4}{t:Q7}{p:Q0}(h:Q82 w t p=true)(h1:p.op=1):p=anyP:=by
 obtain ⟨ho,hl⟩:=Q0l h
 simp [Z4n,h1] at ho
 simp [V5,h1] at hl
 exact Q0.ext' h1 ho.2 ho.1.2.1 ho.1.2.2 ho.1.1 hl
theorem Z7q {d:Nat} : ∀ {ps:List Q0} {vs:List Q2},(∀ q∈ps,q=anyP)→ps.length=vs.length→W8 (Z6 (d+1)) ps vs=some []
 | [],_,_,_=>rfl
 | q::ps,[],_,h=>by simp at h
 | q::ps,v::vs,hq,h=>by
  simp only [W8]
  rw [hq q (by simp),X9i,Z7q (fun x hx=>hq x (by simp [hx])) (by simpa using h)]
  rfl
theorem W8e {a b:List X3}(ha:X6h a)(h:a.Perm b):Q95 a=Q95 b:=by
 have hb:(b.map (·.var)).Nodup:=(h.map _).nodup_iff.1 ha.nd
 have hr:∀ x∈b,0≤x.var∧x.var≤5:=fun x hx=>ha.rg x (h.mem_iff.2 hx)
 exact Z28 _ _ (Q9k ha.nd) (Q9k hb) ((Q4s ha.rg).trans (h.trans (Q4s hr).symm))
theorem Q6t {f:Q0→Q2→Option (List X3)} : ∀ (a b:List Q0) (us vs:List Q2),a.length=us.length→W8 f (a++b) (us++vs)=(W8 f a us).bind fun l1=>(W8 f b vs).map (l1++·)
 | [],b,[],vs,_=>by
  simp only [List.nil_append,W8,U0]
  cases W8 f b vs<;>simp
 | p::a,b,u::us,vs,h=>by
  simp only [List.cons_append,W8]
  rw [Q6t a b us vs (by simpa using h)]
  cases f p u with
  | none=>rfl
  | some l=>
   simp only
   cases W8 f a us with
   | none=>rfl
   | some l1=>
    simp only [U0]
    cases W8 f b vs<;>simp
 | [],_,_::_,_,h=>by simp at h
 | _::_,_,[],_,h=>by simp at h
theorem W06 {w:List Q4}{t:Q7}{path:List Int}{v:Q2} : ∀ (d:Nat) (p:Q0),asOk d p→Q0e w 12 t p=true→Z6 12 p v=(Z6 12 (Q2e d p path).2 v).map (((Q2e d p path).1.map fun b=>X3.mk b.var v)++·):=by
 intro d
 induction d with
 | zero=>intro p h;exact h.elim
 | succ d ih=>
  intro p h g
  rw [Q2v]
  by_cases h6:p.op=6
  ·obtain ⟨q,hq,hd⟩:=h h6
   have ga:Q0e w 11 t q=true:=Y0 g (k:=0) (a:=t) (by rw [V5,if_neg (by omega),if_neg (by omega),if_pos h6];rfl) (by rw [hq];rfl)
   rw [if_pos h6,hq]
   simp only [List.headD_cons]
   have e1:Z6 12 p v=(Z6 12 q v).map (fun l=>⟨p.var,v⟩::l):=by
    rw [(Z2d 11 t q ga).2.2.2 v,Z6,if_neg (by omega),if_neg (by omega),if_neg (by omega),if_neg (by omega),if_pos h6,hq]
   rw [e1,ih q hd (Q31 11 t q ga)]
   cases Z6 12 (Q2e d q path).2 v<;>simp
  ·rw [if_neg h6]
   by_cases h2:p.op=2
   ·rw [if_pos h2]
    have e1:Z6 12 p v=some [⟨p.var,v⟩]:=by rw [Z6,if_neg (by omega),if_pos h2]
    have e2:Z6 12 anyP v=some []:=X9i 11 v
    rw [e1]
    simp only
    rw [e2]
    rfl
   ·rw [if_neg h2]
    simp only [List.map_nil,List.nil_append]
    cases Z6 12 p v<;>rfl
theorem V73 {w:List Q4}{t:Q7}{p:Q0}(path:List Int)(v:Q2)(g:Q0e w 12 t p=true):Z6 12 p v=(Z6 12 (Q7a p path).2 v).map (((Q7a p path).1.map fun b=>X3.mk b.var v)++·):=
 W06 12 p (X19 12 t p g) g
theorem W5o {w:List Q4}{e:Nat}{t:Q7}{v:Q2}(h:Q3u w e t v)(hd:t.data≠-1):∃ e',e=e'+1∧v.ctor∈W9 w t∧v.kids.length=(Q09 w t v.ctor).length∧∀ (j:Nat) (a:Q7) (x:Q2),(Q09 w t v.ctor)[j]?=some a→v.kids[j]?=some x→Q3u w e' a x:=by
 cases e with
 | zero=>exact h.elim
 | succ e=>
  simp only [Q3u,if_neg hd] at h
  exact ⟨e,rfl,h.2.1,h.2.2.1,h.2.2.2⟩
theorem W5p {α:Type}{l:List α}{n j:Nat}(h:l.length=n)(hj:j<n):∃ x,l[j]?=some x:=⟨l[j]'(by omega),by simp⟩
def Y06 (w:List Q4)(t:Q7):Bool:=
 (decide (depP w t≠0)||(W9 w t).all (fun k=>(Q09 w t k).any (fun a=>decide (depP w a=0))))&&decide ((W9 w t).Nodup)
def chkE (w:List Q4):Bool:=(tys w).all (Y06 w)
theorem W6o:Q0r.all chkE=true:=by kernel_rfl
structure WE (w:List Q4):Prop where
 e0:∀ t∈tys w,depP w t=0→∀ k∈W9 w t,∃ a∈Q09 w t k,depP w a=0
 nd:∀ t∈tys w,(W9 w t).Nodup
theorem we {w:List Q4}(h:w∈Q0r):WE w:=by
 have h:=List.all_eq_true.1 W6o w h
 simp only [chkE,List.all_eq_true] at h
 refine ⟨fun t ht h0 k hk=>?_,fun t ht=>?_⟩
 ·have:=h t ht
  simp only [Y06,Bool.and_eq_true,Bool.or_eq_true,decide_eq_true_eq,List.all_eq_true,List.any_eq_true] at this
  rcases this.1 with h1 | h1
  ·exact absurd h0 h1
  ·exact h1 k hk
 ·have:=h t ht
  simp only [Y06,Bool.and_eq_true,decide_eq_true_eq] at this
  exact this.2
theorem W3h {w:List Q4}(hw:WW w)(he:WE w):∀ (e:Nat) (t:Q7) (v:Q2),t∈tys w→Q3u w e t v→depP w t≠0
 | 0,_,_,_,h=>h.elim
 | e+1,t,v,ht,h=>fun h0=>by
  by_cases hd:t.data = -1
  ·have:=((hw.ty t ht).ti hd).2;omega
  ·obtain ⟨e',e1,g1,g2,g3⟩:=W5o h hd
   cases e1
   obtain ⟨a,ha,ha0⟩:=he.e0 t ht h0 _ g1
   obtain ⟨j,hj⟩:=List.mem_iff_getElem?.1 ha
   obtain ⟨x,hx⟩:=W5p g2 (List.getElem?_eq_some_iff.1 hj).1
   exact W3h hw he e a x ((hw.ty t ht).at_ _ g1 a ha) (g3 j a x hj hx) ha0
theorem Z31 {v u:Q2}{path:List Int}(h:Q69 v path=some u):∀ {l:List Q1},(∀ b∈l,b.path=path)→Q1a l v=some (l.map fun b=>X3.mk b.var u)
 | [],_=>rfl
 | b::l,hl=>by
  simp only [Q1a]
  rw [hl b (by simp),h,Z31 h fun x hx=>hl x (by simp [hx])]
  rfl
def rowL (r:Grow)(us:List Q2):Option (List X3):=W8 (Z6 12) r.pats us
def rowB (r:Grow)(v:Q2)(us:List Q2):Option (List X3):=(Q1a r.binds v).bind fun l=>(rowL r us).map (l++·)
def hitR (us:List Q2)(r:Grow):Bool:=(rowL r us).isSome
inductive Z79 (lst:List Q3) (v:Q2) (us:List Q2):List Grow→Int×List X3→Prop
 | none {rows:List Grow} : rows.find? (hitR us)=none→Z79 lst v us rows (-1,[])
 | take {rows:List Grow} {r:Grow} {l:List X3} {c:Q3} : rows.find? (hitR us)=some r→rowB r v us=some l→lst[r.clause.toNat]?=some c→J8 c.guard l=true→Z79 lst v us rows (r.clause,Q95 l)
 | skip {rows:List Grow} {r:Grow} {l:List X3} {c:Q3} {x:Int×List X3} : rows.find? (hitR us)=some r→rowB r v us=some l→lst[r.clause.toNat]?=some c→J8 c.guard l=false→
   Z79 lst v us (Q4q rows r.clause) x→Z79 lst v us rows x
structure V1x (w:List Q4) (v:Q2) (cols:List Z7) (us:List Q2):Prop where
 len:us.length=cols.length
 at_:∀ (j:Nat) (c:Z7) (u:Q2),cols[j]?=some c→us[j]?=some u→Q69 v c.path=some u∧Q3u w 10 c.t u
def W0 (b:Z1)(u:Q2):Bool:=decide (b.ctor=u.ctor)&&(decide (b.ctor≠-1)||(decide (b.n≤u.n)&&decide (u.n≤b.m)))
def runT:Nat→X0→List Q3→Q2→Option (Int×List X3×Nat)
 | 0,_,_,_=>none
 | d+1,t,lst,v=>
  if t.op=2 then (Q69 v t.path).bind fun u=>match t.branches.find? (fun b=>W0 b u) with
   | none=>some (-1,[],1)
   | some b=>(runT d b.tree lst v).map fun r=>(r.1,r.2.1,r.2.2+1)
  else if t.op=1 then (idx lst t.clause).bind fun c=>(Q1a t.binds v).bind fun l=>if J8 c.guard l=true then some (t.clause,l,0) else match t.else_ with
   | el::_=>runT d el lst v
   | []=>none
  else some (-1,[],0)
theorem Z5p {cut:Int→Bool} : ∀ (m:Nat) (n fr:Int),fr<n→(∀ c,fr<c→c<n→cut c=false)→∀ b∈Z3y cut m n fr,b.n≤b.m∧fr≤b.n∧∀ c,b.n<c→c≤b.m→cut c=false
 | 0,_,_,_,_,b,h=>by simp [Z3y] at h
 | m+1,n,fr,h1,h2,b,h=>by
  unfold Z3y at h
  split at h
  ·rcases U8.1 h with rfl | h
   ·exact ⟨by simp only;omega,by simp only;omega,fun c hc hc'=>h2 c hc (by simp only at hc';omega)⟩
   ·obtain ⟨g1,g2,g3⟩:=Z5p m (n+1) n (by omega) (fun c hc hc'=>by omega) b h
    exact ⟨g1,by omega,g3⟩
  ·rename_i hc
   exact Z5p m (n+1) fr (by omega) (fun c hc1 hc2=>by
    by_cases hcn:c=n
    ·rw [hcn];simpa using hc
    ·exact h2 c hc1 (by omega)) b h
theorem Z5q {cut:Int→Bool} : ∀ (m:Nat) (n fr:Int),fr<n→cut (n+m-1)=true→1≤m→∀ x,fr≤x→x<n+m-1→∃ b∈Z3y cut m n fr,b.n≤x∧x≤b.m
 | 0,_,_,_,_,h,_,_,_=>by omega
 | m+1,n,fr,h1,hc,_,x,hx1,hx2=>by
  unfold Z3y
  split
  ·by_cases hxn:x<n
   ·exact ⟨⟨-1,fr,n-1,zT⟩,by simp,by simp only;omega,by simp only;omega⟩
   ·have hm:1≤m:=by omega
    obtain ⟨b,hb,g⟩:=Z5q m (n+1) n (by omega) (by rw [←hc];congr 1;omega) hm x (by omega) (by omega)
    exact ⟨b,by simp [hb],g⟩
  ·rename_i hcn
   have hm:1≤m:=by
    rcases Nat.eq_zero_or_pos m with rfl | h
    ·simp only [Nat.zero_add,Int.natCast_one] at hc
     rw [show n+1-1=n by omega] at hc
     exact absurd hc hcn
    ·exact h
   exact Z5q m (n+1) fr (by omega) (by rw [←hc];congr 1;omega) hm x hx1 (by omega)
def Y05 (w:List Q4):Bool:=(tys w).all fun t=>decide (t.data = -1)||(W9 w t).all fun c=>decide (Z5g w t c=(Q09 w t c).all fun a=>decide (depP w a≠0))
theorem V6i:Q0r.all Y05=true:=by kernel_rfl
theorem V96 {w:List Q4}(h:w∈Q0r){t:Q7}(ht:t∈tys w)(hd:t.data≠-1){c:Int}(hc:c∈W9 w t):Z5g w t c=(Q09 w t c).all fun a=>decide (depP w a≠0):=by
 have h1:=List.all_eq_true.1 V6i w h
 have h2:=List.all_eq_true.1 h1 t ht
 simp only [Bool.or_eq_true,decide_eq_true_eq,List.all_eq_true] at h2
 rcases h2 with h2 | h2
 ·exact absurd h2 hd
 ·exact h2 c hc
theorem V1j {w:List Q4}(hww:w∈Q0r){t:Q7}(ht:t∈tys w){e:Nat}{u:Q2}(hu:Q3u w e t u)(rows:List Grow)(k:Nat):∃ b∈brsD w rows t k,W0 b u=true:=by
 cases e with
 | zero=>exact hu.elim
 | succ e=>
 have hw:=ww hww
 unfold brsD
 rw [Q3u] at hu
 split
 ·rename_i hd
  rw [if_pos hd] at hu
  obtain ⟨h1,h2,h3,_⟩:=hu
  obtain ⟨b,hb,h4,h5⟩:=Z5q (cut:=cutB rows k) 10 1 0 (by omega) (by simp [cutB]) (by omega) u.n h2 (by omega)
  refine ⟨b,hb,?_⟩
  have hc:=Z23 _ _ _ _ b hb
  simp [W0,hc,h1,h4,h5]
 ·rename_i hd
  rw [if_neg hd] at hu
  obtain ⟨_,h2,h3,h4⟩:=hu
  refine ⟨⟨u.ctor,0,0,zT⟩,U10.2 ⟨u.ctor,List.mem_filter.2 ⟨h2,?_⟩,rfl⟩,?_⟩
  ·rw [V96 hww ht hd h2,List.all_eq_true]
   intro a ha
   obtain ⟨j,hj⟩:=List.mem_iff_getElem?.1 ha
   have hjl:=(List.getElem?_eq_some_iff.1 hj).1
   have hx:u.kids[j]?=some (u.kids[j]'(by omega)):=by simp
   simpa using W3h hw (we hww) e a _ ((hw.ty t ht).at_ _ h2 a ha) (h4 j a _ hj hx)
  ·have:=(wl hww).pos t ht hd _ h2
   simp [W0,this]
theorem X42 {w:List Q4}{t:Q7}{rows:List Grow}{k:Nat}{b:Z1}(hb:b∈brsD w rows t k){r:Grow}(hr:r∈rows)(hp:PatC w t (W1 r k)){u:Q2}{e:Nat}(hu:Q3u w e t u)(hf:W0 b u=true)(d:Nat) :
  Q5s (W1 r k) b=false→Z6 (d+1) (W1 r k) u=none:=by
 intro hfit
 simp only [W0,Bool.and_eq_true,Bool.or_eq_true,decide_eq_true_eq] at hf
 rcases hp.2.2 with h1 | h3 | h4
 ·simp [Q5s,h1] at hfit
 ·rw [Z6,if_neg (by omega),if_neg (by omega),if_pos h3]
  rw [Q5s,if_neg (by omega),if_pos h3] at hfit
  rcases Z01 (Q00 hp.1) with h | h | h | h | h | h<;>try omega
  obtain ⟨_,hd,g0,g1,g2⟩:=h
  refine if_neg fun hin=>?_
  unfold brsD at hb
  rw [if_pos hd] at hb
  obtain ⟨q1,q2,q3⟩:=Z5p 10 1 0 (by omega) (fun c h1 h2=>by omega) b hb
  have hc:=Z23 _ _ _ _ b hb
  rcases hf.2 with h | h
  ·exact absurd hc h
  simp only [Bool.and_eq_false_iff,decide_eq_false_iff_not] at hfit
  have hcut:∀ n,(n=(W1 r k).n∨n=(W1 r k).m+1)→cutB rows k n=true:=fun n hn=>by
   simp only [cutB,Bool.or_eq_true,decide_eq_true_eq]
   right
   unfold endB
   rw [List.any_eq_true]
   refine ⟨r,hr,?_⟩
   simp only [h3,decide_true,Bool.true_and,Bool.or_eq_true,decide_eq_true_eq]
   omega
  rcases hfit with h5 | h5
  ·have:=q3 (W1 r k).n (by omega) (by omega)
   rw [hcut _ (.inl rfl)] at this
   cases this
  ·have:=q3 ((W1 r k).m+1) (by omega) (by omega)
   rw [hcut _ (.inr rfl)] at this
   cases this
 ·rw [Z6,if_neg (by omega),if_neg (by omega),if_neg (by omega),if_neg (by omega),if_neg (by omega)]
  rw [Q5s,if_neg (by omega),if_neg (by omega),decide_eq_false_iff_not] at hfit
  exact if_neg fun h=>hfit (by omega)
theorem V5t {w:List Q4} : ∀ (d e:Nat) (t:Q7) (v:Q2),d≤e→Q3u w d t v→Q3u w e t v:=by
 intro d
 induction d with
 | zero=>intro e t v _ h;exact h.elim
 | succ d ih=>
  intro e t v he h
  obtain ⟨e,rfl⟩:∃ k,e=k+1:=⟨e-1,by omega⟩
  rw [Q3u] at h ⊢
  split
  ·rename_i hd;rw [if_pos hd] at h;exact h
  ·rename_i hd
   rw [if_neg hd] at h
   exact ⟨h.1,h.2.1,h.2.2.1,fun j a x ha hx=>ih e a x (by omega) (h.2.2.2 j a x ha hx)⟩
theorem X6s {w:List Q4}{v:Q2} : ∀ (ps:List Q0) (args:List Z7) (us:List Q2),ps.length=args.length→us.length=args.length→
  (∀ (j:Nat) (p:Q0) (c:Z7) (u:Q2),ps[j]?=some p→args[j]?=some c→us[j]?=some u→PatO w c.t p∧Q69 v c.path=some u)→
  ∃ zb,Q1a ((zipS ps args).flatMap (·.1)) v=some zb∧((W8 (Z6 12) ps us=none∧W8 (Z6 12) ((zipS ps args).map (·.2)) us=none)∨∃ p z,W8 (Z6 12) ps us=some p∧W8 (Z6 12) ((zipS ps args).map (·.2)) us=some z∧p.Perm (zb++z))
 | [],[],[],_,_,_=>⟨[],rfl,.inr ⟨[],[],rfl,rfl,by simp⟩⟩
 | p::ps,c::args,u::us,h1,h2,h=>by
  obtain ⟨hp,hu⟩:=h 0 p c u rfl rfl rfl
  obtain ⟨zb,e1,e2⟩:=X6s (w:=w) (v:=v) ps args us (by simpa using h1) (by simpa using h2) fun j p c u a1 a2 a3=>h (j+1) p c u (by simpa using a1) (by simpa using a2) (by simpa using a3)
  have hz:zipS (p::ps) (c::args)=Q7a p c.path::zipS ps args:=rfl
  have hs:=X02 c.path hp
  have hm:=V73 c.path u hp.1
  rw [hz]
  simp only [List.flatMap_cons,List.map_cons]
  rw [Z05,Z31 hu hs.2.2,e1]
  refine ⟨_,rfl,?_⟩
  simp only [W8]
  rw [hm]
  cases Z6 12 (Q7a p c.path).2 u with
  | none=>exact .inl ⟨rfl,rfl⟩
  | some l1=>
   simp only [Option.map_some]
   rcases e2 with ⟨e3,e4⟩ | ⟨q,z,e3,e4,e5⟩
   ·rw [e3,e4];exact .inl ⟨rfl,rfl⟩
   ·rw [e3,e4]
    refine .inr ⟨_,_,rfl,rfl,?_⟩
    rw [List.append_assoc,List.append_assoc]
    refine List.Perm.append_left _ ?_
    refine (List.Perm.append_left l1 e5).trans ?_
    rw [←List.append_assoc,←List.append_assoc]
    exact List.Perm.append_right _ List.perm_append_comm
 | [],[],_::_,_,h,_=>by simp at h
 | [],_::_,_,h,_,_=>by simp at h
 | _::_,[],_,h,_,_=>by simp at h
 | _::_,_::_,[],_,h,_=>by simp at h
def X57 (b:Z1)(u:Q2):List Q2:=if b.ctor = -1 then [] else u.kids
def usD (us:List Q2)(k:Nat)(b:Z1)(u:Q2):List Q2:=us.take k++X57 b u++us.drop (k+1)
theorem X0y {w:List Q4}{col:Z7}{b:Z1}(hB:BrC w col.t b){u:Q2}{e:Nat}(hu:Q3u w e col.t u)(hf:W0 b u=true):(X57 b u).length=(V6 w col b).length:=by
 rw [Q8v]
 unfold X57
 split
 ·rfl
 ·rename_i hc
  have hd:col.t.data≠-1:=fun hd=>hc (hB.int hd)
  simp only [W0,Bool.and_eq_true,decide_eq_true_eq] at hf
  cases e with
  | zero=>exact hu.elim
  | succ e=>
   rw [Q3u,if_neg hd] at hu
   rw [hu.2.2.1,hf.1]
theorem W5m {w:List Q4}(hS:WS w){col:Z7}(ht:col.t∈tys w){b:Z1}(hB:BrC w col.t b){p:Q0}(hp:PatC w col.t p){u:Q2}{e:Nat}(hu:Q3u w e col.t u)(hf:W0 b u=true)(hfit:Q5s p b=true) :
  Z6 12 p u=W8 (Z6 12) (Q2u p (V6 w col b)) (X57 b u):=by
 have hlen:=X0y hB hu hf
 have hn:=Q00 hp.1
 rcases hp.2.2 with h1 | h3 | h4
 ·rw [Q2u,if_pos h1,Z6,if_pos h1]
  rw [Z7q (d:=11) (fun q hq=>by obtain ⟨_,_,rfl⟩:=U10.1 hq;rfl) (by rw [U7,hlen])]
 ·rw [Q2u,if_neg (by omega)]
  have hk:=Z5e hn (by omega) (by omega) (by omega)
  rcases Z01 hn with h | h | h | h | h | h<;>try omega
  have hbi:=hB.int h.2.1
  simp only [W0,Bool.and_eq_true,Bool.or_eq_true,decide_eq_true_eq] at hf
  rw [Q5s,if_neg (by omega),if_pos h3] at hfit
  simp only [Bool.and_eq_true,decide_eq_true_eq] at hfit
  rw [hk,Z6,if_neg (by omega),if_neg (by omega),if_pos h3]
  rcases hf.2 with h5 | h5
  ·exact absurd hbi h5
  rw [if_pos (by omega)]
  rfl
 ·rw [Q2u,if_neg (by omega)]
  have hct:=Z00 (Q0l hn).1 h4
  have hd:col.t.data≠-1:=fun hd=>by rw [hS.int _ ht hd] at hct;cases hct
  have hb:=(hB.ctor hd).2
  rw [Q5s,if_neg (by omega),if_neg (by omega),decide_eq_true_eq] at hfit
  simp only [W0,Bool.and_eq_true,decide_eq_true_eq] at hf
  rw [Z6,if_neg (by omega),if_neg (by omega),if_neg (by omega),if_neg (by omega),if_neg (by omega),if_pos (by omega),X57,if_neg hb]
  refine Z3m _ _ fun j q x hq _=>?_
  have hj:=(List.getElem?_eq_some_iff.1 hq).1
  have ha:(V5 w col.t p)[j]?=some ((V5 w col.t p)[j]'(by rw [←(Q0l hn).2];exact hj)):=by simp
  exact ((Z2d 11 _ q (Y0 hp.1 ha hq)).2.2.2 x).symm
theorem X47 {w:List Q4}{v:Q2}{cols:List Z7}{us:List Q2}(h:V1x w v cols us){k:Nat}{col:Z7}(hk:cols[k]?=some col){u:Q2}(hu:us[k]?=some u){b:Z1}(hB:BrC w col.t b)(hf:W0 b u=true) :
  V1x w v (Q5t cols k (V6 w col b)) (usD us k b u):=by
 obtain ⟨hp,hg⟩:=h.at_ k col u hk hu
 have hkl:=(List.getElem?_eq_some_iff.1 hk).1
 have hl:=X0y hB hg hf
 have hlen:=h.len
 refine ⟨by simp only [Q5t,usD,U5,U6,List.length_drop,hl];omega,fun j c x hc hx=>?_⟩
 unfold Q5t at hc
 unfold usD at hx
 by_cases h1:j<k
 ·rw [List.append_assoc,List.getElem?_append_left (by rw [U6];omega),List.getElem?_take_of_lt h1] at hc hx
  exact h.at_ j c x hc hx
 ·by_cases h2:j<k+(V6 w col b).length
  ·rw [List.append_assoc,List.getElem?_append_right (by rw [U6];omega),U6,List.getElem?_append_left (by omega)] at hc hx
   rw [show min k us.length=k by omega] at hx
   rw [show min k cols.length=k by omega] at hc
   generalize hi:j-k=i at hc hx
   by_cases hc1:b.ctor = -1
   ·rw [V6,if_pos hc1] at hc;simp at hc
   have hd:col.t.data≠-1:=fun hd=>hc1 (hB.int hd)
   have hil:=(List.getElem?_eq_some_iff.1 hc).1
   rw [Q8v,if_neg hc1] at hil
   have hti:(Q09 w col.t b.ctor)[i]?=some ((Q09 w col.t b.ctor)[i]):=U9 hil
   rw [Z40 hc1 hti] at hc
   cases hc
   rw [X57,if_neg hc1] at hx
   simp only [W0,Bool.and_eq_true,decide_eq_true_eq] at hf
   rw [Q3u,if_neg hd] at hg
   refine ⟨?_,V5t 9 10 _ _ (by omega) (hg.2.2.2 i _ x (by rw [←hf.1];exact hti) hx)⟩
   rw [Z4a,hp]
   simp only [U0]
   exact Q0f hx
  ·have hcl:(cols.take k++V6 w col b).length=k+(V6 w col b).length:=by rw [U5,U6];omega
   have hul:(us.take k++X57 b u).length=k+(V6 w col b).length:=by rw [U5,U6,hl];omega
   rw [List.getElem?_append_right (by omega),hcl,List.getElem?_drop] at hc
   rw [List.getElem?_append_right (by omega),hul,List.getElem?_drop] at hx
   exact h.at_ _ c x hc hx
theorem Z6m {α:Type}{l:List α}{k:Nat}{x:α}(h:l[k]?=some x):l=l.take k++([x]++l.drop (k+1)):=by
 have:=Q9c h
 rw [List.singleton_append,←this,List.take_append_drop]
theorem Z6p {w:List Q4}(hS:WS w){lst:List Q3}{v:Q2}{cols:List Z7}{us:List Q2}(h:V1x w v cols us){k:Nat}{col:Z7}(hk:cols[k]?=some col)(ht:col.t∈tys w){u:Q2}(hu:us[k]?=some u){b:Z1}(hB:BrC w col.t b)(hf:W0 b u=true)
  {r:Grow} (hr:RowC w lst cols r) {rb:List X3} (hrb:Q1a r.binds v=some rb) (hfit:Q5s (W1 r k) b=true) :
  (∃ kb,Q1a (Q8q r k (V6 w col b)).binds v=some kb)∧((rowB r v us=none∧rowL r us=none∧rowL (Q8q r k (V6 w col b)) (usD us k b u)=none)∨∃ x y,rowB r v us=some x∧(rowL r us).isSome=true∧rowB (Q8q r k (V6 w col b)) v (usD us k b u)=some y∧(rowL (Q8q r k (V6 w col b)) (usD us k b u)).isSome=true∧x.Perm y):=by
 obtain ⟨hkl,hp⟩:=hr.at hk
 obtain ⟨hpv,hg⟩:=h.at_ k col u hk hu
 have hul:=(List.getElem?_eq_some_iff.1 hu).1
 have hlen:=h.len
 have hrl:=hr.len
 have hpk:r.pats[k]?=some (W1 r k):=by unfold W1;rw [U9 hkl];rfl
 obtain ⟨c1,c2,_⟩:=W31 hS ht hp hB hfit rfl
 have hkU:=X0y hB hg hf
 have hnx:=X47 h hk hu hB hf
 obtain ⟨zb,e1,e2⟩:=X6s (w:=w) (v:=v) (Q2u (W1 r k) (V6 w col b)) (V6 w col b) (X57 b u) c1 hkU fun j p c x a1 a2 a3=>⟨c2 j p c a1 a2,by
  have hjl:=(List.getElem?_eq_some_iff.1 a2).1
  refine (hnx.at_ (k+j) c x ?_ ?_).1
  ·unfold Q5t
   rw [List.append_assoc,List.getElem?_append_right (by rw [U6];omega),U6,List.getElem?_append_left (by omega),show k+j-min k cols.length=j by omega]
   exact a2
  ·unfold usD
   rw [List.append_assoc,List.getElem?_append_right (by rw [U6];omega),U6,List.getElem?_append_left (by omega),show k+j-min k us.length=j by omega]
   exact a3⟩
 rw [←W5m hS ht hB hp hg hf hfit] at e2
 have hR:rowL r us=(W8 (Z6 12) (r.pats.take k) (us.take k)).bind fun a=>((Z6 12 (W1 r k) u).bind fun p=>(W8 (Z6 12) (r.pats.drop (k+1)) (us.drop (k+1))).map (p++·)).map (a++·):=by
  unfold rowL
  conv=>lhs;rw [Z6m hpk,Z6m hu]
  rw [Q6t _ _ _ _ (by simp only [U6];omega)]
  congr 1
  funext a
  congr 1
  rw [Q6t _ _ _ _ (by simp)]
  simp only [W8]
  cases Z6 12 (W1 r k) u<;>simp
 have hK:rowL (Q8q r k (V6 w col b)) (usD us k b u)=(W8 (Z6 12) (r.pats.take k) (us.take k)).bind fun a=>((W8 (Z6 12) ((zipS (Q2u (W1 r k) (V6 w col b)) (V6 w col b)).map (·.2)) (X57 b u)).bind fun p=>(W8 (Z6 12) (r.pats.drop (k+1)) (us.drop (k+1))).map (p++·)).map (a++·):=by
  unfold rowL Q8q usD
  simp only
  rw [List.append_assoc,List.append_assoc,Q6t _ _ _ _ (by simp only [U6];omega)]
  congr 1
  funext a
  congr 1
  rw [Q6t _ _ _ _ (by simp only [U7,zipS,List.length_zipWith];omega)]
 have hKb:Q1a (Q8q r k (V6 w col b)).binds v=some (rb++zb):=by
  unfold Q8q
  simp only
  rw [Z05,hrb,e1]
  rfl
 refine ⟨⟨_,hKb⟩,?_⟩
 unfold rowB
 rw [hrb,hKb,hR,hK]
 simp only [U0]
 cases W8 (Z6 12) (r.pats.take k) (us.take k) with
 | none=>exact .inl ⟨rfl,rfl,rfl⟩
 | some a=>
 simp only [U0]
 rcases e2 with ⟨e3,e4⟩ | ⟨p,z,e3,e4,e5⟩
 ·rw [e3,e4];exact .inl ⟨rfl,rfl,rfl⟩
 ·rw [e3,e4]
  simp only [U0]
  cases W8 (Z6 12) (r.pats.drop (k+1)) (us.drop (k+1)) with
  | none=>exact .inl ⟨rfl,rfl,rfl⟩
  | some c=>
   refine .inr ⟨_,_,rfl,rfl,rfl,rfl,?_⟩
   simp only [List.append_assoc]
   refine List.Perm.append_left _ ?_
   refine ((e5.append_right c).append_left a).trans ?_
   have h9:(a++zb++(z++c)).Perm (zb++a++(z++c)):=List.Perm.append_right _ List.perm_append_comm
   simpa only [List.append_assoc] using h9
theorem W1n {α:Type}{l:List α}{f g:α→Bool}(h:∀ x∈l,f x=g x):l.find? f=l.find? g:=by
 induction l with
 | nil=>rfl
 | cons a l ih=>
  rw [List.find?_cons,List.find?_cons,h a (by simp),ih fun x hx=>h x (by simp [hx])]
theorem W0m (rows:List Grow)(k:Nat)(b:Z1)(args:List Z7)(c:Int):Q4q (Q63 rows k b args) c=Q63 (Q4q rows c) k b args:=by
 unfold Q4q Q63
 rw [List.filter_map,List.filter_filter,List.filter_filter]
 congr 1
 refine List.filter_congr fun r _=>?_
 simp only [Function.comp,Q8q]
 exact Bool.and_comm _ _
def V6y (w:List Q4)(lst:List Q3)(cols:List Z7)(v:Q2)(rows:List Grow):Prop:=∀ r∈rows,RowC w lst cols r∧∃ l,Q1a r.binds v=some l
theorem V0u {w:List Q4} : ∀ (d:Nat) (t:Q7) (p:Q0),Q0e w d t p=true→Q9x d p→∀ v l,Z6 d p v=some l→l.map (·.var)=Q56 p:=by
 intro d
 induction d with
 | zero=>intro t p h;simp [Q0e] at h
 | succ d ih=>
  intro t p g hf v l hm
  have hn:=Q00 g
  obtain ⟨ho,hl⟩:=Q0l hn
  have h5:=hf.1
  rw [Z14,Q7q]
  rw [Z6] at hm
  by_cases h1:p.op=1
  ·rw [if_pos h1] at hm
   cases hm
   rw [Z5e hn (by omega) (by omega) (by omega),if_neg (by omega)];rfl
  rw [if_neg h1] at hm
  by_cases h2:p.op=2
  ·rw [if_pos h2] at hm
   cases hm
   rw [Z5e hn (by omega) (by omega) (by omega),if_pos (.inl h2)];rfl
  rw [if_neg h2] at hm
  by_cases h3:p.op=3
  ·rw [if_pos h3] at hm
   split at hm
   ·cases hm
    rw [Z5e hn (by omega) (by omega) (by omega),if_neg (by omega)];rfl
   ·cases hm
  rw [if_neg h3,if_neg h5] at hm
  by_cases h6:p.op=6
  ·rw [if_pos h6] at hm
   obtain ⟨a,hk,hkt⟩:=X10 h6 hl
   have ga:=Y0 g (k:=0) (a:=t) (q:=a) (by rw [hkt];rfl) (by rw [hk];rfl)
   rw [hk] at hm
   simp only [U11] at hm
   obtain ⟨m,hm,rfl⟩:=hm
   rw [if_pos (.inr h6),hk,List.map_cons,ih t a ga (hf.2 a (by rw [hk];simp)) v m hm]
   simp
  rw [if_neg h6] at hm
  rw [if_neg (by omega),List.nil_append]
  split at hm
  ·have gen:∀ (ts:List Q7) (ps:List Q0) (vs:List Q2) (l:List X3),ts.length=ps.length→(∀ x∈ts.zip ps,∀ v l,Z6 d x.2 v=some l→l.map (·.var)=Q56 x.2)→W8 (Z6 d) ps vs=some l→l.map (·.var)=ps.flatMap Q56:=by
    intro ts ps
    induction ps generalizing ts with
    | nil=>intro vs l _ _ h;simp only [W8] at h;cases h;rfl
    | cons q ps ihp=>
     intro vs l hl hx h
     cases ts with
     | nil=>simp at hl
     | cons a ts=>
      cases vs with
      | nil=>cases h
      | cons u vs=>
       simp only [W8] at h
       cases hq:Z6 d q u with
       | none=>rw [hq] at h;cases h
       | some l1=>
        rw [hq] at h
        simp only at h
        cases hps:W8 (Z6 d) ps vs with
        | none=>rw [hps] at h;cases h
        | some l2=>
         rw [hps] at h
         cases h
         rw [List.map_append,List.flatMap_cons,hx (a,q) (by simp) u l1 hq,ihp ts vs l2 (by simpa using hl) (fun x hxx=>hx x (by simp [hxx])) hps]
   refine gen (V5 w t p) p.kids v.kids l hl.symm (fun x hx v l h=>?_) hm
   obtain ⟨j,hj⟩:=List.mem_iff_getElem?.1 hx
   obtain ⟨e1,e2⟩:=List.getElem?_zip_eq_some.1 hj
   exact ih _ _ (Y0 g e1 e2) (hf.2 _ (U1 e2)) v l h
  ·cases hm
theorem X0t {w:List Q4} : ∀ (ps:List Q0) (us:List Q2) (l:List X3),(∀ p∈ps,∃ t,PatO w t p)→W8 (Z6 12) ps us=some l→l.map (·.var)=ps.flatMap Q56
 | [],_,l,_,h=>by simp only [W8,Option.some.injEq] at h;subst h;rfl
 | _::_,[],_,_,h=>by simp [W8] at h
 | p::ps,u::us,l,hp,h=>by
  simp only [W8] at h
  cases hq:Z6 12 p u with
  | none=>rw [hq] at h;cases h
  | some l1=>
   rw [hq] at h
   simp only at h
   cases hps:W8 (Z6 12) ps us with
   | none=>rw [hps] at h;cases h
   | some l2=>
    rw [hps] at h
    cases h
    obtain ⟨t,g,f⟩:=hp p (by simp)
    rw [List.map_append,List.flatMap_cons,V0u 12 t p g f u l1 hq,X0t ps us l2 (fun x hx=>hp x (by simp [hx])) hps]
theorem Z59 {w:List Q4}{lst:List Q3}{cols:List Z7}{r:Grow}(h:RowC w lst cols r){v:Q2}{us:List Q2}{l:List X3}(hl:rowB r v us=some l):X6h l:=by
 have hvars:l.map (·.var)=X2m r:=by
  unfold rowB at hl
  cases hb:Q1a r.binds v with
  | none=>rw [hb] at hl;simp at hl
  | some l1=>
   rw [hb] at hl
   simp only [U0,U11] at hl
   obtain ⟨l2,h2,rfl⟩:=hl
   rw [List.map_append,Q6r hb,X2m]
   congr 1
   refine X0t (w:=w) r.pats us l2 (fun p hp=>?_) h2
   obtain ⟨j,hj⟩:=List.mem_iff_getElem?.1 hp
   have hjl:=(List.getElem?_eq_some_iff.1 hj).1
   have hlen:=h.len
   have hc:cols[j]?=some (cols[j]'(by omega)):=by simp
   have hx:=h.pat _ (U1 (Q91 hc hj))
   exact ⟨_,hx.1,hx.2.1⟩
 have hn:(l.map (·.var)).Nodup:=by rw [hvars];exact h.nd
 have hr:∀ b∈l,0≤b.var∧b.var≤5:=fun b hb=>h.rg b.var (by rw [←hvars];exact List.mem_map_of_mem hb)
 refine ⟨hn,hr,?_⟩
 have:=Z2c 6 _ hn fun x hx=>by
  obtain ⟨b,hb,rfl⟩:=U10.1 hx
  have:=hr b hb
  omega
 simpa using this
theorem V8t {w:List Q4}(hS:WS w){lst:List Q3}{v:Q2}{cols:List Z7}{us:List Q2}(h:V1x w v cols us){k:Nat}{col:Z7}(hk:cols[k]?=some col)(ht:col.t∈tys w){u:Q2}(hu:us[k]?=some u){b:Z1}{rows0:List Grow}(hb:b∈brsD w rows0 col.t k)(hB:BrC w col.t b)(hf:W0 b u=true){RR:List Grow}{x:Int×List X3}(hx:Z79 lst v (usD us k b u) RR x) :
  ∀ rows:List Grow,(∀ r∈rows,r∈rows0)→V6y w lst cols v rows→RR=Q63 rows k b (V6 w col b)→Z79 lst v us rows x:=by
 have hfind:∀ rows:List Grow,(∀ r∈rows,r∈rows0)→V6y w lst cols v rows→(Q63 rows k b (V6 w col b)).find? (hitR (usD us k b u))=(rows.find? (hitR us)).map fun r=>Q8q r k (V6 w col b):=fun rows h0 hR=>by
  unfold Q63
  rw [List.find?_map,List.find?_filter]
  congr 1
  refine W1n fun r hr=>?_
  obtain ⟨hC,rb,hrb⟩:=hR r hr
  simp only [Function.comp]
  cases hfit:Q5s (W1 r k) b with
  | false=>
   have hn:=X42 hb (h0 r hr) (hC.at hk).2 (h.at_ k col u hk hu).2 hf 11 hfit
   have hkl:=(hC.at hk).1
   have hpk:r.pats[k]?=some (W1 r k):=by unfold W1;rw [U9 hkl];rfl
   have hrl:=hC.len
   have hlen:=h.len
   have:rowL r us=none:=by
    unfold rowL
    rw [Z6m hpk,Z6m hu,Q6t _ _ _ _ (by simp only [U6];omega),List.singleton_append,List.singleton_append]
    cases W8 (Z6 12) (r.pats.take k) (us.take k) with
    | none=>rfl
    | some a=>simp only [U0,W8];rw [hn];rfl
   simp [hitR,this]
  | true=>
   obtain ⟨_,h2⟩:=Z6p hS h hk ht hu hB hf hC hrb hfit
   simp only [Bool.true_and,decide_eq_true_eq]
   rcases h2 with ⟨_,h3,h4⟩ | ⟨_,_,_,h3,_,h4,_⟩
   ·simp [hitR,h3,h4]
   ·simp [hitR,h3,h4]
 induction hx with
 | none hn=>
  intro rows h0 hR e
  subst e
  rw [hfind rows h0 hR,Option.map_eq_none_iff] at hn
  exact .none hn
 | take h1 h2 h3 h4=>
  intro rows h0 hR e
  subst e
  rw [hfind rows h0 hR,U11] at h1
  obtain ⟨r,hr,rfl⟩:=h1
  have hm:=List.mem_of_find?_eq_some hr
  obtain ⟨hC,rb,hrb⟩:=hR r hm
  have hfit:Q5s (W1 r k) b=true:=by
   cases hfit:Q5s (W1 r k) b with
   | true=>rfl
   | false=>
    have hn:=X42 hb (h0 r hm) (hC.at hk).2 (h.at_ k col u hk hu).2 hf 11 hfit
    exact absurd (List.find?_some hr) (by
     have:=hfind [r] (fun x hx=>by simp only [List.mem_singleton] at hx;rw [hx];exact h0 r hm) (fun x hx=>by simp only [List.mem_singleton] at hx;rw [hx];exact hR r hm)
     simp only [Q63,List.filter_cons,hfit,U2,if_false,List.filter_nil,List.map_nil,List.find?_nil,List.find?_cons] at this
     intro hh
     rw [hh] at this
     simp at this)
  obtain ⟨_,h5⟩:=Z6p hS h hk ht hu hB hf hC hrb hfit
  rcases h5 with ⟨_,h6,h7⟩ | ⟨a,y,h6,_,h7,_,h8⟩
  ·exact absurd h2 (by unfold rowB;rw [h7];intro hh;cases Q1a (Q8q r k (V6 w col b)).binds v<;>simp at hh)
  ·rw [h7] at h2
   cases h2
   have hbo:=Z59 hC h6
   rw [←Z5i hbo.nd h8] at h4
   rw [←W8e hbo h8]
   show Z79 lst v us rows (r.clause,Q95 a)
   exact .take hr h6 h3 h4
 | skip h1 h2 h3 h4 _ ih=>
  intro rows h0 hR e
  subst e
  rw [hfind rows h0 hR,U11] at h1
  obtain ⟨r,hr,rfl⟩:=h1
  have hm:=List.mem_of_find?_eq_some hr
  obtain ⟨hC,rb,hrb⟩:=hR r hm
  have hfit:Q5s (W1 r k) b=true:=by
   cases hfit:Q5s (W1 r k) b with
   | true=>rfl
   | false=>
    exact absurd (List.find?_some hr) (by
     have:=hfind [r] (fun x hx=>by simp only [List.mem_singleton] at hx;rw [hx];exact h0 r hm) (fun x hx=>by simp only [List.mem_singleton] at hx;rw [hx];exact hR r hm)
     simp only [Q63,List.filter_cons,hfit,U2,if_false,List.filter_nil,List.map_nil,List.find?_nil,List.find?_cons] at this
     intro hh
     rw [hh] at this
     simp at this)
  obtain ⟨_,h5⟩:=Z6p hS h hk ht hu hB hf hC hrb hfit
  rcases h5 with ⟨_,h6,h7⟩ | ⟨a,y,h6,_,h7,_,h8⟩
  ·exact absurd h2 (by unfold rowB;rw [h7];intro hh;cases Q1a (Q8q r k (V6 w col b)).binds v<;>simp at hh)
  ·rw [h7] at h2
   cases h2
   have hbo:=Z59 hC h6
   rw [←Z5i hbo.nd h8] at h4
   refine .skip hr h6 h3 h4 (ih (Q4q rows r.clause) (fun x hx=>h0 x (Z1w hx)) (fun x hx=>hR x (Z1w hx)) ?_)
   exact W0m rows k b (V6 w col b) r.clause
theorem X9f {P:Z1→X0→Prop}{u:Q2} : ∀ {bs xs:List Z1},brsR P bs xs→(∃ b∈bs,W0 b u=true)→∃ x b,xs.find? (fun b=>W0 b u)=some x∧b∈bs∧W0 b u=true∧P b x.tree
 | [],[],_,⟨_,h,_⟩=>by cases h
 | [],_::_,e,_=>e.elim
 | _::_,[],e,_=>e.elim
 | b::bs,x::xs,⟨⟨e1,e2,e3,e4⟩,e5⟩,h=>by
  have hfx:W0 x u=W0 b u:=by unfold W0;rw [e1,e2,e3]
  rw [List.find?_cons,hfx]
  cases hb:W0 b u with
  | true=>exact ⟨x,b,rfl,by simp,hb,e4⟩
  | false=>
   obtain ⟨c,hc,hcf⟩:=h
   have hc2:c∈bs:=by
    rcases U8.1 hc with rfl | hc
    ·rw [hb] at hcf;cases hcf
    ·exact hc
   obtain ⟨y,c',h1,h2,h3,h4⟩:=X9f e5 ⟨c,hc2,hcf⟩
   exact ⟨y,c',h1,by simp [h2],h3,h4⟩
theorem V3h {w:List Q4}(hww:w∈Q0r){lst:List Q3}{pick:Int}{v:Q2} : ∀ (d:Nat) (t:X0) (rows:List Grow) (cols:List Z7) (us:List Q2),Q8x w lst pick d t rows cols→V6y w lst cols v rows→ColC w cols d→V1x w v cols us→
  ∃ a bs k,runT d t lst v=some (a,bs,k)∧Z79 lst v us rows (a,bs):=by
 have hw:=ww hww
 have hS:=ws hww
 intro d
 induction d with
 | zero=>intro t rows cols us h;exact h.elim
 | succ d ih=>
  intro t rows cols us h hR hC hV
  have hCd:ColC w cols d:=⟨hC.ty,fun c hc=>by have:=hC.path c hc;omega,by have:=hC.len;omega⟩
  cases rows with
  | nil=>
   simp only [Q8x] at h
   subst h
   exact ⟨-1,[],0,by simp [runT,zT],.none rfl⟩
  | cons r0 rest=>
   simp only [Q8x] at h
   obtain ⟨h0,rb,hrb⟩:=hR r0 (by simp)
   cases hp:Z12 w (r0::rest) cols pick with
   | none=>
    rw [hp] at h
    simp only at h
    obtain ⟨h1,h2,h3,h4,h5,cl,h6,h7⟩:=h
    have hall:∀ q∈r0.pats,q=anyP:=fun q hq=>by
     obtain ⟨j,hj⟩:=List.mem_iff_getElem?.1 hq
     have hjl:=(List.getElem?_eq_some_iff.1 hj).1
     have hlen:=h0.len
     have hany:Z06 (r0::rest) j=true:=Z0c.1 hp j (by omega)
     have this:(W1 r0 j).op=1:=of_decide_eq_true hany
     have hq2:W1 r0 j=q:=by unfold W1;rw [hj];rfl
     have hc:cols[j]?=some (cols[j]'(by omega)):=by simp
     have hpc:=(h0.at hc).2
     rw [hq2] at this hpc
     exact X2d (Q00 hpc.1) this
    have hrl:rowL r0 us=some []:=Z7q hall (by rw [h0.len,hV.len])
    have hfind:(r0::rest).find? (hitR us)=some r0:=by rw [List.find?_cons];simp [hitR,hrl]
    have hrB:rowB r0 v us=some rb:=by unfold rowB;rw [hrb,hrl];simp
    have hbo:=Z59 h0 hrB
    obtain ⟨bn,br,_⟩:=h0.binds
    obtain ⟨l',e1,e2⟩:=X26 (Q80 br).symm hrb
    have hl':l'=Q95 rb:=by
     have hs:l'.Pairwise (fun x y=>x.var<y.var):=by
      have h1:=Z3b bn
      have h2:=Q6r e1
      have h3:(l'.map (·.var)).Pairwise (· < ·):=by rw [h2,List.pairwise_map];exact h1
      exact List.pairwise_map.1 h3
     exact Z28 _ _ hs (Q9k hbo.nd) (e2.symm.trans (Q4s hbo.rg).symm)
    rw [hl'] at e1
    have hrun:runT (d+1) t lst v=if J8 cl.guard rb=true then some (r0.clause,Q95 rb,0) else match t.else_ with
      | el::_=>runT d el lst v
      | []=>none:=by
     rw [runT,if_neg (by omega),if_pos h1,h2,Z2p h0.c0 h6]
     simp only [U0]
     rw [h3,e1]
     simp only [U0]
     rw [X15 hbo]
     all_goals (cases t.else_<;>rfl)
    rw [hrun]
    cases hg:J8 cl.guard rb with
    | true=>exact ⟨_,_,_,rfl,.take hfind hrB h6 hg⟩
    | false=>
     rcases h7 with ⟨h7,_⟩ | ⟨h7,el,h8,h9⟩
     ·simp [J8,h7] at hg
     ·rw [h8]
      simp only [U2,if_false]
      obtain ⟨a,bs,k,f1,f2⟩:=ih el (Q4q (r0::rest) r0.clause) cols us h9 (fun r hr=>hR r (Z1w hr)) hCd hV
      exact ⟨a,bs,k,f1,.skip hfind hrB h6 hg f2⟩
   | some k=>
    rw [hp] at h
    simp only at h
    obtain ⟨col,h1,h2,h3,h4,h5,h6,h7⟩:=h
    have hkl:=(List.getElem?_eq_some_iff.1 h1).1
    have hlen:=hV.len
    have hu:us[k]?=some (us[k]'(by omega)):=by simp
    generalize us[k]'(by omega)=u at hu
    obtain ⟨hpv,hg⟩:=hV.at_ k col u h1 hu
    have hct:=hC.ty col (U1 h1)
    obtain ⟨x,b,f1,f2,f3,f4⟩:=X9f h7 (V1j hww hct hg (r0::rest) k)
    have hB:=V6o (wl hww) hct b f2
    have hRn:V6y w lst (Q5t cols k (V6 w col b)) v (Q63 (r0::rest) k b (V6 w col b)):=fun r hr=>by
     unfold Q63 at hr
     obtain ⟨r1,g1,rfl⟩:=U10.1 hr
     obtain ⟨g2,g3⟩:=List.mem_filter.1 g1
     obtain ⟨g4,rb1,g5⟩:=hR r1 g2
     exact ⟨RowC.next hw hS hC g4 h1 hB g3,(Z6p hS hV h1 hct hu hB f3 g4 g5 g3).1⟩
    obtain ⟨a,bs,m,e1,e2⟩:=ih x.tree _ _ (usD us k b u) f4 hRn (ColC.next hw hC h1 hB) (X47 hV h1 hu hB f3)
    refine ⟨a,bs,m+1,?_,V8t hS hV h1 hct hu f2 hB f3 e2 (r0::rest) (fun r h=>h) hR rfl⟩
    rw [runT,if_pos h2,h5,hpv]
    simp only [U0]
    rw [f1]
    simp only
    rw [e1]
    rfl
theorem Z8t {α β:Type}{l:List α}{f:α→Option β}{q:α}(h:l.find? (fun q=>(f q).isSome)=some q):l.findSome? f=f q:=by
 induction l with
 | nil=>cases h
 | cons a l ih=>
  rw [List.find?_cons] at h
  rw [List.findSome?_cons]
  cases ha:f a with
  | none=>rw [ha] at h;exact ih h
  | some x=>
   rw [ha] at h
   simp only [Option.isSome_some,Option.some.injEq] at h
   rw [←h,ha]
theorem X7l {v:Q2} : ∀ (cs:List Q3) (k:Nat),(∀ c∈cs,∀ b,Z6 10 c.pat v=some b→J8 c.guard b=false)→runD v k cs=none
 | [],_,_=>rfl
 | c::cs,k,h=>by
  simp only [runD]
  have ih:=X7l cs (k+1) fun x hx=>h x (by simp [hx])
  cases hm:Z6 10 c.pat v with
  | none=>exact ih
  | some b=>
   simp only
   rw [h c (by simp) b hm]
   simpa using ih
theorem W8o {v:Q2} : ∀ (cs:List Q3) (k i:Nat) (c:Q3) (b:List X3),(∀ (j:Nat) (c':Q3),j<i→cs[j]?=some c'→∀ b,Z6 10 c'.pat v=some b→J8 c'.guard b=false)→cs[i]?=some c→Z6 10 c.pat v=some b→J8 c.guard b=true→runD v k cs=some (k+i,Q95 b)
 | [],_,_,_,_,_,h,_,_=>by simp at h
 | c0::cs,k,0,c,b,_,h,hm,hg=>by
  simp only [List.getElem?_cons_zero,Option.some.injEq] at h
  subst h
  simp only [runD,hm,hg,if_true,Nat.add_zero]
 | c0::cs,k,i+1,c,b,h0,h,hm,hg=>by
  simp only [runD]
  have ih:=W8o cs (k+1) i c b (fun j c' hj hc=>h0 (j+1) c' (by omega) (by simpa using hc)) (by simpa using h) hm hg
  rw [show k+1+i=k+(i+1) by omega] at ih
  cases hm0:Z6 10 c0.pat v with
  | none=>exact ih
  | some b0=>
   simp only
   rw [h0 0 c0 (by omega) rfl b0 hm0]
   simpa using ih
theorem Z7p {l:List Q3}{j:Nat}{c:Q3}{q:Q0}(hc:l[j]?=some c)(hq:q∈Z3 10 c.pat):∀ n,j<n→Q2r j q∈Q2y l n
 | 0,h=>by omega
 | n+1,h=>by
  rw [Q2y]
  by_cases hjn:j=n
  ·subst hjn
   rw [hc]
   exact List.mem_append_right _ (List.mem_map_of_mem hq)
  ·exact List.mem_append_left _ (Z7p hc hq n (by omega))
theorem Z5o {l:List Q3}{p:Grow→Bool}{r:Grow} : ∀ n,n≤l.length→(Q2y l n).find? p=some r→
  ∃ i c q,i<n∧l[i]?=some c∧r=Q2r i q∧(Z3 10 c.pat).find? (fun q=>p (Q2r i q))=some q∧∀ (j:Nat) (c':Q3),j<i→l[j]?=some c'→∀ q'∈Z3 10 c'.pat,p (Q2r j q')=false
 | 0,_,h=>by simp [Q2y] at h
 | n+1,hn,h=>by
  rw [Q2y,List.find?_append,Option.or_eq_some_iff] at h
  rcases h with h | ⟨h0,h⟩
  ·obtain ⟨i,c,q,h1,h2⟩:=Z5o n (by omega) h
   exact ⟨i,c,q,by omega,h2⟩
  ·have hc:l[n]?=some (l[n]'(by omega)):=by simp
   rw [hc] at h
   simp only at h
   rw [List.find?_map,U11] at h
   obtain ⟨q,h1,h2⟩:=h
   refine ⟨n,_,q,by omega,hc,h2.symm,h1,fun j c' hj hc' q' hq'=>?_⟩
   have hm:Q2r j q'∈Q2y l n:=Z7p hc' hq' n hj
   simpa using List.find?_eq_none.1 h0 _ hm
theorem X7m {w:List Q4}{t:Q7}{p q:Q0}(g:Q0e w 10 t p=true)(hq:q∈Z3 10 p)(i:Nat)(v:Q2) :
  rowB (Q2r i q) v [v]=Z6 10 q v∧hitR [v] (Q2r i q)=(Z6 10 q v).isSome:=by
 have g10:=Q7z 10 t p q g hq
 have g12:Q0e w 12 t q=true:=Q31 11 t q (Q31 10 t q g10)
 have hO:PatO w t q:=⟨g12,Q6p 11 q (Q6p 10 q (Z1t 10 p q hq))⟩
 have e1:Z6 12 q v=Z6 10 q v:=by rw [(Z2d 11 t q (Q31 10 t q g10)).2.2.2 v,(Z2d 10 t q g10).2.2.2 v]
 have hm:=V73 [] v g12
 have hb:=Z31 (v:=v) (u:=v) (path:=[]) rfl (X02 [] hO).2.2
 have hL:rowL (Q2r i q) [v]=Z6 12 (Q7a q []).2 v:=by
  unfold rowL Q2r
  simp only [W8]
  cases Z6 12 (Q7a q []).2 v<;>simp
 constructor
 ·unfold rowB
  rw [hL,show (Q2r i q).binds=(Q7a q []).1 from rfl,hb]
  simp only [U0]
  rw [←hm,e1]
 ·unfold hitR
  rw [hL,←e1,hm]
  simp
theorem Y3x {w:List Q4}(hw:WW w)(hS:WS w){t:Q7}(ht:t∈tys w){l:List Q3}(hl:∀ c∈l,Q0e w 10 t c.pat=true){v:Q2}{e:Nat}(hv:Q3u w e t v){RR:List Grow}{x:Int×List X3}(h:Z79 l v [v] RR x) :
  ∀ keep:Int→Bool,RR=(Q2y l l.length).filter (fun r=>keep r.clause)→(∀ (i:Nat) (c:Q3) (b:List X3),l[i]?=some c→keep (i:Int)=false→Z6 10 c.pat v=some b→J8 c.guard b=false)→x=runR (runD v 0 l):=by
 have hsp:∀ c∈l,(Z3 10 c.pat).findSome? (fun q=>Z6 10 q v)=Z6 10 c.pat v:=fun c hc=>X3j hw hS 10 e t c.pat v ht (hl c hc) hv
 have none_of:∀ (j:Nat) (c:Q3),l[j]?=some c→(∀ q∈Z3 10 c.pat,hitR [v] (Q2r j q)=false)→Z6 10 c.pat v=none:=fun j c hc h=>by
  have hcm:=U1 hc
  rw [←hsp c hcm]
  refine X1m fun q hq=>?_
  have h1:=h q hq
  rw [(X7m (hl c hcm) hq j v).2] at h1
  simpa using h1
 induction h with
 | none hn=>
  intro keep e hk
  subst e
  rw [List.find?_filter,List.find?_eq_none] at hn
  rw [X7l l 0 fun c hc b hb=>?_]
  ·rfl
  obtain ⟨j,hj⟩:=List.mem_iff_getElem?.1 hc
  have hjl:=(List.getElem?_eq_some_iff.1 hj).1
  cases hkj:keep (j:Int) with
  | false=>exact hk j c b hj hkj hb
  | true=>
   have:=none_of j c hj fun q hq=>by
    have h1:=hn _ (Z7p hj hq l.length hjl)
    have h2:(Q2r j q).clause=(j:Int):=rfl
    rw [h2,hkj] at h1
    simpa using h1
   rw [this] at hb
   cases hb
 | take h1 h2 h3 h4=>
  intro keep e hk
  subst e
  rw [List.find?_filter] at h1
  obtain ⟨i,c,q,hi,hc,rfl,hq,hbef⟩:=Z5o l.length (Nat.le_refl _) h1
  have hcm:=U1 hc
  have hqm:=List.mem_of_find?_eq_some hq
  have h3':l[((Q2r i q).clause).toNat]?=some c:=by
   rw [show ((Q2r i q).clause).toNat=i from rfl];exact hc
  rw [h3'] at h3
  have h3:=Option.some.inj h3
  subst h3
  have hki:keep (i:Int)=true:=by
   have h9:=List.find?_some hq
   simp only [decide_eq_true_eq] at h9
   exact h9.1
  have hfq:(Z3 10 c.pat).find? (fun q=>(Z6 10 q v).isSome)=some q:=by
   rw [←hq]
   refine W1n fun y hy=>?_
   rw [(X7m (hl c hcm) hy i v).2,show (Q2r i y).clause=(i:Int) from rfl,hki]
   simp
  have hmc:Z6 10 c.pat v=Z6 10 q v:=by rw [←hsp c hcm];exact Z8t hfq
  rw [(X7m (hl c hcm) hqm i v).1,←hmc] at h2
  rw [W8o l 0 i c _ (fun j c' hj hc' b hb=>?_) hc h2 h4]
  ·simp [runR,Q2r]
  ·cases hkj:keep (j:Int) with
   | false=>exact hk j c' b hc' hkj hb
   | true=>
    have:=none_of j c' hc' fun q' hq'=>by
     have h1:=hbef j c' hj hc' q' hq'
     rw [show (Q2r j q').clause=(j:Int) from rfl,hkj] at h1
     simpa using h1
    rw [this] at hb
    cases hb
 | skip h1 h2 h3 h4 _ ih=>
  intro keep e hk
  subst e
  rw [List.find?_filter] at h1
  obtain ⟨i,c,q,hi,hc,rfl,hq,hbef⟩:=Z5o l.length (Nat.le_refl _) h1
  have hcm:=U1 hc
  have hqm:=List.mem_of_find?_eq_some hq
  have h3':l[((Q2r i q).clause).toNat]?=some c:=by
   rw [show ((Q2r i q).clause).toNat=i from rfl];exact hc
  rw [h3'] at h3
  have h3:=Option.some.inj h3
  subst h3
  have hki:keep (i:Int)=true:=by
   have h9:=List.find?_some hq
   simp only [decide_eq_true_eq] at h9
   exact h9.1
  have hfq:(Z3 10 c.pat).find? (fun q=>(Z6 10 q v).isSome)=some q:=by
   rw [←hq]
   refine W1n fun y hy=>?_
   rw [(X7m (hl c hcm) hy i v).2,show (Q2r i y).clause=(i:Int) from rfl,hki]
   simp
  have hmc:Z6 10 c.pat v=Z6 10 q v:=by rw [←hsp c hcm];exact Z8t hfq
  rw [(X7m (hl c hcm) hqm i v).1,←hmc] at h2
  refine ih (fun z=>keep z&&decide (z≠(i:Int))) ?_ fun j c' b hc' hkj hb=>?_
  ·unfold Q4q
   rw [List.filter_filter]
   refine List.filter_congr fun r _=>?_
   rw [show (Q2r i q).clause=(i:Int) from rfl,Bool.and_comm]
   simp
  ·simp only [Bool.and_eq_false_iff,decide_eq_false_iff_not] at hkj
   rcases hkj with hkj | hkj
   ·exact hk j c' b hc' hkj hb
   ·have hji:j=i:=by omega
    subst hji
    rw [hc] at hc'
    cases hc'
    rw [h2] at hb
    cases hb
    exact h4
theorem Z90 {w:List Q4}(hww:w∈Q0r){t:Q7}(ht:t∈tys w){l:List Q3}{pick:Int}{tr:X0}(h:W2 NN w t l pick=some (tr,true)):canC w t l pick=true:=by
 rw [W32 hww ht] at h
 cases hc:canC w t l pick with
 | true=>rfl
 | false=>rw [hc] at h;simp at h
theorem X6z {w:List Q4}(hww:w∈Q0r){t:Q7}(ht:t∈tys w){l:List Q3}{pick:Int}{tr:X0}(h:W2 NN w t l pick=some (tr,true)){v:Q2}(hv:Q3u w 10 t v) :
  ∃ k,runT 300 tr l v=some ((runR (runD v 0 l)).1,(runR (runD v 0 l)).2,k):=by
 have hw:=ww hww
 have hS:=ws hww
 have hc:=Z90 hww ht h
 have hT:=(Q9d hww ht l pick).tr tr h
 simp only [canC,Bool.and_eq_true] at hc
 obtain ⟨hll,hP⟩:=Z5c hc.1.1
 have hR:=X0c hw hP hll
 obtain ⟨a,bs,k,h1,h2⟩:=V3h hww (v:=v) 300 tr (Q2y l l.length) [⟨[],t⟩] [v] hT (fun r hr=>⟨hR r hr,by
  obtain ⟨i,c,q,hi,hq,rfl⟩:=Z7h hr
  have g:=(hP c (U1 hi)).1
  have g10:=Q7z 10 t c.pat q g hq
  have hO:PatO w t q:=⟨Q31 11 t q (Q31 10 t q g10),Q6p 11 q (Q6p 10 q (Z1t 10 c.pat q hq))⟩
  exact ⟨_,Z31 (v:=v) (u:=v) (path:=[]) rfl (X02 [] hO).2.2⟩⟩) (X4j ht) ⟨rfl,fun j c u hc hu=>by
   cases j with
   | zero=>simp at hc hu;subst hc hu;exact ⟨rfl,hv⟩
   | succ j=>simp at hc⟩
 have h3:=Y3x hw hS ht (fun c hc=>(hP c hc).1) hv h2 (fun _=>true) (List.filter_eq_self.2 fun _ _=>rfl).symm (fun _ _ _ _ h=>by cases h)
 exact ⟨k,by rw [h1,←h3]⟩
theorem Z3t {α:Type}{l:List α}{k:Nat}{x:α}{p:α→Bool}(h:l[k]?=some x):(l.drop k).find? p=if p x=true then some x else (l.drop (k+1)).find? p:=by
 rw [Q9c h,List.find?_cons]
 cases p x<;>rfl
theorem Q75 (g:Q27)(l:List X3):J2 g l=some (J8 g l):=by
 suffices hs:Ret (J2 g l) (fun r=>r=J8 g l) by
  obtain ⟨a,e,rfl⟩:=hs
  exact e
 unfold J2
 by_cases h0:g.op=0
 ·rw [if_pos (by rw [Q9];exact h0)]
  exact .some (by simp [J8,h0])
 rw [if_neg (by rw [Q9];exact h0)]
 have hfind:Ret (Q1z l (fun a0=>Q2d a0 g)) (fun k=>match l.find? (fun b=>decide (b.var=g.var)) with
   | none=>k = -1
   | some b=>∃ i:Nat,k=(i:Int)∧l[i]?=some b):=by
  unfold Q1z
  refine Ret.ctl (Z5 l (fun k _=>l.find? (fun b=>decide (b.var=g.var))=(l.drop k).find? (fun b=>decide (b.var=g.var))) (fun r=>∃ (i:Nat) (b:X3),r=(i:Int)∧l[i]?=some b∧l.find? (fun b=>decide (b.var=g.var))=some b) (fun _=>l.find? (fun b=>decide (b.var=g.var))=none) (by simp) (fun k x s hx hI=>?_) (fun s hI=>by rw [hI,List.drop_length];rfl)) (fun r hr=>.some ?_) (fun s hs=>.some (by rw [hs]))
  ·have e1:Q2d x g=some (ieq x.var g.var):=rfl
   simp only []
   rw [e1]
   simp only [U0]
   rw [Z3t hx] at hI
   refine Ret.ite (fun hc=>.some ?_) (fun hc=>.some ?_)
   ·rw [Q9] at hc
    rw [if_pos (by simpa using hc)] at hI
    exact ⟨k,x,rfl,hx,hI⟩
   ·rw [X2] at hc
    rw [if_neg (by simpa using hc)] at hI
    exact hI
  ·obtain ⟨i,b,rfl,h1,h2⟩:=hr
   rw [h2]
   exact ⟨i,rfl,h1⟩
 refine Ret.bind hfind (fun k hk=>?_)
 unfold J8
 cases hf:l.find? (fun b=>decide (b.var=g.var)) with
 | none=>
  rw [hf] at hk
  simp only at hk
  subst hk
  exact .some (by simp [h0])
 | some b=>
  rw [hf] at hk
  obtain ⟨i,rfl,hi⟩:=hk
  rw [if_neg (by rw [Z9];omega),Q0f hi]
  simp only [U0,h0,decide_false,Bool.false_or]
  by_cases c1:b.value.ctor = -1
  ·have e1:ieq b.value.ctor (-1)=true:=by rw [Q9];exact c1
   simp only [e1,Bool.not_true,U2,if_false]
   by_cases c2:g.op=1
   ·have e2:ieq g.op 1=true:=by rw [Q9];exact c2
    have e3:ieq g.op 2=false:=by rw [X2];omega
    simp only [e2,e3,if_true,U2,if_false]
    by_cases c3:b.value.n<g.n
    ·have e4:ilt b.value.n g.n=true:=by rw [Z9];exact c3
     simp only [e4,if_true]
     exact .some (by simp [c1,c2,c3])
    ·have e4:ilt b.value.n g.n=false:=by rw [W6];omega
     simp only [e4,U2,if_false]
     exact .some (by simp [c1,c2,c3])
   ·have e2:ieq g.op 1=false:=by rw [X2];exact c2
    simp only [e2,U2,if_false]
    by_cases c3:g.op=2
    ·have e3:ieq g.op 2=true:=by rw [Q9];exact c3
     simp only [e3,if_true]
     exact .some (by simp [c1,c3,ieq])
    ·have e3:ieq g.op 2=false:=by rw [X2];exact c3
     simp only [e3,U2,if_false]
     exact .some (by simp [c1,c2,c3])
  ·have e1:ieq b.value.ctor (-1)=false:=by rw [X2];exact c1
   simp only [e1,Bool.not_false,if_true]
   exact .some (by simp [c1])
theorem X2s (b:Z1)(u:Q2):Q25 b u=some (W0 b u):=by
 unfold Q25 Q3a
 by_cases h1:b.ctor=u.ctor
 ·rw [if_pos (by rw [Q9];exact h1)]
  by_cases h2:b.ctor = -1
  ·rw [if_neg (by rw [Bool.not_eq_true,Bool.not_eq_false',Q9];exact h2),Q8a]
   simp [W0,←h1,h2]
  ·rw [if_pos (by rw [Bool.not_eq_true',X2];exact h2)]
   simp [W0,h1,h1▸h2]
 ·rw [if_neg (by rw [Q9];exact h1)]
  simp [W0,h1]
theorem Z2o (bs:List Z1)(u:Q2):Ret (Q0b bs (fun a0=>Q25 a0 u)) (fun k=>match bs.find? (fun b=>W0 b u) with
  | none=>k = -1
  | some b=>∃ i:Nat,k=(i:Int)∧bs[i]?=some b):=by
 unfold Q0b
 refine Ret.ctl (Z5 bs (fun k _=>bs.find? (fun b=>W0 b u)=(bs.drop k).find? (fun b=>W0 b u)) (fun r=>∃ (i:Nat) (b:Z1),r=(i:Int)∧bs[i]?=some b∧bs.find? (fun b=>W0 b u)=some b) (fun _=>bs.find? (fun b=>W0 b u)=none) (by simp) (fun k x s hx hI=>?_) (fun s hI=>by rw [hI,List.drop_length];rfl)) (fun r hr=>.some ?_) (fun s hs=>.some (by rw [hs]))
 ·simp only []
  rw [X2s]
  simp only [U0]
  rw [Z3t hx] at hI
  refine Ret.ite (fun hc=>.some ?_) (fun hc=>.some ?_)
  ·rw [if_pos hc] at hI
   exact ⟨k,x,rfl,hx,hI⟩
  ·rw [if_neg (by simp [hc])] at hI
   exact hI
 ·obtain ⟨i,b,rfl,h1,h2⟩:=hr
  rw [h2]
  exact ⟨i,rfl,h1⟩
theorem X4m (bs:List Z1)(u:Q2):Ret (Q6b bs u) (fun r=>match bs.find? (fun b=>W0 b u) with
  | none=>r.2=false
  | some b=>r=(b.tree,true)):=by
 unfold Q6b
 refine Ret.ctl (Z5 bs (fun k _=>bs.find? (fun b=>W0 b u)=(bs.drop k).find? (fun b=>W0 b u)) (fun r=>∃ b:Z1,r=(b.tree,true)∧bs.find? (fun b=>W0 b u)=some b) (fun _=>bs.find? (fun b=>W0 b u)=none) (by simp) (fun k x s hx hI=>?_) (fun s hI=>by rw [hI,List.drop_length];rfl)) (fun r hr=>.some ?_) (fun s hs=>.some (by rw [hs]))
 ·rw [Z3t hx] at hI
  by_cases h1:x.ctor=u.ctor
  ·rw [if_pos (by rw [Q9];exact h1)]
   by_cases h2:u.ctor = -1
   ·rw [if_neg (by rw [Bool.not_eq_true,Bool.not_eq_false',Q9];exact h2)]
    by_cases h3:x.n≤u.n
    ·rw [if_pos (by rw [J6];exact h3)]
     by_cases h4:u.n≤x.m
     ·rw [if_pos (by rw [J6];exact h4)]
      rw [if_pos (by simp [W0,h1,h3,h4])] at hI
      exact .some ⟨x,rfl,hI⟩
     ·rw [if_neg (by rw [J6];exact h4)]
      rw [if_neg (by simp [W0,h1,h2,h4])] at hI
      exact .some hI
    ·rw [if_neg (by rw [J6];exact h3)]
     rw [if_neg (by simp [W0,h1,h2,h3])] at hI
     exact .some hI
   ·rw [if_pos (by rw [Bool.not_eq_true',X2];exact h2)]
    rw [if_pos (by simp [W0,h1,h2])] at hI
    exact .some ⟨x,rfl,hI⟩
  ·rw [if_neg (by rw [Q9];exact h1)]
   rw [if_neg (by simp [W0,h1])] at hI
   exact .some hI
 ·obtain ⟨b,rfl,h2⟩:=hr
  rw [h2]
theorem Z0g {σ ρ:Type}{f:σ→Option (Ctl ρ σ)}{s s':σ}{n:Nat}(h:f s=some (.go s')):whileL f (n+1) s=whileL f n s':=by
 rw [whileL,h]
theorem Q1c {σ ρ:Type}{f:σ→Option (Ctl ρ σ)}{s:σ}{r:ρ}{n:Nat}(h:f s=some (.ret r)):whileL f (n+1) s=some (.ret r):=by
 rw [whileL,h]
theorem W4a {σ ρ:Type}{f:σ→Option (Ctl ρ σ)}{s s':σ}{n:Nat}(h:f s=some (.brk s')):whileL f (n+1) s=some (.brk s'):=by
 rw [whileL,h]
theorem V4j {lst:List Q3}{v:Q2}(hv:Z1m 10 v){t:X0}{a:Int}{bs:List X3}{k:Nat}(hd:Q9y 300 t)(h:runT 300 t lst v=some (a,bs,k)):Q7e NN t lst v=some (a,bs,(k:Int)):=by
 unfold Q7e
 generalize hf:(fun (s:X0×Int)=>_:X0×Int→Option (Ctl (Int×List X3×Int) (X0×Int)))=f
 have key:∀ (d n:Nat) (t:X0) (c k:Nat),Q9y d t→runT d t lst v=some (a,bs,k)→d≤n→c+d≤300→whileL f n (t,(c:Int))=some (.ret (a,bs,((c+k:Nat):Int))):=by
  intro d
  induction d with
  | zero=>intro n t c k h;exact h.elim
  | succ d ih=>
   intro n t c k hd h hn hc
   obtain ⟨n,rfl⟩:∃ j,n=j+1:=⟨n-1,by omega⟩
   obtain ⟨⟨hd1,hd2,hd3,hd4,hd5⟩,hd6⟩:=hd
   have e1:wadd .i64 (c:Int) 1=((c+1:Nat):Int):=by rw [V9 (by omega) (by omega)];omega
   rw [runT] at h
   split at h
   ·rename_i h2
    rw [U12] at h
    obtain ⟨u,hu,h⟩:=h
    obtain ⟨q,hq,hqq⟩:=Z2o t.branches u
    split at h
    ·rename_i hnone
     rw [hnone] at hqq
     simp only [Option.some.injEq,Prod.mk.injEq] at h hqq
     obtain ⟨rfl,rfl,rfl⟩:=h
     subst hqq
     refine Q1c ?_
     subst hf
     simp only
     rw [if_pos (by rw [Q9];exact h2),Z2n hu]
     simp only [U0]
     rw [hq]
     simp only [U0]
     rw [if_pos (by rw [Z9];omega),e1]
    ·rename_i b hsome
     rw [hsome] at hqq
     obtain ⟨i,rfl,hi⟩:=hqq
     rw [U11] at h
     obtain ⟨r,hr,h⟩:=h
     simp only [Prod.mk.injEq] at h
     obtain ⟨rfl,rfl,rfl⟩:=h
     have hgo:f (t,(c:Int))=some (.go (b.tree,((c+1:Nat):Int))):=by
      subst hf
      simp only
      rw [if_pos (by rw [Q9];exact h2),Z2n hu]
      simp only [U0]
      rw [hq]
      simp only [U0]
      rw [if_neg (by rw [Z9];omega),Q0f hi,e1]
      rfl
     rw [Z0g hgo,ih n b.tree (c+1) r.2.2 (hd6 _ (List.mem_append_left _ (List.mem_map_of_mem (U1 hi)))) hr (by omega) (by omega)]
     congr 4
     omega
   ·rename_i h2
    split at h
    ·rename_i h1
     rw [U12] at h
     obtain ⟨cl,hcl,h⟩:=h
     rw [U12] at h
     obtain ⟨l,hl,h⟩:=h
     split at h
     ·rename_i hg
      simp only [Option.some.injEq,Prod.mk.injEq] at h
      obtain ⟨rfl,rfl,rfl⟩:=h
      refine Q1c ?_
      subst hf
      simp only
      rw [if_neg (by rw [Q9];exact h2),if_pos (by rw [Q9];exact h1),Z3q hv hd1 hl]
      simp only [U0]
      rw [hcl]
      simp only [U0]
      rw [Q75]
      simp only [U0]
      rw [if_pos hg]
      rfl
     ·rename_i hg
      split at h
      ·rename_i el rest hel
       have hgo:f (t,(c:Int))=some (.go (el,(c:Int))):=by
        subst hf
        simp only
        rw [if_neg (by rw [Q9];exact h2),if_pos (by rw [Q9];exact h1),Z3q hv hd1 hl]
        simp only [U0]
        rw [hcl]
        simp only [U0]
        rw [Q75]
        simp only [U0]
        rw [if_neg hg,hel]
        rfl
       rw [Z0g hgo]
       exact ih n el c k (hd6 _ (List.mem_append_right _ (by rw [hel];simp))) h (by omega) (by omega)
      ·cases h
    ·rename_i h1
     simp only [Option.some.injEq,Prod.mk.injEq] at h
     obtain ⟨rfl,rfl,rfl⟩:=h
     refine Q1c ?_
     subst hf
     simp only
     rw [if_neg (by rw [Q9];exact h2),if_neg (by rw [Q9];exact h1)]
     rfl
 rw [show (0:Int)=((0:Nat):Int) from rfl,key 300 NN t 0 k hd h (by decide) (by omega)]
 simp
def opT:Nat→X0→Prop
 | 0,_=>False
 | d+1,t=>(t.op=0∨t.op=1∨t.op=2)∧∀ x∈Q57 t,opT d x
theorem W41 {P:Z1→X0→Prop} : ∀ {bs xs:List Z1},brsR P bs xs→∀ x∈xs,∃ b∈bs,P b x.tree
 | [],[],_,x,hx=>by cases hx
 | [],_::_,e,_,_=>e.elim
 | _::_,[],e,_,_=>e.elim
 | b::bs,y::ys,⟨⟨_,_,_,e4⟩,e5⟩,x,hx=>by
  rcases U8.1 hx with rfl | hx
  ·exact ⟨b,by simp,e4⟩
  ·obtain ⟨b',h1,h2⟩:=W41 e5 x hx
   exact ⟨b',by simp [h1],h2⟩
theorem V3j {w:List Q4}{lst:List Q3}{pick:Int} : ∀ (d:Nat) (t:X0) (rows:List Grow) (cols:List Z7),Q8x w lst pick d t rows cols→opT d t:=by
 intro d
 induction d with
 | zero=>intro t rows cols h;exact h.elim
 | succ d ih=>
  intro t rows cols h
  cases rows with
  | nil=>
   simp only [Q8x] at h
   subst h
   exact ⟨.inl rfl,fun x hx=>by simp [Q57,zT] at hx⟩
  | cons r0 rest=>
   simp only [Q8x] at h
   cases hp:Z12 w (r0::rest) cols pick with
   | none=>
    rw [hp] at h
    simp only at h
    obtain ⟨h1,h2,h3,h4,h5,cl,h6,h7⟩:=h
    refine ⟨.inr (.inl h1),fun x hx=>?_⟩
    unfold Q57 at hx
    rw [h5] at hx
    rcases h7 with ⟨_,h7⟩ | ⟨_,el,h8,h9⟩
    ·simp [h7] at hx
    ·simp only [h8,List.map_nil,List.nil_append,List.mem_singleton] at hx
     subst hx
     exact ih _ _ _ h9
   | some k=>
    rw [hp] at h
    simp only at h
    obtain ⟨col,h1,h2,h3,h4,h5,h6,h7⟩:=h
    refine ⟨.inr (.inr h2),fun x hx=>?_⟩
    unfold Q57 at hx
    rw [h6,List.append_nil,U10] at hx
    obtain ⟨b,hb,rfl⟩:=hx
    obtain ⟨b',_,hb'⟩:=W41 h7 b hb
    exact ih _ _ _ hb'
theorem W6h (code:List Int)(hb:∀ x∈code,0≤x∧x≤255):Ret (Q49 NN code) (fun a=>a.1∈Q0r∧a.2.1∈tys a.1):=by
 unfold Q49
 refine Ret.bind (W2t code hb) (fun r hr=>?_)
 obtain ⟨hr,hp0⟩:=hr
 refine Ret.bind (X3e (hr.le (by omega))) (fun a ha=>?_)
 obtain ⟨h1,h2,h3,h4,h5,h6,_⟩:=ha
 have hr1:ROk a.2.2.2.2 900000:=ROk.nx (c:=4000) (hr.le (by omega)) h5
 refine Ret.bind (Z7o (hr1.le (by omega)) a.2.2.1 (by omega) (fun c hc=>by have:=Z7c (ww h1) h2 (h3 c hc);omega)) (fun b hb=>?_)
 have hr2:ROk b.2 800000:=ROk.nx (c:=10) (hr1.le (by omega)) hb.2
 refine Ret.bind (Z0n (hr2.le (by omega)) [0,1,2,0,3] (by simp) (by simp)) (fun c hc=>?_)
 have hr3:ROk c.2 700000:=ROk.nx (c:=1) (hr2.le (by omega)) hc.2
 have hp:c.2.p≤5000:=by
  have e1:=h5.ge
  have e2:=hb.2.ge
  have e3:=hc.2.ge
  omega
 refine Ret.bind (X3t (hr3.le (by omega)) hp (Z45 (by omega) _ h6)) (fun d _=>.some ⟨h1,h2⟩)
theorem V4g {w:List Q4}{lst:List Q3}{cols:List Z7}{pick:Int}{r0:Grow}{rest:List Grow}(hp:Z12 w (r0::rest) cols pick=none)(h0:RowC w lst cols r0):∀ q∈r0.pats,q=anyP:=fun q hq=>by
 obtain ⟨j,hj⟩:=List.mem_iff_getElem?.1 hq
 have hjl:=(List.getElem?_eq_some_iff.1 hj).1
 have hlen:=h0.len
 have hany:Z06 (r0::rest) j=true:=Z0c.1 hp j (by omega)
 have this:(W1 r0 j).op=1:=of_decide_eq_true hany
 have hq2:W1 r0 j=q:=by unfold W1;rw [hj];rfl
 have hc:cols[j]?=some (cols[j]'(by omega)):=by simp
 have hpc:=(h0.at hc).2
 rw [hq2] at this hpc
 exact X2d (Q00 hpc.1) this
def Z20 (w:List Q4):Nat→Q7→Q2→Prop
 | 0,_,_=>False
 | d+1,t,v=>(v.ctor = -2∧v.n=0∧v.kids=[])∨(v.ctor≠-2∧if t.data = -1 then v.ctor = -1∧0≤v.n∧v.n≤9∧v.kids=[] else v.n=0∧v.ctor∈W9 w t∧v.kids.length=(Q09 w t v.ctor).length∧∀ (j:Nat) (a:Q7) (x:Q2),(Q09 w t v.ctor)[j]?=some a→v.kids[j]?=some x→Z20 w d a x)
def Q6s:Q2→List Int→Option Q2
 | v,[]=>some v
 | v,i::path=>if v.ctor = -2 then some v else (idx v.kids i).bind fun u=>Q6s u path
theorem X3r:∀ (path:List Int) (v:Q2) (i:Int),Q6s v (path++[i])=(Q6s v path).bind fun u=>if u.ctor = -2 then some u else idx u.kids i
 | [],v,i=>by
  simp only [List.nil_append,Q6s,U0]
  split
  ·rfl
  ·cases idx v.kids i<;>rfl
 | j::path,v,i=>by
  simp only [List.cons_append,Q6s]
  by_cases h:v.ctor = -2
  ·rw [if_pos h,if_pos h]
   simp only [U0]
   rw [if_pos h]
  ·rw [if_neg h,if_neg h]
   cases idx v.kids j with
   | none=>rfl
   | some u=>simpa using X3r path u i
def runP:Nat→X0→List Q3→Q2→Option (Int×List Int×Bool×List (List Int))
 | 0,_,_,_=>none
 | d+1,t,lst,v=>
  if t.op=2 then (Q6s v t.path).bind fun u=>if u.ctor = -2 then some (-1,t.path,true,[]) else match t.branches.find? (fun b=>W0 b u) with
   | none=>some (-1,[],false,[t.path])
   | some b=>(runP d b.tree lst v).map fun r=>(r.1,r.2.1,r.2.2.1,t.path::r.2.2.2)
  else if t.op=1 then (idx lst t.clause).bind fun c=>if c.guard.op=0 then some (t.clause,[],false,[]) else match t.binds.find? (fun b=>decide (b.var=c.guard.var)) with
   | none=>none
   | some b=>(Q6s v b.path).bind fun u=>if u.ctor = -2 then some (-1,b.path,true,[]) else if u.ctor = -1 then
     (if J8 c.guard [⟨c.guard.var,u⟩]=true then some (t.clause,[],false,[b.path]) else match t.else_ with
      | el::_=>(runP d el lst v).map fun r=>(r.1,r.2.1,r.2.2.1,b.path::r.2.2.2)
      | []=>none)
    else none
  else some (-1,[],false,[])
def UsP (w:List Q4)(v:Q2)(cols:List Z7):Prop:=∀ c∈cols,∃ (u:Q2) (e:Nat),Q6s v c.path=some u∧Z20 w e c.t u
theorem V0q {w:List Q4}{e:Nat}{t:Q7}{u:Q2}(h:Z20 w e t u)(h2:u.ctor≠-2)(hd:t.data≠-1){i:Nat}{a:Q7}(ha:(Q09 w t u.ctor)[i]?=some a):∃ x e',idx u.kids (i:Int)=some x∧Z20 w e' a x:=by
 cases e with
 | zero=>exact h.elim
 | succ e=>
  rw [Z20] at h
  rcases h with h | ⟨_,h⟩
  ·exact absurd h.1 h2
  ·rw [if_neg hd] at h
   obtain ⟨_,_,hl,hk⟩:=h
   have hil:=(List.getElem?_eq_some_iff.1 ha).1
   have hx:u.kids[i]?=some (u.kids[i]'(by omega)):=by simp
   exact ⟨_,e,Q0f hx,hk i a _ ha hx⟩
theorem X8q {w:List Q4}{e:Nat}{t:Q7}{u:Q2}(h:Z20 w e t u)(hd:t.data = -1):u.ctor = -2∨u.ctor = -1:=by
 cases e with
 | zero=>exact h.elim
 | succ e=>
  rw [Z20,if_pos hd] at h
  rcases h with h | ⟨_,h,_⟩
  ·exact .inl h.1
  ·exact .inr h
theorem X9h {w:List Q4}{v u:Q2}{e:Nat}{col:Z7}(hu:Q6s v col.path=some u)(hg:Z20 w e col.t u)(h2:u.ctor≠-2){b:Z1}(hB:BrC w col.t b)(hf:W0 b u=true):UsP w v (V6 w col b):=fun c hc=>by
 unfold V6 at hc
 split at hc
 ·cases hc
 ·rename_i hne
  have hd:col.t.data≠-1:=fun hd=>hne (hB.int hd)
  obtain ⟨i,hi⟩:=List.getElem?_of_mem hc
  rw [List.getElem?_mapIdx,U11] at hi
  obtain ⟨a,ha,rfl⟩:=hi
  simp only [W0,Bool.and_eq_true,decide_eq_true_eq] at hf
  rw [hf.1] at ha
  obtain ⟨x,e',hx,hgx⟩:=V0q hg h2 hd ha
  exact ⟨x,e',by rw [X3r,hu];simp only [U0];rw [if_neg h2,hx],hgx⟩
theorem V1c {w:List Q4}{cols:List Z7}{k:Nat}{col:Z7}{b:Z1}{c:Z7}(hc:c∈Q5t cols k (V6 w col b)):c∈cols∨c∈V6 w col b:=by
 unfold Q5t at hc
 rcases List.mem_append.1 hc with hc | hc
 ·rcases List.mem_append.1 hc with hc | hc
  ·exact .inl (List.mem_of_mem_take hc)
  ·exact .inr hc
 ·exact .inl (List.mem_of_mem_drop hc)
theorem V3f {w:List Q4}{v u:Q2}{cols:List Z7}(h:UsP w v cols){col:Z7}{e:Nat}(hu:Q6s v col.path=some u)(hg:Z20 w e col.t u)(h2:u.ctor≠-2){k:Nat}{b:Z1}(hB:BrC w col.t b)(hf:W0 b u=true):UsP w v (Q5t cols k (V6 w col b)):=fun c hc=>by
 rcases V1c hc with hc | hc
 ·exact h c hc
 ·exact X9h hu hg h2 hB hf c hc
def hasI (w:List Q4):Nat→Q7→Q0→Int→Prop
 | 0,_,_,_=>False
 | d+1,t,p,x=>((p.op=2∨p.op=6)∧p.var=x∧t=tI)∨∃ (j:Nat) (a:Q7) (q:Q0),(V5 w t p)[j]?=some a∧p.kids[j]?=some q∧hasI w d a q x
theorem V5p {w:List Q4}{d:Nat}{t:Q7}{x:Int} : ¬hasI w d t anyP x:=by
 cases d with
 | zero=>exact id
 | succ d=>
  rintro (⟨h,_⟩ | ⟨j,a,q,_,h,_⟩)
  ·simp [anyP] at h
  ·simp [anyP] at h
def GrdR (w:List Q4)(v:Q2)(lst:List Q3)(cols:List Z7)(r:Grow):Prop:=
 ∀ cl,lst[r.clause.toNat]?=some cl→cl.guard.op≠0→(∃ b∈r.binds,b.var=cl.guard.var∧∃ u,Q6s v b.path=some u∧(u.ctor = -2∨u.ctor = -1))∨∃ x∈cols.zip r.pats,∃ d,hasI w d x.1.t x.2 cl.guard.var
theorem X01 {w:List Q4}{v u:Q2}{path:List Int}(hu:Q6s v path=some u){t:Q7}{e:Nat}(hg:Z20 w e t u){x:Int} : ∀ (d:Nat) (p:Q0) (k:Nat),hasI w d t p x→(∃ b∈(Q2e k p path).1,b.var=x∧∃ u,Q6s v b.path=some u∧(u.ctor = -2∨u.ctor = -1))∨∃ d',hasI w d' t (Q2e k p path).2 x
 | 0,p,k,h=>h.elim
 | d+1,p,0,h=>.inr ⟨d+1,h⟩
 | d+1,p,k+1,h=>by
  rw [Q2v]
  by_cases h6:p.op=6
  ·rw [if_pos h6]
   rcases h with ⟨_,hv,ht⟩ | ⟨j,a,q,ha,hq,h⟩
   ·refine .inl ⟨⟨p.var,path⟩,by simp,hv,u,hu,X8q hg (by rw [ht];rfl)⟩
   ·have hk:V5 w t p=[t]:=by unfold V5;rw [if_neg (by omega),if_neg (by omega),if_pos h6]
    rw [hk] at ha
    have hj:j=0:=by
     have:=(List.getElem?_eq_some_iff.1 ha).1
     simp at this
     exact this
    subst hj
    simp only [List.getElem?_cons_zero,Option.some.injEq] at ha
    subst ha
    have hhd:p.kids.headD anyP=q:=by
     cases hks:p.kids with
     | nil=>rw [hks] at hq;cases hq
     | cons y l=>rw [hks] at hq;simpa using hq
    rw [hhd]
    rcases X01 hu hg d q k h with ⟨b,hb,h1,h2⟩ | h
    ·exact .inl ⟨b,by simp [hb],h1,h2⟩
    ·exact .inr h
  ·rw [if_neg h6]
   by_cases h2:p.op=2
   ·rw [if_pos h2]
    rcases h with ⟨_,hv,ht⟩ | ⟨j,a,q,ha,hq,h⟩
    ·refine .inl ⟨⟨p.var,path⟩,by simp,hv,u,hu,X8q hg (by rw [ht];rfl)⟩
    ·have hk:V5 w t p=[]:=by unfold V5;rw [if_neg (by omega),if_neg (by omega),if_neg h6]
     rw [hk] at ha
     cases ha
   ·rw [if_neg h2]
    exact .inr ⟨d+1,h⟩
theorem V5r {w:List Q4}(hw:WW w)(hS:WS w){v u:Q2}{lst:List Q3}{cols:List Z7}{left:Nat}(hC:ColC w cols left){r:Grow}(hr:RowC w lst cols r){k:Nat}{col:Z7}(hk:cols[k]?=some col){e:Nat}(hu:Q6s v col.path=some u)(hg:Z20 w e col.t u)(h2:u.ctor≠-2){b:Z1}(hB:BrC w col.t b)(hf:W0 b u=true)(hfit:Q5s (W1 r k) b=true)(h:GrdR w v lst cols r):GrdR w v lst (Q5t cols k (V6 w col b)) (Q8q r k (V6 w col b)):=fun cl hcl h0=>by
 have hct:=hC.ty col (U1 hk)
 obtain ⟨h1,hp⟩:=hr.at hk
 obtain ⟨k1,k2,_⟩:=W31 hS hct hp hB hfit rfl
 have hA:=X9h hu hg h2 hB hf
 rcases h cl hcl h0 with ⟨b0,hb0,e1,e2⟩ | ⟨x,hx,d,hd⟩
 ·exact .inl ⟨b0,List.mem_append_left _ hb0,e1,e2⟩
 ·obtain ⟨i,hi⟩:=List.getElem?_of_mem hx
  rw [List.getElem?_zip_eq_some] at hi
  have hlen:=hr.len
  have hzl:(zipS (Q2u (W1 r k) (V6 w col b)) (V6 w col b)).length=(V6 w col b).length:=by rw [zipS,List.length_zipWith,k1,Nat.min_self]
  have hzip:(Q5t cols k (V6 w col b)).zip (Q8q r k (V6 w col b)).pats=(cols.zip r.pats).take k++(V6 w col b).zip ((zipS (Q2u (W1 r k) (V6 w col b)) (V6 w col b)).map (·.2))++(cols.zip r.pats).drop (k+1):=by
   simp only [Q8q,Q5t]
   rw [W7j (by rw [U6,U6,hlen]) (by rw [U7,hzl]),X4e,X4f]
  by_cases hik:i=k
  ·subst hik
   rw [hk] at hi
   have hc1:x.1=col:=(Option.some.inj hi.1).symm
   have hp2:x.2=W1 r i:=by
    unfold W1
    rw [hi.2];rfl
   rw [hc1,hp2] at hd
   have hop:(W1 r i).op=4∨(W1 r i).op=1∨(W1 r i).op=3:=by have:=hp.2.2;omega
   cases d with
   | zero=>exact hd.elim
   | succ d=>
    rcases hd with ⟨hd,_⟩ | ⟨j,a,q,ha,hq,hd⟩
    ·omega
    ·have h4:(W1 r i).op=4:=by
      rcases hop with h | h | h
      ·exact h
      ·have:V5 w col.t (W1 r i)=[]:=by unfold V5;rw [if_neg (by omega),if_neg (by omega),if_neg (by omega)]
       rw [this] at ha;cases ha
      ·have:V5 w col.t (W1 r i)=[]:=by unfold V5;rw [if_neg (by omega),if_neg (by omega),if_neg (by omega)]
       rw [this] at ha;cases ha
     have hks:Q2u (W1 r i) (V6 w col b)=(W1 r i).kids:=by unfold Q2u;rw [if_neg (by omega)]
     have hctor:(W1 r i).ctor=b.ctor:=by
      unfold Q5s at hfit
      rw [if_neg (by omega),if_neg (by omega)] at hfit
      exact of_decide_eq_true hfit
     have hkT:V5 w col.t (W1 r i)=Q09 w col.t b.ctor:=by unfold V5;rw [if_pos h4,hctor]
     rw [hkT] at ha
     have hne:b.ctor≠-1:=fun hne=>by
      rw [hks] at k1
      have hl1:=(List.getElem?_eq_some_iff.1 hq).1
      rw [k1,V6,if_pos hne] at hl1
      simp at hl1
     have hai:(V6 w col b)[j]?=some ⟨col.path++[(j:Int)],a⟩:=Z40 hne ha
     rw [hks] at hzip hzl k1
     obtain ⟨uj,ej,hpj,hgj⟩:=hA _ (U1 hai)
     rcases X01 hpj hgj d q 12 hd with ⟨b1,hb1,g1,g2⟩ | ⟨d',hd'⟩
     ·refine .inl ⟨b1,?_,g1,g2⟩
      simp only [Q8q,hks]
      refine List.mem_append_right _ (List.mem_flatMap.2 ⟨_,U1 (Z44 hq hai),hb1⟩)
     ·refine .inr ⟨(⟨col.path++[(j:Int)],a⟩,(Q7a q (col.path++[(j:Int)])).2),?_,d',hd'⟩
      rw [hzip]
      refine List.mem_append_left _ (List.mem_append_right _ (U1 (i:=j) ?_))
      rw [List.getElem?_zip_eq_some]
      exact ⟨hai,by rw [List.getElem?_map,Z44 hq hai];rfl⟩
  ·refine .inr ⟨x,?_,d,hd⟩
   rw [hzip]
   have hz:(cols.zip r.pats)[i]?=some x:=by rw [List.getElem?_zip_eq_some];exact hi
   by_cases hlt:i<k
   ·refine List.mem_append_left _ (List.mem_append_left _ (U1 (i:=i) ?_))
    rw [List.getElem?_take_of_lt hlt,hz]
   ·refine List.mem_append_right _ (U1 (i:=i-(k+1)) ?_)
    rw [List.getElem?_drop,show k+1+(i-(k+1))=i by omega,hz]
theorem X80:∀ {l:List Q1} {x y:Q1},(l.map (·.var)).Nodup→x∈l→y∈l→x.var=y.var→x=y
 | [],x,y,_,hx,_,_=>by cases hx
 | a::l,x,y,hn,hx,hy,e=>by
  rw [List.map_cons,List.nodup_cons] at hn
  have no:∀ z,z∈l→z.var=a.var→False:=fun z hz ez=>hn.1 (by rw [←ez];exact List.mem_map_of_mem hz)
  rcases U8.1 hx with h1 | h1
  ·rcases U8.1 hy with h2 | h2
   ·rw [h1,h2]
   ·exact (no y h2 (by rw [←e,h1])).elim
  ·rcases U8.1 hy with h2 | h2
   ·exact (no x h1 (by rw [e,h2])).elim
   ·exact X80 hn.2 h1 h2 e
theorem V5s {w:List Q4}{v:Q2}{lst:List Q3}{cols:List Z7}{r:Grow}(hr:RowC w lst cols r)(ha:∀ q∈r.pats,q=anyP)(h:GrdR w v lst cols r){cl:Q3}(hcl:lst[r.clause.toNat]?=some cl)(h0:cl.guard.op≠0) :
  ∃ b u,(Z0i r.binds).find? (fun b=>decide (b.var=cl.guard.var))=some b∧Q6s v b.path=some u∧(u.ctor = -2∨u.ctor = -1):=by
 obtain ⟨n1,n2,_⟩:=hr.binds
 rcases h cl hcl h0 with ⟨b,hb,e1,u,hu,hc⟩ | ⟨x,hx,d,hd⟩
 ·have hm:∀ y,y∈Z0i r.binds↔y∈r.binds:=fun y=>by
   unfold Z0i
   simp only [List.mem_flatMap,List.mem_range,List.mem_filter,decide_eq_true_eq]
   constructor
   ·rintro ⟨_,_,h,_⟩;exact h
   ·intro h
    have:=n2 y h
    exact ⟨y.var.toNat,by omega,h,by omega⟩
  cases hf:(Z0i r.binds).find? (fun b=>decide (b.var=cl.guard.var)) with
  | none=>
   rw [List.find?_eq_none] at hf
   exact absurd (decide_eq_true e1) (by simpa using hf b ((hm b).2 hb))
  | some y=>
   have hy:=(hm y).1 (List.mem_of_find?_eq_some hf)
   have hv:=List.find?_some hf
   simp only [decide_eq_true_eq] at hv
   have:y=b:=X80 n1 hy hb (by rw [hv,e1])
   subst this
   exact ⟨y,u,rfl,hu,hc⟩
 ·have hq:=ha x.2 (List.of_mem_zip hx).2
  rw [hq] at hd
  exact absurd hd V5p
theorem X65 {P:Z1→X0→Prop} : ∀ {bs xs:List Z1},brsR P bs xs→∀ x∈xs,∃ b∈bs,x.ctor=b.ctor∧x.n=b.n∧x.m=b.m∧P b x.tree
 | [],[],_,x,hx=>by cases hx
 | [],_::_,e,_,_=>e.elim
 | _::_,[],e,_,_=>e.elim
 | b::bs,y::ys,⟨⟨e1,e2,e3,e4⟩,e5⟩,x,hx=>by
  rcases U8.1 hx with rfl | hx
  ·exact ⟨b,by simp,e1,e2,e3,e4⟩
  ·obtain ⟨b',h1,h2⟩:=X65 e5 x hx
   exact ⟨b',by simp [h1],h2⟩
theorem W4m {w:List Q4}(hww:w∈Q0r){lst:List Q3}{pick:Int}{v:Q2} : ∀ (d:Nat) (t:X0) (rows:List Grow) (cols:List Z7),Q8x w lst pick d t rows cols→(∀ r∈rows,RowC w lst cols r)→ColC w cols d→UsP w v cols→(∀ r∈rows,GrdR w v lst cols r)→∃ r,runP d t lst v=some r:=by
 have hw:=ww hww
 have hS:=ws hww
 intro d
 induction d with
 | zero=>intro t rows cols h;exact h.elim
 | succ d ih=>
  intro t rows cols h hR hC hV hG
  have hCd:ColC w cols d:=⟨hC.ty,fun c hc=>by have:=hC.path c hc;omega,by have:=hC.len;omega⟩
  cases rows with
  | nil=>
   simp only [Q8x] at h
   subst h
   exact ⟨(-1,[],false,[]),rfl⟩
  | cons r0 rest=>
   simp only [Q8x] at h
   have h0:=hR r0 (by simp)
   cases hp:Z12 w (r0::rest) cols pick with
   | none=>
    rw [hp] at h
    simp only at h
    obtain ⟨h1,h2,h3,h4,h5,cl,h6,h7⟩:=h
    have hidx:idx lst t.clause=some cl:=by
     rw [h2]
     exact Z2p h0.c0 h6
    rw [runP,if_neg (by omega),if_pos h1,hidx]
    simp only [U0]
    by_cases hg0:cl.guard.op=0
    ·rw [if_pos hg0]
     exact ⟨_,rfl⟩
    ·rw [if_neg hg0]
     obtain ⟨b,u,e1,e2,e3⟩:=V5s h0 (V4g hp h0) (hG r0 (by simp)) h6 hg0
     rw [h3,e1]
     simp only
     rw [e2]
     simp only [U0]
     by_cases hu:u.ctor = -2
     ·rw [if_pos hu]
      exact ⟨_,rfl⟩
     ·rw [if_neg hu,if_pos (by omega)]
      split
      ·exact ⟨_,rfl⟩
      ·rcases h7 with ⟨h7,_⟩ | ⟨_,el,h8,h9⟩
       ·exact absurd h7 hg0
       ·rw [h8]
        simp only
        obtain ⟨r,hr⟩:=ih el (Q4q (r0::rest) r0.clause) cols h9 (fun r hr=>hR r (Z1w hr)) hCd hV (fun r hr=>hG r (Z1w hr))
        rw [hr]
        exact ⟨_,rfl⟩
   | some k=>
    rw [hp] at h
    simp only at h
    obtain ⟨col,h1,h2,h3,h4,h5,h6,h7⟩:=h
    obtain ⟨u,e,hu,hg⟩:=hV col (U1 h1)
    rw [runP,if_pos h2,h5,hu]
    simp only [U0]
    by_cases hh:u.ctor = -2
    ·rw [if_pos hh]
     exact ⟨_,rfl⟩
    ·rw [if_neg hh]
     cases hf:t.branches.find? (fun b=>W0 b u) with
     | none=>exact ⟨_,rfl⟩
     | some x=>
      simp only
      have hct:=hC.ty col (U1 h1)
      obtain ⟨b,hb,e1,e2,e3,f4⟩:=X65 h7 x (List.mem_of_find?_eq_some hf)
      have hB:=V6o (wl hww) hct b hb
      have hfx:=List.find?_some hf
      have hfb:W0 b u=true:=by
       unfold W0 at hfx ⊢
       rw [←e1,←e2,←e3]
       exact hfx
      have hRn:∀ r∈Q63 (r0::rest) k b (V6 w col b),RowC w lst (Q5t cols k (V6 w col b)) r:=fun r hr=>by
       unfold Q63 at hr
       obtain ⟨r1,g1,rfl⟩:=U10.1 hr
       obtain ⟨g2,g3⟩:=List.mem_filter.1 g1
       exact RowC.next hw hS hC (hR r1 g2) h1 hB g3
      have hGn:∀ r∈Q63 (r0::rest) k b (V6 w col b),GrdR w v lst (Q5t cols k (V6 w col b)) r:=fun r hr=>by
       unfold Q63 at hr
       obtain ⟨r1,g1,rfl⟩:=U10.1 hr
       obtain ⟨g2,g3⟩:=List.mem_filter.1 g1
       exact V5r hw hS hC (hR r1 g2) h1 hu hg hh hB hfb g3 (hG r1 g2)
      obtain ⟨r,hr⟩:=ih x.tree _ _ f4 hRn (ColC.next hw hC h1 hB) (V3f hV hu hg hh hB hfb) hGn
      rw [hr]
      exact ⟨_,rfl⟩
theorem V0n {w:List Q4} : ∀ (d:Nat) (t:Q7) (p:Q0) (x:Int),hasI w d t p x→hasI w (d+1) t p x:=by
 intro d
 induction d with
 | zero=>intro t p x h;exact h.elim
 | succ d ih=>
  intro t p x h
  rcases h with h | ⟨j,a,q,h1,h2,h3⟩
  ·exact .inl h
  ·exact .inr ⟨j,a,q,h1,h2,ih a q x h3⟩
theorem W8a {w:List Q4}{x:Int} : ∀ (d:Nat) (t:Q7) (p q:Q0),Q0e w d t p=true→linD w d t p=true→q∈Z3 d p→⟨x,tI⟩∈Q1n w d t p→hasI w d t q x:=by
 intro d
 induction d with
 | zero=>intro t p q h;cases h
 | succ d ih=>
  intro t p q g l h hv
  have hn:=Q00 g
  have ho:=Q0l hn
  have hll:=l
  simp only [linD,Bool.and_eq_true,List.all_eq_true] at hll
  rcases Z64 h with ⟨h5,y,hy,hq⟩ | ⟨h5,ks,rfl,hl,hk⟩
  ·obtain ⟨a,b,hab,ht⟩:=kid0 h5 ho.2
   have ga:=Y0 g (k:=0) (a:=t) (q:=a) (by rw [ht];rfl) (by rw [hab];rfl)
   have gb:=Y0 g (k:=1) (a:=t) (q:=b) (by rw [ht];rfl) (by rw [hab];rfl)
   have la:=hll.1 (t,a) (by rw [ht,hab];simp)
   have lb:=hll.1 (t,b) (by rw [ht,hab];simp)
   have hal:=hll.2
   rw [if_pos h5] at hal
   have k0:kv w d t p 0=Q1n w d t a:=by simp [kv,ht,hab]
   have k1:kv w d t p 1=Q1n w d t b:=by simp [kv,ht,hab]
   rw [k0,k1] at hal
   have hvv:Q1n w (d+1) t p=Q1n w d t a:=by simp [Q1n,ownV,h5,ht,hab]
   rw [hvv] at hv
   rw [hab] at hy
   simp only [U8,List.not_mem_nil,or_false] at hy
   rcases hy with rfl | rfl
   ·exact V0n d t q x (ih t _ q ga la hq hv)
   ·refine V0n d t q x (ih t _ q gb lb hq ?_)
    simp only [Z0z,Bool.and_eq_true,List.all_eq_true,decide_eq_true_eq] at hal
    exact hal.2 _ hv
  ·rw [Q1n,if_neg h5,List.mem_append] at hv
   rcases hv with hv | hv
   ·unfold ownV at hv
    split at hv
    ·rename_i hop
     simp only [List.mem_singleton,Z4.mk.injEq] at hv
     exact .inl ⟨hop,hv.1.symm,hv.2.symm⟩
    ·cases hv
   ·rw [List.take_of_length_le (by simp [ho.2])] at hv
    obtain ⟨z,hz,hv⟩:=List.mem_flatMap.1 hv
    obtain ⟨j,hj⟩:=List.getElem?_of_mem hz
    obtain ⟨h3,h4⟩:=List.getElem?_zip_eq_some.1 hj
    have hjl:=(List.getElem?_eq_some_iff.1 h4).1
    have hkj:ks[j]?=some (ks[j]'(by omega)):=by simp
    exact .inr ⟨j,z.1,_,h3,hkj,ih z.1 z.2 _ (Y0 g h3 h4) (hll.1 z hz) (hk j _ z.2 hkj h4) hv⟩
theorem V0p {w:List Q4}{t:Q7}{l:List Q3}(hcl:Q2m w t l=true){v:Q2}{e:Nat}(hv:Z20 w e t v):∀ r∈Q2y l l.length,GrdR w v l [⟨[],t⟩] r:=fun r hr cl hc h0=>by
 obtain ⟨k,c,q,h1,h2,rfl⟩:=Z7h hr
 have e1:((Q2r k q).clause).toNat=k:=rfl
 rw [e1,h1] at hc
 have hcc:=Option.some.inj hc
 subst hcc
 simp only [Q2m,Bool.and_eq_true,decide_eq_true_eq,List.all_eq_true] at hcl
 have hcb:=hcl.2 c (U1 h1)
 simp only [Q8t,Bool.and_eq_true] at hcb
 obtain ⟨g1,_,g3⟩:=Q5u hcb.1
 have hg:=hcb.2
 unfold X17 at hg
 rw [if_neg h0] at hg
 simp only [Bool.and_eq_true,decide_eq_true_eq] at hg
 have hh:=W8a 10 t c.pat q g1 g3 h2 hg.2
 rcases X01 (path:=[]) (show Q6s v []=some v from rfl) hv 10 q 12 hh with h | ⟨d',h⟩
 ·exact .inl h
 ·refine .inr ⟨(⟨[],t⟩,(Q7a q []).2),?_,d',h⟩
  simp [Q2r]
theorem X7w {w:List Q4}(hww:w∈Q0r){t:Q7}(ht:t∈tys w){l:List Q3}{pick:Int}{tr:X0}(h:W2 NN w t l pick=some (tr,true)){v:Q2}{e:Nat}(hv:Z20 w e t v):∃ r,runP 300 tr l v=some r:=by
 have hc:=Z90 hww ht h
 simp only [canC,Bool.and_eq_true] at hc
 obtain ⟨hll,hP⟩:=Z5c hc.1.1
 exact W4m hww 300 tr _ _ ((Q9d hww ht l pick).tr tr h) (X0c (ww hww) hP hll) (X4j ht) (fun c hc=>by
  simp only [List.mem_singleton] at hc
  subst hc
  exact ⟨v,e,rfl,hv⟩) (V0p hc.1.1 hv)
def chkH (w:List Q4):Bool:=(tys w).all fun t=>(W9 w t).all fun k=>decide (0≤k)
theorem Y9q:Q0r.all chkH=true:=by kernel_rfl
theorem W3x {w:List Q4}(hww:w∈Q0r){t:Q7}(ht:t∈tys w){k:Int}(hk:k∈W9 w t):0≤k:=by
 have h:=List.all_eq_true.1 Y9q w hww
 exact of_decide_eq_true (List.all_eq_true.1 (List.all_eq_true.1 h t ht) k hk)
def Z8b:Nat→Q2→Prop
 | 0,_=>False
 | d+1,v=>v.ctor≠-2∧∀ x∈v.kids,Z8b d x
theorem X3z {w:List Q4}(hww:w∈Q0r):∀ (d:Nat) (t:Q7) (v:Q2),t∈tys w→Q3u w d t v→Z8b d v:=by
 intro d
 induction d with
 | zero=>intro t v _ h;exact h.elim
 | succ d ih=>
  intro t v ht h
  rw [Q3u] at h
  split at h
  ·refine ⟨by rw [h.1];decide,fun x hx=>?_⟩
   rw [h.2.2.2] at hx
   cases hx
  ·obtain ⟨_,hc,hl,hk⟩:=h
   have:=W3x hww ht hc
   refine ⟨by omega,fun x hx=>?_⟩
   obtain ⟨j,hj⟩:=List.getElem?_of_mem hx
   have hjl:=(List.getElem?_eq_some_iff.1 hj).1
   have ha:(Q09 w t v.ctor)[j]?=some ((Q09 w t v.ctor)[j]'(by omega)):=by simp
   exact ih _ x (((ww hww).ty t ht).at_ _ hc _ (U1 ha)) (hk j _ x ha hj)
theorem Z1p:∀ {path:List Int} {d:Nat} {v u:Q2},Z8b d v→Q6s v path=some u→Q69 v path=some u∧∃ e,Z8b e u
 | [],d,v,u,hv,h=>by
  rw [Q6s,Option.some.injEq] at h
  subst h
  exact ⟨rfl,d,hv⟩
 | i::path,d,v,u,hv,h=>by
  cases d with
  | zero=>exact hv.elim
  | succ d=>
   rw [Q6s,if_neg hv.1,U12] at h
   obtain ⟨x,hx,h⟩:=h
   rw [Q69,hx]
   exact Z1p (hv.2 x (by unfold idx at hx;split at hx;exact U1 hx;cases hx)) h
theorem Z5r {v:Q2}{x:Int} : ∀ {bs:List Q1} {l:List X3},Q1a bs v=some l→∀ {b:Q1},bs.find? (fun b=>decide (b.var=x))=some b→∃ u,Q69 v b.path=some u∧l.find? (fun b=>decide (b.var=x))=some ⟨b.var,u⟩
 | a::bs,l,h,b,hf=>by
  rw [Q1a,U12] at h
  obtain ⟨u,hu,h⟩:=h
  rw [U11] at h
  obtain ⟨m,hm,rfl⟩:=h
  rw [List.find?_cons] at hf ⊢
  by_cases hx:a.var=x
  ·rw [decide_eq_true hx] at hf
   cases hf
   refine ⟨u,hu,?_⟩
   simp only
   rw [decide_eq_true hx]
  ·rw [decide_eq_false hx] at hf
   simp only
   rw [decide_eq_false hx]
   exact Z5r hm hf
theorem W4l {lst:List Q3}{e:Nat}{v:Q2}(hv:Z8b e v):∀ (d:Nat) (t:X0) (a:Int) (bs:List X3) (k:Nat) (r:Int×List Int×Bool×List (List Int)),runT d t lst v=some (a,bs,k)→runP d t lst v=some r→r.1=a∧r.2.1=[]∧r.2.2.1=false:=by
 intro d
 induction d with
 | zero=>intro t a bs k r h;cases h
 | succ d ih=>
  intro t a bs k r h hp
  rw [runT] at h
  rw [runP] at hp
  by_cases h2:t.op=2
  ·rw [if_pos h2,U12] at h hp
   obtain ⟨u,hu,h⟩:=h
   obtain ⟨u',hu',hp⟩:=hp
   obtain ⟨hw1,e',hw2⟩:=Z1p hv hu'
   rw [hu] at hw1
   cases hw1
   have hn:u.ctor≠-2:=by
    cases e' with
    | zero=>exact hw2.elim
    | succ e'=>exact hw2.1
   rw [if_neg hn] at hp
   cases hf:t.branches.find? (fun b=>W0 b u) with
   | none=>
    rw [hf] at h hp
    simp only [Option.some.injEq] at h hp
    subst hp
    cases h
    exact ⟨rfl,rfl,rfl⟩
   | some b=>
    rw [hf] at h hp
    simp only [U11] at h hp
    obtain ⟨x,hx,h⟩:=h
    obtain ⟨y,hy,hp⟩:=hp
    subst hp
    obtain ⟨x1,x2,x3⟩:=x
    have:=ih b.tree _ _ _ y hx hy
    cases h
    exact this
  ·rw [if_neg h2] at h hp
   by_cases h1:t.op=1
   ·rw [if_pos h1,U12] at h hp
    obtain ⟨c,hc,h⟩:=h
    obtain ⟨c',hc',hp⟩:=hp
    rw [hc] at hc'
    cases hc'
    rw [U12] at h
    obtain ⟨l,hl,h⟩:=h
    by_cases hg0:c.guard.op=0
    ·have hg:J8 c.guard l=true:=by simp [J8,hg0]
     rw [if_pos hg] at h
     rw [if_pos hg0] at hp
     cases h;cases hp
     exact ⟨rfl,rfl,rfl⟩
    ·rw [if_neg hg0] at hp
     cases hf:t.binds.find? (fun b=>decide (b.var=c.guard.var)) with
     | none=>rw [hf] at hp;cases hp
     | some b=>
      rw [hf] at hp
      simp only [U12] at hp
      obtain ⟨u,hu,hp⟩:=hp
      obtain ⟨hw1,e',hw2⟩:=Z1p hv hu
      have hn:u.ctor≠-2:=by
       cases e' with
       | zero=>exact hw2.elim
       | succ e'=>exact hw2.1
      rw [if_neg hn] at hp
      obtain ⟨u',hu',hfl⟩:=Z5r hl hf
      rw [hw1] at hu'
      cases hu'
      have hbv:=List.find?_some hf
      simp only [decide_eq_true_eq] at hbv
      have hge:J8 c.guard l=J8 c.guard [⟨c.guard.var,u⟩]:=by
       unfold J8
       rw [hfl]
       simp
      rw [hge] at h
      split at hp
      ·split at hp
       ·rename_i hg
        rw [if_pos hg] at h
        cases h;cases hp
        exact ⟨rfl,rfl,rfl⟩
       ·rename_i hg
        rw [if_neg hg] at h
        cases hel:t.else_ with
        | nil=>rw [hel] at h;cases h
        | cons el rest=>
         rw [hel] at h hp
         simp only [U11] at hp
         obtain ⟨y,hy,rfl⟩:=hp
         exact ih el _ _ _ y h hy
      ·cases hp
   ·rw [if_neg h1] at h hp
    cases h;cases hp
    exact ⟨rfl,rfl,rfl⟩
def Q7i (w:List Q4):Nat→Q7→Q2→Bool
 | 0,_,_=>false
 | d+1,t,v=>if v.ctor = -2 then decide (v.n=0)&&decide (v.kids.length=0) else if t.data = -1 then decide (v.ctor = -1)&&(decide (0≤v.n)&&(decide (v.n≤9)&&decide (v.kids.length=0)))
  else decide (v.n=0)&&(decide (v.ctor∈W9 w t)&&(decide (v.kids.length=(Q09 w t v.ctor).length)&&((Q09 w t v.ctor).zip v.kids).all fun x=>Q7i w d x.1 x.2))
theorem X40 {w:List Q4} : ∀ (d:Nat) (t:Q7) (v:Q2),Q7i w d t v=true↔Z20 w d t v:=by
 intro d
 induction d with
 | zero=>intro t v;simp [Q7i,Z20]
 | succ d ih=>
  intro t v
  rw [Q7i,Z20]
  by_cases hh:v.ctor = -2
  ·rw [if_pos hh]
   simp only [Bool.and_eq_true,decide_eq_true_eq,List.length_eq_zero_iff]
   constructor
   ·exact fun h=>.inl ⟨hh,h.1,h.2⟩
   ·rintro (h | h)
    ·exact h.2
    ·exact absurd hh h.1
  rw [if_neg hh]
  have hl:∀ {X Y:Prop},(X↔Y)→(X↔(v.ctor = -2∧v.n=0∧v.kids=[])∨(v.ctor≠-2∧Y)):=fun h=>by
   rw [h]
   constructor
   ·exact fun h=>.inr ⟨hh,h⟩
   ·rintro (h | h)
    ·exact absurd h.1 hh
    ·exact h.2
  refine hl ?_
  split
  ·simp only [Bool.and_eq_true,decide_eq_true_eq,List.length_eq_zero_iff]
  ·simp only [Bool.and_eq_true,decide_eq_true_eq,List.all_eq_true]
   constructor
   ·rintro ⟨h1,h2,h3,h4⟩
    exact ⟨h1,h2,h3,fun j a x ha hx=>(ih a x).1 (h4 (a,x) (U1 (Q91 ha hx)))⟩
   ·rintro ⟨h1,h2,h3,h4⟩
    refine ⟨h1,h2,h3,fun x hx=>?_⟩
    obtain ⟨j,hj⟩:=List.mem_iff_getElem?.1 hx
    obtain ⟨e1,e2⟩:=List.getElem?_zip_eq_some.1 hj
    exact (ih _ _).2 (h4 j _ _ e1 e2)
def okP (w:List Q4)(d:Nat)(t:Q7)(v:Q2)(c:Nat):Bool:=Q7i w d t v&&decide (c+cntV v≤60)
def Z9w (w:List Q4)(t:Q7)(v:Q2):Bool:=Q7i w 10 t v&&decide (cntV v≤60)
theorem W98 {w:List Q4}{d:Nat}{t:Q7}{v:Q2}{c:Nat}(h:Q7i w d t v=false):okP w d t v c=false:=by simp [okP,h]
theorem Y18 {w:List Q4}(hw:WW w):∀ (d n:Nat) (t:Q7) (v:Q2) (c:Nat),t∈tys w→c≤60→d+2≤n→d≤10→
  Ret (Q0p n w t v (11-(d:Int)) true (c:Int)) (fun r=>r.1=okP w d t v c∧(okP w d t v c=true→r.2=((c+cntV v:Nat):Int))):=by
 intro d
 induction d with
 | zero=>
  intro n t v c ht hc hn hd
  obtain ⟨n,rfl⟩:∃ k,n=k+1:=⟨n-1,by omega⟩
  have hb:okP w 0 t v c=false:=W98 rfl
  unfold Q0p
  refine Ret.ite (fun _=>.some ⟨hb.symm,fun h=>by rw [hb] at h;cases h⟩) (fun _=>?_)
  rw [if_pos (by rw [Z9];omega)]
  exact .some ⟨hb.symm,fun h=>by rw [hb] at h;cases h⟩
 | succ d ih=>
  intro n t v c ht hc hn hd
  obtain ⟨n,rfl⟩:∃ k,n=k+1:=⟨n-1,by omega⟩
  have hT:=hw.ty t ht
  unfold Q0p
  have hc1:wadd .i64 (c:Int) 1=((c+1:Nat):Int):=by rw [V9]<;>omega
  rw [hc1]
  have hpos:1≤cntV v:=by rw [Q8s];omega
  refine Ret.ite (fun hlt=>?_) (fun hle=>?_)
  ·rw [Z9] at hlt
   have hb:okP w (d+1) t v c=false:=by simp only [okP,Bool.and_eq_false_iff,decide_eq_false_iff_not];right;omega
   exact .some ⟨hb.symm,fun h=>by rw [hb] at h;cases h⟩
  rw [W6] at hle
  rw [if_neg (by rw [Z9];omega),if_pos (rfl:(true:Bool)=true)]
  have bad:Q7i w (d+1) t v=false→okP w (d+1) t v c=false:=W98
  refine Ret.ctl (R:=fun r:Bool×Int=>r.1=okP w (d+1) t v c∧(okP w (d+1) t v c=true→r.2=((c+cntV v:Nat):Int))) (B:=fun _:Unit=>v.ctor≠-2∧t.data≠-1∧v.n=0∧v.ctor∈W9 w t) ?_ (fun r hr=>.some hr) (fun s hs=>?_)
  ·refine Ret.ite (fun hh=>?_) (fun hne=>?_)
   ·rw [Q9] at hh
    have hg:Q7i w (d+1) t v=(decide (v.n=0)&&decide (v.kids.length=0)):=by rw [Q7i,if_pos hh]
    refine Ret.ite (fun h1=>?_) (fun h1=>?_)
    ·rw [Q9] at h1
     have hk:Q7i w (d+1) t v=decide (v.kids.length=0):=by rw [hg];simp [h1]
     refine .some ?_
     have h0:v.kids.length=0→cntV v=1:=fun h=>by rw [Q8s,List.eq_nil_of_length_eq_zero h];rfl
     by_cases hz:v.kids.length=0
     ·have e1:okP w (d+1) t v c=true:=by simp only [okP,hk,hz,decide_true,Bool.true_and,decide_eq_true_eq];have:=h0 hz;omega
      rw [e1]
      refine ⟨?_,fun _=>?_⟩
      ·simp only [Q9,lenZ];omega
      ·have:=h0 hz;simp only;omega
     ·have e1:okP w (d+1) t v c=false:=bad (by rw [hk];simp [hz])
      rw [e1]
      refine ⟨?_,fun h=>by cases h⟩
      simp only [X2,lenZ];omega
    ·rw [X2] at h1
     have e1:okP w (d+1) t v c=false:=bad (by rw [hg];simp [h1])
     exact .some ⟨e1.symm,fun h=>by rw [e1] at h;cases h⟩
   rw [X2] at hne
   refine Ret.ite (fun hi=>?_) (fun hi=>?_)
   ·rw [Q9] at hi
    have hg:Q7i w (d+1) t v=(decide (v.ctor = -1)&&(decide (0≤v.n)&&(decide (v.n≤9)&&decide (v.kids.length=0)))):=by rw [Q7i,if_neg hne,if_pos hi]
    refine Ret.ite (fun h1=>?_) (fun h1=>?_)
    ·rw [Q9] at h1
     rw [Q8a]
     simp only [U0]
     refine Ret.ite (fun h2=>?_) (fun h2=>?_)
     ·simp only [Bool.and_eq_true,decide_eq_true_eq] at h2
      have hk:Q7i w (d+1) t v=decide (v.kids.length=0):=by rw [hg];simp [h1,h2.1,h2.2]
      refine .some ?_
      have h0:v.kids.length=0→cntV v=1:=fun h=>by rw [Q8s,List.eq_nil_of_length_eq_zero h];rfl
      by_cases hz:v.kids.length=0
      ·have e1:okP w (d+1) t v c=true:=by simp only [okP,hk,hz,decide_true,Bool.true_and,decide_eq_true_eq];have:=h0 hz;omega
       rw [e1]
       refine ⟨?_,fun _=>?_⟩
       ·simp only [Q9,lenZ];omega
       ·have:=h0 hz;simp only;omega
      ·have e1:okP w (d+1) t v c=false:=bad (by rw [hk];simp [hz])
       rw [e1]
       refine ⟨?_,fun h=>by cases h⟩
       simp only [X2,lenZ];omega
     ·have e1:okP w (d+1) t v c=false:=bad (by
       rw [hg]
       simp only [Bool.and_eq_false_iff,decide_eq_false_iff_not] at h2 ⊢
       rcases h2 with h2 | h2
       ·exact .inr (.inl h2)
       ·exact .inr (.inr (.inl h2)))
      exact .some ⟨e1.symm,fun h=>by rw [e1] at h;cases h⟩
    ·rw [X2] at h1
     have e1:okP w (d+1) t v c=false:=bad (by rw [hg];simp [h1])
     exact .some ⟨e1.symm,fun h=>by rw [e1] at h;cases h⟩
   ·rw [X2] at hi
    have hg:Q7i w (d+1) t v=(decide (v.n=0)&&(decide (v.ctor∈W9 w t)&&(decide (v.kids.length=(Q09 w t v.ctor).length)&&((Q09 w t v.ctor).zip v.kids).all fun x=>Q7i w d x.1 x.2))):=by rw [Q7i,if_neg hne,if_neg hi]
    refine Ret.ite (fun h1=>?_) (fun h1=>?_)
    ·rw [Bool.not_eq_true',X2] at h1
     have e1:okP w (d+1) t v c=false:=bad (by rw [hg];simp [h1])
     exact .some ⟨e1.symm,fun h=>by rw [e1] at h;cases h⟩
    rw [Bool.not_eq_false',Q9] at h1
    rw [hT.c2]
    simp only [U0]
    rw [Z0x]
    simp only [U0]
    refine Ret.ite (fun h2=>?_) (fun h2=>?_)
    ·rw [Bool.not_eq_true',decide_eq_false_iff_not] at h2
     have e1:okP w (d+1) t v c=false:=bad (by rw [hg];simp [h2])
     exact .some ⟨e1.symm,fun h=>by rw [e1] at h;cases h⟩
    rw [Bool.not_eq_false',decide_eq_true_eq] at h2
    exact .some ⟨hne,hi,h1,h2⟩
  ·obtain ⟨s0,s1,s2,s3⟩:=hs
   have hg:Q7i w (d+1) t v=(decide (v.kids.length=(Q09 w t v.ctor).length)&&((Q09 w t v.ctor).zip v.kids).all fun x=>Q7i w d x.1 x.2):=by rw [Q7i,if_neg s0,if_neg s1];simp [s2,s3]
   rw [hT.a2 _ s3]
   simp only [U0]
   refine Ret.ite (fun hl=>?_) (fun hl=>?_)
   ·rw [Bool.not_eq_true',X2] at hl
    simp only [lenZ] at hl
    have e1:okP w (d+1) t v c=false:=bad (by rw [hg];simp only [Bool.and_eq_false_iff,decide_eq_false_iff_not];left;omega)
    exact .some ⟨e1.symm,fun h=>by rw [e1] at h;cases h⟩
   rw [Bool.not_eq_false',Q9] at hl
   simp only [lenZ] at hl
   have hcv:=Q8s v
   refine Ret.ctl (Z5 v.kids (fun k s=>s=((c+1+cntV.cntVs (v.kids.take k):Nat):Int)∧c+1+cntV.cntVs (v.kids.take k)≤60∧∀ (j:Nat) (a:Q7) (x:Q2),j<k→(Q09 w t v.ctor)[j]?=some a→v.kids[j]?=some x→Q7i w d a x=true) (fun r:Bool×Int=>r.1=okP w (d+1) t v c∧(okP w (d+1) t v c=true→r.2=((c+cntV v:Nat):Int))) (fun s=>s=((c+cntV v:Nat):Int)∧okP w (d+1) t v c=true) ⟨by simp [cntV.cntVs],by simp only [List.take_zero,cntV.cntVs];omega,fun j a x hj=>by omega⟩ (fun k x s hx hI=>?_) (fun s hI=>?_)) (fun r hr=>.some hr) (fun s hs=>.some ⟨hs.2.symm,fun _=>hs.1⟩)
   ·obtain ⟨rfl,i2,i3⟩:=hI
    have hk:=(List.getElem?_eq_some_iff.1 hx).1
    have ha:(Q09 w t v.ctor)[k]?=some ((Q09 w t v.ctor)[k]'(by omega)):=by simp
    rw [Q0f ha]
    simp only [U0]
    have hdd:wadd .i64 (11-((d+1:Nat):Int)) 1=11-(d:Int):=by rw [V9]<;>omega
    rw [hdd]
    refine Ret.bind (ih n _ x _ (hT.at_ _ s3 _ (U1 ha)) i2 (by omega) (by omega)) (fun r hr=>?_)
    obtain ⟨r1,r2⟩:=hr
    have htk:=Z4h v.kids k x hx
    refine Ret.ite (fun h=>?_) (fun h=>?_)
    ·rw [Bool.not_eq_true',r1] at h
     have e1:okP w (d+1) t v c=false:=by
      simp only [okP,Bool.and_eq_false_iff,decide_eq_false_iff_not] at h ⊢
      rcases h with h | h
      ·left
       rw [hg,Bool.and_eq_false_iff]
       right
       rw [List.all_eq_false]
       exact ⟨_,U1 (Q91 ha hx),by simp [h]⟩
      ·right
       have:=Z04 v.kids (k+1)
       omega
     exact .some ⟨e1.symm,fun h=>by rw [e1] at h;cases h⟩
    ·rw [Bool.not_eq_false',r1] at h
     have r3:=r2 h
     simp only [okP,Bool.and_eq_true,decide_eq_true_eq] at h
     refine .some ⟨?_,by omega,fun j a y hj h1 h2=>?_⟩
     ·rw [r3];omega
     ·by_cases hjk:j=k
      ·subst hjk
       rw [ha] at h1
       rw [hx] at h2
       cases h1
       cases h2
       exact h.1
      ·exact i3 j a y (by omega) h1 h2
   ·obtain ⟨rfl,i2,i3⟩:=hI
    rw [List.take_length] at i2 ⊢
    refine ⟨by omega,?_⟩
    simp only [okP,Bool.and_eq_true,decide_eq_true_eq]
    refine ⟨?_,by omega⟩
    rw [hg]
    simp only [Bool.and_eq_true,decide_eq_true_eq,List.all_eq_true]
    refine ⟨by omega,fun y hy=>?_⟩
    obtain ⟨j,hj⟩:=List.mem_iff_getElem?.1 hy
    obtain ⟨e1,e2⟩:=List.getElem?_zip_eq_some.1 hj
    exact i3 j _ _ (List.getElem?_eq_some_iff.1 e2).1 e1 e2
theorem Z6r {v u:Q2}{path:List Int}(h:Q6s v path=some u):Ret (Q59 v path) (fun r=>r.2=decide (u.ctor≠-2)∧(r.2=true→r.1=u)):=by
 unfold Q59
 refine Ret.ctl (Z5 path (fun k s=>Q6s s (path.drop k)=some u) (fun r=>r.2=false∧u.ctor = -2) (fun s=>s=u) (by simpa using h) (fun k x s hx hI=>?_) (fun s hI=>by rw [List.drop_length,Q6s] at hI;exact Option.some.inj hI)) (fun r hr=>.some ⟨by rw [hr.1];simp [hr.2],fun h=>by rw [hr.1] at h;cases h⟩) (fun s hs=>.some ?_)
 ·rw [Q9c hx,Q6s] at hI
  refine Ret.ite (fun hc=>.some ?_) (fun hc=>?_)
  ·rw [Q9] at hc
   rw [if_pos hc] at hI
   cases hI
   exact ⟨rfl,hc⟩
  ·rw [X2] at hc
   rw [if_neg hc,U12] at hI
   obtain ⟨y,hy,hI⟩:=hI
   rw [hy]
   exact .some hI
 ·rw [hs]
  refine ⟨?_,fun _=>rfl⟩
  by_cases hc:u.ctor = -2
  ·simp [ieq,hc]
  ·simp [ieq,hc]
theorem Z68 {v u:Q2}{path:List Int}(h:Q6s v path=some u):Q6f v path=some u:=by
 suffices hs:Ret (Q6f v path) (fun r=>r=u) by
  obtain ⟨a,e,rfl⟩:=hs
  exact e
 unfold Q6f
 refine Ret.ctl (Z5 path (fun k s=>Q6s s (path.drop k)=some u) (fun _=>False) (fun s=>s=u) (by simpa using h) (fun k x s hx hI=>?_) (fun s hI=>by rw [List.drop_length,Q6s] at hI;exact Option.some.inj hI)) (fun r hr=>hr.elim) (fun s hs=>.some hs)
 rw [Q9c hx,Q6s] at hI
 refine Ret.ite (fun hc=>?_) (fun hc=>.some ?_)
 ·rw [Bool.not_eq_true',X2] at hc
  rw [if_neg hc,U12] at hI
  obtain ⟨y,hy,hI⟩:=hI
  rw [hy]
  exact .some hI
 ·rw [Bool.not_eq_false',Q9] at hc
  rw [if_pos hc] at hI
  exact Option.some.inj hI
theorem Z1x {bs:List Q1}{x:Int}{b:Q1}(h:bs.find? (fun b=>decide (b.var=x))=some b):Q72 bs x=some b.path:=by
 have hk:Ret (Q11 bs (fun a0=>Q6n a0 x)) (fun k=>∃ i:Nat,k=(i:Int)∧bs[i]?=some b):=by
  unfold Q11
  refine Ret.ctl (Z5 bs (fun k _=>bs.find? (fun b=>decide (b.var=x))=(bs.drop k).find? (fun b=>decide (b.var=x))) (fun r=>∃ (i:Nat) (y:Q1),r=(i:Int)∧bs[i]?=some y∧bs.find? (fun b=>decide (b.var=x))=some y) (fun _=>bs.find? (fun b=>decide (b.var=x))=none) (by simp) (fun k y s hy hI=>?_) (fun s hI=>by rw [hI,List.drop_length];rfl)) (fun r hr=>.some ?_) (fun s hs=>by rw [h] at hs;cases hs)
  ·have e1:Q6n y x=some (ieq y.var x):=rfl
   simp only []
   rw [e1]
   simp only [U0]
   rw [Z3t hy] at hI
   refine Ret.ite (fun hc=>.some ?_) (fun hc=>.some ?_)
   ·rw [Q9] at hc
    rw [if_pos (by simpa using hc)] at hI
    exact ⟨k,y,rfl,hy,hI⟩
   ·rw [X2] at hc
    rw [if_neg (by simpa using hc)] at hI
    exact hI
  ·obtain ⟨i,y,e1,e2,e3⟩:=hr
   rw [h] at e3
   cases e3
   exact ⟨i,e1,e2⟩
 obtain ⟨k,hk,i,rfl,hi⟩:=hk
 unfold Q72
 rw [hk]
 simp only [U0]
 rw [Q0f hi]
 rfl
theorem W4h {g:Q27}(h0:g.op=0)(bs:List Q1):Q1x g bs=some ([],false):=by
 suffices hs:Ret (Q1x g bs) (fun r=>r=([],false)) by
  obtain ⟨a,e,rfl⟩:=hs
  exact e
 unfold Q1x
 refine Ret.ctl (Z5 bs (fun _ _=>True) (fun _=>False) (fun _=>True) trivial (fun k y s hy _=>?_) (fun _ _=>trivial)) (fun r hr=>hr.elim) (fun s _=>.some rfl)
 rw [if_neg (by rw [Bool.not_eq_true,Bool.not_eq_false',Q9];exact h0)]
 exact .some trivial
theorem X3m {g:Q27}(h0:g.op≠0){bs:List Q1}{b:Q1}(h:bs.find? (fun b=>decide (b.var=g.var))=some b):Q1x g bs=some (b.path,true):=by
 suffices hs:Ret (Q1x g bs) (fun r=>r=(b.path,true)) by
  obtain ⟨a,e,rfl⟩:=hs
  exact e
 unfold Q1x
 refine Ret.ctl (Z5 bs (fun k _=>bs.find? (fun b=>decide (b.var=g.var))=(bs.drop k).find? (fun b=>decide (b.var=g.var))) (fun r=>r=(b.path,true)) (fun _=>bs.find? (fun b=>decide (b.var=g.var))=none) (by simp) (fun k y s hy hI=>?_) (fun s hI=>by rw [hI,List.drop_length];rfl)) (fun r hr=>.some hr) (fun s hs=>by rw [h] at hs;cases hs)
 rw [if_pos (by rw [Bool.not_eq_true',X2];exact h0)]
 rw [Z3t hy] at hI
 refine Ret.ite (fun hc=>.some ?_) (fun hc=>.some ?_)
 ·rw [Q9] at hc
  rw [if_pos (by simpa using hc),h] at hI
  cases hI
  rfl
 ·rw [X2] at hc
  rw [if_neg (by simpa using hc)] at hI
  exact hI
theorem W8d {g:Q27}(h0:g.op≠0){u:Q2}(hu:u.ctor = -1):Q6e g u.n=some (J8 g [⟨g.var,u⟩]):=by
 unfold Q6e J8
 simp only [List.find?_cons,decide_true,hu]
 by_cases h1:g.op=1
 ·rw [if_pos (by rw [Q9];exact h1)]
  by_cases h2:u.n<g.n
  ·rw [if_pos (by rw [Z9];exact h2)]
   simp [h1,h2]
  ·rw [if_neg (by rw [Z9];exact h2),if_neg (by rw [Q9];omega)]
   simp [h1,h2]
 ·rw [if_neg (by rw [Q9];exact h1)]
  by_cases h2:g.op=2
  ·rw [if_pos (by rw [Q9];exact h2)]
   simp [h2,ieq]
  ·rw [if_neg (by rw [Q9];exact h2)]
   simp [h0,h1,h2]
theorem X8c {lst:List Q3}{v:Q2}{used:List Int→Option Unit}(hus:∀ p,used p=some ()){t:X0}{r:Int×List Int×Bool×List (List Int)}(hd:Q9y 300 t)(h:runP 300 t lst v=some r):Q7f NN t lst v used=some (r.1,r.2.1,!r.2.2.1):=by
 unfold Q7f
 generalize hf:(fun (s:X0)=>_:X0→Option (Ctl (Int×List Int×Bool) X0))=f
 have key:∀ (d n:Nat) (t:X0) (r:Int×List Int×Bool×List (List Int)),Q9y d t→runP d t lst v=some r→d≤n→whileL f n t=some (.ret (r.1,r.2.1,!r.2.2.1)):=by
  intro d
  induction d with
  | zero=>intro n t r h;exact h.elim
  | succ d ih=>
   intro n t r hd h hn
   obtain ⟨n,rfl⟩:∃ j,n=j+1:=⟨n-1,by omega⟩
   obtain ⟨⟨hd1,hd2,hd3,hd4,hd5⟩,hd6⟩:=hd
   rw [runP] at h
   by_cases h2:t.op=2
   ·rw [if_pos h2,U12] at h
    obtain ⟨u,hu,h⟩:=h
    obtain ⟨q,hq,q1,q2⟩:=Z6r hu
    by_cases hh:u.ctor = -2
    ·rw [if_pos hh] at h
     cases h
     refine Q1c ?_
     subst hf
     simp only
     rw [if_pos (by rw [Q9];exact h2),hus]
     simp only [U0]
     rw [hq]
     simp only [U0]
     rw [if_pos (by rw [q1];simp [hh]),Q6q t.path (by simp only [Q5];omega)]
     rfl
    ·rw [if_neg hh] at h
     have hq2:=q2 (by rw [q1];simp [hh])
     have hfun:(fun a0=>Q41 a0 q.1)=(fun a0=>Q25 a0 u):=by rw [hq2];rfl
     obtain ⟨k,hk,hkk⟩:=Z2o t.branches u
     cases hfd:t.branches.find? (fun b=>W0 b u) with
     | none=>
      rw [hfd] at h hkk
      simp only at h hkk
      cases h
      refine Q1c ?_
      subst hf
      simp only
      rw [if_pos (by rw [Q9];exact h2),hus]
      simp only [U0]
      rw [hq]
      simp only [U0]
      rw [if_neg (by rw [q1];simp [hh]),hfun,hk]
      simp only [U0]
      rw [if_pos (by rw [Z9];omega)]
      rfl
     | some b=>
      rw [hfd] at h hkk
      simp only [U11] at h
      obtain ⟨i,rfl,hi⟩:=hkk
      obtain ⟨y,hy,rfl⟩:=h
      have hgo:f t=some (.go b.tree):=by
       subst hf
       simp only
       rw [if_pos (by rw [Q9];exact h2),hus]
       simp only [U0]
       rw [hq]
       simp only [U0]
       rw [if_neg (by rw [q1];simp [hh]),hfun,hk]
       simp only [U0]
       rw [if_neg (by rw [Z9];omega),Q0f hi]
       rfl
      rw [Z0g hgo]
      exact ih n b.tree y (hd6 _ (List.mem_append_left _ (List.mem_map_of_mem (U1 hi)))) hy (by omega)
   ·rw [if_neg h2] at h
    by_cases h1:t.op=1
    ·rw [if_pos h1,U12] at h
     obtain ⟨c,hc,h⟩:=h
     by_cases hg0:c.guard.op=0
     ·rw [if_pos hg0] at h
      cases h
      refine Q1c ?_
      subst hf
      simp only
      rw [if_neg (by rw [Q9];exact h2),if_pos (by rw [Q9];exact h1),hc]
      simp only [U0]
      rw [if_pos (by rw [Q9];exact hg0)]
      rfl
     ·rw [if_neg hg0] at h
      cases hfd:t.binds.find? (fun b=>decide (b.var=c.guard.var)) with
      | none=>rw [hfd] at h;cases h
      | some b=>
       rw [hfd] at h
       simp only [U12] at h
       obtain ⟨u,hu,h⟩:=h
       obtain ⟨q,hq,q1,q2⟩:=Z6r hu
       have hbl:=hd2 b (List.mem_of_find?_eq_some hfd)
       by_cases hh:u.ctor = -2
       ·rw [if_pos hh] at h
        cases h
        refine Q1c ?_
        subst hf
        simp only
        rw [if_neg (by rw [Q9];exact h2),if_pos (by rw [Q9];exact h1),hc]
        simp only [U0]
        rw [if_neg (by rw [Q9];exact hg0),Z1x hfd]
        simp only [U0]
        rw [hus]
        simp only [U0]
        rw [hq]
        simp only [U0]
        rw [if_pos (by rw [q1];simp [hh]),Q6q b.path (by simp only [Q5];omega)]
        rfl
       ·rw [if_neg hh] at h
        have hq2:=q2 (by rw [q1];simp [hh])
        split at h
        ·split at h
         ·rename_i hg
          cases h
          refine Q1c ?_
          subst hf
          simp only
          rw [if_neg (by rw [Q9];exact h2),if_pos (by rw [Q9];exact h1),hc]
          simp only [U0]
          rw [if_neg (by rw [Q9];exact hg0),Z1x hfd]
          simp only [U0]
          rw [hus]
          simp only [U0]
          rw [hq]
          simp only [U0]
          rw [if_neg (by rw [q1];simp [hh]),Q75,hq2]
          simp only [U0]
          rw [if_pos hg]
          rfl
         ·rename_i hg
          cases hel:t.else_ with
          | nil=>rw [hel] at h;cases h
          | cons el rest=>
           rw [hel] at h
           simp only [U11] at h
           obtain ⟨y,hy,rfl⟩:=h
           have hgo:f t=some (.go el):=by
            subst hf
            simp only
            rw [if_neg (by rw [Q9];exact h2),if_pos (by rw [Q9];exact h1),hc]
            simp only [U0]
            rw [if_neg (by rw [Q9];exact hg0),Z1x hfd]
            simp only [U0]
            rw [hus]
            simp only [U0]
            rw [hq]
            simp only [U0]
            rw [if_neg (by rw [q1];simp [hh]),Q75,hq2]
            simp only [U0]
            rw [if_neg hg,hel]
            rfl
           rw [Z0g hgo]
           exact ih n el y (hd6 _ (List.mem_append_right _ (by rw [hel];simp))) hy (by omega)
        ·cases h
    ·rw [if_neg h1] at h
     cases h
     refine Q1c ?_
     subst hf
     simp only
     rw [if_neg (by rw [Q9];exact h2),if_neg (by rw [Q9];exact h1)]
     rfl
 rw [key 300 NN t r hd h (by decide)]
 rfl
theorem X78 {lst:List Q3}{v:Q2}{t:X0}{r:Int×List Int×Bool×List (List Int)}(hd:Q9y 300 t)(ho:opT 300 t)(h:runP 300 t lst v=some r):Q8l NN lst t v=some r:=by
 unfold Q8l
 generalize hf:(fun (s:X0×List (List Int))=>_:X0×List (List Int)→Option (Ctl (Int×List Int×Bool×List (List Int)) (X0×List (List Int))))=f
 have key:∀ (d n:Nat) (t:X0) (us:List (List Int)) (r:Int×List Int×Bool×List (List Int)),Q9y d t→opT d t→runP d t lst v=some r→d≤n→us.length+d≤300→(whileL f n (t,us)=some (.ret (r.1,r.2.1,r.2.2.1,us++r.2.2.2)))∨(r.1 = -1∧r.2.1=[]∧r.2.2.1=false∧∃ t',whileL f n (t,us)=some (.brk (t',us++r.2.2.2))):=by
  intro d
  induction d with
  | zero=>intro n t us r h;exact h.elim
  | succ d ih=>
   intro n t us r hd ho h hn hl
   obtain ⟨n,rfl⟩:∃ j,n=j+1:=⟨n-1,by omega⟩
   obtain ⟨⟨hd1,hd2,hd3,hd4,hd5⟩,hd6⟩:=hd
   obtain ⟨ho1,ho2⟩:=ho
   have hap:∀ p:List Int,app us [p]=some (us++[p]):=fun p=>X6 (by simp only [U3,U4,Q5];omega)
   have nxt:∀ (x:X0) (p:List Int) (y:Int×List Int×Bool×List (List Int)),x∈Q57 t→f (t,us)=some (.go (x,us++[p]))→runP d x lst v=some y→r=(y.1,y.2.1,y.2.2.1,p::y.2.2.2)→(whileL f (n+1) (t,us)=some (.ret (r.1,r.2.1,r.2.2.1,us++r.2.2.2)))∨(r.1 = -1∧r.2.1=[]∧r.2.2.1=false∧∃ t',whileL f (n+1) (t,us)=some (.brk (t',us++r.2.2.2))):=fun x p y hx hgo hy e=>by
    rw [Z0g hgo]
    subst e
    have e2:us++p::y.2.2.2=(us++[p])++y.2.2.2:=by simp
    simp only
    rw [e2]
    exact ih n x (us++[p]) y (hd6 x hx) (ho2 x hx) hy (by omega) (by simp only [U5,U3,U4];omega)
   rw [runP] at h
   by_cases h2:t.op=2
   ·rw [if_pos h2,U12] at h
    obtain ⟨u,hu,h⟩:=h
    by_cases hh:u.ctor = -2
    ·rw [if_pos hh] at h
     cases h
     refine .inl (Q1c ?_)
     subst hf
     simp only
     rw [if_pos (by rw [Bool.not_eq_true',X2];omega),if_pos (by rw [Q9];exact h2),Z68 hu]
     simp only [U0]
     rw [if_pos (by rw [Q9];exact hh)]
     simp
    ·rw [if_neg hh] at h
     obtain ⟨q,hq,hqq⟩:=X4m t.branches u
     cases hfd:t.branches.find? (fun b=>W0 b u) with
     | none=>
      rw [hfd] at h hqq
      simp only at h hqq
      cases h
      refine .inl (Q1c ?_)
      subst hf
      simp only
      rw [if_pos (by rw [Bool.not_eq_true',X2];omega),if_pos (by rw [Q9];exact h2),Z68 hu]
      simp only [U0]
      rw [if_neg (by rw [Q9];exact hh),hap]
      simp only [U0]
      rw [hq]
      simp only [U0]
      rw [if_pos (by rw [hqq];rfl)]
     | some b=>
      rw [hfd] at h hqq
      simp only [U11] at h hqq
      obtain ⟨y,hy,e⟩:=h
      refine nxt b.tree t.path y (List.mem_append_left _ (List.mem_map_of_mem (List.mem_of_find?_eq_some hfd))) ?_ hy e.symm
      subst hf
      simp only
      rw [if_pos (by rw [Bool.not_eq_true',X2];omega),if_pos (by rw [Q9];exact h2),Z68 hu]
      simp only [U0]
      rw [if_neg (by rw [Q9];exact hh),hap]
      simp only [U0]
      rw [hq,hqq]
      simp only [U0]
      rw [if_neg (by simp)]
   ·rw [if_neg h2] at h
    by_cases h1:t.op=1
    ·rw [if_pos h1,U12] at h
     obtain ⟨c,hc,h⟩:=h
     by_cases hg0:c.guard.op=0
     ·rw [if_pos hg0] at h
      cases h
      refine .inl (Q1c ?_)
      subst hf
      simp only
      rw [if_pos (by rw [Bool.not_eq_true',X2];omega),if_neg (by rw [Q9];exact h2),hc]
      simp only [U0]
      rw [W4h hg0]
      simp
     ·rw [if_neg hg0] at h
      cases hfd:t.binds.find? (fun b=>decide (b.var=c.guard.var)) with
      | none=>rw [hfd] at h;cases h
      | some b=>
       rw [hfd] at h
       simp only [U12] at h
       obtain ⟨u,hu,h⟩:=h
       by_cases hh:u.ctor = -2
       ·rw [if_pos hh] at h
        cases h
        refine .inl (Q1c ?_)
        subst hf
        simp only
        rw [if_pos (by rw [Bool.not_eq_true',X2];omega),if_neg (by rw [Q9];exact h2),hc]
        simp only [U0]
        rw [X3m hg0 hfd]
        simp only [U0,Bool.not_true,U2,if_false]
        rw [Z68 hu]
        simp only [U0]
        rw [if_pos (by rw [Q9];exact hh)]
        simp
       ·rw [if_neg hh] at h
        split at h
        ·rename_i hu1
         have hst:∀ (z:Bool),J8 c.guard [⟨c.guard.var,u⟩]=z→f (t,us)=if z=true then some (.ret (t.clause,[],false,us++[b.path])) else (idx t.else_ 0).bind fun x=>some (.go (x,us++[b.path])):=fun z hz=>by
          subst hf
          simp only
          rw [if_pos (by rw [Bool.not_eq_true',X2];omega),if_neg (by rw [Q9];exact h2),hc]
          simp only [U0]
          rw [X3m hg0 hfd]
          simp only [U0,Bool.not_true,U2,if_false]
          rw [Z68 hu]
          simp only [U0]
          rw [if_neg (by rw [Q9];exact hh),hap]
          simp only [U0]
          rw [W8d hg0 hu1,hz]
          simp only [U0]
         split at h
         ·rename_i hg
          cases h
          refine .inl (Q1c ?_)
          rw [hst true hg]
          simp
         ·rename_i hg
          cases hel:t.else_ with
          | nil=>rw [hel] at h;cases h
          | cons el rest=>
           rw [hel] at h
           simp only [U11] at h
           obtain ⟨y,hy,e⟩:=h
           refine nxt el b.path y (List.mem_append_right _ (by rw [hel];simp)) ?_ hy e.symm
           rw [hst false (by simpa using hg),hel]
           rfl
        ·cases h
    ·rw [if_neg h1] at h
     cases h
     refine .inr ⟨rfl,rfl,rfl,t,W4a ?_⟩
     subst hf
     simp only
     rw [if_neg (by rw [Bool.not_eq_true,Bool.not_eq_false',Q9];omega)]
     simp
 obtain ⟨r1,r2,r3,r4⟩:=r
 rcases key 300 NN t [] _ hd ho h (by decide) (by simp) with h | ⟨rfl,rfl,rfl,t',h⟩
 ·rw [h]
  simp
 ·rw [h]
  simp
theorem X11 {w:List Q4}(hw:WW w){t:Q7}(ht:t∈tys w)(v:Q2):Q1l NN w t v=some (Z9w w t v):=by
 suffices hs:Ret (Q1l NN w t v) (fun r=>r=Z9w w t v) by
  obtain ⟨a,e,rfl⟩:=hs
  exact e
 unfold Q1l Q2x
 rw [hw.v1]
 simp only [U0,if_true]
 rw [(hw.ty t ht).t1]
 simp only [U0,if_true]
 refine Ret.bind (Y18 hw 10 NN t v 0 ht (by omega) (by decide) (by omega)) (fun r hr=>.some ?_)
 rw [hr.1]
 simp [okP,Z9w]
theorem V7y {w:List Q4}(hww:w∈Q0r):∀ (d:Nat) (t:Q7) (v:Q2),t∈tys w→Q3u w d t v→Z20 w d t v:=by
 intro d
 induction d with
 | zero=>intro t v _ h;exact h
 | succ d ih=>
  intro t v ht h
  have hwh:=X3z hww (d+1) t v ht h
  rw [Q3u] at h
  rw [Z20]
  refine .inr ⟨hwh.1,?_⟩
  split at h
  ·rename_i hd
   rw [if_pos hd]
   exact h
  ·rename_i hd
   rw [if_neg hd]
   obtain ⟨h1,h2,h3,h4⟩:=h
   exact ⟨h1,h2,h3,fun j a x ha hx=>ih a x (((ww hww).ty t ht).at_ _ h2 a (U1 ha)) (h4 j a x ha hx)⟩
theorem V8e {w:List Q4}(hww:w∈Q0r){t:Q7}(ht:t∈tys w){v:Q2}(h:Q9z w t v=true):Z9w w t v=true:=by
 have hg:=(X40 10 t v).2 (V7y hww 10 t v ht (Q92 h))
 simp only [Q9z,Bool.and_eq_true] at h
 simp only [Z9w,hg,h.2,Bool.and_self]
theorem W0i (l:List Int):Q70 l l=some true:=by
 suffices hs:Ret (Q70 l l) (fun a=>a=true) by
  obtain ⟨a,e,rfl⟩:=hs
  exact e
 unfold Q70
 have e:(!ieq (lenZ l.length) (lenZ l.length))=false:=by simp [ieq]
 simp only [e,U2,if_false]
 refine Ret.ctl (Z5 l (fun _ _=>True) (fun _=>False) (fun _=>True) trivial (fun i x s hi _=>?_) (fun _ _=>trivial)) (fun r hr=>hr.elim) (fun s _=>.some rfl)
 rw [Q0f hi]
 have e:(!ieq x x)=false:=by simp [ieq]
 simp only [U0,e,U2,if_false]
 exact .some trivial
def Z9j (acc:List (List Int))(p:List Int):List (List Int):=if p∈acc then acc else acc++[p]
def Q9n (acc:List (List Int)):List (List Int)→List (List Int)
 | []=>acc
 | p::ps=>Q9n (Z9j acc p) ps
theorem X2e (acc:List (List Int))(p:List Int):(Z9j acc p).length≤acc.length+1:=by
 unfold Z9j
 split<;>simp
theorem X0p:∀ (ps acc:List (List Int)),(Q9n acc ps).length≤acc.length+ps.length
 | [],acc=>by simp [Q9n]
 | p::ps,acc=>by
  have h1:=X0p ps (Z9j acc p)
  have h2:=X2e acc p
  simp only [Q9n,U3]
  omega
theorem Z6k {x:List Int} : ∀ (ps acc:List (List Int)),x∈Q9n acc ps↔x∈acc∨x∈ps
 | [],acc=>by simp [Q9n]
 | p::ps,acc=>by
  rw [Q9n,Z6k ps,U8]
  have:x∈Z9j acc p↔x∈acc∨x=p:=by
   unfold Z9j
   split
   ·rename_i h
    exact ⟨.inl,fun h'=>h'.elim id fun e=>e▸h⟩
   ·simp
  rw [this,or_assoc]
theorem X44 (a b:List Int):J3 a b=some (decide (a=b)):=by
 suffices hs:Ret (J3 a b) (fun r=>r=decide (a=b)) by
  obtain ⟨_,e,rfl⟩:=hs
  exact e
 unfold J3
 refine Ret.ite (fun h=>.some (Q22 ?_)) (fun h=>?_)
 ·rintro rfl
  simp [ieq] at h
 ·rw [Bool.not_eq_false',Q9,V7,V7] at h
  refine Ret.ctl (Z0k (b:=b) (by omega) (fun k x y hy=>?_)) (fun r hr=>.some ?_) (fun s hs=>.some (Z2x hs))
  ·rw [Q0f hy]
   simp only [U0]
   exact ⟨fun e=>by simp [ieq,e],fun e=>by simp [ieq,e]⟩
  ·rw [hr.1]
   exact Q22 hr.2
theorem Z73 (l:List (List Int))(p:List Int)(f:List Int→Option Bool)(hf:∀ a,f a=some (decide (a=p))):Q0c l f=some (decide (p∈l)):=by
 suffices hs:Ret (Q0c l f) (fun r=>r=decide (p∈l)) by
  obtain ⟨_,e,rfl⟩:=hs
  exact e
 unfold Q0c Q3t
 refine Ret.bind (P:=fun r=>ile 0 r=decide (p∈l)) ?_ (fun r hr=>.some hr)
 refine Ret.ctl (Z5 l (fun k _=>p∉l.take k) (fun r=>0≤r∧p∈l) (fun _=>p∉l) (by simp) (fun k x s hx hI=>?_) (fun s hI=>by rwa [List.take_length] at hI)) (fun r hr=>.some ?_) (fun s hs=>.some ?_)
 ·rw [hf]
  simp only [U0]
  refine Ret.ite (fun h=>.some ?_) (fun h=>.some ?_)
  ·rw [decide_eq_true_eq] at h
   subst h
   exact ⟨by omega,U1 hx⟩
  ·rw [decide_eq_false_iff_not] at h
   simp only [Q05]
   rw [Q93 hx,List.mem_append,List.mem_singleton]
   rintro (h' | h')
   ·exact hI h'
   ·exact h h'.symm
 ·rw [decide_eq_true hr.2,J6]
  exact hr.1
 ·rw [decide_eq_false hs]
  rfl
theorem Z4k {acc:List (List Int)}{p:List Int}(hp:p.length≤1000)(ha:acc.length≤100000):Q24 p acc=some (Z9j acc p):=by
 unfold Q24 Q9h Z9j
 rw [Z73 acc p _ (fun a=>by unfold Q7o;rw [X44];rfl)]
 simp only [U0]
 by_cases h:p∈acc
 ·simp [h]
 ·rw [if_neg (by simpa using h),Q6q p (by simp only [Q5];omega)]
  simp only [U0]
  rw [X6 (by simp only [U3,U4,Q5];omega),if_neg h]
  rfl
theorem V0m (l:List (List Int))(p:List Int):Q60 l p=some (decide (p∈l)):=by
 suffices hs:Ret (Q60 l p) (fun r=>r=decide (p∈l)) by
  obtain ⟨_,e,rfl⟩:=hs
  exact e
 unfold Q60
 refine Ret.ctl (Z5 l (fun k _=>p∉l.take k) (fun r=>r=true∧p∈l) (fun _=>p∉l) (by simp) (fun k x s hx hI=>?_) (fun s hI=>by rwa [List.take_length] at hI)) (fun r hr=>.some (by rw [hr.1,decide_eq_true hr.2])) (fun s hs=>.some (by rw [decide_eq_false hs]))
 rw [Z3d]
 simp only [U0]
 refine Ret.ite (fun h=>.some ?_) (fun h=>.some ?_)
 ·rw [decide_eq_true_eq] at h
  subst h
  exact ⟨rfl,U1 hx⟩
 ·rw [decide_eq_false_iff_not] at h
  simp only [Q05]
  rw [Q93 hx,List.mem_append,List.mem_singleton]
  rintro (h' | h')
  ·exact hI h'
  ·exact h h'.symm
theorem W96 (acc ps:List (List Int))(p:List Int):Q9n acc (ps++[p])=Z9j (Q9n acc ps) p:=by
 induction ps generalizing acc with
 | nil=>rfl
 | cons q ps ih=>simp only [List.cons_append,Q9n,ih]
theorem W09 {l:List (List Int)}(hl:l.length≤100000)(hp:∀ p∈l,p.length≤1000):Q61 l=some (Q9n [] l):=by
 suffices hs:Ret (Q61 l) (fun r=>r=Q9n [] l) by
  obtain ⟨_,e,rfl⟩:=hs
  exact e
 unfold Q61
 refine Ret.ctl (Z5 l (fun k s=>s=Q9n [] (l.take k)) (fun _=>False) (fun s=>s=Q9n [] l) rfl (fun k p s hk hI=>?_) (fun s hI=>by rwa [List.take_length] at hI)) (fun r hr=>hr.elim) (fun s hs=>.some hs)
 have hpl:=hp p (U1 hk)
 have hsl:=X0p (l.take k) []
 rw [U6,U4] at hsl
 rw [V0m]
 simp only [U0]
 rw [Q93 hk,W96]
 subst hI
 unfold Z9j
 by_cases h:p∈Q9n [] (l.take k)
 ·simp only [h,decide_true,Bool.not_true,U2,if_false,if_true,U0]
  exact .some rfl
 ·simp only [h,decide_false,Bool.not_false,if_true,if_false]
  rw [X6 (by simp only [U4,Q5];omega)]
  simp only [U0]
  rw [X6 (by simp only [U3,U4,Q5];omega)]
  exact .some rfl
theorem W8l {lst:List Q3}{v:Q2} : ∀ (d:Nat) (t:X0) (r:Int×List Int×Bool×List (List Int)),Q9y d t→runP d t lst v=some r→r.2.2.2.length≤d∧∀ p∈r.2.2.2,p.length≤1000:=by
 intro d
 induction d with
 | zero=>intro t r h;exact h.elim
 | succ d ih=>
  intro t r hd hp
  obtain ⟨⟨hd1,hd2,hd3,hd4,hd5⟩,hd6⟩:=hd
  rw [runP] at hp
  have mapc:∀ (x:X0) (q:List Int),x∈Q57 t→q.length≤1000→((runP d x lst v).map fun r=>(r.1,r.2.1,r.2.2.1,q::r.2.2.2))=some r→r.2.2.2.length≤d+1∧∀ p∈r.2.2.2,p.length≤1000:=fun x q hx hq h=>by
   rw [U11] at h
   obtain ⟨y,hy,rfl⟩:=h
   obtain ⟨g1,g2⟩:=ih x y (hd6 x hx) hy
   refine ⟨by simp only [U3];omega,fun p hp=>?_⟩
   rcases U8.1 hp with rfl | hp
   ·exact hq
   ·exact g2 p hp
  by_cases h2:t.op=2
  ·rw [if_pos h2,U12] at hp
   obtain ⟨u,hu,hp⟩:=hp
   by_cases hh:u.ctor = -2
   ·rw [if_pos hh] at hp
    cases hp
    simp
   ·rw [if_neg hh] at hp
    cases hf:t.branches.find? (fun b=>W0 b u) with
    | none=>
     rw [hf] at hp
     cases hp
     refine ⟨by simp,fun p hp=>?_⟩
     simp only [List.mem_singleton] at hp
     rw [hp];exact hd3
    | some b=>
     rw [hf] at hp
     exact mapc b.tree t.path (List.mem_append_left _ (List.mem_map_of_mem (List.mem_of_find?_eq_some hf))) hd3 hp
  ·rw [if_neg h2] at hp
   by_cases h1:t.op=1
   ·rw [if_pos h1,U12] at hp
    obtain ⟨c,hc,hp⟩:=hp
    by_cases hg0:c.guard.op=0
    ·rw [if_pos hg0] at hp
     cases hp
     simp
    ·rw [if_neg hg0] at hp
     cases hf:t.binds.find? (fun b=>decide (b.var=c.guard.var)) with
     | none=>rw [hf] at hp;cases hp
     | some b=>
      rw [hf] at hp
      simp only [U12] at hp
      obtain ⟨u,hu,hp⟩:=hp
      have hbl:=hd2 b (List.mem_of_find?_eq_some hf)
      by_cases hh:u.ctor = -2
      ·rw [if_pos hh] at hp
       cases hp
       simp
      ·rw [if_neg hh] at hp
       split at hp
       ·split at hp
        ·cases hp
         refine ⟨by simp,fun p hp=>?_⟩
         simp only [List.mem_singleton] at hp
         rw [hp];exact hbl
        ·cases hel:t.else_ with
         | nil=>rw [hel] at hp;cases hp
         | cons el rest=>
          rw [hel] at hp
          exact mapc el b.path (List.mem_append_right _ (by rw [hel];simp)) hbl hp
       ·cases hp
   ·rw [if_neg h1] at hp
    cases hp
    simp
theorem W0y {lst:List Q3}{v:Q2}{t:X0}{r:Int×List Int×Bool×List (List Int)}(hd:Q9y 300 t)(h:runP 300 t lst v=some r)(hnd:r.2.2.1=false):Q0i NN t lst v []=some (r.1,r.2.1,true,Q9n [] r.2.2.2):=by
 unfold Q0i
 generalize hf:(fun (s:List (List Int)×X0)=>_:List (List Int)×X0→Option (Ctl (Int×List Int×Bool×List (List Int)) (List (List Int)×X0)))=f
 have key:∀ (d n:Nat) (t:X0) (acc:List (List Int)) (r:Int×List Int×Bool×List (List Int)),Q9y d t→runP d t lst v=some r→r.2.2.1=false→d≤n→acc.length+d≤100000→whileL f n (acc,t)=some (.ret (r.1,r.2.1,true,Q9n acc r.2.2.2)):=by
  intro d
  induction d with
  | zero=>intro n t acc r h;exact h.elim
  | succ d ih=>
   intro n t acc r hd h hnd hn ha
   obtain ⟨n,rfl⟩:∃ j,n=j+1:=⟨n-1,by omega⟩
   obtain ⟨⟨hd1,hd2,hd3,hd4,hd5⟩,hd6⟩:=hd
   rw [runP] at h
   by_cases h2:t.op=2
   ·rw [if_pos h2,U12] at h
    obtain ⟨u,hu,h⟩:=h
    obtain ⟨q,hq,q1,q2⟩:=Z6r hu
    by_cases hh:u.ctor = -2
    ·rw [if_pos hh] at h
     cases h
     cases hnd
    ·rw [if_neg hh] at h
     have hq2:=q2 (by rw [q1];simp [hh])
     have hfun:(fun a0=>Q41 a0 q.1)=(fun a0=>Q25 a0 u):=by rw [hq2];rfl
     obtain ⟨k,hk,hkk⟩:=Z2o t.branches u
     have hal:=X2e acc t.path
     cases hfd:t.branches.find? (fun b=>W0 b u) with
     | none=>
      rw [hfd] at h hkk
      simp only at h hkk
      cases h
      refine Q1c ?_
      subst hf
      simp only
      rw [if_pos (by rw [Q9];exact h2),Z4k (by omega) (by omega)]
      simp only [U0]
      rw [hq]
      simp only [U0]
      rw [if_neg (by rw [q1];simp [hh]),hfun,hk]
      simp only [U0]
      rw [if_pos (by rw [Z9];omega)]
      rfl
     | some b=>
      rw [hfd] at h hkk
      simp only [U11] at h
      obtain ⟨i,rfl,hi⟩:=hkk
      obtain ⟨y,hy,rfl⟩:=h
      have hgo:f (acc,t)=some (.go (Z9j acc t.path,b.tree)):=by
       subst hf
       simp only
       rw [if_pos (by rw [Q9];exact h2),Z4k (by omega) (by omega)]
       simp only [U0]
       rw [hq]
       simp only [U0]
       rw [if_neg (by rw [q1];simp [hh]),hfun,hk]
       simp only [U0]
       rw [if_neg (by rw [Z9];omega),Q0f hi]
       rfl
      rw [Z0g hgo]
      exact ih n b.tree _ y (hd6 _ (List.mem_append_left _ (List.mem_map_of_mem (U1 hi)))) hy hnd (by omega) (by omega)
   ·rw [if_neg h2] at h
    by_cases h1:t.op=1
    ·rw [if_pos h1,U12] at h
     obtain ⟨c,hc,h⟩:=h
     by_cases hg0:c.guard.op=0
     ·rw [if_pos hg0] at h
      cases h
      refine Q1c ?_
      subst hf
      simp only
      rw [if_neg (by rw [Q9];exact h2),if_pos (by rw [Q9];exact h1),hc]
      simp only [U0]
      rw [if_pos (by rw [Q9];exact hg0)]
      rfl
     ·rw [if_neg hg0] at h
      cases hfd:t.binds.find? (fun b=>decide (b.var=c.guard.var)) with
      | none=>rw [hfd] at h;cases h
      | some b=>
       rw [hfd] at h
       simp only [U12] at h
       obtain ⟨u,hu,h⟩:=h
       obtain ⟨q,hq,q1,q2⟩:=Z6r hu
       have hbl:=hd2 b (List.mem_of_find?_eq_some hfd)
       have hal:=X2e acc b.path
       by_cases hh:u.ctor = -2
       ·rw [if_pos hh] at h
        cases h
        cases hnd
       ·rw [if_neg hh] at h
        have hq2:=q2 (by rw [q1];simp [hh])
        split at h
        ·split at h
         ·rename_i hg
          cases h
          refine Q1c ?_
          subst hf
          simp only
          rw [if_neg (by rw [Q9];exact h2),if_pos (by rw [Q9];exact h1),hc]
          simp only [U0]
          rw [if_neg (by rw [Q9];exact hg0),Z1x hfd]
          simp only [U0]
          rw [Z4k (by omega) (by omega)]
          simp only [U0]
          rw [hq]
          simp only [U0]
          rw [if_neg (by rw [q1];simp [hh]),Q75,hq2]
          simp only [U0]
          rw [if_pos hg]
          rfl
         ·rename_i hg
          cases hel:t.else_ with
          | nil=>rw [hel] at h;cases h
          | cons el rest=>
           rw [hel] at h
           simp only [U11] at h
           obtain ⟨y,hy,rfl⟩:=h
           have hgo:f (acc,t)=some (.go (Z9j acc b.path,el)):=by
            subst hf
            simp only
            rw [if_neg (by rw [Q9];exact h2),if_pos (by rw [Q9];exact h1),hc]
            simp only [U0]
            rw [if_neg (by rw [Q9];exact hg0),Z1x hfd]
            simp only [U0]
            rw [Z4k (by omega) (by omega)]
            simp only [U0]
            rw [hq]
            simp only [U0]
            rw [if_neg (by rw [q1];simp [hh]),Q75,hq2]
            simp only [U0]
            rw [if_neg hg,hel]
            rfl
           rw [Z0g hgo]
           exact ih n el _ y (hd6 _ (List.mem_append_right _ (by rw [hel];simp))) hy hnd (by omega) (by omega)
        ·cases h
    ·rw [if_neg h1] at h
     cases h
     refine Q1c ?_
     subst hf
     simp only
     rw [if_neg (by rw [Q9];exact h2),if_neg (by rw [Q9];exact h1)]
     rfl
 rw [key 300 NN t [] r hd h hnd (by decide) (by simp)]
 rfl
def Z37 (a b:List Int):Prop:=¬a <+: b∧¬b <+: a
theorem X4a {a p:List Int}(h:Z37 a p)(i:Int):Z37 a (p++[i]):=by
 refine ⟨fun hp=>?_,fun hp=>h.2 ((List.prefix_append p [i]).trans hp)⟩
 rw [List.prefix_concat_iff] at hp
 rcases hp with hp | hp
 ·exact h.2 (by rw [hp];exact List.prefix_append p [i])
 ·exact h.1 hp
theorem Z88 {a b:List Int}(h:Z37 a b):Z37 b a:=⟨h.2,h.1⟩
theorem W6s {A B Q:List (List Int)}{p:List Int}(h:(A++p::B).Pairwise Z37)(hq:Q.Pairwise Z37)(hQ:∀ q∈Q,∃ i,q=p++[i]):(A++Q++B).Pairwise Z37:=by
 rw [List.pairwise_append,List.pairwise_cons] at h
 obtain ⟨h1,⟨h2,h3⟩,h4⟩:=h
 rw [List.pairwise_append,List.pairwise_append]
 refine ⟨⟨h1,hq,fun a ha q hqm=>?_⟩,h3,fun x hx b hb=>?_⟩
 ·obtain ⟨i,rfl⟩:=hQ q hqm
  exact X4a (h4 a ha p (by simp)) i
 ·rcases List.mem_append.1 hx with hx | hx
  ·exact h4 x hx b (by simp [hb])
  ·obtain ⟨i,rfl⟩:=hQ x hx
   exact Z88 (X4a (Z88 (h2 b hb)) i)
theorem W6r (w:List Q4)(col:Z7)(b:Z1):((V6 w col b).map (·.path)).Pairwise Z37∧∀ q∈(V6 w col b).map (·.path),∃ i,q=col.path++[i]:=by
 unfold V6
 split
 ·exact ⟨List.Pairwise.nil,fun q hq=>by cases hq⟩
 ·have hg:∀ (l:List Q7) (j:Nat) (q:List Int),((l.mapIdx fun i t=>(⟨col.path++[(i:Int)],t⟩:Z7)).map (·.path))[j]?=some q→q=col.path++[(j:Int)]:=fun l j q hq=>by
   rw [List.getElem?_map,List.getElem?_mapIdx] at hq
   cases h:l[j]? with
   | none=>rw [h] at hq;cases hq
   | some a=>
    rw [h] at hq
    simp only [Option.map_some,Option.some.injEq] at hq
    exact hq.symm
  constructor
  ·rw [List.pairwise_iff_getElem]
   intro i j hi hj hij
   have e1:=hg _ i _ (U9 hi)
   have e2:=hg _ j _ (U9 hj)
   rw [e1,e2]
   refine ⟨fun h=>?_,fun h=>?_⟩
   ·have:=h.eq_of_length (by simp)
    have:=List.append_cancel_left this
    simp only [List.cons.injEq,and_true] at this
    omega
   ·have:=h.eq_of_length (by simp)
    have:=List.append_cancel_left this
    simp only [List.cons.injEq,and_true] at this
    omega
  ·intro q hq
   obtain ⟨j,hj⟩:=List.mem_iff_getElem?.1 hq
   exact ⟨(j:Int),hg _ j q hj⟩
theorem W6l {cols:List Z7}{k:Nat}{col:Z7}(h:cols[k]?=some col):cols=cols.take k++col::cols.drop (k+1):=by
 rw [←Q9c h,List.take_append_drop]
theorem X81 {α:Type} [DecidableEq α]:∀ (a b:List α),a.Nodup→(∀ x∈a,x∈b)→a.length≤b.length
 | [],b,_,_=>by simp
 | x::a,b,h,hs=>by
  rw [List.nodup_cons] at h
  have hx:=hs x (by simp)
  have h1:=X81 a (b.erase x) h.2 (fun y hy=>(List.mem_erase_of_ne (fun e=>h.1 (by rw [←e];exact hy))).2 (hs y (by simp [hy])))
  rw [List.length_erase_of_mem hx] at h1
  have:=List.length_pos_of_mem hx
  simp only [U3]
  omega
theorem Y8s {w:List Q4}{lst:List Q3}{pick:Int}{e:Nat}{v:Q2}(hv:Z8b e v):∀ (d:Nat) (t:X0) (rows:List Grow) (cols:List Z7) (a:Int) (bs:List X3) (k:Nat) (r:Int×List Int×Bool×List (List Int)),
  Q8x w lst pick d t rows cols→(cols.map (·.path)).Pairwise Z37→runT d t lst v=some (a,bs,k)→runP d t lst v=some r→∃ sw:List (List Int),sw.length=k∧sw.Nodup∧(∀ p∈sw,p∈r.2.2.2)∧∀ p∈sw,∃ c∈cols,c.path <+: p:=by
 intro d
 induction d with
 | zero=>intro t rows cols a bs k r h;exact h.elim
 | succ d ih=>
  intro t rows cols a bs k r hT hA h hp
  rw [runT] at h
  rw [runP] at hp
  cases rows with
  | nil=>
   simp only [Q8x] at hT
   subst hT
   rw [if_neg (by decide),if_neg (by decide)] at h
   cases h
   exact ⟨[],rfl,List.nodup_nil,by simp,by simp⟩
  | cons r0 rest=>
   simp only [Q8x] at hT
   cases hpc:Z12 w (r0::rest) cols pick with
   | none=>
    rw [hpc] at hT
    simp only at hT
    obtain ⟨h1,h2,h3,h4,h5,cl,h6,h7⟩:=hT
    rw [if_neg (by omega),if_pos h1] at h hp
    rw [U12] at h hp
    obtain ⟨c,hc,h⟩:=h
    obtain ⟨c',hc',hp⟩:=hp
    rw [hc] at hc'
    cases hc'
    rw [U12] at h
    obtain ⟨l,hl,h⟩:=h
    by_cases hg0:c.guard.op=0
    ·have hg:J8 c.guard l=true:=by simp [J8,hg0]
     rw [if_pos hg] at h
     cases h
     exact ⟨[],rfl,List.nodup_nil,by simp,by simp⟩
    ·rw [if_neg hg0] at hp
     cases hf:t.binds.find? (fun b=>decide (b.var=c.guard.var)) with
     | none=>rw [hf] at hp;cases hp
     | some b=>
      rw [hf] at hp
      simp only [U12] at hp
      obtain ⟨u,hu,hp⟩:=hp
      obtain ⟨hw1,e',hw2⟩:=Z1p hv hu
      have hn:u.ctor≠-2:=by
       cases e' with
       | zero=>exact hw2.elim
       | succ e'=>exact hw2.1
      rw [if_neg hn] at hp
      obtain ⟨u',hu',hfl⟩:=Z5r hl hf
      rw [hw1] at hu'
      cases hu'
      have hbv:=List.find?_some hf
      simp only [decide_eq_true_eq] at hbv
      have hge:J8 c.guard l=J8 c.guard [⟨c.guard.var,u⟩]:=by
       unfold J8
       rw [hfl]
       simp
      rw [hge] at h
      split at hp
      ·split at hp
       ·rename_i hg
        rw [if_pos hg] at h
        cases h
        exact ⟨[],rfl,List.nodup_nil,by simp,by simp⟩
       ·rename_i hg
        rw [if_neg hg] at h
        cases hel:t.else_ with
        | nil=>rw [hel] at h;cases h
        | cons el rest'=>
         rw [hel] at h hp
         simp only [U11] at hp
         obtain ⟨y,hy,rfl⟩:=hp
         rcases h7 with ⟨_,h8⟩ | ⟨_,el',h8,h9⟩
         ·rw [hel] at h8;cases h8
         ·rw [hel] at h8
          cases h8
          obtain ⟨sw,s1,s2,s3,s4⟩:=ih el _ cols a bs k y h9 hA h hy
          exact ⟨sw,s1,s2,fun p hp=>by simp [s3 p hp],s4⟩
      ·cases hp
   | some kk=>
    rw [hpc] at hT
    simp only at hT
    obtain ⟨col,h1,h2,h3,h4,h5,h6,h7⟩:=hT
    rw [if_pos h2,U12] at h hp
    obtain ⟨u,hu,h⟩:=h
    obtain ⟨u',hu',hp⟩:=hp
    obtain ⟨hw1,e',hw2⟩:=Z1p hv hu'
    rw [hu] at hw1
    cases hw1
    have hn:u.ctor≠-2:=by
     cases e' with
     | zero=>exact hw2.elim
     | succ e'=>exact hw2.1
    rw [if_neg hn] at hp
    have hcm:=U1 h1
    cases hf:t.branches.find? (fun b=>W0 b u) with
    | none=>
     rw [hf] at h hp
     simp only [Option.some.injEq] at h hp
     subst hp
     cases h
     refine ⟨[t.path],rfl,by simp,by simp,fun p hp=>⟨col,hcm,?_⟩⟩
     simp only [List.mem_singleton] at hp
     rw [hp,h5]
     exact List.prefix_refl _
    | some b=>
     rw [hf] at h hp
     simp only [U11] at h hp
     obtain ⟨x,hx,h⟩:=h
     obtain ⟨y,hy,hp⟩:=hp
     subst hp
     obtain ⟨x1,x2,x3⟩:=x
     cases h
     obtain ⟨b0,_,_,_,_,hT'⟩:=X65 h7 b (List.mem_of_find?_eq_some hf)
     obtain ⟨a1,a2⟩:=W6r w col b0
     have hcs:=W6l h1
     have hA0:((cols.take kk).map (·.path)++col.path::(cols.drop (kk+1)).map (·.path)).Pairwise Z37:=by
      rw [hcs] at hA
      rwa [List.map_append,List.map_cons] at hA
     have hA':((Q5t cols kk (V6 w col b0)).map (·.path)).Pairwise Z37:=by
      unfold Q5t
      rw [List.map_append,List.map_append]
      exact W6s hA0 a1 a2
     obtain ⟨sw,s1,s2,s3,s4⟩:=ih b.tree _ _ _ _ x3 y hT' hA' hx hy
     have hnew:∀ p∈sw,(∃ c∈cols,c.path <+: p)∧p≠t.path:=fun p hp=>by
      obtain ⟨c,hc,hpre⟩:=s4 p hp
      have hside:∀ c,c∈cols.take kk∨c∈cols.drop (kk+1)→Z37 c.path col.path:=fun c hc=>by
       rw [List.pairwise_append,List.pairwise_cons] at hA0
       obtain ⟨_,⟨q2,_⟩,q4⟩:=hA0
       rcases hc with hc | hc
       ·exact q4 c.path (List.mem_map_of_mem hc) col.path (by simp)
       ·exact Z88 (q2 c.path (List.mem_map_of_mem hc))
      have hsame:∀ c,c∈cols.take kk∨c∈cols.drop (kk+1)→c.path <+: p→(∃ c∈cols,c.path <+: p)∧p≠t.path:=fun c hc hpre=>by
       refine ⟨⟨c,?_,hpre⟩,fun e=>?_⟩
       ·rcases hc with hc | hc
        ·exact List.mem_of_mem_take hc
        ·exact List.mem_of_mem_drop hc
       ·rw [e,h5] at hpre
        exact (hside c hc).1 hpre
      unfold Q5t at hc
      rcases List.mem_append.1 hc with hc | hc
      ·rcases List.mem_append.1 hc with hc | hc
       ·exact hsame c (.inl hc) hpre
       ·obtain ⟨i,hi⟩:=a2 c.path (List.mem_map_of_mem hc)
        rw [hi] at hpre
        refine ⟨⟨col,hcm,(List.prefix_append _ _).trans hpre⟩,fun e=>?_⟩
        rw [e,h5] at hpre
        have:=hpre.length_le
        simp only [U5,U3,U4] at this
        omega
      ·exact hsame c (.inr hc) hpre
     refine ⟨t.path::sw,by simp [s1],List.nodup_cons.2 ⟨fun hm=>(hnew _ hm).2 rfl,s2⟩,fun p hp=>?_,fun p hp=>?_⟩
     ·rcases U8.1 hp with rfl | hp
      ·simp
      ·simp [s3 p hp]
     ·rcases U8.1 hp with rfl | hp
      ·exact ⟨col,hcm,by rw [h5];exact List.prefix_refl _⟩
      ·exact (hnew p hp).1
def V5o:Q2:=Q2.mk (-2) 0 []
def Z13 (all:List (List Int)):Nat→Q2→List Int→Q2
 | 0,_,_=>V5o
 | d+1,v,path=>if path∈all then Q2.mk v.ctor v.n (v.kids.mapIdx fun i k=>Z13 all d k (path++[(i:Int)])) else V5o
theorem W0w {all:List (List Int)} : ∀ (d n:Nat) (v:Q2) (path:List Int),Z1m d v→d≤n→path.length+d≤1000→Q7v n v path all=some (Z13 all d v path):=by
 intro d
 induction d with
 | zero=>intro n v path h;exact h.elim
 | succ d ih=>
  intro n v path h hn hp
  obtain ⟨n,rfl⟩:∃ j,n=j+1:=⟨n-1,by omega⟩
  obtain ⟨h1,h2⟩:=h
  suffices hs:Ret (Q7v (n+1) v path all) (fun r=>r=Z13 all (d+1) v path) by
   obtain ⟨_,e,rfl⟩:=hs
   exact e
  rw [Q7v]
  unfold Q9g
  rw [Z73 all path _ (fun a=>by unfold Q7n;rw [X44];rfl),Z13]
  simp only [U0]
  by_cases hm:path∈all
  ·simp only [hm,decide_true,Bool.not_true,U2,if_false,if_true]
   refine Ret.ctl (Z5 v.kids (fun k s=>s=(v.kids.mapIdx fun i k=>Z13 all d k (path++[(i:Int)])).take k) (fun _=>False) (fun s=>s=v.kids.mapIdx fun i k=>Z13 all d k (path++[(i:Int)])) (by simp) (fun k x s hx hI=>?_) (fun s hI=>by rw [hI,List.take_of_length_le (by simp)])) (fun r hr=>hr.elim) (fun s hs=>.some (by rw [hs]))
   have hk:=(List.getElem?_eq_some_iff.1 hx).1
   rw [Q6q path (by simp only [Q5];omega)]
   simp only [U0]
   rw [X6 (by simp only [U3,U4,Q5];omega)]
   simp only [U0]
   rw [ih n x _ (h2 x (U1 hx)) (by omega) (by simp only [U5,U3,U4];omega)]
   simp only [U0]
   have hsl:s.length≤3:=by rw [hI,U6,List.length_mapIdx];omega
   rw [X6 (by simp only [U3,U4,Q5];omega)]
   refine .some ?_
   simp only [Q05]
   have hg:(v.kids.mapIdx fun i k=>Z13 all d k (path++[(i:Int)]))[k]?=some (Z13 all d x (path++[(k:Int)])):=by rw [List.getElem?_mapIdx,hx];rfl
   rw [Q93 hg,hI]
  ·simp only [hm,decide_false,Bool.not_false,if_true,if_false]
   unfold Z2l
   exact .some rfl
theorem W9f {all:List (List Int)}{w:List Q4}(hww:w∈Q0r):∀ (d:Nat) (t:Q7) (v:Q2) (path:List Int),t∈tys w→Q3u w d t v→Z20 w d t (Z13 all d v path):=by
 have hw:=ww hww
 intro d
 induction d with
 | zero=>intro t v path _ h;exact h.elim
 | succ d ih=>
  intro t v path ht h
  rw [Q3u] at h
  rw [Z13,Z20]
  split
  ·split at h
   ·rename_i hd
    refine .inr ⟨by simp only;rw [h.1];decide,?_⟩
    rw [if_pos hd]
    exact ⟨h.1,h.2.1,h.2.2.1,by simp only;rw [h.2.2.2];rfl⟩
   ·rename_i hd
    obtain ⟨h1,h2,h3,h4⟩:=h
    have:=W3x hww ht h2
    refine .inr ⟨by simp only;omega,?_⟩
    rw [if_neg hd]
    refine ⟨h1,h2,by simp only [List.length_mapIdx];exact h3,fun j a x ha hx=>?_⟩
    simp only at ha hx
    rw [List.getElem?_mapIdx] at hx
    cases hk:v.kids[j]? with
    | none=>rw [hk] at hx;cases hx
    | some y=>
     rw [hk] at hx
     simp only [Option.map_some,Option.some.injEq] at hx
     rw [←hx]
     exact ih a y _ ((hw.ty t ht).at_ _ h2 a (U1 ha)) (h4 j a y ha hk)
  ·exact .inl ⟨rfl,rfl,rfl⟩
theorem W3y (v:Q2):1≤cntV v:=by rw [Q8s];omega
theorem Z91:∀ (l:List Q2) (F:Nat→Q2→Q2),(∀ i x,x∈l→cntV (F i x)≤cntV x)→cntV.cntVs (l.mapIdx F)≤cntV.cntVs l
 | [],_,_=>by simp [cntV.cntVs]
 | x::l,F,h=>by
  have h1:=h 0 x (by simp)
  have h2:=Z91 l (fun i=>F (i+1)) (fun i y hy=>h (i+1) y (by simp [hy]))
  rw [List.mapIdx_cons]
  simp only [cntV.cntVs]
  omega
theorem W2y {all:List (List Int)} : ∀ (d:Nat) (v:Q2) (path:List Int),cntV (Z13 all d v path)≤cntV v
 | 0,v,path=>by
  have:=W3y v
  rw [Z13,Q8s]
  simpa [V5o,cntV.cntVs] using this
 | d+1,v,path=>by
  rw [Z13]
  split
  ·rw [Q8s,Q8s v]
   have:=Z91 v.kids (fun i k=>Z13 all d k (path++[(i:Int)])) (fun i x _=>W2y d x _)
   simp only
   omega
  ·have:=W3y v
   rw [Q8s]
   simpa [V5o,cntV.cntVs] using this
theorem W4y {all:List (List Int)}{w:List Q4}(hww:w∈Q0r){t:Q7}(ht:t∈tys w){v:Q2}(h:Q9z w t v=true):Z9w w t (Z13 all 10 v [])=true:=by
 have hg:=W9f (all:=all) hww 10 t v [] ht (Q92 h)
 have hc:=W2y (all:=all) 10 v []
 unfold Q9z at h
 unfold Z9w
 simp only [Bool.and_eq_true,decide_eq_true_eq] at h ⊢
 exact ⟨(X40 10 t _).2 hg,by omega⟩
theorem X84 {all:List (List Int)} : ∀ (q:List Int) (d:Nat) (v x:Q2) (path:List Int),Z8b d v→(∀ j,j≤q.length→path++q.take j∈all)→Q6s v q=some x→∃ y,Q6s (Z13 all d v path) q=some y∧y.ctor=x.ctor∧y.n=x.n
 | [],d,v,x,path,hv,ha,hp=>by
  cases d with
  | zero=>exact hv.elim
  | succ d=>
   rw [Q6s,Option.some.injEq] at hp
   subst hp
   have h0:=ha 0 (by simp)
   rw [List.take_nil,List.append_nil] at h0
   rw [Z13,if_pos h0]
   exact ⟨_,rfl,rfl,rfl⟩
 | i::q,d,v,x,path,hv,ha,hp=>by
  cases d with
  | zero=>exact hv.elim
  | succ d=>
   have h0:=ha 0 (by simp)
   rw [List.take_zero,List.append_nil] at h0
   rw [Q6s,if_neg hv.1,U12] at hp
   obtain ⟨u,hu,hp⟩:=hp
   have hi:0≤i∧v.kids[i.toNat]?=some u:=by
    unfold idx at hu
    split at hu
    ·rename_i h;exact ⟨h,hu⟩
    ·cases hu
   obtain ⟨y,hy,h1,h2⟩:=X84 q d u x (path++[i]) (hv.2 u (U1 hi.2)) (fun j hj=>by
    have:=ha (j+1) (by simp only [U3];omega)
    rw [List.take_succ_cons] at this
    rwa [List.append_assoc]) hp
   refine ⟨y,?_,h1,h2⟩
   rw [Z13,if_pos h0,Q6s,if_neg (by simp only;exact hv.1)]
   have hg:(v.kids.mapIdx fun i k=>Z13 all d k (path++[(i:Int)]))[i.toNat]?=some (Z13 all d u (path++[i])):=by
    rw [List.getElem?_mapIdx,hi.2]
    simp only [Option.map_some,Int.toNat_of_nonneg hi.1]
   simp only
   rw [Z2p hi.1 hg]
   exact hy
theorem W8m {lst:List Q3}{all:List (List Int)}{e:Nat}{v:Q2}(hv:Z8b e v):∀ (d:Nat) (t:X0) (r:Int×List Int×Bool×List (List Int)),runP d t lst v=some r→r.2.2.1=false→(∀ p∈r.2.2.2,∀ j,j≤p.length→p.take j∈all)→runP d t lst (Z13 all e v [])=some r:=by
 intro d
 induction d with
 | zero=>intro t r h;cases h
 | succ d ih=>
  intro t r hp hn ha
  have hpart:∀ (p:List Int) (u:Q2),p∈r.2.2.2→Q6s v p=some u→∃ y,Q6s (Z13 all e v []) p=some y∧y.ctor=u.ctor∧y.n=u.n:=fun p u hpm hu=>X84 p e v u [] hv (fun j hj=>by rw [List.nil_append];exact ha p hpm j hj) hu
  rw [runP] at hp ⊢
  by_cases h2:t.op=2
  ·rw [if_pos h2] at hp ⊢
   rw [U12] at hp
   obtain ⟨u,hu,hp⟩:=hp
   by_cases hh:u.ctor = -2
   ·rw [if_pos hh] at hp
    cases hp
    cases hn
   ·rw [if_neg hh] at hp
    have hin:t.path∈r.2.2.2:=by
     cases hf:t.branches.find? (fun b=>W0 b u) with
     | none=>rw [hf] at hp;cases hp;simp
     | some br=>
      rw [hf] at hp
      simp only [U11] at hp
      obtain ⟨y,_,rfl⟩:=hp
      simp
    obtain ⟨x,hx,s1,s2⟩:=hpart t.path u hin hu
    rw [hx]
    simp only [U0]
    rw [if_neg (by rw [s1];exact hh)]
    have hfe:(fun b=>W0 b x)=(fun b=>W0 b u):=funext fun b=>by unfold W0;rw [s1,s2]
    rw [hfe]
    cases hf:t.branches.find? (fun b=>W0 b u) with
    | none=>rw [hf] at hp;exact hp
    | some br=>
     rw [hf] at hp
     simp only [U11] at hp ⊢
     obtain ⟨y,hy,rfl⟩:=hp
     exact ⟨y,ih _ y hy hn (fun p hp=>ha p (by simp [hp])),rfl⟩
  ·rw [if_neg h2] at hp ⊢
   by_cases h1:t.op=1
   ·rw [if_pos h1] at hp ⊢
    rw [U12] at hp
    obtain ⟨c,hc,hp⟩:=hp
    rw [hc]
    simp only [U0]
    by_cases hg0:c.guard.op=0
    ·rw [if_pos hg0] at hp ⊢
     exact hp
    ·rw [if_neg hg0] at hp ⊢
     cases hf:t.binds.find? (fun b=>decide (b.var=c.guard.var)) with
     | none=>rw [hf] at hp;cases hp
     | some bd=>
      rw [hf] at hp
      simp only [U12] at hp
      obtain ⟨u,hu,hp⟩:=hp
      by_cases hh:u.ctor = -2
      ·rw [if_pos hh] at hp
       cases hp
       cases hn
      ·rw [if_neg hh] at hp
       have hin:bd.path∈r.2.2.2:=by
        split at hp
        ·split at hp
         ·cases hp;simp
         ·split at hp
          ·simp only [U11] at hp
           obtain ⟨y,_,rfl⟩:=hp
           simp
          ·cases hp
        ·cases hp
       obtain ⟨x,hx,s1,s2⟩:=hpart bd.path u hin hu
       simp only
       rw [hx]
       simp only [U0]
       rw [if_neg (by rw [s1];exact hh)]
       have hge:J8 c.guard [⟨c.guard.var,x⟩]=J8 c.guard [⟨c.guard.var,u⟩]:=by
        unfold J8
        simp [s1,s2]
       rw [hge,s1]
       split at hp
       ·rename_i hi
        rw [if_pos hi]
        split at hp
        ·rename_i hg
         rw [if_pos hg]
         exact hp
        ·rename_i hg
         rw [if_neg hg]
         cases hel:t.else_ with
         | nil=>rw [hel] at hp;cases hp
         | cons el rest=>
          rw [hel] at hp
          simp only [U11] at hp ⊢
          obtain ⟨y,hy,rfl⟩:=hp
          exact ⟨y,ih _ y hy hn (fun p hp=>ha p (by simp [hp])),rfl⟩
       ·cases hp
   ·rw [if_neg h1] at hp ⊢
    exact hp
def Z1y (ps:List (List Int)):List (List Int):=ps.flatMap fun p=>(List.range (p.length+1)).map fun j=>p.take j
theorem V0l {ps:List (List Int)}{p:List Int}(hp:p∈ps){j:Nat}(hj:j≤p.length):p.take j∈Z1y ps:=
 List.mem_flatMap.2 ⟨p,hp,U10.2 ⟨j,List.mem_range.2 (by omega),rfl⟩⟩
theorem X8o:∀ {ps:List (List Int)},(∀ p∈ps,p.length≤1000)→(Z1y ps).length≤1001 * ps.length
 | [],_=>by simp [Z1y]
 | p::ps,h=>by
  have h1:=h p (by simp)
  have h2:=X8o (ps:=ps) fun x hx=>h x (by simp [hx])
  simp only [Z1y,List.flatMap_cons,U5,U7,List.length_range,U3] at h2 ⊢
  omega
theorem W5l {ps:List (List Int)}{k:Nat}{p:List Int}(h:ps[k]?=some p):Z1y (ps.take (k+1))=Z1y (ps.take k)++(List.range (p.length+1)).map fun j=>p.take j:=by
 unfold Z1y
 rw [Q93 h,List.flatMap_append]
 simp
theorem Z3h (l:List (List Int)):Q38 l l=some true:=by
 suffices hs:Ret (Q38 l l) (fun r=>r=true) by
  obtain ⟨_,e,rfl⟩:=hs
  exact e
 unfold Q38
 have e1:ieq (lenZ l.length) (lenZ l.length)=true:=by rw [Q9]
 simp only [e1,Bool.not_true,U2,if_false]
 refine Ret.ctl (Z5 l (fun _ _=>True) (fun _=>False) (fun _=>True) trivial (fun k x s hx _=>?_) (fun _ _=>trivial)) (fun r hr=>hr.elim) (fun _ _=>.some rfl)
 rw [Q0f hx]
 simp only [U0]
 rw [W0i]
 exact .some trivial
theorem Z98 (code:List Int)(hb:∀ x∈code,0≤x∧x≤255):Q23 NN code=some true:=by
 suffices hr:Ret (Q23 NN code) (fun r=>r=true) by
  obtain ⟨_,e,rfl⟩:=hr
  exact e
 unfold Q23
 refine Ret.ite (fun _=>.some rfl) (fun _=>?_)
 refine Ret.bind (P:=fun a=>a.1∈Q0r∧a.2.1∈tys a.1) ?_ (fun a ha=>?_)
 ·unfold Q3r
  exact Ret.bind (W6h code hb) (fun a ha=>.some ha)
 obtain ⟨w,t,l,pick,v⟩:=a
 obtain ⟨hww,ht⟩:=ha
 simp only at hww ht ⊢
 have hw:=ww hww
 obtain ⟨tr,ok,e1,e2,h1,h2,h3⟩:=(Q9d hww ht l pick).eq
 have z0:ieq (lenZ ([]:List (List Int)).length) 0=true:=rfl
 have zn:ilt (-1:Int) 0=true:=rfl
 unfold Q67 Q64 Q9i
 rw [e1,e2]
 simp only [U0]
 cases ok with
 | false=>
  simp only [Bool.not_false,if_true,U0]
  rw [Z3h]
  simp only [U0,Bool.not_true,U2,if_false,if_true,zn,z0]
  exact .some rfl
 | true=>
  simp only [Bool.not_true,U2,if_false]
  rw [Z3o hw ht v,Z8e hw ht v]
  simp only [U0]
  cases hv:Q9z w t v with
  | false=>
   simp only [Bool.not_false,if_true,U0]
   rw [Z3h]
   simp only [U0,Bool.not_true,U2,if_false,if_true,zn,z0]
   exact .some rfl
  | true=>
   have hg:=Q92 hv
   have hwh:=X3z hww 10 t v ht hg
   obtain ⟨k,hk⟩:=X6z hww ht e1 hg
   obtain ⟨q,hq⟩:=X7w hww ht e1 (V7y hww 10 t v ht hg)
   obtain ⟨g1,g2,g3⟩:=W4l hwh 300 tr _ _ k q hk hq
   have hop:=V3j _ _ _ _ ((Q9d hww ht l pick).tr tr e1)
   obtain ⟨u1,u2⟩:=W8l 300 tr q h2 hq
   simp only [Bool.not_true,U2,if_false]
   rw [W0y h2 hq g3,X78 h2 hop hq,V4j (Z1z hw 10 t v ht hg) h2 hk]
   simp only [U0]
   rw [W09 (by omega) u2]
   simp only [U0]
   rw [Z3h]
   have hk0:ilt (k:Int) 0=false:=by rw [W6];omega
   simp only [U0,Bool.not_true,U2,if_false,hk0]
   have hol:=X0p q.2.2.2 []
   rw [U4,Nat.zero_add] at hol
   have hop2:∀ p∈Q9n [] q.2.2.2,p.length≤1000:=fun p hp=>u2 p (by
    rcases (Z6k _ _).1 hp with h | h
    ·cases h
    ·exact h)
   refine Ret.ctl (Z5 (Q9n [] q.2.2.2) (fun i s=>s=Z1y ((Q9n [] q.2.2.2).take i)) (fun _=>False) (fun s=>s=Z1y (Q9n [] q.2.2.2)) (by simp [Z1y]) (fun i p s hi hI=>?_) (fun s hI=>by rwa [List.take_length] at hI)) (fun r hr=>hr.elim) (fun s hs=>?_)
   ·have hpl:=hop2 p (U1 hi)
    have hsl:s.length≤1001 * 300:=by
     rw [hI]
     have:=X8o (ps:=(Q9n [] q.2.2.2).take i) (fun x hx=>hop2 x (List.mem_of_mem_take hx))
     rw [U6] at this
     omega
    refine Ret.ctl (Q0y (fun u:List (List Int)×Int=>∃ j:Nat,j≤p.length+1∧u=(s++(List.range j).map (fun j=>p.take j),(j:Int))) (fun u=>(p.length+1-u.2).toNat) (fun _=>False) (fun u=>u.1=Z1y ((Q9n [] q.2.2.2).take (i+1))) ⟨0,by omega,by simp⟩ (fun u hu=>?_) NN (by simp only [NN];omega)) (fun r hr=>hr.elim) (fun u hu=>.some hu)
    obtain ⟨j,hj,rfl⟩:=hu
    dsimp only
    by_cases hjl:j≤p.length
    ·rw [if_pos (by rw [J6,V7];omega)]
     have htk:Q8w p (j:Int)=some (p.take j):=by
      unfold Q8w
      rw [if_pos ⟨by omega,by omega⟩]
      simp
     rw [htk]
     simp only [U0]
     rw [X6 (by simp only [U5,U7,List.length_range,U3,U4,Q5];omega),V9 (by omega) (by omega)]
     refine .some ⟨⟨j+1,by omega,?_⟩,by simp only;omega⟩
     rw [List.range_succ,List.map_append]
     simp
    ·rw [if_neg (by rw [J6,V7];omega)]
     refine .some ?_
     simp only [Z15]
     rw [W5l hi,hI,show j=p.length+1 by omega]
   ·dsimp only
    subst hs
    unfold Q7p Q74
    rw [X11 hw ht,V8e hww ht hv]
    simp only [U0,Bool.not_true,U2,if_false]
    rw [W0w (all:=Z1y (Q9n [] q.2.2.2)) 10 NN v [] (Z1z hw 10 t v ht hg) (by decide) (by simp)]
    simp only [U0]
    rw [e1]
    simp only [U0,Bool.not_true,U2,if_false]
    rw [X11 hw ht,W4y hww ht hv]
    simp only [U0,Bool.not_true,U2,if_false]
    have hqm:=W8m (all:=Z1y (Q9n [] q.2.2.2)) hwh 300 tr q hq g3 (fun p hp j hj=>V0l ((Z6k _ _).2 (.inr hp)) hj)
    rw [X8c (used:=fun a0=>Q5j a0) (fun _=>rfl) h2 hqm]
    simp only [U0,if_true,g3,Bool.not_false]
    rw [if_pos (by rw [Q9];exact g1)]
    obtain ⟨sw,s1,s2,s3,_⟩:=Y8s hwh 300 tr _ _ _ _ k q ((Q9d hww ht l pick).tr tr e1) (by simp) hk hq
    have:=X81 sw (Q9n [] q.2.2.2) s2 (fun p hp=>(Z6k _ _).2 (.inr (s3 p hp)))
    refine .some ?_
    rw [J6,V7]
    omega
end Go.Proofs.YtfhpjeogjcfkaaaGreat
