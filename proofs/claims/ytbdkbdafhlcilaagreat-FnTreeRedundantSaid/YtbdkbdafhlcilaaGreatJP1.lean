import Derived.Test.YtbdkbdafhlcilaaGreatJP0
import Derived.Test.YtbdkbdafhlcilaaGreatJZ0
set_option linter.unusedSimpArgs false
set_option linter.unusedVariables false
namespace Go.Proofs.YtbdkbdafhlcilaaGreat
open Go Go.RowKit
def PatC (w:List Q3)(t:Q2)(p:Q0):Prop:=J6 w 12 t p=true∧X1v 12 p∧(p.op=1∨p.op=3∨p.op=4)
def PatO (w:List Q3)(t:Q2)(p:Q0):Prop:=J6 w 12 t p=true∧X1v 12 p
def X1e (r:Grow):List Int:=r.binds.map (·.var)++r.pats.flatMap Q5m
theorem Q9f:∀ (d:Nat) (p:Q0),X1v d p→X1v (d+1) p:=by
 intro d
 induction d with
 | zero=>intro p h;exact h.elim
 | succ d ih=>intro p h;exact ⟨h.1,fun x hx=>ih x (h.2 x hx)⟩
theorem X3j (w:List Q3)(t:Q2):PatC w t anyP:=by
 refine ⟨?_,?_,.inl rfl⟩
 ·simp [J6,Q5k,Z0j,V5,anyP]
 ·simp [X1v,anyP]
theorem X3i {w:List Q3}{t:Q2}{p:Q0}(h:PatO w t p){k:Nat}{a:Q2}{q:Q0}(h1:(V5 w t p)[k]?=some a)(h2:p.kids[k]?=some q):PatO w a q:=
 ⟨Q5x 11 a q (Q06 h.1 h1 h2),Q9f 11 q (h.2.2 q (U1 h2))⟩
theorem Z4c {w:List Q3}{t:Q2}{p:Q0}(h:Q5k w t p=true)(h4:p.op≠4)(h5:p.op≠5)(h6:p.op≠6):p.kids=[]:=by
 have:=(Q0y h).2
 rw [V5,if_neg h4,if_neg h5,if_neg h6] at this
 exact List.eq_nil_of_length_eq_zero this
theorem Z38 {w:List Q3}{t:Q2}{p:Q0}(h:Q5k w t p=true):p.op=1∨p.op=2∨p.op=5∨p.op=6∨(p.op=3∧t.data = -1∧0≤p.n∧p.n≤p.m∧p.m≤9)∨(p.op=4∧p.ctor∈X1 w t):=by
 have h:=(Q0y h).1
 simp only [Z0j,Bool.and_eq_true,Bool.or_eq_true,decide_eq_true_eq] at h
 rcases h.2 with (h | h) | h
 ·omega
 ·exact .inr (.inr (.inr (.inr (.inl ⟨h.1.1.1.1,h.1.1.1.2,h.1.1.2,h.1.2,h.2⟩))))
 ·exact .inr (.inr (.inr (.inr (.inr h))))
theorem V5i {w:List Q3}{t:Q2}{path:List Int} : ∀ (d:Nat) (p:Q0),asOk d p→PatO w t p→PatC w t (Q2r d p path).2∧((Q2r d p path).1.map (·.var)++Q5m (Q2r d p path).2)=Q5m p∧∀ b∈(Q2r d p path).1,b.path=path:=by
 intro d
 induction d with
 | zero=>intro p h;exact h.elim
 | succ d ih=>
  intro p has h
  rw [Q3c]
  have hn:=Q04 h.1
  by_cases h6:p.op=6
  ·obtain ⟨q,hq,hd⟩:=has h6
   rw [if_pos h6,hq]
   simp only [List.headD_cons]
   have hk:PatO w t q:=X3i h (k:=0) (a:=t) (by rw [V5,if_neg (by rw [h6];decide),if_neg (by rw [h6];decide),if_pos h6];rfl) (by rw [hq];rfl)
   obtain ⟨i1,i2,i3⟩:=ih q hd hk
   refine ⟨i1,?_,fun b hb=>?_⟩
   ·rw [Z0t p,if_pos (.inr h6),hq,Q7r,List.map_cons,List.cons_append,i2]
    simp
   ·rcases U8.1 hb with rfl | hb
    ·rfl
    ·exact i3 b hb
  ·rw [if_neg h6]
   by_cases h2:p.op=2
   ·rw [if_pos h2]
    refine ⟨X3j w t,?_,fun b hb=>?_⟩
    ·rw [Z0t p,if_pos (.inl h2),Z4c hn (by omega) (by omega) (by omega),X5h]
     simp [Q5m.varsSs]
    ·simp only [U8,List.not_mem_nil,or_false] at hb
     rw [hb]
   ·rw [if_neg h2]
    refine ⟨⟨h.1,h.2,?_⟩,by simp,by simp⟩
    have h5:=h.2.1
    rcases Z38 hn with h1 | h1 | h1 | h1 | h1 | h1
    ·exact .inl h1
    ·exact absurd h1 h2
    ·exact absurd h1 h5
    ·exact absurd h1 h6
    ·exact .inr (.inl h1.1)
    ·exact .inr (.inr h1.1)
theorem Z91 {w:List Q3}{t:Q2}{p:Q0}(path:List Int)(h:PatO w t p):PatC w t (Q79 p path).2∧((Q79 p path).1.map (·.var)++Q5m (Q79 p path).2)=Q5m p∧∀ b∈(Q79 p path).1,b.path=path:=
 V5i 12 p (X03 12 t p h.1) h
structure BrC (w:List Q3) (t:Q2) (b:Z2):Prop where
 int:t.data = -1→b.ctor = -1
 ctor:t.data≠-1→b.ctor∈X1 w t∧b.ctor≠-1
theorem Z0n (cut:Int→Bool):∀ (m:Nat) (n fr:Int),∀ b∈Z2w cut m n fr,b.ctor = -1
 | 0,_,_,b,h=>by simp [Z2w] at h
 | m+1,n,fr,b,h=>by
  unfold Z2w at h
  split at h
  ·rcases U8.1 h with rfl | h
   ·rfl
   ·exact Z0n cut m _ _ b h
  ·exact Z0n cut m _ _ b h
theorem Y38 {w:List Q3}(hL:WL w){t:Q2}(ht:t∈tys w){rows:List Grow}{k:Nat} : ∀ b∈brsD w rows t k,BrC w t b:=fun b hb=>by
 unfold brsD at hb
 split at hb
 ·rename_i hd
  exact ⟨fun _=>Z0n _ _ _ _ b hb,fun h=>absurd hd h⟩
 ·rename_i hd
  obtain ⟨x,hx,rfl⟩:=U11.1 hb
  have hx:=(List.mem_filter.1 hx).1
  exact ⟨fun h=>absurd h hd,fun _=>⟨hx,hL.pos t ht hd x hx⟩⟩
theorem W7m {w:List Q3}(hS:WS w){t:Q2}(ht:t∈tys w){p:Q0}(h:PatC w t p){b:Z2}(hb:BrC w t b)(hf:Q5n p b=true){col:Z5}(hc:col.t=t) :
  (Q3n p (J7 w col b)).length=(J7 w col b).length∧(∀ (i:Nat) (x:Q0) (c:Z5),(Q3n p (J7 w col b))[i]?=some x→(J7 w col b)[i]?=some c→PatO w c.t x)∧(Q3n p (J7 w col b)).flatMap Q5m=Q5m p:=by
 have hn:=Q04 h.1
 by_cases h1:p.op=1
 ·have hk:Q3n p (J7 w col b)=(J7 w col b).map fun _=>anyP:=by rw [Q3n,if_pos h1]
  rw [hk]
  refine ⟨by simp,fun i x c hx _=>?_,?_⟩
  ·rw [List.getElem?_map,U12] at hx
   obtain ⟨_,_,rfl⟩:=hx
   exact ⟨(X3j w c.t).1,(X3j w c.t).2.1⟩
  ·rw [Z0t p,if_neg (by omega),Z4c hn (by omega) (by omega) (by omega)]
   generalize J7 w col b=l
   induction l with
   | nil=>rfl
   | cons a l ih=>rw [List.map_cons,List.flatMap_cons,ih,X5h];rfl
 ·have hk:Q3n p (J7 w col b)=p.kids:=by rw [Q3n,if_neg h1]
  rw [hk]
  have hv:p.kids.flatMap Q5m=Q5m p:=by
   rw [Z0t p,if_neg (by rcases h.2.2 with h | h | h<;>omega),Q7r];rfl
  by_cases h3:p.op=3
  ·have hd:t.data = -1:=by rcases Z38 hn with h | h | h | h | h | h<;>first | omega | exact h.2.1
   have ha:J7 w col b=[]:=by unfold J7;rw [if_pos (hb.int hd)]
   have hk0:=Z4c hn (by omega) (by omega) (by omega)
   rw [ha,hk0]
   exact ⟨rfl,fun i x c hx _=>by simp at hx,by rw [←hv,hk0]⟩
  ·have h4:p.op=4:=by rcases h.2.2 with h | h | h<;>omega
   have hct:p.ctor∈X1 w t:=Q9t (Q0y hn).1 h4
   have hd:t.data≠-1:=fun hd=>by rw [hS.int t ht hd] at hct;cases hct
   have hfc:p.ctor=b.ctor:=by simpa [Q5n,h1,h3] using hf
   have hkt:V5 w t p=X4 w t b.ctor:=by rw [V5,if_pos h4,hfc]
   refine ⟨?_,fun i x c hx hc'=>?_,hv⟩
   ·rw [Q7p,if_neg (hb.ctor hd).2,(Q0y hn).2,hkt,hc]
   ·have hil:i<(X4 w col.t b.ctor).length:=by
     have:=(List.getElem?_eq_some_iff.1 hc').1
     rw [Q7p,if_neg (hb.ctor hd).2] at this
     exact this
    have hti:(X4 w col.t b.ctor)[i]?=some ((X4 w col.t b.ctor)[i]):=U10 hil
    have:=Z6e (col:=col) (hb.ctor hd).2 hti
    rw [this] at hc'
    cases hc'
    exact X3i ⟨h.1,h.2.1⟩ (by rw [hkt,←hc];exact hti) hx
structure RowC (w:List Q3) (lst:List Q5) (cols:List Z5) (r:Grow):Prop where
 len:r.pats.length=cols.length
 pat:∀ x∈cols.zip r.pats,PatC w x.1.t x.2
 nd:(X1e r).Nodup
 rg:∀ v∈X1e r,0≤v∧v≤5
 c0:0≤r.clause
 c1:r.clause<lst.length
 bp:∀ b∈r.binds,b.path.length≤1000
structure ColC (w:List Q3) (cols:List Z5) (left:Nat):Prop where
 ty:∀ c∈cols,c.t∈tys w
 path:∀ c∈cols,c.path.length+left≤300
 len:cols.length+2 * left≤601
theorem RowC.at {w:List Q3}{lst:List Q5}{cols:List Z5}{r:Grow}(h:RowC w lst cols r){k:Nat}{col:Z5}(hk:cols[k]?=some col):k<r.pats.length∧PatC w col.t (W3 r k):=by
 have hlt:k<r.pats.length:=by rw [h.len];exact (List.getElem?_eq_some_iff.1 hk).1
 have hp:r.pats[k]?=some (W3 r k):=by unfold W3;rw [U10 hlt];rfl
 exact ⟨hlt,h.pat (col,W3 r k) (U1 (Q8y hk hp))⟩
theorem RowC.binds {w:List Q3}{lst:List Q5}{cols:List Z5}{r:Grow}(h:RowC w lst cols r):(r.binds.map (·.var)).Nodup∧(∀ b∈r.binds,0≤b.var∧b.var≤5)∧r.binds.length≤6:=by
 have h1:=(List.nodup_append.1 h.nd).1
 have h2:∀ b∈r.binds,0≤b.var∧b.var≤5:=fun b hb=>h.rg b.var (by unfold X1e;exact List.mem_append_left _ (List.mem_map_of_mem hb))
 refine ⟨h1,h2,?_⟩
 have h3:=Z0z 6 (r.binds.map (·.var)) h1 (fun x hx=>by
  obtain ⟨b,hb,rfl⟩:=U11.1 hx
  have:=h2 b hb
  omega)
 simpa using h3
theorem RowC.rng {w:List Q3}{lst:List Q5}{cols:List Z5}{rows:List Grow}(h:∀ r∈rows,RowC w lst cols r){k:Nat}(hk:k<cols.length):W0i rows k:=fun r hr=>by
 have hc:cols[k]?=some (cols[k]):=U10 hk
 obtain ⟨h1,h2⟩:=(h r hr).at hc
 refine ⟨h1,fun h3=>?_⟩
 rcases Z38 (Q04 h2.1) with h | h | h | h | h | h<;>first | omega | skip
theorem RowC.kept {w:List Q3}(hw:WW w)(hS:WS w){lst:List Q5}{cols:List Z5}{left:Nat}(hC:ColC w cols left){r:Grow}(h:RowC w lst cols r){k:Nat}{col:Z5}(hk:cols[k]?=some col){b:Z2}(hb:BrC w col.t b) :
  W2r r k b (J7 w col b):=by
 have hct:=hC.ty col (U1 hk)
 have hT:=hw.ty _ hct
 obtain ⟨h1,h2⟩:=h.at hk
 have hlen:=hC.len
 have hpl:=hC.path col (U1 hk)
 have hal:(J7 w col b).length≤3:=by
  rw [Q7p]
  split
  ·omega
  ·rename_i hne
   by_cases hd:col.t.data = -1
   ·exact absurd (hb.int hd) hne
   ·exact hT.al _ (hb.ctor hd).1
 refine ⟨h1,fun hf=>(W7m hS hct h2 hb hf rfl).1,fun x hx=>?_,?_,hal,fun c hc=>?_,by have:=h.binds.2.2;omega,by rw [h.len];omega⟩
 ·by_cases h1:(W3 r k).op=1
  ·rw [Q3n,if_pos h1] at hx
   obtain ⟨_,_,rfl⟩:=U11.1 hx
   exact fun h6=>absurd h6 (by decide)
  ·rw [Q3n,if_neg h1] at hx
   obtain ⟨i,hi⟩:=List.getElem?_of_mem hx
   have hil:=(List.getElem?_eq_some_iff.1 hi).1
   have hln:=(Q0y (Q04 h2.1)).2
   have hti:(V5 w col.t (W3 r k))[i]?=some ((V5 w col.t (W3 r k))[i]'(by omega)):=U10 (by omega)
   have:=X3i ⟨h2.1,h2.2.1⟩ hti hi
   exact X03 12 _ _ this.1
 ·rcases h2.2.2 with h | h | h
  ·exact .inl h
  ·refine .inr (.inl ⟨h,?_⟩)
   have hd:col.t.data = -1:=by rcases Z38 (Q04 h2.1) with h | h | h | h | h | h<;>first | omega | exact h.2.1
   unfold J7
   rw [if_pos (hb.int hd)]
  ·exact .inr (.inr h)
 ·unfold J7 at hc
  split at hc
  ·cases hc
  ·obtain ⟨i,hi⟩:=List.getElem?_of_mem hc
   rw [List.getElem?_mapIdx,U12] at hi
   obtain ⟨_,_,rfl⟩:=hi
   simp only [U5,U3,U4]
   omega
theorem V59 {α β:Type}{a1 a2 a3:List α}{b1 b2 b3:List β}(h1:a1.length=b1.length)(h2:a2.length=b2.length):(a1++a2++a3).zip (b1++b2++b3)=a1.zip b1++a2.zip b2++a3.zip b3:=by
 rw [List.zip_append (by simp [h1,h2]),List.zip_append h1]
theorem W0l {α β:Type} : ∀ (a:List α) (b:List β) (k:Nat),(a.take k).zip (b.take k)=(a.zip b).take k
 | [],_,_=>by simp
 | _::_,[],_=>by simp
 | _::_,_::_,0=>by simp
 | x::a,y::b,k+1=>by simp [W0l a b k]
theorem W0m {α β:Type} : ∀ (a:List α) (b:List β) (k:Nat),(a.drop k).zip (b.drop k)=(a.zip b).drop k
 | [],_,_=>by simp
 | _::_,[],_=>by simp
 | _::_,_::_,0=>by simp
 | x::a,y::b,k+1=>by simp [W0m a b k]
theorem X5c {w:List Q3} : ∀ (ks:List Q0) (args:List Z5),ks.length=args.length→(∀ (i:Nat) (x:Q0) (c:Z5),ks[i]?=some x→args[i]?=some c→PatO w c.t x)→
  (((zipS ks args).flatMap (·.1)).map (·.var)++((zipS ks args).map (·.2)).flatMap Q5m).Perm (ks.flatMap Q5m)
 | [],[],_,_=>by simp [zipS]
 | [],_::_,h,_=>by simp at h
 | _::_,[],h,_=>by simp at h
 | p::ks,c::args,hl,h=>by
  have h0:=(Z91 c.path (h 0 p c rfl rfl)).2.1
  have ih:=X5c ks args (by simpa using hl) fun i x c h1 h2=>h (i+1) x c (by simpa using h1) (by simpa using h2)
  have e:zipS (p::ks) (c::args)=Q79 p c.path::zipS ks args:=rfl
  rw [e,List.flatMap_cons,List.map_cons,List.flatMap_cons,List.flatMap_cons,List.map_append,←h0]
  generalize (Q79 p c.path).1.map (·.var)=A
  generalize Q5m (Q79 p c.path).2=B
  generalize ((zipS ks args).flatMap (·.1)).map (·.var)=A' at *
  generalize ((zipS ks args).map (·.2)).flatMap Q5m=B' at *
  rw [List.append_assoc,List.append_assoc]
  refine List.Perm.append_left A ?_
  refine List.Perm.trans ?_ (List.Perm.append_left B ih)
  rw [←List.append_assoc,←List.append_assoc]
  exact List.Perm.append_right _ List.perm_append_comm
theorem RowC.next {w:List Q3}(hw:WW w)(hS:WS w){lst:List Q5}{cols:List Z5}{left:Nat}(hC:ColC w cols left){r:Grow}(h:RowC w lst cols r){k:Nat}{col:Z5}(hk:cols[k]?=some col){b:Z2}(hb:BrC w col.t b)(hf:Q5n (W3 r k) b=true) :
  RowC w lst (Q81 cols k (J7 w col b)) (Q8k r k (J7 w col b)):=by
 have hct:=hC.ty col (U1 hk)
 obtain ⟨h1,h2⟩:=h.at hk
 obtain ⟨k1,k2,k3⟩:=W7m hS hct h2 hb hf (rfl:col.t=col.t)
 have hkl:k<cols.length:=(List.getElem?_eq_some_iff.1 hk).1
 have hlen:=h.len
 generalize hks:Q3n (W3 r k) (J7 w col b)=ks at *
 generalize hargs:J7 w col b=args at *
 have hzl:(zipS ks args).length=args.length:=by rw [zipS,List.length_zipWith,k1,Nat.min_self]
 have hvp:(X1e (Q8k r k args)).Perm (X1e r):=by
  unfold X1e Q8k
  rw [hks]
  have hp:r.pats=r.pats.take k++W3 r k::r.pats.drop (k+1):=by
   conv=>lhs;rw [←List.take_append_drop k r.pats]
   rw [List.drop_eq_getElem_cons h1]
   congr 2
   unfold W3
   rw [U10 h1];rfl
  conv=>rhs;rw [hp]
  simp only [List.map_append,List.flatMap_append,List.flatMap_cons]
  have hz:=X5c ks args k1 k2
  rw [k3] at hz
  generalize ((zipS ks args).flatMap (·.1)).map (·.var)=A at *
  generalize ((zipS ks args).map (·.2)).flatMap Q5m=B at *
  generalize (r.pats.take k).flatMap Q5m=X
  generalize (r.pats.drop (k+1)).flatMap Q5m=Y
  rw [List.append_assoc]
  refine List.Perm.append_left _ ?_
  have e1:(A++(X++B++Y)).Perm (X++(A++B)++Y):=by
   rw [←List.append_assoc,←List.append_assoc,←List.append_assoc]
   refine List.Perm.append_right _ (List.Perm.append_right _ List.perm_append_comm)
  have e2:(X++(A++B)++Y).Perm (X++Q5m (W3 r k)++Y):=List.Perm.append_right _ (List.Perm.append_left _ hz)
  refine (e1.trans e2).trans ?_
  rw [List.append_assoc]
 refine ⟨?_,fun x hx=>?_,hvp.nodup_iff.2 h.nd,fun v hv=>h.rg v (hvp.mem_iff.1 hv),h.c0,h.c1,fun x hx=>?_⟩
 ·simp only [Q8k,Q81,hks,U5,U6,List.length_drop,U7,hzl]
  omega
 ·simp only [Q8k,Q81,hks] at hx
  rw [V59 (by rw [U6,U6,hlen]) (by rw [U7,hzl]),W0l,W0m] at hx
  rcases U9.1 hx with hx | hx
  ·rcases U9.1 hx with hx | hx
   ·exact h.pat x (List.mem_of_mem_take hx)
   ·obtain ⟨i,hi⟩:=List.getElem?_of_mem hx
    rw [List.getElem?_zip_eq_some,List.getElem?_map,U12] at hi
    obtain ⟨hi1,z,hi2,hi3⟩:=hi
    have hil:i<ks.length:=by rw [k1];exact (List.getElem?_eq_some_iff.1 hi1).1
    have hki:ks[i]?=some (ks[i]):=U10 hil
    rw [Z8h hki hi1] at hi2
    cases hi2
    rw [←hi3]
    exact (Z91 x.1.path (k2 i _ _ hki hi1)).1
  ·exact h.pat x (List.mem_of_mem_drop hx)
 ·simp only [Q8k,hks] at hx
  rcases U9.1 hx with hx | hx
  ·exact h.bp x hx
  ·obtain ⟨z,hz,hxz⟩:=List.mem_flatMap.1 hx
   obtain ⟨i,hi⟩:=List.getElem?_of_mem hz
   have hil:i<args.length:=by rw [←hzl];exact (List.getElem?_eq_some_iff.1 hi).1
   have hki:ks[i]?=some (ks[i]'(by omega)):=U10 (by omega)
   have hai:args[i]?=some (args[i]):=U10 hil
   rw [Z8h hki hai] at hi
   cases hi
   rw [(Z91 _ (k2 i _ _ hki hai)).2.2 x hxz]
   have hK:=(RowC.kept hw hS hC h hk hb).ap
   rw [hargs] at hK
   have hpl:=hC.path col (U1 hk)
   have hm:args[i]∈J7 w col b:=by rw [hargs];exact List.getElem_mem _
   unfold J7 at hm
   split at hm
   ·cases hm
   ·obtain ⟨j,hj⟩:=List.getElem?_of_mem hm
    rw [List.getElem?_mapIdx,U12] at hj
    obtain ⟨_,_,hj⟩:=hj
    rw [←hj]
    simp only [U5,U3,U4]
    omega
theorem ColC.next {w:List Q3}(hw:WW w){cols:List Z5}{left:Nat}(hC:ColC w cols (left+1)){k:Nat}{col:Z5}(hk:cols[k]?=some col){b:Z2}(hb:BrC w col.t b):ColC w (Q81 cols k (J7 w col b)) left:=by
 have hct:=hC.ty col (U1 hk)
 have hT:=hw.ty _ hct
 have hkl:k<cols.length:=(List.getElem?_eq_some_iff.1 hk).1
 have hlen:=hC.len
 have hpl:=hC.path col (U1 hk)
 have harg:∀ c∈J7 w col b,c.t∈tys w∧c.path.length=col.path.length+1:=fun c hc=>by
  unfold J7 at hc
  split at hc
  ·cases hc
  ·rename_i hne
   have hd:col.t.data≠-1:=fun hd=>hne (hb.int hd)
   obtain ⟨i,hi⟩:=List.getElem?_of_mem hc
   rw [List.getElem?_mapIdx,U12] at hi
   obtain ⟨a,ha,rfl⟩:=hi
   exact ⟨hT.at_ _ (hb.ctor hd).1 a (U1 ha),by simp⟩
 have hal:(J7 w col b).length≤3:=by
  rw [Q7p]
  split
  ·omega
  ·rename_i hne
   by_cases hd:col.t.data = -1
   ·exact absurd (hb.int hd) hne
   ·exact hT.al _ (hb.ctor hd).1
 have hmem:∀ c∈Q81 cols k (J7 w col b),c∈cols∨c∈J7 w col b:=fun c hc=>by
  unfold Q81 at hc
  rcases U9.1 hc with hc | hc
  ·rcases U9.1 hc with hc | hc
   ·exact .inl (List.mem_of_mem_take hc)
   ·exact .inr hc
  ·exact .inl (List.mem_of_mem_drop hc)
 refine ⟨fun c hc=>?_,fun c hc=>?_,?_⟩
 ·rcases hmem c hc with h | h
  ·exact hC.ty c h
  ·exact (harg c h).1
 ·rcases hmem c hc with h | h
  ·have:=hC.path c h;omega
  ·have:=(harg c h).2;omega
 ·simp only [Q81,U5,U6,List.length_drop]
  omega
def CI (w:List Q3)(lst:List Q5)(pick:Int)(left:Int):X0:=⟨⟨w,dimP w⟩,lst,pick,300-left⟩
def Z0u (t:V4):List V4:=t.branches.map (fun b=>b.tree)++t.else_
def Z68:Nat→V4→Prop
 | 0,_=>False
 | d+1,t=>(t.binds.length≤1000∧(∀ b∈t.binds,b.path.length≤1000)∧t.path.length≤1000∧t.branches.length≤20∧t.else_.length≤1)∧∀ x∈Z0u t,Z68 d x
def Z29:Nat→V4→Nat
 | 0,_=>0
 | d+1,t=>1+((Z0u t).map (Z29 d)).sum
theorem W4y:∀ {d e:Nat} {t:V4},Z68 d t→d≤e→Z68 e t:=by
 intro d
 induction d with
 | zero=>intro e t h;exact h.elim
 | succ d ih=>
  intro e t h he
  obtain ⟨e,rfl⟩:∃ k,e=k+1:=⟨e-1,by omega⟩
  exact ⟨h.1,fun x hx=>ih (h.2 x hx) (by omega)⟩
theorem V1d:∀ {d e:Nat} {t:V4},Z68 d t→d≤e→Z29 e t=Z29 d t:=by
 intro d
 induction d with
 | zero=>intro e t h;exact h.elim
 | succ d ih=>
  intro e t h he
  obtain ⟨e,rfl⟩:∃ k,e=k+1:=⟨e-1,by omega⟩
  unfold Z29
  rw [List.map_congr_left fun x hx=>ih (h.2 x hx) (show d≤e by omega)]
def brsR (P:Z2→V4→Prop):List Z2→List Z2→Prop
 | [],[]=>True
 | b::bs,x::xs=>(x.ctor=b.ctor∧x.n=b.n∧x.m=b.m∧P b x.tree)∧brsR P bs xs
 | _,_=>False
theorem X7u {P Q:Z2→V4→Prop}(h:∀ b t,P b t→Q b t):∀ {bs xs:List Z2},brsR P bs xs→brsR Q bs xs
 | [],[],_=>trivial
 | [],_::_,e=>e.elim
 | _::_,[],e=>e.elim
 | _::_,_::_,⟨⟨e1,e2,e3,e4⟩,e5⟩=>⟨⟨e1,e2,e3,h _ _ e4⟩,X7u h e5⟩
def Z1t (w:List Q3)(lst:List Q5)(pick:Int):Nat→V4→List Grow→List Z5→Prop
 | 0,_,_,_=>False
 | d+1,t,rows,cols=>match rows with
  | []=>t=zT
  | r0::rest=>match Z1y w (r0::rest) cols pick with
   | none=>t.op=1∧t.clause=r0.clause∧t.binds=Z56 r0.binds∧t.path=[]∧t.branches=[]∧∃ cl,lst[r0.clause.toNat]?=some cl∧
     ((cl.guard.op=0∧t.else_=[])∨(cl.guard.op≠0∧∃ el,t.else_=[el]∧Z1t w lst pick d el (Q4j (r0::rest) r0.clause) cols))
   | some k=>∃ col,cols[k]?=some col∧t.op=2∧t.clause=0∧t.binds=[]∧t.path=col.path∧t.else_=[]∧
     brsR (fun b x=>Z1t w lst pick d x (Q6c (r0::rest) k b (J7 w col b)) (Q81 cols k (J7 w col b))) (brsD w (r0::rest) col.t k) t.branches
theorem W2y {w:List Q3}{lst:List Q5}{pick:Int} : ∀ {d e:Nat} {t:V4} {rows:List Grow} {cols:List Z5},d≤e→Z1t w lst pick d t rows cols→Z1t w lst pick e t rows cols:=by
 intro d
 induction d with
 | zero=>intro e t rows cols _ h;exact h.elim
 | succ d ih=>
  intro e t rows cols he h
  obtain ⟨e,rfl⟩:∃ k,e=k+1:=⟨e-1,by omega⟩
  cases rows with
  | nil=>exact h
  | cons r0 rest=>
   simp only [Z1t] at h ⊢
   cases hp:Z1y w (r0::rest) cols pick with
   | none=>
    rw [hp] at h
    simp only at h ⊢
    obtain ⟨h1,h2,h3,h4,h5,cl,h6,h7⟩:=h
    refine ⟨h1,h2,h3,h4,h5,cl,h6,?_⟩
    rcases h7 with h7 | ⟨h7,el,h8,h9⟩
    ·exact .inl h7
    ·exact .inr ⟨h7,el,h8,ih (by omega) h9⟩
   | some k=>
    rw [hp] at h
    simp only at h ⊢
    obtain ⟨col,h1,h2,h3,h4,h5,h6,h7⟩:=h
    exact ⟨col,h1,h2,h3,h4,h5,h6,X7u (fun b t h=>ih (by omega) h) h7⟩
def Both (w:List Q3)(lst:List Q5)(pick:Int)(tot:Nat)(Q:V4→Prop)(x:Option (V4×Bool×X0))(y:Option (V4×Int)):Prop:=
 ∃ ti ok c ts e,x=some (ti,ok,c)∧y=some (ts,e)∧((ok=true∧ti=ts∧∃ l:Nat,e=(l:Int)∧c=CI w lst pick (l:Int)∧Z68 tot ti∧Z29 tot ti+l=tot∧Q ti)∨(ok=false∧e<0))
theorem V2x {n:Int}(h0:0≤n)(h:n≤100000):Q2y n=some []:=by
 unfold Q2y
 have e:ilt n 0=false:=by rw [X7];exact h0
 have e0:wsub .i64 0 (lenZ 0)=0:=rfl
 have e1:wsub .i64 n 0=n:=by rw [Q2m]<;>omega
 simp only [e,U2,if_false,e0,e1]
 by_cases hn:0<n
 ·have e2:ilt 0 n=true:=by rw [Z9];exact hn
  have e3:mkS n (Z5.mk [] (Q2.mk 0 0))=some (List.replicate n.toNat (Z5.mk [] (Q2.mk 0 0))):=by
   unfold mkS;rw [if_pos ⟨h0,by simp [Q6];omega⟩]
  rw [if_pos e2,e3]
  rfl
 ·have e2:ilt 0 n=false:=by rw [X7];omega
  rw [if_neg (by rw [e2];simp)]
  rfl
theorem W91 {a b c:List Z5}(h:a.length+b.length+c.length≤100000):Q2d [a,b,c]=some (a++b++c):=by
 unfold Q2d
 have hA:wadd .i64 0 (lenZ a.length)=(a.length:Int):=by rw [V7]<;>simp only [lenZ]<;>omega
 have hB:wadd .i64 (a.length:Int) (lenZ b.length)=(a.length:Int)+b.length:=by rw [V7]<;>simp only [lenZ]<;>omega
 have hC:wadd .i64 ((a.length:Int)+b.length) (lenZ c.length)=(a.length:Int)+b.length+c.length:=by rw [V7]<;>simp only [lenZ]<;>omega
 have l1:ilt (a.length:Int) 0=false:=by rw [X7];omega
 have l2:ilt ((a.length:Int)+b.length) 0=false:=by rw [X7];omega
 have l3:ilt ((a.length:Int)+b.length+c.length) 0=false:=by rw [X7];omega
 simp only [forL,hA,hB,hC,l1,l2,l3,U2,if_false,U0]
 rw [V2x (by omega) (by omega)]
 simp only [U0]
 rw [X2 (by simp [Q6];omega)]
 simp only [U0,List.nil_append]
 rw [X2 (by simp only [Q6];omega)]
 simp only [U0]
 rw [X2 (by simp only [U5,Q6];omega)]
 rfl
theorem W9d {w:List Q3}{lst:List Q5}{pick:Int}{ρ:Type}{F:Nat→Z2→X0×List Z2→Option (Ctl (V4×Bool×X0) (X0×List Z2))}{G:Nat→Z2→Int×List Z2→Option (Ctl ρ (Int×List Z2))}{L:Nat}{brs:List Z2}{P:Z2→V4→Prop}
  (hFG:∀ b∈brs,∀ (i j l:Nat) (out:List Z2),l≤L→out.length≤20→
   (∃ (t:V4) (l':Nat),(Z68 L t∧Z29 L t+l'=l∧P b t)∧F i b (CI w lst pick l,out)=some (.go (CI w lst pick l',out++[⟨b.ctor,b.n,b.m,t⟩]))∧G j b ((l:Int),out)=some (.go ((l':Int),out++[⟨b.ctor,b.n,b.m,t⟩])))∨
   (∃ (c:X0) (e:Int) (out':List Z2),e<0∧F i b (CI w lst pick l,out)=some (.ret (zT,false,c))∧G j b ((l:Int),out)=some (.go (e,out'))))
  (hG:∀ (j:Nat) (b:Z2) (e:Int) (out:List Z2),e<0→G j b (e,out)=some (.brk (e,out))) :
  ∀ (bs:List Z2),(∀ b∈bs,b∈brs)→∀ (i j l:Nat) (out:List Z2),l≤L→out.length+bs.length≤20→
   (∃ (l':Nat) (out':List Z2),((∀ b∈out',b∈out∨Z68 L b.tree)∧(out'.map fun b=>Z29 L b.tree).sum+l'=(out.map fun b=>Z29 L b.tree).sum+l∧out'.length≤out.length+bs.length∧∃ ys,out'=out++ys∧brsR P bs ys)∧forL F i bs (CI w lst pick l,out)=some (.brk (CI w lst pick l',out'))∧forL G j bs ((l:Int),out)=some (.brk ((l':Int),out')))∨
   (∃ (c:X0) (e:Int) (out':List Z2),e<0∧forL F i bs (CI w lst pick l,out)=some (.ret (zT,false,c))∧forL G j bs ((l:Int),out)=some (.brk (e,out'))):=by
 intro bs
 induction bs with
 | nil=>intro _ i j l out hl _;exact .inl ⟨l,out,⟨fun b h=>.inl h,rfl,by simp,[],by simp,trivial⟩,rfl,rfl⟩
 | cons b bs ih=>
  intro hm i j l out hl hlen
  simp only [U3] at hlen
  rcases hFG b (hm b (by simp)) i j l out hl (by omega) with ⟨t,l',hl',e1,e2⟩ | ⟨c,e,out',he,e1,e2⟩
  ·unfold forL
   rw [e1,e2]
   rcases ih (fun x hx=>hm x (by simp [hx])) (i+1) (j+1) l' (out++[⟨b.ctor,b.n,b.m,t⟩]) (by omega) (by simp;omega) with ⟨l2,out',⟨h1,h2,h3,ys,h6,h7⟩,h4,h5⟩ | h
   ·refine .inl ⟨l2,out',⟨fun x hx=>?_,?_,?_,⟨b.ctor,b.n,b.m,t⟩::ys,by rw [h6];simp,⟨⟨rfl,rfl,rfl,hl'.2.2⟩,h7⟩⟩,h4,h5⟩
    ·rcases h1 x hx with h | h
     ·rcases U9.1 h with h | h
      ·exact .inl h
      ·simp only [U8,List.not_mem_nil,or_false] at h
       subst h
       exact .inr hl'.1
     ·exact .inr h
    ·rw [h2]
     simp only [List.map_append,List.map_cons,List.map_nil,List.sum_append,List.sum_cons,List.sum_nil]
     omega
    ·simp only [U5,U3,U4] at h3
     simp only [U3]
     omega
   ·exact .inr h
  ·refine .inr ?_
   unfold forL
   rw [e1,e2]
   cases bs with
   | nil=>exact ⟨c,e,out',he,rfl,rfl⟩
   | cons b2 bs=>
    refine ⟨c,e,out',he,rfl,?_⟩
    dsimp only
    unfold forL
    rw [hG _ _ _ _ he]
def V56 (w:List Q3)(lst:List Q5)(pick:Int)(left:Nat):Prop:=∀ (n m:Nat) (rows:List Grow) (cols:List Z5),2 * left+1500≤n→left+1500≤m→rows.length≤1000→ColC w cols left→(∀ r∈rows,RowC w lst cols r)→
 Both w lst pick left (fun t=>Z1t w lst pick left t rows cols) (Q00 n (CI w lst pick left) rows cols) (Q4y m w lst (cols.map toD) (rows.map toS) pick left)
theorem Z5j {rows:List Grow}{c:Int}{r:Grow}(h:r∈Q4j rows c):r∈rows:=(List.mem_filter.1 h).1
theorem W74 (rows:List Grow)(c:Int):(Q4j rows c).length≤rows.length:=List.length_filter_le _ _
theorem V6g {w:List Q3}{lst:List Q5}{pick:Int}{L n m:Nat}(hT:V56 w lst pick L)(hn:2 * L+1501≤n)(hm:L+1500≤m){r0:Grow}{rest:List Grow}{cols:List Z5}
  (hrl:(r0::rest).length≤1000) (hC:ColC w cols L) (hr:∀ r∈r0::rest,RowC w lst cols r) (hpk:Z1y w (r0::rest) cols pick=none) :
  Both w lst pick (L+1) (fun t=>Z1t w lst pick (L+1) t (r0::rest) cols) (Q1q n (CI w lst pick L) (r0::rest) cols)
   (((Q6m m r0.binds).bind fun r27=>((idx lst r0.clause).bind fun x30=>
    (if (ieq x30.guard.op 0)=true then some (((V4.mk 1 r0.clause r27 [] [] []),(L:Int)))
    else ((Q6j ((r0::rest).map toS) r0.clause).bind fun r32=>((Q4y m w lst (cols.map toD) r32 pick L).bind fun r33=>some (((V4.mk 1 r0.clause r27 [] [] [r33.1]),r33.2)))))))):=by
 obtain ⟨n,rfl⟩:∃ k,n=k+1:=⟨n-1,by omega⟩
 have h0:=hr r0 (by simp)
 obtain ⟨b1,b2,b3⟩:=h0.binds
 unfold Q1q
 rw [show idx (r0::rest) 0=some r0 from rfl]
 simp only [U0]
 rw [Z08 _ (by simp only [Q6];omega)]
 simp only [U0]
 rw [V1a (by omega) (by omega) b1 b2,X5y (by omega) (by omega) (fun b hb=>by have:=h0.bp b hb;omega)]
 simp only [U0]
 rw [X2z (by rw [(Z0f b2).length_eq];simp)]
 simp only [U0]
 have hcl:r0.clause.toNat<lst.length:=by have:=h0.c0;have:=h0.c1;omega
 have hcl2:idx lst r0.clause=some (lst[r0.clause.toNat]):=X00 h0.c0 (U10 hcl)
 rw [show (CI w lst pick (L:Int)).list=lst from rfl,hcl2]
 simp only [U0]
 have hcg:lst[r0.clause.toNat]?=some (lst[r0.clause.toNat]):=U10 hcl
 generalize lst[r0.clause.toNat]=cl at hcg ⊢
 have hsl:=(Z0f b2).length_eq
 have hbs:∀ (el:List V4),el.length≤1→((Z56 r0.binds).length≤1000∧(∀ b∈Z56 r0.binds,b.path.length≤1000)∧([]:List Int).length≤1000∧([]:List Z2).length≤20∧el.length≤1):=fun el he=>
  ⟨by omega,fun b hb=>h0.bp b ((Z0f b2).mem_iff.1 hb),by simp,by simp,he⟩
 by_cases hg:cl.guard.op=0
 ·have e:ieq cl.guard.op 0=true:=by simp [ieq,hg]
  simp only [e,if_true]
  exact ⟨_,_,_,_,_,rfl,rfl,.inl ⟨rfl,rfl,L,rfl,rfl,⟨hbs [] (by simp),by simp [Z0u]⟩,by simp [Z29,Z0u];omega,by simp only [Z1t,hpk];exact ⟨trivial,trivial,trivial,trivial,trivial,cl,hcg,.inl ⟨hg,trivial⟩⟩⟩⟩
 ·have e:ieq cl.guard.op 0=false:=by simp [ieq,hg]
  simp only [e,U2,if_false]
  simp only [U3] at hrl
  rw [W94 (by simp only [U3];omega)]
  simp only [U0]
  rw [X6u (by simp only [U3];omega) (by omega),X5u (by simp only [U3];omega)]
  simp only [U0]
  have hol:=W74 (r0::rest) r0.clause
  simp only [U3] at hol
  obtain ⟨ti,ok,c,ts,e,h1,h2,h3⟩:=hT n m (Q4j (r0::rest) r0.clause) cols (by omega) hm (by omega) hC (fun r h=>hr r (Z5j h))
  rw [h1,h2]
  simp only [U0]
  refine ⟨_,_,_,_,_,rfl,rfl,?_⟩
  rcases h3 with ⟨rfl,rfl,l,rfl,rfl,hd,hz,hq⟩ | ⟨rfl,he⟩
  ·exact .inl ⟨rfl,rfl,l,rfl,rfl,⟨hbs [ti] (by simp),by simpa [Z0u] using hd⟩,by simp [Z29,Z0u];omega,by simp only [Z1t,hpk];exact ⟨trivial,trivial,trivial,trivial,trivial,cl,hcg,.inr ⟨hg,ti,rfl,hq⟩⟩⟩
  ·exact .inr ⟨rfl,he⟩
theorem W10 (rows:List Grow)(k:Nat)(b:Z2)(args:List Z5):(Q6c rows k b args).length≤rows.length:=by
 unfold Q6c
 rw [U7]
 exact List.length_filter_le _ _
theorem V5f {w:List Q3}(hw:WW w)(hL:WL w)(hS:WS w){lst:List Q5}{pick:Int} : ∀ left:Nat,left≤300→V56 w lst pick left:=by
 intro left
 induction left using Nat.strongRecOn with
 | ind left ih=>
 intro hle n m rows cols hn hm hrl hC hr
 obtain ⟨n,rfl⟩:∃ k,n=k+1:=⟨n-1,by omega⟩
 obtain ⟨m,rfl⟩:∃ k,m=k+1:=⟨m-1,by omega⟩
 unfold Q00 Q4y
 have hcnt:(CI w lst pick (left:Int)).count=300-(left:Int):=rfl
 rw [hcnt,V7 (by omega) (by omega),Q2m (by omega) (by omega)]
 cases left with
 | zero=>
  have e1:ilt 300 (300-((0:Nat):Int)+1)=true:=rfl
  have e2:ilt (((0:Nat):Int)-1) 0=true:=rfl
  rw [if_pos e1,if_pos e2]
  exact ⟨_,_,_,_,_,rfl,rfl,.inr ⟨rfl,by omega⟩⟩
 | succ L=>
 have e1:ilt 300 (300-((L+1:Nat):Int)+1)=false:=by rw [X7];omega
 have e2:ilt (((L+1:Nat):Int)-1) 0=false:=by rw [X7];omega
 have eC:(X0.mk (CI w lst pick ((L+1:Nat):Int)).spaces (CI w lst pick ((L+1:Nat):Int)).list (CI w lst pick ((L+1:Nat):Int)).pick (300-((L+1:Nat):Int)+1))=CI w lst pick (L:Int):=by
  show X0.mk ⟨w,dimP w⟩ lst pick (300-((L+1:Nat):Int)+1)=X0.mk ⟨w,dimP w⟩ lst pick (300-(L:Int))
  rw [show 300-((L+1:Nat):Int)+1=300-(L:Int) by omega]
 rw [e1,e2,eC,show (((L+1:Nat):Int)-1)=(L:Int) by omega]
 simp only [U2,if_false,U7]
 have hCL:ColC w cols L:=⟨hC.ty,fun c hc=>by have:=hC.path c hc;omega,by have:=hC.len;omega⟩
 cases rows with
 | nil=>
  have e:ieq (lenZ ([]:List Grow).length) 0=true:=rfl
  rw [if_pos e,if_pos e]
  exact ⟨_,_,_,_,_,rfl,rfl,.inl ⟨rfl,rfl,L,rfl,rfl,⟨by simp,by simp [Z0u]⟩,by simp [Z29,Z0u];omega,by simp only [Z1t];rfl⟩⟩
 | cons r0 rest=>
 have e:ieq (lenZ (r0::rest).length) 0=false:=by
  rw [ieq,decide_eq_false_iff_not,Q0j,U3]
  omega
 have h0:=hr r0 (by simp)
 have hlen:=hC.len
 simp only [e,U2,if_false]
 rw [show idx ((r0::rest).map toS) 0=some (toS r0) from rfl]
 simp only [U0]
 have hch:=X3v hw hL (n:=n) (by omega) (lst:=lst) (pick:=pick) (count:=300-(L:Int)) (rows:=r0::rest) (cols:=cols) (by simp) (by omega) hC.ty (fun k hk=>RowC.rng hr hk)
 rw [show Q0i n (CI w lst pick (L:Int)) (r0::rest) cols=some (optI (Z1y w (r0::rest) cols pick),CI w lst pick (L:Int)) from hch,Z7g]
 simp only [U0]
 have hfirst:Z1x (toR (toS r0))=none↔Z1y w (r0::rest) cols pick=none:=by
  unfold Z1x Z1y
  rw [Z0i,Z0i]
  have hpl:(toR (toS r0)).pats.length=cols.length:=h0.len
  rw [hpl]
  exact Iff.rfl
 cases hp:Z1y w (r0::rest) cols pick with
 | none=>
  rw [hfirst.2 hp]
  have e:ilt (optI none) 0=true:=rfl
  simp only [e,if_true]
  obtain ⟨ti,ok,c,ts,e,h1,h2,h3⟩:=V6g (ih L (by omega) (by omega)) (n:=n) (m:=m) (by omega) (by omega) hrl hCL hr hp
  rw [h1]
  simp only [U0]
  exact ⟨ti,ok,c,ts,e,rfl,h2,h3⟩
 | some k=>
 obtain ⟨f,hf⟩:∃ f,Z1x (toR (toS r0))=some f:=by
  cases hq:Z1x (toR (toS r0)) with
  | none=>rw [hfirst.1 hq] at hp;cases hp
  | some f=>exact ⟨f,rfl⟩
 rw [hf]
 have e3:ilt (optI (some k)) 0=false:=by rw [X7];simp [optI]
 have e4:ilt (optI (some f)) 0=false:=by rw [X7];simp [optI]
 simp only [e3,e4,U2,if_false]
 have hkl:k<cols.length:=(Z5i hp).1
 obtain ⟨col,hk⟩:∃ c,cols[k]?=some c:=⟨_,U10 hkl⟩
 have hct:=hC.ty col (U1 hk)
 have hT:=hw.ty _ hct
 have hpl:=hC.path col (U1 hk)
 have hpk:=X8p hw hS (n:=m) (by omega) (pick:=pick) (row:=toS r0) (rest:=rest.map toS) (cols:=cols.map toD) (by simp only [U3,U7] at hrl ⊢;omega) (by rw [U7];omega) (by rw [U7];omega) (by rw [U7];exact h0.len)
  (fun c hc=>by obtain ⟨c',hc',rfl⟩:=U11.1 hc;exact hC.ty c' hc')
  (fun j hj=>by rw [←List.map_cons,toRS];exact RowC.rng hr (by rw [U7] at hj;exact hj)) hf
 rw [←List.map_cons,toRS,toCD,hp] at hpk
 rw [hpk]
 simp only [U0,optI]
 rw [Q1b hk,Q1b (show (cols.map toD)[k]?=some (toD col) by rw [List.getElem?_map,hk];rfl)]
 simp only [U0]
 rw [Z2z _ (by simp only [Q6];omega),X2 (by simp only [toD,U4,Q6];omega)]
 simp only [U0]
 have hbr:=Z2o hw hL (n:=n) (by omega) (lst:=lst) (pick:=pick) (count:=300-(L:Int)) (rows:=r0::rest) hk hct (RowC.rng hr hkl)
 rw [show Y9 n (CI w lst pick (L:Int)) (r0::rest) cols (k:Int)=some (brsD w (r0::rest) col.t k,CI w lst pick (L:Int)) from hbr]
 have hcu:=Z44 hw hS (n:=m) (by omega) (rows:=(r0::rest).map toS) (col:=toD col) (k:=k) hct (by rw [toRS];exact RowC.rng hr hkl)
 rw [toRS] at hcu
 rw [hcu]
 simp only [U0]
 generalize hrows:r0::rest=rows at *
 have hbl:=W9b hT rows k
 rw [show (toD col).kind=col.t from rfl]
 generalize hbrs:brsD w rows col.t k=brs at *
 generalize hF:(fun (k2328:Nat) (x2329:Z2) (s2322:X0×(List Z2))=>_)=F
 generalize hG:(fun (k186:Nat) (x187:Z2) (s180:Int×(List Z2))=>_)=G
 have hloop:=W9d (w:=w) (lst:=lst) (pick:=pick) (F:=F) (G:=G) (L:=L) (brs:=brs) (P:=fun b x=>Z1t w lst pick L x (Q6c rows k b (J7 w col b)) (Q81 cols k (J7 w col b))) (fun b hb i j l out hl hol=>?_) (fun j b e out he=>?_) brs (fun b h=>h) 0 0 L [] (Nat.le_refl _) (by simp;omega)
 ·rcases hloop with ⟨l',out',⟨g1,g2,g3,ys,g4,g5⟩,e1,e2⟩ | ⟨c,e,out',he,e1,e2⟩
  ·rw [e1,e2]
   refine ⟨_,_,_,_,_,rfl,rfl,.inl ⟨rfl,rfl,l',rfl,rfl,⟨⟨by simp,by simp,by simp only;omega,by simp only [U4] at g3 ⊢;omega,by simp⟩,fun x hx=>?_⟩,?_,?_⟩⟩
   ·simp only [Z0u,List.append_nil] at hx
    obtain ⟨b,hb,rfl⟩:=U11.1 hx
    rcases g1 b hb with h | h
    ·cases h
    ·exact h
   ·simp only [Z29,Z0u,List.append_nil,List.map_map]
    have:(List.map (Z29 L∘fun b=>b.tree) out')=out'.map fun b=>Z29 L b.tree:=rfl
    rw [this]
    simp only [List.map_nil,List.sum_nil] at g2
    omega
   ·rw [←hrows] at hp g5 hbrs ⊢
    simp only [Z1t,hp]
    rw [g4,List.nil_append]
    exact ⟨col,hk,trivial,trivial,trivial,rfl,trivial,by rw [hbrs];exact g5⟩
  ·rw [e1,e2]
   exact ⟨_,_,_,_,_,rfl,rfl,.inr ⟨rfl,he⟩⟩
 ·have hB:BrC w col.t b:=Y38 hL hct b (by rw [hbrs];exact hb)
  have hCn:ColC w (Q81 cols k (J7 w col b)) l:=by
   have:=ColC.next hw hC hk hB
   exact ⟨this.ty,fun c hc=>by have:=this.path c hc;omega,by have:=this.len;omega⟩
  have hRn:∀ r∈Q6c rows k b (J7 w col b),RowC w lst (Q81 cols k (J7 w col b)) r:=fun r hr'=>by
   unfold Q6c at hr'
   obtain ⟨r1,h1,rfl⟩:=U11.1 hr'
   obtain ⟨h2,h3⟩:=List.mem_filter.1 h1
   exact RowC.next hw hS hC (hr r1 h2) hk hB h3
  have hrn:=W10 rows k b (J7 w col b)
  have hK:∀ r∈rows,W2r r k b (J7 w col b):=fun r h=>RowC.kept hw hS hC (hr r h) hk hB
  obtain ⟨ti,ok,c,ts,e,h1,h2,h3⟩:=ih l (by omega) (by omega) n m (Q6c rows k b (J7 w col b)) (Q81 cols k (J7 w col b)) (by omega) (by omega) (by omega) hCn hRn
  have hal:(J7 w col b).length≤3:=(hK r0 (by rw [←hrows];simp)).al
  have hI:F i b (CI w lst pick l,out)=some (if ok=true then .go (c,out++[⟨b.ctor,b.n,b.m,ti⟩]) else .ret (zT,false,c)):=by
   suffices hs:Ret (F i b (CI w lst pick l,out)) (fun a=>a=(if ok=true then .go (c,out++[⟨b.ctor,b.n,b.m,ti⟩]) else .ret (zT,false,c))) by
    obtain ⟨a,e,rfl⟩:=hs
    exact e
   rw [←hF]
   refine Ret.ctl (R:=fun _=>False) (B:=fun s=>s=J7 w col b) ?_ (fun r h=>h.elim) (fun s hs=>?_)
   ·by_cases hc:b.ctor = -1
    ·have e:(!ieq b.ctor (-1))=false:=by simp [ieq,hc]
     simp only [e,U2,if_false]
     exact .some (by simp [J7,hc])
    ·have e:(!ieq b.ctor (-1))=true:=by simp [ieq,hc]
     have hd:col.t.data≠-1:=fun hd=>hc (hB.int hd)
     simp only [e,if_true]
     rw [show (CI w lst pick (l:Int)).spaces.w=w from rfl,hT.a2 _ (hB.ctor hd).1]
     simp only [U0]
     refine Ret.ctl (Z3 (X4 w col.t b.ctor) (fun i s=>s=(J7 w col b).take i) (fun _=>False) (fun s=>s=J7 w col b) (by simp) (fun i t s hi hI=>?_) (fun s hI=>?_)) (fun r hr=>hr.elim) (fun s hs=>.some hs)
     ·rw [X2 (by simp only [U3,U4,Q6];omega)]
      simp only [U0]
      rw [X2 (by rw [hI];simp only [U6,U3,U4,Q6];omega)]
      exact .some (by simp only [Q0v];rw [hI,List.take_add_one,Z6e hc hi];rfl)
     ·rw [hI,show (X4 w col.t b.ctor).length=(J7 w col b).length by rw [Q7p,if_neg hc],List.take_length]
   ·subst hs
    dsimp only
    refine Ret.ctl (Z3 rows (fun i s=>s=Q6c (rows.take i) k b (J7 w col b)) (fun _=>False) (fun s=>s=Q6c rows k b (J7 w col b)) (by simp [Q6c]) (fun i r s hi hI=>?_) (fun s hI=>by rw [hI,List.take_length])) (fun r hr=>hr.elim) (fun s hs=>?_)
    ·have hil:i<rows.length:=(List.getElem?_eq_some_iff.1 hi).1
     rw [X9d (by omega) (hK r (U1 hi))]
     simp only [U0]
     have hsl:s.length≤1000:=by
      rw [hI]
      have:=W10 (rows.take i) k b (J7 w col b)
      rw [U6] at this
      omega
     have hstep:Q6c (rows.take (i+1)) k b (J7 w col b)=Q6c (rows.take i) k b (J7 w col b)++(if Q5n (W3 r k) b=true then [Q8k r k (J7 w col b)] else []):=by
      unfold Q6c
      rw [List.take_add_one,hi]
      simp only [Option.toList_some,List.filter_append,List.map_append]
      by_cases hf:Q5n (W3 r k) b=true<;>simp [hf]
     by_cases hf:Q5n (W3 r k) b=true
     ·rw [if_pos hf]
      simp only [if_true]
      rw [X2 (by simp only [U3,U4,Q6];omega)]
      exact .some (by simp only [Q0v];rw [hstep,if_pos hf,hI])
     ·rw [if_neg hf]
      simp only [U2,if_false]
      exact .some (by simp only [Q0v];rw [hstep,if_neg hf,hI,List.append_nil])
    ·subst hs
     dsimp only
     rw [Z50 (by omega)]
     simp only [U0]
     rw [V7 (by omega) (by omega),show ((k:Int)+1)=((k+1:Nat):Int) by simp,Z8q (by omega)]
     simp only [U0]
     rw [W91 (by simp only [U6,List.length_drop];omega)]
     simp only [U0]
     rw [show cols.take k++J7 w col b++cols.drop (k+1)=Q81 cols k (J7 w col b) from rfl,h1]
     simp only [U0]
     cases ok with
     | true=>
      simp only [Bool.not_true,U2,if_false]
      rw [X2 (by simp only [U3,U4,Q6];omega)]
      exact .some (by simp)
     | false=>
      simp only [Bool.not_false,if_true]
      exact .some (by simp [zT])
  have hJ:G j b ((l:Int),out)=some (.go (e,out++[⟨b.ctor,b.n,b.m,ts⟩])):=by
   rw [←hG]
   have e1:ile 0 (l:Int)=true:=by rw [Q0l];omega
   have hb2:b.ctor≠-1→b.ctor∈X1 w col.t:=fun h=>(hB.ctor fun hd=>h (hB.int hd)).1
   simp only [e1,if_true]
   rw [Z54 hT hk hb2 (by omega) (by omega)]
   simp only [U0]
   rw [X8q (by omega) hT hk hb2 (by omega) (by omega) (by omega) (fun r h=>⟨hK r h,(hr r h).len⟩)]
   simp only [U0]
   rw [h2]
   simp only [U0]
   rw [X2 (by simp only [U3,U4,Q6];omega)]
   rfl
  rw [hI,hJ]
  rcases h3 with ⟨rfl,rfl,l',rfl,rfl,hd,hz,hq⟩ | ⟨rfl,he⟩
  ·exact .inl ⟨ti,l',⟨W4y hd hl,by rw [V1d hd hl];exact hz,W2y hl hq⟩,by simp,rfl⟩
  ·exact .inr ⟨c,e,_,he,by simp,rfl⟩
 ·rw [←hG]
  have e1:ile 0 e=false:=by rw [Q30];omega
  simp only [e1,U2,if_false]
theorem X94 {l:List Q7}(hl:l.length≤1000)(hp:∀ b∈l,b.path.length≤1000):Q4o l=some l:=by
 suffices hs:Ret (Q4o l) (fun a=>a=l) by
  obtain ⟨a,e,rfl⟩:=hs
  exact e
 unfold Q4o
 refine Ret.ctl (Z3 l (fun i s=>s=l.take i) (fun _=>False) (fun s=>s=l) (by simp) (fun i x s hi hI=>?_) (fun s hI=>by rw [hI,List.take_length])) (fun r hr=>hr.elim) (fun s hs=>.some hs)
 have hx:=hp x (U1 hi)
 rw [Z2z _ (by simp only [Q6];omega)]
 simp only [U0]
 rw [X2 (by rw [hI];simp only [U6,U3,U4,Q6];omega)]
 exact .some (by simp only [Q0v];rw [hI,List.take_add_one,hi];rfl)
theorem W56 (x:Z2):Z2.mk x.ctor x.n x.m x.tree=x:=by cases x;rfl
theorem V0y (t:V4):V4.mk t.op t.clause t.binds t.path t.branches t.else_=t:=by cases t;rfl
theorem W3h:∀ (d n:Nat) (t:V4),Z68 d t→d≤n→Q2l n t=some t:=by
 intro d
 induction d with
 | zero=>intro n t h;exact h.elim
 | succ d ih=>
  intro n t h hn
  obtain ⟨n,rfl⟩:∃ k,n=k+1:=⟨n-1,by omega⟩
  obtain ⟨⟨h1,h2,h3,h4,h5⟩,h6⟩:=h
  suffices hs:Ret (Q2l (n+1) t) (fun a=>a=t) by
   obtain ⟨a,e,rfl⟩:=hs
   exact e
  unfold Q2l
  rw [X94 h1 h2,Z2z _ (by simp only [Q6];omega)]
  simp only [U0]
  refine Ret.ctl (Z3 t.branches (fun i s=>s=t.branches.take i) (fun _=>False) (fun s=>s=t.branches) (by simp) (fun i x s hi hI=>?_) (fun s hI=>by rw [hI,List.take_length])) (fun r hr=>hr.elim) (fun s hs=>?_)
  ·rw [ih n x.tree (h6 _ (List.mem_append_left _ (List.mem_map_of_mem (U1 hi)))) (by omega)]
   simp only [U0]
   rw [X2 (by rw [hI];simp only [U6,U3,U4,Q6];omega)]
   exact .some (by simp only [Q0v];rw [hI,List.take_add_one,hi,W56];rfl)
  ·subst hs
   refine Ret.ctl (Z3 t.else_ (fun i s=>s=t.else_.take i) (fun _=>False) (fun s=>s=t.else_) (by simp) (fun i x s hi hI=>?_) (fun s hI=>by rw [hI,List.take_length])) (fun r hr=>hr.elim) (fun s hs=>.some (by rw [hs,V0y]))
   rw [ih n x (h6 _ (List.mem_append_right _ (U1 hi))) (by omega)]
   simp only [U0]
   rw [X2 (by rw [hI];simp only [U6,U3,U4,Q6];omega)]
   exact .some (by simp only [Q0v];rw [hI,List.take_add_one,hi];rfl)
def Q36 (k:Nat)(p:Q0):Grow:=⟨(k:Int),[(Q79 p []).2],(Q79 p []).1⟩
def Q35 (l:List Q5):Nat→List Grow
 | 0=>[]
 | i+1=>Q35 l i++(match l[i]? with
  | none=>[]
  | some c=>(Q9 10 c.pat).map (Q36 i))
theorem X2a {l:List Q5} : ∀ {i:Nat} {r:Grow},r∈Q35 l i→∃ k c p,l[k]?=some c∧p∈Q9 10 c.pat∧r=Q36 k p:=by
 intro i
 induction i with
 | zero=>intro r h;cases h
 | succ i ih=>
  intro r h
  rw [Q35] at h
  rcases U9.1 h with h | h
  ·exact ih h
  ·cases hc:l[i]? with
   | none=>rw [hc] at h;cases h
   | some c=>
    rw [hc] at h
    obtain ⟨p,hp,rfl⟩:=U11.1 h
    exact ⟨i,c,p,hc,hp,rfl⟩
theorem Z6o {l:List Q5}(h:∀ c∈l,(Q9 10 c.pat).length≤40):∀ i,(Q35 l i).length≤40 * i:=by
 intro i
 induction i with
 | zero=>simp [Q35]
 | succ i ih=>
  rw [Q35,U5]
  cases hc:l[i]? with
  | none=>simp only [U4];omega
  | some c=>
   have:=h c (U1 hc)
   simp only [U7]
   omega
def W9n (w:List Q3)(t:Q2)(l:List Q5):Prop:=∀ c∈l,J6 w 10 t c.pat=true∧linD w 10 t c.pat=true
theorem X66 {w:List Q3}(hw:WW w){t:Q2}{l:List Q5}(hl:W9n w t l)(hll:l.length≤8):∀ r∈Q35 l l.length,RowC w l [⟨[],t⟩] r:=fun r hr=>by
 obtain ⟨k,c,p,hk,hp,rfl⟩:=X2a hr
 obtain ⟨g,ln⟩:=hl c (U1 hk)
 have hkl:=(List.getElem?_eq_some_iff.1 hk).1
 have hO:PatO w t p:=⟨Q5x 11 t p (Q5x 10 t p (Q8t 10 t c.pat p g hp)),Q9f 11 p (Q9f 10 p (Z6m 10 c.pat p hp))⟩
 obtain ⟨s1,s2,s3⟩:=Z91 [] hO
 have hv:X1e (Q36 k p)=Q5m p:=by
  unfold X1e Q36
  simp only [List.flatMap_cons,List.flatMap_nil,List.append_nil]
  exact s2
 have hperm:=W33 10 t c.pat p g ln hp
 have hd:=Q4u 10 t c.pat g ln
 simp only [Q1u,decide_eq_true_eq] at hd
 refine ⟨rfl,fun x hx=>?_,?_,fun v hv'=>?_,by simp [Q36],by simp only [Q36];omega,fun b hb=>?_⟩
 ·simp only [Q36,List.zip_cons_cons,List.zip_nil_right,U8,List.not_mem_nil,or_false] at hx
  rw [hx]
  exact s1
 ·rw [hv];exact hperm.nodup_iff.2 hd
 ·rw [hv] at hv'
  obtain ⟨y,hy,rfl⟩:=U11.1 (hperm.mem_iff.1 hv')
  exact Z34 10 t c.pat g y hy
 ·rw [s3 b hb];simp
theorem X3t {w:List Q3}(hw:WW w){t:Q2}(ht:t∈tys w){l:List Q5}(hl:W9n w t l)(hll:l.length≤8) :
  Q2f NN l=some (if l.all (fun c=>decide ((Q9 10 c.pat).length≤40))=true then (l.map (fun c=>Q9 10 c.pat),true) else ([],false)):=by
 suffices hs:Ret (Q2f NN l) (fun a=>a=(if l.all (fun c=>decide ((Q9 10 c.pat).length≤40))=true then (l.map (fun c=>Q9 10 c.pat),true) else ([],false))) by
  obtain ⟨a,e,rfl⟩:=hs
  exact e
 unfold Q2f
 refine Ret.ctl (Z3 l (fun i s=>s=(l.take i).map (fun c=>Q9 10 c.pat)∧∀ c∈l.take i,(Q9 10 c.pat).length≤40) (fun r=>r=([],false)∧∃ c∈l,40<(Q9 10 c.pat).length) (fun s=>s=l.map (fun c=>Q9 10 c.pat)∧∀ c∈l,(Q9 10 c.pat).length≤40) ⟨by simp,by simp⟩ (fun i c s hi hI=>?_) (fun s hI=>by rw [List.take_length] at hI;exact hI)) (fun r hr=>.some ?_) (fun s hs=>.some ?_)
 ·obtain ⟨g,_⟩:=hl c (U1 hi)
  have hor:=X76 hw 10 t c.pat ht g
  have hil:i<l.length:=(List.getElem?_eq_some_iff.1 hi).1
  rw [Z6b 10 NN c.pat hor (by decide)]
  simp only [U0]
  by_cases hc:(Q9 10 c.pat).length≤40
  ·have e:ilt 40 ((min (Q9 10 c.pat).length 401:Nat):Int)=false:=by rw [X7];omega
   simp only [e,U2,if_false]
   rw [Z7p 10 NN c.pat hor (by decide) (by omega)]
   simp only [U0]
   rw [X2 (by rw [hI.1];simp only [U7,U6,U3,U4,Q6];omega)]
   refine .some ⟨by rw [hI.1,List.take_add_one,hi];simp,fun c' hc'=>?_⟩
   rw [List.take_add_one,hi] at hc'
   rcases U9.1 hc' with h | h
   ·exact hI.2 c' h
   ·simp only [Option.toList_some,U8,List.not_mem_nil,or_false] at h
    rw [h];exact hc
  ·have e:ilt 40 ((min (Q9 10 c.pat).length 401:Nat):Int)=true:=by rw [Z9];omega
   simp only [e,if_true]
   exact .some ⟨rfl,c,U1 hi,by omega⟩
 ·obtain ⟨rfl,c,hc,hlt⟩:=hr
  rw [if_neg]
  rw [List.all_eq_true]
  intro h
  have:=h c hc
  simp only [decide_eq_true_eq] at this
  omega
 ·obtain ⟨rfl,h⟩:=hs
  rw [if_pos]
  rw [List.all_eq_true]
  exact fun c hc=>by simpa using h c hc
structure Comp (Q:V4→Prop) (x y:Option (V4×Bool)):Prop where
 tr:∀ t,x=some (t,true)→Q t
 eq:∃ t ok,x=some (t,ok)∧y=some (t,ok)∧(ok=false→t=zT)∧Z68 300 t∧Z29 300 t≤300
theorem V5b:Z68 300 zT:=⟨by simp [zT],by simp [Z0u,zT]⟩
theorem V5a:Z29 300 zT=1:=by
 show 1+((Z0u zT).map (Z29 299)).sum=1
 rw [show Z0u zT=[] from rfl]
 simp
theorem Comp.no {Q:V4→Prop}{x y:Option (V4×Bool)}(h1:x=some (zT,false))(h2:y=some (zT,false)):Comp Q x y:=⟨fun t h=>by rw [h1] at h;simp at h,zT,false,h1,h2,fun _=>rfl,V5b,by rw [V5a];omega⟩
theorem W8v {ρ σ τ:Type}{x:Option (Ctl ρ σ)}{s0:σ}{g:Ctl ρ σ→Option τ}(h:Ret x (CtlQ (fun _=>False) (fun s=>s=s0))):x.bind g=g (.brk s0):=by
 obtain ⟨o,rfl,ho⟩:=h
 cases o with
 | ret r=>exact ho.elim
 | go s=>exact ho.elim
 | brk s=>rw [show s=s0 from ho];rfl
theorem V74 {ρ σ τ:Type}{x:Option (Ctl ρ σ)}{r0:ρ}{g:Ctl ρ σ→Option τ}(h:Ret x (CtlQ (fun r=>r=r0) (fun _=>False))):x.bind g=g (.ret r0):=by
 obtain ⟨o,rfl,ho⟩:=h
 cases o with
 | ret r=>rw [show r=r0 from ho];rfl
 | go s=>exact ho.elim
 | brk s=>exact ho.elim
def canC (w:List Q3)(t:Q2)(l:List Q5)(pick:Int):Bool:=Q23 w t l&&(decide (0≤pick)&&decide (pick≤2))&&l.all (fun c=>decide ((Q9 10 c.pat).length≤40))
theorem X3h {w:List Q3}{t:Q2}{l:List Q5}(h:Q23 w t l=true):l.length≤8∧W9n w t l:=by
 simp only [Q23,Bool.and_eq_true,decide_eq_true_eq,List.all_eq_true] at h
 refine ⟨h.1,fun c hc=>?_⟩
 have:=h.2 c hc
 simp only [Q7o,Bool.and_eq_true] at this
 obtain ⟨g,_,ln⟩:=Q3q this.1
 exact ⟨g,ln⟩
theorem W1i {w:List Q3}(hww:w∈Q0r){t:Q2}(ht:t∈tys w)(l:List Q5)(pick:Int) :
  Q0c NN w t l pick=if canC w t l pick=true then ((Q00 NN (CI w l pick ((300:Nat):Int)) (Q35 l l.length) [⟨[],t⟩]).bind fun r=>if (!r.2.1)=true then some (zT,false) else (Q2l NN r.1).bind fun r2=>some (r2,true)) else some (zT,false):=by
 have hw:=ww hww
 have hz:V4.mk 0 0 [] [] [] []=zT:=rfl
 unfold Q0c canC
 rw [Z07 hw ht l]
 simp only [U0,hz]
 cases hv:Q23 w t l with
 | false=>simp
 | true=>
 obtain ⟨hll,hP⟩:=X3h hv
 rw [Z09]
 simp only [U0,Bool.not_true,U2,if_false,Bool.true_and]
 cases hp:(decide (0≤pick)&&decide (pick≤2)) with
 | false=>simp
 | true=>
 simp only [Bool.not_true,U2,if_false,Bool.true_and]
 rw [X3t hw ht hP hll]
 simp only [U0]
 cases hA:l.all (fun c=>decide ((Q9 10 c.pat).length≤40)) with
 | false=>simp
 | true=>
 simp only [if_true,Bool.not_true,U2,if_false]
 have hA':∀ c∈l,(Q9 10 c.pat).length≤40:=fun c hc=>by simpa using List.all_eq_true.1 hA c hc
 refine (W8v (s0:=Q35 l l.length) ?_).trans ?_
 ·refine Z3 (l.map fun c=>Q9 10 c.pat) (fun i s=>s=Q35 l i) (fun _=>False) (fun s=>s=Q35 l l.length) rfl (fun i ps s hi hI=>?_) (fun s hI=>by rw [hI,U7])
  rw [List.getElem?_map,U12] at hi
  obtain ⟨c,hi,rfl⟩:=hi
  have hc:=U1 hi
  have hil:i<l.length:=(List.getElem?_eq_some_iff.1 hi).1
  have hri:=Z6o hA' i
  have hcl:=hA' c hc
  refine Ret.ctl (Z3 (Q9 10 c.pat) (fun j u=>u=Q35 l i++((Q9 10 c.pat).take j).map (Q36 i)) (fun _=>False) (fun u=>u=Q35 l (i+1)) (by simp [hI]) (fun j p u hj hJ=>?_) (fun u hJ=>?_)) (fun r hr=>hr.elim) (fun u hu=>.some hu)
  ·have hjl:j<(Q9 10 c.pat).length:=(List.getElem?_eq_some_iff.1 hj).1
   have has:=X03 10 t p (Q8t 10 t c.pat p (hP c hc).1 (U1 hj))
   rw [W2c (d:=10) (n:=NN) has (by omega) (by decide) (by simp) (by simp) (by simp)]
   simp only [U0,List.nil_append]
   rw [X2 (by rw [hJ];simp only [U5,U7,U6,U3,U4,Q6];omega)]
   exact .some (by simp only [Q0v];rw [hJ,List.take_add_one,hj];simp [Q36])
  ·rw [hJ,List.take_length,Q35,hi]
 ·dsimp only
  rw [(wl hww).dim]
  simp only [U0]
  rfl
theorem V19 {w:List Q3}(hww:w∈Q0r){t:Q2}(ht:t∈tys w)(l:List Q5)(pick:Int) :
  Q42 NN w t l pick=if canC w t l pick=true then ((Q4y NN w l [⟨[],t⟩] ((Q35 l l.length).map toS) pick ((300:Nat):Int)).bind fun r=>if ilt r.2 0=true then some (zT,false) else some (r.1,true)) else some (zT,false):=by
 have hw:=ww hww
 have hz:V4.mk 0 0 [] [] [] []=zT:=rfl
 unfold Q42 canC
 rw [Z03 hw ht l]
 simp only [U0,hz]
 cases hv:Q23 w t l with
 | false=>simp
 | true=>
 obtain ⟨hll,hP⟩:=X3h hv
 simp only [Bool.not_true,U2,if_false,Bool.true_and]
 by_cases p0:pick<0
 ·have e1:ilt pick 0=true:=by rw [Z9];exact p0
  have e2:(decide ((0:Int)≤pick)&&decide (pick≤2))=false:=by simp;omega
  simp only [e1,e2,if_true,Bool.false_and,U2,if_false]
 have e1:ilt pick 0=false:=by rw [X7];omega
 simp only [e1,U2,if_false]
 by_cases p2:2<pick
 ·have e1:ilt 2 pick=true:=by rw [Z9];exact p2
  have e2:(decide ((0:Int)≤pick)&&decide (pick≤2))=false:=by simp;omega
  simp only [e1,e2,if_true,Bool.false_and,U2,if_false]
 have e1:ilt 2 pick=false:=by rw [X7];omega
 have e2:(decide ((0:Int)≤pick)&&decide (pick≤2))=true:=by simp;omega
 simp only [e1,e2,U2,if_false,Bool.true_and]
 unfold Z1w
 have hsp:∀ c∈l,Q09 NN c.pat=some ((Q9 10 c.pat).take 401):=fun c hc=>Z7b 10 NN c.pat (X76 hw 10 t c.pat ht (hP c hc).1) (by decide)
 cases hA:l.all (fun c=>decide ((Q9 10 c.pat).length≤40)) with
 | true=>
  simp only [if_true]
  have hA':∀ c∈l,(Q9 10 c.pat).length≤40:=fun c hc=>by simpa using List.all_eq_true.1 hA c hc
  have hsp':∀ c∈l,Q09 NN c.pat=some (Q9 10 c.pat):=fun c hc=>by
   have:=hA' c hc
   rw [hsp c hc,List.take_of_length_le (by omega)]
  have hrows:Q8m NN l=some ((Q35 l l.length).map toS):=by
   suffices hs:Ret (Q8m NN l) (fun a=>a=(Q35 l l.length).map toS) by
    obtain ⟨a,e,rfl⟩:=hs
    exact e
   unfold Q8m
   refine Ret.ctl (Z3 l (fun i s=>s=(Q35 l i).map toS) (fun _=>False) (fun s=>s=(Q35 l l.length).map toS) rfl (fun i c s hi hI=>?_) (fun s hI=>hI)) (fun r hr=>hr.elim) (fun s hs=>.some hs)
   have hc:=U1 hi
   have hil:i<l.length:=(List.getElem?_eq_some_iff.1 hi).1
   have hri:=Z6o hA' i
   have hcl:=hA' c hc
   rw [hsp' c hc]
   simp only [U0]
   refine Ret.ctl (Z3 (Q9 10 c.pat) (fun j u=>u=(Q35 l i).map toS++(((Q9 10 c.pat).take j).map (Q36 i)).map toS) (fun _=>False) (fun u=>u=(Q35 l (i+1)).map toS) (by simp [hI]) (fun j p u hj hJ=>?_) (fun u hJ=>?_)) (fun r hr=>hr.elim) (fun u hu=>.some hu)
   ·have hjl:j<(Q9 10 c.pat).length:=(List.getElem?_eq_some_iff.1 hj).1
    have has:=X03 10 t p (Q8t 10 t c.pat p (hP c hc).1 (U1 hj))
    rw [X5n (d:=10) (n:=NN) has (by omega) (by decide) (by simp) (by simp)]
    simp only [U0,List.nil_append]
    rw [X2 (by rw [hJ];simp only [U5,U7,U6,U3,U4,Q6];omega)]
    exact .some (by simp only [Q0v];rw [hJ,List.take_add_one,hj];simp [Q36,toS])
   ·rw [hJ,List.take_length,Q35,hi];simp
  have h1:∀ (a:V4) (b:Bool),some (a,b)=some (a,b):=fun _ _=>rfl
  rw [hrows]
  have e300:(300:Int)=((300:Nat):Int):=rfl
  rw [e300]
  simp only [U0]
  have hin:∀ (X:Option (V4×Bool)),X.bind (fun r40=>some (r40.1,r40.2))=X:=fun X=>by cases X<;>rfl
  rw [hin]
  refine (W8v (s0:=()) ?_).trans ?_
  ·refine Z3 l (fun _ _=>True) (fun _=>False) (fun _=>_) trivial (fun i c s hi _=>?_) (fun _ _=>rfl)
   have hc:=U1 hi
   have:=hA' c hc
   rw [hsp' c hc]
   have e:ilt 40 (lenZ (Q9 10 c.pat).length)=false:=by rw [X7,Q0j];omega
   simp only [U0,e,U2,if_false]
   exact .some trivial
  ·rfl
 | false=>
  have hx:∃ c∈l,40<(Q9 10 c.pat).length:=by
   rw [List.all_eq_false] at hA
   simpa using hA
  have hin:∀ (X:Option (V4×Bool)),X.bind (fun r40=>some (r40.1,r40.2))=X:=fun X=>by cases X<;>rfl
  rw [hin]
  simp only [U2,if_false]
  refine (V74 (r0:=(zT,false)) ?_).trans rfl
  refine Z3 l (fun i _=>∀ c∈l.take i,(Q9 10 c.pat).length≤40) (fun r=>r=(zT,false)) (fun _=>False) (by simp) (fun i c s hi hI=>?_) (fun s hI=>?_)
  ·have hc:=U1 hi
   rw [hsp c hc]
   simp only [U0]
   by_cases h40:(Q9 10 c.pat).length≤40
   ·have e:ilt 40 (lenZ ((Q9 10 c.pat).take 401).length)=false:=by rw [X7,Q0j,U6];omega
    simp only [e,U2,if_false]
    refine .some fun c' hc'=>?_
    rw [List.take_add_one,hi] at hc'
    rcases U9.1 hc' with h | h
    ·exact hI c' h
    ·simp only [Option.toList_some,U8,List.not_mem_nil,or_false] at h
     rw [h];exact h40
   ·have e:ilt 40 (lenZ ((Q9 10 c.pat).take 401).length)=true:=by rw [Z9,Q0j,U6];omega
    simp only [e,if_true]
    exact .some rfl
  ·obtain ⟨c,hc,h⟩:=hx
   rw [List.take_length] at hI
   have:=hI c hc
   omega
theorem W69 {w:List Q3}{t:Q2}(ht:t∈tys w):ColC w [⟨[],t⟩] 300:=
 ⟨fun c hc=>by simp only [U8,List.not_mem_nil,or_false] at hc;rw [hc];exact ht,fun c hc=>by simp only [U8,List.not_mem_nil,or_false] at hc;rw [hc];simp,by simp⟩
theorem Z74 {w:List Q3}(hww:w∈Q0r){t:Q2}(ht:t∈tys w)(l:List Q5)(pick:Int):Comp (fun tr=>Z1t w l pick 300 tr (Q35 l l.length) [⟨[],t⟩]) (Q0c NN w t l pick) (Q42 NN w t l pick):=by
 rw [W1i hww ht,V19 hww ht]
 cases hc:canC w t l pick with
 | false=>exact Comp.no (by simp) (by simp)
 | true=>
 simp only [if_true]
 simp only [canC,Bool.and_eq_true] at hc
 obtain ⟨hll,hP⟩:=X3h hc.1.1
 have hA':∀ c∈l,(Q9 10 c.pat).length≤40:=fun c h=>by simpa using List.all_eq_true.1 hc.2 c h
 have hrl:=Z6o hA' l.length
 obtain ⟨ti,ok,c,ts,e,h1,h2,h3⟩:=V5f (ww hww) (wl hww) (ws hww) (lst:=l) (pick:=pick) 300 (Nat.le_refl _) NN NN (Q35 l l.length) [⟨[],t⟩] (by decide) (by decide) (by omega) (W69 ht) (X66 (ww hww) hP hll)
 rw [h1,show [Q1c.mk [] t]=[Z5.mk [] t].map toD from rfl,h2]
 simp only [U0]
 rcases h3 with ⟨rfl,rfl,lf,rfl,rfl,hd,hsz,hq⟩ | ⟨rfl,he⟩
 ·have e:ilt ((lf:Nat):Int) 0=false:=by rw [X7];omega
  simp only [Bool.not_true,e,U2,if_false]
  rw [W3h 300 NN ti hd (by decide)]
  exact ⟨fun t h=>by simp only [U0,Option.some.injEq,Prod.mk.injEq] at h;rw [←h.1];exact hq,ti,true,rfl,rfl,by simp,hd,by omega⟩
 ·have e:ilt e 0=true:=by rw [Z9];exact he
  simp only [Bool.not_false,e,if_true]
  exact Comp.no rfl rfl
def Z45 (l:List Y3):List Y3:=(List.range 6).flatMap fun (v:Nat)=>l.filter fun b=>decide (b.var=(v:Int))
theorem Z98:∀ (a b:List Y3),a.Pairwise (fun x y=>x.var<y.var)→b.Pairwise (fun x y=>x.var<y.var)→a.Perm b→a=b:=by
 intro a
 induction a with
 | nil=>intro b _ _ h;exact h.nil_eq
 | cons x a ih=>
  intro b ha hb h
  cases b with
  | nil=>exact absurd h.symm.nil_eq (by simp)
  | cons y b=>
   rw [List.pairwise_cons] at ha hb
   have hx:x∈y::b:=h.mem_iff.1 (by simp)
   have hy:y∈x::a:=h.mem_iff.2 (by simp)
   have hxy:x=y:=by
    rcases U8.1 hx with rfl | hx
    ·rfl
    ·rcases U8.1 hy with h1 | hy
     ·exact h1.symm
     ·have h1:=hb.1 x hx
      have h2:=ha.1 y hy
      omega
   subst hxy
   rw [ih b ha.2 hb.2 ((List.perm_cons x).1 h)]
theorem W39 {l:List Y3}(h:l.Pairwise (fun x y=>x.var≤y.var))(hn:(l.map (·.var)).Nodup):l.Pairwise (fun x y=>x.var<y.var):=by
 rw [List.Nodup,List.pairwise_map] at hn
 refine (h.and hn).imp fun ⟨h1,h2⟩=>?_
 omega
theorem Z28 {l:List Y3}(hn:(l.map (·.var)).Nodup):(Z45 l).Pairwise (fun x y=>x.var<y.var):=by
 unfold Z45
 rw [List.pairwise_flatMap]
 refine ⟨fun v _=>?_,?_⟩
 ·have h1:(l.filter fun b=>decide (b.var=(v:Int))).Pairwise (fun x y=>x.var≤y.var):=by
   rw [List.pairwise_filter]
   refine List.pairwise_of_forall fun x y hx hy=>?_
   simp only [decide_eq_true_eq] at hx hy
   omega
  exact W39 h1 ((List.filter_sublist.map _).nodup hn)
 ·refine List.Pairwise.imp ?_ (List.pairwise_lt_range (n:=6))
  intro a b hab x hx y hy
  have h1:=(List.mem_filter.1 hx).2
  have h2:=(List.mem_filter.1 hy).2
  simp only [decide_eq_true_eq] at h1 h2
  omega
theorem Z7v {α β:Type}(f g h:α→List β)(e:∀ v,f v=g v++h v):∀ L:List α,(L.flatMap f).Perm (L.flatMap g++L.flatMap h)
 | []=>by simp
 | v::L=>by
  rw [List.flatMap_cons,List.flatMap_cons,List.flatMap_cons,e v,List.append_assoc,List.append_assoc]
  refine List.Perm.append_left _ ?_
  refine ((Z7v f g h e L).append_left (h v)).trans ?_
  rw [←List.append_assoc,←List.append_assoc]
  exact List.Perm.append_right _ List.perm_append_comm
theorem Z0e {l:List Y3}(hv:∀ b∈l,0≤b.var∧b.var≤5):(Z45 l).Perm l:=by
 induction l with
 | nil=>simp [Z45]
 | cons x l ih=>
  have h1:=ih fun b hb=>hv b (by simp [hb])
  obtain ⟨x0,x5⟩:=hv x (by simp)
  have h2:=Z7v (fun (v:Nat)=>(x::l).filter fun b=>decide (b.var=(v:Int))) (fun (v:Nat)=>if x.var=(v:Int) then [x] else []) (fun (v:Nat)=>l.filter fun b=>decide (b.var=(v:Int))) (fun v=>by
   by_cases hc:x.var=(v:Int)
   ·rw [List.filter_cons,if_pos (by simp [hc]),if_pos hc];rfl
   ·rw [List.filter_cons,if_neg (by simp [hc]),if_neg hc];rfl) (List.range 6)
  have hx:((List.range 6).flatMap fun (v:Nat)=>if x.var=(v:Int) then [x] else [])=[x]:=by
   have h6:x.var=0∨x.var=1∨x.var=2∨x.var=3∨x.var=4∨x.var=5:=by omega
   rcases h6 with h | h | h | h | h | h<;>simp [h,List.range,List.range.loop]
  rw [hx] at h2
  exact h2.trans (List.Perm.cons _ h1)
theorem W15:∀ {a b:List Int},a.Nodup→(∀ x∈a,x∈b)→a.length=b.length→a.Perm b
 | [],b,_,_,h=>by have:b=[]:=List.eq_nil_of_length_eq_zero (by simpa using h.symm);rw [this]
 | x::a,b,hn,hs,h=>by
  have hx:=hs x (by simp)
  have hn':=List.nodup_cons.1 hn
  have hl:=List.length_erase_of_mem hx
  refine (List.Perm.cons x (W15 hn'.2 (fun y hy=>?_) (by simp at h;omega))).trans (List.perm_cons_erase hx).symm
  have hne:y≠x:=fun e=>hn'.1 (e▸hy)
  exact (List.mem_erase_of_ne hne).2 (hs y (by simp [hy]))
theorem X91 {a b:List Z0}(ha:Q1u a=true)(h:Q9o a b=true):(a.map (·.var)).Perm (b.map (·.var)):=by
 simp only [Q9o,Bool.and_eq_true,decide_eq_true_eq,List.all_eq_true] at h
 have hn:(a.map (·.var)).Nodup:=by simpa [Q1u] using ha
 refine W15 hn (fun x hx=>?_) (by simp [h.1])
 obtain ⟨v,hv,rfl⟩:=U11.1 hx
 exact U11.2 ⟨v,h.2 v hv,rfl⟩
theorem W3q {w:List Q3} : ∀ (d:Nat) (t:Q2) (p:Q0),J6 w d t p=true→linD w d t p=true→∀ v l,Z6 d p v=some l→(l.map (·.var)).Perm ((Q1x w d t p).map (·.var)):=by
 intro d
 induction d with
 | zero=>intro t p h;cases h
 | succ d ih=>
  intro t p hg hlin v l hm
  obtain ⟨ho,hl⟩:=Q0y (Q04 hg)
  simp only [linD,Bool.and_eq_true,List.all_eq_true] at hlin
  rw [Q1x]
  rw [Z6] at hm
  have hnil:p.op≠4→p.op≠5→p.op≠6→V5 w t p=[]:=fun h4 h5 h6=>by simp [V5,h4,h5,h6]
  by_cases h1:p.op=1
  ·rw [if_pos h1] at hm;cases hm
   simp [ownV,h1,hnil]
  rw [if_neg h1] at hm
  by_cases h2:p.op=2
  ·rw [if_pos h2] at hm;cases hm
   simp [ownV,h2,hnil]
  rw [if_neg h2] at hm
  by_cases h3:p.op=3
  ·rw [if_pos h3] at hm
   split at hm
   ·cases hm
    simp [ownV,h3,hnil]
   ·cases hm
  rw [if_neg h3] at hm
  by_cases h5:p.op=5
  ·rw [if_pos h5] at hm
   obtain ⟨a,b,hkids,hkt⟩:=kid0 h5 hl
   have ga:=Q06 hg (k:=0) (by rw [hkt];rfl) (by rw [hkids];rfl)
   have gb:=Q06 hg (k:=1) (by rw [hkt];rfl) (by rw [hkids];rfl)
   have g0:=hlin.1 (t,a) (by rw [hkids,hkt];simp)
   have g1:=hlin.1 (t,b) (by rw [hkids,hkt];simp)
   have hal:=hlin.2
   rw [if_pos h5] at hal
   have k0:kv w d t p 0=Q1x w d t a:=by simp [kv,hkids,hkt]
   have k1:kv w d t p 1=Q1x w d t b:=by simp [kv,hkids,hkt]
   rw [k0,k1] at hal
   have hv:ownV t p=[]:=by simp [ownV,h5]
   rw [hv,hkids,hkt,if_pos h5]
   simp only [List.zip_cons_cons,List.zip_nil_right,List.take_succ_cons,List.take_zero,List.flatMap_cons,List.flatMap_nil,List.append_nil,List.nil_append]
   rw [hkids] at hm
   simp only at hm
   split at hm
   ·rename_i l' hl'
    cases hm
    exact ih t a ga g0 v _ hl'
   ·exact (ih t b gb g1 v _ hm).trans (X91 (Q4u d t a ga g0) hal).symm
  rw [if_neg h5] at hm
  rw [if_neg h5,List.take_of_length_le (by rw [List.length_zip];omega)]
  by_cases h6:p.op=6
  ·rw [if_pos h6] at hm
   obtain ⟨a,hkids,hk2⟩:=X3q h6 hl
   have ga:=Q06 hg (k:=0) (by rw [hk2];rfl) (by rw [hkids];rfl)
   have g0:=hlin.1 (t,a) (by rw [hkids,hk2];simp)
   rw [hkids] at hm
   simp only at hm
   cases ha:Z6 d a v with
   | none=>rw [ha] at hm;cases hm
   | some l'=>
    rw [ha] at hm
    cases hm
    have:=ih t a ga g0 v l' ha
    rw [hkids,hk2]
    simpa [ownV,h6] using this
  rw [if_neg h6] at hm
  have hv:ownV t p=[]:=by simp [ownV,h2,h6]
  rw [hv,List.nil_append]
  split at hm
  ·have gen:∀ (ts:List Q2) (ps:List Q0) (vs:List Q4) (l:List Y3),ts.length=ps.length→(∀ x∈ts.zip ps,∀ v l,Z6 d x.2 v=some l→(l.map (·.var)).Perm ((Q1x w d x.1 x.2).map (·.var)))→V6 (Z6 d) ps vs=some l→(l.map (·.var)).Perm (((ts.zip ps).flatMap fun x=>Q1x w d x.1 x.2).map (·.var)):=by
    intro ts ps
    induction ps generalizing ts with
    | nil=>intro vs l _ _ h;simp only [V6] at h;cases h;simp
    | cons q ps ihp=>
     intro vs l hl hx h
     cases ts with
     | nil=>simp at hl
     | cons a ts=>
      cases vs with
      | nil=>cases h
      | cons u vs=>
       simp only [V6] at h
       cases hq:Z6 d q u with
       | none=>rw [hq] at h;cases h
       | some l1=>
        rw [hq] at h
        simp only at h
        cases hps:V6 (Z6 d) ps vs with
        | none=>rw [hps] at h;cases h
        | some l2=>
         rw [hps] at h
         cases h
         have e1:=hx (a,q) (by simp) u l1 hq
         have e2:=ihp ts vs l2 (by simpa using hl) (fun x hxx=>hx x (by simp [hxx])) hps
         simp only [List.zip_cons_cons,List.flatMap_cons,List.map_append]
         exact e1.append e2
   refine gen _ _ _ _ hl.symm (fun x hx v l h=>?_) hm
   obtain ⟨j,hj⟩:=List.mem_iff_getElem?.1 hx
   obtain ⟨e1,e2⟩:=List.getElem?_zip_eq_some.1 hj
   exact ih _ _ (Q06 hg e1 e2) (hlin.1 x hx) v l h
  ·cases hm
structure X4y (l:List Y3):Prop where
 nd:(l.map (·.var)).Nodup
 rg:∀ b∈l,0≤b.var∧b.var≤5
 ln:l.length≤6
theorem X96 {w:List Q3}{d:Nat}{t:Q2}{p:Q0}(g:J6 w d t p=true)(l:linD w d t p=true){v:Q4}{r:List Y3}(h:Z6 d p v=some r):X4y r:=by
 have hp:=W3q d t p g l v r h
 have hd:=Q4u d t p g l
 simp only [Q1u,decide_eq_true_eq] at hd
 refine ⟨hp.nodup_iff.2 hd,fun b hb=>?_,?_⟩
 ·obtain ⟨y,hy,e⟩:=U11.1 (hp.mem_iff.1 (List.mem_map_of_mem hb))
  have:=Z34 d t p g y hy
  omega
 ·have h1:=hp.length_eq
  have h2:=V0s g l
  simp only [U7] at h1
  omega
theorem W6e {a b:List Y3}(ha:X4y a)(h:a.Perm b):Z45 a=Z45 b:=by
 have hb:(b.map (·.var)).Nodup:=(h.map _).nodup_iff.1 ha.nd
 have hr:∀ x∈b,0≤x.var∧x.var≤5:=fun x hx=>ha.rg x (h.mem_iff.2 hx)
 exact Z98 _ _ (Z28 ha.nd) (Z28 hb) ((Z0e ha.rg).trans (h.trans (Z0e hr).symm))
def Q38 (g:Q4g)(l:List Y3):Bool:=decide (g.op=0)||match l.find? fun b=>decide (b.var=g.var) with
 | none=>false
 | some b=>decide (b.value.ctor = -1)&&((decide (g.op=1)&&decide (b.value.n<g.n))||(decide (g.op=2)&&decide (b.value.n=g.n)))
theorem W8j {a b:List Y3}(hn:(a.map (·.var)).Nodup)(h:a.Perm b)(v:Int):a.find? (fun x=>decide (x.var=v))=b.find? (fun x=>decide (x.var=v)):=by
 induction h with
 | nil=>rfl
 | cons x h ih=>
  rw [List.find?_cons,List.find?_cons]
  split
  ·rfl
  ·exact ih (List.nodup_cons.1 (by simpa using hn)).2
 | swap x y l=>
  simp only [List.map_cons,List.nodup_cons,U8,not_or] at hn
  simp only [List.find?_cons]
  by_cases h1:x.var=v
  ·have h2:¬y.var=v:=fun e=>hn.1.1 (by omega)
   simp [h1,h2]
  ·simp [h1]
 | trans h1 h2 ih1 ih2=>rw [ih1 hn,ih2 ((h1.map _).nodup_iff.1 hn)]
theorem Z4h {a b:List Y3}(hn:(a.map (·.var)).Nodup)(h:a.Perm b)(g:Q4g):Q38 g a=Q38 g b:=by
 unfold Q38
 rw [W8j hn h]
theorem X9m {l:List Y3}(h:X4y l)(g:Q4g):Q38 g (Z45 l)=Q38 g l:=(Z4h h.nd (Z0e h.rg).symm g).symm
def runD (v:Q4):Nat→List Q5→Option (Nat×List Y3)
 | _,[]=>none
 | k,c::cs=>match Z6 10 c.pat v with
  | none=>runD v (k+1) cs
  | some l=>if Q38 c.guard l=true then some (k,Z45 l) else runD v (k+1) cs
def runR:Option (Nat×List Y3)→Int×List Y3
 | none=>(-1,[])
 | some x=>((x.1:Int),x.2)
theorem Q9k {α:Type}{l:List α}{k:Nat}{x:α}(h:l[k]?=some x):l.drop k=x::l.drop (k+1):=by
 obtain ⟨hk,rfl⟩:=List.getElem?_eq_some_iff.1 h
 exact List.drop_eq_getElem_cons hk
theorem Z9t {f:Q0→Q4→Option (List Y3)} : ∀ (a:List Q0) (vs:List Q4) (c:Q0) (u:Q4),a.length=vs.length→V6 f (a++[c]) (vs++[u])=(V6 f a vs).bind fun l1=>(f c u).map (l1++·)
 | [],[],c,u,_=>by
  simp only [List.nil_append,V6,U0]
  cases f c u<;>simp
 | p::a,v::vs,c,u,h=>by
  simp only [List.cons_append,V6]
  rw [Z9t a vs c u (by simpa using h)]
  cases f p v with
  | none=>rfl
  | some l=>
   simp only
   cases V6 f a vs with
   | none=>rfl
   | some l1=>
    simp only [U0]
    cases f c u<;>simp
 | [],_::_,_,_,h=>by simp at h
 | _::_,[],_,_,h=>by simp at h
theorem Q61 {f:Q0→Q4→Option (List Y3)} : ∀ (a b:List Q0) (us vs:List Q4),a.length=us.length→V6 f (a++b) (us++vs)=(V6 f a us).bind fun l1=>(V6 f b vs).map (l1++·)
 | [],b,[],vs,_=>by
  simp only [List.nil_append,V6,U0]
  cases V6 f b vs<;>simp
 | p::a,b,u::us,vs,h=>by
  simp only [List.cons_append,V6]
  rw [Q61 a b us vs (by simpa using h)]
  cases f p u with
  | none=>rfl
  | some l=>
   simp only
   cases V6 f a us with
   | none=>rfl
   | some l1=>
    simp only [U0]
    cases V6 f b vs<;>simp
 | [],_,_::_,_,h=>by simp at h
 | _::_,_,[],_,h=>by simp at h
theorem X0h {α β:Type}{l:List α}{f:α→Option β}(h:∀ x∈l,f x=none):l.findSome? f=none:=List.findSome?_eq_none_iff.2 h
theorem X4e {α β γ:Type}(l:List α)(g:α→β)(f:β→Option γ):(l.map g).findSome? f=l.findSome? fun x=>f (g x):=by
 induction l with
 | nil=>rfl
 | cons a l ih=>simp only [List.map_cons,List.findSome?_cons,ih]
theorem Z3c {α β:Type}{l:List α}{f g:α→Option β}(h:∀ x∈l,f x=g x):l.findSome? f=l.findSome? g:=by
 induction l with
 | nil=>rfl
 | cons a l ih=>simp only [List.findSome?_cons];rw [h a (by simp),ih fun x hx=>h x (by simp [hx])]
theorem X7f {α β γ:Type}(l:List α)(f:α→Option β)(g:β→γ):(l.findSome? fun x=>(f x).map g)=(l.findSome? f).map g:=by
 induction l with
 | nil=>rfl
 | cons a l ih=>
  simp only [List.findSome?_cons]
  cases f a with
  | none=>simpa using ih
  | some x=>rfl
theorem W0s {f:Q0→Q4→Option (List Y3)}(l:List Q0)(vs:List Q4)(u:Q4):∀ out:List (List Q0),(∀ a∈out,a.length=vs.length)→
  (tupD out l).findSome? (fun ks=>V6 f ks (vs++[u]))=(out.findSome? fun a=>V6 f a vs).bind fun l1=>(l.findSome? fun c=>f c u).map (l1++·)
 | [],_=>by simp [tupD]
 | a::out,h=>by
  have e:tupD (a::out) l=(l.map fun c=>a++[c])++tupD out l:=by simp [tupD]
  rw [e,List.findSome?_append,X4e,W0s l vs u out fun x hx=>h x (by simp [hx])]
  have e2:(l.findSome? fun x=>V6 f (a++[x]) (vs++[u]))=(V6 f a vs).bind fun l1=>(l.findSome? fun c=>f c u).map (l1++·):=by
   rw [Z3c fun x _=>Z9t a vs x u (h a (by simp))]
   cases V6 f a vs with
   | none=>simp only [Option.bind_none];exact X0h fun _ _=>rfl
   | some l1=>simp only [U0];exact X7f l _ _
  rw [e2,List.findSome?_cons]
  cases V6 f a vs with
  | none=>simp
  | some l1=>
   simp only [U0]
   cases l.findSome? fun c=>f c u with
   | none=>simp
   | some l2=>simp
def X4f (f:Q0→Q4→Option (List Y3)):List (List Q0)→List Q4→Option (List Y3)
 | [],_=>some []
 | _::_,[]=>none
 | l::ls,v::vs=>match l.findSome? fun c=>f c v with
  | none=>none
  | some r=>match X4f f ls vs with
   | none=>none
   | some m=>some (r++m)
theorem X5j {f:Q0→Q4→Option (List Y3)} : ∀ (ls:List (List Q0)) (vs:List Q4) (vs0:List Q4) (out:List (List Q0)),ls.length=vs.length→(∀ a∈out,a.length=vs0.length)→
  (ls.foldl tupD out).findSome? (fun ks=>V6 f ks (vs0++vs))=(out.findSome? fun a=>V6 f a vs0).bind fun l1=>(X4f f ls vs).map (l1++·)
 | [],[],vs0,out,_,_=>by
  simp only [List.foldl_nil,List.append_nil,X4f]
  cases out.findSome? fun a=>V6 f a vs0<;>simp
 | l::ls,v::vs,vs0,out,h,ho=>by
  rw [List.foldl_cons]
  have:=X5j (f:=f) ls vs (vs0++[v]) (tupD out l) (by simpa using h) (fun a ha=>by
   simp only [tupD,List.mem_flatMap,U11] at ha
   obtain ⟨q,hq,c,_,rfl⟩:=ha
   simp [ho q hq])
  rw [List.append_assoc,List.singleton_append] at this
  rw [this,W0s l vs0 v out ho]
  cases out.findSome? fun a=>V6 f a vs0 with
  | none=>rfl
  | some l1=>
   simp only [U0,X4f]
   cases l.findSome? fun c=>f c v with
   | none=>rfl
   | some l2=>
    simp only [Option.map_some,U0]
    cases X4f f ls vs with
    | none=>rfl
    | some l3=>simp
 | [],_::_,_,_,h,_=>by simp at h
 | _::_,[],_,_,h,_=>by simp at h
theorem Z9u {f g:Q0→Q4→Option (List Y3)}{s:Q0→List Q0} : ∀ (ps:List Q0) (vs:List Q4),(∀ (j:Nat) (p:Q0) (v:Q4),ps[j]?=some p→vs[j]?=some v→g p v=(s p).findSome? fun c=>f c v)→V6 g ps vs=X4f f (ps.map s) vs
 | [],_,_=>rfl
 | _::_,[],_=>rfl
 | p::ps,v::vs,h=>by
  simp only [V6,List.map_cons,X4f]
  rw [h 0 p v rfl rfl,Z9u ps vs fun j p' v' h1 h2=>h (j+1) p' v' (by simpa using h1) (by simpa using h2)]
  cases (s p).findSome? fun c=>f c v with
  | none=>rfl
  | some l=>
   simp only
   cases X4f f (ps.map s) vs<;>rfl
theorem W34 {w:List Q3}(hw:WW w)(hS:WS w):∀ (d e:Nat) (t:Q2) (p:Q0) (v:Q4),t∈tys w→J6 w d t p=true→Q1r w e t v→(Q9 d p).findSome? (fun q=>Z6 d q v)=Z6 d p v:=by
 intro d
 induction d with
 | zero=>intro e t p v _ h;simp [J6] at h
 | succ d ih=>
  intro e t p v ht g hv
  have hn:=Q04 g
  obtain ⟨ho,hl⟩:=Q0y hn
  by_cases h5:p.op=5
  ·obtain ⟨a,b,hab,hkt⟩:=kid0 h5 hl
   have ga:=Q06 g (k:=0) (a:=t) (q:=a) (by rw [hkt];rfl) (by rw [hab];rfl)
   have gb:=Q06 g (k:=1) (a:=t) (q:=b) (by rw [hkt];rfl) (by rw [hab];rfl)
   have e1:Q9 (d+1) p=Q9 d a++Q9 d b:=by simp [Q9,h5,hab]
   rw [e1,List.findSome?_append]
   have mono:∀ x,J6 w d t x=true→(Q9 d x).findSome? (fun q=>Z6 (d+1) q v)=Z6 d x v:=fun x gx=>by
    rw [Z3c fun q hq=>(Z5l d t q (Q8t d t x q gx hq)).2.2.2 v]
    exact ih e t x v ht gx hv
   rw [mono a ga,mono b gb]
   rw [Z6,if_neg (by omega),if_neg (by omega),if_neg (by omega),if_pos h5,hab]
   simp only
   cases Z6 d a v<;>simp
  ·have e1:Q9 (d+1) p=((p.kids.map (Q9 d)).foldl tupD [[]]).map (Q3v p):=by simp [Q9,h5]
   rw [e1,X4e]
   by_cases h4:p.op=4
   ·have hc:=Q9t ho h4
    have hd:t.data≠-1:=fun hd=>by rw [hS.int t ht hd] at hc;cases hc
    have hm:∀ ks,Z6 (d+1) (Q3v p ks) v=if p.ctor=v.ctor then V6 (Z6 d) ks v.kids else none:=fun ks=>by
     rw [Z6,if_neg (by simp [Q3v];omega),if_neg (by simp [Q3v];omega),if_neg (by simp [Q3v];omega),if_neg (by simpa [Q3v] using h5),if_neg (by simp [Q3v];omega)]
     rfl
    have hm2:Z6 (d+1) p v=if p.ctor=v.ctor then V6 (Z6 d) p.kids v.kids else none:=by
     rw [Z6,if_neg (by omega),if_neg (by omega),if_neg (by omega),if_neg h5,if_neg (by omega)]
    rw [Z3c fun ks _=>hm ks,hm2]
    by_cases hcv:p.ctor=v.ctor
    ·simp only [if_pos hcv]
     cases e with
     | zero=>exact hv.elim
     | succ e=>
     rw [Q1r,if_neg hd] at hv
     obtain ⟨_,_,hvl,hvk⟩:=hv
     have hkt:V5 w t p=X4 w t v.ctor:=by rw [V5,if_pos h4,hcv]
     have hlen:(p.kids.map (Q9 d)).length=v.kids.length:=by rw [U7,hl,hkt,hvl]
     have:=X5j (f:=Z6 d) (p.kids.map (Q9 d)) v.kids [] [[]] hlen (by simp)
     rw [List.nil_append] at this
     rw [this]
     simp only [List.findSome?_cons,V6,U0]
     rw [Z9u (f:=Z6 d) (g:=Z6 d) (s:=Q9 d) p.kids v.kids fun j q u hq hu=>?_]
     ·cases X4f (Z6 d) (p.kids.map (Q9 d)) v.kids<;>simp
     ·have hj:=(List.getElem?_eq_some_iff.1 hq).1
      obtain ⟨a,ha⟩:∃ a,(X4 w t v.ctor)[j]?=some a:=⟨_,U10 (by rw [hkt] at hl;omega)⟩
      exact (ih e a q u (Q8b (hw.ty t ht) ht ho _ (by rw [hkt];exact U1 ha)) (Q06 g (by rw [hkt];exact ha) hq) (hvk j a u ha hu)).symm
    ·simp only [if_neg hcv]
     exact X0h fun _ _=>rfl
   ·by_cases h6:p.op=6
    ·obtain ⟨a,hk,hkt⟩:=X3q h6 hl
     have ga:=Q06 g (k:=0) (a:=t) (q:=a) (by rw [hkt];rfl) (by rw [hk];rfl)
     have e2:((p.kids.map (Q9 d)).foldl tupD [[]])=(Q9 d a).map fun c=>[c]:=by
      rw [hk];simp [tupD]
     rw [e2,X4e]
     have hm:∀ c,Z6 (d+1) (Q3v p [c]) v=(Z6 d c v).map (fun l=>⟨p.var,v⟩::l):=fun c=>by
      rw [Z6,if_neg (by simp [Q3v];omega),if_neg (by simp [Q3v];omega),if_neg (by simp [Q3v];omega),if_neg (by simp [Q3v];omega),if_pos (by simpa [Q3v] using h6)]
      rfl
     rw [Z3c fun c _=>hm c,X7f,ih e t a v ht ga hv]
     rw [Z6,if_neg (by omega),if_neg (by omega),if_neg (by omega),if_neg h5,if_pos h6,hk]
    ·have hk:p.kids=[]:=by
      rw [V5,if_neg h4,if_neg h5,if_neg h6] at hl
      exact List.eq_nil_of_length_eq_zero hl
     rw [hk]
     have:Q3v p []=p:=by rw [←hk];cases p;rfl
     simp only [List.map_nil,List.foldl_nil,List.findSome?_cons,this]
     cases Z6 (d+1) p v<;>rfl
theorem X8n {w:List Q3}{t:Q2}{path:List Int}{v:Q4} : ∀ (d:Nat) (p:Q0),asOk d p→J6 w 12 t p=true→Z6 12 p v=(Z6 12 (Q2r d p path).2 v).map (((Q2r d p path).1.map fun b=>Y3.mk b.var v)++·):=by
 intro d
 induction d with
 | zero=>intro p h;exact h.elim
 | succ d ih=>
  intro p h g
  rw [Q3c]
  by_cases h6:p.op=6
  ·obtain ⟨q,hq,hd⟩:=h h6
   have ga:J6 w 11 t q=true:=Q06 g (k:=0) (a:=t) (by rw [V5,if_neg (by omega),if_neg (by omega),if_pos h6];rfl) (by rw [hq];rfl)
   rw [if_pos h6,hq]
   simp only [List.headD_cons]
   have e1:Z6 12 p v=(Z6 12 q v).map (fun l=>⟨p.var,v⟩::l):=by
    rw [(Z5l 11 t q ga).2.2.2 v,Z6,if_neg (by omega),if_neg (by omega),if_neg (by omega),if_neg (by omega),if_pos h6,hq]
   rw [e1,ih q hd (Q5x 11 t q ga)]
   cases Z6 12 (Q2r d q path).2 v<;>simp
  ·rw [if_neg h6]
   by_cases h2:p.op=2
   ·rw [if_pos h2]
    have e1:Z6 12 p v=some [⟨p.var,v⟩]:=by rw [Z6,if_neg (by omega),if_pos h2]
    have e2:Z6 12 anyP v=some []:=X81 11 v
    rw [e1]
    simp only
    rw [e2]
    rfl
   ·rw [if_neg h2]
    simp only [List.map_nil,List.nil_append]
    cases Z6 12 p v<;>rfl
theorem V46 {w:List Q3}{t:Q2}{p:Q0}(path:List Int)(v:Q4)(g:J6 w 12 t p=true):Z6 12 p v=(Z6 12 (Q79 p path).2 v).map (((Q79 p path).1.map fun b=>Y3.mk b.var v)++·):=
 X8n 12 p (X03 12 t p g) g
def fitP:Q0→Q4→Bool
 | ⟨op,ctor,n,m,_,kids⟩,v=>if op=1 then true else if op=3 then decide (n≤v.n∧v.n≤m) else decide (ctor=v.ctor)&&fitPs kids v.kids
where fitPs:List Q0→List Q4→Bool
 | [],[]=>true
 | p::ps,v::vs=>fitP p v&&fitPs ps vs
 | _,_=>false
abbrev fitL:=fitP.fitPs
theorem Q70 {p:Q0}(h:p.op=1)(v:Q4):fitP p v=true:=by
 cases p;simp only at h;subst h;simp [fitP]
theorem Q6z {p:Q0}(h:p.op=3)(v:Q4):fitP p v=decide (p.n≤v.n∧v.n≤p.m):=by
 cases p;simp only at h;subst h;simp [fitP]
theorem Q22 {p:Q0}(h:p.op=4)(v:Q4):fitP p v=(decide (p.ctor=v.ctor)&&fitL p.kids v.kids):=by
 cases p;simp only at h;subst h;simp [fitP]
@[simp] theorem Z8p:fitL [] []=true:=by simp [fitP.fitPs]
@[simp] theorem Q5z (p:Q0) (ps:List Q0) (v:Q4) (vs:List Q4):fitL (p::ps) (v::vs)=(fitP p v&&fitL ps vs):=by simp [fitP.fitPs]
def X6 (w:List Q3):Nat→Q2→Q0→Prop
 | 0,_,_=>False
 | d+1,t,p=>p=Q0.mk 1 0 0 0 0 []∨(∃ n m,p=Q0.mk 3 0 n m 0 []∧t.data = -1∧0≤n∧n≤m∧m≤9)∨
  (∃ c ks,p=Q0.mk 4 c 0 0 0 ks∧t.data≠-1∧c∈X1 w t∧ks.length=(X4 w t c).length∧∀ (j:Nat) (a:Q2) (q:Q0),(X4 w t c)[j]?=some a→ks[j]?=some q→X6 w d a q)
theorem Z0y (w:List Q3)(d:Nat)(t:Q2):X6 w (d+1) t (Q0.mk 1 0 0 0 0 []):=.inl rfl
theorem Q6f {w:List Q3} : ∀ (d:Nat) (t:Q2) (p:Q0),X6 w d t p→X6 w (d+1) t p
 | 0,_,_,h=>h.elim
 | d+1,t,p,h=>by
  rcases h with h | h | ⟨c,ks,e,h1,h2,h3,h4⟩
  ·exact .inl h
  ·exact .inr (.inl h)
  ·exact .inr (.inr ⟨c,ks,e,h1,h2,h3,fun j a q ha hq=>Q6f d a q (h4 j a q ha hq)⟩)
theorem X92 {w:List Q3}{d e:Nat}{t:Q2}{p:Q0}(h:X6 w d t p)(he:d≤e):X6 w e t p:=by
 induction he with
 | refl=>exact h
 | step _ ih=>exact Q6f _ t p ih
def Q56 (f:Q0→Q0→Option Q0):List Q0→List Q0→Option (List Q0)
 | a::as,b::bs=>(f a b).bind fun x=>(Q56 f as bs).map (x::·)
 | _,_=>some []
def Q0t:Nat→Q0→Q0→Option Q0
 | 0,_,_=>none
 | d+1,a,b=>
  if a.op=1 then some b else if b.op=1 then some a
  else if a.op=3 then (if max a.n b.n≤min a.m b.m then some (Q0.mk 3 0 (max a.n b.n) (min a.m b.m) 0 []) else none)
  else if a.ctor=b.ctor then (Q56 (Q0t d) a.kids b.kids).map (fun ks=>Q0.mk 4 a.ctor 0 0 0 ks) else none
theorem X6l {f:Q0→Q0→Option Q0} : ∀ (as bs:List Q0) (vs:List Q4),as.length=vs.length→bs.length=vs.length→
  (∀ (j:Nat) (a b:Q0) (v:Q4),as[j]?=some a→bs[j]?=some b→vs[j]?=some v→((fitP a v=true∧fitP b v=true)↔∃ m,f a b=some m∧fitP m v=true))→
  ((fitL as vs=true∧fitL bs vs=true)↔∃ ms,Q56 f as bs=some ms∧fitL ms vs=true)
 | [],[],[],_,_,_=>by simp [Q56]
 | a::as,b::bs,v::vs,h1,h2,h=>by
  have h0:=h 0 a b v rfl rfl rfl
  have ih:=X6l as bs vs (by simpa using h1) (by simpa using h2) fun j x y z e1 e2 e3=>h (j+1) x y z e1 e2 e3
  simp only [Q5z,Bool.and_eq_true,Q56]
  constructor
  ·rintro ⟨⟨g1,g2⟩,g3,g4⟩
   obtain ⟨m,e1,e2⟩:=h0.1 ⟨g1,g3⟩
   obtain ⟨ms,e3,e4⟩:=ih.1 ⟨g2,g4⟩
   exact ⟨m::ms,by simp [e1,e3],by simp [e2,e4]⟩
  ·rintro ⟨ms,e1,e2⟩
   cases hm:f a b with
   | none=>simp [hm] at e1
   | some m=>
    cases hms:Q56 f as bs with
    | none=>simp [hm,hms] at e1
    | some ms'=>
     simp [hm,hms] at e1
     subst e1
     simp only [Q5z,Bool.and_eq_true] at e2
     obtain ⟨g1,g3⟩:=h0.2 ⟨m,hm,e2.1⟩
     obtain ⟨g2,g4⟩:=ih.2 ⟨ms',hms,e2.2⟩
     exact ⟨⟨g1,g2⟩,g3,g4⟩
 | [],[],_::_,h,_,_=>by simp at h
 | [],_::_,[],_,h,_=>by simp at h
 | [],_::_,_::_,h,_,_=>by simp at h
 | _::_,[],[],h,_,_=>by simp at h
 | _::_,[],_::_,_,h,_=>by simp at h
 | _::_,_::_,[],h,_,_=>by simp at h
theorem Q7y {w:List Q3}{e:Nat}{t:Q2}{v:Q4}(h:Q1r w e t v)(hd:t.data≠-1):∃ e',e=e'+1∧v.ctor∈X1 w t∧v.kids.length=(X4 w t v.ctor).length∧∀ (j:Nat) (a:Q2) (x:Q4),(X4 w t v.ctor)[j]?=some a→v.kids[j]?=some x→Q1r w e' a x:=by
 cases e with
 | zero=>exact h.elim
 | succ e=>
  simp only [Q1r,if_neg hd] at h
  exact ⟨e,rfl,h.2.1,h.2.2.1,h.2.2.2⟩
theorem W8d {w:List Q3}{e:Nat}{t:Q2}{v:Q4}(h:Q1r w e t v)(hd:t.data = -1):0≤v.n∧v.n≤9:=by
 cases e with
 | zero=>exact h.elim
 | succ e=>
  simp only [Q1r,if_pos hd] at h
  exact ⟨h.2.1,h.2.2.1⟩
theorem Q27 {α:Type}{l:List α}{n j:Nat}(h:l.length=n)(hj:j<n):∃ x,l[j]?=some x:=⟨l[j]'(by omega),by simp⟩
theorem W1c {w:List Q3} : ∀ (d e:Nat) (t:Q2) (a b:Q0) (x:Nat),X6 w x t a→X6 w d t b→∀ v,Q1r w e t v→((fitP a v=true∧fitP b v=true)↔∃ m,Q0t d a b=some m∧fitP m v=true):=by
 intro d
 induction d with
 | zero=>intro e t a b x _ h;exact h.elim
 | succ d ih=>
  intro e t a b x ha hb v hv
  cases x with
  | zero=>exact ha.elim
  | succ x=>
  rcases ha with rfl | ⟨n,m,rfl,ht,h0,h1,h2⟩ | ⟨c,ks,rfl,ht,hc,hl,hk⟩
  ·simp [Q0t,Q70]
  ·rcases hb with rfl | ⟨n',m',rfl,_,h0',h1',h2'⟩ | ⟨c',ks',rfl,ht',_⟩
   ·simp [Q0t,Q70]
   ·rw [Q6z rfl,Q6z rfl]
    simp only [Q0t]
    have e1:¬(3:Int)=1:=by decide
    simp only [e1,if_false,if_true,decide_eq_true_eq]
    split
    ·rename_i hle
     constructor
     ·intro h
      exact ⟨_,rfl,by rw [Q6z rfl];simp only [decide_eq_true_eq];omega⟩
     ·rintro ⟨m2,e2,h⟩
      cases e2
      rw [Q6z rfl] at h
      simp only [decide_eq_true_eq] at h
      omega
    ·rename_i hle
     constructor
     ·intro h;exfalso;omega
     ·rintro ⟨_,e2,_⟩;cases e2
   ·exact absurd ht ht'
  ·rcases hb with rfl | ⟨n',m',rfl,ht',_⟩ | ⟨c',ks',rfl,_,hc',hl',hk'⟩
   ·simp [Q0t,Q70]
   ·exact absurd ht' ht
   ·rw [Q22 rfl,Q22 rfl]
    simp only [Q0t]
    have e1:¬(4:Int)=1:=by decide
    have e3:¬(4:Int)=3:=by decide
    simp only [e1,e3,if_false,Bool.and_eq_true,decide_eq_true_eq]
    obtain ⟨e',rfl,gv1,gv2,gv3⟩:=Q7y hv ht
    by_cases hcc:c=c'
    ·subst hcc
     simp only [if_true]
     by_cases hcv:c=v.ctor
     ·subst hcv
      have hL:=X6l (f:=Q0t d) ks ks' v.kids (hl.trans gv2.symm) (hl'.trans gv2.symm) fun j p q u e1 e2 e3=>by
       have hj:j<(X4 w t v.ctor).length:=by rw [←gv2];exact (List.getElem?_eq_some_iff.1 e3).1
       obtain ⟨y,hy⟩:=Q27 (l:=X4 w t v.ctor) rfl hj
       exact ih e' y p q x (hk j y p hy e1) (hk' j y q hy e2) u (gv3 j y u hy e3)
      constructor
      ·rintro ⟨⟨_,g1⟩,_,g2⟩
       obtain ⟨ms,e1,e2⟩:=hL.1 ⟨g1,g2⟩
       exact ⟨_,by rw [e1];rfl,by rw [Q22 rfl];simp [e2]⟩
      ·rintro ⟨m,e1,e2⟩
       cases hm:Q56 (Q0t d) ks ks' with
       | none=>rw [hm] at e1;cases e1
       | some ms=>
        rw [hm] at e1
        cases e1
        rw [Q22 rfl] at e2
        simp only [Bool.and_eq_true] at e2
        obtain ⟨g1,g2⟩:=hL.2 ⟨ms,hm,e2.2⟩
        exact ⟨⟨rfl,g1⟩,rfl,g2⟩
     ·constructor
      ·rintro ⟨⟨g,_⟩,_⟩;exact absurd g hcv
      ·rintro ⟨m,e1,e2⟩
       cases hm:Q56 (Q0t d) ks ks' with
       | none=>rw [hm] at e1;cases e1
       | some ms=>
        rw [hm] at e1
        cases e1
        rw [Q22 rfl] at e2
        simp only [Bool.and_eq_true,decide_eq_true_eq] at e2
        exact absurd e2.1 hcv
    ·simp only [if_neg hcc]
     constructor
     ·rintro ⟨⟨g1,_⟩,g2,_⟩;exact absurd (g1.trans g2.symm) hcc
     ·rintro ⟨_,e1,_⟩;cases e1
def kmD (fm:Q2→Q0→Q0→List Q0)(fj:Q0→Q0→Option Q0):List Q2→List Q0→List Q0→List (List Q0)
 | t::ts,a::as,b::bs=>(fm t a b).map (fun x=>x::as)++(match fj a b with | none=>[] | some m=>(kmD fm fj ts as bs).map (m::·))
 | _,_,_=>[]
def Z3j (n m n' m':Int):List Q0:=
 (if n≤min m (n'-1) then [Q0.mk 3 0 n (min m (n'-1)) 0 []] else [])++(if max n (m'+1)≤m then [Q0.mk 3 0 (max n (m'+1)) m 0 []] else [])
def cmD (w:List Q3)(fm:Q2→Q0→Q0→List Q0)(fj:Q0→Q0→Option Q0)(t:Q2)(a b:Q0):List Q0:=
 if a.ctor=b.ctor then (kmD fm fj (X4 w t a.ctor) a.kids b.kids).map (fun ks=>Q0.mk 4 a.ctor 0 0 0 ks) else [a]
def Q69 (w:List Q3)(t:Q2)(c:Int):Q0:=Q0.mk 4 c 0 0 0 ((X4 w t c).map fun _=>Q0.mk 1 0 0 0 0 [])
def W6 (w:List Q3):Nat→Q2→Q0→Q0→List Q0
 | 0,_,_,_=>[]
 | d+1,t,a,b=>if b.op=1 then [] else if b.op=3 then (if a.op=1 then Z3j 0 9 b.n b.m else Z3j a.n a.m b.n b.m)
  else if a.op=1 then (X1 w t).flatMap fun c=>cmD w (W6 w d) (Q0t d) t (Q69 w t c) b
  else cmD w (W6 w d) (Q0t d) t a b
theorem V4h {fm:Q2→Q0→Q0→List Q0}{fj:Q0→Q0→Option Q0} : ∀ (ts:List Q2) (as bs:List Q0) (vs:List Q4),as.length=ts.length→bs.length=ts.length→vs.length=ts.length→
  (∀ (j:Nat) (t:Q2) (a b:Q0) (v:Q4),ts[j]?=some t→as[j]?=some a→bs[j]?=some b→vs[j]?=some v→
   ((fitP a v=true∧fitP b v=true)↔∃ m,fj a b=some m∧fitP m v=true)∧((fitP a v=true∧fitP b v=false)↔∃ x∈fm t a b,fitP x v=true))→
  ((fitL as vs=true∧fitL bs vs=false)↔∃ ks∈kmD fm fj ts as bs,fitL ks vs=true)
 | [],[],[],[],_,_,_,_=>by simp [kmD]
 | t::ts,a::as,b::bs,v::vs,h1,h2,h3,h=>by
  obtain ⟨hj,hm⟩:=h 0 t a b v rfl rfl rfl rfl
  have ih:=V4h ts as bs vs (by simpa using h1) (by simpa using h2) (by simpa using h3) fun j x y z u e1 e2 e3 e4=>h (j+1) x y z u e1 e2 e3 e4
  simp only [Q5z,Bool.and_eq_true,kmD,U9,U11]
  constructor
  ·rintro ⟨⟨g1,g2⟩,g3⟩
   cases hb:fitP b v with
   | false=>
    obtain ⟨x,hx,gx⟩:=hm.1 ⟨g1,hb⟩
    exact ⟨x::as,.inl ⟨x,hx,rfl⟩,by simp [gx,g2]⟩
   | true=>
    rw [hb] at g3
    obtain ⟨m,e1,e2⟩:=hj.1 ⟨g1,hb⟩
    obtain ⟨ks,hk,gk⟩:=ih.1 ⟨g2,by simpa using g3⟩
    refine ⟨m::ks,.inr ?_,by simp [e2,gk]⟩
    rw [e1]
    exact U11.2 ⟨ks,hk,rfl⟩
  ·rintro ⟨ks,hk | hk,gk⟩
   ·obtain ⟨x,hx,rfl⟩:=hk
    simp only [Q5z,Bool.and_eq_true] at gk
    obtain ⟨g1,g2⟩:=hm.2 ⟨x,hx,gk.1⟩
    exact ⟨⟨g1,gk.2⟩,by simp [g2]⟩
   ·cases e1:fj a b with
    | none=>rw [e1] at hk;simp at hk
    | some m=>
     rw [e1] at hk
     obtain ⟨ks',hk',rfl⟩:=U11.1 hk
     simp only [Q5z,Bool.and_eq_true] at gk
     obtain ⟨g1,g2⟩:=hj.2 ⟨m,e1,gk.1⟩
     obtain ⟨g3,g4⟩:=ih.2 ⟨ks',hk',gk.2⟩
     exact ⟨⟨g1,g3⟩,by simp [g4]⟩
 | [],_::_,_,_,h,_,_,_=>by simp at h
 | [],[],_::_,_,_,h,_,_=>by simp at h
 | [],[],[],_::_,_,_,h,_=>by simp at h
 | _::_,[],_,_,h,_,_,_=>by simp at h
 | _::_,_::_,[],_,_,h,_,_=>by simp at h
 | _::_,_::_,_::_,[],_,_,h,_=>by simp at h
theorem W13 {n m n' m':Int}{v:Q4} : ((n≤v.n∧v.n≤m)∧¬(n'≤v.n∧v.n≤m'))↔∃ x∈Z3j n m n' m',fitP x v=true:=by
 simp only [Z3j,U9]
 constructor
 ·rintro ⟨h1,h2⟩
  by_cases h:n'≤v.n
  ·refine ⟨Q0.mk 3 0 (max n (m'+1)) m 0 [],.inr ?_,?_⟩
   ·rw [if_pos (by omega)];simp
   ·rw [Q6z rfl];simp only [decide_eq_true_eq];omega
  ·refine ⟨Q0.mk 3 0 n (min m (n'-1)) 0 [],.inl ?_,?_⟩
   ·rw [if_pos (by omega)];simp
   ·rw [Q6z rfl];simp only [decide_eq_true_eq];omega
 ·rintro ⟨x,hx,h⟩
  rcases hx with hx | hx<;>split at hx<;>simp at hx<;>subst hx<;>rw [Q6z rfl] at h<;>simp only [decide_eq_true_eq] at h<;>omega
theorem W5q {w:List Q3}{t:Q2}{c:Int}{v:Q4}(hl:v.ctor=c→v.kids.length=(X4 w t c).length):fitP (Q69 w t c) v=decide (c=v.ctor):=by
 rw [Q69,Q22 rfl]
 simp only
 by_cases h:c=v.ctor
 ·have hl:=hl h.symm
  have:∀ (l:List Q2) (vs:List Q4),vs.length=l.length→fitL (l.map fun _=>Q0.mk 1 0 0 0 0 []) vs=true:=by
   intro l
   induction l with
   | nil=>intro vs h;cases vs<;>simp at h ⊢
   | cons a l ih=>
    intro vs h
    cases vs with
    | nil=>simp at h
    | cons v vs=>simp [Q70,ih vs (by simpa using h)]
  simp [h,this _ _ (h▸hl)]
 ·simp [h]
theorem V53 {w:List Q3}{d e x:Nat}(hM:∀ (e:Nat) (t:Q2) (a b:Q0) (x:Nat),X6 w x t a→X6 w d t b→∀ v,Q1r w e t v→((fitP a v=true∧fitP b v=false)↔∃ y∈W6 w d t a b,fitP y v=true))
  {t:Q2} {c c':Int} {ks ks':List Q0} (ht:t.data≠-1) (hl:ks.length=(X4 w t c).length) (hk:∀ (j:Nat) (a:Q2) (q:Q0),(X4 w t c)[j]?=some a→ks[j]?=some q→X6 w x a q)
  (hl':ks'.length=(X4 w t c').length) (hk':∀ (j:Nat) (a:Q2) (q:Q0),(X4 w t c')[j]?=some a→ks'[j]?=some q→X6 w d a q) {v:Q4} (hv:Q1r w e t v) :
  ((fitP (Q0.mk 4 c 0 0 0 ks) v=true∧fitP (Q0.mk 4 c' 0 0 0 ks') v=false)↔∃ y∈cmD w (W6 w d) (Q0t d) t (Q0.mk 4 c 0 0 0 ks) (Q0.mk 4 c' 0 0 0 ks'),fitP y v=true):=by
 rw [Q22 rfl,Q22 rfl]
 simp only [cmD,Bool.and_eq_true,decide_eq_true_eq,Bool.and_eq_false_iff,decide_eq_false_iff_not]
 obtain ⟨e',rfl,gv1,gv2,gv3⟩:=Q7y hv ht
 by_cases hcc:c=c'
 ·subst hcc
  simp only [if_true,U11]
  by_cases hcv:c=v.ctor
  ·subst hcv
   have hL:=V4h (fm:=W6 w d) (fj:=Q0t d) (X4 w t v.ctor) ks ks' v.kids hl hl' gv2 fun j y p q u e1 e2 e3 e4=>
    ⟨W1c d e' y p q x (hk j y p e1 e2) (hk' j y q e1 e3) u (gv3 j y u e1 e4),hM e' y p q x (hk j y p e1 e2) (hk' j y q e1 e3) u (gv3 j y u e1 e4)⟩
   constructor
   ·rintro ⟨⟨_,g1⟩,g2⟩
    rcases g2 with g2 | g2
    ·exact absurd rfl g2
    ·obtain ⟨k,hk1,hk2⟩:=hL.1 ⟨g1,g2⟩
     exact ⟨_,⟨k,hk1,rfl⟩,by rw [Q22 rfl];simp [hk2]⟩
   ·rintro ⟨_,⟨k,hk1,rfl⟩,h⟩
    rw [Q22 rfl] at h
    simp only [Bool.and_eq_true] at h
    obtain ⟨g1,g2⟩:=hL.2 ⟨k,hk1,h.2⟩
    exact ⟨⟨rfl,g1⟩,.inr g2⟩
  ·constructor
   ·rintro ⟨⟨g,_⟩,_⟩;exact absurd g hcv
   ·rintro ⟨_,⟨k,hk1,rfl⟩,h⟩
    rw [Q22 rfl] at h
    simp only [Bool.and_eq_true,decide_eq_true_eq] at h
    exact absurd h.1 hcv
 ·simp only [if_neg hcc,List.mem_singleton,exists_eq_left]
  rw [Q22 rfl]
  simp only [Bool.and_eq_true,decide_eq_true_eq]
  constructor
  ·exact fun h=>h.1
  ·exact fun h=>⟨h,.inl fun e2=>hcc (h.1.trans e2.symm)⟩
theorem Z2i {w:List Q3} : ∀ (d e:Nat) (t:Q2) (a b:Q0) (x:Nat),X6 w x t a→X6 w d t b→∀ v,Q1r w e t v→((fitP a v=true∧fitP b v=false)↔∃ y∈W6 w d t a b,fitP y v=true):=by
 intro d
 induction d with
 | zero=>intro e t a b x _ h;exact h.elim
 | succ d ih=>
  intro e t a b x ha hb v hv
  cases x with
  | zero=>exact ha.elim
  | succ x=>
  rcases hb with rfl | ⟨n',m',rfl,ht',_⟩ | ⟨c',ks',rfl,ht',hc',hl',hk'⟩
  ·simp [W6,Q70]
  ·have e1:¬(3:Int)=1:=by decide
   simp only [W6,e1,if_false,if_true]
   rcases ha with rfl | ⟨n,m,rfl,_⟩ | ⟨c,ks,rfl,ht,_⟩
   ·simp only [if_true]
    rw [←W13,Q70 rfl,Q6z rfl]
    have:=W8d hv ht'
    simp only [true_and,decide_eq_false_iff_not]
    exact ⟨fun h=>⟨this,h⟩,fun h=>h.2⟩
   ·simp only [e1,if_false]
    rw [←W13,Q6z rfl,Q6z rfl]
    simp only [decide_eq_true_eq,decide_eq_false_iff_not]
   ·exact absurd ht' ht
  ·have e1:¬(4:Int)=1:=by decide
   have e3:¬(4:Int)=3:=by decide
   simp only [W6,e1,e3,if_false]
   rcases ha with rfl | ⟨n,m,rfl,ht,_⟩ | ⟨c,ks,rfl,_,hc,hl,hk⟩
   ·simp only [if_true,List.mem_flatMap]
    obtain ⟨e',rfl,gv1,gv2,gv3⟩:=Q7y hv ht'
    have hcm:∀ c∈X1 w t,((fitP (Q69 w t c) v=true∧fitP (Q0.mk 4 c' 0 0 0 ks') v=false)↔∃ y∈cmD w (W6 w d) (Q0t d) t (Q69 w t c) (Q0.mk 4 c' 0 0 0 ks'),fitP y v=true):=fun c _=>
     V53 (x:=1) ih ht' (by simp) (fun j a q ha hq=>by
      rw [List.getElem?_map,ha] at hq
      cases hq
      exact Z0y w 0 a) hl' hk' hv
    have hw:∀ c,fitP (Q69 w t c) v=decide (c=v.ctor):=fun c=>W5q fun h=>h▸gv2
    constructor
    ·rintro ⟨_,h⟩
     obtain ⟨y,hy,gy⟩:=(hcm v.ctor gv1).1 ⟨by rw [hw];simp,h⟩
     exact ⟨y,⟨v.ctor,gv1,hy⟩,gy⟩
    ·rintro ⟨y,⟨c,hc,hy⟩,gy⟩
     exact ⟨Q70 rfl v,((hcm c hc).2 ⟨y,hy,gy⟩).2⟩
   ·exact absurd ht ht'
   ·simp only [e1,if_false]
    exact V53 ih ht' hl hk hl' hk' hv
def V7d (w:List Q3)(t:Q2):Bool:=
 (decide (depP w t≠0)||(X1 w t).all (fun k=>(X4 w t k).any (fun a=>decide (depP w a=0))))&&decide ((X1 w t).Nodup)
def chkE (w:List Q3):Bool:=(tys w).all (V7d w)
theorem W55:Q0r.all chkE=true:=by kernel_rfl
structure WE (w:List Q3):Prop where
 e0:∀ t∈tys w,depP w t=0→∀ k∈X1 w t,∃ a∈X4 w t k,depP w a=0
 nd:∀ t∈tys w,(X1 w t).Nodup
theorem we {w:List Q3}(h:w∈Q0r):WE w:=by
 have h:=List.all_eq_true.1 W55 w h
 simp only [chkE,List.all_eq_true] at h
 refine ⟨fun t ht h0 k hk=>?_,fun t ht=>?_⟩
 ·have:=h t ht
  simp only [V7d,Bool.and_eq_true,Bool.or_eq_true,decide_eq_true_eq,List.all_eq_true,List.any_eq_true] at this
  rcases this.1 with h1 | h1
  ·exact absurd h0 h1
  ·exact h1 k hk
 ·have:=h t ht
  simp only [V7d,Bool.and_eq_true,decide_eq_true_eq] at this
  exact this.2
theorem X4a {w:List Q3}(hw:WW w)(he:WE w):∀ (e:Nat) (t:Q2) (v:Q4),t∈tys w→Q1r w e t v→depP w t≠0
 | 0,_,_,_,h=>h.elim
 | e+1,t,v,ht,h=>fun h0=>by
  by_cases hd:t.data = -1
  ·have:=((hw.ty t ht).ti hd).2;omega
  ·obtain ⟨e',e1,g1,g2,g3⟩:=Q7y h hd
   cases e1
   obtain ⟨a,ha,ha0⟩:=he.e0 t ht h0 _ g1
   obtain ⟨j,hj⟩:=List.mem_iff_getElem?.1 ha
   obtain ⟨x,hx⟩:=Q27 g2 (List.getElem?_eq_some_iff.1 hj).1
   exact X4a hw he e a x ((hw.ty t ht).at_ _ g1 a ha) (g3 j a x hj hx) ha0
def Y5 (w:List Q3):Nat→Q2→Q0→Bool
 | 0,_,_=>false
 | d+1,t,p=>if p.op=1 then decide (depP w t=0) else if p.op=4 then ((X4 w t p.ctor).zip p.kids).any fun x=>Y5 w d x.1 x.2 else false
theorem Q5i {w:List Q3}{d:Nat}{t:Q2}{c:Int}{ks:List Q0} : Y5 w (d+1) t (Q0.mk 4 c 0 0 0 ks)=true↔∃ (j:Nat) (a:Q2) (q:Q0),(X4 w t c)[j]?=some a∧ks[j]?=some q∧Y5 w d a q=true:=by
 have e1:¬(4:Int)=1:=by decide
 simp only [Y5,e1,if_false,if_true,List.any_eq_true]
 constructor
 ·rintro ⟨x,hx,h⟩
  obtain ⟨j,hj⟩:=List.mem_iff_getElem?.1 hx
  rw [List.getElem?_zip_eq_some] at hj
  exact ⟨j,x.1,x.2,hj.1,hj.2,h⟩
 ·rintro ⟨j,a,q,h1,h2,h3⟩
  exact ⟨(a,q),U1 (i:=j) (by rw [List.getElem?_zip_eq_some];exact ⟨h1,h2⟩),h3⟩
theorem X7q {w:List Q3}(hw:WW w)(he:WE w):∀ (x e:Nat) (t:Q2) (p:Q0) (v:Q4),t∈tys w→X6 w x t p→Y5 w x t p=true→Q1r w e t v→fitP p v=false
 | 0,_,_,_,_,_,h,_,_=>h.elim
 | x+1,e,t,p,v,ht,hp,hem,hv=>by
  rcases hp with rfl | ⟨n,m,rfl,_⟩ | ⟨c,ks,rfl,hd,hc,hl,hk⟩
  ·simp only [Y5,if_true,decide_eq_true_eq] at hem
   exact absurd hem (X4a hw he e t v ht hv)
  ·simp [Y5] at hem
  ·obtain ⟨j,a,q,h1,h2,h3⟩:=Q5i.1 hem
   rw [Q22 rfl]
   simp only
   by_cases hcv:c=v.ctor
   ·subst hcv
    obtain ⟨e',rfl,g1,g2,g3⟩:=Q7y hv hd
    obtain ⟨u,hu⟩:=Q27 g2 (List.getElem?_eq_some_iff.1 h1).1
    have hf:=X7q hw he x e' a q u ((hw.ty t ht).at_ _ hc a (U1 h1)) (hk j a q h1 h2) h3 (g3 j a u h1 hu)
    have:∀ (ps:List Q0) (vs:List Q4) (j:Nat),ps[j]?=some q→vs[j]?=some u→fitL ps vs=false:=by
     intro ps
     induction ps with
     | nil=>intro vs j h;simp at h
     | cons p ps ih=>
      intro vs j h h'
      cases vs with
      | nil=>simp at h'
      | cons v vs=>
       cases j with
       | zero=>simp at h h';subst h;subst h';simp [hf]
       | succ j=>simp [ih vs j (by simpa using h) (by simpa using h')]
    simp [this ks v.kids j h2 hu]
   ·simp [hcv]
theorem X0r {w:List Q3}(hw:WW w)(he:WE w):∀ (x:Nat) (t:Q2) (p:Q0),t∈tys w→X6 w x t p→depP w t=0→Y5 w x t p=true
 | 0,_,_,_,h,_=>h.elim
 | x+1,t,p,ht,hp,h0=>by
  rcases hp with rfl | ⟨n,m,rfl,hd,_⟩ | ⟨c,ks,rfl,hd,hc,hl,hk⟩
  ·simp [Y5,h0]
  ·have:=((hw.ty t ht).ti hd).2;omega
  ·obtain ⟨a,ha,ha0⟩:=he.e0 t ht h0 c hc
   obtain ⟨j,hj⟩:=List.mem_iff_getElem?.1 ha
   obtain ⟨q,hq⟩:=Q27 hl (List.getElem?_eq_some_iff.1 hj).1
   exact Q5i.2 ⟨j,a,q,hj,hq,X0r hw he x a q ((hw.ty t ht).at_ _ hc a ha) (hk j a q hj hq) ha0⟩
theorem Z5p {f:Q0→Q0→Option Q0} : ∀ (as bs ms:List Q0),as.length=bs.length→Q56 f as bs=some ms→ms.length=as.length∧∀ (j:Nat) (a b:Q0),as[j]?=some a→bs[j]?=some b→∃ m,f a b=some m∧ms[j]?=some m
 | [],[],ms,_,h=>by simp [Q56] at h;subst h;simp
 | a::as,b::bs,ms,hl,h=>by
  simp only [Q56] at h
  cases hm:f a b with
  | none=>simp [hm] at h
  | some m=>
   cases hr:Q56 f as bs with
   | none=>simp [hm,hr] at h
   | some r=>
    simp [hm,hr] at h
    subst h
    obtain ⟨h1,h2⟩:=Z5p as bs r (by simpa using hl) hr
    refine ⟨by simp [h1],fun j x y e1 e2=>?_⟩
    cases j with
    | zero=>simp at e1 e2;subst e1;subst e2;exact ⟨m,hm,rfl⟩
    | succ j=>exact h2 j x y (by simpa using e1) (by simpa using e2)
 | [],_::_,_,h,_=>by simp at h
 | _::_,[],_,h,_=>by simp at h
theorem Z9q {w:List Q3} : ∀ (d x:Nat) (t:Q2) (a b m:Q0),d≤x→X6 w x t a→X6 w d t b→Q0t d a b=some m→X6 w x t m
 | 0,_,_,_,_,_,_,_,h,_=>h.elim
 | d+1,0,_,_,_,_,h,_,_,_=>by omega
 | d+1,x+1,t,a,b,m,hx,ha,hb,hm=>by
  rcases ha with rfl | ⟨n,n2,rfl,ht,h0,h1,h2⟩ | ⟨c,ks,rfl,ht,hc,hl,hk⟩
  ·simp [Q0t] at hm;subst hm;exact X92 hb hx
  ·rcases hb with rfl | ⟨n',m',rfl,_,h0',h1',h2'⟩ | ⟨c',ks',rfl,ht',_⟩
   ·simp [Q0t] at hm;subst hm;exact .inr (.inl ⟨n,n2,rfl,ht,h0,h1,h2⟩)
   ·have e1:¬(3:Int)=1:=by decide
    simp only [Q0t,e1,if_false,if_true] at hm
    split at hm
    ·cases hm;exact .inr (.inl ⟨_,_,rfl,ht,by omega,by assumption,by omega⟩)
    ·cases hm
   ·exact absurd ht ht'
  ·rcases hb with rfl | ⟨n',m',rfl,ht',_⟩ | ⟨c',ks',rfl,_,hc',hl',hk'⟩
   ·simp [Q0t] at hm;subst hm;exact .inr (.inr ⟨c,ks,rfl,ht,hc,hl,hk⟩)
   ·exact absurd ht' ht
   ·have e1:¬(4:Int)=1:=by decide
    have e3:¬(4:Int)=3:=by decide
    simp only [Q0t,e1,e3,if_false] at hm
    split at hm
    ·rename_i hcc
     subst hcc
     obtain ⟨ms,h1,h2⟩:=U12.1 hm
     subst h2
     obtain ⟨g1,g2⟩:=Z5p ks ks' ms (hl.trans hl'.symm) h1
     refine .inr (.inr ⟨c,ms,rfl,ht,hc,g1.trans hl,fun j a q ha hq=>?_⟩)
     obtain ⟨p,hp⟩:=Q27 hl (List.getElem?_eq_some_iff.1 ha).1
     obtain ⟨p',hp'⟩:=Q27 hl' (List.getElem?_eq_some_iff.1 ha).1
     obtain ⟨m,k1,k2⟩:=g2 j p p' hp hp'
     rw [hq] at k2
     cases k2
     exact Z9q d x a p p' q (by omega) (hk j a p ha hp) (hk' j a p' ha hp') k1
    ·cases hm
theorem X2j {w:List Q3}(hw:WW w)(he:WE w):∀ (d x:Nat) (t:Q2) (a b m:Q0),t∈tys w→d≤x→X6 w x t a→X6 w d t b→Y5 w x t a=true→Q0t d a b=some m→Y5 w x t m=true
 | 0,_,_,_,_,_,_,_,_,h,_,_=>h.elim
 | d+1,0,_,_,_,_,_,h,_,_,_,_=>by omega
 | d+1,x+1,t,a,b,m,htw,hx,ha,hb,hem,hm=>by
  have hmp:=Z9q (d+1) (x+1) t a b m hx ha hb hm
  rcases ha with rfl | ⟨n,n2,rfl,ht,h0,h1,h2⟩ | ⟨c,ks,rfl,ht,hc,hl,hk⟩
  ·simp only [Y5,if_true,decide_eq_true_eq] at hem
   exact X0r hw he _ t m htw hmp hem
  ·simp [Y5] at hem
  ·rcases hb with rfl | ⟨n',m',rfl,ht',_⟩ | ⟨c',ks',rfl,_,hc',hl',hk'⟩
   ·simp [Q0t] at hm;subst hm;exact hem
   ·exact absurd ht' ht
   ·have e1:¬(4:Int)=1:=by decide
    have e3:¬(4:Int)=3:=by decide
    simp only [Q0t,e1,e3,if_false] at hm
    split at hm
    ·rename_i hcc
     subst hcc
     obtain ⟨ms,h1,h2⟩:=U12.1 hm
     subst h2
     obtain ⟨g1,g2⟩:=Z5p ks ks' ms (hl.trans hl'.symm) h1
     obtain ⟨j,a,q,k1,k2,k3⟩:=Q5i.1 hem
     obtain ⟨p',hp'⟩:=Q27 hl' (List.getElem?_eq_some_iff.1 k1).1
     obtain ⟨m,k4,k5⟩:=g2 j q p' k2 hp'
     exact Q5i.2 ⟨j,a,m,k1,k5,X2j hw he d x a q p' m ((hw.ty t htw).at_ _ hc a (U1 k1)) (by omega) (hk j a q k1 k2) (hk' j a p' k1 hp') k3 k4⟩
    ·cases hm
theorem W1g {fm:Q2→Q0→Q0→List Q0}{fj:Q0→Q0→Option Q0} : ∀ (ts:List Q2) (as bs:List Q0),as.length=ts.length→bs.length=ts.length→∀ ks∈kmD fm fj ts as bs,
  ks.length=ts.length∧∃ i,i<ts.length∧∀ (j:Nat) (t:Q2) (a b q:Q0),ts[j]?=some t→as[j]?=some a→bs[j]?=some b→ks[j]?=some q→(j<i→fj a b=some q)∧(j=i→q∈fm t a b)∧(i<j→q=a)
 | [],as,bs,_,_,ks,h=>by simp [kmD] at h
 | t::ts,[],_,h,_,_,_=>by simp at h
 | t::ts,_::_,[],_,h,_,_=>by simp at h
 | t::ts,a::as,b::bs,h1,h2,ks,h=>by
  simp only [kmD,U9,U11] at h
  rcases h with ⟨x,hx,rfl⟩ | h
  ·refine ⟨by simpa using h1,0,by simp,fun j t' a' b' q e1 e2 e3 e4=>⟨fun h=>by omega,fun h=>?_,fun h=>?_⟩⟩
   ·subst h;simp at e1 e2 e3 e4;subst e1;subst e2;subst e3;subst e4;exact hx
   ·cases j with
    | zero=>omega
    | succ j=>simp at e2 e4;rw [e2] at e4;cases e4;rfl
  ·cases hm:fj a b with
   | none=>rw [hm] at h;simp at h
   | some m=>
    rw [hm] at h
    obtain ⟨ks',hk',rfl⟩:=U11.1 h
    obtain ⟨g1,i,g2,g3⟩:=W1g ts as bs (by simpa using h1) (by simpa using h2) ks' hk'
    refine ⟨by simp [g1],i+1,by simpa using g2,fun j t' a' b' q e1 e2 e3 e4=>?_⟩
    cases j with
    | zero=>simp at e2 e3 e4;subst e2;subst e3;subst e4;exact ⟨fun _=>hm,fun h=>by omega,fun h=>by omega⟩
    | succ j=>
     obtain ⟨k1,k2,k3⟩:=g3 j t' a' b' q (by simpa using e1) (by simpa using e2) (by simpa using e3) (by simpa using e4)
     exact ⟨fun h=>k1 (by omega),fun h=>k2 (by omega),fun h=>k3 (by omega)⟩
theorem W92 {w:List Q3}{d x:Nat}{t:Q2}(hx:d+1≤x)(hM:∀ (t:Q2) (a b:Q0),X6 w x t a→X6 w d t b→∀ y∈W6 w d t a b,X6 w x t y)(ht:t.data≠-1){c c':Int}{ks ks':List Q0}(hc:c∈X1 w t)
  (hl:ks.length=(X4 w t c).length) (hk:∀ (j:Nat) (a:Q2) (q:Q0),(X4 w t c)[j]?=some a→ks[j]?=some q→X6 w x a q)
  (hl':ks'.length=(X4 w t c').length) (hk':∀ (j:Nat) (a:Q2) (q:Q0),(X4 w t c')[j]?=some a→ks'[j]?=some q→X6 w d a q) :
  ∀ y∈cmD w (W6 w d) (Q0t d) t (Q0.mk 4 c 0 0 0 ks) (Q0.mk 4 c' 0 0 0 ks'),X6 w (x+1) t y:=fun y hy=>by
 simp only [cmD] at hy
 split at hy
 ·rename_i hcc
  subst hcc
  obtain ⟨k,hk1,rfl⟩:=U11.1 hy
  obtain ⟨g1,i,g2,g3⟩:=W1g (X4 w t c) ks ks' hl hl' k hk1
  refine .inr (.inr ⟨c,k,rfl,ht,hc,g1,fun j a q ha hq=>?_⟩)
  obtain ⟨p,hp⟩:=Q27 hl (List.getElem?_eq_some_iff.1 ha).1
  obtain ⟨p',hp'⟩:=Q27 hl' (List.getElem?_eq_some_iff.1 ha).1
  obtain ⟨k1,k2,k3⟩:=g3 j a p p' q ha hp hp' hq
  rcases Nat.lt_trichotomy j i with h | h | h
  ·exact Z9q d x a p p' q (by omega) (hk j a p ha hp) (hk' j a p' ha hp') (k1 h)
  ·exact hM a p p' (hk j a p ha hp) (hk' j a p' ha hp') q (k2 h)
  ·rw [k3 h];exact hk j a p ha hp
 ·simp at hy
  subst hy
  exact .inr (.inr ⟨c,ks,rfl,ht,hc,hl,hk⟩)
theorem Q8x {w:List Q3} : ∀ (d x:Nat) (t:Q2) (a b:Q0),d+1≤x→X6 w x t a→X6 w d t b→∀ y∈W6 w d t a b,X6 w x t y
 | 0,_,_,_,_,_,_,h,_,_=>h.elim
 | d+1,0,_,_,_,h,_,_,_,_=>by omega
 | d+1,x+1,t,a,b,hx,ha,hb,y,hy=>by
  rcases hb with rfl | ⟨n',m',rfl,ht',g0,g1,g2⟩ | ⟨c',ks',rfl,ht',hc',hl',hk'⟩
  ·simp [W6] at hy
  ·have e1:¬(3:Int)=1:=by decide
   simp only [W6,e1,if_false,if_true] at hy
   have hr:∀ n m,0≤n→m≤9→∀ y∈Z3j n m n' m',X6 w (x+1) t y:=fun n m h0 h9 y hy=>by
    simp only [Z3j,U9] at hy
    rcases hy with hy | hy<;>split at hy<;>simp at hy<;>subst hy
    ·exact .inr (.inl ⟨_,_,rfl,ht',h0,by assumption,by omega⟩)
    ·exact .inr (.inl ⟨_,_,rfl,ht',by omega,by assumption,h9⟩)
   rcases ha with rfl | ⟨n,m,rfl,_,h0,_,h9⟩ | ⟨c,ks,rfl,ht,_⟩
   ·simp only [if_true] at hy;exact hr 0 9 (by omega) (by omega) y hy
   ·simp only [e1,if_false] at hy;exact hr n m h0 h9 y hy
   ·exact absurd ht' ht
  ·have e1:¬(4:Int)=1:=by decide
   have e3:¬(4:Int)=3:=by decide
   simp only [W6,e1,e3,if_false] at hy
   have hM:=fun (t:Q2) (a b:Q0)=>Q8x (w:=w) d x t a b (by omega)
   rcases ha with rfl | ⟨n,m,rfl,ht,_⟩ | ⟨c,ks,rfl,_,hc,hl,hk⟩
   ·simp only [if_true,List.mem_flatMap] at hy
    obtain ⟨c,hc,hy⟩:=hy
    exact W92 (by omega) hM ht' hc (by simp) (fun j a q ha hq=>by
     rw [List.getElem?_map,ha] at hq
     cases hq
     exact X92 (Z0y w 0 a) (by omega)) hl' hk' y hy
   ·exact absurd ht ht'
   ·simp only [e1,if_false] at hy
    exact W92 (by omega) hM ht' hc hl hk hl' hk' y hy
def Q7v:Q4→List Int→Option Q4
 | v,[]=>some v
 | v,i::path=>(idx v.kids i).bind fun u=>Q7v u path
theorem X2e:∀ (path:List Int) (v:Q4) (i:Int),Q7v v (path++[i])=(Q7v v path).bind fun u=>idx u.kids i
 | [],v,i=>by
  simp only [List.nil_append,Q7v,U0]
  cases idx v.kids i<;>rfl
 | j::path,v,i=>by
  simp only [List.cons_append,Q7v]
  cases idx v.kids j with
  | none=>rfl
  | some u=>simp only [U0];exact X2e path u i
def Q2g:List Q7→Q4→Option (List Y3)
 | [],_=>some []
 | b::l,v=>(Q7v v b.path).bind fun u=>(Q2g l v).map (Y3.mk b.var u::·)
theorem Z1p:∀ (a b:List Q7) (v:Q4),Q2g (a++b) v=(Q2g a v).bind fun l=>(Q2g b v).map (l++·)
 | [],b,v=>by
  simp only [List.nil_append,Q2g,U0]
  cases Q2g b v<;>rfl
 | x::a,b,v=>by
  simp only [List.cons_append,Q2g]
  cases Q7v v x.path with
  | none=>rfl
  | some u=>
   simp only [U0]
   rw [Z1p a b v]
   cases Q2g a v with
   | none=>rfl
   | some l=>
    simp only [U0,Option.map_some]
    cases Q2g b v<;>rfl
theorem W0d {v:Q4}{a b:List Q7}(h:a.Perm b):∀ {l:List Y3},Q2g a v=some l→∃ l',Q2g b v=some l'∧l.Perm l':=by
 induction h with
 | nil=>intro l h;exact ⟨l,h,.refl _⟩
 | cons x _ ih=>
  intro l h
  simp only [Q2g] at h ⊢
  cases hx:Q7v v x.path with
  | none=>rw [hx] at h;simp at h
  | some u=>
   rw [hx] at h
   simp only [U0,U12] at h ⊢
   obtain ⟨m,hm,rfl⟩:=h
   obtain ⟨m',h1,h2⟩:=ih hm
   exact ⟨_,⟨m',h1,rfl⟩,h2.cons _⟩
 | swap x y l0=>
  intro l h
  simp only [Q2g] at h ⊢
  cases hx:Q7v v x.path with
  | none=>rw [hx] at h;cases hy:Q7v v y.path<;>rw [hy] at h<;>simp at h
  | some u=>
   rw [hx] at h
   cases hy:Q7v v y.path with
   | none=>rw [hy] at h;simp at h
   | some u2=>
    rw [hy] at h
    simp only [U0,Option.map_map,U12,Function.comp] at h ⊢
    obtain ⟨m,hm,rfl⟩:=h
    exact ⟨_,⟨m,hm,rfl⟩,.swap _ _ _⟩
 | trans _ _ ih1 ih2=>
  intro l h
  obtain ⟨m,h1,h2⟩:=ih1 h
  obtain ⟨k,h3,h4⟩:=ih2 h1
  exact ⟨k,h3,h2.trans h4⟩
theorem Z4n {v:Q4} : ∀ {a:List Q7} {l:List Y3},Q2g a v=some l→l.map (·.var)=a.map (·.var)
 | [],l,h=>by simp only [Q2g,Option.some.injEq] at h;subst h;rfl
 | b::a,l,h=>by
  simp only [Q2g] at h
  cases hx:Q7v v b.path with
  | none=>rw [hx] at h;simp at h
  | some u=>
   rw [hx] at h
   simp only [U0,U12] at h
   obtain ⟨m,hm,rfl⟩:=h
   simp [Z4n hm]
theorem Z1o {v u:Q4}{path:List Int}(h:Q7v v path=some u):∀ {l:List Q7},(∀ b∈l,b.path=path)→Q2g l v=some (l.map fun b=>Y3.mk b.var u)
 | [],_=>rfl
 | b::l,hl=>by
  simp only [Q2g]
  rw [hl b (by simp),h,Z1o h fun x hx=>hl x (by simp [hx])]
  rfl
def rowL (r:Grow)(us:List Q4):Option (List Y3):=V6 (Z6 12) r.pats us
def rowB (r:Grow)(v:Q4)(us:List Q4):Option (List Y3):=(Q2g r.binds v).bind fun l=>(rowL r us).map (l++·)
def hitR (us:List Q4)(r:Grow):Bool:=(rowL r us).isSome
inductive Z6h (lst:List Q5) (v:Q4) (us:List Q4):List Grow→Int×List Y3→Prop
 | none {rows:List Grow} : rows.find? (hitR us)=none→Z6h lst v us rows (-1,[])
 | take {rows:List Grow} {r:Grow} {l:List Y3} {c:Q5} : rows.find? (hitR us)=some r→rowB r v us=some l→lst[r.clause.toNat]?=some c→Q38 c.guard l=true→Z6h lst v us rows (r.clause,Z45 l)
 | skip {rows:List Grow} {r:Grow} {l:List Y3} {c:Q5} {x:Int×List Y3} : rows.find? (hitR us)=some r→rowB r v us=some l→lst[r.clause.toNat]?=some c→Q38 c.guard l=false→
   Z6h lst v us (Q4j rows r.clause) x→Z6h lst v us rows x
structure W9o (w:List Q3) (v:Q4) (cols:List Z5) (us:List Q4):Prop where
 len:us.length=cols.length
 at_:∀ (j:Nat) (c:Z5) (u:Q4),cols[j]?=some c→us[j]?=some u→Q7v v c.path=some u∧Q1r w 10 c.t u
def Y1 (b:Z2)(u:Q4):Bool:=decide (b.ctor=u.ctor)&&(decide (b.ctor≠-1)||(decide (b.n≤u.n)&&decide (u.n≤b.m)))
def runT:Nat→V4→List Q5→Q4→Option (Int×List Y3×Nat)
 | 0,_,_,_=>none
 | d+1,t,lst,v=>
  if t.op=2 then (Q7v v t.path).bind fun u=>match t.branches.find? (fun b=>Y1 b u) with
   | none=>some (-1,[],1)
   | some b=>(runT d b.tree lst v).map fun r=>(r.1,r.2.1,r.2.2+1)
  else if t.op=1 then (idx lst t.clause).bind fun c=>(Q2g t.binds v).bind fun l=>if Q38 c.guard l=true then some (t.clause,l,0) else match t.else_ with
   | el::_=>runT d el lst v
   | []=>none
  else some (-1,[],0)
theorem Z4l {cut:Int→Bool} : ∀ (m:Nat) (n fr:Int),fr<n→(∀ c,fr<c→c<n→cut c=false)→∀ b∈Z2w cut m n fr,b.n≤b.m∧fr≤b.n∧∀ c,b.n<c→c≤b.m→cut c=false
 | 0,_,_,_,_,b,h=>by simp [Z2w] at h
 | m+1,n,fr,h1,h2,b,h=>by
  unfold Z2w at h
  split at h
  ·rcases U8.1 h with rfl | h
   ·exact ⟨by simp only;omega,by simp only;omega,fun c hc hc'=>h2 c hc (by simp only at hc';omega)⟩
   ·obtain ⟨g1,g2,g3⟩:=Z4l m (n+1) n (by omega) (fun c hc hc'=>by omega) b h
    exact ⟨g1,by omega,g3⟩
  ·rename_i hc
   exact Z4l m (n+1) fr (by omega) (fun c hc1 hc2=>by
    by_cases hcn:c=n
    ·rw [hcn];simpa using hc
    ·exact h2 c hc1 (by omega)) b h
theorem Z4m {cut:Int→Bool} : ∀ (m:Nat) (n fr:Int),fr<n→cut (n+m-1)=true→1≤m→∀ x,fr≤x→x<n+m-1→∃ b∈Z2w cut m n fr,b.n≤x∧x≤b.m
 | 0,_,_,_,_,h,_,_,_=>by omega
 | m+1,n,fr,h1,hc,_,x,hx1,hx2=>by
  unfold Z2w
  split
  ·by_cases hxn:x<n
   ·exact ⟨⟨-1,fr,n-1,zT⟩,by simp,by simp only;omega,by simp only;omega⟩
   ·have hm:1≤m:=by omega
    obtain ⟨b,hb,g⟩:=Z4m m (n+1) n (by omega) (by rw [←hc];congr 1;omega) hm x (by omega) (by omega)
    exact ⟨b,by simp [hb],g⟩
  ·rename_i hcn
   have hm:1≤m:=by
    rcases Nat.eq_zero_or_pos m with rfl | h
    ·simp only [Nat.zero_add,Int.natCast_one] at hc
     rw [show n+1-1=n by omega] at hc
     exact absurd hc hcn
    ·exact h
   exact Z4m m (n+1) fr (by omega) (by rw [←hc];congr 1;omega) hm x hx1 (by omega)
def V7c (w:List Q3):Bool:=(tys w).all fun t=>decide (t.data = -1)||(X1 w t).all fun c=>decide (Z4e w t c=(X4 w t c).all fun a=>decide (depP w a≠0))
theorem V3n:Q0r.all V7c=true:=by kernel_rfl
theorem V6e {w:List Q3}(h:w∈Q0r){t:Q2}(ht:t∈tys w)(hd:t.data≠-1){c:Int}(hc:c∈X1 w t):Z4e w t c=(X4 w t c).all fun a=>decide (depP w a≠0):=by
 have h1:=List.all_eq_true.1 V3n w h
 have h2:=List.all_eq_true.1 h1 t ht
 simp only [Bool.or_eq_true,decide_eq_true_eq,List.all_eq_true] at h2
 rcases h2 with h2 | h2
 ·exact absurd h2 hd
 ·exact h2 c hc
theorem W9c {w:List Q3}(hww:w∈Q0r){t:Q2}(ht:t∈tys w){e:Nat}{u:Q4}(hu:Q1r w e t u)(rows:List Grow)(k:Nat):∃ b∈brsD w rows t k,Y1 b u=true:=by
 cases e with
 | zero=>exact hu.elim
 | succ e=>
 have hw:=ww hww
 unfold brsD
 rw [Q1r] at hu
 split
 ·rename_i hd
  rw [if_pos hd] at hu
  obtain ⟨h1,h2,h3,_⟩:=hu
  obtain ⟨b,hb,h4,h5⟩:=Z4m (cut:=cutB rows k) 10 1 0 (by omega) (by simp [cutB]) (by omega) u.n h2 (by omega)
  refine ⟨b,hb,?_⟩
  have hc:=Z0n _ _ _ _ b hb
  simp [Y1,hc,h1,h4,h5]
 ·rename_i hd
  rw [if_neg hd] at hu
  obtain ⟨_,h2,h3,h4⟩:=hu
  refine ⟨⟨u.ctor,0,0,zT⟩,U11.2 ⟨u.ctor,List.mem_filter.2 ⟨h2,?_⟩,rfl⟩,?_⟩
  ·rw [V6e hww ht hd h2,List.all_eq_true]
   intro a ha
   obtain ⟨j,hj⟩:=List.mem_iff_getElem?.1 ha
   have hjl:=(List.getElem?_eq_some_iff.1 hj).1
   have hx:u.kids[j]?=some (u.kids[j]'(by omega)):=by simp
   simpa using X4a hw (we hww) e a _ ((hw.ty t ht).at_ _ h2 a ha) (h4 j a _ hj hx)
  ·have:=(wl hww).pos t ht hd _ h2
   simp [Y1,this]
theorem X2v {w:List Q3}{t:Q2}{rows:List Grow}{k:Nat}{b:Z2}(hb:b∈brsD w rows t k){r:Grow}(hr:r∈rows)(hp:PatC w t (W3 r k)){u:Q4}{e:Nat}(hu:Q1r w e t u)(hf:Y1 b u=true)(d:Nat) :
  Q5n (W3 r k) b=false→Z6 (d+1) (W3 r k) u=none:=by
 intro hfit
 simp only [Y1,Bool.and_eq_true,Bool.or_eq_true,decide_eq_true_eq] at hf
 rcases hp.2.2 with h1 | h3 | h4
 ·simp [Q5n,h1] at hfit
 ·rw [Z6,if_neg (by omega),if_neg (by omega),if_pos h3]
  rw [Q5n,if_neg (by omega),if_pos h3] at hfit
  rcases Z38 (Q04 hp.1) with h | h | h | h | h | h<;>try omega
  obtain ⟨_,hd,g0,g1,g2⟩:=h
  refine if_neg fun hin=>?_
  unfold brsD at hb
  rw [if_pos hd] at hb
  obtain ⟨q1,q2,q3⟩:=Z4l 10 1 0 (by omega) (fun c h1 h2=>by omega) b hb
  have hc:=Z0n _ _ _ _ b hb
  rcases hf.2 with h | h
  ·exact absurd hc h
  simp only [Bool.and_eq_false_iff,decide_eq_false_iff_not] at hfit
  have hcut:∀ n,(n=(W3 r k).n∨n=(W3 r k).m+1)→cutB rows k n=true:=fun n hn=>by
   simp only [cutB,Bool.or_eq_true,decide_eq_true_eq]
   right
   unfold endB
   rw [List.any_eq_true]
   refine ⟨r,hr,?_⟩
   simp only [h3,decide_true,Bool.true_and,Bool.or_eq_true,decide_eq_true_eq]
   omega
  rcases hfit with h5 | h5
  ·have:=q3 (W3 r k).n (by omega) (by omega)
   rw [hcut _ (.inl rfl)] at this
   cases this
  ·have:=q3 ((W3 r k).m+1) (by omega) (by omega)
   rw [hcut _ (.inr rfl)] at this
   cases this
 ·rw [Z6,if_neg (by omega),if_neg (by omega),if_neg (by omega),if_neg (by omega),if_neg (by omega)]
  rw [Q5n,if_neg (by omega),if_neg (by omega),decide_eq_false_iff_not] at hfit
  exact if_neg fun h=>hfit (by omega)
def cntV:Q4→Nat
 | ⟨_,_,kids⟩=>1+cntVs kids
where cntVs:List Q4→Nat
 | []=>0
 | v::l=>cntV v+cntVs l
theorem X0x (v:Q4):cntV v=1+cntV.cntVs v.kids:=by cases v;rw [cntV]
theorem Z75:∀ (l:List Q4) (k:Nat) (q:Q4),l[k]?=some q→cntV.cntVs (l.take (k+1))=cntV.cntVs (l.take k)+cntV q
 | [],k,q,h=>by simp at h
 | p::l,0,q,h=>by simp at h;subst h;simp [cntV.cntVs]
 | p::l,k+1,q,h=>by
  have:=Z75 l k q (by simpa using h)
  simp only [List.take_succ_cons,cntV.cntVs]
  omega
theorem Z1j:∀ (l:List Q4) (k:Nat),cntV.cntVs (l.take k)≤cntV.cntVs l
 | [],k=>by simp
 | p::l,0=>by simp [cntV.cntVs]
 | p::l,k+1=>by
  have:=Z1j l k
  simp only [List.take_succ_cons,cntV.cntVs]
  omega
def Q3j (w:List Q3):Nat→Q2→Q4→Bool
 | 0,_,_=>false
 | d+1,t,v=>if t.data = -1 then decide (v.ctor = -1)&&(decide (0≤v.n)&&(decide (v.n≤9)&&decide (v.kids.length=0)))
  else decide (v.n=0)&&(decide (v.ctor∈X1 w t)&&(decide (v.kids.length=(X4 w t v.ctor).length)&&((X4 w t v.ctor).zip v.kids).all fun x=>Q3j w d x.1 x.2))
theorem X2t {w:List Q3} : ∀ (d:Nat) (t:Q2) (v:Q4),Q3j w d t v=true↔Q1r w d t v:=by
 intro d
 induction d with
 | zero=>intro t v;simp [Q3j,Q1r]
 | succ d ih=>
  intro t v
  rw [Q3j,Q1r]
  split
  ·simp only [Bool.and_eq_true,decide_eq_true_eq,List.length_eq_zero_iff]
  ·simp only [Bool.and_eq_true,decide_eq_true_eq,List.all_eq_true]
   constructor
   ·rintro ⟨h1,h2,h3,h4⟩
    exact ⟨h1,h2,h3,fun j a x ha hx=>(ih a x).1 (h4 (a,x) (U1 (Q8y ha hx)))⟩
   ·rintro ⟨h1,h2,h3,h4⟩
    refine ⟨h1,h2,h3,fun x hx=>?_⟩
    obtain ⟨j,hj⟩:=List.mem_iff_getElem?.1 hx
    obtain ⟨e1,e2⟩:=List.getElem?_zip_eq_some.1 hj
    exact (ih _ _).2 (h4 j _ _ e1 e2)
def okV (w:List Q3)(d:Nat)(t:Q2)(v:Q4)(c:Nat):Bool:=Q3j w d t v&&decide (c+cntV v≤60)
def Z3n (w:List Q3)(t:Q2)(v:Q4):Bool:=Q3j w 10 t v&&decide (cntV v≤60)
theorem Z40 {w:List Q3}{t:Q2}{v:Q4}(h:Z3n w t v=true):Q1r w 10 t v:=by
 simp only [Z3n,Bool.and_eq_true] at h
 exact (X2t 10 t v).1 h.1
theorem W78 {w:List Q3}{d:Nat}{t:Q2}{v:Q4}{c:Nat}(h:Q3j w d t v=false):okV w d t v c=false:=by simp [okV,h]
theorem V8e {w:List Q3}(hw:WW w):∀ (d n:Nat) (t:Q2) (v:Q4) (c:Nat),t∈tys w→c≤60→d+2≤n→d≤10→
  Ret (Q2w n w t v (11-(d:Int)) false (c:Int)) (fun r=>r.1=okV w d t v c∧(okV w d t v c=true→r.2=((c+cntV v:Nat):Int))):=by
 intro d
 induction d with
 | zero=>
  intro n t v c ht hc hn hd
  obtain ⟨n,rfl⟩:∃ k,n=k+1:=⟨n-1,by omega⟩
  have hb:okV w 0 t v c=false:=W78 rfl
  unfold Q2w
  refine Ret.ite (fun _=>.some ⟨hb.symm,fun h=>by rw [hb] at h;cases h⟩) (fun _=>?_)
  rw [if_pos (by rw [Z9];omega)]
  exact .some ⟨hb.symm,fun h=>by rw [hb] at h;cases h⟩
 | succ d ih=>
  intro n t v c ht hc hn hd
  obtain ⟨n,rfl⟩:∃ k,n=k+1:=⟨n-1,by omega⟩
  have hT:=hw.ty t ht
  unfold Q2w
  have hc1:wadd .i64 (c:Int) 1=((c+1:Nat):Int):=by rw [V7]<;>omega
  rw [hc1]
  have hpos:1≤cntV v:=by rw [X0x];omega
  refine Ret.ite (fun hlt=>?_) (fun hle=>?_)
  ·rw [Z9] at hlt
   have hb:okV w (d+1) t v c=false:=by simp only [okV,Bool.and_eq_false_iff,decide_eq_false_iff_not];right;omega
   exact .some ⟨hb.symm,fun h=>by rw [hb] at h;cases h⟩
  rw [X7] at hle
  rw [if_neg (by rw [Z9];omega),if_neg (by simp)]
  have bad:Q3j w (d+1) t v=false→okV w (d+1) t v c=false:=W78
  refine Ret.ctl (R:=fun r:Bool×Int=>r.1=okV w (d+1) t v c∧(okV w (d+1) t v c=true→r.2=((c+cntV v:Nat):Int))) (B:=fun _:Unit=>t.data≠-1∧v.n=0∧v.ctor∈X1 w t) ?_ (fun r hr=>.some hr) (fun s hs=>?_)
  ·refine Ret.ite (fun hi=>?_) (fun hi=>?_)
   ·rw [X5] at hi
    have hg:Q3j w (d+1) t v=(decide (v.ctor = -1)&&(decide (0≤v.n)&&(decide (v.n≤9)&&decide (v.kids.length=0)))):=by rw [Q3j,if_pos hi]
    refine Ret.ite (fun h1=>?_) (fun h1=>?_)
    ·rw [X5] at h1
     rw [Z09]
     simp only [U0]
     refine Ret.ite (fun h2=>?_) (fun h2=>?_)
     ·simp only [Bool.and_eq_true,decide_eq_true_eq] at h2
      have hk:Q3j w (d+1) t v=decide (v.kids.length=0):=by rw [hg];simp [h1,h2.1,h2.2]
      refine .some ?_
      have h0:v.kids.length=0→cntV v=1:=fun h=>by rw [X0x,List.eq_nil_of_length_eq_zero h];rfl
      by_cases hz:v.kids.length=0
      ·have e1:okV w (d+1) t v c=true:=by simp only [okV,hk,hz,decide_true,Bool.true_and,decide_eq_true_eq];have:=h0 hz;omega
       rw [e1]
       refine ⟨?_,fun _=>?_⟩
       ·simp only [X5,lenZ];omega
       ·have:=h0 hz;simp only;omega
      ·have e1:okV w (d+1) t v c=false:=bad (by rw [hk];simp [hz])
       rw [e1]
       refine ⟨?_,fun h=>by cases h⟩
       simp only [X3,lenZ];omega
     ·have e1:okV w (d+1) t v c=false:=bad (by
       rw [hg]
       simp only [Bool.and_eq_false_iff,decide_eq_false_iff_not] at h2 ⊢
       rcases h2 with h2 | h2
       ·exact .inr (.inl h2)
       ·exact .inr (.inr (.inl h2)))
      exact .some ⟨e1.symm,fun h=>by rw [e1] at h;cases h⟩
    ·rw [X3] at h1
     have e1:okV w (d+1) t v c=false:=bad (by rw [hg];simp [h1])
     exact .some ⟨e1.symm,fun h=>by rw [e1] at h;cases h⟩
   ·rw [X3] at hi
    have hg:Q3j w (d+1) t v=(decide (v.n=0)&&(decide (v.ctor∈X1 w t)&&(decide (v.kids.length=(X4 w t v.ctor).length)&&((X4 w t v.ctor).zip v.kids).all fun x=>Q3j w d x.1 x.2))):=by rw [Q3j,if_neg hi]
    refine Ret.ite (fun h1=>?_) (fun h1=>?_)
    ·rw [Bool.not_eq_true',X3] at h1
     have e1:okV w (d+1) t v c=false:=bad (by rw [hg];simp [h1])
     exact .some ⟨e1.symm,fun h=>by rw [e1] at h;cases h⟩
    rw [Bool.not_eq_false',X5] at h1
    rw [hT.c2]
    simp only [U0]
    rw [Z2x]
    simp only [U0]
    refine Ret.ite (fun h2=>?_) (fun h2=>?_)
    ·rw [Bool.not_eq_true',decide_eq_false_iff_not] at h2
     have e1:okV w (d+1) t v c=false:=bad (by rw [hg];simp [h2])
     exact .some ⟨e1.symm,fun h=>by rw [e1] at h;cases h⟩
    rw [Bool.not_eq_false',decide_eq_true_eq] at h2
    exact .some ⟨hi,h1,h2⟩
  ·obtain ⟨s1,s2,s3⟩:=hs
   have hg:Q3j w (d+1) t v=(decide (v.kids.length=(X4 w t v.ctor).length)&&((X4 w t v.ctor).zip v.kids).all fun x=>Q3j w d x.1 x.2):=by rw [Q3j,if_neg s1];simp [s2,s3]
   rw [hT.a2 _ s3]
   simp only [U0]
   refine Ret.ite (fun hl=>?_) (fun hl=>?_)
   ·rw [Bool.not_eq_true',X3] at hl
    simp only [lenZ] at hl
    have e1:okV w (d+1) t v c=false:=bad (by rw [hg];simp only [Bool.and_eq_false_iff,decide_eq_false_iff_not];left;omega)
    exact .some ⟨e1.symm,fun h=>by rw [e1] at h;cases h⟩
   rw [Bool.not_eq_false',X5] at hl
   simp only [lenZ] at hl
   have hcv:=X0x v
   refine Ret.ctl (Z3 v.kids (fun k s=>s=((c+1+cntV.cntVs (v.kids.take k):Nat):Int)∧c+1+cntV.cntVs (v.kids.take k)≤60∧∀ (j:Nat) (a:Q2) (x:Q4),j<k→(X4 w t v.ctor)[j]?=some a→v.kids[j]?=some x→Q3j w d a x=true) (fun r:Bool×Int=>r.1=okV w (d+1) t v c∧(okV w (d+1) t v c=true→r.2=((c+cntV v:Nat):Int))) (fun s=>s=((c+cntV v:Nat):Int)∧okV w (d+1) t v c=true) ⟨by simp [cntV.cntVs],by simp only [List.take_zero,cntV.cntVs];omega,fun j a x hj=>by omega⟩ (fun k x s hx hI=>?_) (fun s hI=>?_)) (fun r hr=>.some hr) (fun s hs=>.some ⟨hs.2.symm,fun _=>hs.1⟩)
   ·obtain ⟨rfl,i2,i3⟩:=hI
    have hk:=(List.getElem?_eq_some_iff.1 hx).1
    have ha:(X4 w t v.ctor)[k]?=some ((X4 w t v.ctor)[k]'(by omega)):=by simp
    rw [Q1b ha]
    simp only [U0]
    have hdd:wadd .i64 (11-((d+1:Nat):Int)) 1=11-(d:Int):=by rw [V7]<;>omega
    rw [hdd]
    refine Ret.bind (ih n _ x _ (hT.at_ _ s3 _ (U1 ha)) i2 (by omega) (by omega)) (fun r hr=>?_)
    obtain ⟨r1,r2⟩:=hr
    have htk:=Z75 v.kids k x hx
    refine Ret.ite (fun h=>?_) (fun h=>?_)
    ·rw [Bool.not_eq_true',r1] at h
     have e1:okV w (d+1) t v c=false:=by
      simp only [okV,Bool.and_eq_false_iff,decide_eq_false_iff_not] at h ⊢
      rcases h with h | h
      ·left
       rw [hg,Bool.and_eq_false_iff]
       right
       rw [List.all_eq_false]
       exact ⟨_,U1 (Q8y ha hx),by simp [h]⟩
      ·right
       have:=Z1j v.kids (k+1)
       omega
     exact .some ⟨e1.symm,fun h=>by rw [e1] at h;cases h⟩
    ·rw [Bool.not_eq_false',r1] at h
     have r3:=r2 h
     simp only [okV,Bool.and_eq_true,decide_eq_true_eq] at h
     refine .some ⟨?_,by omega,fun j a y hj h1 h2=>?_⟩
     ·rw [r3];omega
     ·by_cases hjk:j=k
      ·subst hjk
       rw [ha] at h1
       rw [hx] at h2
       cases h1
       cases h2
       exact h.1
      ·exact i3 j a y (by omega) h1 h2
   ·obtain ⟨rfl,i2,i3⟩:=hI
    rw [List.take_length] at i2 ⊢
    refine ⟨by omega,?_⟩
    simp only [okV,Bool.and_eq_true,decide_eq_true_eq]
    refine ⟨?_,by omega⟩
    rw [hg]
    simp only [Bool.and_eq_true,decide_eq_true_eq,List.all_eq_true]
    refine ⟨by omega,fun y hy=>?_⟩
    obtain ⟨j,hj⟩:=List.mem_iff_getElem?.1 hy
    obtain ⟨e1,e2⟩:=List.getElem?_zip_eq_some.1 hj
    exact i3 j _ _ (List.getElem?_eq_some_iff.1 e2).1 e1 e2
theorem X6t {w:List Q3}(hw:WW w){t:Q2}(ht:t∈tys w)(v:Q4):Q5g NN w t v=some (Z3n w t v):=by
 suffices hs:Ret (Q5g NN w t v) (fun r=>r=Z3n w t v) by
  obtain ⟨a,e,rfl⟩:=hs
  exact e
 unfold Q5g
 refine Ret.bind (V8e hw 10 NN t v 0 ht (by omega) (by decide) (by omega)) (fun r hr=>.some ?_)
 rw [hr.1]
 simp [okV,Z3n]
theorem X4b {w:List Q3} : ∀ (d e:Nat) (t:Q2) (v:Q4),d≤e→Q1r w d t v→Q1r w e t v:=by
 intro d
 induction d with
 | zero=>intro e t v _ h;exact h.elim
 | succ d ih=>
  intro e t v he h
  obtain ⟨e,rfl⟩:∃ k,e=k+1:=⟨e-1,by omega⟩
  rw [Q1r] at h ⊢
  split
  ·rename_i hd;rw [if_pos hd] at h;exact h
  ·rename_i hd
   rw [if_neg hd] at h
   exact ⟨h.1,h.2.1,h.2.2.1,fun j a x ha hx=>ih e a x (by omega) (h.2.2.2 j a x ha hx)⟩
theorem X5b {w:List Q3}{v:Q4} : ∀ (ps:List Q0) (args:List Z5) (us:List Q4),ps.length=args.length→us.length=args.length→
  (∀ (j:Nat) (p:Q0) (c:Z5) (u:Q4),ps[j]?=some p→args[j]?=some c→us[j]?=some u→PatO w c.t p∧Q7v v c.path=some u)→
  ∃ zb,Q2g ((zipS ps args).flatMap (·.1)) v=some zb∧((V6 (Z6 12) ps us=none∧V6 (Z6 12) ((zipS ps args).map (·.2)) us=none)∨∃ p z,V6 (Z6 12) ps us=some p∧V6 (Z6 12) ((zipS ps args).map (·.2)) us=some z∧p.Perm (zb++z))
 | [],[],[],_,_,_=>⟨[],rfl,.inr ⟨[],[],rfl,rfl,by simp⟩⟩
 | p::ps,c::args,u::us,h1,h2,h=>by
  obtain ⟨hp,hu⟩:=h 0 p c u rfl rfl rfl
  obtain ⟨zb,e1,e2⟩:=X5b (w:=w) (v:=v) ps args us (by simpa using h1) (by simpa using h2) fun j p c u a1 a2 a3=>h (j+1) p c u (by simpa using a1) (by simpa using a2) (by simpa using a3)
  have hz:zipS (p::ps) (c::args)=Q79 p c.path::zipS ps args:=rfl
  have hs:=Z91 c.path hp
  have hm:=V46 c.path u hp.1
  rw [hz]
  simp only [List.flatMap_cons,List.map_cons]
  rw [Z1p,Z1o hu hs.2.2,e1]
  refine ⟨_,rfl,?_⟩
  simp only [V6]
  rw [hm]
  cases Z6 12 (Q79 p c.path).2 u with
  | none=>exact .inl ⟨rfl,rfl⟩
  | some l1=>
   simp only [Option.map_some]
   rcases e2 with ⟨e3,e4⟩ | ⟨q,z,e3,e4,e5⟩
   ·rw [e3,e4];exact .inl ⟨rfl,rfl⟩
   ·rw [e3,e4]
    refine .inr ⟨_,_,rfl,rfl,?_⟩
    rw [List.append_assoc,List.append_assoc]
    refine List.Perm.append_left _ ?_
    refine (List.Perm.append_left l1 e5).trans ?_
    rw [←List.append_assoc,←List.append_assoc]
    exact List.Perm.append_right _ List.perm_append_comm
 | [],[],_::_,_,h,_=>by simp at h
 | [],_::_,_,h,_,_=>by simp at h
 | _::_,[],_,h,_,_=>by simp at h
 | _::_,_::_,[],_,h,_=>by simp at h
def X3p (b:Z2)(u:Q4):List Q4:=if b.ctor = -1 then [] else u.kids
def usD (us:List Q4)(k:Nat)(b:Z2)(u:Q4):List Q4:=us.take k++X3p b u++us.drop (k+1)
theorem Z9x {w:List Q3}{col:Z5}{b:Z2}(hB:BrC w col.t b){u:Q4}{e:Nat}(hu:Q1r w e col.t u)(hf:Y1 b u=true):(X3p b u).length=(J7 w col b).length:=by
 rw [Q7p]
 unfold X3p
 split
 ·rfl
 ·rename_i hc
  have hd:col.t.data≠-1:=fun hd=>hc (hB.int hd)
  simp only [Y1,Bool.and_eq_true,decide_eq_true_eq] at hf
  cases e with
  | zero=>exact hu.elim
  | succ e=>
   rw [Q1r,if_neg hd] at hu
   rw [hu.2.2.1,hf.1]
theorem W47 {w:List Q3}(hS:WS w){col:Z5}(ht:col.t∈tys w){b:Z2}(hB:BrC w col.t b){p:Q0}(hp:PatC w col.t p){u:Q4}{e:Nat}(hu:Q1r w e col.t u)(hf:Y1 b u=true)(hfit:Q5n p b=true) :
  Z6 12 p u=V6 (Z6 12) (Q3n p (J7 w col b)) (X3p b u):=by
 have hlen:=Z9x hB hu hf
 have hn:=Q04 hp.1
 rcases hp.2.2 with h1 | h3 | h4
 ·rw [Q3n,if_pos h1,Z6,if_pos h1]
  rw [Z6s (d:=11) (fun q hq=>by obtain ⟨_,_,rfl⟩:=U11.1 hq;rfl) (by rw [U7,hlen])]
 ·rw [Q3n,if_neg (by omega)]
  have hk:=Z4c hn (by omega) (by omega) (by omega)
  rcases Z38 hn with h | h | h | h | h | h<;>try omega
  have hbi:=hB.int h.2.1
  simp only [Y1,Bool.and_eq_true,Bool.or_eq_true,decide_eq_true_eq] at hf
  rw [Q5n,if_neg (by omega),if_pos h3] at hfit
  simp only [Bool.and_eq_true,decide_eq_true_eq] at hfit
  rw [hk,Z6,if_neg (by omega),if_neg (by omega),if_pos h3]
  rcases hf.2 with h5 | h5
  ·exact absurd hbi h5
  rw [if_pos (by omega)]
  rfl
 ·rw [Q3n,if_neg (by omega)]
  have hct:=Q9t (Q0y hn).1 h4
  have hd:col.t.data≠-1:=fun hd=>by rw [hS.int _ ht hd] at hct;cases hct
  have hb:=(hB.ctor hd).2
  rw [Q5n,if_neg (by omega),if_neg (by omega),decide_eq_true_eq] at hfit
  simp only [Y1,Bool.and_eq_true,decide_eq_true_eq] at hf
  rw [Z6,if_neg (by omega),if_neg (by omega),if_neg (by omega),if_neg (by omega),if_neg (by omega),if_pos (by omega),X3p,if_neg hb]
  refine Z2l _ _ fun j q x hq _=>?_
  have hj:=(List.getElem?_eq_some_iff.1 hq).1
  have ha:(V5 w col.t p)[j]?=some ((V5 w col.t p)[j]'(by rw [←(Q0y hn).2];exact hj)):=by simp
  exact ((Z5l 11 _ q (Q06 hp.1 ha hq)).2.2.2 x).symm
theorem X2y {w:List Q3}{v:Q4}{cols:List Z5}{us:List Q4}(h:W9o w v cols us){k:Nat}{col:Z5}(hk:cols[k]?=some col){u:Q4}(hu:us[k]?=some u){b:Z2}(hB:BrC w col.t b)(hf:Y1 b u=true) :
  W9o w v (Q81 cols k (J7 w col b)) (usD us k b u):=by
 obtain ⟨hp,hg⟩:=h.at_ k col u hk hu
 have hkl:=(List.getElem?_eq_some_iff.1 hk).1
 have hl:=Z9x hB hg hf
 have hlen:=h.len
 refine ⟨by simp only [Q81,usD,U5,U6,List.length_drop,hl];omega,fun j c x hc hx=>?_⟩
 unfold Q81 at hc
 unfold usD at hx
 by_cases h1:j<k
 ·rw [List.append_assoc,List.getElem?_append_left (by rw [U6];omega),List.getElem?_take_of_lt h1] at hc hx
  exact h.at_ j c x hc hx
 ·by_cases h2:j<k+(J7 w col b).length
  ·rw [List.append_assoc,List.getElem?_append_right (by rw [U6];omega),U6,List.getElem?_append_left (by omega)] at hc hx
   rw [show min k us.length=k by omega] at hx
   rw [show min k cols.length=k by omega] at hc
   generalize hi:j-k=i at hc hx
   by_cases hc1:b.ctor = -1
   ·rw [J7,if_pos hc1] at hc;simp at hc
   have hd:col.t.data≠-1:=fun hd=>hc1 (hB.int hd)
   have hil:=(List.getElem?_eq_some_iff.1 hc).1
   rw [Q7p,if_neg hc1] at hil
   have hti:(X4 w col.t b.ctor)[i]?=some ((X4 w col.t b.ctor)[i]):=U10 hil
   rw [Z6e hc1 hti] at hc
   cases hc
   rw [X3p,if_neg hc1] at hx
   simp only [Y1,Bool.and_eq_true,decide_eq_true_eq] at hf
   rw [Q1r,if_neg hd] at hg
   refine ⟨?_,X4b 9 10 _ _ (by omega) (hg.2.2.2 i _ x (by rw [←hf.1];exact hti) hx)⟩
   rw [X2e,hp]
   simp only [U0]
   exact Q1b hx
  ·have hcl:(cols.take k++J7 w col b).length=k+(J7 w col b).length:=by rw [U5,U6];omega
   have hul:(us.take k++X3p b u).length=k+(J7 w col b).length:=by rw [U5,U6,hl];omega
   rw [List.getElem?_append_right (by omega),hcl,List.getElem?_drop] at hc
   rw [List.getElem?_append_right (by omega),hul,List.getElem?_drop] at hx
   exact h.at_ _ c x hc hx
theorem Z5m {α:Type}{l:List α}{k:Nat}{x:α}(h:l[k]?=some x):l=l.take k++([x]++l.drop (k+1)):=by
 have:=Q9k h
 rw [List.singleton_append,←this,List.take_append_drop]
theorem Z5t {w:List Q3}(hS:WS w){lst:List Q5}{v:Q4}{cols:List Z5}{us:List Q4}(h:W9o w v cols us){k:Nat}{col:Z5}(hk:cols[k]?=some col)(ht:col.t∈tys w){u:Q4}(hu:us[k]?=some u){b:Z2}(hB:BrC w col.t b)(hf:Y1 b u=true)
  {r:Grow} (hr:RowC w lst cols r) {rb:List Y3} (hrb:Q2g r.binds v=some rb) (hfit:Q5n (W3 r k) b=true) :
  (∃ kb,Q2g (Q8k r k (J7 w col b)).binds v=some kb)∧((rowB r v us=none∧rowL r us=none∧rowL (Q8k r k (J7 w col b)) (usD us k b u)=none)∨∃ x y,rowB r v us=some x∧(rowL r us).isSome=true∧rowB (Q8k r k (J7 w col b)) v (usD us k b u)=some y∧(rowL (Q8k r k (J7 w col b)) (usD us k b u)).isSome=true∧x.Perm y):=by
 obtain ⟨hkl,hp⟩:=hr.at hk
 obtain ⟨hpv,hg⟩:=h.at_ k col u hk hu
 have hul:=(List.getElem?_eq_some_iff.1 hu).1
 have hlen:=h.len
 have hrl:=hr.len
 have hpk:r.pats[k]?=some (W3 r k):=by unfold W3;rw [U10 hkl];rfl
 obtain ⟨c1,c2,_⟩:=W7m hS ht hp hB hfit rfl
 have hkU:=Z9x hB hg hf
 have hnx:=X2y h hk hu hB hf
 obtain ⟨zb,e1,e2⟩:=X5b (w:=w) (v:=v) (Q3n (W3 r k) (J7 w col b)) (J7 w col b) (X3p b u) c1 hkU fun j p c x a1 a2 a3=>⟨c2 j p c a1 a2,by
  have hjl:=(List.getElem?_eq_some_iff.1 a2).1
  refine (hnx.at_ (k+j) c x ?_ ?_).1
  ·unfold Q81
   rw [List.append_assoc,List.getElem?_append_right (by rw [U6];omega),U6,List.getElem?_append_left (by omega),show k+j-min k cols.length=j by omega]
   exact a2
  ·unfold usD
   rw [List.append_assoc,List.getElem?_append_right (by rw [U6];omega),U6,List.getElem?_append_left (by omega),show k+j-min k us.length=j by omega]
   exact a3⟩
 rw [←W47 hS ht hB hp hg hf hfit] at e2
 have hR:rowL r us=(V6 (Z6 12) (r.pats.take k) (us.take k)).bind fun a=>((Z6 12 (W3 r k) u).bind fun p=>(V6 (Z6 12) (r.pats.drop (k+1)) (us.drop (k+1))).map (p++·)).map (a++·):=by
  unfold rowL
  conv=>lhs;rw [Z5m hpk,Z5m hu]
  rw [Q61 _ _ _ _ (by simp only [U6];omega)]
  congr 1
  funext a
  congr 1
  rw [Q61 _ _ _ _ (by simp)]
  simp only [V6]
  cases Z6 12 (W3 r k) u<;>simp
 have hK:rowL (Q8k r k (J7 w col b)) (usD us k b u)=(V6 (Z6 12) (r.pats.take k) (us.take k)).bind fun a=>((V6 (Z6 12) ((zipS (Q3n (W3 r k) (J7 w col b)) (J7 w col b)).map (·.2)) (X3p b u)).bind fun p=>(V6 (Z6 12) (r.pats.drop (k+1)) (us.drop (k+1))).map (p++·)).map (a++·):=by
  unfold rowL Q8k usD
  simp only
  rw [List.append_assoc,List.append_assoc,Q61 _ _ _ _ (by simp only [U6];omega)]
  congr 1
  funext a
  congr 1
  rw [Q61 _ _ _ _ (by simp only [U7,zipS,List.length_zipWith];omega)]
 have hKb:Q2g (Q8k r k (J7 w col b)).binds v=some (rb++zb):=by
  unfold Q8k
  simp only
  rw [Z1p,hrb,e1]
  rfl
 refine ⟨⟨_,hKb⟩,?_⟩
 unfold rowB
 rw [hrb,hKb,hR,hK]
 simp only [U0]
 cases V6 (Z6 12) (r.pats.take k) (us.take k) with
 | none=>exact .inl ⟨rfl,rfl,rfl⟩
 | some a=>
 simp only [U0]
 rcases e2 with ⟨e3,e4⟩ | ⟨p,z,e3,e4,e5⟩
 ·rw [e3,e4];exact .inl ⟨rfl,rfl,rfl⟩
 ·rw [e3,e4]
  simp only [U0]
  cases V6 (Z6 12) (r.pats.drop (k+1)) (us.drop (k+1)) with
  | none=>exact .inl ⟨rfl,rfl,rfl⟩
  | some c=>
   refine .inr ⟨_,_,rfl,rfl,rfl,rfl,?_⟩
   simp only [List.append_assoc]
   refine List.Perm.append_left _ ?_
   refine ((e5.append_right c).append_left a).trans ?_
   have h9:(a++zb++(z++c)).Perm (zb++a++(z++c)):=List.Perm.append_right _ List.perm_append_comm
   simpa only [List.append_assoc] using h9
theorem X9x {α:Type}{l:List α}{f g:α→Bool}(h:∀ x∈l,f x=g x):l.find? f=l.find? g:=by
 induction l with
 | nil=>rfl
 | cons a l ih=>
  rw [List.find?_cons,List.find?_cons,h a (by simp),ih fun x hx=>h x (by simp [hx])]
theorem X95 (rows:List Grow)(k:Nat)(b:Z2)(args:List Z5)(c:Int):Q4j (Q6c rows k b args) c=Q6c (Q4j rows c) k b args:=by
 unfold Q4j Q6c
 rw [List.filter_map,List.filter_filter,List.filter_filter]
 congr 1
 refine List.filter_congr fun r _=>?_
 simp only [Function.comp,Q8k]
 exact Bool.and_comm _ _
def V42 (w:List Q3)(lst:List Q5)(cols:List Z5)(v:Q4)(rows:List Grow):Prop:=∀ r∈rows,RowC w lst cols r∧∃ l,Q2g r.binds v=some l
theorem W8h {w:List Q3} : ∀ (d:Nat) (t:Q2) (p:Q0),J6 w d t p=true→X1v d p→∀ v l,Z6 d p v=some l→l.map (·.var)=Q5m p:=by
 intro d
 induction d with
 | zero=>intro t p h;simp [J6] at h
 | succ d ih=>
  intro t p g hf v l hm
  have hn:=Q04 g
  obtain ⟨ho,hl⟩:=Q0y hn
  have h5:=hf.1
  rw [Z0t,Q7r]
  rw [Z6] at hm
  by_cases h1:p.op=1
  ·rw [if_pos h1] at hm
   cases hm
   rw [Z4c hn (by omega) (by omega) (by omega),if_neg (by omega)];rfl
  rw [if_neg h1] at hm
  by_cases h2:p.op=2
  ·rw [if_pos h2] at hm
   cases hm
   rw [Z4c hn (by omega) (by omega) (by omega),if_pos (.inl h2)];rfl
  rw [if_neg h2] at hm
  by_cases h3:p.op=3
  ·rw [if_pos h3] at hm
   split at hm
   ·cases hm
    rw [Z4c hn (by omega) (by omega) (by omega),if_neg (by omega)];rfl
   ·cases hm
  rw [if_neg h3,if_neg h5] at hm
  by_cases h6:p.op=6
  ·rw [if_pos h6] at hm
   obtain ⟨a,hk,hkt⟩:=X3q h6 hl
   have ga:=Q06 g (k:=0) (a:=t) (q:=a) (by rw [hkt];rfl) (by rw [hk];rfl)
   rw [hk] at hm
   simp only [U12] at hm
   obtain ⟨m,hm,rfl⟩:=hm
   rw [if_pos (.inr h6),hk,List.map_cons,ih t a ga (hf.2 a (by rw [hk];simp)) v m hm]
   simp
  rw [if_neg h6] at hm
  rw [if_neg (by omega),List.nil_append]
  split at hm
  ·have gen:∀ (ts:List Q2) (ps:List Q0) (vs:List Q4) (l:List Y3),ts.length=ps.length→(∀ x∈ts.zip ps,∀ v l,Z6 d x.2 v=some l→l.map (·.var)=Q5m x.2)→V6 (Z6 d) ps vs=some l→l.map (·.var)=ps.flatMap Q5m:=by
    intro ts ps
    induction ps generalizing ts with
    | nil=>intro vs l _ _ h;simp only [V6] at h;cases h;rfl
    | cons q ps ihp=>
     intro vs l hl hx h
     cases ts with
     | nil=>simp at hl
     | cons a ts=>
      cases vs with
      | nil=>cases h
      | cons u vs=>
       simp only [V6] at h
       cases hq:Z6 d q u with
       | none=>rw [hq] at h;cases h
       | some l1=>
        rw [hq] at h
        simp only at h
        cases hps:V6 (Z6 d) ps vs with
        | none=>rw [hps] at h;cases h
        | some l2=>
         rw [hps] at h
         cases h
         rw [List.map_append,List.flatMap_cons,hx (a,q) (by simp) u l1 hq,ihp ts vs l2 (by simpa using hl) (fun x hxx=>hx x (by simp [hxx])) hps]
   refine gen (V5 w t p) p.kids v.kids l hl.symm (fun x hx v l h=>?_) hm
   obtain ⟨j,hj⟩:=List.mem_iff_getElem?.1 hx
   obtain ⟨e1,e2⟩:=List.getElem?_zip_eq_some.1 hj
   exact ih _ _ (Q06 g e1 e2) (hf.2 _ (U1 e2)) v l h
  ·cases hm
theorem Z9s {w:List Q3} : ∀ (ps:List Q0) (us:List Q4) (l:List Y3),(∀ p∈ps,∃ t,PatO w t p)→V6 (Z6 12) ps us=some l→l.map (·.var)=ps.flatMap Q5m
 | [],_,l,_,h=>by simp only [V6,Option.some.injEq] at h;subst h;rfl
 | _::_,[],_,_,h=>by simp [V6] at h
 | p::ps,u::us,l,hp,h=>by
  simp only [V6] at h
  cases hq:Z6 12 p u with
  | none=>rw [hq] at h;cases h
  | some l1=>
   rw [hq] at h
   simp only at h
   cases hps:V6 (Z6 12) ps us with
   | none=>rw [hps] at h;cases h
   | some l2=>
    rw [hps] at h
    cases h
    obtain ⟨t,g,f⟩:=hp p (by simp)
    rw [List.map_append,List.flatMap_cons,W8h 12 t p g f u l1 hq,Z9s ps us l2 (fun x hx=>hp x (by simp [hx])) hps]
theorem Z47 {w:List Q3}{lst:List Q5}{cols:List Z5}{r:Grow}(h:RowC w lst cols r){v:Q4}{us:List Q4}{l:List Y3}(hl:rowB r v us=some l):X4y l:=by
 have hvars:l.map (·.var)=X1e r:=by
  unfold rowB at hl
  cases hb:Q2g r.binds v with
  | none=>rw [hb] at hl;simp at hl
  | some l1=>
   rw [hb] at hl
   simp only [U0,U12] at hl
   obtain ⟨l2,h2,rfl⟩:=hl
   rw [List.map_append,Z4n hb,X1e]
   congr 1
   refine Z9s (w:=w) r.pats us l2 (fun p hp=>?_) h2
   obtain ⟨j,hj⟩:=List.mem_iff_getElem?.1 hp
   have hjl:=(List.getElem?_eq_some_iff.1 hj).1
   have hlen:=h.len
   have hc:cols[j]?=some (cols[j]'(by omega)):=by simp
   have hx:=h.pat _ (U1 (Q8y hc hj))
   exact ⟨_,hx.1,hx.2.1⟩
 have hn:(l.map (·.var)).Nodup:=by rw [hvars];exact h.nd
 have hr:∀ b∈l,0≤b.var∧b.var≤5:=fun b hb=>h.rg b.var (by rw [←hvars];exact List.mem_map_of_mem hb)
 refine ⟨hn,hr,?_⟩
 have:=Z0z 6 _ hn fun x hx=>by
  obtain ⟨b,hb,rfl⟩:=U11.1 hx
  have:=hr b hb
  omega
 simpa using this
theorem V5v {w:List Q3}(hS:WS w){lst:List Q5}{v:Q4}{cols:List Z5}{us:List Q4}(h:W9o w v cols us){k:Nat}{col:Z5}(hk:cols[k]?=some col)(ht:col.t∈tys w){u:Q4}(hu:us[k]?=some u){b:Z2}{rows0:List Grow}(hb:b∈brsD w rows0 col.t k)(hB:BrC w col.t b)(hf:Y1 b u=true){RR:List Grow}{x:Int×List Y3}(hx:Z6h lst v (usD us k b u) RR x) :
  ∀ rows:List Grow,(∀ r∈rows,r∈rows0)→V42 w lst cols v rows→RR=Q6c rows k b (J7 w col b)→Z6h lst v us rows x:=by
 have hfind:∀ rows:List Grow,(∀ r∈rows,r∈rows0)→V42 w lst cols v rows→(Q6c rows k b (J7 w col b)).find? (hitR (usD us k b u))=(rows.find? (hitR us)).map fun r=>Q8k r k (J7 w col b):=fun rows h0 hR=>by
  unfold Q6c
  rw [List.find?_map,List.find?_filter]
  congr 1
  refine X9x fun r hr=>?_
  obtain ⟨hC,rb,hrb⟩:=hR r hr
  simp only [Function.comp]
  cases hfit:Q5n (W3 r k) b with
  | false=>
   have hn:=X2v hb (h0 r hr) (hC.at hk).2 (h.at_ k col u hk hu).2 hf 11 hfit
   have hkl:=(hC.at hk).1
   have hpk:r.pats[k]?=some (W3 r k):=by unfold W3;rw [U10 hkl];rfl
   have hrl:=hC.len
   have hlen:=h.len
   have:rowL r us=none:=by
    unfold rowL
    rw [Z5m hpk,Z5m hu,Q61 _ _ _ _ (by simp only [U6];omega),List.singleton_append,List.singleton_append]
    cases V6 (Z6 12) (r.pats.take k) (us.take k) with
    | none=>rfl
    | some a=>simp only [U0,V6];rw [hn];rfl
   simp [hitR,this]
  | true=>
   obtain ⟨_,h2⟩:=Z5t hS h hk ht hu hB hf hC hrb hfit
   simp only [Bool.true_and,decide_eq_true_eq]
   rcases h2 with ⟨_,h3,h4⟩ | ⟨_,_,_,h3,_,h4,_⟩
   ·simp [hitR,h3,h4]
   ·simp [hitR,h3,h4]
 induction hx with
 | none hn=>
  intro rows h0 hR e
  subst e
  rw [hfind rows h0 hR,Option.map_eq_none_iff] at hn
  exact .none hn
 | take h1 h2 h3 h4=>
  intro rows h0 hR e
  subst e
  rw [hfind rows h0 hR,U12] at h1
  obtain ⟨r,hr,rfl⟩:=h1
  have hm:=List.mem_of_find?_eq_some hr
  obtain ⟨hC,rb,hrb⟩:=hR r hm
  have hfit:Q5n (W3 r k) b=true:=by
   cases hfit:Q5n (W3 r k) b with
   | true=>rfl
   | false=>
    have hn:=X2v hb (h0 r hm) (hC.at hk).2 (h.at_ k col u hk hu).2 hf 11 hfit
    exact absurd (List.find?_some hr) (by
     have:=hfind [r] (fun x hx=>by simp only [List.mem_singleton] at hx;rw [hx];exact h0 r hm) (fun x hx=>by simp only [List.mem_singleton] at hx;rw [hx];exact hR r hm)
     simp only [Q6c,List.filter_cons,hfit,U2,if_false,List.filter_nil,List.map_nil,List.find?_nil,List.find?_cons] at this
     intro hh
     rw [hh] at this
     simp at this)
  obtain ⟨_,h5⟩:=Z5t hS h hk ht hu hB hf hC hrb hfit
  rcases h5 with ⟨_,h6,h7⟩ | ⟨a,y,h6,_,h7,_,h8⟩
  ·exact absurd h2 (by unfold rowB;rw [h7];intro hh;cases Q2g (Q8k r k (J7 w col b)).binds v<;>simp at hh)
  ·rw [h7] at h2
   cases h2
   have hbo:=Z47 hC h6
   rw [←Z4h hbo.nd h8] at h4
   rw [←W6e hbo h8]
   show Z6h lst v us rows (r.clause,Z45 a)
   exact .take hr h6 h3 h4
 | skip h1 h2 h3 h4 _ ih=>
  intro rows h0 hR e
  subst e
  rw [hfind rows h0 hR,U12] at h1
  obtain ⟨r,hr,rfl⟩:=h1
  have hm:=List.mem_of_find?_eq_some hr
  obtain ⟨hC,rb,hrb⟩:=hR r hm
  have hfit:Q5n (W3 r k) b=true:=by
   cases hfit:Q5n (W3 r k) b with
   | true=>rfl
   | false=>
    exact absurd (List.find?_some hr) (by
     have:=hfind [r] (fun x hx=>by simp only [List.mem_singleton] at hx;rw [hx];exact h0 r hm) (fun x hx=>by simp only [List.mem_singleton] at hx;rw [hx];exact hR r hm)
     simp only [Q6c,List.filter_cons,hfit,U2,if_false,List.filter_nil,List.map_nil,List.find?_nil,List.find?_cons] at this
     intro hh
     rw [hh] at this
     simp at this)
  obtain ⟨_,h5⟩:=Z5t hS h hk ht hu hB hf hC hrb hfit
  rcases h5 with ⟨_,h6,h7⟩ | ⟨a,y,h6,_,h7,_,h8⟩
  ·exact absurd h2 (by unfold rowB;rw [h7];intro hh;cases Q2g (Q8k r k (J7 w col b)).binds v<;>simp at hh)
  ·rw [h7] at h2
   cases h2
   have hbo:=Z47 hC h6
   rw [←Z4h hbo.nd h8] at h4
   refine .skip hr h6 h3 h4 (ih (Q4j rows r.clause) (fun x hx=>h0 x (Z5j hx)) (fun x hx=>hR x (Z5j hx)) ?_)
   exact X95 rows k b (J7 w col b) r.clause
theorem X7v {P:Z2→V4→Prop}{u:Q4} : ∀ {bs xs:List Z2},brsR P bs xs→(∃ b∈bs,Y1 b u=true)→∃ x b,xs.find? (fun b=>Y1 b u)=some x∧b∈bs∧Y1 b u=true∧P b x.tree
 | [],[],_,⟨_,h,_⟩=>by cases h
 | [],_::_,e,_=>e.elim
 | _::_,[],e,_=>e.elim
 | b::bs,x::xs,⟨⟨e1,e2,e3,e4⟩,e5⟩,h=>by
  have hfx:Y1 x u=Y1 b u:=by unfold Y1;rw [e1,e2,e3]
  rw [List.find?_cons,hfx]
  cases hb:Y1 b u with
  | true=>exact ⟨x,b,rfl,by simp,hb,e4⟩
  | false=>
   obtain ⟨c,hc,hcf⟩:=h
   have hc2:c∈bs:=by
    rcases U8.1 hc with rfl | hc
    ·rw [hb] at hcf;cases hcf
    ·exact hc
   obtain ⟨y,c',h1,h2,h3,h4⟩:=X7v e5 ⟨c,hc2,hcf⟩
   exact ⟨y,c',h1,by simp [h2],h3,h4⟩
theorem V0x {w:List Q3}(hww:w∈Q0r){lst:List Q5}{pick:Int}{v:Q4} : ∀ (d:Nat) (t:V4) (rows:List Grow) (cols:List Z5) (us:List Q4),Z1t w lst pick d t rows cols→V42 w lst cols v rows→ColC w cols d→W9o w v cols us→
  ∃ a bs k,runT d t lst v=some (a,bs,k)∧Z6h lst v us rows (a,bs):=by
 have hw:=ww hww
 have hS:=ws hww
 intro d
 induction d with
 | zero=>intro t rows cols us h;exact h.elim
 | succ d ih=>
  intro t rows cols us h hR hC hV
  have hCd:ColC w cols d:=⟨hC.ty,fun c hc=>by have:=hC.path c hc;omega,by have:=hC.len;omega⟩
  cases rows with
  | nil=>
   simp only [Z1t] at h
   subst h
   exact ⟨-1,[],0,by simp [runT,zT],.none rfl⟩
  | cons r0 rest=>
   simp only [Z1t] at h
   obtain ⟨h0,rb,hrb⟩:=hR r0 (by simp)
   cases hp:Z1y w (r0::rest) cols pick with
   | none=>
    rw [hp] at h
    simp only at h
    obtain ⟨h1,h2,h3,h4,h5,cl,h6,h7⟩:=h
    have hall:∀ q∈r0.pats,q=anyP:=fun q hq=>by
     obtain ⟨j,hj⟩:=List.mem_iff_getElem?.1 hq
     have hjl:=(List.getElem?_eq_some_iff.1 hj).1
     have hlen:=h0.len
     have hany:Q9n (r0::rest) j=true:=Z0i.1 hp j (by omega)
     have this:(W3 r0 j).op=1:=of_decide_eq_true hany
     have hq2:W3 r0 j=q:=by unfold W3;rw [hj];rfl
     have hc:cols[j]?=some (cols[j]'(by omega)):=by simp
     have hpc:=(h0.at hc).2
     rw [hq2] at this hpc
     exact W0g (Q04 hpc.1) this
    have hrl:rowL r0 us=some []:=Z6s hall (by rw [h0.len,hV.len])
    have hfind:(r0::rest).find? (hitR us)=some r0:=by rw [List.find?_cons];simp [hitR,hrl]
    have hrB:rowB r0 v us=some rb:=by unfold rowB;rw [hrb,hrl];simp
    have hbo:=Z47 h0 hrB
    obtain ⟨bn,br,_⟩:=h0.binds
    obtain ⟨l',e1,e2⟩:=W0d (Z0f br).symm hrb
    have hl':l'=Z45 rb:=by
     have hs:l'.Pairwise (fun x y=>x.var<y.var):=by
      have h1:=Z7j bn
      have h2:=Z4n e1
      have h3:(l'.map (·.var)).Pairwise (· < ·):=by rw [h2,List.pairwise_map];exact h1
      exact List.pairwise_map.1 h3
     exact Z98 _ _ hs (Z28 hbo.nd) (e2.symm.trans (Z0e hbo.rg).symm)
    rw [hl'] at e1
    have hrun:runT (d+1) t lst v=if Q38 cl.guard rb=true then some (r0.clause,Z45 rb,0) else match t.else_ with
      | el::_=>runT d el lst v
      | []=>none:=by
     rw [runT,if_neg (by omega),if_pos h1,h2,X00 h0.c0 h6]
     simp only [U0]
     rw [h3,e1]
     simp only [U0]
     rw [X9m hbo]
     all_goals (cases t.else_<;>rfl)
    rw [hrun]
    cases hg:Q38 cl.guard rb with
    | true=>exact ⟨_,_,_,rfl,.take hfind hrB h6 hg⟩
    | false=>
     rcases h7 with ⟨h7,_⟩ | ⟨h7,el,h8,h9⟩
     ·simp [Q38,h7] at hg
     ·rw [h8]
      simp only [U2,if_false]
      obtain ⟨a,bs,k,f1,f2⟩:=ih el (Q4j (r0::rest) r0.clause) cols us h9 (fun r hr=>hR r (Z5j hr)) hCd hV
      exact ⟨a,bs,k,f1,.skip hfind hrB h6 hg f2⟩
   | some k=>
    rw [hp] at h
    simp only at h
    obtain ⟨col,h1,h2,h3,h4,h5,h6,h7⟩:=h
    have hkl:=(List.getElem?_eq_some_iff.1 h1).1
    have hlen:=hV.len
    have hu:us[k]?=some (us[k]'(by omega)):=by simp
    generalize us[k]'(by omega)=u at hu
    obtain ⟨hpv,hg⟩:=hV.at_ k col u h1 hu
    have hct:=hC.ty col (U1 h1)
    obtain ⟨x,b,f1,f2,f3,f4⟩:=X7v h7 (W9c hww hct hg (r0::rest) k)
    have hB:=Y38 (wl hww) hct b f2
    have hRn:V42 w lst (Q81 cols k (J7 w col b)) v (Q6c (r0::rest) k b (J7 w col b)):=fun r hr=>by
     unfold Q6c at hr
     obtain ⟨r1,g1,rfl⟩:=U11.1 hr
     obtain ⟨g2,g3⟩:=List.mem_filter.1 g1
     obtain ⟨g4,rb1,g5⟩:=hR r1 g2
     exact ⟨RowC.next hw hS hC g4 h1 hB g3,(Z5t hS hV h1 hct hu hB f3 g4 g5 g3).1⟩
    obtain ⟨a,bs,m,e1,e2⟩:=ih x.tree _ _ (usD us k b u) f4 hRn (ColC.next hw hC h1 hB) (X2y hV h1 hu hB f3)
    refine ⟨a,bs,m+1,?_,V5v hS hV h1 hct hu f2 hB f3 e2 (r0::rest) (fun r h=>h) hR rfl⟩
    rw [runT,if_pos h2,h5,hpv]
    simp only [U0]
    rw [f1]
    simp only
    rw [e1]
    rfl
theorem Z7w {α β:Type}{l:List α}{f:α→Option β}{q:α}(h:l.find? (fun q=>(f q).isSome)=some q):l.findSome? f=f q:=by
 induction l with
 | nil=>cases h
 | cons a l ih=>
  rw [List.find?_cons] at h
  rw [List.findSome?_cons]
  cases ha:f a with
  | none=>rw [ha] at h;exact ih h
  | some x=>
   rw [ha] at h
   simp only [Option.isSome_some,Option.some.injEq] at h
   rw [←h,ha]
theorem X65 {v:Q4} : ∀ (cs:List Q5) (k:Nat),(∀ c∈cs,∀ b,Z6 10 c.pat v=some b→Q38 c.guard b=false)→runD v k cs=none
 | [],_,_=>rfl
 | c::cs,k,h=>by
  simp only [runD]
  have ih:=X65 cs (k+1) fun x hx=>h x (by simp [hx])
  cases hm:Z6 10 c.pat v with
  | none=>exact ih
  | some b=>
   simp only
   rw [h c (by simp) b hm]
   simpa using ih
theorem W6m {v:Q4} : ∀ (cs:List Q5) (k i:Nat) (c:Q5) (b:List Y3),(∀ (j:Nat) (c':Q5),j<i→cs[j]?=some c'→∀ b,Z6 10 c'.pat v=some b→Q38 c'.guard b=false)→cs[i]?=some c→Z6 10 c.pat v=some b→Q38 c.guard b=true→runD v k cs=some (k+i,Z45 b)
 | [],_,_,_,_,_,h,_,_=>by simp at h
 | c0::cs,k,0,c,b,_,h,hm,hg=>by
  simp only [List.getElem?_cons_zero,Option.some.injEq] at h
  subst h
  simp only [runD,hm,hg,if_true,Nat.add_zero]
 | c0::cs,k,i+1,c,b,h0,h,hm,hg=>by
  simp only [runD]
  have ih:=W6m cs (k+1) i c b (fun j c' hj hc=>h0 (j+1) c' (by omega) (by simpa using hc)) (by simpa using h) hm hg
  rw [show k+1+i=k+(i+1) by omega] at ih
  cases hm0:Z6 10 c0.pat v with
  | none=>exact ih
  | some b0=>
   simp only
   rw [h0 0 c0 (by omega) rfl b0 hm0]
   simpa using ih
theorem Z6r {l:List Q5}{j:Nat}{c:Q5}{q:Q0}(hc:l[j]?=some c)(hq:q∈Q9 10 c.pat):∀ n,j<n→Q36 j q∈Q35 l n
 | 0,h=>by omega
 | n+1,h=>by
  rw [Q35]
  by_cases hjn:j=n
  ·subst hjn
   rw [hc]
   exact List.mem_append_right _ (List.mem_map_of_mem hq)
  ·exact List.mem_append_left _ (Z6r hc hq n (by omega))
theorem Z4k {l:List Q5}{p:Grow→Bool}{r:Grow} : ∀ n,n≤l.length→(Q35 l n).find? p=some r→
  ∃ i c q,i<n∧l[i]?=some c∧r=Q36 i q∧(Q9 10 c.pat).find? (fun q=>p (Q36 i q))=some q∧∀ (j:Nat) (c':Q5),j<i→l[j]?=some c'→∀ q'∈Q9 10 c'.pat,p (Q36 j q')=false
 | 0,_,h=>by simp [Q35] at h
 | n+1,hn,h=>by
  rw [Q35,List.find?_append,Option.or_eq_some_iff] at h
  rcases h with h | ⟨h0,h⟩
  ·obtain ⟨i,c,q,h1,h2⟩:=Z4k n (by omega) h
   exact ⟨i,c,q,by omega,h2⟩
  ·have hc:l[n]?=some (l[n]'(by omega)):=by simp
   rw [hc] at h
   simp only at h
   rw [List.find?_map,U12] at h
   obtain ⟨q,h1,h2⟩:=h
   refine ⟨n,_,q,by omega,hc,h2.symm,h1,fun j c' hj hc' q' hq'=>?_⟩
   have hm:Q36 j q'∈Q35 l n:=Z6r hc' hq' n hj
   simpa using List.find?_eq_none.1 h0 _ hm
theorem X67 {w:List Q3}{t:Q2}{p q:Q0}(g:J6 w 10 t p=true)(hq:q∈Q9 10 p)(i:Nat)(v:Q4) :
  rowB (Q36 i q) v [v]=Z6 10 q v∧hitR [v] (Q36 i q)=(Z6 10 q v).isSome:=by
 have g10:=Q8t 10 t p q g hq
 have g12:J6 w 12 t q=true:=Q5x 11 t q (Q5x 10 t q g10)
 have hO:PatO w t q:=⟨g12,Q9f 11 q (Q9f 10 q (Z6m 10 p q hq))⟩
 have e1:Z6 12 q v=Z6 10 q v:=by rw [(Z5l 11 t q (Q5x 10 t q g10)).2.2.2 v,(Z5l 10 t q g10).2.2.2 v]
 have hm:=V46 [] v g12
 have hb:=Z1o (v:=v) (u:=v) (path:=[]) rfl (Z91 [] hO).2.2
 have hL:rowL (Q36 i q) [v]=Z6 12 (Q79 q []).2 v:=by
  unfold rowL Q36
  simp only [V6]
  cases Z6 12 (Q79 q []).2 v<;>simp
 constructor
 ·unfold rowB
  rw [hL,show (Q36 i q).binds=(Q79 q []).1 from rfl,hb]
  simp only [U0]
  rw [←hm,e1]
 ·unfold hitR
  rw [hL,←e1,hm]
  simp
theorem Y0x {w:List Q3}(hw:WW w)(hS:WS w){t:Q2}(ht:t∈tys w){l:List Q5}(hl:∀ c∈l,J6 w 10 t c.pat=true){v:Q4}{e:Nat}(hv:Q1r w e t v){RR:List Grow}{x:Int×List Y3}(h:Z6h l v [v] RR x) :
  ∀ keep:Int→Bool,RR=(Q35 l l.length).filter (fun r=>keep r.clause)→(∀ (i:Nat) (c:Q5) (b:List Y3),l[i]?=some c→keep (i:Int)=false→Z6 10 c.pat v=some b→Q38 c.guard b=false)→x=runR (runD v 0 l):=by
 have hsp:∀ c∈l,(Q9 10 c.pat).findSome? (fun q=>Z6 10 q v)=Z6 10 c.pat v:=fun c hc=>W34 hw hS 10 e t c.pat v ht (hl c hc) hv
 have none_of:∀ (j:Nat) (c:Q5),l[j]?=some c→(∀ q∈Q9 10 c.pat,hitR [v] (Q36 j q)=false)→Z6 10 c.pat v=none:=fun j c hc h=>by
  have hcm:=U1 hc
  rw [←hsp c hcm]
  refine X0h fun q hq=>?_
  have h1:=h q hq
  rw [(X67 (hl c hcm) hq j v).2] at h1
  simpa using h1
 induction h with
 | none hn=>
  intro keep e hk
  subst e
  rw [List.find?_filter,List.find?_eq_none] at hn
  rw [X65 l 0 fun c hc b hb=>?_]
  ·rfl
  obtain ⟨j,hj⟩:=List.mem_iff_getElem?.1 hc
  have hjl:=(List.getElem?_eq_some_iff.1 hj).1
  cases hkj:keep (j:Int) with
  | false=>exact hk j c b hj hkj hb
  | true=>
   have:=none_of j c hj fun q hq=>by
    have h1:=hn _ (Z6r hj hq l.length hjl)
    have h2:(Q36 j q).clause=(j:Int):=rfl
    rw [h2,hkj] at h1
    simpa using h1
   rw [this] at hb
   cases hb
 | take h1 h2 h3 h4=>
  intro keep e hk
  subst e
  rw [List.find?_filter] at h1
  obtain ⟨i,c,q,hi,hc,rfl,hq,hbef⟩:=Z4k l.length (Nat.le_refl _) h1
  have hcm:=U1 hc
  have hqm:=List.mem_of_find?_eq_some hq
  have h3':l[((Q36 i q).clause).toNat]?=some c:=by
   rw [show ((Q36 i q).clause).toNat=i from rfl];exact hc
  rw [h3'] at h3
  have h3:=Option.some.inj h3
  subst h3
  have hki:keep (i:Int)=true:=by
   have h9:=List.find?_some hq
   simp only [decide_eq_true_eq] at h9
   exact h9.1
  have hfq:(Q9 10 c.pat).find? (fun q=>(Z6 10 q v).isSome)=some q:=by
   rw [←hq]
   refine X9x fun y hy=>?_
   rw [(X67 (hl c hcm) hy i v).2,show (Q36 i y).clause=(i:Int) from rfl,hki]
   simp
  have hmc:Z6 10 c.pat v=Z6 10 q v:=by rw [←hsp c hcm];exact Z7w hfq
  rw [(X67 (hl c hcm) hqm i v).1,←hmc] at h2
  rw [W6m l 0 i c _ (fun j c' hj hc' b hb=>?_) hc h2 h4]
  ·simp [runR,Q36]
  ·cases hkj:keep (j:Int) with
   | false=>exact hk j c' b hc' hkj hb
   | true=>
    have:=none_of j c' hc' fun q' hq'=>by
     have h1:=hbef j c' hj hc' q' hq'
     rw [show (Q36 j q').clause=(j:Int) from rfl,hkj] at h1
     simpa using h1
    rw [this] at hb
    cases hb
 | skip h1 h2 h3 h4 _ ih=>
  intro keep e hk
  subst e
  rw [List.find?_filter] at h1
  obtain ⟨i,c,q,hi,hc,rfl,hq,hbef⟩:=Z4k l.length (Nat.le_refl _) h1
  have hcm:=U1 hc
  have hqm:=List.mem_of_find?_eq_some hq
  have h3':l[((Q36 i q).clause).toNat]?=some c:=by
   rw [show ((Q36 i q).clause).toNat=i from rfl];exact hc
  rw [h3'] at h3
  have h3:=Option.some.inj h3
  subst h3
  have hki:keep (i:Int)=true:=by
   have h9:=List.find?_some hq
   simp only [decide_eq_true_eq] at h9
   exact h9.1
  have hfq:(Q9 10 c.pat).find? (fun q=>(Z6 10 q v).isSome)=some q:=by
   rw [←hq]
   refine X9x fun y hy=>?_
   rw [(X67 (hl c hcm) hy i v).2,show (Q36 i y).clause=(i:Int) from rfl,hki]
   simp
  have hmc:Z6 10 c.pat v=Z6 10 q v:=by rw [←hsp c hcm];exact Z7w hfq
  rw [(X67 (hl c hcm) hqm i v).1,←hmc] at h2
  refine ih (fun z=>keep z&&decide (z≠(i:Int))) ?_ fun j c' b hc' hkj hb=>?_
  ·unfold Q4j
   rw [List.filter_filter]
   refine List.filter_congr fun r _=>?_
   rw [show (Q36 i q).clause=(i:Int) from rfl,Bool.and_comm]
   simp
  ·simp only [Bool.and_eq_false_iff,decide_eq_false_iff_not] at hkj
   rcases hkj with hkj | hkj
   ·exact hk j c' b hc' hkj hb
   ·have hji:j=i:=by omega
    subst hji
    rw [hc] at hc'
    cases hc'
    rw [h2] at hb
    cases hb
    exact h4
theorem Z82 {w:List Q3}(hww:w∈Q0r){t:Q2}(ht:t∈tys w){l:List Q5}{pick:Int}{tr:V4}(h:Q0c NN w t l pick=some (tr,true)):canC w t l pick=true:=by
 rw [W1i hww ht] at h
 cases hc:canC w t l pick with
 | true=>rfl
 | false=>rw [hc] at h;simp at h
theorem X5k {w:List Q3}(hww:w∈Q0r){t:Q2}(ht:t∈tys w){l:List Q5}{pick:Int}{tr:V4}(h:Q0c NN w t l pick=some (tr,true)){v:Q4}(hv:Q1r w 10 t v) :
  ∃ k,runT 300 tr l v=some ((runR (runD v 0 l)).1,(runR (runD v 0 l)).2,k):=by
 have hw:=ww hww
 have hS:=ws hww
 have hc:=Z82 hww ht h
 have hT:=(Z74 hww ht l pick).tr tr h
 simp only [canC,Bool.and_eq_true] at hc
 obtain ⟨hll,hP⟩:=X3h hc.1.1
 have hR:=X66 hw hP hll
 obtain ⟨a,bs,k,h1,h2⟩:=V0x hww (v:=v) 300 tr (Q35 l l.length) [⟨[],t⟩] [v] hT (fun r hr=>⟨hR r hr,by
  obtain ⟨i,c,q,hi,hq,rfl⟩:=X2a hr
  have g:=(hP c (U1 hi)).1
  have g10:=Q8t 10 t c.pat q g hq
  have hO:PatO w t q:=⟨Q5x 11 t q (Q5x 10 t q g10),Q9f 11 q (Q9f 10 q (Z6m 10 c.pat q hq))⟩
  exact ⟨_,Z1o (v:=v) (u:=v) (path:=[]) rfl (Z91 [] hO).2.2⟩⟩) (W69 ht) ⟨rfl,fun j c u hc hu=>by
   cases j with
   | zero=>simp at hc hu;subst hc hu;exact ⟨rfl,hv⟩
   | succ j=>simp at hc⟩
 have h3:=Y0x hw hS ht (fun c hc=>(hP c hc).1) hv h2 (fun _=>true) (List.filter_eq_self.2 fun _ _=>rfl).symm (fun _ _ _ _ h=>by cases h)
 exact ⟨k,by rw [h1,←h3]⟩
def tupV (out:List (List Q4))(l:List Q4):List (List Q4):=out.flatMap fun q=>l.map fun c=>q++[c]
def mkV (c:Int)(ks:List Q4):Q4:=Q4.mk c 0 ks
def numV (n:Nat):Q4:=Q4.mk (-1) (n:Int) []
theorem V0w (out:List (List Q4))(l:List Q4):(tupV out l).length=out.length * l.length:=by
 induction out with
 | nil=>simp [tupV]
 | cons q out ih=>
  have e:tupV (q::out) l=(l.map fun c=>q++[c])++tupV out l:=by simp [tupV]
  rw [e,U5,ih,U7,U3,Nat.succ_mul]
  omega
theorem Z8v:∀ (ls:List (List Q4)) (out:List (List Q4)) (ks:List Q4),ks∈ls.foldl tupV out→
  ∃ a b,a∈out∧ks=a++b∧b.length=ls.length∧∀ (i:Nat) (q:Q4) (l:List Q4),b[i]?=some q→ls[i]?=some l→q∈l
 | [],out,ks,h=>⟨ks,[],by simpa using h,by simp,rfl,by simp⟩
 | l::ls,out,ks,h=>by
  rw [List.foldl_cons] at h
  obtain ⟨a,b,ha,rfl,hl,hb⟩:=Z8v ls (tupV out l) ks h
  simp only [tupV,List.mem_flatMap,U11] at ha
  obtain ⟨a0,h0,c,hc,rfl⟩:=ha
  refine ⟨a0,c::b,h0,by simp,by simp [hl],fun i q m h1 h2=>?_⟩
  cases i with
  | zero=>simp at h1 h2;subst h1 h2;exact hc
  | succ i=>exact hb i q m (by simpa using h1) (by simpa using h2)
theorem len0 (n:Nat):ieq (lenZ n) 0=decide (n=0):=by
 by_cases h:n=0
 ·subst h;rfl
 ·rw [decide_eq_false h,X3];simp only [lenZ];omega
theorem Z30 {w:List Q3}{t:Q2}{cs:List Q5}(h:Q23 w t cs=true):cs.length≤8∧∀ c∈cs,Q1v w t c.pat=true:=by
 simp only [Q23,Bool.and_eq_true,decide_eq_true_eq,List.all_eq_true] at h
 refine ⟨h.1,fun c hc=>?_⟩
 have:=h.2 c hc
 simp only [Q7o,Bool.and_eq_true] at this
 exact this.1
theorem Z0g {v:Q4} : ∀ {cs:List Q5} {k:Nat} {x:Nat×List Y3},runD v k cs=some x→∃ i c b,cs[i]?=some c∧x.1=k+i∧Z6 10 c.pat v=some b∧Q38 c.guard b=true∧x.2=Z45 b∧∀ (j:Nat) (c':Q5),j<i→cs[j]?=some c'→∀ b',Z6 10 c'.pat v=some b'→Q38 c'.guard b'=false
 | [],_,_,h=>by cases h
 | c::cs,k,x,h=>by
  simp only [runD] at h
  cases hm:Z6 10 c.pat v with
  | none=>
   rw [hm] at h
   obtain ⟨i,c1,b,h1,h2,h3,h4,h5,h6⟩:=Z0g h
   refine ⟨i+1,c1,b,by simpa using h1,by omega,h3,h4,h5,fun j c' hj hc' b' hb'=>?_⟩
   cases j with
   | zero=>simp only [List.getElem?_cons_zero,Option.some.injEq] at hc';subst hc';rw [hm] at hb';cases hb'
   | succ j=>exact h6 j c' (by omega) (by simpa using hc') b' hb'
  | some l=>
   rw [hm] at h
   simp only at h
   split at h
   ·rename_i hg
    cases h
    exact ⟨0,c,l,rfl,rfl,hm,hg,rfl,fun j c' hj=>by omega⟩
   ·rename_i hg
    obtain ⟨i,c1,b,h1,h2,h3,h4,h5,h6⟩:=Z0g h
    refine ⟨i+1,c1,b,by simpa using h1,by omega,h3,h4,h5,fun j c' hj hc' b' hb'=>?_⟩
    cases j with
    | zero=>simp only [List.getElem?_cons_zero,Option.some.injEq] at hc';subst hc';rw [hm] at hb';cases hb';simpa using hg
    | succ j=>exact h6 j c' (by omega) (by simpa using hc') b' hb'
theorem Y0y {w:List Q3}(hw:WW w){t:Q2}(ht:t∈tys w){l:List Q5}(hl:∀ c∈l,Q1v w t c.pat=true){v:Q4}(hv:Q1r w 10 t v):DB (runR (runD v 0 l)).2:=by
 cases h:runD v 0 l with
 | none=>intro b hb;cases hb
 | some x=>
  obtain ⟨i,c,b,h1,_,h3,_,h5,_⟩:=Z0g h
  obtain ⟨g,_,ln⟩:=Q3q (hl c (U1 h1))
  have hb:=X96 g ln h3
  intro y hy
  simp only [runR,h5] at hy
  obtain ⟨e',e1,e2⟩:=W3r 10 c.pat 10 v b (X2r hw 10 t v ht hv) h3 y ((Z0e hb.rg).mem_iff.1 hy)
  exact W2e _ _ _ e1 e2
theorem X8u:∀ (n:Nat) (p:Q4) (most:Nat),most<n→most≤1000→Q6p n p (most:Int)=some ((min (cntV p) (most+1):Nat):Int):=by
 intro n
 induction n with
 | zero=>intro p most h;omega
 | succ n ih=>
  intro p most hn hm
  unfold Q6p
  have key:=Z3 (ρ:=Int) (f:=fun k94 x95 (s88:Int)=>
   (if (ile s88 (most:Int))=true then
   ((Q6p n x95 (wsub .i64 (most:Int) s88)).bind fun r103=>
   some (Ctl.go (wadd .i64 s88 r103)))
   else
   some (Ctl.brk s88))) p.kids (s0:=1) (fun k s=>∃ m:Nat,s=(m:Int)∧m=min (1+cntV.cntVs (p.kids.take k)) (most+1)) (fun _=>False) (fun s=>s=((min (cntV p) (most+1):Nat):Int)) ⟨1,rfl,by simp [cntV.cntVs]⟩ (fun k q s hq hI=>?_) (fun s hI=>?_)
  ·have:=Ret.ctl (Q:=fun b=>b=((min (cntV p) (most+1):Nat):Int)) key (g:=fun (o:Ctl Int Int)=>match o with
    | .ret r=>some r
    | .go _=>none
    | .brk s=>some s) (fun r hr=>hr.elim) (fun s hs=>.some hs)
   obtain ⟨b,e,rfl⟩:=this
   exact e
  ·obtain ⟨m,rfl,hm2⟩:=hI
   refine Ret.ite (fun h=>?_) (fun h=>?_)
   ·rw [Q0l] at h
    have hle:m≤most:=by omega
    have hws:wsub .i64 (most:Int) (m:Int)=((most-m:Nat):Int):=by rw [Q2m (by omega) (by omega)];omega
    rw [hws,ih q (most-m) (by omega) (by omega)]
    simp only [U0]
    rw [V7 (by omega) (by omega)]
    refine .some ⟨m+min (cntV q) (most-m+1),by push_cast;rfl,?_⟩
    rw [Z75 p.kids k q hq]
    omega
   ·rw [Q30] at h
    refine .some ?_
    have h1:=Z1j p.kids k
    have h2:=X0x p
    show (m:Int)=_
    have:m=min (cntV p) (most+1):=by omega
    rw [this]
  ·obtain ⟨m,rfl,hm2⟩:=hI
   rw [List.take_length] at hm2
   have h2:=X0x p
   have:m=min (cntV p) (most+1):=by omega
   rw [this]
theorem X7t:∀ (d n:Nat) (v:Q4),Z20 d v→d≤n→Q7i n v=some v:=by
 intro d
 induction d with
 | zero=>intro n v h;exact h.elim
 | succ d ih=>
  intro n v h hn
  obtain ⟨n,rfl⟩:∃ k,n=k+1:=⟨n-1,by omega⟩
  obtain ⟨h1,h2⟩:=h
  have hr:Ret (Q7i (n+1) v) (fun r=>r=v):=by
   unfold Q7i
   refine Ret.ctl (Z3 v.kids (fun k s=>s=v.kids.take k) (fun _=>False) (fun s=>s=v.kids) (by simp) (fun k q s hq hI=>?_) (fun s hI=>?_)) (fun r hr=>hr.elim) (fun s hs=>.some (Q4.ext' rfl rfl hs))
   ·rw [ih n q (h2 q (U1 hq)) (by omega)]
    simp only [U0]
    rw [X2 (by simp only [Q6,U3,U4];rw [hI,U6];omega)]
    exact .some (by rw [hI,List.take_add_one,hq];rfl)
   ·rw [hI,List.take_length]
  obtain ⟨r,e,rfl⟩:=hr
  exact e
theorem X8s {w:List Q3}(hw:WW w):∀ (d n:Nat) (t:Q2) (v:Q4),t∈tys w→d+1≤n→d≤100→Q63 n w t v (d:Int)=some (Q3j w d t v):=by
 intro d
 induction d with
 | zero=>
  intro n t v ht hn hd
  obtain ⟨m,rfl⟩:∃ m,n=m+1:=⟨n-1,by omega⟩
  unfold Q63
  rw [if_pos (by rw [Z9];omega)]
  rfl
 | succ d ih=>
  intro n t v ht hn hd
  obtain ⟨m,rfl⟩:∃ m,n=m+1:=⟨n-1,by omega⟩
  have hT:=hw.ty t ht
  suffices hs:Ret (Q63 (m+1) w t v ((d+1:Nat):Int)) (fun r=>r=Q3j w (d+1) t v) by
   obtain ⟨a,e,rfl⟩:=hs
   exact e
  unfold Q63
  rw [if_neg (by rw [Z9];omega)]
  have hws:wsub .i64 ((d+1:Nat):Int) 1=(d:Int):=by rw [Q2m]<;>omega
  rw [hws]
  refine Ret.ite (fun hi=>?_) (fun hi=>?_)
  ·rw [X5] at hi
   have hg:Q3j w (d+1) t v=(decide (v.ctor = -1)&&(decide (0≤v.n)&&(decide (v.n≤9)&&decide (v.kids.length=0)))):=by rw [Q3j,if_pos hi]
   rw [hg]
   refine Ret.ite (fun h1=>?_) (fun h1=>.some ?_)
   ·rw [X5] at h1
    refine Ret.ite (fun h2=>?_) (fun h2=>.some ?_)
    ·rw [Q0l] at h2
     refine Ret.ite (fun h3=>.some ?_) (fun h3=>.some ?_)
     ·rw [Q0l] at h3
      simp only [h1,h2,h3,decide_true,Bool.true_and]
      exact len0 _
     ·rw [Q30] at h3
      simp [show ¬v.n≤9 by omega]
    ·rw [Q30] at h2
     simp [show ¬0≤v.n by omega]
   ·rw [X3] at h1
    simp [h1]
  ·rw [X3] at hi
   have hg:Q3j w (d+1) t v=(decide (v.n=0)&&(decide (v.ctor∈X1 w t)&&(decide (v.kids.length=(X4 w t v.ctor).length)&&((X4 w t v.ctor).zip v.kids).all fun x=>Q3j w d x.1 x.2))):=by rw [Q3j,if_neg hi]
   rw [hg]
   refine Ret.ite (fun h1=>.some ?_) (fun h1=>?_)
   ·rw [Bool.not_eq_true',X3] at h1
    simp [h1]
   rw [Bool.not_eq_false',X5] at h1
   rw [hT.c1]
   simp only [U0]
   rw [W8b]
   simp only [U0]
   refine Ret.ite (fun h2=>.some ?_) (fun h2=>?_)
   ·rw [Bool.not_eq_true',decide_eq_false_iff_not] at h2
    simp [h2]
   rw [Bool.not_eq_false',decide_eq_true_eq] at h2
   rw [hT.a1 _ h2]
   simp only [U0]
   refine Ret.ite (fun hl=>.some ?_) (fun hl=>?_)
   ·rw [Bool.not_eq_true',X3] at hl
    simp only [lenZ] at hl
    have:¬v.kids.length=(X4 w t v.ctor).length:=by omega
    simp [this]
   rw [Bool.not_eq_false',X5] at hl
   simp only [lenZ] at hl
   have hl2:v.kids.length=(X4 w t v.ctor).length:=by omega
   simp only [h1,h2,hl2,decide_true,Bool.true_and]
   refine Ret.ctl (Z3 (X4 w t v.ctor) (fun k _=>∀ (j:Nat) (a:Q2) (x:Q4),j<k→(X4 w t v.ctor)[j]?=some a→v.kids[j]?=some x→Q3j w d a x=true) (fun b=>b=false∧(((X4 w t v.ctor).zip v.kids).all fun x=>Q3j w d x.1 x.2)=false) (fun _=>(((X4 w t v.ctor).zip v.kids).all fun x=>Q3j w d x.1 x.2)=true) (fun j a x hj=>by omega) (fun k a s ha hI=>?_) (fun s hI=>?_)) (fun r hr=>.some (by rw [hr.1,hr.2])) (fun s hs=>.some hs.symm)
   ·have hlt:k<v.kids.length:=by have:=(List.getElem?_eq_some_iff.1 ha).1;omega
    have hq:v.kids[k]?=some v.kids[k]:=by simp [hlt]
    rw [Q1b hq]
    simp only [U0]
    rw [ih m a v.kids[k] (hT.at_ _ h2 a (U1 ha)) (by omega) (by omega)]
    simp only [U0]
    cases hgk:Q3j w d a v.kids[k] with
    | false=>
     refine .some ⟨rfl,?_⟩
     rw [List.all_eq_false]
     exact ⟨(a,v.kids[k]),U1 (Q8y ha hq),by simp [hgk]⟩
    | true=>
     refine .some (fun j a' q' hj ha' hq'=>?_)
     by_cases hjk:j=k
     ·subst hjk
      rw [ha] at ha'
      rw [hq] at hq'
      cases ha'
      cases hq'
      exact hgk
     ·exact hI j a' q' (by omega) ha' hq'
   ·rw [List.all_eq_true]
    intro x hx
    obtain ⟨j,hj⟩:=List.mem_iff_getElem?.1 hx
    obtain ⟨h3,h4⟩:=List.getElem?_zip_eq_some.1 hj
    exact hI j x.1 x.2 ((List.getElem?_eq_some_iff.1 h3).1) h3 h4
theorem X5r {w:List Q3}(hw:WW w){t:Q2}(ht:t∈tys w)(v:Q4):Z4d NN w t v=some (Z3n w t v):=by
 unfold Z4d Z3n
 rw [show (10:Int)=((10:Nat):Int) from rfl,X8s hw 10 NN t v ht (by decide) (by omega)]
 simp only [U0]
 cases Q3j w 10 t v with
 | false=>rfl
 | true=>
  simp only [if_true,Bool.true_and]
  rw [show (60:Int)=((60:Nat):Int) from rfl,X8u NN v 60 (by decide) (by omega)]
  simp only [U0]
  congr 1
  by_cases h:cntV v≤60
  ·rw [decide_eq_true h,Q0l];omega
  ·rw [decide_eq_false h,Q30];omega
theorem Z7f (g:Q4g)(l:List Y3):Q65 g l=some (Q38 g l):=by
 suffices hs:Ret (Q65 g l) (fun r=>r=Q38 g l) by
  obtain ⟨a,e,rfl⟩:=hs
  exact e
 unfold Q65
 refine Ret.ite (fun h0=>.some ?_) (fun h0=>?_)
 ·rw [X5] at h0
  simp [Q38,h0]
 rw [X3] at h0
 have hG:Q38 g l=match l.find? fun b=>decide (b.var=g.var) with
   | none=>false
   | some b=>ieq b.value.ctor (-1)&&((ieq g.op 1&&ilt b.value.n g.n)||(ieq g.op 2&&ieq b.value.n g.n)):=by
  unfold Q38
  rw [decide_eq_false h0,Bool.false_or]
  rfl
 refine Ret.ctl (Z3 l (fun k _=>l.find? (fun b=>decide (b.var=g.var))=(l.drop k).find? (fun b=>decide (b.var=g.var))) (fun r=>r=Q38 g l) (fun _=>Q38 g l=false) rfl (fun k x s hx hI=>?_) (fun s hI=>?_)) (fun r hr=>.some hr) (fun s hs=>.some hs.symm)
 ·rw [Q9k hx,List.find?_cons] at hI
  by_cases hv:x.var=g.var
  ·have e:(!ieq x.var g.var)=false:=by simp [ieq,hv]
   simp only [e,U2,if_false]
   rw [decide_eq_true hv] at hI
   simp only at hI
   rw [hI] at hG
   simp only at hG
   rw [hG]
   generalize ieq x.value.ctor (-1)=b1
   generalize ieq g.op 1=b2
   generalize ilt x.value.n g.n=b3
   generalize ieq g.op 2=b4
   generalize ieq x.value.n g.n=b5
   cases b1<;>cases b2<;>cases b3<;>cases b4<;>cases b5<;>exact .some rfl
  ·have e:(!ieq x.var g.var)=true:=by simp [ieq,hv]
   simp only [e,if_true,U0]
   rw [decide_eq_false hv] at hI
   exact .some hI
 ·rw [List.drop_length] at hI
  rw [hG,hI]
  rfl
theorem Z4f {v u:Q4}{path:List Int}(h:Q7v v path=some u):Q6x v path=some u:=by
 suffices hs:Ret (Q6x v path) (fun r=>r=u) by
  obtain ⟨a,e,rfl⟩:=hs
  exact e
 unfold Q6x
 refine Ret.ctl (Z3 path (fun k s=>Q7v s (path.drop k)=some u) (fun _=>False) (fun s=>s=u) (by simpa using h) (fun k x s hx hI=>?_) (fun s hI=>by rw [List.drop_length,Q7v] at hI;exact Option.some.inj hI)) (fun r hr=>hr.elim) (fun s hs=>.some hs)
 rw [Q9k hx,Q7v] at hI
 cases hi:idx s.kids x with
 | none=>rw [hi] at hI;cases hI
 | some y=>
  rw [hi] at hI
  exact .some hI
theorem Z43 {v u:Q4}{path:List Int}(h:Q7v v path=some u):Q98 v path=some u:=by
 suffices hs:Ret (Q98 v path) (fun r=>r=u) by
  obtain ⟨a,e,rfl⟩:=hs
  exact e
 unfold Q98
 refine Ret.ctl (Z3 path (fun k s=>Q7v s (path.drop k)=some u) (fun _=>False) (fun s=>s=u) (by simpa using h) (fun k x s hx hI=>?_) (fun s hI=>by rw [List.drop_length,Q7v] at hI;exact Option.some.inj hI)) (fun r hr=>hr.elim) (fun s hs=>.some hs)
 rw [Q9k hx,Q7v] at hI
 cases hi:idx s.kids x with
 | none=>rw [hi] at hI;cases hI
 | some y=>
  rw [hi] at hI
  exact .some hI
theorem V6k {α:Type}{xs:List α}{i:Int}{x:α}(h:idx xs i=some x):x∈xs:=by
 unfold idx at h
 split at h
 ·exact U1 h
 ·cases h
theorem Z9k:∀ {path:List Int} {v u:Q4} {d:Nat},Z20 d v→d≤10→Q7v v path=some u→Z20 10 u
 | [],v,u,d,hv,hd,h=>by
  rw [Q7v,Option.some.injEq] at h
  subst h
  exact W2e _ _ _ hd hv
 | i::path,v,u,d,hv,hd,h=>by
  rw [Q7v,U13] at h
  obtain ⟨x,hx,h⟩:=h
  cases d with
  | zero=>exact hv.elim
  | succ d=>exact Z9k (hv.2 x (V6k hx)) (by omega) h
theorem Z7t {v:Q4}(hv:Z20 10 v){l:List Q7}{r:List Y3}(hl:l.length≤1000)(h:Q2g l v=some r):Q75 NN l v=some r:=by
 suffices hs:Ret (Q75 NN l v) (fun a=>a=r) by
  obtain ⟨a,e,rfl⟩:=hs
  exact e
 unfold Q75
 refine Ret.ctl (Z3 l (fun k s=>s.length=k∧∃ s',Q2g (l.drop k) v=some s'∧s++s'=r) (fun _=>False) (fun s=>s=r) ⟨rfl,r,by simpa using h,rfl⟩ (fun k x s hx hI=>?_) (fun s hI=>?_)) (fun r hr=>hr.elim) (fun s hs=>.some hs)
 ·obtain ⟨i1,s',i2,i3⟩:=hI
  have hk:=(List.getElem?_eq_some_iff.1 hx).1
  rw [Q9k hx,Q2g,U13] at i2
  obtain ⟨u,hu,i2⟩:=i2
  rw [U12] at i2
  obtain ⟨m,hm,rfl⟩:=i2
  rw [Z4f hu]
  simp only [U0]
  rw [X93 10 NN u (Z9k hv (Nat.le_refl _) hu) (by decide)]
  simp only [U0]
  rw [X2 (by simp only [U3,U4,Q6];omega)]
  exact .some ⟨by simp [i1],m,hm,by rw [←i3];simp⟩
 ·obtain ⟨_,s',i2,i3⟩:=hI
  rw [List.drop_length,Q2g,Option.some.injEq] at i2
  rw [←i3,←i2]
  simp
theorem Z7h {v:Q4}(hv:Z20 10 v){l:List Q7}{r:List Y3}(hl:l.length≤1000)(h:Q2g l v=some r):Q7f NN l v=some r:=by
 suffices hs:Ret (Q7f NN l v) (fun a=>a=r) by
  obtain ⟨a,e,rfl⟩:=hs
  exact e
 unfold Q7f
 refine Ret.ctl (Z3 l (fun k s=>s.length=k∧∃ s',Q2g (l.drop k) v=some s'∧s++s'=r) (fun _=>False) (fun s=>s=r) ⟨rfl,r,by simpa using h,rfl⟩ (fun k x s hx hI=>?_) (fun s hI=>?_)) (fun r hr=>hr.elim) (fun s hs=>.some hs)
 ·obtain ⟨i1,s',i2,i3⟩:=hI
  have hk:=(List.getElem?_eq_some_iff.1 hx).1
  rw [Q9k hx,Q2g,U13] at i2
  obtain ⟨u,hu,i2⟩:=i2
  rw [U12] at i2
  obtain ⟨m,hm,rfl⟩:=i2
  rw [Z43 hu]
  simp only [U0]
  rw [X7t 10 NN u (Z9k hv (Nat.le_refl _) hu) (by decide)]
  simp only [U0]
  rw [X2 (by simp only [U3,U4,Q6];omega)]
  exact .some ⟨by simp [i1],m,hm,by rw [←i3];simp⟩
 ·obtain ⟨_,s',i2,i3⟩:=hI
  rw [List.drop_length,Q2g,Option.some.injEq] at i2
  rw [←i3,←i2]
  simp
theorem X0g {α:Type}{l:List α}{k:Nat}{x:α}{p:α→Bool}(h:l[k]?=some x):(l.drop k).find? p=if p x=true then some x else (l.drop (k+1)).find? p:=by
 rw [Q9k h,List.find?_cons]
 cases p x<;>rfl
theorem Z5w (g:Q4g)(l:List Y3):Q3b g l=some (Q38 g l):=by
 suffices hs:Ret (Q3b g l) (fun r=>r=Q38 g l) by
  obtain ⟨a,e,rfl⟩:=hs
  exact e
 unfold Q3b
 by_cases h0:g.op=0
 ·rw [if_pos (by rw [X5];exact h0)]
  exact .some (by simp [Q38,h0])
 rw [if_neg (by rw [X5];exact h0)]
 have hfind:Ret (Q20 l (fun a0=>Q3i a0 g)) (fun k=>match l.find? (fun b=>decide (b.var=g.var)) with
   | none=>k = -1
   | some b=>∃ i:Nat,k=(i:Int)∧l[i]?=some b):=by
  unfold Q20
  refine Ret.ctl (Z3 l (fun k _=>l.find? (fun b=>decide (b.var=g.var))=(l.drop k).find? (fun b=>decide (b.var=g.var))) (fun r=>∃ (i:Nat) (b:Y3),r=(i:Int)∧l[i]?=some b∧l.find? (fun b=>decide (b.var=g.var))=some b) (fun _=>l.find? (fun b=>decide (b.var=g.var))=none) (by simp) (fun k x s hx hI=>?_) (fun s hI=>by rw [hI,List.drop_length];rfl)) (fun r hr=>.some ?_) (fun s hs=>.some (by rw [hs]))
  ·have e1:Q3i x g=some (ieq x.var g.var):=rfl
   simp only []
   rw [e1]
   simp only [U0]
   rw [X0g hx] at hI
   refine Ret.ite (fun hc=>.some ?_) (fun hc=>.some ?_)
   ·rw [X5] at hc
    rw [if_pos (by simpa using hc)] at hI
    exact ⟨k,x,rfl,hx,hI⟩
   ·rw [X3] at hc
    rw [if_neg (by simpa using hc)] at hI
    exact hI
  ·obtain ⟨i,b,rfl,h1,h2⟩:=hr
   rw [h2]
   exact ⟨i,rfl,h1⟩
 refine Ret.bind hfind (fun k hk=>?_)
 unfold Q38
 cases hf:l.find? (fun b=>decide (b.var=g.var)) with
 | none=>
  rw [hf] at hk
  simp only at hk
  subst hk
  exact .some (by simp [h0])
 | some b=>
  rw [hf] at hk
  obtain ⟨i,rfl,hi⟩:=hk
  rw [if_neg (by rw [Z9];omega),Q1b hi]
  simp only [U0,h0,decide_false,Bool.false_or]
  by_cases c1:b.value.ctor = -1
  ·have e1:ieq b.value.ctor (-1)=true:=by rw [X5];exact c1
   simp only [e1,Bool.not_true,U2,if_false]
   by_cases c2:g.op=1
   ·have e2:ieq g.op 1=true:=by rw [X5];exact c2
    have e3:ieq g.op 2=false:=by rw [X3];omega
    simp only [e2,e3,if_true,U2,if_false]
    by_cases c3:b.value.n<g.n
    ·have e4:ilt b.value.n g.n=true:=by rw [Z9];exact c3
     simp only [e4,if_true]
     exact .some (by simp [c1,c2,c3])
    ·have e4:ilt b.value.n g.n=false:=by rw [X7];omega
     simp only [e4,U2,if_false]
     exact .some (by simp [c1,c2,c3])
   ·have e2:ieq g.op 1=false:=by rw [X3];exact c2
    simp only [e2,U2,if_false]
    by_cases c3:g.op=2
    ·have e3:ieq g.op 2=true:=by rw [X5];exact c3
     simp only [e3,if_true]
     exact .some (by simp [c1,c3,ieq])
    ·have e3:ieq g.op 2=false:=by rw [X3];exact c3
     simp only [e3,U2,if_false]
     exact .some (by simp [c1,c2,c3])
  ·have e1:ieq b.value.ctor (-1)=false:=by rw [X3];exact c1
   simp only [e1,Bool.not_false,if_true]
   exact .some (by simp [c1])
theorem X1k (b:Z2)(u:Q4):Q3s b u=some (Y1 b u):=by
 unfold Q3s Q83
 by_cases h1:b.ctor=u.ctor
 ·rw [if_pos (by rw [X5];exact h1)]
  by_cases h2:b.ctor = -1
  ·rw [if_neg (by rw [Bool.not_eq_true,Bool.not_eq_false',X5];exact h2),Z09]
   simp [Y1,←h1,h2]
  ·rw [if_pos (by rw [Bool.not_eq_true',X3];exact h2)]
   simp [Y1,h1,h1▸h2]
 ·rw [if_neg (by rw [X5];exact h1)]
  simp [Y1,h1]
theorem X3w (bs:List Z2)(u:Q4):Ret (Q1j bs (fun a0=>Q3s a0 u)) (fun k=>match bs.find? (fun b=>Y1 b u) with
  | none=>k = -1
  | some b=>∃ i:Nat,k=(i:Int)∧bs[i]?=some b):=by
 unfold Q1j
 refine Ret.ctl (Z3 bs (fun k _=>bs.find? (fun b=>Y1 b u)=(bs.drop k).find? (fun b=>Y1 b u)) (fun r=>∃ (i:Nat) (b:Z2),r=(i:Int)∧bs[i]?=some b∧bs.find? (fun b=>Y1 b u)=some b) (fun _=>bs.find? (fun b=>Y1 b u)=none) (by simp) (fun k x s hx hI=>?_) (fun s hI=>by rw [hI,List.drop_length];rfl)) (fun r hr=>.some ?_) (fun s hs=>.some (by rw [hs]))
 ·simp only []
  rw [X1k]
  simp only [U0]
  rw [X0g hx] at hI
  refine Ret.ite (fun hc=>.some ?_) (fun hc=>.some ?_)
  ·rw [if_pos hc] at hI
   exact ⟨k,x,rfl,hx,hI⟩
  ·rw [if_neg (by simp [hc])] at hI
   exact hI
 ·obtain ⟨i,b,rfl,h1,h2⟩:=hr
  rw [h2]
  exact ⟨i,rfl,h1⟩
theorem X39 (bs:List Z2)(u:Q4):Ret (Q97 bs u) (fun r=>match bs.find? (fun b=>Y1 b u) with
  | none=>r.2=false
  | some b=>r=(b.tree,true)):=by
 unfold Q97
 refine Ret.ctl (Z3 bs (fun k _=>bs.find? (fun b=>Y1 b u)=(bs.drop k).find? (fun b=>Y1 b u)) (fun r=>∃ b:Z2,r=(b.tree,true)∧bs.find? (fun b=>Y1 b u)=some b) (fun _=>bs.find? (fun b=>Y1 b u)=none) (by simp) (fun k x s hx hI=>?_) (fun s hI=>by rw [hI,List.drop_length];rfl)) (fun r hr=>.some ?_) (fun s hs=>.some (by rw [hs]))
 ·rw [X0g hx] at hI
  by_cases h1:x.ctor=u.ctor
  ·rw [if_pos (by rw [X5];exact h1)]
   by_cases h2:u.ctor = -1
   ·rw [if_neg (by rw [Bool.not_eq_true,Bool.not_eq_false',X5];exact h2)]
    by_cases h3:x.n≤u.n
    ·rw [if_pos (by rw [Q0l];exact h3)]
     by_cases h4:u.n≤x.m
     ·rw [if_pos (by rw [Q0l];exact h4)]
      rw [if_pos (by simp [Y1,h1,h3,h4])] at hI
      exact .some ⟨x,rfl,hI⟩
     ·rw [if_neg (by rw [Q0l];exact h4)]
      rw [if_neg (by simp [Y1,h1,h2,h4])] at hI
      exact .some hI
    ·rw [if_neg (by rw [Q0l];exact h3)]
     rw [if_neg (by simp [Y1,h1,h2,h3])] at hI
     exact .some hI
   ·rw [if_pos (by rw [Bool.not_eq_true',X3];exact h2)]
    rw [if_pos (by simp [Y1,h1,h2])] at hI
    exact .some ⟨x,rfl,hI⟩
  ·rw [if_neg (by rw [X5];exact h1)]
   rw [if_neg (by simp [Y1,h1])] at hI
   exact .some hI
 ·obtain ⟨b,rfl,h2⟩:=hr
  rw [h2]
theorem Z4s {σ ρ:Type}{f:σ→Option (Ctl ρ σ)}{s s':σ}{n:Nat}(h:f s=some (.go s')):whileL f (n+1) s=whileL f n s':=by
 rw [whileL,h]
theorem Z0a {σ ρ:Type}{f:σ→Option (Ctl ρ σ)}{s:σ}{r:ρ}{n:Nat}(h:f s=some (.ret r)):whileL f (n+1) s=some (.ret r):=by
 rw [whileL,h]
theorem W2t {σ ρ:Type}{f:σ→Option (Ctl ρ σ)}{s s':σ}{n:Nat}(h:f s=some (.brk s')):whileL f (n+1) s=some (.brk s'):=by
 rw [whileL,h]
theorem V21 {lst:List Q5}{v:Q4}(hv:Z20 10 v){t:V4}{a:Int}{bs:List Y3}{k:Nat}(hd:Z68 300 t)(h:runT 300 t lst v=some (a,bs,k)):Q6r NN t lst v=some (a,bs,(k:Int)):=by
 unfold Q6r
 generalize hf:(fun (s:V4×Int)=>_:V4×Int→Option (Ctl (Int×List Y3×Int) (V4×Int)))=f
 have key:∀ (d n:Nat) (t:V4) (c k:Nat),Z68 d t→runT d t lst v=some (a,bs,k)→d≤n→c+d≤300→whileL f n (t,(c:Int))=some (.ret (a,bs,((c+k:Nat):Int))):=by
  intro d
  induction d with
  | zero=>intro n t c k h;exact h.elim
  | succ d ih=>
   intro n t c k hd h hn hc
   obtain ⟨n,rfl⟩:∃ j,n=j+1:=⟨n-1,by omega⟩
   obtain ⟨⟨hd1,hd2,hd3,hd4,hd5⟩,hd6⟩:=hd
   have e1:wadd .i64 (c:Int) 1=((c+1:Nat):Int):=by rw [V7 (by omega) (by omega)];omega
   rw [runT] at h
   split at h
   ·rename_i h2
    rw [U13] at h
    obtain ⟨u,hu,h⟩:=h
    obtain ⟨q,hq,hqq⟩:=X3w t.branches u
    split at h
    ·rename_i hnone
     rw [hnone] at hqq
     simp only [Option.some.injEq,Prod.mk.injEq] at h hqq
     obtain ⟨rfl,rfl,rfl⟩:=h
     subst hqq
     refine Z0a ?_
     subst hf
     simp only
     rw [if_pos (by rw [X5];exact h2),Z4f hu]
     simp only [U0]
     rw [hq]
     simp only [U0]
     rw [if_pos (by rw [Z9];omega),e1]
    ·rename_i b hsome
     rw [hsome] at hqq
     obtain ⟨i,rfl,hi⟩:=hqq
     rw [U12] at h
     obtain ⟨r,hr,h⟩:=h
     simp only [Prod.mk.injEq] at h
     obtain ⟨rfl,rfl,rfl⟩:=h
     have hgo:f (t,(c:Int))=some (.go (b.tree,((c+1:Nat):Int))):=by
      subst hf
      simp only
      rw [if_pos (by rw [X5];exact h2),Z4f hu]
      simp only [U0]
      rw [hq]
      simp only [U0]
      rw [if_neg (by rw [Z9];omega),Q1b hi,e1]
      rfl
     rw [Z4s hgo,ih n b.tree (c+1) r.2.2 (hd6 _ (List.mem_append_left _ (List.mem_map_of_mem (U1 hi)))) hr (by omega) (by omega)]
     congr 4
     omega
   ·rename_i h2
    split at h
    ·rename_i h1
     rw [U13] at h
     obtain ⟨cl,hcl,h⟩:=h
     rw [U13] at h
     obtain ⟨l,hl,h⟩:=h
     split at h
     ·rename_i hg
      simp only [Option.some.injEq,Prod.mk.injEq] at h
      obtain ⟨rfl,rfl,rfl⟩:=h
      refine Z0a ?_
      subst hf
      simp only
      rw [if_neg (by rw [X5];exact h2),if_pos (by rw [X5];exact h1),Z7t hv hd1 hl]
      simp only [U0]
      rw [hcl]
      simp only [U0]
      rw [Z5w]
      simp only [U0]
      rw [if_pos hg]
      rfl
     ·rename_i hg
      split at h
      ·rename_i el rest hel
       have hgo:f (t,(c:Int))=some (.go (el,(c:Int))):=by
        subst hf
        simp only
        rw [if_neg (by rw [X5];exact h2),if_pos (by rw [X5];exact h1),Z7t hv hd1 hl]
        simp only [U0]
        rw [hcl]
        simp only [U0]
        rw [Z5w]
        simp only [U0]
        rw [if_neg hg,hel]
        rfl
       rw [Z4s hgo]
       exact ih n el c k (hd6 _ (List.mem_append_right _ (by rw [hel];simp))) h (by omega) (by omega)
      ·cases h
    ·rename_i h1
     simp only [Option.some.injEq,Prod.mk.injEq] at h
     obtain ⟨rfl,rfl,rfl⟩:=h
     refine Z0a ?_
     subst hf
     simp only
     rw [if_neg (by rw [X5];exact h2),if_neg (by rw [X5];exact h1)]
     rfl
 rw [show (0:Int)=((0:Nat):Int) from rfl,key 300 NN t 0 k hd h (by decide) (by omega)]
 simp
def opT:Nat→V4→Prop
 | 0,_=>False
 | d+1,t=>(t.op=0∨t.op=1∨t.op=2)∧∀ x∈Z0u t,opT d x
theorem W2h {P:Z2→V4→Prop} : ∀ {bs xs:List Z2},brsR P bs xs→∀ x∈xs,∃ b∈bs,P b x.tree
 | [],[],_,x,hx=>by cases hx
 | [],_::_,e,_,_=>e.elim
 | _::_,[],e,_,_=>e.elim
 | b::bs,y::ys,⟨⟨_,_,_,e4⟩,e5⟩,x,hx=>by
  rcases U8.1 hx with rfl | hx
  ·exact ⟨b,by simp,e4⟩
  ·obtain ⟨b',h1,h2⟩:=W2h e5 x hx
   exact ⟨b',by simp [h1],h2⟩
theorem V0z {w:List Q3}{lst:List Q5}{pick:Int} : ∀ (d:Nat) (t:V4) (rows:List Grow) (cols:List Z5),Z1t w lst pick d t rows cols→opT d t:=by
 intro d
 induction d with
 | zero=>intro t rows cols h;exact h.elim
 | succ d ih=>
  intro t rows cols h
  cases rows with
  | nil=>
   simp only [Z1t] at h
   subst h
   exact ⟨.inl rfl,fun x hx=>by simp [Z0u,zT] at hx⟩
  | cons r0 rest=>
   simp only [Z1t] at h
   cases hp:Z1y w (r0::rest) cols pick with
   | none=>
    rw [hp] at h
    simp only at h
    obtain ⟨h1,h2,h3,h4,h5,cl,h6,h7⟩:=h
    refine ⟨.inr (.inl h1),fun x hx=>?_⟩
    unfold Z0u at hx
    rw [h5] at hx
    rcases h7 with ⟨_,h7⟩ | ⟨_,el,h8,h9⟩
    ·simp [h7] at hx
    ·simp only [h8,List.map_nil,List.nil_append,List.mem_singleton] at hx
     subst hx
     exact ih _ _ _ h9
   | some k=>
    rw [hp] at h
    simp only at h
    obtain ⟨col,h1,h2,h3,h4,h5,h6,h7⟩:=h
    refine ⟨.inr (.inr h2),fun x hx=>?_⟩
    unfold Z0u at hx
    rw [h6,List.append_nil,U11] at hx
    obtain ⟨b,hb,rfl⟩:=hx
    obtain ⟨b',_,hb'⟩:=W2h h7 b hb
    exact ih _ _ _ hb'
theorem V18 {lst:List Q5}{v:Q4}(hv:Z20 10 v){t:V4}{a:Int}{bs:List Y3}{k:Nat}(hd:Z68 300 t)(ho:opT 300 t)(h:runT 300 t lst v=some (a,bs,k)):Z2m NN lst t v=some (a,bs,(k:Int)):=by
 unfold Z2m
 generalize hf:(fun (s:V4×Int)=>_:V4×Int→Option (Ctl (Int×List Y3×Int) (V4×Int)))=f
 have key:∀ (d n:Nat) (t:V4) (c k:Nat),Z68 d t→opT d t→runT d t lst v=some (a,bs,k)→d≤n→c+d≤300→(whileL f n (t,(c:Int))=some (.ret (a,bs,((c+k:Nat):Int))))∨(a = -1∧bs=[]∧∃ t',whileL f n (t,(c:Int))=some (.brk (t',((c+k:Nat):Int)))):=by
  intro d
  induction d with
  | zero=>intro n t c k h;exact h.elim
  | succ d ih=>
   intro n t c k hd ho h hn hc
   obtain ⟨n,rfl⟩:∃ j,n=j+1:=⟨n-1,by omega⟩
   obtain ⟨⟨hd1,hd2,hd3,hd4,hd5⟩,hd6⟩:=hd
   obtain ⟨ho1,ho2⟩:=ho
   have e1:wadd .i64 (c:Int) 1=((c+1:Nat):Int):=by rw [V7 (by omega) (by omega)];omega
   rw [runT] at h
   split at h
   ·rename_i h2
    rw [U13] at h
    obtain ⟨u,hu,h⟩:=h
    obtain ⟨q,hq,hqq⟩:=X39 t.branches u
    split at h
    ·rename_i hnone
     rw [hnone] at hqq
     simp only [Option.some.injEq,Prod.mk.injEq] at h hqq
     obtain ⟨rfl,rfl,rfl⟩:=h
     refine .inl (Z0a ?_)
     subst hf
     simp only
     rw [if_pos (by rw [Bool.not_eq_true',X3];omega),if_neg (by rw [X5];omega),Z43 hu]
     simp only [U0]
     rw [hq]
     simp only [U0]
     rw [if_pos (by rw [hqq];rfl),e1]
    ·rename_i b hsome
     rw [hsome] at hqq
     simp only at hqq
     rw [U12] at h
     obtain ⟨r,hr,h⟩:=h
     simp only [Prod.mk.injEq] at h
     obtain ⟨rfl,rfl,rfl⟩:=h
     have hgo:f (t,(c:Int))=some (.go (b.tree,((c+1:Nat):Int))):=by
      subst hf
      simp only
      rw [if_pos (by rw [Bool.not_eq_true',X3];omega),if_neg (by rw [X5];omega),Z43 hu]
      simp only [U0]
      rw [hq,hqq]
      simp only [U0]
      rw [if_neg (by simp),e1]
     have hbm:b.tree∈Z0u t:=List.mem_append_left _ (List.mem_map_of_mem (List.mem_of_find?_eq_some hsome))
     rw [Z4s hgo,show c+(r.2.2+1)=c+1+r.2.2 by omega]
     exact ih n b.tree (c+1) r.2.2 (hd6 _ hbm) (ho2 _ hbm) hr (by omega) (by omega)
   ·rename_i h2
    split at h
    ·rename_i h1
     rw [U13] at h
     obtain ⟨cl,hcl,h⟩:=h
     rw [U13] at h
     obtain ⟨l,hl,h⟩:=h
     split at h
     ·rename_i hg
      simp only [Option.some.injEq,Prod.mk.injEq] at h
      obtain ⟨rfl,rfl,rfl⟩:=h
      refine .inl (Z0a ?_)
      subst hf
      simp only
      rw [if_pos (by rw [Bool.not_eq_true',X3];omega),if_pos (by rw [X5];exact h1),Z7h hv hd1 hl]
      simp only [U0]
      rw [hcl]
      simp only [U0]
      rw [Z7f]
      simp only [U0]
      rw [if_pos hg]
      rfl
     ·rename_i hg
      split at h
      ·rename_i el rest hel
       have hgo:f (t,(c:Int))=some (.go (el,(c:Int))):=by
        subst hf
        simp only
        rw [if_pos (by rw [Bool.not_eq_true',X3];omega),if_pos (by rw [X5];exact h1),Z7h hv hd1 hl]
        simp only [U0]
        rw [hcl]
        simp only [U0]
        rw [Z7f]
        simp only [U0]
        rw [if_neg hg,hel]
        rfl
       have hem:el∈Z0u t:=List.mem_append_right _ (by rw [hel];simp)
       rw [Z4s hgo]
       exact ih n el c k (hd6 _ hem) (ho2 _ hem) h (by omega) (by omega)
      ·cases h
    ·rename_i h1
     simp only [Option.some.injEq,Prod.mk.injEq] at h
     obtain ⟨rfl,rfl,rfl⟩:=h
     refine .inr ⟨rfl,rfl,t,W2t ?_⟩
     subst hf
     simp only
     rw [if_neg (by rw [Bool.not_eq_true',X3];omega)]
     rfl
 rcases key 300 NN t 0 k hd ho h (by decide) (by omega) with h | ⟨rfl,rfl,t',h⟩
 ·rw [show (0:Int)=((0:Nat):Int) from rfl,h]
  simp
 ·rw [show (0:Int)=((0:Nat):Int) from rfl,h]
  simp
def Z8y (w:List Q3)(t:Q2)(l:List Q5)(v:Q4)(r:Int×List Y3×Int):Prop:=
 r=(-1,[],-1)∨∃ k:Nat,Q23 w t l=true∧Z3n w t v=true∧r=((runR (runD v 0 l)).1,(runR (runD v 0 l)).2,(k:Int))
theorem W2i {w:List Q3}(hww:w∈Q0r){t:Q2}(ht:t∈tys w)(l:List Q5)(pick:Int)(v:Q4) :
  ∃ r,Q5h NN w t l pick v=some r∧Z3v NN w t l pick v=some r∧Z8y w t l v r:=by
 have hw:=ww hww
 obtain ⟨tr,ok,e1,e2,h1,h2,h3⟩:=(Z74 hww ht l pick).eq
 unfold Q5h Z3v
 rw [e1,e2]
 simp only [U0]
 cases ok with
 | false=>exact ⟨_,rfl,rfl,.inl rfl⟩
 | true=>
  simp only [Bool.not_true,U2,if_false]
  rw [X6t hw ht v,X5r hw ht v]
  simp only [U0]
  cases hv:Z3n w t v with
  | false=>exact ⟨_,rfl,rfl,.inl rfl⟩
  | true=>
   simp only [Bool.not_true,U2,if_false]
   have hg:=Z40 hv
   have hdv:=X2r hw 10 t v ht hg
   obtain ⟨k,hk⟩:=X5k hww ht e1 hg
   have hop:=V0z _ _ _ _ ((Z74 hww ht l pick).tr tr e1)
   rw [V21 hdv h2 hk,V18 hdv h2 hop hk]
   have hc:=Z82 hww ht e1
   simp only [canC,Bool.and_eq_true] at hc
   exact ⟨_,rfl,rfl,.inr ⟨k,hc.1.1,hv,rfl⟩⟩
theorem W2z {w:List Q3}(hww:w∈Q0r){t:Q2}(ht:t∈tys w){l:List Q5}{v:Q4}{r:Int×List Y3×Int}(h:Z8y w t l v r):DB r.2.1:=by
 rcases h with rfl | ⟨k,hc,hv,rfl⟩
 ·intro b hb;cases hb
 ·exact Y0y (ww hww) ht (Z30 hc).2 (Z40 hv)
theorem Z8x {w:List Q3}{t:Q2}{l:List Q5}{v:Q4}{r:Int×List Y3×Int}(h:Z8y w t l v r)(hn:¬r.2.2<0):Q23 w t l=true∧Z3n w t v=true∧r.1=(runR (runD v 0 l)).1∧r.2.1=(runR (runD v 0 l)).2:=by
 rcases h with rfl | ⟨k,hc,hv,rfl⟩
 ·exact absurd (by simp) hn
 ·exact ⟨hc,hv,rfl,rfl⟩
def byt (r:Z4)(i:Nat):Nat:=(r.b.getD i 0).toNat
def pk24 (r:Z4)(p:Nat):Nat:=if r.b.length=0 then 0 else Zed.pkv (byt r) r.b.length p
theorem V5d {a:Nat}(h:a<1099511627776):wxor .i64 (a:Int) ((a / 64:Nat):Int)=((a ^^^ (a / 64):Nat):Int):=by
 have e:(BitVec.ofInt IntKind.i64.bits (a:Int) ^^^ BitVec.ofInt IntKind.i64.bits ((a / 64:Nat):Int)).toNat=a ^^^ (a / 64):=by
  have ha:(BitVec.ofInt IntKind.i64.bits (a:Int)).toNat=a:=by
   rw [BitVec.toNat_ofInt]
   show (((a:Int) % ((2 ^ 64:Nat):Int))).toNat=a
   omega
  have hb:(BitVec.ofInt IntKind.i64.bits ((a / 64:Nat):Int)).toNat=a / 64:=by
   rw [BitVec.toNat_ofInt]
   show ((((a / 64:Nat):Int) % ((2 ^ 64:Nat):Int))).toNat=a / 64
   omega
  rw [BitVec.toNat_xor,ha,hb]
 have hlt:a ^^^ (a / 64)<2 ^ 40:=Nat.xor_lt_two_pow (by omega) (by omega)
 unfold wxor
 rw [e,Z4q (by omega) (by omega)]
theorem Y18 {r:Z4}(hb:∀ x∈r.b,0≤x∧x≤255)(hl:r.b.length≤2000){p:Nat}(hp:r.p=(p:Int))(hp2:p≤30000000):Z7 r 24=some (((pk24 r p:Nat):Int),⟨r.b,((p+1:Nat):Int)⟩):=by
 have ep:wadd .i64 r.p 1=((p+1:Nat):Int):=by rw [hp,V7]<;>omega
 have eq:wsub .i64 ((p+1:Nat):Int) 1=(p:Int):=by rw [Q2m]<;>omega
 unfold Z7
 rw [ep,eq,if_neg (by rw [Z9];omega)]
 unfold pk24
 by_cases h0:r.b.length=0
 ·rw [if_pos (by rw [X5];simp only [lenZ];omega),if_pos h0]
  rfl
 rw [if_neg (by rw [X5];simp only [lenZ];omega),if_neg h0]
 have hpos:0<r.b.length:=by omega
 have hk0:chk (!ieq 24 0)=some ():=rfl
 have hb0:chk (!ieq (lenZ r.b.length) 0)=some ():=X2z (by rw [Bool.not_eq_true',X3];simp only [lenZ];omega)
 have get:∀ i:Nat,i<r.b.length→idx r.b (i:Int)=some ((byt r i:Nat):Int)∧byt r i≤255:=fun i hi=>by
  have h1:r.b[i]?=some r.b[i]:=U10 hi
  obtain ⟨b1,b2⟩:=hb _ (U1 h1)
  have h2:byt r i=r.b[i].toNat:=by unfold byt;rw [List.getD_eq_getElem?_getD,h1];rfl
  rw [Q1b h1,h2]
  exact ⟨by congr 1;omega,by omega⟩
 unfold Zed.pkv
 by_cases hlt:p<r.b.length
 ·rw [if_pos (by rw [Z9];simp only [lenZ];omega),if_pos hlt]
  obtain ⟨g1,g2⟩:=get p hlt
  rw [g1,hk0]
  simp only [U0]
  rw [X22 (by omega) (by omega)]
  congr 2
 ·rw [if_neg (by rw [Z9];simp only [lenZ];omega),if_neg hlt,hb0]
  simp only [U0]
  have e7:wmul .i64 (p:Int) 7=((p * 7:Nat):Int):=by rw [Q8z]<;>omega
  have e73:wadd .i64 ((p * 7:Nat):Int) 3=((p * 7+3:Nat):Int):=by rw [V7]<;>omega
  rw [e7,e73]
  have rm:∀ a:Nat,wrem (a:Int) (lenZ r.b.length)=((a % r.b.length:Nat):Int):=fun a=>by
   unfold wrem lenZ
   rw [Int.tmod_eq_emod_of_nonneg (by omega)]
   rfl
  rw [rm,rm]
  obtain ⟨g1,g2⟩:=get (p % r.b.length) (Nat.mod_lt _ hpos)
  obtain ⟨g3,g4⟩:=get ((p * 7+3) % r.b.length) (Nat.mod_lt _ hpos)
  rw [g1,g3,hk0]
  simp only [U0]
  generalize byt r (p % r.b.length)=x at g2 ⊢
  generalize byt r ((p * 7+3) % r.b.length)=y at g4 ⊢
  have f1:wcv .i64 (x:Int)=(x:Int):=X22 (by omega) (by omega)
  have f2:wcv .i64 (y:Int)=(y:Int):=X22 (by omega) (by omega)
  have f3:wmul .i64 (x:Int) 131=((x * 131:Nat):Int):=by rw [Q8z]<;>omega
  have f4:wmul .i64 (y:Int) 1117=((y * 1117:Nat):Int):=by rw [Q8z]<;>omega
  have f5:wmul .i64 (p:Int) 29=((p * 29:Nat):Int):=by rw [Q8z]<;>omega
  have hq:p / r.b.length≤p:=Nat.div_le_self _ _
  have f6:wquo .i64 (p:Int) (lenZ r.b.length)=((p / r.b.length:Nat):Int):=by
   have:(p:Int).tdiv (lenZ r.b.length)=((p / r.b.length:Nat):Int):=by
    rw [Int.tdiv_eq_ediv_of_nonneg (by omega)]
    rfl
   generalize p / r.b.length=q at hq this ⊢
   rw [X34 (by rw [this];omega) (by rw [this];omega),this]
  rw [f1,f2,f3,f4,f5,f6]
  generalize p / r.b.length=q at hq ⊢
  have f7:wmul .i64 (q:Int) 53=((q * 53:Nat):Int):=by rw [Q8z]<;>omega
  have f8:wadd .i64 ((x * 131:Nat):Int) ((y * 1117:Nat):Int)=((x * 131+y * 1117:Nat):Int):=by rw [V7]<;>omega
  have f9:wadd .i64 ((x * 131+y * 1117:Nat):Int) ((p * 29:Nat):Int)=((x * 131+y * 1117+p * 29:Nat):Int):=by rw [V7]<;>omega
  have f10:wadd .i64 ((x * 131+y * 1117+p * 29:Nat):Int) ((q * 53:Nat):Int)=((x * 131+y * 1117+p * 29+q * 53:Nat):Int):=by rw [V7]<;>omega
  rw [f7,f8,f9,f10]
  have hz:x * 131+y * 1117+p * 29+q * 53<1099511627776:=by omega
  generalize x * 131+y * 1117+p * 29+q * 53=z at hz ⊢
  have f11:wquo .i64 (z:Int) 64=((z / 64:Nat):Int):=by
   have:(z:Int).tdiv 64=((z / 64:Nat):Int):=by
    rw [Int.tdiv_eq_ediv_of_nonneg (by omega)]
    rfl
   rw [X34 (by rw [this];omega) (by rw [this];omega),this]
  rw [f11]
  have f12:wxor .i64 (z:Int) ((z / 64:Nat):Int)=((z ^^^ (z / 64):Nat):Int):=V5d hz
  rw [f12]
  unfold Zed.yv
  have:wrem ((z ^^^ (z / 64):Nat):Int) 24=(((z ^^^ (z / 64)) % 24:Nat):Int):=by
   unfold wrem
   rw [Int.tmod_eq_emod_of_nonneg (by omega)]
   rfl
  rw [this]
def widV (m:Nat):Q4→Prop
 | ⟨_,_,ks⟩=>ks.length≤m∧widVs m ks
where widVs (m:Nat):List Q4→Prop
 | []=>True
 | v::l=>widV m v∧widVs m l
theorem X5f (m:Nat):∀ l:List Q4,widV.widVs m l↔∀ x∈l,widV m x
 | []=>by simp [widV.widVs]
 | v::l=>by simp only [widV.widVs,U8,forall_eq_or_imp,X5f m l]
theorem Z33 (m:Nat)(v:Q4):widV m v↔v.kids.length≤m∧∀ x∈v.kids,widV m x:=by
 cases v
 rw [widV,X5f]
theorem Z4r {m k:Nat}(h:m≤k):∀ v:Q4,widV m v→widV k v
 | ⟨a,b,ks⟩,hv=>by
  rw [Z33] at hv ⊢
  refine ⟨Nat.le_trans hv.1 h,fun x hx=>?_⟩
  have:=hv.2 x hx
  exact Z4r h x this
termination_by v=>SizeOf.sizeOf v
decreasing_by
 simp_wf
 have:=List.sizeOf_lt_of_mem hx
 simp at this
 omega
theorem W6z {r r':Z4}{k x:Int}(h:Z7 r k=some (x,r'))(hp:r.p≤40000000):r'.p=wadd .i64 r.p 1:=by
 unfold Z7 at h
 split at h
 ·cases h;rfl
 split at h
 ·cases h;rfl
 split at h
 ·simp only [U13,Option.some.injEq,Prod.mk.injEq] at h
  obtain ⟨_,_,_,_,_,rfl⟩:=h
  rfl
 ·simp only [U13,Option.some.injEq,Prod.mk.injEq] at h
  obtain ⟨_,_,_,_,_,_,_,_,_,rfl⟩:=h
  rfl
theorem W3k {b:List Int}(hb:∀ x∈b,0≤x∧x≤255)(hl:b.length≤2000){E:Nat}{V:Nat→Int}(hE:E≤20000000)(hP:Zed.Pot (pk24 ⟨b,0⟩) E V):∀ (k n:Nat) (v:Q4) (p m:Nat) (P:Int),E-p≤k→k<n→m≤100+p→widV m v→1≤P→2 * P≤V p→
  Ret (Q2o n ⟨b,(p:Int)⟩ v) (fun a=>∃ p':Nat,a.2=⟨b,(p':Int)⟩∧p<p'∧p'≤E+2∧2 * (P-1)≤V p'∧widV (m+(p'-p)) a.1):=by
 intro k
 induction k with
 | zero=>
  intro n v p m P hk hn hm hv h1 h2
  have:=hP.fin p (by omega)
  omega
 | succ k ih=>
  intro n v p m P hk hn hm hv h1 h2
  obtain ⟨n,rfl⟩:∃ j,n=j+1:=⟨n-1,by omega⟩
  have hpE:p<E:=by
   rcases Nat.lt_or_ge p E with h | h
   ·exact h
   ·have:=hP.fin p h
    omega
  have hv':=(Z33 m v).1 hv
  unfold Q2o
  rw [X2 (by simp only [U4,Q6];omega)]
  simp only [U0]
  have hpk:=Y18 (r:=⟨b,(p:Int)⟩) hb hl rfl (by omega:p≤30000000)
  have hpe:pk24 ⟨b,(p:Int)⟩ p=pk24 ⟨b,0⟩ p:=rfl
  rw [hpe] at hpk
  simp only at hpk
  have hr1:ROk ⟨b,((p+1:Nat):Int)⟩ 1:=⟨hb,hl,by simp only;omega,by simp only;omega⟩
  refine Ret.ctl (R:=fun _=>False) (B:=fun (s:Z4×Int×Int×List Q4)=>∃ p':Nat,s.1=⟨b,(p':Int)⟩∧p<p'∧p'≤E+2∧2 * (P-1)≤V p'∧s.2.2.2.length≤m+(p'-p)∧∀ x∈s.2.2.2,widV (m+(p'-p)) x) ?_ (fun r hr=>hr.elim) (fun s hs=>?_)
  ·rw [hpk]
   simp only [U0]
   have kidsOk:∀ q:Nat,v.kids.length≤m+q∧∀ x∈v.kids,widV (m+q) x:=fun q=>⟨by omega,fun x hx=>Z4r (by omega) x (hv'.2 x hx)⟩
   have skip:pk24 ⟨b,0⟩ p≤1→∀ (a:Int×Z4),Nx ⟨b,((p+1:Nat):Int)⟩ a.2 1→a.2.p=((p+2:Nat):Int)→a.2=⟨b,((p+2:Nat):Int)⟩∧2 * (P-1)≤V (p+2):=fun h a hn hp2=>by
    have:=hP.skip p hpE h
    refine ⟨?_,by omega⟩
    cases a with
    | mk x r=>
     cases r with
     | mk bb pp=>
      have e1:bb=b:=hn.b
      simp only at hp2
      rw [e1,hp2]
   have num2:∀ l:List Int,1≤l.length→l.length≤1000→Ret (X8 ⟨b,((p+1:Nat):Int)⟩ l) (fun a=>Nx ⟨b,((p+1:Nat):Int)⟩ a.2 1∧a.2.p=((p+2:Nat):Int)):=fun l hl1 hl2=>by
    obtain ⟨a,e,_,hn⟩:=Q95 hr1 l hl1 hl2
    refine ⟨a,e,hn,?_⟩
    unfold X8 at e
    cases hpick:Z7 ⟨b,((p+1:Nat):Int)⟩ (lenZ l.length) with
    | none=>rw [hpick] at e;cases e
    | some q=>
     rw [hpick] at e
     simp only [U0] at e
     cases hi:idx l q.1 with
     | none=>rw [hi] at e;cases e
     | some y=>
      rw [hi] at e
      simp only [U0,Option.some.injEq] at e
      subst e
      simp only
      have:=W6z hpick (by simp only;omega)
      rw [this]
      show wadd .i64 ((p+1:Nat):Int) 1=_
      rw [V7 (by omega) (by omega)]
      omega
   refine Ret.ite (fun h0=>?_) (fun h0=>?_)
   ·rw [X5] at h0
    refine Ret.bind (num2 _ (by simp) (by simp)) (fun a ha=>.some ?_)
    obtain ⟨e1,e2⟩:=skip (by omega) a ha.1 ha.2
    exact ⟨p+2,e1,by omega,by omega,e2,(kidsOk _).1,(kidsOk _).2⟩
   rw [X3] at h0
   refine Ret.ite (fun h1'=>?_) (fun h1'=>?_)
   ·rw [X5] at h1'
    refine Ret.bind (num2 _ (by simp) (by simp)) (fun a ha=>.some ?_)
    obtain ⟨e1,e2⟩:=skip (by omega) a ha.1 ha.2
    exact ⟨p+2,e1,by omega,by omega,e2,(kidsOk _).1,(kidsOk _).2⟩
   rw [X3] at h1'
   refine Ret.ite (fun h2'=>?_) (fun h2'=>?_)
   ·rw [X5] at h2'
    have hot:=hP.other p hpE (by omega) (by omega)
    rw [X2 (by simp only [U3,U4,Q6];omega)]
    refine .some ⟨p+1,rfl,by omega,by omega,by omega,by simp only [U5,U3,U4];omega,fun x hx=>?_⟩
    rcases U9.1 hx with hx | hx
    ·exact (kidsOk _).2 x hx
    ·simp only [List.mem_singleton] at hx
     rw [hx,Z33]
     exact ⟨by simp,fun y hy=>by cases hy⟩
   rw [X3] at h2'
   refine Ret.ite (fun h3=>?_) (fun h3=>?_)
   ·rw [X5] at h3
    have hth:=hP.three p hpE (by omega)
    refine Ret.ite (fun h4=>?_) (fun h4=>?_)
    ·rw [Z9] at h4
     simp only [lenZ] at h4
     obtain ⟨x,hx,hxm⟩:=Q5w (xs:=v.kids) (i:=0) (by omega) (by omega)
     rw [hx]
     simp only [U0]
     refine Ret.bind (ih n x (p+1) m (P+1) (by omega) (by omega) (by omega) (hv'.2 x hxm) (by omega) (by omega)) (fun a ha=>?_)
     obtain ⟨p1,e1,e2,e3,e4,e5⟩:=ha
     rw [e1]
     refine Ret.bind (ih n a.1 p1 (m+(p1-(p+1))) P (by omega) (by omega) (by omega) e5 h1 (by omega)) (fun c hc=>?_)
     obtain ⟨p2,g1,g2,g3,g4,g5⟩:=hc
     have hset:setI v.kids 0 c.1=some (v.kids.set 0 c.1):=by
      unfold setI
      rw [if_pos ⟨by omega,by show 0<v.kids.length;omega⟩]
      rfl
     rw [hset]
     simp only [U0]
     refine .some ⟨p2,g1,by omega,g3,g4,by simp only [List.length_set];omega,fun y hy=>?_⟩
     rcases List.mem_or_eq_of_mem_set hy with hy | rfl
     ·exact (kidsOk _).2 y hy
     ·exact Z4r (by omega) _ g5
    ·exact .some ⟨p+1,rfl,by omega,by omega,by omega,(kidsOk _).1,(kidsOk _).2⟩
   ·rw [X3] at h3
    have hot:=hP.other p hpE (by omega) (by omega)
    exact .some ⟨p+1,rfl,by omega,by omega,by omega,(kidsOk _).1,(kidsOk _).2⟩
  ·obtain ⟨p',e1,e2,e3,e4,e5,e6⟩:=hs
   exact .some ⟨p',e1,e2,e3,e4,(Z33 _ _).2 ⟨e5,e6⟩⟩
theorem W3n {r:Z4}(hr:ROk r 1)(hp:r.p≤5000){v:Q4}(hv:widV 100 v):Ret (Q2o NN r v) (fun a=>Nx r a.2 20000010):=by
 obtain ⟨b,p⟩:=r
 obtain ⟨h1,h2,h3,h4⟩:=hr
 simp only at h1 h2 h3 h4 hp
 obtain ⟨p,rfl⟩:=Int.eq_ofNat_of_zero_le h3
 have hex:∃ E V,Zed.Pot (pk24 ⟨b,0⟩) E V∧2≤V p∧E≤20000000:=by
  by_cases hb:b.length=0
  ·obtain ⟨E,V,g1,g2,g3⟩:=Zed.pot0 p
   refine ⟨E,V,?_,g2,by omega⟩
   have:pk24 ⟨b,0⟩=fun _=>0:=by
    funext q
    unfold pk24
    rw [if_pos hb]
   rw [this]
   exact g1
  ·obtain ⟨E,V,g1,g2,g3⟩:=Zed.pot (byt ⟨b,0⟩) (fun i=>by
    unfold byt
    simp only
    rw [List.getD_eq_getElem?_getD]
    cases hi:b[i]? with
    | none=>simp
    | some x=>
     have:=h1 x (U1 hi)
     simp only [Option.getD_some]
     omega) (L:=b.length) (p0:=p) (by omega) h2 (by omega)
   refine ⟨E,V,?_,g2,g3⟩
   have:pk24 ⟨b,0⟩=Zed.pkv (byt ⟨b,0⟩) b.length:=by
    funext q
    unfold pk24
    rw [if_neg hb]
   rw [this]
   exact g1
 obtain ⟨E,V,g1,g2,g3⟩:=hex
 refine Ret.mono ?_ (W3k h1 h2 g3 g1 (E-p) NN v p (100+p) 1 (Nat.le_refl _) (by simp only [NN];omega) (Nat.le_refl _) (Z4r (by omega) v hv) (by omega) (by omega))
 rintro a ⟨p',e1,e2,e3,_,_⟩
 rw [e1]
 refine ⟨rfl,?_,?_⟩
 ·show ((p:Nat):Int)≤((p':Nat):Int)
  omega
 ·show ((p':Nat):Int)≤((p:Nat):Int)+((20000010:Nat):Int)
  omega
def Par {α:Type}(x:Option α)(Q:α→Prop):Prop:=∀ a,x=some a→Q a
theorem Par.some {α:Type}{a:α}{Q:α→Prop}(h:Q a):Par (some a) Q:=fun b e=>by cases e;exact h
theorem Par.none {α:Type}{Q:α→Prop} : Par (none:Option α) Q:=fun b e=>by cases e
theorem Par.bind {α β:Type}{x:Option α}{f:α→Option β}{P:α→Prop}{Q:β→Prop}(hx:Par x P)(hf:∀ a,P a→Par (f a) Q):Par (x.bind f) Q:=fun b e=>by
 cases hx':x with
 | none=>rw [hx'] at e;cases e
 | some a=>rw [hx'] at e;exact hf a (hx a hx') b e
theorem Par.any {α β:Type}{x:Option α}{f:α→Option β}{Q:β→Prop}(hf:∀ a,Par (f a) Q):Par (x.bind f) Q:=Par.bind (P:=fun _=>True) (fun _ _=>trivial) fun a _=>hf a
theorem Par.ite {α:Type}{b:Bool}{x y:Option α}{Q:α→Prop}(h1:b=true→Par x Q)(h2:b=false→Par y Q):Par (if b=true then x else y) Q:=by
 cases b with
 | true=>exact h1 rfl
 | false=>exact h2 rfl
theorem Par.mono {α:Type}{x:Option α}{P Q:α→Prop}(h:∀ a,P a→Q a)(hx:Par x P):Par x Q:=fun a e=>h a (hx a e)
theorem Par.ctl {ρ σ τ:Type}{x:Option (Ctl ρ σ)}{g:Ctl ρ σ→Option τ}{R:ρ→Prop}{B:σ→Prop}{Q:τ→Prop}(h:Par x (CtlQ R B))(hr:∀ r,R r→Par (g (.ret r)) Q)(hb:∀ s,B s→Par (g (.brk s)) Q):Par (x.bind g) Q:=
 Par.bind h fun a ha=>by
  cases a with
  | ret r=>exact hr r ha
  | brk s=>exact hb s ha
  | go s=>exact ha.elim
theorem Z1f {α σ ρ:Type}{f:Nat→α→σ→Option (Ctl ρ σ)}(I:Nat→σ→Prop)(R:ρ→Prop)(B:σ→Prop):∀ (xs:List α) (i:Nat) (s0:σ),I i s0→(∀ k x s,x∈xs→I k s→Par (f k x s) (RndQ R B (I (k+1))))→(∀ s,I (i+xs.length) s→B s)→Par (forL f i xs s0) (CtlQ R B)
 | [],i,s0,h0,_,hb=>by
  unfold forL
  exact .some (hb s0 (by simpa using h0))
 | x::xs,i,s0,h0,st,hb=>by
  unfold forL
  have h1:=st i x s0 (by simp) h0
  intro a e
  cases hf:f i x s0 with
  | none=>rw [hf] at e;cases e
  | some o=>
   rw [hf] at e
   have h2:=h1 o hf
   cases o with
   | ret r=>cases e;exact h2
   | brk s=>cases e;exact h2
   | go s=>exact Z1f I R B xs (i+1) s h2 (fun k y s hy=>st k y s (by simp [hy])) (fun s hs=>hb s (by simpa [Nat.add_assoc,Nat.add_comm 1] using hs)) a e
theorem Ret.both {α:Type}{x:Option α}{P Q:α→Prop}(h:Ret x P)(k:Par x Q):Ret x (fun a=>P a∧Q a):=by
 obtain ⟨a,e,hp⟩:=h
 exact ⟨a,e,hp,k a e⟩
theorem X4p {α:Type}(xs ys:List α):Par (app xs ys) (fun z=>z=xs++ys):=fun z hz=>by
 unfold app at hz
 split at hz
 ·cases hz;rfl
 ·cases hz
theorem W7a (r:Z4)(l:List Int):Par (X8 r l) (fun a=>a.1∈l):=by
 unfold X8
 refine Par.any fun a=>?_
 refine Par.bind (P:=fun x=>x∈l) (fun x hx=>?_) (fun x hx=>.some hx)
 unfold idx at hx
 split at hx
 ·exact U1 hx
 ·cases hx
theorem W1e {w:List Q3}(hw:WW w){r:Z4}{t:Q2}(ht:t∈tys w)(h:ROk r 2600):Ret (Q4z NN r w t) (fun a=>(∀ c∈a.1,Q1v w t c.pat=true)∧a.1.length≤5∧Nx r a.2 2600):=by
 unfold Q4z
 refine Ret.bind (Q95 (h.le (by omega)) [3,2,4,5,1,0] (by simp) (by simp)) (fun a ha=>?_)
 have hr1:ROk a.2 2599:=ROk.nx (c:=1) h ha.2
 have hd:0≤a.1∧a.1≤5:=by
  have:=ha.1
  simp at this
  omega
 refine Ret.ctl (Q48 (fun s=>0≤s.2.2∧s.2.2≤5∧(s.2.1.length:Int)+s.2.2=a.1∧(∀ c∈s.2.1,Q1v w t c.pat=true)∧Nx a.2 s.1 (s.2.1.length * 500)) (fun s=>s.2.2.toNat) (fun _=>False) (fun s=>s.2.1.length≤5∧(∀ c∈s.2.1,Q1v w t c.pat=true)∧Nx a.2 s.1 2500)
  ⟨hd.1,hd.2,by simp,by simp,by simpa using Nx.refl a.2⟩ (fun s hI=>?_) NN (by have:=hd;show (a.1).toNat<30000000;omega)) (fun r hr=>hr.elim) (fun s hs=>.some ⟨hs.2.1,hs.1,(ha.2.trans hs.2.2).le' (by omega)⟩)
 obtain ⟨i1,i2,i3,i4,i5⟩:=hI
 refine Ret.ite (fun h=>?_) (fun h=>?_)
 ·rw [Z9] at h
  have hr2:ROk s.1 500:=ROk.nx (c:=s.2.1.length * 500) (hr1.le (by omega)) i5
  refine Ret.bind (W52 hw ht hr2) (fun b hb=>?_)
  rw [X2 (by simp only [Q6,U3,U4];omega)]
  have hws:wsub .i64 s.2.2 1=s.2.2-1:=Q2m (by omega) (by omega)
  simp only [U0]
  rw [hws]
  refine .some ⟨⟨by simp only;omega,by simp only;omega,by simp;omega,fun c hc=>?_,?_⟩,by simp only;omega⟩
  ·rcases U9.1 hc with hc | hc
   ·exact i4 c hc
   ·simp at hc;subst hc;exact hb.1
  ·have:=i5.trans hb.2
   simp only [U5,U3,U4]
   exact this.le' (by omega)
 ·exact .some ⟨by simp only;omega,i4,i5.le' (by omega)⟩
theorem W5x {r:Z4}(h:ROk r 5000):Ret (Q2j NN r) (fun a=>a.1∈Q0r∧a.2.1∈tys a.1∧(∀ c∈a.2.2.1,Q1v a.1 a.2.1 c.pat=true)∧a.2.2.1.length≤5∧Nx r a.2.2.2.2 4000):=by
 unfold Q2j
 refine Ret.bind (W5z (h.le (by omega))) (fun a ha=>?_)
 obtain ⟨h1,h2,h3⟩:=ha
 refine Ret.bind (W1e (ww h1) h2 (ROk.nx (c:=500) (h.le (by omega)) h3)) (fun b hb=>?_)
 exact .some ⟨h1,h2,hb.1,hb.2.1,(h3.trans hb.2.2).le' (by omega)⟩
theorem W3j {code:List Int}{q:Z4}(h:((if (ilt 2000 (lenZ code.length))=true then ((Q6a code 2000).bind fun x8=>some (Ctl.brk (ρ:=Z4) x8)) else some (Ctl.brk code)))=some (.ret q)):False:=by
 split at h
 ·cases ht:Q6a code 2000 with
  | none=>rw [ht] at h;cases h
  | some x=>rw [ht] at h;cases h
 ·cases h
theorem W8u {w:List Q3}(hw:WW w):∀ (n:Nat) (r:Z4) (t:Q2) (depth:Int),t∈tys w→Par (Q40 n r w (tabP w) t depth) (fun a=>widV 3 a.1):=by
 intro n
 induction n with
 | zero=>intro r t depth _;exact .none
 | succ n ih=>
  intro r t depth ht
  have hT:=hw.ty t ht
  unfold Q40
  refine Par.ite (fun _=>?_) (fun _=>?_)
  ·exact Par.any fun a=>.some ((Z33 _ _).2 ⟨by simp,fun x hx=>by cases hx⟩)
  ·rw [hT.c1]
   simp only [U0]
   refine Par.ctl (Z1f (fun _ (s:List Int)=>∀ x∈s,x∈X1 w t) (fun _=>False) (fun s=>∀ x∈s,x∈X1 w t) (X1 w t) 0 _ (by simp) (fun k x s hx hI=>?_) (fun s hs=>hs)) (fun r hr=>hr.elim) (fun s hs=>?_)
   ·have add:Par ((app s [x]).bind fun x310=>some (Ctl.brk (ρ:=Ctl (Q4×Z4) (List Int)) x310)) (CtlQ (fun _=>False) (fun s'=>∀ x∈s',x∈X1 w t)):=by
     refine Par.bind (X4p _ _) (fun z hz=>.some ?_)
     subst hz
     intro y hy
     rcases U9.1 hy with hy | hy
     ·exact hI y hy
     ·simp only [List.mem_singleton] at hy;rw [hy];exact hx
    have pass:Par (some (Ctl.brk (ρ:=Ctl (Q4×Z4) (List Int)) s)) (CtlQ (fun _=>False) (fun s'=>∀ x∈s',x∈X1 w t)):=.some hI
    refine Par.ctl (R:=fun _=>False) (B:=fun (s':List Int)=>∀ x∈s',x∈X1 w t) ?_ (fun r hr=>hr.elim) (fun s' hs'=>.some hs')
    refine Par.any fun a=>Par.ite (fun _=>Par.ite (fun _=>add) (fun _=>Par.any fun b=>Par.ite (fun _=>add) (fun _=>pass))) (fun _=>pass)
   ·refine Par.any fun a=>?_
    refine Par.bind (P:=fun x=>x∈X1 w t) (fun x hx=>?_) (fun x hx=>?_)
    ·unfold idx at hx
     split at hx
     ·exact hs x (U1 hx)
     ·cases hx
    ·rw [hT.a1 x hx]
     simp only [U0]
     have hal:=hT.al x hx
     refine Par.ctl (Z1f (fun k (u:Z4×List Q4)=>u.2.length≤k∧∀ y∈u.2,widV 3 y) (fun _=>False) (fun u=>u.2.length≤3∧∀ y∈u.2,widV 3 y) (X4 w t x) 0 _ (by simp) (fun k y u hy hI=>?_) (fun u hu=>⟨by have:=hu.1;omega,hu.2⟩)) (fun r hr=>hr.elim) (fun u hu=>.some ((Z33 _ _).2 hu))
     refine Par.bind (ih u.1 y _ (hT.at_ x hx y hy)) (fun b hb=>?_)
     refine Par.bind (X4p _ _) (fun z hz=>.some ?_)
     subst hz
     refine ⟨by simp only [U5,U3,U4];have:=hI.1;omega,fun q hq=>?_⟩
     rcases U9.1 hq with hq | hq
     ·exact hI.2 q hq
     ·simp only [List.mem_singleton] at hq;rw [hq];exact hb
theorem W2x {r:Z4}(h:ROk r 1000):Ret (Q4c NN r) (fun a=>a.1∈Q0r∧a.2.1∈tys a.1∧Nx r a.2.2.2 500∧widV 3 a.2.2.1∧depP a.1 a.2.1≠0):=by
 unfold Q4c
 refine Ret.bind (W0o (h.le (by omega))) (fun a ha=>?_)
 obtain ⟨hw,hn1⟩:=ha
 have hW:=ww hw
 rw [hW.tab]
 simp only [U0]
 have hr1:ROk a.2 999:=ROk.nx (c:=1) h hn1
 have hpos:=hW.pos
 have hle:=hW.le
 refine Ret.bind (Q4x (hr1.le (by omega)) (k:=lenZ a.1.length) (by simp only [lenZ];omega) (by simp only [lenZ];omega)) (fun b hb=>?_)
 have hr2:ROk b.2 998:=ROk.nx (c:=1) hr1 hb.2.2
 refine Ret.bind (Q95 (hr2.le (by omega)) [0,0,1,2] (by simp) (by simp)) (fun c hc=>?_)
 have hr3:ROk c.2 997:=ROk.nx (c:=1) hr2 hc.2
 have hty:(Q2.mk b.1 c.1)∈tys a.1:=by
  obtain ⟨i,hi⟩:=Int.eq_ofNat_of_zero_le hb.1
  have hil:i<a.1.length:=by have:=hb.2.1;simp only [lenZ] at this;omega
  have hci:∃ j:Nat,j<4∧c.1=(j:Int):=by
   have:=hc.1
   simp at this
   rcases this with h | h | h
   ·exact ⟨0,by omega,h⟩
   ·exact ⟨1,by omega,h⟩
   ·exact ⟨2,by omega,h⟩
  obtain ⟨j,hj,hcj⟩:=hci
  unfold tys
  refine List.mem_cons_of_mem _ (List.mem_flatMap.2 ⟨i,List.mem_range.2 hil,U11.2 ⟨j,List.mem_range.2 hj,?_⟩⟩)
  rw [hi,hcj]
  rfl
 have htI:tI∈tys a.1:=by unfold tys;exact List.mem_cons_self
 refine Ret.ctl (R:=fun _=>False) (B:=fun s=>(Q2.mk s.1 s.2)∈tys a.1∧depP a.1 (Q2.mk s.1 s.2)≠0) ?_ (fun r hr=>hr.elim) (fun s hs=>?_)
 ·rw [(hW.ty _ hty).d1]
  simp only [U0]
  refine Ret.ite (fun h=>?_) (fun h=>?_)
  ·refine .some ⟨htI,?_⟩
   have:=(hW.ty tI htI).ti rfl
   show depP a.1 tI≠0
   omega
  ·rw [X3] at h
   exact .some ⟨hty,h⟩
 ·refine Ret.bind (Q95 (hr3.le (by omega)) [3,2,4,1] (by simp) (by simp)) (fun d hd=>?_)
  have hr4:ROk d.2 996:=ROk.nx (c:=1) hr3 hd.2
  have hd4:1≤d.1∧d.1≤4:=by
   have:=hd.1
   simp at this
   omega
  have hdep:=(hW.ty _ hs.1).d4
  refine Ret.bind ((W2d hW 4 NN d.2 _ d.1 hs.1 hs.2 (by omega) (by omega) (by omega) (by omega) (by decide) (hr4.le (by decide))).both (W8u hW NN d.2 _ d.1 hs.1)) (fun e he=>?_)
  refine .some ⟨hw,hs.1,?_,he.2,hs.2⟩
  have:=(((hn1.trans hb.2.2).trans hc.2).trans hd.2).trans he.1
  exact this.le' (by decide)
theorem W2w {r:Z4}(h:ROk r 5000):Ret (Q2j NN r) (fun a=>a.1∈Q0r∧a.2.1∈tys a.1∧(∀ c∈a.2.2.1,Q1v a.1 a.2.1 c.pat=true)∧a.2.2.1.length≤5∧Nx r a.2.2.2.2 4000∧widV 3 a.2.2.2.1∧depP a.1 a.2.1≠0):=by
 unfold Q2j
 refine Ret.bind (W2x (h.le (by omega))) (fun a ha=>?_)
 obtain ⟨h1,h2,h3,h4,h5⟩:=ha
 refine Ret.bind (W1e (ww h1) h2 (ROk.nx (c:=500) (h.le (by omega)) h3)) (fun b hb=>?_)
 exact .some ⟨h1,h2,hb.1,hb.2.1,(h3.trans hb.2.2).le' (by omega),h4,h5⟩
theorem V1p (code:List Int)(hb:∀ x∈code,0≤x∧x≤255):Ret (Q4d code) (fun r=>ROk r 1000000∧r.p=0):=by
 obtain ⟨r,e,hr⟩:=W75 code hb
 refine ⟨r,e,hr,?_⟩
 unfold Q4d at e
 simp only [U13] at e
 obtain ⟨o,h1,h2⟩:=e
 cases o with
 | ret q=>exact (W3j h1).elim
 | go s=>cases h2
 | brk s=>simp only [Option.some.injEq] at h2;rw [←h2]
theorem W4u (code:List Int)(hb:∀ x∈code,0≤x∧x≤255):Ret (Q1z NN code) (fun a=>a.1∈Q0r∧a.2.1∈tys a.1):=by
 unfold Q1z
 refine Ret.bind (V1p code hb) (fun r hr=>?_)
 obtain ⟨hr,hp0⟩:=hr
 refine Ret.bind (W2w (hr.le (by omega))) (fun a ha=>?_)
 obtain ⟨h1,h2,h3,h4,h5,h6,_⟩:=ha
 have hr1:ROk a.2.2.2.2 900000:=ROk.nx (c:=4000) (hr.le (by omega)) h5
 refine Ret.bind (W3l (hr1.le (by omega)) a.2.2.1 (by omega) (fun c hc=>by have:=W2u (ww h1) h2 (h3 c hc);omega)) (fun b hb=>?_)
 have hr2:ROk b.2 800000:=ROk.nx (c:=10) (hr1.le (by omega)) hb.2
 refine Ret.bind (Q95 (hr2.le (by omega)) [0,1,2,0,3] (by simp) (by simp)) (fun c hc=>?_)
 have hr3:ROk c.2 700000:=ROk.nx (c:=1) (hr2.le (by omega)) hc.2
 have hp:c.2.p≤5000:=by
  have e1:=h5.ge
  have e2:=hb.2.ge
  have e3:=hc.2.ge
  omega
 refine Ret.bind (W3n (hr3.le (by omega)) hp (Z4r (by omega) _ h6)) (fun d _=>.some ⟨h1,h2⟩)
theorem V3m {w:List Q3}(hw:WW w)(he:WE w){d x:Nat}{t:Q2}(htw:t∈tys w)(hx:d+1≤x)(hM:∀ (t:Q2) (a b:Q0),t∈tys w→X6 w x t a→X6 w d t b→Y5 w x t a=true→∀ y∈W6 w d t a b,Y5 w x t y=true){c c':Int}{ks ks':List Q0}(hc:c∈X1 w t)
  (hl:ks.length=(X4 w t c).length) (hk:∀ (j:Nat) (a:Q2) (q:Q0),(X4 w t c)[j]?=some a→ks[j]?=some q→X6 w x a q)
  (hl':ks'.length=(X4 w t c').length) (hk':∀ (j:Nat) (a:Q2) (q:Q0),(X4 w t c')[j]?=some a→ks'[j]?=some q→X6 w d a q) (hem:Y5 w (x+1) t (Q0.mk 4 c 0 0 0 ks)=true) :
  ∀ y∈cmD w (W6 w d) (Q0t d) t (Q0.mk 4 c 0 0 0 ks) (Q0.mk 4 c' 0 0 0 ks'),Y5 w (x+1) t y=true:=fun y hy=>by
 simp only [cmD] at hy
 split at hy
 ·rename_i hcc
  subst hcc
  obtain ⟨k,hk1,rfl⟩:=U11.1 hy
  obtain ⟨g1,i,g2,g3⟩:=W1g (X4 w t c) ks ks' hl hl' k hk1
  obtain ⟨j,a,p,k1,k2,k3⟩:=Q5i.1 hem
  obtain ⟨p',hp'⟩:=Q27 hl' (List.getElem?_eq_some_iff.1 k1).1
  obtain ⟨q,hq⟩:=Q27 g1 (List.getElem?_eq_some_iff.1 k1).1
  obtain ⟨m1,m2,m3⟩:=g3 j a p p' q k1 k2 hp' hq
  have haw:=(hw.ty t htw).at_ _ hc a (U1 k1)
  refine Q5i.2 ⟨j,a,q,k1,hq,?_⟩
  rcases Nat.lt_trichotomy j i with h | h | h
  ·exact X2j hw he d x a p p' q haw (by omega) (hk j a p k1 k2) (hk' j a p' k1 hp') k3 (m1 h)
  ·exact hM a p p' haw (hk j a p k1 k2) (hk' j a p' k1 hp') k3 q (m2 h)
  ·rw [m3 h];exact k3
 ·simp at hy
  subst hy
  exact hem
theorem Z9o {w:List Q3}(hw:WW w)(he:WE w):∀ (d x:Nat) (t:Q2) (a b:Q0),t∈tys w→d+1≤x→X6 w x t a→X6 w d t b→Y5 w x t a=true→∀ y∈W6 w d t a b,Y5 w x t y=true
 | 0,_,_,_,_,_,_,_,h,_,_,_=>h.elim
 | d+1,0,_,_,_,_,h,_,_,_,_,_=>by omega
 | d+1,x+1,t,a,b,htw,hx,ha,hb,hem,y,hy=>by
  have hyp:=Q8x (d+1) (x+1) t a b hx ha hb y hy
  rcases ha with rfl | ⟨n,m,rfl,ht,_⟩ | ⟨c,ks,rfl,ht,hc,hl,hk⟩
  ·simp only [Y5,if_true,decide_eq_true_eq] at hem
   exact X0r hw he _ t y htw hyp hem
  ·simp [Y5] at hem
  ·rcases hb with rfl | ⟨n',m',rfl,ht',_⟩ | ⟨c',ks',rfl,_,hc',hl',hk'⟩
   ·simp [W6] at hy
   ·exact absurd ht' ht
   ·have e1:¬(4:Int)=1:=by decide
    have e3:¬(4:Int)=3:=by decide
    simp only [W6,e1,e3,if_false] at hy
    exact V3m hw he htw (by omega) (fun t a b h1 h2 h3 h4=>Z9o hw he d x t a b h1 (by omega) h2 h3 h4) hc hl hk hl' hk' hem y hy
def Q8c (w:List Q3)(x:Nat)(t:Q2)(l:List Q0):List Q0:=l.filter fun p=>!Y5 w x t p
def Q3w (w:List Q3)(d x:Nat)(t:Q2)(l:List Q0)(b:Q0):List Q0:=Q8c w x t (l.flatMap fun a=>W6 w d t a b)
def Q7b (w:List Q3)(d x:Nat)(t:Q2):List Q0→List Q0→Option (List Q0)
 | l,[]=>some l
 | l,b::bs=>if 400<(Q3w w d x t l b).length then none else Q7b w d x t (Q3w w d x t l b) bs
def Q2h (w:List Q3)(d x:Nat)(t:Q2)(l bs:List Q0):Option (List Q0):=Q7b w d x t (Q8c w x t l) bs
theorem X5o {w:List Q3}(hw:WW w)(he:WE w){d x:Nat}{t:Q2}(ht:t∈tys w)(hx:d+1≤x){b:Q0}(hb:X6 w d t b):∀ {l:List Q0},(∀ a∈l,X6 w x t a)→Q3w w d x t (Q8c w x t l) b=Q3w w d x t l b
 | [],_=>rfl
 | a::l,h=>by
  have ih:=X5o hw he ht hx hb (l:=l) fun a ha=>h a (by simp [ha])
  simp only [Q3w,Q8c,List.filter_cons,List.flatMap_cons,List.filter_append] at ih ⊢
  cases hem:Y5 w x t a with
  | false=>simp only [Bool.not_false,if_true,List.flatMap_cons,List.filter_append,ih]
  | true=>
   have:(W6 w d t a b).filter (fun p=>!Y5 w x t p)=[]:=by
    rw [List.filter_eq_nil_iff]
    intro y hy
    simp [Z9o hw he d x t a b ht hx (h a (by simp)) hb hem y hy]
   simp [ih,this]
theorem X8o {w:List Q3}{d x:Nat}{t:Q2}{l:List Q0}{b:Q0} : Q8c w x t (Q3w w d x t l b)=Q3w w d x t l b:=by
 simp [Q3w,Q8c,List.filter_filter]
theorem Q91 {w:List Q3}{d x:Nat}{t:Q2}(hx:d+1≤x){b:Q0}(hb:X6 w d t b){l:List Q0}(h:∀ a∈l,X6 w x t a):∀ y∈Q3w w d x t l b,X6 w x t y:=fun y hy=>by
 obtain ⟨a,ha,hy⟩:=List.mem_flatMap.1 (List.mem_filter.1 hy).1
 exact Q8x d x t a b hx (h a ha) hb y hy
theorem X13 {w:List Q3}{d x:Nat}{t:Q2}(hx:d+1≤x):∀ (bs l r:List Q0),(∀ b∈bs,X6 w d t b)→(∀ a∈l,X6 w x t a)→Q7b w d x t l bs=some r→∀ y∈r,X6 w x t y
 | [],l,r,_,h,e=>by simp [Q7b] at e;subst e;exact h
 | b::bs,l,r,hb,h,e=>by
  simp only [Q7b] at e
  split at e
  ·cases e
  ·exact X13 hx bs _ r (fun b hb'=>hb b (by simp [hb'])) (Q91 hx (hb b (by simp)) h) e
theorem X5d {w:List Q3}{d x:Nat}{t:Q2}(hx:d+1≤x){l bs r:List Q0}(hb:∀ b∈bs,X6 w d t b)(h:∀ a∈l,X6 w x t a)(e:Q2h w d x t l bs=some r):∀ y∈r,X6 w x t y:=
 X13 hx bs _ r hb (fun a ha=>h a (List.mem_filter.1 ha).1) e
theorem W2b {w:List Q3}(hw:WW w)(he:WE w){x e:Nat}{t:Q2}(ht:t∈tys w){l:List Q0}(h:∀ a∈l,X6 w x t a){v:Q4}(hv:Q1r w e t v):(∃ y∈Q8c w x t l,fitP y v=true)↔∃ y∈l,fitP y v=true:=by
 constructor
 ·rintro ⟨y,hy,g⟩;exact ⟨y,(List.mem_filter.1 hy).1,g⟩
 ·rintro ⟨y,hy,g⟩
  refine ⟨y,List.mem_filter.2 ⟨hy,?_⟩,g⟩
  cases hem:Y5 w x t y with
  | false=>rfl
  | true=>rw [X7q hw he x e t y v ht (h y hy) hem hv] at g;cases g
theorem W2j {w:List Q3}(hw:WW w)(he:WE w){d x e:Nat}{t:Q2}(ht:t∈tys w)(hx:d+1≤x){v:Q4}(hv:Q1r w e t v):∀ (bs l r:List Q0),(∀ b∈bs,X6 w d t b)→(∀ a∈l,X6 w x t a)→Q7b w d x t l bs=some r→
  ((∃ y∈r,fitP y v=true)↔(∃ a∈l,fitP a v=true)∧∀ b∈bs,fitP b v=false)
 | [],l,r,_,h,e1=>by simp [Q7b] at e1;subst e1;simp
 | b::bs,l,r,hb,h,e1=>by
  simp only [Q7b] at e1
  split at e1
  ·cases e1
  ·have hb0:=hb b (by simp)
   rw [W2j hw he ht hx hv bs _ r (fun b hb'=>hb b (by simp [hb'])) (Q91 hx hb0 h) e1]
   have hmp:∀ y∈l.flatMap (fun a=>W6 w d t a b),X6 w x t y:=fun y hy=>by
    obtain ⟨a,ha,hy⟩:=List.mem_flatMap.1 hy
    exact Q8x d x t a b hx (h a ha) hb0 y hy
   have h1:=W2b hw he ht hmp hv
   simp only [Q3w]
   rw [h1]
   constructor
   ·rintro ⟨⟨y,hy,g⟩,h2⟩
    obtain ⟨a,ha,hy⟩:=List.mem_flatMap.1 hy
    obtain ⟨g1,g2⟩:=(Z2i d e t a b x (h a ha) hb0 v hv).2 ⟨y,hy,g⟩
    refine ⟨⟨a,ha,g1⟩,fun b' hb'=>?_⟩
    rcases U8.1 hb' with rfl | hb'
    ·exact g2
    ·exact h2 b' hb'
   ·rintro ⟨⟨a,ha,g1⟩,h2⟩
    obtain ⟨y,hy,g⟩:=(Z2i d e t a b x (h a ha) hb0 v hv).1 ⟨g1,h2 b (by simp)⟩
    exact ⟨⟨y,List.mem_flatMap.2 ⟨a,ha,hy⟩,g⟩,fun b' hb'=>h2 b' (by simp [hb'])⟩
theorem Z3z {w:List Q3}(hw:WW w)(he:WE w){d x e:Nat}{t:Q2}(ht:t∈tys w)(hx:d+1≤x){v:Q4}(hv:Q1r w e t v){l bs r:List Q0}(hb:∀ b∈bs,X6 w d t b)(h:∀ a∈l,X6 w x t a)(e1:Q2h w d x t l bs=some r) :
  (∃ y∈r,fitP y v=true)↔(∃ a∈l,fitP a v=true)∧∀ b∈bs,fitP b v=false:=by
 rw [W2j hw he ht hx hv bs (Q8c w x t l) r hb (fun a ha=>h a (List.mem_filter.1 ha).1) e1,W2b hw he ht h hv]
theorem W1f {fm:Q2→Q0→Q0→List Q0}{fj:Q0→Q0→Option Q0} : ∀ (ts:List Q2) (as bs:List Q0),(∀ (j:Nat) (t:Q2) (a b:Q0),ts[j]?=some t→bs[j]?=some b→(fm t a b).length≤3 * cntP b)→(kmD fm fj ts as bs).length≤3 * cntP.cntPs bs
 | [],as,bs,_=>by simp [kmD]
 | t::ts,[],bs,_=>by simp [kmD]
 | t::ts,a::as,[],_=>by simp [kmD]
 | t::ts,a::as,b::bs,h=>by
  have h0:=h 0 t a b rfl rfl
  have ih:=W1f (fj:=fj) ts as bs fun j t a b h1 h2=>h (j+1) t a b (by simpa using h1) (by simpa using h2)
  simp only [kmD,U5,U7,cntP.cntPs]
  cases fj a b with
  | none=>simp;omega
  | some m=>simp only [U7];omega
theorem W12 (n m n' m':Int):(Z3j n m n' m').length≤2:=by
 simp only [Z3j,U5]
 split<;>split<;>simp
theorem W29 {α β:Type}{f:α→List β} : ∀ {l:List α},(∀ x∈l,(f x).length≤1)→(l.flatMap f).length≤l.length
 | [],_=>by simp
 | x::l,h=>by
  have h1:=h x (by simp)
  have h2:=W29 (l:=l) fun y hy=>h y (by simp [hy])
  simp only [List.flatMap_cons,U5,U3]
  omega
theorem W8i {α β:Type}{f:α→List β}{c:α}{B:Nat}(hc:(f c).length≤B):∀ {l:List α},c∈l→(∀ x∈l,x≠c→(f x).length≤1)→l.Nodup→(l.flatMap f).length+1≤l.length+B
 | [],h,_,_=>by simp at h
 | x::l,hcl,hn,hd=>by
  obtain ⟨h1,h2⟩:=List.nodup_cons.1 hd
  simp only [List.flatMap_cons,U5,U3]
  by_cases hx:x=c
  ·subst hx
   have:=W29 (f:=f) (l:=l) fun y hy=>hn y (by simp [hy]) fun e=>h1 (e▸hy)
   omega
  ·have h3:=hn x (by simp) hx
   have hcl:c∈l:=by
    rcases U8.1 hcl with rfl | h
    ·exact absurd rfl hx
    ·exact h
   have:=W8i hc hcl (fun z hz=>hn z (by simp [hz])) h2
   omega
theorem Q96 {w:List Q3}(hw:WW w)(he:WE w):∀ (d:Nat) (t:Q2) (a b:Q0),t∈tys w→X6 w d t b→(W6 w d t a b).length≤3 * cntP b
 | 0,_,_,_,_,h=>h.elim
 | d+1,t,a,b,ht,hb=>by
  rcases hb with rfl | ⟨n',m',rfl,ht',_⟩ | ⟨c',ks',rfl,ht',hc',hl',hk'⟩
  ·simp [W6]
  ·have e1:¬(3:Int)=1:=by decide
   simp only [W6,e1,if_false,if_true]
   have h1:=Z1k (Q0.mk 3 0 n' m' 0 [])
   split
   ·have:=W12 0 9 n' m';omega
   ·have:=W12 a.n a.m n' m';omega
  ·have e1:¬(4:Int)=1:=by decide
   have e3:¬(4:Int)=3:=by decide
   simp only [W6,e1,e3,if_false]
   have hkm:∀ (as:List Q0),(kmD (W6 w d) (Q0t d) (X4 w t c') as ks').length≤3 * cntP.cntPs ks':=fun as=>
    W1f (X4 w t c') as ks' fun j u p q h1 h2=>Q96 hw he d u p q ((hw.ty t ht).at_ _ hc' u (U1 h1)) (hk' j u q h1 h2)
   have hcm:∀ a':Q0,(a'.ctor≠c'→(cmD w (W6 w d) (Q0t d) t a' (Q0.mk 4 c' 0 0 0 ks')).length≤1)∧(a'.ctor=c'→(cmD w (W6 w d) (Q0t d) t a' (Q0.mk 4 c' 0 0 0 ks')).length≤3 * cntP.cntPs ks'):=fun a'=>by
    refine ⟨fun h=>by simp [cmD,h],fun h=>?_⟩
    simp only [cmD,h,if_true,U7]
    exact hkm a'.kids
   have hcnt:cntP (Q0.mk 4 c' 0 0 0 ks')=1+cntP.cntPs ks':=Q60 _
   split
   ·have:=W8i (f:=fun c=>cmD w (W6 w d) (Q0t d) t (Q69 w t c) (Q0.mk 4 c' 0 0 0 ks')) (c:=c') ((hcm (Q69 w t c')).2 rfl) hc' (fun x _ hx=>(hcm (Q69 w t x)).1 hx) (he.nd t ht)
    have:=(hw.ty t ht).cl
    omega
   ·by_cases h:a.ctor=c'
    ·have:=(hcm a).2 h;omega
    ·have:=(hcm a).1 h;omega
theorem X5p {w:List Q3}(hw:WW w)(he:WE w){d:Nat}{t:Q2}(ht:t∈tys w){b:Q0}(hb:X6 w d t b):∀ (l:List Q0),(l.flatMap fun a=>W6 w d t a b).length≤l.length * (3 * cntP b)
 | []=>by simp
 | a::l=>by
  have h1:=Q96 hw he d t a b ht hb
  have h2:=X5p hw he ht hb l
  simp only [List.flatMap_cons,U5,U3,Nat.add_mul,Nat.one_mul]
  omega
end Go.Proofs.YtbdkbdafhlcilaaGreat
