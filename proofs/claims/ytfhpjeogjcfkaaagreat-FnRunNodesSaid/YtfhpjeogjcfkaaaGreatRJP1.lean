import Derived.Test.YtfhpjeogjcfkaaaGreatRJP0
import Derived.Test.YtfhpjeogjcfkaaaGreatRJZ0
set_option linter.unusedSimpArgs false
set_option linter.unusedVariables false
namespace Go.Proofs.YtfhpjeogjcfkaaaGreat
open Go Go.RowKit
def PatC (w:List Q3)(t:Q6)(p:Q0):Prop:=Q0j w 12 t p=true∧Z7x 12 p∧(p.op=1∨p.op=3∨p.op=4)
def PatO (w:List Q3)(t:Q6)(p:Q0):Prop:=Q0j w 12 t p=true∧Z7x 12 p
def Z7d (r:Grow):List Int:=r.binds.map (·.var)++r.pats.flatMap Q45
theorem Q7m:∀ (d:Nat) (p:Q0),Z7x d p→Z7x (d+1) p:=by
 intro d
 induction d with
 | zero=>intro p h;exact h.elim
 | succ d ih=>intro p h;exact ⟨h.1,fun x hx=>ih x (h.2 x hx)⟩
theorem Z9c (w:List Q3)(t:Q6):PatC w t anyP:=by
 refine ⟨?_,?_,.inl rfl⟩
 ·simp [Q0j,Q5i,Z1f,J1,anyP]
 ·simp [Z7x,anyP]
theorem Z9b {w:List Q3}{t:Q6}{p:Q0}(h:PatO w t p){k:Nat}{a:Q6}{q:Q0}(h1:(J1 w t p)[k]?=some a)(h2:p.kids[k]?=some q):PatO w a q:=
 ⟨Q4h 11 a q (Q03 h.1 h1 h2),Q7m 11 q (h.2.2 q (U1 h2))⟩
theorem Z1i {w:List Q3}{t:Q6}{p:Q0}(h:Q5i w t p=true)(h4:p.op≠4)(h5:p.op≠5)(h6:p.op≠6):p.kids=[]:=by
 have:=(Q0t h).2
 rw [J1,if_neg h4,if_neg h5,if_neg h6] at this
 exact List.eq_nil_of_length_eq_zero this
theorem Z0p {w:List Q3}{t:Q6}{p:Q0}(h:Q5i w t p=true):p.op=1∨p.op=2∨p.op=5∨p.op=6∨(p.op=3∧t.data = -1∧0≤p.n∧p.n≤p.m∧p.m≤9)∨(p.op=4∧p.ctor∈W1 w t):=by
 have h:=(Q0t h).1
 simp only [Z1f,Bool.and_eq_true,Bool.or_eq_true,decide_eq_true_eq] at h
 rcases h.2 with (h | h) | h
 ·omega
 ·exact .inr (.inr (.inr (.inr (.inl ⟨h.1.1.1.1,h.1.1.1.2,h.1.1.2,h.1.2,h.2⟩))))
 ·exact .inr (.inr (.inr (.inr (.inr h))))
theorem W96 {w:List Q3}{t:Q6}{path:List Int} : ∀ (d:Nat) (p:Q0),asOk d p→PatO w t p→PatC w t (Q1i d p path).2∧((Q1i d p path).1.map (·.var)++Q45 (Q1i d p path).2)=Q45 p∧∀ b∈(Q1i d p path).1,b.path=path:=by
 intro d
 induction d with
 | zero=>intro p h;exact h.elim
 | succ d ih=>
  intro p has h
  rw [Q20]
  have hn:=Q0a h.1
  by_cases h6:p.op=6
  ·obtain ⟨q,hq,hd⟩:=has h6
   rw [if_pos h6,hq]
   simp only [List.headD_cons]
   have hk:PatO w t q:=Z9b h (k:=0) (a:=t) (by rw [J1,if_neg (by rw [h6];decide),if_neg (by rw [h6];decide),if_pos h6];rfl) (by rw [hq];rfl)
   obtain ⟨i1,i2,i3⟩:=ih q hd hk
   refine ⟨i1,?_,fun b hb=>?_⟩
   ·rw [Q8u p,if_pos (.inr h6),hq,Q68,List.map_cons,List.cons_append,i2]
    simp
   ·rcases U8.1 hb with rfl | hb
    ·rfl
    ·exact i3 b hb
  ·rw [if_neg h6]
   by_cases h2:p.op=2
   ·rw [if_pos h2]
    refine ⟨Z9c w t,?_,fun b hb=>?_⟩
    ·rw [Q8u p,if_pos (.inl h2),Z1i hn (by omega) (by omega) (by omega),X0y]
     simp [Q45.varsSs]
    ·simp only [U8,List.not_mem_nil,or_false] at hb
     rw [hb]
   ·rw [if_neg h2]
    refine ⟨⟨h.1,h.2,?_⟩,by simp,by simp⟩
    have h5:=h.2.1
    rcases Z0p hn with h1 | h1 | h1 | h1 | h1 | h1
    ·exact .inl h1
    ·exact absurd h1 h2
    ·exact absurd h1 h5
    ·exact absurd h1 h6
    ·exact .inr (.inl h1.1)
    ·exact .inr (.inr h1.1)
theorem Z5e {w:List Q3}{t:Q6}{p:Q0}(path:List Int)(h:PatO w t p):PatC w t (Q5o p path).2∧((Q5o p path).1.map (·.var)++Q45 (Q5o p path).2)=Q45 p∧∀ b∈(Q5o p path).1,b.path=path:=
 W96 12 p (Z67 12 t p h.1) h
structure BrC (w:List Q3) (t:Q6) (b:Q8):Prop where
 int:t.data = -1→b.ctor = -1
 ctor:t.data≠-1→b.ctor∈W1 w t∧b.ctor≠-1
theorem Q8o (cut:Int→Bool):∀ (m:Nat) (n fr:Int),∀ b∈Z0e cut m n fr,b.ctor = -1
 | 0,_,_,b,h=>by simp [Z0e] at h
 | m+1,n,fr,b,h=>by
  unfold Z0e at h
  split at h
  ·rcases U8.1 h with rfl | h
   ·rfl
   ·exact Q8o cut m _ _ b h
  ·exact Q8o cut m _ _ b h
theorem V6o {w:List Q3}(hL:WL w){t:Q6}(ht:t∈tys w){rows:List Grow}{k:Nat} : ∀ b∈brsD w rows t k,BrC w t b:=fun b hb=>by
 unfold brsD at hb
 split at hb
 ·rename_i hd
  exact ⟨fun _=>Q8o _ _ _ _ b hb,fun h=>absurd hd h⟩
 ·rename_i hd
  obtain ⟨x,hx,rfl⟩:=U10.1 hb
  have hx:=(List.mem_filter.1 hx).1
  exact ⟨fun h=>absurd h hd,fun _=>⟨hx,hL.pos t ht hd x hx⟩⟩
theorem W1i {w:List Q3}(hS:WS w){t:Q6}(ht:t∈tys w){p:Q0}(h:PatC w t p){b:Q8}(hb:BrC w t b)(hf:Q46 p b=true){col:Z5}(hc:col.t=t) :
  (Q27 p (Y4 w col b)).length=(Y4 w col b).length∧(∀ (i:Nat) (x:Q0) (c:Z5),(Q27 p (Y4 w col b))[i]?=some x→(Y4 w col b)[i]?=some c→PatO w c.t x)∧(Q27 p (Y4 w col b)).flatMap Q45=Q45 p:=by
 have hn:=Q0a h.1
 by_cases h1:p.op=1
 ·have hk:Q27 p (Y4 w col b)=(Y4 w col b).map fun _=>anyP:=by rw [Q27,if_pos h1]
  rw [hk]
  refine ⟨by simp,fun i x c hx _=>?_,?_⟩
  ·rw [List.getElem?_map,U11] at hx
   obtain ⟨_,_,rfl⟩:=hx
   exact ⟨(Z9c w c.t).1,(Z9c w c.t).2.1⟩
  ·rw [Q8u p,if_neg (by omega),Z1i hn (by omega) (by omega) (by omega)]
   generalize Y4 w col b=l
   induction l with
   | nil=>rfl
   | cons a l ih=>rw [List.map_cons,List.flatMap_cons,ih,X0y];rfl
 ·have hk:Q27 p (Y4 w col b)=p.kids:=by rw [Q27,if_neg h1]
  rw [hk]
  have hv:p.kids.flatMap Q45=Q45 p:=by
   rw [Q8u p,if_neg (by rcases h.2.2 with h | h | h<;>omega),Q68];rfl
  by_cases h3:p.op=3
  ·have hd:t.data = -1:=by rcases Z0p hn with h | h | h | h | h | h<;>first | omega | exact h.2.1
   have ha:Y4 w col b=[]:=by unfold Y4;rw [if_pos (hb.int hd)]
   have hk0:=Z1i hn (by omega) (by omega) (by omega)
   rw [ha,hk0]
   exact ⟨rfl,fun i x c hx _=>by simp at hx,by rw [←hv,hk0]⟩
  ·have h4:p.op=4:=by rcases h.2.2 with h | h | h<;>omega
   have hct:p.ctor∈W1 w t:=Q81 (Q0t hn).1 h4
   have hd:t.data≠-1:=fun hd=>by rw [hS.int t ht hd] at hct;cases hct
   have hfc:p.ctor=b.ctor:=by simpa [Q46,h1,h3] using hf
   have hkt:J1 w t p=Q0z w t b.ctor:=by rw [J1,if_pos h4,hfc]
   refine ⟨?_,fun i x c hx hc'=>?_,hv⟩
   ·rw [Q63,if_neg (hb.ctor hd).2,(Q0t hn).2,hkt,hc]
   ·have hil:i<(Q0z w col.t b.ctor).length:=by
     have:=(List.getElem?_eq_some_iff.1 hc').1
     rw [Q63,if_neg (hb.ctor hd).2] at this
     exact this
    have hti:(Q0z w col.t b.ctor)[i]?=some ((Q0z w col.t b.ctor)[i]):=U9 hil
    have:=Z35 (col:=col) (hb.ctor hd).2 hti
    rw [this] at hc'
    cases hc'
    exact Z9b ⟨h.1,h.2.1⟩ (by rw [hkt,←hc];exact hti) hx
structure RowC (w:List Q3) (lst:List Z1) (cols:List Z5) (r:Grow):Prop where
 len:r.pats.length=cols.length
 pat:∀ x∈cols.zip r.pats,PatC w x.1.t x.2
 nd:(Z7d r).Nodup
 rg:∀ v∈Z7d r,0≤v∧v≤5
 c0:0≤r.clause
 c1:r.clause<lst.length
 bp:∀ b∈r.binds,b.path.length≤1000
structure ColC (w:List Q3) (cols:List Z5) (left:Nat):Prop where
 ty:∀ c∈cols,c.t∈tys w
 path:∀ c∈cols,c.path.length+left≤300
 len:cols.length+2 * left≤601
theorem RowC.at {w:List Q3}{lst:List Z1}{cols:List Z5}{r:Grow}(h:RowC w lst cols r){k:Nat}{col:Z5}(hk:cols[k]?=some col):k<r.pats.length∧PatC w col.t (X6 r k):=by
 have hlt:k<r.pats.length:=by rw [h.len];exact (List.getElem?_eq_some_iff.1 hk).1
 have hp:r.pats[k]?=some (X6 r k):=by unfold X6;rw [U9 hlt];rfl
 exact ⟨hlt,h.pat (col,X6 r k) (U1 (Q7a hk hp))⟩
theorem RowC.binds {w:List Q3}{lst:List Z1}{cols:List Z5}{r:Grow}(h:RowC w lst cols r):(r.binds.map (·.var)).Nodup∧(∀ b∈r.binds,0≤b.var∧b.var≤5)∧r.binds.length≤6:=by
 have h1:=(List.nodup_append.1 h.nd).1
 have h2:∀ b∈r.binds,0≤b.var∧b.var≤5:=fun b hb=>h.rg b.var (by unfold Z7d;exact List.mem_append_left _ (List.mem_map_of_mem hb))
 refine ⟨h1,h2,?_⟩
 have h3:=Z1h 6 (r.binds.map (·.var)) h1 (fun x hx=>by
  obtain ⟨b,hb,rfl⟩:=U10.1 hx
  have:=h2 b hb
  omega)
 simpa using h3
theorem RowC.rng {w:List Q3}{lst:List Z1}{cols:List Z5}{rows:List Grow}(h:∀ r∈rows,RowC w lst cols r){k:Nat}(hk:k<cols.length):X5a rows k:=fun r hr=>by
 have hc:cols[k]?=some (cols[k]):=U9 hk
 obtain ⟨h1,h2⟩:=(h r hr).at hc
 refine ⟨h1,fun h3=>?_⟩
 rcases Z0p (Q0a h2.1) with h | h | h | h | h | h<;>first | omega | skip
theorem RowC.kept {w:List Q3}(hw:WW w)(hS:WS w){lst:List Z1}{cols:List Z5}{left:Nat}(hC:ColC w cols left){r:Grow}(h:RowC w lst cols r){k:Nat}{col:Z5}(hk:cols[k]?=some col){b:Q8}(hb:BrC w col.t b) :
  X70 r k b (Y4 w col b):=by
 have hct:=hC.ty col (U1 hk)
 have hT:=hw.ty _ hct
 obtain ⟨h1,h2⟩:=h.at hk
 have hlen:=hC.len
 have hpl:=hC.path col (U1 hk)
 have hal:(Y4 w col b).length≤3:=by
  rw [Q63]
  split
  ·omega
  ·rename_i hne
   by_cases hd:col.t.data = -1
   ·exact absurd (hb.int hd) hne
   ·exact hT.al _ (hb.ctor hd).1
 refine ⟨h1,fun hf=>(W1i hS hct h2 hb hf rfl).1,fun x hx=>?_,?_,hal,fun c hc=>?_,by have:=h.binds.2.2;omega,by rw [h.len];omega⟩
 ·by_cases h1:(X6 r k).op=1
  ·rw [Q27,if_pos h1] at hx
   obtain ⟨_,_,rfl⟩:=U10.1 hx
   exact fun h6=>absurd h6 (by decide)
  ·rw [Q27,if_neg h1] at hx
   obtain ⟨i,hi⟩:=List.getElem?_of_mem hx
   have hil:=(List.getElem?_eq_some_iff.1 hi).1
   have hln:=(Q0t (Q0a h2.1)).2
   have hti:(J1 w col.t (X6 r k))[i]?=some ((J1 w col.t (X6 r k))[i]'(by omega)):=U9 (by omega)
   have:=Z9b ⟨h2.1,h2.2.1⟩ hti hi
   exact Z67 12 _ _ this.1
 ·rcases h2.2.2 with h | h | h
  ·exact .inl h
  ·refine .inr (.inl ⟨h,?_⟩)
   have hd:col.t.data = -1:=by rcases Z0p (Q0a h2.1) with h | h | h | h | h | h<;>first | omega | exact h.2.1
   unfold Y4
   rw [if_pos (hb.int hd)]
  ·exact .inr (.inr h)
 ·unfold Y4 at hc
  split at hc
  ·cases hc
  ·obtain ⟨i,hi⟩:=List.getElem?_of_mem hc
   rw [List.getElem?_mapIdx,U11] at hi
   obtain ⟨_,_,rfl⟩:=hi
   simp only [U5,U3,U4]
   omega
theorem W8z {α β:Type}{a1 a2 a3:List α}{b1 b2 b3:List β}(h1:a1.length=b1.length)(h2:a2.length=b2.length):(a1++a2++a3).zip (b1++b2++b3)=a1.zip b1++a2.zip b2++a3.zip b3:=by
 rw [List.zip_append (by simp [h1,h2]),List.zip_append h1]
theorem X5d {α β:Type} : ∀ (a:List α) (b:List β) (k:Nat),(a.take k).zip (b.take k)=(a.zip b).take k
 | [],_,_=>by simp
 | _::_,[],_=>by simp
 | _::_,_::_,0=>by simp
 | x::a,y::b,k+1=>by simp [X5d a b k]
theorem X5e {α β:Type} : ∀ (a:List α) (b:List β) (k:Nat),(a.drop k).zip (b.drop k)=(a.zip b).drop k
 | [],_,_=>by simp
 | _::_,[],_=>by simp
 | _::_,_::_,0=>by simp
 | x::a,y::b,k+1=>by simp [X5e a b k]
theorem X0v {w:List Q3} : ∀ (ks:List Q0) (args:List Z5),ks.length=args.length→(∀ (i:Nat) (x:Q0) (c:Z5),ks[i]?=some x→args[i]?=some c→PatO w c.t x)→
  (((zipS ks args).flatMap (·.1)).map (·.var)++((zipS ks args).map (·.2)).flatMap Q45).Perm (ks.flatMap Q45)
 | [],[],_,_=>by simp [zipS]
 | [],_::_,h,_=>by simp at h
 | _::_,[],h,_=>by simp at h
 | p::ks,c::args,hl,h=>by
  have h0:=(Z5e c.path (h 0 p c rfl rfl)).2.1
  have ih:=X0v ks args (by simpa using hl) fun i x c h1 h2=>h (i+1) x c (by simpa using h1) (by simpa using h2)
  have e:zipS (p::ks) (c::args)=Q5o p c.path::zipS ks args:=rfl
  rw [e,List.flatMap_cons,List.map_cons,List.flatMap_cons,List.flatMap_cons,List.map_append,←h0]
  generalize (Q5o p c.path).1.map (·.var)=A
  generalize Q45 (Q5o p c.path).2=B
  generalize ((zipS ks args).flatMap (·.1)).map (·.var)=A' at *
  generalize ((zipS ks args).map (·.2)).flatMap Q45=B' at *
  rw [List.append_assoc,List.append_assoc]
  refine List.Perm.append_left A ?_
  refine List.Perm.trans ?_ (List.Perm.append_left B ih)
  rw [←List.append_assoc,←List.append_assoc]
  exact List.Perm.append_right _ List.perm_append_comm
theorem RowC.next {w:List Q3}(hw:WW w)(hS:WS w){lst:List Z1}{cols:List Z5}{left:Nat}(hC:ColC w cols left){r:Grow}(h:RowC w lst cols r){k:Nat}{col:Z5}(hk:cols[k]?=some col){b:Q8}(hb:BrC w col.t b)(hf:Q46 (X6 r k) b=true) :
  RowC w lst (Q6i cols k (Y4 w col b)) (Q72 r k (Y4 w col b)):=by
 have hct:=hC.ty col (U1 hk)
 obtain ⟨h1,h2⟩:=h.at hk
 obtain ⟨k1,k2,k3⟩:=W1i hS hct h2 hb hf (rfl:col.t=col.t)
 have hkl:k<cols.length:=(List.getElem?_eq_some_iff.1 hk).1
 have hlen:=h.len
 generalize hks:Q27 (X6 r k) (Y4 w col b)=ks at *
 generalize hargs:Y4 w col b=args at *
 have hzl:(zipS ks args).length=args.length:=by rw [zipS,List.length_zipWith,k1,Nat.min_self]
 have hvp:(Z7d (Q72 r k args)).Perm (Z7d r):=by
  unfold Z7d Q72
  rw [hks]
  have hp:r.pats=r.pats.take k++X6 r k::r.pats.drop (k+1):=by
   conv=>lhs;rw [←List.take_append_drop k r.pats]
   rw [List.drop_eq_getElem_cons h1]
   congr 2
   unfold X6
   rw [U9 h1];rfl
  conv=>rhs;rw [hp]
  simp only [List.map_append,List.flatMap_append,List.flatMap_cons]
  have hz:=X0v ks args k1 k2
  rw [k3] at hz
  generalize ((zipS ks args).flatMap (·.1)).map (·.var)=A at *
  generalize ((zipS ks args).map (·.2)).flatMap Q45=B at *
  generalize (r.pats.take k).flatMap Q45=X
  generalize (r.pats.drop (k+1)).flatMap Q45=Y
  rw [List.append_assoc]
  refine List.Perm.append_left _ ?_
  have e1:(A++(X++B++Y)).Perm (X++(A++B)++Y):=by
   rw [←List.append_assoc,←List.append_assoc,←List.append_assoc]
   refine List.Perm.append_right _ (List.Perm.append_right _ List.perm_append_comm)
  have e2:(X++(A++B)++Y).Perm (X++Q45 (X6 r k)++Y):=List.Perm.append_right _ (List.Perm.append_left _ hz)
  refine (e1.trans e2).trans ?_
  rw [List.append_assoc]
 refine ⟨?_,fun x hx=>?_,hvp.nodup_iff.2 h.nd,fun v hv=>h.rg v (hvp.mem_iff.1 hv),h.c0,h.c1,fun x hx=>?_⟩
 ·simp only [Q72,Q6i,hks,U5,U6,List.length_drop,U7,hzl]
  omega
 ·simp only [Q72,Q6i,hks] at hx
  rw [W8z (by rw [U6,U6,hlen]) (by rw [U7,hzl]),X5d,X5e] at hx
  rcases List.mem_append.1 hx with hx | hx
  ·rcases List.mem_append.1 hx with hx | hx
   ·exact h.pat x (List.mem_of_mem_take hx)
   ·obtain ⟨i,hi⟩:=List.getElem?_of_mem hx
    rw [List.getElem?_zip_eq_some,List.getElem?_map,U11] at hi
    obtain ⟨hi1,z,hi2,hi3⟩:=hi
    have hil:i<ks.length:=by rw [k1];exact (List.getElem?_eq_some_iff.1 hi1).1
    have hki:ks[i]?=some (ks[i]):=U9 hil
    rw [Z4z hki hi1] at hi2
    cases hi2
    rw [←hi3]
    exact (Z5e x.1.path (k2 i _ _ hki hi1)).1
  ·exact h.pat x (List.mem_of_mem_drop hx)
 ·simp only [Q72,hks] at hx
  rcases List.mem_append.1 hx with hx | hx
  ·exact h.bp x hx
  ·obtain ⟨z,hz,hxz⟩:=List.mem_flatMap.1 hx
   obtain ⟨i,hi⟩:=List.getElem?_of_mem hz
   have hil:i<args.length:=by rw [←hzl];exact (List.getElem?_eq_some_iff.1 hi).1
   have hki:ks[i]?=some (ks[i]'(by omega)):=U9 (by omega)
   have hai:args[i]?=some (args[i]):=U9 hil
   rw [Z4z hki hai] at hi
   cases hi
   rw [(Z5e _ (k2 i _ _ hki hai)).2.2 x hxz]
   have hK:=(RowC.kept hw hS hC h hk hb).ap
   rw [hargs] at hK
   have hpl:=hC.path col (U1 hk)
   have hm:args[i]∈Y4 w col b:=by rw [hargs];exact List.getElem_mem _
   unfold Y4 at hm
   split at hm
   ·cases hm
   ·obtain ⟨j,hj⟩:=List.getElem?_of_mem hm
    rw [List.getElem?_mapIdx,U11] at hj
    obtain ⟨_,_,hj⟩:=hj
    rw [←hj]
    simp only [U5,U3,U4]
    omega
theorem ColC.next {w:List Q3}(hw:WW w){cols:List Z5}{left:Nat}(hC:ColC w cols (left+1)){k:Nat}{col:Z5}(hk:cols[k]?=some col){b:Q8}(hb:BrC w col.t b):ColC w (Q6i cols k (Y4 w col b)) left:=by
 have hct:=hC.ty col (U1 hk)
 have hT:=hw.ty _ hct
 have hkl:k<cols.length:=(List.getElem?_eq_some_iff.1 hk).1
 have hlen:=hC.len
 have hpl:=hC.path col (U1 hk)
 have harg:∀ c∈Y4 w col b,c.t∈tys w∧c.path.length=col.path.length+1:=fun c hc=>by
  unfold Y4 at hc
  split at hc
  ·cases hc
  ·rename_i hne
   have hd:col.t.data≠-1:=fun hd=>hne (hb.int hd)
   obtain ⟨i,hi⟩:=List.getElem?_of_mem hc
   rw [List.getElem?_mapIdx,U11] at hi
   obtain ⟨a,ha,rfl⟩:=hi
   exact ⟨hT.at_ _ (hb.ctor hd).1 a (U1 ha),by simp⟩
 have hal:(Y4 w col b).length≤3:=by
  rw [Q63]
  split
  ·omega
  ·rename_i hne
   by_cases hd:col.t.data = -1
   ·exact absurd (hb.int hd) hne
   ·exact hT.al _ (hb.ctor hd).1
 have hmem:∀ c∈Q6i cols k (Y4 w col b),c∈cols∨c∈Y4 w col b:=fun c hc=>by
  unfold Q6i at hc
  rcases List.mem_append.1 hc with hc | hc
  ·rcases List.mem_append.1 hc with hc | hc
   ·exact .inl (List.mem_of_mem_take hc)
   ·exact .inr hc
  ·exact .inl (List.mem_of_mem_drop hc)
 refine ⟨fun c hc=>?_,fun c hc=>?_,?_⟩
 ·rcases hmem c hc with h | h
  ·exact hC.ty c h
  ·exact (harg c h).1
 ·rcases hmem c hc with h | h
  ·have:=hC.path c h;omega
  ·have:=(harg c h).2;omega
 ·simp only [Q6i,U5,U6,List.length_drop]
  omega
def CI (w:List Q3)(lst:List Z1)(pick:Int)(left:Int):Z9:=⟨⟨w,dimP w⟩,lst,pick,300-left⟩
def Q64 (t:X0):List X0:=t.branches.map (fun b=>b.tree)++t.else_
def Q6v:Nat→X0→Prop
 | 0,_=>False
 | d+1,t=>(t.binds.length≤1000∧(∀ b∈t.binds,b.path.length≤1000)∧t.path.length≤1000∧t.branches.length≤20∧t.else_.length≤1)∧∀ x∈Q64 t,Q6v d x
def Q11:Nat→X0→Nat
 | 0,_=>0
 | d+1,t=>1+((Q64 t).map (Q11 d)).sum
theorem X95:∀ {d e:Nat} {t:X0},Q6v d t→d≤e→Q6v e t:=by
 intro d
 induction d with
 | zero=>intro e t h;exact h.elim
 | succ d ih=>
  intro e t h he
  obtain ⟨e,rfl⟩:∃ k,e=k+1:=⟨e-1,by omega⟩
  exact ⟨h.1,fun x hx=>ih (h.2 x hx) (by omega)⟩
theorem Z91:∀ {d e:Nat} {t:X0},Q6v d t→d≤e→Q11 e t=Q11 d t:=by
 intro d
 induction d with
 | zero=>intro e t h;exact h.elim
 | succ d ih=>
  intro e t h he
  obtain ⟨e,rfl⟩:∃ k,e=k+1:=⟨e-1,by omega⟩
  unfold Q11
  rw [List.map_congr_left fun x hx=>ih (h.2 x hx) (show d≤e by omega)]
def brsR (P:Q8→X0→Prop):List Q8→List Q8→Prop
 | [],[]=>True
 | b::bs,x::xs=>(x.ctor=b.ctor∧x.n=b.n∧x.m=b.m∧P b x.tree)∧brsR P bs xs
 | _,_=>False
theorem X31 {P Q:Q8→X0→Prop}(h:∀ b t,P b t→Q b t):∀ {bs xs:List Q8},brsR P bs xs→brsR Q bs xs
 | [],[],_=>trivial
 | [],_::_,e=>e.elim
 | _::_,[],e=>e.elim
 | _::_,_::_,⟨⟨e1,e2,e3,e4⟩,e5⟩=>⟨⟨e1,e2,e3,h _ _ e4⟩,X31 h e5⟩
def Q9k (w:List Q3)(lst:List Z1)(pick:Int):Nat→X0→List Grow→List Z5→Prop
 | 0,_,_,_=>False
 | d+1,t,rows,cols=>match rows with
  | []=>t=zT
  | r0::rest=>match Q9n w (r0::rest) cols pick with
   | none=>t.op=1∧t.clause=r0.clause∧t.binds=Z29 r0.binds∧t.path=[]∧t.branches=[]∧∃ cl,lst[r0.clause.toNat]?=some cl∧
     ((cl.guard.op=0∧t.else_=[])∨(cl.guard.op≠0∧∃ el,t.else_=[el]∧Q9k w lst pick d el (Q36 (r0::rest) r0.clause) cols))
   | some k=>∃ col,cols[k]?=some col∧t.op=2∧t.clause=0∧t.binds=[]∧t.path=col.path∧t.else_=[]∧
     brsR (fun b x=>Q9k w lst pick d x (Q4y (r0::rest) k b (Y4 w col b)) (Q6i cols k (Y4 w col b))) (brsD w (r0::rest) col.t k) t.branches
theorem X75 {w:List Q3}{lst:List Z1}{pick:Int} : ∀ {d e:Nat} {t:X0} {rows:List Grow} {cols:List Z5},d≤e→Q9k w lst pick d t rows cols→Q9k w lst pick e t rows cols:=by
 intro d
 induction d with
 | zero=>intro e t rows cols _ h;exact h.elim
 | succ d ih=>
  intro e t rows cols he h
  obtain ⟨e,rfl⟩:∃ k,e=k+1:=⟨e-1,by omega⟩
  cases rows with
  | nil=>exact h
  | cons r0 rest=>
   simp only [Q9k] at h ⊢
   cases hp:Q9n w (r0::rest) cols pick with
   | none=>
    rw [hp] at h
    simp only at h ⊢
    obtain ⟨h1,h2,h3,h4,h5,cl,h6,h7⟩:=h
    refine ⟨h1,h2,h3,h4,h5,cl,h6,?_⟩
    rcases h7 with h7 | ⟨h7,el,h8,h9⟩
    ·exact .inl h7
    ·exact .inr ⟨h7,el,h8,ih (by omega) h9⟩
   | some k=>
    rw [hp] at h
    simp only at h ⊢
    obtain ⟨col,h1,h2,h3,h4,h5,h6,h7⟩:=h
    exact ⟨col,h1,h2,h3,h4,h5,h6,X31 (fun b t h=>ih (by omega) h) h7⟩
def Both (w:List Q3)(lst:List Z1)(pick:Int)(tot:Nat)(Q:X0→Prop)(x:Option (X0×Bool×Z9))(y:Option (X0×Int)):Prop:=
 ∃ ti ok c ts e,x=some (ti,ok,c)∧y=some (ts,e)∧((ok=true∧ti=ts∧∃ l:Nat,e=(l:Int)∧c=CI w lst pick (l:Int)∧Q6v tot ti∧Q11 tot ti+l=tot∧Q ti)∨(ok=false∧e<0))
theorem W6r {n:Int}(h0:0≤n)(h:n≤100000):Q1n n=some []:=by
 unfold Q1n
 have e:ilt n 0=false:=by rw [W9];exact h0
 have e0:wsub .i64 0 (lenZ 0)=0:=rfl
 have e1:wsub .i64 n 0=n:=by rw [Q2a]<;>omega
 simp only [e,U2,if_false,e0,e1]
 by_cases hn:0<n
 ·have e2:ilt 0 n=true:=by rw [W0];exact hn
  have e3:mkS n (Z5.mk [] (Q6.mk 0 0))=some (List.replicate n.toNat (Z5.mk [] (Q6.mk 0 0))):=by
   unfold mkS;rw [if_pos ⟨h0,by simp [Q5];omega⟩]
  rw [if_pos e2,e3]
  rfl
 ·have e2:ilt 0 n=false:=by rw [W9];omega
  rw [if_neg (by rw [e2];simp)]
  rfl
theorem W2u {a b c:List Z5}(h:a.length+b.length+c.length≤100000):Q14 [a,b,c]=some (a++b++c):=by
 unfold Q14
 have hA:wadd .i64 0 (lenZ a.length)=(a.length:Int):=by rw [J2]<;>simp only [lenZ]<;>omega
 have hB:wadd .i64 (a.length:Int) (lenZ b.length)=(a.length:Int)+b.length:=by rw [J2]<;>simp only [lenZ]<;>omega
 have hC:wadd .i64 ((a.length:Int)+b.length) (lenZ c.length)=(a.length:Int)+b.length+c.length:=by rw [J2]<;>simp only [lenZ]<;>omega
 have l1:ilt (a.length:Int) 0=false:=by rw [W9];omega
 have l2:ilt ((a.length:Int)+b.length) 0=false:=by rw [W9];omega
 have l3:ilt ((a.length:Int)+b.length+c.length) 0=false:=by rw [W9];omega
 simp only [forL,hA,hB,hC,l1,l2,l3,U2,if_false,U0]
 rw [W6r (by omega) (by omega)]
 simp only [U0]
 rw [W2 (by simp [Q5];omega)]
 simp only [U0,List.nil_append]
 rw [W2 (by simp only [Q5];omega)]
 simp only [U0]
 rw [W2 (by simp only [U5,Q5];omega)]
 rfl
theorem W33 {w:List Q3}{lst:List Z1}{pick:Int}{ρ:Type}{F:Nat→Q8→Z9×List Q8→Option (Ctl (X0×Bool×Z9) (Z9×List Q8))}{G:Nat→Q8→Int×List Q8→Option (Ctl ρ (Int×List Q8))}{L:Nat}{brs:List Q8}{P:Q8→X0→Prop}
  (hFG:∀ b∈brs,∀ (i j l:Nat) (out:List Q8),l≤L→out.length≤20→
   (∃ (t:X0) (l':Nat),(Q6v L t∧Q11 L t+l'=l∧P b t)∧F i b (CI w lst pick l,out)=some (.go (CI w lst pick l',out++[⟨b.ctor,b.n,b.m,t⟩]))∧G j b ((l:Int),out)=some (.go ((l':Int),out++[⟨b.ctor,b.n,b.m,t⟩])))∨
   (∃ (c:Z9) (e:Int) (out':List Q8),e<0∧F i b (CI w lst pick l,out)=some (.ret (zT,false,c))∧G j b ((l:Int),out)=some (.go (e,out'))))
  (hG:∀ (j:Nat) (b:Q8) (e:Int) (out:List Q8),e<0→G j b (e,out)=some (.brk (e,out))) :
  ∀ (bs:List Q8),(∀ b∈bs,b∈brs)→∀ (i j l:Nat) (out:List Q8),l≤L→out.length+bs.length≤20→
   (∃ (l':Nat) (out':List Q8),((∀ b∈out',b∈out∨Q6v L b.tree)∧(out'.map fun b=>Q11 L b.tree).sum+l'=(out.map fun b=>Q11 L b.tree).sum+l∧out'.length≤out.length+bs.length∧∃ ys,out'=out++ys∧brsR P bs ys)∧forL F i bs (CI w lst pick l,out)=some (.brk (CI w lst pick l',out'))∧forL G j bs ((l:Int),out)=some (.brk ((l':Int),out')))∨
   (∃ (c:Z9) (e:Int) (out':List Q8),e<0∧forL F i bs (CI w lst pick l,out)=some (.ret (zT,false,c))∧forL G j bs ((l:Int),out)=some (.brk (e,out'))):=by
 intro bs
 induction bs with
 | nil=>intro _ i j l out hl _;exact .inl ⟨l,out,⟨fun b h=>.inl h,rfl,by simp,[],by simp,trivial⟩,rfl,rfl⟩
 | cons b bs ih=>
  intro hm i j l out hl hlen
  simp only [U3] at hlen
  rcases hFG b (hm b (by simp)) i j l out hl (by omega) with ⟨t,l',hl',e1,e2⟩ | ⟨c,e,out',he,e1,e2⟩
  ·unfold forL
   rw [e1,e2]
   rcases ih (fun x hx=>hm x (by simp [hx])) (i+1) (j+1) l' (out++[⟨b.ctor,b.n,b.m,t⟩]) (by omega) (by simp;omega) with ⟨l2,out',⟨h1,h2,h3,ys,h6,h7⟩,h4,h5⟩ | h
   ·refine .inl ⟨l2,out',⟨fun x hx=>?_,?_,?_,⟨b.ctor,b.n,b.m,t⟩::ys,by rw [h6];simp,⟨⟨rfl,rfl,rfl,hl'.2.2⟩,h7⟩⟩,h4,h5⟩
    ·rcases h1 x hx with h | h
     ·rcases List.mem_append.1 h with h | h
      ·exact .inl h
      ·simp only [U8,List.not_mem_nil,or_false] at h
       subst h
       exact .inr hl'.1
     ·exact .inr h
    ·rw [h2]
     simp only [List.map_append,List.map_cons,List.map_nil,List.sum_append,List.sum_cons,List.sum_nil]
     omega
    ·simp only [U5,U3,U4] at h3
     simp only [U3]
     omega
   ·exact .inr h
  ·refine .inr ?_
   unfold forL
   rw [e1,e2]
   cases bs with
   | nil=>exact ⟨c,e,out',he,rfl,rfl⟩
   | cons b2 bs=>
    refine ⟨c,e,out',he,rfl,?_⟩
    dsimp only
    unfold forL
    rw [hG _ _ _ _ he]
def W8w (w:List Q3)(lst:List Z1)(pick:Int)(left:Nat):Prop:=∀ (n m:Nat) (rows:List Grow) (cols:List Z5),2 * left+1500≤n→left+1500≤m→rows.length≤1000→ColC w cols left→(∀ r∈rows,RowC w lst cols r)→
 Both w lst pick left (fun t=>Q9k w lst pick left t rows cols) (Y8 n (CI w lst pick left) rows cols) (Q1o m w lst (cols.map toD) (rows.map toS) pick left)
theorem Z2l {rows:List Grow}{c:Int}{r:Grow}(h:r∈Q36 rows c):r∈rows:=(List.mem_filter.1 h).1
theorem W15 (rows:List Grow)(c:Int):(Q36 rows c).length≤rows.length:=List.length_filter_le _ _
theorem W9x {w:List Q3}{lst:List Z1}{pick:Int}{L n m:Nat}(hT:W8w w lst pick L)(hn:2 * L+1501≤n)(hm:L+1500≤m){r0:Grow}{rest:List Grow}{cols:List Z5}
  (hrl:(r0::rest).length≤1000) (hC:ColC w cols L) (hr:∀ r∈r0::rest,RowC w lst cols r) (hpk:Q9n w (r0::rest) cols pick=none) :
  Both w lst pick (L+1) (fun t=>Q9k w lst pick (L+1) t (r0::rest) cols) (Q0s n (CI w lst pick L) (r0::rest) cols)
   (((Q2v m r0.binds).bind fun r27=>((idx lst r0.clause).bind fun x30=>
    (if (ieq x30.guard.op 0)=true then some (((X0.mk 1 r0.clause r27 [] [] []),(L:Int)))
    else ((Q2s ((r0::rest).map toS) r0.clause).bind fun r32=>((Q1o m w lst (cols.map toD) r32 pick L).bind fun r33=>some (((X0.mk 1 r0.clause r27 [] [] [r33.1]),r33.2)))))))):=by
 obtain ⟨n,rfl⟩:∃ k,n=k+1:=⟨n-1,by omega⟩
 have h0:=hr r0 (by simp)
 obtain ⟨b1,b2,b3⟩:=h0.binds
 unfold Q0s
 rw [show idx (r0::rest) 0=some r0 from rfl]
 simp only [U0]
 rw [Q8e _ (by simp only [Q5];omega)]
 simp only [U0]
 rw [W51 (by omega) (by omega) b1 b2,X1d (by omega) (by omega) (fun b hb=>by have:=h0.bp b hb;omega)]
 simp only [U0]
 rw [Z8s (by rw [(Q8j b2).length_eq];simp)]
 simp only [U0]
 have hcl:r0.clause.toNat<lst.length:=by have:=h0.c0;have:=h0.c1;omega
 have hcl2:idx lst r0.clause=some (lst[r0.clause.toNat]):=Z3i h0.c0 (U9 hcl)
 rw [show (CI w lst pick (L:Int)).list=lst from rfl,hcl2]
 simp only [U0]
 have hcg:lst[r0.clause.toNat]?=some (lst[r0.clause.toNat]):=U9 hcl
 generalize lst[r0.clause.toNat]=cl at hcg ⊢
 have hsl:=(Q8j b2).length_eq
 have hbs:∀ (el:List X0),el.length≤1→((Z29 r0.binds).length≤1000∧(∀ b∈Z29 r0.binds,b.path.length≤1000)∧([]:List Int).length≤1000∧([]:List Q8).length≤20∧el.length≤1):=fun el he=>
  ⟨by omega,fun b hb=>h0.bp b ((Q8j b2).mem_iff.1 hb),by simp,by simp,he⟩
 by_cases hg:cl.guard.op=0
 ·have e:ieq cl.guard.op 0=true:=by simp [ieq,hg]
  simp only [e,if_true]
  exact ⟨_,_,_,_,_,rfl,rfl,.inl ⟨rfl,rfl,L,rfl,rfl,⟨hbs [] (by simp),by simp [Q64]⟩,by simp [Q11,Q64];omega,by simp only [Q9k,hpk];exact ⟨trivial,trivial,trivial,trivial,trivial,cl,hcg,.inl ⟨hg,trivial⟩⟩⟩⟩
 ·have e:ieq cl.guard.op 0=false:=by simp [ieq,hg]
  simp only [e,U2,if_false]
  simp only [U3] at hrl
  rw [W2v (by simp only [U3];omega)]
  simp only [U0]
  rw [X20 (by simp only [U3];omega) (by omega),X19 (by simp only [U3];omega)]
  simp only [U0]
  have hol:=W15 (r0::rest) r0.clause
  simp only [U3] at hol
  obtain ⟨ti,ok,c,ts,e,h1,h2,h3⟩:=hT n m (Q36 (r0::rest) r0.clause) cols (by omega) hm (by omega) hC (fun r h=>hr r (Z2l h))
  rw [h1,h2]
  simp only [U0]
  refine ⟨_,_,_,_,_,rfl,rfl,?_⟩
  rcases h3 with ⟨rfl,rfl,l,rfl,rfl,hd,hz,hq⟩ | ⟨rfl,he⟩
  ·exact .inl ⟨rfl,rfl,l,rfl,rfl,⟨hbs [ti] (by simp),by simpa [Q64] using hd⟩,by simp [Q11,Q64];omega,by simp only [Q9k,hpk];exact ⟨trivial,trivial,trivial,trivial,trivial,cl,hcg,.inr ⟨hg,ti,rfl,hq⟩⟩⟩
  ·exact .inr ⟨rfl,he⟩
theorem X5q (rows:List Grow)(k:Nat)(b:Q8)(args:List Z5):(Q4y rows k b args).length≤rows.length:=by
 unfold Q4y
 rw [U7]
 exact List.length_filter_le _ _
theorem W94 {w:List Q3}(hw:WW w)(hL:WL w)(hS:WS w){lst:List Z1}{pick:Int} : ∀ left:Nat,left≤300→W8w w lst pick left:=by
 intro left
 induction left using Nat.strongRecOn with
 | ind left ih=>
 intro hle n m rows cols hn hm hrl hC hr
 obtain ⟨n,rfl⟩:∃ k,n=k+1:=⟨n-1,by omega⟩
 obtain ⟨m,rfl⟩:∃ k,m=k+1:=⟨m-1,by omega⟩
 unfold Y8 Q1o
 have hcnt:(CI w lst pick (left:Int)).count=300-(left:Int):=rfl
 rw [hcnt,J2 (by omega) (by omega),Q2a (by omega) (by omega)]
 cases left with
 | zero=>
  have e1:ilt 300 (300-((0:Nat):Int)+1)=true:=rfl
  have e2:ilt (((0:Nat):Int)-1) 0=true:=rfl
  rw [if_pos e1,if_pos e2]
  exact ⟨_,_,_,_,_,rfl,rfl,.inr ⟨rfl,by omega⟩⟩
 | succ L=>
 have e1:ilt 300 (300-((L+1:Nat):Int)+1)=false:=by rw [W9];omega
 have e2:ilt (((L+1:Nat):Int)-1) 0=false:=by rw [W9];omega
 have eC:(Z9.mk (CI w lst pick ((L+1:Nat):Int)).spaces (CI w lst pick ((L+1:Nat):Int)).list (CI w lst pick ((L+1:Nat):Int)).pick (300-((L+1:Nat):Int)+1))=CI w lst pick (L:Int):=by
  show Z9.mk ⟨w,dimP w⟩ lst pick (300-((L+1:Nat):Int)+1)=Z9.mk ⟨w,dimP w⟩ lst pick (300-(L:Int))
  rw [show 300-((L+1:Nat):Int)+1=300-(L:Int) by omega]
 rw [e1,e2,eC,show (((L+1:Nat):Int)-1)=(L:Int) by omega]
 simp only [U2,if_false,U7]
 have hCL:ColC w cols L:=⟨hC.ty,fun c hc=>by have:=hC.path c hc;omega,by have:=hC.len;omega⟩
 cases rows with
 | nil=>
  have e:ieq (lenZ ([]:List Grow).length) 0=true:=rfl
  rw [if_pos e,if_pos e]
  exact ⟨_,_,_,_,_,rfl,rfl,.inl ⟨rfl,rfl,L,rfl,rfl,⟨by simp,by simp [Q64]⟩,by simp [Q11,Q64];omega,by simp only [Q9k];rfl⟩⟩
 | cons r0 rest=>
 have e:ieq (lenZ (r0::rest).length) 0=false:=by
  rw [ieq,decide_eq_false_iff_not,Q1h,U3]
  omega
 have h0:=hr r0 (by simp)
 have hlen:=hC.len
 simp only [e,U2,if_false]
 rw [show idx ((r0::rest).map toS) 0=some (toS r0) from rfl]
 simp only [U0]
 have hch:=Z9l hw hL (n:=n) (by omega) (lst:=lst) (pick:=pick) (count:=300-(L:Int)) (rows:=r0::rest) (cols:=cols) (by simp) (by omega) hC.ty (fun k hk=>RowC.rng hr hk)
 rw [show Q02 n (CI w lst pick (L:Int)) (r0::rest) cols=some (optI (Q9n w (r0::rest) cols pick),CI w lst pick (L:Int)) from hch,Z44]
 simp only [U0]
 have hfirst:Q9m (toR (toS r0))=none↔Q9n w (r0::rest) cols pick=none:=by
  unfold Q9m Q9n
  rw [Q8k,Q8k]
  have hpl:(toR (toS r0)).pats.length=cols.length:=h0.len
  rw [hpl]
  exact Iff.rfl
 cases hp:Q9n w (r0::rest) cols pick with
 | none=>
  rw [hfirst.2 hp]
  have e:ilt (optI none) 0=true:=rfl
  simp only [e,if_true]
  obtain ⟨ti,ok,c,ts,e,h1,h2,h3⟩:=W9x (ih L (by omega) (by omega)) (n:=n) (m:=m) (by omega) (by omega) hrl hCL hr hp
  rw [h1]
  simp only [U0]
  exact ⟨ti,ok,c,ts,e,rfl,h2,h3⟩
 | some k=>
 obtain ⟨f,hf⟩:∃ f,Q9m (toR (toS r0))=some f:=by
  cases hq:Q9m (toR (toS r0)) with
  | none=>rw [hfirst.1 hq] at hp;cases hp
  | some f=>exact ⟨f,rfl⟩
 rw [hf]
 have e3:ilt (optI (some k)) 0=false:=by rw [W9];simp [optI]
 have e4:ilt (optI (some f)) 0=false:=by rw [W9];simp [optI]
 simp only [e3,e4,U2,if_false]
 have hkl:k<cols.length:=(Z2k hp).1
 obtain ⟨col,hk⟩:∃ c,cols[k]?=some c:=⟨_,U9 hkl⟩
 have hct:=hC.ty col (U1 hk)
 have hT:=hw.ty _ hct
 have hpl:=hC.path col (U1 hk)
 have hpk:=X3n hw hS (n:=m) (by omega) (pick:=pick) (row:=toS r0) (rest:=rest.map toS) (cols:=cols.map toD) (by simp only [U3,U7] at hrl ⊢;omega) (by rw [U7];omega) (by rw [U7];omega) (by rw [U7];exact h0.len)
  (fun c hc=>by obtain ⟨c',hc',rfl⟩:=U10.1 hc;exact hC.ty c' hc')
  (fun j hj=>by rw [←List.map_cons,toRS];exact RowC.rng hr (by rw [U7] at hj;exact hj)) hf
 rw [←List.map_cons,toRS,toCD,hp] at hpk
 rw [hpk]
 simp only [U0,optI]
 rw [Q28 hk,Q28 (show (cols.map toD)[k]?=some (toD col) by rw [List.getElem?_map,hk];rfl)]
 simp only [U0]
 rw [Z0g _ (by simp only [Q5];omega),W2 (by simp only [toD,U4,Q5];omega)]
 simp only [U0]
 have hbr:=Z06 hw hL (n:=n) (by omega) (lst:=lst) (pick:=pick) (count:=300-(L:Int)) (rows:=r0::rest) hk hct (RowC.rng hr hkl)
 rw [show V8 n (CI w lst pick (L:Int)) (r0::rest) cols (k:Int)=some (brsD w (r0::rest) col.t k,CI w lst pick (L:Int)) from hbr]
 have hcu:=Z1a hw hS (n:=m) (by omega) (rows:=(r0::rest).map toS) (col:=toD col) (k:=k) hct (by rw [toRS];exact RowC.rng hr hkl)
 rw [toRS] at hcu
 rw [hcu]
 simp only [U0]
 generalize hrows:r0::rest=rows at *
 have hbl:=W31 hT rows k
 rw [show (toD col).kind=col.t from rfl]
 generalize hbrs:brsD w rows col.t k=brs at *
 generalize hF:(fun (k2328:Nat) (x2329:Q8) (s2322:Z9×(List Q8))=>_)=F
 generalize hG:(fun (k186:Nat) (x187:Q8) (s180:Int×(List Q8))=>_)=G
 have hloop:=W33 (w:=w) (lst:=lst) (pick:=pick) (F:=F) (G:=G) (L:=L) (brs:=brs) (P:=fun b x=>Q9k w lst pick L x (Q4y rows k b (Y4 w col b)) (Q6i cols k (Y4 w col b))) (fun b hb i j l out hl hol=>?_) (fun j b e out he=>?_) brs (fun b h=>h) 0 0 L [] (Nat.le_refl _) (by simp;omega)
 ·rcases hloop with ⟨l',out',⟨g1,g2,g3,ys,g4,g5⟩,e1,e2⟩ | ⟨c,e,out',he,e1,e2⟩
  ·rw [e1,e2]
   refine ⟨_,_,_,_,_,rfl,rfl,.inl ⟨rfl,rfl,l',rfl,rfl,⟨⟨by simp,by simp,by simp only;omega,by simp only [U4] at g3 ⊢;omega,by simp⟩,fun x hx=>?_⟩,?_,?_⟩⟩
   ·simp only [Q64,List.append_nil] at hx
    obtain ⟨b,hb,rfl⟩:=U10.1 hx
    rcases g1 b hb with h | h
    ·cases h
    ·exact h
   ·simp only [Q11,Q64,List.append_nil,List.map_map]
    have:(List.map (Q11 L∘fun b=>b.tree) out')=out'.map fun b=>Q11 L b.tree:=rfl
    rw [this]
    simp only [List.map_nil,List.sum_nil] at g2
    omega
   ·rw [←hrows] at hp g5 hbrs ⊢
    simp only [Q9k,hp]
    rw [g4,List.nil_append]
    exact ⟨col,hk,trivial,trivial,trivial,rfl,trivial,by rw [hbrs];exact g5⟩
  ·rw [e1,e2]
   exact ⟨_,_,_,_,_,rfl,rfl,.inr ⟨rfl,he⟩⟩
 ·have hB:BrC w col.t b:=V6o hL hct b (by rw [hbrs];exact hb)
  have hCn:ColC w (Q6i cols k (Y4 w col b)) l:=by
   have:=ColC.next hw hC hk hB
   exact ⟨this.ty,fun c hc=>by have:=this.path c hc;omega,by have:=this.len;omega⟩
  have hRn:∀ r∈Q4y rows k b (Y4 w col b),RowC w lst (Q6i cols k (Y4 w col b)) r:=fun r hr'=>by
   unfold Q4y at hr'
   obtain ⟨r1,h1,rfl⟩:=U10.1 hr'
   obtain ⟨h2,h3⟩:=List.mem_filter.1 h1
   exact RowC.next hw hS hC (hr r1 h2) hk hB h3
  have hrn:=X5q rows k b (Y4 w col b)
  have hK:∀ r∈rows,X70 r k b (Y4 w col b):=fun r h=>RowC.kept hw hS hC (hr r h) hk hB
  obtain ⟨ti,ok,c,ts,e,h1,h2,h3⟩:=ih l (by omega) (by omega) n m (Q4y rows k b (Y4 w col b)) (Q6i cols k (Y4 w col b)) (by omega) (by omega) (by omega) hCn hRn
  have hal:(Y4 w col b).length≤3:=(hK r0 (by rw [←hrows];simp)).al
  have hI:F i b (CI w lst pick l,out)=some (if ok=true then .go (c,out++[⟨b.ctor,b.n,b.m,ti⟩]) else .ret (zT,false,c)):=by
   suffices hs:Ret (F i b (CI w lst pick l,out)) (fun a=>a=(if ok=true then .go (c,out++[⟨b.ctor,b.n,b.m,ti⟩]) else .ret (zT,false,c))) by
    obtain ⟨a,e,rfl⟩:=hs
    exact e
   rw [←hF]
   refine Ret.ctl (R:=fun _=>False) (B:=fun s=>s=Y4 w col b) ?_ (fun r h=>h.elim) (fun s hs=>?_)
   ·by_cases hc:b.ctor = -1
    ·have e:(!ieq b.ctor (-1))=false:=by simp [ieq,hc]
     simp only [e,U2,if_false]
     exact .some (by simp [Y4,hc])
    ·have e:(!ieq b.ctor (-1))=true:=by simp [ieq,hc]
     have hd:col.t.data≠-1:=fun hd=>hc (hB.int hd)
     simp only [e,if_true]
     rw [show (CI w lst pick (l:Int)).spaces.w=w from rfl,hT.a2 _ (hB.ctor hd).1]
     simp only [U0]
     refine Ret.ctl (Z4 (Q0z w col.t b.ctor) (fun i s=>s=(Y4 w col b).take i) (fun _=>False) (fun s=>s=Y4 w col b) (by simp) (fun i t s hi hI=>?_) (fun s hI=>?_)) (fun r hr=>hr.elim) (fun s hs=>.some hs)
     ·rw [W2 (by simp only [U3,U4,Q5];omega)]
      simp only [U0]
      rw [W2 (by rw [hI];simp only [U6,U3,U4,Q5];omega)]
      exact .some (by simp only [Q0b];rw [hI,List.take_add_one,Z35 hc hi];rfl)
     ·rw [hI,show (Q0z w col.t b.ctor).length=(Y4 w col b).length by rw [Q63,if_neg hc],List.take_length]
   ·subst hs
    dsimp only
    refine Ret.ctl (Z4 rows (fun i s=>s=Q4y (rows.take i) k b (Y4 w col b)) (fun _=>False) (fun s=>s=Q4y rows k b (Y4 w col b)) (by simp [Q4y]) (fun i r s hi hI=>?_) (fun s hI=>by rw [hI,List.take_length])) (fun r hr=>hr.elim) (fun s hs=>?_)
    ·have hil:i<rows.length:=(List.getElem?_eq_some_iff.1 hi).1
     rw [X47 (by omega) (hK r (U1 hi))]
     simp only [U0]
     have hsl:s.length≤1000:=by
      rw [hI]
      have:=X5q (rows.take i) k b (Y4 w col b)
      rw [U6] at this
      omega
     have hstep:Q4y (rows.take (i+1)) k b (Y4 w col b)=Q4y (rows.take i) k b (Y4 w col b)++(if Q46 (X6 r k) b=true then [Q72 r k (Y4 w col b)] else []):=by
      unfold Q4y
      rw [List.take_add_one,hi]
      simp only [Option.toList_some,List.filter_append,List.map_append]
      by_cases hf:Q46 (X6 r k) b=true<;>simp [hf]
     by_cases hf:Q46 (X6 r k) b=true
     ·rw [if_pos hf]
      simp only [if_true]
      rw [W2 (by simp only [U3,U4,Q5];omega)]
      exact .some (by simp only [Q0b];rw [hstep,if_pos hf,hI])
     ·rw [if_neg hf]
      simp only [U2,if_false]
      exact .some (by simp only [Q0b];rw [hstep,if_neg hf,hI,List.append_nil])
    ·subst hs
     dsimp only
     rw [Z24 (by omega)]
     simp only [U0]
     rw [J2 (by omega) (by omega),show ((k:Int)+1)=((k+1:Nat):Int) by simp,Z56 (by omega)]
     simp only [U0]
     rw [W2u (by simp only [U6,List.length_drop];omega)]
     simp only [U0]
     rw [show cols.take k++Y4 w col b++cols.drop (k+1)=Q6i cols k (Y4 w col b) from rfl,h1]
     simp only [U0]
     cases ok with
     | true=>
      simp only [Bool.not_true,U2,if_false]
      rw [W2 (by simp only [U3,U4,Q5];omega)]
      exact .some (by simp)
     | false=>
      simp only [Bool.not_false,if_true]
      exact .some (by simp [zT])
  have hJ:G j b ((l:Int),out)=some (.go (e,out++[⟨b.ctor,b.n,b.m,ts⟩])):=by
   rw [←hG]
   have e1:ile 0 (l:Int)=true:=by rw [Q09];omega
   have hb2:b.ctor≠-1→b.ctor∈W1 w col.t:=fun h=>(hB.ctor fun hd=>h (hB.int hd)).1
   simp only [e1,if_true]
   rw [Z26 hT hk hb2 (by omega) (by omega)]
   simp only [U0]
   rw [X3o (by omega) hT hk hb2 (by omega) (by omega) (by omega) (fun r h=>⟨hK r h,(hr r h).len⟩)]
   simp only [U0]
   rw [h2]
   simp only [U0]
   rw [W2 (by simp only [U3,U4,Q5];omega)]
   rfl
  rw [hI,hJ]
  rcases h3 with ⟨rfl,rfl,l',rfl,rfl,hd,hz,hq⟩ | ⟨rfl,he⟩
  ·exact .inl ⟨ti,l',⟨X95 hd hl,by rw [Z91 hd hl];exact hz,X75 hl hq⟩,by simp,rfl⟩
  ·exact .inr ⟨c,e,_,he,by simp,rfl⟩
 ·rw [←hG]
  have e1:ile 0 e=false:=by rw [Q56];omega
  simp only [e1,U2,if_false]
theorem X3z {l:List Q1}(hl:l.length≤1000)(hp:∀ b∈l,b.path.length≤1000):Q3b l=some l:=by
 suffices hs:Ret (Q3b l) (fun a=>a=l) by
  obtain ⟨a,e,rfl⟩:=hs
  exact e
 unfold Q3b
 refine Ret.ctl (Z4 l (fun i s=>s=l.take i) (fun _=>False) (fun s=>s=l) (by simp) (fun i x s hi hI=>?_) (fun s hI=>by rw [hI,List.take_length])) (fun r hr=>hr.elim) (fun s hs=>.some hs)
 have hx:=hp x (U1 hi)
 rw [Z0g _ (by simp only [Q5];omega)]
 simp only [U0]
 rw [W2 (by rw [hI];simp only [U6,U3,U4,Q5];omega)]
 exact .some (by simp only [Q0b];rw [hI,List.take_add_one,hi];rfl)
theorem X9a (x:Q8):Q8.mk x.ctor x.n x.m x.tree=x:=by cases x;rfl
theorem W4q (t:X0):X0.mk t.op t.clause t.binds t.path t.branches t.else_=t:=by cases t;rfl
theorem X7m:∀ (d n:Nat) (t:X0),Q6v d t→d≤n→Q1b n t=some t:=by
 intro d
 induction d with
 | zero=>intro n t h;exact h.elim
 | succ d ih=>
  intro n t h hn
  obtain ⟨n,rfl⟩:∃ k,n=k+1:=⟨n-1,by omega⟩
  obtain ⟨⟨h1,h2,h3,h4,h5⟩,h6⟩:=h
  suffices hs:Ret (Q1b (n+1) t) (fun a=>a=t) by
   obtain ⟨a,e,rfl⟩:=hs
   exact e
  unfold Q1b
  rw [X3z h1 h2,Z0g _ (by simp only [Q5];omega)]
  simp only [U0]
  refine Ret.ctl (Z4 t.branches (fun i s=>s=t.branches.take i) (fun _=>False) (fun s=>s=t.branches) (by simp) (fun i x s hi hI=>?_) (fun s hI=>by rw [hI,List.take_length])) (fun r hr=>hr.elim) (fun s hs=>?_)
  ·rw [ih n x.tree (h6 _ (List.mem_append_left _ (List.mem_map_of_mem (U1 hi)))) (by omega)]
   simp only [U0]
   rw [W2 (by rw [hI];simp only [U6,U3,U4,Q5];omega)]
   exact .some (by simp only [Q0b];rw [hI,List.take_add_one,hi,X9a];rfl)
  ·subst hs
   refine Ret.ctl (Z4 t.else_ (fun i s=>s=t.else_.take i) (fun _=>False) (fun s=>s=t.else_) (by simp) (fun i x s hi hI=>?_) (fun s hI=>by rw [hI,List.take_length])) (fun r hr=>hr.elim) (fun s hs=>.some (by rw [hs,W4q]))
   rw [ih n x (h6 _ (List.mem_append_right _ (U1 hi))) (by omega)]
   simp only [U0]
   rw [W2 (by rw [hI];simp only [U6,U3,U4,Q5];omega)]
   exact .some (by simp only [Q0b];rw [hI,List.take_add_one,hi];rfl)
def Q1s (k:Nat)(p:Q0):Grow:=⟨(k:Int),[(Q5o p []).2],(Q5o p []).1⟩
def Q1r (l:List Z1):Nat→List Grow
 | 0=>[]
 | i+1=>Q1r l i++(match l[i]? with
  | none=>[]
  | some c=>(Z3 10 c.pat).map (Q1s i))
theorem Z8b {l:List Z1} : ∀ {i:Nat} {r:Grow},r∈Q1r l i→∃ k c p,l[k]?=some c∧p∈Z3 10 c.pat∧r=Q1s k p:=by
 intro i
 induction i with
 | zero=>intro r h;cases h
 | succ i ih=>
  intro r h
  rw [Q1r] at h
  rcases List.mem_append.1 h with h | h
  ·exact ih h
  ·cases hc:l[i]? with
   | none=>rw [hc] at h;cases h
   | some c=>
    rw [hc] at h
    obtain ⟨p,hp,rfl⟩:=U10.1 h
    exact ⟨i,c,p,hc,hp,rfl⟩
theorem Z3d {l:List Z1}(h:∀ c∈l,(Z3 10 c.pat).length≤40):∀ i,(Q1r l i).length≤40 * i:=by
 intro i
 induction i with
 | zero=>simp [Q1r]
 | succ i ih=>
  rw [Q1r,U5]
  cases hc:l[i]? with
  | none=>simp only [U4];omega
  | some c=>
   have:=h c (U1 hc)
   simp only [U7]
   omega
def W3f (w:List Q3)(t:Q6)(l:List Z1):Prop:=∀ c∈l,Q0j w 10 t c.pat=true∧linD w 10 t c.pat=true
theorem X1k {w:List Q3}(hw:WW w){t:Q6}{l:List Z1}(hl:W3f w t l)(hll:l.length≤8):∀ r∈Q1r l l.length,RowC w l [⟨[],t⟩] r:=fun r hr=>by
 obtain ⟨k,c,p,hk,hp,rfl⟩:=Z8b hr
 obtain ⟨g,ln⟩:=hl c (U1 hk)
 have hkl:=(List.getElem?_eq_some_iff.1 hk).1
 have hO:PatO w t p:=⟨Q4h 11 t p (Q4h 10 t p (Q76 10 t c.pat p g hp)),Q7m 11 p (Q7m 10 p (Z3a 10 c.pat p hp))⟩
 obtain ⟨s1,s2,s3⟩:=Z5e [] hO
 have hv:Z7d (Q1s k p)=Q45 p:=by
  unfold Z7d Q1s
  simp only [List.flatMap_cons,List.flatMap_nil,List.append_nil]
  exact s2
 have hperm:=X7b 10 t c.pat p g ln hp
 have hd:=Q3h 10 t c.pat g ln
 simp only [Q0y,decide_eq_true_eq] at hd
 refine ⟨rfl,fun x hx=>?_,?_,fun v hv'=>?_,by simp [Q1s],by simp only [Q1s];omega,fun b hb=>?_⟩
 ·simp only [Q1s,List.zip_cons_cons,List.zip_nil_right,U8,List.not_mem_nil,or_false] at hx
  rw [hx]
  exact s1
 ·rw [hv];exact hperm.nodup_iff.2 hd
 ·rw [hv] at hv'
  obtain ⟨y,hy,rfl⟩:=U10.1 (hperm.mem_iff.1 hv')
  exact Z0m 10 t c.pat g y hy
 ·rw [s3 b hb];simp
theorem Z9j {w:List Q3}(hw:WW w){t:Q6}(ht:t∈tys w){l:List Z1}(hl:W3f w t l)(hll:l.length≤8) :
  Q18 NN l=some (if l.all (fun c=>decide ((Z3 10 c.pat).length≤40))=true then (l.map (fun c=>Z3 10 c.pat),true) else ([],false)):=by
 suffices hs:Ret (Q18 NN l) (fun a=>a=(if l.all (fun c=>decide ((Z3 10 c.pat).length≤40))=true then (l.map (fun c=>Z3 10 c.pat),true) else ([],false))) by
  obtain ⟨a,e,rfl⟩:=hs
  exact e
 unfold Q18
 refine Ret.ctl (Z4 l (fun i s=>s=(l.take i).map (fun c=>Z3 10 c.pat)∧∀ c∈l.take i,(Z3 10 c.pat).length≤40) (fun r=>r=([],false)∧∃ c∈l,40<(Z3 10 c.pat).length) (fun s=>s=l.map (fun c=>Z3 10 c.pat)∧∀ c∈l,(Z3 10 c.pat).length≤40) ⟨by simp,by simp⟩ (fun i c s hi hI=>?_) (fun s hI=>by rw [List.take_length] at hI;exact hI)) (fun r hr=>.some ?_) (fun s hs=>.some ?_)
 ·obtain ⟨g,_⟩:=hl c (U1 hi)
  have hor:=X2b hw 10 t c.pat ht g
  have hil:i<l.length:=(List.getElem?_eq_some_iff.1 hi).1
  rw [X0b 10 NN c.pat hor (by decide)]
  simp only [U0]
  by_cases hc:(Z3 10 c.pat).length≤40
  ·have e:ilt 40 ((min (Z3 10 c.pat).length 401:Nat):Int)=false:=by rw [W9];omega
   simp only [e,U2,if_false]
   rw [X1z 10 NN c.pat hor (by decide) (by omega)]
   simp only [U0]
   rw [W2 (by rw [hI.1];simp only [U7,U6,U3,U4,Q5];omega)]
   refine .some ⟨by rw [hI.1,List.take_add_one,hi];simp,fun c' hc'=>?_⟩
   rw [List.take_add_one,hi] at hc'
   rcases List.mem_append.1 hc' with h | h
   ·exact hI.2 c' h
   ·simp only [Option.toList_some,U8,List.not_mem_nil,or_false] at h
    rw [h];exact hc
  ·have e:ilt 40 ((min (Z3 10 c.pat).length 401:Nat):Int)=true:=by rw [W0];omega
   simp only [e,if_true]
   exact .some ⟨rfl,c,U1 hi,by omega⟩
 ·obtain ⟨rfl,c,hc,hlt⟩:=hr
  rw [if_neg]
  rw [List.all_eq_true]
  intro h
  have:=h c hc
  simp only [decide_eq_true_eq] at this
  omega
 ·obtain ⟨rfl,h⟩:=hs
  rw [if_pos]
  rw [List.all_eq_true]
  exact fun c hc=>by simpa using h c hc
structure Comp (Q:X0→Prop) (x y:Option (X0×Bool)):Prop where
 tr:∀ t,x=some (t,true)→Q t
 eq:∃ t ok,x=some (t,ok)∧y=some (t,ok)∧(ok=false→t=zT)∧Q6v 300 t∧Q11 300 t≤300
theorem W91:Q6v 300 zT:=⟨by simp [zT],by simp [Q64,zT]⟩
theorem W90:Q11 300 zT=1:=by
 show 1+((Q64 zT).map (Q11 299)).sum=1
 rw [show Q64 zT=[] from rfl]
 simp
theorem Comp.no {Q:X0→Prop}{x y:Option (X0×Bool)}(h1:x=some (zT,false))(h2:y=some (zT,false)):Comp Q x y:=⟨fun t h=>by rw [h1] at h;simp at h,zT,false,h1,h2,fun _=>rfl,W91,by rw [W90];omega⟩
theorem W2p {ρ σ τ:Type}{x:Option (Ctl ρ σ)}{s0:σ}{g:Ctl ρ σ→Option τ}(h:Ret x (CtlQ (fun _=>False) (fun s=>s=s0))):x.bind g=g (.brk s0):=by
 obtain ⟨o,rfl,ho⟩:=h
 cases o with
 | ret r=>exact ho.elim
 | go s=>exact ho.elim
 | brk s=>rw [show s=s0 from ho];rfl
theorem V0k {ρ σ τ:Type}{x:Option (Ctl ρ σ)}{r0:ρ}{g:Ctl ρ σ→Option τ}(h:Ret x (CtlQ (fun r=>r=r0) (fun _=>False))):x.bind g=g (.ret r0):=by
 obtain ⟨o,rfl,ho⟩:=h
 cases o with
 | ret r=>rw [show r=r0 from ho];rfl
 | go s=>exact ho.elim
 | brk s=>exact ho.elim
def canC (w:List Q3)(t:Q6)(l:List Z1)(pick:Int):Bool:=Q4v w t l&&(decide (0≤pick)&&decide (pick≤2))&&l.all (fun c=>decide ((Z3 10 c.pat).length≤40))
theorem Z9a {w:List Q3}{t:Q6}{l:List Z1}(h:Q4v w t l=true):l.length≤8∧W3f w t l:=by
 simp only [Q4v,Bool.and_eq_true,decide_eq_true_eq,List.all_eq_true] at h
 refine ⟨h.1,fun c hc=>?_⟩
 have:=h.2 c hc
 simp only [Q6j,Bool.and_eq_true] at this
 obtain ⟨g,_,ln⟩:=Q8g this.1
 exact ⟨g,ln⟩
theorem X60 {w:List Q3}(hww:w∈Q1q){t:Q6}(ht:t∈tys w)(l:List Z1)(pick:Int) :
  J8 NN w t l pick=if canC w t l pick=true then ((Y8 NN (CI w l pick ((300:Nat):Int)) (Q1r l l.length) [⟨[],t⟩]).bind fun r=>if (!r.2.1)=true then some (zT,false) else (Q1b NN r.1).bind fun r2=>some (r2,true)) else some (zT,false):=by
 have hw:=ww hww
 have hz:X0.mk 0 0 [] [] [] []=zT:=rfl
 unfold J8 canC
 rw [Z7k hw ht l]
 simp only [U0,hz]
 cases hv:Q4v w t l with
 | false=>simp
 | true=>
 obtain ⟨hll,hP⟩:=Z9a hv
 rw [Q9r]
 simp only [U0,Bool.not_true,U2,if_false,Bool.true_and]
 cases hp:(decide (0≤pick)&&decide (pick≤2)) with
 | false=>simp
 | true=>
 simp only [Bool.not_true,U2,if_false,Bool.true_and]
 rw [Z9j hw ht hP hll]
 simp only [U0]
 cases hA:l.all (fun c=>decide ((Z3 10 c.pat).length≤40)) with
 | false=>simp
 | true=>
 simp only [if_true,Bool.not_true,U2,if_false]
 have hA':∀ c∈l,(Z3 10 c.pat).length≤40:=fun c hc=>by simpa using List.all_eq_true.1 hA c hc
 refine (W2p (s0:=Q1r l l.length) ?_).trans ?_
 ·refine Z4 (l.map fun c=>Z3 10 c.pat) (fun i s=>s=Q1r l i) (fun _=>False) (fun s=>s=Q1r l l.length) rfl (fun i ps s hi hI=>?_) (fun s hI=>by rw [hI,U7])
  rw [List.getElem?_map,U11] at hi
  obtain ⟨c,hi,rfl⟩:=hi
  have hc:=U1 hi
  have hil:i<l.length:=(List.getElem?_eq_some_iff.1 hi).1
  have hri:=Z3d hA' i
  have hcl:=hA' c hc
  refine Ret.ctl (Z4 (Z3 10 c.pat) (fun j u=>u=Q1r l i++((Z3 10 c.pat).take j).map (Q1s i)) (fun _=>False) (fun u=>u=Q1r l (i+1)) (by simp [hI]) (fun j p u hj hJ=>?_) (fun u hJ=>?_)) (fun r hr=>hr.elim) (fun u hu=>.some hu)
  ·have hjl:j<(Z3 10 c.pat).length:=(List.getElem?_eq_some_iff.1 hj).1
   have has:=Z67 10 t p (Q76 10 t c.pat p (hP c hc).1 (U1 hj))
   rw [X6o (d:=10) (n:=NN) has (by omega) (by decide) (by simp) (by simp) (by simp)]
   simp only [U0,List.nil_append]
   rw [W2 (by rw [hJ];simp only [U5,U7,U6,U3,U4,Q5];omega)]
   exact .some (by simp only [Q0b];rw [hJ,List.take_add_one,hj];simp [Q1s])
  ·rw [hJ,List.take_length,Q1r,hi]
 ·dsimp only
  rw [(wl hww).dim]
  simp only [U0]
  rfl
theorem W50 {w:List Q3}(hww:w∈Q1q){t:Q6}(ht:t∈tys w)(l:List Z1)(pick:Int) :
  Q0q NN w t l pick=if canC w t l pick=true then ((Q1o NN w l [⟨[],t⟩] ((Q1r l l.length).map toS) pick ((300:Nat):Int)).bind fun r=>if ilt r.2 0=true then some (zT,false) else some (r.1,true)) else some (zT,false):=by
 have hw:=ww hww
 have hz:X0.mk 0 0 [] [] [] []=zT:=rfl
 unfold Q0q canC
 rw [Z7f hw ht l]
 simp only [U0,hz]
 cases hv:Q4v w t l with
 | false=>simp
 | true=>
 obtain ⟨hll,hP⟩:=Z9a hv
 simp only [Bool.not_true,U2,if_false,Bool.true_and]
 by_cases p0:pick<0
 ·have e1:ilt pick 0=true:=by rw [W0];exact p0
  have e2:(decide ((0:Int)≤pick)&&decide (pick≤2))=false:=by simp;omega
  simp only [e1,e2,if_true,Bool.false_and,U2,if_false]
 have e1:ilt pick 0=false:=by rw [W9];omega
 simp only [e1,U2,if_false]
 by_cases p2:2<pick
 ·have e1:ilt 2 pick=true:=by rw [W0];exact p2
  have e2:(decide ((0:Int)≤pick)&&decide (pick≤2))=false:=by simp;omega
  simp only [e1,e2,if_true,Bool.false_and,U2,if_false]
 have e1:ilt 2 pick=false:=by rw [W9];omega
 have e2:(decide ((0:Int)≤pick)&&decide (pick≤2))=true:=by simp;omega
 simp only [e1,e2,U2,if_false,Bool.true_and]
 unfold Q59
 have hsp:∀ c∈l,Q06 NN c.pat=some ((Z3 10 c.pat).take 401):=fun c hc=>X17 10 NN c.pat (X2b hw 10 t c.pat ht (hP c hc).1) (by decide)
 cases hA:l.all (fun c=>decide ((Z3 10 c.pat).length≤40)) with
 | true=>
  simp only [if_true]
  have hA':∀ c∈l,(Z3 10 c.pat).length≤40:=fun c hc=>by simpa using List.all_eq_true.1 hA c hc
  have hsp':∀ c∈l,Q06 NN c.pat=some (Z3 10 c.pat):=fun c hc=>by
   have:=hA' c hc
   rw [hsp c hc,List.take_of_length_le (by omega)]
  have hrows:Q4n NN l=some ((Q1r l l.length).map toS):=by
   suffices hs:Ret (Q4n NN l) (fun a=>a=(Q1r l l.length).map toS) by
    obtain ⟨a,e,rfl⟩:=hs
    exact e
   unfold Q4n
   refine Ret.ctl (Z4 l (fun i s=>s=(Q1r l i).map toS) (fun _=>False) (fun s=>s=(Q1r l l.length).map toS) rfl (fun i c s hi hI=>?_) (fun s hI=>hI)) (fun r hr=>hr.elim) (fun s hs=>.some hs)
   have hc:=U1 hi
   have hil:i<l.length:=(List.getElem?_eq_some_iff.1 hi).1
   have hri:=Z3d hA' i
   have hcl:=hA' c hc
   rw [hsp' c hc]
   simp only [U0]
   refine Ret.ctl (Z4 (Z3 10 c.pat) (fun j u=>u=(Q1r l i).map toS++(((Z3 10 c.pat).take j).map (Q1s i)).map toS) (fun _=>False) (fun u=>u=(Q1r l (i+1)).map toS) (by simp [hI]) (fun j p u hj hJ=>?_) (fun u hJ=>?_)) (fun r hr=>hr.elim) (fun u hu=>.some hu)
   ·have hjl:j<(Z3 10 c.pat).length:=(List.getElem?_eq_some_iff.1 hj).1
    have has:=Z67 10 t p (Q76 10 t c.pat p (hP c hc).1 (U1 hj))
    rw [X14 (d:=10) (n:=NN) has (by omega) (by decide) (by simp) (by simp)]
    simp only [U0,List.nil_append]
    rw [W2 (by rw [hJ];simp only [U5,U7,U6,U3,U4,Q5];omega)]
    exact .some (by simp only [Q0b];rw [hJ,List.take_add_one,hj];simp [Q1s,toS])
   ·rw [hJ,List.take_length,Q1r,hi];simp
  have h1:∀ (a:X0) (b:Bool),some (a,b)=some (a,b):=fun _ _=>rfl
  rw [hrows]
  have e300:(300:Int)=((300:Nat):Int):=rfl
  rw [e300]
  simp only [U0]
  have hin:∀ (X:Option (X0×Bool)),X.bind (fun r40=>some (r40.1,r40.2))=X:=fun X=>by cases X<;>rfl
  rw [hin]
  refine (W2p (s0:=()) ?_).trans ?_
  ·refine Z4 l (fun _ _=>True) (fun _=>False) (fun _=>_) trivial (fun i c s hi _=>?_) (fun _ _=>rfl)
   have hc:=U1 hi
   have:=hA' c hc
   rw [hsp' c hc]
   have e:ilt 40 (lenZ (Z3 10 c.pat).length)=false:=by rw [W9,Q1h];omega
   simp only [U0,e,U2,if_false]
   exact .some trivial
  ·rfl
 | false=>
  have hx:∃ c∈l,40<(Z3 10 c.pat).length:=by
   rw [List.all_eq_false] at hA
   simpa using hA
  have hin:∀ (X:Option (X0×Bool)),X.bind (fun r40=>some (r40.1,r40.2))=X:=fun X=>by cases X<;>rfl
  rw [hin]
  simp only [U2,if_false]
  refine (V0k (r0:=(zT,false)) ?_).trans rfl
  refine Z4 l (fun i _=>∀ c∈l.take i,(Z3 10 c.pat).length≤40) (fun r=>r=(zT,false)) (fun _=>False) (by simp) (fun i c s hi hI=>?_) (fun s hI=>?_)
  ·have hc:=U1 hi
   rw [hsp c hc]
   simp only [U0]
   by_cases h40:(Z3 10 c.pat).length≤40
   ·have e:ilt 40 (lenZ ((Z3 10 c.pat).take 401).length)=false:=by rw [W9,Q1h,U6];omega
    simp only [e,U2,if_false]
    refine .some fun c' hc'=>?_
    rw [List.take_add_one,hi] at hc'
    rcases List.mem_append.1 hc' with h | h
    ·exact hI c' h
    ·simp only [Option.toList_some,U8,List.not_mem_nil,or_false] at h
     rw [h];exact h40
   ·have e:ilt 40 (lenZ ((Z3 10 c.pat).take 401).length)=true:=by rw [W0,Q1h,U6];omega
    simp only [e,if_true]
    exact .some rfl
  ·obtain ⟨c,hc,h⟩:=hx
   rw [List.take_length] at hI
   have:=hI c hc
   omega
theorem W0d {w:List Q3}{t:Q6}(ht:t∈tys w):ColC w [⟨[],t⟩] 300:=
 ⟨fun c hc=>by simp only [U8,List.not_mem_nil,or_false] at hc;rw [hc];exact ht,fun c hc=>by simp only [U8,List.not_mem_nil,or_false] at hc;rw [hc];simp,by simp⟩
theorem Z3u {w:List Q3}(hww:w∈Q1q){t:Q6}(ht:t∈tys w)(l:List Z1)(pick:Int):Comp (fun tr=>Q9k w l pick 300 tr (Q1r l l.length) [⟨[],t⟩]) (J8 NN w t l pick) (Q0q NN w t l pick):=by
 rw [X60 hww ht,W50 hww ht]
 cases hc:canC w t l pick with
 | false=>exact Comp.no (by simp) (by simp)
 | true=>
 simp only [if_true]
 simp only [canC,Bool.and_eq_true] at hc
 obtain ⟨hll,hP⟩:=Z9a hc.1.1
 have hA':∀ c∈l,(Z3 10 c.pat).length≤40:=fun c h=>by simpa using List.all_eq_true.1 hc.2 c h
 have hrl:=Z3d hA' l.length
 obtain ⟨ti,ok,c,ts,e,h1,h2,h3⟩:=W94 (ww hww) (wl hww) (ws hww) (lst:=l) (pick:=pick) 300 (Nat.le_refl _) NN NN (Q1r l l.length) [⟨[],t⟩] (by decide) (by decide) (by omega) (W0d ht) (X1k (ww hww) hP hll)
 rw [h1,show [Y5.mk [] t]=[Z5.mk [] t].map toD from rfl,h2]
 simp only [U0]
 rcases h3 with ⟨rfl,rfl,lf,rfl,rfl,hd,hsz,hq⟩ | ⟨rfl,he⟩
 ·have e:ilt ((lf:Nat):Int) 0=false:=by rw [W9];omega
  simp only [Bool.not_true,e,U2,if_false]
  rw [X7m 300 NN ti hd (by decide)]
  exact ⟨fun t h=>by simp only [U0,Option.some.injEq,Prod.mk.injEq] at h;rw [←h.1];exact hq,ti,true,rfl,rfl,by simp,hd,by omega⟩
 ·have e:ilt e 0=true:=by rw [W0];exact he
  simp only [Bool.not_false,e,if_true]
  exact Comp.no rfl rfl
def Z28 (l:List V5):List V5:=(List.range 6).flatMap fun (v:Nat)=>l.filter fun b=>decide (b.var=(v:Int))
theorem Z5h:∀ (a b:List V5),a.Pairwise (fun x y=>x.var<y.var)→b.Pairwise (fun x y=>x.var<y.var)→a.Perm b→a=b:=by
 intro a
 induction a with
 | nil=>intro b _ _ h;exact h.nil_eq
 | cons x a ih=>
  intro b ha hb h
  cases b with
  | nil=>exact absurd h.symm.nil_eq (by simp)
  | cons y b=>
   rw [List.pairwise_cons] at ha hb
   have hx:x∈y::b:=h.mem_iff.1 (by simp)
   have hy:y∈x::a:=h.mem_iff.2 (by simp)
   have hxy:x=y:=by
    rcases U8.1 hx with rfl | hx
    ·rfl
    ·rcases U8.1 hy with h1 | hy
     ·exact h1.symm
     ·have h1:=hb.1 x hx
      have h2:=ha.1 y hy
      omega
   subst hxy
   rw [ih b ha.2 hb.2 ((List.perm_cons x).1 h)]
theorem X7g {l:List V5}(h:l.Pairwise (fun x y=>x.var≤y.var))(hn:(l.map (·.var)).Nodup):l.Pairwise (fun x y=>x.var<y.var):=by
 rw [List.Nodup,List.pairwise_map] at hn
 refine (h.and hn).imp fun ⟨h1,h2⟩=>?_
 omega
theorem Q9u {l:List V5}(hn:(l.map (·.var)).Nodup):(Z28 l).Pairwise (fun x y=>x.var<y.var):=by
 unfold Z28
 rw [List.pairwise_flatMap]
 refine ⟨fun v _=>?_,?_⟩
 ·have h1:(l.filter fun b=>decide (b.var=(v:Int))).Pairwise (fun x y=>x.var≤y.var):=by
   rw [List.pairwise_filter]
   refine List.pairwise_of_forall fun x y hx hy=>?_
   simp only [decide_eq_true_eq] at hx hy
   omega
  exact X7g h1 ((List.filter_sublist.map _).nodup hn)
 ·refine List.Pairwise.imp ?_ (List.pairwise_lt_range (n:=6))
  intro a b hab x hx y hy
  have h1:=(List.mem_filter.1 hx).2
  have h2:=(List.mem_filter.1 hy).2
  simp only [decide_eq_true_eq] at h1 h2
  omega
theorem Z4f {α β:Type}(f g h:α→List β)(e:∀ v,f v=g v++h v):∀ L:List α,(L.flatMap f).Perm (L.flatMap g++L.flatMap h)
 | []=>by simp
 | v::L=>by
  rw [List.flatMap_cons,List.flatMap_cons,List.flatMap_cons,e v,List.append_assoc,List.append_assoc]
  refine List.Perm.append_left _ ?_
  refine ((Z4f f g h e L).append_left (h v)).trans ?_
  rw [←List.append_assoc,←List.append_assoc]
  exact List.Perm.append_right _ List.perm_append_comm
theorem Q8i {l:List V5}(hv:∀ b∈l,0≤b.var∧b.var≤5):(Z28 l).Perm l:=by
 induction l with
 | nil=>simp [Z28]
 | cons x l ih=>
  have h1:=ih fun b hb=>hv b (by simp [hb])
  obtain ⟨x0,x5⟩:=hv x (by simp)
  have h2:=Z4f (fun (v:Nat)=>(x::l).filter fun b=>decide (b.var=(v:Int))) (fun (v:Nat)=>if x.var=(v:Int) then [x] else []) (fun (v:Nat)=>l.filter fun b=>decide (b.var=(v:Int))) (fun v=>by
   by_cases hc:x.var=(v:Int)
   ·rw [List.filter_cons,if_pos (by simp [hc]),if_pos hc];rfl
   ·rw [List.filter_cons,if_neg (by simp [hc]),if_neg hc];rfl) (List.range 6)
  have hx:((List.range 6).flatMap fun (v:Nat)=>if x.var=(v:Int) then [x] else [])=[x]:=by
   have h6:x.var=0∨x.var=1∨x.var=2∨x.var=3∨x.var=4∨x.var=5:=by omega
   rcases h6 with h | h | h | h | h | h<;>simp [h,List.range,List.range.loop]
  rw [hx] at h2
  exact h2.trans (List.Perm.cons _ h1)
theorem X5u:∀ {a b:List Int},a.Nodup→(∀ x∈a,x∈b)→a.length=b.length→a.Perm b
 | [],b,_,_,h=>by have:b=[]:=List.eq_nil_of_length_eq_zero (by simpa using h.symm);rw [this]
 | x::a,b,hn,hs,h=>by
  have hx:=hs x (by simp)
  have hn':=List.nodup_cons.1 hn
  have hl:=List.length_erase_of_mem hx
  refine (List.Perm.cons x (X5u hn'.2 (fun y hy=>?_) (by simp at h;omega))).trans (List.perm_cons_erase hx).symm
  have hne:y≠x:=fun e=>hn'.1 (e▸hy)
  exact (List.mem_erase_of_ne hne).2 (hs y (by simp [hy]))
theorem X3x {a b:List Q9}(ha:Q0y a=true)(h:Q88 a b=true):(a.map (·.var)).Perm (b.map (·.var)):=by
 simp only [Q88,Bool.and_eq_true,decide_eq_true_eq,List.all_eq_true] at h
 have hn:(a.map (·.var)).Nodup:=by simpa [Q0y] using ha
 refine X5u hn (fun x hx=>?_) (by simp [h.1])
 obtain ⟨v,hv,rfl⟩:=U10.1 hx
 exact U10.2 ⟨v,h.2 v hv,rfl⟩
theorem X7s {w:List Q3} : ∀ (d:Nat) (t:Q6) (p:Q0),Q0j w d t p=true→linD w d t p=true→∀ v l,Z8 d p v=some l→(l.map (·.var)).Perm ((Q1d w d t p).map (·.var)):=by
 intro d
 induction d with
 | zero=>intro t p h;cases h
 | succ d ih=>
  intro t p hg hlin v l hm
  obtain ⟨ho,hl⟩:=Q0t (Q0a hg)
  simp only [linD,Bool.and_eq_true,List.all_eq_true] at hlin
  rw [Q1d]
  rw [Z8] at hm
  have hnil:p.op≠4→p.op≠5→p.op≠6→J1 w t p=[]:=fun h4 h5 h6=>by simp [J1,h4,h5,h6]
  by_cases h1:p.op=1
  ·rw [if_pos h1] at hm;cases hm
   simp [ownV,h1,hnil]
  rw [if_neg h1] at hm
  by_cases h2:p.op=2
  ·rw [if_pos h2] at hm;cases hm
   simp [ownV,h2,hnil]
  rw [if_neg h2] at hm
  by_cases h3:p.op=3
  ·rw [if_pos h3] at hm
   split at hm
   ·cases hm
    simp [ownV,h3,hnil]
   ·cases hm
  rw [if_neg h3] at hm
  by_cases h5:p.op=5
  ·rw [if_pos h5] at hm
   obtain ⟨a,b,hkids,hkt⟩:=kid0 h5 hl
   have ga:=Q03 hg (k:=0) (by rw [hkt];rfl) (by rw [hkids];rfl)
   have gb:=Q03 hg (k:=1) (by rw [hkt];rfl) (by rw [hkids];rfl)
   have g0:=hlin.1 (t,a) (by rw [hkids,hkt];simp)
   have g1:=hlin.1 (t,b) (by rw [hkids,hkt];simp)
   have hal:=hlin.2
   rw [if_pos h5] at hal
   have k0:kv w d t p 0=Q1d w d t a:=by simp [kv,hkids,hkt]
   have k1:kv w d t p 1=Q1d w d t b:=by simp [kv,hkids,hkt]
   rw [k0,k1] at hal
   have hv:ownV t p=[]:=by simp [ownV,h5]
   rw [hv,hkids,hkt,if_pos h5]
   simp only [List.zip_cons_cons,List.zip_nil_right,List.take_succ_cons,List.take_zero,List.flatMap_cons,List.flatMap_nil,List.append_nil,List.nil_append]
   rw [hkids] at hm
   simp only at hm
   split at hm
   ·rename_i l' hl'
    cases hm
    exact ih t a ga g0 v _ hl'
   ·exact (ih t b gb g1 v _ hm).trans (X3x (Q3h d t a ga g0) hal).symm
  rw [if_neg h5] at hm
  rw [if_neg h5,List.take_of_length_le (by rw [List.length_zip];omega)]
  by_cases h6:p.op=6
  ·rw [if_pos h6] at hm
   obtain ⟨a,hkids,hk2⟩:=Z9i h6 hl
   have ga:=Q03 hg (k:=0) (by rw [hk2];rfl) (by rw [hkids];rfl)
   have g0:=hlin.1 (t,a) (by rw [hkids,hk2];simp)
   rw [hkids] at hm
   simp only at hm
   cases ha:Z8 d a v with
   | none=>rw [ha] at hm;cases hm
   | some l'=>
    rw [ha] at hm
    cases hm
    have:=ih t a ga g0 v l' ha
    rw [hkids,hk2]
    simpa [ownV,h6] using this
  rw [if_neg h6] at hm
  have hv:ownV t p=[]:=by simp [ownV,h2,h6]
  rw [hv,List.nil_append]
  split at hm
  ·have gen:∀ (ts:List Q6) (ps:List Q0) (vs:List Q2) (l:List V5),ts.length=ps.length→(∀ x∈ts.zip ps,∀ v l,Z8 d x.2 v=some l→(l.map (·.var)).Perm ((Q1d w d x.1 x.2).map (·.var)))→V0 (Z8 d) ps vs=some l→(l.map (·.var)).Perm (((ts.zip ps).flatMap fun x=>Q1d w d x.1 x.2).map (·.var)):=by
    intro ts ps
    induction ps generalizing ts with
    | nil=>intro vs l _ _ h;simp only [V0] at h;cases h;simp
    | cons q ps ihp=>
     intro vs l hl hx h
     cases ts with
     | nil=>simp at hl
     | cons a ts=>
      cases vs with
      | nil=>cases h
      | cons u vs=>
       simp only [V0] at h
       cases hq:Z8 d q u with
       | none=>rw [hq] at h;cases h
       | some l1=>
        rw [hq] at h
        simp only at h
        cases hps:V0 (Z8 d) ps vs with
        | none=>rw [hps] at h;cases h
        | some l2=>
         rw [hps] at h
         cases h
         have e1:=hx (a,q) (by simp) u l1 hq
         have e2:=ihp ts vs l2 (by simpa using hl) (fun x hxx=>hx x (by simp [hxx])) hps
         simp only [List.zip_cons_cons,List.flatMap_cons,List.map_append]
         exact e1.append e2
   refine gen _ _ _ _ hl.symm (fun x hx v l h=>?_) hm
   obtain ⟨j,hj⟩:=List.mem_iff_getElem?.1 hx
   obtain ⟨e1,e2⟩:=List.getElem?_zip_eq_some.1 hj
   exact ih _ _ (Q03 hg e1 e2) (hlin.1 x hx) v l h
  ·cases hm
structure X0m (l:List V5):Prop where
 nd:(l.map (·.var)).Nodup
 rg:∀ b∈l,0≤b.var∧b.var≤5
 ln:l.length≤6
theorem X41 {w:List Q3}{d:Nat}{t:Q6}{p:Q0}(g:Q0j w d t p=true)(l:linD w d t p=true){v:Q2}{r:List V5}(h:Z8 d p v=some r):X0m r:=by
 have hp:=X7s d t p g l v r h
 have hd:=Q3h d t p g l
 simp only [Q0y,decide_eq_true_eq] at hd
 refine ⟨hp.nodup_iff.2 hd,fun b hb=>?_,?_⟩
 ·obtain ⟨y,hy,e⟩:=U10.1 (hp.mem_iff.1 (List.mem_map_of_mem hb))
  have:=Z0m d t p g y hy
  omega
 ·have h1:=hp.length_eq
  have h2:=W4l g l
  simp only [U7] at h1
  omega
theorem W0i {a b:List V5}(ha:X0m a)(h:a.Perm b):Z28 a=Z28 b:=by
 have hb:(b.map (·.var)).Nodup:=(h.map _).nodup_iff.1 ha.nd
 have hr:∀ x∈b,0≤x.var∧x.var≤5:=fun x hx=>ha.rg x (h.mem_iff.2 hx)
 exact Z5h _ _ (Q9u ha.nd) (Q9u hb) ((Q8i ha.rg).trans (h.trans (Q8i hr).symm))
def Q2o (g:Q2q)(l:List V5):Bool:=decide (g.op=0)||match l.find? fun b=>decide (b.var=g.var) with
 | none=>false
 | some b=>decide (b.value.ctor = -1)&&((decide (g.op=1)&&decide (b.value.n<g.n))||(decide (g.op=2)&&decide (b.value.n=g.n)))
theorem W2d {a b:List V5}(hn:(a.map (·.var)).Nodup)(h:a.Perm b)(v:Int):a.find? (fun x=>decide (x.var=v))=b.find? (fun x=>decide (x.var=v)):=by
 induction h with
 | nil=>rfl
 | cons x h ih=>
  rw [List.find?_cons,List.find?_cons]
  split
  ·rfl
  ·exact ih (List.nodup_cons.1 (by simpa using hn)).2
 | swap x y l=>
  simp only [List.map_cons,List.nodup_cons,U8,not_or] at hn
  simp only [List.find?_cons]
  by_cases h1:x.var=v
  ·have h2:¬y.var=v:=fun e=>hn.1.1 (by omega)
   simp [h1,h2]
  ·simp [h1]
 | trans h1 h2 ih1 ih2=>rw [ih1 hn,ih2 ((h1.map _).nodup_iff.1 hn)]
theorem Z1m {a b:List V5}(hn:(a.map (·.var)).Nodup)(h:a.Perm b)(g:Q2q):Q2o g a=Q2o g b:=by
 unfold Q2o
 rw [W2d hn h]
theorem X4d {l:List V5}(h:X0m l)(g:Q2q):Q2o g (Z28 l)=Q2o g l:=(Z1m h.nd (Q8i h.rg).symm g).symm
def runD (v:Q2):Nat→List Z1→Option (Nat×List V5)
 | _,[]=>none
 | k,c::cs=>match Z8 10 c.pat v with
  | none=>runD v (k+1) cs
  | some l=>if Q2o c.guard l=true then some (k,Z28 l) else runD v (k+1) cs
def runR:Option (Nat×List V5)→Int×List V5
 | none=>(-1,[])
 | some x=>((x.1:Int),x.2)
theorem Z0d {α:Type}{l:List α}{k:Nat}{x:α}(h:l[k]?=some x):l.drop k=x::l.drop (k+1):=by
 obtain ⟨hk,rfl⟩:=List.getElem?_eq_some_iff.1 h
 exact List.drop_eq_getElem_cons hk
theorem Z61 {f:Q0→Q2→Option (List V5)} : ∀ (a:List Q0) (vs:List Q2) (c:Q0) (u:Q2),a.length=vs.length→V0 f (a++[c]) (vs++[u])=(V0 f a vs).bind fun l1=>(f c u).map (l1++·)
 | [],[],c,u,_=>by
  simp only [List.nil_append,V0,U0]
  cases f c u<;>simp
 | p::a,v::vs,c,u,h=>by
  simp only [List.cons_append,V0]
  rw [Z61 a vs c u (by simpa using h)]
  cases f p v with
  | none=>rfl
  | some l=>
   simp only
   cases V0 f a vs with
   | none=>rfl
   | some l1=>
    simp only [U0]
    cases f c u<;>simp
 | [],_::_,_,_,h=>by simp at h
 | _::_,[],_,_,h=>by simp at h
theorem Q4k {f:Q0→Q2→Option (List V5)} : ∀ (a b:List Q0) (us vs:List Q2),a.length=us.length→V0 f (a++b) (us++vs)=(V0 f a us).bind fun l1=>(V0 f b vs).map (l1++·)
 | [],b,[],vs,_=>by
  simp only [List.nil_append,V0,U0]
  cases V0 f b vs<;>simp
 | p::a,b,u::us,vs,h=>by
  simp only [List.cons_append,V0]
  rw [Q4k a b us vs (by simpa using h)]
  cases f p u with
  | none=>rfl
  | some l=>
   simp only
   cases V0 f a us with
   | none=>rfl
   | some l1=>
    simp only [U0]
    cases V0 f b vs<;>simp
 | [],_,_::_,_,h=>by simp at h
 | _::_,_,[],_,h=>by simp at h
theorem Z6l {α β:Type}{l:List α}{f:α→Option β}(h:∀ x∈l,f x=none):l.findSome? f=none:=List.findSome?_eq_none_iff.2 h
theorem X02 {α β γ:Type}(l:List α)(g:α→β)(f:β→Option γ):(l.map g).findSome? f=l.findSome? fun x=>f (g x):=by
 induction l with
 | nil=>rfl
 | cons a l ih=>simp only [List.map_cons,List.findSome?_cons,ih]
theorem Z0s {α β:Type}{l:List α}{f g:α→Option β}(h:∀ x∈l,f x=g x):l.findSome? f=l.findSome? g:=by
 induction l with
 | nil=>rfl
 | cons a l ih=>simp only [List.findSome?_cons];rw [h a (by simp),ih fun x hx=>h x (by simp [hx])]
theorem X2k {α β γ:Type}(l:List α)(f:α→Option β)(g:β→γ):(l.findSome? fun x=>(f x).map g)=(l.findSome? f).map g:=by
 induction l with
 | nil=>rfl
 | cons a l ih=>
  simp only [List.findSome?_cons]
  cases f a with
  | none=>simpa using ih
  | some x=>rfl
theorem X5j {f:Q0→Q2→Option (List V5)}(l:List Q0)(vs:List Q2)(u:Q2):∀ out:List (List Q0),(∀ a∈out,a.length=vs.length)→
  (tupD out l).findSome? (fun ks=>V0 f ks (vs++[u]))=(out.findSome? fun a=>V0 f a vs).bind fun l1=>(l.findSome? fun c=>f c u).map (l1++·)
 | [],_=>by simp [tupD]
 | a::out,h=>by
  have e:tupD (a::out) l=(l.map fun c=>a++[c])++tupD out l:=by simp [tupD]
  rw [e,List.findSome?_append,X02,X5j l vs u out fun x hx=>h x (by simp [hx])]
  have e2:(l.findSome? fun x=>V0 f (a++[x]) (vs++[u]))=(V0 f a vs).bind fun l1=>(l.findSome? fun c=>f c u).map (l1++·):=by
   rw [Z0s fun x _=>Z61 a vs x u (h a (by simp))]
   cases V0 f a vs with
   | none=>simp only [Option.bind_none];exact Z6l fun _ _=>rfl
   | some l1=>simp only [U0];exact X2k l _ _
  rw [e2,List.findSome?_cons]
  cases V0 f a vs with
  | none=>simp
  | some l1=>
   simp only [U0]
   cases l.findSome? fun c=>f c u with
   | none=>simp
   | some l2=>simp
def X03 (f:Q0→Q2→Option (List V5)):List (List Q0)→List Q2→Option (List V5)
 | [],_=>some []
 | _::_,[]=>none
 | l::ls,v::vs=>match l.findSome? fun c=>f c v with
  | none=>none
  | some r=>match X03 f ls vs with
   | none=>none
   | some m=>some (r++m)
theorem X10 {f:Q0→Q2→Option (List V5)} : ∀ (ls:List (List Q0)) (vs:List Q2) (vs0:List Q2) (out:List (List Q0)),ls.length=vs.length→(∀ a∈out,a.length=vs0.length)→
  (ls.foldl tupD out).findSome? (fun ks=>V0 f ks (vs0++vs))=(out.findSome? fun a=>V0 f a vs0).bind fun l1=>(X03 f ls vs).map (l1++·)
 | [],[],vs0,out,_,_=>by
  simp only [List.foldl_nil,List.append_nil,X03]
  cases out.findSome? fun a=>V0 f a vs0<;>simp
 | l::ls,v::vs,vs0,out,h,ho=>by
  rw [List.foldl_cons]
  have:=X10 (f:=f) ls vs (vs0++[v]) (tupD out l) (by simpa using h) (fun a ha=>by
   simp only [tupD,List.mem_flatMap,U10] at ha
   obtain ⟨q,hq,c,_,rfl⟩:=ha
   simp [ho q hq])
  rw [List.append_assoc,List.singleton_append] at this
  rw [this,X5j l vs0 v out ho]
  cases out.findSome? fun a=>V0 f a vs0 with
  | none=>rfl
  | some l1=>
   simp only [U0,X03]
   cases l.findSome? fun c=>f c v with
   | none=>rfl
   | some l2=>
    simp only [Option.map_some,U0]
    cases X03 f ls vs with
    | none=>rfl
    | some l3=>simp
 | [],_::_,_,_,h,_=>by simp at h
 | _::_,[],_,_,h,_=>by simp at h
theorem Z62 {f g:Q0→Q2→Option (List V5)}{s:Q0→List Q0} : ∀ (ps:List Q0) (vs:List Q2),(∀ (j:Nat) (p:Q0) (v:Q2),ps[j]?=some p→vs[j]?=some v→g p v=(s p).findSome? fun c=>f c v)→V0 g ps vs=X03 f (ps.map s) vs
 | [],_,_=>rfl
 | _::_,[],_=>rfl
 | p::ps,v::vs,h=>by
  simp only [V0,List.map_cons,X03]
  rw [h 0 p v rfl rfl,Z62 ps vs fun j p' v' h1 h2=>h (j+1) p' v' (by simpa using h1) (by simpa using h2)]
  cases (s p).findSome? fun c=>f c v with
  | none=>rfl
  | some l=>
   simp only
   cases X03 f (ps.map s) vs<;>rfl
theorem X7c {w:List Q3}(hw:WW w)(hS:WS w):∀ (d e:Nat) (t:Q6) (p:Q0) (v:Q2),t∈tys w→Q0j w d t p=true→Q6g w e t v→(Z3 d p).findSome? (fun q=>Z8 d q v)=Z8 d p v:=by
 intro d
 induction d with
 | zero=>intro e t p v _ h;simp [Q0j] at h
 | succ d ih=>
  intro e t p v ht g hv
  have hn:=Q0a g
  obtain ⟨ho,hl⟩:=Q0t hn
  by_cases h5:p.op=5
  ·obtain ⟨a,b,hab,hkt⟩:=kid0 h5 hl
   have ga:=Q03 g (k:=0) (a:=t) (q:=a) (by rw [hkt];rfl) (by rw [hab];rfl)
   have gb:=Q03 g (k:=1) (a:=t) (q:=b) (by rw [hkt];rfl) (by rw [hab];rfl)
   have e1:Z3 (d+1) p=Z3 d a++Z3 d b:=by simp [Z3,h5,hab]
   rw [e1,List.findSome?_append]
   have mono:∀ x,Q0j w d t x=true→(Z3 d x).findSome? (fun q=>Z8 (d+1) q v)=Z8 d x v:=fun x gx=>by
    rw [Z0s fun q hq=>(Z2n d t q (Q76 d t x q gx hq)).2.2.2 v]
    exact ih e t x v ht gx hv
   rw [mono a ga,mono b gb]
   rw [Z8,if_neg (by omega),if_neg (by omega),if_neg (by omega),if_pos h5,hab]
   simp only
   cases Z8 d a v<;>simp
  ·have e1:Z3 (d+1) p=((p.kids.map (Z3 d)).foldl tupD [[]]).map (Q5a p):=by simp [Z3,h5]
   rw [e1,X02]
   by_cases h4:p.op=4
   ·have hc:=Q81 ho h4
    have hd:t.data≠-1:=fun hd=>by rw [hS.int t ht hd] at hc;cases hc
    have hm:∀ ks,Z8 (d+1) (Q5a p ks) v=if p.ctor=v.ctor then V0 (Z8 d) ks v.kids else none:=fun ks=>by
     rw [Z8,if_neg (by simp [Q5a];omega),if_neg (by simp [Q5a];omega),if_neg (by simp [Q5a];omega),if_neg (by simpa [Q5a] using h5),if_neg (by simp [Q5a];omega)]
     rfl
    have hm2:Z8 (d+1) p v=if p.ctor=v.ctor then V0 (Z8 d) p.kids v.kids else none:=by
     rw [Z8,if_neg (by omega),if_neg (by omega),if_neg (by omega),if_neg h5,if_neg (by omega)]
    rw [Z0s fun ks _=>hm ks,hm2]
    by_cases hcv:p.ctor=v.ctor
    ·simp only [if_pos hcv]
     cases e with
     | zero=>exact hv.elim
     | succ e=>
     rw [Q6g,if_neg hd] at hv
     obtain ⟨_,_,hvl,hvk⟩:=hv
     have hkt:J1 w t p=Q0z w t v.ctor:=by rw [J1,if_pos h4,hcv]
     have hlen:(p.kids.map (Z3 d)).length=v.kids.length:=by rw [U7,hl,hkt,hvl]
     have:=X10 (f:=Z8 d) (p.kids.map (Z3 d)) v.kids [] [[]] hlen (by simp)
     rw [List.nil_append] at this
     rw [this]
     simp only [List.findSome?_cons,V0,U0]
     rw [Z62 (f:=Z8 d) (g:=Z8 d) (s:=Z3 d) p.kids v.kids fun j q u hq hu=>?_]
     ·cases X03 (Z8 d) (p.kids.map (Z3 d)) v.kids<;>simp
     ·have hj:=(List.getElem?_eq_some_iff.1 hq).1
      obtain ⟨a,ha⟩:∃ a,(Q0z w t v.ctor)[j]?=some a:=⟨_,U9 (by rw [hkt] at hl;omega)⟩
      exact (ih e a q u (Q6s (hw.ty t ht) ht ho _ (by rw [hkt];exact U1 ha)) (Q03 g (by rw [hkt];exact ha) hq) (hvk j a u ha hu)).symm
    ·simp only [if_neg hcv]
     exact Z6l fun _ _=>rfl
   ·by_cases h6:p.op=6
    ·obtain ⟨a,hk,hkt⟩:=Z9i h6 hl
     have ga:=Q03 g (k:=0) (a:=t) (q:=a) (by rw [hkt];rfl) (by rw [hk];rfl)
     have e2:((p.kids.map (Z3 d)).foldl tupD [[]])=(Z3 d a).map fun c=>[c]:=by
      rw [hk];simp [tupD]
     rw [e2,X02]
     have hm:∀ c,Z8 (d+1) (Q5a p [c]) v=(Z8 d c v).map (fun l=>⟨p.var,v⟩::l):=fun c=>by
      rw [Z8,if_neg (by simp [Q5a];omega),if_neg (by simp [Q5a];omega),if_neg (by simp [Q5a];omega),if_neg (by simp [Q5a];omega),if_pos (by simpa [Q5a] using h6)]
      rfl
     rw [Z0s fun c _=>hm c,X2k,ih e t a v ht ga hv]
     rw [Z8,if_neg (by omega),if_neg (by omega),if_neg (by omega),if_neg h5,if_pos h6,hk]
    ·have hk:p.kids=[]:=by
      rw [J1,if_neg h4,if_neg h5,if_neg h6] at hl
      exact List.eq_nil_of_length_eq_zero hl
     rw [hk]
     have:Q5a p []=p:=by rw [←hk];cases p;rfl
     simp only [List.map_nil,List.foldl_nil,List.findSome?_cons,this]
     cases Z8 (d+1) p v<;>rfl
theorem X3m {w:List Q3}{t:Q6}{path:List Int}{v:Q2} : ∀ (d:Nat) (p:Q0),asOk d p→Q0j w 12 t p=true→Z8 12 p v=(Z8 12 (Q1i d p path).2 v).map (((Q1i d p path).1.map fun b=>V5.mk b.var v)++·):=by
 intro d
 induction d with
 | zero=>intro p h;exact h.elim
 | succ d ih=>
  intro p h g
  rw [Q20]
  by_cases h6:p.op=6
  ·obtain ⟨q,hq,hd⟩:=h h6
   have ga:Q0j w 11 t q=true:=Q03 g (k:=0) (a:=t) (by rw [J1,if_neg (by omega),if_neg (by omega),if_pos h6];rfl) (by rw [hq];rfl)
   rw [if_pos h6,hq]
   simp only [List.headD_cons]
   have e1:Z8 12 p v=(Z8 12 q v).map (fun l=>⟨p.var,v⟩::l):=by
    rw [(Z2n 11 t q ga).2.2.2 v,Z8,if_neg (by omega),if_neg (by omega),if_neg (by omega),if_neg (by omega),if_pos h6,hq]
   rw [e1,ih q hd (Q4h 11 t q ga)]
   cases Z8 12 (Q1i d q path).2 v<;>simp
  ·rw [if_neg h6]
   by_cases h2:p.op=2
   ·rw [if_pos h2]
    have e1:Z8 12 p v=some [⟨p.var,v⟩]:=by rw [Z8,if_neg (by omega),if_pos h2]
    have e2:Z8 12 anyP v=some []:=X34 11 v
    rw [e1]
    simp only
    rw [e2]
    rfl
   ·rw [if_neg h2]
    simp only [List.map_nil,List.nil_append]
    cases Z8 12 p v<;>rfl
theorem W80 {w:List Q3}{t:Q6}{p:Q0}(path:List Int)(v:Q2)(g:Q0j w 12 t p=true):Z8 12 p v=(Z8 12 (Q5o p path).2 v).map (((Q5o p path).1.map fun b=>V5.mk b.var v)++·):=
 X3m 12 p (Z67 12 t p g) g
theorem X8a {w:List Q3}{e:Nat}{t:Q6}{v:Q2}(h:Q6g w e t v)(hd:t.data≠-1):∃ e',e=e'+1∧v.ctor∈W1 w t∧v.kids.length=(Q0z w t v.ctor).length∧∀ (j:Nat) (a:Q6) (x:Q2),(Q0z w t v.ctor)[j]?=some a→v.kids[j]?=some x→Q6g w e' a x:=by
 cases e with
 | zero=>exact h.elim
 | succ e=>
  simp only [Q6g,if_neg hd] at h
  exact ⟨e,rfl,h.2.1,h.2.2.1,h.2.2.2⟩
theorem X8b {α:Type}{l:List α}{n j:Nat}(h:l.length=n)(hj:j<n):∃ x,l[j]?=some x:=⟨l[j]'(by omega),by simp⟩
def V0t (w:List Q3)(t:Q6):Bool:=
 (decide (depP w t≠0)||(W1 w t).all (fun k=>(Q0z w t k).any (fun a=>decide (depP w a=0))))&&decide ((W1 w t).Nodup)
def chkE (w:List Q3):Bool:=(tys w).all (V0t w)
theorem X99:Q1q.all chkE=true:=by kernel_rfl
structure WE (w:List Q3):Prop where
 e0:∀ t∈tys w,depP w t=0→∀ k∈W1 w t,∃ a∈Q0z w t k,depP w a=0
 nd:∀ t∈tys w,(W1 w t).Nodup
theorem we {w:List Q3}(h:w∈Q1q):WE w:=by
 have h:=List.all_eq_true.1 X99 w h
 simp only [chkE,List.all_eq_true] at h
 refine ⟨fun t ht h0 k hk=>?_,fun t ht=>?_⟩
 ·have:=h t ht
  simp only [V0t,Bool.and_eq_true,Bool.or_eq_true,decide_eq_true_eq,List.all_eq_true,List.any_eq_true] at this
  rcases this.1 with h1 | h1
  ·exact absurd h0 h1
  ·exact h1 k hk
 ·have:=h t ht
  simp only [V0t,Bool.and_eq_true,decide_eq_true_eq] at this
  exact this.2
theorem X6b {w:List Q3}(hw:WW w)(he:WE w):∀ (e:Nat) (t:Q6) (v:Q2),t∈tys w→Q6g w e t v→depP w t≠0
 | 0,_,_,_,h=>h.elim
 | e+1,t,v,ht,h=>fun h0=>by
  by_cases hd:t.data = -1
  ·have:=((hw.ty t ht).ti hd).2;omega
  ·obtain ⟨e',e1,g1,g2,g3⟩:=X8a h hd
   cases e1
   obtain ⟨a,ha,ha0⟩:=he.e0 t ht h0 _ g1
   obtain ⟨j,hj⟩:=List.mem_iff_getElem?.1 ha
   obtain ⟨x,hx⟩:=X8b g2 (List.getElem?_eq_some_iff.1 hj).1
   exact X6b hw he e a x ((hw.ty t ht).at_ _ g1 a ha) (g3 j a x hj hx) ha0
def Q6c:Q2→List Int→Option Q2
 | v,[]=>some v
 | v,i::path=>(idx v.kids i).bind fun u=>Q6c u path
theorem Z8d:∀ (path:List Int) (v:Q2) (i:Int),Q6c v (path++[i])=(Q6c v path).bind fun u=>idx u.kids i
 | [],v,i=>by
  simp only [List.nil_append,Q6c,U0]
  cases idx v.kids i<;>rfl
 | j::path,v,i=>by
  simp only [List.cons_append,Q6c]
  cases idx v.kids j with
  | none=>rfl
  | some u=>simp only [U0];exact Z8d path u i
def Q19:List Q1→Q2→Option (List V5)
 | [],_=>some []
 | b::l,v=>(Q6c v b.path).bind fun u=>(Q19 l v).map (V5.mk b.var u::·)
theorem Q9i:∀ (a b:List Q1) (v:Q2),Q19 (a++b) v=(Q19 a v).bind fun l=>(Q19 b v).map (l++·)
 | [],b,v=>by
  simp only [List.nil_append,Q19,U0]
  cases Q19 b v<;>rfl
 | x::a,b,v=>by
  simp only [List.cons_append,Q19]
  cases Q6c v x.path with
  | none=>rfl
  | some u=>
   simp only [U0]
   rw [Q9i a b v]
   cases Q19 a v with
   | none=>rfl
   | some l=>
    simp only [U0,Option.map_some]
    cases Q19 b v<;>rfl
theorem X55 {v:Q2}{a b:List Q1}(h:a.Perm b):∀ {l:List V5},Q19 a v=some l→∃ l',Q19 b v=some l'∧l.Perm l':=by
 induction h with
 | nil=>intro l h;exact ⟨l,h,.refl _⟩
 | cons x _ ih=>
  intro l h
  simp only [Q19] at h ⊢
  cases hx:Q6c v x.path with
  | none=>rw [hx] at h;simp at h
  | some u=>
   rw [hx] at h
   simp only [U0,U11] at h ⊢
   obtain ⟨m,hm,rfl⟩:=h
   obtain ⟨m',h1,h2⟩:=ih hm
   exact ⟨_,⟨m',h1,rfl⟩,h2.cons _⟩
 | swap x y l0=>
  intro l h
  simp only [Q19] at h ⊢
  cases hx:Q6c v x.path with
  | none=>rw [hx] at h;cases hy:Q6c v y.path<;>rw [hy] at h<;>simp at h
  | some u=>
   rw [hx] at h
   cases hy:Q6c v y.path with
   | none=>rw [hy] at h;simp at h
   | some u2=>
    rw [hy] at h
    simp only [U0,Option.map_map,U11,Function.comp] at h ⊢
    obtain ⟨m,hm,rfl⟩:=h
    exact ⟨_,⟨m,hm,rfl⟩,.swap _ _ _⟩
 | trans _ _ ih1 ih2=>
  intro l h
  obtain ⟨m,h1,h2⟩:=ih1 h
  obtain ⟨k,h3,h4⟩:=ih2 h1
  exact ⟨k,h3,h2.trans h4⟩
theorem Z1t {v:Q2} : ∀ {a:List Q1} {l:List V5},Q19 a v=some l→l.map (·.var)=a.map (·.var)
 | [],l,h=>by simp only [Q19,Option.some.injEq] at h;subst h;rfl
 | b::a,l,h=>by
  simp only [Q19] at h
  cases hx:Q6c v b.path with
  | none=>rw [hx] at h;simp at h
  | some u=>
   rw [hx] at h
   simp only [U0,U11] at h
   obtain ⟨m,hm,rfl⟩:=h
   simp [Z1t hm]
theorem Q9h {v u:Q2}{path:List Int}(h:Q6c v path=some u):∀ {l:List Q1},(∀ b∈l,b.path=path)→Q19 l v=some (l.map fun b=>V5.mk b.var u)
 | [],_=>rfl
 | b::l,hl=>by
  simp only [Q19]
  rw [hl b (by simp),h,Q9h h fun x hx=>hl x (by simp [hx])]
  rfl
def rowL (r:Grow)(us:List Q2):Option (List V5):=V0 (Z8 12) r.pats us
def rowB (r:Grow)(v:Q2)(us:List Q2):Option (List V5):=(Q19 r.binds v).bind fun l=>(rowL r us).map (l++·)
def hitR (us:List Q2)(r:Grow):Bool:=(rowL r us).isSome
inductive Z37 (lst:List Z1) (v:Q2) (us:List Q2):List Grow→Int×List V5→Prop
 | none {rows:List Grow} : rows.find? (hitR us)=none→Z37 lst v us rows (-1,[])
 | take {rows:List Grow} {r:Grow} {l:List V5} {c:Z1} : rows.find? (hitR us)=some r→rowB r v us=some l→lst[r.clause.toNat]?=some c→Q2o c.guard l=true→Z37 lst v us rows (r.clause,Z28 l)
 | skip {rows:List Grow} {r:Grow} {l:List V5} {c:Z1} {x:Int×List V5} : rows.find? (hitR us)=some r→rowB r v us=some l→lst[r.clause.toNat]?=some c→Q2o c.guard l=false→
   Z37 lst v us (Q36 rows r.clause) x→Z37 lst v us rows x
structure W3g (w:List Q3) (v:Q2) (cols:List Z5) (us:List Q2):Prop where
 len:us.length=cols.length
 at_:∀ (j:Nat) (c:Z5) (u:Q2),cols[j]?=some c→us[j]?=some u→Q6c v c.path=some u∧Q6g w 10 c.t u
def X8 (b:Q8)(u:Q2):Bool:=decide (b.ctor=u.ctor)&&(decide (b.ctor≠-1)||(decide (b.n≤u.n)&&decide (u.n≤b.m)))
def runT:Nat→X0→List Z1→Q2→Option (Int×List V5×Nat)
 | 0,_,_,_=>none
 | d+1,t,lst,v=>
  if t.op=2 then (Q6c v t.path).bind fun u=>match t.branches.find? (fun b=>X8 b u) with
   | none=>some (-1,[],1)
   | some b=>(runT d b.tree lst v).map fun r=>(r.1,r.2.1,r.2.2+1)
  else if t.op=1 then (idx lst t.clause).bind fun c=>(Q19 t.binds v).bind fun l=>if Q2o c.guard l=true then some (t.clause,l,0) else match t.else_ with
   | el::_=>runT d el lst v
   | []=>none
  else some (-1,[],0)
theorem Z1r {cut:Int→Bool} : ∀ (m:Nat) (n fr:Int),fr<n→(∀ c,fr<c→c<n→cut c=false)→∀ b∈Z0e cut m n fr,b.n≤b.m∧fr≤b.n∧∀ c,b.n<c→c≤b.m→cut c=false
 | 0,_,_,_,_,b,h=>by simp [Z0e] at h
 | m+1,n,fr,h1,h2,b,h=>by
  unfold Z0e at h
  split at h
  ·rcases U8.1 h with rfl | h
   ·exact ⟨by simp only;omega,by simp only;omega,fun c hc hc'=>h2 c hc (by simp only at hc';omega)⟩
   ·obtain ⟨g1,g2,g3⟩:=Z1r m (n+1) n (by omega) (fun c hc hc'=>by omega) b h
    exact ⟨g1,by omega,g3⟩
  ·rename_i hc
   exact Z1r m (n+1) fr (by omega) (fun c hc1 hc2=>by
    by_cases hcn:c=n
    ·rw [hcn];simpa using hc
    ·exact h2 c hc1 (by omega)) b h
theorem Z1s {cut:Int→Bool} : ∀ (m:Nat) (n fr:Int),fr<n→cut (n+m-1)=true→1≤m→∀ x,fr≤x→x<n+m-1→∃ b∈Z0e cut m n fr,b.n≤x∧x≤b.m
 | 0,_,_,_,_,h,_,_,_=>by omega
 | m+1,n,fr,h1,hc,_,x,hx1,hx2=>by
  unfold Z0e
  split
  ·by_cases hxn:x<n
   ·exact ⟨⟨-1,fr,n-1,zT⟩,by simp,by simp only;omega,by simp only;omega⟩
   ·have hm:1≤m:=by omega
    obtain ⟨b,hb,g⟩:=Z1s m (n+1) n (by omega) (by rw [←hc];congr 1;omega) hm x (by omega) (by omega)
    exact ⟨b,by simp [hb],g⟩
  ·rename_i hcn
   have hm:1≤m:=by
    rcases Nat.eq_zero_or_pos m with rfl | h
    ·simp only [Nat.zero_add,Int.natCast_one] at hc
     rw [show n+1-1=n by omega] at hc
     exact absurd hc hcn
    ·exact h
   exact Z1s m (n+1) fr (by omega) (by rw [←hc];congr 1;omega) hm x hx1 (by omega)
def V0s (w:List Q3):Bool:=(tys w).all fun t=>decide (t.data = -1)||(W1 w t).all fun c=>decide (Z1j w t c=(Q0z w t c).all fun a=>decide (depP w a≠0))
theorem W7g:Q1q.all V0s=true:=by kernel_rfl
theorem W9v {w:List Q3}(h:w∈Q1q){t:Q6}(ht:t∈tys w)(hd:t.data≠-1){c:Int}(hc:c∈W1 w t):Z1j w t c=(Q0z w t c).all fun a=>decide (depP w a≠0):=by
 have h1:=List.all_eq_true.1 W7g w h
 have h2:=List.all_eq_true.1 h1 t ht
 simp only [Bool.or_eq_true,decide_eq_true_eq,List.all_eq_true] at h2
 rcases h2 with h2 | h2
 ·exact absurd h2 hd
 ·exact h2 c hc
theorem W32 {w:List Q3}(hww:w∈Q1q){t:Q6}(ht:t∈tys w){e:Nat}{u:Q2}(hu:Q6g w e t u)(rows:List Grow)(k:Nat):∃ b∈brsD w rows t k,X8 b u=true:=by
 cases e with
 | zero=>exact hu.elim
 | succ e=>
 have hw:=ww hww
 unfold brsD
 rw [Q6g] at hu
 split
 ·rename_i hd
  rw [if_pos hd] at hu
  obtain ⟨h1,h2,h3,_⟩:=hu
  obtain ⟨b,hb,h4,h5⟩:=Z1s (cut:=cutB rows k) 10 1 0 (by omega) (by simp [cutB]) (by omega) u.n h2 (by omega)
  refine ⟨b,hb,?_⟩
  have hc:=Q8o _ _ _ _ b hb
  simp [X8,hc,h1,h4,h5]
 ·rename_i hd
  rw [if_neg hd] at hu
  obtain ⟨_,h2,h3,h4⟩:=hu
  refine ⟨⟨u.ctor,0,0,zT⟩,U10.2 ⟨u.ctor,List.mem_filter.2 ⟨h2,?_⟩,rfl⟩,?_⟩
  ·rw [W9v hww ht hd h2,List.all_eq_true]
   intro a ha
   obtain ⟨j,hj⟩:=List.mem_iff_getElem?.1 ha
   have hjl:=(List.getElem?_eq_some_iff.1 hj).1
   have hx:u.kids[j]?=some (u.kids[j]'(by omega)):=by simp
   simpa using X6b hw (we hww) e a _ ((hw.ty t ht).at_ _ h2 a ha) (h4 j a _ hj hx)
  ·have:=(wl hww).pos t ht hd _ h2
   simp [X8,this]
theorem Z8n {w:List Q3}{t:Q6}{rows:List Grow}{k:Nat}{b:Q8}(hb:b∈brsD w rows t k){r:Grow}(hr:r∈rows)(hp:PatC w t (X6 r k)){u:Q2}{e:Nat}(hu:Q6g w e t u)(hf:X8 b u=true)(d:Nat) :
  Q46 (X6 r k) b=false→Z8 (d+1) (X6 r k) u=none:=by
 intro hfit
 simp only [X8,Bool.and_eq_true,Bool.or_eq_true,decide_eq_true_eq] at hf
 rcases hp.2.2 with h1 | h3 | h4
 ·simp [Q46,h1] at hfit
 ·rw [Z8,if_neg (by omega),if_neg (by omega),if_pos h3]
  rw [Q46,if_neg (by omega),if_pos h3] at hfit
  rcases Z0p (Q0a hp.1) with h | h | h | h | h | h<;>try omega
  obtain ⟨_,hd,g0,g1,g2⟩:=h
  refine if_neg fun hin=>?_
  unfold brsD at hb
  rw [if_pos hd] at hb
  obtain ⟨q1,q2,q3⟩:=Z1r 10 1 0 (by omega) (fun c h1 h2=>by omega) b hb
  have hc:=Q8o _ _ _ _ b hb
  rcases hf.2 with h | h
  ·exact absurd hc h
  simp only [Bool.and_eq_false_iff,decide_eq_false_iff_not] at hfit
  have hcut:∀ n,(n=(X6 r k).n∨n=(X6 r k).m+1)→cutB rows k n=true:=fun n hn=>by
   simp only [cutB,Bool.or_eq_true,decide_eq_true_eq]
   right
   unfold endB
   rw [List.any_eq_true]
   refine ⟨r,hr,?_⟩
   simp only [h3,decide_true,Bool.true_and,Bool.or_eq_true,decide_eq_true_eq]
   omega
  rcases hfit with h5 | h5
  ·have:=q3 (X6 r k).n (by omega) (by omega)
   rw [hcut _ (.inl rfl)] at this
   cases this
  ·have:=q3 ((X6 r k).m+1) (by omega) (by omega)
   rw [hcut _ (.inr rfl)] at this
   cases this
 ·rw [Z8,if_neg (by omega),if_neg (by omega),if_neg (by omega),if_neg (by omega),if_neg (by omega)]
  rw [Q46,if_neg (by omega),if_neg (by omega),decide_eq_false_iff_not] at hfit
  exact if_neg fun h=>hfit (by omega)
def cntV:Q2→Nat
 | ⟨_,_,kids⟩=>1+cntVs kids
where cntVs:List Q2→Nat
 | []=>0
 | v::l=>cntV v+cntVs l
theorem Z70 (v:Q2):cntV v=1+cntV.cntVs v.kids:=by cases v;rw [cntV]
theorem Z3v:∀ (l:List Q2) (k:Nat) (q:Q2),l[k]?=some q→cntV.cntVs (l.take (k+1))=cntV.cntVs (l.take k)+cntV q
 | [],k,q,h=>by simp at h
 | p::l,0,q,h=>by simp at h;subst h;simp [cntV.cntVs]
 | p::l,k+1,q,h=>by
  have:=Z3v l k q (by simpa using h)
  simp only [List.take_succ_cons,cntV.cntVs]
  omega
theorem Q9d:∀ (l:List Q2) (k:Nat),cntV.cntVs (l.take k)≤cntV.cntVs l
 | [],k=>by simp
 | p::l,0=>by simp [cntV.cntVs]
 | p::l,k+1=>by
  have:=Q9d l k
  simp only [List.take_succ_cons,cntV.cntVs]
  omega
def Q29 (w:List Q3):Nat→Q6→Q2→Bool
 | 0,_,_=>false
 | d+1,t,v=>if t.data = -1 then decide (v.ctor = -1)&&(decide (0≤v.n)&&(decide (v.n≤9)&&decide (v.kids.length=0)))
  else decide (v.n=0)&&(decide (v.ctor∈W1 w t)&&(decide (v.kids.length=(Q0z w t v.ctor).length)&&((Q0z w t v.ctor).zip v.kids).all fun x=>Q29 w d x.1 x.2))
theorem X89 {w:List Q3} : ∀ (d:Nat) (t:Q6) (v:Q2),Q29 w d t v=true↔Q6g w d t v:=by
 intro d
 induction d with
 | zero=>intro t v;simp [Q29,Q6g]
 | succ d ih=>
  intro t v
  rw [Q29,Q6g]
  split
  ·simp only [Bool.and_eq_true,decide_eq_true_eq,List.length_eq_zero_iff]
  ·simp only [Bool.and_eq_true,decide_eq_true_eq,List.all_eq_true]
   constructor
   ·rintro ⟨h1,h2,h3,h4⟩
    exact ⟨h1,h2,h3,fun j a x ha hx=>(ih a x).1 (h4 (a,x) (U1 (Q7a ha hx)))⟩
   ·rintro ⟨h1,h2,h3,h4⟩
    refine ⟨h1,h2,h3,fun x hx=>?_⟩
    obtain ⟨j,hj⟩:=List.mem_iff_getElem?.1 hx
    obtain ⟨e1,e2⟩:=List.getElem?_zip_eq_some.1 hj
    exact (ih _ _).2 (h4 j _ _ e1 e2)
def okV (w:List Q3)(d:Nat)(t:Q6)(v:Q2)(c:Nat):Bool:=Q29 w d t v&&decide (c+cntV v≤60)
def Z1z (w:List Q3)(t:Q6)(v:Q2):Bool:=Q29 w 10 t v&&decide (cntV v≤60)
theorem Z5a {w:List Q3}{t:Q6}{v:Q2}(h:Z1z w t v=true):Q6g w 10 t v:=by
 simp only [Z1z,Bool.and_eq_true] at h
 exact (X89 10 t v).1 h.1
theorem W18 {w:List Q3}{d:Nat}{t:Q6}{v:Q2}{c:Nat}(h:Q29 w d t v=false):okV w d t v c=false:=by simp [okV,h]
theorem V1v {w:List Q3}(hw:WW w):∀ (d n:Nat) (t:Q6) (v:Q2) (c:Nat),t∈tys w→c≤60→d+2≤n→d≤10→
  Ret (Q1l n w t v (11-(d:Int)) false (c:Int)) (fun r=>r.1=okV w d t v c∧(okV w d t v c=true→r.2=((c+cntV v:Nat):Int))):=by
 intro d
 induction d with
 | zero=>
  intro n t v c ht hc hn hd
  obtain ⟨n,rfl⟩:∃ k,n=k+1:=⟨n-1,by omega⟩
  have hb:okV w 0 t v c=false:=W18 rfl
  unfold Q1l
  refine Ret.ite (fun _=>.some ⟨hb.symm,fun h=>by rw [hb] at h;cases h⟩) (fun _=>?_)
  rw [if_pos (by rw [W0];omega)]
  exact .some ⟨hb.symm,fun h=>by rw [hb] at h;cases h⟩
 | succ d ih=>
  intro n t v c ht hc hn hd
  obtain ⟨n,rfl⟩:∃ k,n=k+1:=⟨n-1,by omega⟩
  have hT:=hw.ty t ht
  unfold Q1l
  have hc1:wadd .i64 (c:Int) 1=((c+1:Nat):Int):=by rw [J2]<;>omega
  rw [hc1]
  have hpos:1≤cntV v:=by rw [Z70];omega
  refine Ret.ite (fun hlt=>?_) (fun hle=>?_)
  ·rw [W0] at hlt
   have hb:okV w (d+1) t v c=false:=by simp only [okV,Bool.and_eq_false_iff,decide_eq_false_iff_not];right;omega
   exact .some ⟨hb.symm,fun h=>by rw [hb] at h;cases h⟩
  rw [W9] at hle
  rw [if_neg (by rw [W0];omega),if_neg (by simp)]
  have bad:Q29 w (d+1) t v=false→okV w (d+1) t v c=false:=W18
  refine Ret.ctl (R:=fun r:Bool×Int=>r.1=okV w (d+1) t v c∧(okV w (d+1) t v c=true→r.2=((c+cntV v:Nat):Int))) (B:=fun _:Unit=>t.data≠-1∧v.n=0∧v.ctor∈W1 w t) ?_ (fun r hr=>.some hr) (fun s hs=>?_)
  ·refine Ret.ite (fun hi=>?_) (fun hi=>?_)
   ·rw [X1] at hi
    have hg:Q29 w (d+1) t v=(decide (v.ctor = -1)&&(decide (0≤v.n)&&(decide (v.n≤9)&&decide (v.kids.length=0)))):=by rw [Q29,if_pos hi]
    refine Ret.ite (fun h1=>?_) (fun h1=>?_)
    ·rw [X1] at h1
     rw [Q9r]
     simp only [U0]
     refine Ret.ite (fun h2=>?_) (fun h2=>?_)
     ·simp only [Bool.and_eq_true,decide_eq_true_eq] at h2
      have hk:Q29 w (d+1) t v=decide (v.kids.length=0):=by rw [hg];simp [h1,h2.1,h2.2]
      refine .some ?_
      have h0:v.kids.length=0→cntV v=1:=fun h=>by rw [Z70,List.eq_nil_of_length_eq_zero h];rfl
      by_cases hz:v.kids.length=0
      ·have e1:okV w (d+1) t v c=true:=by simp only [okV,hk,hz,decide_true,Bool.true_and,decide_eq_true_eq];have:=h0 hz;omega
       rw [e1]
       refine ⟨?_,fun _=>?_⟩
       ·simp only [X1,lenZ];omega
       ·have:=h0 hz;simp only;omega
      ·have e1:okV w (d+1) t v c=false:=bad (by rw [hk];simp [hz])
       rw [e1]
       refine ⟨?_,fun h=>by cases h⟩
       simp only [W5,lenZ];omega
     ·have e1:okV w (d+1) t v c=false:=bad (by
       rw [hg]
       simp only [Bool.and_eq_false_iff,decide_eq_false_iff_not] at h2 ⊢
       rcases h2 with h2 | h2
       ·exact .inr (.inl h2)
       ·exact .inr (.inr (.inl h2)))
      exact .some ⟨e1.symm,fun h=>by rw [e1] at h;cases h⟩
    ·rw [W5] at h1
     have e1:okV w (d+1) t v c=false:=bad (by rw [hg];simp [h1])
     exact .some ⟨e1.symm,fun h=>by rw [e1] at h;cases h⟩
   ·rw [W5] at hi
    have hg:Q29 w (d+1) t v=(decide (v.n=0)&&(decide (v.ctor∈W1 w t)&&(decide (v.kids.length=(Q0z w t v.ctor).length)&&((Q0z w t v.ctor).zip v.kids).all fun x=>Q29 w d x.1 x.2))):=by rw [Q29,if_neg hi]
    refine Ret.ite (fun h1=>?_) (fun h1=>?_)
    ·rw [Bool.not_eq_true',W5] at h1
     have e1:okV w (d+1) t v c=false:=bad (by rw [hg];simp [h1])
     exact .some ⟨e1.symm,fun h=>by rw [e1] at h;cases h⟩
    rw [Bool.not_eq_false',X1] at h1
    rw [hT.c2]
    simp only [U0]
    rw [Z0f]
    simp only [U0]
    refine Ret.ite (fun h2=>?_) (fun h2=>?_)
    ·rw [Bool.not_eq_true',decide_eq_false_iff_not] at h2
     have e1:okV w (d+1) t v c=false:=bad (by rw [hg];simp [h2])
     exact .some ⟨e1.symm,fun h=>by rw [e1] at h;cases h⟩
    rw [Bool.not_eq_false',decide_eq_true_eq] at h2
    exact .some ⟨hi,h1,h2⟩
  ·obtain ⟨s1,s2,s3⟩:=hs
   have hg:Q29 w (d+1) t v=(decide (v.kids.length=(Q0z w t v.ctor).length)&&((Q0z w t v.ctor).zip v.kids).all fun x=>Q29 w d x.1 x.2):=by rw [Q29,if_neg s1];simp [s2,s3]
   rw [hT.a2 _ s3]
   simp only [U0]
   refine Ret.ite (fun hl=>?_) (fun hl=>?_)
   ·rw [Bool.not_eq_true',W5] at hl
    simp only [lenZ] at hl
    have e1:okV w (d+1) t v c=false:=bad (by rw [hg];simp only [Bool.and_eq_false_iff,decide_eq_false_iff_not];left;omega)
    exact .some ⟨e1.symm,fun h=>by rw [e1] at h;cases h⟩
   rw [Bool.not_eq_false',X1] at hl
   simp only [lenZ] at hl
   have hcv:=Z70 v
   refine Ret.ctl (Z4 v.kids (fun k s=>s=((c+1+cntV.cntVs (v.kids.take k):Nat):Int)∧c+1+cntV.cntVs (v.kids.take k)≤60∧∀ (j:Nat) (a:Q6) (x:Q2),j<k→(Q0z w t v.ctor)[j]?=some a→v.kids[j]?=some x→Q29 w d a x=true) (fun r:Bool×Int=>r.1=okV w (d+1) t v c∧(okV w (d+1) t v c=true→r.2=((c+cntV v:Nat):Int))) (fun s=>s=((c+cntV v:Nat):Int)∧okV w (d+1) t v c=true) ⟨by simp [cntV.cntVs],by simp only [List.take_zero,cntV.cntVs];omega,fun j a x hj=>by omega⟩ (fun k x s hx hI=>?_) (fun s hI=>?_)) (fun r hr=>.some hr) (fun s hs=>.some ⟨hs.2.symm,fun _=>hs.1⟩)
   ·obtain ⟨rfl,i2,i3⟩:=hI
    have hk:=(List.getElem?_eq_some_iff.1 hx).1
    have ha:(Q0z w t v.ctor)[k]?=some ((Q0z w t v.ctor)[k]'(by omega)):=by simp
    rw [Q28 ha]
    simp only [U0]
    have hdd:wadd .i64 (11-((d+1:Nat):Int)) 1=11-(d:Int):=by rw [J2]<;>omega
    rw [hdd]
    refine Ret.bind (ih n _ x _ (hT.at_ _ s3 _ (U1 ha)) i2 (by omega) (by omega)) (fun r hr=>?_)
    obtain ⟨r1,r2⟩:=hr
    have htk:=Z3v v.kids k x hx
    refine Ret.ite (fun h=>?_) (fun h=>?_)
    ·rw [Bool.not_eq_true',r1] at h
     have e1:okV w (d+1) t v c=false:=by
      simp only [okV,Bool.and_eq_false_iff,decide_eq_false_iff_not] at h ⊢
      rcases h with h | h
      ·left
       rw [hg,Bool.and_eq_false_iff]
       right
       rw [List.all_eq_false]
       exact ⟨_,U1 (Q7a ha hx),by simp [h]⟩
      ·right
       have:=Q9d v.kids (k+1)
       omega
     exact .some ⟨e1.symm,fun h=>by rw [e1] at h;cases h⟩
    ·rw [Bool.not_eq_false',r1] at h
     have r3:=r2 h
     simp only [okV,Bool.and_eq_true,decide_eq_true_eq] at h
     refine .some ⟨?_,by omega,fun j a y hj h1 h2=>?_⟩
     ·rw [r3];omega
     ·by_cases hjk:j=k
      ·subst hjk
       rw [ha] at h1
       rw [hx] at h2
       cases h1
       cases h2
       exact h.1
      ·exact i3 j a y (by omega) h1 h2
   ·obtain ⟨rfl,i2,i3⟩:=hI
    rw [List.take_length] at i2 ⊢
    refine ⟨by omega,?_⟩
    simp only [okV,Bool.and_eq_true,decide_eq_true_eq]
    refine ⟨?_,by omega⟩
    rw [hg]
    simp only [Bool.and_eq_true,decide_eq_true_eq,List.all_eq_true]
    refine ⟨by omega,fun y hy=>?_⟩
    obtain ⟨j,hj⟩:=List.mem_iff_getElem?.1 hy
    obtain ⟨e1,e2⟩:=List.getElem?_zip_eq_some.1 hj
    exact i3 j _ _ (List.getElem?_eq_some_iff.1 e2).1 e1 e2
theorem X1y {w:List Q3}(hw:WW w){t:Q6}(ht:t∈tys w)(v:Q2):Q40 NN w t v=some (Z1z w t v):=by
 suffices hs:Ret (Q40 NN w t v) (fun r=>r=Z1z w t v) by
  obtain ⟨a,e,rfl⟩:=hs
  exact e
 unfold Q40
 refine Ret.bind (V1v hw 10 NN t v 0 ht (by omega) (by decide) (by omega)) (fun r hr=>.some ?_)
 rw [hr.1]
 simp [okV,Z1z]
theorem W6s {w:List Q3} : ∀ (d e:Nat) (t:Q6) (v:Q2),d≤e→Q6g w d t v→Q6g w e t v:=by
 intro d
 induction d with
 | zero=>intro e t v _ h;exact h.elim
 | succ d ih=>
  intro e t v he h
  obtain ⟨e,rfl⟩:∃ k,e=k+1:=⟨e-1,by omega⟩
  rw [Q6g] at h ⊢
  split
  ·rename_i hd;rw [if_pos hd] at h;exact h
  ·rename_i hd
   rw [if_neg hd] at h
   exact ⟨h.1,h.2.1,h.2.2.1,fun j a x ha hx=>ih e a x (by omega) (h.2.2.2 j a x ha hx)⟩
theorem X0u {w:List Q3}{v:Q2} : ∀ (ps:List Q0) (args:List Z5) (us:List Q2),ps.length=args.length→us.length=args.length→
  (∀ (j:Nat) (p:Q0) (c:Z5) (u:Q2),ps[j]?=some p→args[j]?=some c→us[j]?=some u→PatO w c.t p∧Q6c v c.path=some u)→
  ∃ zb,Q19 ((zipS ps args).flatMap (·.1)) v=some zb∧((V0 (Z8 12) ps us=none∧V0 (Z8 12) ((zipS ps args).map (·.2)) us=none)∨∃ p z,V0 (Z8 12) ps us=some p∧V0 (Z8 12) ((zipS ps args).map (·.2)) us=some z∧p.Perm (zb++z))
 | [],[],[],_,_,_=>⟨[],rfl,.inr ⟨[],[],rfl,rfl,by simp⟩⟩
 | p::ps,c::args,u::us,h1,h2,h=>by
  obtain ⟨hp,hu⟩:=h 0 p c u rfl rfl rfl
  obtain ⟨zb,e1,e2⟩:=X0u (w:=w) (v:=v) ps args us (by simpa using h1) (by simpa using h2) fun j p c u a1 a2 a3=>h (j+1) p c u (by simpa using a1) (by simpa using a2) (by simpa using a3)
  have hz:zipS (p::ps) (c::args)=Q5o p c.path::zipS ps args:=rfl
  have hs:=Z5e c.path hp
  have hm:=W80 c.path u hp.1
  rw [hz]
  simp only [List.flatMap_cons,List.map_cons]
  rw [Q9i,Q9h hu hs.2.2,e1]
  refine ⟨_,rfl,?_⟩
  simp only [V0]
  rw [hm]
  cases Z8 12 (Q5o p c.path).2 u with
  | none=>exact .inl ⟨rfl,rfl⟩
  | some l1=>
   simp only [Option.map_some]
   rcases e2 with ⟨e3,e4⟩ | ⟨q,z,e3,e4,e5⟩
   ·rw [e3,e4];exact .inl ⟨rfl,rfl⟩
   ·rw [e3,e4]
    refine .inr ⟨_,_,rfl,rfl,?_⟩
    rw [List.append_assoc,List.append_assoc]
    refine List.Perm.append_left _ ?_
    refine (List.Perm.append_left l1 e5).trans ?_
    rw [←List.append_assoc,←List.append_assoc]
    exact List.Perm.append_right _ List.perm_append_comm
 | [],[],_::_,_,h,_=>by simp at h
 | [],_::_,_,h,_,_=>by simp at h
 | _::_,[],_,h,_,_=>by simp at h
 | _::_,_::_,[],_,h,_=>by simp at h
def Z9h (b:Q8)(u:Q2):List Q2:=if b.ctor = -1 then [] else u.kids
def usD (us:List Q2)(k:Nat)(b:Q8)(u:Q2):List Q2:=us.take k++Z9h b u++us.drop (k+1)
theorem Z65 {w:List Q3}{col:Z5}{b:Q8}(hB:BrC w col.t b){u:Q2}{e:Nat}(hu:Q6g w e col.t u)(hf:X8 b u=true):(Z9h b u).length=(Y4 w col b).length:=by
 rw [Q63]
 unfold Z9h
 split
 ·rfl
 ·rename_i hc
  have hd:col.t.data≠-1:=fun hd=>hc (hB.int hd)
  simp only [X8,Bool.and_eq_true,decide_eq_true_eq] at hf
  cases e with
  | zero=>exact hu.elim
  | succ e=>
   rw [Q6g,if_neg hd] at hu
   rw [hu.2.2.1,hf.1]
theorem X88 {w:List Q3}(hS:WS w){col:Z5}(ht:col.t∈tys w){b:Q8}(hB:BrC w col.t b){p:Q0}(hp:PatC w col.t p){u:Q2}{e:Nat}(hu:Q6g w e col.t u)(hf:X8 b u=true)(hfit:Q46 p b=true) :
  Z8 12 p u=V0 (Z8 12) (Q27 p (Y4 w col b)) (Z9h b u):=by
 have hlen:=Z65 hB hu hf
 have hn:=Q0a hp.1
 rcases hp.2.2 with h1 | h3 | h4
 ·rw [Q27,if_pos h1,Z8,if_pos h1]
  rw [Z3g (d:=11) (fun q hq=>by obtain ⟨_,_,rfl⟩:=U10.1 hq;rfl) (by rw [U7,hlen])]
 ·rw [Q27,if_neg (by omega)]
  have hk:=Z1i hn (by omega) (by omega) (by omega)
  rcases Z0p hn with h | h | h | h | h | h<;>try omega
  have hbi:=hB.int h.2.1
  simp only [X8,Bool.and_eq_true,Bool.or_eq_true,decide_eq_true_eq] at hf
  rw [Q46,if_neg (by omega),if_pos h3] at hfit
  simp only [Bool.and_eq_true,decide_eq_true_eq] at hfit
  rw [hk,Z8,if_neg (by omega),if_neg (by omega),if_pos h3]
  rcases hf.2 with h5 | h5
  ·exact absurd hbi h5
  rw [if_pos (by omega)]
  rfl
 ·rw [Q27,if_neg (by omega)]
  have hct:=Q81 (Q0t hn).1 h4
  have hd:col.t.data≠-1:=fun hd=>by rw [hS.int _ ht hd] at hct;cases hct
  have hb:=(hB.ctor hd).2
  rw [Q46,if_neg (by omega),if_neg (by omega),decide_eq_true_eq] at hfit
  simp only [X8,Bool.and_eq_true,decide_eq_true_eq] at hf
  rw [Z8,if_neg (by omega),if_neg (by omega),if_neg (by omega),if_neg (by omega),if_neg (by omega),if_pos (by omega),Z9h,if_neg hb]
  refine Z04 _ _ fun j q x hq _=>?_
  have hj:=(List.getElem?_eq_some_iff.1 hq).1
  have ha:(J1 w col.t p)[j]?=some ((J1 w col.t p)[j]'(by rw [←(Q0t hn).2];exact hj)):=by simp
  exact ((Z2n 11 _ q (Q03 hp.1 ha hq)).2.2.2 x).symm
theorem Z8r {w:List Q3}{v:Q2}{cols:List Z5}{us:List Q2}(h:W3g w v cols us){k:Nat}{col:Z5}(hk:cols[k]?=some col){u:Q2}(hu:us[k]?=some u){b:Q8}(hB:BrC w col.t b)(hf:X8 b u=true) :
  W3g w v (Q6i cols k (Y4 w col b)) (usD us k b u):=by
 obtain ⟨hp,hg⟩:=h.at_ k col u hk hu
 have hkl:=(List.getElem?_eq_some_iff.1 hk).1
 have hl:=Z65 hB hg hf
 have hlen:=h.len
 refine ⟨by simp only [Q6i,usD,U5,U6,List.length_drop,hl];omega,fun j c x hc hx=>?_⟩
 unfold Q6i at hc
 unfold usD at hx
 by_cases h1:j<k
 ·rw [List.append_assoc,List.getElem?_append_left (by rw [U6];omega),List.getElem?_take_of_lt h1] at hc hx
  exact h.at_ j c x hc hx
 ·by_cases h2:j<k+(Y4 w col b).length
  ·rw [List.append_assoc,List.getElem?_append_right (by rw [U6];omega),U6,List.getElem?_append_left (by omega)] at hc hx
   rw [show min k us.length=k by omega] at hx
   rw [show min k cols.length=k by omega] at hc
   generalize hi:j-k=i at hc hx
   by_cases hc1:b.ctor = -1
   ·rw [Y4,if_pos hc1] at hc;simp at hc
   have hd:col.t.data≠-1:=fun hd=>hc1 (hB.int hd)
   have hil:=(List.getElem?_eq_some_iff.1 hc).1
   rw [Q63,if_neg hc1] at hil
   have hti:(Q0z w col.t b.ctor)[i]?=some ((Q0z w col.t b.ctor)[i]):=U9 hil
   rw [Z35 hc1 hti] at hc
   cases hc
   rw [Z9h,if_neg hc1] at hx
   simp only [X8,Bool.and_eq_true,decide_eq_true_eq] at hf
   rw [Q6g,if_neg hd] at hg
   refine ⟨?_,W6s 9 10 _ _ (by omega) (hg.2.2.2 i _ x (by rw [←hf.1];exact hti) hx)⟩
   rw [Z8d,hp]
   simp only [U0]
   exact Q28 hx
  ·have hcl:(cols.take k++Y4 w col b).length=k+(Y4 w col b).length:=by rw [U5,U6];omega
   have hul:(us.take k++Z9h b u).length=k+(Y4 w col b).length:=by rw [U5,U6,hl];omega
   rw [List.getElem?_append_right (by omega),hcl,List.getElem?_drop] at hc
   rw [List.getElem?_append_right (by omega),hul,List.getElem?_drop] at hx
   exact h.at_ _ c x hc hx
theorem Z2o {α:Type}{l:List α}{k:Nat}{x:α}(h:l[k]?=some x):l=l.take k++([x]++l.drop (k+1)):=by
 have:=Z0d h
 rw [List.singleton_append,←this,List.take_append_drop]
theorem Z2r {w:List Q3}(hS:WS w){lst:List Z1}{v:Q2}{cols:List Z5}{us:List Q2}(h:W3g w v cols us){k:Nat}{col:Z5}(hk:cols[k]?=some col)(ht:col.t∈tys w){u:Q2}(hu:us[k]?=some u){b:Q8}(hB:BrC w col.t b)(hf:X8 b u=true)
  {r:Grow} (hr:RowC w lst cols r) {rb:List V5} (hrb:Q19 r.binds v=some rb) (hfit:Q46 (X6 r k) b=true) :
  (∃ kb,Q19 (Q72 r k (Y4 w col b)).binds v=some kb)∧((rowB r v us=none∧rowL r us=none∧rowL (Q72 r k (Y4 w col b)) (usD us k b u)=none)∨∃ x y,rowB r v us=some x∧(rowL r us).isSome=true∧rowB (Q72 r k (Y4 w col b)) v (usD us k b u)=some y∧(rowL (Q72 r k (Y4 w col b)) (usD us k b u)).isSome=true∧x.Perm y):=by
 obtain ⟨hkl,hp⟩:=hr.at hk
 obtain ⟨hpv,hg⟩:=h.at_ k col u hk hu
 have hul:=(List.getElem?_eq_some_iff.1 hu).1
 have hlen:=h.len
 have hrl:=hr.len
 have hpk:r.pats[k]?=some (X6 r k):=by unfold X6;rw [U9 hkl];rfl
 obtain ⟨c1,c2,_⟩:=W1i hS ht hp hB hfit rfl
 have hkU:=Z65 hB hg hf
 have hnx:=Z8r h hk hu hB hf
 obtain ⟨zb,e1,e2⟩:=X0u (w:=w) (v:=v) (Q27 (X6 r k) (Y4 w col b)) (Y4 w col b) (Z9h b u) c1 hkU fun j p c x a1 a2 a3=>⟨c2 j p c a1 a2,by
  have hjl:=(List.getElem?_eq_some_iff.1 a2).1
  refine (hnx.at_ (k+j) c x ?_ ?_).1
  ·unfold Q6i
   rw [List.append_assoc,List.getElem?_append_right (by rw [U6];omega),U6,List.getElem?_append_left (by omega),show k+j-min k cols.length=j by omega]
   exact a2
  ·unfold usD
   rw [List.append_assoc,List.getElem?_append_right (by rw [U6];omega),U6,List.getElem?_append_left (by omega),show k+j-min k us.length=j by omega]
   exact a3⟩
 rw [←X88 hS ht hB hp hg hf hfit] at e2
 have hR:rowL r us=(V0 (Z8 12) (r.pats.take k) (us.take k)).bind fun a=>((Z8 12 (X6 r k) u).bind fun p=>(V0 (Z8 12) (r.pats.drop (k+1)) (us.drop (k+1))).map (p++·)).map (a++·):=by
  unfold rowL
  conv=>lhs;rw [Z2o hpk,Z2o hu]
  rw [Q4k _ _ _ _ (by simp only [U6];omega)]
  congr 1
  funext a
  congr 1
  rw [Q4k _ _ _ _ (by simp)]
  simp only [V0]
  cases Z8 12 (X6 r k) u<;>simp
 have hK:rowL (Q72 r k (Y4 w col b)) (usD us k b u)=(V0 (Z8 12) (r.pats.take k) (us.take k)).bind fun a=>((V0 (Z8 12) ((zipS (Q27 (X6 r k) (Y4 w col b)) (Y4 w col b)).map (·.2)) (Z9h b u)).bind fun p=>(V0 (Z8 12) (r.pats.drop (k+1)) (us.drop (k+1))).map (p++·)).map (a++·):=by
  unfold rowL Q72 usD
  simp only
  rw [List.append_assoc,List.append_assoc,Q4k _ _ _ _ (by simp only [U6];omega)]
  congr 1
  funext a
  congr 1
  rw [Q4k _ _ _ _ (by simp only [U7,zipS,List.length_zipWith];omega)]
 have hKb:Q19 (Q72 r k (Y4 w col b)).binds v=some (rb++zb):=by
  unfold Q72
  simp only
  rw [Q9i,hrb,e1]
  rfl
 refine ⟨⟨_,hKb⟩,?_⟩
 unfold rowB
 rw [hrb,hKb,hR,hK]
 simp only [U0]
 cases V0 (Z8 12) (r.pats.take k) (us.take k) with
 | none=>exact .inl ⟨rfl,rfl,rfl⟩
 | some a=>
 simp only [U0]
 rcases e2 with ⟨e3,e4⟩ | ⟨p,z,e3,e4,e5⟩
 ·rw [e3,e4];exact .inl ⟨rfl,rfl,rfl⟩
 ·rw [e3,e4]
  simp only [U0]
  cases V0 (Z8 12) (r.pats.drop (k+1)) (us.drop (k+1)) with
  | none=>exact .inl ⟨rfl,rfl,rfl⟩
  | some c=>
   refine .inr ⟨_,_,rfl,rfl,rfl,rfl,?_⟩
   simp only [List.append_assoc]
   refine List.Perm.append_left _ ?_
   refine ((e5.append_right c).append_left a).trans ?_
   have h9:(a++zb++(z++c)).Perm (zb++a++(z++c)):=List.Perm.append_right _ List.perm_append_comm
   simpa only [List.append_assoc] using h9
theorem X4p {α:Type}{l:List α}{f g:α→Bool}(h:∀ x∈l,f x=g x):l.find? f=l.find? g:=by
 induction l with
 | nil=>rfl
 | cons a l ih=>
  rw [List.find?_cons,List.find?_cons,h a (by simp),ih fun x hx=>h x (by simp [hx])]
theorem X40 (rows:List Grow)(k:Nat)(b:Q8)(args:List Z5)(c:Int):Q36 (Q4y rows k b args) c=Q4y (Q36 rows c) k b args:=by
 unfold Q36 Q4y
 rw [List.filter_map,List.filter_filter,List.filter_filter]
 congr 1
 refine List.filter_congr fun r _=>?_
 simp only [Function.comp,Q72]
 exact Bool.and_comm _ _
def W7v (w:List Q3)(lst:List Z1)(cols:List Z5)(v:Q2)(rows:List Grow):Prop:=∀ r∈rows,RowC w lst cols r∧∃ l,Q19 r.binds v=some l
theorem W2c {w:List Q3} : ∀ (d:Nat) (t:Q6) (p:Q0),Q0j w d t p=true→Z7x d p→∀ v l,Z8 d p v=some l→l.map (·.var)=Q45 p:=by
 intro d
 induction d with
 | zero=>intro t p h;simp [Q0j] at h
 | succ d ih=>
  intro t p g hf v l hm
  have hn:=Q0a g
  obtain ⟨ho,hl⟩:=Q0t hn
  have h5:=hf.1
  rw [Q8u,Q68]
  rw [Z8] at hm
  by_cases h1:p.op=1
  ·rw [if_pos h1] at hm
   cases hm
   rw [Z1i hn (by omega) (by omega) (by omega),if_neg (by omega)];rfl
  rw [if_neg h1] at hm
  by_cases h2:p.op=2
  ·rw [if_pos h2] at hm
   cases hm
   rw [Z1i hn (by omega) (by omega) (by omega),if_pos (.inl h2)];rfl
  rw [if_neg h2] at hm
  by_cases h3:p.op=3
  ·rw [if_pos h3] at hm
   split at hm
   ·cases hm
    rw [Z1i hn (by omega) (by omega) (by omega),if_neg (by omega)];rfl
   ·cases hm
  rw [if_neg h3,if_neg h5] at hm
  by_cases h6:p.op=6
  ·rw [if_pos h6] at hm
   obtain ⟨a,hk,hkt⟩:=Z9i h6 hl
   have ga:=Q03 g (k:=0) (a:=t) (q:=a) (by rw [hkt];rfl) (by rw [hk];rfl)
   rw [hk] at hm
   simp only [U11] at hm
   obtain ⟨m,hm,rfl⟩:=hm
   rw [if_pos (.inr h6),hk,List.map_cons,ih t a ga (hf.2 a (by rw [hk];simp)) v m hm]
   simp
  rw [if_neg h6] at hm
  rw [if_neg (by omega),List.nil_append]
  split at hm
  ·have gen:∀ (ts:List Q6) (ps:List Q0) (vs:List Q2) (l:List V5),ts.length=ps.length→(∀ x∈ts.zip ps,∀ v l,Z8 d x.2 v=some l→l.map (·.var)=Q45 x.2)→V0 (Z8 d) ps vs=some l→l.map (·.var)=ps.flatMap Q45:=by
    intro ts ps
    induction ps generalizing ts with
    | nil=>intro vs l _ _ h;simp only [V0] at h;cases h;rfl
    | cons q ps ihp=>
     intro vs l hl hx h
     cases ts with
     | nil=>simp at hl
     | cons a ts=>
      cases vs with
      | nil=>cases h
      | cons u vs=>
       simp only [V0] at h
       cases hq:Z8 d q u with
       | none=>rw [hq] at h;cases h
       | some l1=>
        rw [hq] at h
        simp only at h
        cases hps:V0 (Z8 d) ps vs with
        | none=>rw [hps] at h;cases h
        | some l2=>
         rw [hps] at h
         cases h
         rw [List.map_append,List.flatMap_cons,hx (a,q) (by simp) u l1 hq,ihp ts vs l2 (by simpa using hl) (fun x hxx=>hx x (by simp [hxx])) hps]
   refine gen (J1 w t p) p.kids v.kids l hl.symm (fun x hx v l h=>?_) hm
   obtain ⟨j,hj⟩:=List.mem_iff_getElem?.1 hx
   obtain ⟨e1,e2⟩:=List.getElem?_zip_eq_some.1 hj
   exact ih _ _ (Q03 g e1 e2) (hf.2 _ (U1 e2)) v l h
  ·cases hm
theorem Z60 {w:List Q3} : ∀ (ps:List Q0) (us:List Q2) (l:List V5),(∀ p∈ps,∃ t,PatO w t p)→V0 (Z8 12) ps us=some l→l.map (·.var)=ps.flatMap Q45
 | [],_,l,_,h=>by simp only [V0,Option.some.injEq] at h;subst h;rfl
 | _::_,[],_,_,h=>by simp [V0] at h
 | p::ps,u::us,l,hp,h=>by
  simp only [V0] at h
  cases hq:Z8 12 p u with
  | none=>rw [hq] at h;cases h
  | some l1=>
   rw [hq] at h
   simp only at h
   cases hps:V0 (Z8 12) ps us with
   | none=>rw [hps] at h;cases h
   | some l2=>
    rw [hps] at h
    cases h
    obtain ⟨t,g,f⟩:=hp p (by simp)
    rw [List.map_append,List.flatMap_cons,W2c 12 t p g f u l1 hq,Z60 ps us l2 (fun x hx=>hp x (by simp [hx])) hps]
theorem Z1c {w:List Q3}{lst:List Z1}{cols:List Z5}{r:Grow}(h:RowC w lst cols r){v:Q2}{us:List Q2}{l:List V5}(hl:rowB r v us=some l):X0m l:=by
 have hvars:l.map (·.var)=Z7d r:=by
  unfold rowB at hl
  cases hb:Q19 r.binds v with
  | none=>rw [hb] at hl;simp at hl
  | some l1=>
   rw [hb] at hl
   simp only [U0,U11] at hl
   obtain ⟨l2,h2,rfl⟩:=hl
   rw [List.map_append,Z1t hb,Z7d]
   congr 1
   refine Z60 (w:=w) r.pats us l2 (fun p hp=>?_) h2
   obtain ⟨j,hj⟩:=List.mem_iff_getElem?.1 hp
   have hjl:=(List.getElem?_eq_some_iff.1 hj).1
   have hlen:=h.len
   have hc:cols[j]?=some (cols[j]'(by omega)):=by simp
   have hx:=h.pat _ (U1 (Q7a hc hj))
   exact ⟨_,hx.1,hx.2.1⟩
 have hn:(l.map (·.var)).Nodup:=by rw [hvars];exact h.nd
 have hr:∀ b∈l,0≤b.var∧b.var≤5:=fun b hb=>h.rg b.var (by rw [←hvars];exact List.mem_map_of_mem hb)
 refine ⟨hn,hr,?_⟩
 have:=Z1h 6 _ hn fun x hx=>by
  obtain ⟨b,hb,rfl⟩:=U10.1 hx
  have:=hr b hb
  omega
 simpa using this
theorem W9i {w:List Q3}(hS:WS w){lst:List Z1}{v:Q2}{cols:List Z5}{us:List Q2}(h:W3g w v cols us){k:Nat}{col:Z5}(hk:cols[k]?=some col)(ht:col.t∈tys w){u:Q2}(hu:us[k]?=some u){b:Q8}{rows0:List Grow}(hb:b∈brsD w rows0 col.t k)(hB:BrC w col.t b)(hf:X8 b u=true){RR:List Grow}{x:Int×List V5}(hx:Z37 lst v (usD us k b u) RR x) :
  ∀ rows:List Grow,(∀ r∈rows,r∈rows0)→W7v w lst cols v rows→RR=Q4y rows k b (Y4 w col b)→Z37 lst v us rows x:=by
 have hfind:∀ rows:List Grow,(∀ r∈rows,r∈rows0)→W7v w lst cols v rows→(Q4y rows k b (Y4 w col b)).find? (hitR (usD us k b u))=(rows.find? (hitR us)).map fun r=>Q72 r k (Y4 w col b):=fun rows h0 hR=>by
  unfold Q4y
  rw [List.find?_map,List.find?_filter]
  congr 1
  refine X4p fun r hr=>?_
  obtain ⟨hC,rb,hrb⟩:=hR r hr
  simp only [Function.comp]
  cases hfit:Q46 (X6 r k) b with
  | false=>
   have hn:=Z8n hb (h0 r hr) (hC.at hk).2 (h.at_ k col u hk hu).2 hf 11 hfit
   have hkl:=(hC.at hk).1
   have hpk:r.pats[k]?=some (X6 r k):=by unfold X6;rw [U9 hkl];rfl
   have hrl:=hC.len
   have hlen:=h.len
   have:rowL r us=none:=by
    unfold rowL
    rw [Z2o hpk,Z2o hu,Q4k _ _ _ _ (by simp only [U6];omega),List.singleton_append,List.singleton_append]
    cases V0 (Z8 12) (r.pats.take k) (us.take k) with
    | none=>rfl
    | some a=>simp only [U0,V0];rw [hn];rfl
   simp [hitR,this]
  | true=>
   obtain ⟨_,h2⟩:=Z2r hS h hk ht hu hB hf hC hrb hfit
   simp only [Bool.true_and,decide_eq_true_eq]
   rcases h2 with ⟨_,h3,h4⟩ | ⟨_,_,_,h3,_,h4,_⟩
   ·simp [hitR,h3,h4]
   ·simp [hitR,h3,h4]
 induction hx with
 | none hn=>
  intro rows h0 hR e
  subst e
  rw [hfind rows h0 hR,Option.map_eq_none_iff] at hn
  exact .none hn
 | take h1 h2 h3 h4=>
  intro rows h0 hR e
  subst e
  rw [hfind rows h0 hR,U11] at h1
  obtain ⟨r,hr,rfl⟩:=h1
  have hm:=List.mem_of_find?_eq_some hr
  obtain ⟨hC,rb,hrb⟩:=hR r hm
  have hfit:Q46 (X6 r k) b=true:=by
   cases hfit:Q46 (X6 r k) b with
   | true=>rfl
   | false=>
    have hn:=Z8n hb (h0 r hm) (hC.at hk).2 (h.at_ k col u hk hu).2 hf 11 hfit
    exact absurd (List.find?_some hr) (by
     have:=hfind [r] (fun x hx=>by simp only [List.mem_singleton] at hx;rw [hx];exact h0 r hm) (fun x hx=>by simp only [List.mem_singleton] at hx;rw [hx];exact hR r hm)
     simp only [Q4y,List.filter_cons,hfit,U2,if_false,List.filter_nil,List.map_nil,List.find?_nil,List.find?_cons] at this
     intro hh
     rw [hh] at this
     simp at this)
  obtain ⟨_,h5⟩:=Z2r hS h hk ht hu hB hf hC hrb hfit
  rcases h5 with ⟨_,h6,h7⟩ | ⟨a,y,h6,_,h7,_,h8⟩
  ·exact absurd h2 (by unfold rowB;rw [h7];intro hh;cases Q19 (Q72 r k (Y4 w col b)).binds v<;>simp at hh)
  ·rw [h7] at h2
   cases h2
   have hbo:=Z1c hC h6
   rw [←Z1m hbo.nd h8] at h4
   rw [←W0i hbo h8]
   show Z37 lst v us rows (r.clause,Z28 a)
   exact .take hr h6 h3 h4
 | skip h1 h2 h3 h4 _ ih=>
  intro rows h0 hR e
  subst e
  rw [hfind rows h0 hR,U11] at h1
  obtain ⟨r,hr,rfl⟩:=h1
  have hm:=List.mem_of_find?_eq_some hr
  obtain ⟨hC,rb,hrb⟩:=hR r hm
  have hfit:Q46 (X6 r k) b=true:=by
   cases hfit:Q46 (X6 r k) b with
   | true=>rfl
   | false=>
    exact absurd (List.find?_some hr) (by
     have:=hfind [r] (fun x hx=>by simp only [List.mem_singleton] at hx;rw [hx];exact h0 r hm) (fun x hx=>by simp only [List.mem_singleton] at hx;rw [hx];exact hR r hm)
     simp only [Q4y,List.filter_cons,hfit,U2,if_false,List.filter_nil,List.map_nil,List.find?_nil,List.find?_cons] at this
     intro hh
     rw [hh] at this
     simp at this)
  obtain ⟨_,h5⟩:=Z2r hS h hk ht hu hB hf hC hrb hfit
  rcases h5 with ⟨_,h6,h7⟩ | ⟨a,y,h6,_,h7,_,h8⟩
  ·exact absurd h2 (by unfold rowB;rw [h7];intro hh;cases Q19 (Q72 r k (Y4 w col b)).binds v<;>simp at hh)
  ·rw [h7] at h2
   cases h2
   have hbo:=Z1c hC h6
   rw [←Z1m hbo.nd h8] at h4
   refine .skip hr h6 h3 h4 (ih (Q36 rows r.clause) (fun x hx=>h0 x (Z2l hx)) (fun x hx=>hR x (Z2l hx)) ?_)
   exact X40 rows k b (Y4 w col b) r.clause
theorem X32 {P:Q8→X0→Prop}{u:Q2} : ∀ {bs xs:List Q8},brsR P bs xs→(∃ b∈bs,X8 b u=true)→∃ x b,xs.find? (fun b=>X8 b u)=some x∧b∈bs∧X8 b u=true∧P b x.tree
 | [],[],_,⟨_,h,_⟩=>by cases h
 | [],_::_,e,_=>e.elim
 | _::_,[],e,_=>e.elim
 | b::bs,x::xs,⟨⟨e1,e2,e3,e4⟩,e5⟩,h=>by
  have hfx:X8 x u=X8 b u:=by unfold X8;rw [e1,e2,e3]
  rw [List.find?_cons,hfx]
  cases hb:X8 b u with
  | true=>exact ⟨x,b,rfl,by simp,hb,e4⟩
  | false=>
   obtain ⟨c,hc,hcf⟩:=h
   have hc2:c∈bs:=by
    rcases U8.1 hc with rfl | hc
    ·rw [hb] at hcf;cases hcf
    ·exact hc
   obtain ⟨y,c',h1,h2,h3,h4⟩:=X32 e5 ⟨c,hc2,hcf⟩
   exact ⟨y,c',h1,by simp [h2],h3,h4⟩
theorem W4p {w:List Q3}(hww:w∈Q1q){lst:List Z1}{pick:Int}{v:Q2} : ∀ (d:Nat) (t:X0) (rows:List Grow) (cols:List Z5) (us:List Q2),Q9k w lst pick d t rows cols→W7v w lst cols v rows→ColC w cols d→W3g w v cols us→
  ∃ a bs k,runT d t lst v=some (a,bs,k)∧Z37 lst v us rows (a,bs):=by
 have hw:=ww hww
 have hS:=ws hww
 intro d
 induction d with
 | zero=>intro t rows cols us h;exact h.elim
 | succ d ih=>
  intro t rows cols us h hR hC hV
  have hCd:ColC w cols d:=⟨hC.ty,fun c hc=>by have:=hC.path c hc;omega,by have:=hC.len;omega⟩
  cases rows with
  | nil=>
   simp only [Q9k] at h
   subst h
   exact ⟨-1,[],0,by simp [runT,zT],.none rfl⟩
  | cons r0 rest=>
   simp only [Q9k] at h
   obtain ⟨h0,rb,hrb⟩:=hR r0 (by simp)
   cases hp:Q9n w (r0::rest) cols pick with
   | none=>
    rw [hp] at h
    simp only at h
    obtain ⟨h1,h2,h3,h4,h5,cl,h6,h7⟩:=h
    have hall:∀ q∈r0.pats,q=anyP:=fun q hq=>by
     obtain ⟨j,hj⟩:=List.mem_iff_getElem?.1 hq
     have hjl:=(List.getElem?_eq_some_iff.1 hj).1
     have hlen:=h0.len
     have hany:Q7u (r0::rest) j=true:=Q8k.1 hp j (by omega)
     have this:(X6 r0 j).op=1:=of_decide_eq_true hany
     have hq2:X6 r0 j=q:=by unfold X6;rw [hj];rfl
     have hc:cols[j]?=some (cols[j]'(by omega)):=by simp
     have hpc:=(h0.at hc).2
     rw [hq2] at this hpc
     exact X58 (Q0a hpc.1) this
    have hrl:rowL r0 us=some []:=Z3g hall (by rw [h0.len,hV.len])
    have hfind:(r0::rest).find? (hitR us)=some r0:=by rw [List.find?_cons];simp [hitR,hrl]
    have hrB:rowB r0 v us=some rb:=by unfold rowB;rw [hrb,hrl];simp
    have hbo:=Z1c h0 hrB
    obtain ⟨bn,br,_⟩:=h0.binds
    obtain ⟨l',e1,e2⟩:=X55 (Q8j br).symm hrb
    have hl':l'=Z28 rb:=by
     have hs:l'.Pairwise (fun x y=>x.var<y.var):=by
      have h1:=Z46 bn
      have h2:=Z1t e1
      have h3:(l'.map (·.var)).Pairwise (· < ·):=by rw [h2,List.pairwise_map];exact h1
      exact List.pairwise_map.1 h3
     exact Z5h _ _ hs (Q9u hbo.nd) (e2.symm.trans (Q8i hbo.rg).symm)
    rw [hl'] at e1
    have hrun:runT (d+1) t lst v=if Q2o cl.guard rb=true then some (r0.clause,Z28 rb,0) else match t.else_ with
      | el::_=>runT d el lst v
      | []=>none:=by
     rw [runT,if_neg (by omega),if_pos h1,h2,Z3i h0.c0 h6]
     simp only [U0]
     rw [h3,e1]
     simp only [U0]
     rw [X4d hbo]
     all_goals (cases t.else_<;>rfl)
    rw [hrun]
    cases hg:Q2o cl.guard rb with
    | true=>exact ⟨_,_,_,rfl,.take hfind hrB h6 hg⟩
    | false=>
     rcases h7 with ⟨h7,_⟩ | ⟨h7,el,h8,h9⟩
     ·simp [Q2o,h7] at hg
     ·rw [h8]
      simp only [U2,if_false]
      obtain ⟨a,bs,k,f1,f2⟩:=ih el (Q36 (r0::rest) r0.clause) cols us h9 (fun r hr=>hR r (Z2l hr)) hCd hV
      exact ⟨a,bs,k,f1,.skip hfind hrB h6 hg f2⟩
   | some k=>
    rw [hp] at h
    simp only at h
    obtain ⟨col,h1,h2,h3,h4,h5,h6,h7⟩:=h
    have hkl:=(List.getElem?_eq_some_iff.1 h1).1
    have hlen:=hV.len
    have hu:us[k]?=some (us[k]'(by omega)):=by simp
    generalize us[k]'(by omega)=u at hu
    obtain ⟨hpv,hg⟩:=hV.at_ k col u h1 hu
    have hct:=hC.ty col (U1 h1)
    obtain ⟨x,b,f1,f2,f3,f4⟩:=X32 h7 (W32 hww hct hg (r0::rest) k)
    have hB:=V6o (wl hww) hct b f2
    have hRn:W7v w lst (Q6i cols k (Y4 w col b)) v (Q4y (r0::rest) k b (Y4 w col b)):=fun r hr=>by
     unfold Q4y at hr
     obtain ⟨r1,g1,rfl⟩:=U10.1 hr
     obtain ⟨g2,g3⟩:=List.mem_filter.1 g1
     obtain ⟨g4,rb1,g5⟩:=hR r1 g2
     exact ⟨RowC.next hw hS hC g4 h1 hB g3,(Z2r hS hV h1 hct hu hB f3 g4 g5 g3).1⟩
    obtain ⟨a,bs,m,e1,e2⟩:=ih x.tree _ _ (usD us k b u) f4 hRn (ColC.next hw hC h1 hB) (Z8r hV h1 hu hB f3)
    refine ⟨a,bs,m+1,?_,W9i hS hV h1 hct hu f2 hB f3 e2 (r0::rest) (fun r h=>h) hR rfl⟩
    rw [runT,if_pos h2,h5,hpv]
    simp only [U0]
    rw [f1]
    simp only
    rw [e1]
    rfl
theorem Z4g {α β:Type}{l:List α}{f:α→Option β}{q:α}(h:l.find? (fun q=>(f q).isSome)=some q):l.findSome? f=f q:=by
 induction l with
 | nil=>cases h
 | cons a l ih=>
  rw [List.find?_cons] at h
  rw [List.findSome?_cons]
  cases ha:f a with
  | none=>rw [ha] at h;exact ih h
  | some x=>
   rw [ha] at h
   simp only [Option.isSome_some,Option.some.injEq] at h
   rw [←h,ha]
theorem X1j {v:Q2} : ∀ (cs:List Z1) (k:Nat),(∀ c∈cs,∀ b,Z8 10 c.pat v=some b→Q2o c.guard b=false)→runD v k cs=none
 | [],_,_=>rfl
 | c::cs,k,h=>by
  simp only [runD]
  have ih:=X1j cs (k+1) fun x hx=>h x (by simp [hx])
  cases hm:Z8 10 c.pat v with
  | none=>exact ih
  | some b=>
   simp only
   rw [h c (by simp) b hm]
   simpa using ih
theorem W0o {v:Q2} : ∀ (cs:List Z1) (k i:Nat) (c:Z1) (b:List V5),(∀ (j:Nat) (c':Z1),j<i→cs[j]?=some c'→∀ b,Z8 10 c'.pat v=some b→Q2o c'.guard b=false)→cs[i]?=some c→Z8 10 c.pat v=some b→Q2o c.guard b=true→runD v k cs=some (k+i,Z28 b)
 | [],_,_,_,_,_,h,_,_=>by simp at h
 | c0::cs,k,0,c,b,_,h,hm,hg=>by
  simp only [List.getElem?_cons_zero,Option.some.injEq] at h
  subst h
  simp only [runD,hm,hg,if_true,Nat.add_zero]
 | c0::cs,k,i+1,c,b,h0,h,hm,hg=>by
  simp only [runD]
  have ih:=W0o cs (k+1) i c b (fun j c' hj hc=>h0 (j+1) c' (by omega) (by simpa using hc)) (by simpa using h) hm hg
  rw [show k+1+i=k+(i+1) by omega] at ih
  cases hm0:Z8 10 c0.pat v with
  | none=>exact ih
  | some b0=>
   simp only
   rw [h0 0 c0 (by omega) rfl b0 hm0]
   simpa using ih
theorem Z3f {l:List Z1}{j:Nat}{c:Z1}{q:Q0}(hc:l[j]?=some c)(hq:q∈Z3 10 c.pat):∀ n,j<n→Q1s j q∈Q1r l n
 | 0,h=>by omega
 | n+1,h=>by
  rw [Q1r]
  by_cases hjn:j=n
  ·subst hjn
   rw [hc]
   exact List.mem_append_right _ (List.mem_map_of_mem hq)
  ·exact List.mem_append_left _ (Z3f hc hq n (by omega))
theorem Z1q {l:List Z1}{p:Grow→Bool}{r:Grow} : ∀ n,n≤l.length→(Q1r l n).find? p=some r→
  ∃ i c q,i<n∧l[i]?=some c∧r=Q1s i q∧(Z3 10 c.pat).find? (fun q=>p (Q1s i q))=some q∧∀ (j:Nat) (c':Z1),j<i→l[j]?=some c'→∀ q'∈Z3 10 c'.pat,p (Q1s j q')=false
 | 0,_,h=>by simp [Q1r] at h
 | n+1,hn,h=>by
  rw [Q1r,List.find?_append,Option.or_eq_some_iff] at h
  rcases h with h | ⟨h0,h⟩
  ·obtain ⟨i,c,q,h1,h2⟩:=Z1q n (by omega) h
   exact ⟨i,c,q,by omega,h2⟩
  ·have hc:l[n]?=some (l[n]'(by omega)):=by simp
   rw [hc] at h
   simp only at h
   rw [List.find?_map,U11] at h
   obtain ⟨q,h1,h2⟩:=h
   refine ⟨n,_,q,by omega,hc,h2.symm,h1,fun j c' hj hc' q' hq'=>?_⟩
   have hm:Q1s j q'∈Q1r l n:=Z3f hc' hq' n hj
   simpa using List.find?_eq_none.1 h0 _ hm
theorem X1l {w:List Q3}{t:Q6}{p q:Q0}(g:Q0j w 10 t p=true)(hq:q∈Z3 10 p)(i:Nat)(v:Q2) :
  rowB (Q1s i q) v [v]=Z8 10 q v∧hitR [v] (Q1s i q)=(Z8 10 q v).isSome:=by
 have g10:=Q76 10 t p q g hq
 have g12:Q0j w 12 t q=true:=Q4h 11 t q (Q4h 10 t q g10)
 have hO:PatO w t q:=⟨g12,Q7m 11 q (Q7m 10 q (Z3a 10 p q hq))⟩
 have e1:Z8 12 q v=Z8 10 q v:=by rw [(Z2n 11 t q (Q4h 10 t q g10)).2.2.2 v,(Z2n 10 t q g10).2.2.2 v]
 have hm:=W80 [] v g12
 have hb:=Q9h (v:=v) (u:=v) (path:=[]) rfl (Z5e [] hO).2.2
 have hL:rowL (Q1s i q) [v]=Z8 12 (Q5o q []).2 v:=by
  unfold rowL Q1s
  simp only [V0]
  cases Z8 12 (Q5o q []).2 v<;>simp
 constructor
 ·unfold rowB
  rw [hL,show (Q1s i q).binds=(Q5o q []).1 from rfl,hb]
  simp only [U0]
  rw [←hm,e1]
 ·unfold hitR
  rw [hL,←e1,hm]
  simp
theorem V4j {w:List Q3}(hw:WW w)(hS:WS w){t:Q6}(ht:t∈tys w){l:List Z1}(hl:∀ c∈l,Q0j w 10 t c.pat=true){v:Q2}{e:Nat}(hv:Q6g w e t v){RR:List Grow}{x:Int×List V5}(h:Z37 l v [v] RR x) :
  ∀ keep:Int→Bool,RR=(Q1r l l.length).filter (fun r=>keep r.clause)→(∀ (i:Nat) (c:Z1) (b:List V5),l[i]?=some c→keep (i:Int)=false→Z8 10 c.pat v=some b→Q2o c.guard b=false)→x=runR (runD v 0 l):=by
 have hsp:∀ c∈l,(Z3 10 c.pat).findSome? (fun q=>Z8 10 q v)=Z8 10 c.pat v:=fun c hc=>X7c hw hS 10 e t c.pat v ht (hl c hc) hv
 have none_of:∀ (j:Nat) (c:Z1),l[j]?=some c→(∀ q∈Z3 10 c.pat,hitR [v] (Q1s j q)=false)→Z8 10 c.pat v=none:=fun j c hc h=>by
  have hcm:=U1 hc
  rw [←hsp c hcm]
  refine Z6l fun q hq=>?_
  have h1:=h q hq
  rw [(X1l (hl c hcm) hq j v).2] at h1
  simpa using h1
 induction h with
 | none hn=>
  intro keep e hk
  subst e
  rw [List.find?_filter,List.find?_eq_none] at hn
  rw [X1j l 0 fun c hc b hb=>?_]
  ·rfl
  obtain ⟨j,hj⟩:=List.mem_iff_getElem?.1 hc
  have hjl:=(List.getElem?_eq_some_iff.1 hj).1
  cases hkj:keep (j:Int) with
  | false=>exact hk j c b hj hkj hb
  | true=>
   have:=none_of j c hj fun q hq=>by
    have h1:=hn _ (Z3f hj hq l.length hjl)
    have h2:(Q1s j q).clause=(j:Int):=rfl
    rw [h2,hkj] at h1
    simpa using h1
   rw [this] at hb
   cases hb
 | take h1 h2 h3 h4=>
  intro keep e hk
  subst e
  rw [List.find?_filter] at h1
  obtain ⟨i,c,q,hi,hc,rfl,hq,hbef⟩:=Z1q l.length (Nat.le_refl _) h1
  have hcm:=U1 hc
  have hqm:=List.mem_of_find?_eq_some hq
  have h3':l[((Q1s i q).clause).toNat]?=some c:=by
   rw [show ((Q1s i q).clause).toNat=i from rfl];exact hc
  rw [h3'] at h3
  have h3:=Option.some.inj h3
  subst h3
  have hki:keep (i:Int)=true:=by
   have h9:=List.find?_some hq
   simp only [decide_eq_true_eq] at h9
   exact h9.1
  have hfq:(Z3 10 c.pat).find? (fun q=>(Z8 10 q v).isSome)=some q:=by
   rw [←hq]
   refine X4p fun y hy=>?_
   rw [(X1l (hl c hcm) hy i v).2,show (Q1s i y).clause=(i:Int) from rfl,hki]
   simp
  have hmc:Z8 10 c.pat v=Z8 10 q v:=by rw [←hsp c hcm];exact Z4g hfq
  rw [(X1l (hl c hcm) hqm i v).1,←hmc] at h2
  rw [W0o l 0 i c _ (fun j c' hj hc' b hb=>?_) hc h2 h4]
  ·simp [runR,Q1s]
  ·cases hkj:keep (j:Int) with
   | false=>exact hk j c' b hc' hkj hb
   | true=>
    have:=none_of j c' hc' fun q' hq'=>by
     have h1:=hbef j c' hj hc' q' hq'
     rw [show (Q1s j q').clause=(j:Int) from rfl,hkj] at h1
     simpa using h1
    rw [this] at hb
    cases hb
 | skip h1 h2 h3 h4 _ ih=>
  intro keep e hk
  subst e
  rw [List.find?_filter] at h1
  obtain ⟨i,c,q,hi,hc,rfl,hq,hbef⟩:=Z1q l.length (Nat.le_refl _) h1
  have hcm:=U1 hc
  have hqm:=List.mem_of_find?_eq_some hq
  have h3':l[((Q1s i q).clause).toNat]?=some c:=by
   rw [show ((Q1s i q).clause).toNat=i from rfl];exact hc
  rw [h3'] at h3
  have h3:=Option.some.inj h3
  subst h3
  have hki:keep (i:Int)=true:=by
   have h9:=List.find?_some hq
   simp only [decide_eq_true_eq] at h9
   exact h9.1
  have hfq:(Z3 10 c.pat).find? (fun q=>(Z8 10 q v).isSome)=some q:=by
   rw [←hq]
   refine X4p fun y hy=>?_
   rw [(X1l (hl c hcm) hy i v).2,show (Q1s i y).clause=(i:Int) from rfl,hki]
   simp
  have hmc:Z8 10 c.pat v=Z8 10 q v:=by rw [←hsp c hcm];exact Z4g hfq
  rw [(X1l (hl c hcm) hqm i v).1,←hmc] at h2
  refine ih (fun z=>keep z&&decide (z≠(i:Int))) ?_ fun j c' b hc' hkj hb=>?_
  ·unfold Q36
   rw [List.filter_filter]
   refine List.filter_congr fun r _=>?_
   rw [show (Q1s i q).clause=(i:Int) from rfl,Bool.and_comm]
   simp
  ·simp only [Bool.and_eq_false_iff,decide_eq_false_iff_not] at hkj
   rcases hkj with hkj | hkj
   ·exact hk j c' b hc' hkj hb
   ·have hji:j=i:=by omega
    subst hji
    rw [hc] at hc'
    cases hc'
    rw [h2] at hb
    cases hb
    exact h4
theorem Z4m {w:List Q3}(hww:w∈Q1q){t:Q6}(ht:t∈tys w){l:List Z1}{pick:Int}{tr:X0}(h:J8 NN w t l pick=some (tr,true)):canC w t l pick=true:=by
 rw [X60 hww ht] at h
 cases hc:canC w t l pick with
 | true=>rfl
 | false=>rw [hc] at h;simp at h
theorem X11 {w:List Q3}(hww:w∈Q1q){t:Q6}(ht:t∈tys w){l:List Z1}{pick:Int}{tr:X0}(h:J8 NN w t l pick=some (tr,true)){v:Q2}(hv:Q6g w 10 t v) :
  ∃ k,runT 300 tr l v=some ((runR (runD v 0 l)).1,(runR (runD v 0 l)).2,k):=by
 have hw:=ww hww
 have hS:=ws hww
 have hc:=Z4m hww ht h
 have hT:=(Z3u hww ht l pick).tr tr h
 simp only [canC,Bool.and_eq_true] at hc
 obtain ⟨hll,hP⟩:=Z9a hc.1.1
 have hR:=X1k hw hP hll
 obtain ⟨a,bs,k,h1,h2⟩:=W4p hww (v:=v) 300 tr (Q1r l l.length) [⟨[],t⟩] [v] hT (fun r hr=>⟨hR r hr,by
  obtain ⟨i,c,q,hi,hq,rfl⟩:=Z8b hr
  have g:=(hP c (U1 hi)).1
  have g10:=Q76 10 t c.pat q g hq
  have hO:PatO w t q:=⟨Q4h 11 t q (Q4h 10 t q g10),Q7m 11 q (Q7m 10 q (Z3a 10 c.pat q hq))⟩
  exact ⟨_,Q9h (v:=v) (u:=v) (path:=[]) rfl (Z5e [] hO).2.2⟩⟩) (W0d ht) ⟨rfl,fun j c u hc hu=>by
   cases j with
   | zero=>simp at hc hu;subst hc hu;exact ⟨rfl,hv⟩
   | succ j=>simp at hc⟩
 have h3:=V4j hw hS ht (fun c hc=>(hP c hc).1) hv h2 (fun _=>true) (List.filter_eq_self.2 fun _ _=>rfl).symm (fun _ _ _ _ h=>by cases h)
 exact ⟨k,by rw [h1,←h3]⟩
def Z17 (P:Int→X0→Prop):List Q7w→List Q8→Prop
 | [],[]=>True
 | e::es,b::bs=>(e.ctor=b.ctor∧e.n=b.n∧e.m=b.m∧P e.to b.tree)∧Z17 P es bs
 | _,_=>False
def X2v (P:Int→X0→Prop)(k:Int):List X0→Prop
 | []=>k = -1
 | y::_=>P k y
def Q34 (ns:List Q05):Nat→Int→X0→Prop
 | 0,_,_=>False
 | d+1,k,t=>0≤k∧∃ n,ns[k.toNat]?=some n∧n.op=t.op∧n.clause=t.clause∧n.binds=t.binds∧n.path=t.path∧Z17 (Q34 ns d) n.edges t.branches∧X2v (Q34 ns d) n.else_ t.else_
theorem Q7r {P Q:Int→X0→Prop}(h:∀ k t,P k t→Q k t):∀ {es:List Q7w} {bs:List Q8},Z17 P es bs→Z17 Q es bs
 | [],[],_=>trivial
 | [],_::_,e=>e.elim
 | _::_,[],e=>e.elim
 | _::_,_::_,⟨⟨e1,e2,e3,e4⟩,e5⟩=>⟨⟨e1,e2,e3,h _ _ e4⟩,Q7r h e5⟩
theorem Z3s {P Q:Int→X0→Prop}(h:∀ k t,P k t→Q k t){k:Int}{l:List X0}(e:X2v P k l):X2v Q k l:=by
 cases l with
 | nil=>exact e
 | cons y l=>exact h _ _ e
theorem Q69 {ns more:List Q05} : ∀ {d:Nat} {k:Int} {t:X0},Q34 ns d k t→Q34 (ns++more) d k t:=by
 intro d
 induction d with
 | zero=>intro k t h;exact h.elim
 | succ d ih=>
  intro k t ⟨h0,n,h1,h2,h3,h4,h5,h6,h7⟩
  have hl:=(List.getElem?_eq_some_iff.1 h1).1
  exact ⟨h0,n,by rw [List.getElem?_append_left hl];exact h1,h2,h3,h4,h5,Q7r (fun _ _ h=>ih h) h6,Z3s (fun _ _ h=>ih h) h7⟩
theorem X2w {P Q:Int→X0→Prop} : ∀ {es:List Q7w} {bs cs:List Q8},Z17 P es bs→Z17 Q es cs→(∀ k,∀ b∈bs,∀ c∈cs,P k b.tree→Q k c.tree→b.tree=c.tree)→bs=cs
 | [],[],[],_,_,_=>rfl
 | e::es,b::bs,c::cs,⟨⟨a1,a2,a3,a4⟩,a5⟩,⟨⟨b1,b2,b3,b4⟩,b5⟩,h=>by
  have ht:=h e.to b (by simp) c (by simp) a4 b4
  rw [X2w a5 b5 fun k x hx y hy=>h k x (by simp [hx]) y (by simp [hy])]
  have:b=c:=by
   cases b;cases c
   simp only at a1 a2 a3 b1 b2 b3 ht
   rw [←a1,←a2,←a3,b1,b2,b3,ht]
  rw [this]
 | [],[],_::_,_,e,_=>e.elim
 | [],_::_,_,e,_,_=>e.elim
 | _::_,[],_,e,_,_=>e.elim
 | _::_,_::_,[],_,e,_=>e.elim
theorem X7a {ns:List Q05} : ∀ {d e:Nat} {k:Int} {t u:X0},Q6v d t→Q6v e u→Q34 ns d k t→Q34 ns e k u→t=u:=by
 intro d
 induction d with
 | zero=>intro e k t u h;exact h.elim
 | succ d ih=>
  intro e k t u ht hu ⟨h0,n,h1,h2,h3,h4,h5,h6,h7⟩ hs
  cases e with
  | zero=>exact hu.elim
  | succ e=>
  obtain ⟨g0,m,g1,g2,g3,g4,g5,g6,g7⟩:=hs
  rw [h1] at g1
  cases g1
  have hb:t.branches=u.branches:=X2w h6 g6 fun k b hb c hc p q=>ih (ht.2 _ (List.mem_append_left _ (List.mem_map_of_mem hb))) (hu.2 _ (List.mem_append_left _ (List.mem_map_of_mem hc))) p q
  have he:t.else_=u.else_:=by
   have l1:=ht.1.2.2.2.2
   have l2:=hu.1.2.2.2.2
   have s1:∀ y∈t.else_,Q6v d y:=fun y hy=>ht.2 y (List.mem_append_right _ hy)
   have s2:∀ y∈u.else_,Q6v e y:=fun y hy=>hu.2 y (List.mem_append_right _ hy)
   generalize t.else_=a at h7 l1 s1 ⊢
   generalize u.else_=b at g7 l2 s2 ⊢
   match a,b,h7,g7,l1,l2,s1,s2 with
   | [],[],_,_,_,_,_,_=>rfl
   | [],y::_,h7,g7,_,_,_,_=>
    simp only [X2v] at h7 g7
    rw [h7] at g7
    cases e with
    | zero=>exact g7.elim
    | succ e=>exact absurd g7.1 (by decide)
   | y::_,[],h7,g7,_,_,_,_=>
    simp only [X2v] at h7 g7
    rw [g7] at h7
    cases d with
    | zero=>exact h7.elim
    | succ d=>exact absurd h7.1 (by decide)
   | [y],[z],h7,g7,_,_,s1,s2=>rw [ih (s1 y (by simp)) (s2 z (by simp)) h7 g7]
   | _::_::_,_,_,_,l1,_,_,_=>exact absurd l1 (by simp)
   | [_],_::_::_,_,_,_,l2,_,_=>exact absurd l2 (by simp)
  cases t;cases u
  simp only at h2 h3 h4 h5 g2 g3 g4 g5 hb he
  rw [←h2,←h3,←h4,←h5,g2,g3,g4,g5,hb,he]
theorem Z8q {P:Int→X0→Prop}(u:Q2):∀ {es:List Q7w} {bs:List Q8},Z17 P es bs→match bs.find? (fun b=>X8 b u) with
  | none=>es.find? (fun e=>X8 ⟨e.ctor,e.n,e.m,zT⟩ u)=none
  | some b=>∃ e,es.find? (fun e=>X8 ⟨e.ctor,e.n,e.m,zT⟩ u)=some e∧P e.to b.tree
 | [],[],_=>rfl
 | e::es,b::bs,⟨⟨a1,a2,a3,a4⟩,a5⟩=>by
  have ih:=Z8q u a5
  have hf:X8 ⟨e.ctor,e.n,e.m,zT⟩ u=X8 b u:=by
   unfold X8
   simp only [a1,a2,a3]
  rw [List.find?_cons,List.find?_cons,hf]
  cases X8 b u with
  | true=>exact ⟨e,rfl,a4⟩
  | false=>exact ih
 | [],_::_,e=>e.elim
 | _::_,[],e=>e.elim
instance:DecidableEq Q1:=fun a b=>decidable_of_iff (a.var=b.var∧a.path=b.path) ⟨fun h=>by cases a;cases b;simp at h;simp [h],fun h=>by subst h;simp⟩
instance:DecidableEq Q7w:=fun a b=>decidable_of_iff (a.ctor=b.ctor∧a.n=b.n∧a.m=b.m∧a.to=b.to) ⟨fun h=>by cases a;cases b;simp at h;simp [h],fun h=>by subst h;simp⟩
instance:DecidableEq Q05:=fun a b=>decidable_of_iff (a.op=b.op∧a.clause=b.clause∧a.binds=b.binds∧a.path=b.path∧a.edges=b.edges∧a.else_=b.else_) ⟨fun h=>by cases a;cases b;simp at h;simp [h],fun h=>by subst h;simp⟩
def addE (f:List Q05→X0→List Q05×Int):List Q05→List Q8→List Q05×List Q7w
 | ns,[]=>(ns,[])
 | ns,b::bs=>((addE f (f ns b.tree).1 bs).1,⟨b.ctor,b.n,b.m,(f ns b.tree).2⟩::(addE f (f ns b.tree).1 bs).2)
def addL (f:List Q05→X0→List Q05×Int)(ns:List Q05):List X0→List Q05×Int
 | []=>(ns,-1)
 | y::_=>f ns y
def putN (ns:List Q05)(n:Q05):List Q05×Int:=match ns.idxOf? n with
 | some k=>(ns,(k:Int))
 | none=>(ns++[n],(ns.length:Int))
def addN:Nat→List Q05→X0→List Q05×Int
 | 0,ns,_=>(ns,-1)
 | d+1,ns,x=>putN (addL (addN d) (addE (addN d) ns x.branches).1 x.else_).1
   ⟨x.op,x.clause,x.binds,x.path,(addE (addN d) ns x.branches).2,(addL (addN d) (addE (addN d) ns x.branches).1 x.else_).2⟩
theorem X22 {ns:List Q05}{n:Q05}{i:Nat}(h:ns.idxOf? n=some i):ns[i]?=some n:=by
 unfold List.idxOf? at h
 rw [List.findIdx?_eq_some_iff_getElem] at h
 obtain ⟨h1,h2,_⟩:=h
 rw [U9 h1]
 simpa using h2
def AllN (s:Nat)(ns:List Q05):Prop:=∀ (i:Nat) (n:Q05),ns[i]?=some n→∃ (y:X0) (e:Nat),Q6v e y∧Q34 ns e (i:Int) y∧Q11 e y≤s
def W7x (d s:Nat)(f:List Q05→X0→List Q05×Int):Prop:=∀ (x:X0) (ns:List Q05),Q6v d x→AllN s ns→Q11 d x≤s→
 ∃ more,(f ns x).1=ns++more∧more.length≤Q11 d x∧Q34 (f ns x).1 d (f ns x).2 x∧AllN s (f ns x).1
theorem W3b {d s:Nat}{f:List Q05→X0→List Q05×Int}(hf:W7x d s f):∀ (bs:List Q8) (ns:List Q05),(∀ b∈bs,Q6v d b.tree∧Q11 d b.tree≤s)→AllN s ns→
  ∃ more,(addE f ns bs).1=ns++more∧more.length≤((bs.map fun b=>b.tree).map (Q11 d)).sum∧Z17 (Q34 (addE f ns bs).1 d) (addE f ns bs).2 bs∧AllN s (addE f ns bs).1
 | [],ns,_,h=>⟨[],by simp [addE],by simp,trivial,h⟩
 | b::bs,ns,hb,h=>by
  obtain ⟨h1,h2⟩:=hb b (by simp)
  obtain ⟨m1,e1,l1,s1,q1⟩:=hf b.tree ns h1 h h2
  obtain ⟨m2,e2,l2,s2,q2⟩:=W3b hf bs (f ns b.tree).1 (fun x hx=>hb x (by simp [hx])) q1
  refine ⟨m1++m2,by simp only [addE];rw [e2,e1];simp,?_,⟨⟨rfl,rfl,rfl,?_⟩,s2⟩,q2⟩
  ·simp only [List.map_cons,List.sum_cons,U5]
   omega
  ·simp only [addE]
   rw [e2]
   exact Q69 s1
theorem V15 {d s:Nat}{f:List Q05→X0→List Q05×Int}(hf:W7x d s f){l:List X0}(hl:∀ y∈l,Q6v d y∧Q11 d y≤s){ns:List Q05}(h:AllN s ns) :
  ∃ more,(addL f ns l).1=ns++more∧more.length≤(l.map (Q11 d)).sum∧X2v (Q34 (addL f ns l).1 d) (addL f ns l).2 l∧AllN s (addL f ns l).1:=by
 cases l with
 | nil=>exact ⟨[],by simp [addL],by simp,rfl,h⟩
 | cons y l=>
  obtain ⟨h1,h2⟩:=hl y (by simp)
  obtain ⟨m1,e1,l1,s1,q1⟩:=hf y ns h1 h h2
  refine ⟨m1,e1,?_,s1,q1⟩
  simp only [List.map_cons,List.sum_cons]
  omega
theorem X5z {d s:Nat}(hf:W7x d s (addN d)){x:X0}(hx:Q6v (d+1) x)(hs:∀ y∈Q64 x,Q11 d y≤s){ns:List Q05}(h:AllN s ns) :
  ∃ more,(addL (addN d) (addE (addN d) ns x.branches).1 x.else_).1=ns++more∧more.length+1≤Q11 (d+1) x∧AllN s (addL (addN d) (addE (addN d) ns x.branches).1 x.else_).1∧
   Z17 (Q34 (addL (addN d) (addE (addN d) ns x.branches).1 x.else_).1 d) (addE (addN d) ns x.branches).2 x.branches∧
   X2v (Q34 (addL (addN d) (addE (addN d) ns x.branches).1 x.else_).1 d) (addL (addN d) (addE (addN d) ns x.branches).1 x.else_).2 x.else_:=by
 have hb:∀ b∈x.branches,b.tree∈Q64 x:=fun b hb=>List.mem_append_left _ (List.mem_map_of_mem hb)
 have he:∀ y∈x.else_,y∈Q64 x:=fun y hy=>List.mem_append_right _ hy
 obtain ⟨m1,e1,l1,s1,q1⟩:=W3b hf x.branches ns (fun b h=>⟨hx.2 _ (hb b h),hs _ (hb b h)⟩) h
 obtain ⟨m2,e2,l2,s2,q2⟩:=V15 hf (l:=x.else_) (fun y h=>⟨hx.2 _ (he y h),hs _ (he y h)⟩) q1
 refine ⟨m1++m2,by rw [e2,e1];simp,?_,q2,?_,s2⟩
 ·rw [Q11]
  unfold Q64
  simp only [List.map_append,List.sum_append,U5]
  omega
 ·refine Q7r (fun k t hk=>?_) s1
  rw [e2]
  exact Q69 hk
theorem X7k {d s:Nat}{x:X0}(hx:Q6v (d+1) x){ns:List Q05}{es:List Q7w}{k:Int}(h1:Z17 (Q34 ns d) es x.branches)(h2:X2v (Q34 ns d) k x.else_)(hs:Q11 (d+1) x≤s)(hq:AllN s ns) :
  ∃ more,(putN ns ⟨x.op,x.clause,x.binds,x.path,es,k⟩).1=ns++more∧more.length≤1∧Q34 (putN ns ⟨x.op,x.clause,x.binds,x.path,es,k⟩).1 (d+1) (putN ns ⟨x.op,x.clause,x.binds,x.path,es,k⟩).2 x∧AllN s (putN ns ⟨x.op,x.clause,x.binds,x.path,es,k⟩).1:=by
 unfold putN
 cases hi:ns.idxOf? (⟨x.op,x.clause,x.binds,x.path,es,k⟩:Q05) with
 | some i=>
  simp only
  refine ⟨[],by simp,by simp,?_,hq⟩
  have hg:ns[i]?=some ⟨x.op,x.clause,x.binds,x.path,es,k⟩:=X22 hi
  exact ⟨by omega,_,by rw [Int.toNat_natCast];exact hg,rfl,rfl,rfl,rfl,h1,h2⟩
 | none=>
  simp only
  have hst:Q34 (ns++[⟨x.op,x.clause,x.binds,x.path,es,k⟩]) (d+1) (ns.length:Int) x:=
   ⟨by omega,_,by rw [Int.toNat_natCast,List.getElem?_append_right (Nat.le_refl _),Nat.sub_self];rfl,rfl,rfl,rfl,rfl,Q7r (fun _ _ h=>Q69 h) h1,Z3s (fun _ _ h=>Q69 h) h2⟩
  refine ⟨_,rfl,by simp,hst,fun i n hn=>?_⟩
  by_cases hil:i<ns.length
  ·rw [List.getElem?_append_left hil] at hn
   obtain ⟨y,e,g1,g2,g3⟩:=hq i n hn
   exact ⟨y,e,g1,Q69 g2,g3⟩
  ·have hi2:i=ns.length:=by
    have:=(List.getElem?_eq_some_iff.1 hn).1
    simp at this
    omega
   subst hi2
   exact ⟨x,d+1,hx,hst,hs⟩
theorem X5o {d:Nat}{x y:X0}(h:y∈Q64 x):Q11 d y+1≤Q11 (d+1) x:=by
 rw [Q11]
 have:∀ l:List X0,y∈l→Q11 d y≤(l.map (Q11 d)).sum:=by
  intro l
  induction l with
  | nil=>intro h;cases h
  | cons z l ih=>
   intro h
   rw [List.map_cons,List.sum_cons]
   rcases U8.1 h with rfl | h
   ·omega
   ·have:=ih h;omega
 have:=this _ h
 omega
theorem V14:∀ (d s:Nat),W7x d s (addN d):=by
 intro d
 induction d with
 | zero=>intro s x ns h;exact h.elim
 | succ d ih=>
  intro s x ns hx hq hs
  obtain ⟨m1,e1,l1,q1,g1,g2⟩:=X5z (ih s) hx (fun y hy=>by have:=X5o (d:=d) hy;omega) hq
  obtain ⟨m2,e2,l2,s2,q2⟩:=X7k hx g1 g2 hs q1
  rw [addN]
  exact ⟨m1++m2,by rw [e2,e1];simp,by rw [U5];omega,s2,q2⟩
theorem W0r {d:Nat}{x:X0}(hx:Q6v (d+1) x):∃ ns,addN (d+1) [] x=(ns,(ns.length:Int)-1)∧1≤ns.length∧ns.length≤Q11 (d+1) x∧Q34 ns (d+1) ((ns.length:Int)-1) x:=by
 have h0:AllN (Q11 (d+1) x-1) []:=fun i n h=>by cases h
 obtain ⟨m1,e1,l1,q1,g1,g2⟩:=X5z (V14 d (Q11 (d+1) x-1)) hx (fun y hy=>by have:=X5o (d:=d) hy;omega) h0
 rw [addN]
 generalize hE:(addE (addN d) [] x.branches)=E at *
 generalize hL:(addL (addN d) E.1 x.else_)=L at *
 unfold putN
 cases hi:L.1.idxOf? (⟨x.op,x.clause,x.binds,x.path,E.2,L.2⟩:Q05) with
 | some i=>
  have hg:=X22 hi
  obtain ⟨y,e,a1,a2,a3⟩:=q1 i _ hg
  have hst:Q34 L.1 (d+1) (i:Int) x:=⟨by omega,_,by rw [Int.toNat_natCast];exact hg,rfl,rfl,rfl,rfl,g1,g2⟩
  have hxy:=X7a hx a1 hst a2
  subst hxy
  have hsz:Q11 e x=Q11 (d+1) x:=by
   rcases Nat.le_total e (d+1) with h | h
   ·exact (Z91 a1 h).symm
   ·exact Z91 hx h
  have hpos:1≤Q11 (d+1) x:=by rw [Q11];omega
  omega
 | none=>
  simp only
  refine ⟨L.1++[⟨x.op,x.clause,x.binds,x.path,E.2,L.2⟩],?_,by simp,?_,?_⟩
  ·rw [U5,List.length_singleton]
   congr 1
   omega
  ·rw [U5,List.length_singleton,e1]
   simp
   omega
  ·rw [U5,List.length_singleton]
   refine ⟨by omega,⟨x.op,x.clause,x.binds,x.path,E.2,L.2⟩,?_,rfl,rfl,rfl,rfl,Q7r (fun _ _ h=>Q69 h) g1,Z3s (fun _ _ h=>Q69 h) g2⟩
   rw [show (((L.1.length+1:Nat):Int)-1).toNat=L.1.length by omega,List.getElem?_append_right (Nat.le_refl _),Nat.sub_self]
   rfl
theorem len0 (n:Nat):ieq (lenZ n) 0=decide (n=0):=by
 by_cases h:n=0
 ·subst h;rfl
 ·rw [decide_eq_false h,W5];simp only [lenZ];omega
theorem X30 {w:List Q3}{t:Q6}{cs:List Z1}(h:Q4v w t cs=true):cs.length≤8∧∀ c∈cs,Q47 w t c.pat=true:=by
 simp only [Q4v,Bool.and_eq_true,decide_eq_true_eq,List.all_eq_true] at h
 refine ⟨h.1,fun c hc=>?_⟩
 have:=h.2 c hc
 simp only [Q6j,Bool.and_eq_true] at this
 exact this.1
theorem Z3c {v:Q2} : ∀ {cs:List Z1} {k:Nat} {x:Nat×List V5},runD v k cs=some x→∃ i c b,cs[i]?=some c∧x.1=k+i∧Z8 10 c.pat v=some b∧Q2o c.guard b=true∧x.2=Z28 b∧∀ (j:Nat) (c':Z1),j<i→cs[j]?=some c'→∀ b',Z8 10 c'.pat v=some b'→Q2o c'.guard b'=false
 | [],_,_,h=>by cases h
 | c::cs,k,x,h=>by
  simp only [runD] at h
  cases hm:Z8 10 c.pat v with
  | none=>
   rw [hm] at h
   obtain ⟨i,c1,b,h1,h2,h3,h4,h5,h6⟩:=Z3c h
   refine ⟨i+1,c1,b,by simpa using h1,by omega,h3,h4,h5,fun j c' hj hc' b' hb'=>?_⟩
   cases j with
   | zero=>simp only [List.getElem?_cons_zero,Option.some.injEq] at hc';subst hc';rw [hm] at hb';cases hb'
   | succ j=>exact h6 j c' (by omega) (by simpa using hc') b' hb'
  | some l=>
   rw [hm] at h
   simp only at h
   split at h
   ·rename_i hg
    cases h
    exact ⟨0,c,l,rfl,rfl,hm,hg,rfl,fun j c' hj=>by omega⟩
   ·rename_i hg
    obtain ⟨i,c1,b,h1,h2,h3,h4,h5,h6⟩:=Z3c h
    refine ⟨i+1,c1,b,by simpa using h1,by omega,h3,h4,h5,fun j c' hj hc' b' hb'=>?_⟩
    cases j with
    | zero=>simp only [List.getElem?_cons_zero,Option.some.injEq] at hc';subst hc';rw [hm] at hb';cases hb';simpa using hg
    | succ j=>exact h6 j c' (by omega) (by simpa using hc') b' hb'
theorem V4k {w:List Q3}(hw:WW w){t:Q6}(ht:t∈tys w){l:List Z1}(hl:∀ c∈l,Q47 w t c.pat=true){v:Q2}(hv:Q6g w 10 t v):DB (runR (runD v 0 l)).2:=by
 cases h:runD v 0 l with
 | none=>intro b hb;cases hb
 | some x=>
  obtain ⟨i,c,b,h1,_,h3,_,h5,_⟩:=Z3c h
  obtain ⟨g,_,ln⟩:=Q8g (hl c (U1 h1))
  have hb:=X41 g ln h3
  intro y hy
  simp only [runR,h5] at hy
  obtain ⟨e',e1,e2⟩:=X7t 10 c.pat 10 v b (Z8l hw 10 t v ht hv) h3 y ((Q8i hb.rg).mem_iff.1 hy)
  exact X6p _ _ _ e1 e2
theorem X3r:∀ (n:Nat) (p:Q2) (most:Nat),most<n→most≤1000→Q2y n p (most:Int)=some ((min (cntV p) (most+1):Nat):Int):=by
 intro n
 induction n with
 | zero=>intro p most h;omega
 | succ n ih=>
  intro p most hn hm
  unfold Q2y
  have key:=Z4 (ρ:=Int) (f:=fun k94 x95 (s88:Int)=>
   (if (ile s88 (most:Int))=true then
   ((Q2y n x95 (wsub .i64 (most:Int) s88)).bind fun r103=>
   some (Ctl.go (wadd .i64 s88 r103)))
   else
   some (Ctl.brk s88))) p.kids (s0:=1) (fun k s=>∃ m:Nat,s=(m:Int)∧m=min (1+cntV.cntVs (p.kids.take k)) (most+1)) (fun _=>False) (fun s=>s=((min (cntV p) (most+1):Nat):Int)) ⟨1,rfl,by simp [cntV.cntVs]⟩ (fun k q s hq hI=>?_) (fun s hI=>?_)
  ·have:=Ret.ctl (Q:=fun b=>b=((min (cntV p) (most+1):Nat):Int)) key (g:=fun (o:Ctl Int Int)=>match o with
    | .ret r=>some r
    | .go _=>none
    | .brk s=>some s) (fun r hr=>hr.elim) (fun s hs=>.some hs)
   obtain ⟨b,e,rfl⟩:=this
   exact e
  ·obtain ⟨m,rfl,hm2⟩:=hI
   refine Ret.ite (fun h=>?_) (fun h=>?_)
   ·rw [Q09] at h
    have hle:m≤most:=by omega
    have hws:wsub .i64 (most:Int) (m:Int)=((most-m:Nat):Int):=by rw [Q2a (by omega) (by omega)];omega
    rw [hws,ih q (most-m) (by omega) (by omega)]
    simp only [U0]
    rw [J2 (by omega) (by omega)]
    refine .some ⟨m+min (cntV q) (most-m+1),by push_cast;rfl,?_⟩
    rw [Z3v p.kids k q hq]
    omega
   ·rw [Q56] at h
    refine .some ?_
    have h1:=Q9d p.kids k
    have h2:=Z70 p
    show (m:Int)=_
    have:m=min (cntV p) (most+1):=by omega
    rw [this]
  ·obtain ⟨m,rfl,hm2⟩:=hI
   rw [List.take_length] at hm2
   have h2:=Z70 p
   have:m=min (cntV p) (most+1):=by omega
   rw [this]
theorem X2z:∀ (d n:Nat) (v:Q2),Q9o d v→d≤n→Q3l n v=some v:=by
 intro d
 induction d with
 | zero=>intro n v h;exact h.elim
 | succ d ih=>
  intro n v h hn
  obtain ⟨n,rfl⟩:∃ k,n=k+1:=⟨n-1,by omega⟩
  obtain ⟨h1,h2⟩:=h
  have hr:Ret (Q3l (n+1) v) (fun r=>r=v):=by
   unfold Q3l
   refine Ret.ctl (Z4 v.kids (fun k s=>s=v.kids.take k) (fun _=>False) (fun s=>s=v.kids) (by simp) (fun k q s hq hI=>?_) (fun s hI=>?_)) (fun r hr=>hr.elim) (fun s hs=>.some (Q2.ext' rfl rfl hs))
   ·rw [ih n q (h2 q (U1 hq)) (by omega)]
    simp only [U0]
    rw [W2 (by simp only [Q5,U3,U4];rw [hI,U6];omega)]
    exact .some (by rw [hI,List.take_add_one,hq];rfl)
   ·rw [hI,List.take_length]
  obtain ⟨r,e,rfl⟩:=hr
  exact e
theorem X3q {w:List Q3}(hw:WW w):∀ (d n:Nat) (t:Q6) (v:Q2),t∈tys w→d+1≤n→d≤100→Q2i n w t v (d:Int)=some (Q29 w d t v):=by
 intro d
 induction d with
 | zero=>
  intro n t v ht hn hd
  obtain ⟨m,rfl⟩:∃ m,n=m+1:=⟨n-1,by omega⟩
  unfold Q2i
  rw [if_pos (by rw [W0];omega)]
  rfl
 | succ d ih=>
  intro n t v ht hn hd
  obtain ⟨m,rfl⟩:∃ m,n=m+1:=⟨n-1,by omega⟩
  have hT:=hw.ty t ht
  suffices hs:Ret (Q2i (m+1) w t v ((d+1:Nat):Int)) (fun r=>r=Q29 w (d+1) t v) by
   obtain ⟨a,e,rfl⟩:=hs
   exact e
  unfold Q2i
  rw [if_neg (by rw [W0];omega)]
  have hws:wsub .i64 ((d+1:Nat):Int) 1=(d:Int):=by rw [Q2a]<;>omega
  rw [hws]
  refine Ret.ite (fun hi=>?_) (fun hi=>?_)
  ·rw [X1] at hi
   have hg:Q29 w (d+1) t v=(decide (v.ctor = -1)&&(decide (0≤v.n)&&(decide (v.n≤9)&&decide (v.kids.length=0)))):=by rw [Q29,if_pos hi]
   rw [hg]
   refine Ret.ite (fun h1=>?_) (fun h1=>.some ?_)
   ·rw [X1] at h1
    refine Ret.ite (fun h2=>?_) (fun h2=>.some ?_)
    ·rw [Q09] at h2
     refine Ret.ite (fun h3=>.some ?_) (fun h3=>.some ?_)
     ·rw [Q09] at h3
      simp only [h1,h2,h3,decide_true,Bool.true_and]
      exact len0 _
     ·rw [Q56] at h3
      simp [show ¬v.n≤9 by omega]
    ·rw [Q56] at h2
     simp [show ¬0≤v.n by omega]
   ·rw [W5] at h1
    simp [h1]
  ·rw [W5] at hi
   have hg:Q29 w (d+1) t v=(decide (v.n=0)&&(decide (v.ctor∈W1 w t)&&(decide (v.kids.length=(Q0z w t v.ctor).length)&&((Q0z w t v.ctor).zip v.kids).all fun x=>Q29 w d x.1 x.2))):=by rw [Q29,if_neg hi]
   rw [hg]
   refine Ret.ite (fun h1=>.some ?_) (fun h1=>?_)
   ·rw [Bool.not_eq_true',W5] at h1
    simp [h1]
   rw [Bool.not_eq_false',X1] at h1
   rw [hT.c1]
   simp only [U0]
   rw [W8o]
   simp only [U0]
   refine Ret.ite (fun h2=>.some ?_) (fun h2=>?_)
   ·rw [Bool.not_eq_true',decide_eq_false_iff_not] at h2
    simp [h2]
   rw [Bool.not_eq_false',decide_eq_true_eq] at h2
   rw [hT.a1 _ h2]
   simp only [U0]
   refine Ret.ite (fun hl=>.some ?_) (fun hl=>?_)
   ·rw [Bool.not_eq_true',W5] at hl
    simp only [lenZ] at hl
    have:¬v.kids.length=(Q0z w t v.ctor).length:=by omega
    simp [this]
   rw [Bool.not_eq_false',X1] at hl
   simp only [lenZ] at hl
   have hl2:v.kids.length=(Q0z w t v.ctor).length:=by omega
   simp only [h1,h2,hl2,decide_true,Bool.true_and]
   refine Ret.ctl (Z4 (Q0z w t v.ctor) (fun k _=>∀ (j:Nat) (a:Q6) (x:Q2),j<k→(Q0z w t v.ctor)[j]?=some a→v.kids[j]?=some x→Q29 w d a x=true) (fun b=>b=false∧(((Q0z w t v.ctor).zip v.kids).all fun x=>Q29 w d x.1 x.2)=false) (fun _=>(((Q0z w t v.ctor).zip v.kids).all fun x=>Q29 w d x.1 x.2)=true) (fun j a x hj=>by omega) (fun k a s ha hI=>?_) (fun s hI=>?_)) (fun r hr=>.some (by rw [hr.1,hr.2])) (fun s hs=>.some hs.symm)
   ·have hlt:k<v.kids.length:=by have:=(List.getElem?_eq_some_iff.1 ha).1;omega
    have hq:v.kids[k]?=some v.kids[k]:=by simp [hlt]
    rw [Q28 hq]
    simp only [U0]
    rw [ih m a v.kids[k] (hT.at_ _ h2 a (U1 ha)) (by omega) (by omega)]
    simp only [U0]
    cases hgk:Q29 w d a v.kids[k] with
    | false=>
     refine .some ⟨rfl,?_⟩
     rw [List.all_eq_false]
     exact ⟨(a,v.kids[k]),U1 (Q7a ha hq),by simp [hgk]⟩
    | true=>
     refine .some (fun j a' q' hj ha' hq'=>?_)
     by_cases hjk:j=k
     ·subst hjk
      rw [ha] at ha'
      rw [hq] at hq'
      cases ha'
      cases hq'
      exact hgk
     ·exact hI j a' q' (by omega) ha' hq'
   ·rw [List.all_eq_true]
    intro x hx
    obtain ⟨j,hj⟩:=List.mem_iff_getElem?.1 hx
    obtain ⟨h3,h4⟩:=List.getElem?_zip_eq_some.1 hj
    exact hI j x.1 x.2 ((List.getElem?_eq_some_iff.1 h3).1) h3 h4
theorem X16 {w:List Q3}(hw:WW w){t:Q6}(ht:t∈tys w)(v:Q2):Q7h NN w t v=some (Z1z w t v):=by
 unfold Q7h Z1z
 rw [show (10:Int)=((10:Nat):Int) from rfl,X3q hw 10 NN t v ht (by decide) (by omega)]
 simp only [U0]
 cases Q29 w 10 t v with
 | false=>rfl
 | true=>
  simp only [if_true,Bool.true_and]
  rw [show (60:Int)=((60:Nat):Int) from rfl,X3r NN v 60 (by decide) (by omega)]
  simp only [U0]
  congr 1
  by_cases h:cntV v≤60
  ·rw [decide_eq_true h,Q09];omega
  ·rw [decide_eq_false h,Q56];omega
theorem Z43 (g:Q2q)(l:List V5):Q1w g l=some (Q2o g l):=by
 suffices hs:Ret (Q1w g l) (fun r=>r=Q2o g l) by
  obtain ⟨a,e,rfl⟩:=hs
  exact e
 unfold Q1w
 refine Ret.ite (fun h0=>.some ?_) (fun h0=>?_)
 ·rw [X1] at h0
  simp [Q2o,h0]
 rw [W5] at h0
 have hG:Q2o g l=match l.find? fun b=>decide (b.var=g.var) with
   | none=>false
   | some b=>ieq b.value.ctor (-1)&&((ieq g.op 1&&ilt b.value.n g.n)||(ieq g.op 2&&ieq b.value.n g.n)):=by
  unfold Q2o
  rw [decide_eq_false h0,Bool.false_or]
  rfl
 refine Ret.ctl (Z4 l (fun k _=>l.find? (fun b=>decide (b.var=g.var))=(l.drop k).find? (fun b=>decide (b.var=g.var))) (fun r=>r=Q2o g l) (fun _=>Q2o g l=false) rfl (fun k x s hx hI=>?_) (fun s hI=>?_)) (fun r hr=>.some hr) (fun s hs=>.some hs.symm)
 ·rw [Z0d hx,List.find?_cons] at hI
  by_cases hv:x.var=g.var
  ·have e:(!ieq x.var g.var)=false:=by simp [ieq,hv]
   simp only [e,U2,if_false]
   rw [decide_eq_true hv] at hI
   simp only at hI
   rw [hI] at hG
   simp only at hG
   rw [hG]
   generalize ieq x.value.ctor (-1)=b1
   generalize ieq g.op 1=b2
   generalize ilt x.value.n g.n=b3
   generalize ieq g.op 2=b4
   generalize ieq x.value.n g.n=b5
   cases b1<;>cases b2<;>cases b3<;>cases b4<;>cases b5<;>exact .some rfl
  ·have e:(!ieq x.var g.var)=true:=by simp [ieq,hv]
   simp only [e,if_true,U0]
   rw [decide_eq_false hv] at hI
   exact .some hI
 ·rw [List.drop_length] at hI
  rw [hG,hI]
  rfl
theorem Z1k {v u:Q2}{path:List Int}(h:Q6c v path=some u):Q5f v path=some u:=by
 suffices hs:Ret (Q5f v path) (fun r=>r=u) by
  obtain ⟨a,e,rfl⟩:=hs
  exact e
 unfold Q5f
 refine Ret.ctl (Z4 path (fun k s=>Q6c s (path.drop k)=some u) (fun _=>False) (fun s=>s=u) (by simpa using h) (fun k x s hx hI=>?_) (fun s hI=>by rw [List.drop_length,Q6c] at hI;exact Option.some.inj hI)) (fun r hr=>hr.elim) (fun s hs=>.some hs)
 rw [Z0d hx,Q6c] at hI
 cases hi:idx s.kids x with
 | none=>rw [hi] at hI;cases hI
 | some y=>
  rw [hi] at hI
  exact .some hI
theorem Z19 {v u:Q2}{path:List Int}(h:Q6c v path=some u):Q5e v path=some u:=by
 suffices hs:Ret (Q5e v path) (fun r=>r=u) by
  obtain ⟨a,e,rfl⟩:=hs
  exact e
 unfold Q5e
 refine Ret.ctl (Z4 path (fun k s=>Q6c s (path.drop k)=some u) (fun _=>False) (fun s=>s=u) (by simpa using h) (fun k x s hx hI=>?_) (fun s hI=>by rw [List.drop_length,Q6c] at hI;exact Option.some.inj hI)) (fun r hr=>hr.elim) (fun s hs=>.some hs)
 rw [Z0d hx,Q6c] at hI
 cases hi:idx s.kids x with
 | none=>rw [hi] at hI;cases hI
 | some y=>
  rw [hi] at hI
  exact .some hI
theorem V01 {α:Type}{xs:List α}{i:Int}{x:α}(h:idx xs i=some x):x∈xs:=by
 unfold idx at h
 split at h
 ·exact U1 h
 ·cases h
theorem Z5v:∀ {path:List Int} {v u:Q2} {d:Nat},Q9o d v→d≤10→Q6c v path=some u→Q9o 10 u
 | [],v,u,d,hv,hd,h=>by
  rw [Q6c,Option.some.injEq] at h
  subst h
  exact X6p _ _ _ hd hv
 | i::path,v,u,d,hv,hd,h=>by
  rw [Q6c,U12] at h
  obtain ⟨x,hx,h⟩:=h
  cases d with
  | zero=>exact hv.elim
  | succ d=>exact Z5v (hv.2 x (V01 hx)) (by omega) h
theorem Z4d {v:Q2}(hv:Q9o 10 v){l:List Q1}{r:List V5}(hl:l.length≤1000)(h:Q19 l v=some r):Q5l NN l v=some r:=by
 suffices hs:Ret (Q5l NN l v) (fun a=>a=r) by
  obtain ⟨a,e,rfl⟩:=hs
  exact e
 unfold Q5l
 refine Ret.ctl (Z4 l (fun k s=>s.length=k∧∃ s',Q19 (l.drop k) v=some s'∧s++s'=r) (fun _=>False) (fun s=>s=r) ⟨rfl,r,by simpa using h,rfl⟩ (fun k x s hx hI=>?_) (fun s hI=>?_)) (fun r hr=>hr.elim) (fun s hs=>.some hs)
 ·obtain ⟨i1,s',i2,i3⟩:=hI
  have hk:=(List.getElem?_eq_some_iff.1 hx).1
  rw [Z0d hx,Q19,U12] at i2
  obtain ⟨u,hu,i2⟩:=i2
  rw [U11] at i2
  obtain ⟨m,hm,rfl⟩:=i2
  rw [Z1k hu]
  simp only [U0]
  rw [X3y 10 NN u (Z5v hv (Nat.le_refl _) hu) (by decide)]
  simp only [U0]
  rw [W2 (by simp only [U3,U4,Q5];omega)]
  exact .some ⟨by simp [i1],m,hm,by rw [←i3];simp⟩
 ·obtain ⟨_,s',i2,i3⟩:=hI
  rw [List.drop_length,Q19,Option.some.injEq] at i2
  rw [←i3,←i2]
  simp
theorem Z45 {v:Q2}(hv:Q9o 10 v){l:List Q1}{r:List V5}(hl:l.length≤1000)(h:Q19 l v=some r):Q37 NN l v=some r:=by
 suffices hs:Ret (Q37 NN l v) (fun a=>a=r) by
  obtain ⟨a,e,rfl⟩:=hs
  exact e
 unfold Q37
 refine Ret.ctl (Z4 l (fun k s=>s.length=k∧∃ s',Q19 (l.drop k) v=some s'∧s++s'=r) (fun _=>False) (fun s=>s=r) ⟨rfl,r,by simpa using h,rfl⟩ (fun k x s hx hI=>?_) (fun s hI=>?_)) (fun r hr=>hr.elim) (fun s hs=>.some hs)
 ·obtain ⟨i1,s',i2,i3⟩:=hI
  have hk:=(List.getElem?_eq_some_iff.1 hx).1
  rw [Z0d hx,Q19,U12] at i2
  obtain ⟨u,hu,i2⟩:=i2
  rw [U11] at i2
  obtain ⟨m,hm,rfl⟩:=i2
  rw [Z19 hu]
  simp only [U0]
  rw [X2z 10 NN u (Z5v hv (Nat.le_refl _) hu) (by decide)]
  simp only [U0]
  rw [W2 (by simp only [U3,U4,Q5];omega)]
  exact .some ⟨by simp [i1],m,hm,by rw [←i3];simp⟩
 ·obtain ⟨_,s',i2,i3⟩:=hI
  rw [List.drop_length,Q19,Option.some.injEq] at i2
  rw [←i3,←i2]
  simp
theorem Z6k {α:Type}{l:List α}{k:Nat}{x:α}{p:α→Bool}(h:l[k]?=some x):(l.drop k).find? p=if p x=true then some x else (l.drop (k+1)).find? p:=by
 rw [Z0d h,List.find?_cons]
 cases p x<;>rfl
theorem Z2s (g:Q2q)(l:List V5):Q1z g l=some (Q2o g l):=by
 suffices hs:Ret (Q1z g l) (fun r=>r=Q2o g l) by
  obtain ⟨a,e,rfl⟩:=hs
  exact e
 unfold Q1z
 by_cases h0:g.op=0
 ·rw [if_pos (by rw [X1];exact h0)]
  exact .some (by simp [Q2o,h0])
 rw [if_neg (by rw [X1];exact h0)]
 have hfind:Ret (Q0w l (fun a0=>Q24 a0 g)) (fun k=>match l.find? (fun b=>decide (b.var=g.var)) with
   | none=>k = -1
   | some b=>∃ i:Nat,k=(i:Int)∧l[i]?=some b):=by
  unfold Q0w
  refine Ret.ctl (Z4 l (fun k _=>l.find? (fun b=>decide (b.var=g.var))=(l.drop k).find? (fun b=>decide (b.var=g.var))) (fun r=>∃ (i:Nat) (b:V5),r=(i:Int)∧l[i]?=some b∧l.find? (fun b=>decide (b.var=g.var))=some b) (fun _=>l.find? (fun b=>decide (b.var=g.var))=none) (by simp) (fun k x s hx hI=>?_) (fun s hI=>by rw [hI,List.drop_length];rfl)) (fun r hr=>.some ?_) (fun s hs=>.some (by rw [hs]))
  ·have e1:Q24 x g=some (ieq x.var g.var):=rfl
   simp only []
   rw [e1]
   simp only [U0]
   rw [Z6k hx] at hI
   refine Ret.ite (fun hc=>.some ?_) (fun hc=>.some ?_)
   ·rw [X1] at hc
    rw [if_pos (by simpa using hc)] at hI
    exact ⟨k,x,rfl,hx,hI⟩
   ·rw [W5] at hc
    rw [if_neg (by simpa using hc)] at hI
    exact hI
  ·obtain ⟨i,b,rfl,h1,h2⟩:=hr
   rw [h2]
   exact ⟨i,rfl,h1⟩
 refine Ret.bind hfind (fun k hk=>?_)
 unfold Q2o
 cases hf:l.find? (fun b=>decide (b.var=g.var)) with
 | none=>
  rw [hf] at hk
  simp only at hk
  subst hk
  exact .some (by simp [h0])
 | some b=>
  rw [hf] at hk
  obtain ⟨i,rfl,hi⟩:=hk
  rw [if_neg (by rw [W0];omega),Q28 hi]
  simp only [U0,h0,decide_false,Bool.false_or]
  by_cases c1:b.value.ctor = -1
  ·have e1:ieq b.value.ctor (-1)=true:=by rw [X1];exact c1
   simp only [e1,Bool.not_true,U2,if_false]
   by_cases c2:g.op=1
   ·have e2:ieq g.op 1=true:=by rw [X1];exact c2
    have e3:ieq g.op 2=false:=by rw [W5];omega
    simp only [e2,e3,if_true,U2,if_false]
    by_cases c3:b.value.n<g.n
    ·have e4:ilt b.value.n g.n=true:=by rw [W0];exact c3
     simp only [e4,if_true]
     exact .some (by simp [c1,c2,c3])
    ·have e4:ilt b.value.n g.n=false:=by rw [W9];omega
     simp only [e4,U2,if_false]
     exact .some (by simp [c1,c2,c3])
   ·have e2:ieq g.op 1=false:=by rw [W5];exact c2
    simp only [e2,U2,if_false]
    by_cases c3:g.op=2
    ·have e3:ieq g.op 2=true:=by rw [X1];exact c3
     simp only [e3,if_true]
     exact .some (by simp [c1,c3,ieq])
    ·have e3:ieq g.op 2=false:=by rw [W5];exact c3
     simp only [e3,U2,if_false]
     exact .some (by simp [c1,c2,c3])
  ·have e1:ieq b.value.ctor (-1)=false:=by rw [W5];exact c1
   simp only [e1,Bool.not_false,if_true]
   exact .some (by simp [c1])
theorem Z7j (b:Q8)(u:Q2):Q2e b u=some (X8 b u):=by
 unfold Q2e Q6m
 by_cases h1:b.ctor=u.ctor
 ·rw [if_pos (by rw [X1];exact h1)]
  by_cases h2:b.ctor = -1
  ·rw [if_neg (by rw [Bool.not_eq_true,Bool.not_eq_false',X1];exact h2),Q9r]
   simp [X8,←h1,h2]
  ·rw [if_pos (by rw [Bool.not_eq_true',W5];exact h2)]
   simp [X8,h1,h1▸h2]
 ·rw [if_neg (by rw [X1];exact h1)]
  simp [X8,h1]
theorem Z9m (bs:List Q8)(u:Q2):Ret (Q0n bs (fun a0=>Q2e a0 u)) (fun k=>match bs.find? (fun b=>X8 b u) with
  | none=>k = -1
  | some b=>∃ i:Nat,k=(i:Int)∧bs[i]?=some b):=by
 unfold Q0n
 refine Ret.ctl (Z4 bs (fun k _=>bs.find? (fun b=>X8 b u)=(bs.drop k).find? (fun b=>X8 b u)) (fun r=>∃ (i:Nat) (b:Q8),r=(i:Int)∧bs[i]?=some b∧bs.find? (fun b=>X8 b u)=some b) (fun _=>bs.find? (fun b=>X8 b u)=none) (by simp) (fun k x s hx hI=>?_) (fun s hI=>by rw [hI,List.drop_length];rfl)) (fun r hr=>.some ?_) (fun s hs=>.some (by rw [hs]))
 ·simp only []
  rw [Z7j]
  simp only [U0]
  rw [Z6k hx] at hI
  refine Ret.ite (fun hc=>.some ?_) (fun hc=>.some ?_)
  ·rw [if_pos hc] at hI
   exact ⟨k,x,rfl,hx,hI⟩
  ·rw [if_neg (by simp [hc])] at hI
   exact hI
 ·obtain ⟨i,b,rfl,h1,h2⟩:=hr
  rw [h2]
  exact ⟨i,rfl,h1⟩
theorem Q9s {σ ρ:Type}{f:σ→Option (Ctl ρ σ)}{s s':σ}{n:Nat}(h:f s=some (.go s')):whileL f (n+1) s=whileL f n s':=by
 rw [whileL,h]
theorem Z0l {σ ρ:Type}{f:σ→Option (Ctl ρ σ)}{s:σ}{r:ρ}{n:Nat}(h:f s=some (.ret r)):whileL f (n+1) s=some (.ret r):=by
 rw [whileL,h]
theorem Z82 {σ ρ:Type}{f:σ→Option (Ctl ρ σ)}{s s':σ}{n:Nat}(h:f s=some (.brk s')):whileL f (n+1) s=some (.brk s'):=by
 rw [whileL,h]
theorem W5q {lst:List Z1}{v:Q2}(hv:Q9o 10 v){t:X0}{a:Int}{bs:List V5}{k:Nat}(hd:Q6v 300 t)(h:runT 300 t lst v=some (a,bs,k)):Q54 NN t lst v=some (a,bs,(k:Int)):=by
 unfold Q54
 generalize hf:(fun (s:X0×Int)=>_:X0×Int→Option (Ctl (Int×List V5×Int) (X0×Int)))=f
 have key:∀ (d n:Nat) (t:X0) (c k:Nat),Q6v d t→runT d t lst v=some (a,bs,k)→d≤n→c+d≤300→whileL f n (t,(c:Int))=some (.ret (a,bs,((c+k:Nat):Int))):=by
  intro d
  induction d with
  | zero=>intro n t c k h;exact h.elim
  | succ d ih=>
   intro n t c k hd h hn hc
   obtain ⟨n,rfl⟩:∃ j,n=j+1:=⟨n-1,by omega⟩
   obtain ⟨⟨hd1,hd2,hd3,hd4,hd5⟩,hd6⟩:=hd
   have e1:wadd .i64 (c:Int) 1=((c+1:Nat):Int):=by rw [J2 (by omega) (by omega)];omega
   rw [runT] at h
   split at h
   ·rename_i h2
    rw [U12] at h
    obtain ⟨u,hu,h⟩:=h
    obtain ⟨q,hq,hqq⟩:=Z9m t.branches u
    split at h
    ·rename_i hnone
     rw [hnone] at hqq
     simp only [Option.some.injEq,Prod.mk.injEq] at h hqq
     obtain ⟨rfl,rfl,rfl⟩:=h
     subst hqq
     refine Z0l ?_
     subst hf
     simp only
     rw [if_pos (by rw [X1];exact h2),Z1k hu]
     simp only [U0]
     rw [hq]
     simp only [U0]
     rw [if_pos (by rw [W0];omega),e1]
    ·rename_i b hsome
     rw [hsome] at hqq
     obtain ⟨i,rfl,hi⟩:=hqq
     rw [U11] at h
     obtain ⟨r,hr,h⟩:=h
     simp only [Prod.mk.injEq] at h
     obtain ⟨rfl,rfl,rfl⟩:=h
     have hgo:f (t,(c:Int))=some (.go (b.tree,((c+1:Nat):Int))):=by
      subst hf
      simp only
      rw [if_pos (by rw [X1];exact h2),Z1k hu]
      simp only [U0]
      rw [hq]
      simp only [U0]
      rw [if_neg (by rw [W0];omega),Q28 hi,e1]
      rfl
     rw [Q9s hgo,ih n b.tree (c+1) r.2.2 (hd6 _ (List.mem_append_left _ (List.mem_map_of_mem (U1 hi)))) hr (by omega) (by omega)]
     congr 4
     omega
   ·rename_i h2
    split at h
    ·rename_i h1
     rw [U12] at h
     obtain ⟨cl,hcl,h⟩:=h
     rw [U12] at h
     obtain ⟨l,hl,h⟩:=h
     split at h
     ·rename_i hg
      simp only [Option.some.injEq,Prod.mk.injEq] at h
      obtain ⟨rfl,rfl,rfl⟩:=h
      refine Z0l ?_
      subst hf
      simp only
      rw [if_neg (by rw [X1];exact h2),if_pos (by rw [X1];exact h1),Z4d hv hd1 hl]
      simp only [U0]
      rw [hcl]
      simp only [U0]
      rw [Z2s]
      simp only [U0]
      rw [if_pos hg]
      rfl
     ·rename_i hg
      split at h
      ·rename_i el rest hel
       have hgo:f (t,(c:Int))=some (.go (el,(c:Int))):=by
        subst hf
        simp only
        rw [if_neg (by rw [X1];exact h2),if_pos (by rw [X1];exact h1),Z4d hv hd1 hl]
        simp only [U0]
        rw [hcl]
        simp only [U0]
        rw [Z2s]
        simp only [U0]
        rw [if_neg hg,hel]
        rfl
       rw [Q9s hgo]
       exact ih n el c k (hd6 _ (List.mem_append_right _ (by rw [hel];simp))) h (by omega) (by omega)
      ·cases h
    ·rename_i h1
     simp only [Option.some.injEq,Prod.mk.injEq] at h
     obtain ⟨rfl,rfl,rfl⟩:=h
     refine Z0l ?_
     subst hf
     simp only
     rw [if_neg (by rw [X1];exact h2),if_neg (by rw [X1];exact h1)]
     rfl
 rw [show (0:Int)=((0:Nat):Int) from rfl,key 300 NN t 0 k hd h (by decide) (by omega)]
 simp
def opT:Nat→X0→Prop
 | 0,_=>False
 | d+1,t=>(t.op=0∨t.op=1∨t.op=2)∧∀ x∈Q64 t,opT d x
theorem X6t {P:Q8→X0→Prop} : ∀ {bs xs:List Q8},brsR P bs xs→∀ x∈xs,∃ b∈bs,P b x.tree
 | [],[],_,x,hx=>by cases hx
 | [],_::_,e,_,_=>e.elim
 | _::_,[],e,_,_=>e.elim
 | b::bs,y::ys,⟨⟨_,_,_,e4⟩,e5⟩,x,hx=>by
  rcases U8.1 hx with rfl | hx
  ·exact ⟨b,by simp,e4⟩
  ·obtain ⟨b',h1,h2⟩:=X6t e5 x hx
   exact ⟨b',by simp [h1],h2⟩
theorem W4r {w:List Q3}{lst:List Z1}{pick:Int} : ∀ (d:Nat) (t:X0) (rows:List Grow) (cols:List Z5),Q9k w lst pick d t rows cols→opT d t:=by
 intro d
 induction d with
 | zero=>intro t rows cols h;exact h.elim
 | succ d ih=>
  intro t rows cols h
  cases rows with
  | nil=>
   simp only [Q9k] at h
   subst h
   exact ⟨.inl rfl,fun x hx=>by simp [Q64,zT] at hx⟩
  | cons r0 rest=>
   simp only [Q9k] at h
   cases hp:Q9n w (r0::rest) cols pick with
   | none=>
    rw [hp] at h
    simp only at h
    obtain ⟨h1,h2,h3,h4,h5,cl,h6,h7⟩:=h
    refine ⟨.inr (.inl h1),fun x hx=>?_⟩
    unfold Q64 at hx
    rw [h5] at hx
    rcases h7 with ⟨_,h7⟩ | ⟨_,el,h8,h9⟩
    ·simp [h7] at hx
    ·simp only [h8,List.map_nil,List.nil_append,List.mem_singleton] at hx
     subst hx
     exact ih _ _ _ h9
   | some k=>
    rw [hp] at h
    simp only at h
    obtain ⟨col,h1,h2,h3,h4,h5,h6,h7⟩:=h
    refine ⟨.inr (.inr h2),fun x hx=>?_⟩
    unfold Q64 at hx
    rw [h6,List.append_nil,U10] at hx
    obtain ⟨b,hb,rfl⟩:=hx
    obtain ⟨b',_,hb'⟩:=X6t h7 b hb
    exact ih _ _ _ hb'
theorem Z5b {α:Type}{l:List α}{k:Nat}{x:α}(h:l[k]?=some x):l.take (k+1)=l.take k++[x]:=by
 rw [List.take_add_one,h]
 rfl
theorem Z5j {α:Type}{a b:List α}(hl:a.length=b.length){f:Nat→α→Unit→Option (Ctl Bool Unit)}(hf:∀ (k:Nat) (x y:α),b[k]?=some y→(x=y→f k x ()=some (.go ()))∧(x≠y→f k x ()=some (.ret false))):Ret (forL f 0 a ()) (CtlQ (fun r=>r=false∧a≠b) (fun _=>a=b)):=by
 refine Z4 a (fun k _=>a.take k=b.take k) _ _ (by simp) (fun k x s hx hI=>?_) (fun s hI=>?_)
 ·have hk:=(List.getElem?_eq_some_iff.1 hx).1
  have hy:b[k]?=some (b[k]'(by omega)):=U9 (by omega)
  by_cases h:x=b[k]'(by omega)
  ·refine Ret.of ((hf k x _ hy).1 h) ?_
   simp only [Q0b]
   rw [Z5b hx,Z5b hy,hI,h]
  ·refine Ret.of ((hf k x _ hy).2 h) ?_
   refine (show false=false∧a≠b from ⟨rfl,fun e=>h ?_⟩)
   subst e
   rw [hx] at hy
   exact Option.some.inj hy
 ·rw [List.take_length,hl,List.take_length] at hI
  exact hI
theorem Q4j {α:Type} [DecidableEq α] {a b:α}(h:a≠b):false=decide (a=b):=(decide_eq_false h).symm
theorem X0a {α:Type} [DecidableEq α] {a b:α}(h:a=b):true=decide (a=b):=(decide_eq_true h).symm
theorem Z47 (a b:List Int):Q16 a b=some (decide (a=b)):=by
 suffices hs:Ret (Q16 a b) (fun r=>r=decide (a=b)) by
  obtain ⟨_,e,rfl⟩:=hs
  exact e
 unfold Q16
 refine Ret.ite (fun h=>.some (Q4j ?_)) (fun h=>?_)
 ·rintro rfl
  simp [ieq] at h
 ·rw [Bool.not_eq_false',X1,Q1h,Q1h] at h
  refine Ret.ctl (Z5j (b:=b) (by omega) (fun k x y hy=>?_)) (fun r hr=>.some ?_) (fun s hs=>.some (X0a hs))
  ·rw [Q28 hy]
   simp only [U0]
   exact ⟨fun e=>by simp [ieq,e],fun e=>by simp [ieq,e]⟩
  ·rw [hr.1]
   exact Q4j hr.2
theorem Z93 (a b:List Q1):Q1j a b=some (decide (a=b)):=by
 suffices hs:Ret (Q1j a b) (fun r=>r=decide (a=b)) by
  obtain ⟨_,e,rfl⟩:=hs
  exact e
 unfold Q1j
 refine Ret.ite (fun h=>.some (Q4j ?_)) (fun h=>?_)
 ·rintro rfl
  simp [ieq] at h
 ·rw [Bool.not_eq_false',X1,Q1h,Q1h] at h
  refine Ret.ctl (Z5j (b:=b) (by omega) (fun k x y hy=>?_)) (fun r hr=>.some ?_) (fun s hs=>.some (X0a hs))
  ·rw [Q28 hy]
   simp only [U0,Z47]
   refine ⟨fun e=>by subst e;simp [ieq],fun e=>?_⟩
   by_cases h1:x.var=y.var
   ·have h2:x.path≠y.path:=fun h2=>e (by cases x;cases y;simp only at h1 h2;rw [h1,h2])
    simp [ieq,h1,h2]
   ·simp [ieq,h1]
  ·rw [hr.1]
   exact Q4j hr.2
theorem X93 (a b:Q7w):Q65 [ieq a.ctor b.ctor,ieq a.n b.n,ieq a.m b.m,ieq a.to b.to]=decide (a=b):=by
 obtain ⟨v,d,i,j⟩:=a
 obtain ⟨v',d',i',j'⟩:=b
 simp [Q65,ieq]
theorem W54 (a b:Q05):Q4l a b=some (decide (a=b)):=by
 suffices hs:Ret (Q4l a b) (fun r=>r=decide (a=b)) by
  obtain ⟨_,e,rfl⟩:=hs
  exact e
 unfold Q4l
 refine Ret.ite (fun h=>.some (Q4j ?_)) (fun h1=>?_)
 ·rintro rfl
  simp [ieq] at h
 refine Ret.ite (fun h=>.some (Q4j ?_)) (fun h2=>?_)
 ·rintro rfl
  simp [ieq] at h
 refine Ret.ite (fun h=>.some (Q4j ?_)) (fun h3=>?_)
 ·rintro rfl
  simp [ieq] at h
 rw [Z93,Z47]
 simp only [U0]
 refine Ret.ite (fun h=>.some (Q4j ?_)) (fun h4=>?_)
 ·rintro rfl
  simp at h
 refine Ret.ite (fun h=>.some (Q4j ?_)) (fun h5=>?_)
 ·rintro rfl
  simp at h
 refine Ret.ite (fun h=>.some (Q4j ?_)) (fun h6=>?_)
 ·rintro rfl
  simp [ieq] at h
 rw [Bool.not_eq_false',X1] at h1 h2 h3 h6
 rw [Q1h,Q1h] at h6
 rw [Bool.not_eq_false',decide_eq_true_eq] at h4 h5
 refine Ret.ctl (Z5j (b:=b.edges) (by omega) (fun k x y hy=>?_)) (fun r hr=>.some ?_) (fun s hs=>.some (X0a ?_))
 ·rw [Q28 hy]
  simp only [U0,X93]
  exact ⟨fun e=>by simp [e],fun e=>by simp [e]⟩
 ·rw [hr.1]
  exact Q4j fun e=>hr.2 (by rw [e])
 ·cases a;cases b
  simp only at h1 h2 h3 h4 h5 hs
  rw [h1,h2,h3,h4,h5,hs]
theorem X9c {l:List Q1}(hl:l.length≤1000)(hp:∀ b∈l,b.path.length≤1000):Q3w l=some l:=by
 suffices hs:Ret (Q3w l) (fun r=>r=l) by
  obtain ⟨_,e,rfl⟩:=hs
  exact e
 unfold Q3w
 refine Ret.ctl (Z4 l (fun k s=>s=l.take k) (fun _=>False) (fun s=>s=l) (by simp) (fun k x s hx hI=>?_) (fun s hI=>by rw [hI,List.take_length])) (fun r hr=>hr.elim) (fun s hs=>.some hs)
 have h1:=hp x (U1 hx)
 subst hI
 rw [W2 (by simp only [U4,Q5];omega)]
 simp only [U0]
 rw [W2 (by simp only [U6,U3,U4,Q5];omega)]
 simp only [U0]
 refine .some ?_
 simp only [Q0b]
 rw [Z5b hx]
theorem X36 (f:List Q05→X0→List Q05×Int)(b:Q8):∀ (l:List Q8) (ns:List Q05),addE f ns (l++[b])=((f (addE f ns l).1 b.tree).1,(addE f ns l).2++[⟨b.ctor,b.n,b.m,(f (addE f ns l).1 b.tree).2⟩])
 | [],ns=>rfl
 | x::l,ns=>by
  rw [List.cons_append,addE,X36 f b l]
  rfl
theorem Z57 {f:List Q05→X0→List Q05×Int}{d:Nat}(hf:∀ ns x,(f ns x).1.length≤ns.length+Q11 d x):∀ (l:List Q8) (ns:List Q05),(addE f ns l).1.length≤ns.length+((l.map fun b=>b.tree).map (Q11 d)).sum∧(addE f ns l).2.length=l.length
 | [],ns=>by simp [addE]
 | b::l,ns=>by
  have h1:=hf ns b.tree
  obtain ⟨h2,h3⟩:=Z57 hf l (f ns b.tree).1
  constructor
  ·simp only [addE,List.map_cons,List.sum_cons]
   omega
  ·simp only [addE,U3,h3]
theorem X6y {f:List Q05→X0→List Q05×Int}{d:Nat}(hf:∀ ns x,(f ns x).1.length≤ns.length+Q11 d x)(l:List X0)(ns:List Q05):(addL f ns l).1.length≤ns.length+(l.map (Q11 d)).sum:=by
 cases l with
 | nil=>simp [addL]
 | cons y l=>
  have h1:=hf ns y
  simp only [addL,List.map_cons,List.sum_cons]
  omega
theorem W5c (ns:List Q05)(n:Q05):(putN ns n).1.length≤ns.length+1:=by
 unfold putN
 split
 ·simp
 ·simp
theorem X0i:∀ (d:Nat) (ns:List Q05) (x:X0),(addN d ns x).1.length≤ns.length+Q11 d x:=by
 intro d
 induction d with
 | zero=>intro ns x;simp [addN]
 | succ d ih=>
  intro ns x
  rw [addN,Q11]
  refine Nat.le_trans (W5c _ _) ?_
  have h1:=X6y ih x.else_ (addE (addN d) ns x.branches).1
  have h2:=(Z57 ih x.branches ns).1
  unfold Q64
  simp only [List.map_append,List.sum_append]
  omega
theorem W0z {ns:List Q05}{n:Q05}{k:Nat}(h:ns[k]?=some n)(h2:∀ m∈ns.take k,m≠n):putN ns n=(ns,(k:Int)):=by
 have:ns.idxOf? n=some k:=by
  unfold List.idxOf?
  rw [List.findIdx?_eq_some_iff_getElem]
  obtain ⟨hk,e⟩:=List.getElem?_eq_some_iff.1 h
  refine ⟨hk,by simp [e],fun j hj=>?_⟩
  have:=h2 ns[j] (List.mem_take_iff_getElem.2 ⟨j,by omega,rfl⟩)
  simpa using this
 unfold putN
 rw [this]
theorem W10 {ns:List Q05}{n:Q05}(h:∀ m∈ns,m≠n):putN ns n=(ns++[n],(ns.length:Int)):=by
 have:ns.idxOf? n=none:=by
  rw [List.idxOf?_eq_none_iff]
  exact fun e=>h n e rfl
 unfold putN
 rw [this]
theorem W1h:∀ (d n:Nat) (ns:List Q05) (x:X0),Q6v d x→d≤n→ns.length+Q11 d x≤100000→Q3f n ns x=some (addN d ns x):=by
 intro d
 induction d with
 | zero=>intro n ns x h;exact h.elim
 | succ d ih=>
  intro n ns x hx hn hs
  obtain ⟨n,rfl⟩:∃ j,n=j+1:=⟨n-1,by omega⟩
  obtain ⟨⟨d1,d2,d3,d4,d5⟩,d6⟩:=hx
  have hb:∀ b∈x.branches,b.tree∈Q64 x:=fun b hb=>List.mem_append_left _ (List.mem_map_of_mem hb)
  have he:∀ y∈x.else_,y∈Q64 x:=fun y hy=>List.mem_append_right _ hy
  have hsz:((x.branches.map fun b=>b.tree).map (Q11 d)).sum+(x.else_.map (Q11 d)).sum+1=Q11 (d+1) x:=by
   rw [Q11]
   unfold Q64
   simp only [List.map_append,List.sum_append]
   omega
  suffices hr:Ret (Q3f (n+1) ns x) (fun r=>r=addN (d+1) ns x) by
   obtain ⟨_,e,rfl⟩:=hr
   exact e
  rw [Q3f,X9c d1 d2,W2 (by simp only [U4,Q5];omega)]
  unfold Q73
  simp only [U0]
  refine Ret.ctl (Z4 x.branches (fun k s=>s=addE (addN d) ns (x.branches.take k)) (fun _=>False) (fun s=>s=addE (addN d) ns x.branches) (by simp [addE]) (fun k b s hk hI=>?_) (fun s hI=>by rw [hI,List.take_length])) (fun r hr=>hr.elim) (fun s hs'=>?_)
  ·have hm:=U1 hk
   obtain ⟨l1,l2⟩:=Z57 (X0i d) (x.branches.take k) ns
   have l3:((((x.branches.take k)).map fun b=>b.tree).map (Q11 d)).sum+Q11 d b.tree≤((x.branches.map fun b=>b.tree).map (Q11 d)).sum:=by
    have:x.branches=x.branches.take k++(b::x.branches.drop (k+1)):=by rw [←Z0d hk,List.take_append_drop]
    conv=>rhs;rw [this]
    simp only [List.map_append,List.sum_append,List.map_cons,List.sum_cons]
    omega
   subst hI
   rw [ih n _ b.tree (d6 _ (hb b hm)) (by omega) (by omega)]
   simp only [U0]
   rw [W2 (by simp only [l2,U6,U3,U4,Q5];omega)]
   simp only [U0]
   refine .some ?_
   simp only [Q0b]
   rw [Z5b hk,X36]
  ·subst hs'
   obtain ⟨l1,l2⟩:=Z57 (X0i d) x.branches ns
   rw [addN]
   generalize addE (addN d) ns x.branches=E at l1 l2 ⊢
   have l3:=X6y (X0i d) x.else_ E.1
   refine Ret.bind (P:=fun o=>o=Ctl.brk (addL (addN d) E.1 x.else_)) ?_ (fun o ho=>?_)
   ·refine Ret.ite (fun h=>?_) (fun h=>?_)
    ·cases hel:x.else_ with
     | nil=>rw [hel] at h;cases h
     | cons y l=>
      have hy:y∈x.else_:=by rw [hel];simp
      have l4:Q11 d y≤(x.else_.map (Q11 d)).sum:=by rw [hel];simp
      rw [show idx (y::l) 0=some y from rfl]
      simp only [U0]
      rw [ih n _ y (d6 _ (he y hy)) (by omega) (by omega)]
      exact .some rfl
    ·have hel:x.else_=[]:=by
      cases h':x.else_ with
      | nil=>rfl
      | cons y l=>rw [h'] at h;simp [lenZ,ilt] at h
     rw [hel]
     exact .some rfl
   ·subst ho
    simp only
    generalize addL (addN d) E.1 x.else_=L at l3 ⊢
    refine Ret.ctl (Z4 L.1 (fun k _=>∀ m∈L.1.take k,m≠(⟨x.op,x.clause,x.binds,x.path,E.2,L.2⟩:Q05)) (fun r=>r=putN L.1 ⟨x.op,x.clause,x.binds,x.path,E.2,L.2⟩) (fun _=>∀ m∈L.1,m≠(⟨x.op,x.clause,x.binds,x.path,E.2,L.2⟩:Q05)) (by simp) (fun k m s hk hI=>?_) (fun s hI=>by rw [List.take_length] at hI;exact hI)) (fun r hr=>.some hr) (fun s hs'=>?_)
    ·rw [W54]
     simp only [U0]
     refine Ret.ite (fun h=>.some ?_) (fun h=>.some ?_)
     ·rw [decide_eq_true_eq] at h
      simp only [X5s]
      subst h
      rw [W0z hk hI]
     ·rw [decide_eq_false_iff_not] at h
      simp only [Q0b]
      intro m' hm'
      rw [Z5b hk,List.mem_append,List.mem_singleton] at hm'
      rcases hm' with hm' | rfl
      ·exact hI m' hm'
      ·exact h
    ·rw [W2 (by simp only [U3,U4,Q5];omega),W10 hs']
     exact .some rfl
def W06 (w:List Q3)(t:Q6)(l:List Z1)(v:Q2)(r:Int×List V5×Int):Prop:=
 r=(-1,[],-1)∨∃ k:Nat,Q4v w t l=true∧Z1z w t v=true∧r=((runR (runD v 0 l)).1,(runR (runD v 0 l)).2,(k:Int))
theorem X76 {w:List Q3}(hww:w∈Q1q){t:Q6}(ht:t∈tys w){l:List Z1}{v:Q2}{r:Int×List V5×Int}(h:W06 w t l v r):DB r.2.1:=by
 rcases h with rfl | ⟨k,hc,hv,rfl⟩
 ·intro b hb;cases hb
 ·exact V4k (ww hww) ht (X30 hc).2 (Z5a hv)
def byt (r:Z7)(i:Nat):Nat:=(r.b.getD i 0).toNat
def pk24 (r:Z7)(p:Nat):Nat:=if r.b.length=0 then 0 else Zed.pkv (byt r) r.b.length p
theorem W93 {a:Nat}(h:a<1099511627776):wxor .i64 (a:Int) ((a / 64:Nat):Int)=((a ^^^ (a / 64):Nat):Int):=by
 have e:(BitVec.ofInt IntKind.i64.bits (a:Int) ^^^ BitVec.ofInt IntKind.i64.bits ((a / 64:Nat):Int)).toNat=a ^^^ (a / 64):=by
  have ha:(BitVec.ofInt IntKind.i64.bits (a:Int)).toNat=a:=by
   rw [BitVec.toNat_ofInt]
   show (((a:Int) % ((2 ^ 64:Nat):Int))).toNat=a
   omega
  have hb:(BitVec.ofInt IntKind.i64.bits ((a / 64:Nat):Int)).toNat=a / 64:=by
   rw [BitVec.toNat_ofInt]
   show ((((a / 64:Nat):Int) % ((2 ^ 64:Nat):Int))).toNat=a / 64
   omega
  rw [BitVec.toNat_xor,ha,hb]
 have hlt:a ^^^ (a / 64)<2 ^ 40:=Nat.xor_lt_two_pow (by omega) (by omega)
 unfold wxor
 rw [e,Z1w (by omega) (by omega)]
theorem V4w {r:Z7}(hb:∀ x∈r.b,0≤x∧x≤255)(hl:r.b.length≤2000){p:Nat}(hp:r.p=(p:Int))(hp2:p≤30000000):Z6 r 24=some (((pk24 r p:Nat):Int),⟨r.b,((p+1:Nat):Int)⟩):=by
 have ep:wadd .i64 r.p 1=((p+1:Nat):Int):=by rw [hp,J2]<;>omega
 have eq:wsub .i64 ((p+1:Nat):Int) 1=(p:Int):=by rw [Q2a]<;>omega
 unfold Z6
 rw [ep,eq,if_neg (by rw [W0];omega)]
 unfold pk24
 by_cases h0:r.b.length=0
 ·rw [if_pos (by rw [X1];simp only [lenZ];omega),if_pos h0]
  rfl
 rw [if_neg (by rw [X1];simp only [lenZ];omega),if_neg h0]
 have hpos:0<r.b.length:=by omega
 have hk0:chk (!ieq 24 0)=some ():=rfl
 have hb0:chk (!ieq (lenZ r.b.length) 0)=some ():=Z8s (by rw [Bool.not_eq_true',W5];simp only [lenZ];omega)
 have get:∀ i:Nat,i<r.b.length→idx r.b (i:Int)=some ((byt r i:Nat):Int)∧byt r i≤255:=fun i hi=>by
  have h1:r.b[i]?=some r.b[i]:=U9 hi
  obtain ⟨b1,b2⟩:=hb _ (U1 h1)
  have h2:byt r i=r.b[i].toNat:=by unfold byt;rw [List.getD_eq_getElem?_getD,h1];rfl
  rw [Q28 h1,h2]
  exact ⟨by congr 1;omega,by omega⟩
 unfold Zed.pkv
 by_cases hlt:p<r.b.length
 ·rw [if_pos (by rw [W0];simp only [lenZ];omega),if_pos hlt]
  obtain ⟨g1,g2⟩:=get p hlt
  rw [g1,hk0]
  simp only [U0]
  rw [Z83 (by omega) (by omega)]
  congr 2
 ·rw [if_neg (by rw [W0];simp only [lenZ];omega),if_neg hlt,hb0]
  simp only [U0]
  have e7:wmul .i64 (p:Int) 7=((p * 7:Nat):Int):=by rw [Q7b]<;>omega
  have e73:wadd .i64 ((p * 7:Nat):Int) 3=((p * 7+3:Nat):Int):=by rw [J2]<;>omega
  rw [e7,e73]
  have rm:∀ a:Nat,wrem (a:Int) (lenZ r.b.length)=((a % r.b.length:Nat):Int):=fun a=>by
   unfold wrem lenZ
   rw [Int.tmod_eq_emod_of_nonneg (by omega)]
   rfl
  rw [rm,rm]
  obtain ⟨g1,g2⟩:=get (p % r.b.length) (Nat.mod_lt _ hpos)
  obtain ⟨g3,g4⟩:=get ((p * 7+3) % r.b.length) (Nat.mod_lt _ hpos)
  rw [g1,g3,hk0]
  simp only [U0]
  generalize byt r (p % r.b.length)=x at g2 ⊢
  generalize byt r ((p * 7+3) % r.b.length)=y at g4 ⊢
  have f1:wcv .i64 (x:Int)=(x:Int):=Z83 (by omega) (by omega)
  have f2:wcv .i64 (y:Int)=(y:Int):=Z83 (by omega) (by omega)
  have f3:wmul .i64 (x:Int) 131=((x * 131:Nat):Int):=by rw [Q7b]<;>omega
  have f4:wmul .i64 (y:Int) 1117=((y * 1117:Nat):Int):=by rw [Q7b]<;>omega
  have f5:wmul .i64 (p:Int) 29=((p * 29:Nat):Int):=by rw [Q7b]<;>omega
  have hq:p / r.b.length≤p:=Nat.div_le_self _ _
  have f6:wquo .i64 (p:Int) (lenZ r.b.length)=((p / r.b.length:Nat):Int):=by
   have:(p:Int).tdiv (lenZ r.b.length)=((p / r.b.length:Nat):Int):=by
    rw [Int.tdiv_eq_ediv_of_nonneg (by omega)]
    rfl
   generalize p / r.b.length=q at hq this ⊢
   rw [Z8x (by rw [this];omega) (by rw [this];omega),this]
  rw [f1,f2,f3,f4,f5,f6]
  generalize p / r.b.length=q at hq ⊢
  have f7:wmul .i64 (q:Int) 53=((q * 53:Nat):Int):=by rw [Q7b]<;>omega
  have f8:wadd .i64 ((x * 131:Nat):Int) ((y * 1117:Nat):Int)=((x * 131+y * 1117:Nat):Int):=by rw [J2]<;>omega
  have f9:wadd .i64 ((x * 131+y * 1117:Nat):Int) ((p * 29:Nat):Int)=((x * 131+y * 1117+p * 29:Nat):Int):=by rw [J2]<;>omega
  have f10:wadd .i64 ((x * 131+y * 1117+p * 29:Nat):Int) ((q * 53:Nat):Int)=((x * 131+y * 1117+p * 29+q * 53:Nat):Int):=by rw [J2]<;>omega
  rw [f7,f8,f9,f10]
  have hz:x * 131+y * 1117+p * 29+q * 53<1099511627776:=by omega
  generalize x * 131+y * 1117+p * 29+q * 53=z at hz ⊢
  have f11:wquo .i64 (z:Int) 64=((z / 64:Nat):Int):=by
   have:(z:Int).tdiv 64=((z / 64:Nat):Int):=by
    rw [Int.tdiv_eq_ediv_of_nonneg (by omega)]
    rfl
   rw [Z8x (by rw [this];omega) (by rw [this];omega),this]
  rw [f11]
  have f12:wxor .i64 (z:Int) ((z / 64:Nat):Int)=((z ^^^ (z / 64):Nat):Int):=W93 hz
  rw [f12]
  unfold Zed.yv
  have:wrem ((z ^^^ (z / 64):Nat):Int) 24=(((z ^^^ (z / 64)) % 24:Nat):Int):=by
   unfold wrem
   rw [Int.tmod_eq_emod_of_nonneg (by omega)]
   rfl
  rw [this]
def widV (m:Nat):Q2→Prop
 | ⟨_,_,ks⟩=>ks.length≤m∧widVs m ks
where widVs (m:Nat):List Q2→Prop
 | []=>True
 | v::l=>widV m v∧widVs m l
theorem X0w (m:Nat):∀ l:List Q2,widV.widVs m l↔∀ x∈l,widV m x
 | []=>by simp [widV.widVs]
 | v::l=>by simp only [widV.widVs,U8,forall_eq_or_imp,X0w m l]
theorem Z0k (m:Nat)(v:Q2):widV m v↔v.kids.length≤m∧∀ x∈v.kids,widV m x:=by
 cases v
 rw [widV,X0w]
theorem Z1x {m k:Nat}(h:m≤k):∀ v:Q2,widV m v→widV k v
 | ⟨a,b,ks⟩,hv=>by
  rw [Z0k] at hv ⊢
  refine ⟨Nat.le_trans hv.1 h,fun x hx=>?_⟩
  have:=hv.2 x hx
  exact Z1x h x this
termination_by v=>SizeOf.sizeOf v
decreasing_by
 simp_wf
 have:=List.sizeOf_lt_of_mem hx
 simp at this
 omega
theorem W12 {r r':Z7}{k x:Int}(h:Z6 r k=some (x,r'))(hp:r.p≤40000000):r'.p=wadd .i64 r.p 1:=by
 unfold Z6 at h
 split at h
 ·cases h;rfl
 split at h
 ·cases h;rfl
 split at h
 ·simp only [U12,Option.some.injEq,Prod.mk.injEq] at h
  obtain ⟨_,_,_,_,_,rfl⟩:=h
  rfl
 ·simp only [U12,Option.some.injEq,Prod.mk.injEq] at h
  obtain ⟨_,_,_,_,_,_,_,_,_,rfl⟩:=h
  rfl
theorem X7o {b:List Int}(hb:∀ x∈b,0≤x∧x≤255)(hl:b.length≤2000){E:Nat}{V:Nat→Int}(hE:E≤20000000)(hP:Zed.Pot (pk24 ⟨b,0⟩) E V):∀ (k n:Nat) (v:Q2) (p m:Nat) (P:Int),E-p≤k→k<n→m≤100+p→widV m v→1≤P→2 * P≤V p→
  Ret (Q1f n ⟨b,(p:Int)⟩ v) (fun a=>∃ p':Nat,a.2=⟨b,(p':Int)⟩∧p<p'∧p'≤E+2∧2 * (P-1)≤V p'∧widV (m+(p'-p)) a.1):=by
 intro k
 induction k with
 | zero=>
  intro n v p m P hk hn hm hv h1 h2
  have:=hP.fin p (by omega)
  omega
 | succ k ih=>
  intro n v p m P hk hn hm hv h1 h2
  obtain ⟨n,rfl⟩:∃ j,n=j+1:=⟨n-1,by omega⟩
  have hpE:p<E:=by
   rcases Nat.lt_or_ge p E with h | h
   ·exact h
   ·have:=hP.fin p h
    omega
  have hv':=(Z0k m v).1 hv
  unfold Q1f
  rw [W2 (by simp only [U4,Q5];omega)]
  simp only [U0]
  have hpk:=V4w (r:=⟨b,(p:Int)⟩) hb hl rfl (by omega:p≤30000000)
  have hpe:pk24 ⟨b,(p:Int)⟩ p=pk24 ⟨b,0⟩ p:=rfl
  rw [hpe] at hpk
  simp only at hpk
  have hr1:ROk ⟨b,((p+1:Nat):Int)⟩ 1:=⟨hb,hl,by simp only;omega,by simp only;omega⟩
  refine Ret.ctl (R:=fun _=>False) (B:=fun (s:Z7×Int×Int×List Q2)=>∃ p':Nat,s.1=⟨b,(p':Int)⟩∧p<p'∧p'≤E+2∧2 * (P-1)≤V p'∧s.2.2.2.length≤m+(p'-p)∧∀ x∈s.2.2.2,widV (m+(p'-p)) x) ?_ (fun r hr=>hr.elim) (fun s hs=>?_)
  ·rw [hpk]
   simp only [U0]
   have kidsOk:∀ q:Nat,v.kids.length≤m+q∧∀ x∈v.kids,widV (m+q) x:=fun q=>⟨by omega,fun x hx=>Z1x (by omega) x (hv'.2 x hx)⟩
   have skip:pk24 ⟨b,0⟩ p≤1→∀ (a:Int×Z7),Nx ⟨b,((p+1:Nat):Int)⟩ a.2 1→a.2.p=((p+2:Nat):Int)→a.2=⟨b,((p+2:Nat):Int)⟩∧2 * (P-1)≤V (p+2):=fun h a hn hp2=>by
    have:=hP.skip p hpE h
    refine ⟨?_,by omega⟩
    cases a with
    | mk x r=>
     cases r with
     | mk bb pp=>
      have e1:bb=b:=hn.b
      simp only at hp2
      rw [e1,hp2]
   have num2:∀ l:List Int,1≤l.length→l.length≤1000→Ret (X2 ⟨b,((p+1:Nat):Int)⟩ l) (fun a=>Nx ⟨b,((p+1:Nat):Int)⟩ a.2 1∧a.2.p=((p+2:Nat):Int)):=fun l hl1 hl2=>by
    obtain ⟨a,e,_,hn⟩:=Q8l hr1 l hl1 hl2
    refine ⟨a,e,hn,?_⟩
    unfold X2 at e
    cases hpick:Z6 ⟨b,((p+1:Nat):Int)⟩ (lenZ l.length) with
    | none=>rw [hpick] at e;cases e
    | some q=>
     rw [hpick] at e
     simp only [U0] at e
     cases hi:idx l q.1 with
     | none=>rw [hi] at e;cases e
     | some y=>
      rw [hi] at e
      simp only [U0,Option.some.injEq] at e
      subst e
      simp only
      have:=W12 hpick (by simp only;omega)
      rw [this]
      show wadd .i64 ((p+1:Nat):Int) 1=_
      rw [J2 (by omega) (by omega)]
      omega
   refine Ret.ite (fun h0=>?_) (fun h0=>?_)
   ·rw [X1] at h0
    refine Ret.bind (num2 _ (by simp) (by simp)) (fun a ha=>.some ?_)
    obtain ⟨e1,e2⟩:=skip (by omega) a ha.1 ha.2
    exact ⟨p+2,e1,by omega,by omega,e2,(kidsOk _).1,(kidsOk _).2⟩
   rw [W5] at h0
   refine Ret.ite (fun h1'=>?_) (fun h1'=>?_)
   ·rw [X1] at h1'
    refine Ret.bind (num2 _ (by simp) (by simp)) (fun a ha=>.some ?_)
    obtain ⟨e1,e2⟩:=skip (by omega) a ha.1 ha.2
    exact ⟨p+2,e1,by omega,by omega,e2,(kidsOk _).1,(kidsOk _).2⟩
   rw [W5] at h1'
   refine Ret.ite (fun h2'=>?_) (fun h2'=>?_)
   ·rw [X1] at h2'
    have hot:=hP.other p hpE (by omega) (by omega)
    rw [W2 (by simp only [U3,U4,Q5];omega)]
    refine .some ⟨p+1,rfl,by omega,by omega,by omega,by simp only [U5,U3,U4];omega,fun x hx=>?_⟩
    rcases List.mem_append.1 hx with hx | hx
    ·exact (kidsOk _).2 x hx
    ·simp only [List.mem_singleton] at hx
     rw [hx,Z0k]
     exact ⟨by simp,fun y hy=>by cases hy⟩
   rw [W5] at h2'
   refine Ret.ite (fun h3=>?_) (fun h3=>?_)
   ·rw [X1] at h3
    have hth:=hP.three p hpE (by omega)
    refine Ret.ite (fun h4=>?_) (fun h4=>?_)
    ·rw [W0] at h4
     simp only [lenZ] at h4
     obtain ⟨x,hx,hxm⟩:=Q4g (xs:=v.kids) (i:=0) (by omega) (by omega)
     rw [hx]
     simp only [U0]
     refine Ret.bind (ih n x (p+1) m (P+1) (by omega) (by omega) (by omega) (hv'.2 x hxm) (by omega) (by omega)) (fun a ha=>?_)
     obtain ⟨p1,e1,e2,e3,e4,e5⟩:=ha
     rw [e1]
     refine Ret.bind (ih n a.1 p1 (m+(p1-(p+1))) P (by omega) (by omega) (by omega) e5 h1 (by omega)) (fun c hc=>?_)
     obtain ⟨p2,g1,g2,g3,g4,g5⟩:=hc
     have hset:setI v.kids 0 c.1=some (v.kids.set 0 c.1):=by
      unfold setI
      rw [if_pos ⟨by omega,by show 0<v.kids.length;omega⟩]
      rfl
     rw [hset]
     simp only [U0]
     refine .some ⟨p2,g1,by omega,g3,g4,by simp only [List.length_set];omega,fun y hy=>?_⟩
     rcases List.mem_or_eq_of_mem_set hy with hy | rfl
     ·exact (kidsOk _).2 y hy
     ·exact Z1x (by omega) _ g5
    ·exact .some ⟨p+1,rfl,by omega,by omega,by omega,(kidsOk _).1,(kidsOk _).2⟩
   ·rw [W5] at h3
    have hot:=hP.other p hpE (by omega) (by omega)
    exact .some ⟨p+1,rfl,by omega,by omega,by omega,(kidsOk _).1,(kidsOk _).2⟩
  ·obtain ⟨p',e1,e2,e3,e4,e5,e6⟩:=hs
   exact .some ⟨p',e1,e2,e3,e4,(Z0k _ _).2 ⟨e5,e6⟩⟩
theorem X7q {r:Z7}(hr:ROk r 1)(hp:r.p≤5000){v:Q2}(hv:widV 100 v):Ret (Q1f NN r v) (fun a=>Nx r a.2 20000010):=by
 obtain ⟨b,p⟩:=r
 obtain ⟨h1,h2,h3,h4⟩:=hr
 simp only at h1 h2 h3 h4 hp
 obtain ⟨p,rfl⟩:=Int.eq_ofNat_of_zero_le h3
 have hex:∃ E V,Zed.Pot (pk24 ⟨b,0⟩) E V∧2≤V p∧E≤20000000:=by
  by_cases hb:b.length=0
  ·obtain ⟨E,V,g1,g2,g3⟩:=Zed.pot0 p
   refine ⟨E,V,?_,g2,by omega⟩
   have:pk24 ⟨b,0⟩=fun _=>0:=by
    funext q
    unfold pk24
    rw [if_pos hb]
   rw [this]
   exact g1
  ·obtain ⟨E,V,g1,g2,g3⟩:=Zed.pot (byt ⟨b,0⟩) (fun i=>by
    unfold byt
    simp only
    rw [List.getD_eq_getElem?_getD]
    cases hi:b[i]? with
    | none=>simp
    | some x=>
     have:=h1 x (U1 hi)
     simp only [Option.getD_some]
     omega) (L:=b.length) (p0:=p) (by omega) h2 (by omega)
   refine ⟨E,V,?_,g2,g3⟩
   have:pk24 ⟨b,0⟩=Zed.pkv (byt ⟨b,0⟩) b.length:=by
    funext q
    unfold pk24
    rw [if_neg hb]
   rw [this]
   exact g1
 obtain ⟨E,V,g1,g2,g3⟩:=hex
 refine Ret.mono ?_ (X7o h1 h2 g3 g1 (E-p) NN v p (100+p) 1 (Nat.le_refl _) (by simp only [NN];omega) (Nat.le_refl _) (Z1x (by omega) v hv) (by omega) (by omega))
 rintro a ⟨p',e1,e2,e3,_,_⟩
 rw [e1]
 refine ⟨rfl,?_,?_⟩
 ·show ((p:Nat):Int)≤((p':Nat):Int)
  omega
 ·show ((p':Nat):Int)≤((p:Nat):Int)+((20000010:Nat):Int)
  omega
def Par {α:Type}(x:Option α)(Q:α→Prop):Prop:=∀ a,x=some a→Q a
theorem Par.some {α:Type}{a:α}{Q:α→Prop}(h:Q a):Par (some a) Q:=fun b e=>by cases e;exact h
theorem Par.none {α:Type}{Q:α→Prop} : Par (none:Option α) Q:=fun b e=>by cases e
theorem Par.bind {α β:Type}{x:Option α}{f:α→Option β}{P:α→Prop}{Q:β→Prop}(hx:Par x P)(hf:∀ a,P a→Par (f a) Q):Par (x.bind f) Q:=fun b e=>by
 cases hx':x with
 | none=>rw [hx'] at e;cases e
 | some a=>rw [hx'] at e;exact hf a (hx a hx') b e
theorem Par.any {α β:Type}{x:Option α}{f:α→Option β}{Q:β→Prop}(hf:∀ a,Par (f a) Q):Par (x.bind f) Q:=Par.bind (P:=fun _=>True) (fun _ _=>trivial) fun a _=>hf a
theorem Par.ite {α:Type}{b:Bool}{x y:Option α}{Q:α→Prop}(h1:b=true→Par x Q)(h2:b=false→Par y Q):Par (if b=true then x else y) Q:=by
 cases b with
 | true=>exact h1 rfl
 | false=>exact h2 rfl
theorem Par.mono {α:Type}{x:Option α}{P Q:α→Prop}(h:∀ a,P a→Q a)(hx:Par x P):Par x Q:=fun a e=>h a (hx a e)
theorem Par.ctl {ρ σ τ:Type}{x:Option (Ctl ρ σ)}{g:Ctl ρ σ→Option τ}{R:ρ→Prop}{B:σ→Prop}{Q:τ→Prop}(h:Par x (CtlQ R B))(hr:∀ r,R r→Par (g (.ret r)) Q)(hb:∀ s,B s→Par (g (.brk s)) Q):Par (x.bind g) Q:=
 Par.bind h fun a ha=>by
  cases a with
  | ret r=>exact hr r ha
  | brk s=>exact hb s ha
  | go s=>exact ha.elim
theorem X01 {α σ ρ:Type}{f:Nat→α→σ→Option (Ctl ρ σ)}(I:Nat→σ→Prop)(R:ρ→Prop)(B:σ→Prop):∀ (xs:List α) (i:Nat) (s0:σ),I i s0→(∀ k x s,x∈xs→I k s→Par (f k x s) (RndQ R B (I (k+1))))→(∀ s,I (i+xs.length) s→B s)→Par (forL f i xs s0) (CtlQ R B)
 | [],i,s0,h0,_,hb=>by
  unfold forL
  exact .some (hb s0 (by simpa using h0))
 | x::xs,i,s0,h0,st,hb=>by
  unfold forL
  have h1:=st i x s0 (by simp) h0
  intro a e
  cases hf:f i x s0 with
  | none=>rw [hf] at e;cases e
  | some o=>
   rw [hf] at e
   have h2:=h1 o hf
   cases o with
   | ret r=>cases e;exact h2
   | brk s=>cases e;exact h2
   | go s=>exact X01 I R B xs (i+1) s h2 (fun k y s hy=>st k y s (by simp [hy])) (fun s hs=>hb s (by simpa [Nat.add_assoc,Nat.add_comm 1] using hs)) a e
theorem Ret.both {α:Type}{x:Option α}{P Q:α→Prop}(h:Ret x P)(k:Par x Q):Ret x (fun a=>P a∧Q a):=by
 obtain ⟨a,e,hp⟩:=h
 exact ⟨a,e,hp,k a e⟩
theorem W35 {α:Type}(xs ys:List α):Par (app xs ys) (fun z=>z=xs++ys):=fun z hz=>by
 unfold app at hz
 split at hz
 ·cases hz;rfl
 ·cases hz
theorem W5n {w:List Q3}(hw:WW w){r:Z7}{t:Q6}(ht:t∈tys w)(h:ROk r 2600):Ret (Q5u NN r w t) (fun a=>(∀ c∈a.1,Q47 w t c.pat=true)∧a.1.length≤5∧Nx r a.2 2600):=by
 unfold Q5u
 refine Ret.bind (Q8l (h.le (by omega)) [3,2,4,5,1,0] (by simp) (by simp)) (fun a ha=>?_)
 have hr1:ROk a.2 2599:=ROk.nx (c:=1) h ha.2
 have hd:0≤a.1∧a.1≤5:=by
  have:=ha.1
  simp at this
  omega
 refine Ret.ctl (Q3i (fun s=>0≤s.2.2∧s.2.2≤5∧(s.2.1.length:Int)+s.2.2=a.1∧(∀ c∈s.2.1,Q47 w t c.pat=true)∧Nx a.2 s.1 (s.2.1.length * 500)) (fun s=>s.2.2.toNat) (fun _=>False) (fun s=>s.2.1.length≤5∧(∀ c∈s.2.1,Q47 w t c.pat=true)∧Nx a.2 s.1 2500)
  ⟨hd.1,hd.2,by simp,by simp,by simpa using Nx.refl a.2⟩ (fun s hI=>?_) NN (by have:=hd;show (a.1).toNat<30000000;omega)) (fun r hr=>hr.elim) (fun s hs=>.some ⟨hs.2.1,hs.1,(ha.2.trans hs.2.2).le' (by omega)⟩)
 obtain ⟨i1,i2,i3,i4,i5⟩:=hI
 refine Ret.ite (fun h=>?_) (fun h=>?_)
 ·rw [W0] at h
  have hr2:ROk s.1 500:=ROk.nx (c:=s.2.1.length * 500) (hr1.le (by omega)) i5
  refine Ret.bind (X98 hw ht hr2) (fun b hb=>?_)
  rw [W2 (by simp only [Q5,U3,U4];omega)]
  have hws:wsub .i64 s.2.2 1=s.2.2-1:=Q2a (by omega) (by omega)
  simp only [U0]
  rw [hws]
  refine .some ⟨⟨by simp only;omega,by simp only;omega,by simp;omega,fun c hc=>?_,?_⟩,by simp only;omega⟩
  ·rcases List.mem_append.1 hc with hc | hc
   ·exact i4 c hc
   ·simp at hc;subst hc;exact hb.1
  ·have:=i5.trans hb.2
   simp only [U5,U3,U4]
   exact this.le' (by omega)
 ·exact .some ⟨by simp only;omega,i4,i5.le' (by omega)⟩
theorem X7n {code:List Int}{q:Z7}(h:((if (ilt 2000 (lenZ code.length))=true then ((Q6x code 2000).bind fun x8=>some (Ctl.brk (ρ:=Z7) x8)) else some (Ctl.brk code)))=some (.ret q)):False:=by
 split at h
 ·cases ht:Q6x code 2000 with
  | none=>rw [ht] at h;cases h
  | some x=>rw [ht] at h;cases h
 ·cases h
theorem W2o {w:List Q3}(hw:WW w):∀ (n:Nat) (r:Z7) (t:Q6) (depth:Int),t∈tys w→Par (Q2j n r w (tabP w) t depth) (fun a=>widV 3 a.1):=by
 intro n
 induction n with
 | zero=>intro r t depth _;exact .none
 | succ n ih=>
  intro r t depth ht
  have hT:=hw.ty t ht
  unfold Q2j
  refine Par.ite (fun _=>?_) (fun _=>?_)
  ·exact Par.any fun a=>.some ((Z0k _ _).2 ⟨by simp,fun x hx=>by cases hx⟩)
  ·rw [hT.c1]
   simp only [U0]
   refine Par.ctl (X01 (fun _ (s:List Int)=>∀ x∈s,x∈W1 w t) (fun _=>False) (fun s=>∀ x∈s,x∈W1 w t) (W1 w t) 0 _ (by simp) (fun k x s hx hI=>?_) (fun s hs=>hs)) (fun r hr=>hr.elim) (fun s hs=>?_)
   ·have add:Par ((app s [x]).bind fun x310=>some (Ctl.brk (ρ:=Ctl (Q2×Z7) (List Int)) x310)) (CtlQ (fun _=>False) (fun s'=>∀ x∈s',x∈W1 w t)):=by
     refine Par.bind (W35 _ _) (fun z hz=>.some ?_)
     subst hz
     intro y hy
     rcases List.mem_append.1 hy with hy | hy
     ·exact hI y hy
     ·simp only [List.mem_singleton] at hy;rw [hy];exact hx
    have pass:Par (some (Ctl.brk (ρ:=Ctl (Q2×Z7) (List Int)) s)) (CtlQ (fun _=>False) (fun s'=>∀ x∈s',x∈W1 w t)):=.some hI
    refine Par.ctl (R:=fun _=>False) (B:=fun (s':List Int)=>∀ x∈s',x∈W1 w t) ?_ (fun r hr=>hr.elim) (fun s' hs'=>.some hs')
    refine Par.any fun a=>Par.ite (fun _=>Par.ite (fun _=>add) (fun _=>Par.any fun b=>Par.ite (fun _=>add) (fun _=>pass))) (fun _=>pass)
   ·refine Par.any fun a=>?_
    refine Par.bind (P:=fun x=>x∈W1 w t) (fun x hx=>?_) (fun x hx=>?_)
    ·unfold idx at hx
     split at hx
     ·exact hs x (U1 hx)
     ·cases hx
    ·rw [hT.a1 x hx]
     simp only [U0]
     have hal:=hT.al x hx
     refine Par.ctl (X01 (fun k (u:Z7×List Q2)=>u.2.length≤k∧∀ y∈u.2,widV 3 y) (fun _=>False) (fun u=>u.2.length≤3∧∀ y∈u.2,widV 3 y) (Q0z w t x) 0 _ (by simp) (fun k y u hy hI=>?_) (fun u hu=>⟨by have:=hu.1;omega,hu.2⟩)) (fun r hr=>hr.elim) (fun u hu=>.some ((Z0k _ _).2 hu))
     refine Par.bind (ih u.1 y _ (hT.at_ x hx y hy)) (fun b hb=>?_)
     refine Par.bind (W35 _ _) (fun z hz=>.some ?_)
     subst hz
     refine ⟨by simp only [U5,U3,U4];have:=hI.1;omega,fun q hq=>?_⟩
     rcases List.mem_append.1 hq with hq | hq
     ·exact hI.2 q hq
     ·simp only [List.mem_singleton] at hq;rw [hq];exact hb
theorem X74 {r:Z7}(h:ROk r 1000):Ret (Q52 NN r) (fun a=>a.1∈Q1q∧a.2.1∈tys a.1∧Nx r a.2.2.2 500∧widV 3 a.2.2.1∧depP a.1 a.2.1≠0):=by
 unfold Q52
 refine Ret.bind (W4i (h.le (by omega))) (fun a ha=>?_)
 obtain ⟨hw,hn1⟩:=ha
 have hW:=ww hw
 rw [hW.tab]
 simp only [U0]
 have hr1:ROk a.2 999:=ROk.nx (c:=1) h hn1
 have hpos:=hW.pos
 have hle:=hW.le
 refine Ret.bind (Q42 (hr1.le (by omega)) (k:=lenZ a.1.length) (by simp only [lenZ];omega) (by simp only [lenZ];omega)) (fun b hb=>?_)
 have hr2:ROk b.2 998:=ROk.nx (c:=1) hr1 hb.2.2
 refine Ret.bind (Q8l (hr2.le (by omega)) [0,0,1,2] (by simp) (by simp)) (fun c hc=>?_)
 have hr3:ROk c.2 997:=ROk.nx (c:=1) hr2 hc.2
 have hty:(Q6.mk b.1 c.1)∈tys a.1:=by
  obtain ⟨i,hi⟩:=Int.eq_ofNat_of_zero_le hb.1
  have hil:i<a.1.length:=by have:=hb.2.1;simp only [lenZ] at this;omega
  have hci:∃ j:Nat,j<4∧c.1=(j:Int):=by
   have:=hc.1
   simp at this
   rcases this with h | h | h
   ·exact ⟨0,by omega,h⟩
   ·exact ⟨1,by omega,h⟩
   ·exact ⟨2,by omega,h⟩
  obtain ⟨j,hj,hcj⟩:=hci
  unfold tys
  refine List.mem_cons_of_mem _ (List.mem_flatMap.2 ⟨i,List.mem_range.2 hil,U10.2 ⟨j,List.mem_range.2 hj,?_⟩⟩)
  rw [hi,hcj]
  rfl
 have htI:tI∈tys a.1:=by unfold tys;exact List.mem_cons_self
 refine Ret.ctl (R:=fun _=>False) (B:=fun s=>(Q6.mk s.1 s.2)∈tys a.1∧depP a.1 (Q6.mk s.1 s.2)≠0) ?_ (fun r hr=>hr.elim) (fun s hs=>?_)
 ·rw [(hW.ty _ hty).d1]
  simp only [U0]
  refine Ret.ite (fun h=>?_) (fun h=>?_)
  ·refine .some ⟨htI,?_⟩
   have:=(hW.ty tI htI).ti rfl
   show depP a.1 tI≠0
   omega
  ·rw [W5] at h
   exact .some ⟨hty,h⟩
 ·refine Ret.bind (Q8l (hr3.le (by omega)) [3,2,4,1] (by simp) (by simp)) (fun d hd=>?_)
  have hr4:ROk d.2 996:=ROk.nx (c:=1) hr3 hd.2
  have hd4:1≤d.1∧d.1≤4:=by
   have:=hd.1
   simp at this
   omega
  have hdep:=(hW.ty _ hs.1).d4
  refine Ret.bind ((W79 hW 4 NN d.2 _ d.1 hs.1 hs.2 (by omega) (by omega) (by omega) (by omega) (by decide) (hr4.le (by decide))).both (W2o hW NN d.2 _ d.1 hs.1)) (fun e he=>?_)
  refine .some ⟨hw,hs.1,?_,he.2,hs.2⟩
  have:=(((hn1.trans hb.2.2).trans hc.2).trans hd.2).trans he.1
  exact this.le' (by decide)
theorem X73 {r:Z7}(h:ROk r 5000):Ret (Q51 NN r) (fun a=>a.1∈Q1q∧a.2.1∈tys a.1∧(∀ c∈a.2.2.1,Q47 a.1 a.2.1 c.pat=true)∧a.2.2.1.length≤5∧Nx r a.2.2.2.2 4000∧widV 3 a.2.2.2.1∧depP a.1 a.2.1≠0):=by
 unfold Q51
 refine Ret.bind (X74 (h.le (by omega))) (fun a ha=>?_)
 obtain ⟨h1,h2,h3,h4,h5⟩:=ha
 refine Ret.bind (W5n (ww h1) h2 (ROk.nx (c:=500) (h.le (by omega)) h3)) (fun b hb=>?_)
 exact .some ⟨h1,h2,hb.1,hb.2.1,(h3.trans hb.2.2).le' (by omega),h4,h5⟩
theorem W5g (code:List Int)(hb:∀ x∈code,0≤x∧x≤255):Ret (Q2z code) (fun r=>ROk r 1000000∧r.p=0):=by
 obtain ⟨r,e,hr⟩:=W9o code hb
 refine ⟨r,e,hr,?_⟩
 unfold Q2z at e
 simp only [U12] at e
 obtain ⟨o,h1,h2⟩:=e
 cases o with
 | ret q=>exact (X7n h1).elim
 | go s=>cases h2
 | brk s=>simp only [Option.some.injEq] at h2;rw [←h2]
theorem X94 (code:List Int)(hb:∀ x∈code,0≤x∧x≤255):Ret (Q2l NN code) (fun a=>a.1∈Q1q∧a.2.1∈tys a.1):=by
 unfold Q2l
 refine Ret.bind (W5g code hb) (fun r hr=>?_)
 obtain ⟨hr,hp0⟩:=hr
 refine Ret.bind (X73 (hr.le (by omega))) (fun a ha=>?_)
 obtain ⟨h1,h2,h3,h4,h5,h6,_⟩:=ha
 have hr1:ROk a.2.2.2.2 900000:=ROk.nx (c:=4000) (hr.le (by omega)) h5
 refine Ret.bind (X7p (hr1.le (by omega)) a.2.2.1 (by omega) (fun c hc=>by have:=X72 (ww h1) h2 (h3 c hc);omega)) (fun b hb=>?_)
 have hr2:ROk b.2 800000:=ROk.nx (c:=10) (hr1.le (by omega)) hb.2
 refine Ret.bind (Q8l (hr2.le (by omega)) [0,1,2,0,3] (by simp) (by simp)) (fun c hc=>?_)
 have hr3:ROk c.2 700000:=ROk.nx (c:=1) (hr2.le (by omega)) hc.2
 have hp:c.2.p≤5000:=by
  have e1:=h5.ge
  have e2:=hb.2.ge
  have e3:=hc.2.ge
  omega
 refine Ret.bind (X7q (hr3.le (by omega)) hp (Z1x (by omega) _ h6)) (fun d _=>.some ⟨h1,h2⟩)
theorem Z8h (es:List Q7w)(u:Q2):Q4m es u=some (match es.find? (fun e=>X8 ⟨e.ctor,e.n,e.m,zT⟩ u) with | some e=>e.to | none=>-1):=by
 suffices hs:Ret (Q4m es u) (fun r=>r=(match es.find? (fun e=>X8 ⟨e.ctor,e.n,e.m,zT⟩ u) with | some e=>e.to | none=>-1)) by
  obtain ⟨_,e,rfl⟩:=hs
  exact e
 unfold Q4m
 refine Ret.ctl (Z4 es (fun k _=>es.find? (fun e=>X8 ⟨e.ctor,e.n,e.m,zT⟩ u)=(es.drop k).find? (fun e=>X8 ⟨e.ctor,e.n,e.m,zT⟩ u)) (fun r=>∃ e:Q7w,r=e.to∧es.find? (fun e=>X8 ⟨e.ctor,e.n,e.m,zT⟩ u)=some e) (fun _=>es.find? (fun e=>X8 ⟨e.ctor,e.n,e.m,zT⟩ u)=none) (by simp) (fun k x s hx hI=>?_) (fun s hI=>by rw [hI,List.drop_length];rfl)) (fun r hr=>.some ?_) (fun s hs=>.some (by rw [hs]))
 ·rw [Z6k hx] at hI
  by_cases h1:x.ctor=u.ctor
  ·rw [if_pos (by rw [X1];exact h1)]
   by_cases h2:u.ctor = -1
   ·rw [if_neg (by rw [Bool.not_eq_true,Bool.not_eq_false',X1];exact h2)]
    by_cases h3:x.n≤u.n
    ·rw [if_pos (by rw [Q09];exact h3)]
     by_cases h4:u.n≤x.m
     ·rw [if_pos (by rw [Q09];exact h4)]
      rw [if_pos (by simp [X8,h1,h3,h4])] at hI
      exact .some ⟨x,rfl,hI⟩
     ·rw [if_neg (by rw [Q09];exact h4)]
      rw [if_neg (by simp [X8,h1,h2,h4])] at hI
      exact .some hI
    ·rw [if_neg (by rw [Q09];exact h3)]
     rw [if_neg (by simp [X8,h1,h2,h3])] at hI
     exact .some hI
   ·rw [if_pos (by rw [Bool.not_eq_true',W5];exact h2)]
    rw [if_pos (by simp [X8,h1,h2])] at hI
    exact .some ⟨x,rfl,hI⟩
  ·rw [if_neg (by rw [X1];exact h1)]
   rw [if_neg (by simp [X8,h1])] at hI
   exact .some hI
 ·obtain ⟨b,rfl,h2⟩:=hr
  rw [h2]
theorem W1g {lst:List Z1}{v:Q2}(hv:Q9o 10 v){ns:List Q05}{t:X0}{a:Int}{bs:List V5}{k:Nat}(hl:ns.length≤300)(hd:Q6v 300 t)(ho:opT 300 t)(hst:Q34 ns 300 ((ns.length:Int)-1) t)(h:runT 300 t lst v=some (a,bs,k)):Q6p NN lst ns v=some (a,bs,(k:Int)):=by
 unfold Q6p
 rw [Q1h,Q2a (by omega) (by omega)]
 generalize hf:(fun (s:Int×Int)=>_:Int×Int→Option (Ctl (Int×List V5×Int) (Int×Int)))=f
 have key:∀ (d n:Nat) (t:X0) (i:Int) (c k:Nat),Q34 ns d i t→Q6v d t→opT d t→runT d t lst v=some (a,bs,k)→d+1≤n→c+d≤300→(whileL f n (i,(c:Int))=some (.ret (a,bs,((c+k:Nat):Int))))∨(a = -1∧bs=[]∧∃ i',whileL f n (i,(c:Int))=some (.brk (i',((c+k:Nat):Int)))):=by
  intro d
  induction d with
  | zero=>intro n t i c k h;exact h.elim
  | succ d ih=>
   intro n t i c k hs hd ho h hn hc
   obtain ⟨n,rfl⟩:∃ j,n=j+1:=⟨n-1,by omega⟩
   obtain ⟨h0,nd,g1,g2,g3,g4,g5,g6,g7⟩:=hs
   have gi:=Z3i h0 g1
   obtain ⟨⟨hd1,hd2,hd3,hd4,hd5⟩,hd6⟩:=hd
   obtain ⟨ho1,ho2⟩:=ho
   have e1:wadd .i64 (c:Int) 1=((c+1:Nat):Int):=by rw [J2 (by omega) (by omega)];omega
   rw [runT] at h
   split at h
   ·rename_i h2
    rw [U12] at h
    obtain ⟨u,hu,h⟩:=h
    have hfe:=Z8q u g6
    split at h
    ·rename_i hnone
     rw [hnone] at hfe
     simp only [Option.some.injEq,Prod.mk.injEq] at h hfe
     obtain ⟨rfl,rfl,rfl⟩:=h
     have hgo:f (i,(c:Int))=some (.go (-1,((c+1:Nat):Int))):=by
      subst hf
      simp only
      rw [if_pos (by rw [Q09];exact h0),gi]
      simp only [U0,g2,g3,g4,g5]
      rw [if_pos (by rw [Bool.not_eq_true',W5];omega),if_pos (by rw [X1];omega),Z19 hu]
      simp only [U0]
      rw [Z8h,hfe]
      simp only [U0]
      rw [e1]
     obtain ⟨n,rfl⟩:∃ j,n=j+1:=⟨n-1,by omega⟩
     rw [Q9s hgo]
     refine .inr ⟨rfl,rfl,-1,Z82 ?_⟩
     subst hf
     simp only
     rw [if_neg (by rw [Q09];omega)]
    ·rename_i b hsome
     rw [hsome] at hfe
     simp only at hfe
     obtain ⟨e,hfe,hto⟩:=hfe
     rw [U11] at h
     obtain ⟨r,hr,h⟩:=h
     simp only [Prod.mk.injEq] at h
     obtain ⟨rfl,rfl,rfl⟩:=h
     have hgo:f (i,(c:Int))=some (.go (e.to,((c+1:Nat):Int))):=by
      subst hf
      simp only
      rw [if_pos (by rw [Q09];exact h0),gi]
      simp only [U0,g2,g3,g4,g5]
      rw [if_pos (by rw [Bool.not_eq_true',W5];omega),if_pos (by rw [X1];omega),Z19 hu]
      simp only [U0]
      rw [Z8h,hfe]
      simp only [U0]
      rw [e1]
     have hbm:b.tree∈Q64 t:=List.mem_append_left _ (List.mem_map_of_mem (List.mem_of_find?_eq_some hsome))
     rw [Q9s hgo,show c+(r.2.2+1)=c+1+r.2.2 by omega]
     exact ih n b.tree e.to (c+1) r.2.2 hto (hd6 _ hbm) (ho2 _ hbm) hr (by omega) (by omega)
   ·rename_i h2
    split at h
    ·rename_i h1
     rw [U12] at h
     obtain ⟨cl,hcl,h⟩:=h
     rw [U12] at h
     obtain ⟨l,hl,h⟩:=h
     split at h
     ·rename_i hg
      simp only [Option.some.injEq,Prod.mk.injEq] at h
      obtain ⟨rfl,rfl,rfl⟩:=h
      refine .inl (Z0l ?_)
      subst hf
      simp only
      rw [if_pos (by rw [Q09];exact h0),gi]
      simp only [U0,g2,g3,g4,g5]
      rw [if_pos (by rw [Bool.not_eq_true',W5];omega),if_neg (by rw [X1];omega),Z45 hv hd1 hl]
      simp only [U0]
      rw [hcl]
      simp only [U0]
      rw [Z43]
      simp only [U0]
      rw [if_pos hg]
      rfl
     ·rename_i hg
      split at h
      ·rename_i el rest hel
       have hgo:f (i,(c:Int))=some (.go (nd.else_,(c:Int))):=by
        subst hf
        simp only
        rw [if_pos (by rw [Q09];exact h0),gi]
        simp only [U0,g2,g3,g4,g5]
        rw [if_pos (by rw [Bool.not_eq_true',W5];omega),if_neg (by rw [X1];omega),Z45 hv hd1 hl]
        simp only [U0]
        rw [hcl]
        simp only [U0]
        rw [Z43]
        simp only [U0]
        rw [if_neg hg]
       have hem:el∈Q64 t:=List.mem_append_right _ (by rw [hel];simp)
       rw [hel] at g7
       rw [Q9s hgo]
       exact ih n el nd.else_ c k g7 (hd6 _ hem) (ho2 _ hem) h (by omega) (by omega)
      ·cases h
    ·rename_i h1
     simp only [Option.some.injEq,Prod.mk.injEq] at h
     obtain ⟨rfl,rfl,rfl⟩:=h
     refine .inr ⟨rfl,rfl,i,Z82 ?_⟩
     subst hf
     simp only
     rw [if_pos (by rw [Q09];exact h0),gi]
     simp only [U0,g2,g3,g4,g5]
     rw [if_neg (by rw [Bool.not_eq_true',W5];omega)]
     rfl
 rcases key 300 NN t _ 0 k hst hd ho h (by decide) (by omega) with h | ⟨rfl,rfl,t',h⟩
 ·rw [show (0:Int)=((0:Nat):Int) from rfl,h]
  simp
 ·rw [show (0:Int)=((0:Nat):Int) from rfl,h]
  simp
theorem X9b {w:List Q3}(hww:w∈Q1q){t:Q6}(ht:t∈tys w)(l:List Z1)(pick:Int)(v:Q2) :
  ∃ r,Q41 NN w t l pick v=some r∧Q4c NN w t l pick v=some r∧W06 w t l v r:=by
 have hw:=ww hww
 obtain ⟨tr,ok,e1,e2,h1,h2,h3⟩:=(Z3u hww ht l pick).eq
 unfold Q41 Q4c
 rw [e1,e2]
 simp only [U0]
 cases ok with
 | false=>exact ⟨_,rfl,rfl,.inl rfl⟩
 | true=>
  simp only [Bool.not_true,U2,if_false]
  rw [X1y hw ht v,X16 hw ht v]
  simp only [U0]
  cases hv:Z1z w t v with
  | false=>exact ⟨_,rfl,rfl,.inl rfl⟩
  | true=>
   simp only [Bool.not_true,U2,if_false]
   have hg:=Z5a hv
   have hdv:=Z8l hw 10 t v ht hg
   obtain ⟨k,hk⟩:=X11 hww ht e1 hg
   have hop:=W4r _ _ _ _ ((Z3u hww ht l pick).tr tr e1)
   obtain ⟨ns,a1,a2,a3,a4⟩:=W0r (d:=299) h2
   have a5:addN 300 [] tr=(ns,(ns.length:Int)-1):=a1
   have a6:ns.length≤300:=Nat.le_trans a3 h3
   rw [W5q hdv h2 hk,W1h 300 NN [] tr h2 (by decide) (by simp only [U4];omega),a5]
   simp only [U0]
   rw [W1g hdv a6 h2 hop a4 hk]
   have hc:=Z4m hww ht e1
   simp only [canC,Bool.and_eq_true] at hc
   exact ⟨_,rfl,rfl,.inr ⟨k,hc.1.1,hv,rfl⟩⟩
theorem Z9g (code:List Int)(hb:∀ x∈code,0≤x∧x≤255):Q1x NN code=some true:=by
 suffices hr:Ret (Q1x NN code) (fun r=>r=true) by
  obtain ⟨_,e,rfl⟩:=hr
  exact e
 unfold Q1x Q3n
 refine Ret.ite (fun _=>.some rfl) (fun _=>?_)
 refine Ret.bind (P:=fun a=>a.1∈Q1q∧a.2.1∈tys a.1) (Ret.bind (X94 code hb) (fun a ha=>.some ha)) (fun a ha=>?_)
 obtain ⟨w,t,l,pick,v⟩:=a
 obtain ⟨hww,ht⟩:=ha
 simp only at hww ht ⊢
 obtain ⟨r,e1,e2,hr⟩:=X9b hww ht l pick v
 have hdb:=X76 hww ht hr
 have r1:ieq r.1 r.1=true:=by simp [ieq]
 have r2:ieq r.2.2 r.2.2=true:=by simp [ieq]
 unfold Q62
 rw [e1,e2]
 simp only [U0,r1,r2,if_true]
 rw [X1r hdb]
 simp only [U0,if_true]
 exact .some rfl
end Go.Proofs.YtfhpjeogjcfkaaaGreat
