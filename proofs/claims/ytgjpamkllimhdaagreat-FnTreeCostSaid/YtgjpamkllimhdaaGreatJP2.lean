import Derived.Test.YtgjpamkllimhdaaGreatJP1
set_option linter.unusedSimpArgs false
set_option linter.unusedVariables false
namespace Go.Proofs.YtgjpamkllimhdaaGreat
open Go Go.RowKit
def Q4d:Nat→List Q3→List (Nat×Q0)
 | _,[]=>[]
 | i,c::cs=>(Q7 10 c.pat).map (fun q=>(i,q))++Q4d (i+1) cs
theorem Z93:∀ (cs:List Q3) (i0:Nat) (D R:List (Nat×Q0)) (x:Nat×Q0),Q4d i0 cs=D++x::R→
  ∃ (A B:List Q3) (c:Q3) (A' B':List Q0),cs=A++c::B∧x.1=i0+A.length∧Q7 10 c.pat=A'++x.2::B'∧D=Q4d i0 A++A'.map (fun q=>(i0+A.length,q))
 | [],i0,D,R,x,h=>by simp [Q4d] at h
 | c::cs,i0,D,R,x,h=>by
  rw [Q4d] at h
  have rest:∀ D',D=(Q7 10 c.pat).map (fun q=>(i0,q))++D'→Q4d (i0+1) cs=D'++x::R→∃ (A B:List Q3) (c':Q3) (A' B':List Q0),c::cs=A++c'::B∧x.1=i0+A.length∧Q7 10 c'.pat=A'++x.2::B'∧D=Q4d i0 A++A'.map (fun q=>(i0+A.length,q)):=fun D' hD hr=>by
   obtain ⟨A,B,c',A',B',e1,e2,e3,e4⟩:=Z93 cs (i0+1) D' R x hr
   refine ⟨c::A,B,c',A',B',by rw [e1];rfl,by rw [e2,U3];omega,e3,?_⟩
   rw [hD,e4,Q4d,U3,List.append_assoc,show i0+(A.length+1)=i0+1+A.length by omega]
  rcases List.append_eq_append_iff.1 h with ⟨a',h1,h2⟩ | ⟨c',h1,h2⟩
  ·exact rest a' h1 h2
  ·cases c' with
   | nil=>exact rest [] (by simpa using h1.symm) (by simpa using h2.symm)
   | cons y c''=>
    simp only [List.cons_append,List.cons.injEq] at h2
    obtain ⟨rfl,h2⟩:=h2
    obtain ⟨l1,l2,e1,e2,e3⟩:=List.map_eq_append_iff.1 h1
    cases l2 with
    | nil=>cases e3
    | cons q l2=>
     simp only [List.map_cons,List.cons.injEq] at e3
     obtain ⟨e3,_⟩:=e3
     refine ⟨[],cs,c,l1,l2,rfl,by rw [←e3];rfl,by rw [e1,←e3],by rw [←e2];simp [Q4d]⟩
theorem X2c {i0:Nat} : ∀ {cs:List Q3} {j:Nat} {c:Q3} {q:Q0},cs[j]?=some c→q∈Q7 10 c.pat→(i0+j,q)∈Q4d i0 cs
 | [],_,_,_,h,_=>by simp at h
 | c0::cs,0,c,q,h,hq=>by
  simp only [List.getElem?_cons_zero,Option.some.injEq] at h
  subst h
  exact List.mem_append_left _ (U10.2 ⟨q,hq,rfl⟩)
 | c0::cs,j+1,c,q,h,hq=>by
  have:=X2c (i0:=i0+1) (cs:=cs) (j:=j) (c:=c) (q:=q) (by simpa using h) hq
  rw [Q4d]
  refine List.mem_append_right _ ?_
  rwa [show i0+1+j=i0+(j+1) by omega] at this
inductive SubO (v:Q1) (dead:Nat→Prop):List (Nat×Q0)→List (Nat×Q0)→Prop
 | nil:SubO v dead [] []
 | keep {x:Nat×Q0} {a b:List (Nat×Q0)} : SubO v dead a b→SubO v dead (x::a) (x::b)
 | del {x:Nat×Q0} {a b:List (Nat×Q0)} : Z6 12 x.2 v=none∨dead x.1→SubO v dead a b→SubO v dead a (x::b)
theorem SubO.refl {v:Q1}{dead:Nat→Prop} : ∀ a,SubO v dead a a
 | []=>.nil
 | _::a=>.keep (SubO.refl a)
theorem SubO.up {v:Q1}{dead dead':Nat→Prop}(h:∀ i,dead i→dead' i){a b:List (Nat×Q0)}(k:SubO v dead a b):SubO v dead' a b:=by
 induction k with
 | nil=>exact .nil
 | keep _ ih=>exact .keep ih
 | del h1 _ ih=>exact .del (h1.elim .inl fun x=>.inr (h _ x)) ih
theorem SubO.filter {v:Q1}{dead:Nat→Prop}{α:Type}(f:α→Nat×Q0)(p:α→Bool){b:List (Nat×Q0)} : ∀ (L:List α),SubO v dead (L.map f) b→(∀ x∈L,p x=false→Z6 12 (f x).2 v=none∨dead (f x).1)→SubO v dead ((L.filter p).map f) b:=by
 intro L h
 generalize hx:L.map f=a at h
 induction h generalizing L with
 | nil=>
  intro _
  have:L=[]:=by simpa using hx
  subst this
  exact .nil
 | keep _ ih=>
  intro hd
  cases L with
  | nil=>cases hx
  | cons y L=>
   simp only [List.map_cons,List.cons.injEq] at hx
   obtain ⟨h1,h2⟩:=hx
   have ih':=ih L h2 fun x hx=>hd x (by simp [hx])
   rw [List.filter_cons]
   cases hp:p y with
   | true=>
    simp only [if_true,List.map_cons,h1]
    exact .keep ih'
   | false=>
    simp only [U2,if_false]
    rw [←h1]
    exact .del (hd y (by simp) hp) ih'
 | del h1 _ ih=>
  intro hd
  exact .del h1 (ih L hx hd)
theorem SubO.head {v:Q1}{dead:Nat→Prop}{x:Nat×Q0}{a b:List (Nat×Q0)}(h:SubO v dead (x::a) b):∃ D R,b=D++x::R∧∀ y∈D,Z6 12 y.2 v=none∨dead y.1:=by
 generalize hx:x::a=c at h
 induction h with
 | nil=>cases hx
 | keep h _=>
  cases hx
  exact ⟨[],_,rfl,by simp⟩
 | del h1 _ ih=>
  obtain ⟨D,R,e1,e2⟩:=ih hx
  refine ⟨_::D,R,by rw [e1];rfl,fun y hy=>?_⟩
  rcases U8.1 hy with rfl | hy
  ·exact h1
  ·exact e2 y hy
def V6s (lst:List Q3)(v:Q1)(dead:Nat→Prop):Prop:=∀ (i:Nat) (c:Q3),dead i→lst[i]?=some c→∀ b,Z6 10 c.pat v=some b→Q08 c.guard b=false
structure Org (v:Q1) (cols:List Z5) (us:List Q1) (r:Grow) (x:Nat×Q0):Prop where
 cl:r.clause=(x.1:Int)
 ts:DelT v (Q4c r.pats cols) (X7 12 x.2 [])
 mt:(rowB r v us=none∧rowL r us=none∧Z6 12 x.2 v=none)∨∃ y z,rowB r v us=some y∧(rowL r us).isSome=true∧Z6 12 x.2 v=some z∧y.Perm z
theorem V2h {w:List Q4}(hww:w∈Q0s){t:Q6}(ht:t∈tys w){lst:List Q3}(hP:∀ c∈lst,Q2i w t c.pat=true){v:Q1}{e:Nat}(hv:Q30 w e t v){dead:Nat→Prop}(hD:V6s lst v dead){x:Nat×Q0}{os:List (Nat×Q0)}(hS:SubO v dead (x::os) (Q4d 0 lst))(hx:¬dead x.1) :
  ∃ (A B:List Q3) (c:Q3) (A' B':List Q0),lst=A++c::B∧x.1=A.length∧Q7 10 c.pat=A'++x.2::B'∧(∀ c∈A,∀ b,Z6 10 c.pat v=some b→Q08 c.guard b=false)∧∀ q∈A',Z6 12 q v=none:=by
 obtain ⟨D,R,e1,e2⟩:=hS.head
 obtain ⟨A,B,c,A',B',h1,h2,h3,h4⟩:=Z93 lst 0 D R x e1
 rw [Nat.zero_add] at h2 h4
 refine ⟨A,B,c,A',B',h1,h2,h3,fun c' hc'=>?_,fun q hq=>?_⟩
 ·obtain ⟨j,hj⟩:=List.mem_iff_getElem?.1 hc'
  have hjl:=(List.getElem?_eq_some_iff.1 hj).1
  have hlj:lst[j]?=some c':=by rw [h1,List.getElem?_append_left hjl];exact hj
  by_cases hdj:dead j
  ·exact hD j c' hdj hlj
  ·intro b hb
   exfalso
   have hv':=hP c' (by rw [h1];simp [hc'])
   obtain ⟨g1,_,_⟩:=Q5b hv'
   have hsf:=Z0b (ww hww) (ws hww) 10 e t c'.pat v ht g1 hv
   rw [hb] at hsf
   obtain ⟨q,hq,hqm⟩:=List.exists_of_findSome?_eq_some hsf
   have hin:(j,q)∈D:=by
    rw [h4]
    have:=X2c (i0:=0) hj hq
    rw [Nat.zero_add] at this
    exact List.mem_append_left _ this
   have q10:=Q3f 10 t c'.pat q g1 hq
   have m12:Z6 12 q v=Z6 10 q v:=by rw [(Q4y 11 t q (Q0u 10 t q q10)).2.2.2 v,(Q4y 10 t q q10).2.2.2 v]
   rcases e2 (j,q) hin with h | h
   ·simp only at h
    rw [m12,hqm] at h
    cases h
   ·exact hdj h
 ·rcases e2 (A.length,q) (by rw [h4];exact List.mem_append_right _ (U10.2 ⟨q,hq,rfl⟩)) with h | h
  ·exact h
  ·exact absurd (by rw [h2];exact h) hx
theorem W2h {w:List Q4}(hww:w∈Q0s){t0:Q6}(ht0:t0∈tys w){lst:List Q3}(hP:∀ c∈lst,Q2i w t0 c.pat=true){v:Q1}{e0:Nat}(hv0:Q30 w e0 t0 v):∀ (d:Nat) (t:W3) (L:List (Grow×(Nat×Q0))) (cols:List Z5) (us:List Q1) (dead:Nat→Prop),
  Q9o w lst 0 d t (L.map (·.1)) cols→W4p w lst cols v (L.map (·.1))→ColC w cols d→W4q w v cols us→(cols.map (·.path)).Pairwise Z1s→SubO v dead (L.map (·.2)) (Q4d 0 lst)→(∀ x∈L,¬dead x.2.1∧Org v cols us x.1 x.2)→V6s lst v dead→
  ∃ (a:Int) (bs:List W9) (k:Nat) (sw:List (List Int)),runT d t lst v=some (a,bs,k)∧sw.length=k∧sw.Nodup∧(∀ p∈sw,∃ c∈cols,c.path <+: p)∧∀ p∈sw,V3e w t0 lst v p:=by
 have hw:=ww hww
 have hS:=ws hww
 intro d
 induction d with
 | zero=>intro t L cols us dead h;exact h.elim
 | succ d ih=>
  intro t L cols us dead h hR hC hV hA hO hL hD
  have hCd:ColC w cols d:=⟨hC.ty,fun c hc=>by have:=hC.path c hc;omega,by have:=hC.len;omega⟩
  cases L with
  | nil=>
   simp only [List.map_nil,Q9o] at h
   subst h
   exact ⟨-1,[],0,[],by simp [runT,zT],rfl,List.nodup_nil,by simp,by simp⟩
  | cons y0 rest=>
   obtain ⟨r0,x0⟩:=y0
   simp only [List.map_cons,Q9o] at h
   simp only [List.map_cons] at hR hO
   obtain ⟨h0,rb,hrb⟩:=hR r0 (by simp)
   obtain ⟨hnd,hOrg⟩:=hL (r0,x0) (by simp)
   simp only at hnd hOrg
   obtain ⟨A,B,c0,A',B',f1,f2,f3,f4,f5⟩:=V2h hww ht0 hP hv0 hD hO hnd
   have hlc:lst[x0.1]?=some c0:=by rw [f1,f2,List.getElem?_append_right (Nat.le_refl _),Nat.sub_self];rfl
   cases hp:Z11 w (r0::rest.map (·.1)) cols 0 with
   | none=>
    rw [hp] at h
    simp only at h
    obtain ⟨h1,h2,h3,h4,h5,cl,h6,h7⟩:=h
    have hall:∀ q∈r0.pats,q=anyP:=fun q hq=>by
     obtain ⟨j,hj⟩:=List.mem_iff_getElem?.1 hq
     have hjl:=(List.getElem?_eq_some_iff.1 hj).1
     have hlen:=h0.len
     have hany:Q8w (r0::rest.map (·.1)) j=true:=Q7x.1 hp j (by omega)
     have this:(X6 r0 j).op=1:=of_decide_eq_true hany
     have hq2:X6 r0 j=q:=by unfold X6;rw [hj];rfl
     have hc:cols[j]?=some (cols[j]'(by omega)):=by simp
     have hpc:=(h0.at hc).2
     rw [hq2] at this hpc
     exact X0z (Q06 hpc.1) this
    have hrl:rowL r0 us=some []:=Z2z hall (by rw [h0.len,hV.len])
    have hrB:rowB r0 v us=some rb:=by unfold rowB;rw [hrb,hrl];simp
    have hbo:=Z0z h0 hrB
    obtain ⟨bn,br,_⟩:=h0.binds
    obtain ⟨l',e1,e2⟩:=Z49 (Q5z br).symm hrb
    have hl':l'=Z0c rb:=by
     have hs:l'.Pairwise (fun x y=>x.var<y.var):=by
      have h1:=Q9q bn
      have h2:=Q2h e1
      have h3:(l'.map (·.var)).Pairwise (· < ·):=by rw [h2,List.pairwise_map];exact h1
      exact List.pairwise_map.1 h3
     exact Z0u _ _ hs (Q87 hbo.nd) (e2.symm.trans (Q5c hbo.rg).symm)
    rw [hl'] at e1
    have hrun:runT (d+1) t lst v=if Q08 cl.guard rb=true then some (r0.clause,Z0c rb,0) else match t.else_ with
      | el::_=>runT d el lst v
      | []=>none:=by
     rw [runT,if_neg (by omega),if_pos h1,h2,Z67 h0.c0 h6]
     simp only [U0]
     rw [h3,e1]
     simp only [U0]
     rw [Z9q hbo]
     all_goals (cases t.else_<;>rfl)
    rw [hrun]
    cases hg:Q08 cl.guard rb with
    | true=>exact ⟨_,_,_,[],rfl,rfl,List.nodup_nil,by simp,by simp⟩
    | false=>
     rcases h7 with ⟨h7,_⟩ | ⟨h7,el,h8,h9⟩
     ·simp [Q08,h7] at hg
     ·rw [h8]
      simp only [U2,if_false]
      have hcl:cl=c0:=by
       have:r0.clause.toNat=x0.1:=by rw [hOrg.cl];simp
       rw [this,hlc] at h6
       exact (Option.some.inj h6).symm
      have hL':(Q3l (r0::rest.map (·.1)) r0.clause)=(((r0,x0)::rest).filter fun y=>!decide (y.1.clause=r0.clause)).map (·.1):=by
       unfold Q3l
       rw [show (r0::rest.map (·.1))=((r0,x0)::rest).map (·.1) from rfl,List.filter_map]
       rfl
      have hdead:V6s lst v (fun i=>dead i∨i=x0.1):=fun i c hi hc b hb=>by
       rcases hi with hi | hi
       ·exact hD i c hi hc b hb
       ·subst hi
        rw [hlc] at hc
        cases hc
        obtain ⟨g1,_,_⟩:=Q5b (hP c0 (by rw [f1];simp))
        have hsf:=Z0b hw hS 10 e0 t0 c0.pat v ht0 g1 hv0
        have hm12:∀ q∈Q7 10 c0.pat,Z6 12 q v=Z6 10 q v:=fun q hq=>by
         have q10:=Q3f 10 t0 c0.pat q g1 hq
         rw [(Q4y 11 t0 q (Q0u 10 t0 q q10)).2.2.2 v,(Q4y 10 t0 q q10).2.2.2 v]
        rw [hb] at hsf
        have hA0:A'.findSome? (fun q=>Z6 10 q v)=none:=by
         rw [List.findSome?_eq_none_iff]
         intro q hq
         rw [←hm12 q (by rw [f3];simp [hq])]
         exact f5 q hq
        rw [f3,List.findSome?_append,hA0,Option.none_or,List.findSome?_cons,←hm12 x0.2 (by rw [f3];simp)] at hsf
        rcases hOrg.mt with ⟨m1,_,_⟩ | ⟨y,z,m1,_,m2,m3⟩
        ·rw [hrB] at m1;cases m1
        ·rw [hrB] at m1
         cases m1
         rw [m2] at hsf
         simp only [Option.some.injEq] at hsf
         subst hsf
         rw [←Z1b hbo.nd m3,←hcl]
         exact hg
      rw [hL'] at h9
      have hsub:∀ y∈((r0,x0)::rest).filter (fun y=>!decide (y.1.clause=r0.clause)),y∈(r0,x0)::rest∧y.1.clause≠r0.clause:=fun y hy=>by
       obtain ⟨g1,g2⟩:=List.mem_filter.1 hy
       exact ⟨g1,by simpa using g2⟩
      obtain ⟨a,bs,k,sw,g1,g2,g3,g4,g5⟩:=ih el _ cols us (fun i=>dead i∨i=x0.1) h9 (fun r hr=>by
        obtain ⟨y,hy,rfl⟩:=U10.1 hr
        exact hR y.1 (List.mem_map_of_mem (f:=(·.1)) (hsub y hy).1)) hCd hV hA
       (SubO.filter (·.2) _ ((r0,x0)::rest) (hO.up fun i hi=>.inl hi) (fun y hy hf=>by
        right
        have:y.1.clause=r0.clause:=by simpa using hf
        rw [(hL y hy).2.cl,hOrg.cl] at this
        exact .inr (by omega)))
       (fun y hy=>by
        obtain ⟨q1,q2⟩:=hsub y hy
        refine ⟨fun hd=>?_,(hL y q1).2⟩
        rcases hd with hd | hd
        ·exact (hL y q1).1 hd
        ·exact q2 (by rw [(hL y q1).2.cl,hOrg.cl,hd])) hdead
      exact ⟨a,bs,k,sw,g1,g2,g3,g4,g5⟩
   | some k=>
    rw [hp] at h
    simp only at h
    obtain ⟨col,h1,h2,h3,h4,h5,h6,h7⟩:=h
    have hkl:=(List.getElem?_eq_some_iff.1 h1).1
    have hlen:=hV.len
    have hu:us[k]?=some (us[k]'(by omega)):=by simp
    generalize us[k]'(by omega)=u at hu
    obtain ⟨hpv,hg⟩:=hV.at_ k col u h1 hu
    have hct:=hC.ty col (U1 h1)
    obtain ⟨x,b,q1,q2,q3,q4⟩:=X0v h7 (X7n hww hct hg (r0::rest.map (·.1)) k)
    have hB:=V6k (wl hww) hct b q2
    have hcomes:V3e w t0 lst v t.path:=by
     have hfirst:=X8r (fun i=>by simp [Z24]) hp
     have hnany:=(Z2x hp).2
     obtain ⟨hk1,hpc⟩:=h0.at h1
     have hpk:r0.pats[k]?=some (X6 r0 k):=by unfold X6;rw [U9 hk1];rfl
     have hop:(X6 r0 k).op=3∨(X6 r0 k).op=4:=by
      rcases hpc.2.2 with h | h
      ·have:¬(X6 r0 k).op=1:=of_decide_eq_false hnany
       exact absurd h this
      ·exact h
     obtain ⟨s,tl,s1,s2⟩:=Z8i k r0.pats cols (X6 r0 k) col hpk h1 (fun j hj q hq=>by
      have:=hfirst j hj
      have h9:(X6 r0 j).op=1:=of_decide_eq_true this
      unfold X6 at h9
      rw [hq] at h9
      exact h9) hop
     have hts:=hOrg.ts
     rw [s1] at hts
     exact ⟨A,B,c0,A',B',x0.2,f1,f4,f3,f5,by rw [h5,←s2];exact hts.tried⟩
    have hL':Q5i (r0::rest.map (·.1)) k b (V5 w col b)=((((r0,x0)::rest).filter fun y=>Q4r (X6 y.1 k) b).map fun y=>(Q7b y.1 k (V5 w col b),y.2)).map (·.1):=by
     unfold Q5i
     rw [show (r0::rest.map (·.1))=((r0,x0)::rest).map (·.1) from rfl,List.filter_map,List.map_map,List.map_map]
     rfl
    have hRn:W4p w lst (Q6a cols k (V5 w col b)) v (Q5i (r0::rest.map (·.1)) k b (V5 w col b)):=fun r hr=>by
     unfold Q5i at hr
     obtain ⟨r1,g1,rfl⟩:=U10.1 hr
     obtain ⟨g2,g3⟩:=List.mem_filter.1 g1
     obtain ⟨g4,rb1,g5⟩:=hR r1 g2
     exact ⟨RowC.next hw hS hC g4 h1 hB g3,(Z0d hS hV h1 hct hu hB q3 g4 g5 g3).1⟩
    rw [hL'] at q4 hRn
    have hunfit:∀ y∈(r0,x0)::rest,Q4r (X6 y.1 k) b=false→rowL y.1 us=none:=fun y hy hfit=>by
     have hyr:y.1∈r0::rest.map (·.1):=List.mem_map_of_mem (f:=(·.1)) hy
     obtain ⟨hCy,_,_⟩:=hR y.1 hyr
     have hn:=Z6g q2 hyr (hCy.at h1).2 hg q3 11 hfit
     have hkl2:=(hCy.at h1).1
     have hpk:y.1.pats[k]?=some (X6 y.1 k):=by unfold X6;rw [U9 hkl2];rfl
     have hrl:=hCy.len
     unfold rowL
     rw [Q8a hpk,Q8a hu,Q4z _ _ _ _ (by simp only [U6];omega),List.singleton_append,List.singleton_append]
     cases V7 (Z6 12) (y.1.pats.take k) (us.take k) with
     | none=>rfl
     | some a=>simp only [U0,V7];rw [hn];rfl
    obtain ⟨a1,a2⟩:=W4m w col b
    have hA0:((cols.take k).map (·.path)++col.path::(cols.drop (k+1)).map (·.path)).Pairwise Z1s:=by
     rw [W4h h1] at hA
     rwa [List.map_append,List.map_cons] at hA
    have hA':((Q6a cols k (V5 w col b)).map (·.path)).Pairwise Z1s:=by
     unfold Q6a
     rw [List.map_append,List.map_append]
     exact W4n hA0 a1 a2
    obtain ⟨a,bs,m,sw,g1,g2,g3,g4,g5⟩:=ih x.tree _ _ (usD us k b u) dead q4 hRn (ColC.next hw hC h1 hB) (Z6k hV h1 hu hB q3) hA'
     (by
      rw [List.map_map]
      exact SubO.filter (·.2) _ ((r0,x0)::rest) hO (fun y hy hf=>by
       left
       have hn:=hunfit y hy hf
       rcases (hL y hy).2.mt with ⟨_,_,m3⟩ | ⟨_,_,_,m2,_⟩
       ·exact m3
       ·rw [hn] at m2;cases m2))
     (fun z hz=>by
      obtain ⟨y,hy,rfl⟩:=U10.1 hz
      obtain ⟨hy1,hy2⟩:=List.mem_filter.1 hy
      obtain ⟨o1,o2⟩:=hL y hy1
      obtain ⟨hCy,rb1,hrb1⟩:=hR y.1 (List.mem_map_of_mem (f:=(·.1)) hy1)
      refine ⟨o1,⟨o2.cl,(V15 hw hS hCy h1 hct hB hpv hg q3 hy2).trans o2.ts,?_⟩⟩
      obtain ⟨_,k2⟩:=Z0d hS hV h1 hct hu hB q3 hCy hrb1 hy2
      rcases k2 with ⟨k3,k4,k5⟩ | ⟨ya,yb,k3,k4,k5,k6,k7⟩
      ·rcases o2.mt with ⟨_,_,m3⟩ | ⟨_,_,_,m2,_⟩
       ·refine .inl ⟨?_,k5,m3⟩
        unfold rowB
        rw [k5]
        cases Q10 (Q7b y.1 k (V5 w col b)).binds v<;>rfl
       ·rw [k4] at m2;cases m2
      ·rcases o2.mt with ⟨m1,_,_⟩ | ⟨y',z,m1,_,m2,m3⟩
       ·rw [k3] at m1;cases m1
       ·rw [k3] at m1
        cases m1
        exact .inr ⟨yb,z,k5,k6,m2,k7.symm.trans m3⟩) hD
    have hnew:∀ p∈sw,(∃ c∈cols,c.path <+: p)∧p≠t.path:=fun p hp=>by
     obtain ⟨c,hc,hpre⟩:=g4 p hp
     have hside:∀ c,c∈cols.take k∨c∈cols.drop (k+1)→Z1s c.path col.path:=fun c hc=>by
      rw [List.pairwise_append,List.pairwise_cons] at hA0
      obtain ⟨_,⟨z2,_⟩,z4⟩:=hA0
      rcases hc with hc | hc
      ·exact z4 c.path (List.mem_map_of_mem hc) col.path (by simp)
      ·exact Z6q (z2 c.path (List.mem_map_of_mem hc))
     have hsame:∀ c,c∈cols.take k∨c∈cols.drop (k+1)→c.path <+: p→(∃ c∈cols,c.path <+: p)∧p≠t.path:=fun c hc hpre=>by
      refine ⟨⟨c,?_,hpre⟩,fun e=>?_⟩
      ·rcases hc with hc | hc
       ·exact List.mem_of_mem_take hc
       ·exact List.mem_of_mem_drop hc
      ·rw [e,h5] at hpre
       exact (hside c hc).1 hpre
     unfold Q6a at hc
     rcases List.mem_append.1 hc with hc | hc
     ·rcases List.mem_append.1 hc with hc | hc
      ·exact hsame c (.inl hc) hpre
      ·obtain ⟨i,hi⟩:=a2 c.path (List.mem_map_of_mem hc)
       rw [hi] at hpre
       refine ⟨⟨col,U1 h1,(List.prefix_append _ _).trans hpre⟩,fun e=>?_⟩
       rw [e,h5] at hpre
       have:=hpre.length_le
       simp only [U5,U3,U4] at this
       omega
     ·exact hsame c (.inr hc) hpre
    refine ⟨a,bs,m+1,t.path::sw,?_,by simp [g2],List.nodup_cons.2 ⟨fun hm=>(hnew _ hm).2 rfl,g3⟩,fun p hp=>?_,fun p hp=>?_⟩
    ·rw [runT,if_pos h2,h5,hpv]
     simp only [U0]
     rw [q1]
     simp only
     rw [g1]
     rfl
    ·rcases U8.1 hp with rfl | hp
     ·exact ⟨col,U1 h1,by rw [h5];exact List.prefix_refl _⟩
     ·exact (hnew p hp).1
    ·rcases U8.1 hp with rfl | hp
     ·exact hcomes
     ·exact g5 p hp
theorem X2d:∀ (A B:List Q3) (i:Nat),Q4d i (A++B)=Q4d i A++Q4d (i+A.length) B
 | [],B,i=>by simp [Q4d]
 | a::A,B,i=>by
  rw [List.cons_append,Q4d,Q4d,X2d A B (i+1),List.append_assoc,U3,show i+1+A.length=i+(A.length+1) by omega]
theorem X62 (l:List Q3):∀ n,Q20 l n=(Q4d 0 (l.take n)).map (fun x=>Q1n x.1 x.2):=by
 intro n
 induction n with
 | zero=>simp [Q20,Q4d]
 | succ n ih=>
  rw [Q20,ih]
  cases hc:l[n]? with
  | none=>
   have hl:=List.getElem?_eq_none_iff.1 hc
   rw [List.take_of_length_le hl,List.take_of_length_le (by omega)]
   simp
  | some c=>
   have hl:=(List.getElem?_eq_some_iff.1 hc).1
   rw [Z3r hc,X2d,List.map_append]
   simp only [Q4d,List.append_nil,List.map_map,U6,Nat.zero_add,Nat.min_eq_left (Nat.le_of_lt hl)]
   rfl
theorem Z4u {code:List X0}{lst:List Q3}{v:Q1} : ∀ {k a:Nat} {r:Int×List W9×List (List Int)},runK code lst v k a=some r→∀ n,runK code lst v (n+k) a=some r
 | 0,_,_,h,_=>by cases h
 | k+1,a,r,h,n=>by
  rw [←Nat.add_assoc]
  rw [runK,U12] at h ⊢
  obtain ⟨s,hs,h⟩:=h
  refine ⟨s,hs,?_⟩
  by_cases o3:s.op=3
  ·rw [if_pos o3] at h ⊢
   exact h
  ·rw [if_neg o3] at h ⊢
   by_cases o1:s.op=1
   ·rw [if_pos o1] at h ⊢
    obtain ⟨u,hu,h⟩:=U12.1 h
    obtain ⟨r',h1,rfl⟩:=U11.1 h
    rw [hu]
    simp only [U0]
    rw [Z4u h1 n]
    rfl
   ·rw [if_neg o1] at h ⊢
    obtain ⟨l,hl,h⟩:=U12.1 h
    obtain ⟨c,hc,h⟩:=U12.1 h
    rw [hl]
    simp only [U0]
    rw [hc]
    simp only [U0]
    by_cases hg:Q08 c.guard l=true
    ·rw [if_pos hg] at h ⊢
     exact h
    ·rw [if_neg hg] at h ⊢
     exact Z4u h n
theorem X9l {w:List Q4}(hww:w∈Q0s){t:Q6}(ht:t∈tys w){l:List Q3}{tr:W3}(h:W8 NN w t l 0=some (tr,true)){v:Q1}(hv:Q30 w 10 t v) :
  ∃ (a:Int) (bs:List W9) (k:Nat) (sw:List (List Int)),runT 300 tr l v=some (a,bs,k)∧sw.length=k∧sw.Nodup∧∀ p∈sw,V3e w t l v p:=by
 have hw:=ww hww
 have hS:=ws hww
 have hc:=Q9z hww ht h
 have hT:=(Z0m hww ht l 0).tr tr h
 simp only [canC,Bool.and_eq_true] at hc
 obtain ⟨hll,hP⟩:=Z3w hc.1.1
 have hR:=Z8v hw hP hll
 have hVP:=(Q7a hc.1.1).2
 have hrow:Q20 l l.length=((Q4d 0 l).map (fun x=>(Q1n x.1 x.2,x))).map (·.1):=by
  rw [X62,List.take_length,List.map_map]
  rfl
 have hid:((Q4d 0 l).map (fun x=>(Q1n x.1 x.2,x))).map (·.2)=Q4d 0 l:=by
  rw [List.map_map]
  exact List.map_id _
 have hpO:∀ x∈Q4d 0 l,∃ c,c∈l∧x.2∈Q7 10 c.pat:=fun x hx=>by
  obtain ⟨D,R,hD⟩:=List.append_of_mem hx
  obtain ⟨A,B,c,A',B',e1,_,e3,_⟩:=Z93 l 0 D R x hD
  exact ⟨c,by rw [e1];simp,by rw [e3];simp⟩
 have hO:∀ x∈Q4d 0 l,Q09 w 10 t x.2=true∧PatO w t x.2∧∃ c∈l,x.2∈Q7 10 c.pat∧Q09 w 10 t c.pat=true:=fun x hx=>by
  obtain ⟨c,hcm,hq⟩:=hpO x hx
  have g:=(hP c hcm).1
  have g10:=Q3f 10 t c.pat x.2 g hq
  exact ⟨g10,⟨Q0u 11 t x.2 (Q0u 10 t x.2 g10),Q3w 11 x.2 (Q3w 10 x.2 (Q8y 10 c.pat x.2 hq))⟩,c,hcm,hq,g⟩
 rw [hrow] at hT hR
 obtain ⟨a,bs,k,sw,h1,h2,h3,_,h5⟩:=W2h hww ht hVP hv 300 tr ((Q4d 0 l).map (fun x=>(Q1n x.1 x.2,x))) [⟨[],t⟩] [v] (fun _=>False) hT (fun r hr=>⟨hR r hr,by
  obtain ⟨y,hy,rfl⟩:=U10.1 hr
  obtain ⟨x,hx,rfl⟩:=U10.1 hy
  exact ⟨_,Q9l (v:=v) (u:=v) (path:=[]) rfl (Z6v [] (hO x hx).2.1).2.2⟩⟩) (X8f ht) ⟨rfl,fun j c u hc hu=>by
   cases j with
   | zero=>simp at hc hu;subst hc hu;exact ⟨rfl,hv⟩
   | succ j=>simp at hc⟩ (by simp) (by rw [hid];exact SubO.refl _) (fun y hy=>by
   obtain ⟨x,hx,rfl⟩:=U10.1 hy
   obtain ⟨g10,hPO,c,hcm,hq,g⟩:=hO x hx
   refine ⟨id,rfl,?_,?_⟩
   ·simp only [Q1n,Q4c,List.append_nil]
    unfold Q6f
    rw [Z8l [] [] 12 12 x.2 hPO.1 hPO.2 (by omega)]
    exact DelT.refl _
   ·obtain ⟨r1,r2⟩:=X28 g hq x.1 v
    have m12:Z6 12 x.2 v=Z6 10 x.2 v:=by rw [(Q4y 11 t x.2 (Q0u 10 t x.2 g10)).2.2.2 v,(Q4y 10 t x.2 g10).2.2.2 v]
    rw [m12]
    unfold hitR at r2
    cases hm:Z6 10 x.2 v with
    | none=>
     rw [hm] at r1 r2
     exact .inl ⟨r1,by simpa using r2,rfl⟩
    | some z=>
     rw [hm] at r1 r2
     exact .inr ⟨z,z,r1,r2,rfl,.refl _⟩) (fun _ _ h=>h.elim)
 exact ⟨a,bs,k,sw,h1,h2,h3,h5⟩
theorem X2m {w:List Q4}(hww:w∈Q0s){t:Q6}(ht:t∈tys w){l:List Q3}{tr:W3}(h:W8 NN w t l 0=some (tr,true)){v:Q1}(hv:Q30 w 10 t v){a:Int}{bs:List W9}{k:Nat}(hk:runT 300 tr l v=some (a,bs,k))
  {n:Nat} {r:Int×List W9×List (List Int)} (hr:runK (Q4b 0 0 l) l v n 0=some r):k≤(Q6w [] r.2.2).length∧k≤r.2.2.length:=by
 obtain ⟨a',bs',k',sw,h1,h2,h3,h4⟩:=X9l hww ht h hv
 rw [hk] at h1
 cases h1
 have hc:=Q9z hww ht h
 simp only [canC,Bool.and_eq_true] at hc
 have hVP:=(Q7a hc.1.1).2
 have hsub:∀ p∈sw,p∈r.2.2:=fun p hp=>X7m hww ht hVP hv (Z4u hr) (h4 p hp)
 have e1:=Z9a sw (Q6w [] r.2.2) h3 (fun p hp=>(X6d _ _).2 (.inr (hsub p hp)))
 have e2:=Z9a sw r.2.2 h3 hsub
 omega
theorem V0i {lst:List Q3}{v:Q1}(hv:Z1t 10 v){t:W3}{a:Int}{bs:List W9}{k:Nat}(hd:Z3a 300 t)(ho:opT 300 t)(h:runT 300 t lst v=some (a,bs,k)):Q74 NN lst t v=some (a,bs,(k:Int)):=by
 unfold Q74
 generalize hf:(fun (s:W3×Int)=>_:W3×Int→Option (Ctl (Int×List W9×Int) (W3×Int)))=f
 have key:∀ (d n:Nat) (t:W3) (c k:Nat),Z3a d t→opT d t→runT d t lst v=some (a,bs,k)→d≤n→c+d≤300→(whileL f n (t,(c:Int))=some (.ret (a,bs,((c+k:Nat):Int))))∨(a = -1∧bs=[]∧∃ t',whileL f n (t,(c:Int))=some (.brk (t',((c+k:Nat):Int)))):=by
  intro d
  induction d with
  | zero=>intro n t c k h;exact h.elim
  | succ d ih=>
   intro n t c k hd ho h hn hc
   obtain ⟨n,rfl⟩:∃ j,n=j+1:=⟨n-1,by omega⟩
   obtain ⟨⟨hd1,hd2,hd3,hd4,hd5⟩,hd6⟩:=hd
   obtain ⟨ho1,ho2⟩:=ho
   have e1:wadd .i64 (c:Int) 1=((c+1:Nat):Int):=by rw [V0 (by omega) (by omega)];omega
   rw [runT] at h
   split at h
   ·rename_i h2
    rw [U12] at h
    obtain ⟨u,hu,h⟩:=h
    obtain ⟨q,hq,hqq⟩:=X36 t.branches u
    split at h
    ·rename_i hnone
     rw [hnone] at hqq
     simp only [Option.some.injEq,Prod.mk.injEq] at h hqq
     obtain ⟨rfl,rfl,rfl⟩:=h
     refine .inl (Z07 ?_)
     subst hf
     simp only
     rw [if_pos (by rw [Bool.not_eq_true',W2];omega),if_neg (by rw [Z8];omega),Z0t hu]
     simp only [U0]
     rw [hq]
     simp only [U0]
     rw [if_pos (by rw [hqq];rfl),e1]
    ·rename_i b hsome
     rw [hsome] at hqq
     simp only at hqq
     rw [U11] at h
     obtain ⟨r,hr,h⟩:=h
     simp only [Prod.mk.injEq] at h
     obtain ⟨rfl,rfl,rfl⟩:=h
     have hgo:f (t,(c:Int))=some (.go (b.tree,((c+1:Nat):Int))):=by
      subst hf
      simp only
      rw [if_pos (by rw [Bool.not_eq_true',W2];omega),if_neg (by rw [Z8];omega),Z0t hu]
      simp only [U0]
      rw [hq,hqq]
      simp only [U0]
      rw [if_neg (by simp),e1]
     have hbm:b.tree∈Z0s t:=List.mem_append_left _ (List.mem_map_of_mem (List.mem_of_find?_eq_some hsome))
     rw [Z4e hgo,show c+(r.2.2+1)=c+1+r.2.2 by omega]
     exact ih n b.tree (c+1) r.2.2 (hd6 _ hbm) (ho2 _ hbm) hr (by omega) (by omega)
   ·rename_i h2
    split at h
    ·rename_i h1
     rw [U12] at h
     obtain ⟨cl,hcl,h⟩:=h
     rw [U12] at h
     obtain ⟨l,hl,h⟩:=h
     split at h
     ·rename_i hg
      simp only [Option.some.injEq,Prod.mk.injEq] at h
      obtain ⟨rfl,rfl,rfl⟩:=h
      refine .inl (Z07 ?_)
      subst hf
      simp only
      rw [if_pos (by rw [Bool.not_eq_true',W2];omega),if_pos (by rw [Z8];exact h1),Z21 hv hd1 hl]
      simp only [U0]
      rw [hcl]
      simp only [U0]
      rw [Z20]
      simp only [U0]
      rw [if_pos hg]
      rfl
     ·rename_i hg
      split at h
      ·rename_i el rest hel
       have hgo:f (t,(c:Int))=some (.go (el,(c:Int))):=by
        subst hf
        simp only
        rw [if_pos (by rw [Bool.not_eq_true',W2];omega),if_pos (by rw [Z8];exact h1),Z21 hv hd1 hl]
        simp only [U0]
        rw [hcl]
        simp only [U0]
        rw [Z20]
        simp only [U0]
        rw [if_neg hg,hel]
        rfl
       have hem:el∈Z0s t:=List.mem_append_right _ (by rw [hel];simp)
       rw [Z4e hgo]
       exact ih n el c k (hd6 _ hem) (ho2 _ hem) h (by omega) (by omega)
      ·cases h
    ·rename_i h1
     simp only [Option.some.injEq,Prod.mk.injEq] at h
     obtain ⟨rfl,rfl,rfl⟩:=h
     refine .inr ⟨rfl,rfl,t,W2d ?_⟩
     subst hf
     simp only
     rw [if_neg (by rw [Bool.not_eq_true',W2];omega)]
     rfl
 rcases key 300 NN t 0 k hd ho h (by decide) (by omega) with h | ⟨rfl,rfl,t',h⟩
 ·rw [show (0:Int)=((0:Nat):Int) from rfl,h]
  simp
 ·rw [show (0:Int)=((0:Nat):Int) from rfl,h]
  simp
def Z5i (tr:W3)(l:List Q3)(v:Q1):Nat:=match runT 300 tr l v with
 | some r=>r.2.2
 | none=>0
theorem X4h {w:List Q4}(hww:w∈Q0s){t:Q6}(ht:t∈tys w){l:List Q3}{pick:Int}{tr:W3}(h:W8 NN w t l pick=some (tr,true))(hd:Z3a 300 tr){v:Q1}(hv:Q30 w 10 t v) :
  ∃ a bs,Q49 NN tr l v=some (a,bs,(Z5i tr l v:Int))∧Q74 NN l tr v=some (a,bs,(Z5i tr l v:Int)):=by
 have hdv:=Z0f (ww hww) 10 t v ht hv
 obtain ⟨k,hk⟩:=Z1x hww ht h hv
 have hop:=V09 _ _ _ _ ((Z0m hww ht l pick).tr tr h)
 have hc:Z5i tr l v=k:=by unfold Z5i;rw [hk]
 rw [hc]
 exact ⟨_,_,V17 hdv hd hk,V0i hdv hd hop hk⟩
theorem Z4m {w:List Q4}{t:Q6}{l:List Q3}(h:¬Q6g w t l=(Q4b 0 0 l,true)):Q6g w t l=([],false):=by
 unfold Q6g at h ⊢
 split
 ·rename_i h'
  rw [if_pos h'] at h
  exact absurd rfl h
 ·rfl
end Go.Proofs.YtgjpamkllimhdaaGreat
