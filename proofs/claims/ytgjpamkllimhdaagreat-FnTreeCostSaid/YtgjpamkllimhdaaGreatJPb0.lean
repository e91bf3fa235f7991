import Derived.Test.YtgjpamkllimhdaaGreatJMb0
import Derived.Test.YtgjpamkllimhdaaGreatJP2
set_option linter.unusedSimpArgs false
set_option linter.unusedVariables false
namespace Go.Proofs.YtgjpamkllimhdaaGreat
open Go Go.RowKit
theorem X1q (l:List Q6)(f:Q6→Option Bool)(g:Q6→Bool)(hf:∀ x∈l,f x=some (g x)):Q0d l f=some (l.any g):=W27 (Z0e l f g hf)
theorem W5l {r:Z9}(h:ROk r 1000):Ret (Q46 NN r) (fun a=>a.1∈Q0s∧a.2.1∈tys a.1∧Nx r a.2.2.2 500):=by
 unfold Q46
 refine Ret.bind (W0g (h.le (by omega))) (fun a ha=>?_)
 obtain ⟨hw,hn1⟩:=ha
 have hW:=ww hw
 rw [hW.tab]
 simp only [U0]
 have hr1:ROk a.2 999:=ROk.nx (c:=1) h hn1
 have hpos:=hW.pos
 have hle:=hW.le
 refine Ret.bind (Q3d (hr1.le (by omega)) (k:=lenZ a.1.length) (by simp only [lenZ];omega) (by simp only [lenZ];omega)) (fun b hb=>?_)
 have hr2:ROk b.2 998:=ROk.nx (c:=1) hr1 hb.2.2
 refine Ret.bind (Q8n (hr2.le (by omega)) [0,0,1,2] (by simp) (by simp)) (fun c hc=>?_)
 have hr3:ROk c.2 997:=ROk.nx (c:=1) hr2 hc.2
 have hty:(Q6.mk b.1 c.1)∈tys a.1:=by
  obtain ⟨i,hi⟩:=Int.eq_ofNat_of_zero_le hb.1
  have hil:i<a.1.length:=by have:=hb.2.1;simp only [lenZ] at this;omega
  have hci:∃ j:Nat,j<4∧c.1=(j:Int):=by
   have:=hc.1
   simp at this
   rcases this with h | h | h
   ·exact ⟨0,by omega,h⟩
   ·exact ⟨1,by omega,h⟩
   ·exact ⟨2,by omega,h⟩
  obtain ⟨j,hj,hcj⟩:=hci
  unfold tys
  refine List.mem_cons_of_mem _ (List.mem_flatMap.2 ⟨i,List.mem_range.2 hil,U10.2 ⟨j,List.mem_range.2 hj,?_⟩⟩)
  rw [hi,hcj]
  rfl
 have htI:tI∈tys a.1:=by unfold tys;exact List.mem_cons_self
 refine Ret.ctl (R:=fun _=>False) (B:=fun s=>(Q6.mk s.1 s.2)∈tys a.1∧depP a.1 (Q6.mk s.1 s.2)≠0) ?_ (fun r hr=>hr.elim) (fun s hs=>?_)
 ·rw [(hW.ty _ hty).d1]
  simp only [U0]
  refine Ret.ite (fun h=>?_) (fun h=>?_)
  ·refine .some ⟨htI,?_⟩
   have:=(hW.ty tI htI).ti rfl
   show depP a.1 tI≠0
   omega
  ·rw [W2] at h
   exact .some ⟨hty,h⟩
 ·refine Ret.bind (Q8n (hr3.le (by omega)) [3,2,4,1] (by simp) (by simp)) (fun d hd=>?_)
  have hr4:ROk d.2 996:=ROk.nx (c:=1) hr3 hd.2
  have hd4:1≤d.1∧d.1≤4:=by
   have:=hd.1
   simp at this
   omega
  have hdep:=(hW.ty _ hs.1).d4
  refine Ret.bind (W1y hW 4 NN d.2 _ d.1 hs.1 hs.2 (by omega) (by omega) (by omega) (by omega) (by decide) (hr4.le (by decide))) (fun e he=>?_)
  refine .some ⟨hw,hs.1,?_⟩
  have:=(((hn1.trans hb.2.2).trans hc.2).trans hd.2).trans he
  exact this.le' (by decide)
def tupV (out:List (List Q1))(l:List Q1):List (List Q1):=out.flatMap fun q=>l.map fun c=>q++[c]
def mkV (c:Int)(ks:List Q1):Q1:=Q1.mk c 0 ks
def numV (n:Nat):Q1:=Q1.mk (-1) (n:Int) []
def Q0e (w:List Q4):Nat→Q6→List Q1
 | 0,_=>[]
 | d+1,t=>if t.data = -1 then (List.range 10).map numV else (X5 w t).flatMap fun c=>(((V6 w t c).map (Q0e w d)).foldl tupV [[]]).map (mkV c)
theorem Z4h (out:List (List Q1))(l:List Q1):(tupV out l).length=out.length * l.length:=by
 induction out with
 | nil=>simp [tupV]
 | cons q out ih=>
  have e:tupV (q::out) l=(l.map fun c=>q++[c])++tupV out l:=by simp [tupV]
  rw [e,U5,ih,U7,U3,Nat.succ_mul]
  omega
theorem X5c:∀ (ls:List (List Q1)) (out:List (List Q1)),(out=[]∨[]∈ls)→ls.foldl tupV out=[]
 | [],out,h=>by
  rcases h with h | h
  ·exact h
  ·cases h
 | l::ls,out,h=>by
  rw [List.foldl_cons]
  refine X5c ls _ ?_
  rcases h with rfl | h
  ·left;simp [tupV]
  ·rcases U8.1 h with rfl | h
   ·left;simp [tupV]
   ·right;exact h
theorem X30:∀ (ls:List (List Q1)) (out:List (List Q1)),(∀ l∈ls,l≠[])→out.length≤(ls.foldl tupV out).length
 | [],_,_=>Nat.le_refl _
 | l::ls,out,h=>by
  rw [List.foldl_cons]
  have h1:=X30 ls (tupV out l) fun x hx=>h x (by simp [hx])
  rw [Z4h] at h1
  have h2:1≤l.length:=List.length_pos_iff.2 (h l (by simp))
  exact Nat.le_trans (Nat.le_mul_of_pos_right _ h2) h1
theorem X1x {ls:List (List Q1)}(h:∀ l∈ls,l≠[])(k:Nat):((ls.take k).foldl tupV [[]]).length≤(ls.foldl tupV [[]]).length:=by
 rw [←List.take_append_drop k ls,List.foldl_append,List.take_append_drop]
 exact X30 _ _ fun l hl=>h l (List.mem_of_mem_drop hl)
theorem Z5u {ls:List (List Q1)}{k:Nat}{l:List Q1}(h:ls[k]?=some l):(ls.take (k+1)).foldl tupV [[]]=tupV ((ls.take k).foldl tupV [[]]) l:=by
 rw [List.take_add_one,h];simp
theorem W5m {ls:List (List Q1)}(h:∀ l∈ls,l≠[]):1≤(ls.foldl tupV [[]]).length:=X30 ls [[]] h
theorem Z8c:∀ (ls:List (List Q1)) (out:List (List Q1)) (ks:List Q1),ks∈ls.foldl tupV out→
  ∃ a b,a∈out∧ks=a++b∧b.length=ls.length∧∀ (i:Nat) (q:Q1) (l:List Q1),b[i]?=some q→ls[i]?=some l→q∈l
 | [],out,ks,h=>⟨ks,[],by simpa using h,by simp,rfl,by simp⟩
 | l::ls,out,ks,h=>by
  rw [List.foldl_cons] at h
  obtain ⟨a,b,ha,rfl,hl,hb⟩:=Z8c ls (tupV out l) ks h
  simp only [tupV,List.mem_flatMap,U10] at ha
  obtain ⟨a0,h0,c,hc,rfl⟩:=ha
  refine ⟨a0,c::b,h0,by simp,by simp [hl],fun i q m h1 h2=>?_⟩
  cases i with
  | zero=>simp at h1 h2;subst h1 h2;exact hc
  | succ i=>exact hb i q m (by simpa using h1) (by simpa using h2)
theorem Z8b {w:List Q4} : ∀ (d:Nat) (t:Q6) (v:Q1),v∈Q0e w d t→Q30 w d t v:=by
 intro d
 induction d with
 | zero=>intro t v h;simp [Q0e] at h
 | succ d ih=>
  intro t v h
  rw [Q0e] at h
  rw [Q30]
  split
  ·rename_i hd
   rw [if_pos hd] at h
   obtain ⟨n,hn,rfl⟩:=U10.1 h
   have:=List.mem_range.1 hn
   exact ⟨rfl,by simp only [numV];omega,by simp only [numV];omega,rfl⟩
  ·rename_i hd
   rw [if_neg hd] at h
   obtain ⟨c,hc,h⟩:=List.mem_flatMap.1 h
   obtain ⟨ks,hks,rfl⟩:=U10.1 h
   obtain ⟨a,b,ha,rfl,hl,hb⟩:=Z8c _ _ _ hks
   simp only [List.mem_singleton] at ha
   subst ha
   simp only [U7] at hl
   refine ⟨rfl,hc,by simp [mkV,hl],fun j u x hu hx=>ih u x ?_⟩
   simp only [mkV] at hu hx
   exact hb j x (Q0e w d u) (by simpa using hx) (by rw [List.getElem?_map,hu];rfl)
theorem V10 {a b m:Nat} : min (min a m * min b m) m=min (a * b) m:=by
 rcases Nat.eq_zero_or_pos a with rfl | ha
 ·simp
 rcases Nat.eq_zero_or_pos b with rfl | hb
 ·simp
 rcases Nat.le_total a m with h1 | h1<;>rcases Nat.le_total b m with h2 | h2
 ·rw [Nat.min_eq_left h1,Nat.min_eq_left h2]
 ·rw [Nat.min_eq_left h1,Nat.min_eq_right h2,Nat.min_eq_right,Nat.min_eq_right]
  ·exact Nat.le_trans h2 (Nat.le_mul_of_pos_left _ ha)
  ·exact Nat.le_mul_of_pos_left _ ha
 ·rw [Nat.min_eq_right h1,Nat.min_eq_left h2,Nat.min_eq_right,Nat.min_eq_right]
  ·exact Nat.le_trans h1 (Nat.le_mul_of_pos_right _ hb)
  ·exact Nat.le_mul_of_pos_right _ hb
 ·rw [Nat.min_eq_right h1,Nat.min_eq_right h2]
  rcases Nat.eq_zero_or_pos m with rfl | hm
  ·simp
  ·rw [Nat.min_eq_right (Nat.le_mul_of_pos_left _ hm),Nat.min_eq_right (Nat.le_trans h2 (Nat.le_mul_of_pos_left _ ha))]
theorem W15 (a b:Nat):imin (a:Int) (b:Int)=((min a b:Nat):Int):=by
 unfold imin
 split<;>omega
theorem X7j {w:List Q4}(hw:WW w):∀ (d n:Nat) (t:Q6),t∈tys w→d+2≤n→d≤100→Q0n n w t (d:Int)=some ((min (Q0e w d t).length 401:Nat):Int):=by
 intro d
 induction d with
 | zero=>
  intro n t ht hn _
  obtain ⟨n,rfl⟩:∃ k,n=k+1:=⟨n-1,by omega⟩
  unfold Q0n
  rw [if_pos (by simp [ieq])]
  rfl
 | succ d ih=>
  intro n t ht hn hd
  obtain ⟨n,rfl⟩:∃ k,n=k+1:=⟨n-1,by omega⟩
  have hT:=hw.ty t ht
  suffices hs:Ret (Q0n (n+1) w t ((d+1:Nat):Int)) (fun a=>a=((min (Q0e w (d+1) t).length 401:Nat):Int)) by
   obtain ⟨a,e,rfl⟩:=hs
   exact e
  unfold Q0n
  rw [if_neg (by rw [Z8];omega)]
  have e1:wsub .i64 ((d+1:Nat):Int) 1=(d:Int):=by rw [Q2k]<;>omega
  rw [e1]
  by_cases hi:t.data = -1
  ·rw [if_pos (by rw [Z8];exact hi)]
   refine .some ?_
   simp [Q0e,hi]
  ·rw [if_neg (by rw [Z8];exact hi),hT.c2]
   simp only [U0]
   have hv:Q0e w (d+1) t=(X5 w t).flatMap fun c=>(((V6 w t c).map (Q0e w d)).foldl tupV [[]]).map (mkV c):=by rw [Q0e,if_neg hi]
   rw [hv]
   generalize hF:(fun c=>(((V6 w t c).map (Q0e w d)).foldl tupV [[]]).map (mkV c))=F
   refine Ret.ctl (Z4 (X5 w t) (fun i s=>s=((min (((X5 w t).take i).flatMap F).length 401:Nat):Int)) (fun _=>False) (fun s=>s=((min ((X5 w t).flatMap F).length 401:Nat):Int)) (by simp) (fun i c s hc hI=>?_) (fun s hI=>by rw [hI,List.take_length])) (fun r hr=>hr.elim) (fun s hs=>.some hs)
   have hcm:=U1 hc
   rw [hT.a2 _ hcm]
   simp only [U0]
   refine Ret.ctl (Z4 (V6 w t c) (fun k s=>s=((min ((((V6 w t c).map (Q0e w d)).take k).foldl tupV [[]]).length 401:Nat):Int)) (fun _=>False) (fun s=>s=((min (F c).length 401:Nat):Int)) (by simp) (fun k a u ha hJ=>?_) (fun s hJ=>?_)) (fun r hr=>hr.elim) (fun u hu=>?_)
   ·rw [ih n a (hT.at_ _ hcm _ (U1 ha)) (by omega) (by omega)]
    simp only [U0]
    refine .some ?_
    simp only [Y9]
    rw [Z5u (l:=Q0e w d a) (by rw [List.getElem?_map,ha];rfl),Z4h,hJ]
    generalize ((((V6 w t c).map (Q0e w d)).take k).foldl tupV [[]]).length=A
    generalize (Q0e w d a).length=B
    have hm:min A 401 * min B 401≤401 * 401:=Nat.mul_le_mul (Nat.min_le_right _ _) (Nat.min_le_right _ _)
    have e:((min A 401:Nat):Int) * ((min B 401:Nat):Int)=((min A 401 * min B 401:Nat):Int):=by simp
    rw [Q8h (by rw [e];omega) (by rw [e];omega),e,show (401:Int)=((401:Nat):Int) from rfl,W15,V10]
   ·rw [hJ,List.take_of_length_le (by simp),←hF,U7]
   ·refine .some ?_
    simp only [Y9]
    rw [hu,hI,List.take_add_one,hc]
    simp only [Option.toList_some,List.flatMap_append,List.flatMap_cons,List.flatMap_nil,List.append_nil,U5]
    generalize (((X5 w t).take i).flatMap F).length=A
    generalize (F c).length=B
    rw [V0 (by omega) (by omega)]
    have e:((min A 401:Nat):Int)+((min B 401:Nat):Int)=((min A 401+min B 401:Nat):Int):=by omega
    rw [e,show (401:Int)=((401:Nat):Int) from rfl,W15]
    congr 1
    omega
theorem W02 (l:List Q1)(h:l.length≤Q5):Q1l l=some l:=by
 unfold Q1l
 rw [X4 (by simpa using h)]
 rfl
theorem X46 {α β:Type}(l:List α)(F:α→List β)(i:Nat):((l.take i).flatMap F).length≤(l.flatMap F).length:=by
 conv=>rhs;rw [←List.take_append_drop i l,List.flatMap_append,U5]
 omega
theorem X3n {w:List Q4}(hw:WW w):∀ (d n:Nat) (t:Q6),t∈tys w→d+20≤n→d≤100→(Q0e w d t).length≤400→Q3s n w t (d:Int)=some (Q0e w d t):=by
 intro d
 induction d with
 | zero=>
  intro n t ht hn _ _
  obtain ⟨n,rfl⟩:∃ k,n=k+1:=⟨n-1,by omega⟩
  unfold Q3s
  rw [if_pos (by simp [ieq])]
  rfl
 | succ d ih=>
  intro n t ht hn hd hlen
  obtain ⟨n,rfl⟩:∃ k,n=k+1:=⟨n-1,by omega⟩
  have hT:=hw.ty t ht
  suffices hs:Ret (Q3s (n+1) w t ((d+1:Nat):Int)) (fun a=>a=Q0e w (d+1) t) by
   obtain ⟨a,e,rfl⟩:=hs
   exact e
  unfold Q3s
  rw [if_neg (by rw [Z8];omega)]
  have e1:wsub .i64 ((d+1:Nat):Int) 1=(d:Int):=by rw [Q2k]<;>omega
  rw [e1]
  by_cases hi:t.data = -1
  ·rw [if_pos (by rw [Z8];exact hi)]
   have hv:Q0e w (d+1) t=(List.range 10).map numV:=by rw [Q0e,if_pos hi]
   rw [hv]
   refine Ret.ctl (Q1r (fun s:List Q1×Int=>∃ k:Nat,k≤10∧s=((List.range k).map numV,(k:Int))) (fun s=>(10-s.2).toNat) (fun _=>False) (fun s=>s.1=(List.range 10).map numV) ⟨0,by omega,rfl⟩ (fun s hI=>?_) n (by simp;omega)) (fun r hr=>hr.elim) (fun s hs=>.some hs)
   obtain ⟨k,hk,rfl⟩:=hI
   refine Ret.ite (fun h1=>?_) (fun h1=>?_)
   ·rw [X1] at h1
    simp only [Q8s,U0]
    rw [X4 (by simp only [U7,List.length_range,U3,U4,Q5];omega)]
    simp only [U0]
    have e2:wadd .i64 (k:Int) 1=((k+1:Nat):Int):=by rw [V0]<;>omega
    rw [e2]
    refine .some ⟨⟨k+1,by omega,?_⟩,by simp only;omega⟩
    rw [List.range_succ,List.map_append];rfl
   ·rw [V2] at h1
    refine .some ?_
    simp only at h1
    rw [show k=10 by omega]
    exact rfl
  ·rw [if_neg (by rw [Z8];exact hi),hT.c2]
   simp only [U0]
   have hv:Q0e w (d+1) t=(X5 w t).flatMap fun c=>(((V6 w t c).map (Q0e w d)).foldl tupV [[]]).map (mkV c):=by rw [Q0e,if_neg hi]
   rw [hv] at hlen ⊢
   generalize hF:(fun c=>(((V6 w t c).map (Q0e w d)).foldl tupV [[]]).map (mkV c))=F at *
   refine Ret.ctl (Z4 (X5 w t) (fun i s=>s=((X5 w t).take i).flatMap F) (fun _=>False) (fun s=>s=(X5 w t).flatMap F) (by simp) (fun i c s hc hI=>?_) (fun s hI=>by rw [hI,List.take_length])) (fun r hr=>hr.elim) (fun s hs=>.some hs)
   have hcm:=U1 hc
   have hFc:F c=(((V6 w t c).map (Q0e w d)).foldl tupV [[]]).map (mkV c):=by rw [←hF]
   have hnext:((X5 w t).take (i+1)).flatMap F=((X5 w t).take i).flatMap F++F c:=by
    rw [List.take_add_one,hc];simp
   have hle:=X46 (X5 w t) F (i+1)
   rw [hnext,U5] at hle
   have hat:=hT.at_ _ hcm
   have hal:=hT.al _ hcm
   refine Ret.bind (P:=CtlQ (fun r:Ctl (List Q1) (List Q1)=>RndQ (fun _=>False) (fun s=>s=(X5 w t).flatMap F) (fun s=>s=((X5 w t).take (i+1)).flatMap F) r) (fun s=>s=((X5 w t).take (i+1)).flatMap F)) ?_ (fun o ho=>?_)
   ·rw [hT.a2 _ hcm]
    simp only [U0]
    have hcf:Q0d (V6 w t c) (fun a0=>Q5t n a0 w ((d+1:Nat):Int))=some ((V6 w t c).any fun a=>decide ((Q0e w d a).length=0)):=by
     refine X1q _ _ _ fun a ha=>?_
     unfold Q5t
     rw [e1,X7j hw d n a (hat _ ha) (by omega) (by omega)]
     simp only [U0,ieq]
     congr 1
     by_cases h0:(Q0e w d a).length=0
     ·simp [h0]
     ·rw [decide_eq_false h0,decide_eq_false];omega
    rw [hcf]
    simp only [U0]
    cases hany:(V6 w t c).any fun a=>decide ((Q0e w d a).length=0) with
    | true=>
     simp only [if_true]
     refine .some ?_
     simp only [Q5l]
     rw [hnext,hI]
     obtain ⟨a,ha,h0⟩:=List.any_eq_true.1 hany
     simp only [decide_eq_true_eq] at h0
     have:F c=[]:=by
      rw [hFc,X5c _ _ (.inr (U10.2 ⟨a,ha,List.eq_nil_of_length_eq_zero h0⟩))];rfl
     rw [this,List.append_nil]
    | false=>
     simp only [U2,if_false]
     have hne:∀ l∈(V6 w t c).map (Q0e w d),l≠[]:=fun l hl e=>by
      obtain ⟨a,ha,rfl⟩:=U10.1 hl
      have:=List.any_eq_false.1 hany a ha
      simp [e] at this
     have hlenF:(F c).length=(((V6 w t c).map (Q0e w d)).foldl tupV [[]]).length:=by rw [hFc,U7]
     refine Ret.ctl (Z4 (V6 w t c) (fun k s=>s=((((V6 w t c).map (Q0e w d)).take k).foldl tupV [[]]).map (mkV c)) (fun _=>False) (fun s=>s=F c) (by simp [mkV]) (fun k a u ha hJ=>?_) (fun s hJ=>by rw [hJ,List.take_of_length_le (by simp),hFc])) (fun r hr=>hr.elim) (fun u hu=>?_)
     ·have hk1:=X1x hne (k+1)
      have hk0:=X1x hne k
      have hg:((V6 w t c).map (Q0e w d))[k]?=some (Q0e w d a):=by rw [List.getElem?_map,ha];rfl
      have hp:1≤((((V6 w t c).map (Q0e w d)).take k).foldl tupV [[]]).length:=W5m fun l hl=>hne l (List.mem_of_mem_take hl)
      have ha1:1≤(Q0e w d a).length:=List.length_pos_iff.2 (hne _ (U1 hg))
      rw [Z5u hg,Z4h] at hk1
      have hva:(Q0e w d a).length≤400:=by
       have:=Nat.le_mul_of_pos_left (Q0e w d a).length hp
       omega
      rw [ih n a (hat _ (U1 ha)) (by omega) (by omega) hva]
      simp only [U0]
      rw [Z5u hg]
      have hkl:∀ ks∈(((V6 w t c).map (Q0e w d)).take k).foldl tupV [[]],ks.length≤3:=fun ks hks=>by
       obtain ⟨x,y,hx,rfl,hl,_⟩:=Z8c _ _ _ hks
       simp only [List.mem_singleton] at hx
       subst hx
       simp only [U6,U7] at hl
       simp only [List.nil_append]
       omega
      generalize ((((V6 w t c).map (Q0e w d)).take k).foldl tupV [[]])=T at *
      generalize Q0e w d a=L at *
      refine Ret.ctl (Z4 u (fun j z=>z=(tupV (T.take j) L).map (mkV c)) (fun _=>False) (fun z=>z=(tupV T L).map (mkV c)) (by simp [tupV]) (fun j x z hx hK=>?_) (fun z hK=>by rw [hK,hJ,U7,List.take_length])) (fun r hr=>hr.elim) (fun z hz=>.some hz)
      rw [hJ,List.getElem?_map] at hx
      obtain ⟨ks,hks,rfl⟩:=U11.1 hx
      have hjl:=(List.getElem?_eq_some_iff.1 hks).1
      have hks3:=hkl ks (U1 hks)
      have hnj:tupV (T.take (j+1)) L=tupV (T.take j) L++L.map (fun c=>ks++[c]):=by
       rw [List.take_add_one,hks];simp [tupV]
      rw [hnj]
      refine Ret.ctl (Z4 L (fun i v=>v=(tupV (T.take j) L++(L.take i).map (fun c=>ks++[c])).map (mkV c)) (fun _=>False) (fun v=>v=(tupV (T.take j) L++L.map (fun c=>ks++[c])).map (mkV c)) (by simp [hK]) (fun i y v hy hM=>?_) (fun v hM=>by rw [hM,List.take_length])) (fun r hr=>hr.elim) (fun v hv=>.some hv)
      simp only [mkV]
      rw [W02 _ (by simp only [Q5];omega)]
      simp only [U0]
      rw [X4 (by simp only [Q5,U3,U4];omega)]
      simp only [U0]
      have hil:=(List.getElem?_eq_some_iff.1 hy).1
      have hvl:v.length≤1000 * 1000+1000:=by
       rw [hM,U7,U5,Z4h,U7,U6,U6]
       have:=Nat.mul_le_mul (show min j T.length≤1000 by omega) (show L.length≤1000 by omega)
       omega
      rw [X4 (by simp only [Q5,U3,U4];omega)]
      refine .some ?_
      simp only [Y9]
      rw [hM,List.take_add_one,hy]
      simp [mkV]
     ·have hsl:s.length≤400:=by rw [hI];omega
      dsimp only
      rw [X4 (by rw [hu];simp only [Q5];omega)]
      simp only [U0]
      exact .some (by simp only [Q5l];rw [hnext,hI,hu])
   ·cases o with
    | ret r=>exact .some ho
    | brk s=>exact .some ho
    | go s=>exact ho.elim
theorem X91 {w:List Q4}(hw:WW w){t:Q6}(ht:t∈tys w){d:Nat}(hd:d≤4):Q0y NN w t (d:Int)=some (if (Q0e w d t).length≤400 then (Q0e w d t,true) else ([],false)):=by
 suffices hs:Ret (Q0y NN w t (d:Int)) (fun r=>r=if (Q0e w d t).length≤400 then (Q0e w d t,true) else ([],false)) by
  obtain ⟨a,e,rfl⟩:=hs
  exact e
 unfold Q0y
 rw [Z9n hw ht]
 simp only [U0,Bool.not_true,U2,if_false]
 rw [Q86]
 have e0:(decide ((0:Int)≤(d:Int))&&decide ((d:Int)≤4))=true:=by simp only [Bool.and_eq_true,decide_eq_true_eq];omega
 rw [e0]
 simp only [U0,Bool.not_true,U2,if_false]
 rw [X7j hw d NN t ht (by simp only [NN];omega) (by omega)]
 simp only [U0]
 refine Ret.ite (fun h=>?_) (fun h=>?_)
 ·rw [X1] at h
  rw [if_neg (by omega)]
  exact .some rfl
 ·rw [V2] at h
  have hl:(Q0e w d t).length≤400:=by omega
  rw [if_pos hl,X3n hw d NN t ht (by simp only [NN];omega) (by omega) hl]
  simp only [U0]
  refine Ret.ctl (Z4 (Q0e w d t) (fun i s=>s=(Q0e w d t).take i) (fun _=>False) (fun s=>s=Q0e w d t) (by simp) (fun i v s hv hI=>?_) (fun s hI=>by rw [hI,List.take_length])) (fun r hr=>hr.elim) (fun s hs=>.some (by rw [hs]))
  have hg:=Z8b d t v (U1 hv)
  rw [Z95 d NN v (Z0f hw d t v ht hg) (by simp only [NN];omega)]
  simp only [U0]
  rw [X4 (by rw [hI];simp only [U6,U3,U4,Q5];omega)]
  refine .some ?_
  simp only [Y9]
  rw [hI,List.take_add_one,hv]
  rfl
theorem W65:∀ (d:Nat) (t:W3) (lst:List Q3) (v:Q1) (a:Int) (bs:List W9) (k:Nat),runT d t lst v=some (a,bs,k)→k≤d:=by
 intro d
 induction d with
 | zero=>intro t lst v a bs k h;cases h
 | succ d ih=>
  intro t lst v a bs k h
  rw [runT] at h
  split at h
  ·rw [U12] at h
   obtain ⟨u,_,h⟩:=h
   split at h
   ·simp only [Option.some.injEq,Prod.mk.injEq] at h
    omega
   ·rw [U11] at h
    obtain ⟨r,hr,h⟩:=h
    simp only [Prod.mk.injEq] at h
    have:=ih _ _ _ r.1 r.2.1 r.2.2 hr
    omega
  split at h
  ·rw [U12] at h
   obtain ⟨c,_,h⟩:=h
   rw [U12] at h
   obtain ⟨l,_,h⟩:=h
   split at h
   ·simp only [Option.some.injEq,Prod.mk.injEq] at h
    omega
   ·split at h
    ·have:=ih _ _ _ a bs k h
     omega
    ·cases h
  ·simp only [Option.some.injEq,Prod.mk.injEq] at h
   omega
theorem W5k {r:Z9}(h:ROk r 5000):Ret (Q2p NN r) (fun a=>a.1∈Q0s∧a.2.1∈tys a.1∧(∀ c∈a.2.2.1,Q2i a.1 a.2.1 c.pat=true)∧a.2.2.1.length≤5∧Nx r a.2.2.2.2 4000):=by
 unfold Q2p
 refine Ret.bind (W5l (h.le (by omega))) (fun a ha=>?_)
 obtain ⟨h1,h2,h3⟩:=ha
 refine Ret.bind (W11 (ww h1) h2 (ROk.nx (c:=500) (h.le (by omega)) h3)) (fun b hb=>?_)
 exact .some ⟨h1,h2,hb.1,hb.2.1,(h3.trans hb.2.2).le' (by omega)⟩
theorem W31 (code:List Int)(hb:∀ x∈code,0≤x∧x≤255):Ret (Q0z NN code) (fun a=>a.1∈Q0s∧a.2.1∈tys a.1∧a.2.2.length≤9):=by
 unfold Q0z
 refine Ret.bind (X3h code hb) (fun r hr=>?_)
 refine Ret.bind (W5k (hr.le (by omega))) (fun a ha=>?_)
 obtain ⟨h1,h2,h3,h4,h5⟩:=ha
 have hr1:ROk a.2.2.2.2 1000:=ROk.nx (c:=4000) (hr.le (by omega)) h5
 refine Ret.ctl (R:=fun _=>False) (B:=fun (s:Z9×List Q3)=>ROk s.1 100∧s.2.length≤8∧∀ c∈s.2,c.pat.kids.length≤100) ?_ (fun r hr=>hr.elim) (fun s hs=>?_)
 ·have hk:∀ c∈a.2.2.1,c.pat.kids.length≤100:=fun c hc=>by have:=X1v (ww h1) h2 (h3 c hc);omega
  refine Ret.ite (fun _=>?_) (fun _=>.some ⟨hr1.le (by omega),by simp only;omega,hk⟩)
  refine Ret.bind (Q3d (hr1.le (by omega)) (by omega) (by omega)) (fun b hb=>?_)
  have hr2:ROk b.2 999:=ROk.nx (c:=1) hr1 hb.2.2
  refine Ret.ite (fun _=>?_) (fun _=>.some ⟨hr2.le (by omega),by simp only;omega,hk⟩)
  simp only [Q2o,U0]
  rw [X4 (by simp [Q5];omega)]
  refine .some ⟨hr2.le (by omega),by simp;omega,fun c hc=>?_⟩
  rcases List.mem_append.1 hc with hc | hc
  ·exact hk c hc
  ·simp at hc;subst hc;simp
 ·refine Ret.bind (X2f (hs.1.le (by omega)) s.2 hs.2.1 hs.2.2) (fun b hb=>.some ⟨h1,h2,hb.1⟩)
def upTo (w:List Q4)(t:Q6)(d:Int):List Q1×Bool:=if 0≤d∧d≤4∧(Q0e w d.toNat t).length≤400 then (Q0e w d.toNat t,true) else ([],false)
theorem Z78 {w:List Q4}(hw:WW w){t:Q6}(ht:t∈tys w)(d:Int):Q0y NN w t d=some (upTo w t d):=by
 by_cases h:0≤d∧d≤4
 ·obtain ⟨k,rfl⟩:∃ k:Nat,d=(k:Int):=⟨d.toNat,by omega⟩
  rw [X91 hw ht (by omega)]
  unfold upTo
  simp only [Int.toNat_natCast]
  by_cases hl:(Q0e w k t).length≤400
  ·rw [if_pos hl,if_pos ⟨h.1,h.2,hl⟩]
  ·rw [if_neg hl,if_neg (fun q=>hl q.2.2)]
 ·unfold Q0y
  rw [Z9n hw ht]
  simp only [U0,Bool.not_true,U2,if_false]
  rw [Q86]
  have e0:(decide ((0:Int)≤d)&&decide (d≤4))=false:=by
   rw [Bool.and_eq_false_iff,decide_eq_false_iff_not,decide_eq_false_iff_not]
   omega
  rw [e0]
  unfold upTo
  rw [if_neg (fun q=>h ⟨q.1,q.2.1⟩)]
  rfl
theorem X5f {α:Type}(M:Nat)(a b:List α):(a.take M++b).take M=(a++b).take M:=by
 rw [List.take_append,List.take_append,List.take_take,Nat.min_self]
 congr 1
 rw [U6]
 by_cases h:a.length≤M
 ·rw [Nat.min_eq_right h]
 ·rw [Nat.min_eq_left (by omega),show M-M=0 by omega,show M-a.length=0 by omega]
theorem W5r {α:Type}(M:Nat)(a b:List α):(a++b.take M).take M=(a++b).take M:=by
 rw [List.take_append,List.take_append,List.take_take,Nat.min_eq_left (by omega)]
theorem Q95 {α:Type}{l:List α}{k:Nat}{x:α}(h:l[k]?=some x):l.take (k+1)=l.take k++[x]:=by
 rw [List.take_add_one,h];rfl
theorem W2g (M:Nat)(out:List (List Q1))(l:List Q1):(tupV (out.take (M+1)) (l.take (M+1))).take (M+1)=(tupV out l).take (M+1):=by
 by_cases hl:l.length≤M+1
 ·rw [List.take_of_length_le hl]
  rcases Nat.eq_zero_or_pos l.length with h0 | h0
  ·rw [List.eq_nil_of_length_eq_zero h0]
   have:∀ o:List (List Q1),tupV o []=[]:=fun o=>by simp [tupV]
   rw [this,this]
  ·have h1:tupV out l=tupV (out.take (M+1)) l++tupV (out.drop (M+1)) l:=by
    unfold tupV
    rw [←List.flatMap_append,List.take_append_drop]
   rw [h1]
   by_cases ho:out.length≤M+1
   ·rw [List.drop_of_length_le ho]
    simp [tupV]
   ·rw [List.take_append_of_le_length]
    rw [Z4h,U6,Nat.min_eq_left (by omega)]
    exact Nat.le_mul_of_pos_right _ h0
 ·cases out with
  | nil=>simp [tupV]
  | cons q out=>
   have e1:∀ (o:List (List Q1)) (x:List Q1),tupV (q::o) x=(x.map fun c=>q++[c])++tupV o x:=fun o x=>by simp [tupV]
   rw [List.take_succ_cons,e1,e1,List.take_append_of_le_length (by simp;omega),List.take_append_of_le_length (by simp;omega),List.map_take,List.take_take,Nat.min_self]
theorem X1w (M:Nat):∀ (ls:List (List Q1)) (out:List (List Q1)),(((ls.map (List.take (M+1))).foldl (fun o l=>(tupV o l).take (M+1)) (out.take (M+1))))=(ls.foldl tupV out).take (M+1)
 | [],out=>rfl
 | l::ls,out=>by
  simp only [List.map_cons,List.foldl_cons]
  rw [W2g,X1w M ls (tupV out l)]
theorem X63 {α β ρ:Type}{M:Nat}(hM:M≤1000)(g:α→β){F:Nat→α→List β→Option (Ctl ρ (List β))}
  (hF:∀ (k:Nat) (x:α) (s:List β),s.length≤M+1→F k x s=if ile (lenZ s.length) (M:Int)=true then some (.go (s++[g x])) else some (.brk s)) (l:List α) (s0:List β) (h0:s0.length≤M+1) :
  Ret (forL F 0 l s0) (CtlQ (fun _=>False) (fun s=>s=(s0++l.map g).take (M+1))):=by
 refine Z4 l (fun k s=>s=(s0++(l.take k).map g).take (M+1)) (fun _=>False) (fun s=>s=(s0++l.map g).take (M+1)) (by simp;rw [List.take_of_length_le h0]) (fun k x s hx hI=>?_) (fun s hI=>by rw [hI,List.take_length])
 have hsl:s.length≤M+1:=by rw [hI,U6];omega
 rw [hF k x s hsl]
 have hk:=(List.getElem?_eq_some_iff.1 hx).1
 by_cases h:s.length≤M
 ·rw [if_pos (by rw [Q03,Y0];omega)]
  refine .some ?_
  simp only [Y9]
  have hs:s=s0++(l.take k).map g:=by
   rw [hI] at h ⊢
   rw [U6] at h
   exact List.take_of_length_le (by omega)
  rw [Q95 hx,List.map_append,←List.append_assoc,←hs,List.take_of_length_le (by simp;omega)]
  rfl
 ·rw [if_neg (by rw [Q03,Y0];omega)]
  refine .some ?_
  simp only [Q8p]
  have hlen:M+1≤(s0++(l.take k).map g).length:=by
   have:s.length=M+1:=by omega
   rw [hI,U6] at this
   omega
  have he:s0++l.map g=(s0++(l.take k).map g)++(l.drop k).map g:=by rw [List.append_assoc,←List.map_append,List.take_append_drop]
  rw [hI,he,List.take_append_of_le_length hlen]
theorem X5r (M:Nat)(hM:M≤1000)(ls:List (List Q1))(hl:ls.length≤1000):Q5g ls (M:Int)=some (ls.foldl (fun o l=>(tupV o l).take (M+1)) [[]]):=by
 suffices hs:Ret (Q5g ls (M:Int)) (fun r=>r=ls.foldl (fun o l=>(tupV o l).take (M+1)) [[]]) by
  obtain ⟨a,e,rfl⟩:=hs
  exact e
 unfold Q5g
 refine Ret.ctl (Z4 ls (fun k s=>(s=(ls.take k).foldl (fun o l=>(tupV o l).take (M+1)) [[]])∧∀ q∈s,q.length=k) (fun _=>False) (fun s=>s=ls.foldl (fun o l=>(tupV o l).take (M+1)) [[]]) ⟨rfl,by simp⟩ (fun k l out hx hI=>?_) (fun s hI=>by rw [hI.1,List.take_length])) (fun r hr=>hr.elim) (fun s hs=>.some hs)
 obtain ⟨hI,hq⟩:=hI
 have hk:=(List.getElem?_eq_some_iff.1 hx).1
 refine Ret.ctl (R:=fun _=>False) (B:=fun s=>s=(tupV out l).take (M+1)) ?_ (fun r hr=>hr.elim) (fun s hs=>?_)
 ·refine Z4 out (fun i s=>s=(tupV (out.take i) l).take (M+1)) (fun _=>False) (fun s=>s=(tupV out l).take (M+1)) (by simp [tupV]) (fun i q s hqi hI2=>?_) (fun s hI2=>by rw [hI2,List.take_length])
  have hql:=hq q (U1 hqi)
  have hsl:s.length≤M+1:=by rw [hI2,U6];omega
  have hnext:tupV (out.take (i+1)) l=tupV (out.take i) l++l.map fun c=>q++[c]:=by
   unfold tupV
   rw [Q95 hqi]
   simp
  by_cases h:s.length≤M
  ·rw [if_pos (by rw [Q03,Y0];omega)]
   refine Ret.ctl (X63 hM (fun c=>q++[c]) (fun k2 x s2 hs2=>?_) l s hsl) (fun r hr=>hr.elim) (fun s2 hs2=>.some ?_)
   ·by_cases h2:ile (lenZ s2.length) (M:Int)=true
    ·rw [if_pos h2,if_pos h2,X4 (by simp only [U4,Q5];omega)]
     simp only [U0]
     rw [X4 (by simp only [U3,U4,Q5];omega)]
     simp only [U0]
     rw [X4 (by simp only [U3,U4,Q5];omega)]
     rfl
    ·rw [if_neg h2,if_neg h2]
   ·simp only [Y9]
    rw [hs2,hnext,hI2,X5f]
  ·rw [if_neg (by rw [Q03,Y0];omega)]
   refine .some ?_
   simp only [Q8p]
   have hlen:M+1≤(tupV (out.take i) l).length:=by
    have:s.length=M+1:=by omega
    rw [hI2,U6] at this
    omega
   have he:tupV out l=tupV (out.take i) l++tupV (out.drop i) l:=by
    unfold tupV
    rw [←List.flatMap_append,List.take_append_drop]
   rw [hI2,he,List.take_append_of_le_length hlen]
 ·subst hs
  refine .some ⟨?_,fun q hq2=>?_⟩
  ·rw [Q95 hx,List.foldl_append,←hI]
   rfl
  ·have hq3:=List.mem_of_mem_take hq2
   simp only [tupV,List.mem_flatMap,U10] at hq3
   obtain ⟨a,ha,c,_,rfl⟩:=hq3
   simp [hq a ha]
theorem X8l {w:List Q4}(hw:WW w){M:Nat}(hM:M≤1000):∀ (d n:Nat) (t:Q6),t∈tys w→d+20≤n→d≤100→10≤M→Q4v n w t (d:Int) (M:Int)=some ((Q0e w d t).take (M+1)):=by
 intro d
 induction d with
 | zero=>
  intro n t ht hn hd hM10
  obtain ⟨n,rfl⟩:∃ k,n=k+1:=⟨n-1,by omega⟩
  unfold Q4v
  rw [if_pos (by rw [X1];omega)]
  rfl
 | succ d ih=>
  intro n t ht hn hd hM10
  obtain ⟨n,rfl⟩:∃ k,n=k+1:=⟨n-1,by omega⟩
  have hT:=hw.ty t ht
  suffices hs:Ret (Q4v (n+1) w t ((d+1:Nat):Int) (M:Int)) (fun r=>r=(Q0e w (d+1) t).take (M+1)) by
   obtain ⟨a,e,rfl⟩:=hs
   exact e
  unfold Q4v
  rw [if_neg (by rw [X1];omega)]
  rw [Q0e]
  refine Ret.ite (fun hd'=>?_) (fun hd'=>?_)
  ·rw [Z8] at hd'
   rw [if_pos hd']
   refine Ret.ctl (Q1r (fun s:List Q1×Int=>∃ k:Nat,k≤10∧s=((List.range k).map numV,(k:Int))) (fun s=>(10-s.2).toNat) (fun _=>False) (fun s=>s.1=(List.range 10).map numV) ⟨0,by omega,rfl⟩ (fun s hI=>?_) n (by simp;omega)) (fun r hr=>hr.elim) (fun s hs=>.some ?_)
   ·obtain ⟨k,hk,rfl⟩:=hI
    dsimp only
    by_cases h9:k≤9
    ·rw [if_pos (by rw [Q03];omega),X4 (by simp only [U7,List.length_range,U3,U4,Q5];omega)]
     simp only [U0]
     rw [V0 (by omega) (by omega)]
     exact .some ⟨⟨k+1,by omega,by rw [List.range_succ,List.map_append];rfl⟩,by simp only;omega⟩
    ·rw [if_neg (by rw [Q03];omega)]
     exact .some (by simp only [Q8p];rw [show k=10 by omega])
   ·rw [hs,List.take_of_length_le (by simp;omega)]
  ·rw [W2] at hd'
   rw [if_neg hd',hT.c1]
   simp only [U0]
   have e1:wsub .i64 ((d+1:Nat):Int) 1=(d:Int):=by rw [Q2k]<;>omega
   rw [e1]
   refine Ret.ctl (Z4 (X5 w t) (fun i s=>s=(((X5 w t).take i).flatMap fun c=>(((V6 w t c).map (Q0e w d)).foldl tupV [[]]).map (mkV c)).take (M+1)) (fun _=>False) (fun s=>s=((X5 w t).flatMap fun c=>(((V6 w t c).map (Q0e w d)).foldl tupV [[]]).map (mkV c)).take (M+1)) (by simp) (fun i c s hc hI=>?_) (fun s hI=>by rw [hI,List.take_length])) (fun r hr=>hr.elim) (fun s hs=>.some hs)
   have hcm:=U1 hc
   have hnext:((X5 w t).take (i+1)).flatMap (fun c=>(((V6 w t c).map (Q0e w d)).foldl tupV [[]]).map (mkV c))=((X5 w t).take i).flatMap (fun c=>(((V6 w t c).map (Q0e w d)).foldl tupV [[]]).map (mkV c))++(((V6 w t c).map (Q0e w d)).foldl tupV [[]]).map (mkV c):=by
    rw [Q95 hc];simp
   have hsl:s.length≤M+1:=by rw [hI,U6];omega
   by_cases h:s.length≤M
   ·rw [if_pos (by rw [Q03,Y0];omega),hT.a1 c hcm]
    simp only [U0]
    have hal:=hT.al c hcm
    refine Ret.ctl (Z4 (V6 w t c) (fun k u=>u=((V6 w t c).take k).map fun a=>(Q0e w d a).take (M+1)) (fun _=>False) (fun u=>u=(V6 w t c).map fun a=>(Q0e w d a).take (M+1)) (by simp) (fun k a u ha hI2=>?_) (fun u hI2=>by rw [hI2,List.take_length])) (fun r hr=>hr.elim) (fun u hu=>?_)
    ·rw [ih n a (hT.at_ c hcm a (U1 ha)) (by omega) (by omega) hM10]
     simp only [U0]
     have hk:=(List.getElem?_eq_some_iff.1 ha).1
     rw [X4 (by rw [hI2];simp only [U7,U6,U3,U4,Q5];omega)]
     refine .some ?_
     simp only [Y9]
     rw [hI2,Q95 ha,List.map_append]
     rfl
    ·dsimp only
     have hul:u.length≤1000:=by rw [hu,U7];omega
     rw [X5r M hM u hul]
     simp only [U0]
     have htup:u.foldl (fun o l=>(tupV o l).take (M+1)) [[]]=(((V6 w t c).map (Q0e w d)).foldl tupV [[]]).take (M+1):=by
      have:=X1w M ((V6 w t c).map (Q0e w d)) [[]]
      rw [List.map_map,List.take_of_length_le (by simp)] at this
      rw [hu,←this]
      rfl
     rw [htup]
     refine Ret.ctl (X63 hM (mkV c) (fun k2 x s2 hs2=>?_) _ s hsl) (fun r hr=>hr.elim) (fun s2 hs2=>.some ?_)
     ·by_cases h2:ile (lenZ s2.length) (M:Int)=true
      ·rw [if_pos h2,if_pos h2,X4 (by simp only [U3,U4,Q5];omega)]
       rfl
      ·rw [if_neg h2,if_neg h2]
     ·simp only [Y9]
      rw [hs2,hnext,hI,List.map_take,W5r,X5f]
   ·rw [if_neg (by rw [Q03,Y0];omega)]
    refine .some ?_
    simp only [Q8p]
    have hlen:M+1≤(((X5 w t).take i).flatMap fun c=>(((V6 w t c).map (Q0e w d)).foldl tupV [[]]).map (mkV c)).length:=by
     have:s.length=M+1:=by omega
     rw [hI,U6] at this
     omega
    have he:(X5 w t).flatMap (fun c=>(((V6 w t c).map (Q0e w d)).foldl tupV [[]]).map (mkV c))=((X5 w t).take i).flatMap (fun c=>(((V6 w t c).map (Q0e w d)).foldl tupV [[]]).map (mkV c))++((X5 w t).drop i).flatMap (fun c=>(((V6 w t c).map (Q0e w d)).foldl tupV [[]]).map (mkV c)):=by
     rw [←List.flatMap_append,List.take_append_drop]
    rw [hI,he,List.take_append_of_le_length hlen]
theorem Z6w {w:List Q4}(hw:WW w){t:Q6}(ht:t∈tys w)(d:Int):Q1u NN w t d=some (upTo w t d):=by
 suffices hs:Ret (Q1u NN w t d) (fun r=>r=upTo w t d) by
  obtain ⟨a,e,rfl⟩:=hs
  exact e
 unfold Q1u
 rw [X5m hw ht]
 simp only [U0,Bool.not_true,U2,if_false]
 unfold upTo
 refine Ret.ite (fun h=>?_) (fun h=>?_)
 ·rw [X1] at h
  rw [if_neg (fun q=>by omega)]
  exact .some rfl
 refine Ret.ite (fun h2=>?_) (fun h2=>?_)
 ·rw [X1] at h2
  rw [if_neg (fun q=>by omega)]
  exact .some rfl
 rw [V2] at h h2
 obtain ⟨k,rfl⟩:∃ k:Nat,d=(k:Int):=⟨d.toNat,by omega⟩
 rw [show (400:Int)=((400:Nat):Int) from rfl,X8l hw (by decide) k NN t ht (by simp only [NN];omega) (by omega) (by decide)]
 simp only [U0,Int.toNat_natCast]
 refine Ret.ite (fun h3=>?_) (fun h3=>?_)
 ·rw [X1,Y0,U6] at h3
  rw [if_neg (fun q=>by omega)]
  exact .some rfl
 rw [V2,Y0,U6] at h3
 have hl:(Q0e w k t).length≤400:=by omega
 rw [if_pos ⟨by omega,by omega,hl⟩,List.take_of_length_le (by omega)]
 refine Ret.ctl (Q1r (fun s:List Q1×Int=>∃ i:Nat,i≤(Q0e w k t).length∧s=(Q0e w k t,(i:Int))) (fun s=>((Q0e w k t).length-s.2).toNat) (fun _=>False) (fun s=>s.1=Q0e w k t) ⟨0,by omega,rfl⟩ (fun s hI=>?_) NN (by simp only [NN];omega)) (fun r hr=>hr.elim) (fun s hs=>.some (by rw [hs]))
 obtain ⟨i,hi,rfl⟩:=hI
 dsimp only
 by_cases hlt:i<(Q0e w k t).length
 ·rw [if_pos (by rw [X1,Y0];omega)]
  have hx:(Q0e w k t)[i]?=some ((Q0e w k t)[i]'hlt):=by simp
  rw [Q16 hx]
  simp only [U0]
  have hg:=Z8b k t _ (U1 hx)
  rw [Z7i k NN _ (Z0f hw k t _ ht hg) (by simp only [NN];omega)]
  simp only [U0]
  have hset:setI (Q0e w k t) (i:Int) ((Q0e w k t)[i]'hlt)=some (Q0e w k t):=by
   unfold setI
   rw [if_pos ⟨by omega,by simpa using hlt⟩]
   simp
  rw [hset]
  simp only [U0]
  rw [V0 (by omega) (by omega)]
  exact .some ⟨⟨i+1,by omega,rfl⟩,by simp only;omega⟩
 ·rw [if_neg (by rw [X1,Y0];omega)]
  exact .some rfl
theorem X67 (code:List Int)(hb:∀ x∈code,0≤x∧x≤255):Ret (Q0t NN code) (fun a=>a.1∈Q0s∧a.2.1∈tys a.1∧a.2.2.length≤10):=by
 unfold Q0t
 refine Ret.bind (X3h code hb) (fun r hr=>?_)
 refine Ret.bind (W31 code hb) (fun a ha=>?_)
 obtain ⟨w,t,l⟩:=a
 obtain ⟨h1,h2,h3⟩:=ha
 simp only at h1 h2 h3 ⊢
 refine Ret.ctl (R:=fun _=>False) (B:=fun s=>s.length≤10) ?_ (fun r h=>h.elim) (fun s hs=>.some ⟨h1,h2,hs⟩)
 refine Ret.ite (fun c1=>?_) (fun _=>.some (by simp only [Q5l];omega))
 refine Ret.ite (fun c2=>?_) (fun _=>.some (by simp only [Q5l];omega))
 rw [X1] at c1 c2
 simp only [lenZ] at c1 c2
 refine Ret.bind (Q3d (hr.le (by omega)) (by omega) (by omega)) (fun p hp=>?_)
 refine Ret.ite (fun _=>?_) (fun _=>.some (by simp only [Q5l];omega))
 refine Ret.bind (Q3d (r:=p.2) ((hr.le (by omega:1+1≤1000000)).nx hp.2.2) (by simp only [lenZ];omega) (by simp only [lenZ];omega)) (fun q hq=>?_)
 obtain ⟨x,hx,_⟩:=Q5a hq.1 hq.2.1
 rw [hx]
 simp only [U0]
 rw [X4 (by simp only [U3,U4,Q5];omega)]
 exact .some (by simp only [Q5l,U5,U3,U4];omega)
def Z3b (tr:W3)(l:List Q3)(vs:List Q1):Nat:=(vs.map (Z5i tr l)).sum
theorem X4i (tr:W3)(l:List Q3)(v:Q1):Z5i tr l v≤300:=by
 unfold Z5i
 cases h:runT 300 tr l v with
 | none=>simp
 | some r=>exact W65 300 tr l v r.1 r.2.1 r.2.2 h
theorem W20 (tr:W3)(l:List Q3):∀ vs:List Q1,Z3b tr l vs≤300 * vs.length
 | []=>by simp [Z3b]
 | v::vs=>by
  have h1:=X4i tr l v
  have h2:=W20 tr l vs
  unfold Z3b at h2 ⊢
  simp only [List.map_cons,List.sum_cons,U3]
  omega
def Z7x (w:List Q4)(t:Q6)(l:List Q3)(d:Int)(tr:W3)(ok:Bool):Int×Bool:=
 if ok=true∧(upTo w t d).2=true then ((Z3b tr l (upTo w t d).1:Int),true) else (0,false)
theorem Z1w {w:List Q4}{t:Q6}{d:Int}{v:Q1}(h:v∈(upTo w t d).1):Q30 w 10 t v:=by
 unfold upTo at h
 split at h
 ·rename_i hd
  exact W1k d.toNat 10 t v (by omega) (Z8b _ t v h)
 ·cases h
theorem W0j {w:List Q4}{t:Q6}{d:Int} : (upTo w t d).1.length≤400:=by
 unfold upTo
 split
 ·rename_i hd
  exact hd.2.2
 ·simp
theorem X7p {w:List Q4}(hww:w∈Q0s){t:Q6}(ht:t∈tys w)(l:List Q3)(pick:Int) :
  ∃ tr ok,(W8 NN w t l pick=some (tr,ok)∧Z3a 300 tr)∧∀ d:Int,Q36 NN w t l pick d=some (Z7x w t l d tr ok)∧Q4l NN w t l pick d=some (Z7x w t l d tr ok):=by
 have hw:=ww hww
 obtain ⟨tr,ok,e1,e2,h1,h2,h3⟩:=(Z0m hww ht l pick).eq
 refine ⟨tr,ok,⟨e1,h2⟩,fun d=>?_⟩
 have hlen:=W0j (w:=w) (t:=t) (d:=d)
 have hstep:∀ (k:Nat) (v:Q1),(upTo w t d).1[k]?=some v→Z3b tr l ((upTo w t d).1.take (k+1))=Z3b tr l ((upTo w t d).1.take k)+Z5i tr l v∧Z3b tr l ((upTo w t d).1.take k)≤120000:=fun k v hv=>by
  constructor
  ·unfold Z3b
   rw [Q95 hv]
   simp
  ·have:=W20 tr l ((upTo w t d).1.take k)
   rw [U6] at this
   omega
 constructor
 ·suffices hs:Ret (Q36 NN w t l pick d) (fun r=>r=Z7x w t l d tr ok) by
   obtain ⟨a,e,rfl⟩:=hs
   exact e
  unfold Q36
  rw [e1,Z78 hw ht d]
  simp only [U0]
  unfold Z7x
  cases ok with
  | false=>exact .some (by simp)
  | true=>
   simp only [Bool.not_true,U2,if_false,true_and]
   refine Ret.ite (fun h=>.some (by simp at h;simp [h])) (fun h=>?_)
   have hu:(upTo w t d).2=true:=by simpa using h
   rw [if_pos hu]
   refine Ret.ctl (Z4 (upTo w t d).1 (fun k s=>s=(Z3b tr l ((upTo w t d).1.take k):Int)) (fun _=>False) (fun s=>s=(Z3b tr l (upTo w t d).1:Int)) (by simp [Z3b]) (fun k v s hv hI=>?_) (fun s hI=>by rw [hI,List.take_length])) (fun r hr=>hr.elim) (fun s hs=>.some (by rw [hs]))
   obtain ⟨a,bs,q1,q2⟩:=X4h hww ht e1 h2 (Z1w (U1 hv))
   obtain ⟨g1,g2⟩:=hstep k v hv
   have g3:=X4i tr l v
   rw [q1]
   simp only [U0]
   refine .some ?_
   simp only [Y9]
   rw [hI,g1,V0 (by omega) (by omega)]
   omega
 ·suffices hs:Ret (Q4l NN w t l pick d) (fun r=>r=Z7x w t l d tr ok) by
   obtain ⟨a,e,rfl⟩:=hs
   exact e
  unfold Q4l
  rw [e2,Z6w hw ht d]
  simp only [U0]
  unfold Z7x
  cases ok with
  | false=>exact .some (by simp)
  | true=>
   simp only [Bool.not_true,U2,if_false,true_and]
   refine Ret.ite (fun h=>.some (by simp at h;simp [h])) (fun h=>?_)
   have hu:(upTo w t d).2=true:=by simpa using h
   rw [if_pos hu]
   refine Ret.ctl (Z4 (upTo w t d).1 (fun k s=>s=(Z3b tr l ((upTo w t d).1.take k):Int)) (fun _=>False) (fun s=>s=(Z3b tr l (upTo w t d).1:Int)) (by simp [Z3b]) (fun k v s hv hI=>?_) (fun s hI=>by rw [hI,List.take_length])) (fun r hr=>hr.elim) (fun s hs=>.some (by rw [hs]))
   obtain ⟨a,bs,q1,q2⟩:=X4h hww ht e1 h2 (Z1w (U1 hv))
   obtain ⟨g1,g2⟩:=hstep k v hv
   have g3:=X4i tr l v
   rw [q2]
   simp only [U0]
   refine .some ?_
   simp only [Y9]
   rw [hI,g1,V0 (by omega) (by omega)]
   omega
theorem W00 (code:List Int)(hb:∀ x∈code,0≤x∧x≤255):Ret (Q35 NN code) (fun a=>a.1∈Q0s∧a.2.1∈tys a.1∧-1≤a.2.2.2.2∧a.2.2.2.2≤3):=by
 unfold Q35
 refine Ret.bind (X67 code hb) (fun a ha=>?_)
 refine Ret.bind (X3h code hb) (fun r hr=>?_)
 refine Ret.bind (Q8n (hr.le (by omega)) _ (by simp) (by simp)) (fun b hb2=>?_)
 refine Ret.bind (Q8n ((hr.le (by omega:1+1≤1000000)).nx hb2.2) _ (by simp) (by simp)) (fun c hc=>.some ⟨ha.1,ha.2.1,?_⟩)
 have:=hc.1
 simp only [U8,List.not_mem_nil,or_false] at this
 simp only
 omega
def X7l (l:List Q3)(v:Q1):Nat:=match runK (Q4b 0 0 l) l v 50000 0 with
 | some r=>r.2.2.length
 | none=>0
def Q8o (l:List Q3)(vs:List Q1):Nat:=(vs.map (X7l l)).sum
theorem X4j (l:List Q3)(v:Q1):X7l l v≤50000:=by
 unfold X7l
 cases h:runK (Q4b 0 0 l) l v 50000 0 with
 | none=>simp
 | some r=>exact Z0x h
theorem X7k (l:List Q3):∀ vs:List Q1,Q8o l vs≤50000 * vs.length
 | []=>by simp [Q8o]
 | v::vs=>by
  have h1:=X4j l v
  have h2:=X7k l vs
  unfold Q8o at h2 ⊢
  simp only [List.map_cons,List.sum_cons,U3]
  omega
theorem W2m {w:List Q4}{t:Q6}{l:List Q3}(h:(Q6g w t l).2=true):Q6g w t l=(Q4b 0 0 l,true):=by
 unfold Q6g at h ⊢
 split
 ·rfl
 ·rename_i h'
  rw [if_neg h'] at h
  cases h
theorem Z5x {w:List Q4}(hww:w∈Q0s){t:Q6}(ht:t∈tys w){l:List Q3}(hc:Q6g w t l=(Q4b 0 0 l,true)){v:Q1}(hv:Q30 w 10 t v) :
  ∃ (k:Nat) (r:Int×List W9×List (List Int)),runK (Q4b 0 0 l) l v k 0=some r∧r.2.2.length=X7l l v∧(∀ told:X0→Option Unit,(∀ s,told s=some ())→Q28 NN (Q4b 0 0 l) l v told=some (r.1,r.2.1,(X7l l v:Int)))∧Q4u NN l (Q4b 0 0 l) v=some r:=by
 obtain ⟨k,ps,hk,h1,h2,h3,hcl⟩:=W21 hww ht hc hv
 have hdv:=Z0f (ww hww) 10 t v ht hv
 have h4:=Z4u h1 (50000-k)
 rw [show 50000-k+k=50000 by omega] at h4
 have h5:ps.length=X7l l v:=by unfold X7l;rw [h4]
 refine ⟨k,_,h1,h5,fun told ht'=>?_,Z8q hdv h3 (by omega) h1 (by omega)⟩
 rw [←h5]
 exact Z9o hdv h3 (by omega) ht' h1 (by omega)
def Z7w (w:List Q4)(t:Q6)(l:List Q3)(d:Int):Int×Bool:=
 if (Q6g w t l).2=true∧(upTo w t d).2=true then ((Q8o l (upTo w t d).1:Int),true) else (0,false)
theorem X2q {w:List Q4}(hww:w∈Q0s){t:Q6}(ht:t∈tys w)(l:List Q3)(d:Int):Q3k NN w t l d=some (Z7w w t l d)∧Q3h NN w t l d=some (Z7w w t l d):=by
 have hw:=ww hww
 have hlen:=W0j (w:=w) (t:=t) (d:=d)
 have hstep:∀ (k:Nat) (v:Q1),(upTo w t d).1[k]?=some v→Q8o l ((upTo w t d).1.take (k+1))=Q8o l ((upTo w t d).1.take k)+X7l l v∧Q8o l ((upTo w t d).1.take k)≤20000000:=fun k v hv=>by
  constructor
  ·unfold Q8o
   rw [Q95 hv]
   simp
  ·have:=X7k l ((upTo w t d).1.take k)
   rw [U6] at this
   omega
 constructor
 ·suffices hs:Ret (Q3k NN w t l d) (fun r=>r=Z7w w t l d) by
   obtain ⟨a,e,rfl⟩:=hs
   exact e
  unfold Q3k
  rw [Z79 hww ht,Z78 hw ht d]
  simp only [U0]
  unfold Z7w
  by_cases hs:Q6g w t l=(Q4b 0 0 l,true)
  case neg=>
   rw [Z4m hs]
   exact .some (by simp)
  rw [hs]
  simp only [Bool.not_true,U2,if_false,true_and,eq_self]
  refine Ret.ite (fun h=>.some (by simp at h;simp [h])) (fun h=>?_)
  have hu:(upTo w t d).2=true:=by simpa using h
  rw [if_pos hu]
  refine Ret.ctl (Z4 (upTo w t d).1 (fun k s=>s=(Q8o l ((upTo w t d).1.take k):Int)) (fun _=>False) (fun s=>s=(Q8o l (upTo w t d).1:Int)) (by simp [Q8o]) (fun k v s hv hI=>?_) (fun s hI=>by rw [hI,List.take_length])) (fun r hr=>hr.elim) (fun s hs=>.some (by rw [hs]))
  obtain ⟨n,r,_,_,q1,_⟩:=Z5x hww ht hs (Z1w (U1 hv))
  obtain ⟨g1,g2⟩:=hstep k v hv
  have g3:=X4j l v
  rw [q1 (fun a0=>Q5k a0) (fun _=>rfl)]
  simp only [U0]
  refine .some ?_
  simp only [Y9]
  rw [hI,g1,V0 (by omega) (by omega)]
  omega
 ·suffices hs:Ret (Q3h NN w t l d) (fun r=>r=Z7w w t l d) by
   obtain ⟨a,e,rfl⟩:=hs
   exact e
  unfold Q3h
  rw [Z6x hww ht,Z6w hw ht d]
  simp only [U0]
  unfold Z7w
  by_cases hs:Q6g w t l=(Q4b 0 0 l,true)
  case neg=>
   rw [Z4m hs]
   exact .some (by simp)
  rw [hs]
  simp only [Bool.not_true,U2,if_false,true_and,eq_self]
  refine Ret.ite (fun h=>.some (by simp at h;simp [h])) (fun h=>?_)
  have hu:(upTo w t d).2=true:=by simpa using h
  rw [if_pos hu]
  refine Ret.ctl (Z4 (upTo w t d).1 (fun k s=>s=(Q8o l ((upTo w t d).1.take k):Int)) (fun _=>False) (fun s=>s=(Q8o l (upTo w t d).1:Int)) (by simp [Q8o]) (fun k v s hv hI=>?_) (fun s hI=>by rw [hI,List.take_length])) (fun r hr=>hr.elim) (fun s hs=>.some (by rw [hs]))
  obtain ⟨n,r,_,q0,_,q2⟩:=Z5x hww ht hs (Z1w (U1 hv))
  obtain ⟨g1,g2⟩:=hstep k v hv
  have g3:=X4j l v
  rw [q2]
  simp only [U0]
  refine .some ?_
  simp only [Y9]
  rw [Y0,q0,hI,g1,V0 (by omega) (by omega)]
  omega
theorem V3i {f g:Q1→Nat} : ∀ {vs:List Q1},(∀ v∈vs,f v≤g v)→(vs.map f).sum≤(vs.map g).sum
 | [],_=>by simp
 | v::vs,h=>by
  have h1:=h v (by simp)
  have h2:=V3i (vs:=vs) fun x hx=>h x (by simp [hx])
  simp only [List.map_cons,List.sum_cons]
  omega
theorem X3k (code:List Int)(hb:∀ x∈code,0≤x∧x≤255):Q2x NN code=some true:=by
 suffices hr:Ret (Q2x NN code) (fun r=>r=true) by
  obtain ⟨_,e,rfl⟩:=hr
  exact e
 unfold Q2x
 refine Ret.ite (fun _=>.some rfl) (fun _=>?_)
 refine Ret.bind (W00 code hb) (fun a ha=>?_)
 obtain ⟨w,t,l,pick,d⟩:=a
 obtain ⟨hww,ht,hd1,hd3⟩:=ha
 simp only at hww ht hd1 hd3 ⊢
 obtain ⟨tr,ok,_,hboth⟩:=X7p hww ht l pick
 obtain ⟨tr0,ok0,⟨e0,h0⟩,hb0⟩:=X7p hww ht l 0
 rw [(hboth d).1,(hboth d).2,(hb0 d).1,(X2q hww ht l d).1,(X2q hww ht l d).2]
 have r1:ieq (Z7x w t l d tr ok).1 (Z7x w t l d tr ok).1=true:=by simp [ieq]
 have r2:ieq (Z7w w t l d).1 (Z7w w t l d).1=true:=by simp [ieq]
 simp only [U0,r1,r2,beq_self_eq_true,if_true]
 refine Ret.ite (fun _=>.some rfl) (fun hok0=>?_)
 refine Ret.ite (fun _=>.some rfl) (fun hokS=>?_)
 refine .some ?_
 have ha:ok0=true∧(upTo w t d).2=true:=by
  have:(Z7x w t l d tr0 ok0).2=true:=by simpa using hok0
  unfold Z7x at this
  split at this
  ·assumption
  ·cases this
 have hs:(Q6g w t l).2=true∧(upTo w t d).2=true:=by
  have:(Z7w w t l d).2=true:=by simpa using hokS
  unfold Z7w at this
  split at this
  ·assumption
  ·cases this
 have g1:Z7x w t l d tr0 ok0=((Z3b tr0 l (upTo w t d).1:Int),true):=by
  unfold Z7x;rw [if_pos ha]
 have g2:Z7w w t l d=((Q8o l (upTo w t d).1:Int),true):=by
  unfold Z7w;rw [if_pos hs]
 rw [g1,g2]
 obtain ⟨rfl,_⟩:=ha
 have hle:Z3b tr0 l (upTo w t d).1≤Q8o l (upTo w t d).1:=V3i fun v hv=>by
  have hg:=Z1w hv
  obtain ⟨k,hk⟩:=Z1x hww ht e0 hg
  obtain ⟨n,r,q1,q2,_,_⟩:=Z5x hww ht (W2m hs.1) hg
  have:=(X2m hww ht e0 hg hk q1).2
  rw [q2] at this
  have hc:Z5i tr0 l v=k:=by unfold Z5i;rw [hk]
  omega
 rw [Q03]
 simp only
 omega
end Go.Proofs.YtgjpamkllimhdaaGreat
