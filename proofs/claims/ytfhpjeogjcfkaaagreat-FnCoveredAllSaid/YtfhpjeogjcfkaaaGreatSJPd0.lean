import Derived.Test.YtfhpjeogjcfkaaaGreatSJMd0
import Derived.Test.YtfhpjeogjcfkaaaGreatSJP1
set_option linter.unusedSimpArgs false
set_option linter.unusedVariables false
namespace Go.Proofs.YtfhpjeogjcfkaaaGreat
open Go Go.RowKit
theorem Z9i (l:List Q1)(f:Q1→Option Bool)(g:Q1→Bool)(hf:∀ x∈l,f x=some (g x)):J9 l f=some (l.any g):=X55 (Q7t l f g hf)
theorem W9t {w:List Q4}(hw:WW w):∀ (d:Nat) (t:Q1) (v:Q3),t∈tys w→Q1j w d t v→2 * cntV v+1≤3 ^ d:=by
 intro d
 induction d with
 | zero=>intro t v _ h;exact h.elim
 | succ d ih=>
  intro t v ht h
  have hT:=hw.ty t ht
  have hcv:=Z4w v
  have hp:3≤3 ^ (d+1):=by
   have:=Nat.one_le_two_pow (n:=d)
   have h3:1≤3 ^ d:=Nat.one_le_pow _ _ (by omega)
   rw [Nat.pow_succ];omega
  simp only [Q1j] at h
  split at h
  ·obtain ⟨_,_,_,h4⟩:=h
   rw [h4] at hcv
   simp only [cntV.cntVs] at hcv
   omega
  ·obtain ⟨_,h2,h3,h4⟩:=h
   have hal:=hT.al _ h2
   have key:∀ k,k≤v.kids.length→2 * cntV.cntVs (v.kids.take k)+k≤k * 3 ^ d:=by
    intro k
    induction k with
    | zero=>intro _;simp [cntV.cntVs]
    | succ k ihk=>
     intro hk
     have hx:v.kids[k]?=some (v.kids[k]'(by omega)):=by simp
     have ha:(Z6 w t v.ctor)[k]?=some ((Z6 w t v.ctor)[k]'(by omega)):=by simp
     have h5:=ih _ _ (hT.at_ _ h2 _ (U1 ha)) (h4 k _ _ ha hx)
     have h6:=ihk (by omega)
     rw [Z1g _ _ _ hx]
     have e:(k+1) * 3 ^ d=k * 3 ^ d+3 ^ d:=Nat.succ_mul _ _
     omega
   have h7:=key v.kids.length (Nat.le_refl _)
   rw [List.take_length] at h7
   have h8:v.kids.length * 3 ^ d≤3 * 3 ^ d:=Nat.mul_le_mul_right _ (by omega)
   rw [Nat.pow_succ]
   by_cases h0:v.kids.length=0
   ·rw [List.eq_nil_of_length_eq_zero h0] at hcv
    simp only [cntV.cntVs] at hcv
    rw [Nat.pow_succ] at hp
    omega
   ·have h9:v.kids.length=1∨v.kids.length=2∨v.kids.length=3:=by omega
    have h3d:1≤3 ^ d:=Nat.one_le_pow _ _ (by omega)
    rcases h9 with h9 | h9 | h9<;>rw [h9] at h7<;>omega
theorem X31 {w:List Q4}(hw:WW w){d:Nat}(hd:d≤4){t:Q1}{v:Q3}(ht:t∈tys w)(h:Q1j w d t v):Q29 w t v=true:=by
 have h1:=Z6c d 4 t v hd h
 have h2:=W9t hw 4 t v ht h1
 simp only [Q29,Bool.and_eq_true,decide_eq_true_eq]
 exact ⟨(Z4k 10 t v).2 (Z6c 4 10 t v (by omega) h1),by omega⟩
def Q1t (w:List Q4):Nat→Q1→List Q3
 | 0,_=>[]
 | d+1,t=>if t.data = -1 then (List.range 10).map numV else (X1 w t).flatMap fun c=>(((Z6 w t c).map (Q1t w d)).foldl tupV [[]]).map (mkV c)
theorem X2l:∀ (ls:List (List Q3)) (out:List (List Q3)),(out=[]∨[]∈ls)→ls.foldl tupV out=[]
 | [],out,h=>by
  rcases h with h | h
  ·exact h
  ·cases h
 | l::ls,out,h=>by
  rw [List.foldl_cons]
  refine X2l ls _ ?_
  rcases h with rfl | h
  ·left;simp [tupV]
  ·rcases U8.1 h with rfl | h
   ·left;simp [tupV]
   ·right;exact h
theorem X0o:∀ (ls:List (List Q3)) (out:List (List Q3)),(∀ l∈ls,l≠[])→out.length≤(ls.foldl tupV out).length
 | [],_,_=>Nat.le_refl _
 | l::ls,out,h=>by
  rw [List.foldl_cons]
  have h1:=X0o ls (tupV out l) fun x hx=>h x (by simp [hx])
  rw [Z2r] at h1
  have h2:1≤l.length:=List.length_pos_iff.2 (h l (by simp))
  exact Nat.le_trans (Nat.le_mul_of_pos_right _ h2) h1
theorem Z9j {ls:List (List Q3)}(h:∀ l∈ls,l≠[])(k:Nat):((ls.take k).foldl tupV [[]]).length≤(ls.foldl tupV [[]]).length:=by
 rw [←List.take_append_drop k ls,List.foldl_append,List.take_append_drop]
 exact X0o _ _ fun l hl=>h l (List.mem_of_mem_drop hl)
theorem Z49 {ls:List (List Q3)}{k:Nat}{l:List Q3}(h:ls[k]?=some l):(ls.take (k+1)).foldl tupV [[]]=tupV ((ls.take k).foldl tupV [[]]) l:=by
 rw [List.take_add_one,h];simp
theorem W2r {ls:List (List Q3)}(h:∀ l∈ls,l≠[]):1≤(ls.foldl tupV [[]]).length:=X0o ls [[]] h
theorem X2h {w:List Q4} : ∀ (d:Nat) (t:Q1) (v:Q3),v∈Q1t w d t→Q1j w d t v:=by
 intro d
 induction d with
 | zero=>intro t v h;simp [Q1t] at h
 | succ d ih=>
  intro t v h
  rw [Q1t] at h
  rw [Q1j]
  split
  ·rename_i hd
   rw [if_pos hd] at h
   obtain ⟨n,hn,rfl⟩:=U10.1 h
   have:=List.mem_range.1 hn
   exact ⟨rfl,by simp only [numV];omega,by simp only [numV];omega,rfl⟩
  ·rename_i hd
   rw [if_neg hd] at h
   obtain ⟨c,hc,h⟩:=List.mem_flatMap.1 h
   obtain ⟨ks,hks,rfl⟩:=U10.1 h
   obtain ⟨a,b,ha,rfl,hl,hb⟩:=Z0c _ _ _ hks
   simp only [List.mem_singleton] at ha
   subst ha
   simp only [U7] at hl
   refine ⟨rfl,hc,by simp [mkV,hl],fun j u x hu hx=>ih u x ?_⟩
   simp only [mkV] at hu hx
   exact hb j x (Q1t w d u) (by simpa using hx) (by rw [List.getElem?_map,hu];rfl)
theorem W7u {a b m:Nat} : min (min a m * min b m) m=min (a * b) m:=by
 rcases Nat.eq_zero_or_pos a with rfl | ha
 ·simp
 rcases Nat.eq_zero_or_pos b with rfl | hb
 ·simp
 rcases Nat.le_total a m with h1 | h1<;>rcases Nat.le_total b m with h2 | h2
 ·rw [Nat.min_eq_left h1,Nat.min_eq_left h2]
 ·rw [Nat.min_eq_left h1,Nat.min_eq_right h2,Nat.min_eq_right,Nat.min_eq_right]
  ·exact Nat.le_trans h2 (Nat.le_mul_of_pos_left _ ha)
  ·exact Nat.le_mul_of_pos_left _ ha
 ·rw [Nat.min_eq_right h1,Nat.min_eq_left h2,Nat.min_eq_right,Nat.min_eq_right]
  ·exact Nat.le_trans h1 (Nat.le_mul_of_pos_right _ hb)
  ·exact Nat.le_mul_of_pos_right _ hb
 ·rw [Nat.min_eq_right h1,Nat.min_eq_right h2]
  rcases Nat.eq_zero_or_pos m with rfl | hm
  ·simp
  ·rw [Nat.min_eq_right (Nat.le_mul_of_pos_left _ hm),Nat.min_eq_right (Nat.le_trans h2 (Nat.le_mul_of_pos_left _ ha))]
theorem X8n (a b:Nat):imin (a:Int) (b:Int)=((min a b:Nat):Int):=by
 unfold imin
 split<;>omega
theorem X4w {w:List Q4}(hw:WW w):∀ (d n:Nat) (t:Q1),t∈tys w→d+2≤n→d≤100→Q0d n w t (d:Int)=some ((min (Q1t w d t).length 401:Nat):Int):=by
 intro d
 induction d with
 | zero=>
  intro n t ht hn _
  obtain ⟨n,rfl⟩:∃ k,n=k+1:=⟨n-1,by omega⟩
  unfold Q0d
  rw [if_pos (by simp [ieq])]
  rfl
 | succ d ih=>
  intro n t ht hn hd
  obtain ⟨n,rfl⟩:∃ k,n=k+1:=⟨n-1,by omega⟩
  have hT:=hw.ty t ht
  suffices hs:Ret (Q0d (n+1) w t ((d+1:Nat):Int)) (fun a=>a=((min (Q1t w (d+1) t).length 401:Nat):Int)) by
   obtain ⟨a,e,rfl⟩:=hs
   exact e
  unfold Q0d
  rw [if_neg (by rw [X2];omega)]
  have e1:wsub .i64 ((d+1:Nat):Int) 1=(d:Int):=by rw [Q3z]<;>omega
  rw [e1]
  by_cases hi:t.data = -1
  ·rw [if_pos (by rw [X2];exact hi)]
   refine .some ?_
   simp [Q1t,hi]
  ·rw [if_neg (by rw [X2];exact hi),hT.c2]
   simp only [U0]
   have hv:Q1t w (d+1) t=(X1 w t).flatMap fun c=>(((Z6 w t c).map (Q1t w d)).foldl tupV [[]]).map (mkV c):=by rw [Q1t,if_neg hi]
   rw [hv]
   generalize hF:(fun c=>(((Z6 w t c).map (Q1t w d)).foldl tupV [[]]).map (mkV c))=F
   refine Ret.ctl (Z1 (X1 w t) (fun i s=>s=((min (((X1 w t).take i).flatMap F).length 401:Nat):Int)) (fun _=>False) (fun s=>s=((min ((X1 w t).flatMap F).length 401:Nat):Int)) (by simp) (fun i c s hc hI=>?_) (fun s hI=>by rw [hI,List.take_length])) (fun r hr=>hr.elim) (fun s hs=>.some hs)
   have hcm:=U1 hc
   rw [hT.a2 _ hcm]
   simp only [U0]
   refine Ret.ctl (Z1 (Z6 w t c) (fun k s=>s=((min ((((Z6 w t c).map (Q1t w d)).take k).foldl tupV [[]]).length 401:Nat):Int)) (fun _=>False) (fun s=>s=((min (F c).length 401:Nat):Int)) (by simp) (fun k a u ha hJ=>?_) (fun s hJ=>?_)) (fun r hr=>hr.elim) (fun u hu=>?_)
   ·rw [ih n a (hT.at_ _ hcm _ (U1 ha)) (by omega) (by omega)]
    simp only [U0]
    refine .some ?_
    simp only [Q2r]
    rw [Z49 (l:=Q1t w d a) (by rw [List.getElem?_map,ha];rfl),Z2r,hJ]
    generalize ((((Z6 w t c).map (Q1t w d)).take k).foldl tupV [[]]).length=A
    generalize (Q1t w d a).length=B
    have hm:min A 401 * min B 401≤401 * 401:=Nat.mul_le_mul (Nat.min_le_right _ _) (Nat.min_le_right _ _)
    have e:((min A 401:Nat):Int) * ((min B 401:Nat):Int)=((min A 401 * min B 401:Nat):Int):=by simp
    rw [Z23 (by rw [e];omega) (by rw [e];omega),e,show (401:Int)=((401:Nat):Int) from rfl,X8n,W7u]
   ·rw [hJ,List.take_of_length_le (by simp),←hF,U7]
   ·refine .some ?_
    simp only [Q2r]
    rw [hu,hI,List.take_add_one,hc]
    simp only [Option.toList_some,List.flatMap_append,List.flatMap_cons,List.flatMap_nil,List.append_nil,U5]
    generalize (((X1 w t).take i).flatMap F).length=A
    generalize (F c).length=B
    rw [Q10 (by omega) (by omega)]
    have e:((min A 401:Nat):Int)+((min B 401:Nat):Int)=((min A 401+min B 401:Nat):Int):=by omega
    rw [e,show (401:Int)=((401:Nat):Int) from rfl,X8n]
    congr 1
    omega
theorem X7m (l:List Q3)(h:l.length≤Q7):Q1o l=some l:=by
 unfold Q1o
 rw [W5 (by simpa using h)]
 rfl
theorem X1i {α β:Type}(l:List α)(F:α→List β)(i:Nat):((l.take i).flatMap F).length≤(l.flatMap F).length:=by
 conv=>rhs;rw [←List.take_append_drop i l,List.flatMap_append,U5]
 omega
theorem X11 {w:List Q4}(hw:WW w):∀ (d n:Nat) (t:Q1),t∈tys w→d+20≤n→d≤100→(Q1t w d t).length≤400→Q3i n w t (d:Int)=some (Q1t w d t):=by
 intro d
 induction d with
 | zero=>
  intro n t ht hn _ _
  obtain ⟨n,rfl⟩:∃ k,n=k+1:=⟨n-1,by omega⟩
  unfold Q3i
  rw [if_pos (by simp [ieq])]
  rfl
 | succ d ih=>
  intro n t ht hn hd hlen
  obtain ⟨n,rfl⟩:∃ k,n=k+1:=⟨n-1,by omega⟩
  have hT:=hw.ty t ht
  suffices hs:Ret (Q3i (n+1) w t ((d+1:Nat):Int)) (fun a=>a=Q1t w (d+1) t) by
   obtain ⟨a,e,rfl⟩:=hs
   exact e
  unfold Q3i
  rw [if_neg (by rw [X2];omega)]
  have e1:wsub .i64 ((d+1:Nat):Int) 1=(d:Int):=by rw [Q3z]<;>omega
  rw [e1]
  by_cases hi:t.data = -1
  ·rw [if_pos (by rw [X2];exact hi)]
   have hv:Q1t w (d+1) t=(List.range 10).map numV:=by rw [Q1t,if_pos hi]
   rw [hv]
   refine Ret.ctl (Q4f (fun s:List Q3×Int=>∃ k:Nat,k≤10∧s=((List.range k).map numV,(k:Int))) (fun s=>(10-s.2).toNat) (fun _=>False) (fun s=>s.1=(List.range 10).map numV) ⟨0,by omega,rfl⟩ (fun s hI=>?_) n (by simp;omega)) (fun r hr=>hr.elim) (fun s hs=>.some hs)
   obtain ⟨k,hk,rfl⟩:=hI
   refine Ret.ite (fun h1=>?_) (fun h1=>?_)
   ·rw [Z9] at h1
    simp only [Q4p,U0]
    rw [W5 (by simp only [U7,List.length_range,U3,U4,Q7];omega)]
    simp only [U0]
    have e2:wadd .i64 (k:Int) 1=((k+1:Nat):Int):=by rw [Q10]<;>omega
    rw [e2]
    refine .some ⟨⟨k+1,by omega,?_⟩,by simp only;omega⟩
    rw [List.range_succ,List.map_append];rfl
   ·rw [J0] at h1
    refine .some ?_
    simp only at h1
    rw [show k=10 by omega]
    exact rfl
  ·rw [if_neg (by rw [X2];exact hi),hT.c2]
   simp only [U0]
   have hv:Q1t w (d+1) t=(X1 w t).flatMap fun c=>(((Z6 w t c).map (Q1t w d)).foldl tupV [[]]).map (mkV c):=by rw [Q1t,if_neg hi]
   rw [hv] at hlen ⊢
   generalize hF:(fun c=>(((Z6 w t c).map (Q1t w d)).foldl tupV [[]]).map (mkV c))=F at *
   refine Ret.ctl (Z1 (X1 w t) (fun i s=>s=((X1 w t).take i).flatMap F) (fun _=>False) (fun s=>s=(X1 w t).flatMap F) (by simp) (fun i c s hc hI=>?_) (fun s hI=>by rw [hI,List.take_length])) (fun r hr=>hr.elim) (fun s hs=>.some hs)
   have hcm:=U1 hc
   have hFc:F c=(((Z6 w t c).map (Q1t w d)).foldl tupV [[]]).map (mkV c):=by rw [←hF]
   have hnext:((X1 w t).take (i+1)).flatMap F=((X1 w t).take i).flatMap F++F c:=by
    rw [List.take_add_one,hc];simp
   have hle:=X1i (X1 w t) F (i+1)
   rw [hnext,U5] at hle
   have hat:=hT.at_ _ hcm
   have hal:=hT.al _ hcm
   refine Ret.bind (P:=CtlQ (fun r:Ctl (List Q3) (List Q3)=>RndQ (fun _=>False) (fun s=>s=(X1 w t).flatMap F) (fun s=>s=((X1 w t).take (i+1)).flatMap F) r) (fun s=>s=((X1 w t).take (i+1)).flatMap F)) ?_ (fun o ho=>?_)
   ·rw [hT.a2 _ hcm]
    simp only [U0]
    have hcf:J9 (Z6 w t c) (fun a0=>Q5b n a0 w ((d+1:Nat):Int))=some ((Z6 w t c).any fun a=>decide ((Q1t w d a).length=0)):=by
     refine Z9i _ _ _ fun a ha=>?_
     unfold Q5b
     rw [e1,X4w hw d n a (hat _ ha) (by omega) (by omega)]
     simp only [U0,ieq]
     congr 1
     by_cases h0:(Q1t w d a).length=0
     ·simp [h0]
     ·rw [decide_eq_false h0,decide_eq_false];omega
    rw [hcf]
    simp only [U0]
    cases hany:(Z6 w t c).any fun a=>decide ((Q1t w d a).length=0) with
    | true=>
     simp only [if_true]
     refine .some ?_
     simp only [Z01]
     rw [hnext,hI]
     obtain ⟨a,ha,h0⟩:=List.any_eq_true.1 hany
     simp only [decide_eq_true_eq] at h0
     have:F c=[]:=by
      rw [hFc,X2l _ _ (.inr (U10.2 ⟨a,ha,List.eq_nil_of_length_eq_zero h0⟩))];rfl
     rw [this,List.append_nil]
    | false=>
     simp only [U2,if_false]
     have hne:∀ l∈(Z6 w t c).map (Q1t w d),l≠[]:=fun l hl e=>by
      obtain ⟨a,ha,rfl⟩:=U10.1 hl
      have:=List.any_eq_false.1 hany a ha
      simp [e] at this
     have hlenF:(F c).length=(((Z6 w t c).map (Q1t w d)).foldl tupV [[]]).length:=by rw [hFc,U7]
     refine Ret.ctl (Z1 (Z6 w t c) (fun k s=>s=((((Z6 w t c).map (Q1t w d)).take k).foldl tupV [[]]).map (mkV c)) (fun _=>False) (fun s=>s=F c) (by simp [mkV]) (fun k a u ha hJ=>?_) (fun s hJ=>by rw [hJ,List.take_of_length_le (by simp),hFc])) (fun r hr=>hr.elim) (fun u hu=>?_)
     ·have hk1:=Z9j hne (k+1)
      have hk0:=Z9j hne k
      have hg:((Z6 w t c).map (Q1t w d))[k]?=some (Q1t w d a):=by rw [List.getElem?_map,ha];rfl
      have hp:1≤((((Z6 w t c).map (Q1t w d)).take k).foldl tupV [[]]).length:=W2r fun l hl=>hne l (List.mem_of_mem_take hl)
      have ha1:1≤(Q1t w d a).length:=List.length_pos_iff.2 (hne _ (U1 hg))
      rw [Z49 hg,Z2r] at hk1
      have hva:(Q1t w d a).length≤400:=by
       have:=Nat.le_mul_of_pos_left (Q1t w d a).length hp
       omega
      rw [ih n a (hat _ (U1 ha)) (by omega) (by omega) hva]
      simp only [U0]
      rw [Z49 hg]
      have hkl:∀ ks∈(((Z6 w t c).map (Q1t w d)).take k).foldl tupV [[]],ks.length≤3:=fun ks hks=>by
       obtain ⟨x,y,hx,rfl,hl,_⟩:=Z0c _ _ _ hks
       simp only [List.mem_singleton] at hx
       subst hx
       simp only [U6,U7] at hl
       simp only [List.nil_append]
       omega
      generalize ((((Z6 w t c).map (Q1t w d)).take k).foldl tupV [[]])=T at *
      generalize Q1t w d a=L at *
      refine Ret.ctl (Z1 u (fun j z=>z=(tupV (T.take j) L).map (mkV c)) (fun _=>False) (fun z=>z=(tupV T L).map (mkV c)) (by simp [tupV]) (fun j x z hx hK=>?_) (fun z hK=>by rw [hK,hJ,U7,List.take_length])) (fun r hr=>hr.elim) (fun z hz=>.some hz)
      rw [hJ,List.getElem?_map] at hx
      obtain ⟨ks,hks,rfl⟩:=U11.1 hx
      have hjl:=(List.getElem?_eq_some_iff.1 hks).1
      have hks3:=hkl ks (U1 hks)
      have hnj:tupV (T.take (j+1)) L=tupV (T.take j) L++L.map (fun c=>ks++[c]):=by
       rw [List.take_add_one,hks];simp [tupV]
      rw [hnj]
      refine Ret.ctl (Z1 L (fun i v=>v=(tupV (T.take j) L++(L.take i).map (fun c=>ks++[c])).map (mkV c)) (fun _=>False) (fun v=>v=(tupV (T.take j) L++L.map (fun c=>ks++[c])).map (mkV c)) (by simp [hK]) (fun i y v hy hM=>?_) (fun v hM=>by rw [hM,List.take_length])) (fun r hr=>hr.elim) (fun v hv=>.some hv)
      simp only [mkV]
      rw [X7m _ (by simp only [Q7];omega)]
      simp only [U0]
      rw [W5 (by simp only [Q7,U3,U4];omega)]
      simp only [U0]
      have hil:=(List.getElem?_eq_some_iff.1 hy).1
      have hvl:v.length≤1000 * 1000+1000:=by
       rw [hM,U7,U5,Z2r,U7,U6,U6]
       have:=Nat.mul_le_mul (show min j T.length≤1000 by omega) (show L.length≤1000 by omega)
       omega
      rw [W5 (by simp only [Q7,U3,U4];omega)]
      refine .some ?_
      simp only [Q2r]
      rw [hM,List.take_add_one,hy]
      simp [mkV]
     ·have hsl:s.length≤400:=by rw [hI];omega
      dsimp only
      rw [W5 (by rw [hu];simp only [Q7];omega)]
      simp only [U0]
      exact .some (by simp only [Z01];rw [hnext,hI,hu])
   ·cases o with
    | ret r=>exact .some ho
    | brk s=>exact .some ho
    | go s=>exact ho.elim
theorem X6f {w:List Q4}(hw:WW w){t:Q1}(ht:t∈tys w){d:Nat}(hd:d≤4):Q1f NN w t (d:Int)=some (if (Q1t w d t).length≤400 then (Q1t w d t,true) else ([],false)):=by
 suffices hs:Ret (Q1f NN w t (d:Int)) (fun r=>r=if (Q1t w d t).length≤400 then (Q1t w d t,true) else ([],false)) by
  obtain ⟨a,e,rfl⟩:=hs
  exact e
 unfold Q1f
 rw [Z0s hw ht]
 simp only [U0,Bool.not_true,U2,if_false]
 rw [Q77]
 have e0:(decide ((0:Int)≤(d:Int))&&decide ((d:Int)≤4))=true:=by simp only [Bool.and_eq_true,decide_eq_true_eq];omega
 rw [e0]
 simp only [U0,Bool.not_true,U2,if_false]
 rw [X4w hw d NN t ht (by simp only [NN];omega) (by omega)]
 simp only [U0]
 refine Ret.ite (fun h=>?_) (fun h=>?_)
 ·rw [Z9] at h
  rw [if_neg (by omega)]
  exact .some rfl
 ·rw [J0] at h
  have hl:(Q1t w d t).length≤400:=by omega
  rw [if_pos hl,X11 hw d NN t ht (by simp only [NN];omega) (by omega) hl]
  simp only [U0]
  refine Ret.ctl (Z1 (Q1t w d t) (fun i s=>s=(Q1t w d t).take i) (fun _=>False) (fun s=>s=Q1t w d t) (by simp) (fun i v s hv hI=>?_) (fun s hI=>by rw [hI,List.take_length])) (fun r hr=>hr.elim) (fun s hs=>.some (by rw [hs]))
  have hg:=X2h d t v (U1 hv)
  rw [Z7a d NN v (Q7u hw d t v ht hg) (by simp only [NN];omega)]
  simp only [U0]
  rw [W5 (by rw [hI];simp only [U6,U3,U4,Q7];omega)]
  refine .some ?_
  simp only [Q2r]
  rw [hI,List.take_add_one,hv]
  rfl
theorem X80:∀ (ls:List (List Q3)) (out:List (List Q3)) (a b:List Q3),a∈out→b.length=ls.length→(∀ (i:Nat) (q:Q3) (l:List Q3),b[i]?=some q→ls[i]?=some l→q∈l)→a++b∈ls.foldl tupV out
 | [],out,a,b,ha,hl,_=>by
  have:b=[]:=List.length_eq_zero_iff.1 (by simpa using hl)
  subst this
  simpa using ha
 | l::ls,out,a,[],_,hl,_=>by simp at hl
 | l::ls,out,a,c::b,ha,hl,h=>by
  rw [List.foldl_cons]
  have hc:c∈l:=h 0 c l rfl rfl
  have:=X80 ls (tupV out l) (a++[c]) b (by simp only [tupV,List.mem_flatMap,U10];exact ⟨a,ha,c,hc,rfl⟩) (by simpa using hl) (fun i q m h1 h2=>h (i+1) q m (by simpa using h1) (by simpa using h2))
  simpa using this
theorem W72 {w:List Q4} : ∀ (d:Nat) (t:Q1) (v:Q3),Q1j w d t v→v∈Q1t w d t:=by
 intro d
 induction d with
 | zero=>intro t v h;exact h.elim
 | succ d ih=>
  intro t v h
  obtain ⟨c,n,ks⟩:=v
  rw [Q1j] at h
  rw [Q1t]
  split at h
  ·rename_i hd
   rw [if_pos hd]
   obtain ⟨h1,h2,h3,h4⟩:=h
   simp only at h1 h2 h3 h4
   subst h1 h4
   refine U10.2 ⟨n.toNat,List.mem_range.2 (by omega),?_⟩
   simp only [numV]
   rw [Int.toNat_of_nonneg h2]
  ·rename_i hd
   rw [if_neg hd]
   obtain ⟨h1,h2,h3,h4⟩:=h
   simp only at h1 h2 h3 h4
   subst h1
   refine List.mem_flatMap.2 ⟨c,h2,U10.2 ⟨ks,?_,rfl⟩⟩
   have:=X80 ((Z6 w t c).map (Q1t w d)) [[]] [] ks (by simp) (by simpa using h3) (fun i q l h5 h6=>?_)
   ·simpa using this
   ·rw [List.getElem?_map] at h6
    cases ha:(Z6 w t c)[i]? with
    | none=>rw [ha] at h6;cases h6
    | some a=>
     rw [ha] at h6
     simp only [Option.map_some,Option.some.injEq] at h6
     subst h6
     exact ih a q (h4 i a q ha h5)
def X3i (l:List Nat):Nat:=l.foldl max 0
theorem Z3u:∀ (l:List Nat) (a:Nat),a≤l.foldl max a∧(∀ x∈l,x≤l.foldl max a)∧∀ m,a≤m→(∀ x∈l,x≤m)→l.foldl max a≤m
 | [],a=>⟨Nat.le_refl _,by simp,fun m h _=>h⟩
 | b::l,a=>by
  obtain ⟨h1,h2,h3⟩:=Z3u l (max a b)
  simp only [List.foldl_cons]
  refine ⟨by omega,fun x hx=>?_,fun m ha hm=>h3 m (by have:=hm b (by simp);omega) (fun x hx=>hm x (by simp [hx]))⟩
  rcases U8.1 hx with rfl | hx
  ·omega
  ·exact h2 x hx
def depF:Nat→Q3→Nat
 | 0,_=>0
 | d+1,v=>X3i (v.kids.map (depF d))+1
theorem X9g {w:List Q4} : ∀ (d k:Nat) (t:Q1) (v:Q3),Q1j w d t v→depF d v≤k→Q1j w k t v
 | 0,_,_,_,h,_=>h.elim
 | d+1,0,t,v,_,hk=>by simp [depF] at hk
 | d+1,k+1,t,v,h,hk=>by
  rw [Q1j] at h ⊢
  split at h
  ·rename_i hd
   rw [if_pos hd]
   exact h
  ·rename_i hd
   rw [if_neg hd]
   refine ⟨h.1,h.2.1,h.2.2.1,fun j a x ha hx=>X9g d k a x (h.2.2.2 j a x ha hx) ?_⟩
   simp only [depF,X3i] at hk
   have:=(Z3u (v.kids.map (depF d)) 0).2.1 (depF d x) (U10.2 ⟨x,U1 hx,rfl⟩)
   omega
theorem V19:∀ (d:Nat) (v:Q3),depF d v≤d
 | 0,_=>Nat.le_refl _
 | d+1,v=>by
  simp only [depF,X3i]
  have:=(Z3u (v.kids.map (depF d)) 0).2.2 d (by omega) (fun x hx=>by
   obtain ⟨y,_,rfl⟩:=U10.1 hx
   exact V19 d y)
  omega
def upTo (w:List Q4)(t:Q1)(d:Int):List Q3×Bool:=if 0≤d∧d≤4∧(Q1t w d.toNat t).length≤400 then (Q1t w d.toNat t,true) else ([],false)
theorem X3x {w:List Q4}(hw:WW w){t:Q1}(ht:t∈tys w)(d:Int):Q1f NN w t d=some (upTo w t d):=by
 by_cases h:0≤d∧d≤4
 ·obtain ⟨k,rfl⟩:∃ k:Nat,d=(k:Int):=⟨d.toNat,by omega⟩
  rw [X6f hw ht (by omega)]
  unfold upTo
  simp only [Int.toNat_natCast]
  by_cases hl:(Q1t w k t).length≤400
  ·rw [if_pos hl,if_pos ⟨h.1,h.2,hl⟩]
  ·rw [if_neg hl,if_neg (fun q=>hl q.2.2)]
 ·unfold Q1f
  rw [Z0s hw ht]
  simp only [U0,Bool.not_true,U2,if_false]
  rw [Q77]
  have e0:(decide ((0:Int)≤d)&&decide (d≤4))=false:=by
   rw [Bool.and_eq_false_iff,decide_eq_false_iff_not,decide_eq_false_iff_not]
   omega
  rw [e0]
  unfold upTo
  rw [if_neg (fun q=>h ⟨q.1,q.2.1⟩)]
  rfl
theorem Y21 (a b:Nat):imax (a:Int) (b:Int)=((max a b:Nat):Int):=by
 unfold imax
 split<;>omega
theorem X0g:∀ (d n:Nat) (v:Q3),Z3z d v→d≤n→d≤1000→Q3w n v=some ((depF d v:Nat):Int)
 | 0,_,_,h,_,_=>h.elim
 | d+1,n,v,h,hn,hd=>by
  obtain ⟨n,rfl⟩:∃ m,n=m+1:=⟨n-1,by omega⟩
  suffices hs:Ret (Q3w (n+1) v) (fun r=>r=((depF (d+1) v:Nat):Int)) by
   obtain ⟨a,e,rfl⟩:=hs
   exact e
  unfold Q3w
  refine Ret.ctl (Z1 v.kids (fun k s=>s=((X3i ((v.kids.take k).map (depF d)):Nat):Int)) (fun _=>False) (fun s=>s=((X3i (v.kids.map (depF d)):Nat):Int)) (by simp [X3i]) (fun k x s hx hI=>?_) (fun s hI=>by rwa [List.take_length] at hI)) (fun r hr=>hr.elim) (fun s hs=>.some ?_)
  ·rw [X0g d n x (h.2 x (U1 hx)) (by omega) (by omega)]
   simp only [U0]
   refine .some ?_
   simp only [Q2r]
   rw [hI,Y21,List.take_add_one,hx]
   simp [X3i,List.foldl_append]
  ·have hm:X3i (v.kids.map (depF d))≤d:=(Z3u _ 0).2.2 d (by omega) (fun x hx=>by
    obtain ⟨y,_,rfl⟩:=U10.1 hx
    exact V19 d y)
   rw [hs,Q10 (by omega) (by omega)]
   simp [depF]
theorem Z7n (code:List Int)(hb:∀ x∈code,0≤x∧x≤255):Q22 NN code=some true:=by
 suffices hr:Ret (Q22 NN code) (fun r=>r=true) by
  obtain ⟨_,e,rfl⟩:=hr
  exact e
 unfold Q22
 refine Ret.ite (fun _=>.some rfl) (fun _=>?_)
 refine Ret.bind (Z8g code hb) (fun a ha=>?_)
 obtain ⟨w,t,cs⟩:=a
 obtain ⟨⟨hww,ht⟩,hfl⟩:=ha
 simp only at hww ht hfl ⊢
 have hw:=ww hww
 rw [Z4j hww ht,Z4c hww ht hfl]
 have hself:ieq (lenZ (tvR w t cs).1.length) (lenZ (tvR w t cs).1.length)=true:=by rw [X2]
 simp only [U0]
 rw [X3x hw ht]
 simp only [U0,beq_self_eq_true,Bool.not_true,U2,if_false,if_true,hself]
 refine Ret.ite (fun _=>.some rfl) (fun hok=>?_)
 refine Ret.ite (fun _=>.some rfl) (fun hup=>?_)
 by_cases hcl:Y5 w t cs=true
 ·have htv:tvR w t cs=(tvD w t cs,true):=by unfold tvR;rw [if_pos hcl]
  rw [htv]
  simp only
  have hu:(upTo w t 3).1=Q1t w 3 t:=by
   unfold upTo at hup ⊢
   split at hup
   ·rename_i h
    rw [if_pos h]
    rfl
   ·simp at hup
  rw [hu,Z20 hww ht]
  simp only [U0]
  refine Ret.ctl (Z1 (tvD w t cs) (fun _ _=>True) (fun _=>False) (fun _=>True) trivial (fun k v s hv _=>?_) (fun _ _=>trivial)) (fun r hr=>hr.elim) (fun _ _=>.some rfl)
  have hvv:Q29 w t v=true:=Z2q (U1 hv)
  rw [X12 hw ht,X61 hcl hvv]
  simp only [U0]
  cases hr:runD v 0 cs with
  | none=>
   have e1:ile 0 (-1:Int)=false:=rfl
   simp only [runR,e1,U2,if_false,U0]
   exact .some trivial
  | some x=>
   have e1:ile 0 (x.1:Int)=true:=by rw [J1];omega
   simp only [runR,e1,if_true]
   have hg:=Q4g hvv
   rw [X0g 10 NN v (Q7u hw 10 t v ht hg) (by decide) (by omega)]
   simp only [U0]
   by_cases hd:depF 10 v≤3
   ·have hm:(x.1:Int)∈covD w t cs (Q1t w 3 t):=W40.2 ⟨⟨hcl,List.all_eq_true.2 fun u hu=>X31 hw (by omega) ht (X2h 3 t u hu)⟩,v,W72 3 t v (X9g 10 3 t v hg hd),x.2,hr⟩
    rw [if_pos (by rw [J1];omega),X64,decide_eq_true hm]
    simp only [U0,Bool.not_true,U2,if_false]
    exact .some trivial
   ·rw [if_neg (by rw [J1];omega)]
    simp only [U0]
    exact .some trivial
 ·exfalso
  unfold tvR at hok
  rw [if_neg hcl] at hok
  simp at hok
end Go.Proofs.YtfhpjeogjcfkaaaGreat
