import Derived.Test.YtenmmbjgnlflnaaGreatBJMd0
import Derived.Test.YtenmmbjgnlflnaaGreatBJP1
set_option linter.unusedSimpArgs false
set_option linter.unusedVariables false
namespace Go.Proofs.YtenmmbjgnlflnaaGreat
open Go Go.RowKit
theorem Q5c (n:Nat):lenZ n=(n:Int):=rfl
def W5k:Nat→Q0→Prop
 | 0,_=>False
 | d+1,p=>∀ q∈p.kids,W5k d q
theorem Z6d {w:List Q4} : ∀ (d:Nat) (t:Q2) (p:Q0),Q0r w d t p=true→W5k d p:=by
 intro d
 induction d with
 | zero=>intro t p h;cases h
 | succ d ih=>
  intro t p h q hq
  obtain ⟨ho,hl⟩:=Q3c (Q2e h)
  obtain ⟨j,hj⟩:=List.mem_iff_getElem?.1 hq
  have hjl:=(List.getElem?_eq_some_iff.1 hj).1
  exact ih _ q (W9 h (show (V4 w t p)[j]?=some ((V4 w t p)[j]'(by omega)) by simp) hj)
theorem X9g {v:Q1} : ∀ {cs:List Z6} {k:Nat},runD v k cs=none→∀ c∈cs,∀ b,X7 10 c.pat v=some b→Q64 c.guard b=false
 | [],_,_,_,h=>by cases h
 | c::cs,k,h,x,hx=>by
  simp only [runD] at h
  intro b hb
  cases hm:X7 10 c.pat v with
  | none=>
   rw [hm] at h
   rcases U8.1 hx with rfl | hx
   ·rw [hm] at hb;cases hb
   ·exact X9g h x hx b hb
  | some l=>
   rw [hm] at h
   simp only at h
   split at h
   ·cases h
   ·rename_i hg
    rcases U8.1 hx with rfl | hx
    ·rw [hm] at hb;cases hb;simpa using hg
    ·exact X9g h x hx b hb
theorem W7a {v:Q1}{cs:List Z6}{k:Nat}{c:Z6}(hc:c∈cs)(h0:c.guard.op=0)(hm:(X7 10 c.pat v).isSome=true):(runD v k cs).isSome=true:=by
 cases h:runD v k cs with
 | some x=>rfl
 | none=>
  obtain ⟨b,hb⟩:=Option.isSome_iff_exists.1 hm
  have:=X9g h c hc b hb
  simp [Q64,h0] at this
def Y5e (w:List Q4)(F:List GFun)(c:Int)(cl:Int→Q1→Rn→Q1×Rn):Prop:=∀ (f:Int) (g:GFun) (v:Q1) (s:Rn),0≤f→F[f.toNat]?=some g→Q0z w g.typ.arg v=true→s.code=0→(cl f v s).2.code≠c
theorem V8p {w:List Q4}(hw:WW w)(hf:Fit w){F:List GFun}(hF:Z17 w F){c:Int}(hc0:c≠0)(hc4:c≠4){cl:Int→Q1→Rn→Q1×Rn}(hok:ClOk w F cl)(hcl:Y5e w F c cl){vars:List Q5}{l:List X1}(hl:Z8m w vars l) :
  ∀ (d:Nat) (t:Q2) (e:Z1) (s:Rn),t∈tys w→Q5e w (F.map (·.typ)) vars d t e=true→s.code=0→(evE w (F.map (·.typ)) cl l d t e s).2.code≠c:=by
 intro d
 induction d with
 | zero=>intro t e s _ h;cases h
 | succ d ih=>
  intro t e s ht h hs
  obtain ⟨hn,hlen⟩:=Q87 h
  rw [evE]
  by_cases h1:e.op=1
  ·rw [if_pos h1];show s.code≠c;omega
  rw [if_neg h1]
  by_cases h2:e.op=2
  ·rw [if_pos h2];show s.code≠c;omega
  rw [if_neg h2]
  have hkt:=Z0i hw (Z6e hF) ht hn
  have hq:=Z1p (w:=w) (ev:=evE w (F.map (·.typ)) cl l d) (Y9 w (F.map (·.typ)) t e) e.kids s hlen hs (fun j a x s' ha hx hs'=>Z1q hw hf hF hok hl d a x s' (hkt a (U1 ha)) (Q5d h ha hx) hs')
  have hnq:=W0y (w:=w) hc0 (ev:=evE w (F.map (·.typ)) cl l d) (Y9 w (F.map (·.typ)) t e) e.kids s hlen hs (fun j a x s' ha hx hs'=>ih a x s' (hkt a (U1 ha)) (Q5d h ha hx) hs')
  generalize hqe:evK (evE w (F.map (·.typ)) cl l d) (Y9 w (F.map (·.typ)) t e) e.kids s=q at *
  unfold finE
  split
  ·exact hnq
  rename_i hne
  have h0:q.2.code=0:=by simpa using hne
  have hq:=hq h0
  split
  ·exact hnq
  split
  ·split
   ·exact hnq
   ·exact fun h=>hc4 h.symm
  ·rename_i h4 h3
   have ho:e.op=5:=by
    rcases Z4h hn with ho | ho | ho | ho | ho
    ·exact absurd ho h1
    ·exact absurd ho h2
    ·exact absurd ho h3
    ·exact absurd ho h4
    ·exact ho
   obtain ⟨n0,n1,f,hfn,hfit⟩:=X9o hn ho
   obtain ⟨g,hg,rfl,gok⟩:=Z7f hF hfn
   have hk:Y9 w (F.map (·.typ)) t e=[g.typ.arg]:=by
    unfold Y9
    rw [if_neg (by omega),if_neg (by omega),if_pos ho,hfn]
    rfl
   rw [hk] at hq
   match hq1:q.1,hq with
   | [v],hq=>exact hcl e.n g v q.2 n0 hg hq.1 h0
theorem W9y {w:List Q4}(hw:WW w)(hf:Fit w){F:List GFun}(hF:Z17 w F)(htot:∀ g∈F,∀ v,Q0z w g.typ.arg v=true→runD v 0 g.clauses≠none):∀ k,Y5e w F 1 (evC w F k):=by
 intro k
 induction k with
 | zero=>
  intro f g v s h0 hg hv hs
  simp only [evC]
  split<;>omega
 | succ k ih=>
  intro f g v s h0 hg hv hs
  simp only [evC]
  split
  ·show (2:Int)≠1;omega
  rw [hg]
  simp only
  cases hr:runD v 0 g.clauses with
  | none=>exact absurd hr (htot g (U1 hg) v hv)
  | some x=>
   simp only
   have gok:=hF.2 g (U1 hg)
   obtain ⟨c,e,b,e1,e2,e3,e4,e5,e6,e7⟩:=X1w hw gok hv hr
   rw [List.getD_eq_getElem?_getD,e2]
   exact V8p hw hf hF (by omega) (by omega) (Z1r hw hf hF k) ih e7 10 _ e _ gok.res (Q3w e6) hs
theorem W41:∀ (d n:Nat) (p:Q0),W5k d p→d≤n→cntP p≤1000→Q1i n p=some p:=by
 intro d
 induction d with
 | zero=>intro n p h;exact h.elim
 | succ d ih=>
  intro n p h hn hc
  obtain ⟨n,rfl⟩:∃ k,n=k+1:=⟨n-1,by omega⟩
  have hcp:=Q46 p
  have hr:Ret (Q1i (n+1) p) (fun r=>r=p):=by
   unfold Q1i
   refine Ret.ctl (Z4 p.kids (fun k s=>s=p.kids.take k∧s.length≤cntP.cntPs (p.kids.take k)) (fun _=>False) (fun s=>s=p.kids) ⟨by simp,by simp⟩ (fun k q s hq hI=>?_) (fun s hI=>?_)) (fun r hr=>hr.elim) (fun s hs=>.some (Q0.ext' rfl rfl rfl rfl rfl hs))
   ·obtain ⟨i1,i2⟩:=hI
    have hct:=Q20 p.kids (k+1)
    have hcd:=Q6c p.kids k q hq
    have hq1:=Q9u q
    rw [ih n q (h q (U1 hq)) (by omega) (by omega)]
    simp only [U0]
    rw [V5 (by simp only [Q9,U3,U4];omega)]
    exact .some ⟨by rw [i1,List.take_add_one,hq];rfl,by simp;omega⟩
   ·rw [hI.1,List.take_length]
  obtain ⟨r,e,rfl⟩:=hr
  exact e
theorem X9a:∀ (d n:Nat) (p:Q0),W5k d p→d≤n→cntP p≤1000→Q4l n p=some p:=by
 intro d
 induction d with
 | zero=>intro n p h;exact h.elim
 | succ d ih=>
  intro n p h hn hc
  obtain ⟨n,rfl⟩:∃ k,n=k+1:=⟨n-1,by omega⟩
  have hcp:=Q46 p
  have hr:Ret (Q4l (n+1) p) (fun r=>r=p):=by
   unfold Q4l
   refine Ret.ctl (Z4 p.kids (fun k s=>s=p.kids.take k∧s.length≤cntP.cntPs (p.kids.take k)) (fun _=>False) (fun s=>s=p.kids) ⟨by simp,by simp⟩ (fun k q s hq hI=>?_) (fun s hI=>?_)) (fun r hr=>hr.elim) (fun s hs=>.some (Q0.ext' rfl rfl rfl rfl rfl hs))
   ·obtain ⟨i1,i2⟩:=hI
    have hct:=Q20 p.kids (k+1)
    have hcd:=Q6c p.kids k q hq
    have hq1:=Q9u q
    rw [ih n q (h q (U1 hq)) (by omega) (by omega)]
    simp only [U0]
    rw [V5 (by simp only [Q9,U3,U4];omega)]
    exact .some ⟨by rw [i1,List.take_add_one,hq];rfl,by simp;omega⟩
   ·rw [hI.1,List.take_length]
  obtain ⟨r,e,rfl⟩:=hr
  exact e
def tupD (out:List (List Q0))(l:List Q0):List (List Q0):=out.flatMap fun q=>l.map fun c=>q++[c]
def Z0v (p:Q0)(ks:List Q0):Q0:=Q0.mk p.op p.ctor p.n p.m p.var ks
def Z9:Nat→Q0→List Q0
 | 0,_=>[]
 | d+1,p=>if p.op=5 then p.kids.flatMap (Z9 d) else ((p.kids.map (Z9 d)).foldl tupD [[]]).map (Z0v p)
def orOk:Nat→Q0→Prop
 | 0,_=>False
 | d+1,p=>p.kids.length≤3∧(p.op=5→p.kids.length=2)∧∀ x∈p.kids,orOk d x
def Q97 (l:List Nat):Nat:=l.foldl (· * ·) 1
theorem X17 (l:List Nat):∀ a,l.foldl (· * ·) a=a * l.foldl (· * ·) 1:=by
 induction l with
 | nil=>intro a;simp
 | cons x l ih=>intro a;simp only [List.foldl_cons];rw [ih (a * x),ih (1 * x)];rw [Nat.one_mul,Nat.mul_assoc]
theorem W3q (l:List Nat)(x:Nat):Q97 (l++[x])=Q97 l * x:=by simp [Q97]
theorem Z5z {l:List Nat}(h:∀ x∈l,1≤x):1≤Q97 l:=by
 induction l with
 | nil=>simp [Q97]
 | cons x l ih=>
  have h1:=h x (by simp)
  have h2:=ih fun y hy=>h y (by simp [hy])
  have:Q97 (x::l)=x * Q97 l:=by simp only [Q97,List.foldl_cons];rw [X17,Nat.one_mul]
  rw [this];exact Nat.mul_pos h1 h2
theorem Z5y {l:List Nat}(h:∀ x∈l,1≤x):∀ k,Q97 (l.take k)≤Q97 l:=by
 induction l with
 | nil=>intro k;simp
 | cons x l ih=>
  intro k
  have c:∀ m,Q97 (x::m)=x * Q97 m:=fun m=>by simp only [Q97,List.foldl_cons];rw [X17,Nat.one_mul]
  cases k with
  | zero=>simp only [List.take_zero];show 1≤_;exact Z5z h
  | succ k=>simp only [List.take_succ_cons,c];exact Nat.mul_le_mul_left _ (ih (fun y hy=>h y (by simp [hy])) k)
theorem X91 (out:List (List Q0))(l:List Q0):(tupD out l).length=out.length * l.length:=by
 unfold tupD
 induction out with
 | nil=>simp
 | cons q out ih=>simp only [List.flatMap_cons,U5,ih,U7,U3];rw [Nat.add_mul,Nat.one_mul,Nat.add_comm]
theorem X3y:∀ (ls:List (List Q0)) (out:List (List Q0)),(ls.foldl tupD out).length=out.length * Q97 (ls.map List.length)
 | [],out=>by simp [Q97]
 | l::ls,out=>by
  rw [List.foldl_cons,X3y ls,X91,List.map_cons]
  have:Q97 (l.length::ls.map List.length)=l.length * Q97 (ls.map List.length):=by simp only [Q97,List.foldl_cons];rw [X17,Nat.one_mul]
  rw [this,Nat.mul_assoc]
theorem Z5p (d:Nat)(p:Q0):(Z9 (d+1) p).length=if p.op=5 then (p.kids.map fun x=>(Z9 d x).length).sum else Q97 (p.kids.map fun x=>(Z9 d x).length):=by
 simp only [Z9]
 split
 ·rw [List.length_flatMap]
 ·rw [U7,X3y];simp [List.map_map,Function.comp_def]
theorem Z37:∀ (d:Nat) (p:Q0),orOk d p→1≤(Z9 d p).length:=by
 intro d
 induction d with
 | zero=>intro p h;exact h.elim
 | succ d ih=>
  intro p h
  obtain ⟨h1,h2,h3⟩:=h
  rw [Z5p]
  split
  ·rename_i h5
   have hl:=h2 h5
   match hk:p.kids,hl with
   | [a,b],_=>
    have ha:=ih a (h3 a (by simp [hk]))
    simp
    omega
  ·refine Z5z fun x hx=>?_
   obtain ⟨q,hq,rfl⟩:=U11.1 hx
   exact ih q (h3 q hq)
theorem V7w {a b m:Nat}(ha:1≤a)(hb:1≤b):min (min a m * min b m) m=min (a * b) m:=by
 rcases Nat.le_total a m with h1 | h1<;>rcases Nat.le_total b m with h2 | h2
 ·rw [Nat.min_eq_left h1,Nat.min_eq_left h2]
 ·rw [Nat.min_eq_left h1,Nat.min_eq_right h2,Nat.min_eq_right,Nat.min_eq_right]
  ·exact Nat.le_trans h2 (Nat.le_mul_of_pos_left _ ha)
  ·exact Nat.le_mul_of_pos_left _ ha
 ·rw [Nat.min_eq_right h1,Nat.min_eq_left h2,Nat.min_eq_right,Nat.min_eq_right]
  ·exact Nat.le_trans h1 (Nat.le_mul_of_pos_right _ hb)
  ·exact Nat.le_mul_of_pos_right _ hb
 ·rw [Nat.min_eq_right h1,Nat.min_eq_right h2]
  rcases Nat.eq_zero_or_pos m with rfl | hm
  ·simp
  ·rw [Nat.min_eq_right (Nat.le_mul_of_pos_left _ hm),Nat.min_eq_right (Nat.le_trans h2 (Nat.le_mul_of_pos_left _ ha))]
theorem W8a (a b:Nat):imin (a:Int) (b:Int)=((min a b:Nat):Int):=by
 unfold imin
 split<;>omega
theorem X58:∀ (d n:Nat) (p:Q0),orOk d p→d≤n→Q1j n p=some ((min (Z9 d p).length 401:Nat):Int):=by
 intro d
 induction d with
 | zero=>intro n p h;exact h.elim
 | succ d ih=>
  intro n p h hn
  obtain ⟨n,rfl⟩:∃ k,n=k+1:=⟨n-1,by omega⟩
  obtain ⟨h1,h2,h3⟩:=h
  have hl:∀ k q,p.kids[k]?=some q→(p.kids.map fun x=>(Z9 d x).length).take (k+1)=(p.kids.map fun x=>(Z9 d x).length).take k++[(Z9 d q).length]:=fun k q hq=>by
   rw [List.take_add_one];simp [hq]
  have hpos:∀ x∈(p.kids.map fun x=>(Z9 d x).length),1≤x:=fun x hx=>by
   obtain ⟨q,hq,rfl⟩:=U11.1 hx
   exact Z37 d q (h3 q hq)
  have hr:Ret (Q1j (n+1) p) (fun r=>r=((min (Z9 (d+1) p).length 401:Nat):Int)):=by
   unfold Q1j
   rw [Z5p]
   by_cases h5:p.op=5
   ·have e5:ieq p.op 5=true:=by simp [ieq,h5]
    simp only [e5,if_true,U0]
    rw [if_pos h5]
    refine Ret.ctl (Z4 p.kids (fun k s=>s=((min ((p.kids.map fun x=>(Z9 d x).length).take k).sum 401:Nat):Int)) (fun _=>False) (fun s=>s=((min (p.kids.map fun x=>(Z9 d x).length).sum 401:Nat):Int)) (by simp) (fun k q s hq hI=>?_) (fun s hI=>?_)) (fun r hr=>hr.elim) (fun s hs=>.some hs)
    ·rw [ih n q (h3 q (U1 hq)) (by omega)]
     simp only [U0]
     refine .some ?_
     simp only [Z20]
     rw [hl k q hq,hI,List.sum_append,J9 (by omega) (by omega)]
     have e:((min (List.take k (p.kids.map fun x=>(Z9 d x).length)).sum 401:Nat):Int)+((min (Z9 d q).length 401:Nat):Int)=((min (List.take k (p.kids.map fun x=>(Z9 d x).length)).sum 401+min (Z9 d q).length 401:Nat):Int):=by omega
     rw [e,show (401:Int)=((401:Nat):Int) from rfl,W8a]
     congr 1
     simp only [List.sum_cons,List.sum_nil]
     omega
    ·rw [hI,List.take_of_length_le (by simp)]
   ·have e5:ieq p.op 5=false:=by simp [ieq,h5]
    simp only [e5,U2,if_false,U0]
    rw [if_neg h5]
    refine Ret.ctl (Z4 p.kids (fun k s=>s=((min (Q97 ((p.kids.map fun x=>(Z9 d x).length).take k)) 401:Nat):Int)) (fun _=>False) (fun s=>s=((min (Q97 (p.kids.map fun x=>(Z9 d x).length)) 401:Nat):Int)) (by simp [Q97]) (fun k q s hq hI=>?_) (fun s hI=>?_)) (fun r hr=>hr.elim) (fun s hs=>.some hs)
    ·rw [ih n q (h3 q (U1 hq)) (by omega)]
     simp only [U0]
     refine .some ?_
     simp only [Z20]
     have ha:1≤Q97 ((p.kids.map fun x=>(Z9 d x).length).take k):=Z5z fun x hx=>hpos x (List.mem_of_mem_take hx)
     have hb:=Z37 d q (h3 q (U1 hq))
     rw [hl k q hq,hI,W3q]
     generalize Q97 ((p.kids.map fun x=>(Z9 d x).length).take k)=a at ha
     generalize (Z9 d q).length=b at hb
     have hm:min a 401 * min b 401≤401 * 401:=Nat.mul_le_mul (Nat.min_le_right _ _) (Nat.min_le_right _ _)
     have e:((min a 401:Nat):Int) * ((min b 401:Nat):Int)=((min a 401 * min b 401:Nat):Int):=by simp
     rw [Z05 (by rw [e];omega) (by rw [e];omega),e,show (401:Int)=((401:Nat):Int) from rfl,W8a,V7w ha hb]
    ·rw [hI,List.take_of_length_le (by simp)]
  obtain ⟨r,e,rfl⟩:=hr
  exact e
theorem X5b (l:List Q0)(h:l.length≤Q9):Y8 l=some l:=by
 unfold Y8
 rw [V5 (by simpa using h)]
 rfl
theorem X77:∀ (d n:Nat) (p:Q0),orOk d p→d≤n→(Z9 d p).length≤1000→Q3l n p=some (Z9 d p):=by
 intro d
 induction d with
 | zero=>intro n p h;exact h.elim
 | succ d ih=>
  intro n p h hn hc
  obtain ⟨n,rfl⟩:∃ k,n=k+1:=⟨n-1,by omega⟩
  obtain ⟨h1,h2,h3⟩:=h
  by_cases h5:p.op=5
  ·have e5:ieq p.op 5=true:=by simp [ieq,h5]
   unfold Q3l
   rw [if_pos e5]
   rw [Z5p,if_pos h5] at hc
   match hk:p.kids,h2 h5 with
   | [a,b],_=>
    rw [hk] at h3 hc
    simp only [List.map_cons,List.map_nil,List.sum_cons,List.sum_nil] at hc
    rw [show idx [a,b] 0=some a from rfl,show idx [a,b] 1=some b from rfl]
    simp only [U0]
    rw [ih n a (h3 a (by simp)) (by omega) (by omega),ih n b (h3 b (by simp)) (by omega) (by omega)]
    simp only [U0]
    rw [V5 (by simp only [Q9];omega)]
    simp [Z9,h5,hk]
  ·have e5:¬ieq p.op 5=true:=by simp [ieq,h5]
   rw [Z5p,if_neg h5] at hc
   have hpos:∀ x∈(p.kids.map fun x=>(Z9 d x).length),1≤x:=fun x hx=>by
    obtain ⟨q,hq,rfl⟩:=U11.1 hx
    exact Z37 d q (h3 q hq)
   have hlen:∀ k,(((p.kids.map (Z9 d)).take k).foldl tupD [[]]).length=Q97 ((p.kids.map fun x=>(Z9 d x).length).take k):=fun k=>by
    rw [X3y];simp [List.map_take,List.map_map,Function.comp_def]
   suffices hr:Ret (Q3l (n+1) p) (fun r=>r=Z9 (d+1) p) by
    obtain ⟨r,e,rfl⟩:=hr
    exact e
   unfold Q3l
   rw [if_neg e5]
   refine Ret.ctl (Z4 p.kids (fun k s=>s=(((p.kids.map (Z9 d)).take k).foldl tupD [[]]).map (Z0v p)) (fun _=>False) (fun s=>s=Z9 (d+1) p) (by simp [Z0v]) (fun k q s hq hI=>?_) (fun s hI=>?_)) (fun r hr=>hr.elim) (fun s hs=>.some hs)
   ·have hqm:=U1 hq
    have hkl:=(List.getElem?_eq_some_iff.1 hq).1
    have hnx:((p.kids.map (Z9 d)).take (k+1)).foldl tupD [[]]=tupD (((p.kids.map (Z9 d)).take k).foldl tupD [[]]) (Z9 d q):=by
     rw [List.take_add_one,List.getElem?_map,hq];simp
    have hb1:(((p.kids.map (Z9 d)).take (k+1)).foldl tupD [[]]).length≤1000:=by rw [hlen];exact Nat.le_trans (Z5y hpos _) hc
    have hb0:(((p.kids.map (Z9 d)).take k).foldl tupD [[]]).length≤1000:=by rw [hlen];exact Nat.le_trans (Z5y hpos _) hc
    have hq1:=Z37 d q (h3 q hqm)
    have ho1:1≤(((p.kids.map (Z9 d)).take k).foldl tupD [[]]).length:=by rw [hlen];exact Z5z fun x hx=>hpos x (List.mem_of_mem_take hx)
    rw [hnx,X91] at hb1
    have hq2:(Z9 d q).length≤1000:=Nat.le_trans (Nat.le_mul_of_pos_left _ ho1) hb1
    rw [ih n q (h3 q hqm) (by omega) hq2]
    simp only [U0]
    have kl:∀ ks∈((p.kids.map (Z9 d)).take k).foldl tupD [[]],ks.length≤k:=by
     have gen:∀ (ls:List (List Q0)) (out:List (List Q0)) (m:Nat),(∀ ks∈out,ks.length≤m)→∀ ks∈ls.foldl tupD out,ks.length≤m+ls.length:=by
      intro ls
      induction ls with
      | nil=>intro out m h ks hks;simpa using h ks hks
      | cons l ls ih2=>
       intro out m h ks hks
       rw [List.foldl_cons] at hks
       have:=ih2 (tupD out l) (m+1) (fun ks hk2=>by
        simp only [tupD,List.mem_flatMap,U11] at hk2
        obtain ⟨q2,hq2,c,_,rfl⟩:=hk2
        have:=h q2 hq2
        simp;omega) ks hks
       simp only [U3];omega
     intro ks hks
     have:=gen _ [[]] 0 (by simp) ks hks
     rw [U6] at this
     omega
    generalize ho:((p.kids.map (Z9 d)).take k).foldl tupD [[]]=out at *
    rw [hnx]
    refine Ret.ctl (Z4 s (fun j u=>u=(tupD (out.take j) (Z9 d q)).map (Z0v p)) (fun _=>False) (fun u=>u=(tupD out (Z9 d q)).map (Z0v p)) (by simp [tupD]) (fun j x u hx hJ=>?_) (fun u hJ=>?_)) (fun r hr=>hr.elim) (fun u hu=>.some hu)
    ·rw [hI,List.getElem?_map] at hx
     obtain ⟨ks,hks,rfl⟩:=U12.1 hx
     have hks3:=kl ks (U1 hks)
     have hjl:=(List.getElem?_eq_some_iff.1 hks).1
     have hnj:tupD (out.take (j+1)) (Z9 d q)=tupD (out.take j) (Z9 d q)++(Z9 d q).map (fun c=>ks++[c]):=by
      rw [List.take_add_one,hks];simp [tupD]
     rw [hnj]
     refine Ret.ctl (Z4 (Z9 d q) (fun i v=>v=(tupD (out.take j) (Z9 d q)++((Z9 d q).take i).map (fun c=>ks++[c])).map (Z0v p)) (fun _=>False) (fun v=>v=(tupD (out.take j) (Z9 d q)++(Z9 d q).map (fun c=>ks++[c])).map (Z0v p)) (by simp [hJ]) (fun i c v hc2 hK=>?_) (fun v hK=>?_)) (fun r hr=>hr.elim) (fun v hv=>.some hv)
     ·simp only [Z0v]
      rw [X5b _ (by simp only [Q9];omega)]
      simp only [U0]
      rw [V5 (by simp only [Q9,U3,U4];omega)]
      simp only [U0]
      have hil:=(List.getElem?_eq_some_iff.1 hc2).1
      have hvl:v.length≤1000 * 1000+1000:=by
       rw [hK,U7,U5,X91,U7,U6,U6]
       have:=Nat.mul_le_mul (show min j out.length≤1000 by omega) hq2
       omega
      rw [V5 (by simp only [Q9,U3,U4];omega)]
      refine .some ?_
      simp only [Z20]
      rw [hK,List.take_add_one,hc2]
      simp [Z0v]
     ·rw [hK,List.take_length]
    ·rw [hJ,hI,U7,List.take_length]
   ·rw [hI,List.take_of_length_le (by simp)];simp [Z9,h5]
def fitP:Q0→Q1→Bool
 | ⟨op,ctor,n,m,_,kids⟩,v=>if op=1 then true else if op=3 then decide (n≤v.n∧v.n≤m) else decide (ctor=v.ctor)&&fitPs kids v.kids
where fitPs:List Q0→List Q1→Bool
 | [],[]=>true
 | p::ps,v::vs=>fitP p v&&fitPs ps vs
 | _,_=>false
abbrev fitL:=fitP.fitPs
theorem Z1g {p:Q0}(h:p.op=1)(v:Q1):fitP p v=true:=by
 cases p;simp only at h;subst h;simp [fitP]
theorem Z0n {p:Q0}(h:p.op=3)(v:Q1):fitP p v=decide (p.n≤v.n∧v.n≤p.m):=by
 cases p;simp only at h;subst h;simp [fitP]
theorem Q51 {p:Q0}(h:p.op=4)(v:Q1):fitP p v=(decide (p.ctor=v.ctor)&&fitL p.kids v.kids):=by
 cases p;simp only at h;subst h;simp [fitP]
@[simp] theorem Y5r:fitL [] []=true:=by simp [fitP.fitPs]
@[simp] theorem Z1n (p:Q0) (ps:List Q0) (v:Q1) (vs:List Q1):fitL (p::ps) (v::vs)=(fitP p v&&fitL ps vs):=by simp [fitP.fitPs]
def J6 (w:List Q4):Nat→Q2→Q0→Prop
 | 0,_,_=>False
 | d+1,t,p=>p=Q0.mk 1 0 0 0 0 []∨(∃ n m,p=Q0.mk 3 0 n m 0 []∧t.data = -1∧0≤n∧n≤m∧m≤9)∨
  (∃ c ks,p=Q0.mk 4 c 0 0 0 ks∧t.data≠-1∧c∈X2 w t∧ks.length=(W0 w t c).length∧∀ (j:Nat) (a:Q2) (q:Q0),(W0 w t c)[j]?=some a→ks[j]?=some q→J6 w d a q)
theorem Z24 (w:List Q4)(d:Nat)(t:Q2):J6 w (d+1) t (Q0.mk 1 0 0 0 0 []):=.inl rfl
theorem Z61 {w:List Q4} : ∀ (d:Nat) (t:Q2) (p:Q0),J6 w d t p→J6 w (d+1) t p
 | 0,_,_,h=>h.elim
 | d+1,t,p,h=>by
  rcases h with h | h | ⟨c,ks,e,h1,h2,h3,h4⟩
  ·exact .inl h
  ·exact .inr (.inl h)
  ·exact .inr (.inr ⟨c,ks,e,h1,h2,h3,fun j a q ha hq=>Z61 d a q (h4 j a q ha hq)⟩)
theorem W7n {w:List Q4}{d e:Nat}{t:Q2}{p:Q0}(h:J6 w d t p)(he:d≤e):J6 w e t p:=by
 induction he with
 | refl=>exact h
 | step _ ih=>exact Z61 _ t p ih
def Q79 (f:Q0→Q0→Option Q0):List Q0→List Q0→Option (List Q0)
 | a::as,b::bs=>(f a b).bind fun x=>(Q79 f as bs).map (x::·)
 | _,_=>some []
def Q23:Nat→Q0→Q0→Option Q0
 | 0,_,_=>none
 | d+1,a,b=>
  if a.op=1 then some b else if b.op=1 then some a
  else if a.op=3 then (if max a.n b.n≤min a.m b.m then some (Q0.mk 3 0 (max a.n b.n) (min a.m b.m) 0 []) else none)
  else if a.ctor=b.ctor then (Q79 (Q23 d) a.kids b.kids).map (fun ks=>Q0.mk 4 a.ctor 0 0 0 ks) else none
theorem X70 {f:Q0→Q0→Option Q0} : ∀ (as bs:List Q0) (vs:List Q1),as.length=vs.length→bs.length=vs.length→
  (∀ (j:Nat) (a b:Q0) (v:Q1),as[j]?=some a→bs[j]?=some b→vs[j]?=some v→((fitP a v=true∧fitP b v=true)↔∃ m,f a b=some m∧fitP m v=true))→
  ((fitL as vs=true∧fitL bs vs=true)↔∃ ms,Q79 f as bs=some ms∧fitL ms vs=true)
 | [],[],[],_,_,_=>by simp [Q79]
 | a::as,b::bs,v::vs,h1,h2,h=>by
  have h0:=h 0 a b v rfl rfl rfl
  have ih:=X70 as bs vs (by simpa using h1) (by simpa using h2) fun j x y z e1 e2 e3=>h (j+1) x y z e1 e2 e3
  simp only [Z1n,Bool.and_eq_true,Q79]
  constructor
  ·rintro ⟨⟨g1,g2⟩,g3,g4⟩
   obtain ⟨m,e1,e2⟩:=h0.1 ⟨g1,g3⟩
   obtain ⟨ms,e3,e4⟩:=ih.1 ⟨g2,g4⟩
   exact ⟨m::ms,by simp [e1,e3],by simp [e2,e4]⟩
  ·rintro ⟨ms,e1,e2⟩
   cases hm:f a b with
   | none=>simp [hm] at e1
   | some m=>
    cases hms:Q79 f as bs with
    | none=>simp [hm,hms] at e1
    | some ms'=>
     simp [hm,hms] at e1
     subst e1
     simp only [Z1n,Bool.and_eq_true] at e2
     obtain ⟨g1,g3⟩:=h0.2 ⟨m,hm,e2.1⟩
     obtain ⟨g2,g4⟩:=ih.2 ⟨ms',hms,e2.2⟩
     exact ⟨⟨g1,g2⟩,g3,g4⟩
 | [],[],_::_,h,_,_=>by simp at h
 | [],_::_,[],_,h,_=>by simp at h
 | [],_::_,_::_,h,_,_=>by simp at h
 | _::_,[],[],h,_,_=>by simp at h
 | _::_,[],_::_,_,h,_=>by simp at h
 | _::_,_::_,[],h,_,_=>by simp at h
theorem Z02 {w:List Q4}{e:Nat}{t:Q2}{v:Q1}(h:Q2f w e t v)(hd:t.data≠-1):∃ e',e=e'+1∧v.ctor∈X2 w t∧v.kids.length=(W0 w t v.ctor).length∧∀ (j:Nat) (a:Q2) (x:Q1),(W0 w t v.ctor)[j]?=some a→v.kids[j]?=some x→Q2f w e' a x:=by
 cases e with
 | zero=>exact h.elim
 | succ e=>
  simp only [Q2f,if_neg hd] at h
  exact ⟨e,rfl,h.2.1,h.2.2.1,h.2.2.2⟩
theorem W9d {w:List Q4}{e:Nat}{t:Q2}{v:Q1}(h:Q2f w e t v)(hd:t.data = -1):0≤v.n∧v.n≤9:=by
 cases e with
 | zero=>exact h.elim
 | succ e=>
  simp only [Q2f,if_pos hd] at h
  exact ⟨h.2.1,h.2.2.1⟩
theorem Q22 {α:Type}{l:List α}{n j:Nat}(h:l.length=n)(hj:j<n):∃ x,l[j]?=some x:=⟨l[j]'(by omega),by simp⟩
theorem V2s {w:List Q4} : ∀ (d e:Nat) (t:Q2) (a b:Q0) (x:Nat),J6 w x t a→J6 w d t b→∀ v,Q2f w e t v→((fitP a v=true∧fitP b v=true)↔∃ m,Q23 d a b=some m∧fitP m v=true):=by
 intro d
 induction d with
 | zero=>intro e t a b x _ h;exact h.elim
 | succ d ih=>
  intro e t a b x ha hb v hv
  cases x with
  | zero=>exact ha.elim
  | succ x=>
  rcases ha with rfl | ⟨n,m,rfl,ht,h0,h1,h2⟩ | ⟨c,ks,rfl,ht,hc,hl,hk⟩
  ·simp [Q23,Z1g]
  ·rcases hb with rfl | ⟨n',m',rfl,_,h0',h1',h2'⟩ | ⟨c',ks',rfl,ht',_⟩
   ·simp [Q23,Z1g]
   ·rw [Z0n rfl,Z0n rfl]
    simp only [Q23]
    have e1:¬(3:Int)=1:=by decide
    simp only [e1,if_false,if_true,decide_eq_true_eq]
    split
    ·rename_i hle
     constructor
     ·intro h
      exact ⟨_,rfl,by rw [Z0n rfl];simp only [decide_eq_true_eq];omega⟩
     ·rintro ⟨m2,e2,h⟩
      cases e2
      rw [Z0n rfl] at h
      simp only [decide_eq_true_eq] at h
      omega
    ·rename_i hle
     constructor
     ·intro h;exfalso;omega
     ·rintro ⟨_,e2,_⟩;cases e2
   ·exact absurd ht ht'
  ·rcases hb with rfl | ⟨n',m',rfl,ht',_⟩ | ⟨c',ks',rfl,_,hc',hl',hk'⟩
   ·simp [Q23,Z1g]
   ·exact absurd ht' ht
   ·rw [Q51 rfl,Q51 rfl]
    simp only [Q23]
    have e1:¬(4:Int)=1:=by decide
    have e3:¬(4:Int)=3:=by decide
    simp only [e1,e3,if_false,Bool.and_eq_true,decide_eq_true_eq]
    obtain ⟨e',rfl,gv1,gv2,gv3⟩:=Z02 hv ht
    by_cases hcc:c=c'
    ·subst hcc
     simp only [if_true]
     by_cases hcv:c=v.ctor
     ·subst hcv
      have hL:=X70 (f:=Q23 d) ks ks' v.kids (hl.trans gv2.symm) (hl'.trans gv2.symm) fun j p q u e1 e2 e3=>by
       have hj:j<(W0 w t v.ctor).length:=by rw [←gv2];exact (List.getElem?_eq_some_iff.1 e3).1
       obtain ⟨y,hy⟩:=Q22 (l:=W0 w t v.ctor) rfl hj
       exact ih e' y p q x (hk j y p hy e1) (hk' j y q hy e2) u (gv3 j y u hy e3)
      constructor
      ·rintro ⟨⟨_,g1⟩,_,g2⟩
       obtain ⟨ms,e1,e2⟩:=hL.1 ⟨g1,g2⟩
       exact ⟨_,by rw [e1];rfl,by rw [Q51 rfl];simp [e2]⟩
      ·rintro ⟨m,e1,e2⟩
       cases hm:Q79 (Q23 d) ks ks' with
       | none=>rw [hm] at e1;cases e1
       | some ms=>
        rw [hm] at e1
        cases e1
        rw [Q51 rfl] at e2
        simp only [Bool.and_eq_true] at e2
        obtain ⟨g1,g2⟩:=hL.2 ⟨ms,hm,e2.2⟩
        exact ⟨⟨rfl,g1⟩,rfl,g2⟩
     ·constructor
      ·rintro ⟨⟨g,_⟩,_⟩;exact absurd g hcv
      ·rintro ⟨m,e1,e2⟩
       cases hm:Q79 (Q23 d) ks ks' with
       | none=>rw [hm] at e1;cases e1
       | some ms=>
        rw [hm] at e1
        cases e1
        rw [Q51 rfl] at e2
        simp only [Bool.and_eq_true,decide_eq_true_eq] at e2
        exact absurd e2.1 hcv
    ·simp only [if_neg hcc]
     constructor
     ·rintro ⟨⟨g1,_⟩,g2,_⟩;exact absurd (g1.trans g2.symm) hcc
     ·rintro ⟨_,e1,_⟩;cases e1
def kmD (fm:Q2→Q0→Q0→List Q0)(fj:Q0→Q0→Option Q0):List Q2→List Q0→List Q0→List (List Q0)
 | t::ts,a::as,b::bs=>(fm t a b).map (fun x=>x::as)++(match fj a b with | none=>[] | some m=>(kmD fm fj ts as bs).map (m::·))
 | _,_,_=>[]
def X05 (n m n' m':Int):List Q0:=
 (if n≤min m (n'-1) then [Q0.mk 3 0 n (min m (n'-1)) 0 []] else [])++(if max n (m'+1)≤m then [Q0.mk 3 0 (max n (m'+1)) m 0 []] else [])
def cmD (w:List Q4)(fm:Q2→Q0→Q0→List Q0)(fj:Q0→Q0→Option Q0)(t:Q2)(a b:Q0):List Q0:=
 if a.ctor=b.ctor then (kmD fm fj (W0 w t a.ctor) a.kids b.kids).map (fun ks=>Q0.mk 4 a.ctor 0 0 0 ks) else [a]
def Q89 (w:List Q4)(t:Q2)(c:Int):Q0:=Q0.mk 4 c 0 0 0 ((W0 w t c).map fun _=>Q0.mk 1 0 0 0 0 [])
def J1 (w:List Q4):Nat→Q2→Q0→Q0→List Q0
 | 0,_,_,_=>[]
 | d+1,t,a,b=>if b.op=1 then [] else if b.op=3 then (if a.op=1 then X05 0 9 b.n b.m else X05 a.n a.m b.n b.m)
  else if a.op=1 then (X2 w t).flatMap fun c=>cmD w (J1 w d) (Q23 d) t (Q89 w t c) b
  else cmD w (J1 w d) (Q23 d) t a b
theorem V5u {fm:Q2→Q0→Q0→List Q0}{fj:Q0→Q0→Option Q0} : ∀ (ts:List Q2) (as bs:List Q0) (vs:List Q1),as.length=ts.length→bs.length=ts.length→vs.length=ts.length→
  (∀ (j:Nat) (t:Q2) (a b:Q0) (v:Q1),ts[j]?=some t→as[j]?=some a→bs[j]?=some b→vs[j]?=some v→
   ((fitP a v=true∧fitP b v=true)↔∃ m,fj a b=some m∧fitP m v=true)∧((fitP a v=true∧fitP b v=false)↔∃ x∈fm t a b,fitP x v=true))→
  ((fitL as vs=true∧fitL bs vs=false)↔∃ ks∈kmD fm fj ts as bs,fitL ks vs=true)
 | [],[],[],[],_,_,_,_=>by simp [kmD]
 | t::ts,a::as,b::bs,v::vs,h1,h2,h3,h=>by
  obtain ⟨hj,hm⟩:=h 0 t a b v rfl rfl rfl rfl
  have ih:=V5u ts as bs vs (by simpa using h1) (by simpa using h2) (by simpa using h3) fun j x y z u e1 e2 e3 e4=>h (j+1) x y z u e1 e2 e3 e4
  simp only [Z1n,Bool.and_eq_true,kmD,U9,U11]
  constructor
  ·rintro ⟨⟨g1,g2⟩,g3⟩
   cases hb:fitP b v with
   | false=>
    obtain ⟨x,hx,gx⟩:=hm.1 ⟨g1,hb⟩
    exact ⟨x::as,.inl ⟨x,hx,rfl⟩,by simp [gx,g2]⟩
   | true=>
    rw [hb] at g3
    obtain ⟨m,e1,e2⟩:=hj.1 ⟨g1,hb⟩
    obtain ⟨ks,hk,gk⟩:=ih.1 ⟨g2,by simpa using g3⟩
    refine ⟨m::ks,.inr ?_,by simp [e2,gk]⟩
    rw [e1]
    exact U11.2 ⟨ks,hk,rfl⟩
  ·rintro ⟨ks,hk | hk,gk⟩
   ·obtain ⟨x,hx,rfl⟩:=hk
    simp only [Z1n,Bool.and_eq_true] at gk
    obtain ⟨g1,g2⟩:=hm.2 ⟨x,hx,gk.1⟩
    exact ⟨⟨g1,gk.2⟩,by simp [g2]⟩
   ·cases e1:fj a b with
    | none=>rw [e1] at hk;simp at hk
    | some m=>
     rw [e1] at hk
     obtain ⟨ks',hk',rfl⟩:=U11.1 hk
     simp only [Z1n,Bool.and_eq_true] at gk
     obtain ⟨g1,g2⟩:=hj.2 ⟨m,e1,gk.1⟩
     obtain ⟨g3,g4⟩:=ih.2 ⟨ks',hk',gk.2⟩
     exact ⟨⟨g1,g3⟩,by simp [g4]⟩
 | [],_::_,_,_,h,_,_,_=>by simp at h
 | [],[],_::_,_,_,h,_,_=>by simp at h
 | [],[],[],_::_,_,_,h,_=>by simp at h
 | _::_,[],_,_,h,_,_,_=>by simp at h
 | _::_,_::_,[],_,_,h,_,_=>by simp at h
 | _::_,_::_,_::_,[],_,_,h,_=>by simp at h
theorem W1r {n m n' m':Int}{v:Q1} : ((n≤v.n∧v.n≤m)∧¬(n'≤v.n∧v.n≤m'))↔∃ x∈X05 n m n' m',fitP x v=true:=by
 simp only [X05,U9]
 constructor
 ·rintro ⟨h1,h2⟩
  by_cases h:n'≤v.n
  ·refine ⟨Q0.mk 3 0 (max n (m'+1)) m 0 [],.inr ?_,?_⟩
   ·rw [if_pos (by omega)];simp
   ·rw [Z0n rfl];simp only [decide_eq_true_eq];omega
  ·refine ⟨Q0.mk 3 0 n (min m (n'-1)) 0 [],.inl ?_,?_⟩
   ·rw [if_pos (by omega)];simp
   ·rw [Z0n rfl];simp only [decide_eq_true_eq];omega
 ·rintro ⟨x,hx,h⟩
  rcases hx with hx | hx<;>split at hx<;>simp at hx<;>subst hx<;>rw [Z0n rfl] at h<;>simp only [decide_eq_true_eq] at h<;>omega
theorem W6k {w:List Q4}{t:Q2}{c:Int}{v:Q1}(hl:v.ctor=c→v.kids.length=(W0 w t c).length):fitP (Q89 w t c) v=decide (c=v.ctor):=by
 rw [Q89,Q51 rfl]
 simp only
 by_cases h:c=v.ctor
 ·have hl:=hl h.symm
  have:∀ (l:List Q2) (vs:List Q1),vs.length=l.length→fitL (l.map fun _=>Q0.mk 1 0 0 0 0 []) vs=true:=by
   intro l
   induction l with
   | nil=>intro vs h;cases vs<;>simp at h ⊢
   | cons a l ih=>
    intro vs h
    cases vs with
    | nil=>simp at h
    | cons v vs=>simp [Z1g,ih vs (by simpa using h)]
  simp [h,this _ _ (h▸hl)]
 ·simp [h]
theorem V6p {w:List Q4}{d e x:Nat}(hM:∀ (e:Nat) (t:Q2) (a b:Q0) (x:Nat),J6 w x t a→J6 w d t b→∀ v,Q2f w e t v→((fitP a v=true∧fitP b v=false)↔∃ y∈J1 w d t a b,fitP y v=true))
  {t:Q2} {c c':Int} {ks ks':List Q0} (ht:t.data≠-1) (hl:ks.length=(W0 w t c).length) (hk:∀ (j:Nat) (a:Q2) (q:Q0),(W0 w t c)[j]?=some a→ks[j]?=some q→J6 w x a q)
  (hl':ks'.length=(W0 w t c').length) (hk':∀ (j:Nat) (a:Q2) (q:Q0),(W0 w t c')[j]?=some a→ks'[j]?=some q→J6 w d a q) {v:Q1} (hv:Q2f w e t v) :
  ((fitP (Q0.mk 4 c 0 0 0 ks) v=true∧fitP (Q0.mk 4 c' 0 0 0 ks') v=false)↔∃ y∈cmD w (J1 w d) (Q23 d) t (Q0.mk 4 c 0 0 0 ks) (Q0.mk 4 c' 0 0 0 ks'),fitP y v=true):=by
 rw [Q51 rfl,Q51 rfl]
 simp only [cmD,Bool.and_eq_true,decide_eq_true_eq,Bool.and_eq_false_iff,decide_eq_false_iff_not]
 obtain ⟨e',rfl,gv1,gv2,gv3⟩:=Z02 hv ht
 by_cases hcc:c=c'
 ·subst hcc
  simp only [if_true,U11]
  by_cases hcv:c=v.ctor
  ·subst hcv
   have hL:=V5u (fm:=J1 w d) (fj:=Q23 d) (W0 w t v.ctor) ks ks' v.kids hl hl' gv2 fun j y p q u e1 e2 e3 e4=>
    ⟨V2s d e' y p q x (hk j y p e1 e2) (hk' j y q e1 e3) u (gv3 j y u e1 e4),hM e' y p q x (hk j y p e1 e2) (hk' j y q e1 e3) u (gv3 j y u e1 e4)⟩
   constructor
   ·rintro ⟨⟨_,g1⟩,g2⟩
    rcases g2 with g2 | g2
    ·exact absurd rfl g2
    ·obtain ⟨k,hk1,hk2⟩:=hL.1 ⟨g1,g2⟩
     exact ⟨_,⟨k,hk1,rfl⟩,by rw [Q51 rfl];simp [hk2]⟩
   ·rintro ⟨_,⟨k,hk1,rfl⟩,h⟩
    rw [Q51 rfl] at h
    simp only [Bool.and_eq_true] at h
    obtain ⟨g1,g2⟩:=hL.2 ⟨k,hk1,h.2⟩
    exact ⟨⟨rfl,g1⟩,.inr g2⟩
  ·constructor
   ·rintro ⟨⟨g,_⟩,_⟩;exact absurd g hcv
   ·rintro ⟨_,⟨k,hk1,rfl⟩,h⟩
    rw [Q51 rfl] at h
    simp only [Bool.and_eq_true,decide_eq_true_eq] at h
    exact absurd h.1 hcv
 ·simp only [if_neg hcc,List.mem_singleton,exists_eq_left]
  rw [Q51 rfl]
  simp only [Bool.and_eq_true,decide_eq_true_eq]
  constructor
  ·exact fun h=>h.1
  ·exact fun h=>⟨h,.inl fun e2=>hcc (h.1.trans e2.symm)⟩
theorem X6y {w:List Q4} : ∀ (d e:Nat) (t:Q2) (a b:Q0) (x:Nat),J6 w x t a→J6 w d t b→∀ v,Q2f w e t v→((fitP a v=true∧fitP b v=false)↔∃ y∈J1 w d t a b,fitP y v=true):=by
 intro d
 induction d with
 | zero=>intro e t a b x _ h;exact h.elim
 | succ d ih=>
  intro e t a b x ha hb v hv
  cases x with
  | zero=>exact ha.elim
  | succ x=>
  rcases hb with rfl | ⟨n',m',rfl,ht',_⟩ | ⟨c',ks',rfl,ht',hc',hl',hk'⟩
  ·simp [J1,Z1g]
  ·have e1:¬(3:Int)=1:=by decide
   simp only [J1,e1,if_false,if_true]
   rcases ha with rfl | ⟨n,m,rfl,_⟩ | ⟨c,ks,rfl,ht,_⟩
   ·simp only [if_true]
    rw [←W1r,Z1g rfl,Z0n rfl]
    have:=W9d hv ht'
    simp only [true_and,decide_eq_false_iff_not]
    exact ⟨fun h=>⟨this,h⟩,fun h=>h.2⟩
   ·simp only [e1,if_false]
    rw [←W1r,Z0n rfl,Z0n rfl]
    simp only [decide_eq_true_eq,decide_eq_false_iff_not]
   ·exact absurd ht' ht
  ·have e1:¬(4:Int)=1:=by decide
   have e3:¬(4:Int)=3:=by decide
   simp only [J1,e1,e3,if_false]
   rcases ha with rfl | ⟨n,m,rfl,ht,_⟩ | ⟨c,ks,rfl,_,hc,hl,hk⟩
   ·simp only [if_true,List.mem_flatMap]
    obtain ⟨e',rfl,gv1,gv2,gv3⟩:=Z02 hv ht'
    have hcm:∀ c∈X2 w t,((fitP (Q89 w t c) v=true∧fitP (Q0.mk 4 c' 0 0 0 ks') v=false)↔∃ y∈cmD w (J1 w d) (Q23 d) t (Q89 w t c) (Q0.mk 4 c' 0 0 0 ks'),fitP y v=true):=fun c _=>
     V6p (x:=1) ih ht' (by simp) (fun j a q ha hq=>by
      rw [List.getElem?_map,ha] at hq
      cases hq
      exact Z24 w 0 a) hl' hk' hv
    have hw:∀ c,fitP (Q89 w t c) v=decide (c=v.ctor):=fun c=>W6k fun h=>h▸gv2
    constructor
    ·rintro ⟨_,h⟩
     obtain ⟨y,hy,gy⟩:=(hcm v.ctor gv1).1 ⟨by rw [hw];simp,h⟩
     exact ⟨y,⟨v.ctor,gv1,hy⟩,gy⟩
    ·rintro ⟨y,⟨c,hc,hy⟩,gy⟩
     exact ⟨Z1g rfl v,((hcm c hc).2 ⟨y,hy,gy⟩).2⟩
   ·exact absurd ht ht'
   ·simp only [e1,if_false]
    exact V6p ih ht' hl hk hl' hk' hv
def V94 (w:List Q4)(t:Q2):Bool:=
 (decide (depP w t≠0)||(X2 w t).all (fun k=>(W0 w t k).any (fun a=>decide (depP w a=0))))&&decide ((X2 w t).Nodup)
def chkE (w:List Q4):Bool:=(tys w).all (V94 w)
theorem W5o:Q0j.all chkE=true:=by kernel_rfl
structure WE (w:List Q4):Prop where
 e0:∀ t∈tys w,depP w t=0→∀ k∈X2 w t,∃ a∈W0 w t k,depP w a=0
 nd:∀ t∈tys w,(X2 w t).Nodup
theorem we {w:List Q4}(h:w∈Q0j):WE w:=by
 have h:=List.all_eq_true.1 W5o w h
 simp only [chkE,List.all_eq_true] at h
 refine ⟨fun t ht h0 k hk=>?_,fun t ht=>?_⟩
 ·have:=h t ht
  simp only [V94,Bool.and_eq_true,Bool.or_eq_true,decide_eq_true_eq,List.all_eq_true,List.any_eq_true] at this
  rcases this.1 with h1 | h1
  ·exact absurd h0 h1
  ·exact h1 k hk
 ·have:=h t ht
  simp only [V94,Bool.and_eq_true,decide_eq_true_eq] at this
  exact this.2
theorem W2f {w:List Q4}(hw:WW w)(he:WE w):∀ (e:Nat) (t:Q2) (v:Q1),t∈tys w→Q2f w e t v→depP w t≠0
 | 0,_,_,_,h=>h.elim
 | e+1,t,v,ht,h=>fun h0=>by
  by_cases hd:t.data = -1
  ·have:=((hw.ty t ht).ti hd).2;omega
  ·obtain ⟨e',e1,g1,g2,g3⟩:=Z02 h hd
   cases e1
   obtain ⟨a,ha,ha0⟩:=he.e0 t ht h0 _ g1
   obtain ⟨j,hj⟩:=List.mem_iff_getElem?.1 ha
   obtain ⟨x,hx⟩:=Q22 g2 (List.getElem?_eq_some_iff.1 hj).1
   exact W2f hw he e a x ((hw.ty t ht).at_ _ g1 a ha) (g3 j a x hj hx) ha0
def Q1m (w:List Q4):Nat→Q2→Q0→Bool
 | 0,_,_=>false
 | d+1,t,p=>if p.op=1 then decide (depP w t=0) else if p.op=4 then ((W0 w t p.ctor).zip p.kids).any fun x=>Q1m w d x.1 x.2 else false
theorem Z03 {w:List Q4}{d:Nat}{t:Q2}{c:Int}{ks:List Q0} : Q1m w (d+1) t (Q0.mk 4 c 0 0 0 ks)=true↔∃ (j:Nat) (a:Q2) (q:Q0),(W0 w t c)[j]?=some a∧ks[j]?=some q∧Q1m w d a q=true:=by
 have e1:¬(4:Int)=1:=by decide
 simp only [Q1m,e1,if_false,if_true,List.any_eq_true]
 constructor
 ·rintro ⟨x,hx,h⟩
  obtain ⟨j,hj⟩:=List.mem_iff_getElem?.1 hx
  rw [List.getElem?_zip_eq_some] at hj
  exact ⟨j,x.1,x.2,hj.1,hj.2,h⟩
 ·rintro ⟨j,a,q,h1,h2,h3⟩
  exact ⟨(a,q),U1 (i:=j) (by rw [List.getElem?_zip_eq_some];exact ⟨h1,h2⟩),h3⟩
theorem X83 {w:List Q4}(hw:WW w)(he:WE w):∀ (x e:Nat) (t:Q2) (p:Q0) (v:Q1),t∈tys w→J6 w x t p→Q1m w x t p=true→Q2f w e t v→fitP p v=false
 | 0,_,_,_,_,_,h,_,_=>h.elim
 | x+1,e,t,p,v,ht,hp,hem,hv=>by
  rcases hp with rfl | ⟨n,m,rfl,_⟩ | ⟨c,ks,rfl,hd,hc,hl,hk⟩
  ·simp only [Q1m,if_true,decide_eq_true_eq] at hem
   exact absurd hem (W2f hw he e t v ht hv)
  ·simp [Q1m] at hem
  ·obtain ⟨j,a,q,h1,h2,h3⟩:=Z03.1 hem
   rw [Q51 rfl]
   simp only
   by_cases hcv:c=v.ctor
   ·subst hcv
    obtain ⟨e',rfl,g1,g2,g3⟩:=Z02 hv hd
    obtain ⟨u,hu⟩:=Q22 g2 (List.getElem?_eq_some_iff.1 h1).1
    have hf:=X83 hw he x e' a q u ((hw.ty t ht).at_ _ hc a (U1 h1)) (hk j a q h1 h2) h3 (g3 j a u h1 hu)
    have:∀ (ps:List Q0) (vs:List Q1) (j:Nat),ps[j]?=some q→vs[j]?=some u→fitL ps vs=false:=by
     intro ps
     induction ps with
     | nil=>intro vs j h;simp at h
     | cons p ps ih=>
      intro vs j h h'
      cases vs with
      | nil=>simp at h'
      | cons v vs=>
       cases j with
       | zero=>simp at h h';subst h;subst h';simp [hf]
       | succ j=>simp [ih vs j (by simpa using h) (by simpa using h')]
    simp [this ks v.kids j h2 hu]
   ·simp [hcv]
theorem X1k {w:List Q4}(hw:WW w)(he:WE w):∀ (x:Nat) (t:Q2) (p:Q0),t∈tys w→J6 w x t p→depP w t=0→Q1m w x t p=true
 | 0,_,_,_,h,_=>h.elim
 | x+1,t,p,ht,hp,h0=>by
  rcases hp with rfl | ⟨n,m,rfl,hd,_⟩ | ⟨c,ks,rfl,hd,hc,hl,hk⟩
  ·simp [Q1m,h0]
  ·have:=((hw.ty t ht).ti hd).2;omega
  ·obtain ⟨a,ha,ha0⟩:=he.e0 t ht h0 c hc
   obtain ⟨j,hj⟩:=List.mem_iff_getElem?.1 ha
   obtain ⟨q,hq⟩:=Q22 hl (List.getElem?_eq_some_iff.1 hj).1
   exact Z03.2 ⟨j,a,q,hj,hq,X1k hw he x a q ((hw.ty t ht).at_ _ hc a ha) (hk j a q hj hq) ha0⟩
theorem X0k {f:Q0→Q0→Option Q0} : ∀ (as bs ms:List Q0),as.length=bs.length→Q79 f as bs=some ms→ms.length=as.length∧∀ (j:Nat) (a b:Q0),as[j]?=some a→bs[j]?=some b→∃ m,f a b=some m∧ms[j]?=some m
 | [],[],ms,_,h=>by simp [Q79] at h;subst h;simp
 | a::as,b::bs,ms,hl,h=>by
  simp only [Q79] at h
  cases hm:f a b with
  | none=>simp [hm] at h
  | some m=>
   cases hr:Q79 f as bs with
   | none=>simp [hm,hr] at h
   | some r=>
    simp [hm,hr] at h
    subst h
    obtain ⟨h1,h2⟩:=X0k as bs r (by simpa using hl) hr
    refine ⟨by simp [h1],fun j x y e1 e2=>?_⟩
    cases j with
    | zero=>simp at e1 e2;subst e1;subst e2;exact ⟨m,hm,rfl⟩
    | succ j=>exact h2 j x y (by simpa using e1) (by simpa using e2)
 | [],_::_,_,h,_=>by simp at h
 | _::_,[],_,h,_=>by simp at h
theorem X0j {w:List Q4} : ∀ (d x:Nat) (t:Q2) (a b m:Q0),d≤x→J6 w x t a→J6 w d t b→Q23 d a b=some m→J6 w x t m
 | 0,_,_,_,_,_,_,_,h,_=>h.elim
 | d+1,0,_,_,_,_,h,_,_,_=>by omega
 | d+1,x+1,t,a,b,m,hx,ha,hb,hm=>by
  rcases ha with rfl | ⟨n,n2,rfl,ht,h0,h1,h2⟩ | ⟨c,ks,rfl,ht,hc,hl,hk⟩
  ·simp [Q23] at hm;subst hm;exact W7n hb hx
  ·rcases hb with rfl | ⟨n',m',rfl,_,h0',h1',h2'⟩ | ⟨c',ks',rfl,ht',_⟩
   ·simp [Q23] at hm;subst hm;exact .inr (.inl ⟨n,n2,rfl,ht,h0,h1,h2⟩)
   ·have e1:¬(3:Int)=1:=by decide
    simp only [Q23,e1,if_false,if_true] at hm
    split at hm
    ·cases hm;exact .inr (.inl ⟨_,_,rfl,ht,by omega,by assumption,by omega⟩)
    ·cases hm
   ·exact absurd ht ht'
  ·rcases hb with rfl | ⟨n',m',rfl,ht',_⟩ | ⟨c',ks',rfl,_,hc',hl',hk'⟩
   ·simp [Q23] at hm;subst hm;exact .inr (.inr ⟨c,ks,rfl,ht,hc,hl,hk⟩)
   ·exact absurd ht' ht
   ·have e1:¬(4:Int)=1:=by decide
    have e3:¬(4:Int)=3:=by decide
    simp only [Q23,e1,e3,if_false] at hm
    split at hm
    ·rename_i hcc
     subst hcc
     obtain ⟨ms,h1,h2⟩:=U12.1 hm
     subst h2
     obtain ⟨g1,g2⟩:=X0k ks ks' ms (hl.trans hl'.symm) h1
     refine .inr (.inr ⟨c,ms,rfl,ht,hc,g1.trans hl,fun j a q ha hq=>?_⟩)
     obtain ⟨p,hp⟩:=Q22 hl (List.getElem?_eq_some_iff.1 ha).1
     obtain ⟨p',hp'⟩:=Q22 hl' (List.getElem?_eq_some_iff.1 ha).1
     obtain ⟨m,k1,k2⟩:=g2 j p p' hp hp'
     rw [hq] at k2
     cases k2
     exact X0j d x a p p' q (by omega) (hk j a p ha hp) (hk' j a p' ha hp') k1
    ·cases hm
theorem X3d {w:List Q4}(hw:WW w)(he:WE w):∀ (d x:Nat) (t:Q2) (a b m:Q0),t∈tys w→d≤x→J6 w x t a→J6 w d t b→Q1m w x t a=true→Q23 d a b=some m→Q1m w x t m=true
 | 0,_,_,_,_,_,_,_,_,h,_,_=>h.elim
 | d+1,0,_,_,_,_,_,h,_,_,_,_=>by omega
 | d+1,x+1,t,a,b,m,htw,hx,ha,hb,hem,hm=>by
  have hmp:=X0j (d+1) (x+1) t a b m hx ha hb hm
  rcases ha with rfl | ⟨n,n2,rfl,ht,h0,h1,h2⟩ | ⟨c,ks,rfl,ht,hc,hl,hk⟩
  ·simp only [Q1m,if_true,decide_eq_true_eq] at hem
   exact X1k hw he _ t m htw hmp hem
  ·simp [Q1m] at hem
  ·rcases hb with rfl | ⟨n',m',rfl,ht',_⟩ | ⟨c',ks',rfl,_,hc',hl',hk'⟩
   ·simp [Q23] at hm;subst hm;exact hem
   ·exact absurd ht' ht
   ·have e1:¬(4:Int)=1:=by decide
    have e3:¬(4:Int)=3:=by decide
    simp only [Q23,e1,e3,if_false] at hm
    split at hm
    ·rename_i hcc
     subst hcc
     obtain ⟨ms,h1,h2⟩:=U12.1 hm
     subst h2
     obtain ⟨g1,g2⟩:=X0k ks ks' ms (hl.trans hl'.symm) h1
     obtain ⟨j,a,q,k1,k2,k3⟩:=Z03.1 hem
     obtain ⟨p',hp'⟩:=Q22 hl' (List.getElem?_eq_some_iff.1 k1).1
     obtain ⟨m,k4,k5⟩:=g2 j q p' k2 hp'
     exact Z03.2 ⟨j,a,m,k1,k5,X3d hw he d x a q p' m ((hw.ty t htw).at_ _ hc a (U1 k1)) (by omega) (hk j a q k1 k2) (hk' j a p' k1 hp') k3 k4⟩
    ·cases hm
theorem W84 {fm:Q2→Q0→Q0→List Q0}{fj:Q0→Q0→Option Q0} : ∀ (ts:List Q2) (as bs:List Q0),as.length=ts.length→bs.length=ts.length→∀ ks∈kmD fm fj ts as bs,
  ks.length=ts.length∧∃ i,i<ts.length∧∀ (j:Nat) (t:Q2) (a b q:Q0),ts[j]?=some t→as[j]?=some a→bs[j]?=some b→ks[j]?=some q→(j<i→fj a b=some q)∧(j=i→q∈fm t a b)∧(i<j→q=a)
 | [],as,bs,_,_,ks,h=>by simp [kmD] at h
 | t::ts,[],_,h,_,_,_=>by simp at h
 | t::ts,_::_,[],_,h,_,_=>by simp at h
 | t::ts,a::as,b::bs,h1,h2,ks,h=>by
  simp only [kmD,U9,U11] at h
  rcases h with ⟨x,hx,rfl⟩ | h
  ·refine ⟨by simpa using h1,0,by simp,fun j t' a' b' q e1 e2 e3 e4=>⟨fun h=>by omega,fun h=>?_,fun h=>?_⟩⟩
   ·subst h;simp at e1 e2 e3 e4;subst e1;subst e2;subst e3;subst e4;exact hx
   ·cases j with
    | zero=>omega
    | succ j=>simp at e2 e4;rw [e2] at e4;cases e4;rfl
  ·cases hm:fj a b with
   | none=>rw [hm] at h;simp at h
   | some m=>
    rw [hm] at h
    obtain ⟨ks',hk',rfl⟩:=U11.1 h
    obtain ⟨g1,i,g2,g3⟩:=W84 ts as bs (by simpa using h1) (by simpa using h2) ks' hk'
    refine ⟨by simp [g1],i+1,by simpa using g2,fun j t' a' b' q e1 e2 e3 e4=>?_⟩
    cases j with
    | zero=>simp at e2 e3 e4;subst e2;subst e3;subst e4;exact ⟨fun _=>hm,fun h=>by omega,fun h=>by omega⟩
    | succ j=>
     obtain ⟨k1,k2,k3⟩:=g3 j t' a' b' q (by simpa using e1) (by simpa using e2) (by simpa using e3) (by simpa using e4)
     exact ⟨fun h=>k1 (by omega),fun h=>k2 (by omega),fun h=>k3 (by omega)⟩
theorem V0b {w:List Q4}{d x:Nat}{t:Q2}(hx:d+1≤x)(hM:∀ (t:Q2) (a b:Q0),J6 w x t a→J6 w d t b→∀ y∈J1 w d t a b,J6 w x t y)(ht:t.data≠-1){c c':Int}{ks ks':List Q0}(hc:c∈X2 w t)
  (hl:ks.length=(W0 w t c).length) (hk:∀ (j:Nat) (a:Q2) (q:Q0),(W0 w t c)[j]?=some a→ks[j]?=some q→J6 w x a q)
  (hl':ks'.length=(W0 w t c').length) (hk':∀ (j:Nat) (a:Q2) (q:Q0),(W0 w t c')[j]?=some a→ks'[j]?=some q→J6 w d a q) :
  ∀ y∈cmD w (J1 w d) (Q23 d) t (Q0.mk 4 c 0 0 0 ks) (Q0.mk 4 c' 0 0 0 ks'),J6 w (x+1) t y:=fun y hy=>by
 simp only [cmD] at hy
 split at hy
 ·rename_i hcc
  subst hcc
  obtain ⟨k,hk1,rfl⟩:=U11.1 hy
  obtain ⟨g1,i,g2,g3⟩:=W84 (W0 w t c) ks ks' hl hl' k hk1
  refine .inr (.inr ⟨c,k,rfl,ht,hc,g1,fun j a q ha hq=>?_⟩)
  obtain ⟨p,hp⟩:=Q22 hl (List.getElem?_eq_some_iff.1 ha).1
  obtain ⟨p',hp'⟩:=Q22 hl' (List.getElem?_eq_some_iff.1 ha).1
  obtain ⟨k1,k2,k3⟩:=g3 j a p p' q ha hp hp' hq
  rcases Nat.lt_trichotomy j i with h | h | h
  ·exact X0j d x a p p' q (by omega) (hk j a p ha hp) (hk' j a p' ha hp') (k1 h)
  ·exact hM a p p' (hk j a p ha hp) (hk' j a p' ha hp') q (k2 h)
  ·rw [k3 h];exact hk j a p ha hp
 ·simp at hy
  subst hy
  exact .inr (.inr ⟨c,ks,rfl,ht,hc,hl,hk⟩)
theorem Z00 {w:List Q4} : ∀ (d x:Nat) (t:Q2) (a b:Q0),d+1≤x→J6 w x t a→J6 w d t b→∀ y∈J1 w d t a b,J6 w x t y
 | 0,_,_,_,_,_,_,h,_,_=>h.elim
 | d+1,0,_,_,_,h,_,_,_,_=>by omega
 | d+1,x+1,t,a,b,hx,ha,hb,y,hy=>by
  rcases hb with rfl | ⟨n',m',rfl,ht',g0,g1,g2⟩ | ⟨c',ks',rfl,ht',hc',hl',hk'⟩
  ·simp [J1] at hy
  ·have e1:¬(3:Int)=1:=by decide
   simp only [J1,e1,if_false,if_true] at hy
   have hr:∀ n m,0≤n→m≤9→∀ y∈X05 n m n' m',J6 w (x+1) t y:=fun n m h0 h9 y hy=>by
    simp only [X05,U9] at hy
    rcases hy with hy | hy<;>split at hy<;>simp at hy<;>subst hy
    ·exact .inr (.inl ⟨_,_,rfl,ht',h0,by assumption,by omega⟩)
    ·exact .inr (.inl ⟨_,_,rfl,ht',by omega,by assumption,h9⟩)
   rcases ha with rfl | ⟨n,m,rfl,_,h0,_,h9⟩ | ⟨c,ks,rfl,ht,_⟩
   ·simp only [if_true] at hy;exact hr 0 9 (by omega) (by omega) y hy
   ·simp only [e1,if_false] at hy;exact hr n m h0 h9 y hy
   ·exact absurd ht' ht
  ·have e1:¬(4:Int)=1:=by decide
   have e3:¬(4:Int)=3:=by decide
   simp only [J1,e1,e3,if_false] at hy
   have hM:=fun (t:Q2) (a b:Q0)=>Z00 (w:=w) d x t a b (by omega)
   rcases ha with rfl | ⟨n,m,rfl,ht,_⟩ | ⟨c,ks,rfl,_,hc,hl,hk⟩
   ·simp only [if_true,List.mem_flatMap] at hy
    obtain ⟨c,hc,hy⟩:=hy
    exact V0b (by omega) hM ht' hc (by simp) (fun j a q ha hq=>by
     rw [List.getElem?_map,ha] at hq
     cases hq
     exact W7n (Z24 w 0 a) (by omega)) hl' hk' y hy
   ·exact absurd ht ht'
   ·simp only [e1,if_false] at hy
    exact V0b (by omega) hM ht' hc hl hk hl' hk' y hy
theorem V4x {w:List Q4}(hw:WW w)(he:WE w){d x:Nat}{t:Q2}(htw:t∈tys w)(hx:d+1≤x)(hM:∀ (t:Q2) (a b:Q0),t∈tys w→J6 w x t a→J6 w d t b→Q1m w x t a=true→∀ y∈J1 w d t a b,Q1m w x t y=true){c c':Int}{ks ks':List Q0}(hc:c∈X2 w t)
  (hl:ks.length=(W0 w t c).length) (hk:∀ (j:Nat) (a:Q2) (q:Q0),(W0 w t c)[j]?=some a→ks[j]?=some q→J6 w x a q)
  (hl':ks'.length=(W0 w t c').length) (hk':∀ (j:Nat) (a:Q2) (q:Q0),(W0 w t c')[j]?=some a→ks'[j]?=some q→J6 w d a q) (hem:Q1m w (x+1) t (Q0.mk 4 c 0 0 0 ks)=true) :
  ∀ y∈cmD w (J1 w d) (Q23 d) t (Q0.mk 4 c 0 0 0 ks) (Q0.mk 4 c' 0 0 0 ks'),Q1m w (x+1) t y=true:=fun y hy=>by
 simp only [cmD] at hy
 split at hy
 ·rename_i hcc
  subst hcc
  obtain ⟨k,hk1,rfl⟩:=U11.1 hy
  obtain ⟨g1,i,g2,g3⟩:=W84 (W0 w t c) ks ks' hl hl' k hk1
  obtain ⟨j,a,p,k1,k2,k3⟩:=Z03.1 hem
  obtain ⟨p',hp'⟩:=Q22 hl' (List.getElem?_eq_some_iff.1 k1).1
  obtain ⟨q,hq⟩:=Q22 g1 (List.getElem?_eq_some_iff.1 k1).1
  obtain ⟨m1,m2,m3⟩:=g3 j a p p' q k1 k2 hp' hq
  have haw:=(hw.ty t htw).at_ _ hc a (U1 k1)
  refine Z03.2 ⟨j,a,q,k1,hq,?_⟩
  rcases Nat.lt_trichotomy j i with h | h | h
  ·exact X3d hw he d x a p p' q haw (by omega) (hk j a p k1 k2) (hk' j a p' k1 hp') k3 (m1 h)
  ·exact hM a p p' haw (hk j a p k1 k2) (hk' j a p' k1 hp') k3 q (m2 h)
  ·rw [m3 h];exact k3
 ·simp at hy
  subst hy
  exact hem
theorem X0i {w:List Q4}(hw:WW w)(he:WE w):∀ (d x:Nat) (t:Q2) (a b:Q0),t∈tys w→d+1≤x→J6 w x t a→J6 w d t b→Q1m w x t a=true→∀ y∈J1 w d t a b,Q1m w x t y=true
 | 0,_,_,_,_,_,_,_,h,_,_,_=>h.elim
 | d+1,0,_,_,_,_,h,_,_,_,_,_=>by omega
 | d+1,x+1,t,a,b,htw,hx,ha,hb,hem,y,hy=>by
  have hyp:=Z00 (d+1) (x+1) t a b hx ha hb y hy
  rcases ha with rfl | ⟨n,m,rfl,ht,_⟩ | ⟨c,ks,rfl,ht,hc,hl,hk⟩
  ·simp only [Q1m,if_true,decide_eq_true_eq] at hem
   exact X1k hw he _ t y htw hyp hem
  ·simp [Q1m] at hem
  ·rcases hb with rfl | ⟨n',m',rfl,ht',_⟩ | ⟨c',ks',rfl,_,hc',hl',hk'⟩
   ·simp [J1] at hy
   ·exact absurd ht' ht
   ·have e1:¬(4:Int)=1:=by decide
    have e3:¬(4:Int)=3:=by decide
    simp only [J1,e1,e3,if_false] at hy
    exact V4x hw he htw (by omega) (fun t a b h1 h2 h3 h4=>X0i hw he d x t a b h1 (by omega) h2 h3 h4) hc hl hk hl' hk' hem y hy
def Q9r (w:List Q4)(x:Nat)(t:Q2)(l:List Q0):List Q0:=l.filter fun p=>!Q1m w x t p
def Q5g (w:List Q4)(d x:Nat)(t:Q2)(l:List Q0)(b:Q0):List Q0:=Q9r w x t (l.flatMap fun a=>J1 w d t a b)
def Q9w (w:List Q4)(d x:Nat)(t:Q2):List Q0→List Q0→Option (List Q0)
 | l,[]=>some l
 | l,b::bs=>if 400<(Q5g w d x t l b).length then none else Q9w w d x t (Q5g w d x t l b) bs
def Q7m (w:List Q4)(d x:Nat)(t:Q2)(l bs:List Q0):Option (List Q0):=Q9w w d x t (Q9r w x t l) bs
theorem X65 {w:List Q4}(hw:WW w)(he:WE w){d x:Nat}{t:Q2}(ht:t∈tys w)(hx:d+1≤x){b:Q0}(hb:J6 w d t b):∀ {l:List Q0},(∀ a∈l,J6 w x t a)→Q5g w d x t (Q9r w x t l) b=Q5g w d x t l b
 | [],_=>rfl
 | a::l,h=>by
  have ih:=X65 hw he ht hx hb (l:=l) fun a ha=>h a (by simp [ha])
  simp only [Q5g,Q9r,List.filter_cons,List.flatMap_cons,List.filter_append] at ih ⊢
  cases hem:Q1m w x t a with
  | false=>simp only [Bool.not_false,if_true,List.flatMap_cons,List.filter_append,ih]
  | true=>
   have:(J1 w d t a b).filter (fun p=>!Q1m w x t p)=[]:=by
    rw [List.filter_eq_nil_iff]
    intro y hy
    simp [X0i hw he d x t a b ht hx (h a (by simp)) hb hem y hy]
   simp [ih,this]
theorem X95 {w:List Q4}{d x:Nat}{t:Q2}{l:List Q0}{b:Q0} : Q9r w x t (Q5g w d x t l b)=Q5g w d x t l b:=by
 simp [Q5g,Q9r,List.filter_filter]
theorem Z35 {w:List Q4}{d x:Nat}{t:Q2}(hx:d+1≤x){b:Q0}(hb:J6 w d t b){l:List Q0}(h:∀ a∈l,J6 w x t a):∀ y∈Q5g w d x t l b,J6 w x t y:=fun y hy=>by
 obtain ⟨a,ha,hy⟩:=List.mem_flatMap.1 (List.mem_filter.1 hy).1
 exact Z00 d x t a b hx (h a ha) hb y hy
theorem X8c {w:List Q4}{d x:Nat}{t:Q2}(hx:d+1≤x):∀ (bs l r:List Q0),(∀ b∈bs,J6 w d t b)→(∀ a∈l,J6 w x t a)→Q9w w d x t l bs=some r→∀ y∈r,J6 w x t y
 | [],l,r,_,h,e=>by simp [Q9w] at e;subst e;exact h
 | b::bs,l,r,hb,h,e=>by
  simp only [Q9w] at e
  split at e
  ·cases e
  ·exact X8c hx bs _ r (fun b hb'=>hb b (by simp [hb'])) (Z35 hx (hb b (by simp)) h) e
theorem W2w {w:List Q4}(hw:WW w)(he:WE w){x e:Nat}{t:Q2}(ht:t∈tys w){l:List Q0}(h:∀ a∈l,J6 w x t a){v:Q1}(hv:Q2f w e t v):(∃ y∈Q9r w x t l,fitP y v=true)↔∃ y∈l,fitP y v=true:=by
 constructor
 ·rintro ⟨y,hy,g⟩;exact ⟨y,(List.mem_filter.1 hy).1,g⟩
 ·rintro ⟨y,hy,g⟩
  refine ⟨y,List.mem_filter.2 ⟨hy,?_⟩,g⟩
  cases hem:Q1m w x t y with
  | false=>rfl
  | true=>rw [X83 hw he x e t y v ht (h y hy) hem hv] at g;cases g
theorem W38 {w:List Q4}(hw:WW w)(he:WE w){d x e:Nat}{t:Q2}(ht:t∈tys w)(hx:d+1≤x){v:Q1}(hv:Q2f w e t v):∀ (bs l r:List Q0),(∀ b∈bs,J6 w d t b)→(∀ a∈l,J6 w x t a)→Q9w w d x t l bs=some r→
  ((∃ y∈r,fitP y v=true)↔(∃ a∈l,fitP a v=true)∧∀ b∈bs,fitP b v=false)
 | [],l,r,_,h,e1=>by simp [Q9w] at e1;subst e1;simp
 | b::bs,l,r,hb,h,e1=>by
  simp only [Q9w] at e1
  split at e1
  ·cases e1
  ·have hb0:=hb b (by simp)
   rw [W38 hw he ht hx hv bs _ r (fun b hb'=>hb b (by simp [hb'])) (Z35 hx hb0 h) e1]
   have hmp:∀ y∈l.flatMap (fun a=>J1 w d t a b),J6 w x t y:=fun y hy=>by
    obtain ⟨a,ha,hy⟩:=List.mem_flatMap.1 hy
    exact Z00 d x t a b hx (h a ha) hb0 y hy
   have h1:=W2w hw he ht hmp hv
   simp only [Q5g]
   rw [h1]
   constructor
   ·rintro ⟨⟨y,hy,g⟩,h2⟩
    obtain ⟨a,ha,hy⟩:=List.mem_flatMap.1 hy
    obtain ⟨g1,g2⟩:=(X6y d e t a b x (h a ha) hb0 v hv).2 ⟨y,hy,g⟩
    refine ⟨⟨a,ha,g1⟩,fun b' hb'=>?_⟩
    rcases U8.1 hb' with rfl | hb'
    ·exact g2
    ·exact h2 b' hb'
   ·rintro ⟨⟨a,ha,g1⟩,h2⟩
    obtain ⟨y,hy,g⟩:=(X6y d e t a b x (h a ha) hb0 v hv).1 ⟨g1,h2 b (by simp)⟩
    exact ⟨⟨y,List.mem_flatMap.2 ⟨a,ha,hy⟩,g⟩,fun b' hb'=>h2 b' (by simp [hb'])⟩
theorem X8x {w:List Q4}(hw:WW w)(he:WE w){d x e:Nat}{t:Q2}(ht:t∈tys w)(hx:d+1≤x){v:Q1}(hv:Q2f w e t v){l bs r:List Q0}(hb:∀ b∈bs,J6 w d t b)(h:∀ a∈l,J6 w x t a)(e1:Q7m w d x t l bs=some r) :
  (∃ y∈r,fitP y v=true)↔(∃ a∈l,fitP a v=true)∧∀ b∈bs,fitP b v=false:=by
 rw [W38 hw he ht hx hv bs (Q9r w x t l) r hb (fun a ha=>h a (List.mem_filter.1 ha).1) e1,W2w hw he ht h hv]
theorem W21 {fm:Q2→Q0→Q0→List Q0}{fj:Q0→Q0→Option Q0} : ∀ (ts:List Q2) (as bs:List Q0),(∀ (j:Nat) (t:Q2) (a b:Q0),ts[j]?=some t→bs[j]?=some b→(fm t a b).length≤3 * cntP b)→(kmD fm fj ts as bs).length≤3 * cntP.cntPs bs
 | [],as,bs,_=>by simp [kmD]
 | t::ts,[],bs,_=>by simp [kmD]
 | t::ts,a::as,[],_=>by simp [kmD]
 | t::ts,a::as,b::bs,h=>by
  have h0:=h 0 t a b rfl rfl
  have ih:=W21 (fj:=fj) ts as bs fun j t a b h1 h2=>h (j+1) t a b (by simpa using h1) (by simpa using h2)
  simp only [kmD,U5,U7,cntP.cntPs]
  cases fj a b with
  | none=>simp;omega
  | some m=>simp only [U7];omega
theorem W1q (n m n' m':Int):(X05 n m n' m').length≤2:=by
 simp only [X05,U5]
 split<;>split<;>simp
theorem W2s {α β:Type}{f:α→List β} : ∀ {l:List α},(∀ x∈l,(f x).length≤1)→(l.flatMap f).length≤l.length
 | [],_=>by simp
 | x::l,h=>by
  have h1:=h x (by simp)
  have h2:=W2s (l:=l) fun y hy=>h y (by simp [hy])
  simp only [List.flatMap_cons,U5,U3]
  omega
theorem W9h {α β:Type}{f:α→List β}{c:α}{B:Nat}(hc:(f c).length≤B):∀ {l:List α},c∈l→(∀ x∈l,x≠c→(f x).length≤1)→l.Nodup→(l.flatMap f).length+1≤l.length+B
 | [],h,_,_=>by simp at h
 | x::l,hcl,hn,hd=>by
  obtain ⟨h1,h2⟩:=List.nodup_cons.1 hd
  simp only [List.flatMap_cons,U5,U3]
  by_cases hx:x=c
  ·subst hx
   have:=W2s (f:=f) (l:=l) fun y hy=>hn y (by simp [hy]) fun e=>h1 (e▸hy)
   omega
  ·have h3:=hn x (by simp) hx
   have hcl:c∈l:=by
    rcases U8.1 hcl with rfl | h
    ·exact absurd rfl hx
    ·exact h
   have:=W9h hc hcl (fun z hz=>hn z (by simp [hz])) h2
   omega
theorem Z09 {w:List Q4}(hw:WW w)(he:WE w):∀ (d:Nat) (t:Q2) (a b:Q0),t∈tys w→J6 w d t b→(J1 w d t a b).length≤3 * cntP b
 | 0,_,_,_,_,h=>h.elim
 | d+1,t,a,b,ht,hb=>by
  rcases hb with rfl | ⟨n',m',rfl,ht',_⟩ | ⟨c',ks',rfl,ht',hc',hl',hk'⟩
  ·simp [J1]
  ·have e1:¬(3:Int)=1:=by decide
   simp only [J1,e1,if_false,if_true]
   have h1:=Q9u (Q0.mk 3 0 n' m' 0 [])
   split
   ·have:=W1q 0 9 n' m';omega
   ·have:=W1q a.n a.m n' m';omega
  ·have e1:¬(4:Int)=1:=by decide
   have e3:¬(4:Int)=3:=by decide
   simp only [J1,e1,e3,if_false]
   have hkm:∀ (as:List Q0),(kmD (J1 w d) (Q23 d) (W0 w t c') as ks').length≤3 * cntP.cntPs ks':=fun as=>
    W21 (W0 w t c') as ks' fun j u p q h1 h2=>Z09 hw he d u p q ((hw.ty t ht).at_ _ hc' u (U1 h1)) (hk' j u q h1 h2)
   have hcm:∀ a':Q0,(a'.ctor≠c'→(cmD w (J1 w d) (Q23 d) t a' (Q0.mk 4 c' 0 0 0 ks')).length≤1)∧(a'.ctor=c'→(cmD w (J1 w d) (Q23 d) t a' (Q0.mk 4 c' 0 0 0 ks')).length≤3 * cntP.cntPs ks'):=fun a'=>by
    refine ⟨fun h=>by simp [cmD,h],fun h=>?_⟩
    simp only [cmD,h,if_true,U7]
    exact hkm a'.kids
   have hcnt:cntP (Q0.mk 4 c' 0 0 0 ks')=1+cntP.cntPs ks':=Q46 _
   split
   ·have:=W9h (f:=fun c=>cmD w (J1 w d) (Q23 d) t (Q89 w t c) (Q0.mk 4 c' 0 0 0 ks')) (c:=c') ((hcm (Q89 w t c')).2 rfl) hc' (fun x _ hx=>(hcm (Q89 w t x)).1 hx) (he.nd t ht)
    have:=(hw.ty t ht).cl
    omega
   ·by_cases h:a.ctor=c'
    ·have:=(hcm a).2 h;omega
    ·have:=(hcm a).1 h;omega
theorem X66 {w:List Q4}(hw:WW w)(he:WE w){d:Nat}{t:Q2}(ht:t∈tys w){b:Q0}(hb:J6 w d t b):∀ (l:List Q0),(l.flatMap fun a=>J1 w d t a b).length≤l.length * (3 * cntP b)
 | []=>by simp
 | a::l=>by
  have h1:=Z09 hw he d t a b ht hb
  have h2:=X66 hw he ht hb l
  simp only [List.flatMap_cons,U5,U3,Nat.add_mul,Nat.one_mul]
  omega
def Q0i:Nat→Q0→Q0
 | 0,p=>p
 | d+1,p=>if p.op=2 then Q0.mk 1 0 0 0 0 [] else if p.op=6∧p.kids≠[] then Q0i d (p.kids.headD p) else Q0.mk p.op p.ctor p.n p.m p.var (p.kids.map (Q0i d))
def altD (w:List Q4):Nat→Q2→Q0→Prop
 | 0,_,_=>False
 | d+1,t,p=>p=Q0.mk 1 0 0 0 0 []∨(∃ n m,p=Q0.mk 3 0 n m 0 []∧t.data = -1∧0≤n∧n≤m∧m≤9)∨
  (∃ c ks,p=Q0.mk 4 c 0 0 0 ks∧t.data≠-1∧c∈X2 w t∧ks.length=(W0 w t c).length∧∀ (j:Nat) (a:Q2) (q:Q0),(W0 w t c)[j]?=some a→ks[j]?=some q→altD w d a q)∨
  (∃ a b,p=Q0.mk 5 0 0 0 0 [a,b]∧altD w d t a∧altD w d t b)
theorem Z9i {w:List Q4} : ∀ (d:Nat) (t:Q2) (p:Q0),altD w d t p→altD w (d+1) t p
 | 0,_,_,h=>h.elim
 | d+1,t,p,h=>by
  rcases h with h | h | ⟨c,ks,e,h1,h2,h3,h4⟩ | ⟨a,b,e,h1,h2⟩
  ·exact .inl h
  ·exact .inr (.inl h)
  ·exact .inr (.inr (.inl ⟨c,ks,e,h1,h2,h3,fun j a q ha hq=>Z9i d a q (h4 j a q ha hq)⟩))
  ·exact .inr (.inr (.inr ⟨a,b,e,Z9i d t a h1,Z9i d t b h2⟩))
theorem X3l {w:List Q4}{d:Nat}{t:Q2}{p:Q0}(h0:t.data = -1→X2 w t=[])(g:Q0r w (d+1) t p=true) :
  p=Q0.mk 1 0 0 0 0 []∨(∃ v,p=Q0.mk 2 0 0 0 v [])∨(∃ n m,p=Q0.mk 3 0 n m 0 []∧t.data = -1∧0≤n∧n≤m∧m≤9)∨
  (∃ c ks,p=Q0.mk 4 c 0 0 0 ks∧t.data≠-1∧c∈X2 w t∧ks.length=(W0 w t c).length∧∀ (j:Nat) (a:Q2) (q:Q0),(W0 w t c)[j]?=some a→ks[j]?=some q→Q0r w d a q=true)∨
  (∃ a b,p=Q0.mk 5 0 0 0 0 [a,b]∧Q0r w d t a=true∧Q0r w d t b=true)∨(∃ v a,p=Q0.mk 6 0 0 0 v [a]∧Q0r w d t a=true):=by
 have hn:=Q3c (Q2e g)
 have hkid:=fun (j:Nat) (a:Q2) (q:Q0)=>W9 (k:=j) (a:=a) (q:=q) g
 obtain ⟨op,ctor,n,m,var,kids⟩:=p
 have ho:=hn.1
 simp only [Z4r,Bool.and_eq_true,Bool.or_eq_true,decide_eq_true_eq] at ho
 obtain ⟨⟨⟨k1,k2⟩,k3⟩,k4⟩:=ho
 have hop:op=1∨op=2∨op=3∨op=4∨op=5∨op=6:=by
  rcases k4 with (h | h) | h
  ·rcases h with h | h | h | h<;>simp [h]
  ·simp [h.1.1.1.1]
  ·simp [h.1]
 rcases hop with rfl | rfl | rfl | rfl | rfl | rfl
 ·have hl:=hn.2
  simp [V4] at hl k1 k2 k3
  subst hl;obtain ⟨rfl,rfl⟩:=k2;subst k1;subst k3
  exact .inl rfl
 ·have hl:=hn.2
  simp [V4] at hl k2 k3
  subst hl;obtain ⟨rfl,rfl⟩:=k2;subst k3
  exact .inr (.inl ⟨var,rfl⟩)
 ·have hl:=hn.2
  simp [V4] at hl k1 k3 k4
  subst hl;subst k1;subst k3
  exact .inr (.inr (.inl ⟨n,m,rfl,k4.1.1.1,k4.1.1.2,k4.1.2,k4.2⟩))
 ·have hl:=hn.2
  simp [V4] at hl k1 k2 k4
  obtain ⟨rfl,rfl⟩:=k2;subst k1
  refine .inr (.inr (.inr (.inl ⟨ctor,kids,rfl,fun hd=>?_,k4,hl,fun j a q ha hq=>hkid j a q (by simpa [V4] using ha) hq⟩)))
  rw [h0 hd] at k4
  simp at k4
 ·have hl:=hn.2
  simp [V4] at hl k1 k2 k3
  obtain ⟨rfl,rfl⟩:=k2;subst k1;subst k3
  match kids,hl with
  | [a,b],_=>exact .inr (.inr (.inr (.inr (.inl ⟨a,b,rfl,hkid 0 t a (by simp [V4]) rfl,hkid 1 t b (by simp [V4]) rfl⟩))))
 ·have hl:=hn.2
  simp [V4] at hl k2 k3
  obtain ⟨rfl,rfl⟩:=k2;subst k3
  match kids,hl with
  | [a],_=>exact .inr (.inr (.inr (.inr (.inr ⟨var,a,rfl,hkid 0 t a (by simp [V4]) rfl⟩))))
theorem Z13 {w:List Q4}(h0:∀ t,t.data = -1→X2 w t=[]):∀ (d:Nat) (t:Q2) (p:Q0),Q0r w d t p=true→altD w d t (Q0i d p)
 | 0,_,_,h=>by simp [Q0r] at h
 | d+1,t,p,g=>by
  rcases X3l (h0 t) g with rfl | ⟨v,rfl⟩ | ⟨n,m,rfl,h⟩ | ⟨c,ks,rfl,h1,h2,h3,h4⟩ | ⟨a,b,rfl,h1,h2⟩ | ⟨v,a,rfl,h1⟩
  ·exact .inl (by simp [Q0i])
  ·exact .inl (by simp [Q0i])
  ·exact .inr (.inl ⟨n,m,by simp [Q0i],h⟩)
  ·refine .inr (.inr (.inl ⟨c,ks.map (Q0i d),by simp [Q0i],h1,h2,by simpa using h3,fun j a q ha hq=>?_⟩))
   rw [List.getElem?_map] at hq
   obtain ⟨q',e1,e2⟩:=U12.1 hq
   subst e2
   exact Z13 h0 d a q' (h4 j a q' ha e1)
  ·exact .inr (.inr (.inr ⟨Q0i d a,Q0i d b,by simp [Q0i],Z13 h0 d t a h1,Z13 h0 d t b h2⟩))
  ·have:Q0i (d+1) (Q0.mk 6 0 0 0 v [a])=Q0i d a:=by simp [Q0i]
   rw [this]
   exact Z9i d t _ (Z13 h0 d t a h1)
def MemL (cs:List Q0)(ls:List (List Q0)):Prop:=cs.length=ls.length∧∀ (j:Nat) (c:Q0) (l:List Q0),cs[j]?=some c→ls[j]?=some l→c∈l
theorem Z3o {c:Q0}{cs:List Q0}{l:List Q0}{ls:List (List Q0)} : MemL (c::cs) (l::ls)↔c∈l∧MemL cs ls:=by
 constructor
 ·rintro ⟨h1,h2⟩
  exact ⟨h2 0 c l rfl rfl,by simpa using h1,fun j x y e1 e2=>h2 (j+1) x y (by simpa using e1) (by simpa using e2)⟩
 ·rintro ⟨h0,h1,h2⟩
  refine ⟨by simp [h1],fun j x y e1 e2=>?_⟩
  cases j with
  | zero=>simp at e1 e2;subst e1;subst e2;exact h0
  | succ j=>exact h2 j x y (by simpa using e1) (by simpa using e2)
theorem W20:∀ (ls out:List (List Q0)) (ks:List Q0),ks∈ls.foldl tupD out↔∃ o∈out,∃ cs,MemL cs ls∧ks=o++cs
 | [],out,ks=>by
  simp only [List.foldl_nil]
  constructor
  ·exact fun h=>⟨ks,h,[],⟨rfl,fun j c l h=>by simp at h⟩,by simp⟩
  ·rintro ⟨o,ho,cs,h,rfl⟩
   have:cs=[]:=List.eq_nil_of_length_eq_zero (by simpa using h.1)
   subst this
   simpa using ho
 | l::ls,out,ks=>by
  simp only [List.foldl_cons]
  rw [W20 ls (tupD out l) ks]
  constructor
  ·rintro ⟨o,ho,cs,h,rfl⟩
   obtain ⟨q,hq,ho⟩:=List.mem_flatMap.1 ho
   obtain ⟨c,hc,rfl⟩:=U11.1 ho
   exact ⟨q,hq,c::cs,Z3o.2 ⟨hc,h⟩,by simp⟩
  ·rintro ⟨o,ho,cs,h,rfl⟩
   cases cs with
   | nil=>have:=h.1;simp at this
   | cons c cs=>
    obtain ⟨hc,h⟩:=Z3o.1 h
    exact ⟨o++[c],List.mem_flatMap.2 ⟨o,ho,U11.2 ⟨c,hc,rfl⟩⟩,cs,h,by simp⟩
theorem Z63 {ls:List (List Q0)}{ks:List Q0} : ks∈ls.foldl tupD [[]]↔MemL ks ls:=by
 rw [W20]
 constructor
 ·rintro ⟨o,ho,cs,h,rfl⟩
  simp at ho
  subst ho
  simpa using h
 ·exact fun h=>⟨[],by simp,ks,h,by simp⟩
theorem Z4d {w:List Q4} : ∀ (d:Nat) (t:Q2) (p:Q0),altD w d t p→∀ q∈Z9 d p,J6 w d t q
 | 0,_,_,h,_,_=>h.elim
 | d+1,t,p,h,q,hq=>by
  rcases h with rfl | ⟨n,m,rfl,h⟩ | ⟨c,ks,rfl,h1,h2,h3,h4⟩ | ⟨a,b,rfl,h1,h2⟩
  ·simp [Z9,Z0v] at hq;subst hq;exact .inl rfl
  ·simp [Z9,Z0v] at hq;subst hq;exact .inr (.inl ⟨n,m,rfl,h⟩)
  ·have e5:¬(4:Int)=5:=by decide
   simp only [Z9,e5,if_false,U11] at hq
   obtain ⟨cs,hcs,rfl⟩:=hq
   obtain ⟨g1,g2⟩:=Z63.1 hcs
   refine .inr (.inr ⟨c,cs,rfl,h1,h2,by simpa [h3] using g1,fun j a q ha hq=>?_⟩)
   obtain ⟨k,hk⟩:=Q22 h3 (List.getElem?_eq_some_iff.1 ha).1
   exact Z4d d a k (h4 j a k ha hk) q (g2 j q (Z9 d k) hq (by rw [List.getElem?_map,hk];rfl))
  ·simp only [Z9,if_true,List.flatMap_cons,List.flatMap_nil,List.append_nil,U9] at hq
   rcases hq with hq | hq
   ·exact Z61 d t q (Z4d d t a h1 q hq)
   ·exact Z61 d t q (Z4d d t b h2 q hq)
theorem Z4e {w:List Q4} : ∀ (d:Nat) (t:Q2) (p:Q0),altD w d t p→Z9 (d+1) p=Z9 d p
 | 0,_,_,h=>h.elim
 | d+1,t,p,h=>by
  rcases h with rfl | ⟨n,m,rfl,h⟩ | ⟨c,ks,rfl,h1,h2,h3,h4⟩ | ⟨a,b,rfl,h1,h2⟩
  ·simp [Z9]
  ·simp [Z9]
  ·have e5:¬(4:Int)=5:=by decide
   have:ks.map (Z9 (d+1))=ks.map (Z9 d):=by
    refine List.map_congr_left fun k hk=>?_
    obtain ⟨j,hj⟩:=List.mem_iff_getElem?.1 hk
    obtain ⟨a,ha⟩:=Q22 h3.symm (List.getElem?_eq_some_iff.1 hj).1
    exact Z4e d a k (h4 j a k ha hj)
   rw [Z9,Z9]
   simp only [e5,if_false,this]
  ·rw [Z9,Z9]
   simp only [if_true,List.flatMap_cons,List.flatMap_nil,Z4e d t a h1,Z4e d t b h2]
theorem X3f {f:Q0→Q1→Option (List X1)}{S:Q0→List Q0} : ∀ (ps:List Q0) (vs:List Q1),ps.length=vs.length→
  (∀ (j:Nat) (p:Q0) (v:Q1),ps[j]?=some p→vs[j]?=some v→((f p v).isSome=true↔∃ q∈S p,fitP q v=true))→((Q2x f ps vs).isSome=true↔∃ cs,MemL cs (ps.map S)∧fitL cs vs=true)
 | [],[],_,_=>by
  simp only [Q2x,Option.isSome_some,true_iff]
  exact ⟨[],⟨rfl,fun j c l h=>by simp at h⟩,by simp⟩
 | p::ps,v::vs,hl,h=>by
  have h0:=h 0 p v rfl rfl
  have ih:=X3f (f:=f) (S:=S) ps vs (by simpa using hl) fun j x y e1 e2=>h (j+1) x y (by simpa using e1) (by simpa using e2)
  have hm:(Q2x f (p::ps) (v::vs)).isSome=((f p v).isSome&&(Q2x f ps vs).isSome):=by
   simp only [Q2x]
   cases f p v with
   | none=>rfl
   | some l=>cases Q2x f ps vs<;>rfl
  rw [hm,Bool.and_eq_true,h0,ih]
  constructor
  ·rintro ⟨⟨q,hq,g1⟩,cs,hcs,g2⟩
   exact ⟨q::cs,Z3o.2 ⟨hq,hcs⟩,by simp [g1,g2]⟩
  ·rintro ⟨cs,hcs,g⟩
   cases cs with
   | nil=>have:=hcs.1;simp at this
   | cons c cs=>
    obtain ⟨hc,hcs⟩:=Z3o.1 hcs
    simp only [Z1n,Bool.and_eq_true] at g
    exact ⟨⟨c,hc,g.1⟩,cs,hcs,g.2⟩
 | [],_::_,h,_=>by simp at h
 | _::_,[],h,_=>by simp at h
theorem Z3q {w:List Q4}(h0:∀ t,t.data = -1→X2 w t=[]):∀ (d e:Nat) (t:Q2) (p:Q0) (v:Q1),Q0r w d t p=true→Q2f w e t v→((X7 d p v).isSome=true↔∃ q∈Z9 d (Q0i d p),fitP q v=true)
 | 0,_,_,_,_,h,_=>by simp [Q0r] at h
 | d+1,e,t,p,v,g,hv=>by
  rcases X3l (h0 t) g with rfl | ⟨x,rfl⟩ | ⟨n,m,rfl,h⟩ | ⟨c,ks,rfl,h1,h2,h3,h4⟩ | ⟨a,b,rfl,h1,h2⟩ | ⟨x,a,rfl,h1⟩
  ·simp [X7,Q0i,Z9,Z0v,Z1g]
  ·simp [X7,Q0i,Z9,Z0v,Z1g]
  ·have hb:Q0i (d+1) (Q0.mk 3 0 n m 0 [])=Q0.mk 3 0 n m 0 []:=by simp [Q0i]
   have hs:Z9 (d+1) (Q0.mk 3 0 n m 0 [])=[Q0.mk 3 0 n m 0 []]:=by simp [Z9,Z0v]
   rw [hb,hs]
   simp only [List.mem_singleton,exists_eq_left]
   rw [Z0n rfl]
   have e1:¬(3:Int)=1:=by decide
   have e2:¬(3:Int)=2:=by decide
   simp only [X7,e1,e2,if_false,if_true,decide_eq_true_eq]
   split<;>simp [*]
  ·have e1:¬(4:Int)=1:=by decide
   have e2:¬(4:Int)=2:=by decide
   have e3:¬(4:Int)=3:=by decide
   have e5:¬(4:Int)=5:=by decide
   have e6:¬(4:Int)=6:=by decide
   have hb:Q0i (d+1) (Q0.mk 4 c 0 0 0 ks)=Q0.mk 4 c 0 0 0 (ks.map (Q0i d)):=by simp [Q0i]
   rw [hb]
   simp only [Z9,e5,if_false,U11,X7,e1,e2,e3,e6]
   obtain ⟨e',rfl,gv1,gv2,gv3⟩:=Z02 hv h1
   by_cases hc:c=v.ctor
   ·subst hc
    simp only [if_true]
    rw [X3f (f:=X7 d) (S:=fun p=>Z9 d (Q0i d p)) ks v.kids (h3.trans gv2.symm) fun j p u hp hu=>by
     obtain ⟨a,ha⟩:=Q22 h3.symm (List.getElem?_eq_some_iff.1 hp).1
     exact Z3q h0 d e' a p u (h4 j a p ha hp) (gv3 j a u ha hu)]
    have hmm:(ks.map (Q0i d)).map (Z9 d)=ks.map (fun p=>Z9 d (Q0i d p)):=by simp
    constructor
    ·rintro ⟨cs,hcs,g⟩
     refine ⟨_,⟨cs,?_,rfl⟩,?_⟩
     ·rw [hmm];exact Z63.2 hcs
     ·rw [Z0v,Q51 rfl];simp [g]
    ·rintro ⟨_,⟨cs,hcs,rfl⟩,g⟩
     rw [hmm] at hcs
     rw [Z0v,Q51 rfl] at g
     simp only [Bool.and_eq_true] at g
     exact ⟨cs,Z63.1 hcs,g.2⟩
   ·simp only [if_neg hc,Option.isSome_none,U2,false_iff]
    rintro ⟨_,⟨cs,hcs,rfl⟩,g⟩
    rw [Z0v,Q51 rfl] at g
    simp only [Bool.and_eq_true,decide_eq_true_eq] at g
    exact hc g.1
  ·have ia:=Z3q h0 d e t a v h1 hv
   have ib:=Z3q h0 d e t b v h2 hv
   have hb:Q0i (d+1) (Q0.mk 5 0 0 0 0 [a,b])=Q0.mk 5 0 0 0 0 [Q0i d a,Q0i d b]:=by simp [Q0i]
   have e1:¬(5:Int)=1:=by decide
   have e2:¬(5:Int)=2:=by decide
   have e3:¬(5:Int)=3:=by decide
   rw [hb]
   simp only [Z9,if_true,List.flatMap_cons,List.flatMap_nil,List.append_nil,U9,X7,e1,e2,e3,if_false]
   cases hm:X7 d a v with
   | some l=>
    rw [hm] at ia
    obtain ⟨q,hq,g⟩:=ia.1 rfl
    simp only [Option.isSome_some,true_iff]
    exact ⟨q,.inl hq,g⟩
   | none=>
    rw [hm] at ia
    simp only
    rw [ib]
    constructor
    ·rintro ⟨q,hq,g⟩;exact ⟨q,.inr hq,g⟩
    ·rintro ⟨q,hq | hq,g⟩
     ·have:=ia.2 ⟨q,hq,g⟩;simp at this
     ·exact ⟨q,hq,g⟩
  ·have ia:=Z3q h0 d e t a v h1 hv
   have hb:Q0i (d+1) (Q0.mk 6 0 0 0 x [a])=Q0i d a:=by simp [Q0i]
   have e1:¬(6:Int)=1:=by decide
   have e2:¬(6:Int)=2:=by decide
   have e3:¬(6:Int)=3:=by decide
   have e5:¬(6:Int)=5:=by decide
   rw [hb,Z4e d t _ (Z13 h0 d t a h1)]
   simp only [X7,e1,e2,e3,e5,if_false,if_true,Option.isSome_map]
   exact ia
def dimP (w:List Q4):List Int:=(Q6q NN w).getD []
def V2w (w:List Q4)(t:Q2)(k:Int):Bool:=decide (0<(Q21 (dimP w) w t k).getD 0)
def V5e (w:List Q4)(t:Q2)(k:Int):Bool:=match Q5k w t k with
 | some p=>decide (Q0t NN w (tabP w) t p=some (V2w w t k))
 | none=>false
def chkL (w:List Q4):Bool:=decide (Q6q NN w=some (dimP w)) &&
 (tys w).all fun t=>decide (t.data = -1)||(X2 w t).all fun k=>(Q21 (dimP w) w t k).isSome&&(V5e w t k&&decide (k≠-1))
theorem Y8u:Q0j.all chkL=true:=by kernel_rfl
structure WL (w:List Q4):Prop where
 dim:Q61 NN w=some ⟨w,dimP w⟩
 ctor:∀ t∈tys w,t.data≠-1→∀ k∈X2 w t,∃ r,Q21 (dimP w) w t k=some r∧V2w w t k=decide (0<r)
 wide:∀ t∈tys w,t.data≠-1→∀ k∈X2 w t,∃ p,Q5k w t k=some p∧Q0t NN w (tabP w) t p=some (V2w w t k)
 pos:∀ t∈tys w,t.data≠-1→∀ k∈X2 w t,k≠-1
theorem wl {w:List Q4}(h:w∈Q0j):WL w:=by
 have h:=List.all_eq_true.1 Y8u w h
 simp only [chkL,Bool.and_eq_true,Bool.or_eq_true,decide_eq_true_eq,List.all_eq_true,Option.isSome_iff_exists] at h
 obtain ⟨h1,h2⟩:=h
 have h3:∀ t∈tys w,t.data≠-1→∀ k∈X2 w t,_:=fun t ht hd k hk=>((h2 t ht).resolve_left hd) k hk
 refine ⟨by unfold Q61;rw [h1];rfl,fun t ht hd k hk=>?_,fun t ht hd k hk=>?_,fun t ht hd k hk=>(h3 t ht hd k hk).2.2⟩
 ·obtain ⟨⟨r,hr⟩,_⟩:=h3 t ht hd k hk
  exact ⟨r,hr,by rw [V2w,hr];rfl⟩
 ·obtain ⟨_,hw,_⟩:=h3 t ht hd k hk
  unfold V5e at hw
  split at hw
  ·rename_i p hp
   exact ⟨p,hp,by simpa using hw⟩
  ·cases hw
theorem Q63 {α β ρ:Type}{f:Nat→α→List β→Option (Ctl ρ (List β))}(g:α→List β)(M:Nat):∀ (xs:List α) (k:Nat) (s:List β),(∀ k,∀ x∈xs,∀ s:List β,s.length+(g x).length≤M→f k x s=some (.go (s++g x)))→s.length+(xs.flatMap g).length≤M→forL f k xs s=some (.brk (s++xs.flatMap g))
 | [],k,s,_,_=>by simp [forL]
 | x::xs,k,s,h,hM=>by
  simp only [List.flatMap_cons,U5] at hM
  unfold forL
  rw [h k x (by simp) s (by omega)]
  simp only
  rw [Q63 g M xs (k+1) (s++g x) (fun k y hy=>h k y (by simp [hy])) (by simp only [U5];omega)]
  simp
theorem Q52 {α:Type}{l l':List α}{k:Nat}{a:α}(h:l.drop k=a::l'):l[k]?=some a∧l.drop (k+1)=l':=by
 constructor
 ·have:=congrArg (fun m=>m[0]?) h
  simpa [List.getElem?_drop] using this
 ·have:=congrArg (fun m=>m.drop 1) h
  simpa [List.drop_drop,Nat.add_comm] using this
theorem V44 {n:Int}(h0:0≤n)(h:n≤100000):Q30 n=some []:=by
 unfold Q30
 have e:ilt n 0=false:=by rw [J8];exact h0
 have e0:wsub .i64 0 (lenZ 0)=0:=rfl
 have e1:wsub .i64 n 0=n:=by rw [Q3v]<;>omega
 simp only [e,U2,if_false,e0,e1]
 by_cases hn:0<n
 ·have e2:ilt 0 n=true:=by rw [Z5];exact hn
  have e3:mkS n (Q0.mk 0 0 0 0 0 [])=some (List.replicate n.toNat (Q0.mk 0 0 0 0 0 [])):=by
   unfold mkS;rw [if_pos ⟨h0,by simp [Q9];omega⟩]
  rw [if_pos e2,e3]
  rfl
 ·have e2:ilt 0 n=false:=by rw [J8];omega
  rw [if_neg (by rw [e2];simp)]
  rfl
theorem W5m {a b c:List Q0}(h:a.length+b.length+c.length≤100000):Q09 [a,b,c]=some (a++b++c):=by
 unfold Q09
 have hA:wadd .i64 0 (lenZ a.length)=(a.length:Int):=by rw [J9]<;>simp only [lenZ]<;>omega
 have hB:wadd .i64 (a.length:Int) (lenZ b.length)=(a.length:Int)+b.length:=by rw [J9]<;>simp only [lenZ]<;>omega
 have hC:wadd .i64 ((a.length:Int)+b.length) (lenZ c.length)=(a.length:Int)+b.length+c.length:=by rw [J9]<;>simp only [lenZ]<;>omega
 have l1:ilt (a.length:Int) 0=false:=by rw [J8];omega
 have l2:ilt ((a.length:Int)+b.length) 0=false:=by rw [J8];omega
 have l3:ilt ((a.length:Int)+b.length+c.length) 0=false:=by rw [J8];omega
 simp only [forL,hA,hB,hC,l1,l2,l3,U2,if_false,U0]
 rw [V44 (by omega) (by omega)]
 simp only [U0]
 rw [V5 (by simp [Q9];omega)]
 simp only [U0,List.nil_append]
 rw [V5 (by simp only [Q9];omega)]
 simp only [U0]
 rw [V5 (by simp only [U5,Q9];omega)]
 rfl
theorem V5w (a b:Int):imax a b=max a b:=by unfold imax;omega
theorem V5v (a b:Int):imin a b=min a b:=by unfold imin;omega
def i3 (a b:Int):List Q0:=if a≤b then [Q0.mk 3 0 a b 0 []] else []
theorem V7k {n:Nat}(hn:2≤n)(a b:Int):Q3e n [a,b]=some (i3 a b):=by
 obtain ⟨m,rfl⟩:∃ m,n=m+2:=⟨n-2,by omega⟩
 have w1:wadd .i64 0 1=1:=rfl
 have w2:wadd .i64 0 2=2:=rfl
 unfold Q3e i3
 by_cases h:a≤b<;>simp [whileL,idx,ilt,ile,app,w1,w2,h,lenZ,Q9]
theorem V7j {n:Nat}(hn:3≤n)(a b c e:Int):Q3e n [a,b,c,e]=some (i3 a b++i3 c e):=by
 obtain ⟨m,rfl⟩:∃ m,n=m+3:=⟨n-3,by omega⟩
 have w1:wadd .i64 0 1=1:=rfl
 have w2:wadd .i64 0 2=2:=rfl
 have w3:wadd .i64 2 1=3:=rfl
 have w4:wadd .i64 2 2=4:=rfl
 unfold Q3e i3
 by_cases h:a≤b<;>by_cases h':c≤e<;>simp [whileL,idx,ilt,ile,app,w1,w2,w3,w4,h,h',lenZ,Q9]
def zP:Q0:=Q0.mk 0 0 0 0 0 []
def Z64:Option Q0→Q0×Bool
 | some m=>(m,true)
 | none=>(zP,false)
theorem Z3j {w:List Q4}{d:Nat}{t:Q2}{p:Q0}(h:J6 w d t p):∃ e,d=e+1∧(p=Q0.mk 1 0 0 0 0 []∨(∃ n m,p=Q0.mk 3 0 n m 0 []∧t.data = -1∧0≤n∧n≤m∧m≤9)∨
  (∃ c ks,p=Q0.mk 4 c 0 0 0 ks∧t.data≠-1∧c∈X2 w t∧ks.length=(W0 w t c).length∧∀ (j:Nat) (a:Q2) (q:Q0),(W0 w t c)[j]?=some a→ks[j]?=some q→J6 w e a q)):=by
 cases d with
 | zero=>exact h.elim
 | succ e=>exact ⟨e,rfl,h⟩
theorem X0r {w:List Q4}(hw:WW w)(S:List Int):∀ (d n x:Nat) (t:Q2) (a b:Q0),t∈tys w→J6 w x t a→J6 w d t b→d+3≤n→V7 n ⟨w,S⟩ t a b=some (Z64 (Q23 d a b))
 | 0,_,_,_,_,_,_,_,h,_=>h.elim
 | d+1,n,x,t,a,b,ht,ha,hb,hn=>by
  obtain ⟨n,rfl⟩:∃ m,n=m+1:=⟨n-1,by omega⟩
  obtain ⟨x,rfl,ha⟩:=Z3j ha
  have i11:ieq 1 1=true:=rfl
  have i31:ieq 3 1=false:=rfl
  have i33:ieq 3 3=true:=rfl
  have i41:ieq 4 1=false:=rfl
  have i43:ieq 4 3=false:=rfl
  have e31:¬(3:Int)=1:=by decide
  have e41:¬(4:Int)=1:=by decide
  have e43:¬(4:Int)=3:=by decide
  rcases ha with rfl | ⟨n1,m1,rfl,hd,_⟩ | ⟨c,ks,rfl,hd,hc,hl,hk⟩
  ·simp [V7,Q23,Z64,i11]
  ·rcases hb with rfl | ⟨n2,m2,rfl,_⟩ | ⟨c',ks',rfl,hd',_⟩
   ·simp [V7,Q23,Z64,i11,i31]
   ·simp only [V7,Q23,i31,i33,e31,U2,if_false,if_true]
    rw [V7k (by omega),V5w,V5v]
    by_cases h:max n1 n2≤min m1 m2
    ·simp [i3,h,idx,ieq,lenZ,Z64]
    ·simp [i3,h,ieq,lenZ,Z64,zP]
   ·exact absurd hd hd'
  ·rcases hb with rfl | ⟨n2,m2,rfl,hd',_⟩ | ⟨c',ks',rfl,_,hc',hl',hk'⟩
   ·simp [V7,Q23,Z64,i11,i41]
   ·exact absurd hd' hd
   ·simp only [V7,Q23,i41,i43,e41,e43,U2,if_false]
    by_cases hcc:c=c'
    ·subst hcc
     have ec:(!ieq c c)=false:=by simp [ieq]
     simp only [ec,U2,if_false,if_true]
     rw [(hw.ty t ht).a2 c hc]
     simp only [U0]
     have hal:=(hw.ty t ht).al c hc
     have hlp:∀ (ts:List Q2) (k:Nat) (s:List Q0) (as' bs':List Q0),(W0 w t c).drop k=ts→ks.drop k=as'→ks'.drop k=bs'→s.length+ts.length≤100→
       forL (fun k131 x132 (s125:(List Q0))=>
        ((idx ks (k131:Int)).bind fun x143=>
        ((idx ks' (k131:Int)).bind fun x144=>
        ((V7 n ⟨w,S⟩ x132 x143 x144).bind fun r145=>
        (if (!r145.2)=true then
        some (Ctl.ret (((Q0.mk 0 0 0 0 0 []),false)))
        else
        ((app s125 [r145.1]).bind fun x148=>
        some (Ctl.go x148))))))) k ts s=some (match Q79 (Q23 d) as' bs' with | some ms=>.brk (s++ms) | none=>.ret (zP,false)):=by
      intro ts
      induction ts with
      | nil=>
       intro k s as' bs' h0 h1 h2 _
       have hge:(W0 w t c).length≤k:=by have:=congrArg List.length h0;simp at this;omega
       have e1:as'=[]:=by rw [←h1];exact List.drop_eq_nil_of_le (by omega)
       have e2:bs'=[]:=by rw [←h2];exact List.drop_eq_nil_of_le (by omega)
       subst e1;subst e2
       simp [forL,Q79]
      | cons u ts ih=>
       intro k s as' bs' h0 h1 h2 hs
       obtain ⟨u1,u2⟩:=Q52 h0
       have hkl:=(List.getElem?_eq_some_iff.1 u1).1
       cases as' with
       | nil=>have:=congrArg List.length h1;simp at this;omega
       | cons a as'=>
       cases bs' with
       | nil=>have:=congrArg List.length h2;simp at this;omega
       | cons b bs'=>
       obtain ⟨a1,a2⟩:=Q52 h1
       obtain ⟨b1,b2⟩:=Q52 h2
       simp only [U3] at hs
       unfold forL
       rw [Q00 a1,Q00 b1]
       simp only [U0]
       rw [X0r hw S d n x u a b ((hw.ty t ht).at_ _ hc u (U1 u1)) (hk k u a u1 a1) (hk' k u b u1 b1) (by omega)]
       simp only [U0,Q79]
       cases hm:Q23 d a b with
       | none=>simp [Z64,zP]
       | some m=>
        simp only [Z64,Bool.not_true,U2,if_false,U0]
        rw [V5 (by simp only [U3,U4,Q9];omega)]
        simp only [U0]
        rw [ih (k+1) (s++[m]) as' bs' u2 a2 b2 (by simp;omega)]
        cases Q79 (Q23 d) as' bs' with
        | none=>simp
        | some ms=>simp
     have:=hlp (W0 w t c) 0 [] ks ks' rfl rfl rfl (by simp;omega)
     rw [this]
     cases Q79 (Q23 d) ks ks' with
     | none=>simp [Z64]
     | some ms=>simp [Z64]
    ·have ec:(!ieq c c')=true:=by simp [ieq,hcc]
     simp [ec,hcc,Z64,zP]
theorem V23 {w:List Q4}(hw:WW w)(S:List Int){t:Q2}(ht:t∈tys w){c:Int}(hc:c∈X2 w t):Q42 ⟨w,S⟩ t c=some (Q89 w t c):=by
 unfold Q42
 simp only
 rw [(hw.ty t ht).a2 c hc]
 simp only [U0]
 have hal:=(hw.ty t ht).al c hc
 rw [Q63 (fun _=>[Q0.mk 1 0 0 0 0 []]) 100 (W0 w t c) 0 [] (fun k x _ s hs=>by
  have:Q1k=some (Q0.mk 1 0 0 0 0 []):=rfl
  rw [this]
  simp only [U0]
  simp only [U3,U4] at hs
  rw [V5 (by simp only [U3,U4,Q9];omega)]
  rfl) (by
   have:∀ l:List Q2,(l.flatMap fun _=>[Q0.mk 1 0 0 0 0 []]).length=l.length:=fun l=>by induction l with | nil=>rfl | cons a l ih=>simp [ih]
   rw [this];simp;omega)]
 simp only [U0,List.nil_append,Q89]
 congr 2
 induction W0 w t c with
 | nil=>rfl
 | cons a l ih=>simp [ih]
theorem X3a (p:Q0):Q7i p=some (if p.op=1 then (0,9) else (p.n,p.m)):=by
 unfold Q7i
 by_cases h:p.op=1
 ·have:ieq p.op 1=true:=by rw [Q8];exact h
  rw [if_pos this,if_pos h]
 ·have:ieq p.op 1=false:=by rw [Z2];exact h
  rw [if_neg (by rw [this];simp),if_neg h]
theorem W85 {w:List Q4}{S:List Int}{n c0:Nat}{c:Int}{ks ks':List Q0}{fm:Q2→Q0→Q0→List Q0}{fj:Q0→Q0→Option Q0}{args:List Q2}
  (hl:ks.length=args.length) (hl':ks'.length=args.length) (ha3:args.length≤3)
  (hmin:∀ (k:Nat) (u:Q2) (a b:Q0),args[k]?=some u→ks[k]?=some a→ks'[k]?=some b→W2 n ⟨w,S⟩ u a b=some (fm u a b)∧V7 n ⟨w,S⟩ u a b=some (Z64 (fj a b))) :
  ∀ (ts:List Q2) (k:Nat) (out front as' bs':List Q0),args.drop k=ts→ks.drop k=as'→ks'.drop k=bs'→front.length=k→out.length+(kmD fm fj ts as' bs').length≤50000→c0=c0→
  ∃ fr,forL (fun k1426 x1427 (s1422:(List Q0)×(List Q0))=>
   ((idx ks (k1426:Int)).bind fun x1558=>
   ((idx ks' (k1426:Int)).bind fun x1559=>
   ((W2 n ⟨w,S⟩ x1427 x1558 x1559).bind fun r1560=>
   ((forL (fun k1588 x1589 (s1584:(List Q0))=>
   ((Z30 ks (wadd .i64 (k1426:Int) 1)).bind fun x1596=>
   ((Q09 [s1422.2,[x1589],x1596]).bind fun r1597=>
   ((app s1584 [(Q0.mk 4 c 0 0 0 r1597)]).bind fun x1598=>
   some (Ctl.go x1598))))) 0 r1560 s1422.1).bind fun (o1583:Ctl (Ctl (List Q0) ((List Q0)×(List Q0))) ((List Q0)))=>match o1583 with
   | .ret r=>some r
   | .go _=>none
   | .brk s1592=>
   ((V7 n ⟨w,S⟩ x1427 x1558 x1559).bind fun r1599=>
   (if (!r1599.2)=true then
   some (Ctl.brk (s1592,s1422.2))
   else
   ((app s1422.2 [r1599.1]).bind fun x1602=>
   some (Ctl.go (s1592,x1602)))))))))) k ts (out,front)=some (.brk (out++(kmD fm fj ts as' bs').map (fun q=>Q0.mk 4 c 0 0 0 (front++q)),fr)):=by
 intro ts
 induction ts with
 | nil=>
  intro k out front as' bs' h0 h1 h2 hf hs _
  exact ⟨front,by simp [forL,kmD]⟩
 | cons u ts ih=>
  intro k out front as' bs' h0 h1 h2 hf hs _
  obtain ⟨u1,u2⟩:=Q52 h0
  have hkl:=(List.getElem?_eq_some_iff.1 u1).1
  cases as' with
  | nil=>have:=congrArg List.length h1;simp at this;omega
  | cons a as'=>
  cases bs' with
  | nil=>have:=congrArg List.length h2;simp at this;omega
  | cons b bs'=>
  obtain ⟨a1,a2⟩:=Q52 h1
  obtain ⟨b1,b2⟩:=Q52 h2
  obtain ⟨m1,m2⟩:=hmin k u a b u1 a1 b1
  simp only [kmD,U5,U7] at hs
  have hw1:wadd .i64 (k:Int) 1=((k+1:Nat):Int):=by rw [J9]<;>omega
  have hdrop:Z30 ks ((k+1:Nat):Int)=some as':=by
   unfold Z30
   rw [if_pos ⟨by omega,by omega⟩]
   simp [←a2]
  have has:as'.length≤3:=by rw [←a2];simp;omega
  unfold forL
  simp only [Q00 a1,Q00 b1,U0,m1,hw1,hdrop]
  have hin:=Q63 (ρ:=Ctl (List Q0) ((List Q0)×(List Q0))) (f:=fun (k1588:Nat) x1589 (s1584:(List Q0))=>
    ((Q09 [front,[x1589],as']).bind fun r1597=>
    ((app s1584 [(Q0.mk 4 c 0 0 0 r1597)]).bind fun x1598=>
    some (Ctl.go x1598)))) (fun x=>[Q0.mk 4 c 0 0 0 (front++x::as')]) 100000 (fm u a b) 0 out (fun k x _ s hs=>by
   simp only [U3,U4] at hs
   rw [W5m (by simp only [U3,U4];omega)]
   simp only [U0]
   rw [V5 (by simp only [U3,U4,Q9];omega)]
   simp) (by
    have:∀ l:List Q0,(l.flatMap fun x=>[Q0.mk 4 c 0 0 0 (front++x::as')]).length=l.length:=fun l=>by induction l with | nil=>rfl | cons a l ih=>simp [ih]
    rw [this];omega)
  have hfl:∀ l:List Q0,(l.flatMap fun x=>[Q0.mk 4 c 0 0 0 (front++x::as')])=l.map fun x=>Q0.mk 4 c 0 0 0 (front++x::as'):=fun l=>by induction l with | nil=>rfl | cons a l ih=>simp [ih]
  rw [hfl] at hin
  rw [hin]
  simp only [U0,m2]
  cases hm:fj a b with
  | none=>
   simp only [Z64,Bool.not_false,if_true]
   refine ⟨front,?_⟩
   simp only [kmD,hm,List.append_nil,List.map_map]
   rfl
  | some m=>
   simp only [Z64,Bool.not_true,U2,if_false]
   rw [V5 (by simp only [U3,U4,Q9];omega)]
   simp only [U0]
   rw [hm] at hs
   simp only [U7] at hs
   obtain ⟨fr,e⟩:=ih (k+1) (out++(fm u a b).map fun x=>Q0.mk 4 c 0 0 0 (front++x::as')) (front++[m]) as' bs' u2 a2 b2 (by simp;omega) (by simp only [U5,U7];omega) rfl
   refine ⟨fr,?_⟩
   rw [e]
   simp only [kmD,hm,List.map_append,List.map_map,List.append_assoc]
   congr 5
theorem Z8b {w:List Q4}(hw:WW w)(he:WE w)(S:List Int):∀ (d n x:Nat) (t:Q2) (a b:Q0),t∈tys w→J6 w x t a→J6 w d t b→cntP b≤10000→2 * d+5≤n→W2 n ⟨w,S⟩ t a b=some (J1 w d t a b)
 | 0,_,_,_,_,_,_,_,h,_,_=>h.elim
 | d+1,n,x,t,a,b,ht,ha,hb,hcnt,hn=>by
  obtain ⟨n,rfl⟩:∃ m,n=m+1:=⟨n-1,by omega⟩
  have i11:ieq 1 1=true:=rfl
  have i31:ieq 3 1=false:=rfl
  have i33:ieq 3 3=true:=rfl
  have i41:ieq 4 1=false:=rfl
  have i43:ieq 4 3=false:=rfl
  have e31:¬(3:Int)=1:=by decide
  have e41:¬(4:Int)=1:=by decide
  have e43:¬(4:Int)=3:=by decide
  obtain ⟨x,rfl,ha'⟩:=Z3j ha
  have hb0:=hb
  rcases hb with rfl | ⟨n2,m2,rfl,hd',g0,g1,g2⟩ | ⟨c',ks',rfl,hd',hc',hl',hk'⟩
  ·simp [W2,J1,i11]
  ·have hrg:∀ n1 m1:Int,0≤n1→m1≤9→Q3e n [n1,imin m1 (wsub .i64 n2 1),imax n1 (wadd .i64 m2 1),m1]=some (X05 n1 m1 n2 m2):=fun n1 m1 h0 h9=>by
    rw [V7j (by omega),V5v,V5w,Q3v (by omega) (by omega),J9 (by omega) (by omega)]
    rfl
   rcases ha' with rfl | ⟨n1,m1,rfl,hd,h0,_,h9⟩ | ⟨c,ks,rfl,hd,_⟩
   ·simp only [W2,J1,i31,i33,e31,U2,if_false,if_true,X3a,U0]
    rw [hrg 0 9 (by omega) (by omega)]
    rfl
   ·simp only [W2,J1,i31,i33,e31,U2,if_false,if_true,X3a,U0]
    rw [hrg n1 m1 h0 h9]
    rfl
   ·exact absurd hd' hd
  ·have hcn:cntP (Q0.mk 4 c' 0 0 0 ks')=1+cntP.cntPs ks':=Q46 _
   have hkc:∀ q∈ks',cntP q≤10000:=fun q hq=>by
    have:=Q9e (p:=Q0.mk 4 c' 0 0 0 ks') (List.mem_iff_getElem?.1 hq).choose_spec
    omega
   have hA:∀ (N:Nat) (c:Int) (ks:List Q0) (y:Nat),2 * d+5≤N→c∈X2 w t→ks.length=(W0 w t c).length→(∀ (j:Nat) (a:Q2) (q:Q0),(W0 w t c)[j]?=some a→ks[j]?=some q→J6 w y a q)→
     W2 (N+1) ⟨w,S⟩ t (Q0.mk 4 c 0 0 0 ks) (Q0.mk 4 c' 0 0 0 ks')=some (cmD w (J1 w d) (Q23 d) t (Q0.mk 4 c 0 0 0 ks) (Q0.mk 4 c' 0 0 0 ks')):=fun N c ks y hN hc hl hk=>by
    simp only [W2,i41,i43,U2,if_false,cmD]
    by_cases hcc:c=c'
    ·subst hcc
     have ec:(!ieq c c)=false:=by simp [ieq]
     simp only [ec,U2,if_false,if_true]
     rw [(hw.ty t ht).a2 c hc]
     simp only [U0]
     have hlen:(kmD (J1 w d) (Q23 d) (W0 w t c) ks ks').length≤3 * cntP.cntPs ks':=
      W21 (W0 w t c) ks ks' fun j u p q h1 h2=>Z09 hw he d u p q ((hw.ty t ht).at_ _ hc u (U1 h1)) (hk' j u q h1 h2)
     obtain ⟨fr,e⟩:=W85 (w:=w) (S:=S) (n:=N) (c0:=0) (c:=c) (fm:=J1 w d) (fj:=Q23 d) hl hl' ((hw.ty t ht).al c hc) (fun k u p q h1 h2 h3=>
      have hu:=(hw.ty t ht).at_ _ hc u (U1 h1)
      ⟨Z8b hw he S d N y u p q hu (hk k u p h1 h2) (hk' k u q h1 h3) (hkc q (U1 h3)) (by omega),X0r hw S d N y u p q hu (hk k u p h1 h2) (hk' k u q h1 h3) (by omega)⟩)
      (W0 w t c) 0 [] [] ks ks' rfl rfl rfl rfl (by simp only [U4];omega) rfl
     have e':=congrArg (fun z:Option (Ctl (List Q0) ((List Q0)×(List Q0)))=>z.bind fun o=>match o with | .ret r=>some r | .go _=>none | .brk s=>some s.1) e
     exact e'.trans (by simp)
    ·have ec:(!ieq c c')=true:=by simp [ieq,hcc]
     simp [ec,hcc]
   rcases ha' with rfl | ⟨n1,m1,rfl,hd,_⟩ | ⟨c,ks,rfl,hd,hc,hl,hk⟩
   ·simp only [W2,J1,i11,i41,i43,e41,e43,U2,if_false,if_true]
    rw [(hw.ty t ht).c2]
    simp only [U0]
    obtain ⟨N,rfl⟩:∃ m,n=m+1:=⟨n-1,by omega⟩
    have hlen:=Z09 hw he (d+1) t (Q0.mk 1 0 0 0 0 []) (Q0.mk 4 c' 0 0 0 ks') ht hb0
    simp only [J1,e41,e43,if_false,if_true] at hlen
    rw [Q63 (fun c=>cmD w (J1 w d) (Q23 d) t (Q89 w t c) (Q0.mk 4 c' 0 0 0 ks')) 1000000 (X2 w t) 0 [] (fun k c hc s hs=>by
     rw [V23 hw S ht hc]
     simp only [U0]
     rw [Q89,hA N c _ 1 (by omega) hc (by simp) (fun j a q ha hq=>by
      rw [List.getElem?_map,ha] at hq
      cases hq
      exact Z24 w 0 a)]
     simp only [U0]
     rw [V5 (by simp only [Q9];simp only [Q89] at hs;omega)]
     rfl) (by simp only [U4];omega)]
    simp
   ·exact absurd hd hd'
   ·rw [hA n c ks x (by omega) hc hl hk]
    simp [J1]
theorem Y2v {α:Type}{xs:List α}{i:Int}{x:α}(h0:0≤i)(h:i<xs.length):setI xs i x=some (xs.set i.toNat x):=by
 unfold setI
 rw [if_pos ⟨h0,by omega⟩]
theorem V74 {α:Type}{xs:List α}{i:Nat}(h:i≤xs.length):Z06 xs (i:Int)=some (xs.take i):=by
 unfold Z06
 rw [if_pos ⟨by omega,by omega⟩]
 rfl
theorem X76 (f:Q0→Option Bool)(g:Q0→Bool):∀ (l:List Q0) (k:Nat),(∀ x∈l,f x=some (g x))→∃ i:Nat,
  (forL (ρ:=Int) (fun k70 x71 (_:Unit)=>((f x71).bind fun r78=>(if r78=true then some (Ctl.ret ((k70:Int))) else some (Ctl.go ())))) k l ()=some (.ret ((k+i:Nat):Int))∧(∃ x,l[i]?=some x∧g x=true)∧∀ x∈l.take i,g x=false)∨
  (forL (ρ:=Int) (fun k70 x71 (_:Unit)=>((f x71).bind fun r78=>(if r78=true then some (Ctl.ret ((k70:Int))) else some (Ctl.go ())))) k l ()=some (.brk ())∧∀ x∈l,g x=false)
 | [],k,_=>⟨0,.inr ⟨rfl,fun x hx=>by simp at hx⟩⟩
 | x::l,k,h=>by
  unfold forL
  rw [h x (by simp)]
  simp only [U0]
  cases hg:g x with
  | true=>exact ⟨0,.inl ⟨by simp,⟨x,rfl,hg⟩,by simp⟩⟩
  | false=>
   simp only [U2,if_false]
   obtain ⟨i,hi⟩:=X76 f g l (k+1) fun y hy=>h y (by simp [hy])
   rcases hi with ⟨e,⟨y,hy,gy⟩,hn⟩ | ⟨e,hn⟩
   ·refine ⟨i+1,.inl ⟨by rw [e];congr 3;omega,⟨y,by simpa using hy,gy⟩,fun z hz=>?_⟩⟩
    simp only [List.take_succ_cons,U8] at hz
    rcases hz with rfl | hz
    ·exact hg
    ·exact hn z hz
   ·exact ⟨0,.inr ⟨e,fun z hz=>by
     rcases U8.1 hz with rfl | hz
     ·exact hg
     ·exact hn z hz⟩⟩
theorem W5j {n:Nat}{l:List Q0}(f:Q0→Option Bool)(g:Q0→Bool)(hf:∀ x∈l,f x=some (g x))(hl:l.length≤10000000)(hn:l.length+5≤n):Q03 n l f=some (l.filter fun x=>!g x):=by
 suffices hs:Ret (Q03 n l f) (fun r=>r=l.filter fun x=>!g x) by
  obtain ⟨a,e,rfl⟩:=hs
  exact e
 unfold Q03
 have hix:∃ r,Q07 l f=some r∧((∃ i:Nat,r=(i:Int)∧(∃ x,l[i]?=some x∧g x=true)∧∀ x∈l.take i,g x=false)∨(r = -1∧∀ x∈l,g x=false)):=by
  obtain ⟨i,h⟩:=X76 f g l 0 hf
  unfold Q07
  rcases h with ⟨e,h1,h2⟩ | ⟨e,h1⟩
  ·have e':=congrArg (fun z:Option (Ctl Int Unit)=>z.bind fun o=>match o with | .ret r=>some r | .go _=>none | .brk _=>some (-1)) e
   exact ⟨_,e',.inl ⟨i,by simp,h1,h2⟩⟩
  ·have e':=congrArg (fun z:Option (Ctl Int Unit)=>z.bind fun o=>match o with | .ret r=>some r | .go _=>none | .brk _=>some (-1)) e
   exact ⟨_,e',.inr ⟨rfl,h1⟩⟩
 obtain ⟨r,e,hr⟩:=hix
 rw [e]
 simp only [U0]
 rcases hr with ⟨i0,rfl,⟨x0,hx0,g0⟩,hn0⟩ | ⟨rfl,hno⟩
 ·have e1:ieq (i0:Int) (-1)=false:=by rw [Z2];omega
  have hi0:=(List.getElem?_eq_some_iff.1 hx0).1
  simp only [e1,U2,if_false]
  rw [J9 (by omega) (by omega)]
  refine Ret.ctl (Q7o (fun s=>∃ i j:Nat,s.2.1=(i:Int)∧s.2.2=(j:Int)∧i≤j∧j≤l.length∧s.1.length=l.length∧s.1.take i=(l.take j).filter (fun x=>!g x)∧(∀ m,j≤m→s.1[m]?=l[m]?)∧i<l.length) (fun s=>l.length-s.2.2.toNat) (fun _=>False) (fun s=>∃ i:Nat,s.2.1=(i:Int)∧i≤s.1.length∧s.1.take i=l.filter (fun x=>!g x)) ?_ (fun s hI=>?_) n (by simp;omega)) (fun r hr=>hr.elim) (fun s hs=>?_)
  ·refine ⟨i0,i0+1,rfl,by simp,by omega,by omega,rfl,?_,fun m _=>rfl,hi0⟩
   have h1:(l.take i0).filter (fun x=>!g x)=l.take i0:=List.filter_eq_self.2 fun x hx=>by simp [hn0 x hx]
   rw [List.take_add_one,hx0,List.filter_append,h1]
   simp [g0]
  ·obtain ⟨i,j,e1,e2,h1,h2,h4,h5,h6,h7⟩:=hI
   obtain ⟨m,wi,rj⟩:=s
   simp only at e1 e2 h4 h5 h6
   subst e1 e2
   dsimp only
   rw [h4]
   by_cases hj:j<l.length
   ·have e:ilt (j:Int) (lenZ l.length)=true:=by rw [Z5,Q5c];omega
    simp only [e,if_true]
    obtain ⟨x,hx⟩:∃ x,l[j]?=some x:=⟨_,U10 hj⟩
    rw [Q00 (by rw [h6 j (Nat.le_refl _)];exact hx)]
    simp only [U0]
    rw [hf x (U1 hx)]
    simp only [U0]
    have hstep:(l.take (j+1)).filter (fun x=>!g x)=(l.take j).filter (fun x=>!g x)++(if g x=true then [] else [x]):=by
     rw [List.take_add_one,hx,List.filter_append]
     cases hc:g x<;>simp [hc]
    rw [J9 (a:=(j:Int)) (by omega) (by omega)]
    cases hc:g x with
    | true=>
     simp only [Bool.not_true,U2,if_false,U0]
     refine .some ⟨⟨i,j+1,rfl,by simp,by omega,by omega,h4,?_,fun m hm=>h6 m (by omega),h7⟩,by simp only;omega⟩
     rw [hstep,if_pos hc,h5];simp
    | false=>
     simp only [Bool.not_false,if_true]
     obtain ⟨y,hy⟩:∃ y,m[i]?=some y:=⟨_,U10 (by omega)⟩
     rw [Q00 hy]
     simp only [U0]
     rw [Y2v (by omega) (by omega),J9 (by omega) (by omega)]
     simp only [U0]
     have hfl:=List.length_filter_le (fun x=>!g x) (l.take j)
     have hil:i+1≤l.length:=by omega
     by_cases hi1:i+1<l.length
     ·refine .some ⟨⟨i+1,j+1,by simp,by simp,by omega,by omega,by simp [h4],?_,fun m' hm=>?_,hi1⟩,by simp only;omega⟩
      ·simp only
       rw [hstep,if_neg (by rw [hc];simp),←h5,List.take_add_one,List.take_set_of_le (by simp)]
       simp [show i<m.length by omega]
      ·simp only
       rw [List.getElem?_set_ne (by simp;omega)]
       exact h6 m' (by omega)
     ·exfalso
      have hij:i=j:=by omega
      have hk:((l.take j).filter fun x=>!g x).length=i:=by rw [←h5];simp;omega
      have hall:(l.take j).filter (fun x=>!g x)=l.take j:=(List.filter_sublist).eq_of_length (by rw [hk];simp;omega)
      have hj0:i0<j∨i0=j:=by omega
      rcases hj0 with hj0 | hj0
      ·have hm:x0∈l.take j:=U1 (i:=i0) (by rw [List.getElem?_take_of_lt hj0];exact hx0)
       rw [←hall] at hm
       have:=(List.mem_filter.1 hm).2
       simp [g0] at this
      ·subst hj0
       rw [hx] at hx0
       cases hx0
       rw [hc] at g0
       cases g0
   ·have e:ilt (j:Int) (lenZ l.length)=false:=by rw [J8,Q5c];omega
    simp only [e,U2,if_false]
    refine .some ⟨i,rfl,by simp only;omega,?_⟩
    simp only
    rw [h5,show j=l.length by omega,List.take_length]
  ·obtain ⟨i,e1,h1,h2⟩:=hs
   dsimp only
   rw [e1,V74 h1]
   exact .some h2
 ·have e1:ieq (-1) (-1)=true:=rfl
  simp only [e1,if_true]
  exact .some (List.filter_eq_self.2 fun x hx=>by simp [hno x hx]).symm
theorem V0c {l:List Q0}(h:l.length≤10000000):Y8 l=some l:=by
 unfold Y8
 rw [V5 (by simp [Q9];omega)]
 rfl
def chkF (w:List Q4):Bool:=(tys w).all fun t=>decide (Q25 (dimP w) t=some (depP w t))
theorem W5n:Q0j.all chkF=true:=by kernel_rfl
theorem V8r {w:List Q4}(h:w∈Q0j){t:Q2}(ht:t∈tys w):Q25 (dimP w) t=some (depP w t):=by
 have:=List.all_eq_true.1 W5n w h
 simp only [chkF,List.all_eq_true,decide_eq_true_eq] at this
 exact this t ht
theorem W7m {w:List Q4}{d:Nat}{t:Q2}{p:Q0}(h:J6 w d t p):Q9i w t p=true∧V4 w t p=(if p.op=4 then W0 w t p.ctor else []):=by
 obtain ⟨e,rfl,h⟩:=Z3j h
 rcases h with rfl | ⟨n,m,rfl,hd,h0,h1,h2⟩ | ⟨c,ks,rfl,hd,hc,hl,hk⟩
 ·simp [Q9i,Z4r,V4]
 ·simp [Q9i,Z4r,V4,hd,h0,h1,h2]
 ·simp [Q9i,Z4r,V4,hc,hl]
theorem X4g {w:List Q4}(hw:WW w){d:Nat}{t:Q2}{p:Q0}(ht:t∈tys w)(h:J6 w d t p):Q6o w t p=some (if p.op=4 then W0 w t p.ctor else []):=by
 obtain ⟨h1,h2⟩:=W7m h
 obtain ⟨ts,e1,e2⟩:=W1m (hw.ty t ht) p
 unfold Q6o
 rw [e1]
 simp only [U0]
 rw [e2 h1,h2]
theorem Z8c {w:List Q4}(hww:w∈Q0j)(hw:WW w):∀ (d n:Nat) (t:Q2) (p:Q0),t∈tys w→J6 w d t p→d+1≤n→Y4 n ⟨w,dimP w⟩ t p=some (Q1m w d t p)
 | 0,_,_,_,_,h,_=>h.elim
 | d+1,n,t,p,ht,hp,hn=>by
  obtain ⟨n,rfl⟩:∃ m,n=m+1:=⟨n-1,by omega⟩
  have hkt:=X4g hw ht hp
  have i11:ieq 1 1=true:=rfl
  have i31:ieq 3 1=false:=rfl
  have i32:ieq 3 2=false:=rfl
  have i35:ieq 3 5=false:=rfl
  have i41:ieq 4 1=false:=rfl
  have i42:ieq 4 2=false:=rfl
  have i45:ieq 4 5=false:=rfl
  have e31:¬(3:Int)=1:=by decide
  have e34:¬(3:Int)=4:=by decide
  have e41:¬(4:Int)=1:=by decide
  rcases hp with rfl | ⟨n1,m1,rfl,hd,_⟩ | ⟨c,ks,rfl,hd,hc,hl,hk⟩
  ·simp only [Y4,i11,if_true,U0,V8r hww ht,Q1m]
   rfl
  ·simp only [Y4,i31,i32,i35,U2,if_false,U0,Q1m,e31,e34]
   rw [hkt]
   simp [e34,forL]
  ·simp only [Y4,i41,i42,i45,U2,if_false,U0,Q1m,e41,if_true]
   rw [hkt]
   simp only [if_true,U0]
   have hlp:∀ (ts:List Q2) (k:Nat) (ks':List Q0),(W0 w t c).drop k=ts→ks.drop k=ks'→
     forL (ρ:=Bool) (fun k133 x134 (_:Unit)=>((idx ks (k133:Int)).bind fun x142=>((Y4 n ⟨w,dimP w⟩ x134 x142).bind fun r143=>(if r143=true then some (Ctl.ret (true)) else some (Ctl.go ()))))) k ts ()=some (if ((ts.zip ks').any fun x=>Q1m w d x.1 x.2)=true then .ret true else .brk ()):=by
    intro ts
    induction ts with
    | nil=>intro k ks' _ _;simp [forL]
    | cons u ts ih=>
     intro k ks' h0 h1
     obtain ⟨u1,u2⟩:=Q52 h0
     have hkl:=(List.getElem?_eq_some_iff.1 u1).1
     cases ks' with
     | nil=>have:=congrArg List.length h1;simp at this;omega
     | cons q ks'=>
     obtain ⟨q1,q2⟩:=Q52 h1
     unfold forL
     simp only [Q00 q1,U0]
     rw [Z8c hww hw d n u q ((hw.ty t ht).at_ _ hc u (U1 u1)) (hk k u q u1 q1) (by omega)]
     simp only [U0,List.zip_cons_cons,List.any_cons]
     rcases Bool.eq_false_or_eq_true (Q1m w d u q) with hem | hem
     ·simp [hem]
     ·simp only [hem,U2,if_false,Bool.false_or]
      exact ih (k+1) ks' u2 q2
   have e:=hlp (W0 w t c) 0 ks rfl rfl
   have e':=congrArg (fun z:Option (Ctl Bool Unit)=>z.bind fun o=>match o with | .ret r=>some r | .go _=>none | .brk _=>some false) e
   refine e'.trans ?_
   cases ((W0 w t c).zip ks).any fun x=>Q1m w d x.1 x.2<;>simp
theorem Z68 {w:List Q4}(hww:w∈Q0j)(hw:WW w){d n:Nat}{t:Q2}(ht:t∈tys w){l:List Q0}(h:∀ a∈l,J6 w d t a)(hl:l.length≤10000000)(hn:l.length+d+5≤n):Q13 n ⟨w,dimP w⟩ t l=some (Q9r w d t l):=by
 unfold Q13
 rw [V0c hl]
 simp only [U0]
 rw [W5j _ (fun p=>Q1m w d t p) (fun x hx=>by
  unfold Q49
  rw [Z8c hww hw d n t x ht (h x hx) (by omega)]
  rfl) hl (by omega)]
 rfl
def optR:Option (List Q0)→List Q0×Bool
 | some r=>(r,true)
 | none=>([],false)
theorem X4h (w:List Q4)(x:Nat)(t:Q2)(l:List Q0):(Q9r w x t l).length≤l.length:=List.length_filter_le _ _
theorem X2h {w:List Q4}(hww:w∈Q0j)(hw:WW w)(he:WE w){d x n:Nat}{t:Q2}(ht:t∈tys w)(hx:d+1≤x)(hx2:x≤100){l bs:List Q0}(hb:∀ b∈bs,J6 w d t b∧cntP b≤130)(h:∀ a∈l,J6 w x t a)(hl:l.length≤20000)(hn:20000000≤n) :
  Q32 n ⟨w,dimP w⟩ t l bs=some (optR (Q7m w d x t l bs)):=by
 unfold Q32 Q7m
 rw [Z68 hww hw ht h (by omega) (by omega)]
 simp only [U0]
 have hk:=X4h w x t l
 have hkp:∀ a∈Q9r w x t l,J6 w x t a:=fun a ha=>h a (List.mem_filter.1 ha).1
 generalize Q9r w x t l=s at hk hkp
 have hs:s.length≤20000:=by omega
 clear hk h hl
 have hlp:∀ (bs:List Q0) (k:Nat) (s:List Q0),(∀ b∈bs,J6 w d t b∧cntP b≤130)→(∀ a∈s,J6 w x t a)→s.length≤20000→
   forL (fun k871 x872 (s865:(List Q0))=>
   ((forL (fun k1028 x1029 (s1022:(List Q0))=>
   ((W2 n ⟨w,dimP w⟩ t x1029 x872).bind fun r1036=>
   ((app s1022 r1036).bind fun x1037=>
   some (Ctl.go x1037)))) 0 s865 []).bind fun (o1021:Ctl (Ctl ((List Q0)×Bool) ((List Q0))) ((List Q0)))=>match o1021 with
   | .ret r=>some r
   | .go _=>none
   | .brk s1032=>
   ((Q13 n ⟨w,dimP w⟩ t s1032).bind fun r1039=>
   (if (ilt 400 (lenZ r1039.length))=true then
   some (Ctl.ret (([],false)))
   else
   some (Ctl.go r1039))))) k bs s=some (match Q9w w d x t s bs with | some r=>.brk r | none=>.ret ([],false)):=by
  intro bs
  induction bs with
  | nil=>intro k s _ _ _;simp [forL,Q9w]
  | cons b bs ih=>
   intro k s hb hs hl
   obtain ⟨hb1,hb2⟩:=hb b (by simp)
   have hfl:=X66 hw he ht hb1 s
   have hfl2:(s.flatMap fun a=>J1 w d t a b).length≤7800000:=by
    have:s.length * (3 * cntP b)≤20000 * 390:=Nat.mul_le_mul (by omega) (by omega)
    omega
   unfold forL
   rw [Q63 (fun a=>J1 w d t a b) 10000000 s 0 [] (fun k a ha s' hs'=>by
    rw [Z8b hw he (dimP w) d n x t a b ht (hs a ha) hb1 (by omega) (by omega)]
    simp only [U0]
    rw [V5 (by simp only [Q9];omega)]
    rfl) (by simp only [U4];omega)]
   simp only [U0,List.nil_append]
   have hmp:∀ y∈s.flatMap (fun a=>J1 w d t a b),J6 w x t y:=fun y hy=>by
    obtain ⟨a,ha,hy⟩:=List.mem_flatMap.1 hy
    exact Z00 d x t a b hx (hs a ha) hb1 y hy
   rw [Z68 hww hw ht hmp (by omega) (by omega)]
   simp only [U0,Q9w]
   have hst:Q9r w x t (s.flatMap fun a=>J1 w d t a b)=Q5g w d x t s b:=rfl
   rw [hst]
   by_cases hc:400<(Q5g w d x t s b).length
   ·have e:ilt 400 (lenZ (Q5g w d x t s b).length)=true:=by rw [Z5,Q5c];omega
    simp only [e,if_true,if_pos hc]
   ·have e:ilt 400 (lenZ (Q5g w d x t s b).length)=false:=by rw [J8,Q5c];omega
    simp only [e,U2,if_false,if_neg hc]
    exact ih (k+1) _ (fun b hb'=>hb b (by simp [hb'])) (Z35 hx hb1 hs) (by omega)
 have e:=hlp bs 0 s hb hkp hs
 have e':=congrArg (fun z:Option (Ctl ((List Q0)×Bool) (List Q0))=>z.bind fun o=>match o with | .ret r=>some r | .go _=>none | .brk s=>some (s,true)) e
 refine e'.trans ?_
 cases Q9w w d x t s bs<;>simp [optR]
theorem V0i:∀ (d n:Nat) (p:Q0),W5k d p→d≤n→cntP p≤1000→Y3 n p=some (Q0i d p)
 | 0,_,_,h,_,_=>h.elim
 | d+1,n,p,h,hn,hc=>by
  obtain ⟨n,rfl⟩:∃ m,n=m+1:=⟨n-1,by omega⟩
  have hcp:=Q46 p
  have hkid:∀ q∈p.kids,Y3 n q=some (Q0i d q):=fun q hq=>by
   obtain ⟨j,hj⟩:=List.mem_iff_getElem?.1 hq
   have:=Q9e hj
   exact V0i d n q (h q hq) (by omega) (by omega)
  have hlen:p.kids.length≤1000:=by
   have:∀ l:List Q0,l.length≤cntP.cntPs l:=fun l=>by
    induction l with
    | nil=>simp
    | cons a l ih=>have:=Q9u a;simp only [U3,cntP.cntPs];omega
   have:=this p.kids
   omega
  have hloop:=Q63 (ρ:=Q0) (f:=fun (k102:Nat) x103 (s96:(List Q0))=>((Y3 n x103).bind fun r110=>((app s96 [r110]).bind fun x111=>some (Ctl.go x111)))) (fun q=>[Q0i d q]) 100000 p.kids 0 [] (fun k q hq s hs=>by
   rw [hkid q hq]
   simp only [U0]
   simp only [U3,U4] at hs
   rw [V5 (by simp only [U3,U4,Q9];omega)]
   rfl) (by
    have:∀ l:List Q0,(l.flatMap fun q=>[Q0i d q]).length=l.length:=fun l=>by induction l with | nil=>rfl | cons a l ih=>simp [ih]
    rw [this];simp only [U4];omega)
  have hfl:∀ l:List Q0,(l.flatMap fun q=>[Q0i d q])=l.map (Q0i d):=fun l=>by induction l with | nil=>rfl | cons a l ih=>simp [ih]
  rw [hfl] at hloop
  have hany:Q1k=some (Q0.mk 1 0 0 0 0 []):=rfl
  by_cases h2:p.op=2
  ·have e:ieq p.op 2=true:=by rw [Q8];exact h2
   have hb:Q0i (d+1) p=Q0.mk 1 0 0 0 0 []:=by simp [Q0i,h2]
   rw [hb]
   simp only [Y3,e,if_true,hany,U0]
  ·have e:ieq p.op 2=false:=by rw [Z2];exact h2
   by_cases h6:p.op=6
   ·have e6:ieq p.op 6=true:=by rw [Q8];exact h6
    cases hk:p.kids with
    | nil=>
     have e0:ilt 0 (lenZ p.kids.length)=false:=by rw [J8,hk,Q5c];simp
     rw [hk] at hloop
     simp only [Y3,e,e6,e0,U2,if_false,if_true,U0,Q0i,h2,hk]
     have e':=congrArg (fun z:Option (Ctl Q0 (List Q0))=>z.bind fun o=>match o with | .ret r=>some r | .go _=>none | .brk s=>some (Q0.mk p.op p.ctor p.n p.m p.var s)) hloop
     refine e'.trans ?_
     simp
    | cons q ks=>
     have e0:ilt 0 (lenZ p.kids.length)=true:=by rw [Z5,hk,Q5c];simp
     have hq:=hkid q (by simp [hk])
     have hix:idx p.kids 0=some q:=Q00 (i:=0) (by simp [hk])
     have hb:Q0i (d+1) p=Q0i d q:=by simp [Q0i,h6,hk]
     rw [hb]
     simp only [Y3,e,e6,e0,U2,if_false,if_true,hix,U0,hq]
   ·have e6:ieq p.op 6=false:=by rw [Z2];exact h6
    simp only [Y3,e,e6,U2,if_false,U0,Q0i,h2,h6,false_and]
    have e':=congrArg (fun z:Option (Ctl Q0 (List Q0))=>z.bind fun o=>match o with | .ret r=>some r | .go _=>none | .brk s=>some (Q0.mk p.op p.ctor p.n p.m p.var s)) hloop
    refine e'.trans ?_
    simp
theorem Z6v {w:List Q4}(hw:WW w):∀ (d:Nat) (t:Q2) (p:Q0),t∈tys w→altD w d t p→orOk d p
 | 0,_,_,_,h=>h.elim
 | d+1,t,p,ht,h=>by
  rcases h with rfl | ⟨n,m,rfl,h⟩ | ⟨c,ks,rfl,h1,h2,h3,h4⟩ | ⟨a,b,rfl,h1,h2⟩
  ·exact ⟨by simp,by simp,by simp⟩
  ·exact ⟨by simp,by simp,by simp⟩
  ·refine ⟨by simp only;rw [h3];exact (hw.ty t ht).al c h2,by simp,fun q hq=>?_⟩
   obtain ⟨j,hj⟩:=List.mem_iff_getElem?.1 hq
   obtain ⟨a,ha⟩:=Q22 h3.symm (List.getElem?_eq_some_iff.1 hj).1
   exact Z6v hw d a q ((hw.ty t ht).at_ _ h2 a (U1 ha)) (h4 j a q ha hj)
  ·refine ⟨by simp,by simp,fun q hq=>?_⟩
   simp at hq
   rcases hq with rfl | rfl
   ·exact Z6v hw d t _ ht h1
   ·exact Z6v hw d t _ ht h2
theorem Z6p {w:List Q4}(t:Q2)(h:t.data = -1):X2 w t=[]:=by
 unfold X2 Q0f
 have:ieq t.data (-1)=true:=by rw [Q8];exact h
 rw [if_pos this]
 rfl
def Z3i (p:Q0):Option (List Q0):=if 40<(Z9 10 (Q0i 10 p)).length then none else some (Z9 10 (Q0i 10 p))
theorem X78 {w:List Q4}(hw:WW w){n:Nat}{t:Q2}{p:Q0}(ht:t∈tys w)(g:Q0r w 10 t p=true)(hc:cntP p≤1000)(hn:100≤n):Q86 n p=some (optR (Z3i p)):=by
 have ha:=Z13 Z6p 10 t p g
 have ho:=Z6v hw 10 t _ ht ha
 unfold Q86 Z3i
 rw [V0i 10 n p (Z6d 10 t p g) (by omega) hc]
 simp only [U0]
 rw [X58 10 n _ ho (by omega)]
 simp only [U0]
 by_cases h:40<(Z9 10 (Q0i 10 p)).length
 ·have e:ilt 40 ((min (Z9 10 (Q0i 10 p)).length 401:Nat):Int)=true:=by rw [Z5];omega
  simp only [e,if_true,if_pos h]
  rfl
 ·have e:ilt 40 ((min (Z9 10 (Q0i 10 p)).length 401:Nat):Int)=false:=by rw [J8];omega
  simp only [e,U2,if_false,if_neg h]
  rw [X77 10 n _ ho (by omega) (by omega)]
  rfl
theorem Z7s (l:List Q0)(f:Q0→Option Bool)(g:Q0→Bool)(hf:∀ x∈l,f x=some (g x)):X4 l f=some (l.any g):=X20 (Q6b l f g hf)
def Q3m:List Z6→Option (List Q0)
 | []=>some []
 | c::cs=>if c.guard.op=0 then (Z3i c.pat).bind fun l=>(Q3m cs).map (l++·) else Q3m cs
theorem Z60 {p:Q0}{l:List Q0}(h:Z3i p=some l):l.length≤40∧l=Z9 10 (Q0i 10 p):=by
 unfold Z3i at h
 split at h
 ·cases h
 ·cases h;exact ⟨by omega,rfl⟩
theorem X7b {w:List Q4}(hw:WW w){n:Nat}{t:Q2}(ht:t∈tys w)(hn:100≤n):∀ (cs:List Z6),(∀ c∈cs,Q0r w 10 t c.pat=true∧cntP c.pat≤1000)→cs.length≤1000→Q6r n cs=some (optR (Q3m cs)):=fun cs h hl=>by
 have hlp:∀ (cs:List Z6) (k:Nat) (s:List Q0),(∀ c∈cs,Q0r w 10 t c.pat=true∧cntP c.pat≤1000)→s.length+40 * cs.length≤100000→
   forL (fun k130 x131 (s124:(List Q0))=>
   (((if (!ieq x131.guard.op 0)=true then
   some (Ctl.brk s124)
   else
   ((Q86 n x131.pat).bind fun r148=>
   (if (!r148.2)=true then
   some (Ctl.ret (Ctl.ret (([],false))))
   else
   ((app s124 r148.1).bind fun x151=>
   some (Ctl.brk x151)))))).bind fun (o143:Ctl (Ctl ((List Q0)×Bool) ((List Q0))) ((List Q0)))=>match o143 with
   | .ret r=>some r
   | .go _=>none
   | .brk s142=>
   some (Ctl.go s142))) k cs s=some (match Q3m cs with | some r=>.brk (s++r) | none=>.ret ([],false)):=by
  intro cs
  induction cs with
  | nil=>intro k s _ _;simp [forL,Q3m]
  | cons c cs ih=>
   intro k s h hs
   obtain ⟨g,hc⟩:=h c (by simp)
   simp only [U3] at hs
   unfold forL
   by_cases hg:c.guard.op=0
   ·have e:(!ieq c.guard.op 0)=false:=by simp [ieq,hg]
    simp only [e,U2,if_false]
    rw [X78 hw ht g hc hn]
    simp only [U0,Q3m,if_pos hg]
    cases hp:Z3i c.pat with
    | none=>simp [optR]
    | some l=>
     have hl:=(Z60 hp).1
     simp only [optR,Bool.not_true,U2,if_false,U0]
     rw [V5 (by simp only [Q9];omega)]
     simp only [U0]
     rw [ih (k+1) (s++l) (fun c hc=>h c (by simp [hc])) (by simp only [U5];omega)]
     cases Q3m cs with
     | none=>simp
     | some r=>simp
   ·have e:(!ieq c.guard.op 0)=true:=by simp [ieq,hg]
    simp only [e,if_true,U0,Q3m,if_neg hg]
    exact ih (k+1) s (fun c hc=>h c (by simp [hc])) (by omega)
 have e:=hlp cs 0 [] h (by simp only [U4];omega)
 unfold Q6r
 have e':=congrArg (fun z:Option (Ctl ((List Q0)×Bool) (List Q0))=>z.bind fun o=>match o with | .ret r=>some r | .go _=>none | .brk s=>some (s,true)) e
 refine e'.trans ?_
 cases Q3m cs<;>simp [optR]
theorem X4a {w:List Q4}(hw:WW w){n:Nat}(hn:100≤n){t:Q2}(ht:t∈tys w)(p:Q0):Q60 n w t p=some (Q4j w t p):=by
 unfold Q60
 obtain ⟨r,e,h1,_⟩:=Z1a hw hn t p ht
 rw [e]
 simp only [U0,h1]
theorem W3s {w:List Q4}{t:Q2}{n:Nat}(hn:10≤n):∀ {l:List Q0},(∀ p∈l,Q4j w t p=true)→l.length≤100000→Q4p n l=some l:=fun {l} h hl=>by
 unfold Q4p
 have hloop:=Q63 (ρ:=List Q0) (f:=fun (k70:Nat) x71 (s64:(List Q0))=>((Q1i n x71).bind fun r78=>((app s64 [r78]).bind fun x79=>some (Ctl.go x79)))) (fun q=>[q]) 1000000 l 0 [] (fun k q hq s hs=>by
  obtain ⟨g,hc,_⟩:=Q15 (h q hq)
  rw [W41 10 n q (Z6d 10 t q g) hn (by omega)]
  simp only [U0]
  simp only [U3,U4] at hs
  rw [V5 (by simp only [U3,U4,Q9];omega)]
  rfl) (by
   have:∀ l:List Q0,(l.flatMap fun q=>[q]).length=l.length:=fun l=>by induction l with | nil=>rfl | cons a l ih=>simp [ih]
   rw [this];simp only [U4];omega)
 have hfl:∀ l:List Q0,(l.flatMap fun q=>[q])=l:=fun l=>by induction l with | nil=>rfl | cons a l ih=>simp [ih]
 rw [hfl] at hloop
 have e':=congrArg (fun z:Option (Ctl (List Q0) (List Q0))=>z.bind fun o=>match o with | .ret r=>some r | .go _=>none | .brk s=>some s) hloop
 exact e'.trans (by simp)
def Z50 (w:List Q4)(t:Q2):Option (List Q0)→Option (List Q0)
 | none=>none
 | some l=>if l.all (Q4j w t)=true then some l else none
theorem X4j {w:List Q4}(hw:WW w){S:List Int}{n:Nat}(hn:100≤n){t:Q2}(ht:t∈tys w)(o:Option (List Q0))(ho:∀ l,o=some l→l.length≤100000) :
  Q3a n ⟨w,S⟩ t (optR o).1 (optR o).2=some (optR (Z50 w t o)):=by
 unfold Q3a
 cases o with
 | none=>simp [optR,Z50]
 | some l=>
  simp only [optR,Bool.not_true,U2,if_false]
  rw [Z7s l _ (fun p=>!Q4j w t p) (fun p _=>by
   unfold Q48
   rw [X4a hw hn ht p]
   rfl)]
  simp only [U0,Z50]
  by_cases h:l.all (Q4j w t)=true
  ·have e:(l.any fun p=>!Q4j w t p)=false:=by
    rw [List.any_eq_false]
    intro p hp
    simp [List.all_eq_true.1 h p hp]
   simp only [e,U2,if_false,if_pos h]
   rw [W3s (by omega) (fun p hp=>List.all_eq_true.1 h p hp) (ho l rfl)]
   rfl
  ·have e:(l.any fun p=>!Q4j w t p)=true:=by
    rw [List.any_eq_true]
    simp only [List.all_eq_true,Classical.not_forall] at h
    obtain ⟨p,hp,h⟩:=h
    exact ⟨p,hp,by simpa using h⟩
   simp only [e,if_true,if_neg h]
theorem Z87 {w:List Q4}(hw:WW w):∀ (d n:Nat) (t:Q2) (p:Q0),t∈tys w→J6 w d t p→d+1≤n→Q0t n w (tabP w) t p=some (!Q1m w d t p)
 | 0,_,_,_,_,h,_=>h.elim
 | d+1,n,t,p,ht,hp,hn=>by
  obtain ⟨n,rfl⟩:∃ m,n=m+1:=⟨n-1,by omega⟩
  have i11:ieq 1 1=true:=rfl
  have i31:ieq 3 1=false:=rfl
  have i33:ieq 3 3=true:=rfl
  have i41:ieq 4 1=false:=rfl
  have i43:ieq 4 3=false:=rfl
  have e31:¬(3:Int)=1:=by decide
  have e34:¬(3:Int)=4:=by decide
  have e41:¬(4:Int)=1:=by decide
  rcases hp with rfl | ⟨n1,m1,rfl,hd,_⟩ | ⟨c,ks,rfl,hd,hc,hl,hk⟩
  ·simp only [Q0t,i11,if_true,U0,(hw.ty t ht).d1,Q1m]
   have:=(hw.ty t ht).d0
   by_cases h:depP w t=0
   ·simp [h,ilt]
   ·have e:ilt 0 (depP w t)=true:=by rw [Z5];omega
    simp [h,e]
  ·simp [Q0t,i31,i33,Q1m,e34]
  ·simp only [Q0t,i41,i43,U2,if_false,Q1m,e41,if_true]
   rw [(hw.ty t ht).a1 c hc]
   simp only [U0]
   have hlp:∀ (ts:List Q2) (k:Nat) (ks':List Q0),(W0 w t c).drop k=ts→ks.drop k=ks'→
     forL (ρ:=Bool) (fun k87 x88 (s81:Unit)=>((idx ks (k87:Int)).bind fun x96=>((Q0t n w (tabP w) x88 x96).bind fun r97=>(if (!r97)=true then some (Ctl.ret (false)) else some (Ctl.go ()))))) k ts ()=some (if ((ts.zip ks').any fun x=>Q1m w d x.1 x.2)=true then .ret false else .brk ()):=by
    intro ts
    induction ts with
    | nil=>intro k ks' _ _;simp [forL]
    | cons u ts ih=>
     intro k ks' h0 h1
     obtain ⟨u1,u2⟩:=Q52 h0
     have hkl:=(List.getElem?_eq_some_iff.1 u1).1
     cases ks' with
     | nil=>have:=congrArg List.length h1;simp at this;omega
     | cons q ks'=>
     obtain ⟨q1,q2⟩:=Q52 h1
     unfold forL
     simp only [Q00 q1,U0]
     rw [Z87 hw d n u q ((hw.ty t ht).at_ _ hc u (U1 u1)) (hk k u q u1 q1) (by omega)]
     simp only [U0,List.zip_cons_cons,List.any_cons]
     rcases Bool.eq_false_or_eq_true (Q1m w d u q) with hem | hem
     ·simp [hem]
     ·simp only [hem,Bool.not_false,Bool.not_true,U2,if_false,Bool.false_or]
      exact ih (k+1) ks' u2 q2
   have e:=hlp (W0 w t c) 0 ks rfl rfl
   have e':=congrArg (fun z:Option (Ctl Bool Unit)=>z.bind fun o=>match o with | .ret r=>some r | .go _=>none | .brk _=>some true) e
   refine e'.trans ?_
   cases ((W0 w t c).zip ks).any fun x=>Q1m w d x.1 x.2<;>simp
theorem Z86 {w:List Q4}(hw:WW w){d n:Nat}{t:Q2}(ht:t∈tys w){l:List Q0}(h:∀ a∈l,J6 w d t a)(hl:l.length≤1000000)(hn:d+1≤n):Q4k n w (tabP w) t l=some (Q9r w d t l):=by
 have hlp:∀ (l:List Q0) (k:Nat) (s:List Q0),(∀ a∈l,J6 w d t a)→s.length+l.length≤1000000→
   forL (ρ:=List Q0) (fun k100 x101 (s94:(List Q0))=>
   ((((Q0t n w (tabP w) t x101).bind fun r113=>
   (if r113=true then
   ((app s94 [x101]).bind fun x115=>
   some (Ctl.brk x115))
   else
   some (Ctl.brk s94)))).bind fun (o110:Ctl (Ctl (List Q0) (List Q0)) ((List Q0)))=>match o110 with
   | .ret r=>some r
   | .go _=>none
   | .brk s109=>
   some (Ctl.go s109))) k l s=some (.brk (s++Q9r w d t l)):=by
  intro l
  induction l with
  | nil=>intro k s _ _;simp [forL,Q9r]
  | cons a l ih=>
   intro k s h hs
   simp only [U3] at hs
   unfold forL
   rw [Z87 hw d n t a ht (h a (by simp)) hn]
   simp only [U0]
   rcases Bool.eq_false_or_eq_true (Q1m w d t a) with hem | hem
   ·simp only [hem,Bool.not_true,U2,if_false,U0]
    rw [ih (k+1) s (fun a ha=>h a (by simp [ha])) (by omega)]
    simp [Q9r,hem]
   ·simp only [hem,Bool.not_false,if_true]
    rw [V5 (by simp only [U3,U4,Q9];omega)]
    simp only [U0]
    rw [ih (k+1) (s++[a]) (fun a ha=>h a (by simp [ha])) (by simp only [U5,U3,U4];omega)]
    simp [Q9r,hem]
 have e:=hlp l 0 [] h (by simp only [U4];omega)
 have e':=congrArg (fun z:Option (Ctl (List Q0) (List Q0))=>z.bind fun o=>match o with | .ret r=>some r | .go _=>none | .brk s=>some s) e
 exact e'.trans (by simp)
theorem Z9u {w:List Q4}(hw:WW w):∀ (d n x:Nat) (t:Q2) (a b:Q0),t∈tys w→J6 w x t a→J6 w d t b→d+3≤n→∃ q,Q0y n a b=some (match Q23 d a b with | some m=>(m,true) | none=>(q,false))
 | 0,_,_,_,_,_,_,_,h,_=>h.elim
 | d+1,n,x,t,a,b,ht,ha,hb,hn=>by
  obtain ⟨n,rfl⟩:∃ m,n=m+1:=⟨n-1,by omega⟩
  obtain ⟨x,rfl,ha⟩:=Z3j ha
  have i11:ieq 1 1=true:=rfl
  have i31:ieq 3 1=false:=rfl
  have i33:ieq 3 3=true:=rfl
  have i41:ieq 4 1=false:=rfl
  have i43:ieq 4 3=false:=rfl
  have e31:¬(3:Int)=1:=by decide
  have e41:¬(4:Int)=1:=by decide
  have e43:¬(4:Int)=3:=by decide
  rcases ha with rfl | ⟨n1,m1,rfl,hd,_⟩ | ⟨c,ks,rfl,hd,hc,hl,hk⟩
  ·exact ⟨zP,by simp [Q0y,Q23,i11]⟩
  ·rcases hb with rfl | ⟨n2,m2,rfl,_⟩ | ⟨c',ks',rfl,hd',_⟩
   ·exact ⟨zP,by simp [Q0y,Q23,i11,i31]⟩
   ·refine ⟨Q0.mk 3 0 (max n1 n2) (min m1 m2) 0 [],?_⟩
    simp only [Q0y,Q23,i31,i33,e31,U2,if_false,if_true]
    have h1:(if ilt n1 n2=true then some (Ctl.brk n2) else some (Ctl.brk n1):Option (Ctl (Q0×Bool) Int))=some (Ctl.brk (max n1 n2)):=by
     by_cases h:n1<n2
     ·rw [if_pos (by rw [Z5];exact h)];congr 2;omega
     ·rw [if_neg (by rw [Z5];exact h)];congr 2;omega
    have h2:(if ilt m2 m1=true then some (Ctl.brk m2) else some (Ctl.brk m1):Option (Ctl (Q0×Bool) Int))=some (Ctl.brk (min m1 m2)):=by
     by_cases h:m2<m1
     ·rw [if_pos (by rw [Z5];exact h)];congr 2;omega
     ·rw [if_neg (by rw [Z5];exact h)];congr 2;omega
    rw [h1,h2]
    simp only [U0]
    by_cases h:max n1 n2≤min m1 m2
    ·have:ile (max n1 n2) (min m1 m2)=true:=by rw [W4];exact h
     simp [h,this]
    ·have:ile (max n1 n2) (min m1 m2)=false:=by rw [Q0n];omega
     simp [h,this]
   ·exact absurd hd hd'
  ·rcases hb with rfl | ⟨n2,m2,rfl,hd',_⟩ | ⟨c',ks',rfl,_,hc',hl',hk'⟩
   ·exact ⟨zP,by simp [Q0y,Q23,i11,i41]⟩
   ·exact absurd hd' hd
   ·refine ⟨zP,?_⟩
    simp only [Q0y,Q23,i41,i43,e41,e43,U2,if_false]
    by_cases hcc:c=c'
    ·subst hcc
     have ec:(!ieq c c)=false:=by simp [ieq]
     simp only [ec,U2,if_false,if_true]
     have hal:=(hw.ty t ht).al c hc
     have hlp:∀ (as':List Q0) (k:Nat) (s:List Q0) (bs':List Q0),ks.drop k=as'→ks'.drop k=bs'→s.length+as'.length≤100→
       forL (fun k132 x133 (s126:(List Q0))=>
        ((idx ks' (k132:Int)).bind fun x143=>
        ((Q0y n x133 x143).bind fun r144=>
        (if (!r144.2)=true then
        some (Ctl.ret (((Q0.mk 0 0 0 0 0 []),false)))
        else
        ((app s126 [r144.1]).bind fun x147=>
        some (Ctl.go x147)))))) k as' s=some (match Q79 (Q23 d) as' bs' with | some ms=>.brk (s++ms) | none=>.ret (zP,false)):=by
      intro as'
      induction as' with
      | nil=>
       intro k s bs' h1 h2 _
       simp [forL,Q79]
      | cons a as' ih=>
       intro k s bs' h1 h2 hs
       obtain ⟨a1,a2⟩:=Q52 h1
       have hkl:=(List.getElem?_eq_some_iff.1 a1).1
       cases bs' with
       | nil=>have:=congrArg List.length h2;simp at this;omega
       | cons b bs'=>
       obtain ⟨b1,b2⟩:=Q52 h2
       obtain ⟨u,u1⟩:=Q22 (l:=W0 w t c) (j:=k) rfl (by omega)
       simp only [U3] at hs
       unfold forL
       rw [Q00 b1]
       simp only [U0]
       obtain ⟨q,e⟩:=Z9u hw d n x u a b ((hw.ty t ht).at_ _ hc u (U1 u1)) (hk k u a u1 a1) (hk' k u b u1 b1) (by omega)
       rw [e]
       simp only [U0,Q79]
       cases hm:Q23 d a b with
       | none=>simp [zP]
       | some m=>
        simp only [Bool.not_true,U2,if_false,U0]
        rw [V5 (by simp only [U3,U4,Q9];omega)]
        simp only [U0]
        rw [ih (k+1) (s++[m]) bs' a2 b2 (by simp;omega)]
        cases Q79 (Q23 d) as' bs' with
        | none=>simp
        | some ms=>simp
     have:=hlp ks 0 [] ks' rfl rfl (by simp;omega)
     rw [this]
     cases Q79 (Q23 d) ks ks' with
     | none=>simp
     | some ms=>simp
    ·have ec:(!ieq c c')=true:=by simp [ieq,hcc]
     simp [ec,hcc,zP]
theorem Z5q {n1 m1 n2 m2:Int}{a b:Q0}(ha:a.n=n1∧a.m=m1)(hb:b.n=n2∧b.m=m2)(h1:0≤n2)(h2:n2≤9)(h3:0≤m2)(h4:m2≤9):Q54 a b=some (X05 n1 m1 n2 m2):=by
 obtain ⟨rfl,rfl⟩:=ha
 obtain ⟨rfl,rfl⟩:=hb
 unfold Q54 X05
 have w1:wsub .i64 b.n 1=b.n-1:=Q3v (by omega) (by omega)
 have w2:wadd .i64 b.m 1=b.m+1:=J9 (by omega) (by omega)
 simp only [w1,w2]
 have g1:(if ilt (b.n-1) a.m=true then some (Ctl.brk (b.n-1)) else some (Ctl.brk a.m):Option (Ctl (List Q0) Int))=some (Ctl.brk (min a.m (b.n-1))):=by
  by_cases h:b.n-1<a.m
  ·rw [if_pos (by rw [Z5];exact h)];congr 2;omega
  ·rw [if_neg (by rw [Z5];exact h)];congr 2;omega
 have g2:(if ilt a.n (b.m+1)=true then some (Ctl.brk (b.m+1)) else some (Ctl.brk a.n):Option (Ctl (List Q0) Int))=some (Ctl.brk (max a.n (b.m+1))):=by
  by_cases h:a.n<b.m+1
  ·rw [if_pos (by rw [Z5];exact h)];congr 2;omega
  ·rw [if_neg (by rw [Z5];exact h)];congr 2;omega
 rw [g1,g2]
 simp only [U0]
 by_cases c1:a.n≤min a.m (b.n-1)
 ·by_cases c2:max a.n (b.m+1)≤a.m
  ·have e1:ile a.n (min a.m (b.n-1))=true:=by rw [W4];exact c1
   have e2:ile (max a.n (b.m+1)) a.m=true:=by rw [W4];exact c2
   simp [e1,e2,c1,c2,app,Q9]
  ·have e1:ile a.n (min a.m (b.n-1))=true:=by rw [W4];exact c1
   have e2:ile (max a.n (b.m+1)) a.m=false:=by rw [Q0n];omega
   simp [e1,e2,c1,c2,app,Q9]
 ·by_cases c2:max a.n (b.m+1)≤a.m
  ·have e1:ile a.n (min a.m (b.n-1))=false:=by rw [Q0n];omega
   have e2:ile (max a.n (b.m+1)) a.m=true:=by rw [W4];exact c2
   simp [e1,e2,c1,c2,app,Q9]
  ·have e1:ile a.n (min a.m (b.n-1))=false:=by rw [Q0n];omega
   have e2:ile (max a.n (b.m+1)) a.m=false:=by rw [Q0n];omega
   simp [e1,e2,c1,c2,app,Q9]
theorem V70 {w:List Q4}(hw:WW w){t:Q2}(ht:t∈tys w){c:Int}(hc:c∈X2 w t):Q5k w t c=some (Q89 w t c):=by
 unfold Q5k
 rw [(hw.ty t ht).a1 c hc]
 simp only [U0]
 have hal:=(hw.ty t ht).al c hc
 rw [Q63 (fun _=>[Q0.mk 1 0 0 0 0 []]) 100 (W0 w t c) 0 [] (fun k x _ s hs=>by
  have:Q82=some (Q0.mk 1 0 0 0 0 []):=rfl
  rw [this]
  simp only [U0]
  simp only [U3,U4] at hs
  rw [V5 (by simp only [U3,U4,Q9];omega)]
  rfl) (by
   have:∀ l:List Q2,(l.flatMap fun _=>[Q0.mk 1 0 0 0 0 []]).length=l.length:=fun l=>by induction l with | nil=>rfl | cons a l ih=>simp [ih]
   rw [this];simp;omega)]
 simp only [U0,List.nil_append,Q89]
 congr 2
 induction W0 w t c with
 | nil=>rfl
 | cons a l ih=>simp [ih]
theorem X2a {n:Nat}{c:Int}{ks ks':List Q0}{fm:Q2→Q0→Q0→List Q0}{fj:Q0→Q0→Option Q0}{args:List Q2}{w:List Q4}
  (hl:ks.length=args.length) (hl':ks'.length=args.length) (ha3:args.length≤3)
  (hmin:∀ (k:Nat) (u:Q2) (a b:Q0),args[k]?=some u→ks[k]?=some a→ks'[k]?=some b→Y0 n w u a b=some (fm u a b)∧∃ q,Q0y n a b=some (match fj a b with | some m=>(m,true) | none=>(q,false))) :
  ∀ (ts:List Q2) (k:Nat) (out front as' bs':List Q0),args.drop k=ts→ks.drop k=as'→ks'.drop k=bs'→front.length=k→out.length+(kmD fm fj ts as' bs').length≤50000→
  ∃ o:Ctl (List Q0) ((List Q0)×(List Q0)),(match o with | .ret r=>some r | .go _=>none | .brk s=>some s.1)=some (out++(kmD fm fj ts as' bs').map (fun q=>Q0.mk 4 c 0 0 0 (front++q)))∧
  forL (fun k1173 x1174 (s1167:(List Q0)×(List Q0))=>
  ((idx ks (k1173:Int)).bind fun x1291=>
  ((idx ks' (k1173:Int)).bind fun x1292=>
  ((Y0 n w x1174 x1291 x1292).bind fun r1293=>
  ((forL (fun k1383 x1384 (s1377:(List Q0))=>
  ((app [] s1167.2).bind fun x1393=>
  ((app s1167.2 [x1384]).bind fun x1394=>
  ((Z30 ks (wadd .i64 (k1173:Int) 1)).bind fun x1395=>
  ((app x1394 x1395).bind fun x1396=>
  ((app s1377 [(Q0.mk 4 c 0 0 0 x1396)]).bind fun x1397=>
  some (Ctl.go (s1377++[(Q0.mk 4 c 0 0 0 x1396)])))))))) 0 r1293 s1167.1).bind fun (o1376:Ctl (Ctl (List Q0) ((List Q0)×(List Q0))) ((List Q0)))=>match o1376 with
  | .ret r=>some r
  | .go _=>none
  | .brk s1387=>
  ((Q0y n x1291 x1292).bind fun r1398=>
  (if (!r1398.2)=true then
  some (Ctl.ret (s1387))
  else
  ((app s1167.2 [r1398.1]).bind fun x1401=>
  some (Ctl.go (s1387,x1401)))))))))) k ts (out,front)=some o:=by
 intro ts
 induction ts with
 | nil=>
  intro k out front as' bs' h0 h1 h2 hf hs
  exact ⟨.brk (out,front),by simp [kmD],by simp [forL]⟩
 | cons u ts ih=>
  intro k out front as' bs' h0 h1 h2 hf hs
  obtain ⟨u1,u2⟩:=Q52 h0
  have hkl:=(List.getElem?_eq_some_iff.1 u1).1
  cases as' with
  | nil=>have:=congrArg List.length h1;simp at this;omega
  | cons a as'=>
  cases bs' with
  | nil=>have:=congrArg List.length h2;simp at this;omega
  | cons b bs'=>
  obtain ⟨a1,a2⟩:=Q52 h1
  obtain ⟨b1,b2⟩:=Q52 h2
  obtain ⟨m1,q,m2⟩:=hmin k u a b u1 a1 b1
  simp only [kmD,U5,U7] at hs
  have hw1:wadd .i64 (k:Int) 1=((k+1:Nat):Int):=by rw [J9]<;>omega
  have hdrop:Z30 ks ((k+1:Nat):Int)=some as':=by
   unfold Z30
   rw [if_pos ⟨by omega,by omega⟩]
   simp [←a2]
  have has:as'.length≤3:=by rw [←a2];simp;omega
  unfold forL
  simp only [Q00 a1,Q00 b1,U0,m1,hw1,hdrop]
  have hin:=Q63 (ρ:=Ctl (List Q0) ((List Q0)×(List Q0))) (f:=fun (k1383:Nat) x1384 (s1377:(List Q0))=>
    ((app [] front).bind fun x1393=>
    ((app front [x1384]).bind fun x1394=>
    ((app x1394 as').bind fun x1396=>
    ((app s1377 [(Q0.mk 4 c 0 0 0 x1396)]).bind fun x1397=>
    some (Ctl.go (s1377++[(Q0.mk 4 c 0 0 0 x1396)]))))))) (fun x=>[Q0.mk 4 c 0 0 0 (front++x::as')]) 100000 (fm u a b) 0 out (fun k x _ s hs=>by
   simp only [U3,U4] at hs
   rw [V5 (by simp only [U4,Q9];omega),V5 (by simp only [U3,U4,Q9];omega)]
   simp only [U0]
   rw [V5 (by simp only [U5,U3,U4,Q9];omega)]
   simp only [U0]
   rw [V5 (by simp only [U3,U4,Q9];omega)]
   simp) (by
    have:∀ l:List Q0,(l.flatMap fun x=>[Q0.mk 4 c 0 0 0 (front++x::as')]).length=l.length:=fun l=>by induction l with | nil=>rfl | cons a l ih=>simp [ih]
    rw [this];omega)
  have hfl:∀ l:List Q0,(l.flatMap fun x=>[Q0.mk 4 c 0 0 0 (front++x::as')])=l.map fun x=>Q0.mk 4 c 0 0 0 (front++x::as'):=fun l=>by induction l with | nil=>rfl | cons a l ih=>simp [ih]
  rw [hfl] at hin
  rw [hin]
  simp only [U0,m2]
  cases hm:fj a b with
  | none=>
   simp only [Bool.not_false,if_true]
   refine ⟨_,?_,rfl⟩
   simp only [kmD,hm,List.append_nil,List.map_map]
   rfl
  | some m=>
   simp only [Bool.not_true,U2,if_false]
   rw [V5 (by simp only [U3,U4,Q9];omega)]
   simp only [U0]
   rw [hm] at hs
   simp only [U7] at hs
   obtain ⟨o,e1,e⟩:=ih (k+1) (out++(fm u a b).map fun x=>Q0.mk 4 c 0 0 0 (front++x::as')) (front++[m]) as' bs' u2 a2 b2 (by simp;omega) (by simp only [U5,U7];omega)
   refine ⟨o,?_,e⟩
   rw [e1]
   simp only [kmD,hm,List.map_append,List.map_map,List.append_assoc]
   congr 5
theorem Z85 {w:List Q4}(hw:WW w)(he:WE w):∀ (d n x:Nat) (t:Q2) (a b:Q0),t∈tys w→J6 w x t a→J6 w d t b→cntP b≤10000→3 * d+6≤n→Y0 n w t a b=some (J1 w d t a b)
 | 0,_,_,_,_,_,_,_,h,_,_=>h.elim
 | d+1,n,x,t,a,b,ht,ha,hb,hcnt,hn=>by
  obtain ⟨n,rfl⟩:∃ m,n=m+1:=⟨n-1,by omega⟩
  have i11:ieq 1 1=true:=rfl
  have i14:ieq 1 4=false:=rfl
  have i31:ieq 3 1=false:=rfl
  have i33:ieq 3 3=true:=rfl
  have i41:ieq 4 1=false:=rfl
  have i43:ieq 4 3=false:=rfl
  have i44:ieq 4 4=true:=rfl
  have e31:¬(3:Int)=1:=by decide
  have e41:¬(4:Int)=1:=by decide
  have e43:¬(4:Int)=3:=by decide
  obtain ⟨x,rfl,ha'⟩:=Z3j ha
  have hb0:=hb
  rcases hb with rfl | ⟨n2,m2,rfl,hd',g0,g1,g2⟩ | ⟨c',ks',rfl,hd',hc',hl',hk'⟩
  ·simp [Y0,J1,i11]
  ·rcases ha' with rfl | ⟨n1,m1,rfl,hd,h0,_,h9⟩ | ⟨c,ks,rfl,hd,_⟩
   ·simp only [Y0,J1,i31,i33,i11,e31,U2,if_false,if_true,U0]
    rw [Z5q (n1:=0) (m1:=9) (n2:=n2) (m2:=m2) ⟨rfl,rfl⟩ ⟨rfl,rfl⟩ (by omega) (by omega) (by omega) (by omega)]
    rfl
   ·simp only [Y0,J1,i31,i33,e31,U2,if_false,if_true,U0]
    rw [Z5q (n1:=n1) (m1:=m1) (n2:=n2) (m2:=m2) ⟨rfl,rfl⟩ ⟨rfl,rfl⟩ (by omega) (by omega) (by omega) (by omega)]
    rfl
   ·exact absurd hd' hd
  ·have hcn:cntP (Q0.mk 4 c' 0 0 0 ks')=1+cntP.cntPs ks':=Q46 _
   have hkc:∀ q∈ks',cntP q≤10000:=fun q hq=>by
    have:=Q9e (p:=Q0.mk 4 c' 0 0 0 ks') (List.mem_iff_getElem?.1 hq).choose_spec
    omega
   have hA:∀ (N:Nat) (c:Int) (ks:List Q0) (y:Nat),3 * d+7≤N→c∈X2 w t→ks.length=(W0 w t c).length→(∀ (j:Nat) (a:Q2) (q:Q0),(W0 w t c)[j]?=some a→ks[j]?=some q→J6 w y a q)→
     Y0 (N+1) w t (Q0.mk 4 c 0 0 0 ks) (Q0.mk 4 c' 0 0 0 ks')=some (cmD w (J1 w d) (Q23 d) t (Q0.mk 4 c 0 0 0 ks) (Q0.mk 4 c' 0 0 0 ks')):=fun N c ks y hN hc hl hk=>by
    obtain ⟨N,rfl⟩:∃ m,N=m+1:=⟨N-1,by omega⟩
    simp only [Y0,i41,i43,i44,U2,if_false,if_true,cmD]
    by_cases hcc:c=c'
    ·subst hcc
     have ec:(!ieq c c)=false:=by simp [ieq]
     simp only [ec,U2,if_false,if_true,Q8d]
     rw [(hw.ty t ht).a1 c hc]
     simp only [U0]
     have hlen:(kmD (J1 w d) (Q23 d) (W0 w t c) ks ks').length≤3 * cntP.cntPs ks':=
      W21 (W0 w t c) ks ks' fun j u p q h1 h2=>Z09 hw he d u p q ((hw.ty t ht).at_ _ hc u (U1 h1)) (hk' j u q h1 h2)
     obtain ⟨o,e1,e⟩:=X2a (w:=w) (n:=N) (c:=c) (fm:=J1 w d) (fj:=Q23 d) hl hl' ((hw.ty t ht).al c hc) (fun k u p q h1 h2 h3=>
      have hu:=(hw.ty t ht).at_ _ hc u (U1 h1)
      ⟨Z85 hw he d N y u p q hu (hk k u p h1 h2) (hk' k u q h1 h3) (hkc q (U1 h3)) (by omega),Z9u hw d N y u p q hu (hk k u p h1 h2) (hk' k u q h1 h3) (by omega)⟩)
      (W0 w t c) 0 [] [] ks ks' rfl rfl rfl rfl (by simp only [U4];omega)
     have e':=congrArg (fun z:Option (Ctl (List Q0) ((List Q0)×(List Q0)))=>(z.bind fun o=>match o with | .ret r=>some r | .go _=>none | .brk s=>some s.1).bind fun r=>some r) e
     refine e'.trans ?_
     simp only [U0,e1]
     simp
    ·have ec:(!ieq c c')=true:=by simp [ieq,hcc]
     simp [ec,hcc]
   rcases ha' with rfl | ⟨n1,m1,rfl,hd,_⟩ | ⟨c,ks,rfl,hd,hc,hl,hk⟩
   ·simp only [Y0,J1,i11,i14,i41,i43,e41,e43,U2,if_false,if_true]
    rw [(hw.ty t ht).c1]
    simp only [U0]
    obtain ⟨N,rfl⟩:∃ m,n=m+1:=⟨n-1,by omega⟩
    have hlen:=Z09 hw he (d+1) t (Q0.mk 1 0 0 0 0 []) (Q0.mk 4 c' 0 0 0 ks') ht hb0
    simp only [J1,e41,e43,if_false,if_true] at hlen
    rw [Q63 (fun c=>cmD w (J1 w d) (Q23 d) t (Q89 w t c) (Q0.mk 4 c' 0 0 0 ks')) 1000000 (X2 w t) 0 [] (fun k c hc s hs=>by
     rw [V70 hw ht hc]
     simp only [U0]
     rw [Q89,hA N c _ 1 (by omega) hc (by simp) (fun j a q ha hq=>by
      rw [List.getElem?_map,ha] at hq
      cases hq
      exact Z24 w 0 a)]
     simp only [U0]
     rw [V5 (by simp only [Q9];simp only [Q89] at hs;omega)]
     rfl) (by simp only [U4];omega)]
    simp
   ·exact absurd hd hd'
   ·rw [hA n c ks x (by omega) hc hl hk]
    simp [J1]
theorem X8d {w:List Q4}(hw:WW w)(he:WE w){d x:Nat}{t:Q2}(ht:t∈tys w)(hx:d+1≤x):∀ (bs l:List Q0),(∀ b∈bs,J6 w d t b)→(∀ a∈l,J6 w x t a)→(Q9w w d x t l bs).map (Q9r w x t)=Q7m w d x t l bs
 | [],l,_,_=>rfl
 | b::bs,l,hb,hl=>by
  have e:=X65 hw he ht hx (hb b (by simp)) hl
  simp only [Q7m,Q9w,e]
  by_cases hc:400<(Q5g w d x t l b).length
  ·simp [hc]
  ·simp only [if_neg hc]
   rw [X8d hw he ht hx bs (Q5g w d x t l b) (fun b hb'=>hb b (by simp [hb'])) (Z35 hx (hb b (by simp)) hl)]
   simp only [Q7m,X95]
theorem Z9t {w:List Q4}(hw:WW w)(he:WE w){d x n:Nat}{t:Q2}(ht:t∈tys w)(hx:d+1≤x)(hx2:x≤100){l bs:List Q0}(hb:∀ b∈bs,J6 w d t b∧cntP b≤130)(h:∀ a∈l,J6 w x t a)(hl:l.length≤1000)(hn:2000≤n) :
  Q6z n w (tabP w) t l bs=some (optR (Q7m w d x t l bs)):=by
 have hin:∀ (b:Q0),J6 w d t b→cntP b≤130→∀ (s:List Q0) (k:Nat) (acc:List Q0),(∀ a∈s,J6 w x t a)→acc.length≤1000→
   ∃ r,forL (ρ:=Ctl (List Q0×Bool) (List Q0)) (fun k1807 x1808 (s1801:(List Q0))=>
   (if (ile (lenZ s1801.length) 400)=true then
   ((Y0 n w t x1808 b).bind fun r1819=>
   ((Q4k n w (tabP w) t r1819).bind fun r1820=>
   ((app s1801 r1820).bind fun x1821=>
   some (Ctl.go x1821))))
   else
   some (Ctl.brk s1801))) k s acc=some (.brk r)∧((acc++Q5g w d x t s b).length≤400→r=acc++Q5g w d x t s b)∧(400<(acc++Q5g w d x t s b).length→400<r.length):=by
  intro b hb hcb s
  induction s with
  | nil=>intro k acc _ _;exact ⟨acc,by simp [forL],by simp [Q5g,Q9r],by simp [Q5g,Q9r]⟩
  | cons a s ih=>
   intro k acc hs hacc
   have hstep:Q5g w d x t (a::s) b=Q9r w x t (J1 w d t a b)++Q5g w d x t s b:=by simp [Q5g,Q9r]
   rw [hstep]
   have hlen:=Z09 hw he d t a b ht hb
   have hkl:=X4h w x t (J1 w d t a b)
   unfold forL
   by_cases hc:acc.length≤400
   ·have e:ile (lenZ acc.length) 400=true:=by rw [W4,Q5c];omega
    simp only [e,if_true]
    rw [Z85 hw he d n x t a b ht (hs a (by simp)) hb (by omega) (by omega)]
    simp only [U0]
    rw [Z86 hw ht (fun y hy=>Z00 d x t a b hx (hs a (by simp)) hb y hy) (by omega) (by omega)]
    simp only [U0]
    rw [V5 (by simp only [Q9];omega)]
    simp only [U0]
    obtain ⟨r,e1,e2,e3⟩:=ih (k+1) (acc++Q9r w x t (J1 w d t a b)) (fun a ha=>hs a (by simp [ha])) (by simp only [U5];omega)
    rw [List.append_assoc] at e2 e3
    exact ⟨r,e1,e2,e3⟩
   ·have e:ile (lenZ acc.length) 400=false:=by rw [Q0n,Q5c];omega
    simp only [e,U2,if_false]
    refine ⟨acc,rfl,fun h=>?_,fun _=>by omega⟩
    simp only [U5] at h
    omega
 have hlp:∀ (bs:List Q0) (k:Nat) (s:List Q0),(∀ b∈bs,J6 w d t b∧cntP b≤130)→(∀ a∈s,J6 w x t a)→
   forL (fun k1538 x1539 (s1532:(List Q0))=>
   ((forL (fun k1807 x1808 (s1801:(List Q0))=>
   (if (ile (lenZ s1801.length) 400)=true then
   ((Y0 n w t x1808 x1539).bind fun r1819=>
   ((Q4k n w (tabP w) t r1819).bind fun r1820=>
   ((app s1801 r1820).bind fun x1821=>
   some (Ctl.go x1821))))
   else
   some (Ctl.brk s1801))) 0 s1532 []).bind fun (o1800:Ctl (Ctl (List Q0×Bool) (List Q0)) ((List Q0)))=>match o1800 with
   | .ret r=>some r
   | .go _=>none
   | .brk s1811=>
   (if (ilt 400 (lenZ s1811.length))=true then
   some (Ctl.ret (([],false)))
   else
   some (Ctl.go s1811)))) k bs s=some (match Q9w w d x t s bs with | some r=>.brk r | none=>.ret ([],false)):=by
  intro bs
  induction bs with
  | nil=>intro k s _ _;simp [forL,Q9w]
  | cons b bs ih=>
   intro k s hb hs
   obtain ⟨hb1,hb2⟩:=hb b (by simp)
   unfold forL
   obtain ⟨r,e1,e2,e3⟩:=hin b hb1 hb2 s 0 [] hs (by simp)
   rw [e1]
   simp only [List.nil_append] at e2 e3
   simp only [U0,Q9w]
   by_cases hc:400<(Q5g w d x t s b).length
   ·have hr:=e3 hc
    have e:ilt 400 (lenZ r.length)=true:=by rw [Z5,Q5c];omega
    simp only [e,if_true,if_pos hc]
   ·have hr:=e2 (by omega)
    subst hr
    have e:ilt 400 (lenZ (Q5g w d x t s b).length)=false:=by rw [J8,Q5c];omega
    simp only [e,U2,if_false,if_neg hc]
    exact ih (k+1) _ (fun b hb'=>hb b (by simp [hb'])) (Z35 hx hb1 hs)
 have e:=hlp bs 0 l hb h
 have hk:=X8d hw he ht hx bs l (fun b hb'=>(hb b hb').1) h
 have hln:∀ (bs l r:List Q0),l.length≤1000→Q9w w d x t l bs=some r→r.length≤1000:=by
  intro bs
  induction bs with
  | nil=>intro l r h e;simp only [Q9w,Option.some.injEq] at e;subst e;exact h
  | cons b bs ih=>
   intro l r h e
   simp only [Q9w] at e
   split at e
   ·cases e
   ·exact ih _ r (by omega) e
 have e':=congrArg (fun z:Option (Ctl ((List Q0)×Bool) (List Q0))=>z.bind fun o=>match o with | .ret r=>some r | .go _=>none | .brk s=>(Q4k n w (tabP w) t s).bind fun r=>some (r,true)) e
 refine e'.trans ?_
 rw [←hk]
 cases hr:Q9w w d x t l bs with
 | none=>simp [optR]
 | some r=>
  have hl':=hln bs l r hl hr
  have hp:=X8c hx bs l r (fun b hb'=>(hb b hb').1) h hr
  simp only [U0,Option.map_some,optR]
  rw [Z86 hw ht hp (by omega) (by omega)]
  rfl
theorem Z84 {α β:Type}(f:α→List β):∀ (X:List α) (m M:Nat),m≤M→(X.flatMap fun q=>(f q).take M).take m=(X.flatMap f).take m
 | [],m,M,_=>by simp
 | q::X,m,M,h=>by
  simp only [List.flatMap_cons,List.take_append,List.take_take,U6]
  rw [Nat.min_eq_left h]
  congr 1
  rcases Nat.le_total (f q).length M with h1 | h1
  ·rw [Nat.min_eq_right h1];exact Z84 f X _ M (by omega)
  ·rw [Nat.min_eq_left h1,show m-M=0 by omega,show m-(f q).length=0 by omega];simp
theorem Z5o {α β:Type}(f:α→List β):∀ (X:List α) (m j:Nat),(∀ q∈X,1≤(f q).length)→j≤m→((X.take m).flatMap f).take j=(X.flatMap f).take j
 | [],m,j,_,_=>by simp
 | q::X,0,j,_,h=>by rw [show j=0 by omega];simp
 | q::X,m+1,j,hq,h=>by
  simp only [List.take_succ_cons,List.flatMap_cons,List.take_append]
  congr 1
  have:=hq q (by simp)
  exact Z5o f X m _ (fun x hx=>hq x (by simp [hx])) (by omega)
theorem V28 {α:Type}{a b:List α}(m:Nat)(h:m≤a.length):(a++b).take m=a.take m:=by rw [List.take_append_of_le_length h]
theorem V26 {l:List Q0}(hl:l≠[])(X:List (List Q0))(m:Nat)(hm:1≤m):(tupD (X.take m) (l.take m)).take m=(tupD X l).take m:=by
 have hlen:1≤l.length:=by cases l<;>simp_all
 unfold tupD
 rw [Z5o _ X m m (fun q _=>by rw [U7,U6];omega) (Nat.le_refl m)]
 have e:(fun q:List Q0=>(l.take m).map fun c=>q++[c])=fun q=>(l.map fun c=>q++[c]).take m:=by funext q;rw [List.map_take]
 rw [e]
 exact Z84 _ X m m (Nat.le_refl m)
theorem W9c {α:Type}{X:List α}{v:List α}{y:α}(hv:v=X.take 401)(h:v.length≤400):v++[y]=(X++[y]).take 401:=by
 have hX:X.length≤400:=by rw [hv,U6] at h;omega
 rw [hv,List.take_of_length_le (show X.length≤401 by omega),List.take_of_length_le (by simp;omega)]
theorem X7j {α:Type}{X Y:List α}{v:List α}(hv:v=X.take 401)(h:¬v.length≤400):v=(X++Y).take 401:=by
 have hX:401≤X.length:=by rw [hv,U6] at h;omega
 rw [V28 401 hX,hv]
theorem W6s (ls:List (List Q0))(hp:∀ l∈ls,l≠[])(hk:ls.length≤3):Q55 (ls.map (·.take 401))=some ((ls.foldl tupD [[]]).take 401):=by
 suffices hr:Ret (Q55 (ls.map (·.take 401))) (fun r=>r=(ls.foldl tupD [[]]).take 401) by
  obtain ⟨r,e,rfl⟩:=hr
  exact e
 have kl:∀ k,∀ ks∈(ls.take k).foldl tupD [[]],ks.length≤k:=by
  have gen:∀ (ls:List (List Q0)) (out:List (List Q0)) (m:Nat),(∀ ks∈out,ks.length≤m)→∀ ks∈ls.foldl tupD out,ks.length≤m+ls.length:=by
   intro ls
   induction ls with
   | nil=>intro out m h ks hks;simpa using h ks hks
   | cons l ls ih2=>
    intro out m h ks hks
    rw [List.foldl_cons] at hks
    have:=ih2 (tupD out l) (m+1) (fun ks hk2=>by
     simp only [tupD,List.mem_flatMap,U11] at hk2
     obtain ⟨q2,hq2,c,_,rfl⟩:=hk2
     have:=h q2 hq2
     simp;omega) ks hks
    simp only [U3];omega
  intro k ks hks
  have:=gen _ [[]] 0 (by simp) ks hks
  rw [U6] at this
  omega
 unfold Q55
 refine Ret.ctl (Z4 (ls.map (·.take 401)) (fun k s=>s=((ls.take k).foldl tupD [[]]).take 401) (fun _=>False) (fun s=>s=(ls.foldl tupD [[]]).take 401) (by simp) (fun k l0 s hl0 hI=>?_) (fun s hI=>?_)) (fun r hr=>hr.elim) (fun s hs=>.some hs)
 ·rw [List.getElem?_map] at hl0
  obtain ⟨l,hl,rfl⟩:=U12.1 hl0
  have hne:=hp l (U1 hl)
  have hnx:(ls.take (k+1)).foldl tupD [[]]=tupD ((ls.take k).foldl tupD [[]]) l:=by rw [List.take_add_one,hl];simp
  have hkl:=(List.getElem?_eq_some_iff.1 hl).1
  rw [hnx]
  have kk:=kl k
  generalize (ls.take k).foldl tupD [[]]=X at *
  have hs:s.length≤401:=by rw [hI,U6];omega
  have hsk:∀ q∈s,q.length≤3:=fun q hq=>by
   rw [hI] at hq
   have:=kk q (List.mem_of_mem_take hq)
   omega
  have hl4:(l.take 401).length≤401:=by rw [U6];omega
  refine Ret.ctl (Z4 s (fun j v=>v=(tupD (s.take j) (l.take 401)).take 401) (fun _=>False) (fun v=>v=(tupD s (l.take 401)).take 401) (by simp [tupD]) (fun j q v hq hJ=>?_) (fun v hJ=>?_)) (fun r hr=>hr.elim) (fun v hv=>.some ?_)
  ·have hnj:tupD (s.take (j+1)) (l.take 401)=tupD (s.take j) (l.take 401)++(l.take 401).map (fun c=>q++[c]):=by rw [List.take_add_one,hq];simp [tupD]
   refine Ret.ite (fun hle=>?_) (fun hgt=>.some ?_)
   ·rw [W4] at hle
    refine Ret.ctl (Z4 (l.take 401) (fun i u=>u=(tupD (s.take j) (l.take 401)++((l.take 401).take i).map (fun c=>q++[c])).take 401) (fun _=>False) (fun u=>u=(tupD (s.take (j+1)) (l.take 401)).take 401) (by simpa using hJ) (fun i c u hc hK=>?_) (fun u hK=>?_)) (fun r hr=>hr.elim) (fun u hu=>.some hu)
    ·have hci:(l.take 401).take (i+1)=(l.take 401).take i++[c]:=by rw [List.take_add_one,hc];simp
     refine Ret.ite (fun hl2=>?_) (fun hg2=>.some ?_)
     ·rw [W4,Q5c] at hl2
      have hq3:=hsk q (U1 hq)
      rw [V5 (by simp only [Q9,U4];omega)]
      simp only [U0]
      rw [V5 (by simp only [Q9,U3,U4];omega)]
      simp only [U0]
      rw [V5 (by simp only [Q9,U3,U4];omega)]
      refine .some ?_
      simp only [Z20]
      rw [hci,List.map_append,←List.append_assoc]
      exact W9c hK (by omega)
     ·rw [Q0n,Q5c] at hg2
      simp only [X46]
      rw [hnj]
      have e:(l.take 401).map (fun c=>q++[c])=((l.take 401).take i).map (fun c=>q++[c])++((l.take 401).drop i).map (fun c=>q++[c]):=by rw [←List.map_append,List.take_append_drop]
      rw [e,←List.append_assoc]
      exact X7j hK (by omega)
    ·rw [hK,hnj,List.take_of_length_le (Nat.le_refl _)]
   ·rw [Q0n,Q5c] at hgt
    simp only [X46]
    have e:tupD s (l.take 401)=tupD (s.take j) (l.take 401)++tupD (s.drop j) (l.take 401):=by
     unfold tupD;rw [←List.flatMap_append,List.take_append_drop]
    rw [e]
    exact X7j hJ (by omega)
  ·rw [hJ,List.take_length]
  ·simp only [Z20]
   rw [hv,hI]
   exact V26 hne X 401 (by omega)
 ·rw [hI,U7,List.take_length]
theorem X69:∀ (d n:Nat) (p:Q0),orOk d p→d≤n→Q1q n p=some ((Z9 d p).take 401):=by
 intro d
 induction d with
 | zero=>intro n p h;exact h.elim
 | succ d ih=>
  intro n p h hn
  obtain ⟨n,rfl⟩:∃ k,n=k+1:=⟨n-1,by omega⟩
  obtain ⟨h1,h2,h3⟩:=h
  have hl4:∀ x,((Z9 d x).take 401).length≤401:=fun x=>by rw [U6];omega
  by_cases h5:p.op=5
  ·have e5:ieq p.op 5=true:=by simp [ieq,h5]
   unfold Q1q
   rw [if_pos e5]
   match hk:p.kids,h2 h5 with
   | [a,b],_=>
    rw [hk] at h3
    rw [show idx [a,b] 0=some a from rfl,show idx [a,b] 1=some b from rfl]
    simp only [U0]
    rw [ih n a (h3 a (by simp)) (by omega),ih n b (h3 b (by simp)) (by omega)]
    simp only [U0]
    have ha:=hl4 a
    have hb:=hl4 b
    rw [V5 (by simp only [Q9];omega)]
    have hs:Z9 (d+1) p=Z9 d a++Z9 d b:=by simp [Z9,h5,hk]
    have key:((Z9 d a).take 401++(Z9 d b).take 401).take 401=(Z9 (d+1) p).take 401:=by
     rw [hs,List.take_append,List.take_append,List.take_take,U6]
     simp only [Nat.min_self]
     congr 1
     rcases Nat.le_total (Z9 d a).length 401 with q | q
     ·rw [Nat.min_eq_right q,List.take_take,Nat.min_eq_left (by omega)]
     ·rw [Nat.min_eq_left q,show 401-401=0 from rfl,show 401-(Z9 d a).length=0 by omega];simp
    simp only [U0]
    by_cases hgt:ilt 401 (lenZ ((Z9 d a).take 401++(Z9 d b).take 401).length)=true
    ·rw [if_pos hgt]
     rw [Z5,Q5c] at hgt
     have ht:Z06 ((Z9 d a).take 401++(Z9 d b).take 401) 401=some (((Z9 d a).take 401++(Z9 d b).take 401).take 401):=by
      unfold Z06;rw [if_pos ⟨by omega,by omega⟩];rfl
     rw [ht,key];rfl
    ·rw [if_neg hgt,←key]
     simp only [Bool.not_eq_true] at hgt
     rw [J8,Q5c] at hgt
     rw [List.take_of_length_le (i:=401) (l:=(Z9 d a).take 401++(Z9 d b).take 401) (by omega)]
  ·have e5:¬ieq p.op 5=true:=by simp [ieq,h5]
   suffices hr:Ret (Q1q (n+1) p) (fun r=>r=(Z9 (d+1) p).take 401) by
    obtain ⟨r,e,rfl⟩:=hr
    exact e
   unfold Q1q
   rw [if_neg e5]
   refine Ret.ctl (Z4 p.kids (fun k s=>s=((p.kids.take k).map (Z9 d)).map (·.take 401)) (fun _=>False) (fun s=>s=(p.kids.map (Z9 d)).map (·.take 401)) (by simp) (fun k q s hq hI=>?_) (fun s hI=>?_)) (fun r hr=>hr.elim) (fun s hs=>?_)
   ·rw [ih n q (h3 q (U1 hq)) (by omega)]
    simp only [U0]
    have hkl:=(List.getElem?_eq_some_iff.1 hq).1
    rw [V5 (by rw [hI];simp only [Q9,U3,U4,U7,U6];omega)]
    have hk1:p.kids.take (k+1)=p.kids.take k++[q]:=by rw [List.take_add_one,hq];rfl
    exact .some (by simp only [Z20];rw [hI,hk1];simp)
   ·rw [hI,List.take_length]
   ·subst hs
    dsimp only
    rw [W6s _ (fun l hl=>by
     obtain ⟨q,hq,rfl⟩:=U11.1 hl
     have:=Z37 d q (h3 q hq)
     intro e;rw [e] at this;simp at this) (by simpa using h1)]
    simp only [U0]
    have hlen:(((p.kids.map (Z9 d)).foldl tupD [[]]).take 401).length≤401:=by rw [U6];omega
    have hB:(Z9 (d+1) p).take 401=(((p.kids.map (Z9 d)).foldl tupD [[]]).take 401).map (Z0v p):=by simp only [Z9,if_neg h5,List.map_take]
    rw [hB]
    generalize ((p.kids.map (Z9 d)).foldl tupD [[]]).take 401=X at hlen
    refine Ret.ctl (Z4 X (fun k u=>u=(X.take k).map (Z0v p)) (fun _=>False) (fun u=>u=X.map (Z0v p)) (by simp) (fun k q u hq hJ=>?_) (fun u hJ=>?_)) (fun r hr=>hr.elim) (fun u hu=>.some hu)
    ·have hkl:=(List.getElem?_eq_some_iff.1 hq).1
     rw [V5 (by rw [hJ];simp only [Q9,U3,U4,U7,U6];omega)]
     have hk1:X.take (k+1)=X.take k++[q]:=by rw [List.take_add_one,hq];rfl
     exact .some (by simp only [Z20];rw [hJ,hk1];simp [Z0v])
    ·rw [hJ,List.take_length]
theorem X00:∀ (d n:Nat) (p:Q0),W5k d p→d≤n→cntP p≤1000→Y2 n p=some (Q0i d p)
 | 0,_,_,h,_,_=>h.elim
 | d+1,n,p,h,hn,hc=>by
  obtain ⟨n,rfl⟩:∃ m,n=m+1:=⟨n-1,by omega⟩
  have hcp:=Q46 p
  have hkid:∀ q∈p.kids,Y2 n q=some (Q0i d q):=fun q hq=>by
   obtain ⟨j,hj⟩:=List.mem_iff_getElem?.1 hq
   have:=Q9e hj
   exact X00 d n q (h q hq) (by omega) (by omega)
  have hlen:p.kids.length≤1000:=by
   have:∀ l:List Q0,l.length≤cntP.cntPs l:=fun l=>by
    induction l with
    | nil=>simp
    | cons a l ih=>have:=Q9u a;simp only [U3,cntP.cntPs];omega
   have:=this p.kids
   omega
  have hloop:=Q63 (ρ:=Q0) (f:=fun (k102:Nat) x103 (s96:(List Q0))=>((Y2 n x103).bind fun r110=>((app s96 [r110]).bind fun x111=>some (Ctl.go x111)))) (fun q=>[Q0i d q]) 100000 p.kids 0 [] (fun k q hq s hs=>by
   rw [hkid q hq]
   simp only [U0]
   simp only [U3,U4] at hs
   rw [V5 (by simp only [U3,U4,Q9];omega)]
   rfl) (by
    have:∀ l:List Q0,(l.flatMap fun q=>[Q0i d q]).length=l.length:=fun l=>by induction l with | nil=>rfl | cons a l ih=>simp [ih]
    rw [this];simp only [U4];omega)
  have hfl:∀ l:List Q0,(l.flatMap fun q=>[Q0i d q])=l.map (Q0i d):=fun l=>by induction l with | nil=>rfl | cons a l ih=>simp [ih]
  rw [hfl] at hloop
  by_cases h2:p.op=2
  ·have e:ieq p.op 2=true:=by rw [Q8];exact h2
   have hb:Q0i (d+1) p=Q0.mk 1 0 0 0 0 []:=by simp [Q0i,h2]
   rw [hb]
   simp only [Y2,e,if_true,U0]
  ·have e:ieq p.op 2=false:=by rw [Z2];exact h2
   by_cases h6:p.op=6
   ·have e6:ieq p.op 6=true:=by rw [Q8];exact h6
    cases hk:p.kids with
    | nil=>
     have e0:ilt 0 (lenZ p.kids.length)=false:=by rw [J8,hk,Q5c];simp
     rw [hk] at hloop
     simp only [Y2,e,e6,e0,U2,if_false,if_true,U0,Q0i,h2,hk]
     have e':=congrArg (fun z:Option (Ctl Q0 (List Q0))=>z.bind fun o=>match o with | .ret r=>some r | .go _=>none | .brk s=>some (Q0.mk p.op p.ctor p.n p.m p.var s)) hloop
     refine e'.trans ?_
     simp
    | cons q ks=>
     have e0:ilt 0 (lenZ p.kids.length)=true:=by rw [Z5,hk,Q5c];simp
     have hq:=hkid q (by simp [hk])
     have hix:idx p.kids 0=some q:=Q00 (i:=0) (by simp [hk])
     have hb:Q0i (d+1) p=Q0i d q:=by simp [Q0i,h6,hk]
     rw [hb]
     simp only [Y2,e,e6,e0,U2,if_false,if_true,hix,U0,hq]
   ·have e6:ieq p.op 6=false:=by rw [Z2];exact h6
    simp only [Y2,e,e6,U2,if_false,U0,Q0i,h2,h6,false_and]
    have e':=congrArg (fun z:Option (Ctl Q0 (List Q0))=>z.bind fun o=>match o with | .ret r=>some r | .go _=>none | .brk s=>some (Q0.mk p.op p.ctor p.n p.m p.var s)) hloop
    refine e'.trans ?_
    simp
theorem X6c {w:List Q4}(hw:WW w){n:Nat}{t:Q2}{p:Q0}(ht:t∈tys w)(g:Q0r w 10 t p=true)(hc:cntP p≤1000)(hn:100≤n):Q65 n p=some ((Z9 10 (Q0i 10 p)).take 401):=by
 have ha:=Z13 Z6p 10 t p g
 have ho:=Z6v hw 10 t _ ht ha
 unfold Q65
 rw [X00 10 n p (Z6d 10 t p g) (by omega) hc]
 simp only [U0]
 rw [X69 10 n _ ho (by omega)]
 rfl
theorem X6h {w:List Q4}(hw:WW w){t:Q2}(ht:t∈tys w){cs:List Z6}{k:Nat}(hk:k≤cs.length)(h:∀ c∈cs,Q0r w 10 t c.pat=true∧cntP c.pat≤1000)(hl:cs.length≤1000):Q7d NN cs (k:Int)=some (optR (Q3m (cs.take k))):=by
 have hlp:∀ (rest:List Z6) (i n:Nat) (s:List Q0),(cs.take k).drop i=rest→i≤k→rest.length+1≤n→s.length+40 * rest.length≤100000→
   whileL (fun (s138:(List Q0)×Int)=>
   (if (ilt s138.2 (k:Int))=true then
   ((((idx cs s138.2).bind fun x166=>
   (if (!ieq x166.guard.op 0)=true then
   some (Ctl.brk s138.1)
   else
   ((Q65 NN x166.pat).bind fun r168=>
   (if (ilt 40 (lenZ r168.length))=true then
   some (Ctl.ret (Ctl.ret (([],false))))
   else
   ((app s138.1 r168).bind fun x171=>
   some (Ctl.brk x171))))))).bind fun (o161:Ctl (Ctl (List Q0×Bool) ((List Q0)×Int)) ((List Q0)))=>match o161 with
   | .ret r=>some r
   | .go _=>none
   | .brk s160=>
   some (Ctl.go (s160,wadd .i64 s138.2 1)))
   else
   some (Ctl.brk (s138.1,s138.2)))) n (s,(i:Int))=some (match Q3m rest with | some r=>.brk (s++r,(k:Int)) | none=>.ret ([],false)):=by
  intro rest
  induction rest with
  | nil=>
   intro i n s h0 hi hn hs
   have hge:k≤i:=by
    have:=congrArg List.length h0
    simp only [List.length_drop,U6,U4] at this
    omega
   have:i=k:=by omega
   subst this
   obtain ⟨n,rfl⟩:∃ m,n=m+1:=⟨n-1,by simp only [U4] at hn;omega⟩
   have e:ilt (i:Int) (i:Int)=false:=by rw [J8];omega
   simp [whileL,e,Q3m]
  | cons c rest ih=>
   intro i n s h0 hi hn hs
   obtain ⟨c1,c2⟩:=Q52 h0
   have hik:i<k:=by
    have:=(List.getElem?_eq_some_iff.1 c1).1
    simp only [U6] at this
    omega
   have c3:cs[i]?=some c:=by
    rw [List.getElem?_take] at c1
    rw [if_pos hik] at c1
    exact c1
   simp only [U3] at hn hs
   obtain ⟨n,rfl⟩:∃ m,n=m+1:=⟨n-1,by omega⟩
   obtain ⟨g,hc⟩:=h c (U1 c3)
   have e:ilt (i:Int) (k:Int)=true:=by rw [Z5];omega
   have hw1:wadd .i64 (i:Int) 1=((i+1:Nat):Int):=by rw [J9]<;>omega
   unfold whileL
   simp only [e,if_true,Q00 c3,U0,hw1]
   by_cases hg:c.guard.op=0
   ·have e0:(!ieq c.guard.op 0)=false:=by simp [ieq,hg]
    simp only [e0,U2,if_false]
    rw [X6c hw ht g hc (by simp only [NN];omega)]
    simp only [U0,Q3m,if_pos hg,Z3i]
    by_cases hlen:40<(Z9 10 (Q0i 10 c.pat)).length
    ·have e4:ilt 40 (lenZ ((Z9 10 (Q0i 10 c.pat)).take 401).length)=true:=by rw [Z5,Q5c];simp only [U6];omega
     simp only [e4,if_true,if_pos hlen,U0,Option.bind_none]
    ·have e5:(Z9 10 (Q0i 10 c.pat)).take 401=Z9 10 (Q0i 10 c.pat):=List.take_of_length_le (by omega)
     have e4:ilt 40 (lenZ ((Z9 10 (Q0i 10 c.pat))).length)=false:=by rw [J8,Q5c];omega
     rw [e5]
     simp only [e4,U2,if_false,if_neg hlen,U0]
     rw [V5 (by simp only [Q9];omega)]
     simp only [U0]
     rw [ih (i+1) n (s++Z9 10 (Q0i 10 c.pat)) c2 (by omega) (by omega) (by simp only [U5];omega)]
     cases Q3m rest with
     | none=>simp
     | some r=>simp
   ·have e0:(!ieq c.guard.op 0)=true:=by simp [ieq,hg]
    simp only [e0,if_true,U0,Q3m,if_neg hg]
    exact ih (i+1) n s c2 (by omega) (by omega) (by omega)
 have e:=hlp (cs.take k) 0 NN [] rfl (by omega) (by simp only [U6,NN];omega) (by simp only [U4,U6];omega)
 unfold Q7d
 have e':=congrArg (fun z:Option (Ctl ((List Q0)×Bool) ((List Q0)×Int))=>z.bind fun o=>match o with | .ret r=>some r | .go _=>none | .brk s=>some (s.1,true)) e
 refine e'.trans ?_
 cases Q3m (cs.take k)<;>simp [optR]
theorem W3m {w:List Q4}{t:Q2}{n:Nat}(hn:10≤n):∀ {l:List Q0},(∀ p∈l,Q4j w t p=true)→l.length≤100000→Q5i n l=some l:=fun {l} h hl=>by
 unfold Q5i
 have hloop:=Q63 (ρ:=List Q0) (f:=fun (k70:Nat) x71 (s64:(List Q0))=>((Q4l n x71).bind fun r78=>((app s64 [r78]).bind fun x79=>some (Ctl.go x79)))) (fun q=>[q]) 1000000 l 0 [] (fun k q hq s hs=>by
  obtain ⟨g,hc,_⟩:=Q15 (h q hq)
  rw [X9a 10 n q (Z6d 10 t q g) hn (by omega)]
  simp only [U0]
  simp only [U3,U4] at hs
  rw [V5 (by simp only [U3,U4,Q9];omega)]
  rfl) (by
   have:∀ l:List Q0,(l.flatMap fun q=>[q]).length=l.length:=fun l=>by induction l with | nil=>rfl | cons a l ih=>simp [ih]
   rw [this];simp only [U4];omega)
 have hfl:∀ l:List Q0,(l.flatMap fun q=>[q])=l:=fun l=>by induction l with | nil=>rfl | cons a l ih=>simp [ih]
 rw [hfl] at hloop
 have e':=congrArg (fun z:Option (Ctl (List Q0) (List Q0))=>z.bind fun o=>match o with | .ret r=>some r | .go _=>none | .brk s=>some s) hloop
 exact e'.trans (by simp)
theorem X6b {w:List Q4}(hw:WW w){n:Nat}(hn:100≤n){t:Q2}(ht:t∈tys w)(o:Option (List Q0))(ho:∀ l,o=some l→l.length≤100000) :
  Q7e n w t (optR o).1 (optR o).2=some (optR (Z50 w t o)):=by
 have hlp:∀ (l:List Q0) (k:Nat),forL (ρ:=(List Q0)×Bool) (fun k68 x69 (s62:Unit)=>
   ((Q7t n w t x69).bind fun r76=>
   (if (!r76)=true then
   some (Ctl.ret (([],false)))
   else
   some (Ctl.go ())))) k l ()=some (if l.all (Q4j w t)=true then .brk () else .ret ([],false)):=by
  intro l
  induction l with
  | nil=>intro k;simp [forL]
  | cons a l ih=>
   intro k
   unfold forL
   rw [X6e hw hn t a ht]
   simp only [U0,List.all_cons]
   rcases Bool.eq_false_or_eq_true (Q4j w t a) with hv | hv
   ·simp only [hv,Bool.not_true,U2,if_false,Bool.true_and]
    exact ih (k+1)
   ·simp [hv]
 unfold Q7e
 cases o with
 | none=>
  have hnil:Q5i n []=some []:=by simp [Q5i,forL]
  simp [optR,Z50,forL,hnil]
 | some l=>
  simp only [optR,Z50]
  have e':=congrArg (fun z:Option (Ctl (List Q0×Bool) Unit)=>z.bind fun o=>match o with | .ret r=>some r | .go _=>none | .brk _=>(Q5i n l).bind fun r=>some (r,true)) (hlp l 0)
  refine e'.trans ?_
  by_cases h:l.all (Q4j w t)=true
  ·simp only [if_pos h,U0]
   rw [W3m (by omega) (fun p hp=>List.all_eq_true.1 h p hp) (ho l rfl)]
   rfl
  ·simp only [if_neg h,U0,optR]
def X2d (w:List Q4)(t:Q2)(cs:List Z6):Option (List Q0):=
 if Q6g w t cs=true then (Q3m cs).bind fun l=>Z50 w t (Q7m w 10 11 t [Q0.mk 1 0 0 0 0 []] l) else none
theorem Z1t {w:List Q4}{t:Q2} : ∀ {cs:List Z6} {l:List Q0},(∀ c∈cs,Q0r w 10 t c.pat=true)→Q3m cs=some l→∀ b∈l,J6 w 10 t b
 | [],l,_,e=>by simp only [Q3m,Option.some.injEq] at e;subst e;simp
 | c::cs,l,h,e=>by
  simp only [Q3m] at e
  split at e
  ·cases hp:Z3i c.pat with
   | none=>rw [hp] at e;simp at e
   | some m=>
    rw [hp] at e
    cases hc:Q3m cs with
    | none=>rw [hc] at e;simp at e
    | some r=>
     rw [hc] at e
     simp only [U0,Option.map_some,Option.some.injEq] at e
     subst e
     intro b hb
     rcases U9.1 hb with hb | hb
     ·rw [(Z60 hp).2] at hb
      exact Z4d 10 t _ (Z13 Z6p 10 t c.pat (h c (by simp))) b hb
     ·exact Z1t (fun c hc=>h c (by simp [hc])) hc b hb
  ·exact Z1t (fun c hc=>h c (by simp [hc])) e
theorem X5e:∀ (d:Nat) (p:Q0),cntP (Q0i d p)≤cntP p
 | 0,p=>by simp [Q0i]
 | d+1,p=>by
  have hp:=Q46 p
  simp only [Q0i]
  split
  ·simp only [cntP,cntP.cntPs];omega
  ·split
   ·rename_i h
    cases hk:p.kids with
    | nil=>exact absurd hk h.2
    | cons q ks=>
     have:=X5e d q
     rw [hk] at hp
     simp only [cntP.cntPs] at hp
     simp only [List.headD_cons]
     omega
   ·have:∀ l:List Q0,cntP.cntPs (l.map (Q0i d))≤cntP.cntPs l:=fun l=>by
     induction l with
     | nil=>simp
     | cons a l ih=>have:=X5e d a;simp only [List.map_cons,cntP.cntPs];omega
    have:=this p.kids
    rw [Q46]
    simp only
    omega
theorem Z9p:∀ (d:Nat) (p:Q0),∀ q∈Z9 d p,cntP q≤cntP p
 | 0,_,_,h=>by simp [Z9] at h
 | d+1,p,q,h=>by
  have hp:=Q46 p
  simp only [Z9] at h
  split at h
  ·obtain ⟨k,hk,hq⟩:=List.mem_flatMap.1 h
   have h1:=Z9p d k q hq
   obtain ⟨j,hj⟩:=List.mem_iff_getElem?.1 hk
   have:=Q9e hj
   omega
  ·obtain ⟨cs,hcs,rfl⟩:=U11.1 h
   have hm:=Z63.1 hcs
   have:∀ (ks cs:List Q0),MemL cs (ks.map (Z9 d))→cntP.cntPs cs≤cntP.cntPs ks:=fun ks=>by
    induction ks with
    | nil=>intro cs h;have:=h.1;simp at this;subst this;simp
    | cons k ks ih=>
     intro cs h
     cases cs with
     | nil=>have:=h.1;simp at this
     | cons c cs=>
      rw [List.map_cons,Z3o] at h
      have h1:=Z9p d k c h.1
      have h2:=ih cs h.2
      simp only [cntP.cntPs]
      omega
   have:=this p.kids cs hm
   rw [Q46]
   simp only [Z0v]
   omega
theorem W7k {p:Q0}{l:List Q0}(h:Z3i p=some l):∀ q∈l,cntP q≤cntP p:=fun q hq=>by
 rw [(Z60 h).2] at hq
 exact Nat.le_trans (Z9p 10 _ q hq) (X5e 10 p)
theorem Z6q {m:Nat} : ∀ {cs:List Z6} {l:List Q0},(∀ c∈cs,cntP c.pat≤m)→Q3m cs=some l→∀ b∈l,cntP b≤m
 | [],l,_,e=>by simp only [Q3m,Option.some.injEq] at e;subst e;simp
 | c::cs,l,h,e=>by
  simp only [Q3m] at e
  split at e
  ·cases hp:Z3i c.pat with
   | none=>rw [hp] at e;simp at e
   | some m=>
    rw [hp] at e
    cases hc:Q3m cs with
    | none=>rw [hc] at e;simp at e
    | some r=>
     rw [hc] at e
     simp only [U0,Option.map_some,Option.some.injEq] at e
     subst e
     intro b hb
     rcases U9.1 hb with hb | hb
     ·exact Nat.le_trans (W7k hp b hb) (h c (by simp))
     ·exact Z6q (fun c hc=>h c (by simp [hc])) hc b hb
  ·exact Z6q (fun c hc=>h c (by simp [hc])) e
theorem Z47 {w:List Q4}{t:Q2}{cs:List Z6}(h:Q6g w t cs=true):cs.length≤8∧∀ c∈cs,Q4j w t c.pat=true∧Q0r w 10 t c.pat=true∧cntP c.pat≤60:=by
 simp only [Q6g,Bool.and_eq_true,decide_eq_true_eq,List.all_eq_true] at h
 refine ⟨h.1,fun c hc=>?_⟩
 have:=h.2 c hc
 simp only [Q8v,Bool.and_eq_true] at this
 obtain ⟨g1,g2,_⟩:=Q15 this.1
 exact ⟨this.1,g1,g2⟩
theorem W37 {w:List Q4}{d x:Nat}{t:Q2} : ∀ (bs l r:List Q0),l.length≤1000→Q9w w d x t l bs=some r→r.length≤1000
 | [],l,r,h,e=>by simp only [Q9w,Option.some.injEq] at e;subst e;exact h
 | b::bs,l,r,h,e=>by
  simp only [Q9w] at e
  split at e
  ·cases e
  ·exact W37 bs _ r (by omega) e
theorem Z82 {w:List Q4}{d x:Nat}{t:Q2}{l bs r:List Q0}(h:l.length≤1000)(e:Q7m w d x t l bs=some r):r.length≤1000:=
 W37 bs _ r (by have:=X4h w x t l;omega) e
theorem X2i {w:List Q4}(hww:w∈Q0j)(hw:WW w)(he:WE w){t:Q2}(ht:t∈tys w)(cs:List Z6):Q2c NN w t cs=some (optR (X2d w t cs)):=by
 unfold Q2c X2d
 rw [Z54 hw ht]
 simp only [U0]
 by_cases h:Q6g w t cs=true
 ·obtain ⟨h8,hc⟩:=Z47 h
  simp only [h,Bool.not_true,U2,if_false,if_true]
  rw [X7b hw ht (by simp only [NN];omega) cs (fun c m=>⟨(hc c m).2.1,by have:=(hc c m).2.2;omega⟩) (by omega)]
  simp only [U0]
  cases hl:Q3m cs with
  | none=>simp [optR]
  | some l=>
   have hp:=Z1t (fun c m=>(hc c m).2.1) hl
   have hcnt:=Z6q (m:=60) (fun c m=>(hc c m).2.2) hl
   simp only [optR,Bool.not_true,U2,if_false,U0]
   rw [(wl hww).dim]
   have hany:Q1k=some (Q0.mk 1 0 0 0 0 []):=rfl
   simp only [U0,hany]
   rw [X2h hww hw he (d:=10) (x:=11) ht (by omega) (by omega) (fun b hb=>⟨hp b hb,by have:=hcnt b hb;omega⟩) (fun a ha=>by simp only [List.mem_singleton] at ha;subst ha;exact Z24 w 10 t) (by simp) (by simp only [NN];omega)]
   simp only [U0]
   rw [X4j hw (by simp only [NN];omega) ht _ (fun r hr=>by have:=Z82 (by simp) hr;omega)]
   cases Z50 w t (Q7m w 10 11 t [Q0.mk 1 0 0 0 0 []] l)<;>rfl
 ·simp [h,optR]
theorem X2b {w:List Q4}(hww:w∈Q0j)(hw:WW w)(he:WE w){t:Q2}(ht:t∈tys w)(cs:List Z6):Q2a NN w t cs=some (optR (X2d w t cs)):=by
 unfold Q2a X2d
 rw [Z4x hw ht]
 simp only [U0]
 by_cases h:Q6g w t cs=true
 ·obtain ⟨h8,hc⟩:=Z47 h
  have hany:Q82=some (Q0.mk 1 0 0 0 0 []):=rfl
  simp only [h,Bool.not_true,U2,if_false,if_true,hany,U0]
  unfold Q9m
  have hcov:=X6h hw ht (cs:=cs) (k:=cs.length) (by omega) (fun c m=>⟨(hc c m).2.1,by have:=(hc c m).2.2;omega⟩) (by omega)
  rw [List.take_length] at hcov
  rw [Q5c,hcov]
  simp only [U0]
  cases hl:Q3m cs with
  | none=>simp [optR]
  | some l=>
   have hp:=Z1t (fun c m=>(hc c m).2.1) hl
   have hcnt:=Z6q (m:=60) (fun c m=>(hc c m).2.2) hl
   simp only [optR,Bool.not_true,U2,if_false,U0]
   rw [hw.tab]
   simp only [U0]
   rw [Z9t hw he (d:=10) (x:=11) ht (by omega) (by omega) (fun b hb=>⟨hp b hb,by have:=hcnt b hb;omega⟩) (fun a ha=>by simp only [List.mem_singleton] at ha;subst ha;exact Z24 w 10 t) (by simp) (by simp only [NN];omega)]
   simp only [U0]
   rw [X6b hw (by simp only [NN];omega) ht _ (fun r hr=>by have:=Z82 (by simp) hr;omega)]
   cases Z50 w t (Q7m w 10 11 t [Q0.mk 1 0 0 0 0 []] l)<;>rfl
 ·simp [h,optR]
theorem X1o {w:List Q4}{e:Nat}{t:Q2}{v:Q1}(hv:Q2f w e t v):∀ {cs:List Z6} {l:List Q0},(∀ c∈cs,Q0r w 10 t c.pat=true)→Q3m cs=some l→
  ((∃ b∈l,fitP b v=true)↔∃ c∈cs,c.guard.op=0∧(X7 10 c.pat v).isSome=true)
 | [],l,_,e1=>by simp only [Q3m,Option.some.injEq] at e1;subst e1;simp
 | c::cs,l,h,e1=>by
  simp only [Q3m] at e1
  split at e1
  ·rename_i h0
   cases hp:Z3i c.pat with
   | none=>rw [hp] at e1;simp at e1
   | some m=>
    rw [hp] at e1
    cases hc:Q3m cs with
    | none=>rw [hc] at e1;simp at e1
    | some r=>
     rw [hc] at e1
     simp only [U0,Option.map_some,Option.some.injEq] at e1
     subst e1
     have ih:=X1o hv (fun c hc=>h c (by simp [hc])) hc
     have h1:=Z3q Z6p 10 e t c.pat v (h c (by simp)) hv
     rw [←(Z60 hp).2] at h1
     constructor
     ·rintro ⟨b,hb,g⟩
      rcases U9.1 hb with hb | hb
      ·exact ⟨c,by simp,h0,h1.2 ⟨b,hb,g⟩⟩
      ·obtain ⟨c',m1,m2⟩:=ih.1 ⟨b,hb,g⟩
       exact ⟨c',by simp [m1],m2⟩
     ·rintro ⟨c',hc',g0,g⟩
      rcases U8.1 hc' with rfl | hc'
      ·obtain ⟨b,hb,g⟩:=h1.1 g
       exact ⟨b,by simp [hb],g⟩
      ·obtain ⟨b,hb,g⟩:=ih.2 ⟨c',hc',g0,g⟩
       exact ⟨b,by simp [hb],g⟩
  ·rename_i h0
   have ih:=X1o hv (fun c hc=>h c (by simp [hc])) e1
   rw [ih]
   constructor
   ·rintro ⟨c',m1,m2⟩;exact ⟨c',by simp [m1],m2⟩
   ·rintro ⟨c',hc',g0,g⟩
    rcases U8.1 hc' with rfl | hc'
    ·exact absurd g0 h0
    ·exact ⟨c',hc',g0,g⟩
theorem V2r {w:List Q4}(hw:WW w)(he:WE w){e:Nat}{t:Q2}(ht:t∈tys w){v:Q1}(hv:Q2f w e t v){cs:List Z6}{r:List Q0}(hr:X2d w t cs=some r) :
  (∃ y∈r,fitP y v=true)↔∀ c∈cs,c.guard.op=0→X7 10 c.pat v=none:=by
 unfold X2d at hr
 split at hr
 ·rename_i h
  obtain ⟨h8,hc⟩:=Z47 h
  cases hl:Q3m cs with
  | none=>rw [hl] at hr;cases hr
  | some l=>
   rw [hl] at hr
   simp only [U0] at hr
   have hp:=Z1t (fun c m=>(hc c m).2.1) hl
   cases hwd:Q7m w 10 11 t [Q0.mk 1 0 0 0 0 []] l with
   | none=>rw [hwd] at hr;cases hr
   | some q=>
    rw [hwd] at hr
    simp only [Z50] at hr
    split at hr
    ·cases hr
     rw [X8x hw he ht (by omega) hv hp (fun a ha=>by simp only [List.mem_singleton] at ha;subst ha;exact Z24 w 10 t) hwd]
     have hf:=X1o hv (fun c m=>(hc c m).2.1) hl
     constructor
     ·rintro ⟨_,g⟩ c m g0
      cases hm:X7 10 c.pat v with
      | none=>rfl
      | some b=>
       obtain ⟨b,hb,g'⟩:=hf.2 ⟨c,m,g0,by simp [hm]⟩
       rw [g b hb] at g'
       cases g'
     ·intro g
      refine ⟨⟨_,List.mem_singleton_self _,Z1g rfl v⟩,fun b hb=>?_⟩
      cases hfb:fitP b v with
      | false=>rfl
      | true=>
       obtain ⟨c,m,g0,g'⟩:=hf.1 ⟨b,hb,hfb⟩
       rw [g c m g0] at g'
       cases g'
    ·cases hr
 ·cases hr
def exD (w:List Q4)(t:Q2)(cs:List Z6):Bool×Bool:=match X2d w t cs with
 | none=>(false,false)
 | some r=>(decide (r.length=0),true)
theorem V83 {w:List Q4}(hww:w∈Q0j){t:Q2}(ht:t∈tys w)(cs:List Z6):Q3t NN w t cs=some (exD w t cs):=by
 unfold Q3t exD
 rw [X2i hww (ww hww) (we hww) ht cs]
 cases X2d w t cs with
 | none=>rfl
 | some r=>
  simp only [U0,optR,if_true,len0]
theorem V7f {w:List Q4}(hww:w∈Q0j){t:Q2}(ht:t∈tys w)(cs:List Z6):Q3n NN w t cs=some (exD w t cs):=by
 unfold Q3n exD
 rw [X2b hww (ww hww) (we hww) ht cs]
 cases X2d w t cs with
 | none=>rfl
 | some r=>
  simp only [U0,optR,if_true,len0]
theorem V8m {w:List Q4}(hww:w∈Q0j){t:Q2}(ht:t∈tys w){cs:List Z6}(h:(exD w t cs).1=true){e:Nat}{v:Q1}(hv:Q2f w e t v)(k:Nat):(runD v k cs).isSome=true:=by
 unfold exD at h
 cases hm:X2d w t cs with
 | none=>rw [hm] at h;cases h
 | some r=>
  rw [hm] at h
  simp only [decide_eq_true_eq] at h
  have h1:=V2r (ww hww) (we hww) ht hv hm
  rw [List.eq_nil_of_length_eq_zero h] at h1
  have h2:¬∀ c∈cs,c.guard.op=0→X7 10 c.pat v=none:=fun h3=>by
   obtain ⟨y,hy,_⟩:=h1.2 h3
   cases hy
  have h4:∃ c∈cs,c.guard.op=0∧(X7 10 c.pat v).isSome=true:=by
   refine Classical.byContradiction fun hn=>h2 fun c hc h0=>?_
   cases hmc:X7 10 c.pat v with
   | none=>rfl
   | some b=>exact absurd ⟨c,hc,h0,by rw [hmc];rfl⟩ hn
  obtain ⟨c,hc,h0,h5⟩:=h4
  exact W7a hc h0 h5
theorem W1i (F:List GFun)(ex:GFun→Bool×Bool)(f:GFun→Option (Bool×Bool))(hf:∀ x∈F,f x=some (ex x)) :
  Ret (forL (fun (k103:Nat) (x104:GFun) (s97:Bool)=>
   ((((f x104).bind fun r117=>
   (if (!r117.2)=true then
   some (Ctl.ret (Ctl.ret ((false,false))))
   else
   (if s97=true then
   some (Ctl.brk r117.1)
   else
   some (Ctl.brk false))))).bind fun (o114:Ctl (Ctl (Bool×Bool) Bool) (Bool))=>match o114 with
   | .ret r=>some r
   | .go _=>none
   | .brk s113=>
   some (Ctl.go s113))) 0 F true) (CtlQ (fun r=>r=(false,false)∧(F.all fun g=>(ex g).2)=false) (fun s=>(F.all fun g=>(ex g).2)=true∧s=F.all fun g=>(ex g).1)):=by
 refine Z4 F (fun k s=>((F.take k).all fun g=>(ex g).2)=true∧s=(F.take k).all fun g=>(ex g).1) _ _ (by simp) (fun k x s hx hI=>?_) (fun s hI=>by rw [List.take_length] at hI;exact hI)
 obtain ⟨h1,h2⟩:=hI
 rw [hf x (U1 hx)]
 simp only [U0]
 cases h3:(ex x).2 with
 | false=>
  refine .some ⟨rfl,?_⟩
  rw [List.all_eq_false]
  exact ⟨x,U1 hx,by rw [h3];simp⟩
 | true=>
  have e1:(F.take (k+1)).all (fun g=>(ex g).2)=true:=by
   rw [List.take_add_one,hx,List.all_append,h1]
   simp [h3]
  have e2:(F.take (k+1)).all (fun g=>(ex g).1)=(s&&(ex x).1):=by
   rw [List.take_add_one,hx,List.all_append,h2]
   simp
  cases s with
  | true=>exact .some ⟨e1,by rw [e2];simp⟩
  | false=>exact .some ⟨e1,by rw [e2];simp⟩
def exF (w:List Q4)(g:GFun):Bool×Bool:=exD w g.typ.arg g.clauses
def totB (w:List Q4)(F:List GFun):Bool×Bool:=if Z0m w F=true then (if (F.all fun g=>(exF w g).2)=true then (F.all fun g=>(exF w g).1,true) else (false,false)) else (false,false)
theorem W40 {w:List Q4}(hww:w∈Q0j){F:List GFun}(hF:F.length≤1000):Q4i NN w F=some (totB w F):=by
 suffices hs:Ret (Q4i NN w F) (fun r=>r=totB w F) by
  obtain ⟨a,e,rfl⟩:=hs
  exact e
 unfold Q4i totB
 rw [Z2h (ww hww) hF]
 simp only [U0]
 cases h1:Z0m w F with
 | false=>exact .some rfl
 | true=>
  have hk:=Q6t h1
  rw [if_neg (by simp),if_pos rfl]
  refine Ret.ctl (W1i F (exF w) (fun x=>Q3t NN w x.typ.arg x.clauses) (fun x hx=>V83 hww (hk.2 x hx).arg x.clauses)) (fun r hr=>?_) (fun s hs=>?_)
  ·obtain ⟨rfl,h2⟩:=hr
   rw [h2]
   exact .some rfl
  ·obtain ⟨h2,rfl⟩:=hs
   rw [h2]
   exact .some rfl
theorem W3i {w:List Q4}(hww:w∈Q0j){F:List GFun}(hF:F.length≤1000):Q4h NN w F=some (totB w F):=by
 suffices hs:Ret (Q4h NN w F) (fun r=>r=totB w F) by
  obtain ⟨a,e,rfl⟩:=hs
  exact e
 unfold Q4h totB
 rw [Z0x (ww hww) hF]
 simp only [U0]
 cases h1:Z0m w F with
 | false=>exact .some rfl
 | true=>
  have hk:=Q6t h1
  rw [if_neg (by simp),if_pos rfl]
  refine Ret.ctl (W1i F (exF w) (fun x=>Q3n NN w x.typ.arg x.clauses) (fun x hx=>V7f hww (hk.2 x hx).arg x.clauses)) (fun r hr=>?_) (fun s hs=>?_)
  ·obtain ⟨rfl,h2⟩:=hr
   rw [h2]
   exact .some rfl
  ·obtain ⟨h2,rfl⟩:=hs
   rw [h2]
   exact .some rfl
theorem X2e (code:List Int)(hb:∀ x∈code,0≤x∧x≤255):Q34 NN code=some true:=by
 suffices hs:Ret (Q34 NN code) (fun r=>r=true) by
  obtain ⟨a,e,rfl⟩:=hs
  exact e
 unfold Q34
 refine Ret.ite (fun _=>.some rfl) (fun _=>?_)
 refine Ret.bind (Z2r code hb) (fun a ha=>?_)
 obtain ⟨hm,hl,_,_⟩:=ha
 have hw:=ww hm
 have hf:=W2u hm
 rw [W40 hm hl,W3i hm hl,Z2g hw hf hl]
 simp only [U0]
 rw [if_pos (by simp),if_pos (by simp)]
 refine Ret.ite (fun _=>.some rfl) (fun h1=>.some ?_)
 have h1:(totB a.1 a.2.1).1=true:=by simpa using h1
 rw [Bool.not_eq_true',Z2]
 unfold Z1j
 cases hr:Z1k a.1 a.2.1 a.2.2.1 a.2.2.2.1 a.2.2.2.2 with
 | false=>
  rw [if_neg (by simp)]
  show (5:Int)≠1
  omega
 | true=>
  rw [if_pos rfl]
  obtain ⟨g,h⟩:=Z4f hr
  have hk:=Q6t h.funs
  unfold outV
  split
  ·show (0:Int)≠1
   omega
  ·show (X45 a.1 a.2.1 a.2.2.1 a.2.2.2.1 a.2.2.2.2).2.code≠1
   refine W9y hw hf hk (fun g' hg' u hu hn=>?_) 50 a.2.2.1 g a.2.2.2.1 ⟨a.2.2.2.2,0,0⟩ h.f0 h.gg h.vv rfl
   unfold totB at h1
   rw [if_pos h.funs] at h1
   have h2:(exD a.1 g'.typ.arg g'.clauses).1=true:=by
    split at h1
    ·exact List.all_eq_true.1 h1 g' hg'
    ·cases h1
   have:=V8m hm (hk.2 g' hg').arg h2 (Q2g hu) 0
   rw [hn] at this
   cases this
end Go.Proofs.YtenmmbjgnlflnaaGreat
