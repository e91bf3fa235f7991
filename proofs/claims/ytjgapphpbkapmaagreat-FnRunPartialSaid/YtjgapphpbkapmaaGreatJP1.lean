import Derived.Test.YtjgapphpbkapmaaGreatJP0
import Derived.Test.YtjgapphpbkapmaaGreatJZ0
set_option linter.unusedSimpArgs false
set_option linter.unusedVariables false
namespace Go.Proofs.YtjgapphpbkapmaaGreat
open Go Go.RowKit
def CI (w:List Q3) (lst:List Q6) (pick:Int) (left:Int):X2:=⟨⟨w,dimP w⟩,lst,pick,300-left⟩
def Q9z (t:X9):List X9:=t.branches.map (fun b=>b.tree)++t.else_
def Z0v:Nat→X9→Prop
 | 0,_=>False
 | d+1,t=>(t.binds.length≤1000∧(∀ b∈t.binds,b.path.length≤1000)∧t.path.length≤1000∧t.branches.length≤20∧t.else_.length≤1)∧∀ x∈Q9z t,Z0v d x
def Z11:Nat→X9→Nat
 | 0,_=>0
 | d+1,t=>1+((Q9z t).map (Z11 d)).sum
theorem W1u:∀ {d e:Nat} {t:X9},Z0v d t→d≤e→Z0v e t:=by
 intro d
 induction d with
 | zero=>intro e t h;exact h.elim
 | succ d ih=>
  intro e t h he
  obtain ⟨e,rfl⟩:∃ k,e=k+1:=⟨e-1,by omega⟩
  exact ⟨h.1,fun x hx=>ih (h.2 x hx) (by omega)⟩
theorem W7x:∀ {d e:Nat} {t:X9},Z0v d t→d≤e→Z11 e t=Z11 d t:=by
 intro d
 induction d with
 | zero=>intro e t h;exact h.elim
 | succ d ih=>
  intro e t h he
  obtain ⟨e,rfl⟩:∃ k,e=k+1:=⟨e-1,by omega⟩
  unfold Z11
  rw [List.map_congr_left fun x hx=>ih (h.2 x hx) (show d≤e by omega)]
def brsR (P:Q9→X9→Prop):List Q9→List Q9→Prop
 | [],[]=>True
 | b::bs,x::xs=>(x.ctor=b.ctor∧x.n=b.n∧x.m=b.m∧P b x.tree)∧brsR P bs xs
 | _,_=>False
theorem X5h {P Q:Q9→X9→Prop} (h:∀ b t,P b t→Q b t):∀ {bs xs:List Q9},brsR P bs xs→brsR Q bs xs
 | [],[],_=>trivial
 | [],_::_,e=>e.elim
 | _::_,[],e=>e.elim
 | _::_,_::_,⟨⟨e1,e2,e3,e4⟩,e5⟩=>⟨⟨e1,e2,e3,h _ _ e4⟩,X5h h e5⟩
def Q92 (w:List Q3) (lst:List Q6) (pick:Int):Nat→X9→List Grow→List Z5→Prop
 | 0,_,_,_=>False
 | d+1,t,rows,cols=>match rows with
  | []=>t=zT
  | r0::rest=>match Q9l w (r0::rest) cols pick with
   | none=>t.op=1∧t.clause=r0.clause∧t.binds=Z0t r0.binds∧t.path=[]∧t.branches=[]∧∃ cl,lst[r0.clause.toNat]?=some cl∧
     ((cl.guard.op=0∧t.else_=[])∨(cl.guard.op≠0∧∃ el,t.else_=[el]∧Q92 w lst pick d el (Q3x (r0::rest) r0.clause) cols))
   | some k=>∃ col,cols[k]?=some col∧t.op=2∧t.clause=0∧t.binds=[]∧t.path=col.path∧t.else_=[]∧
     brsR (fun b x=>Q92 w lst pick d x (Q4x (r0::rest) k b (V5 w col b)) (Q5f cols k (V5 w col b))) (brsD w (r0::rest) col.t k) t.branches
theorem X9v {w:List Q3} {lst:List Q6} {pick:Int} : ∀ {d e:Nat} {t:X9} {rows:List Grow} {cols:List Z5},d≤e→Q92 w lst pick d t rows cols→Q92 w lst pick e t rows cols:=by
 intro d
 induction d with
 | zero=>intro e t rows cols _ h;exact h.elim
 | succ d ih=>
  intro e t rows cols he h
  obtain ⟨e,rfl⟩:∃ k,e=k+1:=⟨e-1,by omega⟩
  cases rows with
  | nil=>exact h
  | cons r0 rest=>
   simp only [Q92] at h ⊢
   cases hp:Q9l w (r0::rest) cols pick with
   | none=>
    rw [hp] at h
    simp only at h ⊢
    obtain ⟨h1,h2,h3,h4,h5,cl,h6,h7⟩:=h
    refine ⟨h1,h2,h3,h4,h5,cl,h6,?_⟩
    rcases h7 with h7 | ⟨h7,el,h8,h9⟩
    ·exact .inl h7
    ·exact .inr ⟨h7,el,h8,ih (by omega) h9⟩
   | some k=>
    rw [hp] at h
    simp only at h ⊢
    obtain ⟨col,h1,h2,h3,h4,h5,h6,h7⟩:=h
    exact ⟨col,h1,h2,h3,h4,h5,h6,X5h (fun b t h=>ih (by omega) h) h7⟩
def Both (w:List Q3) (lst:List Q6) (pick:Int) (tot:Nat) (Q:X9→Prop) (x:Option (X9×Bool×X2)) (y:Option (X9×Int)):Prop:=
 ∃ ti ok c ts e,x=some (ti,ok,c)∧y=some (ts,e)∧((ok=true∧ti=ts∧∃ l:Nat,e=(l:Int)∧c=CI w lst pick (l:Int)∧Z0v tot ti∧Z11 tot ti+l=tot∧Q ti)∨(ok=false∧e<0))
theorem W9m {n:Int} (h0:0≤n) (h:n≤100000):Q2o n=some []:=by
 unfold Q2o
 have e:ilt n 0=false:=by rw [W1];exact h0
 have e0:wsub .i64 0 (lenZ 0)=0:=rfl
 have e1:wsub .i64 n 0=n:=by rw [Q1u]<;>omega
 simp only [e,U2,if_false,e0,e1]
 by_cases hn:0<n
 ·have e2:ilt 0 n=true:=by rw [X4];exact hn
  have e3:mkS n (Z5.mk [] (Q4.mk 0 0))=some (List.replicate n.toNat (Z5.mk [] (Q4.mk 0 0))):=by
   unfold mkS;rw [if_pos ⟨h0,by simp [Q5];omega⟩]
  rw [if_pos e2,e3]
  rfl
 ·have e2:ilt 0 n=false:=by rw [W1];omega
  rw [if_neg (by rw [e2];simp)]
  rfl
theorem W5o {a b c:List Z5} (h:a.length+b.length+c.length≤100000):Q1t [a,b,c]=some (a++b++c):=by
 unfold Q1t
 have hA:wadd .i64 0 (lenZ a.length)=(a.length:Int):=by rw [Y5]<;>simp only [lenZ]<;>omega
 have hB:wadd .i64 (a.length:Int) (lenZ b.length)=(a.length:Int)+b.length:=by rw [Y5]<;>simp only [lenZ]<;>omega
 have hC:wadd .i64 ((a.length:Int)+b.length) (lenZ c.length)=(a.length:Int)+b.length+c.length:=by rw [Y5]<;>simp only [lenZ]<;>omega
 have l1:ilt (a.length:Int) 0=false:=by rw [W1];omega
 have l2:ilt ((a.length:Int)+b.length) 0=false:=by rw [W1];omega
 have l3:ilt ((a.length:Int)+b.length+c.length) 0=false:=by rw [W1];omega
 simp only [forL,hA,hB,hC,l1,l2,l3,U2,if_false,U0]
 rw [W9m (by omega) (by omega)]
 simp only [U0]
 rw [W3 (by simp [Q5];omega)]
 simp only [U0,List.nil_append]
 rw [W3 (by simp only [Q5];omega)]
 simp only [U0]
 rw [W3 (by simp only [U5,Q5];omega)]
 rfl
theorem W5x {w:List Q3} {lst:List Q6} {pick:Int} {ρ:Type} {F:Nat→Q9→X2×List Q9→Option (Ctl (X9×Bool×X2) (X2×List Q9))} {G:Nat→Q9→Int×List Q9→Option (Ctl ρ (Int×List Q9))} {L:Nat} {brs:List Q9} {P:Q9→X9→Prop}
  (hFG:∀ b∈brs,∀ (i j l:Nat) (out:List Q9),l≤L→out.length≤20→
   (∃ (t:X9) (l':Nat),(Z0v L t∧Z11 L t+l'=l∧P b t)∧F i b (CI w lst pick l,out)=some (.go (CI w lst pick l',out++[⟨b.ctor,b.n,b.m,t⟩]))∧G j b ((l:Int),out)=some (.go ((l':Int),out++[⟨b.ctor,b.n,b.m,t⟩])))∨
   (∃ (c:X2) (e:Int) (out':List Q9),e<0∧F i b (CI w lst pick l,out)=some (.ret (zT,false,c))∧G j b ((l:Int),out)=some (.go (e,out'))))
  (hG:∀ (j:Nat) (b:Q9) (e:Int) (out:List Q9),e<0→G j b (e,out)=some (.brk (e,out))) :
  ∀ (bs:List Q9),(∀ b∈bs,b∈brs)→∀ (i j l:Nat) (out:List Q9),l≤L→out.length+bs.length≤20→
   (∃ (l':Nat) (out':List Q9),((∀ b∈out',b∈out∨Z0v L b.tree)∧(out'.map fun b=>Z11 L b.tree).sum+l'=(out.map fun b=>Z11 L b.tree).sum+l∧out'.length≤out.length+bs.length∧∃ ys,out'=out++ys∧brsR P bs ys)∧forL F i bs (CI w lst pick l,out)=some (.brk (CI w lst pick l',out'))∧forL G j bs ((l:Int),out)=some (.brk ((l':Int),out')))∨
   (∃ (c:X2) (e:Int) (out':List Q9),e<0∧forL F i bs (CI w lst pick l,out)=some (.ret (zT,false,c))∧forL G j bs ((l:Int),out)=some (.brk (e,out'))):=by
 intro bs
 induction bs with
 | nil=>intro _ i j l out hl _;exact .inl ⟨l,out,⟨fun b h=>.inl h,rfl,by simp,[],by simp,trivial⟩,rfl,rfl⟩
 | cons b bs ih=>
  intro hm i j l out hl hlen
  simp only [U3] at hlen
  rcases hFG b (hm b (by simp)) i j l out hl (by omega) with ⟨t,l',hl',e1,e2⟩ | ⟨c,e,out',he,e1,e2⟩
  ·unfold forL
   rw [e1,e2]
   rcases ih (fun x hx=>hm x (by simp [hx])) (i+1) (j+1) l' (out++[⟨b.ctor,b.n,b.m,t⟩]) (by omega) (by simp;omega) with ⟨l2,out',⟨h1,h2,h3,ys,h6,h7⟩,h4,h5⟩ | h
   ·refine .inl ⟨l2,out',⟨fun x hx=>?_,?_,?_,⟨b.ctor,b.n,b.m,t⟩::ys,by rw [h6];simp,⟨⟨rfl,rfl,rfl,hl'.2.2⟩,h7⟩⟩,h4,h5⟩
    ·rcases h1 x hx with h | h
     ·rcases List.mem_append.1 h with h | h
      ·exact .inl h
      ·simp only [U8,List.not_mem_nil,or_false] at h
       subst h
       exact .inr hl'.1
     ·exact .inr h
    ·rw [h2]
     simp only [List.map_append,List.map_cons,List.map_nil,List.sum_append,List.sum_cons,List.sum_nil]
     omega
    ·simp only [U5,U3,U4] at h3
     simp only [U3]
     omega
   ·exact .inr h
  ·refine .inr ?_
   unfold forL
   rw [e1,e2]
   cases bs with
   | nil=>exact ⟨c,e,out',he,rfl,rfl⟩
   | cons b2 bs=>
    refine ⟨c,e,out',he,rfl,?_⟩
    dsimp only
    unfold forL
    rw [hG _ _ _ _ he]
def V1w (w:List Q3) (lst:List Q6) (pick:Int) (left:Nat):Prop:=∀ (n m:Nat) (rows:List Grow) (cols:List Z5),2 * left+1500≤n→left+1500≤m→rows.length≤1000→ColC w cols left→(∀ r∈rows,RowC w lst cols r)→
 Both w lst pick left (fun t=>Q92 w lst pick left t rows cols) (J6 n (CI w lst pick left) rows cols) (Q2q m w lst (cols.map toD) (rows.map toS) pick left)
theorem Q9m {rows:List Grow} {c:Int} {r:Grow} (h:r∈Q3x rows c):r∈rows:=(List.mem_filter.1 h).1
theorem W3w (rows:List Grow) (c:Int):(Q3x rows c).length≤rows.length:=List.length_filter_le _ _
theorem V30 {w:List Q3} {lst:List Q6} {pick:Int} {L n m:Nat} (hT:V1w w lst pick L) (hn:2 * L+1501≤n) (hm:L+1500≤m) {r0:Grow} {rest:List Grow} {cols:List Z5}
  (hrl:(r0::rest).length≤1000) (hC:ColC w cols L) (hr:∀ r∈r0::rest,RowC w lst cols r) (hpk:Q9l w (r0::rest) cols pick=none) :
  Both w lst pick (L+1) (fun t=>Q92 w lst pick (L+1) t (r0::rest) cols) (Q18 n (CI w lst pick L) (r0::rest) cols)
   (((Q3o m r0.binds).bind fun r27=>((idx lst r0.clause).bind fun x30=>
    (if (ieq x30.guard.op 0)=true then some (((X9.mk 1 r0.clause r27 [] [] []),(L:Int)))
    else ((Q3l ((r0::rest).map toS) r0.clause).bind fun r32=>((Q2q m w lst (cols.map toD) r32 pick L).bind fun r33=>some (((X9.mk 1 r0.clause r27 [] [] [r33.1]),r33.2)))))))):=by
 obtain ⟨n,rfl⟩:∃ k,n=k+1:=⟨n-1,by omega⟩
 have h0:=hr r0 (by simp)
 obtain ⟨b1,b2,b3⟩:=h0.binds
 unfold Q18
 rw [show idx (r0::rest) 0=some r0 from rfl]
 simp only [U0]
 rw [Q9h _ (by simp only [Q5];omega)]
 simp only [U0]
 rw [W7v (by omega) (by omega) b1 b2,X3i (by omega) (by omega) (fun b hb=>by have:=h0.bp b hb;omega)]
 simp only [U0]
 rw [Z4h (by rw [(Q9k b2).length_eq];simp)]
 simp only [U0]
 have hcl:r0.clause.toNat<lst.length:=by have:=h0.c0;have:=h0.c1;omega
 have hcl2:idx lst r0.clause=some (lst[r0.clause.toNat]):=Z0b h0.c0 (U9 hcl)
 rw [show (CI w lst pick (L:Int)).list=lst from rfl,hcl2]
 simp only [U0]
 have hcg:lst[r0.clause.toNat]?=some (lst[r0.clause.toNat]):=U9 hcl
 generalize lst[r0.clause.toNat]=cl at hcg ⊢
 have hsl:=(Q9k b2).length_eq
 have hbs:∀ (el:List X9),el.length≤1→((Z0t r0.binds).length≤1000∧(∀ b∈Z0t r0.binds,b.path.length≤1000)∧([]:List Int).length≤1000∧([]:List Q9).length≤20∧el.length≤1):=fun el he=>
  ⟨by omega,fun b hb=>h0.bp b ((Q9k b2).mem_iff.1 hb),by simp,by simp,he⟩
 by_cases hg:cl.guard.op=0
 ·have e:ieq cl.guard.op 0=true:=by simp [ieq,hg]
  simp only [e,if_true]
  exact ⟨_,_,_,_,_,rfl,rfl,.inl ⟨rfl,rfl,L,rfl,rfl,⟨hbs [] (by simp),by simp [Q9z]⟩,by simp [Z11,Q9z];omega,by simp only [Q92,hpk];exact ⟨trivial,trivial,trivial,trivial,trivial,cl,hcg,.inl ⟨hg,trivial⟩⟩⟩⟩
 ·have e:ieq cl.guard.op 0=false:=by simp [ieq,hg]
  simp only [e,U2,if_false]
  simp only [U3] at hrl
  rw [W5q (by simp only [U3];omega)]
  simp only [U0]
  rw [X4b (by simp only [U3];omega) (by omega),X3e (by simp only [U3];omega)]
  simp only [U0]
  have hol:=W3w (r0::rest) r0.clause
  simp only [U3] at hol
  obtain ⟨ti,ok,c,ts,e,h1,h2,h3⟩:=hT n m (Q3x (r0::rest) r0.clause) cols (by omega) hm (by omega) hC (fun r h=>hr r (Q9m h))
  rw [h1,h2]
  simp only [U0]
  refine ⟨_,_,_,_,_,rfl,rfl,?_⟩
  rcases h3 with ⟨rfl,rfl,l,rfl,rfl,hd,hz,hq⟩ | ⟨rfl,he⟩
  ·exact .inl ⟨rfl,rfl,l,rfl,rfl,⟨hbs [ti] (by simp),by simpa [Q9z] using hd⟩,by simp [Z11,Q9z];omega,by simp only [Q92,hpk];exact ⟨trivial,trivial,trivial,trivial,trivial,cl,hcg,.inr ⟨hg,ti,rfl,hq⟩⟩⟩
  ·exact .inr ⟨rfl,he⟩
theorem X8c (rows:List Grow) (k:Nat) (b:Q9) (args:List Z5):(Q4x rows k b args).length≤rows.length:=by
 unfold Q4x
 rw [U7]
 exact List.length_filter_le _ _
theorem V25 {w:List Q3} (hw:WW w) (hL:WL w) (hS:WS w) {lst:List Q6} {pick:Int} : ∀ left:Nat,left≤300→V1w w lst pick left:=by
 intro left
 induction left using Nat.strongRecOn with
 | ind left ih=>
 intro hle n m rows cols hn hm hrl hC hr
 obtain ⟨n,rfl⟩:∃ k,n=k+1:=⟨n-1,by omega⟩
 obtain ⟨m,rfl⟩:∃ k,m=k+1:=⟨m-1,by omega⟩
 unfold J6 Q2q
 have hcnt:(CI w lst pick (left:Int)).count=300-(left:Int):=rfl
 rw [hcnt,Y5 (by omega) (by omega),Q1u (by omega) (by omega)]
 cases left with
 | zero=>
  have e1:ilt 300 (300-((0:Nat):Int)+1)=true:=rfl
  have e2:ilt (((0:Nat):Int)-1) 0=true:=rfl
  rw [if_pos e1,if_pos e2]
  exact ⟨_,_,_,_,_,rfl,rfl,.inr ⟨rfl,by omega⟩⟩
 | succ L=>
 have e1:ilt 300 (300-((L+1:Nat):Int)+1)=false:=by rw [W1];omega
 have e2:ilt (((L+1:Nat):Int)-1) 0=false:=by rw [W1];omega
 have eC:(X2.mk (CI w lst pick ((L+1:Nat):Int)).spaces (CI w lst pick ((L+1:Nat):Int)).list (CI w lst pick ((L+1:Nat):Int)).pick (300-((L+1:Nat):Int)+1))=CI w lst pick (L:Int):=by
  show X2.mk ⟨w,dimP w⟩ lst pick (300-((L+1:Nat):Int)+1)=X2.mk ⟨w,dimP w⟩ lst pick (300-(L:Int))
  rw [show 300-((L+1:Nat):Int)+1=300-(L:Int) by omega]
 rw [e1,e2,eC,show (((L+1:Nat):Int)-1)=(L:Int) by omega]
 simp only [U2,if_false,U7]
 have hCL:ColC w cols L:=⟨hC.ty,fun c hc=>by have:=hC.path c hc;omega,by have:=hC.len;omega⟩
 cases rows with
 | nil=>
  have e:ieq (lenZ ([]:List Grow).length) 0=true:=rfl
  rw [if_pos e,if_pos e]
  exact ⟨_,_,_,_,_,rfl,rfl,.inl ⟨rfl,rfl,L,rfl,rfl,⟨by simp,by simp [Q9z]⟩,by simp [Z11,Q9z];omega,by simp only [Q92];rfl⟩⟩
 | cons r0 rest=>
 have e:ieq (lenZ (r0::rest).length) 0=false:=by
  rw [ieq,decide_eq_false_iff_not,Q4g,U3]
  omega
 have h0:=hr r0 (by simp)
 have hlen:=hC.len
 simp only [e,U2,if_false]
 rw [show idx ((r0::rest).map toS) 0=some (toS r0) from rfl]
 simp only [U0]
 have hch:=X1l hw hL (n:=n) (by omega) (lst:=lst) (pick:=pick) (count:=300-(L:Int)) (rows:=r0::rest) (cols:=cols) (by simp) (by omega) hC.ty (fun k hk=>RowC.rng hr hk)
 rw [show Q0a n (CI w lst pick (L:Int)) (r0::rest) cols=some (optI (Q9l w (r0::rest) cols pick),CI w lst pick (L:Int)) from hch,Z5n]
 simp only [U0]
 have hfirst:Z0s (toR (toS r0))=none↔Q9l w (r0::rest) cols pick=none:=by
  unfold Z0s Q9l
  rw [Q8e,Q8e]
  have hpl:(toR (toS r0)).pats.length=cols.length:=h0.len
  rw [hpl]
  exact Iff.rfl
 cases hp:Q9l w (r0::rest) cols pick with
 | none=>
  rw [hfirst.2 hp]
  have e:ilt (optI none) 0=true:=rfl
  simp only [e,if_true]
  obtain ⟨ti,ok,c,ts,e,h1,h2,h3⟩:=V30 (ih L (by omega) (by omega)) (n:=n) (m:=m) (by omega) (by omega) hrl hCL hr hp
  rw [h1]
  simp only [U0]
  exact ⟨ti,ok,c,ts,e,rfl,h2,h3⟩
 | some k=>
 obtain ⟨f,hf⟩:∃ f,Z0s (toR (toS r0))=some f:=by
  cases hq:Z0s (toR (toS r0)) with
  | none=>rw [hfirst.1 hq] at hp;cases hp
  | some f=>exact ⟨f,rfl⟩
 rw [hf]
 have e3:ilt (optI (some k)) 0=false:=by rw [W1];simp [optI]
 have e4:ilt (optI (some f)) 0=false:=by rw [W1];simp [optI]
 simp only [e3,e4,U2,if_false]
 have hkl:k<cols.length:=(Z3x hp).1
 obtain ⟨col,hk⟩:∃ c,cols[k]?=some c:=⟨_,U9 hkl⟩
 have hct:=hC.ty col (U1 hk)
 have hT:=hw.ty _ hct
 have hpl:=hC.path col (U1 hk)
 have hpk:=X65 hw hS (n:=m) (by omega) (pick:=pick) (row:=toS r0) (rest:=rest.map toS) (cols:=cols.map toD) (by simp only [U3,U7] at hrl ⊢;omega) (by rw [U7];omega) (by rw [U7];omega) (by rw [U7];exact h0.len)
  (fun c hc=>by obtain ⟨c',hc',rfl⟩:=U10.1 hc;exact hC.ty c' hc')
  (fun j hj=>by rw [←List.map_cons,toRS];exact RowC.rng hr (by rw [U7] at hj;exact hj)) hf
 rw [←List.map_cons,toRS,toCD,hp] at hpk
 rw [hpk]
 simp only [U0,optI]
 rw [Q2a hk,Q2a (show (cols.map toD)[k]?=some (toD col) by rw [List.getElem?_map,hk];rfl)]
 simp only [U0]
 rw [Q8w _ (by simp only [Q5];omega),W3 (by simp only [toD,U4,Q5];omega)]
 simp only [U0]
 have hbr:=Z1c hw hL (n:=n) (by omega) (lst:=lst) (pick:=pick) (count:=300-(L:Int)) (rows:=r0::rest) hk hct (RowC.rng hr hkl)
 rw [show Y4 n (CI w lst pick (L:Int)) (r0::rest) cols (k:Int)=some (brsD w (r0::rest) col.t k,CI w lst pick (L:Int)) from hbr]
 have hcu:=Z2h hw hS (n:=m) (by omega) (rows:=(r0::rest).map toS) (col:=toD col) (k:=k) hct (by rw [toRS];exact RowC.rng hr hkl)
 rw [toRS] at hcu
 rw [hcu]
 simp only [U0]
 generalize hrows:r0::rest=rows at *
 have hbl:=W5v hT rows k
 rw [show (toD col).kind=col.t from rfl]
 generalize hbrs:brsD w rows col.t k=brs at *
 generalize hF:(fun (k2328:Nat) (x2329:Q9) (s2322:X2×(List Q9))=>_)=F
 generalize hG:(fun (k186:Nat) (x187:Q9) (s180:Int×(List Q9))=>_)=G
 have hloop:=W5x (w:=w) (lst:=lst) (pick:=pick) (F:=F) (G:=G) (L:=L) (brs:=brs) (P:=fun b x=>Q92 w lst pick L x (Q4x rows k b (V5 w col b)) (Q5f cols k (V5 w col b))) (fun b hb i j l out hl hol=>?_) (fun j b e out he=>?_) brs (fun b h=>h) 0 0 L [] (Nat.le_refl _) (by simp;omega)
 ·rcases hloop with ⟨l',out',⟨g1,g2,g3,ys,g4,g5⟩,e1,e2⟩ | ⟨c,e,out',he,e1,e2⟩
  ·rw [e1,e2]
   refine ⟨_,_,_,_,_,rfl,rfl,.inl ⟨rfl,rfl,l',rfl,rfl,⟨⟨by simp,by simp,by simp only;omega,by simp only [U4] at g3 ⊢;omega,by simp⟩,fun x hx=>?_⟩,?_,?_⟩⟩
   ·simp only [Q9z,List.append_nil] at hx
    obtain ⟨b,hb,rfl⟩:=U10.1 hx
    rcases g1 b hb with h | h
    ·cases h
    ·exact h
   ·simp only [Z11,Q9z,List.append_nil,List.map_map]
    have:(List.map (Z11 L∘fun b=>b.tree) out')=out'.map fun b=>Z11 L b.tree:=rfl
    rw [this]
    simp only [List.map_nil,List.sum_nil] at g2
    omega
   ·rw [←hrows] at hp g5 hbrs ⊢
    simp only [Q92,hp]
    rw [g4,List.nil_append]
    exact ⟨col,hk,trivial,trivial,trivial,rfl,trivial,by rw [hbrs];exact g5⟩
  ·rw [e1,e2]
   exact ⟨_,_,_,_,_,rfl,rfl,.inr ⟨rfl,he⟩⟩
 ·have hB:BrC w col.t b:=V3z hL hct b (by rw [hbrs];exact hb)
  have hCn:ColC w (Q5f cols k (V5 w col b)) l:=by
   have:=ColC.next hw hC hk hB
   exact ⟨this.ty,fun c hc=>by have:=this.path c hc;omega,by have:=this.len;omega⟩
  have hRn:∀ r∈Q4x rows k b (V5 w col b),RowC w lst (Q5f cols k (V5 w col b)) r:=fun r hr'=>by
   unfold Q4x at hr'
   obtain ⟨r1,h1,rfl⟩:=U10.1 hr'
   obtain ⟨h2,h3⟩:=List.mem_filter.1 h1
   exact RowC.next hw hS hC (hr r1 h2) hk hB h3
  have hrn:=X8c rows k b (V5 w col b)
  have hK:∀ r∈rows,X9o r k b (V5 w col b):=fun r h=>RowC.kept hw hS hC (hr r h) hk hB
  obtain ⟨ti,ok,c,ts,e,h1,h2,h3⟩:=ih l (by omega) (by omega) n m (Q4x rows k b (V5 w col b)) (Q5f cols k (V5 w col b)) (by omega) (by omega) (by omega) hCn hRn
  have hal:(V5 w col b).length≤3:=(hK r0 (by rw [←hrows];simp)).al
  have hI:F i b (CI w lst pick l,out)=some (if ok=true then .go (c,out++[⟨b.ctor,b.n,b.m,ti⟩]) else .ret (zT,false,c)):=by
   suffices hs:Ret (F i b (CI w lst pick l,out)) (fun a=>a=(if ok=true then .go (c,out++[⟨b.ctor,b.n,b.m,ti⟩]) else .ret (zT,false,c))) by
    obtain ⟨a,e,rfl⟩:=hs
    exact e
   rw [←hF]
   refine Ret.ctl (R:=fun _=>False) (B:=fun s=>s=V5 w col b) ?_ (fun r h=>h.elim) (fun s hs=>?_)
   ·by_cases hc:b.ctor = -1
    ·have e:(!ieq b.ctor (-1))=false:=by simp [ieq,hc]
     simp only [e,U2,if_false]
     exact .some (by simp [V5,hc])
    ·have e:(!ieq b.ctor (-1))=true:=by simp [ieq,hc]
     have hd:col.t.data≠-1:=fun hd=>hc (hB.int hd)
     simp only [e,if_true]
     rw [show (CI w lst pick (l:Int)).spaces.w=w from rfl,hT.a2 _ (hB.ctor hd).1]
     simp only [U0]
     refine Ret.ctl (Z4 (V6 w col.t b.ctor) (fun i s=>s=(V5 w col b).take i) (fun _=>False) (fun s=>s=V5 w col b) (by simp) (fun i t s hi hI=>?_) (fun s hI=>?_)) (fun r hr=>hr.elim) (fun s hs=>.some hs)
     ·rw [W3 (by simp only [U3,U4,Q5];omega)]
      simp only [U0]
      rw [W3 (by rw [hI];simp only [U6,U3,U4,Q5];omega)]
      exact .some (by simp only [Q0j];rw [hI,List.take_add_one,Z1n hc hi];rfl)
     ·rw [hI,show (V6 w col.t b.ctor).length=(V5 w col b).length by rw [Q72,if_neg hc],List.take_length]
   ·subst hs
    dsimp only
    refine Ret.ctl (Z4 rows (fun i s=>s=Q4x (rows.take i) k b (V5 w col b)) (fun _=>False) (fun s=>s=Q4x rows k b (V5 w col b)) (by simp [Q4x]) (fun i r s hi hI=>?_) (fun s hI=>by rw [hI,List.take_length])) (fun r hr=>hr.elim) (fun s hs=>?_)
    ·have hil:i<rows.length:=(List.getElem?_eq_some_iff.1 hi).1
     rw [X6t (by omega) (hK r (U1 hi))]
     simp only [U0]
     have hsl:s.length≤1000:=by
      rw [hI]
      have:=X8c (rows.take i) k b (V5 w col b)
      rw [U6] at this
      omega
     have hstep:Q4x (rows.take (i+1)) k b (V5 w col b)=Q4x (rows.take i) k b (V5 w col b)++(if Q4q (X7 r k) b=true then [Q6z r k (V5 w col b)] else []):=by
      unfold Q4x
      rw [List.take_add_one,hi]
      simp only [Option.toList_some,List.filter_append,List.map_append]
      by_cases hf:Q4q (X7 r k) b=true<;>simp [hf]
     by_cases hf:Q4q (X7 r k) b=true
     ·rw [if_pos hf]
      simp only [if_true]
      rw [W3 (by simp only [U3,U4,Q5];omega)]
      exact .some (by simp only [Q0j];rw [hstep,if_pos hf,hI])
     ·rw [if_neg hf]
      simp only [U2,if_false]
      exact .some (by simp only [Q0j];rw [hstep,if_neg hf,hI,List.append_nil])
    ·subst hs
     dsimp only
     rw [Z3e (by omega)]
     simp only [U0]
     rw [Y5 (by omega) (by omega),show ((k:Int)+1)=((k+1:Nat):Int) by simp,Z6o (by omega)]
     simp only [U0]
     rw [W5o (by simp only [U6,List.length_drop];omega)]
     simp only [U0]
     rw [show cols.take k++V5 w col b++cols.drop (k+1)=Q5f cols k (V5 w col b) from rfl,h1]
     simp only [U0]
     cases ok with
     | true=>
      simp only [Bool.not_true,U2,if_false]
      rw [W3 (by simp only [U3,U4,Q5];omega)]
      exact .some (by simp)
     | false=>
      simp only [Bool.not_false,if_true]
      exact .some (by simp [zT])
  have hJ:G j b ((l:Int),out)=some (.go (e,out++[⟨b.ctor,b.n,b.m,ts⟩])):=by
   rw [←hG]
   have e1:ile 0 (l:Int)=true:=by rw [Q15];omega
   have hb2:b.ctor≠-1→b.ctor∈X3 w col.t:=fun h=>(hB.ctor fun hd=>h (hB.int hd)).1
   simp only [e1,if_true]
   rw [Z3h hT hk hb2 (by omega) (by omega)]
   simp only [U0]
   rw [X67 (by omega) hT hk hb2 (by omega) (by omega) (by omega) (fun r h=>⟨hK r h,(hr r h).len⟩)]
   simp only [U0]
   rw [h2]
   simp only [U0]
   rw [W3 (by simp only [U3,U4,Q5];omega)]
   rfl
  rw [hI,hJ]
  rcases h3 with ⟨rfl,rfl,l',rfl,rfl,hd,hz,hq⟩ | ⟨rfl,he⟩
  ·exact .inl ⟨ti,l',⟨W1u hd hl,by rw [W7x hd hl];exact hz,X9v hl hq⟩,by simp,rfl⟩
  ·exact .inr ⟨c,e,_,he,by simp,rfl⟩
 ·rw [←hG]
  have e1:ile 0 e=false:=by rw [Q61];omega
  simp only [e1,U2,if_false]
theorem X6h {l:List Q2} (hl:l.length≤1000) (hp:∀ b∈l,b.path.length≤1000):Q41 l=some l:=by
 suffices hs:Ret (Q41 l) (fun a=>a=l) by
  obtain ⟨a,e,rfl⟩:=hs
  exact e
 unfold Q41
 refine Ret.ctl (Z4 l (fun i s=>s=l.take i) (fun _=>False) (fun s=>s=l) (by simp) (fun i x s hi hI=>?_) (fun s hI=>by rw [hI,List.take_length])) (fun r hr=>hr.elim) (fun s hs=>.some hs)
 have hx:=hp x (U1 hi)
 rw [Q8w _ (by simp only [Q5];omega)]
 simp only [U0]
 rw [W3 (by rw [hI];simp only [U6,U3,U4,Q5];omega)]
 exact .some (by simp only [Q0j];rw [hI,List.take_add_one,hi];rfl)
theorem W1z (x:Q9):Q9.mk x.ctor x.n x.m x.tree=x:=by cases x;rfl
theorem W7j (t:X9):X9.mk t.op t.clause t.binds t.path t.branches t.else_=t:=by cases t;rfl
theorem W0b:∀ (d n:Nat) (t:X9),Z0v d t→d≤n→Q28 n t=some t:=by
 intro d
 induction d with
 | zero=>intro n t h;exact h.elim
 | succ d ih=>
  intro n t h hn
  obtain ⟨n,rfl⟩:∃ k,n=k+1:=⟨n-1,by omega⟩
  obtain ⟨⟨h1,h2,h3,h4,h5⟩,h6⟩:=h
  suffices hs:Ret (Q28 (n+1) t) (fun a=>a=t) by
   obtain ⟨a,e,rfl⟩:=hs
   exact e
  unfold Q28
  rw [X6h h1 h2,Q8w _ (by simp only [Q5];omega)]
  simp only [U0]
  refine Ret.ctl (Z4 t.branches (fun i s=>s=t.branches.take i) (fun _=>False) (fun s=>s=t.branches) (by simp) (fun i x s hi hI=>?_) (fun s hI=>by rw [hI,List.take_length])) (fun r hr=>hr.elim) (fun s hs=>?_)
  ·rw [ih n x.tree (h6 _ (List.mem_append_left _ (List.mem_map_of_mem (U1 hi)))) (by omega)]
   simp only [U0]
   rw [W3 (by rw [hI];simp only [U6,U3,U4,Q5];omega)]
   exact .some (by simp only [Q0j];rw [hI,List.take_add_one,hi,W1z];rfl)
  ·subst hs
   refine Ret.ctl (Z4 t.else_ (fun i s=>s=t.else_.take i) (fun _=>False) (fun s=>s=t.else_) (by simp) (fun i x s hi hI=>?_) (fun s hI=>by rw [hI,List.take_length])) (fun r hr=>hr.elim) (fun s hs=>.some (by rw [hs,W7j]))
   rw [ih n x (h6 _ (List.mem_append_right _ (U1 hi))) (by omega)]
   simp only [U0]
   rw [W3 (by rw [hI];simp only [U6,U3,U4,Q5];omega)]
   exact .some (by simp only [Q0j];rw [hI,List.take_add_one,hi];rfl)
def Q2d (k:Nat) (p:Q0):Grow:=⟨(k:Int),[(Q5t p []).2],(Q5t p []).1⟩
def Q2n (l:List Q6):Nat→List Grow
 | 0=>[]
 | i+1=>Q2n l i++(match l[i]? with
  | none=>[]
  | some c=>(Z6 10 c.pat).map (Q2d i))
theorem Z4x {l:List Q6} : ∀ {i:Nat} {r:Grow},r∈Q2n l i→∃ k c p,l[k]?=some c∧p∈Z6 10 c.pat∧r=Q2d k p:=by
 intro i
 induction i with
 | zero=>intro r h;cases h
 | succ i ih=>
  intro r h
  rw [Q2n] at h
  rcases List.mem_append.1 h with h | h
  ·exact ih h
  ·cases hc:l[i]? with
   | none=>rw [hc] at h;cases h
   | some c=>
    rw [hc] at h
    obtain ⟨p,hp,rfl⟩:=U10.1 h
    exact ⟨i,c,p,hc,hp,rfl⟩
theorem Z4y {l:List Q6} (h:∀ c∈l,(Z6 10 c.pat).length≤40):∀ i,(Q2n l i).length≤40 * i:=by
 intro i
 induction i with
 | zero=>simp [Q2n]
 | succ i ih=>
  rw [Q2n,U5]
  cases hc:l[i]? with
  | none=>simp only [U4];omega
  | some c=>
   have:=h c (U1 hc)
   simp only [U7]
   omega
def W66 (w:List Q3) (t:Q4) (l:List Q6):Prop:=∀ c∈l,Q0l w 10 t c.pat=true∧linD w 10 t c.pat=true
theorem Z74 {w:List Q3} (hw:WW w) {t:Q4} {l:List Q6} (hl:W66 w t l) (hll:l.length≤8):∀ r∈Q2n l l.length,RowC w l [⟨[],t⟩] r:=fun r hr=>by
 obtain ⟨k,c,p,hk,hp,rfl⟩:=Z4x hr
 obtain ⟨g,ln⟩:=hl c (U1 hk)
 have hkl:=(List.getElem?_eq_some_iff.1 hk).1
 have hO:PatO w t p:=⟨Q5d 11 t p (Q5d 10 t p (Q8a 10 t c.pat p g hp)),Q8q 11 p (Q8q 10 p (Z4s 10 c.pat p hp))⟩
 obtain ⟨s1,s2,s3⟩:=Z6v [] hO
 have hv:Z96 (Q2d k p)=Q52 p:=by
  unfold Z96 Q2d
  simp only [List.flatMap_cons,List.flatMap_nil,List.append_nil]
  exact s2
 have hperm:=X9z 10 t c.pat p g ln hp
 have hd:=Q49 10 t c.pat g ln
 simp only [Q1k,decide_eq_true_eq] at hd
 refine ⟨rfl,fun x hx=>?_,?_,fun v hv'=>?_,by simp [Q2d],by simp only [Q2d];omega,fun b hb=>?_⟩
 ·simp only [Q2d,List.zip_cons_cons,List.zip_nil_right,U8,List.not_mem_nil,or_false] at hx
  rw [hx]
  exact s1
 ·rw [hv];exact hperm.nodup_iff.2 hd
 ·rw [hv] at hv'
  obtain ⟨y,hy,rfl⟩:=U10.1 (hperm.mem_iff.1 hv')
  exact Z1r 10 t c.pat g y hy
 ·rw [s3 b hb];simp
theorem X1j {w:List Q3} (hw:WW w) {t:Q4} (ht:t∈tys w) {l:List Q6} (hl:W66 w t l) (hll:l.length≤8) :
  Q21 NN l=some (if l.all (fun c=>decide ((Z6 10 c.pat).length≤40))=true then (l.map (fun c=>Z6 10 c.pat),true) else ([],false)):=by
 suffices hs:Ret (Q21 NN l) (fun a=>a=(if l.all (fun c=>decide ((Z6 10 c.pat).length≤40))=true then (l.map (fun c=>Z6 10 c.pat),true) else ([],false))) by
  obtain ⟨a,e,rfl⟩:=hs
  exact e
 unfold Q21
 refine Ret.ctl (Z4 l (fun i s=>s=(l.take i).map (fun c=>Z6 10 c.pat)∧∀ c∈l.take i,(Z6 10 c.pat).length≤40) (fun r=>r=([],false)∧∃ c∈l,40<(Z6 10 c.pat).length) (fun s=>s=l.map (fun c=>Z6 10 c.pat)∧∀ c∈l,(Z6 10 c.pat).length≤40) ⟨by simp,by simp⟩ (fun i c s hi hI=>?_) (fun s hI=>by rw [List.take_length] at hI;exact hI)) (fun r hr=>.some ?_) (fun s hs=>.some ?_)
 ·obtain ⟨g,_⟩:=hl c (U1 hi)
  have hor:=X4o hw 10 t c.pat ht g
  have hil:i<l.length:=(List.getElem?_eq_some_iff.1 hi).1
  rw [X2c 10 NN c.pat hor (by decide)]
  simp only [U0]
  by_cases hc:(Z6 10 c.pat).length≤40
  ·have e:ilt 40 ((min (Z6 10 c.pat).length 401:Nat):Int)=false:=by rw [W1];omega
   simp only [e,U2,if_false]
   rw [X49 10 NN c.pat hor (by decide) (by omega)]
   simp only [U0]
   rw [W3 (by rw [hI.1];simp only [U7,U6,U3,U4,Q5];omega)]
   refine .some ⟨by rw [hI.1,List.take_add_one,hi];simp,fun c' hc'=>?_⟩
   rw [List.take_add_one,hi] at hc'
   rcases List.mem_append.1 hc' with h | h
   ·exact hI.2 c' h
   ·simp only [Option.toList_some,U8,List.not_mem_nil,or_false] at h
    rw [h];exact hc
  ·have e:ilt 40 ((min (Z6 10 c.pat).length 401:Nat):Int)=true:=by rw [X4];omega
   simp only [e,if_true]
   exact .some ⟨rfl,c,U1 hi,by omega⟩
 ·obtain ⟨rfl,c,hc,hlt⟩:=hr
  rw [if_neg]
  rw [List.all_eq_true]
  intro h
  have:=h c hc
  simp only [decide_eq_true_eq] at this
  omega
 ·obtain ⟨rfl,h⟩:=hs
  rw [if_pos]
  rw [List.all_eq_true]
  exact fun c hc=>by simpa using h c hc
structure Comp (Q:X9→Prop) (x y:Option (X9×Bool)):Prop where
 tr:∀ t,x=some (t,true)→Q t
 eq:∃ t ok,x=some (t,ok)∧y=some (t,ok)∧(ok=false→t=zT)∧Z0v 300 t∧Z11 300 t≤300
theorem V20:Z0v 300 zT:=⟨by simp [zT],by simp [Q9z,zT]⟩
theorem V1z:Z11 300 zT=1:=by
 show 1+((Q9z zT).map (Z11 299)).sum=1
 rw [show Q9z zT=[] from rfl]
 simp
theorem Comp.no {Q:X9→Prop} {x y:Option (X9×Bool)} (h1:x=some (zT,false)) (h2:y=some (zT,false)):Comp Q x y:=⟨fun t h=>by rw [h1] at h;simp at h,zT,false,h1,h2,fun _=>rfl,V20,by rw [V1z];omega⟩
theorem W5j {ρ σ τ:Type} {x:Option (Ctl ρ σ)} {s0:σ} {g:Ctl ρ σ→Option τ} (h:Ret x (CtlQ (fun _=>False) (fun s=>s=s0))):x.bind g=g (.brk s0):=by
 obtain ⟨o,rfl,ho⟩:=h
 cases o with
 | ret r=>exact ho.elim
 | go s=>exact ho.elim
 | brk s=>rw [show s=s0 from ho];rfl
theorem V3m {ρ σ τ:Type} {x:Option (Ctl ρ σ)} {r0:ρ} {g:Ctl ρ σ→Option τ} (h:Ret x (CtlQ (fun r=>r=r0) (fun _=>False))):x.bind g=g (.ret r0):=by
 obtain ⟨o,rfl,ho⟩:=h
 cases o with
 | ret r=>rw [show r=r0 from ho];rfl
 | go s=>exact ho.elim
 | brk s=>exact ho.elim
def canC (w:List Q3) (t:Q4) (l:List Q6) (pick:Int):Bool:=Q3i w t l&&(decide (0≤pick)&&decide (pick≤2))&&l.all (fun c=>decide ((Z6 10 c.pat).length≤40))
theorem Z7e {w:List Q3} {t:Q4} {l:List Q6} (h:Q3i w t l=true):l.length≤8∧W66 w t l:=by
 simp only [Q3i,Bool.and_eq_true,decide_eq_true_eq,List.all_eq_true] at h
 refine ⟨h.1,fun c hc=>?_⟩
 have:=h.2 c hc
 simp only [Q71,Bool.and_eq_true] at this
 obtain ⟨g,_,ln⟩:=Q88 this.1
 exact ⟨g,ln⟩
theorem X8o {w:List Q3} (hww:w∈Q0z) {t:Q4} (ht:t∈tys w) (l:List Q6) (pick:Int) :
  V4 NN w t l pick=if canC w t l pick=true then ((J6 NN (CI w l pick ((300:Nat):Int)) (Q2n l l.length) [⟨[],t⟩]).bind fun r=>if (!r.2.1)=true then some (zT,false) else (Q28 NN r.1).bind fun r2=>some (r2,true)) else some (zT,false):=by
 have hw:=ww hww
 have hz:X9.mk 0 0 [] [] [] []=zT:=rfl
 unfold V4 canC
 rw [Z2c hw ht l]
 simp only [U0,hz]
 cases hv:Q3i w t l with
 | false=>simp
 | true=>
 obtain ⟨hll,hP⟩:=Z7e hv
 rw [Q7g]
 simp only [U0,Bool.not_true,U2,if_false,Bool.true_and]
 cases hp:(decide (0≤pick)&&decide (pick≤2)) with
 | false=>simp
 | true=>
 simp only [Bool.not_true,U2,if_false,Bool.true_and]
 rw [X1j hw ht hP hll]
 simp only [U0]
 cases hA:l.all (fun c=>decide ((Z6 10 c.pat).length≤40)) with
 | false=>simp
 | true=>
 simp only [if_true,Bool.not_true,U2,if_false]
 have hA':∀ c∈l,(Z6 10 c.pat).length≤40:=fun c hc=>by simpa using List.all_eq_true.1 hA c hc
 refine (W5j (s0:=Q2n l l.length) ?_).trans ?_
 ·refine Z4 (l.map fun c=>Z6 10 c.pat) (fun i s=>s=Q2n l i) (fun _=>False) (fun s=>s=Q2n l l.length) rfl (fun i ps s hi hI=>?_) (fun s hI=>by rw [hI,U7])
  rw [List.getElem?_map,U11] at hi
  obtain ⟨c,hi,rfl⟩:=hi
  have hc:=U1 hi
  have hil:i<l.length:=(List.getElem?_eq_some_iff.1 hi).1
  have hri:=Z4y hA' i
  have hcl:=hA' c hc
  refine Ret.ctl (Z4 (Z6 10 c.pat) (fun j u=>u=Q2n l i++((Z6 10 c.pat).take j).map (Q2d i)) (fun _=>False) (fun u=>u=Q2n l (i+1)) (by simp [hI]) (fun j p u hj hJ=>?_) (fun u hJ=>?_)) (fun r hr=>hr.elim) (fun u hu=>.some hu)
  ·have hjl:j<(Z6 10 c.pat).length:=(List.getElem?_eq_some_iff.1 hj).1
   have has:=Z7x 10 t p (Q8a 10 t c.pat p (hP c hc).1 (U1 hj))
   rw [X9d (d:=10) (n:=NN) has (by omega) (by decide) (by simp) (by simp) (by simp)]
   simp only [U0,List.nil_append]
   rw [W3 (by rw [hJ];simp only [U5,U7,U6,U3,U4,Q5];omega)]
   exact .some (by simp only [Q0j];rw [hJ,List.take_add_one,hj];simp [Q2d])
  ·rw [hJ,List.take_length,Q2n,hi]
 ·dsimp only
  rw [(wl hww).dim]
  simp only [U0]
  rfl
theorem W7t {w:List Q3} (hww:w∈Q0z) {t:Q4} (ht:t∈tys w) (l:List Q6) (pick:Int) :
  Q0o NN w t l pick=if canC w t l pick=true then ((Q2q NN w l [⟨[],t⟩] ((Q2n l l.length).map toS) pick ((300:Nat):Int)).bind fun r=>if ilt r.2 0=true then some (zT,false) else some (r.1,true)) else some (zT,false):=by
 have hw:=ww hww
 have hz:X9.mk 0 0 [] [] [] []=zT:=rfl
 unfold Q0o canC
 rw [Z97 hw ht l]
 simp only [U0,hz]
 cases hv:Q3i w t l with
 | false=>simp
 | true=>
 obtain ⟨hll,hP⟩:=Z7e hv
 simp only [Bool.not_true,U2,if_false,Bool.true_and]
 by_cases p0:pick<0
 ·have e1:ilt pick 0=true:=by rw [X4];exact p0
  have e2:(decide ((0:Int)≤pick)&&decide (pick≤2))=false:=by simp;omega
  simp only [e1,e2,if_true,Bool.false_and,U2,if_false]
 have e1:ilt pick 0=false:=by rw [W1];omega
 simp only [e1,U2,if_false]
 by_cases p2:2<pick
 ·have e1:ilt 2 pick=true:=by rw [X4];exact p2
  have e2:(decide ((0:Int)≤pick)&&decide (pick≤2))=false:=by simp;omega
  simp only [e1,e2,if_true,Bool.false_and,U2,if_false]
 have e1:ilt 2 pick=false:=by rw [W1];omega
 have e2:(decide ((0:Int)≤pick)&&decide (pick≤2))=true:=by simp;omega
 simp only [e1,e2,U2,if_false,Bool.true_and]
 unfold Q65
 have hsp:∀ c∈l,Q0d NN c.pat=some ((Z6 10 c.pat).take 401):=fun c hc=>X3b 10 NN c.pat (X4o hw 10 t c.pat ht (hP c hc).1) (by decide)
 cases hA:l.all (fun c=>decide ((Z6 10 c.pat).length≤40)) with
 | true=>
  simp only [if_true]
  have hA':∀ c∈l,(Z6 10 c.pat).length≤40:=fun c hc=>by simpa using List.all_eq_true.1 hA c hc
  have hsp':∀ c∈l,Q0d NN c.pat=some (Z6 10 c.pat):=fun c hc=>by
   have:=hA' c hc
   rw [hsp c hc,List.take_of_length_le (by omega)]
  have hrows:Q5j NN l=some ((Q2n l l.length).map toS):=by
   suffices hs:Ret (Q5j NN l) (fun a=>a=(Q2n l l.length).map toS) by
    obtain ⟨a,e,rfl⟩:=hs
    exact e
   unfold Q5j
   refine Ret.ctl (Z4 l (fun i s=>s=(Q2n l i).map toS) (fun _=>False) (fun s=>s=(Q2n l l.length).map toS) rfl (fun i c s hi hI=>?_) (fun s hI=>hI)) (fun r hr=>hr.elim) (fun s hs=>.some hs)
   have hc:=U1 hi
   have hil:i<l.length:=(List.getElem?_eq_some_iff.1 hi).1
   have hri:=Z4y hA' i
   have hcl:=hA' c hc
   rw [hsp' c hc]
   simp only [U0]
   refine Ret.ctl (Z4 (Z6 10 c.pat) (fun j u=>u=(Q2n l i).map toS++(((Z6 10 c.pat).take j).map (Q2d i)).map toS) (fun _=>False) (fun u=>u=(Q2n l (i+1)).map toS) (by simp [hI]) (fun j p u hj hJ=>?_) (fun u hJ=>?_)) (fun r hr=>hr.elim) (fun u hu=>.some hu)
   ·have hjl:j<(Z6 10 c.pat).length:=(List.getElem?_eq_some_iff.1 hj).1
    have has:=Z7x 10 t p (Q8a 10 t c.pat p (hP c hc).1 (U1 hj))
    rw [X39 (d:=10) (n:=NN) has (by omega) (by decide) (by simp) (by simp)]
    simp only [U0,List.nil_append]
    rw [W3 (by rw [hJ];simp only [U5,U7,U6,U3,U4,Q5];omega)]
    exact .some (by simp only [Q0j];rw [hJ,List.take_add_one,hj];simp [Q2d,toS])
   ·rw [hJ,List.take_length,Q2n,hi];simp
  have h1:∀ (a:X9) (b:Bool),some (a,b)=some (a,b):=fun _ _=>rfl
  rw [hrows]
  have e300:(300:Int)=((300:Nat):Int):=rfl
  rw [e300]
  simp only [U0]
  have hin:∀ (X:Option (X9×Bool)),X.bind (fun r40=>some (r40.1,r40.2))=X:=fun X=>by cases X<;>rfl
  rw [hin]
  refine (W5j (s0:=()) ?_).trans ?_
  ·refine Z4 l (fun _ _=>True) (fun _=>False) (fun _=>_) trivial (fun i c s hi _=>?_) (fun _ _=>rfl)
   have hc:=U1 hi
   have:=hA' c hc
   rw [hsp' c hc]
   have e:ilt 40 (lenZ (Z6 10 c.pat).length)=false:=by rw [W1,Q4g];omega
   simp only [U0,e,U2,if_false]
   exact .some trivial
  ·rfl
 | false=>
  have hx:∃ c∈l,40<(Z6 10 c.pat).length:=by
   rw [List.all_eq_false] at hA
   simpa using hA
  have hin:∀ (X:Option (X9×Bool)),X.bind (fun r40=>some (r40.1,r40.2))=X:=fun X=>by cases X<;>rfl
  rw [hin]
  simp only [U2,if_false]
  refine (V3m (r0:=(zT,false)) ?_).trans rfl
  refine Z4 l (fun i _=>∀ c∈l.take i,(Z6 10 c.pat).length≤40) (fun r=>r=(zT,false)) (fun _=>False) (by simp) (fun i c s hi hI=>?_) (fun s hI=>?_)
  ·have hc:=U1 hi
   rw [hsp c hc]
   simp only [U0]
   by_cases h40:(Z6 10 c.pat).length≤40
   ·have e:ilt 40 (lenZ ((Z6 10 c.pat).take 401).length)=false:=by rw [W1,Q4g,U6];omega
    simp only [e,U2,if_false]
    refine .some fun c' hc'=>?_
    rw [List.take_add_one,hi] at hc'
    rcases List.mem_append.1 hc' with h | h
    ·exact hI c' h
    ·simp only [Option.toList_some,U8,List.not_mem_nil,or_false] at h
     rw [h];exact h40
   ·have e:ilt 40 (lenZ ((Z6 10 c.pat).take 401).length)=true:=by rw [X4,Q4g,U6];omega
    simp only [e,if_true]
    exact .some rfl
  ·obtain ⟨c,hc,h⟩:=hx
   rw [List.take_length] at hI
   have:=hI c hc
   omega
theorem X64 {w:List Q3} {t:Q4} (ht:t∈tys w):ColC w [⟨[],t⟩] 300:=
 ⟨fun c hc=>by simp only [U8,List.not_mem_nil,or_false] at hc;rw [hc];exact ht,fun c hc=>by simp only [U8,List.not_mem_nil,or_false] at hc;rw [hc];simp,by simp⟩
theorem Q9s {w:List Q3} (hww:w∈Q0z) {t:Q4} (ht:t∈tys w) (l:List Q6) (pick:Int):Comp (fun tr=>Q92 w l pick 300 tr (Q2n l l.length) [⟨[],t⟩]) (V4 NN w t l pick) (Q0o NN w t l pick):=by
 rw [X8o hww ht,W7t hww ht]
 cases hc:canC w t l pick with
 | false=>exact Comp.no (by simp) (by simp)
 | true=>
 simp only [if_true]
 simp only [canC,Bool.and_eq_true] at hc
 obtain ⟨hll,hP⟩:=Z7e hc.1.1
 have hA':∀ c∈l,(Z6 10 c.pat).length≤40:=fun c h=>by simpa using List.all_eq_true.1 hc.2 c h
 have hrl:=Z4y hA' l.length
 obtain ⟨ti,ok,c,ts,e,h1,h2,h3⟩:=V25 (ww hww) (wl hww) (ws hww) (lst:=l) (pick:=pick) 300 (Nat.le_refl _) NN NN (Q2n l l.length) [⟨[],t⟩] (by decide) (by decide) (by omega) (X64 ht) (Z74 (ww hww) hP hll)
 rw [h1,show [J2.mk [] t]=[Z5.mk [] t].map toD from rfl,h2]
 simp only [U0]
 rcases h3 with ⟨rfl,rfl,lf,rfl,rfl,hd,hsz,hq⟩ | ⟨rfl,he⟩
 ·have e:ilt ((lf:Nat):Int) 0=false:=by rw [W1];omega
  simp only [Bool.not_true,e,U2,if_false]
  rw [W0b 300 NN ti hd (by decide)]
  exact ⟨fun t h=>by simp only [U0,Option.some.injEq,Prod.mk.injEq] at h;rw [←h.1];exact hq,ti,true,rfl,rfl,by simp,hd,by omega⟩
 ·have e:ilt e 0=true:=by rw [X4];exact he
  simp only [Bool.not_false,e,if_true]
  exact Comp.no rfl rfl
def Q90 (l:List X8):List X8:=(List.range 6).flatMap fun (v:Nat)=>l.filter fun b=>decide (b.var=(v:Int))
theorem Z2i:∀ (a b:List X8),a.Pairwise (fun x y=>x.var<y.var)→b.Pairwise (fun x y=>x.var<y.var)→a.Perm b→a=b:=by
 intro a
 induction a with
 | nil=>intro b _ _ h;exact h.nil_eq
 | cons x a ih=>
  intro b ha hb h
  cases b with
  | nil=>exact absurd h.symm.nil_eq (by simp)
  | cons y b=>
   rw [List.pairwise_cons] at ha hb
   have hx:x∈y::b:=h.mem_iff.1 (by simp)
   have hy:y∈x::a:=h.mem_iff.2 (by simp)
   have hxy:x=y:=by
    rcases U8.1 hx with rfl | hx
    ·rfl
    ·rcases U8.1 hy with h1 | hy
     ·exact h1.symm
     ·have h1:=hb.1 x hx
      have h2:=ha.1 y hy
      omega
   subst hxy
   rw [ih b ha.2 hb.2 ((List.perm_cons x).1 h)]
theorem X06 {l:List X8} (h:l.Pairwise (fun x y=>x.var≤y.var)) (hn:(l.map (·.var)).Nodup):l.Pairwise (fun x y=>x.var<y.var):=by
 rw [List.Nodup,List.pairwise_map] at hn
 refine (h.and hn).imp fun ⟨h1,h2⟩=>?_
 omega
theorem Q93 {l:List X8} (hn:(l.map (·.var)).Nodup):(Q90 l).Pairwise (fun x y=>x.var<y.var):=by
 unfold Q90
 rw [List.pairwise_flatMap]
 refine ⟨fun v _=>?_,?_⟩
 ·have h1:(l.filter fun b=>decide (b.var=(v:Int))).Pairwise (fun x y=>x.var≤y.var):=by
   rw [List.pairwise_filter]
   refine List.pairwise_of_forall fun x y hx hy=>?_
   simp only [decide_eq_true_eq] at hx hy
   omega
  exact X06 h1 ((List.filter_sublist.map _).nodup hn)
 ·refine List.Pairwise.imp ?_ (List.pairwise_lt_range (n:=6))
  intro a b hab x hx y hy
  have h1:=(List.mem_filter.1 hx).2
  have h2:=(List.mem_filter.1 hy).2
  simp only [decide_eq_true_eq] at h1 h2
  omega
theorem Z5x {α β:Type} (f g h:α→List β) (e:∀ v,f v=g v++h v):∀ L:List α,(L.flatMap f).Perm (L.flatMap g++L.flatMap h)
 | []=>by simp
 | v::L=>by
  rw [List.flatMap_cons,List.flatMap_cons,List.flatMap_cons,e v,List.append_assoc,List.append_assoc]
  refine List.Perm.append_left _ ?_
  refine ((Z5x f g h e L).append_left (h v)).trans ?_
  rw [←List.append_assoc,←List.append_assoc]
  exact List.Perm.append_right _ List.perm_append_comm
theorem Q76 {l:List X8} (hv:∀ b∈l,0≤b.var∧b.var≤5):(Q90 l).Perm l:=by
 induction l with
 | nil=>simp [Q90]
 | cons x l ih=>
  have h1:=ih fun b hb=>hv b (by simp [hb])
  obtain ⟨x0,x5⟩:=hv x (by simp)
  have h2:=Z5x (fun (v:Nat)=>(x::l).filter fun b=>decide (b.var=(v:Int))) (fun (v:Nat)=>if x.var=(v:Int) then [x] else []) (fun (v:Nat)=>l.filter fun b=>decide (b.var=(v:Int))) (fun v=>by
   by_cases hc:x.var=(v:Int)
   ·rw [List.filter_cons,if_pos (by simp [hc]),if_pos hc];rfl
   ·rw [List.filter_cons,if_neg (by simp [hc]),if_neg hc];rfl) (List.range 6)
  have hx:((List.range 6).flatMap fun (v:Nat)=>if x.var=(v:Int) then [x] else [])=[x]:=by
   have h6:x.var=0∨x.var=1∨x.var=2∨x.var=3∨x.var=4∨x.var=5:=by omega
   rcases h6 with h | h | h | h | h | h<;>simp [h,List.range,List.range.loop]
  rw [hx] at h2
  exact h2.trans (List.Perm.cons _ h1)
structure X2o (l:List X8):Prop where
 nd:(l.map (·.var)).Nodup
 rg:∀ b∈l,0≤b.var∧b.var≤5
 ln:l.length≤6
theorem W3a {a b:List X8} (ha:X2o a) (h:a.Perm b):Q90 a=Q90 b:=by
 have hb:(b.map (·.var)).Nodup:=(h.map _).nodup_iff.1 ha.nd
 have hr:∀ x∈b,0≤x.var∧x.var≤5:=fun x hx=>ha.rg x (h.mem_iff.2 hx)
 exact Z2i _ _ (Q93 ha.nd) (Q93 hb) ((Q76 ha.rg).trans (h.trans (Q76 hr).symm))
def Q1j (g:Q2i) (l:List X8):Bool:=decide (g.op=0)||match l.find? fun b=>decide (b.var=g.var) with
 | none=>false
 | some b=>decide (b.value.ctor = -1)&&((decide (g.op=1)&&decide (b.value.n<g.n))||(decide (g.op=2)&&decide (b.value.n=g.n)))
theorem W57 {a b:List X8} (hn:(a.map (·.var)).Nodup) (h:a.Perm b) (v:Int):a.find? (fun x=>decide (x.var=v))=b.find? (fun x=>decide (x.var=v)):=by
 induction h with
 | nil=>rfl
 | cons x h ih=>
  rw [List.find?_cons,List.find?_cons]
  split
  ·rfl
  ·exact ih (List.nodup_cons.1 (by simpa using hn)).2
 | swap x y l=>
  simp only [List.map_cons,List.nodup_cons,U8,not_or] at hn
  simp only [List.find?_cons]
  by_cases h1:x.var=v
  ·have h2:¬y.var=v:=fun e=>hn.1.1 (by omega)
   simp [h1,h2]
  ·simp [h1]
 | trans h1 h2 ih1 ih2=>rw [ih1 hn,ih2 ((h1.map _).nodup_iff.1 hn)]
theorem Z2w {a b:List X8} (hn:(a.map (·.var)).Nodup) (h:a.Perm b) (g:Q2i):Q1j g a=Q1j g b:=by
 unfold Q1j
 rw [W57 hn h]
theorem Z7u {l:List X8} (h:X2o l) (g:Q2i):Q1j g (Q90 l)=Q1j g l:=(Z2w h.nd (Q76 h.rg).symm g).symm
def runD (v:Q1):Nat→List Q6→Option (Nat×List X8)
 | _,[]=>none
 | k,c::cs=>match Z7 10 c.pat v with
  | none=>runD v (k+1) cs
  | some l=>if Q1j c.guard l=true then some (k,Q90 l) else runD v (k+1) cs
def runR:Option (Nat×List X8)→Int×List X8
 | none=>(-1,[])
 | some x=>((x.1:Int),x.2)
theorem Z30 {α:Type} {l:List α} {k:Nat} {x:α} (h:l[k]?=some x):l.drop k=x::l.drop (k+1):=by
 obtain ⟨hk,rfl⟩:=List.getElem?_eq_some_iff.1 h
 exact List.drop_eq_getElem_cons hk
theorem Z7m {f:Q0→Q1→Option (List X8)} : ∀ (a:List Q0) (vs:List Q1) (c:Q0) (u:Q1),a.length=vs.length→V3 f (a++[c]) (vs++[u])=(V3 f a vs).bind fun l1=>(f c u).map (l1++·)
 | [],[],c,u,_=>by
  simp only [List.nil_append,V3,U0]
  cases f c u<;>simp
 | p::a,v::vs,c,u,h=>by
  simp only [List.cons_append,V3]
  rw [Z7m a vs c u (by simpa using h)]
  cases f p v with
  | none=>rfl
  | some l=>
   simp only
   cases V3 f a vs with
   | none=>rfl
   | some l1=>
    simp only [U0]
    cases f c u<;>simp
 | [],_::_,_,_,h=>by simp at h
 | _::_,[],_,_,h=>by simp at h
theorem Q5i {f:Q0→Q1→Option (List X8)} : ∀ (a b:List Q0) (us vs:List Q1),a.length=us.length→V3 f (a++b) (us++vs)=(V3 f a us).bind fun l1=>(V3 f b vs).map (l1++·)
 | [],b,[],vs,_=>by
  simp only [List.nil_append,V3,U0]
  cases V3 f b vs<;>simp
 | p::a,b,u::us,vs,h=>by
  simp only [List.cons_append,V3]
  rw [Q5i a b us vs (by simpa using h)]
  cases f p u with
  | none=>rfl
  | some l=>
   simp only
   cases V3 f a us with
   | none=>rfl
   | some l1=>
    simp only [U0]
    cases V3 f b vs<;>simp
 | [],_,_::_,_,h=>by simp at h
 | _::_,_,[],_,h=>by simp at h
theorem Z8a {α β:Type} {l:List α} {f:α→Option β} (h:∀ x∈l,f x=none):l.findSome? f=none:=List.findSome?_eq_none_iff.2 h
theorem X23 {α β γ:Type} (l:List α) (g:α→β) (f:β→Option γ):(l.map g).findSome? f=l.findSome? fun x=>f (g x):=by
 induction l with
 | nil=>rfl
 | cons a l ih=>simp only [List.map_cons,List.findSome?_cons,ih]
theorem Z1x {α β:Type} {l:List α} {f g:α→Option β} (h:∀ x∈l,f x=g x):l.findSome? f=l.findSome? g:=by
 induction l with
 | nil=>rfl
 | cons a l ih=>simp only [List.findSome?_cons];rw [h a (by simp),ih fun x hx=>h x (by simp [hx])]
theorem X4y {α β γ:Type} (l:List α) (f:α→Option β) (g:β→γ):(l.findSome? fun x=>(f x).map g)=(l.findSome? f).map g:=by
 induction l with
 | nil=>rfl
 | cons a l ih=>
  simp only [List.findSome?_cons]
  cases f a with
  | none=>simpa using ih
  | some x=>rfl
theorem X85 {f:Q0→Q1→Option (List X8)} (l:List Q0) (vs:List Q1) (u:Q1):∀ out:List (List Q0),(∀ a∈out,a.length=vs.length)→
  (tupD out l).findSome? (fun ks=>V3 f ks (vs++[u]))=(out.findSome? fun a=>V3 f a vs).bind fun l1=>(l.findSome? fun c=>f c u).map (l1++·)
 | [],_=>by simp [tupD]
 | a::out,h=>by
  have e:tupD (a::out) l=(l.map fun c=>a++[c])++tupD out l:=by simp [tupD]
  rw [e,List.findSome?_append,X23,X85 l vs u out fun x hx=>h x (by simp [hx])]
  have e2:(l.findSome? fun x=>V3 f (a++[x]) (vs++[u]))=(V3 f a vs).bind fun l1=>(l.findSome? fun c=>f c u).map (l1++·):=by
   rw [Z1x fun x _=>Z7m a vs x u (h a (by simp))]
   cases V3 f a vs with
   | none=>simp only [Option.bind_none];exact Z8a fun _ _=>rfl
   | some l1=>simp only [U0];exact X4y l _ _
  rw [e2,List.findSome?_cons]
  cases V3 f a vs with
  | none=>simp
  | some l1=>
   simp only [U0]
   cases l.findSome? fun c=>f c u with
   | none=>simp
   | some l2=>simp
def X24 (f:Q0→Q1→Option (List X8)):List (List Q0)→List Q1→Option (List X8)
 | [],_=>some []
 | _::_,[]=>none
 | l::ls,v::vs=>match l.findSome? fun c=>f c v with
  | none=>none
  | some r=>match X24 f ls vs with
   | none=>none
   | some m=>some (r++m)
theorem X35 {f:Q0→Q1→Option (List X8)} : ∀ (ls:List (List Q0)) (vs:List Q1) (vs0:List Q1) (out:List (List Q0)),ls.length=vs.length→(∀ a∈out,a.length=vs0.length)→
  (ls.foldl tupD out).findSome? (fun ks=>V3 f ks (vs0++vs))=(out.findSome? fun a=>V3 f a vs0).bind fun l1=>(X24 f ls vs).map (l1++·)
 | [],[],vs0,out,_,_=>by
  simp only [List.foldl_nil,List.append_nil,X24]
  cases out.findSome? fun a=>V3 f a vs0<;>simp
 | l::ls,v::vs,vs0,out,h,ho=>by
  rw [List.foldl_cons]
  have:=X35 (f:=f) ls vs (vs0++[v]) (tupD out l) (by simpa using h) (fun a ha=>by
   simp only [tupD,List.mem_flatMap,U10] at ha
   obtain ⟨q,hq,c,_,rfl⟩:=ha
   simp [ho q hq])
  rw [List.append_assoc,List.singleton_append] at this
  rw [this,X85 l vs0 v out ho]
  cases out.findSome? fun a=>V3 f a vs0 with
  | none=>rfl
  | some l1=>
   simp only [U0,X24]
   cases l.findSome? fun c=>f c v with
   | none=>rfl
   | some l2=>
    simp only [Option.map_some,U0]
    cases X24 f ls vs with
    | none=>rfl
    | some l3=>simp
 | [],_::_,_,_,h,_=>by simp at h
 | _::_,[],_,_,h,_=>by simp at h
theorem Z7n {f g:Q0→Q1→Option (List X8)} {s:Q0→List Q0} : ∀ (ps:List Q0) (vs:List Q1),(∀ (j:Nat) (p:Q0) (v:Q1),ps[j]?=some p→vs[j]?=some v→g p v=(s p).findSome? fun c=>f c v)→V3 g ps vs=X24 f (ps.map s) vs
 | [],_,_=>rfl
 | _::_,[],_=>rfl
 | p::ps,v::vs,h=>by
  simp only [V3,List.map_cons,X24]
  rw [h 0 p v rfl rfl,Z7n ps vs fun j p' v' h1 h2=>h (j+1) p' v' (by simpa using h1) (by simpa using h2)]
  cases (s p).findSome? fun c=>f c v with
  | none=>rfl
  | some l=>
   simp only
   cases X24 f (ps.map s) vs<;>rfl
theorem W00 {w:List Q3} (hw:WW w) (hS:WS w):∀ (d e:Nat) (t:Q4) (p:Q0) (v:Q1),t∈tys w→Q0l w d t p=true→Q46 w e t v→(Z6 d p).findSome? (fun q=>Z7 d q v)=Z7 d p v:=by
 intro d
 induction d with
 | zero=>intro e t p v _ h;simp [Q0l] at h
 | succ d ih=>
  intro e t p v ht g hv
  have hn:=Q04 g
  obtain ⟨ho,hl⟩:=Q0w hn
  by_cases h5:p.op=5
  ·obtain ⟨a,b,hab,hkt⟩:=kid0 h5 hl
   have ga:=Y7 g (k:=0) (a:=t) (q:=a) (by rw [hkt];rfl) (by rw [hab];rfl)
   have gb:=Y7 g (k:=1) (a:=t) (q:=b) (by rw [hkt];rfl) (by rw [hab];rfl)
   have e1:Z6 (d+1) p=Z6 d a++Z6 d b:=by simp [Z6,h5,hab]
   rw [e1,List.findSome?_append]
   have mono:∀ x,Q0l w d t x=true→(Z6 d x).findSome? (fun q=>Z7 (d+1) q v)=Z7 d x v:=fun x gx=>by
    rw [Z1x fun q hq=>(Z3z d t q (Q8a d t x q gx hq)).2.2.2 v]
    exact ih e t x v ht gx hv
   rw [mono a ga,mono b gb]
   rw [Z7,if_neg (by omega),if_neg (by omega),if_neg (by omega),if_pos h5,hab]
   simp only
   cases Z7 d a v<;>simp
  ·have e1:Z6 (d+1) p=((p.kids.map (Z6 d)).foldl tupD [[]]).map (Q67 p):=by simp [Z6,h5]
   rw [e1,X23]
   by_cases h4:p.op=4
   ·have hc:=Q82 ho h4
    have hd:t.data≠-1:=fun hd=>by rw [hS.int t ht hd] at hc;cases hc
    have hm:∀ ks,Z7 (d+1) (Q67 p ks) v=if p.ctor=v.ctor then V3 (Z7 d) ks v.kids else none:=fun ks=>by
     rw [Z7,if_neg (by simp [Q67];omega),if_neg (by simp [Q67];omega),if_neg (by simp [Q67];omega),if_neg (by simpa [Q67] using h5),if_neg (by simp [Q67];omega)]
     rfl
    have hm2:Z7 (d+1) p v=if p.ctor=v.ctor then V3 (Z7 d) p.kids v.kids else none:=by
     rw [Z7,if_neg (by omega),if_neg (by omega),if_neg (by omega),if_neg h5,if_neg (by omega)]
    rw [Z1x fun ks _=>hm ks,hm2]
    by_cases hcv:p.ctor=v.ctor
    ·simp only [if_pos hcv]
     cases e with
     | zero=>exact hv.elim
     | succ e=>
     rw [Q46,if_neg hd] at hv
     obtain ⟨_,_,hvl,hvk⟩:=hv
     have hkt:Y0 w t p=V6 w t v.ctor:=by rw [Y0,if_pos h4,hcv]
     have hlen:(p.kids.map (Z6 d)).length=v.kids.length:=by rw [U7,hl,hkt,hvl]
     have:=X35 (f:=Z7 d) (p.kids.map (Z6 d)) v.kids [] [[]] hlen (by simp)
     rw [List.nil_append] at this
     rw [this]
     simp only [List.findSome?_cons,V3,U0]
     rw [Z7n (f:=Z7 d) (g:=Z7 d) (s:=Z6 d) p.kids v.kids fun j q u hq hu=>?_]
     ·cases X24 (Z7 d) (p.kids.map (Z6 d)) v.kids<;>simp
     ·have hj:=(List.getElem?_eq_some_iff.1 hq).1
      obtain ⟨a,ha⟩:∃ a,(V6 w t v.ctor)[j]?=some a:=⟨_,U9 (by rw [hkt] at hl;omega)⟩
      exact (ih e a q u (Q6y (hw.ty t ht) ht ho _ (by rw [hkt];exact U1 ha)) (Y7 g (by rw [hkt];exact ha) hq) (hvk j a u ha hu)).symm
    ·simp only [if_neg hcv]
     exact Z8a fun _ _=>rfl
   ·by_cases h6:p.op=6
    ·obtain ⟨a,hk,hkt⟩:=Z7s h6 hl
     have ga:=Y7 g (k:=0) (a:=t) (q:=a) (by rw [hkt];rfl) (by rw [hk];rfl)
     have e2:((p.kids.map (Z6 d)).foldl tupD [[]])=(Z6 d a).map fun c=>[c]:=by
      rw [hk];simp [tupD]
     rw [e2,X23]
     have hm:∀ c,Z7 (d+1) (Q67 p [c]) v=(Z7 d c v).map (fun l=>⟨p.var,v⟩::l):=fun c=>by
      rw [Z7,if_neg (by simp [Q67];omega),if_neg (by simp [Q67];omega),if_neg (by simp [Q67];omega),if_neg (by simp [Q67];omega),if_pos (by simpa [Q67] using h6)]
      rfl
     rw [Z1x fun c _=>hm c,X4y,ih e t a v ht ga hv]
     rw [Z7,if_neg (by omega),if_neg (by omega),if_neg (by omega),if_neg h5,if_pos h6,hk]
    ·have hk:p.kids=[]:=by
      rw [Y0,if_neg h4,if_neg h5,if_neg h6] at hl
      exact List.eq_nil_of_length_eq_zero hl
     rw [hk]
     have:Q67 p []=p:=by rw [←hk];cases p;rfl
     simp only [List.map_nil,List.foldl_nil,List.findSome?_cons,this]
     cases Z7 (d+1) p v<;>rfl
theorem X63 {w:List Q3} {t:Q4} {path:List Int} {v:Q1} : ∀ (d:Nat) (p:Q0),asOk d p→Q0l w 12 t p=true→Z7 12 p v=(Z7 12 (Q25 d p path).2 v).map (((Q25 d p path).1.map fun b=>X8.mk b.var v)++·):=by
 intro d
 induction d with
 | zero=>intro p h;exact h.elim
 | succ d ih=>
  intro p h g
  rw [Q2j]
  by_cases h6:p.op=6
  ·obtain ⟨q,hq,hd⟩:=h h6
   have ga:Q0l w 11 t q=true:=Y7 g (k:=0) (a:=t) (by rw [Y0,if_neg (by omega),if_neg (by omega),if_pos h6];rfl) (by rw [hq];rfl)
   rw [if_pos h6,hq]
   simp only [List.headD_cons]
   have e1:Z7 12 p v=(Z7 12 q v).map (fun l=>⟨p.var,v⟩::l):=by
    rw [(Z3z 11 t q ga).2.2.2 v,Z7,if_neg (by omega),if_neg (by omega),if_neg (by omega),if_neg (by omega),if_pos h6,hq]
   rw [e1,ih q hd (Q5d 11 t q ga)]
   cases Z7 12 (Q25 d q path).2 v<;>simp
  ·rw [if_neg h6]
   by_cases h2:p.op=2
   ·rw [if_pos h2]
    have e1:Z7 12 p v=some [⟨p.var,v⟩]:=by rw [Z7,if_neg (by omega),if_pos h2]
    have e2:Z7 12 anyP v=some []:=X5l 11 v
    rw [e1]
    simp only
    rw [e2]
    rfl
   ·rw [if_neg h2]
    simp only [List.map_nil,List.nil_append]
    cases Z7 12 p v<;>rfl
theorem V0x {w:List Q3} {t:Q4} {p:Q0} (path:List Int) (v:Q1) (g:Q0l w 12 t p=true):Z7 12 p v=(Z7 12 (Q5t p path).2 v).map (((Q5t p path).1.map fun b=>X8.mk b.var v)++·):=
 X63 12 p (Z7x 12 t p g) g
theorem W10 {w:List Q3} {e:Nat} {t:Q4} {v:Q1} (h:Q46 w e t v) (hd:t.data≠-1):∃ e',e=e'+1∧v.ctor∈X3 w t∧v.kids.length=(V6 w t v.ctor).length∧∀ (j:Nat) (a:Q4) (x:Q1),(V6 w t v.ctor)[j]?=some a→v.kids[j]?=some x→Q46 w e' a x:=by
 cases e with
 | zero=>exact h.elim
 | succ e=>
  simp only [Q46,if_neg hd] at h
  exact ⟨e,rfl,h.2.1,h.2.2.1,h.2.2.2⟩
theorem W11 {α:Type} {l:List α} {n j:Nat} (h:l.length=n) (hj:j<n):∃ x,l[j]?=some x:=⟨l[j]'(by omega),by simp⟩
def V3v (w:List Q3) (t:Q4):Bool:=
 (decide (depP w t≠0)||(X3 w t).all (fun k=>(V6 w t k).any (fun a=>decide (depP w a=0))))&&decide ((X3 w t).Nodup)
def chkE (w:List Q3):Bool:=(tys w).all (V3v w)
theorem W1y:Q0z.all chkE=true:=by kernel_rfl
structure WE (w:List Q3):Prop where
 e0:∀ t∈tys w,depP w t=0→∀ k∈X3 w t,∃ a∈V6 w t k,depP w a=0
 nd:∀ t∈tys w,(X3 w t).Nodup
theorem we {w:List Q3} (h:w∈Q0z):WE w:=by
 have h:=List.all_eq_true.1 W1y w h
 simp only [chkE,List.all_eq_true] at h
 refine ⟨fun t ht h0 k hk=>?_,fun t ht=>?_⟩
 ·have:=h t ht
  simp only [V3v,Bool.and_eq_true,Bool.or_eq_true,decide_eq_true_eq,List.all_eq_true,List.any_eq_true] at this
  rcases this.1 with h1 | h1
  ·exact absurd h0 h1
  ·exact h1 k hk
 ·have:=h t ht
  simp only [V3v,Bool.and_eq_true,decide_eq_true_eq] at this
  exact this.2
theorem X90 {w:List Q3} (hw:WW w) (he:WE w):∀ (e:Nat) (t:Q4) (v:Q1),t∈tys w→Q46 w e t v→depP w t≠0
 | 0,_,_,_,h=>h.elim
 | e+1,t,v,ht,h=>fun h0=>by
  by_cases hd:t.data = -1
  ·have:=((hw.ty t ht).ti hd).2;omega
  ·obtain ⟨e',e1,g1,g2,g3⟩:=W10 h hd
   cases e1
   obtain ⟨a,ha,ha0⟩:=he.e0 t ht h0 _ g1
   obtain ⟨j,hj⟩:=List.mem_iff_getElem?.1 ha
   obtain ⟨x,hx⟩:=W11 g2 (List.getElem?_eq_some_iff.1 hj).1
   exact X90 hw he e a x ((hw.ty t ht).at_ _ g1 a ha) (g3 j a x hj hx) ha0
def Q7j:Q1→List Int→Option Q1
 | v,[]=>some v
 | v,i::path=>(idx v.kids i).bind fun u=>Q7j u path
theorem X0a:∀ (path:List Int) (v:Q1) (i:Int),Q7j v (path++[i])=(Q7j v path).bind fun u=>idx u.kids i
 | [],v,i=>by
  simp only [List.nil_append,Q7j,U0]
  cases idx v.kids i<;>rfl
 | j::path,v,i=>by
  simp only [List.cons_append,Q7j]
  cases idx v.kids j with
  | none=>rfl
  | some u=>simp only [U0];exact X0a path u i
def Q2h:List Q2→Q1→Option (List X8)
 | [],_=>some []
 | b::l,v=>(Q7j v b.path).bind fun u=>(Q2h l v).map (X8.mk b.var u::·)
theorem Z0o:∀ (a b:List Q2) (v:Q1),Q2h (a++b) v=(Q2h a v).bind fun l=>(Q2h b v).map (l++·)
 | [],b,v=>by
  simp only [List.nil_append,Q2h,U0]
  cases Q2h b v<;>rfl
 | x::a,b,v=>by
  simp only [List.cons_append,Q2h]
  cases Q7j v x.path with
  | none=>rfl
  | some u=>
   simp only [U0]
   rw [Z0o a b v]
   cases Q2h a v with
   | none=>rfl
   | some l=>
    simp only [U0,Option.map_some]
    cases Q2h b v<;>rfl
theorem X7s {v:Q1} {a b:List Q2} (h:a.Perm b):∀ {l:List X8},Q2h a v=some l→∃ l',Q2h b v=some l'∧l.Perm l':=by
 induction h with
 | nil=>intro l h;exact ⟨l,h,.refl _⟩
 | cons x _ ih=>
  intro l h
  simp only [Q2h] at h ⊢
  cases hx:Q7j v x.path with
  | none=>rw [hx] at h;simp at h
  | some u=>
   rw [hx] at h
   simp only [U0,U11] at h ⊢
   obtain ⟨m,hm,rfl⟩:=h
   obtain ⟨m',h1,h2⟩:=ih hm
   exact ⟨_,⟨m',h1,rfl⟩,h2.cons _⟩
 | swap x y l0=>
  intro l h
  simp only [Q2h] at h ⊢
  cases hx:Q7j v x.path with
  | none=>rw [hx] at h;cases hy:Q7j v y.path<;>rw [hy] at h<;>simp at h
  | some u=>
   rw [hx] at h
   cases hy:Q7j v y.path with
   | none=>rw [hy] at h;simp at h
   | some u2=>
    rw [hy] at h
    simp only [U0,Option.map_map,U11,Function.comp] at h ⊢
    obtain ⟨m,hm,rfl⟩:=h
    exact ⟨_,⟨m,hm,rfl⟩,.swap _ _ _⟩
 | trans _ _ ih1 ih2=>
  intro l h
  obtain ⟨m,h1,h2⟩:=ih1 h
  obtain ⟨k,h3,h4⟩:=ih2 h1
  exact ⟨k,h3,h2.trans h4⟩
theorem Z35 {v:Q1} : ∀ {a:List Q2} {l:List X8},Q2h a v=some l→l.map (·.var)=a.map (·.var)
 | [],l,h=>by simp only [Q2h,Option.some.injEq] at h;subst h;rfl
 | b::a,l,h=>by
  simp only [Q2h] at h
  cases hx:Q7j v b.path with
  | none=>rw [hx] at h;simp at h
  | some u=>
   rw [hx] at h
   simp only [U0,U11] at h
   obtain ⟨m,hm,rfl⟩:=h
   simp [Z35 hm]
theorem Z0n {v u:Q1} {path:List Int} (h:Q7j v path=some u):∀ {l:List Q2},(∀ b∈l,b.path=path)→Q2h l v=some (l.map fun b=>X8.mk b.var u)
 | [],_=>rfl
 | b::l,hl=>by
  simp only [Q2h]
  rw [hl b (by simp),h,Z0n h fun x hx=>hl x (by simp [hx])]
  rfl
def rowL (r:Grow) (us:List Q1):Option (List X8):=V3 (Z7 12) r.pats us
def rowB (r:Grow) (v:Q1) (us:List Q1):Option (List X8):=(Q2h r.binds v).bind fun l=>(rowL r us).map (l++·)
def hitR (us:List Q1) (r:Grow):Bool:=(rowL r us).isSome
inductive Z4l (lst:List Q6) (v:Q1) (us:List Q1):List Grow→Int×List X8→Prop
 | none {rows:List Grow} : rows.find? (hitR us)=none→Z4l lst v us rows (-1,[])
 | take {rows:List Grow} {r:Grow} {l:List X8} {c:Q6} : rows.find? (hitR us)=some r→rowB r v us=some l→lst[r.clause.toNat]?=some c→Q1j c.guard l=true→Z4l lst v us rows (r.clause,Q90 l)
 | skip {rows:List Grow} {r:Grow} {l:List X8} {c:Q6} {x:Int×List X8} : rows.find? (hitR us)=some r→rowB r v us=some l→lst[r.clause.toNat]?=some c→Q1j c.guard l=false→
   Z4l lst v us (Q3x rows r.clause) x→Z4l lst v us rows x
structure W67 (w:List Q3) (v:Q1) (cols:List Z5) (us:List Q1):Prop where
 len:us.length=cols.length
 at_:∀ (j:Nat) (c:Z5) (u:Q1),cols[j]?=some c→us[j]?=some u→Q7j v c.path=some u∧Q46 w 10 c.t u
def X6 (b:Q9) (u:Q1):Bool:=decide (b.ctor=u.ctor)&&(decide (b.ctor≠-1)||(decide (b.n≤u.n)&&decide (u.n≤b.m)))
def runT:Nat→X9→List Q6→Q1→Option (Int×List X8×Nat)
 | 0,_,_,_=>none
 | d+1,t,lst,v=>
  if t.op=2 then (Q7j v t.path).bind fun u=>match t.branches.find? (fun b=>X6 b u) with
   | none=>some (-1,[],1)
   | some b=>(runT d b.tree lst v).map fun r=>(r.1,r.2.1,r.2.2+1)
  else if t.op=1 then (idx lst t.clause).bind fun c=>(Q2h t.binds v).bind fun l=>if Q1j c.guard l=true then some (t.clause,l,0) else match t.else_ with
   | el::_=>runT d el lst v
   | []=>none
  else some (-1,[],0)
theorem Z31 {cut:Int→Bool} : ∀ (m:Nat) (n fr:Int),fr<n→(∀ c,fr<c→c<n→cut c=false)→∀ b∈Z1k cut m n fr,b.n≤b.m∧fr≤b.n∧∀ c,b.n<c→c≤b.m→cut c=false
 | 0,_,_,_,_,b,h=>by simp [Z1k] at h
 | m+1,n,fr,h1,h2,b,h=>by
  unfold Z1k at h
  split at h
  ·rcases U8.1 h with rfl | h
   ·exact ⟨by simp only;omega,by simp only;omega,fun c hc hc'=>h2 c hc (by simp only at hc';omega)⟩
   ·obtain ⟨g1,g2,g3⟩:=Z31 m (n+1) n (by omega) (fun c hc hc'=>by omega) b h
    exact ⟨g1,by omega,g3⟩
  ·rename_i hc
   exact Z31 m (n+1) fr (by omega) (fun c hc1 hc2=>by
    by_cases hcn:c=n
    ·rw [hcn];simpa using hc
    ·exact h2 c hc1 (by omega)) b h
theorem Z32 {cut:Int→Bool} : ∀ (m:Nat) (n fr:Int),fr<n→cut (n+m-1)=true→1≤m→∀ x,fr≤x→x<n+m-1→∃ b∈Z1k cut m n fr,b.n≤x∧x≤b.m
 | 0,_,_,_,_,h,_,_,_=>by omega
 | m+1,n,fr,h1,hc,_,x,hx1,hx2=>by
  unfold Z1k
  split
  ·by_cases hxn:x<n
   ·exact ⟨⟨-1,fr,n-1,zT⟩,by simp,by simp only;omega,by simp only;omega⟩
   ·have hm:1≤m:=by omega
    obtain ⟨b,hb,g⟩:=Z32 m (n+1) n (by omega) (by rw [←hc];congr 1;omega) hm x (by omega) (by omega)
    exact ⟨b,by simp [hb],g⟩
  ·rename_i hcn
   have hm:1≤m:=by
    rcases Nat.eq_zero_or_pos m with rfl | h
    ·simp only [Nat.zero_add,Int.natCast_one] at hc
     rw [show n+1-1=n by omega] at hc
     exact absurd hc hcn
    ·exact h
   exact Z32 m (n+1) fr (by omega) (by rw [←hc];congr 1;omega) hm x hx1 (by omega)
def V3u (w:List Q3):Bool:=(tys w).all fun t=>decide (t.data = -1)||(X3 w t).all fun c=>decide (Z2r w t c=(V6 w t c).all fun a=>decide (depP w a≠0))
theorem V0f:Q0z.all V3u=true:=by kernel_rfl
theorem V2y {w:List Q3} (h:w∈Q0z) {t:Q4} (ht:t∈tys w) (hd:t.data≠-1) {c:Int} (hc:c∈X3 w t):Z2r w t c=(V6 w t c).all fun a=>decide (depP w a≠0):=by
 have h1:=List.all_eq_true.1 V0f w h
 have h2:=List.all_eq_true.1 h1 t ht
 simp only [Bool.or_eq_true,decide_eq_true_eq,List.all_eq_true] at h2
 rcases h2 with h2 | h2
 ·exact absurd h2 hd
 ·exact h2 c hc
theorem W5w {w:List Q3} (hww:w∈Q0z) {t:Q4} (ht:t∈tys w) {e:Nat} {u:Q1} (hu:Q46 w e t u) (rows:List Grow) (k:Nat):∃ b∈brsD w rows t k,X6 b u=true:=by
 cases e with
 | zero=>exact hu.elim
 | succ e=>
 have hw:=ww hww
 unfold brsD
 rw [Q46] at hu
 split
 ·rename_i hd
  rw [if_pos hd] at hu
  obtain ⟨h1,h2,h3,_⟩:=hu
  obtain ⟨b,hb,h4,h5⟩:=Z32 (cut:=cutB rows k) 10 1 0 (by omega) (by simp [cutB]) (by omega) u.n h2 (by omega)
  refine ⟨b,hb,?_⟩
  have hc:=Q9q _ _ _ _ b hb
  simp [X6,hc,h1,h4,h5]
 ·rename_i hd
  rw [if_neg hd] at hu
  obtain ⟨_,h2,h3,h4⟩:=hu
  refine ⟨⟨u.ctor,0,0,zT⟩,U10.2 ⟨u.ctor,List.mem_filter.2 ⟨h2,?_⟩,rfl⟩,?_⟩
  ·rw [V2y hww ht hd h2,List.all_eq_true]
   intro a ha
   obtain ⟨j,hj⟩:=List.mem_iff_getElem?.1 ha
   have hjl:=(List.getElem?_eq_some_iff.1 hj).1
   have hx:u.kids[j]?=some (u.kids[j]'(by omega)):=by simp
   simpa using X90 hw (we hww) e a _ ((hw.ty t ht).at_ _ h2 a ha) (h4 j a _ hj hx)
  ·have:=(wl hww).pos t ht hd _ h2
   simp [X6,this]
theorem X0l {w:List Q3} {t:Q4} {rows:List Grow} {k:Nat} {b:Q9} (hb:b∈brsD w rows t k) {r:Grow} (hr:r∈rows) (hp:PatC w t (X7 r k)) {u:Q1} {e:Nat} (hu:Q46 w e t u) (hf:X6 b u=true) (d:Nat) :
  Q4q (X7 r k) b=false→Z7 (d+1) (X7 r k) u=none:=by
 intro hfit
 simp only [X6,Bool.and_eq_true,Bool.or_eq_true,decide_eq_true_eq] at hf
 rcases hp.2.2 with h1 | h3 | h4
 ·simp [Q4q,h1] at hfit
 ·rw [Z7,if_neg (by omega),if_neg (by omega),if_pos h3]
  rw [Q4q,if_neg (by omega),if_pos h3] at hfit
  rcases Z1u (Q04 hp.1) with h | h | h | h | h | h<;>try omega
  obtain ⟨_,hd,g0,g1,g2⟩:=h
  refine if_neg fun hin=>?_
  unfold brsD at hb
  rw [if_pos hd] at hb
  obtain ⟨q1,q2,q3⟩:=Z31 10 1 0 (by omega) (fun c h1 h2=>by omega) b hb
  have hc:=Q9q _ _ _ _ b hb
  rcases hf.2 with h | h
  ·exact absurd hc h
  simp only [Bool.and_eq_false_iff,decide_eq_false_iff_not] at hfit
  have hcut:∀ n,(n=(X7 r k).n∨n=(X7 r k).m+1)→cutB rows k n=true:=fun n hn=>by
   simp only [cutB,Bool.or_eq_true,decide_eq_true_eq]
   right
   unfold endB
   rw [List.any_eq_true]
   refine ⟨r,hr,?_⟩
   simp only [h3,decide_true,Bool.true_and,Bool.or_eq_true,decide_eq_true_eq]
   omega
  rcases hfit with h5 | h5
  ·have:=q3 (X7 r k).n (by omega) (by omega)
   rw [hcut _ (.inl rfl)] at this
   cases this
  ·have:=q3 ((X7 r k).m+1) (by omega) (by omega)
   rw [hcut _ (.inr rfl)] at this
   cases this
 ·rw [Z7,if_neg (by omega),if_neg (by omega),if_neg (by omega),if_neg (by omega),if_neg (by omega)]
  rw [Q4q,if_neg (by omega),if_neg (by omega),decide_eq_false_iff_not] at hfit
  exact if_neg fun h=>hfit (by omega)
def cntV:Q1→Nat
 | ⟨_,_,kids⟩=>1+cntVs kids
where cntVs:List Q1→Nat
 | []=>0
 | v::l=>cntV v+cntVs l
theorem Q5g (v:Q1):cntV v=1+cntV.cntVs v.kids:=by cases v;rw [cntV]
theorem Q8g:∀ (l:List Q1) (k:Nat) (q:Q1),l[k]?=some q→cntV.cntVs (l.take (k+1))=cntV.cntVs (l.take k)+cntV q
 | [],k,q,h=>by simp at h
 | p::l,0,q,h=>by simp at h;subst h;simp [cntV.cntVs]
 | p::l,k+1,q,h=>by
  have:=Q8g l k q (by simpa using h)
  simp only [List.take_succ_cons,cntV.cntVs]
  omega
theorem Q70:∀ (l:List Q1) (k:Nat),cntV.cntVs (l.take k)≤cntV.cntVs l
 | [],k=>by simp
 | p::l,0=>by simp [cntV.cntVs]
 | p::l,k+1=>by
  have:=Q70 l k
  simp only [List.take_succ_cons,cntV.cntVs]
  omega
def Q33 (w:List Q3):Nat→Q4→Q1→Bool
 | 0,_,_=>false
 | d+1,t,v=>if t.data = -1 then decide (v.ctor = -1)&&(decide (0≤v.n)&&(decide (v.n≤9)&&decide (v.kids.length=0)))
  else decide (v.n=0)&&(decide (v.ctor∈X3 w t)&&(decide (v.kids.length=(V6 w t v.ctor).length)&&((V6 w t v.ctor).zip v.kids).all fun x=>Q33 w d x.1 x.2))
theorem X0i {w:List Q3} : ∀ (d:Nat) (t:Q4) (v:Q1),Q33 w d t v=true↔Q46 w d t v:=by
 intro d
 induction d with
 | zero=>intro t v;simp [Q33,Q46]
 | succ d ih=>
  intro t v
  rw [Q33,Q46]
  split
  ·simp only [Bool.and_eq_true,decide_eq_true_eq,List.length_eq_zero_iff]
  ·simp only [Bool.and_eq_true,decide_eq_true_eq,List.all_eq_true]
   constructor
   ·rintro ⟨h1,h2,h3,h4⟩
    exact ⟨h1,h2,h3,fun j a x ha hx=>(ih a x).1 (h4 (a,x) (U1 (Q6k ha hx)))⟩
   ·rintro ⟨h1,h2,h3,h4⟩
    refine ⟨h1,h2,h3,fun x hx=>?_⟩
    obtain ⟨j,hj⟩:=List.mem_iff_getElem?.1 hx
    obtain ⟨e1,e2⟩:=List.getElem?_zip_eq_some.1 hj
    exact (ih _ _).2 (h4 j _ _ e1 e2)
def okV (w:List Q3) (d:Nat) (t:Q4) (v:Q1) (c:Nat):Bool:=Q33 w d t v&&decide (c+cntV v≤60)
def Q8i (w:List Q3) (t:Q4) (v:Q1):Bool:=Q33 w 10 t v&&decide (cntV v≤60)
theorem Q9y {w:List Q3} {t:Q4} {v:Q1} (h:Q8i w t v=true):Q46 w 10 t v:=by
 simp only [Q8i,Bool.and_eq_true] at h
 exact (X0i 10 t v).1 h.1
theorem W3z {w:List Q3} {d:Nat} {t:Q4} {v:Q1} {c:Nat} (h:Q33 w d t v=false):okV w d t v c=false:=by simp [okV,h]
theorem V4y {w:List Q3} (hw:WW w):∀ (d n:Nat) (t:Q4) (v:Q1) (c:Nat),t∈tys w→c≤60→d+2≤n→d≤10→
  Ret (Q0c n w t v (11-(d:Int)) false (c:Int)) (fun r=>r.1=okV w d t v c∧(okV w d t v c=true→r.2=((c+cntV v:Nat):Int))):=by
 intro d
 induction d with
 | zero=>
  intro n t v c ht hc hn hd
  obtain ⟨n,rfl⟩:∃ k,n=k+1:=⟨n-1,by omega⟩
  have hb:okV w 0 t v c=false:=W3z rfl
  unfold Q0c
  refine Ret.ite (fun _=>.some ⟨hb.symm,fun h=>by rw [hb] at h;cases h⟩) (fun _=>?_)
  rw [if_pos (by rw [X4];omega)]
  exact .some ⟨hb.symm,fun h=>by rw [hb] at h;cases h⟩
 | succ d ih=>
  intro n t v c ht hc hn hd
  obtain ⟨n,rfl⟩:∃ k,n=k+1:=⟨n-1,by omega⟩
  have hT:=hw.ty t ht
  unfold Q0c
  have hc1:wadd .i64 (c:Int) 1=((c+1:Nat):Int):=by rw [Y5]<;>omega
  rw [hc1]
  have hpos:1≤cntV v:=by rw [Q5g];omega
  refine Ret.ite (fun hlt=>?_) (fun hle=>?_)
  ·rw [X4] at hlt
   have hb:okV w (d+1) t v c=false:=by simp only [okV,Bool.and_eq_false_iff,decide_eq_false_iff_not];right;omega
   exact .some ⟨hb.symm,fun h=>by rw [hb] at h;cases h⟩
  rw [W1] at hle
  rw [if_neg (by rw [X4];omega),if_neg (by simp)]
  have bad:Q33 w (d+1) t v=false→okV w (d+1) t v c=false:=W3z
  refine Ret.ctl (R:=fun r:Bool×Int=>r.1=okV w (d+1) t v c∧(okV w (d+1) t v c=true→r.2=((c+cntV v:Nat):Int))) (B:=fun _:Unit=>t.data≠-1∧v.n=0∧v.ctor∈X3 w t) ?_ (fun r hr=>.some hr) (fun s hs=>?_)
  ·refine Ret.ite (fun hi=>?_) (fun hi=>?_)
   ·rw [Q8] at hi
    have hg:Q33 w (d+1) t v=(decide (v.ctor = -1)&&(decide (0≤v.n)&&(decide (v.n≤9)&&decide (v.kids.length=0)))):=by rw [Q33,if_pos hi]
    refine Ret.ite (fun h1=>?_) (fun h1=>?_)
    ·rw [Q8] at h1
     rw [Q7g]
     simp only [U0]
     refine Ret.ite (fun h2=>?_) (fun h2=>?_)
     ·simp only [Bool.and_eq_true,decide_eq_true_eq] at h2
      have hk:Q33 w (d+1) t v=decide (v.kids.length=0):=by rw [hg];simp [h1,h2.1,h2.2]
      refine .some ?_
      have h0:v.kids.length=0→cntV v=1:=fun h=>by rw [Q5g,List.eq_nil_of_length_eq_zero h];rfl
      by_cases hz:v.kids.length=0
      ·have e1:okV w (d+1) t v c=true:=by simp only [okV,hk,hz,decide_true,Bool.true_and,decide_eq_true_eq];have:=h0 hz;omega
       rw [e1]
       refine ⟨?_,fun _=>?_⟩
       ·simp only [Q8,lenZ];omega
       ·have:=h0 hz;simp only;omega
      ·have e1:okV w (d+1) t v c=false:=bad (by rw [hk];simp [hz])
       rw [e1]
       refine ⟨?_,fun h=>by cases h⟩
       simp only [Z9,lenZ];omega
     ·have e1:okV w (d+1) t v c=false:=bad (by
       rw [hg]
       simp only [Bool.and_eq_false_iff,decide_eq_false_iff_not] at h2 ⊢
       rcases h2 with h2 | h2
       ·exact .inr (.inl h2)
       ·exact .inr (.inr (.inl h2)))
      exact .some ⟨e1.symm,fun h=>by rw [e1] at h;cases h⟩
    ·rw [Z9] at h1
     have e1:okV w (d+1) t v c=false:=bad (by rw [hg];simp [h1])
     exact .some ⟨e1.symm,fun h=>by rw [e1] at h;cases h⟩
   ·rw [Z9] at hi
    have hg:Q33 w (d+1) t v=(decide (v.n=0)&&(decide (v.ctor∈X3 w t)&&(decide (v.kids.length=(V6 w t v.ctor).length)&&((V6 w t v.ctor).zip v.kids).all fun x=>Q33 w d x.1 x.2))):=by rw [Q33,if_neg hi]
    refine Ret.ite (fun h1=>?_) (fun h1=>?_)
    ·rw [Bool.not_eq_true',Z9] at h1
     have e1:okV w (d+1) t v c=false:=bad (by rw [hg];simp [h1])
     exact .some ⟨e1.symm,fun h=>by rw [e1] at h;cases h⟩
    rw [Bool.not_eq_false',Q8] at h1
    rw [hT.c2]
    simp only [U0]
    rw [Q8v]
    simp only [U0]
    refine Ret.ite (fun h2=>?_) (fun h2=>?_)
    ·rw [Bool.not_eq_true',decide_eq_false_iff_not] at h2
     have e1:okV w (d+1) t v c=false:=bad (by rw [hg];simp [h2])
     exact .some ⟨e1.symm,fun h=>by rw [e1] at h;cases h⟩
    rw [Bool.not_eq_false',decide_eq_true_eq] at h2
    exact .some ⟨hi,h1,h2⟩
  ·obtain ⟨s1,s2,s3⟩:=hs
   have hg:Q33 w (d+1) t v=(decide (v.kids.length=(V6 w t v.ctor).length)&&((V6 w t v.ctor).zip v.kids).all fun x=>Q33 w d x.1 x.2):=by rw [Q33,if_neg s1];simp [s2,s3]
   rw [hT.a2 _ s3]
   simp only [U0]
   refine Ret.ite (fun hl=>?_) (fun hl=>?_)
   ·rw [Bool.not_eq_true',Z9] at hl
    simp only [lenZ] at hl
    have e1:okV w (d+1) t v c=false:=bad (by rw [hg];simp only [Bool.and_eq_false_iff,decide_eq_false_iff_not];left;omega)
    exact .some ⟨e1.symm,fun h=>by rw [e1] at h;cases h⟩
   rw [Bool.not_eq_false',Q8] at hl
   simp only [lenZ] at hl
   have hcv:=Q5g v
   refine Ret.ctl (Z4 v.kids (fun k s=>s=((c+1+cntV.cntVs (v.kids.take k):Nat):Int)∧c+1+cntV.cntVs (v.kids.take k)≤60∧∀ (j:Nat) (a:Q4) (x:Q1),j<k→(V6 w t v.ctor)[j]?=some a→v.kids[j]?=some x→Q33 w d a x=true) (fun r:Bool×Int=>r.1=okV w (d+1) t v c∧(okV w (d+1) t v c=true→r.2=((c+cntV v:Nat):Int))) (fun s=>s=((c+cntV v:Nat):Int)∧okV w (d+1) t v c=true) ⟨by simp [cntV.cntVs],by simp only [List.take_zero,cntV.cntVs];omega,fun j a x hj=>by omega⟩ (fun k x s hx hI=>?_) (fun s hI=>?_)) (fun r hr=>.some hr) (fun s hs=>.some ⟨hs.2.symm,fun _=>hs.1⟩)
   ·obtain ⟨rfl,i2,i3⟩:=hI
    have hk:=(List.getElem?_eq_some_iff.1 hx).1
    have ha:(V6 w t v.ctor)[k]?=some ((V6 w t v.ctor)[k]'(by omega)):=by simp
    rw [Q2a ha]
    simp only [U0]
    have hdd:wadd .i64 (11-((d+1:Nat):Int)) 1=11-(d:Int):=by rw [Y5]<;>omega
    rw [hdd]
    refine Ret.bind (ih n _ x _ (hT.at_ _ s3 _ (U1 ha)) i2 (by omega) (by omega)) (fun r hr=>?_)
    obtain ⟨r1,r2⟩:=hr
    have htk:=Q8g v.kids k x hx
    refine Ret.ite (fun h=>?_) (fun h=>?_)
    ·rw [Bool.not_eq_true',r1] at h
     have e1:okV w (d+1) t v c=false:=by
      simp only [okV,Bool.and_eq_false_iff,decide_eq_false_iff_not] at h ⊢
      rcases h with h | h
      ·left
       rw [hg,Bool.and_eq_false_iff]
       right
       rw [List.all_eq_false]
       exact ⟨_,U1 (Q6k ha hx),by simp [h]⟩
      ·right
       have:=Q70 v.kids (k+1)
       omega
     exact .some ⟨e1.symm,fun h=>by rw [e1] at h;cases h⟩
    ·rw [Bool.not_eq_false',r1] at h
     have r3:=r2 h
     simp only [okV,Bool.and_eq_true,decide_eq_true_eq] at h
     refine .some ⟨?_,by omega,fun j a y hj h1 h2=>?_⟩
     ·rw [r3];omega
     ·by_cases hjk:j=k
      ·subst hjk
       rw [ha] at h1
       rw [hx] at h2
       cases h1
       cases h2
       exact h.1
      ·exact i3 j a y (by omega) h1 h2
   ·obtain ⟨rfl,i2,i3⟩:=hI
    rw [List.take_length] at i2 ⊢
    refine ⟨by omega,?_⟩
    simp only [okV,Bool.and_eq_true,decide_eq_true_eq]
    refine ⟨?_,by omega⟩
    rw [hg]
    simp only [Bool.and_eq_true,decide_eq_true_eq,List.all_eq_true]
    refine ⟨by omega,fun y hy=>?_⟩
    obtain ⟨j,hj⟩:=List.mem_iff_getElem?.1 hy
    obtain ⟨e1,e2⟩:=List.getElem?_zip_eq_some.1 hj
    exact i3 j _ _ (List.getElem?_eq_some_iff.1 e2).1 e1 e2
theorem Z5u {w:List Q3} (hw:WW w) {t:Q4} (ht:t∈tys w) (v:Q1):Q3v NN w t v=some (Q8i w t v):=by
 suffices hs:Ret (Q3v NN w t v) (fun r=>r=Q8i w t v) by
  obtain ⟨a,e,rfl⟩:=hs
  exact e
 unfold Q3v
 refine Ret.bind (V4y hw 10 NN t v 0 ht (by omega) (by decide) (by omega)) (fun r hr=>.some ?_)
 rw [hr.1]
 simp [okV,Q8i]
theorem Z47 {w:List Q3} : ∀ (d e:Nat) (t:Q4) (v:Q1),d≤e→Q46 w d t v→Q46 w e t v:=by
 intro d
 induction d with
 | zero=>intro e t v _ h;exact h.elim
 | succ d ih=>
  intro e t v he h
  obtain ⟨e,rfl⟩:∃ k,e=k+1:=⟨e-1,by omega⟩
  rw [Q46] at h ⊢
  split
  ·rename_i hd;rw [if_pos hd] at h;exact h
  ·rename_i hd
   rw [if_neg hd] at h
   exact ⟨h.1,h.2.1,h.2.2.1,fun j a x ha hx=>ih e a x (by omega) (h.2.2.2 j a x ha hx)⟩
theorem X2x {w:List Q3} {v:Q1} : ∀ (ps:List Q0) (args:List Z5) (us:List Q1),ps.length=args.length→us.length=args.length→
  (∀ (j:Nat) (p:Q0) (c:Z5) (u:Q1),ps[j]?=some p→args[j]?=some c→us[j]?=some u→PatO w c.t p∧Q7j v c.path=some u)→
  ∃ zb,Q2h ((zipS ps args).flatMap (·.1)) v=some zb∧((V3 (Z7 12) ps us=none∧V3 (Z7 12) ((zipS ps args).map (·.2)) us=none)∨∃ p z,V3 (Z7 12) ps us=some p∧V3 (Z7 12) ((zipS ps args).map (·.2)) us=some z∧p.Perm (zb++z))
 | [],[],[],_,_,_=>⟨[],rfl,.inr ⟨[],[],rfl,rfl,by simp⟩⟩
 | p::ps,c::args,u::us,h1,h2,h=>by
  obtain ⟨hp,hu⟩:=h 0 p c u rfl rfl rfl
  obtain ⟨zb,e1,e2⟩:=X2x (w:=w) (v:=v) ps args us (by simpa using h1) (by simpa using h2) fun j p c u a1 a2 a3=>h (j+1) p c u (by simpa using a1) (by simpa using a2) (by simpa using a3)
  have hz:zipS (p::ps) (c::args)=Q5t p c.path::zipS ps args:=rfl
  have hs:=Z6v c.path hp
  have hm:=V0x c.path u hp.1
  rw [hz]
  simp only [List.flatMap_cons,List.map_cons]
  rw [Z0o,Z0n hu hs.2.2,e1]
  refine ⟨_,rfl,?_⟩
  simp only [V3]
  rw [hm]
  cases Z7 12 (Q5t p c.path).2 u with
  | none=>exact .inl ⟨rfl,rfl⟩
  | some l1=>
   simp only [Option.map_some]
   rcases e2 with ⟨e3,e4⟩ | ⟨q,z,e3,e4,e5⟩
   ·rw [e3,e4];exact .inl ⟨rfl,rfl⟩
   ·rw [e3,e4]
    refine .inr ⟨_,_,rfl,rfl,?_⟩
    rw [List.append_assoc,List.append_assoc]
    refine List.Perm.append_left _ ?_
    refine (List.Perm.append_left l1 e5).trans ?_
    rw [←List.append_assoc,←List.append_assoc]
    exact List.Perm.append_right _ List.perm_append_comm
 | [],[],_::_,_,h,_=>by simp at h
 | [],_::_,_,h,_,_=>by simp at h
 | _::_,[],_,h,_,_=>by simp at h
 | _::_,_::_,[],_,h,_=>by simp at h
def X1h (b:Q9) (u:Q1):List Q1:=if b.ctor = -1 then [] else u.kids
def usD (us:List Q1) (k:Nat) (b:Q9) (u:Q1):List Q1:=us.take k++X1h b u++us.drop (k+1)
theorem Z7r {w:List Q3} {col:Z5} {b:Q9} (hB:BrC w col.t b) {u:Q1} {e:Nat} (hu:Q46 w e col.t u) (hf:X6 b u=true):(X1h b u).length=(V5 w col b).length:=by
 rw [Q72]
 unfold X1h
 split
 ·rfl
 ·rename_i hc
  have hd:col.t.data≠-1:=fun hd=>hc (hB.int hd)
  simp only [X6,Bool.and_eq_true,decide_eq_true_eq] at hf
  cases e with
  | zero=>exact hu.elim
  | succ e=>
   rw [Q46,if_neg hd] at hu
   rw [hu.2.2.1,hf.1]
theorem W0z {w:List Q3} (hS:WS w) {col:Z5} (ht:col.t∈tys w) {b:Q9} (hB:BrC w col.t b) {p:Q0} (hp:PatC w col.t p) {u:Q1} {e:Nat} (hu:Q46 w e col.t u) (hf:X6 b u=true) (hfit:Q4q p b=true) :
  Z7 12 p u=V3 (Z7 12) (Q2f p (V5 w col b)) (X1h b u):=by
 have hlen:=Z7r hB hu hf
 have hn:=Q04 hp.1
 rcases hp.2.2 with h1 | h3 | h4
 ·rw [Q2f,if_pos h1,Z7,if_pos h1]
  rw [Z51 (d:=11) (fun q hq=>by obtain ⟨_,_,rfl⟩:=U10.1 hq;rfl) (by rw [U7,hlen])]
 ·rw [Q2f,if_neg (by omega)]
  have hk:=Z2q hn (by omega) (by omega) (by omega)
  rcases Z1u hn with h | h | h | h | h | h<;>try omega
  have hbi:=hB.int h.2.1
  simp only [X6,Bool.and_eq_true,Bool.or_eq_true,decide_eq_true_eq] at hf
  rw [Q4q,if_neg (by omega),if_pos h3] at hfit
  simp only [Bool.and_eq_true,decide_eq_true_eq] at hfit
  rw [hk,Z7,if_neg (by omega),if_neg (by omega),if_pos h3]
  rcases hf.2 with h5 | h5
  ·exact absurd hbi h5
  rw [if_pos (by omega)]
  rfl
 ·rw [Q2f,if_neg (by omega)]
  have hct:=Q82 (Q0w hn).1 h4
  have hd:col.t.data≠-1:=fun hd=>by rw [hS.int _ ht hd] at hct;cases hct
  have hb:=(hB.ctor hd).2
  rw [Q4q,if_neg (by omega),if_neg (by omega),decide_eq_true_eq] at hfit
  simp only [X6,Bool.and_eq_true,decide_eq_true_eq] at hf
  rw [Z7,if_neg (by omega),if_neg (by omega),if_neg (by omega),if_neg (by omega),if_neg (by omega),if_pos (by omega),X1h,if_neg hb]
  refine Z1a _ _ fun j q x hq _=>?_
  have hj:=(List.getElem?_eq_some_iff.1 hq).1
  have ha:(Y0 w col.t p)[j]?=some ((Y0 w col.t p)[j]'(by rw [←(Q0w hn).2];exact hj)):=by simp
  exact ((Z3z 11 _ q (Y7 hp.1 ha hq)).2.2.2 x).symm
theorem X0o {w:List Q3} {v:Q1} {cols:List Z5} {us:List Q1} (h:W67 w v cols us) {k:Nat} {col:Z5} (hk:cols[k]?=some col) {u:Q1} (hu:us[k]?=some u) {b:Q9} (hB:BrC w col.t b) (hf:X6 b u=true) :
  W67 w v (Q5f cols k (V5 w col b)) (usD us k b u):=by
 obtain ⟨hp,hg⟩:=h.at_ k col u hk hu
 have hkl:=(List.getElem?_eq_some_iff.1 hk).1
 have hl:=Z7r hB hg hf
 have hlen:=h.len
 refine ⟨by simp only [Q5f,usD,U5,U6,List.length_drop,hl];omega,fun j c x hc hx=>?_⟩
 unfold Q5f at hc
 unfold usD at hx
 by_cases h1:j<k
 ·rw [List.append_assoc,List.getElem?_append_left (by rw [U6];omega),List.getElem?_take_of_lt h1] at hc hx
  exact h.at_ j c x hc hx
 ·by_cases h2:j<k+(V5 w col b).length
  ·rw [List.append_assoc,List.getElem?_append_right (by rw [U6];omega),U6,List.getElem?_append_left (by omega)] at hc hx
   rw [show min k us.length=k by omega] at hx
   rw [show min k cols.length=k by omega] at hc
   generalize hi:j-k=i at hc hx
   by_cases hc1:b.ctor = -1
   ·rw [V5,if_pos hc1] at hc;simp at hc
   have hd:col.t.data≠-1:=fun hd=>hc1 (hB.int hd)
   have hil:=(List.getElem?_eq_some_iff.1 hc).1
   rw [Q72,if_neg hc1] at hil
   have hti:(V6 w col.t b.ctor)[i]?=some ((V6 w col.t b.ctor)[i]):=U9 hil
   rw [Z1n hc1 hti] at hc
   cases hc
   rw [X1h,if_neg hc1] at hx
   simp only [X6,Bool.and_eq_true,decide_eq_true_eq] at hf
   rw [Q46,if_neg hd] at hg
   refine ⟨?_,Z47 9 10 _ _ (by omega) (hg.2.2.2 i _ x (by rw [←hf.1];exact hti) hx)⟩
   rw [X0a,hp]
   simp only [U0]
   exact Q2a hx
  ·have hcl:(cols.take k++V5 w col b).length=k+(V5 w col b).length:=by rw [U5,U6];omega
   have hul:(us.take k++X1h b u).length=k+(V5 w col b).length:=by rw [U5,U6,hl];omega
   rw [List.getElem?_append_right (by omega),hcl,List.getElem?_drop] at hc
   rw [List.getElem?_append_right (by omega),hul,List.getElem?_drop] at hx
   exact h.at_ _ c x hc hx
theorem Z40 {α:Type} {l:List α} {k:Nat} {x:α} (h:l[k]?=some x):l=l.take k++([x]++l.drop (k+1)):=by
 have:=Z30 h
 rw [List.singleton_append,←this,List.take_append_drop]
theorem Z43 {w:List Q3} (hS:WS w) {lst:List Q6} {v:Q1} {cols:List Z5} {us:List Q1} (h:W67 w v cols us) {k:Nat} {col:Z5} (hk:cols[k]?=some col) (ht:col.t∈tys w) {u:Q1} (hu:us[k]?=some u) {b:Q9} (hB:BrC w col.t b) (hf:X6 b u=true)
  {r:Grow} (hr:RowC w lst cols r) {rb:List X8} (hrb:Q2h r.binds v=some rb) (hfit:Q4q (X7 r k) b=true) :
  (∃ kb,Q2h (Q6z r k (V5 w col b)).binds v=some kb)∧((rowB r v us=none∧rowL r us=none∧rowL (Q6z r k (V5 w col b)) (usD us k b u)=none)∨∃ x y,rowB r v us=some x∧(rowL r us).isSome=true∧rowB (Q6z r k (V5 w col b)) v (usD us k b u)=some y∧(rowL (Q6z r k (V5 w col b)) (usD us k b u)).isSome=true∧x.Perm y):=by
 obtain ⟨hkl,hp⟩:=hr.at hk
 obtain ⟨hpv,hg⟩:=h.at_ k col u hk hu
 have hul:=(List.getElem?_eq_some_iff.1 hu).1
 have hlen:=h.len
 have hrl:=hr.len
 have hpk:r.pats[k]?=some (X7 r k):=by unfold X7;rw [U9 hkl];rfl
 obtain ⟨c1,c2,_⟩:=X8n hS ht hp hB hfit rfl
 have hkU:=Z7r hB hg hf
 have hnx:=X0o h hk hu hB hf
 obtain ⟨zb,e1,e2⟩:=X2x (w:=w) (v:=v) (Q2f (X7 r k) (V5 w col b)) (V5 w col b) (X1h b u) c1 hkU fun j p c x a1 a2 a3=>⟨c2 j p c a1 a2,by
  have hjl:=(List.getElem?_eq_some_iff.1 a2).1
  refine (hnx.at_ (k+j) c x ?_ ?_).1
  ·unfold Q5f
   rw [List.append_assoc,List.getElem?_append_right (by rw [U6];omega),U6,List.getElem?_append_left (by omega),show k+j-min k cols.length=j by omega]
   exact a2
  ·unfold usD
   rw [List.append_assoc,List.getElem?_append_right (by rw [U6];omega),U6,List.getElem?_append_left (by omega),show k+j-min k us.length=j by omega]
   exact a3⟩
 rw [←W0z hS ht hB hp hg hf hfit] at e2
 have hR:rowL r us=(V3 (Z7 12) (r.pats.take k) (us.take k)).bind fun a=>((Z7 12 (X7 r k) u).bind fun p=>(V3 (Z7 12) (r.pats.drop (k+1)) (us.drop (k+1))).map (p++·)).map (a++·):=by
  unfold rowL
  conv=>lhs;rw [Z40 hpk,Z40 hu]
  rw [Q5i _ _ _ _ (by simp only [U6];omega)]
  congr 1
  funext a
  congr 1
  rw [Q5i _ _ _ _ (by simp)]
  simp only [V3]
  cases Z7 12 (X7 r k) u<;>simp
 have hK:rowL (Q6z r k (V5 w col b)) (usD us k b u)=(V3 (Z7 12) (r.pats.take k) (us.take k)).bind fun a=>((V3 (Z7 12) ((zipS (Q2f (X7 r k) (V5 w col b)) (V5 w col b)).map (·.2)) (X1h b u)).bind fun p=>(V3 (Z7 12) (r.pats.drop (k+1)) (us.drop (k+1))).map (p++·)).map (a++·):=by
  unfold rowL Q6z usD
  simp only
  rw [List.append_assoc,List.append_assoc,Q5i _ _ _ _ (by simp only [U6];omega)]
  congr 1
  funext a
  congr 1
  rw [Q5i _ _ _ _ (by simp only [U7,zipS,List.length_zipWith];omega)]
 have hKb:Q2h (Q6z r k (V5 w col b)).binds v=some (rb++zb):=by
  unfold Q6z
  simp only
  rw [Z0o,hrb,e1]
  rfl
 refine ⟨⟨_,hKb⟩,?_⟩
 unfold rowB
 rw [hrb,hKb,hR,hK]
 simp only [U0]
 cases V3 (Z7 12) (r.pats.take k) (us.take k) with
 | none=>exact .inl ⟨rfl,rfl,rfl⟩
 | some a=>
 simp only [U0]
 rcases e2 with ⟨e3,e4⟩ | ⟨p,z,e3,e4,e5⟩
 ·rw [e3,e4];exact .inl ⟨rfl,rfl,rfl⟩
 ·rw [e3,e4]
  simp only [U0]
  cases V3 (Z7 12) (r.pats.drop (k+1)) (us.drop (k+1)) with
  | none=>exact .inl ⟨rfl,rfl,rfl⟩
  | some c=>
   refine .inr ⟨_,_,rfl,rfl,rfl,rfl,?_⟩
   simp only [List.append_assoc]
   refine List.Perm.append_left _ ?_
   refine ((e5.append_right c).append_left a).trans ?_
   have h9:(a++zb++(z++c)).Perm (zb++a++(z++c)):=List.Perm.append_right _ List.perm_append_comm
   simpa only [List.append_assoc] using h9
theorem X7b {α:Type} {l:List α} {f g:α→Bool} (h:∀ x∈l,f x=g x):l.find? f=l.find? g:=by
 induction l with
 | nil=>rfl
 | cons a l ih=>
  rw [List.find?_cons,List.find?_cons,h a (by simp),ih fun x hx=>h x (by simp [hx])]
theorem X6i (rows:List Grow) (k:Nat) (b:Q9) (args:List Z5) (c:Int):Q3x (Q4x rows k b args) c=Q4x (Q3x rows c) k b args:=by
 unfold Q3x Q4x
 rw [List.filter_map,List.filter_filter,List.filter_filter]
 congr 1
 refine List.filter_congr fun r _=>?_
 simp only [Function.comp,Q6z]
 exact Bool.and_comm _ _
def V0t (w:List Q3) (lst:List Q6) (cols:List Z5) (v:Q1) (rows:List Grow):Prop:=∀ r∈rows,RowC w lst cols r∧∃ l,Q2h r.binds v=some l
theorem W56 {w:List Q3} : ∀ (d:Nat) (t:Q4) (p:Q0),Q0l w d t p=true→Z9q d p→∀ v l,Z7 d p v=some l→l.map (·.var)=Q52 p:=by
 intro d
 induction d with
 | zero=>intro t p h;simp [Q0l] at h
 | succ d ih=>
  intro t p g hf v l hm
  have hn:=Q04 g
  obtain ⟨ho,hl⟩:=Q0w hn
  have h5:=hf.1
  rw [Q9x,Q74]
  rw [Z7] at hm
  by_cases h1:p.op=1
  ·rw [if_pos h1] at hm
   cases hm
   rw [Z2q hn (by omega) (by omega) (by omega),if_neg (by omega)];rfl
  rw [if_neg h1] at hm
  by_cases h2:p.op=2
  ·rw [if_pos h2] at hm
   cases hm
   rw [Z2q hn (by omega) (by omega) (by omega),if_pos (.inl h2)];rfl
  rw [if_neg h2] at hm
  by_cases h3:p.op=3
  ·rw [if_pos h3] at hm
   split at hm
   ·cases hm
    rw [Z2q hn (by omega) (by omega) (by omega),if_neg (by omega)];rfl
   ·cases hm
  rw [if_neg h3,if_neg h5] at hm
  by_cases h6:p.op=6
  ·rw [if_pos h6] at hm
   obtain ⟨a,hk,hkt⟩:=Z7s h6 hl
   have ga:=Y7 g (k:=0) (a:=t) (q:=a) (by rw [hkt];rfl) (by rw [hk];rfl)
   rw [hk] at hm
   simp only [U11] at hm
   obtain ⟨m,hm,rfl⟩:=hm
   rw [if_pos (.inr h6),hk,List.map_cons,ih t a ga (hf.2 a (by rw [hk];simp)) v m hm]
   simp
  rw [if_neg h6] at hm
  rw [if_neg (by omega),List.nil_append]
  split at hm
  ·have gen:∀ (ts:List Q4) (ps:List Q0) (vs:List Q1) (l:List X8),ts.length=ps.length→(∀ x∈ts.zip ps,∀ v l,Z7 d x.2 v=some l→l.map (·.var)=Q52 x.2)→V3 (Z7 d) ps vs=some l→l.map (·.var)=ps.flatMap Q52:=by
    intro ts ps
    induction ps generalizing ts with
    | nil=>intro vs l _ _ h;simp only [V3] at h;cases h;rfl
    | cons q ps ihp=>
     intro vs l hl hx h
     cases ts with
     | nil=>simp at hl
     | cons a ts=>
      cases vs with
      | nil=>cases h
      | cons u vs=>
       simp only [V3] at h
       cases hq:Z7 d q u with
       | none=>rw [hq] at h;cases h
       | some l1=>
        rw [hq] at h
        simp only at h
        cases hps:V3 (Z7 d) ps vs with
        | none=>rw [hps] at h;cases h
        | some l2=>
         rw [hps] at h
         cases h
         rw [List.map_append,List.flatMap_cons,hx (a,q) (by simp) u l1 hq,ihp ts vs l2 (by simpa using hl) (fun x hxx=>hx x (by simp [hxx])) hps]
   refine gen (Y0 w t p) p.kids v.kids l hl.symm (fun x hx v l h=>?_) hm
   obtain ⟨j,hj⟩:=List.mem_iff_getElem?.1 hx
   obtain ⟨e1,e2⟩:=List.getElem?_zip_eq_some.1 hj
   exact ih _ _ (Y7 g e1 e2) (hf.2 _ (U1 e2)) v l h
  ·cases hm
theorem Z7l {w:List Q3} : ∀ (ps:List Q0) (us:List Q1) (l:List X8),(∀ p∈ps,∃ t,PatO w t p)→V3 (Z7 12) ps us=some l→l.map (·.var)=ps.flatMap Q52
 | [],_,l,_,h=>by simp only [V3,Option.some.injEq] at h;subst h;rfl
 | _::_,[],_,_,h=>by simp [V3] at h
 | p::ps,u::us,l,hp,h=>by
  simp only [V3] at h
  cases hq:Z7 12 p u with
  | none=>rw [hq] at h;cases h
  | some l1=>
   rw [hq] at h
   simp only at h
   cases hps:V3 (Z7 12) ps us with
   | none=>rw [hps] at h;cases h
   | some l2=>
    rw [hps] at h
    cases h
    obtain ⟨t,g,f⟩:=hp p (by simp)
    rw [List.map_append,List.flatMap_cons,W56 12 t p g f u l1 hq,Z7l ps us l2 (fun x hx=>hp x (by simp [hx])) hps]
theorem Z2k {w:List Q3} {lst:List Q6} {cols:List Z5} {r:Grow} (h:RowC w lst cols r) {v:Q1} {us:List Q1} {l:List X8} (hl:rowB r v us=some l):X2o l:=by
 have hvars:l.map (·.var)=Z96 r:=by
  unfold rowB at hl
  cases hb:Q2h r.binds v with
  | none=>rw [hb] at hl;simp at hl
  | some l1=>
   rw [hb] at hl
   simp only [U0,U11] at hl
   obtain ⟨l2,h2,rfl⟩:=hl
   rw [List.map_append,Z35 hb,Z96]
   congr 1
   refine Z7l (w:=w) r.pats us l2 (fun p hp=>?_) h2
   obtain ⟨j,hj⟩:=List.mem_iff_getElem?.1 hp
   have hjl:=(List.getElem?_eq_some_iff.1 hj).1
   have hlen:=h.len
   have hc:cols[j]?=some (cols[j]'(by omega)):=by simp
   have hx:=h.pat _ (U1 (Q6k hc hj))
   exact ⟨_,hx.1,hx.2.1⟩
 have hn:(l.map (·.var)).Nodup:=by rw [hvars];exact h.nd
 have hr:∀ b∈l,0≤b.var∧b.var≤5:=fun b hb=>h.rg b.var (by rw [←hvars];exact List.mem_map_of_mem hb)
 refine ⟨hn,hr,?_⟩
 have:=Z2p 6 _ hn fun x hx=>by
  obtain ⟨b,hb,rfl⟩:=U10.1 hx
  have:=hr b hb
  omega
 simpa using this
theorem V2j {w:List Q3} (hS:WS w) {lst:List Q6} {v:Q1} {cols:List Z5} {us:List Q1} (h:W67 w v cols us) {k:Nat} {col:Z5} (hk:cols[k]?=some col) (ht:col.t∈tys w) {u:Q1} (hu:us[k]?=some u) {b:Q9} {rows0:List Grow} (hb:b∈brsD w rows0 col.t k) (hB:BrC w col.t b) (hf:X6 b u=true) {RR:List Grow} {x:Int×List X8} (hx:Z4l lst v (usD us k b u) RR x) :
  ∀ rows:List Grow,(∀ r∈rows,r∈rows0)→V0t w lst cols v rows→RR=Q4x rows k b (V5 w col b)→Z4l lst v us rows x:=by
 have hfind:∀ rows:List Grow,(∀ r∈rows,r∈rows0)→V0t w lst cols v rows→(Q4x rows k b (V5 w col b)).find? (hitR (usD us k b u))=(rows.find? (hitR us)).map fun r=>Q6z r k (V5 w col b):=fun rows h0 hR=>by
  unfold Q4x
  rw [List.find?_map,List.find?_filter]
  congr 1
  refine X7b fun r hr=>?_
  obtain ⟨hC,rb,hrb⟩:=hR r hr
  simp only [Function.comp]
  cases hfit:Q4q (X7 r k) b with
  | false=>
   have hn:=X0l hb (h0 r hr) (hC.at hk).2 (h.at_ k col u hk hu).2 hf 11 hfit
   have hkl:=(hC.at hk).1
   have hpk:r.pats[k]?=some (X7 r k):=by unfold X7;rw [U9 hkl];rfl
   have hrl:=hC.len
   have hlen:=h.len
   have:rowL r us=none:=by
    unfold rowL
    rw [Z40 hpk,Z40 hu,Q5i _ _ _ _ (by simp only [U6];omega),List.singleton_append,List.singleton_append]
    cases V3 (Z7 12) (r.pats.take k) (us.take k) with
    | none=>rfl
    | some a=>simp only [U0,V3];rw [hn];rfl
   simp [hitR,this]
  | true=>
   obtain ⟨_,h2⟩:=Z43 hS h hk ht hu hB hf hC hrb hfit
   simp only [Bool.true_and,decide_eq_true_eq]
   rcases h2 with ⟨_,h3,h4⟩ | ⟨_,_,_,h3,_,h4,_⟩
   ·simp [hitR,h3,h4]
   ·simp [hitR,h3,h4]
 induction hx with
 | none hn=>
  intro rows h0 hR e
  subst e
  rw [hfind rows h0 hR,Option.map_eq_none_iff] at hn
  exact .none hn
 | take h1 h2 h3 h4=>
  intro rows h0 hR e
  subst e
  rw [hfind rows h0 hR,U11] at h1
  obtain ⟨r,hr,rfl⟩:=h1
  have hm:=List.mem_of_find?_eq_some hr
  obtain ⟨hC,rb,hrb⟩:=hR r hm
  have hfit:Q4q (X7 r k) b=true:=by
   cases hfit:Q4q (X7 r k) b with
   | true=>rfl
   | false=>
    have hn:=X0l hb (h0 r hm) (hC.at hk).2 (h.at_ k col u hk hu).2 hf 11 hfit
    exact absurd (List.find?_some hr) (by
     have:=hfind [r] (fun x hx=>by simp only [List.mem_singleton] at hx;rw [hx];exact h0 r hm) (fun x hx=>by simp only [List.mem_singleton] at hx;rw [hx];exact hR r hm)
     simp only [Q4x,List.filter_cons,hfit,U2,if_false,List.filter_nil,List.map_nil,List.find?_nil,List.find?_cons] at this
     intro hh
     rw [hh] at this
     simp at this)
  obtain ⟨_,h5⟩:=Z43 hS h hk ht hu hB hf hC hrb hfit
  rcases h5 with ⟨_,h6,h7⟩ | ⟨a,y,h6,_,h7,_,h8⟩
  ·exact absurd h2 (by unfold rowB;rw [h7];intro hh;cases Q2h (Q6z r k (V5 w col b)).binds v<;>simp at hh)
  ·rw [h7] at h2
   cases h2
   have hbo:=Z2k hC h6
   rw [←Z2w hbo.nd h8] at h4
   rw [←W3a hbo h8]
   show Z4l lst v us rows (r.clause,Q90 a)
   exact .take hr h6 h3 h4
 | skip h1 h2 h3 h4 _ ih=>
  intro rows h0 hR e
  subst e
  rw [hfind rows h0 hR,U11] at h1
  obtain ⟨r,hr,rfl⟩:=h1
  have hm:=List.mem_of_find?_eq_some hr
  obtain ⟨hC,rb,hrb⟩:=hR r hm
  have hfit:Q4q (X7 r k) b=true:=by
   cases hfit:Q4q (X7 r k) b with
   | true=>rfl
   | false=>
    exact absurd (List.find?_some hr) (by
     have:=hfind [r] (fun x hx=>by simp only [List.mem_singleton] at hx;rw [hx];exact h0 r hm) (fun x hx=>by simp only [List.mem_singleton] at hx;rw [hx];exact hR r hm)
     simp only [Q4x,List.filter_cons,hfit,U2,if_false,List.filter_nil,List.map_nil,List.find?_nil,List.find?_cons] at this
     intro hh
     rw [hh] at this
     simp at this)
  obtain ⟨_,h5⟩:=Z43 hS h hk ht hu hB hf hC hrb hfit
  rcases h5 with ⟨_,h6,h7⟩ | ⟨a,y,h6,_,h7,_,h8⟩
  ·exact absurd h2 (by unfold rowB;rw [h7];intro hh;cases Q2h (Q6z r k (V5 w col b)).binds v<;>simp at hh)
  ·rw [h7] at h2
   cases h2
   have hbo:=Z2k hC h6
   rw [←Z2w hbo.nd h8] at h4
   refine .skip hr h6 h3 h4 (ih (Q3x rows r.clause) (fun x hx=>h0 x (Q9m hx)) (fun x hx=>hR x (Q9m hx)) ?_)
   exact X6i rows k b (V5 w col b) r.clause
theorem X5i {P:Q9→X9→Prop} {u:Q1} : ∀ {bs xs:List Q9},brsR P bs xs→(∃ b∈bs,X6 b u=true)→∃ x b,xs.find? (fun b=>X6 b u)=some x∧b∈bs∧X6 b u=true∧P b x.tree
 | [],[],_,⟨_,h,_⟩=>by cases h
 | [],_::_,e,_=>e.elim
 | _::_,[],e,_=>e.elim
 | b::bs,x::xs,⟨⟨e1,e2,e3,e4⟩,e5⟩,h=>by
  have hfx:X6 x u=X6 b u:=by unfold X6;rw [e1,e2,e3]
  rw [List.find?_cons,hfx]
  cases hb:X6 b u with
  | true=>exact ⟨x,b,rfl,by simp,hb,e4⟩
  | false=>
   obtain ⟨c,hc,hcf⟩:=h
   have hc2:c∈bs:=by
    rcases U8.1 hc with rfl | hc
    ·rw [hb] at hcf;cases hcf
    ·exact hc
   obtain ⟨y,c',h1,h2,h3,h4⟩:=X5i e5 ⟨c,hc2,hcf⟩
   exact ⟨y,c',h1,by simp [h2],h3,h4⟩
theorem W7i {w:List Q3} (hww:w∈Q0z) {lst:List Q6} {pick:Int} {v:Q1} : ∀ (d:Nat) (t:X9) (rows:List Grow) (cols:List Z5) (us:List Q1),Q92 w lst pick d t rows cols→V0t w lst cols v rows→ColC w cols d→W67 w v cols us→
  ∃ a bs k,runT d t lst v=some (a,bs,k)∧Z4l lst v us rows (a,bs):=by
 have hw:=ww hww
 have hS:=ws hww
 intro d
 induction d with
 | zero=>intro t rows cols us h;exact h.elim
 | succ d ih=>
  intro t rows cols us h hR hC hV
  have hCd:ColC w cols d:=⟨hC.ty,fun c hc=>by have:=hC.path c hc;omega,by have:=hC.len;omega⟩
  cases rows with
  | nil=>
   simp only [Q92] at h
   subst h
   exact ⟨-1,[],0,by simp [runT,zT],.none rfl⟩
  | cons r0 rest=>
   simp only [Q92] at h
   obtain ⟨h0,rb,hrb⟩:=hR r0 (by simp)
   cases hp:Q9l w (r0::rest) cols pick with
   | none=>
    rw [hp] at h
    simp only at h
    obtain ⟨h1,h2,h3,h4,h5,cl,h6,h7⟩:=h
    have hall:∀ q∈r0.pats,q=anyP:=fun q hq=>by
     obtain ⟨j,hj⟩:=List.mem_iff_getElem?.1 hq
     have hjl:=(List.getElem?_eq_some_iff.1 hj).1
     have hlen:=h0.len
     have hany:Q87 (r0::rest) j=true:=Q8e.1 hp j (by omega)
     have this:(X7 r0 j).op=1:=of_decide_eq_true hany
     have hq2:X7 r0 j=q:=by unfold X7;rw [hj];rfl
     have hc:cols[j]?=some (cols[j]'(by omega)):=by simp
     have hpc:=(h0.at hc).2
     rw [hq2] at this hpc
     exact Z90 (Q04 hpc.1) this
    have hrl:rowL r0 us=some []:=Z51 hall (by rw [h0.len,hV.len])
    have hfind:(r0::rest).find? (hitR us)=some r0:=by rw [List.find?_cons];simp [hitR,hrl]
    have hrB:rowB r0 v us=some rb:=by unfold rowB;rw [hrb,hrl];simp
    have hbo:=Z2k h0 hrB
    obtain ⟨bn,br,_⟩:=h0.binds
    obtain ⟨l',e1,e2⟩:=X7s (Q9k br).symm hrb
    have hl':l'=Q90 rb:=by
     have hs:l'.Pairwise (fun x y=>x.var<y.var):=by
      have h1:=Z5o bn
      have h2:=Z35 e1
      have h3:(l'.map (·.var)).Pairwise (· < ·):=by rw [h2,List.pairwise_map];exact h1
      exact List.pairwise_map.1 h3
     exact Z2i _ _ hs (Q93 hbo.nd) (e2.symm.trans (Q76 hbo.rg).symm)
    rw [hl'] at e1
    have hrun:runT (d+1) t lst v=if Q1j cl.guard rb=true then some (r0.clause,Q90 rb,0) else match t.else_ with
      | el::_=>runT d el lst v
      | []=>none:=by
     rw [runT,if_neg (by omega),if_pos h1,h2,Z0b h0.c0 h6]
     simp only [U0]
     rw [h3,e1]
     simp only [U0]
     rw [Z7u hbo]
     all_goals (cases t.else_<;>rfl)
    rw [hrun]
    cases hg:Q1j cl.guard rb with
    | true=>exact ⟨_,_,_,rfl,.take hfind hrB h6 hg⟩
    | false=>
     rcases h7 with ⟨h7,_⟩ | ⟨h7,el,h8,h9⟩
     ·simp [Q1j,h7] at hg
     ·rw [h8]
      simp only [U2,if_false]
      obtain ⟨a,bs,k,f1,f2⟩:=ih el (Q3x (r0::rest) r0.clause) cols us h9 (fun r hr=>hR r (Q9m hr)) hCd hV
      exact ⟨a,bs,k,f1,.skip hfind hrB h6 hg f2⟩
   | some k=>
    rw [hp] at h
    simp only at h
    obtain ⟨col,h1,h2,h3,h4,h5,h6,h7⟩:=h
    have hkl:=(List.getElem?_eq_some_iff.1 h1).1
    have hlen:=hV.len
    have hu:us[k]?=some (us[k]'(by omega)):=by simp
    generalize us[k]'(by omega)=u at hu
    obtain ⟨hpv,hg⟩:=hV.at_ k col u h1 hu
    have hct:=hC.ty col (U1 h1)
    obtain ⟨x,b,f1,f2,f3,f4⟩:=X5i h7 (W5w hww hct hg (r0::rest) k)
    have hB:=V3z (wl hww) hct b f2
    have hRn:V0t w lst (Q5f cols k (V5 w col b)) v (Q4x (r0::rest) k b (V5 w col b)):=fun r hr=>by
     unfold Q4x at hr
     obtain ⟨r1,g1,rfl⟩:=U10.1 hr
     obtain ⟨g2,g3⟩:=List.mem_filter.1 g1
     obtain ⟨g4,rb1,g5⟩:=hR r1 g2
     exact ⟨RowC.next hw hS hC g4 h1 hB g3,(Z43 hS hV h1 hct hu hB f3 g4 g5 g3).1⟩
    obtain ⟨a,bs,m,e1,e2⟩:=ih x.tree _ _ (usD us k b u) f4 hRn (ColC.next hw hC h1 hB) (X0o hV h1 hu hB f3)
    refine ⟨a,bs,m+1,?_,V2j hS hV h1 hct hu f2 hB f3 e2 (r0::rest) (fun r h=>h) hR rfl⟩
    rw [runT,if_pos h2,h5,hpv]
    simp only [U0]
    rw [f1]
    simp only
    rw [e1]
    rfl
theorem Z5y {α β:Type} {l:List α} {f:α→Option β} {q:α} (h:l.find? (fun q=>(f q).isSome)=some q):l.findSome? f=f q:=by
 induction l with
 | nil=>cases h
 | cons a l ih=>
  rw [List.find?_cons] at h
  rw [List.findSome?_cons]
  cases ha:f a with
  | none=>rw [ha] at h;exact ih h
  | some x=>
   rw [ha] at h
   simp only [Option.isSome_some,Option.some.injEq] at h
   rw [←h,ha]
theorem X3q {v:Q1} : ∀ (cs:List Q6) (k:Nat),(∀ c∈cs,∀ b,Z7 10 c.pat v=some b→Q1j c.guard b=false)→runD v k cs=none
 | [],_,_=>rfl
 | c::cs,k,h=>by
  simp only [runD]
  have ih:=X3q cs (k+1) fun x hx=>h x (by simp [hx])
  cases hm:Z7 10 c.pat v with
  | none=>exact ih
  | some b=>
   simp only
   rw [h c (by simp) b hm]
   simpa using ih
theorem W3j {v:Q1} : ∀ (cs:List Q6) (k i:Nat) (c:Q6) (b:List X8),(∀ (j:Nat) (c':Q6),j<i→cs[j]?=some c'→∀ b,Z7 10 c'.pat v=some b→Q1j c'.guard b=false)→cs[i]?=some c→Z7 10 c.pat v=some b→Q1j c.guard b=true→runD v k cs=some (k+i,Q90 b)
 | [],_,_,_,_,_,h,_,_=>by simp at h
 | c0::cs,k,0,c,b,_,h,hm,hg=>by
  simp only [List.getElem?_cons_zero,Option.some.injEq] at h
  subst h
  simp only [runD,hm,hg,if_true,Nat.add_zero]
 | c0::cs,k,i+1,c,b,h0,h,hm,hg=>by
  simp only [runD]
  have ih:=W3j cs (k+1) i c b (fun j c' hj hc=>h0 (j+1) c' (by omega) (by simpa using hc)) (by simpa using h) hm hg
  rw [show k+1+i=k+(i+1) by omega] at ih
  cases hm0:Z7 10 c0.pat v with
  | none=>exact ih
  | some b0=>
   simp only
   rw [h0 0 c0 (by omega) rfl b0 hm0]
   simpa using ih
theorem Z50 {l:List Q6} {j:Nat} {c:Q6} {q:Q0} (hc:l[j]?=some c) (hq:q∈Z6 10 c.pat):∀ n,j<n→Q2d j q∈Q2n l n
 | 0,h=>by omega
 | n+1,h=>by
  rw [Q2n]
  by_cases hjn:j=n
  ·subst hjn
   rw [hc]
   exact List.mem_append_right _ (List.mem_map_of_mem hq)
  ·exact List.mem_append_left _ (Z50 hc hq n (by omega))
theorem Z2z {l:List Q6} {p:Grow→Bool} {r:Grow} : ∀ n,n≤l.length→(Q2n l n).find? p=some r→
  ∃ i c q,i<n∧l[i]?=some c∧r=Q2d i q∧(Z6 10 c.pat).find? (fun q=>p (Q2d i q))=some q∧∀ (j:Nat) (c':Q6),j<i→l[j]?=some c'→∀ q'∈Z6 10 c'.pat,p (Q2d j q')=false
 | 0,_,h=>by simp [Q2n] at h
 | n+1,hn,h=>by
  rw [Q2n,List.find?_append,Option.or_eq_some_iff] at h
  rcases h with h | ⟨h0,h⟩
  ·obtain ⟨i,c,q,h1,h2⟩:=Z2z n (by omega) h
   exact ⟨i,c,q,by omega,h2⟩
  ·have hc:l[n]?=some (l[n]'(by omega)):=by simp
   rw [hc] at h
   simp only at h
   rw [List.find?_map,U11] at h
   obtain ⟨q,h1,h2⟩:=h
   refine ⟨n,_,q,by omega,hc,h2.symm,h1,fun j c' hj hc' q' hq'=>?_⟩
   have hm:Q2d j q'∈Q2n l n:=Z50 hc' hq' n hj
   simpa using List.find?_eq_none.1 h0 _ hm
theorem X3r {w:List Q3} {t:Q4} {p q:Q0} (g:Q0l w 10 t p=true) (hq:q∈Z6 10 p) (i:Nat) (v:Q1) :
  rowB (Q2d i q) v [v]=Z7 10 q v∧hitR [v] (Q2d i q)=(Z7 10 q v).isSome:=by
 have g10:=Q8a 10 t p q g hq
 have g12:Q0l w 12 t q=true:=Q5d 11 t q (Q5d 10 t q g10)
 have hO:PatO w t q:=⟨g12,Q8q 11 q (Q8q 10 q (Z4s 10 p q hq))⟩
 have e1:Z7 12 q v=Z7 10 q v:=by rw [(Z3z 11 t q (Q5d 10 t q g10)).2.2.2 v,(Z3z 10 t q g10).2.2.2 v]
 have hm:=V0x [] v g12
 have hb:=Z0n (v:=v) (u:=v) (path:=[]) rfl (Z6v [] hO).2.2
 have hL:rowL (Q2d i q) [v]=Z7 12 (Q5t q []).2 v:=by
  unfold rowL Q2d
  simp only [V3]
  cases Z7 12 (Q5t q []).2 v<;>simp
 constructor
 ·unfold rowB
  rw [hL,show (Q2d i q).binds=(Q5t q []).1 from rfl,hb]
  simp only [U0]
  rw [←hm,e1]
 ·unfold hitR
  rw [hL,←e1,hm]
  simp
theorem V7i {w:List Q3} (hw:WW w) (hS:WS w) {t:Q4} (ht:t∈tys w) {l:List Q6} (hl:∀ c∈l,Q0l w 10 t c.pat=true) {v:Q1} {e:Nat} (hv:Q46 w e t v) {RR:List Grow} {x:Int×List X8} (h:Z4l l v [v] RR x) :
  ∀ keep:Int→Bool,RR=(Q2n l l.length).filter (fun r=>keep r.clause)→(∀ (i:Nat) (c:Q6) (b:List X8),l[i]?=some c→keep (i:Int)=false→Z7 10 c.pat v=some b→Q1j c.guard b=false)→x=runR (runD v 0 l):=by
 have hsp:∀ c∈l,(Z6 10 c.pat).findSome? (fun q=>Z7 10 q v)=Z7 10 c.pat v:=fun c hc=>W00 hw hS 10 e t c.pat v ht (hl c hc) hv
 have none_of:∀ (j:Nat) (c:Q6),l[j]?=some c→(∀ q∈Z6 10 c.pat,hitR [v] (Q2d j q)=false)→Z7 10 c.pat v=none:=fun j c hc h=>by
  have hcm:=U1 hc
  rw [←hsp c hcm]
  refine Z8a fun q hq=>?_
  have h1:=h q hq
  rw [(X3r (hl c hcm) hq j v).2] at h1
  simpa using h1
 induction h with
 | none hn=>
  intro keep e hk
  subst e
  rw [List.find?_filter,List.find?_eq_none] at hn
  rw [X3q l 0 fun c hc b hb=>?_]
  ·rfl
  obtain ⟨j,hj⟩:=List.mem_iff_getElem?.1 hc
  have hjl:=(List.getElem?_eq_some_iff.1 hj).1
  cases hkj:keep (j:Int) with
  | false=>exact hk j c b hj hkj hb
  | true=>
   have:=none_of j c hj fun q hq=>by
    have h1:=hn _ (Z50 hj hq l.length hjl)
    have h2:(Q2d j q).clause=(j:Int):=rfl
    rw [h2,hkj] at h1
    simpa using h1
   rw [this] at hb
   cases hb
 | take h1 h2 h3 h4=>
  intro keep e hk
  subst e
  rw [List.find?_filter] at h1
  obtain ⟨i,c,q,hi,hc,rfl,hq,hbef⟩:=Z2z l.length (Nat.le_refl _) h1
  have hcm:=U1 hc
  have hqm:=List.mem_of_find?_eq_some hq
  have h3':l[((Q2d i q).clause).toNat]?=some c:=by
   rw [show ((Q2d i q).clause).toNat=i from rfl];exact hc
  rw [h3'] at h3
  have h3:=Option.some.inj h3
  subst h3
  have hki:keep (i:Int)=true:=by
   have h9:=List.find?_some hq
   simp only [decide_eq_true_eq] at h9
   exact h9.1
  have hfq:(Z6 10 c.pat).find? (fun q=>(Z7 10 q v).isSome)=some q:=by
   rw [←hq]
   refine X7b fun y hy=>?_
   rw [(X3r (hl c hcm) hy i v).2,show (Q2d i y).clause=(i:Int) from rfl,hki]
   simp
  have hmc:Z7 10 c.pat v=Z7 10 q v:=by rw [←hsp c hcm];exact Z5y hfq
  rw [(X3r (hl c hcm) hqm i v).1,←hmc] at h2
  rw [W3j l 0 i c _ (fun j c' hj hc' b hb=>?_) hc h2 h4]
  ·simp [runR,Q2d]
  ·cases hkj:keep (j:Int) with
   | false=>exact hk j c' b hc' hkj hb
   | true=>
    have:=none_of j c' hc' fun q' hq'=>by
     have h1:=hbef j c' hj hc' q' hq'
     rw [show (Q2d j q').clause=(j:Int) from rfl,hkj] at h1
     simpa using h1
    rw [this] at hb
    cases hb
 | skip h1 h2 h3 h4 _ ih=>
  intro keep e hk
  subst e
  rw [List.find?_filter] at h1
  obtain ⟨i,c,q,hi,hc,rfl,hq,hbef⟩:=Z2z l.length (Nat.le_refl _) h1
  have hcm:=U1 hc
  have hqm:=List.mem_of_find?_eq_some hq
  have h3':l[((Q2d i q).clause).toNat]?=some c:=by
   rw [show ((Q2d i q).clause).toNat=i from rfl];exact hc
  rw [h3'] at h3
  have h3:=Option.some.inj h3
  subst h3
  have hki:keep (i:Int)=true:=by
   have h9:=List.find?_some hq
   simp only [decide_eq_true_eq] at h9
   exact h9.1
  have hfq:(Z6 10 c.pat).find? (fun q=>(Z7 10 q v).isSome)=some q:=by
   rw [←hq]
   refine X7b fun y hy=>?_
   rw [(X3r (hl c hcm) hy i v).2,show (Q2d i y).clause=(i:Int) from rfl,hki]
   simp
  have hmc:Z7 10 c.pat v=Z7 10 q v:=by rw [←hsp c hcm];exact Z5y hfq
  rw [(X3r (hl c hcm) hqm i v).1,←hmc] at h2
  refine ih (fun z=>keep z&&decide (z≠(i:Int))) ?_ fun j c' b hc' hkj hb=>?_
  ·unfold Q3x
   rw [List.filter_filter]
   refine List.filter_congr fun r _=>?_
   rw [show (Q2d i q).clause=(i:Int) from rfl,Bool.and_comm]
   simp
  ·simp only [Bool.and_eq_false_iff,decide_eq_false_iff_not] at hkj
   rcases hkj with hkj | hkj
   ·exact hk j c' b hc' hkj hb
   ·have hji:j=i:=by omega
    subst hji
    rw [hc] at hc'
    cases hc'
    rw [h2] at hb
    cases hb
    exact h4
theorem Z1l {w:List Q3} (hww:w∈Q0z) {t:Q4} (ht:t∈tys w) {l:List Q6} {pick:Int} {tr:X9} (h:V4 NN w t l pick=some (tr,true)):canC w t l pick=true:=by
 rw [X8o hww ht] at h
 cases hc:canC w t l pick with
 | true=>rfl
 | false=>rw [hc] at h;simp at h
theorem Z5l {w:List Q3} (hww:w∈Q0z) {t:Q4} (ht:t∈tys w) {l:List Q6} {pick:Int} {tr:X9} (h:V4 NN w t l pick=some (tr,true)) {v:Q1} (hv:Q46 w 10 t v) :
  ∃ k,runT 300 tr l v=some ((runR (runD v 0 l)).1,(runR (runD v 0 l)).2,k):=by
 have hw:=ww hww
 have hS:=ws hww
 have hc:=Z1l hww ht h
 have hT:=(Q9s hww ht l pick).tr tr h
 simp only [canC,Bool.and_eq_true] at hc
 obtain ⟨hll,hP⟩:=Z7e hc.1.1
 have hR:=Z74 hw hP hll
 obtain ⟨a,bs,k,h1,h2⟩:=W7i hww (v:=v) 300 tr (Q2n l l.length) [⟨[],t⟩] [v] hT (fun r hr=>⟨hR r hr,by
  obtain ⟨i,c,q,hi,hq,rfl⟩:=Z4x hr
  have g:=(hP c (U1 hi)).1
  have g10:=Q8a 10 t c.pat q g hq
  have hO:PatO w t q:=⟨Q5d 11 t q (Q5d 10 t q g10),Q8q 11 q (Q8q 10 q (Z4s 10 c.pat q hq))⟩
  exact ⟨_,Z0n (v:=v) (u:=v) (path:=[]) rfl (Z6v [] hO).2.2⟩⟩) (X64 ht) ⟨rfl,fun j c u hc hu=>by
   cases j with
   | zero=>simp at hc hu;subst hc hu;exact ⟨rfl,hv⟩
   | succ j=>simp at hc⟩
 have h3:=V7i hw hS ht (fun c hc=>(hP c hc).1) hv h2 (fun _=>true) (List.filter_eq_self.2 fun _ _=>rfl).symm (fun _ _ _ _ h=>by cases h)
 exact ⟨k,by rw [h1,←h3]⟩
theorem W8g {w:List Q3} {lst:List Q6} {cols:List Z5} {pick:Int} {r0:Grow} {rest:List Grow} (hp:Q9l w (r0::rest) cols pick=none) (h0:RowC w lst cols r0):∀ q∈r0.pats,q=anyP:=fun q hq=>by
 obtain ⟨j,hj⟩:=List.mem_iff_getElem?.1 hq
 have hjl:=(List.getElem?_eq_some_iff.1 hj).1
 have hlen:=h0.len
 have hany:Q87 (r0::rest) j=true:=Q8e.1 hp j (by omega)
 have this:(X7 r0 j).op=1:=of_decide_eq_true hany
 have hq2:X7 r0 j=q:=by unfold X7;rw [hj];rfl
 have hc:cols[j]?=some (cols[j]'(by omega)):=by simp
 have hpc:=(h0.at hc).2
 rw [hq2] at this hpc
 exact Z90 (Q04 hpc.1) this
def Q91 (w:List Q3):Nat→Q4→Q1→Prop
 | 0,_,_=>False
 | d+1,t,v=>(v.ctor = -2∧v.n=0∧v.kids=[])∨(v.ctor≠-2∧if t.data = -1 then v.ctor = -1∧0≤v.n∧v.n≤9∧v.kids=[] else v.n=0∧v.ctor∈X3 w t∧v.kids.length=(V6 w t v.ctor).length∧∀ (j:Nat) (a:Q4) (x:Q1),(V6 w t v.ctor)[j]?=some a→v.kids[j]?=some x→Q91 w d a x)
def Q5h:Q1→List Int→Option Q1
 | v,[]=>some v
 | v,i::path=>if v.ctor = -2 then some v else (idx v.kids i).bind fun u=>Q5h u path
theorem X0b:∀ (path:List Int) (v:Q1) (i:Int),Q5h v (path++[i])=(Q5h v path).bind fun u=>if u.ctor = -2 then some u else idx u.kids i
 | [],v,i=>by
  simp only [List.nil_append,Q5h,U0]
  split
  ·rfl
  ·cases idx v.kids i<;>rfl
 | j::path,v,i=>by
  simp only [List.cons_append,Q5h]
  by_cases h:v.ctor = -2
  ·rw [if_pos h,if_pos h]
   simp only [U0]
   rw [if_pos h]
  ·rw [if_neg h,if_neg h]
   cases idx v.kids j with
   | none=>rfl
   | some u=>simpa using X0b path u i
def runP:Nat→X9→List Q6→Q1→Option (Int×List Int×Bool×List (List Int))
 | 0,_,_,_=>none
 | d+1,t,lst,v=>
  if t.op=2 then (Q5h v t.path).bind fun u=>if u.ctor = -2 then some (-1,t.path,true,[]) else match t.branches.find? (fun b=>X6 b u) with
   | none=>some (-1,[],false,[t.path])
   | some b=>(runP d b.tree lst v).map fun r=>(r.1,r.2.1,r.2.2.1,t.path::r.2.2.2)
  else if t.op=1 then (idx lst t.clause).bind fun c=>if c.guard.op=0 then some (t.clause,[],false,[]) else match t.binds.find? (fun b=>decide (b.var=c.guard.var)) with
   | none=>none
   | some b=>(Q5h v b.path).bind fun u=>if u.ctor = -2 then some (-1,b.path,true,[]) else if u.ctor = -1 then
     (if Q1j c.guard [⟨c.guard.var,u⟩]=true then some (t.clause,[],false,[b.path]) else match t.else_ with
      | el::_=>(runP d el lst v).map fun r=>(r.1,r.2.1,r.2.2.1,b.path::r.2.2.2)
      | []=>none)
    else none
  else some (-1,[],false,[])
def UsP (w:List Q3) (v:Q1) (cols:List Z5):Prop:=∀ c∈cols,∃ (u:Q1) (e:Nat),Q5h v c.path=some u∧Q91 w e c.t u
theorem W52 {w:List Q3} {e:Nat} {t:Q4} {u:Q1} (h:Q91 w e t u) (h2:u.ctor≠-2) (hd:t.data≠-1) {i:Nat} {a:Q4} (ha:(V6 w t u.ctor)[i]?=some a):∃ x e',idx u.kids (i:Int)=some x∧Q91 w e' a x:=by
 cases e with
 | zero=>exact h.elim
 | succ e=>
  rw [Q91] at h
  rcases h with h | ⟨_,h⟩
  ·exact absurd h.1 h2
  ·rw [if_neg hd] at h
   obtain ⟨_,_,hl,hk⟩:=h
   have hil:=(List.getElem?_eq_some_iff.1 ha).1
   have hx:u.kids[i]?=some (u.kids[i]'(by omega)):=by simp
   exact ⟨_,e,Q2a hx,hk i a _ ha hx⟩
theorem X4p {w:List Q3} {e:Nat} {t:Q4} {u:Q1} (h:Q91 w e t u) (hd:t.data = -1):u.ctor = -2∨u.ctor = -1:=by
 cases e with
 | zero=>exact h.elim
 | succ e=>
  rw [Q91,if_pos hd] at h
  rcases h with h | ⟨_,h,_⟩
  ·exact .inl h.1
  ·exact .inr h
theorem X5k {w:List Q3} {v u:Q1} {e:Nat} {col:Z5} (hu:Q5h v col.path=some u) (hg:Q91 w e col.t u) (h2:u.ctor≠-2) {b:Q9} (hB:BrC w col.t b) (hf:X6 b u=true):UsP w v (V5 w col b):=fun c hc=>by
 unfold V5 at hc
 split at hc
 ·cases hc
 ·rename_i hne
  have hd:col.t.data≠-1:=fun hd=>hne (hB.int hd)
  obtain ⟨i,hi⟩:=List.getElem?_of_mem hc
  rw [List.getElem?_mapIdx,U11] at hi
  obtain ⟨a,ha,rfl⟩:=hi
  simp only [X6,Bool.and_eq_true,decide_eq_true_eq] at hf
  rw [hf.1] at ha
  obtain ⟨x,e',hx,hgx⟩:=W52 hg h2 hd ha
  exact ⟨x,e',by rw [X0b,hu];simp only [U0];rw [if_neg h2,hx],hgx⟩
theorem W5p {w:List Q3} {cols:List Z5} {k:Nat} {col:Z5} {b:Q9} {c:Z5} (hc:c∈Q5f cols k (V5 w col b)):c∈cols∨c∈V5 w col b:=by
 unfold Q5f at hc
 rcases List.mem_append.1 hc with hc | hc
 ·rcases List.mem_append.1 hc with hc | hc
  ·exact .inl (List.mem_of_mem_take hc)
  ·exact .inr hc
 ·exact .inl (List.mem_of_mem_drop hc)
theorem W7g {w:List Q3} {v u:Q1} {cols:List Z5} (h:UsP w v cols) {col:Z5} {e:Nat} (hu:Q5h v col.path=some u) (hg:Q91 w e col.t u) (h2:u.ctor≠-2) {k:Nat} {b:Q9} (hB:BrC w col.t b) (hf:X6 b u=true):UsP w v (Q5f cols k (V5 w col b)):=fun c hc=>by
 rcases W5p hc with hc | hc
 ·exact h c hc
 ·exact X5k hu hg h2 hB hf c hc
def hasI (w:List Q3):Nat→Q4→Q0→Int→Prop
 | 0,_,_,_=>False
 | d+1,t,p,x=>((p.op=2∨p.op=6)∧p.var=x∧t=tI)∨∃ (j:Nat) (a:Q4) (q:Q0),(Y0 w t p)[j]?=some a∧p.kids[j]?=some q∧hasI w d a q x
theorem W9l {w:List Q3} {d:Nat} {t:Q4} {x:Int} : ¬hasI w d t anyP x:=by
 cases d with
 | zero=>exact id
 | succ d=>
  rintro (⟨h,_⟩ | ⟨j,a,q,_,h,_⟩)
  ·simp [anyP] at h
  ·simp [anyP] at h
def GrdR (w:List Q3) (v:Q1) (lst:List Q6) (cols:List Z5) (r:Grow):Prop:=
 ∀ cl,lst[r.clause.toNat]?=some cl→cl.guard.op≠0→(∃ b∈r.binds,b.var=cl.guard.var∧∃ u,Q5h v b.path=some u∧(u.ctor = -2∨u.ctor = -1))∨∃ x∈cols.zip r.pats,∃ d,hasI w d x.1.t x.2 cl.guard.var
theorem Z6u {w:List Q3} {v u:Q1} {path:List Int} (hu:Q5h v path=some u) {t:Q4} {e:Nat} (hg:Q91 w e t u) {x:Int} : ∀ (d:Nat) (p:Q0) (k:Nat),hasI w d t p x→(∃ b∈(Q25 k p path).1,b.var=x∧∃ u,Q5h v b.path=some u∧(u.ctor = -2∨u.ctor = -1))∨∃ d',hasI w d' t (Q25 k p path).2 x
 | 0,p,k,h=>h.elim
 | d+1,p,0,h=>.inr ⟨d+1,h⟩
 | d+1,p,k+1,h=>by
  rw [Q2j]
  by_cases h6:p.op=6
  ·rw [if_pos h6]
   rcases h with ⟨_,hv,ht⟩ | ⟨j,a,q,ha,hq,h⟩
   ·refine .inl ⟨⟨p.var,path⟩,by simp,hv,u,hu,X4p hg (by rw [ht];rfl)⟩
   ·have hk:Y0 w t p=[t]:=by unfold Y0;rw [if_neg (by omega),if_neg (by omega),if_pos h6]
    rw [hk] at ha
    have hj:j=0:=by
     have:=(List.getElem?_eq_some_iff.1 ha).1
     simp at this
     exact this
    subst hj
    simp only [List.getElem?_cons_zero,Option.some.injEq] at ha
    subst ha
    have hhd:p.kids.headD anyP=q:=by
     cases hks:p.kids with
     | nil=>rw [hks] at hq;cases hq
     | cons y l=>rw [hks] at hq;simpa using hq
    rw [hhd]
    rcases Z6u hu hg d q k h with ⟨b,hb,h1,h2⟩ | h
    ·exact .inl ⟨b,by simp [hb],h1,h2⟩
    ·exact .inr h
  ·rw [if_neg h6]
   by_cases h2:p.op=2
   ·rw [if_pos h2]
    rcases h with ⟨_,hv,ht⟩ | ⟨j,a,q,ha,hq,h⟩
    ·refine .inl ⟨⟨p.var,path⟩,by simp,hv,u,hu,X4p hg (by rw [ht];rfl)⟩
    ·have hk:Y0 w t p=[]:=by unfold Y0;rw [if_neg (by omega),if_neg (by omega),if_neg h6]
     rw [hk] at ha
     cases ha
   ·rw [if_neg h2]
    exact .inr ⟨d+1,h⟩
theorem W9n {w:List Q3} (hw:WW w) (hS:WS w) {v u:Q1} {lst:List Q6} {cols:List Z5} {left:Nat} (hC:ColC w cols left) {r:Grow} (hr:RowC w lst cols r) {k:Nat} {col:Z5} (hk:cols[k]?=some col) {e:Nat} (hu:Q5h v col.path=some u) (hg:Q91 w e col.t u) (h2:u.ctor≠-2) {b:Q9} (hB:BrC w col.t b) (hf:X6 b u=true) (hfit:Q4q (X7 r k) b=true) (h:GrdR w v lst cols r):GrdR w v lst (Q5f cols k (V5 w col b)) (Q6z r k (V5 w col b)):=fun cl hcl h0=>by
 have hct:=hC.ty col (U1 hk)
 obtain ⟨h1,hp⟩:=hr.at hk
 obtain ⟨k1,k2,_⟩:=X8n hS hct hp hB hfit rfl
 have hA:=X5k hu hg h2 hB hf
 rcases h cl hcl h0 with ⟨b0,hb0,e1,e2⟩ | ⟨x,hx,d,hd⟩
 ·exact .inl ⟨b0,List.mem_append_left _ hb0,e1,e2⟩
 ·obtain ⟨i,hi⟩:=List.getElem?_of_mem hx
  rw [List.getElem?_zip_eq_some] at hi
  have hlen:=hr.len
  have hzl:(zipS (Q2f (X7 r k) (V5 w col b)) (V5 w col b)).length=(V5 w col b).length:=by rw [zipS,List.length_zipWith,k1,Nat.min_self]
  have hzip:(Q5f cols k (V5 w col b)).zip (Q6z r k (V5 w col b)).pats=(cols.zip r.pats).take k++(V5 w col b).zip ((zipS (Q2f (X7 r k) (V5 w col b)) (V5 w col b)).map (·.2))++(cols.zip r.pats).drop (k+1):=by
   simp only [Q6z,Q5f]
   rw [W2m (by rw [U6,U6,hlen]) (by rw [U7,hzl]),X0t,X0u]
  by_cases hik:i=k
  ·subst hik
   rw [hk] at hi
   have hc1:x.1=col:=(Option.some.inj hi.1).symm
   have hp2:x.2=X7 r i:=by
    unfold X7
    rw [hi.2];rfl
   rw [hc1,hp2] at hd
   have hop:(X7 r i).op=4∨(X7 r i).op=1∨(X7 r i).op=3:=by have:=hp.2.2;omega
   cases d with
   | zero=>exact hd.elim
   | succ d=>
    rcases hd with ⟨hd,_⟩ | ⟨j,a,q,ha,hq,hd⟩
    ·omega
    ·have h4:(X7 r i).op=4:=by
      rcases hop with h | h | h
      ·exact h
      ·have:Y0 w col.t (X7 r i)=[]:=by unfold Y0;rw [if_neg (by omega),if_neg (by omega),if_neg (by omega)]
       rw [this] at ha;cases ha
      ·have:Y0 w col.t (X7 r i)=[]:=by unfold Y0;rw [if_neg (by omega),if_neg (by omega),if_neg (by omega)]
       rw [this] at ha;cases ha
     have hks:Q2f (X7 r i) (V5 w col b)=(X7 r i).kids:=by unfold Q2f;rw [if_neg (by omega)]
     have hctor:(X7 r i).ctor=b.ctor:=by
      unfold Q4q at hfit
      rw [if_neg (by omega),if_neg (by omega)] at hfit
      exact of_decide_eq_true hfit
     have hkT:Y0 w col.t (X7 r i)=V6 w col.t b.ctor:=by unfold Y0;rw [if_pos h4,hctor]
     rw [hkT] at ha
     have hne:b.ctor≠-1:=fun hne=>by
      rw [hks] at k1
      have hl1:=(List.getElem?_eq_some_iff.1 hq).1
      rw [k1,V5,if_pos hne] at hl1
      simp at hl1
     have hai:(V5 w col b)[j]?=some ⟨col.path++[(j:Int)],a⟩:=Z1n hne ha
     rw [hks] at hzip hzl k1
     obtain ⟨uj,ej,hpj,hgj⟩:=hA _ (U1 hai)
     rcases Z6u hpj hgj d q 12 hd with ⟨b1,hb1,g1,g2⟩ | ⟨d',hd'⟩
     ·refine .inl ⟨b1,?_,g1,g2⟩
      simp only [Q6z,hks]
      refine List.mem_append_right _ (List.mem_flatMap.2 ⟨_,U1 (Z1q hq hai),hb1⟩)
     ·refine .inr ⟨(⟨col.path++[(j:Int)],a⟩,(Q5t q (col.path++[(j:Int)])).2),?_,d',hd'⟩
      rw [hzip]
      refine List.mem_append_left _ (List.mem_append_right _ (U1 (i:=j) ?_))
      rw [List.getElem?_zip_eq_some]
      exact ⟨hai,by rw [List.getElem?_map,Z1q hq hai];rfl⟩
  ·refine .inr ⟨x,?_,d,hd⟩
   rw [hzip]
   have hz:(cols.zip r.pats)[i]?=some x:=by rw [List.getElem?_zip_eq_some];exact hi
   by_cases hlt:i<k
   ·refine List.mem_append_left _ (List.mem_append_left _ (U1 (i:=i) ?_))
    rw [List.getElem?_take_of_lt hlt,hz]
   ·refine List.mem_append_right _ (U1 (i:=i-(k+1)) ?_)
    rw [List.getElem?_drop,show k+1+(i-(k+1))=i by omega,hz]
theorem X41:∀ {l:List Q2} {x y:Q2},(l.map (·.var)).Nodup→x∈l→y∈l→x.var=y.var→x=y
 | [],x,y,_,hx,_,_=>by cases hx
 | a::l,x,y,hn,hx,hy,e=>by
  rw [List.map_cons,List.nodup_cons] at hn
  have no:∀ z,z∈l→z.var=a.var→False:=fun z hz ez=>hn.1 (by rw [←ez];exact List.mem_map_of_mem hz)
  rcases U8.1 hx with h1 | h1
  ·rcases U8.1 hy with h2 | h2
   ·rw [h1,h2]
   ·exact (no y h2 (by rw [←e,h1])).elim
  ·rcases U8.1 hy with h2 | h2
   ·exact (no x h1 (by rw [e,h2])).elim
   ·exact X41 hn.2 h1 h2 e
theorem W9o {w:List Q3} {v:Q1} {lst:List Q6} {cols:List Z5} {r:Grow} (hr:RowC w lst cols r) (ha:∀ q∈r.pats,q=anyP) (h:GrdR w v lst cols r) {cl:Q6} (hcl:lst[r.clause.toNat]?=some cl) (h0:cl.guard.op≠0) :
  ∃ b u,(Z0t r.binds).find? (fun b=>decide (b.var=cl.guard.var))=some b∧Q5h v b.path=some u∧(u.ctor = -2∨u.ctor = -1):=by
 obtain ⟨n1,n2,_⟩:=hr.binds
 rcases h cl hcl h0 with ⟨b,hb,e1,u,hu,hc⟩ | ⟨x,hx,d,hd⟩
 ·have hm:∀ y,y∈Z0t r.binds↔y∈r.binds:=fun y=>by
   unfold Z0t
   simp only [List.mem_flatMap,List.mem_range,List.mem_filter,decide_eq_true_eq]
   constructor
   ·rintro ⟨_,_,h,_⟩;exact h
   ·intro h
    have:=n2 y h
    exact ⟨y.var.toNat,by omega,h,by omega⟩
  cases hf:(Z0t r.binds).find? (fun b=>decide (b.var=cl.guard.var)) with
  | none=>
   rw [List.find?_eq_none] at hf
   exact absurd (decide_eq_true e1) (by simpa using hf b ((hm b).2 hb))
  | some y=>
   have hy:=(hm y).1 (List.mem_of_find?_eq_some hf)
   have hv:=List.find?_some hf
   simp only [decide_eq_true_eq] at hv
   have:y=b:=X41 n1 hy hb (by rw [hv,e1])
   subst this
   exact ⟨y,u,rfl,hu,hc⟩
 ·have hq:=ha x.2 (List.of_mem_zip hx).2
  rw [hq] at hd
  exact absurd hd W9l
theorem X9g {P:Q9→X9→Prop} : ∀ {bs xs:List Q9},brsR P bs xs→∀ x∈xs,∃ b∈bs,x.ctor=b.ctor∧x.n=b.n∧x.m=b.m∧P b x.tree
 | [],[],_,x,hx=>by cases hx
 | [],_::_,e,_,_=>e.elim
 | _::_,[],e,_,_=>e.elim
 | b::bs,y::ys,⟨⟨e1,e2,e3,e4⟩,e5⟩,x,hx=>by
  rcases U8.1 hx with rfl | hx
  ·exact ⟨b,by simp,e1,e2,e3,e4⟩
  ·obtain ⟨b',h1,h2⟩:=X9g e5 x hx
   exact ⟨b',by simp [h1],h2⟩
theorem W06 {w:List Q3} (hww:w∈Q0z) {lst:List Q6} {pick:Int} {v:Q1} : ∀ (d:Nat) (t:X9) (rows:List Grow) (cols:List Z5),Q92 w lst pick d t rows cols→(∀ r∈rows,RowC w lst cols r)→ColC w cols d→UsP w v cols→(∀ r∈rows,GrdR w v lst cols r)→∃ r,runP d t lst v=some r:=by
 have hw:=ww hww
 have hS:=ws hww
 intro d
 induction d with
 | zero=>intro t rows cols h;exact h.elim
 | succ d ih=>
  intro t rows cols h hR hC hV hG
  have hCd:ColC w cols d:=⟨hC.ty,fun c hc=>by have:=hC.path c hc;omega,by have:=hC.len;omega⟩
  cases rows with
  | nil=>
   simp only [Q92] at h
   subst h
   exact ⟨(-1,[],false,[]),rfl⟩
  | cons r0 rest=>
   simp only [Q92] at h
   have h0:=hR r0 (by simp)
   cases hp:Q9l w (r0::rest) cols pick with
   | none=>
    rw [hp] at h
    simp only at h
    obtain ⟨h1,h2,h3,h4,h5,cl,h6,h7⟩:=h
    have hidx:idx lst t.clause=some cl:=by
     rw [h2]
     exact Z0b h0.c0 h6
    rw [runP,if_neg (by omega),if_pos h1,hidx]
    simp only [U0]
    by_cases hg0:cl.guard.op=0
    ·rw [if_pos hg0]
     exact ⟨_,rfl⟩
    ·rw [if_neg hg0]
     obtain ⟨b,u,e1,e2,e3⟩:=W9o h0 (W8g hp h0) (hG r0 (by simp)) h6 hg0
     rw [h3,e1]
     simp only
     rw [e2]
     simp only [U0]
     by_cases hu:u.ctor = -2
     ·rw [if_pos hu]
      exact ⟨_,rfl⟩
     ·rw [if_neg hu,if_pos (by omega)]
      split
      ·exact ⟨_,rfl⟩
      ·rcases h7 with ⟨h7,_⟩ | ⟨_,el,h8,h9⟩
       ·exact absurd h7 hg0
       ·rw [h8]
        simp only
        obtain ⟨r,hr⟩:=ih el (Q3x (r0::rest) r0.clause) cols h9 (fun r hr=>hR r (Q9m hr)) hCd hV (fun r hr=>hG r (Q9m hr))
        rw [hr]
        exact ⟨_,rfl⟩
   | some k=>
    rw [hp] at h
    simp only at h
    obtain ⟨col,h1,h2,h3,h4,h5,h6,h7⟩:=h
    obtain ⟨u,e,hu,hg⟩:=hV col (U1 h1)
    rw [runP,if_pos h2,h5,hu]
    simp only [U0]
    by_cases hh:u.ctor = -2
    ·rw [if_pos hh]
     exact ⟨_,rfl⟩
    ·rw [if_neg hh]
     cases hf:t.branches.find? (fun b=>X6 b u) with
     | none=>exact ⟨_,rfl⟩
     | some x=>
      simp only
      have hct:=hC.ty col (U1 h1)
      obtain ⟨b,hb,e1,e2,e3,f4⟩:=X9g h7 x (List.mem_of_find?_eq_some hf)
      have hB:=V3z (wl hww) hct b hb
      have hfx:=List.find?_some hf
      have hfb:X6 b u=true:=by
       unfold X6 at hfx ⊢
       rw [←e1,←e2,←e3]
       exact hfx
      have hRn:∀ r∈Q4x (r0::rest) k b (V5 w col b),RowC w lst (Q5f cols k (V5 w col b)) r:=fun r hr=>by
       unfold Q4x at hr
       obtain ⟨r1,g1,rfl⟩:=U10.1 hr
       obtain ⟨g2,g3⟩:=List.mem_filter.1 g1
       exact RowC.next hw hS hC (hR r1 g2) h1 hB g3
      have hGn:∀ r∈Q4x (r0::rest) k b (V5 w col b),GrdR w v lst (Q5f cols k (V5 w col b)) r:=fun r hr=>by
       unfold Q4x at hr
       obtain ⟨r1,g1,rfl⟩:=U10.1 hr
       obtain ⟨g2,g3⟩:=List.mem_filter.1 g1
       exact W9n hw hS hC (hR r1 g2) h1 hu hg hh hB hfb g3 (hG r1 g2)
      obtain ⟨r,hr⟩:=ih x.tree _ _ f4 hRn (ColC.next hw hC h1 hB) (W7g hV hu hg hh hB hfb) hGn
      rw [hr]
      exact ⟨_,rfl⟩
theorem W4z {w:List Q3} : ∀ (d:Nat) (t:Q4) (p:Q0) (x:Int),hasI w d t p x→hasI w (d+1) t p x:=by
 intro d
 induction d with
 | zero=>intro t p x h;exact h.elim
 | succ d ih=>
  intro t p x h
  rcases h with h | ⟨j,a,q,h1,h2,h3⟩
  ·exact .inl h
  ·exact .inr ⟨j,a,q,h1,h2,ih a q x h3⟩
theorem W36 {w:List Q3} {x:Int} : ∀ (d:Nat) (t:Q4) (p q:Q0),Q0l w d t p=true→linD w d t p=true→q∈Z6 d p→⟨x,tI⟩∈Q1d w d t p→hasI w d t q x:=by
 intro d
 induction d with
 | zero=>intro t p q h;cases h
 | succ d ih=>
  intro t p q g l h hv
  have hn:=Q04 g
  have ho:=Q0w hn
  have hll:=l
  simp only [linD,Bool.and_eq_true,List.all_eq_true] at hll
  rcases Z3f h with ⟨h5,y,hy,hq⟩ | ⟨h5,ks,rfl,hl,hk⟩
  ·obtain ⟨a,b,hab,ht⟩:=kid0 h5 ho.2
   have ga:=Y7 g (k:=0) (a:=t) (q:=a) (by rw [ht];rfl) (by rw [hab];rfl)
   have gb:=Y7 g (k:=1) (a:=t) (q:=b) (by rw [ht];rfl) (by rw [hab];rfl)
   have la:=hll.1 (t,a) (by rw [ht,hab];simp)
   have lb:=hll.1 (t,b) (by rw [ht,hab];simp)
   have hal:=hll.2
   rw [if_pos h5] at hal
   have k0:kv w d t p 0=Q1d w d t a:=by simp [kv,ht,hab]
   have k1:kv w d t p 1=Q1d w d t b:=by simp [kv,ht,hab]
   rw [k0,k1] at hal
   have hvv:Q1d w (d+1) t p=Q1d w d t a:=by simp [Q1d,ownV,h5,ht,hab]
   rw [hvv] at hv
   rw [hab] at hy
   simp only [U8,List.not_mem_nil,or_false] at hy
   rcases hy with rfl | rfl
   ·exact W4z d t q x (ih t _ q ga la hq hv)
   ·refine W4z d t q x (ih t _ q gb lb hq ?_)
    simp only [Q8y,Bool.and_eq_true,List.all_eq_true,decide_eq_true_eq] at hal
    exact hal.2 _ hv
  ·rw [Q1d,if_neg h5,List.mem_append] at hv
   rcases hv with hv | hv
   ·unfold ownV at hv
    split at hv
    ·rename_i hop
     simp only [List.mem_singleton,Z1.mk.injEq] at hv
     exact .inl ⟨hop,hv.1.symm,hv.2.symm⟩
    ·cases hv
   ·rw [List.take_of_length_le (by simp [ho.2])] at hv
    obtain ⟨z,hz,hv⟩:=List.mem_flatMap.1 hv
    obtain ⟨j,hj⟩:=List.getElem?_of_mem hz
    obtain ⟨h3,h4⟩:=List.getElem?_zip_eq_some.1 hj
    have hjl:=(List.getElem?_eq_some_iff.1 h4).1
    have hkj:ks[j]?=some (ks[j]'(by omega)):=by simp
    exact .inr ⟨j,z.1,_,h3,hkj,ih z.1 z.2 _ (Y7 g h3 h4) (hll.1 z hz) (hk j _ z.2 hkj h4) hv⟩
theorem W51 {w:List Q3} {t:Q4} {l:List Q6} (hcl:Q3i w t l=true) {v:Q1} {e:Nat} (hv:Q91 w e t v):∀ r∈Q2n l l.length,GrdR w v l [⟨[],t⟩] r:=fun r hr cl hc h0=>by
 obtain ⟨k,c,q,h1,h2,rfl⟩:=Z4x hr
 have e1:((Q2d k q).clause).toNat=k:=rfl
 rw [e1,h1] at hc
 have hcc:=Option.some.inj hc
 subst hcc
 simp only [Q3i,Bool.and_eq_true,decide_eq_true_eq,List.all_eq_true] at hcl
 have hcb:=hcl.2 c (U1 h1)
 simp only [Q71,Bool.and_eq_true] at hcb
 obtain ⟨g1,_,g3⟩:=Q88 hcb.1
 have hg:=hcb.2
 unfold Z7w at hg
 rw [if_neg h0] at hg
 simp only [Bool.and_eq_true,decide_eq_true_eq] at hg
 have hh:=W36 10 t c.pat q g1 g3 h2 hg.2
 rcases Z6u (path:=[]) (show Q5h v []=some v from rfl) hv 10 q 12 hh with h | ⟨d',h⟩
 ·exact .inl h
 ·refine .inr ⟨(⟨[],t⟩,(Q5t q []).2),?_,d',h⟩
  simp [Q2d]
theorem X3z {w:List Q3} (hww:w∈Q0z) {t:Q4} (ht:t∈tys w) {l:List Q6} {pick:Int} {tr:X9} (h:V4 NN w t l pick=some (tr,true)) {v:Q1} {e:Nat} (hv:Q91 w e t v):∃ r,runP 300 tr l v=some r:=by
 have hc:=Z1l hww ht h
 simp only [canC,Bool.and_eq_true] at hc
 obtain ⟨hll,hP⟩:=Z7e hc.1.1
 exact W06 hww 300 tr _ _ ((Q9s hww ht l pick).tr tr h) (Z74 (ww hww) hP hll) (X64 ht) (fun c hc=>by
  simp only [List.mem_singleton] at hc
  subst hc
  exact ⟨v,e,rfl,hv⟩) (W51 hc.1.1 hv)
def chkH (w:List Q3):Bool:=(tys w).all fun t=>(X3 w t).all fun k=>decide (0≤k)
theorem Y2z:Q0z.all chkH=true:=by kernel_rfl
theorem V07 {w:List Q3} (hww:w∈Q0z) {t:Q4} (ht:t∈tys w) {k:Int} (hk:k∈X3 w t):0≤k:=by
 have h:=List.all_eq_true.1 Y2z w hww
 exact of_decide_eq_true (List.all_eq_true.1 (List.all_eq_true.1 h t ht) k hk)
def X30:Nat→Q1→Prop
 | 0,_=>False
 | d+1,v=>v.ctor≠-2∧∀ x∈v.kids,X30 d x
theorem X0h {w:List Q3} (hww:w∈Q0z):∀ (d:Nat) (t:Q4) (v:Q1),t∈tys w→Q46 w d t v→X30 d v:=by
 intro d
 induction d with
 | zero=>intro t v _ h;exact h.elim
 | succ d ih=>
  intro t v ht h
  rw [Q46] at h
  split at h
  ·refine ⟨by rw [h.1];decide,fun x hx=>?_⟩
   rw [h.2.2.2] at hx
   cases hx
  ·obtain ⟨_,hc,hl,hk⟩:=h
   have:=V07 hww ht hc
   refine ⟨by omega,fun x hx=>?_⟩
   obtain ⟨j,hj⟩:=List.getElem?_of_mem hx
   have hjl:=(List.getElem?_eq_some_iff.1 hj).1
   have ha:(V6 w t v.ctor)[j]?=some ((V6 w t v.ctor)[j]'(by omega)):=by simp
   exact ih _ x (((ww hww).ty t ht).at_ _ hc _ (U1 ha)) (hk j _ x ha hj)
theorem Z4p:∀ {path:List Int} {d:Nat} {v u:Q1},X30 d v→Q5h v path=some u→Q7j v path=some u∧∃ e,X30 e u
 | [],d,v,u,hv,h=>by
  rw [Q5h,Option.some.injEq] at h
  subst h
  exact ⟨rfl,d,hv⟩
 | i::path,d,v,u,hv,h=>by
  cases d with
  | zero=>exact hv.elim
  | succ d=>
   rw [Q5h,if_neg hv.1,U12] at h
   obtain ⟨x,hx,h⟩:=h
   rw [Q7j,hx]
   exact Z4p (hv.2 x (by unfold idx at hx;split at hx;exact U1 hx;cases hx)) h
theorem Z8x {v:Q1} {x:Int} : ∀ {bs:List Q2} {l:List X8},Q2h bs v=some l→∀ {b:Q2},bs.find? (fun b=>decide (b.var=x))=some b→∃ u,Q7j v b.path=some u∧l.find? (fun b=>decide (b.var=x))=some ⟨b.var,u⟩
 | a::bs,l,h,b,hf=>by
  rw [Q2h,U12] at h
  obtain ⟨u,hu,h⟩:=h
  rw [U11] at h
  obtain ⟨m,hm,rfl⟩:=h
  rw [List.find?_cons] at hf ⊢
  by_cases hx:a.var=x
  ·rw [decide_eq_true hx] at hf
   cases hf
   refine ⟨u,hu,?_⟩
   simp only
   rw [decide_eq_true hx]
  ·rw [decide_eq_false hx] at hf
   simp only
   rw [decide_eq_false hx]
   exact Z8x hm hf
theorem W05 {lst:List Q6} {e:Nat} {v:Q1} (hv:X30 e v):∀ (d:Nat) (t:X9) (a:Int) (bs:List X8) (k:Nat) (r:Int×List Int×Bool×List (List Int)),runT d t lst v=some (a,bs,k)→runP d t lst v=some r→r.1=a∧r.2.1=[]∧r.2.2.1=false:=by
 intro d
 induction d with
 | zero=>intro t a bs k r h;cases h
 | succ d ih=>
  intro t a bs k r h hp
  rw [runT] at h
  rw [runP] at hp
  by_cases h2:t.op=2
  ·rw [if_pos h2,U12] at h hp
   obtain ⟨u,hu,h⟩:=h
   obtain ⟨u',hu',hp⟩:=hp
   obtain ⟨hw1,e',hw2⟩:=Z4p hv hu'
   rw [hu] at hw1
   cases hw1
   have hn:u.ctor≠-2:=by
    cases e' with
    | zero=>exact hw2.elim
    | succ e'=>exact hw2.1
   rw [if_neg hn] at hp
   cases hf:t.branches.find? (fun b=>X6 b u) with
   | none=>
    rw [hf] at h hp
    simp only [Option.some.injEq] at h hp
    subst hp
    cases h
    exact ⟨rfl,rfl,rfl⟩
   | some b=>
    rw [hf] at h hp
    simp only [U11] at h hp
    obtain ⟨x,hx,h⟩:=h
    obtain ⟨y,hy,hp⟩:=hp
    subst hp
    obtain ⟨x1,x2,x3⟩:=x
    have:=ih b.tree _ _ _ y hx hy
    cases h
    exact this
  ·rw [if_neg h2] at h hp
   by_cases h1:t.op=1
   ·rw [if_pos h1,U12] at h hp
    obtain ⟨c,hc,h⟩:=h
    obtain ⟨c',hc',hp⟩:=hp
    rw [hc] at hc'
    cases hc'
    rw [U12] at h
    obtain ⟨l,hl,h⟩:=h
    by_cases hg0:c.guard.op=0
    ·have hg:Q1j c.guard l=true:=by simp [Q1j,hg0]
     rw [if_pos hg] at h
     rw [if_pos hg0] at hp
     cases h;cases hp
     exact ⟨rfl,rfl,rfl⟩
    ·rw [if_neg hg0] at hp
     cases hf:t.binds.find? (fun b=>decide (b.var=c.guard.var)) with
     | none=>rw [hf] at hp;cases hp
     | some b=>
      rw [hf] at hp
      simp only [U12] at hp
      obtain ⟨u,hu,hp⟩:=hp
      obtain ⟨hw1,e',hw2⟩:=Z4p hv hu
      have hn:u.ctor≠-2:=by
       cases e' with
       | zero=>exact hw2.elim
       | succ e'=>exact hw2.1
      rw [if_neg hn] at hp
      obtain ⟨u',hu',hfl⟩:=Z8x hl hf
      rw [hw1] at hu'
      cases hu'
      have hbv:=List.find?_some hf
      simp only [decide_eq_true_eq] at hbv
      have hge:Q1j c.guard l=Q1j c.guard [⟨c.guard.var,u⟩]:=by
       unfold Q1j
       rw [hfl]
       simp
      rw [hge] at h
      split at hp
      ·split at hp
       ·rename_i hg
        rw [if_pos hg] at h
        cases h;cases hp
        exact ⟨rfl,rfl,rfl⟩
       ·rename_i hg
        rw [if_neg hg] at h
        cases hel:t.else_ with
        | nil=>rw [hel] at h;cases h
        | cons el rest=>
         rw [hel] at h hp
         simp only [U11] at hp
         obtain ⟨y,hy,rfl⟩:=hp
         exact ih el _ _ _ y h hy
      ·cases hp
   ·rw [if_neg h1] at h hp
    cases h;cases hp
    exact ⟨rfl,rfl,rfl⟩
def Q2g (w:List Q3):Nat→Q4→Q1→Bool
 | 0,_,_=>false
 | d+1,t,v=>if v.ctor = -2 then decide (v.n=0)&&decide (v.kids.length=0) else if t.data = -1 then decide (v.ctor = -1)&&(decide (0≤v.n)&&(decide (v.n≤9)&&decide (v.kids.length=0)))
  else decide (v.n=0)&&(decide (v.ctor∈X3 w t)&&(decide (v.kids.length=(V6 w t v.ctor).length)&&((V6 w t v.ctor).zip v.kids).all fun x=>Q2g w d x.1 x.2))
theorem X0j {w:List Q3} : ∀ (d:Nat) (t:Q4) (v:Q1),Q2g w d t v=true↔Q91 w d t v:=by
 intro d
 induction d with
 | zero=>intro t v;simp [Q2g,Q91]
 | succ d ih=>
  intro t v
  rw [Q2g,Q91]
  by_cases hh:v.ctor = -2
  ·rw [if_pos hh]
   simp only [Bool.and_eq_true,decide_eq_true_eq,List.length_eq_zero_iff]
   constructor
   ·exact fun h=>.inl ⟨hh,h.1,h.2⟩
   ·rintro (h | h)
    ·exact h.2
    ·exact absurd hh h.1
  rw [if_neg hh]
  have hl:∀ {X Y:Prop},(X↔Y)→(X↔(v.ctor = -2∧v.n=0∧v.kids=[])∨(v.ctor≠-2∧Y)):=fun h=>by
   rw [h]
   constructor
   ·exact fun h=>.inr ⟨hh,h⟩
   ·rintro (h | h)
    ·exact absurd h.1 hh
    ·exact h.2
  refine hl ?_
  split
  ·simp only [Bool.and_eq_true,decide_eq_true_eq,List.length_eq_zero_iff]
  ·simp only [Bool.and_eq_true,decide_eq_true_eq,List.all_eq_true]
   constructor
   ·rintro ⟨h1,h2,h3,h4⟩
    exact ⟨h1,h2,h3,fun j a x ha hx=>(ih a x).1 (h4 (a,x) (U1 (Q6k ha hx)))⟩
   ·rintro ⟨h1,h2,h3,h4⟩
    refine ⟨h1,h2,h3,fun x hx=>?_⟩
    obtain ⟨j,hj⟩:=List.mem_iff_getElem?.1 hx
    obtain ⟨e1,e2⟩:=List.getElem?_zip_eq_some.1 hj
    exact (ih _ _).2 (h4 j _ _ e1 e2)
def okP (w:List Q3) (d:Nat) (t:Q4) (v:Q1) (c:Nat):Bool:=Q2g w d t v&&decide (c+cntV v≤60)
def Q9j (w:List Q3) (t:Q4) (v:Q1):Bool:=Q2g w 10 t v&&decide (cntV v≤60)
theorem Z6q {w:List Q3} {t:Q4} {v:Q1} (h:Q9j w t v=true):Q91 w 10 t v:=by
 simp only [Q9j,Bool.and_eq_true] at h
 exact (X0j 10 t v).1 h.1
theorem W40 {w:List Q3} {d:Nat} {t:Q4} {v:Q1} {c:Nat} (h:Q2g w d t v=false):okP w d t v c=false:=by simp [okP,h]
theorem V4x {w:List Q3} (hw:WW w):∀ (d n:Nat) (t:Q4) (v:Q1) (c:Nat),t∈tys w→c≤60→d+2≤n→d≤10→
  Ret (Q0c n w t v (11-(d:Int)) true (c:Int)) (fun r=>r.1=okP w d t v c∧(okP w d t v c=true→r.2=((c+cntV v:Nat):Int))):=by
 intro d
 induction d with
 | zero=>
  intro n t v c ht hc hn hd
  obtain ⟨n,rfl⟩:∃ k,n=k+1:=⟨n-1,by omega⟩
  have hb:okP w 0 t v c=false:=W40 rfl
  unfold Q0c
  refine Ret.ite (fun _=>.some ⟨hb.symm,fun h=>by rw [hb] at h;cases h⟩) (fun _=>?_)
  rw [if_pos (by rw [X4];omega)]
  exact .some ⟨hb.symm,fun h=>by rw [hb] at h;cases h⟩
 | succ d ih=>
  intro n t v c ht hc hn hd
  obtain ⟨n,rfl⟩:∃ k,n=k+1:=⟨n-1,by omega⟩
  have hT:=hw.ty t ht
  unfold Q0c
  have hc1:wadd .i64 (c:Int) 1=((c+1:Nat):Int):=by rw [Y5]<;>omega
  rw [hc1]
  have hpos:1≤cntV v:=by rw [Q5g];omega
  refine Ret.ite (fun hlt=>?_) (fun hle=>?_)
  ·rw [X4] at hlt
   have hb:okP w (d+1) t v c=false:=by simp only [okP,Bool.and_eq_false_iff,decide_eq_false_iff_not];right;omega
   exact .some ⟨hb.symm,fun h=>by rw [hb] at h;cases h⟩
  rw [W1] at hle
  rw [if_neg (by rw [X4];omega),if_pos (rfl:(true:Bool)=true)]
  have bad:Q2g w (d+1) t v=false→okP w (d+1) t v c=false:=W40
  refine Ret.ctl (R:=fun r:Bool×Int=>r.1=okP w (d+1) t v c∧(okP w (d+1) t v c=true→r.2=((c+cntV v:Nat):Int))) (B:=fun _:Unit=>v.ctor≠-2∧t.data≠-1∧v.n=0∧v.ctor∈X3 w t) ?_ (fun r hr=>.some hr) (fun s hs=>?_)
  ·refine Ret.ite (fun hh=>?_) (fun hne=>?_)
   ·rw [Q8] at hh
    have hg:Q2g w (d+1) t v=(decide (v.n=0)&&decide (v.kids.length=0)):=by rw [Q2g,if_pos hh]
    refine Ret.ite (fun h1=>?_) (fun h1=>?_)
    ·rw [Q8] at h1
     have hk:Q2g w (d+1) t v=decide (v.kids.length=0):=by rw [hg];simp [h1]
     refine .some ?_
     have h0:v.kids.length=0→cntV v=1:=fun h=>by rw [Q5g,List.eq_nil_of_length_eq_zero h];rfl
     by_cases hz:v.kids.length=0
     ·have e1:okP w (d+1) t v c=true:=by simp only [okP,hk,hz,decide_true,Bool.true_and,decide_eq_true_eq];have:=h0 hz;omega
      rw [e1]
      refine ⟨?_,fun _=>?_⟩
      ·simp only [Q8,lenZ];omega
      ·have:=h0 hz;simp only;omega
     ·have e1:okP w (d+1) t v c=false:=bad (by rw [hk];simp [hz])
      rw [e1]
      refine ⟨?_,fun h=>by cases h⟩
      simp only [Z9,lenZ];omega
    ·rw [Z9] at h1
     have e1:okP w (d+1) t v c=false:=bad (by rw [hg];simp [h1])
     exact .some ⟨e1.symm,fun h=>by rw [e1] at h;cases h⟩
   rw [Z9] at hne
   refine Ret.ite (fun hi=>?_) (fun hi=>?_)
   ·rw [Q8] at hi
    have hg:Q2g w (d+1) t v=(decide (v.ctor = -1)&&(decide (0≤v.n)&&(decide (v.n≤9)&&decide (v.kids.length=0)))):=by rw [Q2g,if_neg hne,if_pos hi]
    refine Ret.ite (fun h1=>?_) (fun h1=>?_)
    ·rw [Q8] at h1
     rw [Q7g]
     simp only [U0]
     refine Ret.ite (fun h2=>?_) (fun h2=>?_)
     ·simp only [Bool.and_eq_true,decide_eq_true_eq] at h2
      have hk:Q2g w (d+1) t v=decide (v.kids.length=0):=by rw [hg];simp [h1,h2.1,h2.2]
      refine .some ?_
      have h0:v.kids.length=0→cntV v=1:=fun h=>by rw [Q5g,List.eq_nil_of_length_eq_zero h];rfl
      by_cases hz:v.kids.length=0
      ·have e1:okP w (d+1) t v c=true:=by simp only [okP,hk,hz,decide_true,Bool.true_and,decide_eq_true_eq];have:=h0 hz;omega
       rw [e1]
       refine ⟨?_,fun _=>?_⟩
       ·simp only [Q8,lenZ];omega
       ·have:=h0 hz;simp only;omega
      ·have e1:okP w (d+1) t v c=false:=bad (by rw [hk];simp [hz])
       rw [e1]
       refine ⟨?_,fun h=>by cases h⟩
       simp only [Z9,lenZ];omega
     ·have e1:okP w (d+1) t v c=false:=bad (by
       rw [hg]
       simp only [Bool.and_eq_false_iff,decide_eq_false_iff_not] at h2 ⊢
       rcases h2 with h2 | h2
       ·exact .inr (.inl h2)
       ·exact .inr (.inr (.inl h2)))
      exact .some ⟨e1.symm,fun h=>by rw [e1] at h;cases h⟩
    ·rw [Z9] at h1
     have e1:okP w (d+1) t v c=false:=bad (by rw [hg];simp [h1])
     exact .some ⟨e1.symm,fun h=>by rw [e1] at h;cases h⟩
   ·rw [Z9] at hi
    have hg:Q2g w (d+1) t v=(decide (v.n=0)&&(decide (v.ctor∈X3 w t)&&(decide (v.kids.length=(V6 w t v.ctor).length)&&((V6 w t v.ctor).zip v.kids).all fun x=>Q2g w d x.1 x.2))):=by rw [Q2g,if_neg hne,if_neg hi]
    refine Ret.ite (fun h1=>?_) (fun h1=>?_)
    ·rw [Bool.not_eq_true',Z9] at h1
     have e1:okP w (d+1) t v c=false:=bad (by rw [hg];simp [h1])
     exact .some ⟨e1.symm,fun h=>by rw [e1] at h;cases h⟩
    rw [Bool.not_eq_false',Q8] at h1
    rw [hT.c2]
    simp only [U0]
    rw [Q8v]
    simp only [U0]
    refine Ret.ite (fun h2=>?_) (fun h2=>?_)
    ·rw [Bool.not_eq_true',decide_eq_false_iff_not] at h2
     have e1:okP w (d+1) t v c=false:=bad (by rw [hg];simp [h2])
     exact .some ⟨e1.symm,fun h=>by rw [e1] at h;cases h⟩
    rw [Bool.not_eq_false',decide_eq_true_eq] at h2
    exact .some ⟨hne,hi,h1,h2⟩
  ·obtain ⟨s0,s1,s2,s3⟩:=hs
   have hg:Q2g w (d+1) t v=(decide (v.kids.length=(V6 w t v.ctor).length)&&((V6 w t v.ctor).zip v.kids).all fun x=>Q2g w d x.1 x.2):=by rw [Q2g,if_neg s0,if_neg s1];simp [s2,s3]
   rw [hT.a2 _ s3]
   simp only [U0]
   refine Ret.ite (fun hl=>?_) (fun hl=>?_)
   ·rw [Bool.not_eq_true',Z9] at hl
    simp only [lenZ] at hl
    have e1:okP w (d+1) t v c=false:=bad (by rw [hg];simp only [Bool.and_eq_false_iff,decide_eq_false_iff_not];left;omega)
    exact .some ⟨e1.symm,fun h=>by rw [e1] at h;cases h⟩
   rw [Bool.not_eq_false',Q8] at hl
   simp only [lenZ] at hl
   have hcv:=Q5g v
   refine Ret.ctl (Z4 v.kids (fun k s=>s=((c+1+cntV.cntVs (v.kids.take k):Nat):Int)∧c+1+cntV.cntVs (v.kids.take k)≤60∧∀ (j:Nat) (a:Q4) (x:Q1),j<k→(V6 w t v.ctor)[j]?=some a→v.kids[j]?=some x→Q2g w d a x=true) (fun r:Bool×Int=>r.1=okP w (d+1) t v c∧(okP w (d+1) t v c=true→r.2=((c+cntV v:Nat):Int))) (fun s=>s=((c+cntV v:Nat):Int)∧okP w (d+1) t v c=true) ⟨by simp [cntV.cntVs],by simp only [List.take_zero,cntV.cntVs];omega,fun j a x hj=>by omega⟩ (fun k x s hx hI=>?_) (fun s hI=>?_)) (fun r hr=>.some hr) (fun s hs=>.some ⟨hs.2.symm,fun _=>hs.1⟩)
   ·obtain ⟨rfl,i2,i3⟩:=hI
    have hk:=(List.getElem?_eq_some_iff.1 hx).1
    have ha:(V6 w t v.ctor)[k]?=some ((V6 w t v.ctor)[k]'(by omega)):=by simp
    rw [Q2a ha]
    simp only [U0]
    have hdd:wadd .i64 (11-((d+1:Nat):Int)) 1=11-(d:Int):=by rw [Y5]<;>omega
    rw [hdd]
    refine Ret.bind (ih n _ x _ (hT.at_ _ s3 _ (U1 ha)) i2 (by omega) (by omega)) (fun r hr=>?_)
    obtain ⟨r1,r2⟩:=hr
    have htk:=Q8g v.kids k x hx
    refine Ret.ite (fun h=>?_) (fun h=>?_)
    ·rw [Bool.not_eq_true',r1] at h
     have e1:okP w (d+1) t v c=false:=by
      simp only [okP,Bool.and_eq_false_iff,decide_eq_false_iff_not] at h ⊢
      rcases h with h | h
      ·left
       rw [hg,Bool.and_eq_false_iff]
       right
       rw [List.all_eq_false]
       exact ⟨_,U1 (Q6k ha hx),by simp [h]⟩
      ·right
       have:=Q70 v.kids (k+1)
       omega
     exact .some ⟨e1.symm,fun h=>by rw [e1] at h;cases h⟩
    ·rw [Bool.not_eq_false',r1] at h
     have r3:=r2 h
     simp only [okP,Bool.and_eq_true,decide_eq_true_eq] at h
     refine .some ⟨?_,by omega,fun j a y hj h1 h2=>?_⟩
     ·rw [r3];omega
     ·by_cases hjk:j=k
      ·subst hjk
       rw [ha] at h1
       rw [hx] at h2
       cases h1
       cases h2
       exact h.1
      ·exact i3 j a y (by omega) h1 h2
   ·obtain ⟨rfl,i2,i3⟩:=hI
    rw [List.take_length] at i2 ⊢
    refine ⟨by omega,?_⟩
    simp only [okP,Bool.and_eq_true,decide_eq_true_eq]
    refine ⟨?_,by omega⟩
    rw [hg]
    simp only [Bool.and_eq_true,decide_eq_true_eq,List.all_eq_true]
    refine ⟨by omega,fun y hy=>?_⟩
    obtain ⟨j,hj⟩:=List.mem_iff_getElem?.1 hy
    obtain ⟨e1,e2⟩:=List.getElem?_zip_eq_some.1 hj
    exact i3 j _ _ (List.getElem?_eq_some_iff.1 e2).1 e1 e2
theorem len0 (n:Nat):ieq (lenZ n) 0=decide (n=0):=by
 by_cases h:n=0
 ·subst h;rfl
 ·rw [decide_eq_false h,Z9];simp only [lenZ];omega
theorem X6b:∀ (n:Nat) (p:Q1) (most:Nat),most<n→most≤1000→Q3t n p (most:Int)=some ((min (cntV p) (most+1):Nat):Int):=by
 intro n
 induction n with
 | zero=>intro p most h;omega
 | succ n ih=>
  intro p most hn hm
  unfold Q3t
  have key:=Z4 (ρ:=Int) (f:=fun k94 x95 (s88:Int)=>
   (if (ile s88 (most:Int))=true then
   ((Q3t n x95 (wsub .i64 (most:Int) s88)).bind fun r103=>
   some (Ctl.go (wadd .i64 s88 r103)))
   else
   some (Ctl.brk s88))) p.kids (s0:=1) (fun k s=>∃ m:Nat,s=(m:Int)∧m=min (1+cntV.cntVs (p.kids.take k)) (most+1)) (fun _=>False) (fun s=>s=((min (cntV p) (most+1):Nat):Int)) ⟨1,rfl,by simp [cntV.cntVs]⟩ (fun k q s hq hI=>?_) (fun s hI=>?_)
  ·have:=Ret.ctl (Q:=fun b=>b=((min (cntV p) (most+1):Nat):Int)) key (g:=fun (o:Ctl Int Int)=>match o with
    | .ret r=>some r
    | .go _=>none
    | .brk s=>some s) (fun r hr=>hr.elim) (fun s hs=>.some hs)
   obtain ⟨b,e,rfl⟩:=this
   exact e
  ·obtain ⟨m,rfl,hm2⟩:=hI
   refine Ret.ite (fun h=>?_) (fun h=>?_)
   ·rw [Q15] at h
    have hle:m≤most:=by omega
    have hws:wsub .i64 (most:Int) (m:Int)=((most-m:Nat):Int):=by rw [Q1u (by omega) (by omega)];omega
    rw [hws,ih q (most-m) (by omega) (by omega)]
    simp only [U0]
    rw [Y5 (by omega) (by omega)]
    refine .some ⟨m+min (cntV q) (most-m+1),by push_cast;rfl,?_⟩
    rw [Q8g p.kids k q hq]
    omega
   ·rw [Q61] at h
    refine .some ?_
    have h1:=Q70 p.kids k
    have h2:=Q5g p
    show (m:Int)=_
    have:m=min (cntV p) (most+1):=by omega
    rw [this]
  ·obtain ⟨m,rfl,hm2⟩:=hI
   rw [List.take_length] at hm2
   have h2:=Q5g p
   have:m=min (cntV p) (most+1):=by omega
   rw [this]
theorem X69 {w:List Q3} (hw:WW w):∀ (d n:Nat) (t:Q4) (v:Q1),t∈tys w→d+1≤n→d≤100→Q3b n w t v (d:Int)=some (Q33 w d t v):=by
 intro d
 induction d with
 | zero=>
  intro n t v ht hn hd
  obtain ⟨m,rfl⟩:∃ m,n=m+1:=⟨n-1,by omega⟩
  unfold Q3b
  rw [if_pos (by rw [X4];omega)]
  rfl
 | succ d ih=>
  intro n t v ht hn hd
  obtain ⟨m,rfl⟩:∃ m,n=m+1:=⟨n-1,by omega⟩
  have hT:=hw.ty t ht
  suffices hs:Ret (Q3b (m+1) w t v ((d+1:Nat):Int)) (fun r=>r=Q33 w (d+1) t v) by
   obtain ⟨a,e,rfl⟩:=hs
   exact e
  unfold Q3b
  rw [if_neg (by rw [X4];omega)]
  have hws:wsub .i64 ((d+1:Nat):Int) 1=(d:Int):=by rw [Q1u]<;>omega
  rw [hws]
  refine Ret.ite (fun hi=>?_) (fun hi=>?_)
  ·rw [Q8] at hi
   have hg:Q33 w (d+1) t v=(decide (v.ctor = -1)&&(decide (0≤v.n)&&(decide (v.n≤9)&&decide (v.kids.length=0)))):=by rw [Q33,if_pos hi]
   rw [hg]
   refine Ret.ite (fun h1=>?_) (fun h1=>.some ?_)
   ·rw [Q8] at h1
    refine Ret.ite (fun h2=>?_) (fun h2=>.some ?_)
    ·rw [Q15] at h2
     refine Ret.ite (fun h3=>.some ?_) (fun h3=>.some ?_)
     ·rw [Q15] at h3
      simp only [h1,h2,h3,decide_true,Bool.true_and]
      exact len0 _
     ·rw [Q61] at h3
      simp [show ¬v.n≤9 by omega]
    ·rw [Q61] at h2
     simp [show ¬0≤v.n by omega]
   ·rw [Z9] at h1
    simp [h1]
  ·rw [Z9] at hi
   have hg:Q33 w (d+1) t v=(decide (v.n=0)&&(decide (v.ctor∈X3 w t)&&(decide (v.kids.length=(V6 w t v.ctor).length)&&((V6 w t v.ctor).zip v.kids).all fun x=>Q33 w d x.1 x.2))):=by rw [Q33,if_neg hi]
   rw [hg]
   refine Ret.ite (fun h1=>.some ?_) (fun h1=>?_)
   ·rw [Bool.not_eq_true',Z9] at h1
    simp [h1]
   rw [Bool.not_eq_false',Q8] at h1
   rw [hT.c1]
   simp only [U0]
   rw [W4y]
   simp only [U0]
   refine Ret.ite (fun h2=>.some ?_) (fun h2=>?_)
   ·rw [Bool.not_eq_true',decide_eq_false_iff_not] at h2
    simp [h2]
   rw [Bool.not_eq_false',decide_eq_true_eq] at h2
   rw [hT.a1 _ h2]
   simp only [U0]
   refine Ret.ite (fun hl=>.some ?_) (fun hl=>?_)
   ·rw [Bool.not_eq_true',Z9] at hl
    simp only [lenZ] at hl
    have:¬v.kids.length=(V6 w t v.ctor).length:=by omega
    simp [this]
   rw [Bool.not_eq_false',Q8] at hl
   simp only [lenZ] at hl
   have hl2:v.kids.length=(V6 w t v.ctor).length:=by omega
   simp only [h1,h2,hl2,decide_true,Bool.true_and]
   refine Ret.ctl (Z4 (V6 w t v.ctor) (fun k _=>∀ (j:Nat) (a:Q4) (x:Q1),j<k→(V6 w t v.ctor)[j]?=some a→v.kids[j]?=some x→Q33 w d a x=true) (fun b=>b=false∧(((V6 w t v.ctor).zip v.kids).all fun x=>Q33 w d x.1 x.2)=false) (fun _=>(((V6 w t v.ctor).zip v.kids).all fun x=>Q33 w d x.1 x.2)=true) (fun j a x hj=>by omega) (fun k a s ha hI=>?_) (fun s hI=>?_)) (fun r hr=>.some (by rw [hr.1,hr.2])) (fun s hs=>.some hs.symm)
   ·have hlt:k<v.kids.length:=by have:=(List.getElem?_eq_some_iff.1 ha).1;omega
    have hq:v.kids[k]?=some v.kids[k]:=by simp [hlt]
    rw [Q2a hq]
    simp only [U0]
    rw [ih m a v.kids[k] (hT.at_ _ h2 a (U1 ha)) (by omega) (by omega)]
    simp only [U0]
    cases hgk:Q33 w d a v.kids[k] with
    | false=>
     refine .some ⟨rfl,?_⟩
     rw [List.all_eq_false]
     exact ⟨(a,v.kids[k]),U1 (Q6k ha hq),by simp [hgk]⟩
    | true=>
     refine .some (fun j a' q' hj ha' hq'=>?_)
     by_cases hjk:j=k
     ·subst hjk
      rw [ha] at ha'
      rw [hq] at hq'
      cases ha'
      cases hq'
      exact hgk
     ·exact hI j a' q' (by omega) ha' hq'
   ·rw [List.all_eq_true]
    intro x hx
    obtain ⟨j,hj⟩:=List.mem_iff_getElem?.1 hx
    obtain ⟨h3,h4⟩:=List.getElem?_zip_eq_some.1 hj
    exact hI j x.1 x.2 ((List.getElem?_eq_some_iff.1 h3).1) h3 h4
theorem X6a {w:List Q3} (hw:WW w):∀ (d n:Nat) (t:Q4) (v:Q1),t∈tys w→d+2≤n→d≤100→Q2v n w t v (d:Int)=some (Q2g w d t v):=by
 intro d
 induction d with
 | zero=>
  intro n t v ht hn hd
  obtain ⟨m,rfl⟩:∃ m,n=m+1:=⟨n-1,by omega⟩
  unfold Q2v
  rw [if_pos (by rw [X4];omega)]
  rfl
 | succ d ih=>
  intro n t v ht hn hd
  obtain ⟨m,rfl⟩:∃ m,n=m+1:=⟨n-1,by omega⟩
  have hT:=hw.ty t ht
  suffices hs:Ret (Q2v (m+1) w t v ((d+1:Nat):Int)) (fun r=>r=Q2g w (d+1) t v) by
   obtain ⟨a,e,rfl⟩:=hs
   exact e
  unfold Q2v
  rw [if_neg (by rw [X4];omega)]
  have hws:wsub .i64 ((d+1:Nat):Int) 1=(d:Int):=by rw [Q1u]<;>omega
  rw [hws]
  refine Ret.ite (fun hh=>?_) (fun hh=>?_)
  ·rw [Q8] at hh
   have hg:Q2g w (d+1) t v=(decide (v.n=0)&&decide (v.kids.length=0)):=by rw [Q2g,if_pos hh]
   rw [hg]
   unfold Q7f
   rw [if_pos (by rw [Q8];exact hh)]
   by_cases h0:v.n=0
   ·rw [if_pos (by rw [Q8];exact h0)]
    refine .some ?_
    simp only [h0,decide_true,Bool.true_and]
    exact len0 _
   ·rw [if_neg (by rw [Q8];exact h0)]
    exact .some (by simp [h0])
  rw [Z9] at hh
  refine Ret.ite (fun hi=>?_) (fun hi=>?_)
  ·have hi':=hi
   rw [Q8] at hi
   have h2:=X69 hw (d+1) m t v ht (by omega) (by omega)
   rw [h2]
   refine .some ?_
   rw [Q2g,if_neg hh,Q33,if_pos hi,if_pos hi]
  ·rw [Z9] at hi
   have hg:Q2g w (d+1) t v=(decide (v.n=0)&&(decide (v.ctor∈X3 w t)&&(decide (v.kids.length=(V6 w t v.ctor).length)&&((V6 w t v.ctor).zip v.kids).all fun x=>Q2g w d x.1 x.2))):=by rw [Q2g,if_neg hh,if_neg hi]
   rw [hg]
   refine Ret.ite (fun h1=>.some ?_) (fun h1=>?_)
   ·rw [Bool.not_eq_true',Z9] at h1
    simp [h1]
   rw [Bool.not_eq_false',Q8] at h1
   rw [hT.c1]
   simp only [U0]
   rw [W4y]
   simp only [U0]
   refine Ret.ite (fun h2=>.some ?_) (fun h2=>?_)
   ·rw [Bool.not_eq_true',decide_eq_false_iff_not] at h2
    simp [h2]
   rw [Bool.not_eq_false',decide_eq_true_eq] at h2
   rw [hT.a1 _ h2]
   simp only [U0]
   refine Ret.ite (fun hl=>.some ?_) (fun hl=>?_)
   ·rw [Bool.not_eq_true',Z9] at hl
    simp only [lenZ] at hl
    have:¬v.kids.length=(V6 w t v.ctor).length:=by omega
    simp [this]
   rw [Bool.not_eq_false',Q8] at hl
   simp only [lenZ] at hl
   have hl2:v.kids.length=(V6 w t v.ctor).length:=by omega
   simp only [h1,h2,hl2,decide_true,Bool.true_and]
   refine Ret.ctl (Z4 (V6 w t v.ctor) (fun k _=>∀ (j:Nat) (a:Q4) (x:Q1),j<k→(V6 w t v.ctor)[j]?=some a→v.kids[j]?=some x→Q2g w d a x=true) (fun b=>b=false∧(((V6 w t v.ctor).zip v.kids).all fun x=>Q2g w d x.1 x.2)=false) (fun _=>(((V6 w t v.ctor).zip v.kids).all fun x=>Q2g w d x.1 x.2)=true) (fun j a x hj=>by omega) (fun k a s ha hI=>?_) (fun s hI=>?_)) (fun r hr=>.some (by rw [hr.1,hr.2])) (fun s hs=>.some hs.symm)
   ·have hlt:k<v.kids.length:=by have:=(List.getElem?_eq_some_iff.1 ha).1;omega
    have hq:v.kids[k]?=some v.kids[k]:=by simp [hlt]
    rw [Q2a hq]
    simp only [U0]
    rw [ih m a v.kids[k] (hT.at_ _ h2 a (U1 ha)) (by omega) (by omega)]
    simp only [U0]
    cases hgk:Q2g w d a v.kids[k] with
    | false=>
     refine .some ⟨rfl,?_⟩
     rw [List.all_eq_false]
     exact ⟨(a,v.kids[k]),U1 (Q6k ha hq),by simp [hgk]⟩
    | true=>
     refine .some (fun j a' q' hj ha' hq'=>?_)
     by_cases hjk:j=k
     ·subst hjk
      rw [ha] at ha'
      rw [hq] at hq'
      cases ha'
      cases hq'
      exact hgk
     ·exact hI j a' q' (by omega) ha' hq'
   ·rw [List.all_eq_true]
    intro x hx
    obtain ⟨j,hj⟩:=List.mem_iff_getElem?.1 hx
    obtain ⟨h3,h4⟩:=List.getElem?_zip_eq_some.1 hj
    exact hI j x.1 x.2 ((List.getElem?_eq_some_iff.1 h3).1) h3 h4
theorem X66 {w:List Q3} (hw:WW w) {t:Q4} (ht:t∈tys w) (v:Q1):Q7m NN w t v=some (Q9j w t v):=by
 unfold Q7m Q9j
 rw [show (10:Int)=((10:Nat):Int) from rfl,X6a hw 10 NN t v ht (by decide) (by omega)]
 simp only [U0]
 cases hg:Q2g w 10 t v with
 | false=>rfl
 | true=>
  simp only [if_true,Bool.true_and]
  rw [show (60:Int)=((60:Nat):Int) from rfl,X6b NN v 60 (by decide) (by omega)]
  simp only [U0,Option.some.injEq]
  rw [Bool.eq_iff_iff,Q15,decide_eq_true_eq]
  omega
theorem Z2s {w:List Q3} (hw:WW w) {t:Q4} (ht:t∈tys w) (v:Q1):Q0q NN w t v=some (Q9j w t v):=by
 suffices hs:Ret (Q0q NN w t v) (fun r=>r=Q9j w t v) by
  obtain ⟨a,e,rfl⟩:=hs
  exact e
 unfold Q0q Q1o
 rw [hw.v1]
 simp only [U0,if_true]
 rw [(hw.ty t ht).t1]
 simp only [U0,if_true]
 refine Ret.bind (V4x hw 10 NN t v 0 ht (by omega) (by decide) (by omega)) (fun r hr=>.some ?_)
 rw [hr.1]
 simp [okP,Q9j]
theorem Z1f {α:Type} {l:List α} {k:Nat} {x:α} {p:α→Bool} (h:l[k]?=some x):(l.drop k).find? p=if p x=true then some x else (l.drop (k+1)).find? p:=by
 rw [Z30 h,List.find?_cons]
 cases p x<;>rfl
theorem Q84 (g:Q2i) (l:List X8):Q03 g l=some (Q1j g l):=by
 suffices hs:Ret (Q03 g l) (fun r=>r=Q1j g l) by
  obtain ⟨a,e,rfl⟩:=hs
  exact e
 unfold Q03
 by_cases h0:g.op=0
 ·rw [if_pos (by rw [Q8];exact h0)]
  exact .some (by simp [Q1j,h0])
 rw [if_neg (by rw [Q8];exact h0)]
 have hfind:Ret (Q1g l (fun a0=>Q23 a0 g)) (fun k=>match l.find? (fun b=>decide (b.var=g.var)) with
   | none=>k = -1
   | some b=>∃ i:Nat,k=(i:Int)∧l[i]?=some b):=by
  unfold Q1g
  refine Ret.ctl (Z4 l (fun k _=>l.find? (fun b=>decide (b.var=g.var))=(l.drop k).find? (fun b=>decide (b.var=g.var))) (fun r=>∃ (i:Nat) (b:X8),r=(i:Int)∧l[i]?=some b∧l.find? (fun b=>decide (b.var=g.var))=some b) (fun _=>l.find? (fun b=>decide (b.var=g.var))=none) (by simp) (fun k x s hx hI=>?_) (fun s hI=>by rw [hI,List.drop_length];rfl)) (fun r hr=>.some ?_) (fun s hs=>.some (by rw [hs]))
  ·have e1:Q23 x g=some (ieq x.var g.var):=rfl
   simp only []
   rw [e1]
   simp only [U0]
   rw [Z1f hx] at hI
   refine Ret.ite (fun hc=>.some ?_) (fun hc=>.some ?_)
   ·rw [Q8] at hc
    rw [if_pos (by simpa using hc)] at hI
    exact ⟨k,x,rfl,hx,hI⟩
   ·rw [Z9] at hc
    rw [if_neg (by simpa using hc)] at hI
    exact hI
  ·obtain ⟨i,b,rfl,h1,h2⟩:=hr
   rw [h2]
   exact ⟨i,rfl,h1⟩
 refine Ret.bind hfind (fun k hk=>?_)
 unfold Q1j
 cases hf:l.find? (fun b=>decide (b.var=g.var)) with
 | none=>
  rw [hf] at hk
  simp only at hk
  subst hk
  exact .some (by simp [h0])
 | some b=>
  rw [hf] at hk
  obtain ⟨i,rfl,hi⟩:=hk
  rw [if_neg (by rw [X4];omega),Q2a hi]
  simp only [U0,h0,decide_false,Bool.false_or]
  by_cases c1:b.value.ctor = -1
  ·have e1:ieq b.value.ctor (-1)=true:=by rw [Q8];exact c1
   simp only [e1,Bool.not_true,U2,if_false]
   by_cases c2:g.op=1
   ·have e2:ieq g.op 1=true:=by rw [Q8];exact c2
    have e3:ieq g.op 2=false:=by rw [Z9];omega
    simp only [e2,e3,if_true,U2,if_false]
    by_cases c3:b.value.n<g.n
    ·have e4:ilt b.value.n g.n=true:=by rw [X4];exact c3
     simp only [e4,if_true]
     exact .some (by simp [c1,c2,c3])
    ·have e4:ilt b.value.n g.n=false:=by rw [W1];omega
     simp only [e4,U2,if_false]
     exact .some (by simp [c1,c2,c3])
   ·have e2:ieq g.op 1=false:=by rw [Z9];exact c2
    simp only [e2,U2,if_false]
    by_cases c3:g.op=2
    ·have e3:ieq g.op 2=true:=by rw [Q8];exact c3
     simp only [e3,if_true]
     exact .some (by simp [c1,c3,ieq])
    ·have e3:ieq g.op 2=false:=by rw [Z9];exact c3
     simp only [e3,U2,if_false]
     exact .some (by simp [c1,c2,c3])
  ·have e1:ieq b.value.ctor (-1)=false:=by rw [Z9];exact c1
   simp only [e1,Bool.not_false,if_true]
   exact .some (by simp [c1])
theorem Z9c (b:Q9) (u:Q1):Q2k b u=some (X6 b u):=by
 unfold Q2k Q60
 by_cases h1:b.ctor=u.ctor
 ·rw [if_pos (by rw [Q8];exact h1)]
  by_cases h2:b.ctor = -1
  ·rw [if_neg (by rw [Bool.not_eq_true,Bool.not_eq_false',Q8];exact h2),Q7g]
   simp [X6,←h1,h2]
  ·rw [if_pos (by rw [Bool.not_eq_true',Z9];exact h2)]
   simp [X6,h1,h1▸h2]
 ·rw [if_neg (by rw [Q8];exact h1)]
  simp [X6,h1]
theorem Z45 (bs:List Q9) (u:Q1):Ret (Q0e bs (fun a0=>Q2k a0 u)) (fun k=>match bs.find? (fun b=>X6 b u) with
  | none=>k = -1
  | some b=>∃ i:Nat,k=(i:Int)∧bs[i]?=some b):=by
 unfold Q0e
 refine Ret.ctl (Z4 bs (fun k _=>bs.find? (fun b=>X6 b u)=(bs.drop k).find? (fun b=>X6 b u)) (fun r=>∃ (i:Nat) (b:Q9),r=(i:Int)∧bs[i]?=some b∧bs.find? (fun b=>X6 b u)=some b) (fun _=>bs.find? (fun b=>X6 b u)=none) (by simp) (fun k x s hx hI=>?_) (fun s hI=>by rw [hI,List.drop_length];rfl)) (fun r hr=>.some ?_) (fun s hs=>.some (by rw [hs]))
 ·simp only []
  rw [Z9c]
  simp only [U0]
  rw [Z1f hx] at hI
  refine Ret.ite (fun hc=>.some ?_) (fun hc=>.some ?_)
  ·rw [if_pos hc] at hI
   exact ⟨k,x,rfl,hx,hI⟩
  ·rw [if_neg (by simp [hc])] at hI
   exact hI
 ·obtain ⟨i,b,rfl,h1,h2⟩:=hr
  rw [h2]
  exact ⟨i,rfl,h1⟩
theorem X10 (bs:List Q9) (u:Q1):Ret (Q53 bs u) (fun r=>match bs.find? (fun b=>X6 b u) with
  | none=>r.2=false
  | some b=>r=(b.tree,true)):=by
 unfold Q53
 refine Ret.ctl (Z4 bs (fun k _=>bs.find? (fun b=>X6 b u)=(bs.drop k).find? (fun b=>X6 b u)) (fun r=>∃ b:Q9,r=(b.tree,true)∧bs.find? (fun b=>X6 b u)=some b) (fun _=>bs.find? (fun b=>X6 b u)=none) (by simp) (fun k x s hx hI=>?_) (fun s hI=>by rw [hI,List.drop_length];rfl)) (fun r hr=>.some ?_) (fun s hs=>.some (by rw [hs]))
 ·rw [Z1f hx] at hI
  by_cases h1:x.ctor=u.ctor
  ·rw [if_pos (by rw [Q8];exact h1)]
   by_cases h2:u.ctor = -1
   ·rw [if_neg (by rw [Bool.not_eq_true,Bool.not_eq_false',Q8];exact h2)]
    by_cases h3:x.n≤u.n
    ·rw [if_pos (by rw [Q15];exact h3)]
     by_cases h4:u.n≤x.m
     ·rw [if_pos (by rw [Q15];exact h4)]
      rw [if_pos (by simp [X6,h1,h3,h4])] at hI
      exact .some ⟨x,rfl,hI⟩
     ·rw [if_neg (by rw [Q15];exact h4)]
      rw [if_neg (by simp [X6,h1,h2,h4])] at hI
      exact .some hI
    ·rw [if_neg (by rw [Q15];exact h3)]
     rw [if_neg (by simp [X6,h1,h2,h3])] at hI
     exact .some hI
   ·rw [if_pos (by rw [Bool.not_eq_true',Z9];exact h2)]
    rw [if_pos (by simp [X6,h1,h2])] at hI
    exact .some ⟨x,rfl,hI⟩
  ·rw [if_neg (by rw [Q8];exact h1)]
   rw [if_neg (by simp [X6,h1])] at hI
   exact .some hI
 ·obtain ⟨b,rfl,h2⟩:=hr
  rw [h2]
theorem Z0z {σ ρ:Type} {f:σ→Option (Ctl ρ σ)} {s s':σ} {n:Nat} (h:f s=some (.go s')):whileL f (n+1) s=whileL f n s':=by
 rw [whileL,h]
theorem Q2c {σ ρ:Type} {f:σ→Option (Ctl ρ σ)} {s:σ} {r:ρ} {n:Nat} (h:f s=some (.ret r)):whileL f (n+1) s=some (.ret r):=by
 rw [whileL,h]
theorem X9q {σ ρ:Type} {f:σ→Option (Ctl ρ σ)} {s s':σ} {n:Nat} (h:f s=some (.brk s')):whileL f (n+1) s=some (.brk s'):=by
 rw [whileL,h]
def opT:Nat→X9→Prop
 | 0,_=>False
 | d+1,t=>(t.op=0∨t.op=1∨t.op=2)∧∀ x∈Q9z t,opT d x
theorem X9h {P:Q9→X9→Prop} : ∀ {bs xs:List Q9},brsR P bs xs→∀ x∈xs,∃ b∈bs,P b x.tree
 | [],[],_,x,hx=>by cases hx
 | [],_::_,e,_,_=>e.elim
 | _::_,[],e,_,_=>e.elim
 | b::bs,y::ys,⟨⟨_,_,_,e4⟩,e5⟩,x,hx=>by
  rcases U8.1 hx with rfl | hx
  ·exact ⟨b,by simp,e4⟩
  ·obtain ⟨b',h1,h2⟩:=X9h e5 x hx
   exact ⟨b',by simp [h1],h2⟩
theorem W7k {w:List Q3} {lst:List Q6} {pick:Int} : ∀ (d:Nat) (t:X9) (rows:List Grow) (cols:List Z5),Q92 w lst pick d t rows cols→opT d t:=by
 intro d
 induction d with
 | zero=>intro t rows cols h;exact h.elim
 | succ d ih=>
  intro t rows cols h
  cases rows with
  | nil=>
   simp only [Q92] at h
   subst h
   exact ⟨.inl rfl,fun x hx=>by simp [Q9z,zT] at hx⟩
  | cons r0 rest=>
   simp only [Q92] at h
   cases hp:Q9l w (r0::rest) cols pick with
   | none=>
    rw [hp] at h
    simp only at h
    obtain ⟨h1,h2,h3,h4,h5,cl,h6,h7⟩:=h
    refine ⟨.inr (.inl h1),fun x hx=>?_⟩
    unfold Q9z at hx
    rw [h5] at hx
    rcases h7 with ⟨_,h7⟩ | ⟨_,el,h8,h9⟩
    ·simp [h7] at hx
    ·simp only [h8,List.map_nil,List.nil_append,List.mem_singleton] at hx
     subst hx
     exact ih _ _ _ h9
   | some k=>
    rw [hp] at h
    simp only at h
    obtain ⟨col,h1,h2,h3,h4,h5,h6,h7⟩:=h
    refine ⟨.inr (.inr h2),fun x hx=>?_⟩
    unfold Q9z at hx
    rw [h6,List.append_nil,U10] at hx
    obtain ⟨b,hb,rfl⟩:=hx
    obtain ⟨b',_,hb'⟩:=X9h h7 b hb
    exact ih _ _ _ hb'
theorem X4c {v u:Q1} {path:List Int} (h:Q5h v path=some u):Ret (Q6f v path) (fun r=>r.2=decide (u.ctor≠-2)∧(r.2=true→r.1=u)):=by
 unfold Q6f
 refine Ret.ctl (Z4 path (fun k s=>Q5h s (path.drop k)=some u) (fun r=>r.2=false∧u.ctor = -2) (fun s=>s=u) (by simpa using h) (fun k x s hx hI=>?_) (fun s hI=>by rw [List.drop_length,Q5h] at hI;exact Option.some.inj hI)) (fun r hr=>.some ⟨by rw [hr.1];simp [hr.2],fun h=>by rw [hr.1] at h;cases h⟩) (fun s hs=>.some ?_)
 ·rw [Z30 hx,Q5h] at hI
  refine Ret.ite (fun hc=>.some ?_) (fun hc=>?_)
  ·rw [Q8] at hc
   rw [if_pos hc] at hI
   cases hI
   exact ⟨rfl,hc⟩
  ·rw [Z9] at hc
   rw [if_neg hc,U12] at hI
   obtain ⟨y,hy,hI⟩:=hI
   rw [hy]
   exact .some hI
 ·rw [hs]
  refine ⟨?_,fun _=>rfl⟩
  by_cases hc:u.ctor = -2
  ·simp [ieq,hc]
  ·simp [ieq,hc]
theorem Z3j {v u:Q1} {path:List Int} (h:Q5h v path=some u):Q57 v path=some u:=by
 suffices hs:Ret (Q57 v path) (fun r=>r=u) by
  obtain ⟨a,e,rfl⟩:=hs
  exact e
 unfold Q57
 refine Ret.ctl (Z4 path (fun k s=>Q5h s (path.drop k)=some u) (fun _=>False) (fun s=>s=u) (by simpa using h) (fun k x s hx hI=>?_) (fun s hI=>by rw [List.drop_length,Q5h] at hI;exact Option.some.inj hI)) (fun r hr=>hr.elim) (fun s hs=>.some hs)
 rw [Z30 hx,Q5h] at hI
 refine Ret.ite (fun hc=>?_) (fun hc=>.some ?_)
 ·rw [Bool.not_eq_true',Z9] at hc
  rw [if_neg hc,U12] at hI
  obtain ⟨y,hy,hI⟩:=hI
  rw [hy]
  exact .some hI
 ·rw [Bool.not_eq_false',Q8] at hc
  rw [if_pos hc] at hI
  exact Option.some.inj hI
theorem Z52 {bs:List Q2} {x:Int} {b:Q2} (h:bs.find? (fun b=>decide (b.var=x))=some b):Q6x bs x=some b.path:=by
 have hk:Ret (Q0p bs (fun a0=>Q5c a0 x)) (fun k=>∃ i:Nat,k=(i:Int)∧bs[i]?=some b):=by
  unfold Q0p
  refine Ret.ctl (Z4 bs (fun k _=>bs.find? (fun b=>decide (b.var=x))=(bs.drop k).find? (fun b=>decide (b.var=x))) (fun r=>∃ (i:Nat) (y:Q2),r=(i:Int)∧bs[i]?=some y∧bs.find? (fun b=>decide (b.var=x))=some y) (fun _=>bs.find? (fun b=>decide (b.var=x))=none) (by simp) (fun k y s hy hI=>?_) (fun s hI=>by rw [hI,List.drop_length];rfl)) (fun r hr=>.some ?_) (fun s hs=>by rw [h] at hs;cases hs)
  ·have e1:Q5c y x=some (ieq y.var x):=rfl
   simp only []
   rw [e1]
   simp only [U0]
   rw [Z1f hy] at hI
   refine Ret.ite (fun hc=>.some ?_) (fun hc=>.some ?_)
   ·rw [Q8] at hc
    rw [if_pos (by simpa using hc)] at hI
    exact ⟨k,y,rfl,hy,hI⟩
   ·rw [Z9] at hc
    rw [if_neg (by simpa using hc)] at hI
    exact hI
  ·obtain ⟨i,y,e1,e2,e3⟩:=hr
   rw [h] at e3
   cases e3
   exact ⟨i,e1,e2⟩
 obtain ⟨k,hk,i,rfl,hi⟩:=hk
 unfold Q6x
 rw [hk]
 simp only [U0]
 rw [Q2a hi]
 rfl
theorem W02 {g:Q2i} (h0:g.op=0) (bs:List Q2):Q1f g bs=some ([],false):=by
 suffices hs:Ret (Q1f g bs) (fun r=>r=([],false)) by
  obtain ⟨a,e,rfl⟩:=hs
  exact e
 unfold Q1f
 refine Ret.ctl (Z4 bs (fun _ _=>True) (fun _=>False) (fun _=>True) trivial (fun k y s hy _=>?_) (fun _ _=>trivial)) (fun r hr=>hr.elim) (fun s _=>.some rfl)
 rw [if_neg (by rw [Bool.not_eq_true,Bool.not_eq_false',Q8];exact h0)]
 exact .some trivial
theorem X05 {g:Q2i} (h0:g.op≠0) {bs:List Q2} {b:Q2} (h:bs.find? (fun b=>decide (b.var=g.var))=some b):Q1f g bs=some (b.path,true):=by
 suffices hs:Ret (Q1f g bs) (fun r=>r=(b.path,true)) by
  obtain ⟨a,e,rfl⟩:=hs
  exact e
 unfold Q1f
 refine Ret.ctl (Z4 bs (fun k _=>bs.find? (fun b=>decide (b.var=g.var))=(bs.drop k).find? (fun b=>decide (b.var=g.var))) (fun r=>r=(b.path,true)) (fun _=>bs.find? (fun b=>decide (b.var=g.var))=none) (by simp) (fun k y s hy hI=>?_) (fun s hI=>by rw [hI,List.drop_length];rfl)) (fun r hr=>.some hr) (fun s hs=>by rw [h] at hs;cases hs)
 rw [if_pos (by rw [Bool.not_eq_true',Z9];exact h0)]
 rw [Z1f hy] at hI
 refine Ret.ite (fun hc=>.some ?_) (fun hc=>.some ?_)
 ·rw [Q8] at hc
  rw [if_pos (by simpa using hc),h] at hI
  cases hI
  rfl
 ·rw [Z9] at hc
  rw [if_neg (by simpa using hc)] at hI
  exact hI
theorem W39 {g:Q2i} (h0:g.op≠0) {u:Q1} (hu:u.ctor = -1):Q56 g u.n=some (Q1j g [⟨g.var,u⟩]):=by
 unfold Q56 Q1j
 simp only [List.find?_cons,decide_true,hu]
 by_cases h1:g.op=1
 ·rw [if_pos (by rw [Q8];exact h1)]
  by_cases h2:u.n<g.n
  ·rw [if_pos (by rw [X4];exact h2)]
   simp [h1,h2]
  ·rw [if_neg (by rw [X4];exact h2),if_neg (by rw [Q8];omega)]
   simp [h1,h2]
 ·rw [if_neg (by rw [Q8];exact h1)]
  by_cases h2:g.op=2
  ·rw [if_pos (by rw [Q8];exact h2)]
   simp [h2,ieq]
  ·rw [if_neg (by rw [Q8];exact h2)]
   simp [h0,h1,h2]
theorem X4a {lst:List Q6} {v:Q1} {used:List Int→Option Unit} (hus:∀ p,used p=some ()) {t:X9} {r:Int×List Int×Bool×List (List Int)} (hd:Z0v 300 t) (h:runP 300 t lst v=some r):Q5y NN t lst v used=some (r.1,r.2.1,!r.2.2.1):=by
 unfold Q5y
 generalize hf:(fun (s:X9)=>_:X9→Option (Ctl (Int×List Int×Bool) X9))=f
 have key:∀ (d n:Nat) (t:X9) (r:Int×List Int×Bool×List (List Int)),Z0v d t→runP d t lst v=some r→d≤n→whileL f n t=some (.ret (r.1,r.2.1,!r.2.2.1)):=by
  intro d
  induction d with
  | zero=>intro n t r h;exact h.elim
  | succ d ih=>
   intro n t r hd h hn
   obtain ⟨n,rfl⟩:∃ j,n=j+1:=⟨n-1,by omega⟩
   obtain ⟨⟨hd1,hd2,hd3,hd4,hd5⟩,hd6⟩:=hd
   rw [runP] at h
   by_cases h2:t.op=2
   ·rw [if_pos h2,U12] at h
    obtain ⟨u,hu,h⟩:=h
    obtain ⟨q,hq,q1,q2⟩:=X4c hu
    by_cases hh:u.ctor = -2
    ·rw [if_pos hh] at h
     cases h
     refine Q2c ?_
     subst hf
     simp only
     rw [if_pos (by rw [Q8];exact h2),hus]
     simp only [U0]
     rw [hq]
     simp only [U0]
     rw [if_pos (by rw [q1];simp [hh]),Q8w t.path (by simp only [Q5];omega)]
     rfl
    ·rw [if_neg hh] at h
     have hq2:=q2 (by rw [q1];simp [hh])
     have hfun:(fun a0=>Q66 a0 q.1)=(fun a0=>Q2k a0 u):=by rw [hq2];rfl
     obtain ⟨k,hk,hkk⟩:=Z45 t.branches u
     cases hfd:t.branches.find? (fun b=>X6 b u) with
     | none=>
      rw [hfd] at h hkk
      simp only at h hkk
      cases h
      refine Q2c ?_
      subst hf
      simp only
      rw [if_pos (by rw [Q8];exact h2),hus]
      simp only [U0]
      rw [hq]
      simp only [U0]
      rw [if_neg (by rw [q1];simp [hh]),hfun,hk]
      simp only [U0]
      rw [if_pos (by rw [X4];omega)]
      rfl
     | some b=>
      rw [hfd] at h hkk
      simp only [U11] at h
      obtain ⟨i,rfl,hi⟩:=hkk
      obtain ⟨y,hy,rfl⟩:=h
      have hgo:f t=some (.go b.tree):=by
       subst hf
       simp only
       rw [if_pos (by rw [Q8];exact h2),hus]
       simp only [U0]
       rw [hq]
       simp only [U0]
       rw [if_neg (by rw [q1];simp [hh]),hfun,hk]
       simp only [U0]
       rw [if_neg (by rw [X4];omega),Q2a hi]
       rfl
      rw [Z0z hgo]
      exact ih n b.tree y (hd6 _ (List.mem_append_left _ (List.mem_map_of_mem (U1 hi)))) hy (by omega)
   ·rw [if_neg h2] at h
    by_cases h1:t.op=1
    ·rw [if_pos h1,U12] at h
     obtain ⟨c,hc,h⟩:=h
     by_cases hg0:c.guard.op=0
     ·rw [if_pos hg0] at h
      cases h
      refine Q2c ?_
      subst hf
      simp only
      rw [if_neg (by rw [Q8];exact h2),if_pos (by rw [Q8];exact h1),hc]
      simp only [U0]
      rw [if_pos (by rw [Q8];exact hg0)]
      rfl
     ·rw [if_neg hg0] at h
      cases hfd:t.binds.find? (fun b=>decide (b.var=c.guard.var)) with
      | none=>rw [hfd] at h;cases h
      | some b=>
       rw [hfd] at h
       simp only [U12] at h
       obtain ⟨u,hu,h⟩:=h
       obtain ⟨q,hq,q1,q2⟩:=X4c hu
       have hbl:=hd2 b (List.mem_of_find?_eq_some hfd)
       by_cases hh:u.ctor = -2
       ·rw [if_pos hh] at h
        cases h
        refine Q2c ?_
        subst hf
        simp only
        rw [if_neg (by rw [Q8];exact h2),if_pos (by rw [Q8];exact h1),hc]
        simp only [U0]
        rw [if_neg (by rw [Q8];exact hg0),Z52 hfd]
        simp only [U0]
        rw [hus]
        simp only [U0]
        rw [hq]
        simp only [U0]
        rw [if_pos (by rw [q1];simp [hh]),Q8w b.path (by simp only [Q5];omega)]
        rfl
       ·rw [if_neg hh] at h
        have hq2:=q2 (by rw [q1];simp [hh])
        split at h
        ·split at h
         ·rename_i hg
          cases h
          refine Q2c ?_
          subst hf
          simp only
          rw [if_neg (by rw [Q8];exact h2),if_pos (by rw [Q8];exact h1),hc]
          simp only [U0]
          rw [if_neg (by rw [Q8];exact hg0),Z52 hfd]
          simp only [U0]
          rw [hus]
          simp only [U0]
          rw [hq]
          simp only [U0]
          rw [if_neg (by rw [q1];simp [hh]),Q84,hq2]
          simp only [U0]
          rw [if_pos hg]
          rfl
         ·rename_i hg
          cases hel:t.else_ with
          | nil=>rw [hel] at h;cases h
          | cons el rest=>
           rw [hel] at h
           simp only [U11] at h
           obtain ⟨y,hy,rfl⟩:=h
           have hgo:f t=some (.go el):=by
            subst hf
            simp only
            rw [if_neg (by rw [Q8];exact h2),if_pos (by rw [Q8];exact h1),hc]
            simp only [U0]
            rw [if_neg (by rw [Q8];exact hg0),Z52 hfd]
            simp only [U0]
            rw [hus]
            simp only [U0]
            rw [hq]
            simp only [U0]
            rw [if_neg (by rw [q1];simp [hh]),Q84,hq2]
            simp only [U0]
            rw [if_neg hg,hel]
            rfl
           rw [Z0z hgo]
           exact ih n el y (hd6 _ (List.mem_append_right _ (by rw [hel];simp))) hy (by omega)
        ·cases h
    ·rw [if_neg h1] at h
     cases h
     refine Q2c ?_
     subst hf
     simp only
     rw [if_neg (by rw [Q8];exact h2),if_neg (by rw [Q8];exact h1)]
     rfl
 rw [key 300 NN t r hd h (by decide)]
 rfl
theorem X3d {lst:List Q6} {v:Q1} {t:X9} {r:Int×List Int×Bool×List (List Int)} (hd:Z0v 300 t) (ho:opT 300 t) (h:runP 300 t lst v=some r):Q6v NN lst t v=some r:=by
 unfold Q6v
 generalize hf:(fun (s:X9×List (List Int))=>_:X9×List (List Int)→Option (Ctl (Int×List Int×Bool×List (List Int)) (X9×List (List Int))))=f
 have key:∀ (d n:Nat) (t:X9) (us:List (List Int)) (r:Int×List Int×Bool×List (List Int)),Z0v d t→opT d t→runP d t lst v=some r→d≤n→us.length+d≤300→(whileL f n (t,us)=some (.ret (r.1,r.2.1,r.2.2.1,us++r.2.2.2)))∨(r.1 = -1∧r.2.1=[]∧r.2.2.1=false∧∃ t',whileL f n (t,us)=some (.brk (t',us++r.2.2.2))):=by
  intro d
  induction d with
  | zero=>intro n t us r h;exact h.elim
  | succ d ih=>
   intro n t us r hd ho h hn hl
   obtain ⟨n,rfl⟩:∃ j,n=j+1:=⟨n-1,by omega⟩
   obtain ⟨⟨hd1,hd2,hd3,hd4,hd5⟩,hd6⟩:=hd
   obtain ⟨ho1,ho2⟩:=ho
   have hap:∀ p:List Int,app us [p]=some (us++[p]):=fun p=>W3 (by simp only [U3,U4,Q5];omega)
   have nxt:∀ (x:X9) (p:List Int) (y:Int×List Int×Bool×List (List Int)),x∈Q9z t→f (t,us)=some (.go (x,us++[p]))→runP d x lst v=some y→r=(y.1,y.2.1,y.2.2.1,p::y.2.2.2)→(whileL f (n+1) (t,us)=some (.ret (r.1,r.2.1,r.2.2.1,us++r.2.2.2)))∨(r.1 = -1∧r.2.1=[]∧r.2.2.1=false∧∃ t',whileL f (n+1) (t,us)=some (.brk (t',us++r.2.2.2))):=fun x p y hx hgo hy e=>by
    rw [Z0z hgo]
    subst e
    have e2:us++p::y.2.2.2=(us++[p])++y.2.2.2:=by simp
    simp only
    rw [e2]
    exact ih n x (us++[p]) y (hd6 x hx) (ho2 x hx) hy (by omega) (by simp only [U5,U3,U4];omega)
   rw [runP] at h
   by_cases h2:t.op=2
   ·rw [if_pos h2,U12] at h
    obtain ⟨u,hu,h⟩:=h
    by_cases hh:u.ctor = -2
    ·rw [if_pos hh] at h
     cases h
     refine .inl (Q2c ?_)
     subst hf
     simp only
     rw [if_pos (by rw [Bool.not_eq_true',Z9];omega),if_pos (by rw [Q8];exact h2),Z3j hu]
     simp only [U0]
     rw [if_pos (by rw [Q8];exact hh)]
     simp
    ·rw [if_neg hh] at h
     obtain ⟨q,hq,hqq⟩:=X10 t.branches u
     cases hfd:t.branches.find? (fun b=>X6 b u) with
     | none=>
      rw [hfd] at h hqq
      simp only at h hqq
      cases h
      refine .inl (Q2c ?_)
      subst hf
      simp only
      rw [if_pos (by rw [Bool.not_eq_true',Z9];omega),if_pos (by rw [Q8];exact h2),Z3j hu]
      simp only [U0]
      rw [if_neg (by rw [Q8];exact hh),hap]
      simp only [U0]
      rw [hq]
      simp only [U0]
      rw [if_pos (by rw [hqq];rfl)]
     | some b=>
      rw [hfd] at h hqq
      simp only [U11] at h hqq
      obtain ⟨y,hy,e⟩:=h
      refine nxt b.tree t.path y (List.mem_append_left _ (List.mem_map_of_mem (List.mem_of_find?_eq_some hfd))) ?_ hy e.symm
      subst hf
      simp only
      rw [if_pos (by rw [Bool.not_eq_true',Z9];omega),if_pos (by rw [Q8];exact h2),Z3j hu]
      simp only [U0]
      rw [if_neg (by rw [Q8];exact hh),hap]
      simp only [U0]
      rw [hq,hqq]
      simp only [U0]
      rw [if_neg (by simp)]
   ·rw [if_neg h2] at h
    by_cases h1:t.op=1
    ·rw [if_pos h1,U12] at h
     obtain ⟨c,hc,h⟩:=h
     by_cases hg0:c.guard.op=0
     ·rw [if_pos hg0] at h
      cases h
      refine .inl (Q2c ?_)
      subst hf
      simp only
      rw [if_pos (by rw [Bool.not_eq_true',Z9];omega),if_neg (by rw [Q8];exact h2),hc]
      simp only [U0]
      rw [W02 hg0]
      simp
     ·rw [if_neg hg0] at h
      cases hfd:t.binds.find? (fun b=>decide (b.var=c.guard.var)) with
      | none=>rw [hfd] at h;cases h
      | some b=>
       rw [hfd] at h
       simp only [U12] at h
       obtain ⟨u,hu,h⟩:=h
       by_cases hh:u.ctor = -2
       ·rw [if_pos hh] at h
        cases h
        refine .inl (Q2c ?_)
        subst hf
        simp only
        rw [if_pos (by rw [Bool.not_eq_true',Z9];omega),if_neg (by rw [Q8];exact h2),hc]
        simp only [U0]
        rw [X05 hg0 hfd]
        simp only [U0,Bool.not_true,U2,if_false]
        rw [Z3j hu]
        simp only [U0]
        rw [if_pos (by rw [Q8];exact hh)]
        simp
       ·rw [if_neg hh] at h
        split at h
        ·rename_i hu1
         have hst:∀ (z:Bool),Q1j c.guard [⟨c.guard.var,u⟩]=z→f (t,us)=if z=true then some (.ret (t.clause,[],false,us++[b.path])) else (idx t.else_ 0).bind fun x=>some (.go (x,us++[b.path])):=fun z hz=>by
          subst hf
          simp only
          rw [if_pos (by rw [Bool.not_eq_true',Z9];omega),if_neg (by rw [Q8];exact h2),hc]
          simp only [U0]
          rw [X05 hg0 hfd]
          simp only [U0,Bool.not_true,U2,if_false]
          rw [Z3j hu]
          simp only [U0]
          rw [if_neg (by rw [Q8];exact hh),hap]
          simp only [U0]
          rw [W39 hg0 hu1,hz]
          simp only [U0]
         split at h
         ·rename_i hg
          cases h
          refine .inl (Q2c ?_)
          rw [hst true hg]
          simp
         ·rename_i hg
          cases hel:t.else_ with
          | nil=>rw [hel] at h;cases h
          | cons el rest=>
           rw [hel] at h
           simp only [U11] at h
           obtain ⟨y,hy,e⟩:=h
           refine nxt el b.path y (List.mem_append_right _ (by rw [hel];simp)) ?_ hy e.symm
           rw [hst false (by simpa using hg),hel]
           rfl
        ·cases h
    ·rw [if_neg h1] at h
     cases h
     refine .inr ⟨rfl,rfl,rfl,t,X9q ?_⟩
     subst hf
     simp only
     rw [if_neg (by rw [Bool.not_eq_true,Bool.not_eq_false',Q8];omega)]
     simp
 obtain ⟨r1,r2,r3,r4⟩:=r
 rcases key 300 NN t [] _ hd ho h (by decide) (by simp) with h | ⟨rfl,rfl,rfl,t',h⟩
 ·rw [h]
  simp
 ·rw [h]
  simp
def V2q (w:List Q3) (t:Q4) (l:List Q6) (v:Q1) (tr:X9) (ok:Bool) (r:Int×List Int×Bool):Prop:=
 (r=(-1,[],false)∧¬(ok=true∧Q9j w t v=true))∨(ok=true∧Q9j w t v=true∧∃ q,runP 300 tr l v=some q∧r=(q.1,q.2.1,!q.2.2.1))
theorem W3g {lst:List Q6} {v:Q1} : ∀ (d:Nat) (t:X9) (r:Int×List Int×Bool×List (List Int)),Z0v d t→runP d t lst v=some r→r.2.1.length≤1000:=by
 intro d
 induction d with
 | zero=>intro t r h;exact h.elim
 | succ d ih=>
  intro t r hd hp
  obtain ⟨⟨hd1,hd2,hd3,hd4,hd5⟩,hd6⟩:=hd
  rw [runP] at hp
  have mapc:∀ (x:X9) (f:List (List Int)→List (List Int)),x∈Q9z t→((runP d x lst v).map fun r=>(r.1,r.2.1,r.2.2.1,f r.2.2.2))=some r→r.2.1.length≤1000:=fun x f hx h=>by
   rw [U11] at h
   obtain ⟨y,hy,rfl⟩:=h
   exact ih x y (hd6 x hx) hy
  by_cases h2:t.op=2
  ·rw [if_pos h2,U12] at hp
   obtain ⟨u,hu,hp⟩:=hp
   by_cases hh:u.ctor = -2
   ·rw [if_pos hh] at hp
    cases hp
    exact hd3
   ·rw [if_neg hh] at hp
    cases hf:t.branches.find? (fun b=>X6 b u) with
    | none=>rw [hf] at hp;cases hp;simp
    | some b=>
     rw [hf] at hp
     exact mapc b.tree (t.path::·) (List.mem_append_left _ (List.mem_map_of_mem (List.mem_of_find?_eq_some hf))) hp
  ·rw [if_neg h2] at hp
   by_cases h1:t.op=1
   ·rw [if_pos h1,U12] at hp
    obtain ⟨c,hc,hp⟩:=hp
    by_cases hg0:c.guard.op=0
    ·rw [if_pos hg0] at hp;cases hp;simp
    ·rw [if_neg hg0] at hp
     cases hf:t.binds.find? (fun b=>decide (b.var=c.guard.var)) with
     | none=>rw [hf] at hp;cases hp
     | some b=>
      rw [hf] at hp
      simp only [U12] at hp
      obtain ⟨u,hu,hp⟩:=hp
      by_cases hh:u.ctor = -2
      ·rw [if_pos hh] at hp
       cases hp
       exact hd2 b (List.mem_of_find?_eq_some hf)
      ·rw [if_neg hh] at hp
       split at hp
       ·split at hp
        ·cases hp;simp
        ·cases hel:t.else_ with
         | nil=>rw [hel] at hp;cases hp
         | cons el rest=>
          rw [hel] at hp
          exact mapc el (b.path::·) (List.mem_append_right _ (by rw [hel];simp)) hp
       ·cases hp
   ·rw [if_neg h1] at hp;cases hp;simp
theorem Z8w {w:List Q3} (hww:w∈Q0z) {t:Q4} (ht:t∈tys w) {l:List Q6} {pick:Int} {tr:X9} {ok:Bool} (e1:V4 NN w t l pick=some (tr,ok)) (e2:Q0o NN w t l pick=some (tr,ok)) (hd:Z0v 300 tr) (v:Q1) :
  ∃ r,Q19 NN w t l pick v=some r∧Q1y NN w t l pick v=some r∧V2q w t l v tr ok r:=by
 have hw:=ww hww
 unfold Q19 Q1y
 rw [e1,e2]
 simp only [U0]
 cases ok with
 | false=>exact ⟨_,rfl,rfl,.inl ⟨rfl,fun h=>by cases h.1⟩⟩
 | true=>
  simp only [Bool.not_true,U2,if_false]
  rw [Z2s hw ht,X66 hw ht]
  simp only [U0]
  cases hv:Q9j w t v with
  | false=>exact ⟨_,rfl,rfl,.inl ⟨rfl,fun h=>by rw [hv] at h;cases h.2⟩⟩
  | true=>
   simp only [Bool.not_true,U2,if_false]
   obtain ⟨q,hq⟩:=X3z hww ht e1 (Z6q hv)
   have hop:=W7k _ _ _ _ ((Q9s hww ht l pick).tr tr e1)
   have hpl:=W3g 300 tr q hd hq
   rw [X4a (used:=fun a0=>Q4f a0) (fun _=>rfl) hd hq,X3d hd hop hq]
   simp only [U0]
   rw [W3 (by simp only [U4,Q5];omega)]
   exact ⟨_,rfl,rfl,.inr ⟨rfl,hv,q,hq,rfl⟩⟩
theorem Z7c (l:List Int):Q02 l l=some true:=by
 suffices hs:Ret (Q02 l l) (fun a=>a=true) by
  obtain ⟨a,e,rfl⟩:=hs
  exact e
 unfold Q02
 have e:(!ieq (lenZ l.length) (lenZ l.length))=false:=by simp [ieq]
 simp only [e,U2,if_false]
 refine Ret.ctl (Z4 l (fun _ _=>True) (fun _=>False) (fun _=>True) trivial (fun i x s hi _=>?_) (fun _ _=>trivial)) (fun r hr=>hr.elim) (fun s _=>.some rfl)
 rw [Q2a hi]
 have e:(!ieq x x)=false:=by simp [ieq]
 simp only [U0,e,U2,if_false]
 exact .some trivial
def byt (r:X0) (i:Nat):Nat:=(r.b.getD i 0).toNat
def pk24 (r:X0) (p:Nat):Nat:=if r.b.length=0 then 0 else Zed.pkv (byt r) r.b.length p
theorem V22 {a:Nat} (h:a<1099511627776):wxor .i64 (a:Int) ((a / 64:Nat):Int)=((a ^^^ (a / 64):Nat):Int):=by
 have e:(BitVec.ofInt IntKind.i64.bits (a:Int) ^^^ BitVec.ofInt IntKind.i64.bits ((a / 64:Nat):Int)).toNat=a ^^^ (a / 64):=by
  have ha:(BitVec.ofInt IntKind.i64.bits (a:Int)).toNat=a:=by
   rw [BitVec.toNat_ofInt]
   show (((a:Int) % ((2 ^ 64:Nat):Int))).toNat=a
   omega
  have hb:(BitVec.ofInt IntKind.i64.bits ((a / 64:Nat):Int)).toNat=a / 64:=by
   rw [BitVec.toNat_ofInt]
   show ((((a / 64:Nat):Int) % ((2 ^ 64:Nat):Int))).toNat=a / 64
   omega
  rw [BitVec.toNat_xor,ha,hb]
 have hlt:a ^^^ (a / 64)<2 ^ 40:=Nat.xor_lt_two_pow (by omega) (by omega)
 unfold wxor
 rw [e,Z39 (by omega) (by omega)]
theorem V17 {r:X0} (hb:∀ x∈r.b,0≤x∧x≤255) (hl:r.b.length≤2000) {p:Nat} (hp:r.p=(p:Int)) (hp2:p≤30000000):Z8 r 24=some (((pk24 r p:Nat):Int),⟨r.b,((p+1:Nat):Int)⟩):=by
 have ep:wadd .i64 r.p 1=((p+1:Nat):Int):=by rw [hp,Y5]<;>omega
 have eq:wsub .i64 ((p+1:Nat):Int) 1=(p:Int):=by rw [Q1u]<;>omega
 unfold Z8
 rw [ep,eq,if_neg (by rw [X4];omega)]
 unfold pk24
 by_cases h0:r.b.length=0
 ·rw [if_pos (by rw [Q8];simp only [lenZ];omega),if_pos h0]
  rfl
 rw [if_neg (by rw [Q8];simp only [lenZ];omega),if_neg h0]
 have hpos:0<r.b.length:=by omega
 have hk0:chk (!ieq 24 0)=some ():=rfl
 have hb0:chk (!ieq (lenZ r.b.length) 0)=some ():=Z4h (by rw [Bool.not_eq_true',Z9];simp only [lenZ];omega)
 have get:∀ i:Nat,i<r.b.length→idx r.b (i:Int)=some ((byt r i:Nat):Int)∧byt r i≤255:=fun i hi=>by
  have h1:r.b[i]?=some r.b[i]:=U9 hi
  obtain ⟨b1,b2⟩:=hb _ (U1 h1)
  have h2:byt r i=r.b[i].toNat:=by unfold byt;rw [List.getD_eq_getElem?_getD,h1];rfl
  rw [Q2a h1,h2]
  exact ⟨by congr 1;omega,by omega⟩
 unfold Zed.pkv
 by_cases hlt:p<r.b.length
 ·rw [if_pos (by rw [X4];simp only [lenZ];omega),if_pos hlt]
  obtain ⟨g1,g2⟩:=get p hlt
  rw [g1,hk0]
  simp only [U0]
  rw [Z9x (by omega) (by omega)]
  congr 2
 ·rw [if_neg (by rw [X4];simp only [lenZ];omega),if_neg hlt,hb0]
  simp only [U0]
  have e7:wmul .i64 (p:Int) 7=((p * 7:Nat):Int):=by rw [Q7t]<;>omega
  have e73:wadd .i64 ((p * 7:Nat):Int) 3=((p * 7+3:Nat):Int):=by rw [Y5]<;>omega
  rw [e7,e73]
  have rm:∀ a:Nat,wrem (a:Int) (lenZ r.b.length)=((a % r.b.length:Nat):Int):=fun a=>by
   unfold wrem lenZ
   rw [Int.tmod_eq_emod_of_nonneg (by omega)]
   rfl
  rw [rm,rm]
  obtain ⟨g1,g2⟩:=get (p % r.b.length) (Nat.mod_lt _ hpos)
  obtain ⟨g3,g4⟩:=get ((p * 7+3) % r.b.length) (Nat.mod_lt _ hpos)
  rw [g1,g3,hk0]
  simp only [U0]
  generalize byt r (p % r.b.length)=x at g2 ⊢
  generalize byt r ((p * 7+3) % r.b.length)=y at g4 ⊢
  have f1:wcv .i64 (x:Int)=(x:Int):=Z9x (by omega) (by omega)
  have f2:wcv .i64 (y:Int)=(y:Int):=Z9x (by omega) (by omega)
  have f3:wmul .i64 (x:Int) 131=((x * 131:Nat):Int):=by rw [Q7t]<;>omega
  have f4:wmul .i64 (y:Int) 1117=((y * 1117:Nat):Int):=by rw [Q7t]<;>omega
  have f5:wmul .i64 (p:Int) 29=((p * 29:Nat):Int):=by rw [Q7t]<;>omega
  have hq:p / r.b.length≤p:=Nat.div_le_self _ _
  have f6:wquo .i64 (p:Int) (lenZ r.b.length)=((p / r.b.length:Nat):Int):=by
   have:(p:Int).tdiv (lenZ r.b.length)=((p / r.b.length:Nat):Int):=by
    rw [Int.tdiv_eq_ediv_of_nonneg (by omega)]
    rfl
   generalize p / r.b.length=q at hq this ⊢
   rw [X0v (by rw [this];omega) (by rw [this];omega),this]
  rw [f1,f2,f3,f4,f5,f6]
  generalize p / r.b.length=q at hq ⊢
  have f7:wmul .i64 (q:Int) 53=((q * 53:Nat):Int):=by rw [Q7t]<;>omega
  have f8:wadd .i64 ((x * 131:Nat):Int) ((y * 1117:Nat):Int)=((x * 131+y * 1117:Nat):Int):=by rw [Y5]<;>omega
  have f9:wadd .i64 ((x * 131+y * 1117:Nat):Int) ((p * 29:Nat):Int)=((x * 131+y * 1117+p * 29:Nat):Int):=by rw [Y5]<;>omega
  have f10:wadd .i64 ((x * 131+y * 1117+p * 29:Nat):Int) ((q * 53:Nat):Int)=((x * 131+y * 1117+p * 29+q * 53:Nat):Int):=by rw [Y5]<;>omega
  rw [f7,f8,f9,f10]
  have hz:x * 131+y * 1117+p * 29+q * 53<1099511627776:=by omega
  generalize x * 131+y * 1117+p * 29+q * 53=z at hz ⊢
  have f11:wquo .i64 (z:Int) 64=((z / 64:Nat):Int):=by
   have:(z:Int).tdiv 64=((z / 64:Nat):Int):=by
    rw [Int.tdiv_eq_ediv_of_nonneg (by omega)]
    rfl
   rw [X0v (by rw [this];omega) (by rw [this];omega),this]
  rw [f11]
  have f12:wxor .i64 (z:Int) ((z / 64:Nat):Int)=((z ^^^ (z / 64):Nat):Int):=V22 hz
  rw [f12]
  unfold Zed.yv
  have:wrem ((z ^^^ (z / 64):Nat):Int) 24=(((z ^^^ (z / 64)) % 24:Nat):Int):=by
   unfold wrem
   rw [Int.tmod_eq_emod_of_nonneg (by omega)]
   rfl
  rw [this]
def widV (m:Nat):Q1→Prop
 | ⟨_,_,ks⟩=>ks.length≤m∧widVs m ks
where widVs (m:Nat):List Q1→Prop
 | []=>True
 | v::l=>widV m v∧widVs m l
theorem X2z (m:Nat):∀ l:List Q1,widV.widVs m l↔∀ x∈l,widV m x
 | []=>by simp [widV.widVs]
 | v::l=>by simp only [widV.widVs,U8,forall_eq_or_imp,X2z m l]
theorem Q81 (m:Nat) (v:Q1):widV m v↔v.kids.length≤m∧∀ x∈v.kids,widV m x:=by
 cases v
 rw [widV,X2z]
theorem Q80 {m k:Nat} (h:m≤k):∀ v:Q1,widV m v→widV k v
 | ⟨a,b,ks⟩,hv=>by
  rw [Q81] at hv ⊢
  refine ⟨Nat.le_trans hv.1 h,fun x hx=>?_⟩
  have:=hv.2 x hx
  exact Q80 h x this
termination_by v=>SizeOf.sizeOf v
decreasing_by
 simp_wf
 have:=List.sizeOf_lt_of_mem hx
 simp at this
 omega
theorem X3y {r r':X0} {k x:Int} (h:Z8 r k=some (x,r')) (hp:r.p≤40000000):r'.p=wadd .i64 r.p 1:=by
 unfold Z8 at h
 split at h
 ·cases h;rfl
 split at h
 ·cases h;rfl
 split at h
 ·simp only [U12,Option.some.injEq,Prod.mk.injEq] at h
  obtain ⟨_,_,_,_,_,rfl⟩:=h
  rfl
 ·simp only [U12,Option.some.injEq,Prod.mk.injEq] at h
  obtain ⟨_,_,_,_,_,_,_,_,_,rfl⟩:=h
  rfl
def Par {α:Type} (x:Option α) (Q:α→Prop):Prop:=∀ a,x=some a→Q a
theorem Par.some {α:Type} {a:α} {Q:α→Prop} (h:Q a):Par (some a) Q:=fun b e=>by cases e;exact h
theorem Par.none {α:Type} {Q:α→Prop} : Par (none:Option α) Q:=fun b e=>by cases e
theorem Par.bind {α β:Type} {x:Option α} {f:α→Option β} {P:α→Prop} {Q:β→Prop} (hx:Par x P) (hf:∀ a,P a→Par (f a) Q):Par (x.bind f) Q:=fun b e=>by
 cases hx':x with
 | none=>rw [hx'] at e;cases e
 | some a=>rw [hx'] at e;exact hf a (hx a hx') b e
theorem Par.any {α β:Type} {x:Option α} {f:α→Option β} {Q:β→Prop} (hf:∀ a,Par (f a) Q):Par (x.bind f) Q:=Par.bind (P:=fun _=>True) (fun _ _=>trivial) fun a _=>hf a
theorem Par.ite {α:Type} {b:Bool} {x y:Option α} {Q:α→Prop} (h1:b=true→Par x Q) (h2:b=false→Par y Q):Par (if b=true then x else y) Q:=by
 cases b with
 | true=>exact h1 rfl
 | false=>exact h2 rfl
theorem Par.mono {α:Type} {x:Option α} {P Q:α→Prop} (h:∀ a,P a→Q a) (hx:Par x P):Par x Q:=fun a e=>h a (hx a e)
theorem Par.ctl {ρ σ τ:Type} {x:Option (Ctl ρ σ)} {g:Ctl ρ σ→Option τ} {R:ρ→Prop} {B:σ→Prop} {Q:τ→Prop} (h:Par x (CtlQ R B)) (hr:∀ r,R r→Par (g (.ret r)) Q) (hb:∀ s,B s→Par (g (.brk s)) Q):Par (x.bind g) Q:=
 Par.bind h fun a ha=>by
  cases a with
  | ret r=>exact hr r ha
  | brk s=>exact hb s ha
  | go s=>exact ha.elim
theorem X21 {α σ ρ:Type} {f:Nat→α→σ→Option (Ctl ρ σ)} (I:Nat→σ→Prop) (R:ρ→Prop) (B:σ→Prop):∀ (xs:List α) (i:Nat) (s0:σ),I i s0→(∀ k x s,x∈xs→I k s→Par (f k x s) (RndQ R B (I (k+1))))→(∀ s,I (i+xs.length) s→B s)→Par (forL f i xs s0) (CtlQ R B)
 | [],i,s0,h0,_,hb=>by
  unfold forL
  exact .some (hb s0 (by simpa using h0))
 | x::xs,i,s0,h0,st,hb=>by
  unfold forL
  have h1:=st i x s0 (by simp) h0
  intro a e
  cases hf:f i x s0 with
  | none=>rw [hf] at e;cases e
  | some o=>
   rw [hf] at e
   have h2:=h1 o hf
   cases o with
   | ret r=>cases e;exact h2
   | brk s=>cases e;exact h2
   | go s=>exact X21 I R B xs (i+1) s h2 (fun k y s hy=>st k y s (by simp [hy])) (fun s hs=>hb s (by simpa [Nat.add_assoc,Nat.add_comm 1] using hs)) a e
theorem Ret.both {α:Type} {x:Option α} {P Q:α→Prop} (h:Ret x P) (k:Par x Q):Ret x (fun a=>P a∧Q a):=by
 obtain ⟨a,e,hp⟩:=h
 exact ⟨a,e,hp,k a e⟩
theorem W5z {α:Type} (xs ys:List α):Par (app xs ys) (fun z=>z=xs++ys):=fun z hz=>by
 unfold app at hz
 split at hz
 ·cases hz;rfl
 ·cases hz
theorem X8m {w:List Q3} (hw:WW w) {r:X0} {t:Q4} (ht:t∈tys w) (h:ROk r 2600):Ret (Q6p NN r w t) (fun a=>(∀ c∈a.1,Q4y w t c.pat=true)∧a.1.length≤5∧Nx r a.2 2600):=by
 unfold Q6p
 refine Ret.bind (Q7k (h.le (by omega)) [3,2,4,5,1,0] (by simp) (by simp)) (fun a ha=>?_)
 have hr1:ROk a.2 2599:=ROk.nx (c:=1) h ha.2
 have hd:0≤a.1∧a.1≤5:=by
  have:=ha.1
  simp at this
  omega
 refine Ret.ctl (Q1v (fun s=>0≤s.2.2∧s.2.2≤5∧(s.2.1.length:Int)+s.2.2=a.1∧(∀ c∈s.2.1,Q4y w t c.pat=true)∧Nx a.2 s.1 (s.2.1.length * 500)) (fun s=>s.2.2.toNat) (fun _=>False) (fun s=>s.2.1.length≤5∧(∀ c∈s.2.1,Q4y w t c.pat=true)∧Nx a.2 s.1 2500)
  ⟨hd.1,hd.2,by simp,by simp,by simpa using Nx.refl a.2⟩ (fun s hI=>?_) NN (by have:=hd;show (a.1).toNat<30000000;omega)) (fun r hr=>hr.elim) (fun s hs=>.some ⟨hs.2.1,hs.1,(ha.2.trans hs.2.2).le' (by omega)⟩)
 obtain ⟨i1,i2,i3,i4,i5⟩:=hI
 refine Ret.ite (fun h=>?_) (fun h=>?_)
 ·rw [X4] at h
  have hr2:ROk s.1 500:=ROk.nx (c:=s.2.1.length * 500) (hr1.le (by omega)) i5
  refine Ret.bind (W1x hw ht hr2) (fun b hb=>?_)
  rw [W3 (by simp only [Q5,U3,U4];omega)]
  have hws:wsub .i64 s.2.2 1=s.2.2-1:=Q1u (by omega) (by omega)
  simp only [U0]
  rw [hws]
  refine .some ⟨⟨by simp only;omega,by simp only;omega,by simp;omega,fun c hc=>?_,?_⟩,by simp only;omega⟩
  ·rcases List.mem_append.1 hc with hc | hc
   ·exact i4 c hc
   ·simp at hc;subst hc;exact hb.1
  ·have:=i5.trans hb.2
   simp only [U5,U3,U4]
   exact this.le' (by omega)
 ·exact .some ⟨by simp only;omega,i4,i5.le' (by omega)⟩
theorem W0c {code:List Int} {q:X0} (h:((if (ilt 2000 (lenZ code.length))=true then ((Q7u code 2000).bind fun x8=>some (Ctl.brk (ρ:=X0) x8)) else some (Ctl.brk code)))=some (.ret q)):False:=by
 split at h
 ·cases ht:Q7u code 2000 with
  | none=>rw [ht] at h;cases h
  | some x=>rw [ht] at h;cases h
 ·cases h
theorem X5a {w:List Q3} (hw:WW w):∀ (n:Nat) (r:X0) (t:Q4) (depth:Int),t∈tys w→Par (Q26 n r w (tabP w) t depth) (fun a=>widV 3 a.1):=by
 intro n
 induction n with
 | zero=>intro r t depth _;exact .none
 | succ n ih=>
  intro r t depth ht
  have hT:=hw.ty t ht
  unfold Q26
  refine Par.ite (fun _=>?_) (fun _=>?_)
  ·exact Par.any fun a=>.some ((Q81 _ _).2 ⟨by simp,fun x hx=>by cases hx⟩)
  ·rw [hT.c1]
   simp only [U0]
   refine Par.ctl (X21 (fun _ (s:List Int)=>∀ x∈s,x∈X3 w t) (fun _=>False) (fun s=>∀ x∈s,x∈X3 w t) (X3 w t) 0 _ (by simp) (fun k x s hx hI=>?_) (fun s hs=>hs)) (fun r hr=>hr.elim) (fun s hs=>?_)
   ·have add:Par ((app s [x]).bind fun x310=>some (Ctl.brk (ρ:=Ctl (Q1×X0) (List Int)) x310)) (CtlQ (fun _=>False) (fun s'=>∀ x∈s',x∈X3 w t)):=by
     refine Par.bind (W5z _ _) (fun z hz=>.some ?_)
     subst hz
     intro y hy
     rcases List.mem_append.1 hy with hy | hy
     ·exact hI y hy
     ·simp only [List.mem_singleton] at hy;rw [hy];exact hx
    have pass:Par (some (Ctl.brk (ρ:=Ctl (Q1×X0) (List Int)) s)) (CtlQ (fun _=>False) (fun s'=>∀ x∈s',x∈X3 w t)):=.some hI
    refine Par.ctl (R:=fun _=>False) (B:=fun (s':List Int)=>∀ x∈s',x∈X3 w t) ?_ (fun r hr=>hr.elim) (fun s' hs'=>.some hs')
    refine Par.any fun a=>Par.ite (fun _=>Par.ite (fun _=>add) (fun _=>Par.any fun b=>Par.ite (fun _=>add) (fun _=>pass))) (fun _=>pass)
   ·refine Par.any fun a=>?_
    refine Par.bind (P:=fun x=>x∈X3 w t) (fun x hx=>?_) (fun x hx=>?_)
    ·unfold idx at hx
     split at hx
     ·exact hs x (U1 hx)
     ·cases hx
    ·rw [hT.a1 x hx]
     simp only [U0]
     have hal:=hT.al x hx
     refine Par.ctl (X21 (fun k (u:X0×List Q1)=>u.2.length≤k∧∀ y∈u.2,widV 3 y) (fun _=>False) (fun u=>u.2.length≤3∧∀ y∈u.2,widV 3 y) (V6 w t x) 0 _ (by simp) (fun k y u hy hI=>?_) (fun u hu=>⟨by have:=hu.1;omega,hu.2⟩)) (fun r hr=>hr.elim) (fun u hu=>.some ((Q81 _ _).2 hu))
     refine Par.bind (ih u.1 y _ (hT.at_ x hx y hy)) (fun b hb=>?_)
     refine Par.bind (W5z _ _) (fun z hz=>.some ?_)
     subst hz
     refine ⟨by simp only [U5,U3,U4];have:=hI.1;omega,fun q hq=>?_⟩
     rcases List.mem_append.1 hq with hq | hq
     ·exact hI.2 q hq
     ·simp only [List.mem_singleton] at hq;rw [hq];exact hb
theorem X1d (code:List Int) (hb:∀ x∈code,0≤x∧x≤255):Ret (Q2u code) (fun r=>ROk r 1000000∧r.p=0):=by
 obtain ⟨r,e,hr⟩:=V2r code hb
 refine ⟨r,e,hr,?_⟩
 unfold Q2u at e
 simp only [U12] at e
 obtain ⟨o,h1,h2⟩:=e
 cases o with
 | ret q=>exact (W0c h1).elim
 | go s=>cases h2
 | brk s=>simp only [Option.some.injEq] at h2;rw [←h2]
theorem X8b {w:List Q3} (hww:w∈Q0z) {t:Q4} (ht:t∈tys w) {l:List Q6} {pick:Int} {tr:X9} (e1:V4 NN w t l pick=some (tr,true)) {v:Q1} (hv:Q46 w 10 t v) {q:Int×List Int×Bool×List (List Int)} (hq:runP 300 tr l v=some q):q.1=(runR (runD v 0 l)).1∧q.2.1=[]∧q.2.2.1=false:=by
 obtain ⟨k,hk⟩:=Z5l hww ht e1 hv
 exact W05 (X0h hww 10 t v ht hv) 300 tr _ _ k q hk hq
end Go.Proofs.YtjgapphpbkapmaaGreat
