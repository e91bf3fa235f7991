import Derived.Test.YtgjpamkllimhdaaGreatJP0
import Derived.Test.YtgjpamkllimhdaaGreatJZ0
set_option linter.unusedSimpArgs false
set_option linter.unusedVariables false
namespace Go.Proofs.YtgjpamkllimhdaaGreat
open Go Go.RowKit
def CI (w:List Q4)(lst:List Q3)(pick:Int)(left:Int):X3:=⟨⟨w,dimP w⟩,lst,pick,300-left⟩
def Z0s (t:W3):List W3:=t.branches.map (fun b=>b.tree)++t.else_
def Z3a:Nat→W3→Prop
 | 0,_=>False
 | d+1,t=>(t.binds.length≤1000∧(∀ b∈t.binds,b.path.length≤1000)∧t.path.length≤1000∧t.branches.length≤20∧t.else_.length≤1)∧∀ x∈Z0s t,Z3a d x
def Z22:Nat→W3→Nat
 | 0,_=>0
 | d+1,t=>1+((Z0s t).map (Z22 d)).sum
theorem W4e:∀ {d e:Nat} {t:W3},Z3a d t→d≤e→Z3a e t:=by
 intro d
 induction d with
 | zero=>intro e t h;exact h.elim
 | succ d ih=>
  intro e t h he
  obtain ⟨e,rfl⟩:∃ k,e=k+1:=⟨e-1,by omega⟩
  exact ⟨h.1,fun x hx=>ih (h.2 x hx) (by omega)⟩
theorem V0l:∀ {d e:Nat} {t:W3},Z3a d t→d≤e→Z22 e t=Z22 d t:=by
 intro d
 induction d with
 | zero=>intro e t h;exact h.elim
 | succ d ih=>
  intro e t h he
  obtain ⟨e,rfl⟩:∃ k,e=k+1:=⟨e-1,by omega⟩
  unfold Z22
  rw [List.map_congr_left fun x hx=>ih (h.2 x hx) (show d≤e by omega)]
def brsR (P:Z3→W3→Prop):List Z3→List Z3→Prop
 | [],[]=>True
 | b::bs,x::xs=>(x.ctor=b.ctor∧x.n=b.n∧x.m=b.m∧P b x.tree)∧brsR P bs xs
 | _,_=>False
theorem X7o {P Q:Z3→W3→Prop}(h:∀ b t,P b t→Q b t):∀ {bs xs:List Z3},brsR P bs xs→brsR Q bs xs
 | [],[],_=>trivial
 | [],_::_,e=>e.elim
 | _::_,[],e=>e.elim
 | _::_,_::_,⟨⟨e1,e2,e3,e4⟩,e5⟩=>⟨⟨e1,e2,e3,h _ _ e4⟩,X7o h e5⟩
def Q9o (w:List Q4)(lst:List Q3)(pick:Int):Nat→W3→List Grow→List Z5→Prop
 | 0,_,_,_=>False
 | d+1,t,rows,cols=>match rows with
  | []=>t=zT
  | r0::rest=>match Z11 w (r0::rest) cols pick with
   | none=>t.op=1∧t.clause=r0.clause∧t.binds=Z0v r0.binds∧t.path=[]∧t.branches=[]∧∃ cl,lst[r0.clause.toNat]?=some cl∧
     ((cl.guard.op=0∧t.else_=[])∨(cl.guard.op≠0∧∃ el,t.else_=[el]∧Q9o w lst pick d el (Q3l (r0::rest) r0.clause) cols))
   | some k=>∃ col,cols[k]?=some col∧t.op=2∧t.clause=0∧t.binds=[]∧t.path=col.path∧t.else_=[]∧
     brsR (fun b x=>Q9o w lst pick d x (Q5i (r0::rest) k b (V5 w col b)) (Q6a cols k (V5 w col b))) (brsD w (r0::rest) col.t k) t.branches
theorem W2i {w:List Q4}{lst:List Q3}{pick:Int} : ∀ {d e:Nat} {t:W3} {rows:List Grow} {cols:List Z5},d≤e→Q9o w lst pick d t rows cols→Q9o w lst pick e t rows cols:=by
 intro d
 induction d with
 | zero=>intro e t rows cols _ h;exact h.elim
 | succ d ih=>
  intro e t rows cols he h
  obtain ⟨e,rfl⟩:∃ k,e=k+1:=⟨e-1,by omega⟩
  cases rows with
  | nil=>exact h
  | cons r0 rest=>
   simp only [Q9o] at h ⊢
   cases hp:Z11 w (r0::rest) cols pick with
   | none=>
    rw [hp] at h
    simp only at h ⊢
    obtain ⟨h1,h2,h3,h4,h5,cl,h6,h7⟩:=h
    refine ⟨h1,h2,h3,h4,h5,cl,h6,?_⟩
    rcases h7 with h7 | ⟨h7,el,h8,h9⟩
    ·exact .inl h7
    ·exact .inr ⟨h7,el,h8,ih (by omega) h9⟩
   | some k=>
    rw [hp] at h
    simp only at h ⊢
    obtain ⟨col,h1,h2,h3,h4,h5,h6,h7⟩:=h
    exact ⟨col,h1,h2,h3,h4,h5,h6,X7o (fun b t h=>ih (by omega) h) h7⟩
def Both (w:List Q4)(lst:List Q3)(pick:Int)(tot:Nat)(Q:W3→Prop)(x:Option (W3×Bool×X3))(y:Option (W3×Int)):Prop:=
 ∃ ti ok c ts e,x=some (ti,ok,c)∧y=some (ts,e)∧((ok=true∧ti=ts∧∃ l:Nat,e=(l:Int)∧c=CI w lst pick (l:Int)∧Z3a tot ti∧Z22 tot ti+l=tot∧Q ti)∨(ok=false∧e<0))
theorem V29 {n:Int}(h0:0≤n)(h:n≤100000):Q2j n=some []:=by
 unfold Q2j
 have e:ilt n 0=false:=by rw [V2];exact h0
 have e0:wsub .i64 0 (lenZ 0)=0:=rfl
 have e1:wsub .i64 n 0=n:=by rw [Q2k]<;>omega
 simp only [e,U2,if_false,e0,e1]
 by_cases hn:0<n
 ·have e2:ilt 0 n=true:=by rw [X1];exact hn
  have e3:mkS n (Z5.mk [] (Q6.mk 0 0))=some (List.replicate n.toNat (Z5.mk [] (Q6.mk 0 0))):=by
   unfold mkS;rw [if_pos ⟨h0,by simp [Q5];omega⟩]
  rw [if_pos e2,e3]
  rfl
 ·have e2:ilt 0 n=false:=by rw [V2];omega
  rw [if_neg (by rw [e2];simp)]
  rfl
theorem W8f {a b c:List Z5}(h:a.length+b.length+c.length≤100000):Q1p [a,b,c]=some (a++b++c):=by
 unfold Q1p
 have hA:wadd .i64 0 (lenZ a.length)=(a.length:Int):=by rw [V0]<;>simp only [lenZ]<;>omega
 have hB:wadd .i64 (a.length:Int) (lenZ b.length)=(a.length:Int)+b.length:=by rw [V0]<;>simp only [lenZ]<;>omega
 have hC:wadd .i64 ((a.length:Int)+b.length) (lenZ c.length)=(a.length:Int)+b.length+c.length:=by rw [V0]<;>simp only [lenZ]<;>omega
 have l1:ilt (a.length:Int) 0=false:=by rw [V2];omega
 have l2:ilt ((a.length:Int)+b.length) 0=false:=by rw [V2];omega
 have l3:ilt ((a.length:Int)+b.length+c.length) 0=false:=by rw [V2];omega
 simp only [forL,hA,hB,hC,l1,l2,l3,U2,if_false,U0]
 rw [V29 (by omega) (by omega)]
 simp only [U0]
 rw [X4 (by simp [Q5];omega)]
 simp only [U0,List.nil_append]
 rw [X4 (by simp only [Q5];omega)]
 simp only [U0]
 rw [X4 (by simp only [U5,Q5];omega)]
 rfl
theorem W8n {w:List Q4}{lst:List Q3}{pick:Int}{ρ:Type}{F:Nat→Z3→X3×List Z3→Option (Ctl (W3×Bool×X3) (X3×List Z3))}{G:Nat→Z3→Int×List Z3→Option (Ctl ρ (Int×List Z3))}{L:Nat}{brs:List Z3}{P:Z3→W3→Prop}
  (hFG:∀ b∈brs,∀ (i j l:Nat) (out:List Z3),l≤L→out.length≤20→
   (∃ (t:W3) (l':Nat),(Z3a L t∧Z22 L t+l'=l∧P b t)∧F i b (CI w lst pick l,out)=some (.go (CI w lst pick l',out++[⟨b.ctor,b.n,b.m,t⟩]))∧G j b ((l:Int),out)=some (.go ((l':Int),out++[⟨b.ctor,b.n,b.m,t⟩])))∨
   (∃ (c:X3) (e:Int) (out':List Z3),e<0∧F i b (CI w lst pick l,out)=some (.ret (zT,false,c))∧G j b ((l:Int),out)=some (.go (e,out'))))
  (hG:∀ (j:Nat) (b:Z3) (e:Int) (out:List Z3),e<0→G j b (e,out)=some (.brk (e,out))) :
  ∀ (bs:List Z3),(∀ b∈bs,b∈brs)→∀ (i j l:Nat) (out:List Z3),l≤L→out.length+bs.length≤20→
   (∃ (l':Nat) (out':List Z3),((∀ b∈out',b∈out∨Z3a L b.tree)∧(out'.map fun b=>Z22 L b.tree).sum+l'=(out.map fun b=>Z22 L b.tree).sum+l∧out'.length≤out.length+bs.length∧∃ ys,out'=out++ys∧brsR P bs ys)∧forL F i bs (CI w lst pick l,out)=some (.brk (CI w lst pick l',out'))∧forL G j bs ((l:Int),out)=some (.brk ((l':Int),out')))∨
   (∃ (c:X3) (e:Int) (out':List Z3),e<0∧forL F i bs (CI w lst pick l,out)=some (.ret (zT,false,c))∧forL G j bs ((l:Int),out)=some (.brk (e,out'))):=by
 intro bs
 induction bs with
 | nil=>intro _ i j l out hl _;exact .inl ⟨l,out,⟨fun b h=>.inl h,rfl,by simp,[],by simp,trivial⟩,rfl,rfl⟩
 | cons b bs ih=>
  intro hm i j l out hl hlen
  simp only [U3] at hlen
  rcases hFG b (hm b (by simp)) i j l out hl (by omega) with ⟨t,l',hl',e1,e2⟩ | ⟨c,e,out',he,e1,e2⟩
  ·unfold forL
   rw [e1,e2]
   rcases ih (fun x hx=>hm x (by simp [hx])) (i+1) (j+1) l' (out++[⟨b.ctor,b.n,b.m,t⟩]) (by omega) (by simp;omega) with ⟨l2,out',⟨h1,h2,h3,ys,h6,h7⟩,h4,h5⟩ | h
   ·refine .inl ⟨l2,out',⟨fun x hx=>?_,?_,?_,⟨b.ctor,b.n,b.m,t⟩::ys,by rw [h6];simp,⟨⟨rfl,rfl,rfl,hl'.2.2⟩,h7⟩⟩,h4,h5⟩
    ·rcases h1 x hx with h | h
     ·rcases List.mem_append.1 h with h | h
      ·exact .inl h
      ·simp only [U8,List.not_mem_nil,or_false] at h
       subst h
       exact .inr hl'.1
     ·exact .inr h
    ·rw [h2]
     simp only [List.map_append,List.map_cons,List.map_nil,List.sum_append,List.sum_cons,List.sum_nil]
     omega
    ·simp only [U5,U3,U4] at h3
     simp only [U3]
     omega
   ·exact .inr h
  ·refine .inr ?_
   unfold forL
   rw [e1,e2]
   cases bs with
   | nil=>exact ⟨c,e,out',he,rfl,rfl⟩
   | cons b2 bs=>
    refine ⟨c,e,out',he,rfl,?_⟩
    dsimp only
    unfold forL
    rw [hG _ _ _ _ he]
def V4h (w:List Q4)(lst:List Q3)(pick:Int)(left:Nat):Prop:=∀ (n m:Nat) (rows:List Grow) (cols:List Z5),2 * left+1500≤n→left+1500≤m→rows.length≤1000→ColC w cols left→(∀ r∈rows,RowC w lst cols r)→
 Both w lst pick left (fun t=>Q9o w lst pick left t rows cols) (Q00 n (CI w lst pick left) rows cols) (Q2l m w lst (cols.map toD) (rows.map toS) pick left)
theorem Z51 {rows:List Grow}{c:Int}{r:Grow}(h:r∈Q3l rows c):r∈rows:=(List.mem_filter.1 h).1
theorem W6n (rows:List Grow)(c:Int):(Q3l rows c).length≤rows.length:=List.length_filter_le _ _
theorem V5j {w:List Q4}{lst:List Q3}{pick:Int}{L n m:Nat}(hT:V4h w lst pick L)(hn:2 * L+1501≤n)(hm:L+1500≤m){r0:Grow}{rest:List Grow}{cols:List Z5}
  (hrl:(r0::rest).length≤1000) (hC:ColC w cols L) (hr:∀ r∈r0::rest,RowC w lst cols r) (hpk:Z11 w (r0::rest) cols pick=none) :
  Both w lst pick (L+1) (fun t=>Q9o w lst pick (L+1) t (r0::rest) cols) (Q1e n (CI w lst pick L) (r0::rest) cols)
   (((Q2n m r0.binds).bind fun r27=>((idx lst r0.clause).bind fun x30=>
    (if (ieq x30.guard.op 0)=true then some (((W3.mk 1 r0.clause r27 [] [] []),(L:Int)))
    else ((Q41 ((r0::rest).map toS) r0.clause).bind fun r32=>((Q2l m w lst (cols.map toD) r32 pick L).bind fun r33=>some (((W3.mk 1 r0.clause r27 [] [] [r33.1]),r33.2)))))))):=by
 obtain ⟨n,rfl⟩:∃ k,n=k+1:=⟨n-1,by omega⟩
 have h0:=hr r0 (by simp)
 obtain ⟨b1,b2,b3⟩:=h0.binds
 unfold Q1e
 rw [show idx (r0::rest) 0=some r0 from rfl]
 simp only [U0]
 rw [Z06 _ (by simp only [Q5];omega)]
 simp only [U0]
 rw [W0p (by omega) (by omega) b1 b2,Z70 (by omega) (by omega) (fun b hb=>by have:=h0.bp b hb;omega)]
 simp only [U0]
 rw [X0q (by rw [(Q5z b2).length_eq];simp)]
 simp only [U0]
 have hcl:r0.clause.toNat<lst.length:=by have:=h0.c0;have:=h0.c1;omega
 have hcl2:idx lst r0.clause=some (lst[r0.clause.toNat]):=Z67 h0.c0 (U9 hcl)
 rw [show (CI w lst pick (L:Int)).list=lst from rfl,hcl2]
 simp only [U0]
 have hcg:lst[r0.clause.toNat]?=some (lst[r0.clause.toNat]):=U9 hcl
 generalize lst[r0.clause.toNat]=cl at hcg ⊢
 have hsl:=(Q5z b2).length_eq
 have hbs:∀ (el:List W3),el.length≤1→((Z0v r0.binds).length≤1000∧(∀ b∈Z0v r0.binds,b.path.length≤1000)∧([]:List Int).length≤1000∧([]:List Z3).length≤20∧el.length≤1):=fun el he=>
  ⟨by omega,fun b hb=>h0.bp b ((Q5z b2).mem_iff.1 hb),by simp,by simp,he⟩
 by_cases hg:cl.guard.op=0
 ·have e:ieq cl.guard.op 0=true:=by simp [ieq,hg]
  simp only [e,if_true]
  exact ⟨_,_,_,_,_,rfl,rfl,.inl ⟨rfl,rfl,L,rfl,rfl,⟨hbs [] (by simp),by simp [Z0s]⟩,by simp [Z22,Z0s];omega,by simp only [Q9o,hpk];exact ⟨trivial,trivial,trivial,trivial,trivial,cl,hcg,.inl ⟨hg,trivial⟩⟩⟩⟩
 ·have e:ieq cl.guard.op 0=false:=by simp [ieq,hg]
  simp only [e,U2,if_false]
  simp only [U3] at hrl
  rw [W8g (by simp only [U3];omega)]
  simp only [U0]
  rw [X6m (by simp only [U3];omega) (by omega),X5o (by simp only [U3];omega)]
  simp only [U0]
  have hol:=W6n (r0::rest) r0.clause
  simp only [U3] at hol
  obtain ⟨ti,ok,c,ts,e,h1,h2,h3⟩:=hT n m (Q3l (r0::rest) r0.clause) cols (by omega) hm (by omega) hC (fun r h=>hr r (Z51 h))
  rw [h1,h2]
  simp only [U0]
  refine ⟨_,_,_,_,_,rfl,rfl,?_⟩
  rcases h3 with ⟨rfl,rfl,l,rfl,rfl,hd,hz,hq⟩ | ⟨rfl,he⟩
  ·exact .inl ⟨rfl,rfl,l,rfl,rfl,⟨hbs [ti] (by simp),by simpa [Z0s] using hd⟩,by simp [Z22,Z0s];omega,by simp only [Q9o,hpk];exact ⟨trivial,trivial,trivial,trivial,trivial,cl,hcg,.inr ⟨hg,ti,rfl,hq⟩⟩⟩
  ·exact .inr ⟨rfl,he⟩
theorem W0r (rows:List Grow)(k:Nat)(b:Z3)(args:List Z5):(Q5i rows k b args).length≤rows.length:=by
 unfold Q5i
 rw [U7]
 exact List.length_filter_le _ _
theorem V4r {w:List Q4}(hw:WW w)(hL:WL w)(hS:WS w){lst:List Q3}{pick:Int} : ∀ left:Nat,left≤300→V4h w lst pick left:=by
 intro left
 induction left using Nat.strongRecOn with
 | ind left ih=>
 intro hle n m rows cols hn hm hrl hC hr
 obtain ⟨n,rfl⟩:∃ k,n=k+1:=⟨n-1,by omega⟩
 obtain ⟨m,rfl⟩:∃ k,m=k+1:=⟨m-1,by omega⟩
 unfold Q00 Q2l
 have hcnt:(CI w lst pick (left:Int)).count=300-(left:Int):=rfl
 rw [hcnt,V0 (by omega) (by omega),Q2k (by omega) (by omega)]
 cases left with
 | zero=>
  have e1:ilt 300 (300-((0:Nat):Int)+1)=true:=rfl
  have e2:ilt (((0:Nat):Int)-1) 0=true:=rfl
  rw [if_pos e1,if_pos e2]
  exact ⟨_,_,_,_,_,rfl,rfl,.inr ⟨rfl,by omega⟩⟩
 | succ L=>
 have e1:ilt 300 (300-((L+1:Nat):Int)+1)=false:=by rw [V2];omega
 have e2:ilt (((L+1:Nat):Int)-1) 0=false:=by rw [V2];omega
 have eC:(X3.mk (CI w lst pick ((L+1:Nat):Int)).spaces (CI w lst pick ((L+1:Nat):Int)).list (CI w lst pick ((L+1:Nat):Int)).pick (300-((L+1:Nat):Int)+1))=CI w lst pick (L:Int):=by
  show X3.mk ⟨w,dimP w⟩ lst pick (300-((L+1:Nat):Int)+1)=X3.mk ⟨w,dimP w⟩ lst pick (300-(L:Int))
  rw [show 300-((L+1:Nat):Int)+1=300-(L:Int) by omega]
 rw [e1,e2,eC,show (((L+1:Nat):Int)-1)=(L:Int) by omega]
 simp only [U2,if_false,U7]
 have hCL:ColC w cols L:=⟨hC.ty,fun c hc=>by have:=hC.path c hc;omega,by have:=hC.len;omega⟩
 cases rows with
 | nil=>
  have e:ieq (lenZ ([]:List Grow).length) 0=true:=rfl
  rw [if_pos e,if_pos e]
  exact ⟨_,_,_,_,_,rfl,rfl,.inl ⟨rfl,rfl,L,rfl,rfl,⟨by simp,by simp [Z0s]⟩,by simp [Z22,Z0s];omega,by simp only [Q9o];rfl⟩⟩
 | cons r0 rest=>
 have e:ieq (lenZ (r0::rest).length) 0=false:=by
  rw [ieq,decide_eq_false_iff_not,Y0,U3]
  omega
 have h0:=hr r0 (by simp)
 have hlen:=hC.len
 simp only [e,U2,if_false]
 rw [show idx ((r0::rest).map toS) 0=some (toS r0) from rfl]
 simp only [U0]
 have hch:=X3r hw hL (n:=n) (by omega) (lst:=lst) (pick:=pick) (count:=300-(L:Int)) (rows:=r0::rest) (cols:=cols) (by simp) (by omega) hC.ty (fun k hk=>RowC.rng hr hk)
 rw [show Q0g n (CI w lst pick (L:Int)) (r0::rest) cols=some (optI (Z11 w (r0::rest) cols pick),CI w lst pick (L:Int)) from hch,Z6z]
 simp only [U0]
 have hfirst:Z1q (toR (toS r0))=none↔Z11 w (r0::rest) cols pick=none:=by
  unfold Z1q Z11
  rw [Q7x,Q7x]
  have hpl:(toR (toS r0)).pats.length=cols.length:=h0.len
  rw [hpl]
  exact Iff.rfl
 cases hp:Z11 w (r0::rest) cols pick with
 | none=>
  rw [hfirst.2 hp]
  have e:ilt (optI none) 0=true:=rfl
  simp only [e,if_true]
  obtain ⟨ti,ok,c,ts,e,h1,h2,h3⟩:=V5j (ih L (by omega) (by omega)) (n:=n) (m:=m) (by omega) (by omega) hrl hCL hr hp
  rw [h1]
  simp only [U0]
  exact ⟨ti,ok,c,ts,e,rfl,h2,h3⟩
 | some k=>
 obtain ⟨f,hf⟩:∃ f,Z1q (toR (toS r0))=some f:=by
  cases hq:Z1q (toR (toS r0)) with
  | none=>rw [hfirst.1 hq] at hp;cases hp
  | some f=>exact ⟨f,rfl⟩
 rw [hf]
 have e3:ilt (optI (some k)) 0=false:=by rw [V2];simp [optI]
 have e4:ilt (optI (some f)) 0=false:=by rw [V2];simp [optI]
 simp only [e3,e4,U2,if_false]
 have hkl:k<cols.length:=(Z2x hp).1
 obtain ⟨col,hk⟩:∃ c,cols[k]?=some c:=⟨_,U9 hkl⟩
 have hct:=hC.ty col (U1 hk)
 have hT:=hw.ty _ hct
 have hpl:=hC.path col (U1 hk)
 have hpk:=X8g hw hS (n:=m) (by omega) (pick:=pick) (row:=toS r0) (rest:=rest.map toS) (cols:=cols.map toD) (by simp only [U3,U7] at hrl ⊢;omega) (by rw [U7];omega) (by rw [U7];omega) (by rw [U7];exact h0.len)
  (fun c hc=>by obtain ⟨c',hc',rfl⟩:=U10.1 hc;exact hC.ty c' hc')
  (fun j hj=>by rw [←List.map_cons,toRS];exact RowC.rng hr (by rw [U7] at hj;exact hj)) hf
 rw [←List.map_cons,toRS,toCD,hp] at hpk
 rw [hpk]
 simp only [U0,optI]
 rw [Q16 hk,Q16 (show (cols.map toD)[k]?=some (toD col) by rw [List.getElem?_map,hk];rfl)]
 simp only [U0]
 rw [Q9k _ (by simp only [Q5];omega),X4 (by simp only [toD,U4,Q5];omega)]
 simp only [U0]
 have hbr:=Z2e hw hL (n:=n) (by omega) (lst:=lst) (pick:=pick) (count:=300-(L:Int)) (rows:=r0::rest) hk hct (RowC.rng hr hkl)
 rw [show J2 n (CI w lst pick (L:Int)) (r0::rest) cols (k:Int)=some (brsD w (r0::rest) col.t k,CI w lst pick (L:Int)) from hbr]
 have hcu:=Z3s hw hS (n:=m) (by omega) (rows:=(r0::rest).map toS) (col:=toD col) (k:=k) hct (by rw [toRS];exact RowC.rng hr hkl)
 rw [toRS] at hcu
 rw [hcu]
 simp only [U0]
 generalize hrows:r0::rest=rows at *
 have hbl:=W8m hT rows k
 rw [show (toD col).kind=col.t from rfl]
 generalize hbrs:brsD w rows col.t k=brs at *
 generalize hF:(fun (k2328:Nat) (x2329:Z3) (s2322:X3×(List Z3))=>_)=F
 generalize hG:(fun (k186:Nat) (x187:Z3) (s180:Int×(List Z3))=>_)=G
 have hloop:=W8n (w:=w) (lst:=lst) (pick:=pick) (F:=F) (G:=G) (L:=L) (brs:=brs) (P:=fun b x=>Q9o w lst pick L x (Q5i rows k b (V5 w col b)) (Q6a cols k (V5 w col b))) (fun b hb i j l out hl hol=>?_) (fun j b e out he=>?_) brs (fun b h=>h) 0 0 L [] (Nat.le_refl _) (by simp;omega)
 ·rcases hloop with ⟨l',out',⟨g1,g2,g3,ys,g4,g5⟩,e1,e2⟩ | ⟨c,e,out',he,e1,e2⟩
  ·rw [e1,e2]
   refine ⟨_,_,_,_,_,rfl,rfl,.inl ⟨rfl,rfl,l',rfl,rfl,⟨⟨by simp,by simp,by simp only;omega,by simp only [U4] at g3 ⊢;omega,by simp⟩,fun x hx=>?_⟩,?_,?_⟩⟩
   ·simp only [Z0s,List.append_nil] at hx
    obtain ⟨b,hb,rfl⟩:=U10.1 hx
    rcases g1 b hb with h | h
    ·cases h
    ·exact h
   ·simp only [Z22,Z0s,List.append_nil,List.map_map]
    have:(List.map (Z22 L∘fun b=>b.tree) out')=out'.map fun b=>Z22 L b.tree:=rfl
    rw [this]
    simp only [List.map_nil,List.sum_nil] at g2
    omega
   ·rw [←hrows] at hp g5 hbrs ⊢
    simp only [Q9o,hp]
    rw [g4,List.nil_append]
    exact ⟨col,hk,trivial,trivial,trivial,rfl,trivial,by rw [hbrs];exact g5⟩
  ·rw [e1,e2]
   exact ⟨_,_,_,_,_,rfl,rfl,.inr ⟨rfl,he⟩⟩
 ·have hB:BrC w col.t b:=V6k hL hct b (by rw [hbrs];exact hb)
  have hCn:ColC w (Q6a cols k (V5 w col b)) l:=by
   have:=ColC.next hw hC hk hB
   exact ⟨this.ty,fun c hc=>by have:=this.path c hc;omega,by have:=this.len;omega⟩
  have hRn:∀ r∈Q5i rows k b (V5 w col b),RowC w lst (Q6a cols k (V5 w col b)) r:=fun r hr'=>by
   unfold Q5i at hr'
   obtain ⟨r1,h1,rfl⟩:=U10.1 hr'
   obtain ⟨h2,h3⟩:=List.mem_filter.1 h1
   exact RowC.next hw hS hC (hr r1 h2) hk hB h3
  have hrn:=W0r rows k b (V5 w col b)
  have hK:∀ r∈rows,W2b r k b (V5 w col b):=fun r h=>RowC.kept hw hS hC (hr r h) hk hB
  obtain ⟨ti,ok,c,ts,e,h1,h2,h3⟩:=ih l (by omega) (by omega) n m (Q5i rows k b (V5 w col b)) (Q6a cols k (V5 w col b)) (by omega) (by omega) (by omega) hCn hRn
  have hal:(V5 w col b).length≤3:=(hK r0 (by rw [←hrows];simp)).al
  have hI:F i b (CI w lst pick l,out)=some (if ok=true then .go (c,out++[⟨b.ctor,b.n,b.m,ti⟩]) else .ret (zT,false,c)):=by
   suffices hs:Ret (F i b (CI w lst pick l,out)) (fun a=>a=(if ok=true then .go (c,out++[⟨b.ctor,b.n,b.m,ti⟩]) else .ret (zT,false,c))) by
    obtain ⟨a,e,rfl⟩:=hs
    exact e
   rw [←hF]
   refine Ret.ctl (R:=fun _=>False) (B:=fun s=>s=V5 w col b) ?_ (fun r h=>h.elim) (fun s hs=>?_)
   ·by_cases hc:b.ctor = -1
    ·have e:(!ieq b.ctor (-1))=false:=by simp [ieq,hc]
     simp only [e,U2,if_false]
     exact .some (by simp [V5,hc])
    ·have e:(!ieq b.ctor (-1))=true:=by simp [ieq,hc]
     have hd:col.t.data≠-1:=fun hd=>hc (hB.int hd)
     simp only [e,if_true]
     rw [show (CI w lst pick (l:Int)).spaces.w=w from rfl,hT.a2 _ (hB.ctor hd).1]
     simp only [U0]
     refine Ret.ctl (Z4 (V6 w col.t b.ctor) (fun i s=>s=(V5 w col b).take i) (fun _=>False) (fun s=>s=V5 w col b) (by simp) (fun i t s hi hI=>?_) (fun s hI=>?_)) (fun r hr=>hr.elim) (fun s hs=>.some hs)
     ·rw [X4 (by simp only [U3,U4,Q5];omega)]
      simp only [U0]
      rw [X4 (by rw [hI];simp only [U6,U3,U4,Q5];omega)]
      exact .some (by simp only [Y9];rw [hI,List.take_add_one,Z5n hc hi];rfl)
     ·rw [hI,show (V6 w col.t b.ctor).length=(V5 w col b).length by rw [Q7p,if_neg hc],List.take_length]
   ·subst hs
    dsimp only
    refine Ret.ctl (Z4 rows (fun i s=>s=Q5i (rows.take i) k b (V5 w col b)) (fun _=>False) (fun s=>s=Q5i rows k b (V5 w col b)) (by simp [Q5i]) (fun i r s hi hI=>?_) (fun s hI=>by rw [hI,List.take_length])) (fun r hr=>hr.elim) (fun s hs=>?_)
    ·have hil:i<rows.length:=(List.getElem?_eq_some_iff.1 hi).1
     rw [X93 (by omega) (hK r (U1 hi))]
     simp only [U0]
     have hsl:s.length≤1000:=by
      rw [hI]
      have:=W0r (rows.take i) k b (V5 w col b)
      rw [U6] at this
      omega
     have hstep:Q5i (rows.take (i+1)) k b (V5 w col b)=Q5i (rows.take i) k b (V5 w col b)++(if Q4r (X6 r k) b=true then [Q7b r k (V5 w col b)] else []):=by
      unfold Q5i
      rw [List.take_add_one,hi]
      simp only [Option.toList_some,List.filter_append,List.map_append]
      by_cases hf:Q4r (X6 r k) b=true<;>simp [hf]
     by_cases hf:Q4r (X6 r k) b=true
     ·rw [if_pos hf]
      simp only [if_true]
      rw [X4 (by simp only [U3,U4,Q5];omega)]
      exact .some (by simp only [Y9];rw [hstep,if_pos hf,hI])
     ·rw [if_neg hf]
      simp only [U2,if_false]
      exact .some (by simp only [Y9];rw [hstep,if_neg hf,hI,List.append_nil])
    ·subst hs
     dsimp only
     rw [Z4l (by omega)]
     simp only [U0]
     rw [V0 (by omega) (by omega),show ((k:Int)+1)=((k+1:Nat):Int) by simp,Z87 (by omega)]
     simp only [U0]
     rw [W8f (by simp only [U6,List.length_drop];omega)]
     simp only [U0]
     rw [show cols.take k++V5 w col b++cols.drop (k+1)=Q6a cols k (V5 w col b) from rfl,h1]
     simp only [U0]
     cases ok with
     | true=>
      simp only [Bool.not_true,U2,if_false]
      rw [X4 (by simp only [U3,U4,Q5];omega)]
      exact .some (by simp)
     | false=>
      simp only [Bool.not_false,if_true]
      exact .some (by simp [zT])
  have hJ:G j b ((l:Int),out)=some (.go (e,out++[⟨b.ctor,b.n,b.m,ts⟩])):=by
   rw [←hG]
   have e1:ile 0 (l:Int)=true:=by rw [Q03];omega
   have hb2:b.ctor≠-1→b.ctor∈X5 w col.t:=fun h=>(hB.ctor fun hd=>h (hB.int hd)).1
   simp only [e1,if_true]
   rw [Z4o hT hk hb2 (by omega) (by omega)]
   simp only [U0]
   rw [X8h (by omega) hT hk hb2 (by omega) (by omega) (by omega) (fun r h=>⟨hK r h,(hr r h).len⟩)]
   simp only [U0]
   rw [h2]
   simp only [U0]
   rw [X4 (by simp only [U3,U4,Q5];omega)]
   rfl
  rw [hI,hJ]
  rcases h3 with ⟨rfl,rfl,l',rfl,rfl,hd,hz,hq⟩ | ⟨rfl,he⟩
  ·exact .inl ⟨ti,l',⟨W4e hd hl,by rw [V0l hd hl];exact hz,W2i hl hq⟩,by simp,rfl⟩
  ·exact .inr ⟨c,e,_,he,by simp,rfl⟩
 ·rw [←hG]
  have e1:ile 0 e=false:=by rw [Q6n];omega
  simp only [e1,U2,if_false]
theorem X8t {l:List Q2}(hl:l.length≤1000)(hp:∀ b∈l,b.path.length≤1000):Q4n l=some l:=by
 suffices hs:Ret (Q4n l) (fun a=>a=l) by
  obtain ⟨a,e,rfl⟩:=hs
  exact e
 unfold Q4n
 refine Ret.ctl (Z4 l (fun i s=>s=l.take i) (fun _=>False) (fun s=>s=l) (by simp) (fun i x s hi hI=>?_) (fun s hI=>by rw [hI,List.take_length])) (fun r hr=>hr.elim) (fun s hs=>.some hs)
 have hx:=hp x (U1 hi)
 rw [Q9k _ (by simp only [Q5];omega)]
 simp only [U0]
 rw [X4 (by rw [hI];simp only [U6,U3,U4,Q5];omega)]
 exact .some (by simp only [Y9];rw [hI,List.take_add_one,hi];rfl)
theorem W4l (x:Z3):Z3.mk x.ctor x.n x.m x.tree=x:=by cases x;rfl
theorem V08 (t:W3):W3.mk t.op t.clause t.binds t.path t.branches t.else_=t:=by cases t;rfl
theorem W2x:∀ (d n:Nat) (t:W3),Z3a d t→d≤n→Q23 n t=some t:=by
 intro d
 induction d with
 | zero=>intro n t h;exact h.elim
 | succ d ih=>
  intro n t h hn
  obtain ⟨n,rfl⟩:∃ k,n=k+1:=⟨n-1,by omega⟩
  obtain ⟨⟨h1,h2,h3,h4,h5⟩,h6⟩:=h
  suffices hs:Ret (Q23 (n+1) t) (fun a=>a=t) by
   obtain ⟨a,e,rfl⟩:=hs
   exact e
  unfold Q23
  rw [X8t h1 h2,Q9k _ (by simp only [Q5];omega)]
  simp only [U0]
  refine Ret.ctl (Z4 t.branches (fun i s=>s=t.branches.take i) (fun _=>False) (fun s=>s=t.branches) (by simp) (fun i x s hi hI=>?_) (fun s hI=>by rw [hI,List.take_length])) (fun r hr=>hr.elim) (fun s hs=>?_)
  ·rw [ih n x.tree (h6 _ (List.mem_append_left _ (List.mem_map_of_mem (U1 hi)))) (by omega)]
   simp only [U0]
   rw [X4 (by rw [hI];simp only [U6,U3,U4,Q5];omega)]
   exact .some (by simp only [Y9];rw [hI,List.take_add_one,hi,W4l];rfl)
  ·subst hs
   refine Ret.ctl (Z4 t.else_ (fun i s=>s=t.else_.take i) (fun _=>False) (fun s=>s=t.else_) (by simp) (fun i x s hi hI=>?_) (fun s hI=>by rw [hI,List.take_length])) (fun r hr=>hr.elim) (fun s hs=>.some (by rw [hs,V08]))
   rw [ih n x (h6 _ (List.mem_append_right _ (U1 hi))) (by omega)]
   simp only [U0]
   rw [X4 (by rw [hI];simp only [U6,U3,U4,Q5];omega)]
   exact .some (by simp only [Y9];rw [hI,List.take_add_one,hi];rfl)
def Q1n (k:Nat)(p:Q0):Grow:=⟨(k:Int),[(Q6f p []).2],(Q6f p []).1⟩
def Q20 (l:List Q3):Nat→List Grow
 | 0=>[]
 | i+1=>Q20 l i++(match l[i]? with
  | none=>[]
  | some c=>(Q7 10 c.pat).map (Q1n i))
theorem X27 {l:List Q3} : ∀ {i:Nat} {r:Grow},r∈Q20 l i→∃ k c p,l[k]?=some c∧p∈Q7 10 c.pat∧r=Q1n k p:=by
 intro i
 induction i with
 | zero=>intro r h;cases h
 | succ i ih=>
  intro r h
  rw [Q20] at h
  rcases List.mem_append.1 h with h | h
  ·exact ih h
  ·cases hc:l[i]? with
   | none=>rw [hc] at h;cases h
   | some c=>
    rw [hc] at h
    obtain ⟨p,hp,rfl⟩:=U10.1 h
    exact ⟨i,c,p,hc,hp,rfl⟩
theorem Z61 {l:List Q3}(h:∀ c∈l,(Q7 10 c.pat).length≤40):∀ i,(Q20 l i).length≤40 * i:=by
 intro i
 induction i with
 | zero=>simp [Q20]
 | succ i ih=>
  rw [Q20,U5]
  cases hc:l[i]? with
  | none=>simp only [U4];omega
  | some c=>
   have:=h c (U1 hc)
   simp only [U7]
   omega
def W8y (w:List Q4)(t:Q6)(l:List Q3):Prop:=∀ c∈l,Q09 w 10 t c.pat=true∧linD w 10 t c.pat=true
theorem Z8v {w:List Q4}(hw:WW w){t:Q6}{l:List Q3}(hl:W8y w t l)(hll:l.length≤8):∀ r∈Q20 l l.length,RowC w l [⟨[],t⟩] r:=fun r hr=>by
 obtain ⟨k,c,p,hk,hp,rfl⟩:=X27 hr
 obtain ⟨g,ln⟩:=hl c (U1 hk)
 have hkl:=(List.getElem?_eq_some_iff.1 hk).1
 have hO:PatO w t p:=⟨Q0u 11 t p (Q0u 10 t p (Q3f 10 t c.pat p g hp)),Q3w 11 p (Q3w 10 p (Q8y 10 c.pat p hp))⟩
 obtain ⟨s1,s2,s3⟩:=Z6v [] hO
 have hv:X15 (Q1n k p)=Q4s p:=by
  unfold X15 Q1n
  simp only [List.flatMap_cons,List.flatMap_nil,List.append_nil]
  exact s2
 have hperm:=Z5y 10 t c.pat p g ln hp
 have hd:=Q5x 10 t c.pat g ln
 simp only [Q24,decide_eq_true_eq] at hd
 refine ⟨rfl,fun x hx=>?_,?_,fun v hv'=>?_,by simp [Q1n],by simp only [Q1n];omega,fun b hb=>?_⟩
 ·simp only [Q1n,List.zip_cons_cons,List.zip_nil_right,U8,List.not_mem_nil,or_false] at hx
  rw [hx]
  exact s1
 ·rw [hv];exact hperm.nodup_iff.2 hd
 ·rw [hv] at hv'
  obtain ⟨y,hy,rfl⟩:=U10.1 (hperm.mem_iff.1 hv')
  exact Z2s 10 t c.pat g y hy
 ·rw [s3 b hb];simp
theorem Z56 {w:List Q4}(hw:WW w){t:Q6}(ht:t∈tys w){l:List Q3}(hl:W8y w t l)(hll:l.length≤8) :
  Q1a NN l=some (if l.all (fun c=>decide ((Q7 10 c.pat).length≤40))=true then (l.map (fun c=>Q7 10 c.pat),true) else ([],false)):=by
 suffices hs:Ret (Q1a NN l) (fun a=>a=(if l.all (fun c=>decide ((Q7 10 c.pat).length≤40))=true then (l.map (fun c=>Q7 10 c.pat),true) else ([],false))) by
  obtain ⟨a,e,rfl⟩:=hs
  exact e
 unfold Q1a
 refine Ret.ctl (Z4 l (fun i s=>s=(l.take i).map (fun c=>Q7 10 c.pat)∧∀ c∈l.take i,(Q7 10 c.pat).length≤40) (fun r=>r=([],false)∧∃ c∈l,40<(Q7 10 c.pat).length) (fun s=>s=l.map (fun c=>Q7 10 c.pat)∧∀ c∈l,(Q7 10 c.pat).length≤40) ⟨by simp,by simp⟩ (fun i c s hi hI=>?_) (fun s hI=>by rw [List.take_length] at hI;exact hI)) (fun r hr=>.some ?_) (fun s hs=>.some ?_)
 ·obtain ⟨g,_⟩:=hl c (U1 hi)
  have hor:=Z9s hw 10 t c.pat ht g
  have hil:i<l.length:=(List.getElem?_eq_some_iff.1 hi).1
  rw [X4g 10 NN c.pat hor (by decide)]
  simp only [U0]
  by_cases hc:(Q7 10 c.pat).length≤40
  ·have e:ilt 40 ((min (Q7 10 c.pat).length 401:Nat):Int)=false:=by rw [V2];omega
   simp only [e,U2,if_false]
   rw [X6l 10 NN c.pat hor (by decide) (by omega)]
   simp only [U0]
   rw [X4 (by rw [hI.1];simp only [U7,U6,U3,U4,Q5];omega)]
   refine .some ⟨by rw [hI.1,List.take_add_one,hi];simp,fun c' hc'=>?_⟩
   rw [List.take_add_one,hi] at hc'
   rcases List.mem_append.1 hc' with h | h
   ·exact hI.2 c' h
   ·simp only [Option.toList_some,U8,List.not_mem_nil,or_false] at h
    rw [h];exact hc
  ·have e:ilt 40 ((min (Q7 10 c.pat).length 401:Nat):Int)=true:=by rw [X1];omega
   simp only [e,if_true]
   exact .some ⟨rfl,c,U1 hi,by omega⟩
 ·obtain ⟨rfl,c,hc,hlt⟩:=hr
  rw [if_neg]
  rw [List.all_eq_true]
  intro h
  have:=h c hc
  simp only [decide_eq_true_eq] at this
  omega
 ·obtain ⟨rfl,h⟩:=hs
  rw [if_pos]
  rw [List.all_eq_true]
  exact fun c hc=>by simpa using h c hc
structure Comp (Q:W3→Prop) (x y:Option (W3×Bool)):Prop where
 tr:∀ t,x=some (t,true)→Q t
 eq:∃ t ok,x=some (t,ok)∧y=some (t,ok)∧(ok=false→t=zT)∧Z3a 300 t∧Z22 300 t≤300
theorem V4m:Z3a 300 zT:=⟨by simp [zT],by simp [Z0s,zT]⟩
theorem V4l:Z22 300 zT=1:=by
 show 1+((Z0s zT).map (Z22 299)).sum=1
 rw [show Z0s zT=[] from rfl]
 simp
theorem Comp.no {Q:W3→Prop}{x y:Option (W3×Bool)}(h1:x=some (zT,false))(h2:y=some (zT,false)):Comp Q x y:=⟨fun t h=>by rw [h1] at h;simp at h,zT,false,h1,h2,fun _=>rfl,V4m,by rw [V4l];omega⟩
theorem W8a {ρ σ τ:Type}{x:Option (Ctl ρ σ)}{s0:σ}{g:Ctl ρ σ→Option τ}(h:Ret x (CtlQ (fun _=>False) (fun s=>s=s0))):x.bind g=g (.brk s0):=by
 obtain ⟨o,rfl,ho⟩:=h
 cases o with
 | ret r=>exact ho.elim
 | go s=>exact ho.elim
 | brk s=>rw [show s=s0 from ho];rfl
theorem V66 {ρ σ τ:Type}{x:Option (Ctl ρ σ)}{r0:ρ}{g:Ctl ρ σ→Option τ}(h:Ret x (CtlQ (fun r=>r=r0) (fun _=>False))):x.bind g=g (.ret r0):=by
 obtain ⟨o,rfl,ho⟩:=h
 cases o with
 | ret r=>rw [show r=r0 from ho];rfl
 | go s=>exact ho.elim
 | brk s=>exact ho.elim
def canC (w:List Q4)(t:Q6)(l:List Q3)(pick:Int):Bool:=Q4f w t l&&(decide (0≤pick)&&decide (pick≤2))&&l.all (fun c=>decide ((Q7 10 c.pat).length≤40))
theorem Z3w {w:List Q4}{t:Q6}{l:List Q3}(h:Q4f w t l=true):l.length≤8∧W8y w t l:=by
 simp only [Q4f,Bool.and_eq_true,decide_eq_true_eq,List.all_eq_true] at h
 refine ⟨h.1,fun c hc=>?_⟩
 have:=h.2 c hc
 simp only [Q83,Bool.and_eq_true] at this
 obtain ⟨g,_,ln⟩:=Q5b this.1
 exact ⟨g,ln⟩
theorem W14 {w:List Q4}(hww:w∈Q0s){t:Q6}(ht:t∈tys w)(l:List Q3)(pick:Int) :
  W8 NN w t l pick=if canC w t l pick=true then ((Q00 NN (CI w l pick ((300:Nat):Int)) (Q20 l l.length) [⟨[],t⟩]).bind fun r=>if (!r.2.1)=true then some (zT,false) else (Q23 NN r.1).bind fun r2=>some (r2,true)) else some (zT,false):=by
 have hw:=ww hww
 have hz:W3.mk 0 0 [] [] [] []=zT:=rfl
 unfold W8 canC
 rw [Z3k hw ht l]
 simp only [U0,hz]
 cases hv:Q4f w t l with
 | false=>simp
 | true=>
 obtain ⟨hll,hP⟩:=Z3w hv
 rw [Q86]
 simp only [U0,Bool.not_true,U2,if_false,Bool.true_and]
 cases hp:(decide (0≤pick)&&decide (pick≤2)) with
 | false=>simp
 | true=>
 simp only [Bool.not_true,U2,if_false,Bool.true_and]
 rw [Z56 hw ht hP hll]
 simp only [U0]
 cases hA:l.all (fun c=>decide ((Q7 10 c.pat).length≤40)) with
 | false=>simp
 | true=>
 simp only [if_true,Bool.not_true,U2,if_false]
 have hA':∀ c∈l,(Q7 10 c.pat).length≤40:=fun c hc=>by simpa using List.all_eq_true.1 hA c hc
 refine (W8a (s0:=Q20 l l.length) ?_).trans ?_
 ·refine Z4 (l.map fun c=>Q7 10 c.pat) (fun i s=>s=Q20 l i) (fun _=>False) (fun s=>s=Q20 l l.length) rfl (fun i ps s hi hI=>?_) (fun s hI=>by rw [hI,U7])
  rw [List.getElem?_map,U11] at hi
  obtain ⟨c,hi,rfl⟩:=hi
  have hc:=U1 hi
  have hil:i<l.length:=(List.getElem?_eq_some_iff.1 hi).1
  have hri:=Z61 hA' i
  have hcl:=hA' c hc
  refine Ret.ctl (Z4 (Q7 10 c.pat) (fun j u=>u=Q20 l i++((Q7 10 c.pat).take j).map (Q1n i)) (fun _=>False) (fun u=>u=Q20 l (i+1)) (by simp [hI]) (fun j p u hj hJ=>?_) (fun u hJ=>?_)) (fun r hr=>hr.elim) (fun u hu=>.some hu)
  ·have hjl:j<(Q7 10 c.pat).length:=(List.getElem?_eq_some_iff.1 hj).1
   have has:=Z9t 10 t p (Q3f 10 t c.pat p (hP c hc).1 (U1 hj))
   rw [W1x (d:=10) (n:=NN) has (by omega) (by decide) (by simp) (by simp) (by simp)]
   simp only [U0,List.nil_append]
   rw [X4 (by rw [hJ];simp only [U5,U7,U6,U3,U4,Q5];omega)]
   exact .some (by simp only [Y9];rw [hJ,List.take_add_one,hj];simp [Q1n])
  ·rw [hJ,List.take_length,Q20,hi]
 ·dsimp only
  rw [(wl hww).dim]
  simp only [U0]
  rfl
theorem V0j {w:List Q4}(hww:w∈Q0s){t:Q6}(ht:t∈tys w)(l:List Q3)(pick:Int) :
  Q1c NN w t l pick=if canC w t l pick=true then ((Q2l NN w l [⟨[],t⟩] ((Q20 l l.length).map toS) pick ((300:Nat):Int)).bind fun r=>if ilt r.2 0=true then some (zT,false) else some (r.1,true)) else some (zT,false):=by
 have hw:=ww hww
 have hz:W3.mk 0 0 [] [] [] []=zT:=rfl
 unfold Q1c canC
 rw [Z3d hw ht l]
 simp only [U0,hz]
 cases hv:Q4f w t l with
 | false=>simp
 | true=>
 obtain ⟨hll,hP⟩:=Z3w hv
 simp only [Bool.not_true,U2,if_false,Bool.true_and]
 by_cases p0:pick<0
 ·have e1:ilt pick 0=true:=by rw [X1];exact p0
  have e2:(decide ((0:Int)≤pick)&&decide (pick≤2))=false:=by simp;omega
  simp only [e1,e2,if_true,Bool.false_and,U2,if_false]
 have e1:ilt pick 0=false:=by rw [V2];omega
 simp only [e1,U2,if_false]
 by_cases p2:2<pick
 ·have e1:ilt 2 pick=true:=by rw [X1];exact p2
  have e2:(decide ((0:Int)≤pick)&&decide (pick≤2))=false:=by simp;omega
  simp only [e1,e2,if_true,Bool.false_and,U2,if_false]
 have e1:ilt 2 pick=false:=by rw [V2];omega
 have e2:(decide ((0:Int)≤pick)&&decide (pick≤2))=true:=by simp;omega
 simp only [e1,e2,U2,if_false,Bool.true_and]
 unfold Q6r
 have hsp:∀ c∈l,Y5 NN c.pat=some ((Q7 10 c.pat).take 401):=fun c hc=>Z6y 10 NN c.pat (Z9s hw 10 t c.pat ht (hP c hc).1) (by decide)
 cases hA:l.all (fun c=>decide ((Q7 10 c.pat).length≤40)) with
 | true=>
  simp only [if_true]
  have hA':∀ c∈l,(Q7 10 c.pat).length≤40:=fun c hc=>by simpa using List.all_eq_true.1 hA c hc
  have hsp':∀ c∈l,Y5 NN c.pat=some (Q7 10 c.pat):=fun c hc=>by
   have:=hA' c hc
   rw [hsp c hc,List.take_of_length_le (by omega)]
  have hrows:Q60 NN l=some ((Q20 l l.length).map toS):=by
   suffices hs:Ret (Q60 NN l) (fun a=>a=(Q20 l l.length).map toS) by
    obtain ⟨a,e,rfl⟩:=hs
    exact e
   unfold Q60
   refine Ret.ctl (Z4 l (fun i s=>s=(Q20 l i).map toS) (fun _=>False) (fun s=>s=(Q20 l l.length).map toS) rfl (fun i c s hi hI=>?_) (fun s hI=>hI)) (fun r hr=>hr.elim) (fun s hs=>.some hs)
   have hc:=U1 hi
   have hil:i<l.length:=(List.getElem?_eq_some_iff.1 hi).1
   have hri:=Z61 hA' i
   have hcl:=hA' c hc
   rw [hsp' c hc]
   simp only [U0]
   refine Ret.ctl (Z4 (Q7 10 c.pat) (fun j u=>u=(Q20 l i).map toS++(((Q7 10 c.pat).take j).map (Q1n i)).map toS) (fun _=>False) (fun u=>u=(Q20 l (i+1)).map toS) (by simp [hI]) (fun j p u hj hJ=>?_) (fun u hJ=>?_)) (fun r hr=>hr.elim) (fun u hu=>.some hu)
   ·have hjl:j<(Q7 10 c.pat).length:=(List.getElem?_eq_some_iff.1 hj).1
    have has:=Z9t 10 t p (Q3f 10 t c.pat p (hP c hc).1 (U1 hj))
    rw [X5i (d:=10) (n:=NN) has (by omega) (by decide) (by simp) (by simp)]
    simp only [U0,List.nil_append]
    rw [X4 (by rw [hJ];simp only [U5,U7,U6,U3,U4,Q5];omega)]
    exact .some (by simp only [Y9];rw [hJ,List.take_add_one,hj];simp [Q1n,toS])
   ·rw [hJ,List.take_length,Q20,hi];simp
  have h1:∀ (a:W3) (b:Bool),some (a,b)=some (a,b):=fun _ _=>rfl
  rw [hrows]
  have e300:(300:Int)=((300:Nat):Int):=rfl
  rw [e300]
  simp only [U0]
  have hin:∀ (X:Option (W3×Bool)),X.bind (fun r40=>some (r40.1,r40.2))=X:=fun X=>by cases X<;>rfl
  rw [hin]
  refine (W8a (s0:=()) ?_).trans ?_
  ·refine Z4 l (fun _ _=>True) (fun _=>False) (fun _=>_) trivial (fun i c s hi _=>?_) (fun _ _=>rfl)
   have hc:=U1 hi
   have:=hA' c hc
   rw [hsp' c hc]
   have e:ilt 40 (lenZ (Q7 10 c.pat).length)=false:=by rw [V2,Y0];omega
   simp only [U0,e,U2,if_false]
   exact .some trivial
  ·rfl
 | false=>
  have hx:∃ c∈l,40<(Q7 10 c.pat).length:=by
   rw [List.all_eq_false] at hA
   simpa using hA
  have hin:∀ (X:Option (W3×Bool)),X.bind (fun r40=>some (r40.1,r40.2))=X:=fun X=>by cases X<;>rfl
  rw [hin]
  simp only [U2,if_false]
  refine (V66 (r0:=(zT,false)) ?_).trans rfl
  refine Z4 l (fun i _=>∀ c∈l.take i,(Q7 10 c.pat).length≤40) (fun r=>r=(zT,false)) (fun _=>False) (by simp) (fun i c s hi hI=>?_) (fun s hI=>?_)
  ·have hc:=U1 hi
   rw [hsp c hc]
   simp only [U0]
   by_cases h40:(Q7 10 c.pat).length≤40
   ·have e:ilt 40 (lenZ ((Q7 10 c.pat).take 401).length)=false:=by rw [V2,Y0,U6];omega
    simp only [e,U2,if_false]
    refine .some fun c' hc'=>?_
    rw [List.take_add_one,hi] at hc'
    rcases List.mem_append.1 hc' with h | h
    ·exact hI c' h
    ·simp only [Option.toList_some,U8,List.not_mem_nil,or_false] at h
     rw [h];exact h40
   ·have e:ilt 40 (lenZ ((Q7 10 c.pat).take 401).length)=true:=by rw [X1,Y0,U6];omega
    simp only [e,if_true]
    exact .some rfl
  ·obtain ⟨c,hc,h⟩:=hx
   rw [List.take_length] at hI
   have:=hI c hc
   omega
theorem X8f {w:List Q4}{t:Q6}(ht:t∈tys w):ColC w [⟨[],t⟩] 300:=
 ⟨fun c hc=>by simp only [U8,List.not_mem_nil,or_false] at hc;rw [hc];exact ht,fun c hc=>by simp only [U8,List.not_mem_nil,or_false] at hc;rw [hc];simp,by simp⟩
theorem Z0m {w:List Q4}(hww:w∈Q0s){t:Q6}(ht:t∈tys w)(l:List Q3)(pick:Int):Comp (fun tr=>Q9o w l pick 300 tr (Q20 l l.length) [⟨[],t⟩]) (W8 NN w t l pick) (Q1c NN w t l pick):=by
 rw [W14 hww ht,V0j hww ht]
 cases hc:canC w t l pick with
 | false=>exact Comp.no (by simp) (by simp)
 | true=>
 simp only [if_true]
 simp only [canC,Bool.and_eq_true] at hc
 obtain ⟨hll,hP⟩:=Z3w hc.1.1
 have hA':∀ c∈l,(Q7 10 c.pat).length≤40:=fun c h=>by simpa using List.all_eq_true.1 hc.2 c h
 have hrl:=Z61 hA' l.length
 obtain ⟨ti,ok,c,ts,e,h1,h2,h3⟩:=V4r (ww hww) (wl hww) (ws hww) (lst:=l) (pick:=pick) 300 (Nat.le_refl _) NN NN (Q20 l l.length) [⟨[],t⟩] (by decide) (by decide) (by omega) (X8f ht) (Z8v (ww hww) hP hll)
 rw [h1,show [J8.mk [] t]=[Z5.mk [] t].map toD from rfl,h2]
 simp only [U0]
 rcases h3 with ⟨rfl,rfl,lf,rfl,rfl,hd,hsz,hq⟩ | ⟨rfl,he⟩
 ·have e:ilt ((lf:Nat):Int) 0=false:=by rw [V2];omega
  simp only [Bool.not_true,e,U2,if_false]
  rw [W2x 300 NN ti hd (by decide)]
  exact ⟨fun t h=>by simp only [U0,Option.some.injEq,Prod.mk.injEq] at h;rw [←h.1];exact hq,ti,true,rfl,rfl,by simp,hd,by omega⟩
 ·have e:ilt e 0=true:=by rw [X1];exact he
  simp only [Bool.not_false,e,if_true]
  exact Comp.no rfl rfl
def Z0c (l:List W9):List W9:=(List.range 6).flatMap fun (v:Nat)=>l.filter fun b=>decide (b.var=(v:Int))
theorem Z0u:∀ (a b:List W9),a.Pairwise (fun x y=>x.var<y.var)→b.Pairwise (fun x y=>x.var<y.var)→a.Perm b→a=b:=by
 intro a
 induction a with
 | nil=>intro b _ _ h;exact h.nil_eq
 | cons x a ih=>
  intro b ha hb h
  cases b with
  | nil=>exact absurd h.symm.nil_eq (by simp)
  | cons y b=>
   rw [List.pairwise_cons] at ha hb
   have hx:x∈y::b:=h.mem_iff.1 (by simp)
   have hy:y∈x::a:=h.mem_iff.2 (by simp)
   have hxy:x=y:=by
    rcases U8.1 hx with rfl | hx
    ·rfl
    ·rcases U8.1 hy with h1 | hy
     ·exact h1.symm
     ·have h1:=hb.1 x hx
      have h2:=ha.1 y hy
      omega
   subst hxy
   rw [ih b ha.2 hb.2 ((List.perm_cons x).1 h)]
theorem W2q {l:List W9}(h:l.Pairwise (fun x y=>x.var≤y.var))(hn:(l.map (·.var)).Nodup):l.Pairwise (fun x y=>x.var<y.var):=by
 rw [List.Nodup,List.pairwise_map] at hn
 refine (h.and hn).imp fun ⟨h1,h2⟩=>?_
 omega
theorem Q87 {l:List W9}(hn:(l.map (·.var)).Nodup):(Z0c l).Pairwise (fun x y=>x.var<y.var):=by
 unfold Z0c
 rw [List.pairwise_flatMap]
 refine ⟨fun v _=>?_,?_⟩
 ·have h1:(l.filter fun b=>decide (b.var=(v:Int))).Pairwise (fun x y=>x.var≤y.var):=by
   rw [List.pairwise_filter]
   refine List.pairwise_of_forall fun x y hx hy=>?_
   simp only [decide_eq_true_eq] at hx hy
   omega
  exact W2q h1 ((List.filter_sublist.map _).nodup hn)
 ·refine List.Pairwise.imp ?_ (List.pairwise_lt_range (n:=6))
  intro a b hab x hx y hy
  have h1:=(List.mem_filter.1 hx).2
  have h2:=(List.mem_filter.1 hy).2
  simp only [decide_eq_true_eq] at h1 h2
  omega
theorem Z7c {α β:Type}(f g h:α→List β)(e:∀ v,f v=g v++h v):∀ L:List α,(L.flatMap f).Perm (L.flatMap g++L.flatMap h)
 | []=>by simp
 | v::L=>by
  rw [List.flatMap_cons,List.flatMap_cons,List.flatMap_cons,e v,List.append_assoc,List.append_assoc]
  refine List.Perm.append_left _ ?_
  refine ((Z7c f g h e L).append_left (h v)).trans ?_
  rw [←List.append_assoc,←List.append_assoc]
  exact List.Perm.append_right _ List.perm_append_comm
theorem Q5c {l:List W9}(hv:∀ b∈l,0≤b.var∧b.var≤5):(Z0c l).Perm l:=by
 induction l with
 | nil=>simp [Z0c]
 | cons x l ih=>
  have h1:=ih fun b hb=>hv b (by simp [hb])
  obtain ⟨x0,x5⟩:=hv x (by simp)
  have h2:=Z7c (fun (v:Nat)=>(x::l).filter fun b=>decide (b.var=(v:Int))) (fun (v:Nat)=>if x.var=(v:Int) then [x] else []) (fun (v:Nat)=>l.filter fun b=>decide (b.var=(v:Int))) (fun v=>by
   by_cases hc:x.var=(v:Int)
   ·rw [List.filter_cons,if_pos (by simp [hc]),if_pos hc];rfl
   ·rw [List.filter_cons,if_neg (by simp [hc]),if_neg hc];rfl) (List.range 6)
  have hx:((List.range 6).flatMap fun (v:Nat)=>if x.var=(v:Int) then [x] else [])=[x]:=by
   have h6:x.var=0∨x.var=1∨x.var=2∨x.var=3∨x.var=4∨x.var=5:=by omega
   rcases h6 with h | h | h | h | h | h<;>simp [h,List.range,List.range.loop]
  rw [hx] at h2
  exact h2.trans (List.Perm.cons _ h1)
structure W0c (l:List W9):Prop where
 nd:(l.map (·.var)).Nodup
 rg:∀ b∈l,0≤b.var∧b.var≤5
 ln:l.length≤6
theorem W61 {a b:List W9}(ha:W0c a)(h:a.Perm b):Z0c a=Z0c b:=by
 have hb:(b.map (·.var)).Nodup:=(h.map _).nodup_iff.1 ha.nd
 have hr:∀ x∈b,0≤x.var∧x.var≤5:=fun x hx=>ha.rg x (h.mem_iff.2 hx)
 exact Z0u _ _ (Q87 ha.nd) (Q87 hb) ((Q5c ha.rg).trans (h.trans (Q5c hr).symm))
def Q08 (g:Q37)(l:List W9):Bool:=decide (g.op=0)||match l.find? fun b=>decide (b.var=g.var) with
 | none=>false
 | some b=>decide (b.value.ctor = -1)&&((decide (g.op=1)&&decide (b.value.n<g.n))||(decide (g.op=2)&&decide (b.value.n=g.n)))
theorem X08 {a b:List W9}(hn:(a.map (·.var)).Nodup)(h:a.Perm b)(v:Int):a.find? (fun x=>decide (x.var=v))=b.find? (fun x=>decide (x.var=v)):=by
 induction h with
 | nil=>rfl
 | cons x h ih=>
  rw [List.find?_cons,List.find?_cons]
  split
  ·rfl
  ·exact ih (List.nodup_cons.1 (by simpa using hn)).2
 | swap x y l=>
  simp only [List.map_cons,List.nodup_cons,U8,not_or] at hn
  simp only [List.find?_cons]
  by_cases h1:x.var=v
  ·have h2:¬y.var=v:=fun e=>hn.1.1 (by omega)
   simp [h1,h2]
  ·simp [h1]
 | trans h1 h2 ih1 ih2=>rw [ih1 hn,ih2 ((h1.map _).nodup_iff.1 hn)]
theorem Z1b {a b:List W9}(hn:(a.map (·.var)).Nodup)(h:a.Perm b)(g:Q37):Q08 g a=Q08 g b:=by
 unfold Q08
 rw [X08 hn h]
theorem Z9q {l:List W9}(h:W0c l)(g:Q37):Q08 g (Z0c l)=Q08 g l:=(Z1b h.nd (Q5c h.rg).symm g).symm
def runD (v:Q1):Nat→List Q3→Option (Nat×List W9)
 | _,[]=>none
 | k,c::cs=>match Z6 10 c.pat v with
  | none=>runD v (k+1) cs
  | some l=>if Q08 c.guard l=true then some (k,Z0c l) else runD v (k+1) cs
def runR:Option (Nat×List W9)→Int×List W9
 | none=>(-1,[])
 | some x=>((x.1:Int),x.2)
theorem V4q {l:List W9}(hn:(l.map (·.var)).Nodup){x y:W9}(hx:x∈l)(hy:y∈l)(h:x.var=y.var):x=y:=by
 induction l with
 | nil=>cases hx
 | cons a l ih=>
  simp only [List.map_cons,List.nodup_cons,U10,not_exists,not_and] at hn
  rcases U8.1 hx with h1 | h1
  ·rcases U8.1 hy with h2 | h2
   ·rw [h1,h2]
   ·exact absurd (by rw [←h1];exact h.symm) (hn.1 y h2)
  ·rcases U8.1 hy with h2 | h2
   ·exact absurd (by rw [←h2];exact h) (hn.1 x h1)
   ·exact ih hn.2 h1 h2
theorem V2i {l:List W9}(hn:(l.map (·.var)).Nodup){x:W9}{v:Int}(hx:x∈l)(h:x.var=v):l.find? (fun b=>decide (b.var=v))=some x:=by
 cases hf:l.find? (fun b=>decide (b.var=v)) with
 | none=>
  have:=List.find?_eq_none.1 hf x hx
  simp [h] at this
 | some y=>
  have h1:=List.find?_some hf
  have h2:=List.mem_of_find?_eq_some hf
  simp only [decide_eq_true_eq] at h1
  rw [V4q hn h2 hx (by omega)]
theorem Z7a (g:Q37){l:List W9}(hn:(l.map (·.var)).Nodup):Q0a g l=some (Q08 g l):=by
 suffices hs:Ret (Q0a g l) (fun r=>r=Q08 g l) by
  obtain ⟨a,e,rfl⟩:=hs
  exact e
 unfold Q0a
 refine Ret.ite (fun h0=>.some ?_) (fun h0=>?_)
 ·rw [Z8] at h0
  simp [Q08,h0]
 rw [W2] at h0
 refine Ret.bind (Z0e l (fun a0=>Q1x a0 g) (fun b=>ieq b.var g.var) (fun _ _=>rfl)) (fun i hi=>?_)
 rcases hi with ⟨k,x,rfl,hx,hxv⟩ | ⟨rfl,hall⟩
 ·rw [if_neg (by rw [X1];omega),Q16 hx]
  simp only [U0]
  rw [Z8] at hxv
  have hG:Q08 g l=(ieq x.value.ctor (-1)&&((ieq g.op 1&&ilt x.value.n g.n)||(ieq g.op 2&&ieq x.value.n g.n))):=by
   unfold Q08
   rw [V2i hn (U1 hx) hxv,decide_eq_false h0]
   rfl
  rw [hG]
  generalize ieq x.value.ctor (-1)=b1
  generalize ieq g.op 1=b2
  generalize ilt x.value.n g.n=b3
  generalize ieq g.op 2=b4
  generalize ieq x.value.n g.n=b5
  cases b1<;>cases b2<;>cases b3<;>cases b4<;>cases b5<;>exact .some rfl
 ·refine .some ?_
  have hf:l.find? (fun b=>decide (b.var=g.var))=none:=List.find?_eq_none.2 fun x hx=>by
   have:=hall x hx
   rw [W2] at this
   simpa using this
  simp [Q08,hf,h0]
theorem Z2l {α:Type}{l:List α}{k:Nat}{x:α}(h:l[k]?=some x):l.drop k=x::l.drop (k+1):=by
 obtain ⟨hk,rfl⟩:=List.getElem?_eq_some_iff.1 h
 exact List.drop_eq_getElem_cons hk
theorem Z9f {f:Q0→Q1→Option (List W9)} : ∀ (a:List Q0) (vs:List Q1) (c:Q0) (u:Q1),a.length=vs.length→V7 f (a++[c]) (vs++[u])=(V7 f a vs).bind fun l1=>(f c u).map (l1++·)
 | [],[],c,u,_=>by
  simp only [List.nil_append,V7,U0]
  cases f c u<;>simp
 | p::a,v::vs,c,u,h=>by
  simp only [List.cons_append,V7]
  rw [Z9f a vs c u (by simpa using h)]
  cases f p v with
  | none=>rfl
  | some l=>
   simp only
   cases V7 f a vs with
   | none=>rfl
   | some l1=>
    simp only [U0]
    cases f c u<;>simp
 | [],_::_,_,_,h=>by simp at h
 | _::_,[],_,_,h=>by simp at h
theorem Q4z {f:Q0→Q1→Option (List W9)} : ∀ (a b:List Q0) (us vs:List Q1),a.length=us.length→V7 f (a++b) (us++vs)=(V7 f a us).bind fun l1=>(V7 f b vs).map (l1++·)
 | [],b,[],vs,_=>by
  simp only [List.nil_append,V7,U0]
  cases V7 f b vs<;>simp
 | p::a,b,u::us,vs,h=>by
  simp only [List.cons_append,V7]
  rw [Q4z a b us vs (by simpa using h)]
  cases f p u with
  | none=>rfl
  | some l=>
   simp only
   cases V7 f a us with
   | none=>rfl
   | some l1=>
    simp only [U0]
    cases V7 f b vs<;>simp
 | [],_,_::_,_,h=>by simp at h
 | _::_,_,[],_,h=>by simp at h
theorem X09 {α β:Type}{l:List α}{f:α→Option β}(h:∀ x∈l,f x=none):l.findSome? f=none:=List.findSome?_eq_none_iff.2 h
theorem X47 {α β γ:Type}(l:List α)(g:α→β)(f:β→Option γ):(l.map g).findSome? f=l.findSome? fun x=>f (g x):=by
 induction l with
 | nil=>rfl
 | cons a l ih=>simp only [List.map_cons,List.findSome?_cons,ih]
theorem Z32 {α β:Type}{l:List α}{f g:α→Option β}(h:∀ x∈l,f x=g x):l.findSome? f=l.findSome? g:=by
 induction l with
 | nil=>rfl
 | cons a l ih=>simp only [List.findSome?_cons];rw [h a (by simp),ih fun x hx=>h x (by simp [hx])]
theorem X76 {α β γ:Type}(l:List α)(f:α→Option β)(g:β→γ):(l.findSome? fun x=>(f x).map g)=(l.findSome? f).map g:=by
 induction l with
 | nil=>rfl
 | cons a l ih=>
  simp only [List.findSome?_cons]
  cases f a with
  | none=>simpa using ih
  | some x=>rfl
theorem W0k {f:Q0→Q1→Option (List W9)}(l:List Q0)(vs:List Q1)(u:Q1):∀ out:List (List Q0),(∀ a∈out,a.length=vs.length)→
  (tupD out l).findSome? (fun ks=>V7 f ks (vs++[u]))=(out.findSome? fun a=>V7 f a vs).bind fun l1=>(l.findSome? fun c=>f c u).map (l1++·)
 | [],_=>by simp [tupD]
 | a::out,h=>by
  have e:tupD (a::out) l=(l.map fun c=>a++[c])++tupD out l:=by simp [tupD]
  rw [e,List.findSome?_append,X47,W0k l vs u out fun x hx=>h x (by simp [hx])]
  have e2:(l.findSome? fun x=>V7 f (a++[x]) (vs++[u]))=(V7 f a vs).bind fun l1=>(l.findSome? fun c=>f c u).map (l1++·):=by
   rw [Z32 fun x _=>Z9f a vs x u (h a (by simp))]
   cases V7 f a vs with
   | none=>simp only [Option.bind_none];exact X09 fun _ _=>rfl
   | some l1=>simp only [U0];exact X76 l _ _
  rw [e2,List.findSome?_cons]
  cases V7 f a vs with
  | none=>simp
  | some l1=>
   simp only [U0]
   cases l.findSome? fun c=>f c u with
   | none=>simp
   | some l2=>simp
def X48 (f:Q0→Q1→Option (List W9)):List (List Q0)→List Q1→Option (List W9)
 | [],_=>some []
 | _::_,[]=>none
 | l::ls,v::vs=>match l.findSome? fun c=>f c v with
  | none=>none
  | some r=>match X48 f ls vs with
   | none=>none
   | some m=>some (r++m)
theorem X5b {f:Q0→Q1→Option (List W9)} : ∀ (ls:List (List Q0)) (vs:List Q1) (vs0:List Q1) (out:List (List Q0)),ls.length=vs.length→(∀ a∈out,a.length=vs0.length)→
  (ls.foldl tupD out).findSome? (fun ks=>V7 f ks (vs0++vs))=(out.findSome? fun a=>V7 f a vs0).bind fun l1=>(X48 f ls vs).map (l1++·)
 | [],[],vs0,out,_,_=>by
  simp only [List.foldl_nil,List.append_nil,X48]
  cases out.findSome? fun a=>V7 f a vs0<;>simp
 | l::ls,v::vs,vs0,out,h,ho=>by
  rw [List.foldl_cons]
  have:=X5b (f:=f) ls vs (vs0++[v]) (tupD out l) (by simpa using h) (fun a ha=>by
   simp only [tupD,List.mem_flatMap,U10] at ha
   obtain ⟨q,hq,c,_,rfl⟩:=ha
   simp [ho q hq])
  rw [List.append_assoc,List.singleton_append] at this
  rw [this,W0k l vs0 v out ho]
  cases out.findSome? fun a=>V7 f a vs0 with
  | none=>rfl
  | some l1=>
   simp only [U0,X48]
   cases l.findSome? fun c=>f c v with
   | none=>rfl
   | some l2=>
    simp only [Option.map_some,U0]
    cases X48 f ls vs with
    | none=>rfl
    | some l3=>simp
 | [],_::_,_,_,h,_=>by simp at h
 | _::_,[],_,_,h,_=>by simp at h
theorem Z9g {f g:Q0→Q1→Option (List W9)}{s:Q0→List Q0} : ∀ (ps:List Q0) (vs:List Q1),(∀ (j:Nat) (p:Q0) (v:Q1),ps[j]?=some p→vs[j]?=some v→g p v=(s p).findSome? fun c=>f c v)→V7 g ps vs=X48 f (ps.map s) vs
 | [],_,_=>rfl
 | _::_,[],_=>rfl
 | p::ps,v::vs,h=>by
  simp only [V7,List.map_cons,X48]
  rw [h 0 p v rfl rfl,Z9g ps vs fun j p' v' h1 h2=>h (j+1) p' v' (by simpa using h1) (by simpa using h2)]
  cases (s p).findSome? fun c=>f c v with
  | none=>rfl
  | some l=>
   simp only
   cases X48 f (ps.map s) vs<;>rfl
theorem Z0b {w:List Q4}(hw:WW w)(hS:WS w):∀ (d e:Nat) (t:Q6) (p:Q0) (v:Q1),t∈tys w→Q09 w d t p=true→Q30 w e t v→(Q7 d p).findSome? (fun q=>Z6 d q v)=Z6 d p v:=by
 intro d
 induction d with
 | zero=>intro e t p v _ h;simp [Q09] at h
 | succ d ih=>
  intro e t p v ht g hv
  have hn:=Q06 g
  obtain ⟨ho,hl⟩:=Q0i hn
  by_cases h5:p.op=5
  ·obtain ⟨a,b,hab,hkt⟩:=kid0 h5 hl
   have ga:=Q05 g (k:=0) (a:=t) (q:=a) (by rw [hkt];rfl) (by rw [hab];rfl)
   have gb:=Q05 g (k:=1) (a:=t) (q:=b) (by rw [hkt];rfl) (by rw [hab];rfl)
   have e1:Q7 (d+1) p=Q7 d a++Q7 d b:=by simp [Q7,h5,hab]
   rw [e1,List.findSome?_append]
   have mono:∀ x,Q09 w d t x=true→(Q7 d x).findSome? (fun q=>Z6 (d+1) q v)=Z6 d x v:=fun x gx=>by
    rw [Z32 fun q hq=>(Q4y d t q (Q3f d t x q gx hq)).2.2.2 v]
    exact ih e t x v ht gx hv
   rw [mono a ga,mono b gb]
   rw [Z6,if_neg (by omega),if_neg (by omega),if_neg (by omega),if_pos h5,hab]
   simp only
   cases Z6 d a v<;>simp
  ·have e1:Q7 (d+1) p=((p.kids.map (Q7 d)).foldl tupD [[]]).map (Q6e p):=by simp [Q7,h5]
   rw [e1,X47]
   by_cases h4:p.op=4
   ·have hc:=Q8r ho h4
    have hd:t.data≠-1:=fun hd=>by rw [hS.int t ht hd] at hc;cases hc
    have hm:∀ ks,Z6 (d+1) (Q6e p ks) v=if p.ctor=v.ctor then V7 (Z6 d) ks v.kids else none:=fun ks=>by
     rw [Z6,if_neg (by simp [Q6e];omega),if_neg (by simp [Q6e];omega),if_neg (by simp [Q6e];omega),if_neg (by simpa [Q6e] using h5),if_neg (by simp [Q6e];omega)]
     rfl
    have hm2:Z6 (d+1) p v=if p.ctor=v.ctor then V7 (Z6 d) p.kids v.kids else none:=by
     rw [Z6,if_neg (by omega),if_neg (by omega),if_neg (by omega),if_neg h5,if_neg (by omega)]
    rw [Z32 fun ks _=>hm ks,hm2]
    by_cases hcv:p.ctor=v.ctor
    ·simp only [if_pos hcv]
     cases e with
     | zero=>exact hv.elim
     | succ e=>
     rw [Q30,if_neg hd] at hv
     obtain ⟨_,_,hvl,hvk⟩:=hv
     have hkt:Y1 w t p=V6 w t v.ctor:=by rw [Y1,if_pos h4,hcv]
     have hlen:(p.kids.map (Q7 d)).length=v.kids.length:=by rw [U7,hl,hkt,hvl]
     have:=X5b (f:=Z6 d) (p.kids.map (Q7 d)) v.kids [] [[]] hlen (by simp)
     rw [List.nil_append] at this
     rw [this]
     simp only [List.findSome?_cons,V7,U0]
     rw [Z9g (f:=Z6 d) (g:=Z6 d) (s:=Q7 d) p.kids v.kids fun j q u hq hu=>?_]
     ·cases X48 (Z6 d) (p.kids.map (Q7 d)) v.kids<;>simp
     ·have hj:=(List.getElem?_eq_some_iff.1 hq).1
      obtain ⟨a,ha⟩:∃ a,(V6 w t v.ctor)[j]?=some a:=⟨_,U9 (by rw [hkt] at hl;omega)⟩
      exact (ih e a q u (Q8d (hw.ty t ht) ht ho _ (by rw [hkt];exact U1 ha)) (Q05 g (by rw [hkt];exact ha) hq) (hvk j a u ha hu)).symm
    ·simp only [if_neg hcv]
     exact X09 fun _ _=>rfl
   ·by_cases h6:p.op=6
    ·obtain ⟨a,hk,hkt⟩:=X8y h6 hl
     have ga:=Q05 g (k:=0) (a:=t) (q:=a) (by rw [hkt];rfl) (by rw [hk];rfl)
     have e2:((p.kids.map (Q7 d)).foldl tupD [[]])=(Q7 d a).map fun c=>[c]:=by
      rw [hk];simp [tupD]
     rw [e2,X47]
     have hm:∀ c,Z6 (d+1) (Q6e p [c]) v=(Z6 d c v).map (fun l=>⟨p.var,v⟩::l):=fun c=>by
      rw [Z6,if_neg (by simp [Q6e];omega),if_neg (by simp [Q6e];omega),if_neg (by simp [Q6e];omega),if_neg (by simp [Q6e];omega),if_pos (by simpa [Q6e] using h6)]
      rfl
     rw [Z32 fun c _=>hm c,X76,ih e t a v ht ga hv]
     rw [Z6,if_neg (by omega),if_neg (by omega),if_neg (by omega),if_neg h5,if_pos h6,hk]
    ·have hk:p.kids=[]:=by
      rw [Y1,if_neg h4,if_neg h5,if_neg h6] at hl
      exact List.eq_nil_of_length_eq_zero hl
     rw [hk]
     have:Q6e p []=p:=by rw [←hk];cases p;rfl
     simp only [List.map_nil,List.foldl_nil,List.findSome?_cons,this]
     cases Z6 (d+1) p v<;>rfl
theorem X8e {w:List Q4}{t:Q6}{path:List Int}{v:Q1} : ∀ (d:Nat) (p:Q0),asOk d p→Q09 w 12 t p=true→Z6 12 p v=(Z6 12 (Q1z d p path).2 v).map (((Q1z d p path).1.map fun b=>W9.mk b.var v)++·):=by
 intro d
 induction d with
 | zero=>intro p h;exact h.elim
 | succ d ih=>
  intro p h g
  rw [Q31]
  by_cases h6:p.op=6
  ·obtain ⟨q,hq,hd⟩:=h h6
   have ga:Q09 w 11 t q=true:=Q05 g (k:=0) (a:=t) (by rw [Y1,if_neg (by omega),if_neg (by omega),if_pos h6];rfl) (by rw [hq];rfl)
   rw [if_pos h6,hq]
   simp only [List.headD_cons]
   have e1:Z6 12 p v=(Z6 12 q v).map (fun l=>⟨p.var,v⟩::l):=by
    rw [(Q4y 11 t q ga).2.2.2 v,Z6,if_neg (by omega),if_neg (by omega),if_neg (by omega),if_neg (by omega),if_pos h6,hq]
   rw [e1,ih q hd (Q0u 11 t q ga)]
   cases Z6 12 (Q1z d q path).2 v<;>simp
  ·rw [if_neg h6]
   by_cases h2:p.op=2
   ·rw [if_pos h2]
    have e1:Z6 12 p v=some [⟨p.var,v⟩]:=by rw [Z6,if_neg (by omega),if_pos h2]
    have e2:Z6 12 anyP v=some []:=X7s 11 v
    rw [e1]
    simp only
    rw [e2]
    rfl
   ·rw [if_neg h2]
    simp only [List.map_nil,List.nil_append]
    cases Z6 12 p v<;>rfl
theorem V3j {w:List Q4}{t:Q6}{p:Q0}(path:List Int)(v:Q1)(g:Q09 w 12 t p=true):Z6 12 p v=(Z6 12 (Q6f p path).2 v).map (((Q6f p path).1.map fun b=>W9.mk b.var v)++·):=
 X8e 12 p (Z9t 12 t p g) g
theorem W3n {w:List Q4}{e:Nat}{t:Q6}{v:Q1}(h:Q30 w e t v)(hd:t.data≠-1):∃ e',e=e'+1∧v.ctor∈X5 w t∧v.kids.length=(V6 w t v.ctor).length∧∀ (j:Nat) (a:Q6) (x:Q1),(V6 w t v.ctor)[j]?=some a→v.kids[j]?=some x→Q30 w e' a x:=by
 cases e with
 | zero=>exact h.elim
 | succ e=>
  simp only [Q30,if_neg hd] at h
  exact ⟨e,rfl,h.2.1,h.2.2.1,h.2.2.2⟩
theorem W3o {α:Type}{l:List α}{n j:Nat}(h:l.length=n)(hj:j<n):∃ x,l[j]?=some x:=⟨l[j]'(by omega),by simp⟩
def V6f (w:List Q4)(t:Q6):Bool:=
 (decide (depP w t≠0)||(X5 w t).all (fun k=>(V6 w t k).any (fun a=>decide (depP w a=0))))&&decide ((X5 w t).Nodup)
def chkE (w:List Q4):Bool:=(tys w).all (V6f w)
theorem W4k:Q0s.all chkE=true:=by kernel_rfl
structure WE (w:List Q4):Prop where
 e0:∀ t∈tys w,depP w t=0→∀ k∈X5 w t,∃ a∈V6 w t k,depP w a=0
 nd:∀ t∈tys w,(X5 w t).Nodup
theorem we {w:List Q4}(h:w∈Q0s):WE w:=by
 have h:=List.all_eq_true.1 W4k w h
 simp only [chkE,List.all_eq_true] at h
 refine ⟨fun t ht h0 k hk=>?_,fun t ht=>?_⟩
 ·have:=h t ht
  simp only [V6f,Bool.and_eq_true,Bool.or_eq_true,decide_eq_true_eq,List.all_eq_true,List.any_eq_true] at this
  rcases this.1 with h1 | h1
  ·exact absurd h0 h1
  ·exact h1 k hk
 ·have:=h t ht
  simp only [V6f,Bool.and_eq_true,decide_eq_true_eq] at this
  exact this.2
theorem W1j {w:List Q4}(hw:WW w)(he:WE w):∀ (e:Nat) (t:Q6) (v:Q1),t∈tys w→Q30 w e t v→depP w t≠0
 | 0,_,_,_,h=>h.elim
 | e+1,t,v,ht,h=>fun h0=>by
  by_cases hd:t.data = -1
  ·have:=((hw.ty t ht).ti hd).2;omega
  ·obtain ⟨e',e1,g1,g2,g3⟩:=W3n h hd
   cases e1
   obtain ⟨a,ha,ha0⟩:=he.e0 t ht h0 _ g1
   obtain ⟨j,hj⟩:=List.mem_iff_getElem?.1 ha
   obtain ⟨x,hx⟩:=W3o g2 (List.getElem?_eq_some_iff.1 hj).1
   exact W1j hw he e a x ((hw.ty t ht).at_ _ g1 a ha) (g3 j a x hj hx) ha0
def Q4h:Q1→List Int→Option Q1
 | v,[]=>some v
 | v,i::path=>(idx v.kids i).bind fun u=>Q4h u path
theorem Z2y:∀ (path:List Int) (v:Q1) (i:Int),Q4h v (path++[i])=(Q4h v path).bind fun u=>idx u.kids i
 | [],v,i=>by
  simp only [List.nil_append,Q4h,U0]
  cases idx v.kids i<;>rfl
 | j::path,v,i=>by
  simp only [List.cons_append,Q4h]
  cases idx v.kids j with
  | none=>rfl
  | some u=>simp only [U0];exact Z2y path u i
def Q10:List Q2→Q1→Option (List W9)
 | [],_=>some []
 | b::l,v=>(Q4h v b.path).bind fun u=>(Q10 l v).map (W9.mk b.var u::·)
theorem Q8u:∀ (a b:List Q2) (v:Q1),Q10 (a++b) v=(Q10 a v).bind fun l=>(Q10 b v).map (l++·)
 | [],b,v=>by
  simp only [List.nil_append,Q10,U0]
  cases Q10 b v<;>rfl
 | x::a,b,v=>by
  simp only [List.cons_append,Q10]
  cases Q4h v x.path with
  | none=>rfl
  | some u=>
   simp only [U0]
   rw [Q8u a b v]
   cases Q10 a v with
   | none=>rfl
   | some l=>
    simp only [U0,Option.map_some]
    cases Q10 b v<;>rfl
theorem Z49 {v:Q1}{a b:List Q2}(h:a.Perm b):∀ {l:List W9},Q10 a v=some l→∃ l',Q10 b v=some l'∧l.Perm l':=by
 induction h with
 | nil=>intro l h;exact ⟨l,h,.refl _⟩
 | cons x _ ih=>
  intro l h
  simp only [Q10] at h ⊢
  cases hx:Q4h v x.path with
  | none=>rw [hx] at h;simp at h
  | some u=>
   rw [hx] at h
   simp only [U0,U11] at h ⊢
   obtain ⟨m,hm,rfl⟩:=h
   obtain ⟨m',h1,h2⟩:=ih hm
   exact ⟨_,⟨m',h1,rfl⟩,h2.cons _⟩
 | swap x y l0=>
  intro l h
  simp only [Q10] at h ⊢
  cases hx:Q4h v x.path with
  | none=>rw [hx] at h;cases hy:Q4h v y.path<;>rw [hy] at h<;>simp at h
  | some u=>
   rw [hx] at h
   cases hy:Q4h v y.path with
   | none=>rw [hy] at h;simp at h
   | some u2=>
    rw [hy] at h
    simp only [U0,Option.map_map,U11,Function.comp] at h ⊢
    obtain ⟨m,hm,rfl⟩:=h
    exact ⟨_,⟨m,hm,rfl⟩,.swap _ _ _⟩
 | trans _ _ ih1 ih2=>
  intro l h
  obtain ⟨m,h1,h2⟩:=ih1 h
  obtain ⟨k,h3,h4⟩:=ih2 h1
  exact ⟨k,h3,h2.trans h4⟩
theorem Q2h {v:Q1} : ∀ {a:List Q2} {l:List W9},Q10 a v=some l→l.map (·.var)=a.map (·.var)
 | [],l,h=>by simp only [Q10,Option.some.injEq] at h;subst h;rfl
 | b::a,l,h=>by
  simp only [Q10] at h
  cases hx:Q4h v b.path with
  | none=>rw [hx] at h;simp at h
  | some u=>
   rw [hx] at h
   simp only [U0,U11] at h
   obtain ⟨m,hm,rfl⟩:=h
   simp [Q2h hm]
theorem Q9l {v u:Q1}{path:List Int}(h:Q4h v path=some u):∀ {l:List Q2},(∀ b∈l,b.path=path)→Q10 l v=some (l.map fun b=>W9.mk b.var u)
 | [],_=>rfl
 | b::l,hl=>by
  simp only [Q10]
  rw [hl b (by simp),h,Q9l h fun x hx=>hl x (by simp [hx])]
  rfl
def rowL (r:Grow)(us:List Q1):Option (List W9):=V7 (Z6 12) r.pats us
def rowB (r:Grow)(v:Q1)(us:List Q1):Option (List W9):=(Q10 r.binds v).bind fun l=>(rowL r us).map (l++·)
def hitR (us:List Q1)(r:Grow):Bool:=(rowL r us).isSome
inductive Z5r (lst:List Q3) (v:Q1) (us:List Q1):List Grow→Int×List W9→Prop
 | none {rows:List Grow} : rows.find? (hitR us)=none→Z5r lst v us rows (-1,[])
 | take {rows:List Grow} {r:Grow} {l:List W9} {c:Q3} : rows.find? (hitR us)=some r→rowB r v us=some l→lst[r.clause.toNat]?=some c→Q08 c.guard l=true→Z5r lst v us rows (r.clause,Z0c l)
 | skip {rows:List Grow} {r:Grow} {l:List W9} {c:Q3} {x:Int×List W9} : rows.find? (hitR us)=some r→rowB r v us=some l→lst[r.clause.toNat]?=some c→Q08 c.guard l=false→
   Z5r lst v us (Q3l rows r.clause) x→Z5r lst v us rows x
structure W4q (w:List Q4) (v:Q1) (cols:List Z5) (us:List Q1):Prop where
 len:us.length=cols.length
 at_:∀ (j:Nat) (c:Z5) (u:Q1),cols[j]?=some c→us[j]?=some u→Q4h v c.path=some u∧Q30 w 10 c.t u
def V9 (b:Z3)(u:Q1):Bool:=decide (b.ctor=u.ctor)&&(decide (b.ctor≠-1)||(decide (b.n≤u.n)&&decide (u.n≤b.m)))
def runT:Nat→W3→List Q3→Q1→Option (Int×List W9×Nat)
 | 0,_,_,_=>none
 | d+1,t,lst,v=>
  if t.op=2 then (Q4h v t.path).bind fun u=>match t.branches.find? (fun b=>V9 b u) with
   | none=>some (-1,[],1)
   | some b=>(runT d b.tree lst v).map fun r=>(r.1,r.2.1,r.2.2+1)
  else if t.op=1 then (idx lst t.clause).bind fun c=>(Q10 t.binds v).bind fun l=>if Q08 c.guard l=true then some (t.clause,l,0) else match t.else_ with
   | el::_=>runT d el lst v
   | []=>none
  else some (-1,[],0)
theorem Z47 {cut:Int→Bool} : ∀ (m:Nat) (n fr:Int),fr<n→(∀ c,fr<c→c<n→cut c=false)→∀ b∈Z2m cut m n fr,b.n≤b.m∧fr≤b.n∧∀ c,b.n<c→c≤b.m→cut c=false
 | 0,_,_,_,_,b,h=>by simp [Z2m] at h
 | m+1,n,fr,h1,h2,b,h=>by
  unfold Z2m at h
  split at h
  ·rcases U8.1 h with rfl | h
   ·exact ⟨by simp only;omega,by simp only;omega,fun c hc hc'=>h2 c hc (by simp only at hc';omega)⟩
   ·obtain ⟨g1,g2,g3⟩:=Z47 m (n+1) n (by omega) (fun c hc hc'=>by omega) b h
    exact ⟨g1,by omega,g3⟩
  ·rename_i hc
   exact Z47 m (n+1) fr (by omega) (fun c hc1 hc2=>by
    by_cases hcn:c=n
    ·rw [hcn];simpa using hc
    ·exact h2 c hc1 (by omega)) b h
theorem Z48 {cut:Int→Bool} : ∀ (m:Nat) (n fr:Int),fr<n→cut (n+m-1)=true→1≤m→∀ x,fr≤x→x<n+m-1→∃ b∈Z2m cut m n fr,b.n≤x∧x≤b.m
 | 0,_,_,_,_,h,_,_,_=>by omega
 | m+1,n,fr,h1,hc,_,x,hx1,hx2=>by
  unfold Z2m
  split
  ·by_cases hxn:x<n
   ·exact ⟨⟨-1,fr,n-1,zT⟩,by simp,by simp only;omega,by simp only;omega⟩
   ·have hm:1≤m:=by omega
    obtain ⟨b,hb,g⟩:=Z48 m (n+1) n (by omega) (by rw [←hc];congr 1;omega) hm x (by omega) (by omega)
    exact ⟨b,by simp [hb],g⟩
  ·rename_i hcn
   have hm:1≤m:=by
    rcases Nat.eq_zero_or_pos m with rfl | h
    ·simp only [Nat.zero_add,Int.natCast_one] at hc
     rw [show n+1-1=n by omega] at hc
     exact absurd hc hcn
    ·exact h
   exact Z48 m (n+1) fr (by omega) (by rw [←hc];congr 1;omega) hm x hx1 (by omega)
def V6e (w:List Q4):Bool:=(tys w).all fun t=>decide (t.data = -1)||(X5 w t).all fun c=>decide (Z41 w t c=(V6 w t c).all fun a=>decide (depP w a≠0))
theorem V2z:Q0s.all V6e=true:=by kernel_rfl
theorem V5h {w:List Q4}(h:w∈Q0s){t:Q6}(ht:t∈tys w)(hd:t.data≠-1){c:Int}(hc:c∈X5 w t):Z41 w t c=(V6 w t c).all fun a=>decide (depP w a≠0):=by
 have h1:=List.all_eq_true.1 V2z w h
 have h2:=List.all_eq_true.1 h1 t ht
 simp only [Bool.or_eq_true,decide_eq_true_eq,List.all_eq_true] at h2
 rcases h2 with h2 | h2
 ·exact absurd h2 hd
 ·exact h2 c hc
theorem X7n {w:List Q4}(hww:w∈Q0s){t:Q6}(ht:t∈tys w){e:Nat}{u:Q1}(hu:Q30 w e t u)(rows:List Grow)(k:Nat):∃ b∈brsD w rows t k,V9 b u=true:=by
 cases e with
 | zero=>exact hu.elim
 | succ e=>
 have hw:=ww hww
 unfold brsD
 rw [Q30] at hu
 split
 ·rename_i hd
  rw [if_pos hd] at hu
  obtain ⟨h1,h2,h3,_⟩:=hu
  obtain ⟨b,hb,h4,h5⟩:=Z48 (cut:=cutB rows k) 10 1 0 (by omega) (by simp [cutB]) (by omega) u.n h2 (by omega)
  refine ⟨b,hb,?_⟩
  have hc:=Z0k _ _ _ _ b hb
  simp [V9,hc,h1,h4,h5]
 ·rename_i hd
  rw [if_neg hd] at hu
  obtain ⟨_,h2,h3,h4⟩:=hu
  refine ⟨⟨u.ctor,0,0,zT⟩,U10.2 ⟨u.ctor,List.mem_filter.2 ⟨h2,?_⟩,rfl⟩,?_⟩
  ·rw [V5h hww ht hd h2,List.all_eq_true]
   intro a ha
   obtain ⟨j,hj⟩:=List.mem_iff_getElem?.1 ha
   have hjl:=(List.getElem?_eq_some_iff.1 hj).1
   have hx:u.kids[j]?=some (u.kids[j]'(by omega)):=by simp
   simpa using W1j hw (we hww) e a _ ((hw.ty t ht).at_ _ h2 a ha) (h4 j a _ hj hx)
  ·have:=(wl hww).pos t ht hd _ h2
   simp [V9,this]
theorem Z6g {w:List Q4}{t:Q6}{rows:List Grow}{k:Nat}{b:Z3}(hb:b∈brsD w rows t k){r:Grow}(hr:r∈rows)(hp:PatC w t (X6 r k)){u:Q1}{e:Nat}(hu:Q30 w e t u)(hf:V9 b u=true)(d:Nat) :
  Q4r (X6 r k) b=false→Z6 (d+1) (X6 r k) u=none:=by
 intro hfit
 simp only [V9,Bool.and_eq_true,Bool.or_eq_true,decide_eq_true_eq] at hf
 rcases hp.2.2 with h1 | h3 | h4
 ·simp [Q4r,h1] at hfit
 ·rw [Z6,if_neg (by omega),if_neg (by omega),if_pos h3]
  rw [Q4r,if_neg (by omega),if_pos h3] at hfit
  rcases Q85 (Q06 hp.1) with h | h | h | h | h | h<;>try omega
  obtain ⟨_,hd,g0,g1,g2⟩:=h
  refine if_neg fun hin=>?_
  unfold brsD at hb
  rw [if_pos hd] at hb
  obtain ⟨q1,q2,q3⟩:=Z47 10 1 0 (by omega) (fun c h1 h2=>by omega) b hb
  have hc:=Z0k _ _ _ _ b hb
  rcases hf.2 with h | h
  ·exact absurd hc h
  simp only [Bool.and_eq_false_iff,decide_eq_false_iff_not] at hfit
  have hcut:∀ n,(n=(X6 r k).n∨n=(X6 r k).m+1)→cutB rows k n=true:=fun n hn=>by
   simp only [cutB,Bool.or_eq_true,decide_eq_true_eq]
   right
   unfold endB
   rw [List.any_eq_true]
   refine ⟨r,hr,?_⟩
   simp only [h3,decide_true,Bool.true_and,Bool.or_eq_true,decide_eq_true_eq]
   omega
  rcases hfit with h5 | h5
  ·have:=q3 (X6 r k).n (by omega) (by omega)
   rw [hcut _ (.inl rfl)] at this
   cases this
  ·have:=q3 ((X6 r k).m+1) (by omega) (by omega)
   rw [hcut _ (.inr rfl)] at this
   cases this
 ·rw [Z6,if_neg (by omega),if_neg (by omega),if_neg (by omega),if_neg (by omega),if_neg (by omega)]
  rw [Q4r,if_neg (by omega),if_neg (by omega),decide_eq_false_iff_not] at hfit
  exact if_neg fun h=>hfit (by omega)
theorem W1k {w:List Q4} : ∀ (d e:Nat) (t:Q6) (v:Q1),d≤e→Q30 w d t v→Q30 w e t v:=by
 intro d
 induction d with
 | zero=>intro e t v _ h;exact h.elim
 | succ d ih=>
  intro e t v he h
  obtain ⟨e,rfl⟩:∃ k,e=k+1:=⟨e-1,by omega⟩
  rw [Q30] at h ⊢
  split
  ·rename_i hd;rw [if_pos hd] at h;exact h
  ·rename_i hd
   rw [if_neg hd] at h
   exact ⟨h.1,h.2.1,h.2.2.1,fun j a x ha hx=>ih e a x (by omega) (h.2.2.2 j a x ha hx)⟩
theorem X55 {w:List Q4}{v:Q1} : ∀ (ps:List Q0) (args:List Z5) (us:List Q1),ps.length=args.length→us.length=args.length→
  (∀ (j:Nat) (p:Q0) (c:Z5) (u:Q1),ps[j]?=some p→args[j]?=some c→us[j]?=some u→PatO w c.t p∧Q4h v c.path=some u)→
  ∃ zb,Q10 ((zipS ps args).flatMap (·.1)) v=some zb∧((V7 (Z6 12) ps us=none∧V7 (Z6 12) ((zipS ps args).map (·.2)) us=none)∨∃ p z,V7 (Z6 12) ps us=some p∧V7 (Z6 12) ((zipS ps args).map (·.2)) us=some z∧p.Perm (zb++z))
 | [],[],[],_,_,_=>⟨[],rfl,.inr ⟨[],[],rfl,rfl,by simp⟩⟩
 | p::ps,c::args,u::us,h1,h2,h=>by
  obtain ⟨hp,hu⟩:=h 0 p c u rfl rfl rfl
  obtain ⟨zb,e1,e2⟩:=X55 (w:=w) (v:=v) ps args us (by simpa using h1) (by simpa using h2) fun j p c u a1 a2 a3=>h (j+1) p c u (by simpa using a1) (by simpa using a2) (by simpa using a3)
  have hz:zipS (p::ps) (c::args)=Q6f p c.path::zipS ps args:=rfl
  have hs:=Z6v c.path hp
  have hm:=V3j c.path u hp.1
  rw [hz]
  simp only [List.flatMap_cons,List.map_cons]
  rw [Q8u,Q9l hu hs.2.2,e1]
  refine ⟨_,rfl,?_⟩
  simp only [V7]
  rw [hm]
  cases Z6 12 (Q6f p c.path).2 u with
  | none=>exact .inl ⟨rfl,rfl⟩
  | some l1=>
   simp only [Option.map_some]
   rcases e2 with ⟨e3,e4⟩ | ⟨q,z,e3,e4,e5⟩
   ·rw [e3,e4];exact .inl ⟨rfl,rfl⟩
   ·rw [e3,e4]
    refine .inr ⟨_,_,rfl,rfl,?_⟩
    rw [List.append_assoc,List.append_assoc]
    refine List.Perm.append_left _ ?_
    refine (List.Perm.append_left l1 e5).trans ?_
    rw [←List.append_assoc,←List.append_assoc]
    exact List.Perm.append_right _ List.perm_append_comm
 | [],[],_::_,_,h,_=>by simp at h
 | [],_::_,_,h,_,_=>by simp at h
 | _::_,[],_,h,_,_=>by simp at h
 | _::_,_::_,[],_,h,_=>by simp at h
def X3m (b:Z3)(u:Q1):List Q1:=if b.ctor = -1 then [] else u.kids
def usD (us:List Q1)(k:Nat)(b:Z3)(u:Q1):List Q1:=us.take k++X3m b u++us.drop (k+1)
theorem Z9k {w:List Q4}{col:Z5}{b:Z3}(hB:BrC w col.t b){u:Q1}{e:Nat}(hu:Q30 w e col.t u)(hf:V9 b u=true):(X3m b u).length=(V5 w col b).length:=by
 rw [Q7p]
 unfold X3m
 split
 ·rfl
 ·rename_i hc
  have hd:col.t.data≠-1:=fun hd=>hc (hB.int hd)
  simp only [V9,Bool.and_eq_true,decide_eq_true_eq] at hf
  cases e with
  | zero=>exact hu.elim
  | succ e=>
   rw [Q30,if_neg hd] at hu
   rw [hu.2.2.1,hf.1]
theorem W3l {w:List Q4}(hS:WS w){col:Z5}(ht:col.t∈tys w){b:Z3}(hB:BrC w col.t b){p:Q0}(hp:PatC w col.t p){u:Q1}{e:Nat}(hu:Q30 w e col.t u)(hf:V9 b u=true)(hfit:Q4r p b=true) :
  Z6 12 p u=V7 (Z6 12) (Q1q p (V5 w col b)) (X3m b u):=by
 have hlen:=Z9k hB hu hf
 have hn:=Q06 hp.1
 rcases hp.2.2 with h1 | h3 | h4
 ·rw [Q1q,if_pos h1,Z6,if_pos h1]
  rw [Z2z (d:=11) (fun q hq=>by obtain ⟨_,_,rfl⟩:=U10.1 hq;rfl) (by rw [U7,hlen])]
 ·rw [Q1q,if_neg (by omega)]
  have hk:=Z40 hn (by omega) (by omega) (by omega)
  rcases Q85 hn with h | h | h | h | h | h<;>try omega
  have hbi:=hB.int h.2.1
  simp only [V9,Bool.and_eq_true,Bool.or_eq_true,decide_eq_true_eq] at hf
  rw [Q4r,if_neg (by omega),if_pos h3] at hfit
  simp only [Bool.and_eq_true,decide_eq_true_eq] at hfit
  rw [hk,Z6,if_neg (by omega),if_neg (by omega),if_pos h3]
  rcases hf.2 with h5 | h5
  ·exact absurd hbi h5
  rw [if_pos (by omega)]
  rfl
 ·rw [Q1q,if_neg (by omega)]
  have hct:=Q8r (Q0i hn).1 h4
  have hd:col.t.data≠-1:=fun hd=>by rw [hS.int _ ht hd] at hct;cases hct
  have hb:=(hB.ctor hd).2
  rw [Q4r,if_neg (by omega),if_neg (by omega),decide_eq_true_eq] at hfit
  simp only [V9,Bool.and_eq_true,decide_eq_true_eq] at hf
  rw [Z6,if_neg (by omega),if_neg (by omega),if_neg (by omega),if_neg (by omega),if_neg (by omega),if_pos (by omega),X3m,if_neg hb]
  refine Z2c _ _ fun j q x hq _=>?_
  have hj:=(List.getElem?_eq_some_iff.1 hq).1
  have ha:(Y1 w col.t p)[j]?=some ((Y1 w col.t p)[j]'(by rw [←(Q0i hn).2];exact hj)):=by simp
  exact ((Q4y 11 _ q (Q05 hp.1 ha hq)).2.2.2 x).symm
theorem Z6k {w:List Q4}{v:Q1}{cols:List Z5}{us:List Q1}(h:W4q w v cols us){k:Nat}{col:Z5}(hk:cols[k]?=some col){u:Q1}(hu:us[k]?=some u){b:Z3}(hB:BrC w col.t b)(hf:V9 b u=true) :
  W4q w v (Q6a cols k (V5 w col b)) (usD us k b u):=by
 obtain ⟨hp,hg⟩:=h.at_ k col u hk hu
 have hkl:=(List.getElem?_eq_some_iff.1 hk).1
 have hl:=Z9k hB hg hf
 have hlen:=h.len
 refine ⟨by simp only [Q6a,usD,U5,U6,List.length_drop,hl];omega,fun j c x hc hx=>?_⟩
 unfold Q6a at hc
 unfold usD at hx
 by_cases h1:j<k
 ·rw [List.append_assoc,List.getElem?_append_left (by rw [U6];omega),List.getElem?_take_of_lt h1] at hc hx
  exact h.at_ j c x hc hx
 ·by_cases h2:j<k+(V5 w col b).length
  ·rw [List.append_assoc,List.getElem?_append_right (by rw [U6];omega),U6,List.getElem?_append_left (by omega)] at hc hx
   rw [show min k us.length=k by omega] at hx
   rw [show min k cols.length=k by omega] at hc
   generalize hi:j-k=i at hc hx
   by_cases hc1:b.ctor = -1
   ·rw [V5,if_pos hc1] at hc;simp at hc
   have hd:col.t.data≠-1:=fun hd=>hc1 (hB.int hd)
   have hil:=(List.getElem?_eq_some_iff.1 hc).1
   rw [Q7p,if_neg hc1] at hil
   have hti:(V6 w col.t b.ctor)[i]?=some ((V6 w col.t b.ctor)[i]):=U9 hil
   rw [Z5n hc1 hti] at hc
   cases hc
   rw [X3m,if_neg hc1] at hx
   simp only [V9,Bool.and_eq_true,decide_eq_true_eq] at hf
   rw [Q30,if_neg hd] at hg
   refine ⟨?_,W1k 9 10 _ _ (by omega) (hg.2.2.2 i _ x (by rw [←hf.1];exact hti) hx)⟩
   rw [Z2y,hp]
   simp only [U0]
   exact Q16 hx
  ·have hcl:(cols.take k++V5 w col b).length=k+(V5 w col b).length:=by rw [U5,U6];omega
   have hul:(us.take k++X3m b u).length=k+(V5 w col b).length:=by rw [U5,U6,hl];omega
   rw [List.getElem?_append_right (by omega),hcl,List.getElem?_drop] at hc
   rw [List.getElem?_append_right (by omega),hul,List.getElem?_drop] at hx
   exact h.at_ _ c x hc hx
theorem Q8a {α:Type}{l:List α}{k:Nat}{x:α}(h:l[k]?=some x):l=l.take k++([x]++l.drop (k+1)):=by
 have:=Z2l h
 rw [List.singleton_append,←this,List.take_append_drop]
theorem Z0d {w:List Q4}(hS:WS w){lst:List Q3}{v:Q1}{cols:List Z5}{us:List Q1}(h:W4q w v cols us){k:Nat}{col:Z5}(hk:cols[k]?=some col)(ht:col.t∈tys w){u:Q1}(hu:us[k]?=some u){b:Z3}(hB:BrC w col.t b)(hf:V9 b u=true)
  {r:Grow} (hr:RowC w lst cols r) {rb:List W9} (hrb:Q10 r.binds v=some rb) (hfit:Q4r (X6 r k) b=true) :
  (∃ kb,Q10 (Q7b r k (V5 w col b)).binds v=some kb)∧((rowB r v us=none∧rowL r us=none∧rowL (Q7b r k (V5 w col b)) (usD us k b u)=none)∨∃ x y,rowB r v us=some x∧(rowL r us).isSome=true∧rowB (Q7b r k (V5 w col b)) v (usD us k b u)=some y∧(rowL (Q7b r k (V5 w col b)) (usD us k b u)).isSome=true∧x.Perm y):=by
 obtain ⟨hkl,hp⟩:=hr.at hk
 obtain ⟨hpv,hg⟩:=h.at_ k col u hk hu
 have hul:=(List.getElem?_eq_some_iff.1 hu).1
 have hlen:=h.len
 have hrl:=hr.len
 have hpk:r.pats[k]?=some (X6 r k):=by unfold X6;rw [U9 hkl];rfl
 obtain ⟨c1,c2,_⟩:=W13 hS ht hp hB hfit rfl
 have hkU:=Z9k hB hg hf
 have hnx:=Z6k h hk hu hB hf
 obtain ⟨zb,e1,e2⟩:=X55 (w:=w) (v:=v) (Q1q (X6 r k) (V5 w col b)) (V5 w col b) (X3m b u) c1 hkU fun j p c x a1 a2 a3=>⟨c2 j p c a1 a2,by
  have hjl:=(List.getElem?_eq_some_iff.1 a2).1
  refine (hnx.at_ (k+j) c x ?_ ?_).1
  ·unfold Q6a
   rw [List.append_assoc,List.getElem?_append_right (by rw [U6];omega),U6,List.getElem?_append_left (by omega),show k+j-min k cols.length=j by omega]
   exact a2
  ·unfold usD
   rw [List.append_assoc,List.getElem?_append_right (by rw [U6];omega),U6,List.getElem?_append_left (by omega),show k+j-min k us.length=j by omega]
   exact a3⟩
 rw [←W3l hS ht hB hp hg hf hfit] at e2
 have hR:rowL r us=(V7 (Z6 12) (r.pats.take k) (us.take k)).bind fun a=>((Z6 12 (X6 r k) u).bind fun p=>(V7 (Z6 12) (r.pats.drop (k+1)) (us.drop (k+1))).map (p++·)).map (a++·):=by
  unfold rowL
  conv=>lhs;rw [Q8a hpk,Q8a hu]
  rw [Q4z _ _ _ _ (by simp only [U6];omega)]
  congr 1
  funext a
  congr 1
  rw [Q4z _ _ _ _ (by simp)]
  simp only [V7]
  cases Z6 12 (X6 r k) u<;>simp
 have hK:rowL (Q7b r k (V5 w col b)) (usD us k b u)=(V7 (Z6 12) (r.pats.take k) (us.take k)).bind fun a=>((V7 (Z6 12) ((zipS (Q1q (X6 r k) (V5 w col b)) (V5 w col b)).map (·.2)) (X3m b u)).bind fun p=>(V7 (Z6 12) (r.pats.drop (k+1)) (us.drop (k+1))).map (p++·)).map (a++·):=by
  unfold rowL Q7b usD
  simp only
  rw [List.append_assoc,List.append_assoc,Q4z _ _ _ _ (by simp only [U6];omega)]
  congr 1
  funext a
  congr 1
  rw [Q4z _ _ _ _ (by simp only [U7,zipS,List.length_zipWith];omega)]
 have hKb:Q10 (Q7b r k (V5 w col b)).binds v=some (rb++zb):=by
  unfold Q7b
  simp only
  rw [Q8u,hrb,e1]
  rfl
 refine ⟨⟨_,hKb⟩,?_⟩
 unfold rowB
 rw [hrb,hKb,hR,hK]
 simp only [U0]
 cases V7 (Z6 12) (r.pats.take k) (us.take k) with
 | none=>exact .inl ⟨rfl,rfl,rfl⟩
 | some a=>
 simp only [U0]
 rcases e2 with ⟨e3,e4⟩ | ⟨p,z,e3,e4,e5⟩
 ·rw [e3,e4];exact .inl ⟨rfl,rfl,rfl⟩
 ·rw [e3,e4]
  simp only [U0]
  cases V7 (Z6 12) (r.pats.drop (k+1)) (us.drop (k+1)) with
  | none=>exact .inl ⟨rfl,rfl,rfl⟩
  | some c=>
   refine .inr ⟨_,_,rfl,rfl,rfl,rfl,?_⟩
   simp only [List.append_assoc]
   refine List.Perm.append_left _ ?_
   refine ((e5.append_right c).append_left a).trans ?_
   have h9:(a++zb++(z++c)).Perm (zb++a++(z++c)):=List.Perm.append_right _ List.perm_append_comm
   simpa only [List.append_assoc] using h9
theorem X9n {α:Type}{l:List α}{f g:α→Bool}(h:∀ x∈l,f x=g x):l.find? f=l.find? g:=by
 induction l with
 | nil=>rfl
 | cons a l ih=>
  rw [List.find?_cons,List.find?_cons,h a (by simp),ih fun x hx=>h x (by simp [hx])]
theorem X8u (rows:List Grow)(k:Nat)(b:Z3)(args:List Z5)(c:Int):Q3l (Q5i rows k b args) c=Q5i (Q3l rows c) k b args:=by
 unfold Q3l Q5i
 rw [List.filter_map,List.filter_filter,List.filter_filter]
 congr 1
 refine List.filter_congr fun r _=>?_
 simp only [Function.comp,Q7b]
 exact Bool.and_comm _ _
def W4p (w:List Q4)(lst:List Q3)(cols:List Z5)(v:Q1)(rows:List Grow):Prop:=∀ r∈rows,RowC w lst cols r∧∃ l,Q10 r.binds v=some l
theorem W7y {w:List Q4} : ∀ (d:Nat) (t:Q6) (p:Q0),Q09 w d t p=true→Q7n d p→∀ v l,Z6 d p v=some l→l.map (·.var)=Q4s p:=by
 intro d
 induction d with
 | zero=>intro t p h;simp [Q09] at h
 | succ d ih=>
  intro t p g hf v l hm
  have hn:=Q06 g
  obtain ⟨ho,hl⟩:=Q0i hn
  have h5:=hf.1
  rw [Q9p,Q6t]
  rw [Z6] at hm
  by_cases h1:p.op=1
  ·rw [if_pos h1] at hm
   cases hm
   rw [Z40 hn (by omega) (by omega) (by omega),if_neg (by omega)];rfl
  rw [if_neg h1] at hm
  by_cases h2:p.op=2
  ·rw [if_pos h2] at hm
   cases hm
   rw [Z40 hn (by omega) (by omega) (by omega),if_pos (.inl h2)];rfl
  rw [if_neg h2] at hm
  by_cases h3:p.op=3
  ·rw [if_pos h3] at hm
   split at hm
   ·cases hm
    rw [Z40 hn (by omega) (by omega) (by omega),if_neg (by omega)];rfl
   ·cases hm
  rw [if_neg h3,if_neg h5] at hm
  by_cases h6:p.op=6
  ·rw [if_pos h6] at hm
   obtain ⟨a,hk,hkt⟩:=X8y h6 hl
   have ga:=Q05 g (k:=0) (a:=t) (q:=a) (by rw [hkt];rfl) (by rw [hk];rfl)
   rw [hk] at hm
   simp only [U11] at hm
   obtain ⟨m,hm,rfl⟩:=hm
   rw [if_pos (.inr h6),hk,List.map_cons,ih t a ga (hf.2 a (by rw [hk];simp)) v m hm]
   simp
  rw [if_neg h6] at hm
  rw [if_neg (by omega),List.nil_append]
  split at hm
  ·have gen:∀ (ts:List Q6) (ps:List Q0) (vs:List Q1) (l:List W9),ts.length=ps.length→(∀ x∈ts.zip ps,∀ v l,Z6 d x.2 v=some l→l.map (·.var)=Q4s x.2)→V7 (Z6 d) ps vs=some l→l.map (·.var)=ps.flatMap Q4s:=by
    intro ts ps
    induction ps generalizing ts with
    | nil=>intro vs l _ _ h;simp only [V7] at h;cases h;rfl
    | cons q ps ihp=>
     intro vs l hl hx h
     cases ts with
     | nil=>simp at hl
     | cons a ts=>
      cases vs with
      | nil=>cases h
      | cons u vs=>
       simp only [V7] at h
       cases hq:Z6 d q u with
       | none=>rw [hq] at h;cases h
       | some l1=>
        rw [hq] at h
        simp only at h
        cases hps:V7 (Z6 d) ps vs with
        | none=>rw [hps] at h;cases h
        | some l2=>
         rw [hps] at h
         cases h
         rw [List.map_append,List.flatMap_cons,hx (a,q) (by simp) u l1 hq,ihp ts vs l2 (by simpa using hl) (fun x hxx=>hx x (by simp [hxx])) hps]
   refine gen (Y1 w t p) p.kids v.kids l hl.symm (fun x hx v l h=>?_) hm
   obtain ⟨j,hj⟩:=List.mem_iff_getElem?.1 hx
   obtain ⟨e1,e2⟩:=List.getElem?_zip_eq_some.1 hj
   exact ih _ _ (Q05 g e1 e2) (hf.2 _ (U1 e2)) v l h
  ·cases hm
theorem Z9e {w:List Q4} : ∀ (ps:List Q0) (us:List Q1) (l:List W9),(∀ p∈ps,∃ t,PatO w t p)→V7 (Z6 12) ps us=some l→l.map (·.var)=ps.flatMap Q4s
 | [],_,l,_,h=>by simp only [V7,Option.some.injEq] at h;subst h;rfl
 | _::_,[],_,_,h=>by simp [V7] at h
 | p::ps,u::us,l,hp,h=>by
  simp only [V7] at h
  cases hq:Z6 12 p u with
  | none=>rw [hq] at h;cases h
  | some l1=>
   rw [hq] at h
   simp only at h
   cases hps:V7 (Z6 12) ps us with
   | none=>rw [hps] at h;cases h
   | some l2=>
    rw [hps] at h
    cases h
    obtain ⟨t,g,f⟩:=hp p (by simp)
    rw [List.map_append,List.flatMap_cons,W7y 12 t p g f u l1 hq,Z9e ps us l2 (fun x hx=>hp x (by simp [hx])) hps]
theorem Z0z {w:List Q4}{lst:List Q3}{cols:List Z5}{r:Grow}(h:RowC w lst cols r){v:Q1}{us:List Q1}{l:List W9}(hl:rowB r v us=some l):W0c l:=by
 have hvars:l.map (·.var)=X15 r:=by
  unfold rowB at hl
  cases hb:Q10 r.binds v with
  | none=>rw [hb] at hl;simp at hl
  | some l1=>
   rw [hb] at hl
   simp only [U0,U11] at hl
   obtain ⟨l2,h2,rfl⟩:=hl
   rw [List.map_append,Q2h hb,X15]
   congr 1
   refine Z9e (w:=w) r.pats us l2 (fun p hp=>?_) h2
   obtain ⟨j,hj⟩:=List.mem_iff_getElem?.1 hp
   have hjl:=(List.getElem?_eq_some_iff.1 hj).1
   have hlen:=h.len
   have hc:cols[j]?=some (cols[j]'(by omega)):=by simp
   have hx:=h.pat _ (U1 (Q92 hc hj))
   exact ⟨_,hx.1,hx.2.1⟩
 have hn:(l.map (·.var)).Nodup:=by rw [hvars];exact h.nd
 have hr:∀ b∈l,0≤b.var∧b.var≤5:=fun b hb=>h.rg b.var (by rw [←hvars];exact List.mem_map_of_mem hb)
 refine ⟨hn,hr,?_⟩
 have:=Z3z 6 _ hn fun x hx=>by
  obtain ⟨b,hb,rfl⟩:=U10.1 hx
  have:=hr b hb
  omega
 simpa using this
theorem V55 {w:List Q4}(hS:WS w){lst:List Q3}{v:Q1}{cols:List Z5}{us:List Q1}(h:W4q w v cols us){k:Nat}{col:Z5}(hk:cols[k]?=some col)(ht:col.t∈tys w){u:Q1}(hu:us[k]?=some u){b:Z3}{rows0:List Grow}(hb:b∈brsD w rows0 col.t k)(hB:BrC w col.t b)(hf:V9 b u=true){RR:List Grow}{x:Int×List W9}(hx:Z5r lst v (usD us k b u) RR x) :
  ∀ rows:List Grow,(∀ r∈rows,r∈rows0)→W4p w lst cols v rows→RR=Q5i rows k b (V5 w col b)→Z5r lst v us rows x:=by
 have hfind:∀ rows:List Grow,(∀ r∈rows,r∈rows0)→W4p w lst cols v rows→(Q5i rows k b (V5 w col b)).find? (hitR (usD us k b u))=(rows.find? (hitR us)).map fun r=>Q7b r k (V5 w col b):=fun rows h0 hR=>by
  unfold Q5i
  rw [List.find?_map,List.find?_filter]
  congr 1
  refine X9n fun r hr=>?_
  obtain ⟨hC,rb,hrb⟩:=hR r hr
  simp only [Function.comp]
  cases hfit:Q4r (X6 r k) b with
  | false=>
   have hn:=Z6g hb (h0 r hr) (hC.at hk).2 (h.at_ k col u hk hu).2 hf 11 hfit
   have hkl:=(hC.at hk).1
   have hpk:r.pats[k]?=some (X6 r k):=by unfold X6;rw [U9 hkl];rfl
   have hrl:=hC.len
   have hlen:=h.len
   have:rowL r us=none:=by
    unfold rowL
    rw [Q8a hpk,Q8a hu,Q4z _ _ _ _ (by simp only [U6];omega),List.singleton_append,List.singleton_append]
    cases V7 (Z6 12) (r.pats.take k) (us.take k) with
    | none=>rfl
    | some a=>simp only [U0,V7];rw [hn];rfl
   simp [hitR,this]
  | true=>
   obtain ⟨_,h2⟩:=Z0d hS h hk ht hu hB hf hC hrb hfit
   simp only [Bool.true_and,decide_eq_true_eq]
   rcases h2 with ⟨_,h3,h4⟩ | ⟨_,_,_,h3,_,h4,_⟩
   ·simp [hitR,h3,h4]
   ·simp [hitR,h3,h4]
 induction hx with
 | none hn=>
  intro rows h0 hR e
  subst e
  rw [hfind rows h0 hR,Option.map_eq_none_iff] at hn
  exact .none hn
 | take h1 h2 h3 h4=>
  intro rows h0 hR e
  subst e
  rw [hfind rows h0 hR,U11] at h1
  obtain ⟨r,hr,rfl⟩:=h1
  have hm:=List.mem_of_find?_eq_some hr
  obtain ⟨hC,rb,hrb⟩:=hR r hm
  have hfit:Q4r (X6 r k) b=true:=by
   cases hfit:Q4r (X6 r k) b with
   | true=>rfl
   | false=>
    have hn:=Z6g hb (h0 r hm) (hC.at hk).2 (h.at_ k col u hk hu).2 hf 11 hfit
    exact absurd (List.find?_some hr) (by
     have:=hfind [r] (fun x hx=>by simp only [List.mem_singleton] at hx;rw [hx];exact h0 r hm) (fun x hx=>by simp only [List.mem_singleton] at hx;rw [hx];exact hR r hm)
     simp only [Q5i,List.filter_cons,hfit,U2,if_false,List.filter_nil,List.map_nil,List.find?_nil,List.find?_cons] at this
     intro hh
     rw [hh] at this
     simp at this)
  obtain ⟨_,h5⟩:=Z0d hS h hk ht hu hB hf hC hrb hfit
  rcases h5 with ⟨_,h6,h7⟩ | ⟨a,y,h6,_,h7,_,h8⟩
  ·exact absurd h2 (by unfold rowB;rw [h7];intro hh;cases Q10 (Q7b r k (V5 w col b)).binds v<;>simp at hh)
  ·rw [h7] at h2
   cases h2
   have hbo:=Z0z hC h6
   rw [←Z1b hbo.nd h8] at h4
   rw [←W61 hbo h8]
   show Z5r lst v us rows (r.clause,Z0c a)
   exact .take hr h6 h3 h4
 | skip h1 h2 h3 h4 _ ih=>
  intro rows h0 hR e
  subst e
  rw [hfind rows h0 hR,U11] at h1
  obtain ⟨r,hr,rfl⟩:=h1
  have hm:=List.mem_of_find?_eq_some hr
  obtain ⟨hC,rb,hrb⟩:=hR r hm
  have hfit:Q4r (X6 r k) b=true:=by
   cases hfit:Q4r (X6 r k) b with
   | true=>rfl
   | false=>
    exact absurd (List.find?_some hr) (by
     have:=hfind [r] (fun x hx=>by simp only [List.mem_singleton] at hx;rw [hx];exact h0 r hm) (fun x hx=>by simp only [List.mem_singleton] at hx;rw [hx];exact hR r hm)
     simp only [Q5i,List.filter_cons,hfit,U2,if_false,List.filter_nil,List.map_nil,List.find?_nil,List.find?_cons] at this
     intro hh
     rw [hh] at this
     simp at this)
  obtain ⟨_,h5⟩:=Z0d hS h hk ht hu hB hf hC hrb hfit
  rcases h5 with ⟨_,h6,h7⟩ | ⟨a,y,h6,_,h7,_,h8⟩
  ·exact absurd h2 (by unfold rowB;rw [h7];intro hh;cases Q10 (Q7b r k (V5 w col b)).binds v<;>simp at hh)
  ·rw [h7] at h2
   cases h2
   have hbo:=Z0z hC h6
   rw [←Z1b hbo.nd h8] at h4
   refine .skip hr h6 h3 h4 (ih (Q3l rows r.clause) (fun x hx=>h0 x (Z51 hx)) (fun x hx=>hR x (Z51 hx)) ?_)
   exact X8u rows k b (V5 w col b) r.clause
theorem X0v {P:Z3→W3→Prop}{u:Q1} : ∀ {bs xs:List Z3},brsR P bs xs→(∃ b∈bs,V9 b u=true)→∃ x b,xs.find? (fun b=>V9 b u)=some x∧b∈bs∧V9 b u=true∧P b x.tree
 | [],[],_,⟨_,h,_⟩=>by cases h
 | [],_::_,e,_=>e.elim
 | _::_,[],e,_=>e.elim
 | b::bs,x::xs,⟨⟨e1,e2,e3,e4⟩,e5⟩,h=>by
  have hfx:V9 x u=V9 b u:=by unfold V9;rw [e1,e2,e3]
  rw [List.find?_cons,hfx]
  cases hb:V9 b u with
  | true=>exact ⟨x,b,rfl,by simp,hb,e4⟩
  | false=>
   obtain ⟨c,hc,hcf⟩:=h
   have hc2:c∈bs:=by
    rcases U8.1 hc with rfl | hc
    ·rw [hb] at hcf;cases hcf
    ·exact hc
   obtain ⟨y,c',h1,h2,h3,h4⟩:=X0v e5 ⟨c,hc2,hcf⟩
   exact ⟨y,c',h1,by simp [h2],h3,h4⟩
theorem V07 {w:List Q4}(hww:w∈Q0s){lst:List Q3}{pick:Int}{v:Q1} : ∀ (d:Nat) (t:W3) (rows:List Grow) (cols:List Z5) (us:List Q1),Q9o w lst pick d t rows cols→W4p w lst cols v rows→ColC w cols d→W4q w v cols us→
  ∃ a bs k,runT d t lst v=some (a,bs,k)∧Z5r lst v us rows (a,bs):=by
 have hw:=ww hww
 have hS:=ws hww
 intro d
 induction d with
 | zero=>intro t rows cols us h;exact h.elim
 | succ d ih=>
  intro t rows cols us h hR hC hV
  have hCd:ColC w cols d:=⟨hC.ty,fun c hc=>by have:=hC.path c hc;omega,by have:=hC.len;omega⟩
  cases rows with
  | nil=>
   simp only [Q9o] at h
   subst h
   exact ⟨-1,[],0,by simp [runT,zT],.none rfl⟩
  | cons r0 rest=>
   simp only [Q9o] at h
   obtain ⟨h0,rb,hrb⟩:=hR r0 (by simp)
   cases hp:Z11 w (r0::rest) cols pick with
   | none=>
    rw [hp] at h
    simp only at h
    obtain ⟨h1,h2,h3,h4,h5,cl,h6,h7⟩:=h
    have hall:∀ q∈r0.pats,q=anyP:=fun q hq=>by
     obtain ⟨j,hj⟩:=List.mem_iff_getElem?.1 hq
     have hjl:=(List.getElem?_eq_some_iff.1 hj).1
     have hlen:=h0.len
     have hany:Q8w (r0::rest) j=true:=Q7x.1 hp j (by omega)
     have this:(X6 r0 j).op=1:=of_decide_eq_true hany
     have hq2:X6 r0 j=q:=by unfold X6;rw [hj];rfl
     have hc:cols[j]?=some (cols[j]'(by omega)):=by simp
     have hpc:=(h0.at hc).2
     rw [hq2] at this hpc
     exact X0z (Q06 hpc.1) this
    have hrl:rowL r0 us=some []:=Z2z hall (by rw [h0.len,hV.len])
    have hfind:(r0::rest).find? (hitR us)=some r0:=by rw [List.find?_cons];simp [hitR,hrl]
    have hrB:rowB r0 v us=some rb:=by unfold rowB;rw [hrb,hrl];simp
    have hbo:=Z0z h0 hrB
    obtain ⟨bn,br,_⟩:=h0.binds
    obtain ⟨l',e1,e2⟩:=Z49 (Q5z br).symm hrb
    have hl':l'=Z0c rb:=by
     have hs:l'.Pairwise (fun x y=>x.var<y.var):=by
      have h1:=Q9q bn
      have h2:=Q2h e1
      have h3:(l'.map (·.var)).Pairwise (· < ·):=by rw [h2,List.pairwise_map];exact h1
      exact List.pairwise_map.1 h3
     exact Z0u _ _ hs (Q87 hbo.nd) (e2.symm.trans (Q5c hbo.rg).symm)
    rw [hl'] at e1
    have hrun:runT (d+1) t lst v=if Q08 cl.guard rb=true then some (r0.clause,Z0c rb,0) else match t.else_ with
      | el::_=>runT d el lst v
      | []=>none:=by
     rw [runT,if_neg (by omega),if_pos h1,h2,Z67 h0.c0 h6]
     simp only [U0]
     rw [h3,e1]
     simp only [U0]
     rw [Z9q hbo]
     all_goals (cases t.else_<;>rfl)
    rw [hrun]
    cases hg:Q08 cl.guard rb with
    | true=>exact ⟨_,_,_,rfl,.take hfind hrB h6 hg⟩
    | false=>
     rcases h7 with ⟨h7,_⟩ | ⟨h7,el,h8,h9⟩
     ·simp [Q08,h7] at hg
     ·rw [h8]
      simp only [U2,if_false]
      obtain ⟨a,bs,k,f1,f2⟩:=ih el (Q3l (r0::rest) r0.clause) cols us h9 (fun r hr=>hR r (Z51 hr)) hCd hV
      exact ⟨a,bs,k,f1,.skip hfind hrB h6 hg f2⟩
   | some k=>
    rw [hp] at h
    simp only at h
    obtain ⟨col,h1,h2,h3,h4,h5,h6,h7⟩:=h
    have hkl:=(List.getElem?_eq_some_iff.1 h1).1
    have hlen:=hV.len
    have hu:us[k]?=some (us[k]'(by omega)):=by simp
    generalize us[k]'(by omega)=u at hu
    obtain ⟨hpv,hg⟩:=hV.at_ k col u h1 hu
    have hct:=hC.ty col (U1 h1)
    obtain ⟨x,b,f1,f2,f3,f4⟩:=X0v h7 (X7n hww hct hg (r0::rest) k)
    have hB:=V6k (wl hww) hct b f2
    have hRn:W4p w lst (Q6a cols k (V5 w col b)) v (Q5i (r0::rest) k b (V5 w col b)):=fun r hr=>by
     unfold Q5i at hr
     obtain ⟨r1,g1,rfl⟩:=U10.1 hr
     obtain ⟨g2,g3⟩:=List.mem_filter.1 g1
     obtain ⟨g4,rb1,g5⟩:=hR r1 g2
     exact ⟨RowC.next hw hS hC g4 h1 hB g3,(Z0d hS hV h1 hct hu hB f3 g4 g5 g3).1⟩
    obtain ⟨a,bs,m,e1,e2⟩:=ih x.tree _ _ (usD us k b u) f4 hRn (ColC.next hw hC h1 hB) (Z6k hV h1 hu hB f3)
    refine ⟨a,bs,m+1,?_,V55 hS hV h1 hct hu f2 hB f3 e2 (r0::rest) (fun r h=>h) hR rfl⟩
    rw [runT,if_pos h2,h5,hpv]
    simp only [U0]
    rw [f1]
    simp only
    rw [e1]
    rfl
theorem Z7d {α β:Type}{l:List α}{f:α→Option β}{q:α}(h:l.find? (fun q=>(f q).isSome)=some q):l.findSome? f=f q:=by
 induction l with
 | nil=>cases h
 | cons a l ih=>
  rw [List.find?_cons] at h
  rw [List.findSome?_cons]
  cases ha:f a with
  | none=>rw [ha] at h;exact ih h
  | some x=>
   rw [ha] at h
   simp only [Option.isSome_some,Option.some.injEq] at h
   rw [←h,ha]
theorem X61 {v:Q1} : ∀ (cs:List Q3) (k:Nat),(∀ c∈cs,∀ b,Z6 10 c.pat v=some b→Q08 c.guard b=false)→runD v k cs=none
 | [],_,_=>rfl
 | c::cs,k,h=>by
  simp only [runD]
  have ih:=X61 cs (k+1) fun x hx=>h x (by simp [hx])
  cases hm:Z6 10 c.pat v with
  | none=>exact ih
  | some b=>
   simp only
   rw [h c (by simp) b hm]
   simpa using ih
theorem W68 {v:Q1} : ∀ (cs:List Q3) (k i:Nat) (c:Q3) (b:List W9),(∀ (j:Nat) (c':Q3),j<i→cs[j]?=some c'→∀ b,Z6 10 c'.pat v=some b→Q08 c'.guard b=false)→cs[i]?=some c→Z6 10 c.pat v=some b→Q08 c.guard b=true→runD v k cs=some (k+i,Z0c b)
 | [],_,_,_,_,_,h,_,_=>by simp at h
 | c0::cs,k,0,c,b,_,h,hm,hg=>by
  simp only [List.getElem?_cons_zero,Option.some.injEq] at h
  subst h
  simp only [runD,hm,hg,if_true,Nat.add_zero]
 | c0::cs,k,i+1,c,b,h0,h,hm,hg=>by
  simp only [runD]
  have ih:=W68 cs (k+1) i c b (fun j c' hj hc=>h0 (j+1) c' (by omega) (by simpa using hc)) (by simpa using h) hm hg
  rw [show k+1+i=k+(i+1) by omega] at ih
  cases hm0:Z6 10 c0.pat v with
  | none=>exact ih
  | some b0=>
   simp only
   rw [h0 0 c0 (by omega) rfl b0 hm0]
   simpa using ih
theorem Z66 {l:List Q3}{j:Nat}{c:Q3}{q:Q0}(hc:l[j]?=some c)(hq:q∈Q7 10 c.pat):∀ n,j<n→Q1n j q∈Q20 l n
 | 0,h=>by omega
 | n+1,h=>by
  rw [Q20]
  by_cases hjn:j=n
  ·subst hjn
   rw [hc]
   exact List.mem_append_right _ (List.mem_map_of_mem hq)
  ·exact List.mem_append_left _ (Z66 hc hq n (by omega))
theorem Z46 {l:List Q3}{p:Grow→Bool}{r:Grow} : ∀ n,n≤l.length→(Q20 l n).find? p=some r→
  ∃ i c q,i<n∧l[i]?=some c∧r=Q1n i q∧(Q7 10 c.pat).find? (fun q=>p (Q1n i q))=some q∧∀ (j:Nat) (c':Q3),j<i→l[j]?=some c'→∀ q'∈Q7 10 c'.pat,p (Q1n j q')=false
 | 0,_,h=>by simp [Q20] at h
 | n+1,hn,h=>by
  rw [Q20,List.find?_append,Option.or_eq_some_iff] at h
  rcases h with h | ⟨h0,h⟩
  ·obtain ⟨i,c,q,h1,h2⟩:=Z46 n (by omega) h
   exact ⟨i,c,q,by omega,h2⟩
  ·have hc:l[n]?=some (l[n]'(by omega)):=by simp
   rw [hc] at h
   simp only at h
   rw [List.find?_map,U11] at h
   obtain ⟨q,h1,h2⟩:=h
   refine ⟨n,_,q,by omega,hc,h2.symm,h1,fun j c' hj hc' q' hq'=>?_⟩
   have hm:Q1n j q'∈Q20 l n:=Z66 hc' hq' n hj
   simpa using List.find?_eq_none.1 h0 _ hm
theorem X28 {w:List Q4}{t:Q6}{p q:Q0}(g:Q09 w 10 t p=true)(hq:q∈Q7 10 p)(i:Nat)(v:Q1) :
  rowB (Q1n i q) v [v]=Z6 10 q v∧hitR [v] (Q1n i q)=(Z6 10 q v).isSome:=by
 have g10:=Q3f 10 t p q g hq
 have g12:Q09 w 12 t q=true:=Q0u 11 t q (Q0u 10 t q g10)
 have hO:PatO w t q:=⟨g12,Q3w 11 q (Q3w 10 q (Q8y 10 p q hq))⟩
 have e1:Z6 12 q v=Z6 10 q v:=by rw [(Q4y 11 t q (Q0u 10 t q g10)).2.2.2 v,(Q4y 10 t q g10).2.2.2 v]
 have hm:=V3j [] v g12
 have hb:=Q9l (v:=v) (u:=v) (path:=[]) rfl (Z6v [] hO).2.2
 have hL:rowL (Q1n i q) [v]=Z6 12 (Q6f q []).2 v:=by
  unfold rowL Q1n
  simp only [V7]
  cases Z6 12 (Q6f q []).2 v<;>simp
 constructor
 ·unfold rowB
  rw [hL,show (Q1n i q).binds=(Q6f q []).1 from rfl,hb]
  simp only [U0]
  rw [←hm,e1]
 ·unfold hitR
  rw [hL,←e1,hm]
  simp
theorem V9x {w:List Q4}(hw:WW w)(hS:WS w){t:Q6}(ht:t∈tys w){l:List Q3}(hl:∀ c∈l,Q09 w 10 t c.pat=true){v:Q1}{e:Nat}(hv:Q30 w e t v){RR:List Grow}{x:Int×List W9}(h:Z5r l v [v] RR x) :
  ∀ keep:Int→Bool,RR=(Q20 l l.length).filter (fun r=>keep r.clause)→(∀ (i:Nat) (c:Q3) (b:List W9),l[i]?=some c→keep (i:Int)=false→Z6 10 c.pat v=some b→Q08 c.guard b=false)→x=runR (runD v 0 l):=by
 have hsp:∀ c∈l,(Q7 10 c.pat).findSome? (fun q=>Z6 10 q v)=Z6 10 c.pat v:=fun c hc=>Z0b hw hS 10 e t c.pat v ht (hl c hc) hv
 have none_of:∀ (j:Nat) (c:Q3),l[j]?=some c→(∀ q∈Q7 10 c.pat,hitR [v] (Q1n j q)=false)→Z6 10 c.pat v=none:=fun j c hc h=>by
  have hcm:=U1 hc
  rw [←hsp c hcm]
  refine X09 fun q hq=>?_
  have h1:=h q hq
  rw [(X28 (hl c hcm) hq j v).2] at h1
  simpa using h1
 induction h with
 | none hn=>
  intro keep e hk
  subst e
  rw [List.find?_filter,List.find?_eq_none] at hn
  rw [X61 l 0 fun c hc b hb=>?_]
  ·rfl
  obtain ⟨j,hj⟩:=List.mem_iff_getElem?.1 hc
  have hjl:=(List.getElem?_eq_some_iff.1 hj).1
  cases hkj:keep (j:Int) with
  | false=>exact hk j c b hj hkj hb
  | true=>
   have:=none_of j c hj fun q hq=>by
    have h1:=hn _ (Z66 hj hq l.length hjl)
    have h2:(Q1n j q).clause=(j:Int):=rfl
    rw [h2,hkj] at h1
    simpa using h1
   rw [this] at hb
   cases hb
 | take h1 h2 h3 h4=>
  intro keep e hk
  subst e
  rw [List.find?_filter] at h1
  obtain ⟨i,c,q,hi,hc,rfl,hq,hbef⟩:=Z46 l.length (Nat.le_refl _) h1
  have hcm:=U1 hc
  have hqm:=List.mem_of_find?_eq_some hq
  have h3':l[((Q1n i q).clause).toNat]?=some c:=by
   rw [show ((Q1n i q).clause).toNat=i from rfl];exact hc
  rw [h3'] at h3
  have h3:=Option.some.inj h3
  subst h3
  have hki:keep (i:Int)=true:=by
   have h9:=List.find?_some hq
   simp only [decide_eq_true_eq] at h9
   exact h9.1
  have hfq:(Q7 10 c.pat).find? (fun q=>(Z6 10 q v).isSome)=some q:=by
   rw [←hq]
   refine X9n fun y hy=>?_
   rw [(X28 (hl c hcm) hy i v).2,show (Q1n i y).clause=(i:Int) from rfl,hki]
   simp
  have hmc:Z6 10 c.pat v=Z6 10 q v:=by rw [←hsp c hcm];exact Z7d hfq
  rw [(X28 (hl c hcm) hqm i v).1,←hmc] at h2
  rw [W68 l 0 i c _ (fun j c' hj hc' b hb=>?_) hc h2 h4]
  ·simp [runR,Q1n]
  ·cases hkj:keep (j:Int) with
   | false=>exact hk j c' b hc' hkj hb
   | true=>
    have:=none_of j c' hc' fun q' hq'=>by
     have h1:=hbef j c' hj hc' q' hq'
     rw [show (Q1n j q').clause=(j:Int) from rfl,hkj] at h1
     simpa using h1
    rw [this] at hb
    cases hb
 | skip h1 h2 h3 h4 _ ih=>
  intro keep e hk
  subst e
  rw [List.find?_filter] at h1
  obtain ⟨i,c,q,hi,hc,rfl,hq,hbef⟩:=Z46 l.length (Nat.le_refl _) h1
  have hcm:=U1 hc
  have hqm:=List.mem_of_find?_eq_some hq
  have h3':l[((Q1n i q).clause).toNat]?=some c:=by
   rw [show ((Q1n i q).clause).toNat=i from rfl];exact hc
  rw [h3'] at h3
  have h3:=Option.some.inj h3
  subst h3
  have hki:keep (i:Int)=true:=by
   have h9:=List.find?_some hq
   simp only [decide_eq_true_eq] at h9
   exact h9.1
  have hfq:(Q7 10 c.pat).find? (fun q=>(Z6 10 q v).isSome)=some q:=by
   rw [←hq]
   refine X9n fun y hy=>?_
   rw [(X28 (hl c hcm) hy i v).2,show (Q1n i y).clause=(i:Int) from rfl,hki]
   simp
  have hmc:Z6 10 c.pat v=Z6 10 q v:=by rw [←hsp c hcm];exact Z7d hfq
  rw [(X28 (hl c hcm) hqm i v).1,←hmc] at h2
  refine ih (fun z=>keep z&&decide (z≠(i:Int))) ?_ fun j c' b hc' hkj hb=>?_
  ·unfold Q3l
   rw [List.filter_filter]
   refine List.filter_congr fun r _=>?_
   rw [show (Q1n i q).clause=(i:Int) from rfl,Bool.and_comm]
   simp
  ·simp only [Bool.and_eq_false_iff,decide_eq_false_iff_not] at hkj
   rcases hkj with hkj | hkj
   ·exact hk j c' b hc' hkj hb
   ·have hji:j=i:=by omega
    subst hji
    rw [hc] at hc'
    cases hc'
    rw [h2] at hb
    cases hb
    exact h4
theorem Q9z {w:List Q4}(hww:w∈Q0s){t:Q6}(ht:t∈tys w){l:List Q3}{pick:Int}{tr:W3}(h:W8 NN w t l pick=some (tr,true)):canC w t l pick=true:=by
 rw [W14 hww ht] at h
 cases hc:canC w t l pick with
 | true=>rfl
 | false=>rw [hc] at h;simp at h
theorem Z1x {w:List Q4}(hww:w∈Q0s){t:Q6}(ht:t∈tys w){l:List Q3}{pick:Int}{tr:W3}(h:W8 NN w t l pick=some (tr,true)){v:Q1}(hv:Q30 w 10 t v) :
  ∃ k,runT 300 tr l v=some ((runR (runD v 0 l)).1,(runR (runD v 0 l)).2,k):=by
 have hw:=ww hww
 have hS:=ws hww
 have hc:=Q9z hww ht h
 have hT:=(Z0m hww ht l pick).tr tr h
 simp only [canC,Bool.and_eq_true] at hc
 obtain ⟨hll,hP⟩:=Z3w hc.1.1
 have hR:=Z8v hw hP hll
 obtain ⟨a,bs,k,h1,h2⟩:=V07 hww (v:=v) 300 tr (Q20 l l.length) [⟨[],t⟩] [v] hT (fun r hr=>⟨hR r hr,by
  obtain ⟨i,c,q,hi,hq,rfl⟩:=X27 hr
  have g:=(hP c (U1 hi)).1
  have g10:=Q3f 10 t c.pat q g hq
  have hO:PatO w t q:=⟨Q0u 11 t q (Q0u 10 t q g10),Q3w 11 q (Q3w 10 q (Q8y 10 c.pat q hq))⟩
  exact ⟨_,Q9l (v:=v) (u:=v) (path:=[]) rfl (Z6v [] hO).2.2⟩⟩) (X8f ht) ⟨rfl,fun j c u hc hu=>by
   cases j with
   | zero=>simp at hc hu;subst hc hu;exact ⟨rfl,hv⟩
   | succ j=>simp at hc⟩
 have h3:=V9x hw hS ht (fun c hc=>(hP c hc).1) hv h2 (fun _=>true) (List.filter_eq_self.2 fun _ _=>rfl).symm (fun _ _ _ _ h=>by cases h)
 exact ⟨k,by rw [h1,←h3]⟩
def Q68 {α:Type}(f:Q0→List Int→List α)(path:List Int):Nat→List Q0→List α
 | _,[]=>[]
 | i,k::ks=>f k (path++[(i:Int)])++Q68 f path (i+1) ks
def X7:Nat→Q0→List Int→List X0
 | 0,_,_=>[]
 | d+1,p,path=>if p.op=3 then [⟨1,path,-1,p.n,p.m,0,[],0⟩] else if p.op=4 then ⟨1,path,p.ctor,0,0,0,[],0⟩::Q68 (X7 d) path 0 p.kids
  else if p.op=6 then (match p.kids with | [a]=>X7 d a path | _=>[]) else []
def Q3x:Nat→Q0→List Int→List Q2
 | 0,_,_=>[]
 | d+1,p,path=>if p.op=2 then [⟨p.var,path⟩] else if p.op=4 then Q68 (Q3x d) path 0 p.kids
  else if p.op=6 then ⟨p.var,path⟩::(match p.kids with | [a]=>Q3x d a path | _=>[]) else []
def toJ (j:Nat)(s:X0):X0:=⟨s.op,s.path,s.ctor,s.n,s.m,s.clause,s.binds,(j:Int)⟩
def W6m (i e off:Nat)(q:Q0):List X0:=(X7 12 q []).map (toJ (off+(X7 12 q []).length+1))++[⟨2,[],0,0,0,(i:Int),Z0v (Q3x 12 q []),(e:Int)⟩]
def Q72 (i e:Nat):Nat→List Q0→List X0
 | _,[]=>[]
 | off,q::qs=>W6m i e off q++Q72 i e (off+(X7 12 q []).length+1) qs
def lenS:List Q0→Nat
 | []=>0
 | q::qs=>(X7 12 q []).length+1+lenS qs
def Q4b:Nat→Nat→List Q3→List X0
 | _,_,[]=>[⟨3,[],0,0,0,0,[],0⟩]
 | off,i,c::cs=>Q72 i (off+lenS (Q7 10 c.pat)) off (Q7 10 c.pat)++Q4b (off+lenS (Q7 10 c.pat)) (i+1) cs
theorem Z50 (i e off:Nat)(q:Q0):(W6m i e off q).length=(X7 12 q []).length+1:=by simp [W6m]
theorem Q91 (i e:Nat):∀ (qs:List Q0) (off:Nat),(Q72 i e off qs).length=lenS qs
 | [],_=>rfl
 | q::qs,off=>by simp only [Q72,lenS,U5,Z50,Q91 i e qs]
def Q8q (s:X0)(u:Q1):Bool:=decide (s.ctor=u.ctor)&&(decide (s.ctor≠-1)||(decide (s.n≤u.n)&&decide (u.n≤s.m)))
def runK (code:List X0)(lst:List Q3)(v:Q1):Nat→Nat→Option (Int×List W9×List (List Int))
 | 0,_=>none
 | n+1,a=>(code[a]?).bind fun s=>if s.op=3 then some (-1,[],[]) else
   if s.op=1 then (Q4h v s.path).bind fun u=>(runK code lst v n (if Q8q s u=true then a+1 else s.to.toNat)).map fun r=>(r.1,r.2.1,s.path::r.2.2)
   else (Q10 s.binds v).bind fun l=>(idx lst s.clause).bind fun c=>if Q08 c.guard l=true then some (s.clause,l,[]) else runK code lst v n s.to.toNat
def addP (ps:List (List Int))(r:Int×List W9×List (List Int)):Int×List W9×List (List Int):=(r.1,r.2.1,ps++r.2.2)
def seg (code:List X0)(a:Nat)(xs:List X0):Prop:=∀ (j:Nat) (x:X0),xs[j]?=some x→code[a+j]?=some x
theorem Q7v {code:List X0}{a:Nat}{xs ys:List X0}(h:seg code a (xs++ys)):seg code a xs∧seg code (a+xs.length) ys:=by
 refine ⟨fun j x hx=>h j x ?_,fun j x hx=>?_⟩
 ·rw [List.getElem?_append_left (List.getElem?_eq_some_iff.1 hx).1]
  exact hx
 ·rw [Nat.add_assoc]
  refine h _ x ?_
  rw [List.getElem?_append_right (by omega),show xs.length+j-xs.length=j by omega]
  exact hx
theorem Z12 (ps qs:List (List Int))(o:Option (Int×List W9×List (List Int))):(o.map (addP qs)).map (addP ps)=o.map (addP (ps++qs)):=by
 cases o<;>simp [addP]
theorem Z5q (o:Option (Int×List W9×List (List Int))):o.map (addP [])=o:=by
 cases o<;>simp [addP]
inductive Goes (code:List X0) (lst:List Q3) (v:Q1):Nat→Nat→Prop
 | refl (a:Nat):Goes code lst v a a
 | test {a b:Nat} {s:X0} {u:Q1} : code[a]?=some s→s.op=1→Q4h v s.path=some u→Goes code lst v (if Q8q s u=true then a+1 else s.to.toNat) b→Goes code lst v a b
 | skip {a b:Nat} {s:X0} {l:List W9} {c:Q3} : code[a]?=some s→s.op=2→Q10 s.binds v=some l→idx lst s.clause=some c→Q08 c.guard l=false→Goes code lst v s.to.toNat b→Goes code lst v a b
theorem Goes.trans {code:List X0}{lst:List Q3}{v:Q1}{a b c:Nat}(h:Goes code lst v a b)(k:Goes code lst v b c):Goes code lst v a c:=by
 induction h with
 | refl _=>exact k
 | test h1 h2 h3 _ ih=>exact .test h1 h2 h3 (ih k)
 | skip h1 h2 h3 h4 h5 _ ih=>exact .skip h1 h2 h3 h4 h5 (ih k)
def Tst (code:List X0)(lst:List Q3)(v:Q1)(a T J:Nat)(hit:Bool):Prop:=∃ (k:Nat) (ps:List (List Int)),k≤T∧(∀ n,runK code lst v (n+k) a=(runK code lst v n (if hit=true then a+T else J)).map (addP ps))∧Goes code lst v a (if hit=true then a+T else J)
theorem X8b {code:List X0}{lst:List Q3}{v:Q1}{a J:Nat} : Tst code lst v a 0 J true:=⟨0,[],Nat.le_refl _,fun n=>by simp [Z5q],by rw [if_pos rfl];exact .refl _⟩
theorem W5p {code:List X0}{lst:List Q3}{v:Q1}{a T1 T2 J:Nat}{h1 h2:Bool}(x:Tst code lst v a T1 J h1)(y:Tst code lst v (a+T1) T2 J h2):Tst code lst v a (T1+T2) J (h1&&h2):=by
 obtain ⟨k1,ps1,l1,e1,g1⟩:=x
 obtain ⟨k2,ps2,l2,e2,g2⟩:=y
 cases h1 with
 | false=>exact ⟨k1,ps1,by omega,fun n=>by rw [e1];simp,by simpa using g1⟩
 | true=>
  refine ⟨k1+k2,ps1++ps2,by omega,fun n=>?_,?_⟩
  ·rw [show n+(k1+k2)=n+k2+k1 by omega,e1,if_pos rfl,e2,Z12]
   simp only [Bool.true_and,Nat.add_assoc]
  ·rw [if_pos rfl] at g1
   simp only [Bool.true_and,←Nat.add_assoc]
   exact g1.trans g2
theorem W5q {code:List X0}{lst:List Q3}{v u:Q1}{a J:Nat}{s:X0}(hc:code[a]?=some s)(h1:s.op=1)(hu:Q4h v s.path=some u)(hJ:s.to=(J:Int)):Tst code lst v a 1 J (Q8q s u):=by
 refine ⟨1,[s.path],Nat.le_refl _,fun n=>?_,?_⟩
 ·rw [runK,hc]
  simp only [U0]
  rw [if_neg (by omega),if_pos h1,hu]
  simp only [U0]
  rw [hJ,Int.toNat_natCast]
  cases runK code lst v n (if Q8q s u=true then a+1 else J)<;>rfl
 ·have hr:(if Q8q s u=true then a+1 else J)=(if Q8q s u=true then a+1 else s.to.toNat):=by rw [hJ,Int.toNat_natCast]
  rw [hr]
  exact .test hc h1 hu (.refl _)
theorem Z8g {w:List Q4}(hw:WW w)(hS:WS w)(hL:WL w){code:List X0}{lst:List Q3}{v:Q1}{J:Nat} : ∀ (d e:Nat) (t:Q6) (q:Q0) (u:Q1) (path:List Int) (a:Nat),Q09 w d t q=true→Q7n d q→Q30 w e t u→t∈tys w→Q4h v path=some u→
  seg code a ((X7 d q path).map (toJ J))→Tst code lst v a (X7 d q path).length J (Z6 d q u).isSome:=by
 intro d
 induction d with
 | zero=>intro e t q u path a h;cases h
 | succ d ih=>
  intro e t q u path a g f hu ht hp hs
  have hn:=Q06 g
  rw [X7] at hs ⊢
  rw [Z6]
  rcases Q85 hn with h | h | h | h | h | h
  ·rw [if_neg (by omega),if_neg (by omega),if_neg (by omega),if_pos h]
   exact X8b
  ·rw [if_neg (by omega),if_neg (by omega),if_neg (by omega),if_neg (by omega),if_pos h]
   exact X8b
  ·exact absurd h f.1
  ·rw [if_neg (by omega),if_neg (by omega),if_pos h] at hs
   rw [if_neg (by omega),if_neg (by omega),if_pos h,if_neg (by omega),if_neg (by omega),if_neg (by omega),if_neg (by omega),if_pos h]
   have hl:=(Q0i hn).2
   have hk:Y1 w t q=[t]:=by unfold Y1;rw [if_neg (by omega),if_neg (by omega),if_pos h]
   rw [hk] at hl
   match hks:q.kids,hl with
   | [x],_=>
    rw [hks] at hs
    have gx:=Q05 g (k:=0) (a:=t) (q:=x) (by rw [hk];rfl) (by rw [hks];rfl)
    have:=ih e t x u path a gx (f.2 x (by rw [hks];simp)) hu ht hp hs
    simpa using this
  ·obtain ⟨h,hd,_⟩:=h
   rw [if_pos h] at hs
   rw [if_pos h,if_neg (by omega),if_neg (by omega),if_pos h]
   have hc:=hs 0 _ rfl
   have hx:=W5q (lst:=lst) hc rfl hp rfl
   have hu1:u.ctor = -1:=by
    cases e with
    | zero=>exact hu.elim
    | succ e=>rw [Q30,if_pos hd] at hu;exact hu.1
   have hpass:Q8q (toJ J ⟨1,path,-1,q.n,q.m,0,[],0⟩) u=(if q.n≤u.n∧u.n≤q.m then some ([]:List W9) else none).isSome:=by
    unfold Q8q toJ
    simp only [hu1]
    by_cases hr:q.n≤u.n∧u.n≤q.m
    ·rw [if_pos hr];simp [hr.1,hr.2]
    ·rw [if_neg hr]
     simp
     omega
   rw [hpass] at hx
   exact hx
  ·obtain ⟨h,hcm⟩:=h
   rw [if_neg (by omega),if_pos h] at hs
   rw [if_neg (by omega),if_pos h,if_neg (by omega),if_neg (by omega),if_neg (by omega),if_neg (by omega),if_neg (by omega)]
   have hd:t.data≠-1:=fun hd=>by
    rw [hS.int t ht hd] at hcm
    cases hcm
   cases e with
   | zero=>exact hu.elim
   | succ e=>
   rw [Q30,if_neg hd] at hu
   obtain ⟨_,hcu,hlu,hku⟩:=hu
   rw [List.map_cons] at hs
   have hs1:seg code a [toJ J ⟨1,path,q.ctor,0,0,0,[],0⟩]∧seg code (a+1) ((Q68 (X7 d) path 0 q.kids).map (toJ J)):=by
    have:=Q7v (xs:=[toJ J ⟨1,path,q.ctor,0,0,0,[],0⟩]) (ys:=(Q68 (X7 d) path 0 q.kids).map (toJ J)) hs
    exact this
   have hc:=hs1.1 0 _ rfl
   rw [Nat.add_zero] at hc
   have hx:=W5q (lst:=lst) hc rfl hp rfl
   have hpass:Q8q (toJ J ⟨1,path,q.ctor,0,0,0,[],0⟩) u=decide (q.ctor=u.ctor):=by
    have:=hL.pos t ht hd _ hcm
    unfold Q8q toJ
    simp [this]
   rw [hpass] at hx
   rw [U3,Nat.add_comm]
   by_cases hcq:q.ctor=u.ctor
   ·rw [if_pos hcq]
    rw [decide_eq_true hcq] at hx
    have hkT:Y1 w t q=V6 w t u.ctor:=by unfold Y1;rw [if_pos h,hcq]
    have hlq:=(Q0i hn).2
    rw [hkT] at hlq
    have kids:∀ (ks:List Q0) (us:List Q1) (i b:Nat),ks.length=us.length→(∀ (j:Nat) (x:Q0) (y:Q1),ks[j]?=some x→us[j]?=some y→∃ a',a'∈tys w∧Q09 w d a' x=true∧Q7n d x∧Q30 w e a' y∧Q4h v (path++[((i+j:Nat):Int)])=some y)→
      seg code b ((Q68 (X7 d) path i ks).map (toJ J))→Tst code lst v b (Q68 (X7 d) path i ks).length J (V7 (Z6 d) ks us).isSome:=by
     intro ks
     induction ks with
     | nil=>intro us i b _ _ _;exact X8b
     | cons x ks ihk=>
      intro us i b hl hj hsb
      cases us with
      | nil=>simp at hl
      | cons y us=>
       obtain ⟨a',c0,c1,c2,c3,c4⟩:=hj 0 x y rfl rfl
       rw [Q68,List.map_append] at hsb
       obtain ⟨s1,s2⟩:=Q7v hsb
       rw [U7] at s2
       have t1:=ih e a' x y (path++[(i:Int)]) b c1 c2 c3 c0 (by simpa using c4) s1
       have t2:=ihk us (i+1) (b+(X7 d x (path++[(i:Int)])).length) (by simpa using hl) (fun j x' y' h1 h2=>by
        obtain ⟨a2,q0,q1,q2,q3,q4⟩:=hj (j+1) x' y' (by simpa using h1) (by simpa using h2)
        exact ⟨a2,q0,q1,q2,q3,by rw [show i+1+j=i+(j+1) by omega];exact q4⟩) s2
       have:=W5p t1 t2
       rw [Q68,U5]
       have hm:(V7 (Z6 d) (x::ks) (y::us)).isSome=((Z6 d x y).isSome&&(V7 (Z6 d) ks us).isSome):=by
        rw [V7]
        cases Z6 d x y with
        | none=>rfl
        | some l=>cases V7 (Z6 d) ks us<;>rfl
       rw [hm]
       exact this
    have hy:=kids q.kids u.kids 0 (a+1) (by omega) (fun j x y h1 h2=>by
     have hjl:=(List.getElem?_eq_some_iff.1 h1).1
     have ha:(V6 w t u.ctor)[j]?=some ((V6 w t u.ctor)[j]'(by omega)):=by simp
     refine ⟨_,(hw.ty t ht).at_ _ hcu _ (U1 ha),Q05 g (by rw [hkT];exact ha) h1,f.2 x (U1 h1),hku j _ y ha h2,?_⟩
     rw [Z2y,hp]
     simp only [U0,Nat.zero_add]
     exact Q16 h2) hs1.2
    have:=W5p hx hy
    simpa using this
   ·rw [if_neg hcq]
    rw [decide_eq_false hcq] at hx
    obtain ⟨k,ps,l1,e1,g1⟩:=hx
    exact ⟨k,ps,by omega,fun n=>by rw [e1];simp,by simpa using g1⟩
theorem X7q {w:List Q4}(hw:WW w)(hS:WS w){v:Q1} : ∀ (d e:Nat) (t:Q6) (q:Q0) (u:Q1) (path:List Int) (l:List W9),Q09 w d t q=true→Q7n d q→Q30 w e t u→t∈tys w→Q4h v path=some u→Z6 d q u=some l→Q10 (Q3x d q path) v=some l:=by
 intro d
 induction d with
 | zero=>intro e t q u path l h;cases h
 | succ d ih=>
  intro e t q u path l g f hu ht hp hm
  have hn:=Q06 g
  rw [Q3x]
  rw [Z6] at hm
  rcases Q85 hn with h | h | h | h | h | h
  ·rw [if_neg (by omega),if_neg (by omega),if_neg (by omega)]
   rw [if_pos h] at hm
   cases hm
   rfl
  ·rw [if_pos h]
   rw [if_neg (by omega),if_pos h] at hm
   cases hm
   simp [Q10,hp]
  ·exact absurd h f.1
  ·rw [if_neg (by omega),if_neg (by omega),if_pos h]
   rw [if_neg (by omega),if_neg (by omega),if_neg (by omega),if_neg (by omega),if_pos h] at hm
   have hl:=(Q0i hn).2
   have hk:Y1 w t q=[t]:=by unfold Y1;rw [if_neg (by omega),if_neg (by omega),if_pos h]
   rw [hk] at hl
   match hks:q.kids,hl with
   | [x],_=>
    rw [hks] at hm
    simp only [U11] at hm
    obtain ⟨m,hm,rfl⟩:=hm
    have gx:=Q05 g (k:=0) (a:=t) (q:=x) (by rw [hk];rfl) (by rw [hks];rfl)
    have:=ih e t x u path m gx (f.2 x (by rw [hks];simp)) hu ht hp hm
    rw [Q10,hp]
    simp only [U0]
    rw [this]
    rfl
  ·obtain ⟨h,_⟩:=h
   rw [if_neg (by omega),if_neg (by omega),if_neg (by omega)]
   rw [if_neg (by omega),if_neg (by omega),if_pos h] at hm
   split at hm
   ·cases hm;rfl
   ·cases hm
  ·obtain ⟨h,hcm⟩:=h
   rw [if_neg (by omega),if_pos h]
   rw [if_neg (by omega),if_neg (by omega),if_neg (by omega),if_neg (by omega),if_neg (by omega)] at hm
   split at hm
   ·rename_i hcq
    have hd:t.data≠-1:=fun hd=>by
     rw [hS.int t ht hd] at hcm
     cases hcm
    cases e with
    | zero=>exact hu.elim
    | succ e=>
    rw [Q30,if_neg hd] at hu
    obtain ⟨_,hcu,hlu,hku⟩:=hu
    have hkT:Y1 w t q=V6 w t u.ctor:=by unfold Y1;rw [if_pos h,hcq]
    have hlq:=(Q0i hn).2
    rw [hkT] at hlq
    have kids:∀ (ks:List Q0) (us:List Q1) (i:Nat) (l:List W9),(∀ (j:Nat) (x:Q0) (y:Q1),ks[j]?=some x→us[j]?=some y→∃ a',a'∈tys w∧Q09 w d a' x=true∧Q7n d x∧Q30 w e a' y∧Q4h v (path++[((i+j:Nat):Int)])=some y)→
      V7 (Z6 d) ks us=some l→Q10 (Q68 (Q3x d) path i ks) v=some l:=by
     intro ks
     induction ks with
     | nil=>intro us i l _ hl;rw [V7] at hl;cases hl;rfl
     | cons x ks ihk=>
      intro us i l hj hl
      cases us with
      | nil=>rw [V7] at hl;cases hl
      | cons y us=>
       obtain ⟨a',c0,c1,c2,c3,c4⟩:=hj 0 x y rfl rfl
       rw [V7] at hl
       cases hx:Z6 d x y with
       | none=>rw [hx] at hl;cases hl
       | some l1=>
        rw [hx] at hl
        simp only at hl
        cases hy:V7 (Z6 d) ks us with
        | none=>rw [hy] at hl;cases hl
        | some l2=>
         rw [hy] at hl
         cases hl
         have t1:=ih e a' x y (path++[(i:Int)]) l1 c1 c2 c3 c0 (by simpa using c4) hx
         have t2:=ihk us (i+1) l2 (fun j x' y' h1 h2=>by
          obtain ⟨a2,q0,q1,q2,q3,q4⟩:=hj (j+1) x' y' (by simpa using h1) (by simpa using h2)
          exact ⟨a2,q0,q1,q2,q3,by rw [show i+1+j=i+(j+1) by omega];exact q4⟩) hy
         rw [Q68,Q8u,t1]
         simp only [U0]
         rw [t2]
         rfl
    exact kids q.kids u.kids 0 l (fun j x y h1 h2=>by
     have hjl:=(List.getElem?_eq_some_iff.1 h1).1
     have ha:(V6 w t u.ctor)[j]?=some ((V6 w t u.ctor)[j]'(by omega)):=by simp
     refine ⟨_,(hw.ty t ht).at_ _ hcu _ (U1 ha),Q05 g (by rw [hkT];exact ha) h1,f.2 x (U1 h1),hku j _ y ha h2,?_⟩
     rw [Z2y,hp]
     simp only [U0,Nat.zero_add]
     exact Q16 h2) hm
   ·cases hm
theorem X24 {v:Q1}{bs:List Q2}{l:List W9}(h:Q10 bs v=some l)(hn:(bs.map (·.var)).Nodup)(hr:∀ b∈bs,0≤b.var∧b.var≤5):Q10 (Z0v bs) v=some (Z0c l):=by
 obtain ⟨l',e1,e2⟩:=Z49 (Q5z hr).symm h
 have hv:=Q2h h
 have hs:l'.Pairwise (fun x y=>x.var<y.var):=by
  have h1:=Q9q hn
  have h2:=Q2h e1
  have h3:(l'.map (·.var)).Pairwise (· < ·):=by rw [h2,List.pairwise_map];exact h1
  exact List.pairwise_map.1 h3
 have hnl:(l.map (·.var)).Nodup:=by rw [hv];exact hn
 have hrl:∀ b∈l,0≤b.var∧b.var≤5:=fun b hb=>by
  have:b.var∈bs.map (·.var):=by rw [←hv];exact List.mem_map_of_mem hb
  obtain ⟨x,hx,e⟩:=U10.1 this
  rw [←e]
  exact hr x hx
 rw [e1,Z0u _ _ hs (Q87 hnl) (e2.symm.trans (Q5c hrl).symm)]
theorem X0w:∀ (d:Nat) (q:Q0) (path:List Int),Q7n d q→((Q3x d q path).map (·.var)).Sublist (Q4s q):=by
 intro d
 induction d with
 | zero=>intro q path f;exact f.elim
 | succ d ih=>
  intro q path f
  have kids:∀ (ks:List Q0) (i:Nat),(∀ x∈ks,Q7n d x)→((Q68 (Q3x d) path i ks).map (·.var)).Sublist (ks.flatMap Q4s):=by
   intro ks
   induction ks with
   | nil=>intro i _;exact List.Sublist.slnil
   | cons x ks ihk=>
    intro i h
    rw [Q68,List.map_append,List.flatMap_cons]
    exact (ih x _ (h x (by simp))).append (ihk (i+1) fun y hy=>h y (by simp [hy]))
  rw [Q3x,Q9p,Q6t]
  by_cases h2:q.op=2
  ·rw [if_pos h2,if_pos (.inl h2)]
   exact List.sublist_append_left _ _
  ·rw [if_neg h2]
   by_cases h4:q.op=4
   ·rw [if_pos h4,if_neg (by omega)]
    simpa using kids q.kids 0 f.2
   ·rw [if_neg h4]
    by_cases h6:q.op=6
    ·rw [if_pos h6,if_pos (.inr h6),List.map_cons]
     refine List.Sublist.cons_cons _ ?_
     match hk:q.kids with
     | []=>simp
     | [a]=>
      have:=ih a path (f.2 a (by rw [hk];simp))
      simpa using this
     | _::_::_=>simp
    ·rw [if_neg h6]
     exact List.nil_sublist _
theorem X5j {w:List Q4}(hw:WW w)(hS:WS w)(hL:WL w){t:Q6}(ht:t∈tys w){lst:List Q3}{v:Q1}{e:Nat}(hv:Q30 w e t v){code:List X0} : ∀ (cs:List Q3) (off i:Nat),(∀ c∈cs,Q2i w t c.pat=true)→(∀ (j:Nat) (c:Q3),cs[j]?=some c→lst[i+j]?=some c)→seg code off (Q4b off i cs)→
  ∃ (k:Nat) (ps:List (List Int)),k≤(Q4b off i cs).length∧∀ n,runK code lst v (n+k) off=some ((runR (runD v i cs)).1,(runR (runD v i cs)).2,ps)
 | [],off,i,_,_,hs=>by
  refine ⟨1,[],by simp [Q4b],fun n=>?_⟩
  have hc:=hs 0 _ rfl
  rw [runK,show code[off]?=some (⟨3,[],0,0,0,0,[],0⟩:X0) from hc]
  rfl
 | c::cs,off,i,hP,hl,hs=>by
  rw [Q4b] at hs
  obtain ⟨s1,s2⟩:=Q7v hs
  rw [Q91] at s2
  have ih:=X5j hw hS hL ht hv cs (off+lenS (Q7 10 c.pat)) (i+1) (fun x hx=>hP x (by simp [hx])) (fun j x hx=>by rw [show i+1+j=i+(j+1) by omega];exact hl (j+1) x (by simpa using hx)) s2
  obtain ⟨k2,ps2,l2,e2⟩:=ih
  obtain ⟨g1,_,g3⟩:=Q5b (hP c (by simp))
  have hcl:idx lst (i:Int)=some c:=Q16 (by have:=hl 0 c rfl;simpa using this)
  have hsf:(Q7 10 c.pat).findSome? (fun q=>Z6 10 q v)=Z6 10 c.pat v:=Z0b hw hS 10 e t c.pat v ht g1 hv
  have Q1g:∀ (qs:List Q0) (o:Nat),(∀ q∈qs,q∈Q7 10 c.pat)→seg code o (Q72 i (off+lenS (Q7 10 c.pat)) o qs)→o+lenS qs=off+lenS (Q7 10 c.pat)→
    ∃ (k:Nat) (ps:List (List Int)),k≤lenS qs∧match qs.findSome? (fun q=>Z6 10 q v) with
     | none=>∀ n,runK code lst v (n+k) o=(runK code lst v n (off+lenS (Q7 10 c.pat))).map (addP ps)
     | some b=>if Q08 c.guard b=true then ∀ n,runK code lst v (n+k) o=some ((i:Int),Z0c b,ps) else ∀ n,runK code lst v (n+k) o=(runK code lst v n (off+lenS (Q7 10 c.pat))).map (addP ps):=by
   intro qs
   induction qs with
   | nil=>
    intro o _ _ ho
    refine ⟨0,[],Nat.le_refl _,fun n=>?_⟩
    rw [Z5q]
    simp only [lenS,Nat.add_zero] at ho ⊢
    rw [ho]
   | cons q qs ihq=>
    intro o hm hsq ho
    rw [Q72] at hsq
    obtain ⟨h1,h2⟩:=Q7v hsq
    rw [Z50] at h2
    obtain ⟨h3,h4⟩:=Q7v (show seg code o ((X7 12 q []).map (toJ (o+(X7 12 q []).length+1))++_) from h1)
    rw [U7] at h4
    have hq:=hm q (by simp)
    have q10:=Q3f 10 t c.pat q g1 hq
    have q12:Q09 w 12 t q=true:=Q0u 11 t q (Q0u 10 t q q10)
    have f12:Q7n 12 q:=Q3w 11 q (Q3w 10 q (Q8y 10 c.pat q hq))
    have m12:Z6 12 q v=Z6 10 q v:=by rw [(Q4y 11 t q (Q0u 10 t q q10)).2.2.2 v,(Q4y 10 t q q10).2.2.2 v]
    obtain ⟨k1,ps1,l1,e1,_⟩:=Z8g (lst:=lst) hw hS hL 12 e t q v [] o q12 f12 hv ht rfl h3
    rw [m12] at e1
    rw [List.findSome?_cons]
    cases hmq:Z6 10 q v with
    | none=>
     rw [hmq] at e1
     simp only [Option.isSome_none,U2,if_false] at e1
     obtain ⟨k3,ps3,l3,e3⟩:=ihq (o+((X7 12 q []).length+1)) (fun x hx=>hm x (by simp [hx])) (by simpa [Nat.add_assoc] using h2) (by rw [lenS] at ho;omega)
     refine ⟨k3+k1,ps1++ps3,by rw [lenS];omega,?_⟩
     simp only
     have cmb:∀ n,runK code lst v (n+(k3+k1)) o=(runK code lst v (n+k3) (o+((X7 12 q []).length+1))).map (addP ps1):=fun n=>by
      rw [←Nat.add_assoc]
      exact e1 (n+k3)
     cases hf:qs.findSome? (fun q=>Z6 10 q v) with
     | none=>
      rw [hf] at e3
      intro n
      rw [cmb,e3,Z12]
     | some b=>
      rw [hf] at e3
      simp only at e3 ⊢
      split
      ·rename_i hg
       rw [if_pos hg] at e3
       intro n
       rw [cmb,e3]
       rfl
      ·rename_i hg
       rw [if_neg hg] at e3
       intro n
       rw [cmb,e3,Z12]
    | some b=>
     rw [hmq] at e1
     simp only [Option.isSome_some,if_true] at e1
     simp only
     have hcd:=h4 0 _ rfl
     rw [Nat.add_zero] at hcd
     have hb:=X7q hw hS 12 e t q v [] b q12 f12 hv ht rfl (by rw [m12];exact hmq)
     have hvs:(Q4s q).Perm ((Q2u w 10 t c.pat).map (·.var)):=Z5y 10 t c.pat q g1 g3 hq
     have hds:=Q5x 10 t c.pat g1 g3
     simp only [Q24,decide_eq_true_eq] at hds
     have hsub:=X0w 12 q [] f12
     have hnd:((Q3x 12 q []).map (·.var)).Nodup:=hsub.nodup (hvs.nodup_iff.2 hds)
     have hrg:∀ x∈Q3x 12 q [],0≤x.var∧x.var≤5:=fun x hx=>by
      obtain ⟨y,hy,e⟩:=U10.1 (hvs.mem_iff.1 (hsub.subset (List.mem_map_of_mem hx)))
      rw [←e]
      exact Z2s 10 t c.pat g1 y hy
     have hsr:=X24 hb hnd hrg
     have hbn:(b.map (·.var)).Nodup:=by rw [Q2h hb];exact hnd
     have hrb:∀ x∈b,0≤x.var∧x.var≤5:=fun x hx=>by
      have:x.var∈(Q3x 12 q []).map (·.var):=by rw [←Q2h hb];exact List.mem_map_of_mem hx
      obtain ⟨y,hy,e⟩:=U10.1 this
      rw [←e]
      exact hrg y hy
     have hgs:Q08 c.guard (Z0c b)=Q08 c.guard b:=by
      unfold Q08
      rw [X08 (by rw [(List.Perm.map _ (Q5c hrb)).nodup_iff];exact hbn) (Q5c hrb) c.guard.var]
     have stp:∀ n,runK code lst v (n+1) (o+(X7 12 q []).length)=if Q08 c.guard b=true then some ((i:Int),Z0c b,[]) else runK code lst v n (off+lenS (Q7 10 c.pat)):=fun n=>by
      rw [runK,hcd]
      simp only [U0]
      rw [if_neg (by decide),if_neg (by decide),hsr]
      simp only [U0]
      rw [hcl]
      simp only [U0]
      rw [hgs,Int.toNat_natCast]
     refine ⟨1+k1,ps1,by rw [lenS];omega,?_⟩
     split
     ·rename_i hg
      intro n
      rw [←Nat.add_assoc,e1,stp,if_pos hg]
      simp [addP]
     ·rename_i hg
      intro n
      rw [←Nat.add_assoc,e1,stp,if_neg hg]
  obtain ⟨k1,ps1,l1,e1⟩:=Q1g (Q7 10 c.pat) off (fun q h=>h) s1 rfl
  rw [hsf] at e1
  have hlen:(Q4b off i (c::cs)).length=lenS (Q7 10 c.pat)+(Q4b (off+lenS (Q7 10 c.pat)) (i+1) cs).length:=by rw [Q4b,U5,Q91]
  rw [runD]
  cases hm:Z6 10 c.pat v with
  | none=>
   rw [hm] at e1
   refine ⟨k2+k1,ps1++ps2,by omega,fun n=>?_⟩
   rw [←Nat.add_assoc,e1,e2]
   rfl
  | some b=>
   rw [hm] at e1
   simp only at e1 ⊢
   by_cases hg:Q08 c.guard b=true
   ·rw [if_pos hg] at e1 ⊢
    exact ⟨k1,ps1,by omega,fun n=>by rw [e1];rfl⟩
   ·rw [if_neg hg] at e1 ⊢
    refine ⟨k2+k1,ps1++ps2,by omega,fun n=>?_⟩
    rw [←Nat.add_assoc,e1,e2]
    rfl
theorem Z9l {α:Type}{f:Q0→List Int→List α}(h:∀ x p,(f x p).length≤cntP x)(path:List Int):∀ (ks:List Q0) (i:Nat),(Q68 f path i ks).length≤cntP.cntPs ks
 | [],_=>by simp [Q68]
 | x::ks,i=>by
  have h1:=h x (path++[(i:Int)])
  have h2:=Z9l h path ks (i+1)
  simp only [Q68,U5,cntP.cntPs]
  omega
theorem Z0a:∀ (d:Nat) (q:Q0) (path:List Int),(X7 d q path).length≤cntP q
 | 0,q,path=>by simp [X7]
 | d+1,q,path=>by
  have hc:=Q82 q
  rw [X7]
  split
  ·simp only [U3,U4];omega
  ·split
   ·have:=Z9l (Z0a d) path q.kids 0
    simp only [U3]
    omega
   ·split
    ·match hk:q.kids with
     | []=>simp
     | [a]=>
      have h1:=Z0a d a path
      rw [hk] at hc
      simp only [cntP.cntPs] at hc
      simp only
      omega
     | _::_::_=>simp
    ·simp
theorem Z35:∀ (d:Nat) (q:Q0) (path:List Int),(Q3x d q path).length≤cntP q
 | 0,q,path=>by simp [Q3x]
 | d+1,q,path=>by
  have hc:=Q82 q
  rw [Q3x]
  split
  ·simp only [U3,U4];omega
  ·split
   ·have:=Z9l (Z35 d) path q.kids 0
    omega
   ·split
    ·match hk:q.kids with
     | []=>simp only [U3,U4];omega
     | [a]=>
      have h1:=Z35 d a path
      rw [hk] at hc
      simp only [cntP.cntPs] at hc
      simp only [U3]
      omega
     | _::_::_=>simp only [U3,U4];omega
    ·simp
theorem X6j {ρ:Type}{F:Nat→Q0→List X0×List Q2→Option (Ctl ρ (List X0×List Q2))}{f:Q0→List Int→List X0}{g:Q0→List Int→List Q2}{path:List Int}
  (hf:∀ x p,(f x p).length≤cntP x) (hg:∀ x p,(g x p).length≤cntP x):∀ (ks:List Q0) (i:Nat) (st:List X0) (bs:List Q2),st.length+cntP.cntPs ks≤100000→bs.length+cntP.cntPs ks≤100000→
  (∀ (k:Nat) (x:Q0) (st:List X0) (bs:List Q2),x∈ks→i≤k→k<i+ks.length→st.length+cntP x≤100000→bs.length+cntP x≤100000→F k x (st,bs)=some (.go (st++f x (path++[(k:Int)]),bs++g x (path++[(k:Int)]))))→
  forL F i ks (st,bs)=some (.brk (st++Q68 f path i ks,bs++Q68 g path i ks))
 | [],i,st,bs,_,_,_=>by simp [forL,Q68]
 | x::ks,i,st,bs,h1,h2,h=>by
  simp only [cntP.cntPs] at h1 h2
  have l1:=hf x (path++[(i:Int)])
  have l2:=hg x (path++[(i:Int)])
  unfold forL
  rw [h i x st bs (by simp) (Nat.le_refl _) (by simp) (by omega) (by omega)]
  simp only
  rw [X6j hf hg ks (i+1) _ _ (by rw [U5];omega) (by rw [U5];omega) (fun k y st bs hy hk1 hk2=>h k y st bs (by simp [hy]) (by omega) (by simp only [U3];omega))]
  simp [Q68]
theorem X3l {ρ α:Type}{F:Nat→Q0→List α→Option (Ctl ρ (List α))}{f:Q0→List Int→List α}{path:List Int}(hf:∀ x p,(f x p).length≤cntP x):∀ (ks:List Q0) (i:Nat) (st:List α),st.length+cntP.cntPs ks≤100000→
  (∀ (k:Nat) (x:Q0) (st:List α),x∈ks→i≤k→k<i+ks.length→st.length+cntP x≤100000→F k x st=some (.go (st++f x (path++[(k:Int)]))))→forL F i ks st=some (.brk (st++Q68 f path i ks))
 | [],i,st,_,_=>by simp [forL,Q68]
 | x::ks,i,st,h1,h=>by
  simp only [cntP.cntPs] at h1
  have l1:=hf x (path++[(i:Int)])
  unfold forL
  rw [h i x st (by simp) (Nat.le_refl _) (by simp) (by omega)]
  simp only
  rw [X3l hf ks (i+1) _ (by rw [U5];omega) (fun k y st hy hk1 hk2=>h k y st (by simp [hy]) (by omega) (by simp only [U3];omega))]
  simp [Q68]
theorem Z0g {w:List Q4}{d:Nat}{t:Q6}{q:Q0}(g:Q09 w (d+1) t q=true)(f:Q7n (d+1) q) :
  (q.op=1∧q.kids=[])∨(q.op=2∧q.kids=[])∨(q.op=6∧∃ a,q.kids=[a]∧Q09 w d t a=true∧Q7n d a)∨(q.op=3∧q.kids=[])∨(q.op=4∧q.kids.length=(V6 w t q.ctor).length∧q.ctor∈X5 w t∧∀ (j:Nat) (x:Q0) (u:Q6),q.kids[j]?=some x→(V6 w t q.ctor)[j]?=some u→Q09 w d u x=true∧Q7n d x):=by
 have hn:=Q06 g
 have hl:=(Q0i hn).2
 rcases Q85 hn with h | h | h | h | h | h
 ·refine .inl ⟨h,?_⟩
  have hk:Y1 w t q=[]:=by unfold Y1;rw [if_neg (by omega),if_neg (by omega),if_neg (by omega)]
  rw [hk] at hl
  exact List.length_eq_zero_iff.1 hl
 ·refine .inr (.inl ⟨h,?_⟩)
  have hk:Y1 w t q=[]:=by unfold Y1;rw [if_neg (by omega),if_neg (by omega),if_neg (by omega)]
  rw [hk] at hl
  exact List.length_eq_zero_iff.1 hl
 ·exact absurd h f.1
 ·have hk:Y1 w t q=[t]:=by unfold Y1;rw [if_neg (by omega),if_neg (by omega),if_pos h]
  rw [hk] at hl
  match hks:q.kids,hl with
  | [x],_=>
   exact .inr (.inr (.inl ⟨h,x,rfl,Q05 g (k:=0) (a:=t) (q:=x) (by rw [hk];rfl) (by rw [hks];rfl),f.2 x (by rw [hks];simp)⟩))
 ·obtain ⟨h,_⟩:=h
  refine .inr (.inr (.inr (.inl ⟨h,?_⟩)))
  have hk:Y1 w t q=[]:=by unfold Y1;rw [if_neg (by omega),if_neg (by omega),if_neg (by omega)]
  rw [hk] at hl
  exact List.length_eq_zero_iff.1 hl
 ·obtain ⟨h,hc⟩:=h
  have hk:Y1 w t q=V6 w t q.ctor:=by unfold Y1;rw [if_pos h]
  rw [hk] at hl
  exact .inr (.inr (.inr (.inr ⟨h,hl,hc,fun j x u hx hu=>⟨Q05 g (by rw [hk];exact hu) hx,f.2 x (U1 hx)⟩⟩)))
theorem X3o {w:List Q4}(hw:WW w):∀ (d n:Nat) (t:Q6) (q:Q0) (path:List Int) (st:List X0) (bs:List Q2),t∈tys w→Q09 w d t q=true→Q7n d q→d≤n→path.length+d≤1000→st.length+cntP q≤100000→bs.length+cntP q≤100000→
  Q76 n q path st bs=some (st++X7 d q path,bs++Q3x d q path):=by
 intro d
 induction d with
 | zero=>intro n t q path st bs _ h;cases h
 | succ d ih=>
  intro n t q path st bs ht g f hn hp h1 h2
  obtain ⟨n,rfl⟩:∃ m,n=m+1:=⟨n-1,by omega⟩
  have hc:=Q82 q
  have hcl:∀ p:List Int,p.length≤1000→V8 p=some p:=fun p h=>Q9k p (by simp only [Q5];omega)
  rw [Q76,hcl path (by omega),X7,Q3x]
  simp only [U0]
  rcases Z0g g f with ⟨h,hk⟩ | ⟨h,hk⟩ | ⟨h,a,hk,ga,fa⟩ | ⟨h,hk⟩ | ⟨h,hl,hct,hkid⟩
  ·have e1:ieq (1:Int) 2=false:=rfl
   have e2:ieq (1:Int) 6=false:=rfl
   have e3:ieq (1:Int) 3=false:=rfl
   have e4:ieq (1:Int) 4=false:=rfl
   simp [h,hk,e1,e2,e3,e4,forL]
  ·have e1:ieq (2:Int) 2=true:=rfl
   simp only [h,e1,if_true,U0]
   rw [X4 (by simp only [U3,U4,Q5];omega)]
   simp [hk,forL]
  ·have e1:ieq (6:Int) 2=false:=rfl
   have e2:ieq (6:Int) 6=true:=rfl
   have e4:ieq (6:Int) 4=false:=rfl
   rw [hk] at hc
   simp only [cntP.cntPs] at hc
   simp only [h,e1,e2,e4,U2,if_false,if_true,U0]
   rw [X4 (by simp only [U3,U4,Q5];omega)]
   simp only [hk,forL,U0]
   rw [ih n t a path st (bs++[Q2.mk q.var path]) ht ga fa (by omega) (by omega) (by omega) (by simp only [U5,U3,U4];omega)]
   simp
  ·have e1:ieq (3:Int) 2=false:=rfl
   have e2:ieq (3:Int) 6=false:=rfl
   have e3:ieq (3:Int) 3=true:=rfl
   have e4:ieq (3:Int) 4=false:=rfl
   simp only [h,e1,e2,e3,U2,if_false,if_true,U0]
   rw [X4 (by simp only [U3,U4,Q5];omega)]
   simp [hk,forL]
  ·have e1:ieq (4:Int) 2=false:=rfl
   have e2:ieq (4:Int) 6=false:=rfl
   have e3:ieq (4:Int) 3=false:=rfl
   have e4:ieq (4:Int) 4=true:=rfl
   have hal:=(hw.ty t ht).al _ hct
   simp only [h,e1,e2,e3,e4,U2,if_false,if_true,U0]
   rw [X4 (by simp only [U3,U4,Q5];omega)]
   simp only [U0]
   rw [X6j (path:=path) (Z0a d) (Z35 d) q.kids 0 _ bs (by simp only [U5,U3,U4];omega) (by omega) (fun k x st bs hx _ hk2 hs hb=>by
    obtain ⟨j,hj⟩:=List.mem_iff_getElem?.1 hx
    have hjl:=(List.getElem?_eq_some_iff.1 hj).1
    have hu:(V6 w t q.ctor)[j]?=some ((V6 w t q.ctor)[j]'(by omega)):=by simp
    obtain ⟨gx,fx⟩:=hkid j x _ hj hu
    rw [X4 (by simp only [U3,U4,Q5];omega)]
    simp only [U0]
    rw [ih n _ x (path++[(k:Int)]) st bs ((hw.ty t ht).at_ _ hct _ (U1 hu)) gx fx (by omega) (by simp only [U5,U3,U4];omega) hs hb]
    rfl)]
   simp
theorem X33 {w:List Q4}(hw:WW w):∀ (d n:Nat) (t:Q6) (q:Q0) (path:List Int) (st:List X0),t∈tys w→Q09 w d t q=true→Q7n d q→d≤n→path.length+d≤1000→st.length+cntP q≤100000→
  Q3z n st q path=some (st++X7 d q path):=by
 intro d
 induction d with
 | zero=>intro n t q path st _ h;cases h
 | succ d ih=>
  intro n t q path st ht g f hn hp h1
  obtain ⟨n,rfl⟩:∃ m,n=m+1:=⟨n-1,by omega⟩
  have hc:=Q82 q
  rw [Q3z,X7]
  rcases Z0g g f with ⟨h,hk⟩ | ⟨h,hk⟩ | ⟨h,a,hk,ga,fa⟩ | ⟨h,hk⟩ | ⟨h,hl,hct,hkid⟩
  ·have e2:ieq (1:Int) 6=false:=rfl
   have e3:ieq (1:Int) 3=false:=rfl
   have e4:ieq (1:Int) 4=false:=rfl
   simp [h,e2,e3,e4]
  ·have e2:ieq (2:Int) 6=false:=rfl
   have e3:ieq (2:Int) 3=false:=rfl
   have e4:ieq (2:Int) 4=false:=rfl
   simp [h,e2,e3,e4]
  ·have e2:ieq (6:Int) 6=true:=rfl
   have hix:idx q.kids 0=some a:=Q16 (i:=0) (by simp [hk])
   rw [hk] at hc
   simp only [cntP.cntPs] at hc
   simp only [h,e2,if_true,hix,U0]
   rw [ih n t a path st ht ga fa (by omega) (by omega) (by omega)]
   simp [hk]
  ·have e2:ieq (3:Int) 6=false:=rfl
   have e3:ieq (3:Int) 3=true:=rfl
   simp only [h,e2,e3,U2,if_false,if_true]
   rw [X4 (by simp only [U4,Q5];omega)]
   simp only [U0]
   rw [X4 (by simp only [U3,U4,Q5];omega)]
   simp
  ·have e2:ieq (4:Int) 6=false:=rfl
   have e3:ieq (4:Int) 3=false:=rfl
   have e4:ieq (4:Int) 4=true:=rfl
   have hal:=(hw.ty t ht).al _ hct
   simp only [h,e2,e3,e4,U2,if_false,if_true]
   rw [X4 (by simp only [U4,Q5];omega)]
   simp only [U0]
   rw [X4 (by simp only [U3,U4,Q5];omega)]
   simp only [U0]
   rw [X3l (path:=path) (Z0a d) q.kids 0 _ (by simp only [U5,U3,U4];omega) (fun k x st hx _ hk2 hs=>by
    obtain ⟨j,hj⟩:=List.mem_iff_getElem?.1 hx
    have hjl:=(List.getElem?_eq_some_iff.1 hj).1
    have hu:(V6 w t q.ctor)[j]?=some ((V6 w t q.ctor)[j]'(by omega)):=by simp
    obtain ⟨gx,fx⟩:=hkid j x _ hj hu
    rw [X8s (by omega)]
    simp only [U0]
    rw [ih n _ x (path++[(k:Int)]) st ((hw.ty t ht).at_ _ hct _ (U1 hu)) gx fx (by omega) (by simp only [U5,U3,U4];omega) hs]
    rfl)]
   simp
theorem X37 {w:List Q4}(hw:WW w):∀ (d n:Nat) (t:Q6) (q:Q0) (path:List Int) (bs:List Q2),t∈tys w→Q09 w d t q=true→Q7n d q→d≤n→path.length+d≤1000→bs.length+cntP q≤100000→
  Q5d n bs q path=some (bs++Q3x d q path):=by
 intro d
 induction d with
 | zero=>intro n t q path bs _ h;cases h
 | succ d ih=>
  intro n t q path bs ht g f hn hp h1
  obtain ⟨n,rfl⟩:∃ m,n=m+1:=⟨n-1,by omega⟩
  have hc:=Q82 q
  rw [Q5d,Q3x]
  rcases Z0g g f with ⟨h,hk⟩ | ⟨h,hk⟩ | ⟨h,a,hk,ga,fa⟩ | ⟨h,hk⟩ | ⟨h,hl,hct,hkid⟩
  ·have e1:ieq (1:Int) 2=false:=rfl
   have e2:ieq (1:Int) 6=false:=rfl
   have e4:ieq (1:Int) 4=false:=rfl
   simp [h,hk,e1,e2,e4,forL]
  ·have e1:ieq (2:Int) 2=true:=rfl
   simp only [h,e1,if_true]
   rw [X4 (by simp only [U4,Q5];omega)]
   simp only [U0]
   rw [X4 (by simp only [U3,U4,Q5];omega)]
   simp [hk,forL]
  ·have e1:ieq (6:Int) 2=false:=rfl
   have e2:ieq (6:Int) 6=true:=rfl
   have e4:ieq (6:Int) 4=false:=rfl
   rw [hk] at hc
   simp only [cntP.cntPs] at hc
   simp only [h,e1,e2,e4,U2,if_false,if_true]
   rw [X4 (by simp only [U4,Q5];omega)]
   simp only [U0]
   rw [X4 (by simp only [U3,U4,Q5];omega)]
   simp only [hk,forL,U0]
   rw [ih n t a path (bs++[Q2.mk q.var path]) ht ga fa (by omega) (by omega) (by simp only [U5,U3,U4];omega)]
   simp
  ·have e1:ieq (3:Int) 2=false:=rfl
   have e2:ieq (3:Int) 6=false:=rfl
   have e4:ieq (3:Int) 4=false:=rfl
   simp [h,hk,e1,e2,e4,forL]
  ·have e1:ieq (4:Int) 2=false:=rfl
   have e2:ieq (4:Int) 6=false:=rfl
   have e4:ieq (4:Int) 4=true:=rfl
   have hal:=(hw.ty t ht).al _ hct
   simp only [h,e1,e2,e4,U2,if_false,if_true,U0]
   rw [X3l (path:=path) (Z35 d) q.kids 0 bs (by omega) (fun k x bs hx _ hk2 hb=>by
    obtain ⟨j,hj⟩:=List.mem_iff_getElem?.1 hx
    have hjl:=(List.getElem?_eq_some_iff.1 hj).1
    have hu:(V6 w t q.ctor)[j]?=some ((V6 w t q.ctor)[j]'(by omega)):=by simp
    obtain ⟨gx,fx⟩:=hkid j x _ hj hu
    rw [X8s (by omega)]
    simp only [U0]
    rw [ih n _ x (path++[(k:Int)]) bs ((hw.ty t ht).at_ _ hct _ (U1 hu)) gx fx (by omega) (by simp only [U5,U3,U4];omega) hb]
    rfl)]
   simp
def MemL (cs:List Q0)(ls:List (List Q0)):Prop:=cs.length=ls.length∧∀ (j:Nat) (c:Q0) (l:List Q0),cs[j]?=some c→ls[j]?=some l→c∈l
theorem Z9c {c:Q0}{cs:List Q0}{l:List Q0}{ls:List (List Q0)} : MemL (c::cs) (l::ls)↔c∈l∧MemL cs ls:=by
 constructor
 ·rintro ⟨h1,h2⟩
  exact ⟨h2 0 c l rfl rfl,by simpa using h1,fun j x y e1 e2=>h2 (j+1) x y (by simpa using e1) (by simpa using e2)⟩
 ·rintro ⟨h0,h1,h2⟩
  refine ⟨by simp [h1],fun j x y e1 e2=>?_⟩
  cases j with
  | zero=>simp at e1 e2;subst e1;subst e2;exact h0
  | succ j=>exact h2 j x y (by simpa using e1) (by simpa using e2)
theorem W10:∀ (ls out:List (List Q0)) (ks:List Q0),ks∈ls.foldl tupD out↔∃ o∈out,∃ cs,MemL cs ls∧ks=o++cs
 | [],out,ks=>by
  simp only [List.foldl_nil]
  constructor
  ·exact fun h=>⟨ks,h,[],⟨rfl,fun j c l h=>by simp at h⟩,by simp⟩
  ·rintro ⟨o,ho,cs,h,rfl⟩
   have:cs=[]:=List.eq_nil_of_length_eq_zero (by simpa using h.1)
   subst this
   simpa using ho
 | l::ls,out,ks=>by
  simp only [List.foldl_cons]
  rw [W10 ls (tupD out l) ks]
  constructor
  ·rintro ⟨o,ho,cs,h,rfl⟩
   obtain ⟨q,hq,ho⟩:=List.mem_flatMap.1 ho
   obtain ⟨c,hc,rfl⟩:=U10.1 ho
   exact ⟨q,hq,c::cs,Z9c.2 ⟨hc,h⟩,by simp⟩
  ·rintro ⟨o,ho,cs,h,rfl⟩
   cases cs with
   | nil=>have:=h.1;simp at this
   | cons c cs=>
    obtain ⟨hc,h⟩:=Z9c.1 h
    exact ⟨o++[c],List.mem_flatMap.2 ⟨o,ho,U10.2 ⟨c,hc,rfl⟩⟩,cs,h,by simp⟩
theorem W6w {ls:List (List Q0)}{ks:List Q0} : ks∈ls.foldl tupD [[]]↔MemL ks ls:=by
 rw [W10]
 constructor
 ·rintro ⟨o,ho,cs,h,rfl⟩
  simp at ho
  subst ho
  simpa using h
 ·exact fun h=>⟨[],by simp,ks,h,by simp⟩
def i3 (a b:Int):List Q0:=if a≤b then [Q0.mk 3 0 a b 0 []] else []
theorem Z8o:∀ (d:Nat) (p:Q0),∀ q∈Q7 d p,cntP q≤cntP p
 | 0,_,_,h=>by simp [Q7] at h
 | d+1,p,q,h=>by
  have hp:=Q82 p
  simp only [Q7] at h
  split at h
  ·obtain ⟨k,hk,hq⟩:=List.mem_flatMap.1 h
   have h1:=Z8o d k q hq
   obtain ⟨j,hj⟩:=List.mem_iff_getElem?.1 hk
   have:=X4m hj
   omega
  ·obtain ⟨cs,hcs,rfl⟩:=U10.1 h
   have hm:=W6w.1 hcs
   have:∀ (ks cs:List Q0),MemL cs (ks.map (Q7 d))→cntP.cntPs cs≤cntP.cntPs ks:=fun ks=>by
    induction ks with
    | nil=>intro cs h;have:=h.1;simp at this;subst this;simp
    | cons k ks ih=>
     intro cs h
     cases cs with
     | nil=>have:=h.1;simp at this
     | cons c cs=>
      rw [List.map_cons,Z9c] at h
      have h1:=Z8o d k c h.1
      have h2:=ih cs h.2
      simp only [cntP.cntPs]
      omega
   have:=this p.kids cs hm
   rw [Q82]
   simp only [Q6e]
   omega
theorem Q7a {w:List Q4}{t:Q6}{cs:List Q3}(h:Q4f w t cs=true):cs.length≤8∧∀ c∈cs,Q2i w t c.pat=true:=by
 simp only [Q4f,Bool.and_eq_true,decide_eq_true_eq,List.all_eq_true] at h
 refine ⟨h.1,fun c hc=>?_⟩
 have:=h.2 c hc
 simp only [Q83,Bool.and_eq_true] at this
 exact this.1
theorem setK {L:List X0}{k:Nat}(h:k<L.length)(y:X0):setI L (k:Int) y=some (L.set k y):=by
 unfold setI
 rw [if_pos ⟨by omega,by simpa using h⟩]
 simp
theorem Z81 {ρ:Type}{F:List X0×Int→Option (Ctl ρ (List X0×Int))}(A S:List X0)(f:X0→X0)(hlen:A.length+S.length≤100000)
  (hgo:∀ (k:Nat) (x:X0) (L:List X0),S[k]?=some x→L.length=A.length+S.length→L[A.length+k]?=some x→F (L,((A.length+k:Nat):Int))=some (.go (L.set (A.length+k) (f x),((A.length+k+1:Nat):Int))))
  (hend:∀ L:List X0,L.length=A.length+S.length→F (L,((A.length+S.length:Nat):Int))=some (.brk (L,((A.length+S.length:Nat):Int)))) :
  whileL F NN (A++S,lenZ A.length)=some (.brk (A++S.map f,((A.length+S.length:Nat):Int))):=by
 have h:Ret (whileL F NN (A++S,lenZ A.length)) (CtlQ (fun _=>False) fun s=>s=(A++S.map f,((A.length+S.length:Nat):Int))):=by
  refine Q1r (fun s:List X0×Int=>∃ k:Nat,k≤S.length∧s=(A++((S.take k).map f++S.drop k),((A.length+k:Nat):Int))) (fun s=>(A.length+S.length-s.2).toNat) (fun _=>False) _ ⟨0,by omega,by simp [Y0]⟩ (fun s hI=>?_) NN (by simp only [Y0,NN];omega)
  obtain ⟨k,hk,rfl⟩:=hI
  have hL:(A++((S.take k).map f++S.drop k)).length=A.length+S.length:=by
   simp only [U5,U7,U6,List.length_drop];omega
  by_cases hkl:k<S.length
  ·have hx:S[k]?=some (S[k]'hkl):=by simp
   have hd:S.drop k=S[k]::S.drop (k+1):=List.drop_eq_getElem_cons hkl
   have hml:((S.take k).map f).length=k:=by simp only [U7,U6];omega
   rw [hgo k _ _ hx hL (by
    rw [List.getElem?_append_right (by omega),List.getElem?_append_right (by omega),hml,hd]
    simp)]
   refine .some ⟨⟨k+1,by omega,?_⟩,by simp only;omega⟩
   congr 1
   rw [List.set_append_right _ _ (by omega),show A.length+k-A.length=k by omega,List.set_append_right _ _ (by omega),hml,Nat.sub_self,hd,List.set_cons_zero,List.take_add_one,hx,List.map_append]
   simp only [Option.toList_some,List.map_cons,List.map_nil,List.append_assoc,List.cons_append,List.nil_append]
  ·obtain rfl:k=S.length:=by omega
   rw [hend _ hL]
   refine .some ?_
   simp
 obtain ⟨o,ho,hq⟩:=h
 cases o with
 | ret r=>exact hq.elim
 | go s=>exact hq.elim
 | brk s=>rw [ho];simp only [Q5l] at hq;rw [hq]
def X6c (i:Nat)(g:Nat→Int)(off:Nat)(q:Q0):List X0:=(X7 12 q []).map (toJ (off+(X7 12 q []).length+1))++[⟨2,[],0,0,0,(i:Int),Z0v (Q3x 12 q []),g (off+(X7 12 q []).length+1)⟩]
def Z3i (i:Nat)(g:Nat→Int):Nat→List Q0→List X0
 | _,[]=>[]
 | off,q::qs=>X6c i g off q++Z3i i g (off+(X7 12 q []).length+1) qs
theorem X6b (i:Nat)(g:Nat→Int)(off:Nat)(q:Q0):(X6c i g off q).length=(X7 12 q []).length+1:=by simp [X6c]
theorem Z65 (i:Nat)(g:Nat→Int):∀ (qs:List Q0) (off:Nat),(Z3i i g off qs).length=lenS qs
 | [],_=>rfl
 | q::qs,off=>by simp only [Z3i,lenS,U5,X6b,Z65 i g qs]
def setT (e:Int)(s:X0):X0:=if s.op=2 then ⟨s.op,s.path,s.ctor,s.n,s.m,s.clause,s.binds,e⟩ else s
theorem W12 {f:Q0→List Int→List X0}(h:∀ x p,∀ s∈f x p,s.op=1)(path:List Int):∀ (ks:List Q0) (i:Nat),∀ s∈Q68 f path i ks,s.op=1
 | [],_,s,hs=>by cases hs
 | x::ks,i,s,hs=>by
  rcases List.mem_append.1 hs with hs | hs
  ·exact h x _ s hs
  ·exact W12 h path ks (i+1) s hs
theorem Z1y:∀ (d:Nat) (q:Q0) (path:List Int),∀ s∈X7 d q path,s.op=1
 | 0,_,_,s,hs=>by cases hs
 | d+1,q,path,s,hs=>by
  rw [X7] at hs
  split at hs
  ·simp only [List.mem_singleton] at hs;rw [hs]
  ·split at hs
   ·rcases U8.1 hs with hs | hs
    ·rw [hs]
    ·exact W12 (Z1y d) path q.kids 0 s hs
   ·split at hs
    ·split at hs
     ·exact Z1y d _ path s hs
     ·cases hs
    ·cases hs
theorem Z64 (i e:Nat)(g:Nat→Int):∀ (qs:List Q0) (off:Nat),(Z3i i g off qs).map (setT (e:Int))=Q72 i e off qs
 | [],_=>rfl
 | q::qs,off=>by
  have ht:((X7 12 q []).map (toJ (off+(X7 12 q []).length+1))).map (setT (e:Int))=(X7 12 q []).map (toJ (off+(X7 12 q []).length+1)):=by
   rw [List.map_map]
   refine List.map_congr_left fun s hs=>?_
   have:=Z1y 12 q [] s hs
   simp [setT,toJ,this]
  simp only [Z3i,Q72,List.map_append,Z64 i e g qs]
  congr 1
  simp only [X6c,W6m,List.map_append,ht]
  simp [setT]
theorem Z63 {ρ:Type}{i:Nat}{g:Nat→Int}{F:Nat→Q0→List X0→Option (Ctl ρ (List X0))} : ∀ (qs:List Q0) (k:Nat) (s:List X0),s.length+lenS qs≤50000→
  (∀ (k:Nat) (q:Q0) (s:List X0),q∈qs→s.length+(X7 12 q []).length+1≤50000→F k q s=some (.go (s++X6c i g s.length q)))→forL F k qs s=some (.brk (s++Z3i i g s.length qs))
 | [],k,s,_,_=>by simp [forL,Z3i]
 | q::qs,k,s,h,hF=>by
  simp only [lenS] at h
  have hl:(s++X6c i g s.length q).length=s.length+(X7 12 q []).length+1:=by rw [U5,X6b];omega
  unfold forL
  rw [hF k q s (by simp) (by omega)]
  simp only
  rw [Z63 qs (k+1) _ (by rw [hl];omega) (fun k q s hq hs=>hF k q s (by simp [hq]) hs),hl]
  simp [Z3i]
def X4l:Nat→Nat→List Q3→List X0
 | _,_,[]=>[]
 | off,i,c::cs=>Q72 i (off+lenS (Q7 10 c.pat)) off (Q7 10 c.pat)++X4l (off+lenS (Q7 10 c.pat)) (i+1) cs
theorem Z88:∀ (cs:List Q3) (off i:Nat),Q4b off i cs=X4l off i cs++[⟨3,[],0,0,0,0,[],0⟩]
 | [],_,_=>rfl
 | c::cs,off,i=>by rw [Q4b,X4l,Z88 cs];simp
def lenC:List Q3→Nat
 | []=>0
 | c::cs=>lenS (Q7 10 c.pat)+lenC cs
theorem Z5j:∀ (cs:List Q3) (off i:Nat),(X4l off i cs).length=lenC cs
 | [],_,_=>rfl
 | c::cs,off,i=>by rw [X4l,U5,Q91,Z5j cs];rfl
theorem X0o {ρ α:Type}{h:Q3→α}{F:Nat→α→List X0→Option (Ctl ρ (List X0))} : ∀ (cs:List Q3) (i:Nat) (s:List X0),s.length+lenC cs≤40000→
  (∀ (i:Nat) (c:Q3) (s:List X0),c∈cs→s.length+lenS (Q7 10 c.pat)≤40000→F i (h c) s=some (.go (s++Q72 i (s.length+lenS (Q7 10 c.pat)) s.length (Q7 10 c.pat))))→forL F i (cs.map h) s=some (.brk (s++X4l s.length i cs))
 | [],i,s,_,_=>by simp [forL,X4l]
 | c::cs,i,s,hl,hF=>by
  simp only [lenC] at hl
  have hn:(s++Q72 i (s.length+lenS (Q7 10 c.pat)) s.length (Q7 10 c.pat)).length=s.length+lenS (Q7 10 c.pat):=by rw [U5,Q91]
  rw [List.map_cons]
  unfold forL
  rw [hF i c s (by simp) (by omega)]
  simp only
  rw [X0o cs (i+1) _ (by rw [hn];omega) (fun i c s hc hs=>hF i c s (by simp [hc]) hs),hn]
  simp [X4l]
theorem W4i {ρ:Type}{F:Nat→Q3→List X0→Option (Ctl ρ (List X0))}(cs:List Q3)(i:Nat)(s:List X0)(hl:s.length+lenC cs≤40000)
  (hF:∀ (i:Nat) (c:Q3) (s:List X0),c∈cs→s.length+lenS (Q7 10 c.pat)≤40000→F i c s=some (.go (s++Q72 i (s.length+lenS (Q7 10 c.pat)) s.length (Q7 10 c.pat)))):forL F i cs s=some (.brk (s++X4l s.length i cs)):=by
 have:=X0o (h:=fun c=>c) (F:=F) cs i s hl hF
 rwa [List.map_id'] at this
theorem X6i {f:Q0→List Int→List Q2}{d:Nat}(h:∀ x p,∀ b∈f x p,b.path.length≤p.length+d)(path:List Int):∀ (ks:List Q0) (i:Nat),∀ b∈Q68 f path i ks,b.path.length≤path.length+d+1
 | [],_,b,hb=>by cases hb
 | x::ks,i,b,hb=>by
  rcases List.mem_append.1 hb with hb | hb
  ·have:=h x _ b hb
   simp only [U5,U3,U4] at this
   omega
  ·exact X6i h path ks (i+1) b hb
theorem Z6o:∀ (d:Nat) (q:Q0) (path:List Int),∀ b∈Q3x d q path,b.path.length≤path.length+d
 | 0,_,_,b,hb=>by cases hb
 | d+1,q,path,b,hb=>by
  rw [Q3x] at hb
  split at hb
  ·simp only [List.mem_singleton] at hb;rw [hb];simp only;omega
  ·split at hb
   ·exact X6i (Z6o d) path q.kids 0 b hb
   ·split at hb
    ·rcases U8.1 hb with hb | hb
     ·rw [hb];simp only;omega
     ·split at hb
      ·have:=Z6o d _ path b hb;omega
      ·cases hb
    ·cases hb
structure QOk (w:List Q4) (t:Q6) (q:Q0):Prop where
 g:Q09 w 12 t q=true
 f:Q7n 12 q
 c:cntP q≤60
 nd:((Q3x 12 q []).map (·.var)).Nodup
 rg:∀ x∈Q3x 12 q [],0≤x.var∧x.var≤5
theorem qOk {w:List Q4}{t:Q6}{p q:Q0}(h:Q2i w t p=true)(hq:q∈Q7 10 p):QOk w t q:=by
 obtain ⟨g1,g2,g3⟩:=Q5b h
 have q10:=Q3f 10 t p q g1 hq
 have f12:Q7n 12 q:=Q3w 11 q (Q3w 10 q (Q8y 10 p q hq))
 have hvs:(Q4s q).Perm ((Q2u w 10 t p).map (·.var)):=Z5y 10 t p q g1 g3 hq
 have hds:=Q5x 10 t p g1 g3
 simp only [Q24,decide_eq_true_eq] at hds
 have hsub:=X0w 12 q [] f12
 refine ⟨Q0u 11 t q (Q0u 10 t q q10),f12,by have:=Z8o 10 p q hq;omega,hsub.nodup (hvs.nodup_iff.2 hds),fun x hx=>?_⟩
 obtain ⟨y,hy,e⟩:=U10.1 (hvs.mem_iff.1 (hsub.subset (List.mem_map_of_mem hx)))
 rw [←e]
 exact Z2s 10 t p g1 y hy
theorem QOk.len {w:List Q4}{t:Q6}{q:Q0}(h:QOk w t q):(X7 12 q []).length≤60∧(Q3x 12 q []).length≤6:=by
 refine ⟨by have:=Z0a 12 q [];have:=h.c;omega,?_⟩
 have:=Z3z 6 _ h.nd (fun x hx=>by
  obtain ⟨y,hy,rfl⟩:=U10.1 hx
  have:=h.rg y hy
  omega)
 simpa using this
theorem W70 {w:List Q4}{t:Q6} : ∀ {qs:List Q0},(∀ q∈qs,QOk w t q)→lenS qs≤61 * qs.length
 | [],_=>by simp [lenS]
 | q::qs,h=>by
  have h1:=(h q (by simp)).len.1
  have h2:=W70 (qs:=qs) fun x hx=>h x (by simp [hx])
  simp only [lenS,U3]
  omega
theorem X3j {w:List Q4}{t:Q6} : ∀ {cs:List Q3},(∀ c∈cs,Q2i w t c.pat=true∧(Q7 10 c.pat).length≤40)→lenC cs≤2440 * cs.length
 | [],_=>by simp [lenC]
 | c::cs,h=>by
  obtain ⟨h1,h3⟩:=h c (by simp)
  have h2:=X3j (cs:=cs) fun x hx=>h x (by simp [hx])
  have h4:=W70 (w:=w) (t:=t) (qs:=Q7 10 c.pat) (fun q hq=>qOk h1 hq)
  simp only [lenC,U3]
  omega
def Q6g (w:List Q4)(t:Q6)(cs:List Q3):List X0×Bool:=
 if Q4f w t cs=true∧cs.all (fun c=>decide ((Q7 10 c.pat).length≤40))=true then (Q4b 0 0 cs,true) else ([],false)
theorem X92 {w:List Q4}{t:Q6}{q:Q0}(h:QOk w t q):Y6 NN (Q3x 12 q []) (fun a0 a1=>Q3u a0 a1)=some (Z0v (Q3x 12 q [])):=
 W0p (n:=NN) (by decide) (by have:=h.len.2;omega) h.nd h.rg
theorem Z79 {w:List Q4}(hww:w∈Q0s){t:Q6}(ht:t∈tys w)(cs:List Q3):Q1b NN w t cs=some (Q6g w t cs):=by
 have hw:=ww hww
 unfold Q1b Q6g
 rw [Z3k hw ht]
 simp only [U0]
 by_cases hc:Q4f w t cs=true
 ·obtain ⟨h8,hP⟩:=Z3w hc
  simp only [hc,Bool.not_true,U2,if_false,true_and]
  rw [Z56 hw ht hP h8]
  simp only [U0]
  by_cases ha:cs.all (fun c=>decide ((Q7 10 c.pat).length≤40))=true
  ·simp only [ha,if_true,Bool.not_true,U2,if_false]
   have hv:∀ c∈cs,Q2i w t c.pat=true∧(Q7 10 c.pat).length≤40:=fun c hcm=>⟨(Q7a hc).2 c hcm,by simpa using List.all_eq_true.1 ha c hcm⟩
   have hlc:=X3j hv
   rw [X0o (h:=fun c=>Q7 10 c.pat) cs 0 [] (by simp only [U4];omega) (fun i c s hcm hs=>by
    obtain ⟨v1,v2⟩:=hv c hcm
    have hq:∀ q∈Q7 10 c.pat,QOk w t q:=fun q hq=>qOk v1 hq
    rw [Z63 (i:=i) (g:=fun _=>0) (Q7 10 c.pat) 0 s (by omega) (fun k q s hqm hs=>by
     have hk:=hq q hqm
     have hl:=hk.len
     have hcq:=hk.c
     rw [X3o hw 12 NN t q [] s [] ht hk.g hk.f (by decide) (by simp) (by omega) (by simp only [U4];omega)]
     simp only [U0,List.nil_append]
     rw [X92 hk]
     simp only [U0]
     rw [X0q (by simp [(Q5z hk.rg).length_eq])]
     simp only [U0]
     rw [Z81 s (X7 12 q []) (toJ (s.length+(X7 12 q []).length+1)) (by omega) (fun k x L hx hL hLx=>by
      have hkx:=(List.getElem?_eq_some_iff.1 hx).1
      dsimp only
      rw [if_pos (by rw [X1,Y0,hL];omega),Q16 hLx]
      simp only [U0]
      rw [setK (by omega),Y0,hL,V0 (by omega) (by omega),V0 (by omega) (by omega)]
      rfl) (fun L hL=>by
      dsimp only
      rw [if_neg (by rw [X1,Y0,hL];omega)])]
     simp only [U0]
     rw [X4 (by simp only [U5,U7,U3,U4,Q5];omega)]
     simp [X6c])]
    simp only [U0]
    have hpl:=Z65 i (fun _=>0) (Q7 10 c.pat) s.length
    rw [Z81 s (Z3i i (fun _=>0) s.length (Q7 10 c.pat)) (setT ((s.length+lenS (Q7 10 c.pat):Nat):Int)) (by omega) (fun k x L hx hL hLx=>by
     have hkx:=(List.getElem?_eq_some_iff.1 hx).1
     dsimp only
     rw [if_pos (by rw [X1,Y0,hL];omega),Q16 hLx]
     simp only [U0]
     rw [V0 (by omega) (by omega)]
     by_cases h2:x.op=2
     ·rw [if_pos (by rw [Z8];exact h2),setK (by omega),Y0,hL,hpl]
      simp [setT,h2]
     ·rw [if_neg (by rw [Z8];exact h2)]
      simp only [U0,setT,if_neg h2]
      have hset:L.set (s.length+k) x=L:=by
       obtain ⟨hh,he⟩:=List.getElem?_eq_some_iff.1 hLx
       rw [←he,List.set_getElem_self]
      rw [hset]
      simp) (fun L hL=>by
     dsimp only
     rw [if_neg (by rw [X1,Y0,hL];omega)])]
    simp only [U0]
    rw [Z64])]
   simp only [U0,List.nil_append,U4]
   rw [X4 (by simp only [Z5j,U3,U4,Q5];omega)]
   simp [Z88]
  ·simp [ha]
 ·simp [hc]
theorem Z6x {w:List Q4}(hww:w∈Q0s){t:Q6}(ht:t∈tys w)(cs:List Q3):Q1w NN w t cs=some (Q6g w t cs):=by
 have hw:=ww hww
 unfold Q1w Q6g
 rw [Z3d hw ht]
 simp only [U0]
 by_cases hc:Q4f w t cs=true
 ·obtain ⟨h8,hP⟩:=Z3w hc
  simp only [hc,Bool.not_true,U2,if_false,true_and]
  have hsp:∀ c∈cs,Y5 NN c.pat=some ((Q7 10 c.pat).take 401):=fun c hcm=>by
   have hg:=(Q5b ((Q7a hc).2 c hcm)).1
   exact Z6y 10 NN c.pat (Z9s hw 10 t c.pat ht hg) (by decide)
  have hloop:forL (fun k73 x74 (s67:Unit)=>((Y5 NN x74.pat).bind fun r81=>(if (ilt 40 (lenZ r81.length))=true then some (Ctl.ret ((([]:List X0),false))) else some (Ctl.go ())))) 0 cs ()=some (if cs.all (fun c=>decide ((Q7 10 c.pat).length≤40))=true then .brk () else .ret ([],false)):=by
   have:∀ (l:List Q3) (k:Nat),(∀ c∈l,c∈cs)→forL (fun k73 x74 (s67:Unit)=>((Y5 NN x74.pat).bind fun r81=>(if (ilt 40 (lenZ r81.length))=true then some (Ctl.ret ((([]:List X0),false))) else some (Ctl.go ())))) k l ()=some (if l.all (fun c=>decide ((Q7 10 c.pat).length≤40))=true then .brk () else .ret ([],false)):=by
    intro l
    induction l with
    | nil=>intro k _;simp [forL]
    | cons c l ih=>
     intro k hl
     unfold forL
     rw [hsp c (hl c (by simp))]
     simp only [U0]
     by_cases h4:(Q7 10 c.pat).length≤40
     ·rw [if_neg (by rw [X1,Y0,U6];omega)]
      simp only [List.all_cons,h4,decide_true,Bool.true_and]
      exact ih (k+1) fun x hx=>hl x (by simp [hx])
     ·rw [if_pos (by rw [X1,Y0,U6];omega)]
      simp [h4]
   exact this cs 0 fun c hc=>hc
  rw [hloop]
  by_cases ha:cs.all (fun c=>decide ((Q7 10 c.pat).length≤40))=true
  ·simp only [ha,if_true,U0]
   have hv:∀ c∈cs,Q2i w t c.pat=true∧(Q7 10 c.pat).length≤40:=fun c hcm=>⟨(Q7a hc).2 c hcm,by simpa using List.all_eq_true.1 ha c hcm⟩
   have hlc:=X3j hv
   unfold Q6p
   rw [W4i cs 0 [] (by simp only [U4];omega) (fun i c s hcm hs=>by
    obtain ⟨v1,v2⟩:=hv c hcm
    have hq:∀ q∈Q7 10 c.pat,QOk w t q:=fun q hq=>qOk v1 hq
    rw [hsp c hcm,List.take_of_length_le (by omega)]
    simp only [U0]
    rw [Z63 (i:=i) (g:=fun J=>(J:Int)) (Q7 10 c.pat) 0 s (by omega) (fun k q s hqm hs=>by
     have hk:=hq q hqm
     have hl:=hk.len
     have hcq:=hk.c
     rw [X33 hw 12 NN t q [] s ht hk.g hk.f (by decide) (by simp) (by omega),X37 hw 12 NN t q [] [] ht hk.g hk.f (by decide) (by simp) (by simp only [U4];omega)]
     simp only [U0,List.nil_append]
     rw [Z70 (n:=NN) (by decide) (by omega) (fun b hb=>by have:=Z6o 12 q [] b hb;simp only [U4] at this;omega)]
     simp only [U0]
     rw [X4 (by simp only [U5,U3,U4,Q5];omega)]
     simp only [U0]
     rw [List.append_assoc]
     rw [Z81 s (X7 12 q []++[X0.mk 2 [] 0 0 0 (i:Int) (Z0v (Q3x 12 q [])) 0]) (toJ (s.length+(X7 12 q []).length+1)) (by simp only [U5,U3,U4];omega) (fun k x L hx hL hLx=>by
      have hkx:=(List.getElem?_eq_some_iff.1 hx).1
      simp only [U5,U3,U4] at hL hkx
      dsimp only
      rw [if_pos (by rw [X1,Y0,hL];omega),Q16 hLx]
      simp only [U0]
      rw [setK (by omega),V0 (by omega) (by omega),Y0,hL]
      rfl) (fun L hL=>by
      dsimp only
      rw [if_neg (by rw [X1,Y0,hL];omega)])]
     simp [X6c,toJ])]
    simp only [U0]
    have hpl:=Z65 i (fun J=>(J:Int)) (Q7 10 c.pat) s.length
    rw [Z81 s (Z3i i (fun J=>(J:Int)) s.length (Q7 10 c.pat)) (setT ((s.length+lenS (Q7 10 c.pat):Nat):Int)) (by omega) (fun k x L hx hL hLx=>by
     have hkx:=(List.getElem?_eq_some_iff.1 hx).1
     dsimp only
     rw [if_pos (by rw [X1,Y0,hL];omega),Q16 hLx]
     simp only [U0]
     rw [V0 (by omega) (by omega)]
     by_cases h2:x.op=2
     ·rw [if_pos (by rw [Z8];exact h2),setK (by omega),Y0,hL,hpl]
      simp [setT,h2]
     ·rw [if_neg (by rw [Z8];exact h2)]
      simp only [U0,setT,if_neg h2]
      have hset:L.set (s.length+k) x=L:=by
       obtain ⟨hh,he⟩:=List.getElem?_eq_some_iff.1 hLx
       rw [←he,List.set_getElem_self]
      rw [hset]
      simp) (fun L hL=>by
     dsimp only
     rw [if_neg (by rw [X1,Y0,hL];omega)])]
    simp only [U0]
    rw [Z64])]
   simp only [U0,List.nil_append,U4]
   rw [X4 (by simp only [Z5j,U3,U4,Q5];omega)]
   simp [Z88]
  ·simp [ha]
 ·simp [hc]
theorem Z7i:∀ (d n:Nat) (v:Q1),Z1t d v→d≤n→Q3q n v=some v:=by
 intro d
 induction d with
 | zero=>intro n v h;exact h.elim
 | succ d ih=>
  intro n v h hn
  obtain ⟨n,rfl⟩:∃ k,n=k+1:=⟨n-1,by omega⟩
  obtain ⟨h1,h2⟩:=h
  have hr:Ret (Q3q (n+1) v) (fun r=>r=v):=by
   unfold Q3q
   refine Ret.ctl (Z4 v.kids (fun k s=>s=v.kids.take k) (fun _=>False) (fun s=>s=v.kids) (by simp) (fun k q s hq hI=>?_) (fun s hI=>?_)) (fun r hr=>hr.elim) (fun s hs=>.some (Q1.ext' rfl rfl hs))
   ·rw [ih n q (h2 q (U1 hq)) (by omega)]
    simp only [U0]
    rw [X4 (by simp only [Q5,U3,U4];rw [hI,U6];omega)]
    exact .some (by rw [hI,List.take_add_one,hq];rfl)
   ·rw [hI,List.take_length]
  obtain ⟨r,e,rfl⟩:=hr
  exact e
theorem Z20 (g:Q37)(l:List W9):Q1v g l=some (Q08 g l):=by
 suffices hs:Ret (Q1v g l) (fun r=>r=Q08 g l) by
  obtain ⟨a,e,rfl⟩:=hs
  exact e
 unfold Q1v
 refine Ret.ite (fun h0=>.some ?_) (fun h0=>?_)
 ·rw [Z8] at h0
  simp [Q08,h0]
 rw [W2] at h0
 have hG:Q08 g l=match l.find? fun b=>decide (b.var=g.var) with
   | none=>false
   | some b=>ieq b.value.ctor (-1)&&((ieq g.op 1&&ilt b.value.n g.n)||(ieq g.op 2&&ieq b.value.n g.n)):=by
  unfold Q08
  rw [decide_eq_false h0,Bool.false_or]
  rfl
 refine Ret.ctl (Z4 l (fun k _=>l.find? (fun b=>decide (b.var=g.var))=(l.drop k).find? (fun b=>decide (b.var=g.var))) (fun r=>r=Q08 g l) (fun _=>Q08 g l=false) rfl (fun k x s hx hI=>?_) (fun s hI=>?_)) (fun r hr=>.some hr) (fun s hs=>.some hs.symm)
 ·rw [Z2l hx,List.find?_cons] at hI
  by_cases hv:x.var=g.var
  ·have e:(!ieq x.var g.var)=false:=by simp [ieq,hv]
   simp only [e,U2,if_false]
   rw [decide_eq_true hv] at hI
   simp only at hI
   rw [hI] at hG
   simp only at hG
   rw [hG]
   generalize ieq x.value.ctor (-1)=b1
   generalize ieq g.op 1=b2
   generalize ilt x.value.n g.n=b3
   generalize ieq g.op 2=b4
   generalize ieq x.value.n g.n=b5
   cases b1<;>cases b2<;>cases b3<;>cases b4<;>cases b5<;>exact .some rfl
  ·have e:(!ieq x.var g.var)=true:=by simp [ieq,hv]
   simp only [e,if_true,U0]
   rw [decide_eq_false hv] at hI
   exact .some hI
 ·rw [List.drop_length] at hI
  rw [hG,hI]
  rfl
theorem Q9e {v u:Q1}{path:List Int}(h:Q4h v path=some u):Q55 v path=some u:=by
 suffices hs:Ret (Q55 v path) (fun r=>r=u) by
  obtain ⟨a,e,rfl⟩:=hs
  exact e
 unfold Q55
 refine Ret.ctl (Z4 path (fun k s=>Q4h s (path.drop k)=some u) (fun _=>False) (fun s=>s=u) (by simpa using h) (fun k x s hx hI=>?_) (fun s hI=>by rw [List.drop_length,Q4h] at hI;exact Option.some.inj hI)) (fun r hr=>hr.elim) (fun s hs=>.some hs)
 rw [Z2l hx,Q4h] at hI
 cases hi:idx s.kids x with
 | none=>rw [hi] at hI;cases hI
 | some y=>
  rw [hi] at hI
  exact .some hI
theorem Z0t {v u:Q1}{path:List Int}(h:Q4h v path=some u):Q5q v path=some u:=by
 suffices hs:Ret (Q5q v path) (fun r=>r=u) by
  obtain ⟨a,e,rfl⟩:=hs
  exact e
 unfold Q5q
 refine Ret.ctl (Z4 path (fun k s=>Q4h s (path.drop k)=some u) (fun _=>False) (fun s=>s=u) (by simpa using h) (fun k x s hx hI=>?_) (fun s hI=>by rw [List.drop_length,Q4h] at hI;exact Option.some.inj hI)) (fun r hr=>hr.elim) (fun s hs=>.some hs)
 rw [Z2l hx,Q4h] at hI
 cases hi:idx s.kids x with
 | none=>rw [hi] at hI;cases hI
 | some y=>
  rw [hi] at hI
  exact .some hI
theorem V5n {α:Type}{xs:List α}{i:Int}{x:α}(h:idx xs i=some x):x∈xs:=by
 unfold idx at h
 split at h
 ·exact U1 h
 ·cases h
theorem Z94:∀ {path:List Int} {v u:Q1} {d:Nat},Z1t d v→d≤10→Q4h v path=some u→Z1t 10 u
 | [],v,u,d,hv,hd,h=>by
  rw [Q4h,Option.some.injEq] at h
  subst h
  exact V2s _ _ _ hd hv
 | i::path,v,u,d,hv,hd,h=>by
  rw [Q4h,U12] at h
  obtain ⟨x,hx,h⟩:=h
  cases d with
  | zero=>exact hv.elim
  | succ d=>exact Z94 (hv.2 x (V5n hx)) (by omega) h
theorem Q9x {v:Q1}(hv:Z1t 10 v){l:List Q2}{r:List W9}(hl:l.length≤1000)(h:Q10 l v=some r):Q4w NN l v=some r:=by
 suffices hs:Ret (Q4w NN l v) (fun a=>a=r) by
  obtain ⟨a,e,rfl⟩:=hs
  exact e
 unfold Q4w
 refine Ret.ctl (Z4 l (fun k s=>s.length=k∧∃ s',Q10 (l.drop k) v=some s'∧s++s'=r) (fun _=>False) (fun s=>s=r) ⟨rfl,r,by simpa using h,rfl⟩ (fun k x s hx hI=>?_) (fun s hI=>?_)) (fun r hr=>hr.elim) (fun s hs=>.some hs)
 ·obtain ⟨i1,s',i2,i3⟩:=hI
  have hk:=(List.getElem?_eq_some_iff.1 hx).1
  rw [Z2l hx,Q10,U12] at i2
  obtain ⟨u,hu,i2⟩:=i2
  rw [U11] at i2
  obtain ⟨m,hm,rfl⟩:=i2
  rw [Q9e hu]
  simp only [U0]
  rw [Z95 10 NN u (Z94 hv (Nat.le_refl _) hu) (by decide)]
  simp only [U0]
  rw [X4 (by simp only [U3,U4,Q5];omega)]
  exact .some ⟨by simp [i1],m,hm,by rw [←i3];simp⟩
 ·obtain ⟨_,s',i2,i3⟩:=hI
  rw [List.drop_length,Q10,Option.some.injEq] at i2
  rw [←i3,←i2]
  simp
theorem Z21 {v:Q1}(hv:Z1t 10 v){l:List Q2}{r:List W9}(hl:l.length≤1000)(h:Q10 l v=some r):Q32 NN l v=some r:=by
 suffices hs:Ret (Q32 NN l v) (fun a=>a=r) by
  obtain ⟨a,e,rfl⟩:=hs
  exact e
 unfold Q32
 refine Ret.ctl (Z4 l (fun k s=>s.length=k∧∃ s',Q10 (l.drop k) v=some s'∧s++s'=r) (fun _=>False) (fun s=>s=r) ⟨rfl,r,by simpa using h,rfl⟩ (fun k x s hx hI=>?_) (fun s hI=>?_)) (fun r hr=>hr.elim) (fun s hs=>.some hs)
 ·obtain ⟨i1,s',i2,i3⟩:=hI
  have hk:=(List.getElem?_eq_some_iff.1 hx).1
  rw [Z2l hx,Q10,U12] at i2
  obtain ⟨u,hu,i2⟩:=i2
  rw [U11] at i2
  obtain ⟨m,hm,rfl⟩:=i2
  rw [Z0t hu]
  simp only [U0]
  rw [Z7i 10 NN u (Z94 hv (Nat.le_refl _) hu) (by decide)]
  simp only [U0]
  rw [X4 (by simp only [U3,U4,Q5];omega)]
  exact .some ⟨by simp [i1],m,hm,by rw [←i3];simp⟩
 ·obtain ⟨_,s',i2,i3⟩:=hI
  rw [List.drop_length,Q10,Option.some.injEq] at i2
  rw [←i3,←i2]
  simp
theorem X07 {α:Type}{l:List α}{k:Nat}{x:α}{p:α→Bool}(h:l[k]?=some x):(l.drop k).find? p=if p x=true then some x else (l.drop (k+1)).find? p:=by
 rw [Z2l h,List.find?_cons]
 cases p x<;>rfl
theorem Z57 (g:Q37)(l:List W9):Q0a g l=some (Q08 g l):=by
 suffices hs:Ret (Q0a g l) (fun r=>r=Q08 g l) by
  obtain ⟨a,e,rfl⟩:=hs
  exact e
 unfold Q0a
 by_cases h0:g.op=0
 ·rw [if_pos (by rw [Z8];exact h0)]
  exact .some (by simp [Q08,h0])
 rw [if_neg (by rw [Z8];exact h0)]
 have hfind:Ret (Q1j l (fun a0=>Q1x a0 g)) (fun k=>match l.find? (fun b=>decide (b.var=g.var)) with
   | none=>k = -1
   | some b=>∃ i:Nat,k=(i:Int)∧l[i]?=some b):=by
  unfold Q1j
  refine Ret.ctl (Z4 l (fun k _=>l.find? (fun b=>decide (b.var=g.var))=(l.drop k).find? (fun b=>decide (b.var=g.var))) (fun r=>∃ (i:Nat) (b:W9),r=(i:Int)∧l[i]?=some b∧l.find? (fun b=>decide (b.var=g.var))=some b) (fun _=>l.find? (fun b=>decide (b.var=g.var))=none) (by simp) (fun k x s hx hI=>?_) (fun s hI=>by rw [hI,List.drop_length];rfl)) (fun r hr=>.some ?_) (fun s hs=>.some (by rw [hs]))
  ·have e1:Q1x x g=some (ieq x.var g.var):=rfl
   simp only []
   rw [e1]
   simp only [U0]
   rw [X07 hx] at hI
   refine Ret.ite (fun hc=>.some ?_) (fun hc=>.some ?_)
   ·rw [Z8] at hc
    rw [if_pos (by simpa using hc)] at hI
    exact ⟨k,x,rfl,hx,hI⟩
   ·rw [W2] at hc
    rw [if_neg (by simpa using hc)] at hI
    exact hI
  ·obtain ⟨i,b,rfl,h1,h2⟩:=hr
   rw [h2]
   exact ⟨i,rfl,h1⟩
 refine Ret.bind hfind (fun k hk=>?_)
 unfold Q08
 cases hf:l.find? (fun b=>decide (b.var=g.var)) with
 | none=>
  rw [hf] at hk
  simp only at hk
  subst hk
  exact .some (by simp [h0])
 | some b=>
  rw [hf] at hk
  obtain ⟨i,rfl,hi⟩:=hk
  rw [if_neg (by rw [X1];omega),Q16 hi]
  simp only [U0,h0,decide_false,Bool.false_or]
  by_cases c1:b.value.ctor = -1
  ·have e1:ieq b.value.ctor (-1)=true:=by rw [Z8];exact c1
   simp only [e1,Bool.not_true,U2,if_false]
   by_cases c2:g.op=1
   ·have e2:ieq g.op 1=true:=by rw [Z8];exact c2
    have e3:ieq g.op 2=false:=by rw [W2];omega
    simp only [e2,e3,if_true,U2,if_false]
    by_cases c3:b.value.n<g.n
    ·have e4:ilt b.value.n g.n=true:=by rw [X1];exact c3
     simp only [e4,if_true]
     exact .some (by simp [c1,c2,c3])
    ·have e4:ilt b.value.n g.n=false:=by rw [V2];omega
     simp only [e4,U2,if_false]
     exact .some (by simp [c1,c2,c3])
   ·have e2:ieq g.op 1=false:=by rw [W2];exact c2
    simp only [e2,U2,if_false]
    by_cases c3:g.op=2
    ·have e3:ieq g.op 2=true:=by rw [Z8];exact c3
     simp only [e3,if_true]
     exact .some (by simp [c1,c3,ieq])
    ·have e3:ieq g.op 2=false:=by rw [W2];exact c3
     simp only [e3,U2,if_false]
     exact .some (by simp [c1,c2,c3])
  ·have e1:ieq b.value.ctor (-1)=false:=by rw [W2];exact c1
   simp only [e1,Bool.not_false,if_true]
   exact .some (by simp [c1])
theorem X1c (b:Z3)(u:Q1):Q3i b u=some (V9 b u):=by
 unfold Q3i Q2t
 by_cases h1:b.ctor=u.ctor
 ·rw [if_pos (by rw [Z8];exact h1)]
  by_cases h2:b.ctor = -1
  ·rw [if_neg (by rw [Bool.not_eq_true,Bool.not_eq_false',Z8];exact h2),Q86]
   simp [V9,←h1,h2]
  ·rw [if_pos (by rw [Bool.not_eq_true',W2];exact h2)]
   simp [V9,h1,h1▸h2]
 ·rw [if_neg (by rw [Z8];exact h1)]
  simp [V9,h1]
theorem X3s (bs:List Z3)(u:Q1):Ret (Q13 bs (fun a0=>Q3i a0 u)) (fun k=>match bs.find? (fun b=>V9 b u) with
  | none=>k = -1
  | some b=>∃ i:Nat,k=(i:Int)∧bs[i]?=some b):=by
 unfold Q13
 refine Ret.ctl (Z4 bs (fun k _=>bs.find? (fun b=>V9 b u)=(bs.drop k).find? (fun b=>V9 b u)) (fun r=>∃ (i:Nat) (b:Z3),r=(i:Int)∧bs[i]?=some b∧bs.find? (fun b=>V9 b u)=some b) (fun _=>bs.find? (fun b=>V9 b u)=none) (by simp) (fun k x s hx hI=>?_) (fun s hI=>by rw [hI,List.drop_length];rfl)) (fun r hr=>.some ?_) (fun s hs=>.some (by rw [hs]))
 ·simp only []
  rw [X1c]
  simp only [U0]
  rw [X07 hx] at hI
  refine Ret.ite (fun hc=>.some ?_) (fun hc=>.some ?_)
  ·rw [if_pos hc] at hI
   exact ⟨k,x,rfl,hx,hI⟩
  ·rw [if_neg (by simp [hc])] at hI
   exact hI
 ·obtain ⟨i,b,rfl,h1,h2⟩:=hr
  rw [h2]
  exact ⟨i,rfl,h1⟩
theorem X36 (bs:List Z3)(u:Q1):Ret (Q5p bs u) (fun r=>match bs.find? (fun b=>V9 b u) with
  | none=>r.2=false
  | some b=>r=(b.tree,true)):=by
 unfold Q5p
 refine Ret.ctl (Z4 bs (fun k _=>bs.find? (fun b=>V9 b u)=(bs.drop k).find? (fun b=>V9 b u)) (fun r=>∃ b:Z3,r=(b.tree,true)∧bs.find? (fun b=>V9 b u)=some b) (fun _=>bs.find? (fun b=>V9 b u)=none) (by simp) (fun k x s hx hI=>?_) (fun s hI=>by rw [hI,List.drop_length];rfl)) (fun r hr=>.some ?_) (fun s hs=>.some (by rw [hs]))
 ·rw [X07 hx] at hI
  by_cases h1:x.ctor=u.ctor
  ·rw [if_pos (by rw [Z8];exact h1)]
   by_cases h2:u.ctor = -1
   ·rw [if_neg (by rw [Bool.not_eq_true,Bool.not_eq_false',Z8];exact h2)]
    by_cases h3:x.n≤u.n
    ·rw [if_pos (by rw [Q03];exact h3)]
     by_cases h4:u.n≤x.m
     ·rw [if_pos (by rw [Q03];exact h4)]
      rw [if_pos (by simp [V9,h1,h3,h4])] at hI
      exact .some ⟨x,rfl,hI⟩
     ·rw [if_neg (by rw [Q03];exact h4)]
      rw [if_neg (by simp [V9,h1,h2,h4])] at hI
      exact .some hI
    ·rw [if_neg (by rw [Q03];exact h3)]
     rw [if_neg (by simp [V9,h1,h2,h3])] at hI
     exact .some hI
   ·rw [if_pos (by rw [Bool.not_eq_true',W2];exact h2)]
    rw [if_pos (by simp [V9,h1,h2])] at hI
    exact .some ⟨x,rfl,hI⟩
  ·rw [if_neg (by rw [Z8];exact h1)]
   rw [if_neg (by simp [V9,h1])] at hI
   exact .some hI
 ·obtain ⟨b,rfl,h2⟩:=hr
  rw [h2]
theorem Z4e {σ ρ:Type}{f:σ→Option (Ctl ρ σ)}{s s':σ}{n:Nat}(h:f s=some (.go s')):whileL f (n+1) s=whileL f n s':=by
 rw [whileL,h]
theorem Z07 {σ ρ:Type}{f:σ→Option (Ctl ρ σ)}{s:σ}{r:ρ}{n:Nat}(h:f s=some (.ret r)):whileL f (n+1) s=some (.ret r):=by
 rw [whileL,h]
theorem W2d {σ ρ:Type}{f:σ→Option (Ctl ρ σ)}{s s':σ}{n:Nat}(h:f s=some (.brk s')):whileL f (n+1) s=some (.brk s'):=by
 rw [whileL,h]
theorem V17 {lst:List Q3}{v:Q1}(hv:Z1t 10 v){t:W3}{a:Int}{bs:List W9}{k:Nat}(hd:Z3a 300 t)(h:runT 300 t lst v=some (a,bs,k)):Q49 NN t lst v=some (a,bs,(k:Int)):=by
 unfold Q49
 generalize hf:(fun (s:W3×Int)=>_:W3×Int→Option (Ctl (Int×List W9×Int) (W3×Int)))=f
 have key:∀ (d n:Nat) (t:W3) (c k:Nat),Z3a d t→runT d t lst v=some (a,bs,k)→d≤n→c+d≤300→whileL f n (t,(c:Int))=some (.ret (a,bs,((c+k:Nat):Int))):=by
  intro d
  induction d with
  | zero=>intro n t c k h;exact h.elim
  | succ d ih=>
   intro n t c k hd h hn hc
   obtain ⟨n,rfl⟩:∃ j,n=j+1:=⟨n-1,by omega⟩
   obtain ⟨⟨hd1,hd2,hd3,hd4,hd5⟩,hd6⟩:=hd
   have e1:wadd .i64 (c:Int) 1=((c+1:Nat):Int):=by rw [V0 (by omega) (by omega)];omega
   rw [runT] at h
   split at h
   ·rename_i h2
    rw [U12] at h
    obtain ⟨u,hu,h⟩:=h
    obtain ⟨q,hq,hqq⟩:=X3s t.branches u
    split at h
    ·rename_i hnone
     rw [hnone] at hqq
     simp only [Option.some.injEq,Prod.mk.injEq] at h hqq
     obtain ⟨rfl,rfl,rfl⟩:=h
     subst hqq
     refine Z07 ?_
     subst hf
     simp only
     rw [if_pos (by rw [Z8];exact h2),Q9e hu]
     simp only [U0]
     rw [hq]
     simp only [U0]
     rw [if_pos (by rw [X1];omega),e1]
    ·rename_i b hsome
     rw [hsome] at hqq
     obtain ⟨i,rfl,hi⟩:=hqq
     rw [U11] at h
     obtain ⟨r,hr,h⟩:=h
     simp only [Prod.mk.injEq] at h
     obtain ⟨rfl,rfl,rfl⟩:=h
     have hgo:f (t,(c:Int))=some (.go (b.tree,((c+1:Nat):Int))):=by
      subst hf
      simp only
      rw [if_pos (by rw [Z8];exact h2),Q9e hu]
      simp only [U0]
      rw [hq]
      simp only [U0]
      rw [if_neg (by rw [X1];omega),Q16 hi,e1]
      rfl
     rw [Z4e hgo,ih n b.tree (c+1) r.2.2 (hd6 _ (List.mem_append_left _ (List.mem_map_of_mem (U1 hi)))) hr (by omega) (by omega)]
     congr 4
     omega
   ·rename_i h2
    split at h
    ·rename_i h1
     rw [U12] at h
     obtain ⟨cl,hcl,h⟩:=h
     rw [U12] at h
     obtain ⟨l,hl,h⟩:=h
     split at h
     ·rename_i hg
      simp only [Option.some.injEq,Prod.mk.injEq] at h
      obtain ⟨rfl,rfl,rfl⟩:=h
      refine Z07 ?_
      subst hf
      simp only
      rw [if_neg (by rw [Z8];exact h2),if_pos (by rw [Z8];exact h1),Q9x hv hd1 hl]
      simp only [U0]
      rw [hcl]
      simp only [U0]
      rw [Z57]
      simp only [U0]
      rw [if_pos hg]
      rfl
     ·rename_i hg
      split at h
      ·rename_i el rest hel
       have hgo:f (t,(c:Int))=some (.go (el,(c:Int))):=by
        subst hf
        simp only
        rw [if_neg (by rw [Z8];exact h2),if_pos (by rw [Z8];exact h1),Q9x hv hd1 hl]
        simp only [U0]
        rw [hcl]
        simp only [U0]
        rw [Z57]
        simp only [U0]
        rw [if_neg hg,hel]
        rfl
       rw [Z4e hgo]
       exact ih n el c k (hd6 _ (List.mem_append_right _ (by rw [hel];simp))) h (by omega) (by omega)
      ·cases h
    ·rename_i h1
     simp only [Option.some.injEq,Prod.mk.injEq] at h
     obtain ⟨rfl,rfl,rfl⟩:=h
     refine Z07 ?_
     subst hf
     simp only
     rw [if_neg (by rw [Z8];exact h2),if_neg (by rw [Z8];exact h1)]
     rfl
 rw [show (0:Int)=((0:Nat):Int) from rfl,key 300 NN t 0 k hd h (by decide) (by omega)]
 simp
def opT:Nat→W3→Prop
 | 0,_=>False
 | d+1,t=>(t.op=0∨t.op=1∨t.op=2)∧∀ x∈Z0s t,opT d x
theorem W24 {P:Z3→W3→Prop} : ∀ {bs xs:List Z3},brsR P bs xs→∀ x∈xs,∃ b∈bs,P b x.tree
 | [],[],_,x,hx=>by cases hx
 | [],_::_,e,_,_=>e.elim
 | _::_,[],e,_,_=>e.elim
 | b::bs,y::ys,⟨⟨_,_,_,e4⟩,e5⟩,x,hx=>by
  rcases U8.1 hx with rfl | hx
  ·exact ⟨b,by simp,e4⟩
  ·obtain ⟨b',h1,h2⟩:=W24 e5 x hx
   exact ⟨b',by simp [h1],h2⟩
theorem V09 {w:List Q4}{lst:List Q3}{pick:Int} : ∀ (d:Nat) (t:W3) (rows:List Grow) (cols:List Z5),Q9o w lst pick d t rows cols→opT d t:=by
 intro d
 induction d with
 | zero=>intro t rows cols h;exact h.elim
 | succ d ih=>
  intro t rows cols h
  cases rows with
  | nil=>
   simp only [Q9o] at h
   subst h
   exact ⟨.inl rfl,fun x hx=>by simp [Z0s,zT] at hx⟩
  | cons r0 rest=>
   simp only [Q9o] at h
   cases hp:Z11 w (r0::rest) cols pick with
   | none=>
    rw [hp] at h
    simp only at h
    obtain ⟨h1,h2,h3,h4,h5,cl,h6,h7⟩:=h
    refine ⟨.inr (.inl h1),fun x hx=>?_⟩
    unfold Z0s at hx
    rw [h5] at hx
    rcases h7 with ⟨_,h7⟩ | ⟨_,el,h8,h9⟩
    ·simp [h7] at hx
    ·simp only [h8,List.map_nil,List.nil_append,List.mem_singleton] at hx
     subst hx
     exact ih _ _ _ h9
   | some k=>
    rw [hp] at h
    simp only at h
    obtain ⟨col,h1,h2,h3,h4,h5,h6,h7⟩:=h
    refine ⟨.inr (.inr h2),fun x hx=>?_⟩
    unfold Z0s at hx
    rw [h6,List.append_nil,U10] at hx
    obtain ⟨b,hb,rfl⟩:=hx
    obtain ⟨b',_,hb'⟩:=W24 h7 b hb
    exact ih _ _ _ hb'
def Par {α:Type}(x:Option α)(Q:α→Prop):Prop:=∀ a,x=some a→Q a
theorem Par.some {α:Type}{a:α}{Q:α→Prop}(h:Q a):Par (some a) Q:=fun b e=>by cases e;exact h
theorem Par.none {α:Type}{Q:α→Prop} : Par (none:Option α) Q:=fun b e=>by cases e
theorem Par.bind {α β:Type}{x:Option α}{f:α→Option β}{P:α→Prop}{Q:β→Prop}(hx:Par x P)(hf:∀ a,P a→Par (f a) Q):Par (x.bind f) Q:=fun b e=>by
 cases hx':x with
 | none=>rw [hx'] at e;cases e
 | some a=>rw [hx'] at e;exact hf a (hx a hx') b e
theorem Par.any {α β:Type}{x:Option α}{f:α→Option β}{Q:β→Prop}(hf:∀ a,Par (f a) Q):Par (x.bind f) Q:=Par.bind (P:=fun _=>True) (fun _ _=>trivial) fun a _=>hf a
theorem Par.ite {α:Type}{b:Bool}{x y:Option α}{Q:α→Prop}(h1:b=true→Par x Q)(h2:b=false→Par y Q):Par (if b=true then x else y) Q:=by
 cases b with
 | true=>exact h1 rfl
 | false=>exact h2 rfl
theorem Par.mono {α:Type}{x:Option α}{P Q:α→Prop}(h:∀ a,P a→Q a)(hx:Par x P):Par x Q:=fun a e=>h a (hx a e)
theorem Par.ctl {ρ σ τ:Type}{x:Option (Ctl ρ σ)}{g:Ctl ρ σ→Option τ}{R:ρ→Prop}{B:σ→Prop}{Q:τ→Prop}(h:Par x (CtlQ R B))(hr:∀ r,R r→Par (g (.ret r)) Q)(hb:∀ s,B s→Par (g (.brk s)) Q):Par (x.bind g) Q:=
 Par.bind h fun a ha=>by
  cases a with
  | ret r=>exact hr r ha
  | brk s=>exact hb s ha
  | go s=>exact ha.elim
theorem W11 {w:List Q4}(hw:WW w){r:Z9}{t:Q6}(ht:t∈tys w)(h:ROk r 2600):Ret (Q7f NN r w t) (fun a=>(∀ c∈a.1,Q2i w t c.pat=true)∧a.1.length≤5∧Nx r a.2 2600):=by
 unfold Q7f
 refine Ret.bind (Q8n (h.le (by omega)) [3,2,4,5,1,0] (by simp) (by simp)) (fun a ha=>?_)
 have hr1:ROk a.2 2599:=ROk.nx (c:=1) h ha.2
 have hd:0≤a.1∧a.1≤5:=by
  have:=ha.1
  simp at this
  omega
 refine Ret.ctl (Q1r (fun s=>0≤s.2.2∧s.2.2≤5∧(s.2.1.length:Int)+s.2.2=a.1∧(∀ c∈s.2.1,Q2i w t c.pat=true)∧Nx a.2 s.1 (s.2.1.length * 500)) (fun s=>s.2.2.toNat) (fun _=>False) (fun s=>s.2.1.length≤5∧(∀ c∈s.2.1,Q2i w t c.pat=true)∧Nx a.2 s.1 2500)
  ⟨hd.1,hd.2,by simp,by simp,by simpa using Nx.refl a.2⟩ (fun s hI=>?_) NN (by have:=hd;show (a.1).toNat<30000000;omega)) (fun r hr=>hr.elim) (fun s hs=>.some ⟨hs.2.1,hs.1,(ha.2.trans hs.2.2).le' (by omega)⟩)
 obtain ⟨i1,i2,i3,i4,i5⟩:=hI
 refine Ret.ite (fun h=>?_) (fun h=>?_)
 ·rw [X1] at h
  have hr2:ROk s.1 500:=ROk.nx (c:=s.2.1.length * 500) (hr1.le (by omega)) i5
  refine Ret.bind (W4j hw ht hr2) (fun b hb=>?_)
  rw [X4 (by simp only [Q5,U3,U4];omega)]
  have hws:wsub .i64 s.2.2 1=s.2.2-1:=Q2k (by omega) (by omega)
  simp only [U0]
  rw [hws]
  refine .some ⟨⟨by simp only;omega,by simp only;omega,by simp;omega,fun c hc=>?_,?_⟩,by simp only;omega⟩
  ·rcases List.mem_append.1 hc with hc | hc
   ·exact i4 c hc
   ·simp at hc;subst hc;exact hb.1
  ·have:=i5.trans hb.2
   simp only [U5,U3,U4]
   exact this.le' (by omega)
 ·exact .some ⟨by simp only;omega,i4,i5.le' (by omega)⟩
theorem Z0r {σ ρ:Type}{f:σ→Option (Ctl ρ σ)}(I:Nat→σ→Prop)(R:ρ→Prop)(B:σ→Prop)(h0:∀ s,¬I 0 s)(step:∀ k s,I (k+1) s→Ret (f s) (RndQ R B (I k))):∀ (k n:Nat) (s:σ),I k s→k≤n→Ret (whileL f n s) (CtlQ R B)
 | 0,_,s,h,_=>absurd h (h0 s)
 | k+1,n,s,h,hn=>by
  obtain ⟨n,rfl⟩:∃ m,n=m+1:=⟨n-1,by omega⟩
  obtain ⟨o,ho,hq⟩:=step k s h
  unfold whileL
  rw [ho]
  cases o with
  | ret r=>exact .some hq
  | brk s'=>exact .some hq
  | go s'=>exact Z0r I R B h0 step k n s' hq (by omega)
theorem Z0x {code:List X0}{lst:List Q3}{v:Q1} : ∀ {k a:Nat} {r:Int×List W9×List (List Int)},runK code lst v k a=some r→r.2.2.length≤k
 | 0,_,_,h=>by cases h
 | k+1,a,r,h=>by
  rw [runK,U12] at h
  obtain ⟨s,_,h⟩:=h
  split at h
  ·cases h;simp
  ·split at h
   ·obtain ⟨u,_,h⟩:=U12.1 h
    obtain ⟨r',h1,rfl⟩:=U11.1 h
    have:=Z0x h1
    simp only [U3]
    omega
   ·obtain ⟨l,_,h⟩:=U12.1 h
    obtain ⟨c,_,h⟩:=U12.1 h
    split at h
    ·cases h;simp
    ·have:=Z0x h;omega
structure X2v (s:X0):Prop where
 op:s.op=1∨s.op=2∨s.op=3
 to:0≤s.to
 bl:s.binds.length≤1000
 nd:(s.binds.map (·.var)).Nodup
theorem X5e {f:Q0→List Int→List X0}(h:∀ x p,∀ s∈f x p,s.binds=[])(path:List Int):∀ (ks:List Q0) (i:Nat),∀ s∈Q68 f path i ks,s.binds=[]
 | [],_,s,hs=>by cases hs
 | x::ks,i,s,hs=>by
  rcases List.mem_append.1 hs with hs | hs
  ·exact h x _ s hs
  ·exact X5e h path ks (i+1) s hs
theorem Z3q:∀ (d:Nat) (q:Q0) (path:List Int),∀ s∈X7 d q path,s.binds=[]
 | 0,_,_,s,hs=>by cases hs
 | d+1,q,path,s,hs=>by
  rw [X7] at hs
  split at hs
  ·simp only [List.mem_singleton] at hs;rw [hs]
  ·split at hs
   ·rcases U8.1 hs with hs | hs
    ·rw [hs]
    ·exact X5e (Z3q d) path q.kids 0 s hs
   ·split at hs
    ·split at hs
     ·exact Z3q d _ path s hs
     ·cases hs
    ·cases hs
theorem Z92 {w:List Q4}{t:Q6}{i e:Nat} : ∀ {qs:List Q0} {off:Nat},(∀ q∈qs,QOk w t q)→∀ s∈Q72 i e off qs,X2v s
 | [],_,_,s,hs=>by cases hs
 | q::qs,off,h,s,hs=>by
  rw [Q72] at hs
  rcases List.mem_append.1 hs with hs | hs
  ·have hq:=h q (by simp)
   rw [W6m] at hs
   rcases List.mem_append.1 hs with hs | hs
   ·obtain ⟨s',h1,rfl⟩:=U10.1 hs
    have e1:=Z1y 12 q [] s' h1
    have e2:=Z3q 12 q [] s' h1
    exact ⟨.inl e1,by simp only [toJ];omega,by simp [toJ,e2],by simp [toJ,e2]⟩
   ·simp only [List.mem_singleton] at hs
    subst hs
    have hp:=Q5z hq.rg
    refine ⟨.inr (.inl rfl),by simp only;omega,by simp only;rw [hp.length_eq];have:=hq.len.2;omega,?_⟩
    simp only
    exact ((hp.map _).nodup_iff).2 hq.nd
  ·exact Z92 (fun x hx=>h x (by simp [hx])) s hs
theorem X2p {w:List Q4}{t:Q6} : ∀ {cs:List Q3} {off i:Nat},(∀ c∈cs,Q2i w t c.pat=true)→∀ s∈Q4b off i cs,X2v s
 | [],_,_,_,s,hs=>by
  simp only [Q4b,List.mem_singleton] at hs
  subst hs
  exact ⟨.inr (.inr rfl),by simp,by simp,by simp⟩
 | c::cs,off,i,h,s,hs=>by
  rw [Q4b] at hs
  rcases List.mem_append.1 hs with hs | hs
  ·exact Z92 (fun q hq=>qOk (h c (by simp)) hq) s hs
  ·exact X2p (fun x hx=>h x (by simp [hx])) s hs
theorem X03 (s:X0)(u:Q1):Q2t s.ctor s.n s.m u=some (Q8q s u):=by
 unfold Q2t Q8q
 rw [Q86]
 by_cases h1:s.ctor=u.ctor
 ·by_cases h2:u.ctor = -1
  ·simp [ieq,h1,h2]
  ·simp [ieq,h1,h2]
 ·simp [ieq,h1]
theorem W2w (s:X0)(u:Q1):Q5o s u=some (Q8q s u):=by
 unfold Q5o Q8q
 by_cases h1:s.ctor=u.ctor
 ·by_cases h2:u.ctor = -1
  ·by_cases h3:s.n≤u.n<;>simp [ieq,ile,h1,h2,h3]
  ·simp [ieq,h1,h2]
 ·have h1':¬u.ctor=s.ctor:=fun e=>h1 e.symm
  simp [ieq,h1,h1']
theorem Z9o {code:List X0}{lst:List Q3}{v:Q1}(hv:Z1t 10 v)(hc:∀ s∈code,X2v s)(hl:code.length≤100000){told:X0→Option Unit}(ht:∀ s,told s=some ()){k:Nat}{r:Int×List W9×List (List Int)}(h:runK code lst v k 0=some r)(hk:k≤100000) :
  Q28 NN code lst v told=some (r.1,r.2.1,(r.2.2.length:Int)):=by
 suffices hs:Ret (Q28 NN code lst v told) (fun a=>a=(r.1,r.2.1,(r.2.2.length:Int))) by
  obtain ⟨_,e,rfl⟩:=hs
  exact e
 unfold Q28
 have hr:=Z0x h
 refine Ret.ctl (Z0r (fun k s=>∃ (a cnt:Nat) (r':Int×List W9×List (List Int)),s=((cnt:Int),(a:Int))∧runK code lst v k a=some r'∧r'.1=r.1∧r'.2.1=r.2.1∧cnt+r'.2.2.length=r.2.2.length) (fun a=>a=(r.1,r.2.1,(r.2.2.length:Int))) (fun _=>False) (fun s hI=>?_) (fun k s hI=>?_) k NN (0,0) ⟨0,0,r,rfl,h,rfl,rfl,by omega⟩ (by simp only [NN];omega)) (fun a ha=>.some ha) (fun s hs=>hs.elim)
 ·obtain ⟨_,_,_,_,h1,_⟩:=hI
  cases h1
 ·obtain ⟨a,cnt,r',rfl,h1,h2,h3,h4⟩:=hI
  rw [runK,U12] at h1
  obtain ⟨s,hs,h1⟩:=h1
  have hso:=hc s (U1 hs)
  have hal:=(List.getElem?_eq_some_iff.1 hs).1
  dsimp only
  rw [Q16 hs]
  simp only [U0]
  by_cases o3:s.op=3
  ·rw [if_pos o3] at h1
   rw [if_pos (by rw [Z8];exact o3)]
   cases h1
   refine .some ?_
   simp only [Z2v]
   simp only [U4,Nat.add_zero] at h4
   rw [←h2,←h3,←h4]
  ·rw [if_neg o3] at h1
   rw [if_neg (by rw [Z8];exact o3),ht]
   simp only [U0]
   by_cases o1:s.op=1
   ·rw [if_pos o1] at h1
    rw [if_pos (by rw [Z8];exact o1)]
    obtain ⟨u,hu,h1⟩:=U12.1 h1
    obtain ⟨r2,h5,rfl⟩:=U11.1 h1
    simp only [U3] at h4
    rw [Q9e hu]
    simp only [U0]
    rw [X03]
    simp only [U0]
    rw [V0 (by omega) (by omega),V0 (by omega) (by omega)]
    cases hp:Q8q s u with
    | true=>
     rw [hp] at h5
     simp only [if_true] at h5
     simp only [Bool.not_true,U2,if_false,U0]
     exact .some ⟨a+1,cnt+1,r2,by simp,h5,h2,h3,by omega⟩
    | false=>
     rw [hp] at h5
     simp only [U2,if_false] at h5
     simp only [Bool.not_false,if_true,U0]
     exact .some ⟨s.to.toNat,cnt+1,r2,by rw [Int.toNat_of_nonneg hso.to];simp,h5,h2,h3,by omega⟩
   ·rw [if_neg o1] at h1
    rw [if_neg (by rw [Z8];exact o1)]
    obtain ⟨l,hl',h1⟩:=U12.1 h1
    obtain ⟨c,hcl,h1⟩:=U12.1 h1
    rw [Q9x hv hso.bl hl']
    simp only [U0]
    rw [hcl]
    simp only [U0]
    rw [Z7a c.guard (by rw [Q2h hl'];exact hso.nd)]
    simp only [U0]
    by_cases hg:Q08 c.guard l=true
    ·rw [if_pos hg] at h1 ⊢
     cases h1
     refine .some ?_
     simp only [Z2v]
     simp only [U4,Nat.add_zero] at h4
     rw [←h2,←h3,←h4]
    ·rw [if_neg hg] at h1 ⊢
     exact .some ⟨s.to.toNat,cnt,r',by rw [Int.toNat_of_nonneg hso.to],h1,h2,h3,h4⟩
theorem Z8q {code:List X0}{lst:List Q3}{v:Q1}(hv:Z1t 10 v)(hc:∀ s∈code,X2v s)(hl:code.length≤100000){k:Nat}{r:Int×List W9×List (List Int)}(h:runK code lst v k 0=some r)(hk:k≤100000) :
  Q4u NN lst code v=some r:=by
 suffices hs:Ret (Q4u NN lst code v) (fun a=>a=r) by
  obtain ⟨_,e,rfl⟩:=hs
  exact e
 unfold Q4u
 have hr:=Z0x h
 refine Ret.ctl (Z0r (fun k s=>∃ (a:Nat) (ps:List (List Int)) (r':Int×List W9×List (List Int)),s=((a:Int),ps)∧runK code lst v k a=some r'∧r'.1=r.1∧r'.2.1=r.2.1∧ps++r'.2.2=r.2.2) (fun a=>a=r) (fun s=>((-1:Int),([]:List W9),s.2)=r) (fun s hI=>?_) (fun k s hI=>?_) k NN (0,[]) ⟨0,[],r,rfl,h,rfl,rfl,rfl⟩ (by simp only [NN];omega)) (fun a ha=>.some ha) (fun s hs=>.some hs)
 ·obtain ⟨_,_,_,_,h1,_⟩:=hI
  cases h1
 ·obtain ⟨a,ps,r',rfl,h1,h2,h3,h4⟩:=hI
  have hpl:ps.length≤100000:=by
   have:=congrArg List.length h4
   rw [U5] at this
   omega
  have hrr:r=(r.1,r.2.1,r.2.2):=rfl
  rw [runK,U12] at h1
  obtain ⟨s,hs,h1⟩:=h1
  have hso:=hc s (U1 hs)
  have hal:=(List.getElem?_eq_some_iff.1 hs).1
  dsimp only
  rw [Q16 hs]
  simp only [U0]
  by_cases o3:s.op=3
  ·rw [if_pos o3] at h1
   have e3:ieq s.op 3=true:=by rw [Z8];exact o3
   simp only [e3,Bool.not_true,U2,if_false]
   cases h1
   refine .some ?_
   simp only [Q8p]
   rw [List.append_nil] at h4
   rw [hrr,←h2,←h3,←h4]
  ·rw [if_neg o3] at h1
   have e3:ieq s.op 3=false:=by rw [W2];exact o3
   simp only [e3,Bool.not_false,if_true]
   by_cases o1:s.op=1
   ·rw [if_pos o1] at h1
    rw [if_neg (by rw [Z8];omega)]
    obtain ⟨u,hu,h1⟩:=U12.1 h1
    obtain ⟨r2,h5,rfl⟩:=U11.1 h1
    rw [X4 (by simp only [U3,U4,Q5];omega)]
    simp only [U0]
    rw [Z0t hu]
    simp only [U0]
    rw [W2w]
    simp only [U0]
    cases hp:Q8q s u with
    | true=>
     rw [hp] at h5
     simp only [if_true] at h5
     simp only [if_true]
     rw [V0 (by omega) (by omega)]
     exact .some ⟨a+1,ps++[s.path],r2,by simp,h5,h2,h3,by rw [←h4];simp⟩
    | false=>
     rw [hp] at h5
     simp only [U2,if_false] at h5
     simp only [U2,if_false]
     exact .some ⟨s.to.toNat,ps++[s.path],r2,by rw [Int.toNat_of_nonneg hso.to],h5,h2,h3,by rw [←h4];simp⟩
   ·rw [if_neg o1] at h1
    have o2:s.op=2:=by rcases hso.op with h | h | h<;>omega
    rw [if_pos (by rw [Z8];exact o2)]
    obtain ⟨l,hl',h1⟩:=U12.1 h1
    obtain ⟨c,hcl,h1⟩:=U12.1 h1
    rw [Z21 hv hso.bl hl']
    simp only [U0]
    rw [hcl]
    simp only [U0]
    rw [Z20]
    simp only [U0]
    by_cases hg:Q08 c.guard l=true
    ·rw [if_pos hg] at h1 ⊢
     cases h1
     refine .some ?_
     simp only [Z2v]
     rw [List.append_nil] at h4
     rw [hrr,←h2,←h3,←h4]
    ·rw [if_neg hg] at h1 ⊢
     exact .some ⟨s.to.toNat,ps,r',by rw [Int.toNat_of_nonneg hso.to],h1,h2,h3,h4⟩
theorem W21 {w:List Q4}(hww:w∈Q0s){t:Q6}(ht:t∈tys w){cs:List Q3}(hc:Q6g w t cs=(Q4b 0 0 cs,true)){v:Q1}(hv:Q30 w 10 t v):∃ (k:Nat) (ps:List (List Int)),k≤50000∧runK (Q4b 0 0 cs) cs v k 0=some ((runR (runD v 0 cs)).1,(runR (runD v 0 cs)).2,ps)∧(Q4b 0 0 cs).length≤50000∧(∀ s∈Q4b 0 0 cs,X2v s)∧Q4f w t cs=true:=by
 unfold Q6g at hc
 split at hc
 ·rename_i h
  obtain ⟨h8,hP⟩:=Q7a h.1
  have hlc:=X3j (w:=w) (t:=t) (cs:=cs) (fun c hcm=>⟨hP c hcm,by simpa using List.all_eq_true.1 h.2 c hcm⟩)
  have hl:(Q4b 0 0 cs).length≤50000:=by rw [Z88,U5,Z5j,List.length_singleton];omega
  obtain ⟨k,ps,h1,h2⟩:=X5j (ww hww) (ws hww) (wl hww) ht (lst:=cs) hv (code:=Q4b 0 0 cs) cs 0 0 hP (fun j c hj=>by rwa [Nat.zero_add]) (fun j x hx=>by rwa [Nat.zero_add])
  exact ⟨k,ps,by omega,by have:=h2 0;rwa [Nat.zero_add] at this,hl,X2p hP,h.1⟩
 ·have:=congrArg Prod.snd hc
  cases this
def Z8d (v:Q1):List X0→List (List Int)
 | []=>[]
 | s::ss=>s.path::(match Q4h v s.path with
  | some u=>if Q8q s u=true then Z8d v ss else []
  | none=>[])
theorem X5d {code:List X0}{lst:List Q3}{v:Q1}{J:Nat} : ∀ (T:List X0) (a n:Nat) (r:Int×List W9×List (List Int)),(∀ s∈T,s.op=1)→seg code a (T.map (toJ J))→runK code lst v n a=some r→∀ p∈Z8d v T,p∈r.2.2
 | [],_,_,_,_,_,_,p,hp=>by cases hp
 | s::T,a,n,r,h1,hs,hr,p,hp=>by
  cases n with
  | zero=>cases hr
  | succ n=>
   have hc:=hs 0 _ rfl
   rw [Nat.add_zero] at hc
   rw [runK,show code[a]?=some (toJ J s) from hc] at hr
   simp only [U0] at hr
   have e1:(toJ J s).op=1:=h1 s (by simp)
   rw [if_neg (by omega),if_pos e1] at hr
   obtain ⟨u,hu,hr⟩:=U12.1 hr
   obtain ⟨r',h2,rfl⟩:=U11.1 hr
   have hu':Q4h v s.path=some u:=hu
   have hpass:Q8q (toJ J s) u=Q8q s u:=rfl
   rw [Z8d,hu'] at hp
   simp only at hp
   rcases U8.1 hp with hp | hp
   ·rw [hp]
    simp [toJ]
   ·cases hps:Q8q s u with
    | false=>rw [hps] at hp;simp at hp
    | true=>
     rw [hps] at hp
     rw [hpass,hps] at h2
     simp only [if_true] at hp h2
     have hs2:seg code (a+1) (T.map (toJ J)):=fun j x hx=>by
      have:=hs (j+1) x (by simpa using hx)
      rwa [show a+(j+1)=a+1+j by omega] at this
     have:=X5d T (a+1) n r' (fun x hx=>h1 x (by simp [hx])) hs2 h2 p hp
     simp [this]
theorem X2a {w:List Q4}(hw:WW w)(hS:WS w)(hL:WL w){t:Q6}(ht:t∈tys w){lst:List Q3}{v:Q1}{e:Nat}(hv:Q30 w e t v){code:List X0}{i E:Nat}{B:List Q0} : ∀ (A:List Q0) (o:Nat),(∀ q∈A,QOk w t q∧Z6 12 q v=none)→seg code o (Q72 i E o (A++B))→
  (∃ (k:Nat) (ps:List (List Int)),(∀ n,runK code lst v (n+k) o=(runK code lst v n (o+lenS A)).map (addP ps))∧Goes code lst v o (o+lenS A))∧seg code (o+lenS A) (Q72 i E (o+lenS A) B)
 | [],o,_,hs=>⟨⟨0,[],fun n=>by simp [lenS,Z5q],.refl _⟩,by simpa [lenS] using hs⟩
 | q::A,o,h,hs=>by
  obtain ⟨hq,hm⟩:=h q (by simp)
  rw [List.cons_append,Q72] at hs
  obtain ⟨h1,h2⟩:=Q7v hs
  rw [Z50] at h2
  obtain ⟨h3,_⟩:=Q7v (show seg code o ((X7 12 q []).map (toJ (o+(X7 12 q []).length+1))++_) from h1)
  obtain ⟨k1,ps1,_,e1,go1⟩:=Z8g (lst:=lst) hw hS hL 12 e t q v [] o hq.g hq.f hv ht rfl h3
  rw [hm] at e1 go1
  simp only [Option.isSome_none,U2,if_false] at e1 go1
  obtain ⟨⟨k2,ps2,e2,go2⟩,s2⟩:=X2a hw hS hL ht hv (code:=code) (lst:=lst) A (o+((X7 12 q []).length+1)) (fun x hx=>h x (by simp [hx])) (by simpa [Nat.add_assoc] using h2)
  have hl:o+lenS (q::A)=o+((X7 12 q []).length+1)+lenS A:=by rw [lenS];omega
  refine ⟨⟨k2+k1,ps1++ps2,fun n=>?_,?_⟩,by rw [hl];exact s2⟩
  ·rw [←Nat.add_assoc,e1,show o+(X7 12 q []).length+1=o+((X7 12 q []).length+1) by omega,e2,Z12,hl]
  ·rw [hl]
   exact go1.trans go2
theorem Z75 {w:List Q4}(hw:WW w)(hS:WS w)(hL:WL w){t:Q6}(ht:t∈tys w){lst:List Q3}{v:Q1}{e:Nat}(hv:Q30 w e t v){code:List X0}{B:List Q3} : ∀ (A:List Q3) (off i:Nat),(∀ c∈A,Q2i w t c.pat=true)→(∀ (j:Nat) (c:Q3),A[j]?=some c→lst[i+j]?=some c)→(∀ c∈A,∀ b,Z6 10 c.pat v=some b→Q08 c.guard b=false)→seg code off (Q4b off i (A++B))→
  (∃ (k:Nat) (ps:List (List Int)),(∀ n,runK code lst v (n+k) off=(runK code lst v n (off+lenC A)).map (addP ps))∧Goes code lst v off (off+lenC A))∧seg code (off+lenC A) (Q4b (off+lenC A) (i+A.length) B)
 | [],off,i,_,_,_,hs=>⟨⟨0,[],fun n=>by simp [lenC,Z5q],.refl _⟩,by simpa [lenC] using hs⟩
 | c::A,off,i,hP,hl,hn,hs=>by
  rw [List.cons_append,Q4b] at hs
  obtain ⟨s1,s2⟩:=Q7v hs
  rw [Q91] at s2
  obtain ⟨⟨k2,ps2,e2,go2⟩,s3⟩:=Z75 hw hS hL ht hv (code:=code) (lst:=lst) (B:=B) A (off+lenS (Q7 10 c.pat)) (i+1) (fun x hx=>hP x (by simp [hx])) (fun j x hx=>by rw [show i+1+j=i+(j+1) by omega];exact hl (j+1) x (by simpa using hx)) (fun x hx=>hn x (by simp [hx])) s2
  obtain ⟨g1,_,g3⟩:=Q5b (hP c (by simp))
  have hcl:idx lst (i:Int)=some c:=Q16 (by have:=hl 0 c rfl;simpa using this)
  have hsf:(Q7 10 c.pat).findSome? (fun q=>Z6 10 q v)=Z6 10 c.pat v:=Z0b hw hS 10 e t c.pat v ht g1 hv
  have Q1g:∀ (qs:List Q0) (o:Nat),(∀ q∈qs,q∈Q7 10 c.pat)→seg code o (Q72 i (off+lenS (Q7 10 c.pat)) o qs)→o+lenS qs=off+lenS (Q7 10 c.pat)→
    (∀ b,qs.findSome? (fun q=>Z6 10 q v)=some b→Q08 c.guard b=false)→∃ (k:Nat) (ps:List (List Int)),(∀ n,runK code lst v (n+k) o=(runK code lst v n (off+lenS (Q7 10 c.pat))).map (addP ps))∧Goes code lst v o (off+lenS (Q7 10 c.pat)):=by
   intro qs
   induction qs with
   | nil=>
    intro o _ _ ho _
    simp only [lenS,Nat.add_zero] at ho
    refine ⟨0,[],fun n=>?_,by rw [ho];exact .refl _⟩
    rw [Z5q]
    simp only [Nat.add_zero]
    rw [ho]
   | cons q qs ihq=>
    intro o hm hsq ho hgf
    rw [Q72] at hsq
    obtain ⟨h1,h2⟩:=Q7v hsq
    rw [Z50] at h2
    obtain ⟨h3,h4⟩:=Q7v (show seg code o ((X7 12 q []).map (toJ (o+(X7 12 q []).length+1))++_) from h1)
    rw [U7] at h4
    have hq:=hm q (by simp)
    have hk:=qOk (hP c (by simp)) hq
    have q10:=Q3f 10 t c.pat q g1 hq
    have m12:Z6 12 q v=Z6 10 q v:=by rw [(Q4y 11 t q (Q0u 10 t q q10)).2.2.2 v,(Q4y 10 t q q10).2.2.2 v]
    obtain ⟨k1,ps1,l1,e1,go1⟩:=Z8g (lst:=lst) hw hS hL 12 e t q v [] o hk.g hk.f hv ht rfl h3
    rw [m12] at e1 go1
    rw [List.findSome?_cons] at hgf
    cases hmq:Z6 10 q v with
    | none=>
     rw [hmq] at e1 hgf go1
     simp only [Option.isSome_none,U2,if_false] at e1 go1
     obtain ⟨k3,ps3,e3,go3⟩:=ihq (o+((X7 12 q []).length+1)) (fun x hx=>hm x (by simp [hx])) (by simpa [Nat.add_assoc] using h2) (by rw [lenS] at ho;omega) hgf
     refine ⟨k3+k1,ps1++ps3,fun n=>?_,go1.trans go3⟩
     rw [←Nat.add_assoc,e1,show o+(X7 12 q []).length+1=o+((X7 12 q []).length+1) by omega,e3,Z12]
    | some b=>
     rw [hmq] at e1 hgf go1
     simp only [Option.isSome_some,if_true] at e1 go1
     have hgb:=hgf b rfl
     have hcd:=h4 0 _ rfl
     rw [Nat.add_zero] at hcd
     have hb:=X7q hw hS 12 e t q v [] b hk.g hk.f hv ht rfl (by rw [m12];exact hmq)
     have hsr:=X24 hb hk.nd hk.rg
     have hbn:(b.map (·.var)).Nodup:=by rw [Q2h hb];exact hk.nd
     have hrb:∀ x∈b,0≤x.var∧x.var≤5:=fun x hx=>by
      have:x.var∈(Q3x 12 q []).map (·.var):=by rw [←Q2h hb];exact List.mem_map_of_mem hx
      obtain ⟨y,hy,e⟩:=U10.1 this
      rw [←e]
      exact hk.rg y hy
     have hgs:Q08 c.guard (Z0c b)=Q08 c.guard b:=by
      unfold Q08
      rw [X08 (by rw [(List.Perm.map _ (Q5c hrb)).nodup_iff];exact hbn) (Q5c hrb) c.guard.var]
     have stp:∀ n,runK code lst v (n+1) (o+(X7 12 q []).length)=runK code lst v n (off+lenS (Q7 10 c.pat)):=fun n=>by
      rw [runK,hcd]
      simp only [U0]
      rw [if_neg (by decide),if_neg (by decide),hsr]
      simp only [U0]
      rw [hcl]
      simp only [U0]
      rw [hgs,hgb,Int.toNat_natCast]
      simp
     have gst:Goes code lst v (o+(X7 12 q []).length) (off+lenS (Q7 10 c.pat)):=.skip hcd rfl hsr hcl (by rw [hgs,hgb]) (by
      have:(((off+lenS (Q7 10 c.pat):Nat):Int)).toNat=off+lenS (Q7 10 c.pat):=Int.toNat_natCast _
      simp only
      rw [this]
      exact .refl _)
     exact ⟨1+k1,ps1,fun n=>by rw [←Nat.add_assoc,e1,stp],go1.trans gst⟩
  obtain ⟨k1,ps1,e1,go1⟩:=Q1g (Q7 10 c.pat) off (fun q h=>h) s1 rfl (fun b hb=>hn c (by simp) b (by rw [←hsf];exact hb))
  have hlc:off+lenC (c::A)=off+lenS (Q7 10 c.pat)+lenC A:=by rw [lenC];omega
  refine ⟨⟨k2+k1,ps1++ps2,fun n=>?_,by rw [hlc];exact go1.trans go2⟩,by rw [hlc,U3,show i+(A.length+1)=i+1+A.length by omega];exact s3⟩
  rw [←Nat.add_assoc,e1,e2,Z12,hlc]
def V3e (w:List Q4)(t:Q6)(cs:List Q3)(v:Q1)(p:List Int):Prop:=
 ∃ (A B:List Q3) (c:Q3) (A' B':List Q0) (q:Q0),cs=A++c::B∧(∀ c∈A,∀ b,Z6 10 c.pat v=some b→Q08 c.guard b=false)∧Q7 10 c.pat=A'++q::B'∧(∀ q'∈A',Z6 12 q' v=none)∧p∈Z8d v (X7 12 q [])
theorem X7m {w:List Q4}(hww:w∈Q0s){t:Q6}(ht:t∈tys w){cs:List Q3}(hP:∀ c∈cs,Q2i w t c.pat=true){v:Q1}{e:Nat}(hv:Q30 w e t v){r:Int×List W9×List (List Int)}{k:Nat}(hr:∀ n,runK (Q4b 0 0 cs) cs v (n+k) 0=some r){p:List Int}(h:V3e w t cs v p):p∈r.2.2:=by
 obtain ⟨A,B,c,A',B',q,rfl,h1,h2,h3,h4⟩:=h
 have hw:=ww hww
 have hS:=ws hww
 have hL:=wl hww
 obtain ⟨⟨k1,ps1,e1,_⟩,s1⟩:=Z75 hw hS hL ht hv (code:=Q4b 0 0 (A++c::B)) (lst:=A++c::B) (B:=c::B) A 0 0 (fun x hx=>hP x (by simp [hx])) (fun j x hx=>by
  rw [Nat.zero_add,List.getElem?_append_left (List.getElem?_eq_some_iff.1 hx).1]
  exact hx) h1 (fun j x hx=>by rwa [Nat.zero_add])
 have hvc:=hP c (by simp)
 have hq:∀ x∈Q7 10 c.pat,QOk w t x:=fun x hx=>qOk hvc hx
 rw [h2] at hq
 rw [Q4b] at s1
 obtain ⟨s2,_⟩:=Q7v s1
 rw [h2] at s2
 obtain ⟨⟨k2,ps2,e2,_⟩,s3⟩:=X2a hw hS hL ht hv (code:=Q4b 0 0 (A++c::B)) (lst:=A++c::B) (B:=q::B') A' (0+lenC A) (fun x hx=>⟨hq x (by simp [hx]),h3 x hx⟩) s2
 rw [Q72] at s3
 obtain ⟨s4,_⟩:=Q7v s3
 obtain ⟨s5,_⟩:=Q7v (show seg (Q4b 0 0 (A++c::B)) (0+lenC A+lenS A') ((X7 12 q []).map (toJ (0+lenC A+lenS A'+(X7 12 q []).length+1))++_) from s4)
 have e3:=hr (k2+k1)
 rw [show k2+k1+k=k+k2+k1 by omega,e1,e2,Z12] at e3
 obtain ⟨r',h5,rfl⟩:=U11.1 e3
 have:=X5d (X7 12 q []) _ k r' (fun s hs=>Z1y 12 q [] s hs) s5 h5 p h4
 simp only [addP]
 exact List.mem_append_right _ this
theorem Z3r {α:Type}{l:List α}{k:Nat}{x:α}(h:l[k]?=some x):l.take (k+1)=l.take k++[x]:=by
 rw [List.take_add_one,h]
 rfl
def Z7z (acc:List (List Int))(p:List Int):List (List Int):=if p∈acc then acc else acc++[p]
def Q6w (acc:List (List Int)):List (List Int)→List (List Int)
 | []=>acc
 | p::ps=>Q6w (Z7z acc p) ps
theorem X6d {x:List Int} : ∀ (ps acc:List (List Int)),x∈Q6w acc ps↔x∈acc∨x∈ps
 | [],acc=>by simp [Q6w]
 | p::ps,acc=>by
  rw [Q6w,X6d ps,U8]
  have:x∈Z7z acc p↔x∈acc∨x=p:=by
   unfold Z7z
   split
   ·rename_i h
    exact ⟨.inl,fun h'=>h'.elim id fun e=>e▸h⟩
   ·simp
  rw [this,or_assoc]
def Z1s (a b:List Int):Prop:=¬a <+: b∧¬b <+: a
theorem X2s {a p:List Int}(h:Z1s a p)(i:Int):Z1s a (p++[i]):=by
 refine ⟨fun hp=>?_,fun hp=>h.2 ((List.prefix_append p [i]).trans hp)⟩
 rw [List.prefix_concat_iff] at hp
 rcases hp with hp | hp
 ·exact h.2 (by rw [hp];exact List.prefix_append p [i])
 ·exact h.1 hp
theorem Z6q {a b:List Int}(h:Z1s a b):Z1s b a:=⟨h.2,h.1⟩
theorem W4n {A B Q:List (List Int)}{p:List Int}(h:(A++p::B).Pairwise Z1s)(hq:Q.Pairwise Z1s)(hQ:∀ q∈Q,∃ i,q=p++[i]):(A++Q++B).Pairwise Z1s:=by
 rw [List.pairwise_append,List.pairwise_cons] at h
 obtain ⟨h1,⟨h2,h3⟩,h4⟩:=h
 rw [List.pairwise_append,List.pairwise_append]
 refine ⟨⟨h1,hq,fun a ha q hqm=>?_⟩,h3,fun x hx b hb=>?_⟩
 ·obtain ⟨i,rfl⟩:=hQ q hqm
  exact X2s (h4 a ha p (by simp)) i
 ·rcases List.mem_append.1 hx with hx | hx
  ·exact h4 x hx b (by simp [hb])
  ·obtain ⟨i,rfl⟩:=hQ x hx
   exact Z6q (X2s (Z6q (h2 b hb)) i)
theorem W4m (w:List Q4)(col:Z5)(b:Z3):((V5 w col b).map (·.path)).Pairwise Z1s∧∀ q∈(V5 w col b).map (·.path),∃ i,q=col.path++[i]:=by
 unfold V5
 split
 ·exact ⟨List.Pairwise.nil,fun q hq=>by cases hq⟩
 ·have hg:∀ (l:List Q6) (j:Nat) (q:List Int),((l.mapIdx fun i t=>(⟨col.path++[(i:Int)],t⟩:Z5)).map (·.path))[j]?=some q→q=col.path++[(j:Int)]:=fun l j q hq=>by
   rw [List.getElem?_map,List.getElem?_mapIdx] at hq
   cases h:l[j]? with
   | none=>rw [h] at hq;cases hq
   | some a=>
    rw [h] at hq
    simp only [Option.map_some,Option.some.injEq] at hq
    exact hq.symm
  constructor
  ·rw [List.pairwise_iff_getElem]
   intro i j hi hj hij
   have e1:=hg _ i _ (U9 hi)
   have e2:=hg _ j _ (U9 hj)
   rw [e1,e2]
   refine ⟨fun h=>?_,fun h=>?_⟩
   ·have:=h.eq_of_length (by simp)
    have:=List.append_cancel_left this
    simp only [List.cons.injEq,and_true] at this
    omega
   ·have:=h.eq_of_length (by simp)
    have:=List.append_cancel_left this
    simp only [List.cons.injEq,and_true] at this
    omega
  ·intro q hq
   obtain ⟨j,hj⟩:=List.mem_iff_getElem?.1 hq
   exact ⟨(j:Int),hg _ j q hj⟩
theorem W4h {cols:List Z5}{k:Nat}{col:Z5}(h:cols[k]?=some col):cols=cols.take k++col::cols.drop (k+1):=by
 rw [←Z2l h,List.take_append_drop]
theorem Z9a {α:Type} [DecidableEq α]:∀ (a b:List α),a.Nodup→(∀ x∈a,x∈b)→a.length≤b.length
 | [],b,_,_=>by simp
 | x::a,b,h,hs=>by
  rw [List.nodup_cons] at h
  have hx:=hs x (by simp)
  have h1:=Z9a a (b.erase x) h.2 (fun y hy=>(List.mem_erase_of_ne (fun e=>h.1 (by rw [←e];exact hy))).2 (hs y (by simp [hy])))
  rw [List.length_erase_of_mem hx] at h1
  have:=List.length_pos_of_mem hx
  simp only [U3]
  omega
theorem Z9m {α:Type}{f g:Q0→List Int→List α}(path:List Int):∀ (ks:List Q0) (i:Nat),(∀ x∈ks,∀ p,f x p=g x p)→Q68 f path i ks=Q68 g path i ks
 | [],_,_=>rfl
 | x::ks,i,h=>by rw [Q68,Q68,h x (by simp),Z9m path ks (i+1) fun y hy=>h y (by simp [hy])]
theorem Z8h {w:List Q4} : ∀ (d:Nat) (t:Q6) (q:Q0) (path:List Int),Q09 w d t q=true→Q7n d q→X7 (d+1) q path=X7 d q path:=by
 intro d
 induction d with
 | zero=>intro t q path h;cases h
 | succ d ih=>
  intro t q path g f
  rw [X7,X7]
  rcases Z0g g f with ⟨h,hk⟩ | ⟨h,hk⟩ | ⟨h,a,hk,ga,fa⟩ | ⟨h,hk⟩ | ⟨h,hl,hct,hkid⟩
  ·simp [h]
  ·simp [h]
  ·simp only [h,hk]
   rw [ih t a path ga fa]
   rfl
  ·simp [h]
  ·rw [if_neg (by omega),if_pos h,if_neg (by omega),if_pos h]
   rw [Z9m path q.kids 0 fun x hx p=>by
    obtain ⟨j,hj⟩:=List.mem_iff_getElem?.1 hx
    have hjl:=(List.getElem?_eq_some_iff.1 hj).1
    have hu:(V6 w t q.ctor)[j]?=some ((V6 w t q.ctor)[j]'(by omega)):=by simp
    obtain ⟨gx,fx⟩:=hkid j x _ hj hu
    exact ih _ x p gx fx]
theorem Z8l {w:List Q4}{t:Q6}(path p':List Int):∀ (k d:Nat) (q:Q0),Q09 w d t q=true→Q7n d q→d≤12→X7 12 (Q1z k q path).2 p'=X7 12 q p':=by
 intro k
 induction k with
 | zero=>intro d q _ _ _;rfl
 | succ k ih=>
  intro d q g f hd
  cases d with
  | zero=>cases g
  | succ d=>
   rw [Q1z]
   rcases Z0g g f with ⟨h,hk⟩ | ⟨h,hk⟩ | ⟨h,a,hk,ga,fa⟩ | ⟨h,hk⟩ | ⟨h,hl,hct,hkid⟩
   ·rw [if_neg (by omega),if_neg (by omega)]
   ·rw [if_neg (by omega),if_pos h]
    have e1:X7 12 q p'=[]:=by rw [X7];simp [h]
    have e2:X7 12 anyP p'=[]:=by rw [X7];simp [anyP]
    rw [e1]
    exact e2
   ·rw [if_pos h]
    have hh:q.kids.headD anyP=a:=by rw [hk];rfl
    simp only
    rw [hh,ih d a ga fa (by omega)]
    have hg11:∀ m,d+m≤11→Q09 w (d+m) t a=true∧Q7n (d+m) a∧X7 (d+m) a p'=X7 d a p':=by
     intro m
     induction m with
     | zero=>intro _;exact ⟨ga,fa,rfl⟩
     | succ m ihm=>
      intro hm
      obtain ⟨g1,g2,g3⟩:=ihm (by omega)
      exact ⟨Q0u (d+m) t a g1,Q3w (d+m) a g2,by rw [←Nat.add_assoc,Z8h (d+m) t a p' g1 g2,g3]⟩
    obtain ⟨g1,g2,_⟩:=hg11 (11-d) (by omega)
    rw [show d+(11-d)=11 by omega] at g1 g2
    rw [Z8h 11 t a p' g1 g2]
    conv=>rhs;rw [X7]
    simp [h,hk]
   ·rw [if_neg (by omega),if_neg (by omega)]
   ·rw [if_neg (by omega),if_neg (by omega)]
def Q4c:List Q0→List Z5→List X0
 | p::ps,c::cs=>X7 12 p c.path++Q4c ps cs
 | _,_=>[]
theorem Z2u:∀ (a b:List Q0) (c d:List Z5),a.length=c.length→Q4c (a++b) (c++d)=Q4c a c++Q4c b d
 | [],b,[],d,_=>by simp [Q4c]
 | p::a,b,x::c,d,h=>by
  simp only [List.cons_append,Q4c,Z2u a b c d (by simpa using h),List.append_assoc]
 | [],_,_::_,_,h=>by simp at h
 | _::_,_,[],_,h=>by simp at h
theorem X1y:∀ (a:List Q0) (c:List Z5),(∀ p∈a,p.op=1)→Q4c a c=[]
 | [],c,_=>by cases c<;>rfl
 | p::a,[],_=>rfl
 | p::a,x::c,h=>by
  have e:X7 12 p x.path=[]:=by rw [X7];simp [h p (by simp)]
  rw [Q4c,e,X1y a c fun q hq=>h q (by simp [hq])]
  rfl
inductive DelT (v:Q1):List X0→List X0→Prop
 | nil:DelT v [] []
 | keep {s:X0} {a b:List X0} : DelT v a b→DelT v (s::a) (s::b)
 | del {s:X0} {u:Q1} {a b:List X0} : Q4h v s.path=some u→Q8q s u=true→DelT v a b→DelT v a (s::b)
theorem DelT.refl {v:Q1} : ∀ a:List X0,DelT v a a
 | []=>.nil
 | _::a=>.keep (DelT.refl a)
theorem DelT.app {v:Q1}{a b c d:List X0}(h:DelT v a b)(k:DelT v c d):DelT v (a++c) (b++d):=by
 induction h with
 | nil=>exact k
 | keep _ ih=>exact .keep ih
 | del h1 h2 _ ih=>exact .del h1 h2 ih
theorem DelT.trans {v:Q1}{a b c:List X0}(h:DelT v a b)(k:DelT v b c):DelT v a c:=by
 induction k generalizing a with
 | nil=>exact h
 | keep k ih=>
  cases h with
  | keep h=>exact .keep (ih h)
  | del h1 h2 h=>exact .del h1 h2 (ih h)
 | del h1 h2 k ih=>exact .del h1 h2 (ih h)
theorem DelT.tried {v:Q1}{s:X0}{a b:List X0}(h:DelT v (s::a) b):s.path∈Z8d v b:=by
 generalize hx:s::a=x at h
 induction h with
 | nil=>cases hx
 | keep _ _=>cases hx;simp [Z8d]
 | del h1 h2 _ ih=>
  have:=ih hx
  rw [Z8d,h1]
  simp [h2,this]
theorem Z9j {w:List Q4}(path:List Int):∀ (ks:List Q0) (ts:List Q6) (i:Nat),ks.length=ts.length→(∀ (j:Nat) (x:Q0) (u:Q6),ks[j]?=some x→ts[j]?=some u→Q09 w 11 u x=true∧Q7n 11 x)→
  Q4c ((zipS ks (ts.mapIdx fun j t=>(⟨path++[((i+j:Nat):Int)],t⟩:Z5))).map (·.2)) (ts.mapIdx fun j t=>(⟨path++[((i+j:Nat):Int)],t⟩:Z5))=Q68 (X7 11) path i ks
 | [],[],i,_,_=>rfl
 | x::ks,t::ts,i,hl,h=>by
  obtain ⟨gx,fx⟩:=h 0 x t rfl rfl
  have ih:=Z9j path ks ts (i+1) (by simpa using hl) fun j x u h1 h2=>h (j+1) x u (by simpa using h1) (by simpa using h2)
  have hs:(fun (j:Nat) (t:Q6)=>(⟨path++[((i+(j+1):Nat):Int)],t⟩:Z5))=fun (j:Nat) (t:Q6)=>(⟨path++[((i+1+j:Nat):Int)],t⟩:Z5):=by
   funext j t
   rw [show i+(j+1)=i+1+j by omega]
  rw [List.mapIdx_cons,hs]
  simp only [zipS,List.zipWith_cons_cons,List.map_cons,Q4c,Nat.add_zero,Q68] at ih ⊢
  rw [ih]
  congr 1
  unfold Q6f
  rw [Z8l _ _ 12 11 x gx fx (by omega),Z8h 11 t x _ gx fx]
 | [],_::_,_,h,_=>by simp at h
 | _::_,[],_,h,_=>by simp at h
theorem V15 {w:List Q4}(hw:WW w)(hS:WS w){lst:List Q3}{v u:Q1}{cols:List Z5}{r:Grow}(hr:RowC w lst cols r){k:Nat}{col:Z5}(hk:cols[k]?=some col)(ht:col.t∈tys w){b:Z3}(hB:BrC w col.t b)(hu:Q4h v col.path=some u){e:Nat}(hg:Q30 w e col.t u)(hf:V9 b u=true)(hfit:Q4r (X6 r k) b=true) :
  DelT v (Q4c (Q7b r k (V5 w col b)).pats (Q6a cols k (V5 w col b))) (Q4c r.pats cols):=by
 obtain ⟨hkl,hp⟩:=hr.at hk
 have hkc:=(List.getElem?_eq_some_iff.1 hk).1
 have hrl:=hr.len
 have hpk:r.pats[k]?=some (X6 r k):=by unfold X6;rw [U9 hkl];rfl
 generalize hpp:X6 r k=p at hp hpk hfit
 have hTr:Q4c r.pats cols=Q4c (r.pats.take k) (cols.take k)++(X7 12 p col.path++Q4c (r.pats.drop (k+1)) (cols.drop (k+1))):=by
  conv=>lhs;rw [Q8a hpk,Q8a hk]
  rw [Z2u _ _ _ _ (by simp only [U6];omega)]
  rfl
 have hkid:(Q1q p (V5 w col b)).length=(V5 w col b).length:=(W13 hS ht hp hB hfit rfl).1
 have hTk:Q4c (Q7b r k (V5 w col b)).pats (Q6a cols k (V5 w col b))=Q4c (r.pats.take k) (cols.take k)++(Q4c ((zipS (Q1q p (V5 w col b)) (V5 w col b)).map (·.2)) (V5 w col b)++Q4c (r.pats.drop (k+1)) (cols.drop (k+1))):=by
  unfold Q7b Q6a
  simp only
  rw [hpp,List.append_assoc,List.append_assoc,Z2u _ _ _ _ (by simp only [U6];omega),Z2u _ _ _ _ (by simp only [U7,zipS,List.length_zipWith];omega)]
 rw [hTr,hTk]
 refine (DelT.refl _).app (DelT.app ?_ (DelT.refl _))
 have hn:=Q06 hp.1
 rcases hp.2.2 with h1 | h3 | h4
 ·have e1:X7 12 p col.path=[]:=by rw [X7];simp [h1]
  rw [e1,X1y _ _ fun q hq=>?_]
  ·exact .nil
  ·rw [Q1q,if_pos h1] at hq
   obtain ⟨z,hz,rfl⟩:=U10.1 hq
   unfold zipS at hz
   rw [List.mem_iff_getElem?] at hz
   obtain ⟨j,hj⟩:=hz
   rw [List.getElem?_zipWith] at hj
   cases ha:(V5 w col b)[j]? with
   | none=>rw [List.getElem?_map,ha] at hj;cases hj
   | some c=>
    rw [List.getElem?_map,ha] at hj
    simp only [Option.map_some,Option.some.injEq] at hj
    rw [←hj]
    rfl
 ·rcases Q85 hn with h | h | h | h | h | h<;>try omega
  have hbi:=hB.int h.2.1
  have hargs:V5 w col b=[]:=by unfold V5;rw [if_pos hbi]
  have e1:X7 12 p col.path=[⟨1,col.path,-1,p.n,p.m,0,[],0⟩]:=by rw [X7,if_pos h3]
  rw [e1,hargs]
  simp only [V9,Bool.and_eq_true,Bool.or_eq_true,decide_eq_true_eq] at hf
  rw [Q4r,if_neg (by omega),if_pos h3] at hfit
  simp only [Bool.and_eq_true,decide_eq_true_eq] at hfit
  have hz:Q4c ((zipS (Q1q p []) []).map (·.2)) []=[]:=by
   cases (zipS (Q1q p []) []).map (·.2)<;>rfl
  rw [hz]
  refine .del hu ?_ .nil
  have huc:u.ctor = -1:=by rw [←hf.1,hbi]
  unfold Q8q
  rcases hf.2 with h5 | h5
  ·exact absurd hbi h5
  ·simp only [huc,decide_true,Bool.true_and,ne_eq,not_true_eq_false,decide_false,Bool.false_or,Bool.and_eq_true,decide_eq_true_eq]
   omega
 ·have hct:=Q8r (Q0i hn).1 h4
  have hd:col.t.data≠-1:=fun hd=>by rw [hS.int _ ht hd] at hct;cases hct
  have hb:=(hB.ctor hd).2
  rw [Q4r,if_neg (by omega),if_neg (by omega),decide_eq_true_eq] at hfit
  have hko:Q1q p (V5 w col b)=p.kids:=by rw [Q1q,if_neg (by omega)]
  have hargs:V5 w col b=(V6 w col.t b.ctor).mapIdx fun j t=>(⟨col.path++[((0+j:Nat):Int)],t⟩:Z5):=by
   unfold V5
   rw [if_neg hb]
   simp only [Nat.zero_add]
  have e1:X7 12 p col.path=⟨1,col.path,p.ctor,0,0,0,[],0⟩::Q68 (X7 11) col.path 0 p.kids:=by rw [X7,if_neg (by omega),if_pos h4]
  have hkT:Y1 w col.t p=V6 w col.t b.ctor:=by unfold Y1;rw [if_pos h4,hfit]
  have hlen:=(Q0i hn).2
  rw [hkT] at hlen
  rw [e1,hko,hargs,Z9j (w:=w) col.path p.kids (V6 w col.t b.ctor) 0 (by omega) (fun j x y h1 h2=>⟨Q05 hp.1 (by rw [hkT];exact h2) h1,hp.2.1.2 x (U1 h1)⟩)]
  refine .del hu ?_ (DelT.refl _)
  simp only [V9,Bool.and_eq_true,decide_eq_true_eq] at hf
  have hpc:p.ctor=u.ctor:=by rw [hfit,hf.1]
  unfold Q8q
  have:u.ctor≠-1:=by rw [←hpc,hfit];exact hb
  simp [hpc,this]
theorem Z8i:∀ (k:Nat) (ps:List Q0) (cs:List Z5) (p:Q0) (c:Z5),ps[k]?=some p→cs[k]?=some c→(∀ j,j<k→∀ q,ps[j]?=some q→q.op=1)→(p.op=3∨p.op=4)→∃ s tl,Q4c ps cs=s::tl∧s.path=c.path
 | 0,q::ps,x::cs,p,c,h1,h2,_,h3=>by
  simp only [List.getElem?_cons_zero,Option.some.injEq] at h1 h2
  subst h1 h2
  rcases h3 with h3 | h3
  ·refine ⟨⟨1,x.path,-1,q.n,q.m,0,[],0⟩,Q4c ps cs,?_,rfl⟩
   rw [Q4c,X7,if_pos h3]
   rfl
  ·refine ⟨⟨1,x.path,q.ctor,0,0,0,[],0⟩,Q68 (X7 11) x.path 0 q.kids++Q4c ps cs,?_,rfl⟩
   rw [Q4c,X7,if_neg (by omega),if_pos h3]
   rfl
 | k+1,q::ps,x::cs,p,c,h1,h2,h0,h3=>by
  obtain ⟨s,tl,e1,e2⟩:=Z8i k ps cs p c (by simpa using h1) (by simpa using h2) (fun j hj y hy=>h0 (j+1) (by omega) y (by simpa using hy)) h3
  have hq:=h0 0 (by omega) q rfl
  have e:X7 12 q x.path=[]:=by rw [X7];simp [hq]
  exact ⟨s,tl,by rw [Q4c,e,e1];rfl,e2⟩
 | _,[],_,_,_,h,_,_,_=>by simp at h
 | _,_::_,[],_,_,_,h,_,_=>by simp at h
theorem X8r {sc:Nat→Int}{an:Nat→Bool}(h0:∀ i,sc i=0):∀ {n k:Nat},Q4t sc an n=some k→∀ j,j<k→an j=true:=by
 intro n
 induction n with
 | zero=>intro k h;cases h
 | succ n ih=>
  intro k h j hj
  cases ha:an n with
  | true=>
   rw [Q71 ha] at h
   exact ih h j hj
  | false=>
   cases hp:Q4t sc an n with
   | none=>
    rw [Q7w ha hp] at h
    cases h
    exact Q7x.1 hp j hj
   | some c=>
    rw [Q2v ha hp,h0,h0] at h
    simp only [Int.lt_irrefl,if_false,Option.some.injEq] at h
    subst h
    exact ih hp j hj
end Go.Proofs.YtgjpamkllimhdaaGreat
