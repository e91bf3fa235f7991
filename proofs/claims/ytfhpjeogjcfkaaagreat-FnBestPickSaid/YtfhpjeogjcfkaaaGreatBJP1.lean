import Derived.Test.YtfhpjeogjcfkaaaGreatBJP0
import Derived.Test.YtfhpjeogjcfkaaaGreatBJZ0
set_option linter.unusedSimpArgs false
set_option linter.unusedVariables false
namespace Go.Proofs.YtfhpjeogjcfkaaaGreat
open Go Go.RowKit
def CI (w:List Q4)(lst:List Q3)(pick:Int)(left:Int):X5:=⟨⟨w,dimP w⟩,lst,pick,300-left⟩
def Q57 (t:X0):List X0:=t.branches.map (fun b=>b.tree)++t.else_
def Q9y:Nat→X0→Prop
 | 0,_=>False
 | d+1,t=>(t.binds.length≤1000∧(∀ b∈t.binds,b.path.length≤1000)∧t.path.length≤1000∧t.branches.length≤20∧t.else_.length≤1)∧∀ x∈Q57 t,Q9y d x
def Q2g:Nat→X0→Nat
 | 0,_=>0
 | d+1,t=>1+((Q57 t).map (Q2g d)).sum
theorem W6i:∀ {d e:Nat} {t:X0},Q9y d t→d≤e→Q9y e t:=by
 intro d
 induction d with
 | zero=>intro e t h;exact h.elim
 | succ d ih=>
  intro e t h he
  obtain ⟨e,rfl⟩:∃ k,e=k+1:=⟨e-1,by omega⟩
  exact ⟨h.1,fun x hx=>ih (h.2 x hx) (by omega)⟩
theorem V3w:∀ {d e:Nat} {t:X0},Q9y d t→d≤e→Q2g e t=Q2g d t:=by
 intro d
 induction d with
 | zero=>intro e t h;exact h.elim
 | succ d ih=>
  intro e t h he
  obtain ⟨e,rfl⟩:∃ k,e=k+1:=⟨e-1,by omega⟩
  unfold Q2g
  rw [List.map_congr_left fun x hx=>ih (h.2 x hx) (show d≤e by omega)]
def brsR (P:Z1→X0→Prop):List Z1→List Z1→Prop
 | [],[]=>True
 | b::bs,x::xs=>(x.ctor=b.ctor∧x.n=b.n∧x.m=b.m∧P b x.tree)∧brsR P bs xs
 | _,_=>False
theorem X9e {P Q:Z1→X0→Prop}(h:∀ b t,P b t→Q b t):∀ {bs xs:List Z1},brsR P bs xs→brsR Q bs xs
 | [],[],_=>trivial
 | [],_::_,e=>e.elim
 | _::_,[],e=>e.elim
 | _::_,_::_,⟨⟨e1,e2,e3,e4⟩,e5⟩=>⟨⟨e1,e2,e3,h _ _ e4⟩,X9e h e5⟩
def Q8x (w:List Q4)(lst:List Q3)(pick:Int):Nat→X0→List Grow→List Z7→Prop
 | 0,_,_,_=>False
 | d+1,t,rows,cols=>match rows with
  | []=>t=zT
  | r0::rest=>match Z12 w (r0::rest) cols pick with
   | none=>t.op=1∧t.clause=r0.clause∧t.binds=Z0i r0.binds∧t.path=[]∧t.branches=[]∧∃ cl,lst[r0.clause.toNat]?=some cl∧
     ((cl.guard.op=0∧t.else_=[])∨(cl.guard.op≠0∧∃ el,t.else_=[el]∧Q8x w lst pick d el (Q4q (r0::rest) r0.clause) cols))
   | some k=>∃ col,cols[k]?=some col∧t.op=2∧t.clause=0∧t.binds=[]∧t.path=col.path∧t.else_=[]∧
     brsR (fun b x=>Q8x w lst pick d x (Q63 (r0::rest) k b (V6 w col b)) (Q5t cols k (V6 w col b))) (brsD w (r0::rest) col.t k) t.branches
theorem W4c {w:List Q4}{lst:List Q3}{pick:Int} : ∀ {d e:Nat} {t:X0} {rows:List Grow} {cols:List Z7},d≤e→Q8x w lst pick d t rows cols→Q8x w lst pick e t rows cols:=by
 intro d
 induction d with
 | zero=>intro e t rows cols _ h;exact h.elim
 | succ d ih=>
  intro e t rows cols he h
  obtain ⟨e,rfl⟩:∃ k,e=k+1:=⟨e-1,by omega⟩
  cases rows with
  | nil=>exact h
  | cons r0 rest=>
   simp only [Q8x] at h ⊢
   cases hp:Z12 w (r0::rest) cols pick with
   | none=>
    rw [hp] at h
    simp only at h ⊢
    obtain ⟨h1,h2,h3,h4,h5,cl,h6,h7⟩:=h
    refine ⟨h1,h2,h3,h4,h5,cl,h6,?_⟩
    rcases h7 with h7 | ⟨h7,el,h8,h9⟩
    ·exact .inl h7
    ·exact .inr ⟨h7,el,h8,ih (by omega) h9⟩
   | some k=>
    rw [hp] at h
    simp only at h ⊢
    obtain ⟨col,h1,h2,h3,h4,h5,h6,h7⟩:=h
    exact ⟨col,h1,h2,h3,h4,h5,h6,X9e (fun b t h=>ih (by omega) h) h7⟩
def Both (w:List Q4)(lst:List Q3)(pick:Int)(tot:Nat)(Q:X0→Prop)(x:Option (X0×Bool×X5))(y:Option (X0×Int)):Prop:=
 ∃ ti ok c ts e,x=some (ti,ok,c)∧y=some (ts,e)∧((ok=true∧ti=ts∧∃ l:Nat,e=(l:Int)∧c=CI w lst pick (l:Int)∧Q9y tot ti∧Q2g tot ti+l=tot∧Q ti)∨(ok=false∧e<0))
theorem V5q {n:Int}(h0:0≤n)(h:n≤100000):Q30 n=some []:=by
 unfold Q30
 have e:ilt n 0=false:=by rw [W6];exact h0
 have e0:wsub .i64 0 (lenZ 0)=0:=rfl
 have e1:wsub .i64 n 0=n:=by rw [Q3h]<;>omega
 simp only [e,U2,if_false,e0,e1]
 by_cases hn:0<n
 ·have e2:ilt 0 n=true:=by rw [Z9];exact hn
  have e3:mkS n (Z7.mk [] (Q7.mk 0 0))=some (List.replicate n.toNat (Z7.mk [] (Q7.mk 0 0))):=by
   unfold mkS;rw [if_pos ⟨h0,by simp [Q5];omega⟩]
  rw [if_pos e2,e3]
  rfl
 ·have e2:ilt 0 n=false:=by rw [W6];omega
  rw [if_neg (by rw [e2];simp)]
  rfl
theorem V1b {a b c:List Z7}(h:a.length+b.length+c.length≤100000):Q2a [a,b,c]=some (a++b++c):=by
 unfold Q2a
 have hA:wadd .i64 0 (lenZ a.length)=(a.length:Int):=by rw [V9]<;>simp only [lenZ]<;>omega
 have hB:wadd .i64 (a.length:Int) (lenZ b.length)=(a.length:Int)+b.length:=by rw [V9]<;>simp only [lenZ]<;>omega
 have hC:wadd .i64 ((a.length:Int)+b.length) (lenZ c.length)=(a.length:Int)+b.length+c.length:=by rw [V9]<;>simp only [lenZ]<;>omega
 have l1:ilt (a.length:Int) 0=false:=by rw [W6];omega
 have l2:ilt ((a.length:Int)+b.length) 0=false:=by rw [W6];omega
 have l3:ilt ((a.length:Int)+b.length+c.length) 0=false:=by rw [W6];omega
 simp only [forL,hA,hB,hC,l1,l2,l3,U2,if_false,U0]
 rw [V5q (by omega) (by omega)]
 simp only [U0]
 rw [X6 (by simp [Q5];omega)]
 simp only [U0,List.nil_append]
 rw [X6 (by simp only [Q5];omega)]
 simp only [U0]
 rw [X6 (by simp only [U5,Q5];omega)]
 rfl
theorem V1k {w:List Q4}{lst:List Q3}{pick:Int}{ρ:Type}{F:Nat→Z1→X5×List Z1→Option (Ctl (X0×Bool×X5) (X5×List Z1))}{G:Nat→Z1→Int×List Z1→Option (Ctl ρ (Int×List Z1))}{L:Nat}{brs:List Z1}{P:Z1→X0→Prop}
  (hFG:∀ b∈brs,∀ (i j l:Nat) (out:List Z1),l≤L→out.length≤20→
   (∃ (t:X0) (l':Nat),(Q9y L t∧Q2g L t+l'=l∧P b t)∧F i b (CI w lst pick l,out)=some (.go (CI w lst pick l',out++[⟨b.ctor,b.n,b.m,t⟩]))∧G j b ((l:Int),out)=some (.go ((l':Int),out++[⟨b.ctor,b.n,b.m,t⟩])))∨
   (∃ (c:X5) (e:Int) (out':List Z1),e<0∧F i b (CI w lst pick l,out)=some (.ret (zT,false,c))∧G j b ((l:Int),out)=some (.go (e,out'))))
  (hG:∀ (j:Nat) (b:Z1) (e:Int) (out:List Z1),e<0→G j b (e,out)=some (.brk (e,out))) :
  ∀ (bs:List Z1),(∀ b∈bs,b∈brs)→∀ (i j l:Nat) (out:List Z1),l≤L→out.length+bs.length≤20→
   (∃ (l':Nat) (out':List Z1),((∀ b∈out',b∈out∨Q9y L b.tree)∧(out'.map fun b=>Q2g L b.tree).sum+l'=(out.map fun b=>Q2g L b.tree).sum+l∧out'.length≤out.length+bs.length∧∃ ys,out'=out++ys∧brsR P bs ys)∧forL F i bs (CI w lst pick l,out)=some (.brk (CI w lst pick l',out'))∧forL G j bs ((l:Int),out)=some (.brk ((l':Int),out')))∨
   (∃ (c:X5) (e:Int) (out':List Z1),e<0∧forL F i bs (CI w lst pick l,out)=some (.ret (zT,false,c))∧forL G j bs ((l:Int),out)=some (.brk (e,out'))):=by
 intro bs
 induction bs with
 | nil=>intro _ i j l out hl _;exact .inl ⟨l,out,⟨fun b h=>.inl h,rfl,by simp,[],by simp,trivial⟩,rfl,rfl⟩
 | cons b bs ih=>
  intro hm i j l out hl hlen
  simp only [U3] at hlen
  rcases hFG b (hm b (by simp)) i j l out hl (by omega) with ⟨t,l',hl',e1,e2⟩ | ⟨c,e,out',he,e1,e2⟩
  ·unfold forL
   rw [e1,e2]
   rcases ih (fun x hx=>hm x (by simp [hx])) (i+1) (j+1) l' (out++[⟨b.ctor,b.n,b.m,t⟩]) (by omega) (by simp;omega) with ⟨l2,out',⟨h1,h2,h3,ys,h6,h7⟩,h4,h5⟩ | h
   ·refine .inl ⟨l2,out',⟨fun x hx=>?_,?_,?_,⟨b.ctor,b.n,b.m,t⟩::ys,by rw [h6];simp,⟨⟨rfl,rfl,rfl,hl'.2.2⟩,h7⟩⟩,h4,h5⟩
    ·rcases h1 x hx with h | h
     ·rcases List.mem_append.1 h with h | h
      ·exact .inl h
      ·simp only [U8,List.not_mem_nil,or_false] at h
       subst h
       exact .inr hl'.1
     ·exact .inr h
    ·rw [h2]
     simp only [List.map_append,List.map_cons,List.map_nil,List.sum_append,List.sum_cons,List.sum_nil]
     omega
    ·simp only [U5,U3,U4] at h3
     simp only [U3]
     omega
   ·exact .inr h
  ·refine .inr ?_
   unfold forL
   rw [e1,e2]
   cases bs with
   | nil=>exact ⟨c,e,out',he,rfl,rfl⟩
   | cons b2 bs=>
    refine ⟨c,e,out',he,rfl,?_⟩
    dsimp only
    unfold forL
    rw [hG _ _ _ _ he]
def V87 (w:List Q4)(lst:List Q3)(pick:Int)(left:Nat):Prop:=∀ (n m:Nat) (rows:List Grow) (cols:List Z7),2 * left+1500≤n→left+1500≤m→rows.length≤1000→ColC w cols left→(∀ r∈rows,RowC w lst cols r)→
 Both w lst pick left (fun t=>Q8x w lst pick left t rows cols) (Q06 n (CI w lst pick left) rows cols) (Q32 m w lst (cols.map toD) (rows.map toS) pick left)
theorem Z1w {rows:List Grow}{c:Int}{r:Grow}(h:r∈Q4q rows c):r∈rows:=(List.mem_filter.1 h).1
theorem W93 (rows:List Grow)(c:Int):(Q4q rows c).length≤rows.length:=List.length_filter_le _ _
theorem V98 {w:List Q4}{lst:List Q3}{pick:Int}{L n m:Nat}(hT:V87 w lst pick L)(hn:2 * L+1501≤n)(hm:L+1500≤m){r0:Grow}{rest:List Grow}{cols:List Z7}
  (hrl:(r0::rest).length≤1000) (hC:ColC w cols L) (hr:∀ r∈r0::rest,RowC w lst cols r) (hpk:Z12 w (r0::rest) cols pick=none) :
  Both w lst pick (L+1) (fun t=>Q8x w lst pick (L+1) t (r0::rest) cols) (Q1q n (CI w lst pick L) (r0::rest) cols)
   (((Q35 m r0.binds).bind fun r27=>((idx lst r0.clause).bind fun x30=>
    (if (ieq x30.guard.op 0)=true then some (((X0.mk 1 r0.clause r27 [] [] []),(L:Int)))
    else ((Q4h ((r0::rest).map toS) r0.clause).bind fun r32=>((Q32 m w lst (cols.map toD) r32 pick L).bind fun r33=>some (((X0.mk 1 r0.clause r27 [] [] [r33.1]),r33.2)))))))):=by
 obtain ⟨n,rfl⟩:∃ k,n=k+1:=⟨n-1,by omega⟩
 have h0:=hr r0 (by simp)
 obtain ⟨b1,b2,b3⟩:=h0.binds
 unfold Q1q
 rw [show idx (r0::rest) 0=some r0 from rfl]
 simp only [U0]
 rw [Z1o _ (by simp only [Q5];omega)]
 simp only [U0]
 rw [W2l (by omega) (by omega) b1 b2,Z8h (by omega) (by omega) (fun b hb=>by have:=h0.bp b hb;omega)]
 simp only [U0]
 rw [Z53 (by rw [(Q80 b2).length_eq];simp)]
 simp only [U0]
 have hcl:r0.clause.toNat<lst.length:=by have:=h0.c0;have:=h0.c1;omega
 have hcl2:idx lst r0.clause=some (lst[r0.clause.toNat]):=Z2p h0.c0 (U9 hcl)
 rw [show (CI w lst pick (L:Int)).list=lst from rfl,hcl2]
 simp only [U0]
 have hcg:lst[r0.clause.toNat]?=some (lst[r0.clause.toNat]):=U9 hcl
 generalize lst[r0.clause.toNat]=cl at hcg ⊢
 have hsl:=(Q80 b2).length_eq
 have hbs:∀ (el:List X0),el.length≤1→((Z0i r0.binds).length≤1000∧(∀ b∈Z0i r0.binds,b.path.length≤1000)∧([]:List Int).length≤1000∧([]:List Z1).length≤20∧el.length≤1):=fun el he=>
  ⟨by omega,fun b hb=>h0.bp b ((Q80 b2).mem_iff.1 hb),by simp,by simp,he⟩
 by_cases hg:cl.guard.op=0
 ·have e:ieq cl.guard.op 0=true:=by simp [ieq,hg]
  simp only [e,if_true]
  exact ⟨_,_,_,_,_,rfl,rfl,.inl ⟨rfl,rfl,L,rfl,rfl,⟨hbs [] (by simp),by simp [Q57]⟩,by simp [Q2g,Q57];omega,by simp only [Q8x,hpk];exact ⟨trivial,trivial,trivial,trivial,trivial,cl,hcg,.inl ⟨hg,trivial⟩⟩⟩⟩
 ·have e:ieq cl.guard.op 0=false:=by simp [ieq,hg]
  simp only [e,U2,if_false]
  simp only [U3] at hrl
  rw [V1d (by simp only [U3];omega)]
  simp only [U0]
  rw [X8d (by simp only [U3];omega) (by omega),X79 (by simp only [U3];omega)]
  simp only [U0]
  have hol:=W93 (r0::rest) r0.clause
  simp only [U3] at hol
  obtain ⟨ti,ok,c,ts,e,h1,h2,h3⟩:=hT n m (Q4q (r0::rest) r0.clause) cols (by omega) hm (by omega) hC (fun r h=>hr r (Z1w h))
  rw [h1,h2]
  simp only [U0]
  refine ⟨_,_,_,_,_,rfl,rfl,?_⟩
  rcases h3 with ⟨rfl,rfl,l,rfl,rfl,hd,hz,hq⟩ | ⟨rfl,he⟩
  ·exact .inl ⟨rfl,rfl,l,rfl,rfl,⟨hbs [ti] (by simp),by simpa [Q57] using hd⟩,by simp [Q2g,Q57];omega,by simp only [Q8x,hpk];exact ⟨trivial,trivial,trivial,trivial,trivial,cl,hcg,.inr ⟨hg,ti,rfl,hq⟩⟩⟩
  ·exact .inr ⟨rfl,he⟩
theorem W2n (rows:List Grow)(k:Nat)(b:Z1)(args:List Z7):(Q63 rows k b args).length≤rows.length:=by
 unfold Q63
 rw [U7]
 exact List.length_filter_le _ _
theorem V8f {w:List Q4}(hw:WW w)(hL:WL w)(hS:WS w){lst:List Q3}{pick:Int} : ∀ left:Nat,left≤300→V87 w lst pick left:=by
 intro left
 induction left using Nat.strongRecOn with
 | ind left ih=>
 intro hle n m rows cols hn hm hrl hC hr
 obtain ⟨n,rfl⟩:∃ k,n=k+1:=⟨n-1,by omega⟩
 obtain ⟨m,rfl⟩:∃ k,m=k+1:=⟨m-1,by omega⟩
 unfold Q06 Q32
 have hcnt:(CI w lst pick (left:Int)).count=300-(left:Int):=rfl
 rw [hcnt,V9 (by omega) (by omega),Q3h (by omega) (by omega)]
 cases left with
 | zero=>
  have e1:ilt 300 (300-((0:Nat):Int)+1)=true:=rfl
  have e2:ilt (((0:Nat):Int)-1) 0=true:=rfl
  rw [if_pos e1,if_pos e2]
  exact ⟨_,_,_,_,_,rfl,rfl,.inr ⟨rfl,by omega⟩⟩
 | succ L=>
 have e1:ilt 300 (300-((L+1:Nat):Int)+1)=false:=by rw [W6];omega
 have e2:ilt (((L+1:Nat):Int)-1) 0=false:=by rw [W6];omega
 have eC:(X5.mk (CI w lst pick ((L+1:Nat):Int)).spaces (CI w lst pick ((L+1:Nat):Int)).list (CI w lst pick ((L+1:Nat):Int)).pick (300-((L+1:Nat):Int)+1))=CI w lst pick (L:Int):=by
  show X5.mk ⟨w,dimP w⟩ lst pick (300-((L+1:Nat):Int)+1)=X5.mk ⟨w,dimP w⟩ lst pick (300-(L:Int))
  rw [show 300-((L+1:Nat):Int)+1=300-(L:Int) by omega]
 rw [e1,e2,eC,show (((L+1:Nat):Int)-1)=(L:Int) by omega]
 simp only [U2,if_false,U7]
 have hCL:ColC w cols L:=⟨hC.ty,fun c hc=>by have:=hC.path c hc;omega,by have:=hC.len;omega⟩
 cases rows with
 | nil=>
  have e:ieq (lenZ ([]:List Grow).length) 0=true:=rfl
  rw [if_pos e,if_pos e]
  exact ⟨_,_,_,_,_,rfl,rfl,.inl ⟨rfl,rfl,L,rfl,rfl,⟨by simp,by simp [Q57]⟩,by simp [Q2g,Q57];omega,by simp only [Q8x];rfl⟩⟩
 | cons r0 rest=>
 have e:ieq (lenZ (r0::rest).length) 0=false:=by
  rw [ieq,decide_eq_false_iff_not,V7,U3]
  omega
 have h0:=hr r0 (by simp)
 have hlen:=hC.len
 simp only [e,U2,if_false]
 rw [show idx ((r0::rest).map toS) 0=some (toS r0) from rfl]
 simp only [U0]
 have hch:=X5a hw hL (n:=n) (by omega) (lst:=lst) (pick:=pick) (count:=300-(L:Int)) (rows:=r0::rest) (cols:=cols) (by simp) (by omega) hC.ty (fun k hk=>RowC.rng hr hk)
 rw [show Q0n n (CI w lst pick (L:Int)) (r0::rest) cols=some (optI (Z12 w (r0::rest) cols pick),CI w lst pick (L:Int)) from hch,Z8g]
 simp only [U0]
 have hfirst:Z36 (toR (toS r0))=none↔Z12 w (r0::rest) cols pick=none:=by
  unfold Z36 Z12
  rw [Z0c,Z0c]
  have hpl:(toR (toS r0)).pats.length=cols.length:=h0.len
  rw [hpl]
  exact Iff.rfl
 cases hp:Z12 w (r0::rest) cols pick with
 | none=>
  rw [hfirst.2 hp]
  have e:ilt (optI none) 0=true:=rfl
  simp only [e,if_true]
  obtain ⟨ti,ok,c,ts,e,h1,h2,h3⟩:=V98 (ih L (by omega) (by omega)) (n:=n) (m:=m) (by omega) (by omega) hrl hCL hr hp
  rw [h1]
  simp only [U0]
  exact ⟨ti,ok,c,ts,e,rfl,h2,h3⟩
 | some k=>
 obtain ⟨f,hf⟩:∃ f,Z36 (toR (toS r0))=some f:=by
  cases hq:Z36 (toR (toS r0)) with
  | none=>rw [hfirst.1 hq] at hp;cases hp
  | some f=>exact ⟨f,rfl⟩
 rw [hf]
 have e3:ilt (optI (some k)) 0=false:=by rw [W6];simp [optI]
 have e4:ilt (optI (some f)) 0=false:=by rw [W6];simp [optI]
 simp only [e3,e4,U2,if_false]
 have hkl:k<cols.length:=(Z6j hp).1
 obtain ⟨col,hk⟩:∃ c,cols[k]?=some c:=⟨_,U9 hkl⟩
 have hct:=hC.ty col (U1 hk)
 have hT:=hw.ty _ hct
 have hpl:=hC.path col (U1 hk)
 have hpk:=W08 hw hS (n:=m) (by omega) (pick:=pick) (row:=toS r0) (rest:=rest.map toS) (cols:=cols.map toD) (by simp only [U3,U7] at hrl ⊢;omega) (by rw [U7];omega) (by rw [U7];omega) (by rw [U7];exact h0.len)
  (fun c hc=>by obtain ⟨c',hc',rfl⟩:=U10.1 hc;exact hC.ty c' hc')
  (fun j hj=>by rw [←List.map_cons,toRS];exact RowC.rng hr (by rw [U7] at hj;exact hj)) hf
 rw [←List.map_cons,toRS,toCD,hp] at hpk
 rw [hpk]
 simp only [U0,optI]
 rw [Q0f hk,Q0f (show (cols.map toD)[k]?=some (toD col) by rw [List.getElem?_map,hk];rfl)]
 simp only [U0]
 rw [Q6q _ (by simp only [Q5];omega),X6 (by simp only [toD,U4,Q5];omega)]
 simp only [U0]
 have hbr:=Z3p hw hL (n:=n) (by omega) (lst:=lst) (pick:=pick) (count:=300-(L:Int)) (rows:=r0::rest) hk hct (RowC.rng hr hkl)
 rw [show J0 n (CI w lst pick (L:Int)) (r0::rest) cols (k:Int)=some (brsD w (r0::rest) col.t k,CI w lst pick (L:Int)) from hbr]
 have hcu:=Z57 hw hS (n:=m) (by omega) (rows:=(r0::rest).map toS) (col:=toD col) (k:=k) hct (by rw [toRS];exact RowC.rng hr hkl)
 rw [toRS] at hcu
 rw [hcu]
 simp only [U0]
 generalize hrows:r0::rest=rows at *
 have hbl:=W24 hT rows k
 rw [show (toD col).kind=col.t from rfl]
 generalize hbrs:brsD w rows col.t k=brs at *
 generalize hF:(fun (k2328:Nat) (x2329:Z1) (s2322:X5×(List Z1))=>_)=F
 generalize hG:(fun (k186:Nat) (x187:Z1) (s180:Int×(List Z1))=>_)=G
 have hloop:=V1k (w:=w) (lst:=lst) (pick:=pick) (F:=F) (G:=G) (L:=L) (brs:=brs) (P:=fun b x=>Q8x w lst pick L x (Q63 rows k b (V6 w col b)) (Q5t cols k (V6 w col b))) (fun b hb i j l out hl hol=>?_) (fun j b e out he=>?_) brs (fun b h=>h) 0 0 L [] (Nat.le_refl _) (by simp;omega)
 ·rcases hloop with ⟨l',out',⟨g1,g2,g3,ys,g4,g5⟩,e1,e2⟩ | ⟨c,e,out',he,e1,e2⟩
  ·rw [e1,e2]
   refine ⟨_,_,_,_,_,rfl,rfl,.inl ⟨rfl,rfl,l',rfl,rfl,⟨⟨by simp,by simp,by simp only;omega,by simp only [U4] at g3 ⊢;omega,by simp⟩,fun x hx=>?_⟩,?_,?_⟩⟩
   ·simp only [Q57,List.append_nil] at hx
    obtain ⟨b,hb,rfl⟩:=U10.1 hx
    rcases g1 b hb with h | h
    ·cases h
    ·exact h
   ·simp only [Q2g,Q57,List.append_nil,List.map_map]
    have:(List.map (Q2g L∘fun b=>b.tree) out')=out'.map fun b=>Q2g L b.tree:=rfl
    rw [this]
    simp only [List.map_nil,List.sum_nil] at g2
    omega
   ·rw [←hrows] at hp g5 hbrs ⊢
    simp only [Q8x,hp]
    rw [g4,List.nil_append]
    exact ⟨col,hk,trivial,trivial,trivial,rfl,trivial,by rw [hbrs];exact g5⟩
  ·rw [e1,e2]
   exact ⟨_,_,_,_,_,rfl,rfl,.inr ⟨rfl,he⟩⟩
 ·have hB:BrC w col.t b:=V6o hL hct b (by rw [hbrs];exact hb)
  have hCn:ColC w (Q5t cols k (V6 w col b)) l:=by
   have:=ColC.next hw hC hk hB
   exact ⟨this.ty,fun c hc=>by have:=this.path c hc;omega,by have:=this.len;omega⟩
  have hRn:∀ r∈Q63 rows k b (V6 w col b),RowC w lst (Q5t cols k (V6 w col b)) r:=fun r hr'=>by
   unfold Q63 at hr'
   obtain ⟨r1,h1,rfl⟩:=U10.1 hr'
   obtain ⟨h2,h3⟩:=List.mem_filter.1 h1
   exact RowC.next hw hS hC (hr r1 h2) hk hB h3
  have hrn:=W2n rows k b (V6 w col b)
  have hK:∀ r∈rows,W48 r k b (V6 w col b):=fun r h=>RowC.kept hw hS hC (hr r h) hk hB
  obtain ⟨ti,ok,c,ts,e,h1,h2,h3⟩:=ih l (by omega) (by omega) n m (Q63 rows k b (V6 w col b)) (Q5t cols k (V6 w col b)) (by omega) (by omega) (by omega) hCn hRn
  have hal:(V6 w col b).length≤3:=(hK r0 (by rw [←hrows];simp)).al
  have hI:F i b (CI w lst pick l,out)=some (if ok=true then .go (c,out++[⟨b.ctor,b.n,b.m,ti⟩]) else .ret (zT,false,c)):=by
   suffices hs:Ret (F i b (CI w lst pick l,out)) (fun a=>a=(if ok=true then .go (c,out++[⟨b.ctor,b.n,b.m,ti⟩]) else .ret (zT,false,c))) by
    obtain ⟨a,e,rfl⟩:=hs
    exact e
   rw [←hF]
   refine Ret.ctl (R:=fun _=>False) (B:=fun s=>s=V6 w col b) ?_ (fun r h=>h.elim) (fun s hs=>?_)
   ·by_cases hc:b.ctor = -1
    ·have e:(!ieq b.ctor (-1))=false:=by simp [ieq,hc]
     simp only [e,U2,if_false]
     exact .some (by simp [V6,hc])
    ·have e:(!ieq b.ctor (-1))=true:=by simp [ieq,hc]
     have hd:col.t.data≠-1:=fun hd=>hc (hB.int hd)
     simp only [e,if_true]
     rw [show (CI w lst pick (l:Int)).spaces.w=w from rfl,hT.a2 _ (hB.ctor hd).1]
     simp only [U0]
     refine Ret.ctl (Z5 (Q09 w col.t b.ctor) (fun i s=>s=(V6 w col b).take i) (fun _=>False) (fun s=>s=V6 w col b) (by simp) (fun i t s hi hI=>?_) (fun s hI=>?_)) (fun r hr=>hr.elim) (fun s hs=>.some hs)
     ·rw [X6 (by simp only [U3,U4,Q5];omega)]
      simp only [U0]
      rw [X6 (by rw [hI];simp only [U6,U3,U4,Q5];omega)]
      exact .some (by simp only [Q05];rw [hI,List.take_add_one,Z40 hc hi];rfl)
     ·rw [hI,show (Q09 w col.t b.ctor).length=(V6 w col b).length by rw [Q8v,if_neg hc],List.take_length]
   ·subst hs
    dsimp only
    refine Ret.ctl (Z5 rows (fun i s=>s=Q63 (rows.take i) k b (V6 w col b)) (fun _=>False) (fun s=>s=Q63 rows k b (V6 w col b)) (by simp [Q63]) (fun i r s hi hI=>?_) (fun s hI=>by rw [hI,List.take_length])) (fun r hr=>hr.elim) (fun s hs=>?_)
    ·have hil:i<rows.length:=(List.getElem?_eq_some_iff.1 hi).1
     rw [W0x (by omega) (hK r (U1 hi))]
     simp only [U0]
     have hsl:s.length≤1000:=by
      rw [hI]
      have:=W2n (rows.take i) k b (V6 w col b)
      rw [U6] at this
      omega
     have hstep:Q63 (rows.take (i+1)) k b (V6 w col b)=Q63 (rows.take i) k b (V6 w col b)++(if Q5s (W1 r k) b=true then [Q8q r k (V6 w col b)] else []):=by
      unfold Q63
      rw [List.take_add_one,hi]
      simp only [Option.toList_some,List.filter_append,List.map_append]
      by_cases hf:Q5s (W1 r k) b=true<;>simp [hf]
     by_cases hf:Q5s (W1 r k) b=true
     ·rw [if_pos hf]
      simp only [if_true]
      rw [X6 (by simp only [U3,U4,Q5];omega)]
      exact .some (by simp only [Q05];rw [hstep,if_pos hf,hI])
     ·rw [if_neg hf]
      simp only [U2,if_false]
      exact .some (by simp only [Q05];rw [hstep,if_neg hf,hI,List.append_nil])
    ·subst hs
     dsimp only
     rw [Z62 (by omega)]
     simp only [U0]
     rw [V9 (by omega) (by omega),show ((k:Int)+1)=((k+1:Nat):Int) by simp,Z9r (by omega)]
     simp only [U0]
     rw [V1b (by simp only [U6,List.length_drop];omega)]
     simp only [U0]
     rw [show cols.take k++V6 w col b++cols.drop (k+1)=Q5t cols k (V6 w col b) from rfl,h1]
     simp only [U0]
     cases ok with
     | true=>
      simp only [Bool.not_true,U2,if_false]
      rw [X6 (by simp only [U3,U4,Q5];omega)]
      exact .some (by simp)
     | false=>
      simp only [Bool.not_false,if_true]
      exact .some (by simp [zT])
  have hJ:G j b ((l:Int),out)=some (.go (e,out++[⟨b.ctor,b.n,b.m,ts⟩])):=by
   rw [←hG]
   have e1:ile 0 (l:Int)=true:=by rw [J6];omega
   have hb2:b.ctor≠-1→b.ctor∈W9 w col.t:=fun h=>(hB.ctor fun hd=>h (hB.int hd)).1
   simp only [e1,if_true]
   rw [Z66 hT hk hb2 (by omega) (by omega)]
   simp only [U0]
   rw [W0a (by omega) hT hk hb2 (by omega) (by omega) (by omega) (fun r h=>⟨hK r h,(hr r h).len⟩)]
   simp only [U0]
   rw [h2]
   simp only [U0]
   rw [X6 (by simp only [U3,U4,Q5];omega)]
   rfl
  rw [hI,hJ]
  rcases h3 with ⟨rfl,rfl,l',rfl,rfl,hd,hz,hq⟩ | ⟨rfl,he⟩
  ·exact .inl ⟨ti,l',⟨W6i hd hl,by rw [V3w hd hl];exact hz,W4c hl hq⟩,by simp,rfl⟩
  ·exact .inr ⟨c,e,_,he,by simp,rfl⟩
 ·rw [←hG]
  have e1:ile 0 e=false:=by rw [Q7h];omega
  simp only [e1,U2,if_false]
theorem X0m {l:List Q1}(hl:l.length≤1000)(hp:∀ b∈l,b.path.length≤1000):Q3o l=some l:=by
 suffices hs:Ret (Q3o l) (fun a=>a=l) by
  obtain ⟨a,e,rfl⟩:=hs
  exact e
 unfold Q3o
 refine Ret.ctl (Z5 l (fun i s=>s=l.take i) (fun _=>False) (fun s=>s=l) (by simp) (fun i x s hi hI=>?_) (fun s hI=>by rw [hI,List.take_length])) (fun r hr=>hr.elim) (fun s hs=>.some hs)
 have hx:=hp x (U1 hi)
 rw [Q6q _ (by simp only [Q5];omega)]
 simp only [U0]
 rw [X6 (by rw [hI];simp only [U6,U3,U4,Q5];omega)]
 exact .some (by simp only [Q05];rw [hI,List.take_add_one,hi];rfl)
theorem W6p (x:Z1):Z1.mk x.ctor x.n x.m x.tree=x:=by cases x;rfl
theorem V3i (t:X0):X0.mk t.op t.clause t.binds t.path t.branches t.else_=t:=by cases t;rfl
theorem W4s:∀ (d n:Nat) (t:X0),Q9y d t→d≤n→Q2k n t=some t:=by
 intro d
 induction d with
 | zero=>intro n t h;exact h.elim
 | succ d ih=>
  intro n t h hn
  obtain ⟨n,rfl⟩:∃ k,n=k+1:=⟨n-1,by omega⟩
  obtain ⟨⟨h1,h2,h3,h4,h5⟩,h6⟩:=h
  suffices hs:Ret (Q2k (n+1) t) (fun a=>a=t) by
   obtain ⟨a,e,rfl⟩:=hs
   exact e
  unfold Q2k
  rw [X0m h1 h2,Q6q _ (by simp only [Q5];omega)]
  simp only [U0]
  refine Ret.ctl (Z5 t.branches (fun i s=>s=t.branches.take i) (fun _=>False) (fun s=>s=t.branches) (by simp) (fun i x s hi hI=>?_) (fun s hI=>by rw [hI,List.take_length])) (fun r hr=>hr.elim) (fun s hs=>?_)
  ·rw [ih n x.tree (h6 _ (List.mem_append_left _ (List.mem_map_of_mem (U1 hi)))) (by omega)]
   simp only [U0]
   rw [X6 (by rw [hI];simp only [U6,U3,U4,Q5];omega)]
   exact .some (by simp only [Q05];rw [hI,List.take_add_one,hi,W6p];rfl)
  ·subst hs
   refine Ret.ctl (Z5 t.else_ (fun i s=>s=t.else_.take i) (fun _=>False) (fun s=>s=t.else_) (by simp) (fun i x s hi hI=>?_) (fun s hI=>by rw [hI,List.take_length])) (fun r hr=>hr.elim) (fun s hs=>.some (by rw [hs,V3i]))
   rw [ih n x (h6 _ (List.mem_append_right _ (U1 hi))) (by omega)]
   simp only [U0]
   rw [X6 (by rw [hI];simp only [U6,U3,U4,Q5];omega)]
   exact .some (by simp only [Q05];rw [hI,List.take_add_one,hi];rfl)
def Q2r (k:Nat)(p:Q0):Grow:=⟨(k:Int),[(Q7a p []).2],(Q7a p []).1⟩
def Q2y (l:List Q3):Nat→List Grow
 | 0=>[]
 | i+1=>Q2y l i++(match l[i]? with
  | none=>[]
  | some c=>(Z3 10 c.pat).map (Q2r i))
theorem Z7h {l:List Q3} : ∀ {i:Nat} {r:Grow},r∈Q2y l i→∃ k c p,l[k]?=some c∧p∈Z3 10 c.pat∧r=Q2r k p:=by
 intro i
 induction i with
 | zero=>intro r h;cases h
 | succ i ih=>
  intro r h
  rw [Q2y] at h
  rcases List.mem_append.1 h with h | h
  ·exact ih h
  ·cases hc:l[i]? with
   | none=>rw [hc] at h;cases h
   | some c=>
    rw [hc] at h
    obtain ⟨p,hp,rfl⟩:=U10.1 h
    exact ⟨i,c,p,hc,hp,rfl⟩
theorem Z7i {l:List Q3}(h:∀ c∈l,(Z3 10 c.pat).length≤40):∀ i,(Q2y l i).length≤40 * i:=by
 intro i
 induction i with
 | zero=>simp [Q2y]
 | succ i ih=>
  rw [Q2y,U5]
  cases hc:l[i]? with
  | none=>simp only [U4];omega
  | some c=>
   have:=h c (U1 hc)
   simp only [U7]
   omega
def V1w (w:List Q4)(t:Q7)(l:List Q3):Prop:=∀ c∈l,Q0e w 10 t c.pat=true∧linD w 10 t c.pat=true
theorem X0c {w:List Q4}(hw:WW w){t:Q7}{l:List Q3}(hl:V1w w t l)(hll:l.length≤8):∀ r∈Q2y l l.length,RowC w l [⟨[],t⟩] r:=fun r hr=>by
 obtain ⟨k,c,p,hk,hp,rfl⟩:=Z7h hr
 obtain ⟨g,ln⟩:=hl c (U1 hk)
 have hkl:=(List.getElem?_eq_some_iff.1 hk).1
 have hO:PatO w t p:=⟨Q31 11 t p (Q31 10 t p (Q7z 10 t c.pat p g hp)),Q6p 11 p (Q6p 10 p (Z1t 10 c.pat p hp))⟩
 obtain ⟨s1,s2,s3⟩:=X02 [] hO
 have hv:X2m (Q2r k p)=Q56 p:=by
  unfold X2m Q2r
  simp only [List.flatMap_cons,List.flatMap_nil,List.append_nil]
  exact s2
 have hperm:=Z7d 10 t c.pat p g ln hp
 have hd:=Q3b 10 t c.pat g ln
 simp only [Q1i,decide_eq_true_eq] at hd
 refine ⟨rfl,fun x hx=>?_,?_,fun v hv'=>?_,by simp [Q2r],by simp only [Q2r];omega,fun b hb=>?_⟩
 ·simp only [Q2r,List.zip_cons_cons,List.zip_nil_right,U8,List.not_mem_nil,or_false] at hx
  rw [hx]
  exact s1
 ·rw [hv];exact hperm.nodup_iff.2 hd
 ·rw [hv] at hv'
  obtain ⟨y,hy,rfl⟩:=U10.1 (hperm.mem_iff.1 hv')
  exact Z07 10 t c.pat g y hy
 ·rw [s3 b hb];simp
theorem Z6q {w:List Q4}(hw:WW w){t:Q7}(ht:t∈tys w){l:List Q3}(hl:V1w w t l)(hll:l.length≤8) :
  Q1k NN l=some (if l.all (fun c=>decide ((Z3 10 c.pat).length≤40))=true then (l.map (fun c=>Z3 10 c.pat),true) else ([],false)):=by
 suffices hs:Ret (Q1k NN l) (fun a=>a=(if l.all (fun c=>decide ((Z3 10 c.pat).length≤40))=true then (l.map (fun c=>Z3 10 c.pat),true) else ([],false))) by
  obtain ⟨a,e,rfl⟩:=hs
  exact e
 unfold Q1k
 refine Ret.ctl (Z5 l (fun i s=>s=(l.take i).map (fun c=>Z3 10 c.pat)∧∀ c∈l.take i,(Z3 10 c.pat).length≤40) (fun r=>r=([],false)∧∃ c∈l,40<(Z3 10 c.pat).length) (fun s=>s=l.map (fun c=>Z3 10 c.pat)∧∀ c∈l,(Z3 10 c.pat).length≤40) ⟨by simp,by simp⟩ (fun i c s hi hI=>?_) (fun s hI=>by rw [List.take_length] at hI;exact hI)) (fun r hr=>.some ?_) (fun s hs=>.some ?_)
 ·obtain ⟨g,_⟩:=hl c (U1 hi)
  have hor:=X18 hw 10 t c.pat ht g
  have hil:i<l.length:=(List.getElem?_eq_some_iff.1 hi).1
  rw [X61 10 NN c.pat hor (by decide)]
  simp only [U0]
  by_cases hc:(Z3 10 c.pat).length≤40
  ·have e:ilt 40 ((min (Z3 10 c.pat).length 401:Nat):Int)=false:=by rw [W6];omega
   simp only [e,U2,if_false]
   rw [X8b 10 NN c.pat hor (by decide) (by omega)]
   simp only [U0]
   rw [X6 (by rw [hI.1];simp only [U7,U6,U3,U4,Q5];omega)]
   refine .some ⟨by rw [hI.1,List.take_add_one,hi];simp,fun c' hc'=>?_⟩
   rw [List.take_add_one,hi] at hc'
   rcases List.mem_append.1 hc' with h | h
   ·exact hI.2 c' h
   ·simp only [Option.toList_some,U8,List.not_mem_nil,or_false] at h
    rw [h];exact hc
  ·have e:ilt 40 ((min (Z3 10 c.pat).length 401:Nat):Int)=true:=by rw [Z9];omega
   simp only [e,if_true]
   exact .some ⟨rfl,c,U1 hi,by omega⟩
 ·obtain ⟨rfl,c,hc,hlt⟩:=hr
  rw [if_neg]
  rw [List.all_eq_true]
  intro h
  have:=h c hc
  simp only [decide_eq_true_eq] at this
  omega
 ·obtain ⟨rfl,h⟩:=hs
  rw [if_pos]
  rw [List.all_eq_true]
  exact fun c hc=>by simpa using h c hc
structure Comp (Q:X0→Prop) (x y:Option (X0×Bool)):Prop where
 tr:∀ t,x=some (t,true)→Q t
 eq:∃ t ok,x=some (t,ok)∧y=some (t,ok)∧(ok=false→t=zT)∧Q9y 300 t∧Q2g 300 t≤300
theorem W7l:Q9y 300 zT:=⟨by simp [zT],by simp [Q57,zT]⟩
theorem W7k:Q2g 300 zT=1:=by
 show 1+((Q57 zT).map (Q2g 299)).sum=1
 rw [show Q57 zT=[] from rfl]
 simp
theorem Comp.no {Q:X0→Prop}{x y:Option (X0×Bool)}(h1:x=some (zT,false))(h2:y=some (zT,false)):Comp Q x y:=⟨fun t h=>by rw [h1] at h;simp at h,zT,false,h1,h2,fun _=>rfl,W7l,by rw [W7k];omega⟩
theorem V16 {ρ σ τ:Type}{x:Option (Ctl ρ σ)}{s0:σ}{g:Ctl ρ σ→Option τ}(h:Ret x (CtlQ (fun _=>False) (fun s=>s=s0))):x.bind g=g (.brk s0):=by
 obtain ⟨o,rfl,ho⟩:=h
 cases o with
 | ret r=>exact ho.elim
 | go s=>exact ho.elim
 | brk s=>rw [show s=s0 from ho];rfl
theorem V9x {ρ σ τ:Type}{x:Option (Ctl ρ σ)}{r0:ρ}{g:Ctl ρ σ→Option τ}(h:Ret x (CtlQ (fun r=>r=r0) (fun _=>False))):x.bind g=g (.ret r0):=by
 obtain ⟨o,rfl,ho⟩:=h
 cases o with
 | ret r=>rw [show r=r0 from ho];rfl
 | go s=>exact ho.elim
 | brk s=>exact ho.elim
def canC (w:List Q4)(t:Q7)(l:List Q3)(pick:Int):Bool:=Q2m w t l&&(decide (0≤pick)&&decide (pick≤2))&&l.all (fun c=>decide ((Z3 10 c.pat).length≤40))
theorem Z5c {w:List Q4}{t:Q7}{l:List Q3}(h:Q2m w t l=true):l.length≤8∧V1w w t l:=by
 simp only [Q2m,Bool.and_eq_true,decide_eq_true_eq,List.all_eq_true] at h
 refine ⟨h.1,fun c hc=>?_⟩
 have:=h.2 c hc
 simp only [Q8t,Bool.and_eq_true] at this
 obtain ⟨g,_,ln⟩:=Q5u this.1
 exact ⟨g,ln⟩
theorem W32 {w:List Q4}(hww:w∈Q0r){t:Q7}(ht:t∈tys w)(l:List Q3)(pick:Int) :
  W2 NN w t l pick=if canC w t l pick=true then ((Q06 NN (CI w l pick ((300:Nat):Int)) (Q2y l l.length) [⟨[],t⟩]).bind fun r=>if (!r.2.1)=true then some (zT,false) else (Q2k NN r.1).bind fun r2=>some (r2,true)) else some (zT,false):=by
 have hw:=ww hww
 have hz:X0.mk 0 0 [] [] [] []=zT:=rfl
 unfold W2 canC
 rw [Z1l hw ht l]
 simp only [U0,hz]
 cases hv:Q2m w t l with
 | false=>simp
 | true=>
 obtain ⟨hll,hP⟩:=Z5c hv
 rw [Q8a]
 simp only [U0,Bool.not_true,U2,if_false,Bool.true_and]
 cases hp:(decide (0≤pick)&&decide (pick≤2)) with
 | false=>simp
 | true=>
 simp only [Bool.not_true,U2,if_false,Bool.true_and]
 rw [Z6q hw ht hP hll]
 simp only [U0]
 cases hA:l.all (fun c=>decide ((Z3 10 c.pat).length≤40)) with
 | false=>simp
 | true=>
 simp only [if_true,Bool.not_true,U2,if_false]
 have hA':∀ c∈l,(Z3 10 c.pat).length≤40:=fun c hc=>by simpa using List.all_eq_true.1 hA c hc
 refine (V16 (s0:=Q2y l l.length) ?_).trans ?_
 ·refine Z5 (l.map fun c=>Z3 10 c.pat) (fun i s=>s=Q2y l i) (fun _=>False) (fun s=>s=Q2y l l.length) rfl (fun i ps s hi hI=>?_) (fun s hI=>by rw [hI,U7])
  rw [List.getElem?_map,U11] at hi
  obtain ⟨c,hi,rfl⟩:=hi
  have hc:=U1 hi
  have hil:i<l.length:=(List.getElem?_eq_some_iff.1 hi).1
  have hri:=Z7i hA' i
  have hcl:=hA' c hc
  refine Ret.ctl (Z5 (Z3 10 c.pat) (fun j u=>u=Q2y l i++((Z3 10 c.pat).take j).map (Q2r i)) (fun _=>False) (fun u=>u=Q2y l (i+1)) (by simp [hI]) (fun j p u hj hJ=>?_) (fun u hJ=>?_)) (fun r hr=>hr.elim) (fun u hu=>.some hu)
  ·have hjl:j<(Z3 10 c.pat).length:=(List.getElem?_eq_some_iff.1 hj).1
   have has:=X19 10 t p (Q7z 10 t c.pat p (hP c hc).1 (U1 hj))
   rw [W3u (d:=10) (n:=NN) has (by omega) (by decide) (by simp) (by simp) (by simp)]
   simp only [U0,List.nil_append]
   rw [X6 (by rw [hJ];simp only [U5,U7,U6,U3,U4,Q5];omega)]
   exact .some (by simp only [Q05];rw [hJ,List.take_add_one,hj];simp [Q2r])
  ·rw [hJ,List.take_length,Q2y,hi]
 ·dsimp only
  rw [(wl hww).dim]
  simp only [U0]
  rfl
theorem V3t {w:List Q4}(hww:w∈Q0r){t:Q7}(ht:t∈tys w)(l:List Q3)(pick:Int) :
  Q0g NN w t l pick=if canC w t l pick=true then ((Q32 NN w l [⟨[],t⟩] ((Q2y l l.length).map toS) pick ((300:Nat):Int)).bind fun r=>if ilt r.2 0=true then some (zT,false) else some (r.1,true)) else some (zT,false):=by
 have hw:=ww hww
 have hz:X0.mk 0 0 [] [] [] []=zT:=rfl
 unfold Q0g canC
 rw [Z4s hw ht l]
 simp only [U0,hz]
 cases hv:Q2m w t l with
 | false=>simp
 | true=>
 obtain ⟨hll,hP⟩:=Z5c hv
 simp only [Bool.not_true,U2,if_false,Bool.true_and]
 by_cases p0:pick<0
 ·have e1:ilt pick 0=true:=by rw [Z9];exact p0
  have e2:(decide ((0:Int)≤pick)&&decide (pick≤2))=false:=by simp;omega
  simp only [e1,e2,if_true,Bool.false_and,U2,if_false]
 have e1:ilt pick 0=false:=by rw [W6];omega
 simp only [e1,U2,if_false]
 by_cases p2:2<pick
 ·have e1:ilt 2 pick=true:=by rw [Z9];exact p2
  have e2:(decide ((0:Int)≤pick)&&decide (pick≤2))=false:=by simp;omega
  simp only [e1,e2,if_true,Bool.false_and,U2,if_false]
 have e1:ilt 2 pick=false:=by rw [W6];omega
 have e2:(decide ((0:Int)≤pick)&&decide (pick≤2))=true:=by simp;omega
 simp only [e1,e2,U2,if_false,Bool.true_and]
 unfold Q7m
 have hsp:∀ c∈l,Y5 NN c.pat=some ((Z3 10 c.pat).take 401):=fun c hc=>Z8f 10 NN c.pat (X18 hw 10 t c.pat ht (hP c hc).1) (by decide)
 cases hA:l.all (fun c=>decide ((Z3 10 c.pat).length≤40)) with
 | true=>
  simp only [if_true]
  have hA':∀ c∈l,(Z3 10 c.pat).length≤40:=fun c hc=>by simpa using List.all_eq_true.1 hA c hc
  have hsp':∀ c∈l,Y5 NN c.pat=some (Z3 10 c.pat):=fun c hc=>by
   have:=hA' c hc
   rw [hsp c hc,List.take_of_length_le (by omega)]
  have hrows:Q6v NN l=some ((Q2y l l.length).map toS):=by
   suffices hs:Ret (Q6v NN l) (fun a=>a=(Q2y l l.length).map toS) by
    obtain ⟨a,e,rfl⟩:=hs
    exact e
   unfold Q6v
   refine Ret.ctl (Z5 l (fun i s=>s=(Q2y l i).map toS) (fun _=>False) (fun s=>s=(Q2y l l.length).map toS) rfl (fun i c s hi hI=>?_) (fun s hI=>hI)) (fun r hr=>hr.elim) (fun s hs=>.some hs)
   have hc:=U1 hi
   have hil:i<l.length:=(List.getElem?_eq_some_iff.1 hi).1
   have hri:=Z7i hA' i
   have hcl:=hA' c hc
   rw [hsp' c hc]
   simp only [U0]
   refine Ret.ctl (Z5 (Z3 10 c.pat) (fun j u=>u=(Q2y l i).map toS++(((Z3 10 c.pat).take j).map (Q2r i)).map toS) (fun _=>False) (fun u=>u=(Q2y l (i+1)).map toS) (by simp [hI]) (fun j p u hj hJ=>?_) (fun u hJ=>?_)) (fun r hr=>hr.elim) (fun u hu=>.some hu)
   ·have hjl:j<(Z3 10 c.pat).length:=(List.getElem?_eq_some_iff.1 hj).1
    have has:=X19 10 t p (Q7z 10 t c.pat p (hP c hc).1 (U1 hj))
    rw [X73 (d:=10) (n:=NN) has (by omega) (by decide) (by simp) (by simp)]
    simp only [U0,List.nil_append]
    rw [X6 (by rw [hJ];simp only [U5,U7,U6,U3,U4,Q5];omega)]
    exact .some (by simp only [Q05];rw [hJ,List.take_add_one,hj];simp [Q2r,toS])
   ·rw [hJ,List.take_length,Q2y,hi];simp
  have h1:∀ (a:X0) (b:Bool),some (a,b)=some (a,b):=fun _ _=>rfl
  rw [hrows]
  have e300:(300:Int)=((300:Nat):Int):=rfl
  rw [e300]
  simp only [U0]
  have hin:∀ (X:Option (X0×Bool)),X.bind (fun r40=>some (r40.1,r40.2))=X:=fun X=>by cases X<;>rfl
  rw [hin]
  refine (V16 (s0:=()) ?_).trans ?_
  ·refine Z5 l (fun _ _=>True) (fun _=>False) (fun _=>_) trivial (fun i c s hi _=>?_) (fun _ _=>rfl)
   have hc:=U1 hi
   have:=hA' c hc
   rw [hsp' c hc]
   have e:ilt 40 (lenZ (Z3 10 c.pat).length)=false:=by rw [W6,V7];omega
   simp only [U0,e,U2,if_false]
   exact .some trivial
  ·rfl
 | false=>
  have hx:∃ c∈l,40<(Z3 10 c.pat).length:=by
   rw [List.all_eq_false] at hA
   simpa using hA
  have hin:∀ (X:Option (X0×Bool)),X.bind (fun r40=>some (r40.1,r40.2))=X:=fun X=>by cases X<;>rfl
  rw [hin]
  simp only [U2,if_false]
  refine (V9x (r0:=(zT,false)) ?_).trans rfl
  refine Z5 l (fun i _=>∀ c∈l.take i,(Z3 10 c.pat).length≤40) (fun r=>r=(zT,false)) (fun _=>False) (by simp) (fun i c s hi hI=>?_) (fun s hI=>?_)
  ·have hc:=U1 hi
   rw [hsp c hc]
   simp only [U0]
   by_cases h40:(Z3 10 c.pat).length≤40
   ·have e:ilt 40 (lenZ ((Z3 10 c.pat).take 401).length)=false:=by rw [W6,V7,U6];omega
    simp only [e,U2,if_false]
    refine .some fun c' hc'=>?_
    rw [List.take_add_one,hi] at hc'
    rcases List.mem_append.1 hc' with h | h
    ·exact hI c' h
    ·simp only [Option.toList_some,U8,List.not_mem_nil,or_false] at h
     rw [h];exact h40
   ·have e:ilt 40 (lenZ ((Z3 10 c.pat).take 401).length)=true:=by rw [Z9,V7,U6];omega
    simp only [e,if_true]
    exact .some rfl
  ·obtain ⟨c,hc,h⟩:=hx
   rw [List.take_length] at hI
   have:=hI c hc
   omega
theorem X4j {w:List Q4}{t:Q7}(ht:t∈tys w):ColC w [⟨[],t⟩] 300:=
 ⟨fun c hc=>by simp only [U8,List.not_mem_nil,or_false] at hc;rw [hc];exact ht,fun c hc=>by simp only [U8,List.not_mem_nil,or_false] at hc;rw [hc];simp,by simp⟩
theorem Q9d {w:List Q4}(hww:w∈Q0r){t:Q7}(ht:t∈tys w)(l:List Q3)(pick:Int):Comp (fun tr=>Q8x w l pick 300 tr (Q2y l l.length) [⟨[],t⟩]) (W2 NN w t l pick) (Q0g NN w t l pick):=by
 rw [W32 hww ht,V3t hww ht]
 cases hc:canC w t l pick with
 | false=>exact Comp.no (by simp) (by simp)
 | true=>
 simp only [if_true]
 simp only [canC,Bool.and_eq_true] at hc
 obtain ⟨hll,hP⟩:=Z5c hc.1.1
 have hA':∀ c∈l,(Z3 10 c.pat).length≤40:=fun c h=>by simpa using List.all_eq_true.1 hc.2 c h
 have hrl:=Z7i hA' l.length
 obtain ⟨ti,ok,c,ts,e,h1,h2,h3⟩:=V8f (ww hww) (wl hww) (ws hww) (lst:=l) (pick:=pick) 300 (Nat.le_refl _) NN NN (Q2y l l.length) [⟨[],t⟩] (by decide) (by decide) (by omega) (X4j ht) (X0c (ww hww) hP hll)
 rw [h1,show [Q01.mk [] t]=[Z7.mk [] t].map toD from rfl,h2]
 simp only [U0]
 rcases h3 with ⟨rfl,rfl,lf,rfl,rfl,hd,hsz,hq⟩ | ⟨rfl,he⟩
 ·have e:ilt ((lf:Nat):Int) 0=false:=by rw [W6];omega
  simp only [Bool.not_true,e,U2,if_false]
  rw [W4s 300 NN ti hd (by decide)]
  exact ⟨fun t h=>by simp only [U0,Option.some.injEq,Prod.mk.injEq] at h;rw [←h.1];exact hq,ti,true,rfl,rfl,by simp,hd,by omega⟩
 ·have e:ilt e 0=true:=by rw [Z9];exact he
  simp only [Bool.not_false,e,if_true]
  exact Comp.no rfl rfl
def Q95 (l:List X3):List X3:=(List.range 6).flatMap fun (v:Nat)=>l.filter fun b=>decide (b.var=(v:Int))
theorem Z28:∀ (a b:List X3),a.Pairwise (fun x y=>x.var<y.var)→b.Pairwise (fun x y=>x.var<y.var)→a.Perm b→a=b:=by
 intro a
 induction a with
 | nil=>intro b _ _ h;exact h.nil_eq
 | cons x a ih=>
  intro b ha hb h
  cases b with
  | nil=>exact absurd h.symm.nil_eq (by simp)
  | cons y b=>
   rw [List.pairwise_cons] at ha hb
   have hx:x∈y::b:=h.mem_iff.1 (by simp)
   have hy:y∈x::a:=h.mem_iff.2 (by simp)
   have hxy:x=y:=by
    rcases U8.1 hx with rfl | hx
    ·rfl
    ·rcases U8.1 hy with h1 | hy
     ·exact h1.symm
     ·have h1:=hb.1 x hx
      have h2:=ha.1 y hy
      omega
   subst hxy
   rw [ih b ha.2 hb.2 ((List.perm_cons x).1 h)]
theorem X3n {l:List X3}(h:l.Pairwise (fun x y=>x.var≤y.var))(hn:(l.map (·.var)).Nodup):l.Pairwise (fun x y=>x.var<y.var):=by
 rw [List.Nodup,List.pairwise_map] at hn
 refine (h.and hn).imp fun ⟨h1,h2⟩=>?_
 omega
theorem Q9k {l:List X3}(hn:(l.map (·.var)).Nodup):(Q95 l).Pairwise (fun x y=>x.var<y.var):=by
 unfold Q95
 rw [List.pairwise_flatMap]
 refine ⟨fun v _=>?_,?_⟩
 ·have h1:(l.filter fun b=>decide (b.var=(v:Int))).Pairwise (fun x y=>x.var≤y.var):=by
   rw [List.pairwise_filter]
   refine List.pairwise_of_forall fun x y hx hy=>?_
   simp only [decide_eq_true_eq] at hx hy
   omega
  exact X3n h1 ((List.filter_sublist.map _).nodup hn)
 ·refine List.Pairwise.imp ?_ (List.pairwise_lt_range (n:=6))
  intro a b hab x hx y hy
  have h1:=(List.mem_filter.1 hx).2
  have h2:=(List.mem_filter.1 hy).2
  simp only [decide_eq_true_eq] at h1 h2
  omega
theorem Z8s {α β:Type}(f g h:α→List β)(e:∀ v,f v=g v++h v):∀ L:List α,(L.flatMap f).Perm (L.flatMap g++L.flatMap h)
 | []=>by simp
 | v::L=>by
  rw [List.flatMap_cons,List.flatMap_cons,List.flatMap_cons,e v,List.append_assoc,List.append_assoc]
  refine List.Perm.append_left _ ?_
  refine ((Z8s f g h e L).append_left (h v)).trans ?_
  rw [←List.append_assoc,←List.append_assoc]
  exact List.Perm.append_right _ List.perm_append_comm
theorem Q4s {l:List X3}(hv:∀ b∈l,0≤b.var∧b.var≤5):(Q95 l).Perm l:=by
 induction l with
 | nil=>simp [Q95]
 | cons x l ih=>
  have h1:=ih fun b hb=>hv b (by simp [hb])
  obtain ⟨x0,x5⟩:=hv x (by simp)
  have h2:=Z8s (fun (v:Nat)=>(x::l).filter fun b=>decide (b.var=(v:Int))) (fun (v:Nat)=>if x.var=(v:Int) then [x] else []) (fun (v:Nat)=>l.filter fun b=>decide (b.var=(v:Int))) (fun v=>by
   by_cases hc:x.var=(v:Int)
   ·rw [List.filter_cons,if_pos (by simp [hc]),if_pos hc];rfl
   ·rw [List.filter_cons,if_neg (by simp [hc]),if_neg hc];rfl) (List.range 6)
  have hx:((List.range 6).flatMap fun (v:Nat)=>if x.var=(v:Int) then [x] else [])=[x]:=by
   have h6:x.var=0∨x.var=1∨x.var=2∨x.var=3∨x.var=4∨x.var=5:=by omega
   rcases h6 with h | h | h | h | h | h<;>simp [h,List.range,List.range.loop]
  rw [hx] at h2
  exact h2.trans (List.Perm.cons _ h1)
structure X6h (l:List X3):Prop where
 nd:(l.map (·.var)).Nodup
 rg:∀ b∈l,0≤b.var∧b.var≤5
 ln:l.length≤6
def J8 (g:Q27)(l:List X3):Bool:=decide (g.op=0)||match l.find? fun b=>decide (b.var=g.var) with
 | none=>false
 | some b=>decide (b.value.ctor = -1)&&((decide (g.op=1)&&decide (b.value.n<g.n))||(decide (g.op=2)&&decide (b.value.n=g.n)))
theorem X8z {a b:List X3}(hn:(a.map (·.var)).Nodup)(h:a.Perm b)(v:Int):a.find? (fun x=>decide (x.var=v))=b.find? (fun x=>decide (x.var=v)):=by
 induction h with
 | nil=>rfl
 | cons x h ih=>
  rw [List.find?_cons,List.find?_cons]
  split
  ·rfl
  ·exact ih (List.nodup_cons.1 (by simpa using hn)).2
 | swap x y l=>
  simp only [List.map_cons,List.nodup_cons,U8,not_or] at hn
  simp only [List.find?_cons]
  by_cases h1:x.var=v
  ·have h2:¬y.var=v:=fun e=>hn.1.1 (by omega)
   simp [h1,h2]
  ·simp [h1]
 | trans h1 h2 ih1 ih2=>rw [ih1 hn,ih2 ((h1.map _).nodup_iff.1 hn)]
theorem Z5i {a b:List X3}(hn:(a.map (·.var)).Nodup)(h:a.Perm b)(g:Q27):J8 g a=J8 g b:=by
 unfold J8
 rw [X8z hn h]
theorem X15 {l:List X3}(h:X6h l)(g:Q27):J8 g (Q95 l)=J8 g l:=(Z5i h.nd (Q4s h.rg).symm g).symm
def runD (v:Q2):Nat→List Q3→Option (Nat×List X3)
 | _,[]=>none
 | k,c::cs=>match Z6 10 c.pat v with
  | none=>runD v (k+1) cs
  | some l=>if J8 c.guard l=true then some (k,Q95 l) else runD v (k+1) cs
def runR:Option (Nat×List X3)→Int×List X3
 | none=>(-1,[])
 | some x=>((x.1:Int),x.2)
theorem Q9c {α:Type}{l:List α}{k:Nat}{x:α}(h:l[k]?=some x):l.drop k=x::l.drop (k+1):=by
 obtain ⟨hk,rfl⟩:=List.getElem?_eq_some_iff.1 h
 exact List.drop_eq_getElem_cons hk
theorem X0u {f:Q0→Q2→Option (List X3)} : ∀ (a:List Q0) (vs:List Q2) (c:Q0) (u:Q2),a.length=vs.length→W8 f (a++[c]) (vs++[u])=(W8 f a vs).bind fun l1=>(f c u).map (l1++·)
 | [],[],c,u,_=>by
  simp only [List.nil_append,W8,U0]
  cases f c u<;>simp
 | p::a,v::vs,c,u,h=>by
  simp only [List.cons_append,W8]
  rw [X0u a vs c u (by simpa using h)]
  cases f p v with
  | none=>rfl
  | some l=>
   simp only
   cases W8 f a vs with
   | none=>rfl
   | some l1=>
    simp only [U0]
    cases f c u<;>simp
 | [],_::_,_,_,h=>by simp at h
 | _::_,[],_,_,h=>by simp at h
theorem X1m {α β:Type}{l:List α}{f:α→Option β}(h:∀ x∈l,f x=none):l.findSome? f=none:=List.findSome?_eq_none_iff.2 h
theorem X5s {α β γ:Type}(l:List α)(g:α→β)(f:β→Option γ):(l.map g).findSome? f=l.findSome? fun x=>f (g x):=by
 induction l with
 | nil=>rfl
 | cons a l ih=>simp only [List.map_cons,List.findSome?_cons,ih]
theorem Z4e {α β:Type}{l:List α}{f g:α→Option β}(h:∀ x∈l,f x=g x):l.findSome? f=l.findSome? g:=by
 induction l with
 | nil=>rfl
 | cons a l ih=>simp only [List.findSome?_cons];rw [h a (by simp),ih fun x hx=>h x (by simp [hx])]
theorem X90 {α β γ:Type}(l:List α)(f:α→Option β)(g:β→γ):(l.findSome? fun x=>(f x).map g)=(l.findSome? f).map g:=by
 induction l with
 | nil=>rfl
 | cons a l ih=>
  simp only [List.findSome?_cons]
  cases f a with
  | none=>simpa using ih
  | some x=>rfl
theorem W2g {f:Q0→Q2→Option (List X3)}(l:List Q0)(vs:List Q2)(u:Q2):∀ out:List (List Q0),(∀ a∈out,a.length=vs.length)→
  (tupD out l).findSome? (fun ks=>W8 f ks (vs++[u]))=(out.findSome? fun a=>W8 f a vs).bind fun l1=>(l.findSome? fun c=>f c u).map (l1++·)
 | [],_=>by simp [tupD]
 | a::out,h=>by
  have e:tupD (a::out) l=(l.map fun c=>a++[c])++tupD out l:=by simp [tupD]
  rw [e,List.findSome?_append,X5s,W2g l vs u out fun x hx=>h x (by simp [hx])]
  have e2:(l.findSome? fun x=>W8 f (a++[x]) (vs++[u]))=(W8 f a vs).bind fun l1=>(l.findSome? fun c=>f c u).map (l1++·):=by
   rw [Z4e fun x _=>X0u a vs x u (h a (by simp))]
   cases W8 f a vs with
   | none=>simp only [Option.bind_none];exact X1m fun _ _=>rfl
   | some l1=>simp only [U0];exact X90 l _ _
  rw [e2,List.findSome?_cons]
  cases W8 f a vs with
  | none=>simp
  | some l1=>
   simp only [U0]
   cases l.findSome? fun c=>f c u with
   | none=>simp
   | some l2=>simp
def X5t (f:Q0→Q2→Option (List X3)):List (List Q0)→List Q2→Option (List X3)
 | [],_=>some []
 | _::_,[]=>none
 | l::ls,v::vs=>match l.findSome? fun c=>f c v with
  | none=>none
  | some r=>match X5t f ls vs with
   | none=>none
   | some m=>some (r++m)
theorem X6y {f:Q0→Q2→Option (List X3)} : ∀ (ls:List (List Q0)) (vs:List Q2) (vs0:List Q2) (out:List (List Q0)),ls.length=vs.length→(∀ a∈out,a.length=vs0.length)→
  (ls.foldl tupD out).findSome? (fun ks=>W8 f ks (vs0++vs))=(out.findSome? fun a=>W8 f a vs0).bind fun l1=>(X5t f ls vs).map (l1++·)
 | [],[],vs0,out,_,_=>by
  simp only [List.foldl_nil,List.append_nil,X5t]
  cases out.findSome? fun a=>W8 f a vs0<;>simp
 | l::ls,v::vs,vs0,out,h,ho=>by
  rw [List.foldl_cons]
  have:=X6y (f:=f) ls vs (vs0++[v]) (tupD out l) (by simpa using h) (fun a ha=>by
   simp only [tupD,List.mem_flatMap,U10] at ha
   obtain ⟨q,hq,c,_,rfl⟩:=ha
   simp [ho q hq])
  rw [List.append_assoc,List.singleton_append] at this
  rw [this,W2g l vs0 v out ho]
  cases out.findSome? fun a=>W8 f a vs0 with
  | none=>rfl
  | some l1=>
   simp only [U0,X5t]
   cases l.findSome? fun c=>f c v with
   | none=>rfl
   | some l2=>
    simp only [Option.map_some,U0]
    cases X5t f ls vs with
    | none=>rfl
    | some l3=>simp
 | [],_::_,_,_,h,_=>by simp at h
 | _::_,[],_,_,h,_=>by simp at h
theorem X0v {f g:Q0→Q2→Option (List X3)}{s:Q0→List Q0} : ∀ (ps:List Q0) (vs:List Q2),(∀ (j:Nat) (p:Q0) (v:Q2),ps[j]?=some p→vs[j]?=some v→g p v=(s p).findSome? fun c=>f c v)→W8 g ps vs=X5t f (ps.map s) vs
 | [],_,_=>rfl
 | _::_,[],_=>rfl
 | p::ps,v::vs,h=>by
  simp only [W8,List.map_cons,X5t]
  rw [h 0 p v rfl rfl,X0v ps vs fun j p' v' h1 h2=>h (j+1) p' v' (by simpa using h1) (by simpa using h2)]
  cases (s p).findSome? fun c=>f c v with
  | none=>rfl
  | some l=>
   simp only
   cases X5t f (ps.map s) vs<;>rfl
theorem X3j {w:List Q4}(hw:WW w)(hS:WS w):∀ (d e:Nat) (t:Q7) (p:Q0) (v:Q2),t∈tys w→Q0e w d t p=true→Q3u w e t v→(Z3 d p).findSome? (fun q=>Z6 d q v)=Z6 d p v:=by
 intro d
 induction d with
 | zero=>intro e t p v _ h;simp [Q0e] at h
 | succ d ih=>
  intro e t p v ht g hv
  have hn:=Q00 g
  obtain ⟨ho,hl⟩:=Q0l hn
  by_cases h5:p.op=5
  ·obtain ⟨a,b,hab,hkt⟩:=kid0 h5 hl
   have ga:=Y0 g (k:=0) (a:=t) (q:=a) (by rw [hkt];rfl) (by rw [hab];rfl)
   have gb:=Y0 g (k:=1) (a:=t) (q:=b) (by rw [hkt];rfl) (by rw [hab];rfl)
   have e1:Z3 (d+1) p=Z3 d a++Z3 d b:=by simp [Z3,h5,hab]
   rw [e1,List.findSome?_append]
   have mono:∀ x,Q0e w d t x=true→(Z3 d x).findSome? (fun q=>Z6 (d+1) q v)=Z6 d x v:=fun x gx=>by
    rw [Z4e fun q hq=>(Z2d d t q (Q7z d t x q gx hq)).2.2.2 v]
    exact ih e t x v ht gx hv
   rw [mono a ga,mono b gb]
   rw [Z6,if_neg (by omega),if_neg (by omega),if_neg (by omega),if_pos h5,hab]
   simp only
   cases Z6 d a v<;>simp
  ·have e1:Z3 (d+1) p=((p.kids.map (Z3 d)).foldl tupD [[]]).map (Q79 p):=by simp [Z3,h5]
   rw [e1,X5s]
   by_cases h4:p.op=4
   ·have hc:=Z00 ho h4
    have hd:t.data≠-1:=fun hd=>by rw [hS.int t ht hd] at hc;cases hc
    have hm:∀ ks,Z6 (d+1) (Q79 p ks) v=if p.ctor=v.ctor then W8 (Z6 d) ks v.kids else none:=fun ks=>by
     rw [Z6,if_neg (by simp [Q79];omega),if_neg (by simp [Q79];omega),if_neg (by simp [Q79];omega),if_neg (by simpa [Q79] using h5),if_neg (by simp [Q79];omega)]
     rfl
    have hm2:Z6 (d+1) p v=if p.ctor=v.ctor then W8 (Z6 d) p.kids v.kids else none:=by
     rw [Z6,if_neg (by omega),if_neg (by omega),if_neg (by omega),if_neg h5,if_neg (by omega)]
    rw [Z4e fun ks _=>hm ks,hm2]
    by_cases hcv:p.ctor=v.ctor
    ·simp only [if_pos hcv]
     cases e with
     | zero=>exact hv.elim
     | succ e=>
     rw [Q3u,if_neg hd] at hv
     obtain ⟨_,_,hvl,hvk⟩:=hv
     have hkt:V5 w t p=Q09 w t v.ctor:=by rw [V5,if_pos h4,hcv]
     have hlen:(p.kids.map (Z3 d)).length=v.kids.length:=by rw [U7,hl,hkt,hvl]
     have:=X6y (f:=Z6 d) (p.kids.map (Z3 d)) v.kids [] [[]] hlen (by simp)
     rw [List.nil_append] at this
     rw [this]
     simp only [List.findSome?_cons,W8,U0]
     rw [X0v (f:=Z6 d) (g:=Z6 d) (s:=Z3 d) p.kids v.kids fun j q u hq hu=>?_]
     ·cases X5t (Z6 d) (p.kids.map (Z3 d)) v.kids<;>simp
     ·have hj:=(List.getElem?_eq_some_iff.1 hq).1
      obtain ⟨a,ha⟩:∃ a,(Q09 w t v.ctor)[j]?=some a:=⟨_,U9 (by rw [hkt] at hl;omega)⟩
      exact (ih e a q u (Q8p (hw.ty t ht) ht ho _ (by rw [hkt];exact U1 ha)) (Y0 g (by rw [hkt];exact ha) hq) (hvk j a u ha hu)).symm
    ·simp only [if_neg hcv]
     exact X1m fun _ _=>rfl
   ·by_cases h6:p.op=6
    ·obtain ⟨a,hk,hkt⟩:=X10 h6 hl
     have ga:=Y0 g (k:=0) (a:=t) (q:=a) (by rw [hkt];rfl) (by rw [hk];rfl)
     have e2:((p.kids.map (Z3 d)).foldl tupD [[]])=(Z3 d a).map fun c=>[c]:=by
      rw [hk];simp [tupD]
     rw [e2,X5s]
     have hm:∀ c,Z6 (d+1) (Q79 p [c]) v=(Z6 d c v).map (fun l=>⟨p.var,v⟩::l):=fun c=>by
      rw [Z6,if_neg (by simp [Q79];omega),if_neg (by simp [Q79];omega),if_neg (by simp [Q79];omega),if_neg (by simp [Q79];omega),if_pos (by simpa [Q79] using h6)]
      rfl
     rw [Z4e fun c _=>hm c,X90,ih e t a v ht ga hv]
     rw [Z6,if_neg (by omega),if_neg (by omega),if_neg (by omega),if_neg h5,if_pos h6,hk]
    ·have hk:p.kids=[]:=by
      rw [V5,if_neg h4,if_neg h5,if_neg h6] at hl
      exact List.eq_nil_of_length_eq_zero hl
     rw [hk]
     have:Q79 p []=p:=by rw [←hk];cases p;rfl
     simp only [List.map_nil,List.foldl_nil,List.findSome?_cons,this]
     cases Z6 (d+1) p v<;>rfl
def Q69:Q2→List Int→Option Q2
 | v,[]=>some v
 | v,i::path=>(idx v.kids i).bind fun u=>Q69 u path
theorem Z4a:∀ (path:List Int) (v:Q2) (i:Int),Q69 v (path++[i])=(Q69 v path).bind fun u=>idx u.kids i
 | [],v,i=>by
  simp only [List.nil_append,Q69,U0]
  cases idx v.kids i<;>rfl
 | j::path,v,i=>by
  simp only [List.cons_append,Q69]
  cases idx v.kids j with
  | none=>rfl
  | some u=>simp only [U0];exact Z4a path u i
def Q1a:List Q1→Q2→Option (List X3)
 | [],_=>some []
 | b::l,v=>(Q69 v b.path).bind fun u=>(Q1a l v).map (X3.mk b.var u::·)
theorem Z05:∀ (a b:List Q1) (v:Q2),Q1a (a++b) v=(Q1a a v).bind fun l=>(Q1a b v).map (l++·)
 | [],b,v=>by
  simp only [List.nil_append,Q1a,U0]
  cases Q1a b v<;>rfl
 | x::a,b,v=>by
  simp only [List.cons_append,Q1a]
  cases Q69 v x.path with
  | none=>rfl
  | some u=>
   simp only [U0]
   rw [Z05 a b v]
   cases Q1a a v with
   | none=>rfl
   | some l=>
    simp only [U0,Option.map_some]
    cases Q1a b v<;>rfl
theorem X26 {v:Q2}{a b:List Q1}(h:a.Perm b):∀ {l:List X3},Q1a a v=some l→∃ l',Q1a b v=some l'∧l.Perm l':=by
 induction h with
 | nil=>intro l h;exact ⟨l,h,.refl _⟩
 | cons x _ ih=>
  intro l h
  simp only [Q1a] at h ⊢
  cases hx:Q69 v x.path with
  | none=>rw [hx] at h;simp at h
  | some u=>
   rw [hx] at h
   simp only [U0,U11] at h ⊢
   obtain ⟨m,hm,rfl⟩:=h
   obtain ⟨m',h1,h2⟩:=ih hm
   exact ⟨_,⟨m',h1,rfl⟩,h2.cons _⟩
 | swap x y l0=>
  intro l h
  simp only [Q1a] at h ⊢
  cases hx:Q69 v x.path with
  | none=>rw [hx] at h;cases hy:Q69 v y.path<;>rw [hy] at h<;>simp at h
  | some u=>
   rw [hx] at h
   cases hy:Q69 v y.path with
   | none=>rw [hy] at h;simp at h
   | some u2=>
    rw [hy] at h
    simp only [U0,Option.map_map,U11,Function.comp] at h ⊢
    obtain ⟨m,hm,rfl⟩:=h
    exact ⟨_,⟨m,hm,rfl⟩,.swap _ _ _⟩
 | trans _ _ ih1 ih2=>
  intro l h
  obtain ⟨m,h1,h2⟩:=ih1 h
  obtain ⟨k,h3,h4⟩:=ih2 h1
  exact ⟨k,h3,h2.trans h4⟩
theorem Q6r {v:Q2} : ∀ {a:List Q1} {l:List X3},Q1a a v=some l→l.map (·.var)=a.map (·.var)
 | [],l,h=>by simp only [Q1a,Option.some.injEq] at h;subst h;rfl
 | b::a,l,h=>by
  simp only [Q1a] at h
  cases hx:Q69 v b.path with
  | none=>rw [hx] at h;simp at h
  | some u=>
   rw [hx] at h
   simp only [U0,U11] at h
   obtain ⟨m,hm,rfl⟩:=h
   simp [Q6r hm]
def cntV:Q2→Nat
 | ⟨_,_,kids⟩=>1+cntVs kids
where cntVs:List Q2→Nat
 | []=>0
 | v::l=>cntV v+cntVs l
theorem Q8s (v:Q2):cntV v=1+cntV.cntVs v.kids:=by cases v;rw [cntV]
theorem Z4h:∀ (l:List Q2) (k:Nat) (q:Q2),l[k]?=some q→cntV.cntVs (l.take (k+1))=cntV.cntVs (l.take k)+cntV q
 | [],k,q,h=>by simp at h
 | p::l,0,q,h=>by simp at h;subst h;simp [cntV.cntVs]
 | p::l,k+1,q,h=>by
  have:=Z4h l k q (by simpa using h)
  simp only [List.take_succ_cons,cntV.cntVs]
  omega
theorem Z04:∀ (l:List Q2) (k:Nat),cntV.cntVs (l.take k)≤cntV.cntVs l
 | [],k=>by simp
 | p::l,0=>by simp [cntV.cntVs]
 | p::l,k+1=>by
  have:=Z04 l k
  simp only [List.take_succ_cons,cntV.cntVs]
  omega
def Q3v (w:List Q4):Nat→Q7→Q2→Bool
 | 0,_,_=>false
 | d+1,t,v=>if t.data = -1 then decide (v.ctor = -1)&&(decide (0≤v.n)&&(decide (v.n≤9)&&decide (v.kids.length=0)))
  else decide (v.n=0)&&(decide (v.ctor∈W9 w t)&&(decide (v.kids.length=(Q09 w t v.ctor).length)&&((Q09 w t v.ctor).zip v.kids).all fun x=>Q3v w d x.1 x.2))
theorem W5n {w:List Q4} : ∀ (d:Nat) (t:Q7) (v:Q2),Q3v w d t v=true↔Q3u w d t v:=by
 intro d
 induction d with
 | zero=>intro t v;simp [Q3v,Q3u]
 | succ d ih=>
  intro t v
  rw [Q3v,Q3u]
  split
  ·simp only [Bool.and_eq_true,decide_eq_true_eq,List.length_eq_zero_iff]
  ·simp only [Bool.and_eq_true,decide_eq_true_eq,List.all_eq_true]
   constructor
   ·rintro ⟨h1,h2,h3,h4⟩
    exact ⟨h1,h2,h3,fun j a x ha hx=>(ih a x).1 (h4 (a,x) (U1 (Q91 ha hx)))⟩
   ·rintro ⟨h1,h2,h3,h4⟩
    refine ⟨h1,h2,h3,fun x hx=>?_⟩
    obtain ⟨j,hj⟩:=List.mem_iff_getElem?.1 hx
    obtain ⟨e1,e2⟩:=List.getElem?_zip_eq_some.1 hj
    exact (ih _ _).2 (h4 j _ _ e1 e2)
def okV (w:List Q4)(d:Nat)(t:Q7)(v:Q2)(c:Nat):Bool:=Q3v w d t v&&decide (c+cntV v≤60)
def Q9z (w:List Q4)(t:Q7)(v:Q2):Bool:=Q3v w 10 t v&&decide (cntV v≤60)
theorem Q92 {w:List Q4}{t:Q7}{v:Q2}(h:Q9z w t v=true):Q3u w 10 t v:=by
 simp only [Q9z,Bool.and_eq_true] at h
 exact (W5n 10 t v).1 h.1
theorem W97 {w:List Q4}{d:Nat}{t:Q7}{v:Q2}{c:Nat}(h:Q3v w d t v=false):okV w d t v c=false:=by simp [okV,h]
theorem Y19 {w:List Q4}(hw:WW w):∀ (d n:Nat) (t:Q7) (v:Q2) (c:Nat),t∈tys w→c≤60→d+2≤n→d≤10→
  Ret (Q0p n w t v (11-(d:Int)) false (c:Int)) (fun r=>r.1=okV w d t v c∧(okV w d t v c=true→r.2=((c+cntV v:Nat):Int))):=by
 intro d
 induction d with
 | zero=>
  intro n t v c ht hc hn hd
  obtain ⟨n,rfl⟩:∃ k,n=k+1:=⟨n-1,by omega⟩
  have hb:okV w 0 t v c=false:=W97 rfl
  unfold Q0p
  refine Ret.ite (fun _=>.some ⟨hb.symm,fun h=>by rw [hb] at h;cases h⟩) (fun _=>?_)
  rw [if_pos (by rw [Z9];omega)]
  exact .some ⟨hb.symm,fun h=>by rw [hb] at h;cases h⟩
 | succ d ih=>
  intro n t v c ht hc hn hd
  obtain ⟨n,rfl⟩:∃ k,n=k+1:=⟨n-1,by omega⟩
  have hT:=hw.ty t ht
  unfold Q0p
  have hc1:wadd .i64 (c:Int) 1=((c+1:Nat):Int):=by rw [V9]<;>omega
  rw [hc1]
  have hpos:1≤cntV v:=by rw [Q8s];omega
  refine Ret.ite (fun hlt=>?_) (fun hle=>?_)
  ·rw [Z9] at hlt
   have hb:okV w (d+1) t v c=false:=by simp only [okV,Bool.and_eq_false_iff,decide_eq_false_iff_not];right;omega
   exact .some ⟨hb.symm,fun h=>by rw [hb] at h;cases h⟩
  rw [W6] at hle
  rw [if_neg (by rw [Z9];omega),if_neg (by simp)]
  have bad:Q3v w (d+1) t v=false→okV w (d+1) t v c=false:=W97
  refine Ret.ctl (R:=fun r:Bool×Int=>r.1=okV w (d+1) t v c∧(okV w (d+1) t v c=true→r.2=((c+cntV v:Nat):Int))) (B:=fun _:Unit=>t.data≠-1∧v.n=0∧v.ctor∈W9 w t) ?_ (fun r hr=>.some hr) (fun s hs=>?_)
  ·refine Ret.ite (fun hi=>?_) (fun hi=>?_)
   ·rw [Q9] at hi
    have hg:Q3v w (d+1) t v=(decide (v.ctor = -1)&&(decide (0≤v.n)&&(decide (v.n≤9)&&decide (v.kids.length=0)))):=by rw [Q3v,if_pos hi]
    refine Ret.ite (fun h1=>?_) (fun h1=>?_)
    ·rw [Q9] at h1
     rw [Q8a]
     simp only [U0]
     refine Ret.ite (fun h2=>?_) (fun h2=>?_)
     ·simp only [Bool.and_eq_true,decide_eq_true_eq] at h2
      have hk:Q3v w (d+1) t v=decide (v.kids.length=0):=by rw [hg];simp [h1,h2.1,h2.2]
      refine .some ?_
      have h0:v.kids.length=0→cntV v=1:=fun h=>by rw [Q8s,List.eq_nil_of_length_eq_zero h];rfl
      by_cases hz:v.kids.length=0
      ·have e1:okV w (d+1) t v c=true:=by simp only [okV,hk,hz,decide_true,Bool.true_and,decide_eq_true_eq];have:=h0 hz;omega
       rw [e1]
       refine ⟨?_,fun _=>?_⟩
       ·simp only [Q9,lenZ];omega
       ·have:=h0 hz;simp only;omega
      ·have e1:okV w (d+1) t v c=false:=bad (by rw [hk];simp [hz])
       rw [e1]
       refine ⟨?_,fun h=>by cases h⟩
       simp only [X2,lenZ];omega
     ·have e1:okV w (d+1) t v c=false:=bad (by
       rw [hg]
       simp only [Bool.and_eq_false_iff,decide_eq_false_iff_not] at h2 ⊢
       rcases h2 with h2 | h2
       ·exact .inr (.inl h2)
       ·exact .inr (.inr (.inl h2)))
      exact .some ⟨e1.symm,fun h=>by rw [e1] at h;cases h⟩
    ·rw [X2] at h1
     have e1:okV w (d+1) t v c=false:=bad (by rw [hg];simp [h1])
     exact .some ⟨e1.symm,fun h=>by rw [e1] at h;cases h⟩
   ·rw [X2] at hi
    have hg:Q3v w (d+1) t v=(decide (v.n=0)&&(decide (v.ctor∈W9 w t)&&(decide (v.kids.length=(Q09 w t v.ctor).length)&&((Q09 w t v.ctor).zip v.kids).all fun x=>Q3v w d x.1 x.2))):=by rw [Q3v,if_neg hi]
    refine Ret.ite (fun h1=>?_) (fun h1=>?_)
    ·rw [Bool.not_eq_true',X2] at h1
     have e1:okV w (d+1) t v c=false:=bad (by rw [hg];simp [h1])
     exact .some ⟨e1.symm,fun h=>by rw [e1] at h;cases h⟩
    rw [Bool.not_eq_false',Q9] at h1
    rw [hT.c2]
    simp only [U0]
    rw [Z0x]
    simp only [U0]
    refine Ret.ite (fun h2=>?_) (fun h2=>?_)
    ·rw [Bool.not_eq_true',decide_eq_false_iff_not] at h2
     have e1:okV w (d+1) t v c=false:=bad (by rw [hg];simp [h2])
     exact .some ⟨e1.symm,fun h=>by rw [e1] at h;cases h⟩
    rw [Bool.not_eq_false',decide_eq_true_eq] at h2
    exact .some ⟨hi,h1,h2⟩
  ·obtain ⟨s1,s2,s3⟩:=hs
   have hg:Q3v w (d+1) t v=(decide (v.kids.length=(Q09 w t v.ctor).length)&&((Q09 w t v.ctor).zip v.kids).all fun x=>Q3v w d x.1 x.2):=by rw [Q3v,if_neg s1];simp [s2,s3]
   rw [hT.a2 _ s3]
   simp only [U0]
   refine Ret.ite (fun hl=>?_) (fun hl=>?_)
   ·rw [Bool.not_eq_true',X2] at hl
    simp only [lenZ] at hl
    have e1:okV w (d+1) t v c=false:=bad (by rw [hg];simp only [Bool.and_eq_false_iff,decide_eq_false_iff_not];left;omega)
    exact .some ⟨e1.symm,fun h=>by rw [e1] at h;cases h⟩
   rw [Bool.not_eq_false',Q9] at hl
   simp only [lenZ] at hl
   have hcv:=Q8s v
   refine Ret.ctl (Z5 v.kids (fun k s=>s=((c+1+cntV.cntVs (v.kids.take k):Nat):Int)∧c+1+cntV.cntVs (v.kids.take k)≤60∧∀ (j:Nat) (a:Q7) (x:Q2),j<k→(Q09 w t v.ctor)[j]?=some a→v.kids[j]?=some x→Q3v w d a x=true) (fun r:Bool×Int=>r.1=okV w (d+1) t v c∧(okV w (d+1) t v c=true→r.2=((c+cntV v:Nat):Int))) (fun s=>s=((c+cntV v:Nat):Int)∧okV w (d+1) t v c=true) ⟨by simp [cntV.cntVs],by simp only [List.take_zero,cntV.cntVs];omega,fun j a x hj=>by omega⟩ (fun k x s hx hI=>?_) (fun s hI=>?_)) (fun r hr=>.some hr) (fun s hs=>.some ⟨hs.2.symm,fun _=>hs.1⟩)
   ·obtain ⟨rfl,i2,i3⟩:=hI
    have hk:=(List.getElem?_eq_some_iff.1 hx).1
    have ha:(Q09 w t v.ctor)[k]?=some ((Q09 w t v.ctor)[k]'(by omega)):=by simp
    rw [Q0f ha]
    simp only [U0]
    have hdd:wadd .i64 (11-((d+1:Nat):Int)) 1=11-(d:Int):=by rw [V9]<;>omega
    rw [hdd]
    refine Ret.bind (ih n _ x _ (hT.at_ _ s3 _ (U1 ha)) i2 (by omega) (by omega)) (fun r hr=>?_)
    obtain ⟨r1,r2⟩:=hr
    have htk:=Z4h v.kids k x hx
    refine Ret.ite (fun h=>?_) (fun h=>?_)
    ·rw [Bool.not_eq_true',r1] at h
     have e1:okV w (d+1) t v c=false:=by
      simp only [okV,Bool.and_eq_false_iff,decide_eq_false_iff_not] at h ⊢
      rcases h with h | h
      ·left
       rw [hg,Bool.and_eq_false_iff]
       right
       rw [List.all_eq_false]
       exact ⟨_,U1 (Q91 ha hx),by simp [h]⟩
      ·right
       have:=Z04 v.kids (k+1)
       omega
     exact .some ⟨e1.symm,fun h=>by rw [e1] at h;cases h⟩
    ·rw [Bool.not_eq_false',r1] at h
     have r3:=r2 h
     simp only [okV,Bool.and_eq_true,decide_eq_true_eq] at h
     refine .some ⟨?_,by omega,fun j a y hj h1 h2=>?_⟩
     ·rw [r3];omega
     ·by_cases hjk:j=k
      ·subst hjk
       rw [ha] at h1
       rw [hx] at h2
       cases h1
       cases h2
       exact h.1
      ·exact i3 j a y (by omega) h1 h2
   ·obtain ⟨rfl,i2,i3⟩:=hI
    rw [List.take_length] at i2 ⊢
    refine ⟨by omega,?_⟩
    simp only [okV,Bool.and_eq_true,decide_eq_true_eq]
    refine ⟨?_,by omega⟩
    rw [hg]
    simp only [Bool.and_eq_true,decide_eq_true_eq,List.all_eq_true]
    refine ⟨by omega,fun y hy=>?_⟩
    obtain ⟨j,hj⟩:=List.mem_iff_getElem?.1 hy
    obtain ⟨e1,e2⟩:=List.getElem?_zip_eq_some.1 hj
    exact i3 j _ _ (List.getElem?_eq_some_iff.1 e2).1 e1 e2
theorem Z3o {w:List Q4}(hw:WW w){t:Q7}(ht:t∈tys w)(v:Q2):Q2j NN w t v=some (Q9z w t v):=by
 suffices hs:Ret (Q2j NN w t v) (fun r=>r=Q9z w t v) by
  obtain ⟨a,e,rfl⟩:=hs
  exact e
 unfold Q2j
 refine Ret.bind (Y19 hw 10 NN t v 0 ht (by omega) (by decide) (by omega)) (fun r hr=>.some ?_)
 rw [hr.1]
 simp [okV,Q9z]
theorem len0 (n:Nat):ieq (lenZ n) 0=decide (n=0):=by
 by_cases h:n=0
 ·subst h;rfl
 ·rw [decide_eq_false h,X2];simp only [lenZ];omega
theorem W0d:∀ (n:Nat) (p:Q2) (most:Nat),most<n→most≤1000→Q4n n p (most:Int)=some ((min (cntV p) (most+1):Nat):Int):=by
 intro n
 induction n with
 | zero=>intro p most h;omega
 | succ n ih=>
  intro p most hn hm
  unfold Q4n
  have key:=Z5 (ρ:=Int) (f:=fun k94 x95 (s88:Int)=>
   (if (ile s88 (most:Int))=true then
   ((Q4n n x95 (wsub .i64 (most:Int) s88)).bind fun r103=>
   some (Ctl.go (wadd .i64 s88 r103)))
   else
   some (Ctl.brk s88))) p.kids (s0:=1) (fun k s=>∃ m:Nat,s=(m:Int)∧m=min (1+cntV.cntVs (p.kids.take k)) (most+1)) (fun _=>False) (fun s=>s=((min (cntV p) (most+1):Nat):Int)) ⟨1,rfl,by simp [cntV.cntVs]⟩ (fun k q s hq hI=>?_) (fun s hI=>?_)
  ·have:=Ret.ctl (Q:=fun b=>b=((min (cntV p) (most+1):Nat):Int)) key (g:=fun (o:Ctl Int Int)=>match o with
    | .ret r=>some r
    | .go _=>none
    | .brk s=>some s) (fun r hr=>hr.elim) (fun s hs=>.some hs)
   obtain ⟨b,e,rfl⟩:=this
   exact e
  ·obtain ⟨m,rfl,hm2⟩:=hI
   refine Ret.ite (fun h=>?_) (fun h=>?_)
   ·rw [J6] at h
    have hle:m≤most:=by omega
    have hws:wsub .i64 (most:Int) (m:Int)=((most-m:Nat):Int):=by rw [Q3h (by omega) (by omega)];omega
    rw [hws,ih q (most-m) (by omega) (by omega)]
    simp only [U0]
    rw [V9 (by omega) (by omega)]
    refine .some ⟨m+min (cntV q) (most-m+1),by push_cast;rfl,?_⟩
    rw [Z4h p.kids k q hq]
    omega
   ·rw [Q7h] at h
    refine .some ?_
    have h1:=Z04 p.kids k
    have h2:=Q8s p
    show (m:Int)=_
    have:m=min (cntV p) (most+1):=by omega
    rw [this]
  ·obtain ⟨m,rfl,hm2⟩:=hI
   rw [List.take_length] at hm2
   have h2:=Q8s p
   have:m=min (cntV p) (most+1):=by omega
   rw [this]
theorem W0c {w:List Q4}(hw:WW w):∀ (d n:Nat) (t:Q7) (v:Q2),t∈tys w→d+1≤n→d≤100→Q46 n w t v (d:Int)=some (Q3v w d t v):=by
 intro d
 induction d with
 | zero=>
  intro n t v ht hn hd
  obtain ⟨m,rfl⟩:∃ m,n=m+1:=⟨n-1,by omega⟩
  unfold Q46
  rw [if_pos (by rw [Z9];omega)]
  rfl
 | succ d ih=>
  intro n t v ht hn hd
  obtain ⟨m,rfl⟩:∃ m,n=m+1:=⟨n-1,by omega⟩
  have hT:=hw.ty t ht
  suffices hs:Ret (Q46 (m+1) w t v ((d+1:Nat):Int)) (fun r=>r=Q3v w (d+1) t v) by
   obtain ⟨a,e,rfl⟩:=hs
   exact e
  unfold Q46
  rw [if_neg (by rw [Z9];omega)]
  have hws:wsub .i64 ((d+1:Nat):Int) 1=(d:Int):=by rw [Q3h]<;>omega
  rw [hws]
  refine Ret.ite (fun hi=>?_) (fun hi=>?_)
  ·rw [Q9] at hi
   have hg:Q3v w (d+1) t v=(decide (v.ctor = -1)&&(decide (0≤v.n)&&(decide (v.n≤9)&&decide (v.kids.length=0)))):=by rw [Q3v,if_pos hi]
   rw [hg]
   refine Ret.ite (fun h1=>?_) (fun h1=>.some ?_)
   ·rw [Q9] at h1
    refine Ret.ite (fun h2=>?_) (fun h2=>.some ?_)
    ·rw [J6] at h2
     refine Ret.ite (fun h3=>.some ?_) (fun h3=>.some ?_)
     ·rw [J6] at h3
      simp only [h1,h2,h3,decide_true,Bool.true_and]
      exact len0 _
     ·rw [Q7h] at h3
      simp [show ¬v.n≤9 by omega]
    ·rw [Q7h] at h2
     simp [show ¬0≤v.n by omega]
   ·rw [X2] at h1
    simp [h1]
  ·rw [X2] at hi
   have hg:Q3v w (d+1) t v=(decide (v.n=0)&&(decide (v.ctor∈W9 w t)&&(decide (v.kids.length=(Q09 w t v.ctor).length)&&((Q09 w t v.ctor).zip v.kids).all fun x=>Q3v w d x.1 x.2))):=by rw [Q3v,if_neg hi]
   rw [hg]
   refine Ret.ite (fun h1=>.some ?_) (fun h1=>?_)
   ·rw [Bool.not_eq_true',X2] at h1
    simp [h1]
   rw [Bool.not_eq_false',Q9] at h1
   rw [hT.c1]
   simp only [U0]
   rw [V7x]
   simp only [U0]
   refine Ret.ite (fun h2=>.some ?_) (fun h2=>?_)
   ·rw [Bool.not_eq_true',decide_eq_false_iff_not] at h2
    simp [h2]
   rw [Bool.not_eq_false',decide_eq_true_eq] at h2
   rw [hT.a1 _ h2]
   simp only [U0]
   refine Ret.ite (fun hl=>.some ?_) (fun hl=>?_)
   ·rw [Bool.not_eq_true',X2] at hl
    simp only [lenZ] at hl
    have:¬v.kids.length=(Q09 w t v.ctor).length:=by omega
    simp [this]
   rw [Bool.not_eq_false',Q9] at hl
   simp only [lenZ] at hl
   have hl2:v.kids.length=(Q09 w t v.ctor).length:=by omega
   simp only [h1,h2,hl2,decide_true,Bool.true_and]
   refine Ret.ctl (Z5 (Q09 w t v.ctor) (fun k _=>∀ (j:Nat) (a:Q7) (x:Q2),j<k→(Q09 w t v.ctor)[j]?=some a→v.kids[j]?=some x→Q3v w d a x=true) (fun b=>b=false∧(((Q09 w t v.ctor).zip v.kids).all fun x=>Q3v w d x.1 x.2)=false) (fun _=>(((Q09 w t v.ctor).zip v.kids).all fun x=>Q3v w d x.1 x.2)=true) (fun j a x hj=>by omega) (fun k a s ha hI=>?_) (fun s hI=>?_)) (fun r hr=>.some (by rw [hr.1,hr.2])) (fun s hs=>.some hs.symm)
   ·have hlt:k<v.kids.length:=by have:=(List.getElem?_eq_some_iff.1 ha).1;omega
    have hq:v.kids[k]?=some v.kids[k]:=by simp [hlt]
    rw [Q0f hq]
    simp only [U0]
    rw [ih m a v.kids[k] (hT.at_ _ h2 a (U1 ha)) (by omega) (by omega)]
    simp only [U0]
    cases hgk:Q3v w d a v.kids[k] with
    | false=>
     refine .some ⟨rfl,?_⟩
     rw [List.all_eq_false]
     exact ⟨(a,v.kids[k]),U1 (Q91 ha hq),by simp [hgk]⟩
    | true=>
     refine .some (fun j a' q' hj ha' hq'=>?_)
     by_cases hjk:j=k
     ·subst hjk
      rw [ha] at ha'
      rw [hq] at hq'
      cases ha'
      cases hq'
      exact hgk
     ·exact hI j a' q' (by omega) ha' hq'
   ·rw [List.all_eq_true]
    intro x hx
    obtain ⟨j,hj⟩:=List.mem_iff_getElem?.1 hx
    obtain ⟨h3,h4⟩:=List.getElem?_zip_eq_some.1 hj
    exact hI j x.1 x.2 ((List.getElem?_eq_some_iff.1 h3).1) h3 h4
theorem Z8e {w:List Q4}(hw:WW w){t:Q7}(ht:t∈tys w)(v:Q2):Q98 NN w t v=some (Q9z w t v):=by
 unfold Q98 Q9z
 rw [show (10:Int)=((10:Nat):Int) from rfl,W0c hw 10 NN t v ht (by decide) (by omega)]
 simp only [U0]
 cases Q3v w 10 t v with
 | false=>rfl
 | true=>
  simp only [if_true,Bool.true_and]
  rw [show (60:Int)=((60:Nat):Int) from rfl,W0d NN v 60 (by decide) (by omega)]
  simp only [U0]
  congr 1
  by_cases h:cntV v≤60
  ·rw [decide_eq_true h,J6];omega
  ·rw [decide_eq_false h,Q7h];omega
theorem Z2n {v u:Q2}{path:List Int}(h:Q69 v path=some u):Q6k v path=some u:=by
 suffices hs:Ret (Q6k v path) (fun r=>r=u) by
  obtain ⟨a,e,rfl⟩:=hs
  exact e
 unfold Q6k
 refine Ret.ctl (Z5 path (fun k s=>Q69 s (path.drop k)=some u) (fun _=>False) (fun s=>s=u) (by simpa using h) (fun k x s hx hI=>?_) (fun s hI=>by rw [List.drop_length,Q69] at hI;exact Option.some.inj hI)) (fun r hr=>hr.elim) (fun s hs=>.some hs)
 rw [Q9c hx,Q69] at hI
 cases hi:idx s.kids x with
 | none=>rw [hi] at hI;cases hI
 | some y=>
  rw [hi] at hI
  exact .some hI
theorem V9c {α:Type}{xs:List α}{i:Int}{x:α}(h:idx xs i=some x):x∈xs:=by
 unfold idx at h
 split at h
 ·exact U1 h
 ·cases h
theorem X0k:∀ {path:List Int} {v u:Q2} {d:Nat},Z1m d v→d≤10→Q69 v path=some u→Z1m 10 u
 | [],v,u,d,hv,hd,h=>by
  rw [Q69,Option.some.injEq] at h
  subst h
  exact Z9s _ _ _ hd hv
 | i::path,v,u,d,hv,hd,h=>by
  rw [Q69,U12] at h
  obtain ⟨x,hx,h⟩:=h
  cases d with
  | zero=>exact hv.elim
  | succ d=>exact X0k (hv.2 x (V9c hx)) (by omega) h
theorem Z3q {v:Q2}(hv:Z1m 10 v){l:List Q1}{r:List X3}(hl:l.length≤1000)(h:Q1a l v=some r):Q6m NN l v=some r:=by
 suffices hs:Ret (Q6m NN l v) (fun a=>a=r) by
  obtain ⟨a,e,rfl⟩:=hs
  exact e
 unfold Q6m
 refine Ret.ctl (Z5 l (fun k s=>s.length=k∧∃ s',Q1a (l.drop k) v=some s'∧s++s'=r) (fun _=>False) (fun s=>s=r) ⟨rfl,r,by simpa using h,rfl⟩ (fun k x s hx hI=>?_) (fun s hI=>?_)) (fun r hr=>hr.elim) (fun s hs=>.some hs)
 ·obtain ⟨i1,s',i2,i3⟩:=hI
  have hk:=(List.getElem?_eq_some_iff.1 hx).1
  rw [Q9c hx,Q1a,U12] at i2
  obtain ⟨u,hu,i2⟩:=i2
  rw [U11] at i2
  obtain ⟨m,hm,rfl⟩:=i2
  rw [Z2n hu]
  simp only [U0]
  rw [X0l 10 NN u (X0k hv (Nat.le_refl _) hu) (by decide)]
  simp only [U0]
  rw [X6 (by simp only [U3,U4,Q5];omega)]
  exact .some ⟨by simp [i1],m,hm,by rw [←i3];simp⟩
 ·obtain ⟨_,s',i2,i3⟩:=hI
  rw [List.drop_length,Q1a,Option.some.injEq] at i2
  rw [←i3,←i2]
  simp
def byt (r:X1)(i:Nat):Nat:=(r.b.getD i 0).toNat
def pk24 (r:X1)(p:Nat):Nat:=if r.b.length=0 then 0 else Zed.pkv (byt r) r.b.length p
theorem V8b {a:Nat}(h:a<1099511627776):wxor .i64 (a:Int) ((a / 64:Nat):Int)=((a ^^^ (a / 64):Nat):Int):=by
 have e:(BitVec.ofInt IntKind.i64.bits (a:Int) ^^^ BitVec.ofInt IntKind.i64.bits ((a / 64:Nat):Int)).toNat=a ^^^ (a / 64):=by
  have ha:(BitVec.ofInt IntKind.i64.bits (a:Int)).toNat=a:=by
   rw [BitVec.toNat_ofInt]
   show (((a:Int) % ((2 ^ 64:Nat):Int))).toNat=a
   omega
  have hb:(BitVec.ofInt IntKind.i64.bits ((a / 64:Nat):Int)).toNat=a / 64:=by
   rw [BitVec.toNat_ofInt]
   show ((((a / 64:Nat):Int) % ((2 ^ 64:Nat):Int))).toNat=a / 64
   omega
  rw [BitVec.toNat_xor,ha,hb]
 have hlt:a ^^^ (a / 64)<2 ^ 40:=Nat.xor_lt_two_pow (by omega) (by omega)
 unfold wxor
 rw [e,Z5v (by omega) (by omega)]
theorem Y4a {r:X1}(hb:∀ x∈r.b,0≤x∧x≤255)(hl:r.b.length≤2000){p:Nat}(hp:r.p=(p:Int))(hp2:p≤30000000):Z8 r 24=some (((pk24 r p:Nat):Int),⟨r.b,((p+1:Nat):Int)⟩):=by
 have ep:wadd .i64 r.p 1=((p+1:Nat):Int):=by rw [hp,V9]<;>omega
 have eq:wsub .i64 ((p+1:Nat):Int) 1=(p:Int):=by rw [Q3h]<;>omega
 unfold Z8
 rw [ep,eq,if_neg (by rw [Z9];omega)]
 unfold pk24
 by_cases h0:r.b.length=0
 ·rw [if_pos (by rw [Q9];simp only [lenZ];omega),if_pos h0]
  rfl
 rw [if_neg (by rw [Q9];simp only [lenZ];omega),if_neg h0]
 have hpos:0<r.b.length:=by omega
 have hk0:chk (!ieq 24 0)=some ():=rfl
 have hb0:chk (!ieq (lenZ r.b.length) 0)=some ():=Z53 (by rw [Bool.not_eq_true',X2];simp only [lenZ];omega)
 have get:∀ i:Nat,i<r.b.length→idx r.b (i:Int)=some ((byt r i:Nat):Int)∧byt r i≤255:=fun i hi=>by
  have h1:r.b[i]?=some r.b[i]:=U9 hi
  obtain ⟨b1,b2⟩:=hb _ (U1 h1)
  have h2:byt r i=r.b[i].toNat:=by unfold byt;rw [List.getD_eq_getElem?_getD,h1];rfl
  rw [Q0f h1,h2]
  exact ⟨by congr 1;omega,by omega⟩
 unfold Zed.pkv
 by_cases hlt:p<r.b.length
 ·rw [if_pos (by rw [Z9];simp only [lenZ];omega),if_pos hlt]
  obtain ⟨g1,g2⟩:=get p hlt
  rw [g1,hk0]
  simp only [U0]
  rw [X3c (by omega) (by omega)]
  congr 2
 ·rw [if_neg (by rw [Z9];simp only [lenZ];omega),if_neg hlt,hb0]
  simp only [U0]
  have e7:wmul .i64 (p:Int) 7=((p * 7:Nat):Int):=by rw [Z0f]<;>omega
  have e73:wadd .i64 ((p * 7:Nat):Int) 3=((p * 7+3:Nat):Int):=by rw [V9]<;>omega
  rw [e7,e73]
  have rm:∀ a:Nat,wrem (a:Int) (lenZ r.b.length)=((a % r.b.length:Nat):Int):=fun a=>by
   unfold wrem lenZ
   rw [Int.tmod_eq_emod_of_nonneg (by omega)]
   rfl
  rw [rm,rm]
  obtain ⟨g1,g2⟩:=get (p % r.b.length) (Nat.mod_lt _ hpos)
  obtain ⟨g3,g4⟩:=get ((p * 7+3) % r.b.length) (Nat.mod_lt _ hpos)
  rw [g1,g3,hk0]
  simp only [U0]
  generalize byt r (p % r.b.length)=x at g2 ⊢
  generalize byt r ((p * 7+3) % r.b.length)=y at g4 ⊢
  have f1:wcv .i64 (x:Int)=(x:Int):=X3c (by omega) (by omega)
  have f2:wcv .i64 (y:Int)=(y:Int):=X3c (by omega) (by omega)
  have f3:wmul .i64 (x:Int) 131=((x * 131:Nat):Int):=by rw [Z0f]<;>omega
  have f4:wmul .i64 (y:Int) 1117=((y * 1117:Nat):Int):=by rw [Z0f]<;>omega
  have f5:wmul .i64 (p:Int) 29=((p * 29:Nat):Int):=by rw [Z0f]<;>omega
  have hq:p / r.b.length≤p:=Nat.div_le_self _ _
  have f6:wquo .i64 (p:Int) (lenZ r.b.length)=((p / r.b.length:Nat):Int):=by
   have:(p:Int).tdiv (lenZ r.b.length)=((p / r.b.length:Nat):Int):=by
    rw [Int.tdiv_eq_ediv_of_nonneg (by omega)]
    rfl
   generalize p / r.b.length=q at hq this ⊢
   rw [X4g (by rw [this];omega) (by rw [this];omega),this]
  rw [f1,f2,f3,f4,f5,f6]
  generalize p / r.b.length=q at hq ⊢
  have f7:wmul .i64 (q:Int) 53=((q * 53:Nat):Int):=by rw [Z0f]<;>omega
  have f8:wadd .i64 ((x * 131:Nat):Int) ((y * 1117:Nat):Int)=((x * 131+y * 1117:Nat):Int):=by rw [V9]<;>omega
  have f9:wadd .i64 ((x * 131+y * 1117:Nat):Int) ((p * 29:Nat):Int)=((x * 131+y * 1117+p * 29:Nat):Int):=by rw [V9]<;>omega
  have f10:wadd .i64 ((x * 131+y * 1117+p * 29:Nat):Int) ((q * 53:Nat):Int)=((x * 131+y * 1117+p * 29+q * 53:Nat):Int):=by rw [V9]<;>omega
  rw [f7,f8,f9,f10]
  have hz:x * 131+y * 1117+p * 29+q * 53<1099511627776:=by omega
  generalize x * 131+y * 1117+p * 29+q * 53=z at hz ⊢
  have f11:wquo .i64 (z:Int) 64=((z / 64:Nat):Int):=by
   have:(z:Int).tdiv 64=((z / 64:Nat):Int):=by
    rw [Int.tdiv_eq_ediv_of_nonneg (by omega)]
    rfl
   rw [X4g (by rw [this];omega) (by rw [this];omega),this]
  rw [f11]
  have f12:wxor .i64 (z:Int) ((z / 64:Nat):Int)=((z ^^^ (z / 64):Nat):Int):=V8b hz
  rw [f12]
  unfold Zed.yv
  have:wrem ((z ^^^ (z / 64):Nat):Int) 24=(((z ^^^ (z / 64)) % 24:Nat):Int):=by
   unfold wrem
   rw [Int.tmod_eq_emod_of_nonneg (by omega)]
   rfl
  rw [this]
def widV (m:Nat):Q2→Prop
 | ⟨_,_,ks⟩=>ks.length≤m∧widVs m ks
where widVs (m:Nat):List Q2→Prop
 | []=>True
 | v::l=>widV m v∧widVs m l
theorem X6u (m:Nat):∀ l:List Q2,widV.widVs m l↔∀ x∈l,widV m x
 | []=>by simp [widV.widVs]
 | v::l=>by simp only [widV.widVs,U8,forall_eq_or_imp,X6u m l]
theorem Z46 (m:Nat)(v:Q2):widV m v↔v.kids.length≤m∧∀ x∈v.kids,widV m x:=by
 cases v
 rw [widV,X6u]
theorem Z45 {m k:Nat}(h:m≤k):∀ v:Q2,widV m v→widV k v
 | ⟨a,b,ks⟩,hv=>by
  rw [Z46] at hv ⊢
  refine ⟨Nat.le_trans hv.1 h,fun x hx=>?_⟩
  have:=hv.2 x hx
  exact Z45 h x this
termination_by v=>SizeOf.sizeOf v
decreasing_by
 simp_wf
 have:=List.sizeOf_lt_of_mem hx
 simp at this
 omega
theorem W8z {r r':X1}{k x:Int}(h:Z8 r k=some (x,r'))(hp:r.p≤40000000):r'.p=wadd .i64 r.p 1:=by
 unfold Z8 at h
 split at h
 ·cases h;rfl
 split at h
 ·cases h;rfl
 split at h
 ·simp only [U12,Option.some.injEq,Prod.mk.injEq] at h
  obtain ⟨_,_,_,_,_,rfl⟩:=h
  rfl
 ·simp only [U12,Option.some.injEq,Prod.mk.injEq] at h
  obtain ⟨_,_,_,_,_,_,_,_,_,rfl⟩:=h
  rfl
theorem W4u {b:List Int}(hb:∀ x∈b,0≤x∧x≤255)(hl:b.length≤2000){E:Nat}{V:Nat→Int}(hE:E≤20000000)(hP:Zed.Pot (pk24 ⟨b,0⟩) E V):∀ (k n:Nat) (v:Q2) (p m:Nat) (P:Int),E-p≤k→k<n→m≤100+p→widV m v→1≤P→2 * P≤V p→
  Ret (Q1w n ⟨b,(p:Int)⟩ v) (fun a=>∃ p':Nat,a.2=⟨b,(p':Int)⟩∧p<p'∧p'≤E+2∧2 * (P-1)≤V p'∧widV (m+(p'-p)) a.1):=by
 intro k
 induction k with
 | zero=>
  intro n v p m P hk hn hm hv h1 h2
  have:=hP.fin p (by omega)
  omega
 | succ k ih=>
  intro n v p m P hk hn hm hv h1 h2
  obtain ⟨n,rfl⟩:∃ j,n=j+1:=⟨n-1,by omega⟩
  have hpE:p<E:=by
   rcases Nat.lt_or_ge p E with h | h
   ·exact h
   ·have:=hP.fin p h
    omega
  have hv':=(Z46 m v).1 hv
  unfold Q1w
  rw [X6 (by simp only [U4,Q5];omega)]
  simp only [U0]
  have hpk:=Y4a (r:=⟨b,(p:Int)⟩) hb hl rfl (by omega:p≤30000000)
  have hpe:pk24 ⟨b,(p:Int)⟩ p=pk24 ⟨b,0⟩ p:=rfl
  rw [hpe] at hpk
  simp only at hpk
  have hr1:ROk ⟨b,((p+1:Nat):Int)⟩ 1:=⟨hb,hl,by simp only;omega,by simp only;omega⟩
  refine Ret.ctl (R:=fun _=>False) (B:=fun (s:X1×Int×Int×List Q2)=>∃ p':Nat,s.1=⟨b,(p':Int)⟩∧p<p'∧p'≤E+2∧2 * (P-1)≤V p'∧s.2.2.2.length≤m+(p'-p)∧∀ x∈s.2.2.2,widV (m+(p'-p)) x) ?_ (fun r hr=>hr.elim) (fun s hs=>?_)
  ·rw [hpk]
   simp only [U0]
   have kidsOk:∀ q:Nat,v.kids.length≤m+q∧∀ x∈v.kids,widV (m+q) x:=fun q=>⟨by omega,fun x hx=>Z45 (by omega) x (hv'.2 x hx)⟩
   have skip:pk24 ⟨b,0⟩ p≤1→∀ (a:Int×X1),Nx ⟨b,((p+1:Nat):Int)⟩ a.2 1→a.2.p=((p+2:Nat):Int)→a.2=⟨b,((p+2:Nat):Int)⟩∧2 * (P-1)≤V (p+2):=fun h a hn hp2=>by
    have:=hP.skip p hpE h
    refine ⟨?_,by omega⟩
    cases a with
    | mk x r=>
     cases r with
     | mk bb pp=>
      have e1:bb=b:=hn.b
      simp only at hp2
      rw [e1,hp2]
   have num2:∀ l:List Int,1≤l.length→l.length≤1000→Ret (W4 ⟨b,((p+1:Nat):Int)⟩ l) (fun a=>Nx ⟨b,((p+1:Nat):Int)⟩ a.2 1∧a.2.p=((p+2:Nat):Int)):=fun l hl1 hl2=>by
    obtain ⟨a,e,_,hn⟩:=Z0n hr1 l hl1 hl2
    refine ⟨a,e,hn,?_⟩
    unfold W4 at e
    cases hpick:Z8 ⟨b,((p+1:Nat):Int)⟩ (lenZ l.length) with
    | none=>rw [hpick] at e;cases e
    | some q=>
     rw [hpick] at e
     simp only [U0] at e
     cases hi:idx l q.1 with
     | none=>rw [hi] at e;cases e
     | some y=>
      rw [hi] at e
      simp only [U0,Option.some.injEq] at e
      subst e
      simp only
      have:=W8z hpick (by simp only;omega)
      rw [this]
      show wadd .i64 ((p+1:Nat):Int) 1=_
      rw [V9 (by omega) (by omega)]
      omega
   refine Ret.ite (fun h0=>?_) (fun h0=>?_)
   ·rw [Q9] at h0
    refine Ret.bind (num2 _ (by simp) (by simp)) (fun a ha=>.some ?_)
    obtain ⟨e1,e2⟩:=skip (by omega) a ha.1 ha.2
    exact ⟨p+2,e1,by omega,by omega,e2,(kidsOk _).1,(kidsOk _).2⟩
   rw [X2] at h0
   refine Ret.ite (fun h1'=>?_) (fun h1'=>?_)
   ·rw [Q9] at h1'
    refine Ret.bind (num2 _ (by simp) (by simp)) (fun a ha=>.some ?_)
    obtain ⟨e1,e2⟩:=skip (by omega) a ha.1 ha.2
    exact ⟨p+2,e1,by omega,by omega,e2,(kidsOk _).1,(kidsOk _).2⟩
   rw [X2] at h1'
   refine Ret.ite (fun h2'=>?_) (fun h2'=>?_)
   ·rw [Q9] at h2'
    have hot:=hP.other p hpE (by omega) (by omega)
    rw [X6 (by simp only [U3,U4,Q5];omega)]
    refine .some ⟨p+1,rfl,by omega,by omega,by omega,by simp only [U5,U3,U4];omega,fun x hx=>?_⟩
    rcases List.mem_append.1 hx with hx | hx
    ·exact (kidsOk _).2 x hx
    ·simp only [List.mem_singleton] at hx
     rw [hx,Z46]
     exact ⟨by simp,fun y hy=>by cases hy⟩
   rw [X2] at h2'
   refine Ret.ite (fun h3=>?_) (fun h3=>?_)
   ·rw [Q9] at h3
    have hth:=hP.three p hpE (by omega)
    refine Ret.ite (fun h4=>?_) (fun h4=>?_)
    ·rw [Z9] at h4
     simp only [lenZ] at h4
     obtain ⟨x,hx,hxm⟩:=Q55 (xs:=v.kids) (i:=0) (by omega) (by omega)
     rw [hx]
     simp only [U0]
     refine Ret.bind (ih n x (p+1) m (P+1) (by omega) (by omega) (by omega) (hv'.2 x hxm) (by omega) (by omega)) (fun a ha=>?_)
     obtain ⟨p1,e1,e2,e3,e4,e5⟩:=ha
     rw [e1]
     refine Ret.bind (ih n a.1 p1 (m+(p1-(p+1))) P (by omega) (by omega) (by omega) e5 h1 (by omega)) (fun c hc=>?_)
     obtain ⟨p2,g1,g2,g3,g4,g5⟩:=hc
     have hset:setI v.kids 0 c.1=some (v.kids.set 0 c.1):=by
      unfold setI
      rw [if_pos ⟨by omega,by show 0<v.kids.length;omega⟩]
      rfl
     rw [hset]
     simp only [U0]
     refine .some ⟨p2,g1,by omega,g3,g4,by simp only [List.length_set];omega,fun y hy=>?_⟩
     rcases List.mem_or_eq_of_mem_set hy with hy | rfl
     ·exact (kidsOk _).2 y hy
     ·exact Z45 (by omega) _ g5
    ·exact .some ⟨p+1,rfl,by omega,by omega,by omega,(kidsOk _).1,(kidsOk _).2⟩
   ·rw [X2] at h3
    have hot:=hP.other p hpE (by omega) (by omega)
    exact .some ⟨p+1,rfl,by omega,by omega,by omega,(kidsOk _).1,(kidsOk _).2⟩
  ·obtain ⟨p',e1,e2,e3,e4,e5,e6⟩:=hs
   exact .some ⟨p',e1,e2,e3,e4,(Z46 _ _).2 ⟨e5,e6⟩⟩
theorem X3t {r:X1}(hr:ROk r 1)(hp:r.p≤5000){v:Q2}(hv:widV 100 v):Ret (Q1w NN r v) (fun a=>Nx r a.2 20000010):=by
 obtain ⟨b,p⟩:=r
 obtain ⟨h1,h2,h3,h4⟩:=hr
 simp only at h1 h2 h3 h4 hp
 obtain ⟨p,rfl⟩:=Int.eq_ofNat_of_zero_le h3
 have hex:∃ E V,Zed.Pot (pk24 ⟨b,0⟩) E V∧2≤V p∧E≤20000000:=by
  by_cases hb:b.length=0
  ·obtain ⟨E,V,g1,g2,g3⟩:=Zed.pot0 p
   refine ⟨E,V,?_,g2,by omega⟩
   have:pk24 ⟨b,0⟩=fun _=>0:=by
    funext q
    unfold pk24
    rw [if_pos hb]
   rw [this]
   exact g1
  ·obtain ⟨E,V,g1,g2,g3⟩:=Zed.pot (byt ⟨b,0⟩) (fun i=>by
    unfold byt
    simp only
    rw [List.getD_eq_getElem?_getD]
    cases hi:b[i]? with
    | none=>simp
    | some x=>
     have:=h1 x (U1 hi)
     simp only [Option.getD_some]
     omega) (L:=b.length) (p0:=p) (by omega) h2 (by omega)
   refine ⟨E,V,?_,g2,g3⟩
   have:pk24 ⟨b,0⟩=Zed.pkv (byt ⟨b,0⟩) b.length:=by
    funext q
    unfold pk24
    rw [if_neg hb]
   rw [this]
   exact g1
 obtain ⟨E,V,g1,g2,g3⟩:=hex
 refine Ret.mono ?_ (W4u h1 h2 g3 g1 (E-p) NN v p (100+p) 1 (Nat.le_refl _) (by simp only [NN];omega) (Nat.le_refl _) (Z45 (by omega) v hv) (by omega) (by omega))
 rintro a ⟨p',e1,e2,e3,_,_⟩
 rw [e1]
 refine ⟨rfl,?_,?_⟩
 ·show ((p:Nat):Int)≤((p':Nat):Int)
  omega
 ·show ((p':Nat):Int)≤((p:Nat):Int)+((20000010:Nat):Int)
  omega
def Par {α:Type}(x:Option α)(Q:α→Prop):Prop:=∀ a,x=some a→Q a
theorem Par.some {α:Type}{a:α}{Q:α→Prop}(h:Q a):Par (some a) Q:=fun b e=>by cases e;exact h
theorem Par.none {α:Type}{Q:α→Prop} : Par (none:Option α) Q:=fun b e=>by cases e
theorem Par.bind {α β:Type}{x:Option α}{f:α→Option β}{P:α→Prop}{Q:β→Prop}(hx:Par x P)(hf:∀ a,P a→Par (f a) Q):Par (x.bind f) Q:=fun b e=>by
 cases hx':x with
 | none=>rw [hx'] at e;cases e
 | some a=>rw [hx'] at e;exact hf a (hx a hx') b e
theorem Par.any {α β:Type}{x:Option α}{f:α→Option β}{Q:β→Prop}(hf:∀ a,Par (f a) Q):Par (x.bind f) Q:=Par.bind (P:=fun _=>True) (fun _ _=>trivial) fun a _=>hf a
theorem Par.ite {α:Type}{b:Bool}{x y:Option α}{Q:α→Prop}(h1:b=true→Par x Q)(h2:b=false→Par y Q):Par (if b=true then x else y) Q:=by
 cases b with
 | true=>exact h1 rfl
 | false=>exact h2 rfl
theorem Par.mono {α:Type}{x:Option α}{P Q:α→Prop}(h:∀ a,P a→Q a)(hx:Par x P):Par x Q:=fun a e=>h a (hx a e)
theorem Par.ctl {ρ σ τ:Type}{x:Option (Ctl ρ σ)}{g:Ctl ρ σ→Option τ}{R:ρ→Prop}{B:σ→Prop}{Q:τ→Prop}(h:Par x (CtlQ R B))(hr:∀ r,R r→Par (g (.ret r)) Q)(hb:∀ s,B s→Par (g (.brk s)) Q):Par (x.bind g) Q:=
 Par.bind h fun a ha=>by
  cases a with
  | ret r=>exact hr r ha
  | brk s=>exact hb s ha
  | go s=>exact ha.elim
theorem X5r {α σ ρ:Type}{f:Nat→α→σ→Option (Ctl ρ σ)}(I:Nat→σ→Prop)(R:ρ→Prop)(B:σ→Prop):∀ (xs:List α) (i:Nat) (s0:σ),I i s0→(∀ k x s,x∈xs→I k s→Par (f k x s) (RndQ R B (I (k+1))))→(∀ s,I (i+xs.length) s→B s)→Par (forL f i xs s0) (CtlQ R B)
 | [],i,s0,h0,_,hb=>by
  unfold forL
  exact .some (hb s0 (by simpa using h0))
 | x::xs,i,s0,h0,st,hb=>by
  unfold forL
  have h1:=st i x s0 (by simp) h0
  intro a e
  cases hf:f i x s0 with
  | none=>rw [hf] at e;cases e
  | some o=>
   rw [hf] at e
   have h2:=h1 o hf
   cases o with
   | ret r=>cases e;exact h2
   | brk s=>cases e;exact h2
   | go s=>exact X5r I R B xs (i+1) s h2 (fun k y s hy=>st k y s (by simp [hy])) (fun s hs=>hb s (by simpa [Nat.add_assoc,Nat.add_comm 1] using hs)) a e
theorem Ret.both {α:Type}{x:Option α}{P Q:α→Prop}(h:Ret x P)(k:Par x Q):Ret x (fun a=>P a∧Q a):=by
 obtain ⟨a,e,hp⟩:=h
 exact ⟨a,e,hp,k a e⟩
theorem V1n {α:Type}(xs ys:List α):Par (app xs ys) (fun z=>z=xs++ys):=fun z hz=>by
 unfold app at hz
 split at hz
 ·cases hz;rfl
 ·cases hz
theorem W2z {w:List Q4}(hw:WW w){r:X1}{t:Q7}(ht:t∈tys w)(h:ROk r 2600):Ret (Q8f NN r w t) (fun a=>(∀ c∈a.1,Q3i w t c.pat=true)∧a.1.length≤5∧Nx r a.2 2600):=by
 unfold Q8f
 refine Ret.bind (Z0n (h.le (by omega)) [3,2,4,5,1,0] (by simp) (by simp)) (fun a ha=>?_)
 have hr1:ROk a.2 2599:=ROk.nx (c:=1) h ha.2
 have hd:0≤a.1∧a.1≤5:=by
  have:=ha.1
  simp at this
  omega
 refine Ret.ctl (Q0y (fun s=>0≤s.2.2∧s.2.2≤5∧(s.2.1.length:Int)+s.2.2=a.1∧(∀ c∈s.2.1,Q3i w t c.pat=true)∧Nx a.2 s.1 (s.2.1.length * 500)) (fun s=>s.2.2.toNat) (fun _=>False) (fun s=>s.2.1.length≤5∧(∀ c∈s.2.1,Q3i w t c.pat=true)∧Nx a.2 s.1 2500)
  ⟨hd.1,hd.2,by simp,by simp,by simpa using Nx.refl a.2⟩ (fun s hI=>?_) NN (by have:=hd;show (a.1).toNat<30000000;omega)) (fun r hr=>hr.elim) (fun s hs=>.some ⟨hs.2.1,hs.1,(ha.2.trans hs.2.2).le' (by omega)⟩)
 obtain ⟨i1,i2,i3,i4,i5⟩:=hI
 refine Ret.ite (fun h=>?_) (fun h=>?_)
 ·rw [Z9] at h
  have hr2:ROk s.1 500:=ROk.nx (c:=s.2.1.length * 500) (hr1.le (by omega)) i5
  refine Ret.bind (W6n hw ht hr2) (fun b hb=>?_)
  rw [X6 (by simp only [Q5,U3,U4];omega)]
  have hws:wsub .i64 s.2.2 1=s.2.2-1:=Q3h (by omega) (by omega)
  simp only [U0]
  rw [hws]
  refine .some ⟨⟨by simp only;omega,by simp only;omega,by simp;omega,fun c hc=>?_,?_⟩,by simp only;omega⟩
  ·rcases List.mem_append.1 hc with hc | hc
   ·exact i4 c hc
   ·simp at hc;subst hc;exact hb.1
  ·have:=i5.trans hb.2
   simp only [U5,U3,U4]
   exact this.le' (by omega)
 ·exact .some ⟨by simp only;omega,i4,i5.le' (by omega)⟩
theorem W4t {code:List Int}{q:X1}(h:((if (ilt 2000 (lenZ code.length))=true then ((Q8w code 2000).bind fun x8=>some (Ctl.brk (ρ:=X1) x8)) else some (Ctl.brk code)))=some (.ret q)):False:=by
 split at h
 ·cases ht:Q8w code 2000 with
  | none=>rw [ht] at h;cases h
  | some x=>rw [ht] at h;cases h
 ·cases h
theorem V15 {w:List Q4}(hw:WW w):∀ (n:Nat) (r:X1) (t:Q7) (depth:Int),t∈tys w→Par (Q47 n r w (tabP w) t depth) (fun a=>widV 3 a.1):=by
 intro n
 induction n with
 | zero=>intro r t depth _;exact .none
 | succ n ih=>
  intro r t depth ht
  have hT:=hw.ty t ht
  unfold Q47
  refine Par.ite (fun _=>?_) (fun _=>?_)
  ·exact Par.any fun a=>.some ((Z46 _ _).2 ⟨by simp,fun x hx=>by cases hx⟩)
  ·rw [hT.c1]
   simp only [U0]
   refine Par.ctl (X5r (fun _ (s:List Int)=>∀ x∈s,x∈W9 w t) (fun _=>False) (fun s=>∀ x∈s,x∈W9 w t) (W9 w t) 0 _ (by simp) (fun k x s hx hI=>?_) (fun s hs=>hs)) (fun r hr=>hr.elim) (fun s hs=>?_)
   ·have add:Par ((app s [x]).bind fun x310=>some (Ctl.brk (ρ:=Ctl (Q2×X1) (List Int)) x310)) (CtlQ (fun _=>False) (fun s'=>∀ x∈s',x∈W9 w t)):=by
     refine Par.bind (V1n _ _) (fun z hz=>.some ?_)
     subst hz
     intro y hy
     rcases List.mem_append.1 hy with hy | hy
     ·exact hI y hy
     ·simp only [List.mem_singleton] at hy;rw [hy];exact hx
    have pass:Par (some (Ctl.brk (ρ:=Ctl (Q2×X1) (List Int)) s)) (CtlQ (fun _=>False) (fun s'=>∀ x∈s',x∈W9 w t)):=.some hI
    refine Par.ctl (R:=fun _=>False) (B:=fun (s':List Int)=>∀ x∈s',x∈W9 w t) ?_ (fun r hr=>hr.elim) (fun s' hs'=>.some hs')
    refine Par.any fun a=>Par.ite (fun _=>Par.ite (fun _=>add) (fun _=>Par.any fun b=>Par.ite (fun _=>add) (fun _=>pass))) (fun _=>pass)
   ·refine Par.any fun a=>?_
    refine Par.bind (P:=fun x=>x∈W9 w t) (fun x hx=>?_) (fun x hx=>?_)
    ·unfold idx at hx
     split at hx
     ·exact hs x (U1 hx)
     ·cases hx
    ·rw [hT.a1 x hx]
     simp only [U0]
     have hal:=hT.al x hx
     refine Par.ctl (X5r (fun k (u:X1×List Q2)=>u.2.length≤k∧∀ y∈u.2,widV 3 y) (fun _=>False) (fun u=>u.2.length≤3∧∀ y∈u.2,widV 3 y) (Q09 w t x) 0 _ (by simp) (fun k y u hy hI=>?_) (fun u hu=>⟨by have:=hu.1;omega,hu.2⟩)) (fun r hr=>hr.elim) (fun u hu=>.some ((Z46 _ _).2 hu))
     refine Par.bind (ih u.1 y _ (hT.at_ x hx y hy)) (fun b hb=>?_)
     refine Par.bind (V1n _ _) (fun z hz=>.some ?_)
     subst hz
     refine ⟨by simp only [U5,U3,U4];have:=hI.1;omega,fun q hq=>?_⟩
     rcases List.mem_append.1 hq with hq | hq
     ·exact hI.2 q hq
     ·simp only [List.mem_singleton] at hq;rw [hq];exact hb
theorem W4b {r:X1}(h:ROk r 1000):Ret (Q4m NN r) (fun a=>a.1∈Q0r∧a.2.1∈tys a.1∧Nx r a.2.2.2 500∧widV 3 a.2.2.1∧depP a.1 a.2.1≠0):=by
 unfold Q4m
 refine Ret.bind (W2d (h.le (by omega))) (fun a ha=>?_)
 obtain ⟨hw,hn1⟩:=ha
 have hW:=ww hw
 rw [hW.tab]
 simp only [U0]
 have hr1:ROk a.2 999:=ROk.nx (c:=1) h hn1
 have hpos:=hW.pos
 have hle:=hW.le
 refine Ret.bind (Q3w (hr1.le (by omega)) (k:=lenZ a.1.length) (by simp only [lenZ];omega) (by simp only [lenZ];omega)) (fun b hb=>?_)
 have hr2:ROk b.2 998:=ROk.nx (c:=1) hr1 hb.2.2
 refine Ret.bind (Z0n (hr2.le (by omega)) [0,0,1,2] (by simp) (by simp)) (fun c hc=>?_)
 have hr3:ROk c.2 997:=ROk.nx (c:=1) hr2 hc.2
 have hty:(Q7.mk b.1 c.1)∈tys a.1:=by
  obtain ⟨i,hi⟩:=Int.eq_ofNat_of_zero_le hb.1
  have hil:i<a.1.length:=by have:=hb.2.1;simp only [lenZ] at this;omega
  have hci:∃ j:Nat,j<4∧c.1=(j:Int):=by
   have:=hc.1
   simp at this
   rcases this with h | h | h
   ·exact ⟨0,by omega,h⟩
   ·exact ⟨1,by omega,h⟩
   ·exact ⟨2,by omega,h⟩
  obtain ⟨j,hj,hcj⟩:=hci
  unfold tys
  refine List.mem_cons_of_mem _ (List.mem_flatMap.2 ⟨i,List.mem_range.2 hil,U10.2 ⟨j,List.mem_range.2 hj,?_⟩⟩)
  rw [hi,hcj]
  rfl
 have htI:tI∈tys a.1:=by unfold tys;exact List.mem_cons_self
 refine Ret.ctl (R:=fun _=>False) (B:=fun s=>(Q7.mk s.1 s.2)∈tys a.1∧depP a.1 (Q7.mk s.1 s.2)≠0) ?_ (fun r hr=>hr.elim) (fun s hs=>?_)
 ·rw [(hW.ty _ hty).d1]
  simp only [U0]
  refine Ret.ite (fun h=>?_) (fun h=>?_)
  ·refine .some ⟨htI,?_⟩
   have:=(hW.ty tI htI).ti rfl
   show depP a.1 tI≠0
   omega
  ·rw [X2] at h
   exact .some ⟨hty,h⟩
 ·refine Ret.bind (Z0n (hr3.le (by omega)) [3,2,4,1] (by simp) (by simp)) (fun d hd=>?_)
  have hr4:ROk d.2 996:=ROk.nx (c:=1) hr3 hd.2
  have hd4:1≤d.1∧d.1≤4:=by
   have:=hd.1
   simp at this
   omega
  have hdep:=(hW.ty _ hs.1).d4
  refine Ret.bind ((W3v hW 4 NN d.2 _ d.1 hs.1 hs.2 (by omega) (by omega) (by omega) (by omega) (by decide) (hr4.le (by decide))).both (V15 hW NN d.2 _ d.1 hs.1)) (fun e he=>?_)
  refine .some ⟨hw,hs.1,?_,he.2,hs.2⟩
  have:=(((hn1.trans hb.2.2).trans hc.2).trans hd.2).trans he.1
  exact this.le' (by decide)
theorem X3e {r:X1}(h:ROk r 5000):Ret (Q2h NN r) (fun a=>a.1∈Q0r∧a.2.1∈tys a.1∧(∀ c∈a.2.2.1,Q3i a.1 a.2.1 c.pat=true)∧a.2.2.1.length≤5∧Nx r a.2.2.2.2 4000∧widV 3 a.2.2.2.1∧depP a.1 a.2.1≠0):=by
 unfold Q2h
 refine Ret.bind (W4b (h.le (by omega))) (fun a ha=>?_)
 obtain ⟨h1,h2,h3,h4,h5⟩:=ha
 refine Ret.bind (W2z (ww h1) h2 (ROk.nx (c:=500) (h.le (by omega)) h3)) (fun b hb=>?_)
 exact .some ⟨h1,h2,hb.1,hb.2.1,(h3.trans hb.2.2).le' (by omega),h4,h5⟩
theorem W2t (code:List Int)(hb:∀ x∈code,0≤x∧x≤255):Ret (Q1t code) (fun r=>ROk r 1000000∧r.p=0):=by
 obtain ⟨r,e,hr⟩:=W0n code hb
 refine ⟨r,e,hr,?_⟩
 unfold Q1t at e
 simp only [U12] at e
 obtain ⟨o,h1,h2⟩:=e
 cases o with
 | ret q=>exact (W4t h1).elim
 | go s=>cases h2
 | brk s=>simp only [Option.some.injEq] at h2;rw [←h2]
instance:DecidableEq Q1:=fun a b=>decidable_of_iff (a.var=b.var∧a.path=b.path) ⟨fun h=>by cases a;cases b;simp at h;simp [h],fun h=>by subst h;simp⟩
instance:DecidableEq Z11:=fun a b=>decidable_of_iff (a.ctor=b.ctor∧a.n=b.n∧a.m=b.m∧a.to=b.to) ⟨fun h=>by cases a;cases b;simp at h;simp [h],fun h=>by subst h;simp⟩
instance:DecidableEq Q0a:=fun a b=>decidable_of_iff (a.op=b.op∧a.clause=b.clause∧a.binds=b.binds∧a.path=b.path∧a.edges=b.edges∧a.else_=b.else_) ⟨fun h=>by cases a;cases b;simp at h;simp [h],fun h=>by subst h;simp⟩
theorem Q93 {α:Type}{l:List α}{k:Nat}{x:α}(h:l[k]?=some x):l.take (k+1)=l.take k++[x]:=by
 rw [List.take_add_one,h]
 rfl
theorem Z0k {α:Type}{a b:List α}(hl:a.length=b.length){f:Nat→α→Unit→Option (Ctl Bool Unit)}(hf:∀ (k:Nat) (x y:α),b[k]?=some y→(x=y→f k x ()=some (.go ()))∧(x≠y→f k x ()=some (.ret false))):Ret (forL f 0 a ()) (CtlQ (fun r=>r=false∧a≠b) (fun _=>a=b)):=by
 refine Z5 a (fun k _=>a.take k=b.take k) _ _ (by simp) (fun k x s hx hI=>?_) (fun s hI=>?_)
 ·have hk:=(List.getElem?_eq_some_iff.1 hx).1
  have hy:b[k]?=some (b[k]'(by omega)):=U9 (by omega)
  by_cases h:x=b[k]'(by omega)
  ·refine Ret.of ((hf k x _ hy).1 h) ?_
   simp only [Q05]
   rw [Q93 hx,Q93 hy,hI,h]
  ·refine Ret.of ((hf k x _ hy).2 h) ?_
   refine (show false=false∧a≠b from ⟨rfl,fun e=>h ?_⟩)
   subst e
   rw [hx] at hy
   exact Option.some.inj hy
 ·rw [List.take_length,hl,List.take_length] at hI
  exact hI
theorem Q22 {α:Type} [DecidableEq α] {a b:α}(h:a≠b):false=decide (a=b):=(decide_eq_false h).symm
theorem Z2x {α:Type} [DecidableEq α] {a b:α}(h:a=b):true=decide (a=b):=(decide_eq_true h).symm
theorem Z3d (a b:List Int):Q1o a b=some (decide (a=b)):=by
 suffices hs:Ret (Q1o a b) (fun r=>r=decide (a=b)) by
  obtain ⟨_,e,rfl⟩:=hs
  exact e
 unfold Q1o
 refine Ret.ite (fun h=>.some (Q22 ?_)) (fun h=>?_)
 ·rintro rfl
  simp [ieq] at h
 ·rw [Bool.not_eq_false',Q9,V7,V7] at h
  refine Ret.ctl (Z0k (b:=b) (by omega) (fun k x y hy=>?_)) (fun r hr=>.some ?_) (fun s hs=>.some (Z2x hs))
  ·rw [Q0f hy]
   simp only [U0]
   exact ⟨fun e=>by simp [ieq,e],fun e=>by simp [ieq,e]⟩
  ·rw [hr.1]
   exact Q22 hr.2
end Go.Proofs.YtfhpjeogjcfkaaaGreat
