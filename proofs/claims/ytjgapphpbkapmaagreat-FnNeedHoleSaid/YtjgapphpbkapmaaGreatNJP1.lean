import Derived.Test.YtjgapphpbkapmaaGreatNJP0
import Derived.Test.YtjgapphpbkapmaaGreatNJZ0
set_option linter.unusedSimpArgs false
set_option linter.unusedVariables false
namespace Go.Proofs.YtjgapphpbkapmaaGreat
open Go Go.RowKit
def CI (w:List Q3)(lst:List Z0)(pick:Int)(left:Int):Z9:=⟨⟨w,dimP w⟩,lst,pick,300-left⟩
def Q84 (t:X7):List X7:=t.branches.map (fun b=>b.tree)++t.else_
def Z08:Nat→X7→Prop
 | 0,_=>False
 | d+1,t=>(t.binds.length≤1000∧(∀ b∈t.binds,b.path.length≤1000)∧t.path.length≤1000∧t.branches.length≤20∧t.else_.length≤1)∧∀ x∈Q84 t,Z08 d x
def Q93:Nat→X7→Nat
 | 0,_=>0
 | d+1,t=>1+((Q84 t).map (Q93 d)).sum
theorem X6n:∀ {d e:Nat} {t:X7},Z08 d t→d≤e→Z08 e t:=by
 intro d
 induction d with
 | zero=>intro e t h;exact h.elim
 | succ d ih=>
  intro e t h he
  obtain ⟨e,rfl⟩:∃ k,e=k+1:=⟨e-1,by omega⟩
  exact ⟨h.1,fun x hx=>ih (h.2 x hx) (by omega)⟩
theorem W2f:∀ {d e:Nat} {t:X7},Z08 d t→d≤e→Q93 e t=Q93 d t:=by
 intro d
 induction d with
 | zero=>intro e t h;exact h.elim
 | succ d ih=>
  intro e t h he
  obtain ⟨e,rfl⟩:∃ k,e=k+1:=⟨e-1,by omega⟩
  unfold Q93
  rw [List.map_congr_left fun x hx=>ih (h.2 x hx) (show d≤e by omega)]
def brsR (P:Q9→X7→Prop):List Q9→List Q9→Prop
 | [],[]=>True
 | b::bs,x::xs=>(x.ctor=b.ctor∧x.n=b.n∧x.m=b.m∧P b x.tree)∧brsR P bs xs
 | _,_=>False
theorem X10 {P Q:Q9→X7→Prop}(h:∀ b t,P b t→Q b t):∀ {bs xs:List Q9},brsR P bs xs→brsR Q bs xs
 | [],[],_=>trivial
 | [],_::_,e=>e.elim
 | _::_,[],e=>e.elim
 | _::_,_::_,⟨⟨e1,e2,e3,e4⟩,e5⟩=>⟨⟨e1,e2,e3,h _ _ e4⟩,X10 h e5⟩
def Q8t (w:List Q3)(lst:List Z0)(pick:Int):Nat→X7→List Grow→List Z6→Prop
 | 0,_,_,_=>False
 | d+1,t,rows,cols=>match rows with
  | []=>t=zT
  | r0::rest=>match Q88 w (r0::rest) cols pick with
   | none=>t.op=1∧t.clause=r0.clause∧t.binds=Q8w r0.binds∧t.path=[]∧t.branches=[]∧∃ cl,lst[r0.clause.toNat]?=some cl∧
     ((cl.guard.op=0∧t.else_=[])∨(cl.guard.op≠0∧∃ el,t.else_=[el]∧Q8t w lst pick d el (Q4f (r0::rest) r0.clause) cols))
   | some k=>∃ col,cols[k]?=some col∧t.op=2∧t.clause=0∧t.binds=[]∧t.path=col.path∧t.else_=[]∧
     brsR (fun b x=>Q8t w lst pick d x (Q5o (r0::rest) k b (Y4 w col b)) (Q54 cols k (Y4 w col b))) (brsD w (r0::rest) col.t k) t.branches
theorem X4y {w:List Q3}{lst:List Z0}{pick:Int} : ∀ {d e:Nat} {t:X7} {rows:List Grow} {cols:List Z6},d≤e→Q8t w lst pick d t rows cols→Q8t w lst pick e t rows cols:=by
 intro d
 induction d with
 | zero=>intro e t rows cols _ h;exact h.elim
 | succ d ih=>
  intro e t rows cols he h
  obtain ⟨e,rfl⟩:∃ k,e=k+1:=⟨e-1,by omega⟩
  cases rows with
  | nil=>exact h
  | cons r0 rest=>
   simp only [Q8t] at h ⊢
   cases hp:Q88 w (r0::rest) cols pick with
   | none=>
    rw [hp] at h
    simp only at h ⊢
    obtain ⟨h1,h2,h3,h4,h5,cl,h6,h7⟩:=h
    refine ⟨h1,h2,h3,h4,h5,cl,h6,?_⟩
    rcases h7 with h7 | ⟨h7,el,h8,h9⟩
    ·exact .inl h7
    ·exact .inr ⟨h7,el,h8,ih (by omega) h9⟩
   | some k=>
    rw [hp] at h
    simp only at h ⊢
    obtain ⟨col,h1,h2,h3,h4,h5,h6,h7⟩:=h
    exact ⟨col,h1,h2,h3,h4,h5,h6,X10 (fun b t h=>ih (by omega) h) h7⟩
def Both (w:List Q3)(lst:List Z0)(pick:Int)(tot:Nat)(Q:X7→Prop)(x:Option (X7×Bool×Z9))(y:Option (X7×Int)):Prop:=
 ∃ ti ok c ts e,x=some (ti,ok,c)∧y=some (ts,e)∧((ok=true∧ti=ts∧∃ l:Nat,e=(l:Int)∧c=CI w lst pick (l:Int)∧Z08 tot ti∧Q93 tot ti+l=tot∧Q ti)∨(ok=false∧e<0))
theorem W42 {n:Int}(h0:0≤n)(h:n≤100000):Q1h n=some []:=by
 unfold Q1h
 have e:ilt n 0=false:=by rw [W5];exact h0
 have e0:wsub .i64 0 (lenZ 0)=0:=rfl
 have e1:wsub .i64 n 0=n:=by rw [Q23]<;>omega
 simp only [e,U2,if_false,e0,e1]
 by_cases hn:0<n
 ·have e2:ilt 0 n=true:=by rw [X2];exact hn
  have e3:mkS n (Z6.mk [] (Q5.mk 0 0))=some (List.replicate n.toNat (Z6.mk [] (Q5.mk 0 0))):=by
   unfold mkS;rw [if_pos ⟨h0,by simp [Q4];omega⟩]
  rw [if_pos e2,e3]
  rfl
 ·have e2:ilt 0 n=false:=by rw [W5];omega
  rw [if_neg (by rw [e2];simp)]
  rfl
theorem W0a {a b c:List Z6}(h:a.length+b.length+c.length≤100000):Q0x [a,b,c]=some (a++b++c):=by
 unfold Q0x
 have hA:wadd .i64 0 (lenZ a.length)=(a.length:Int):=by rw [J3]<;>simp only [lenZ]<;>omega
 have hB:wadd .i64 (a.length:Int) (lenZ b.length)=(a.length:Int)+b.length:=by rw [J3]<;>simp only [lenZ]<;>omega
 have hC:wadd .i64 ((a.length:Int)+b.length) (lenZ c.length)=(a.length:Int)+b.length+c.length:=by rw [J3]<;>simp only [lenZ]<;>omega
 have l1:ilt (a.length:Int) 0=false:=by rw [W5];omega
 have l2:ilt ((a.length:Int)+b.length) 0=false:=by rw [W5];omega
 have l3:ilt ((a.length:Int)+b.length+c.length) 0=false:=by rw [W5];omega
 simp only [forL,hA,hB,hC,l1,l2,l3,U2,if_false,U0]
 rw [W42 (by omega) (by omega)]
 simp only [U0]
 rw [W4 (by simp [Q4];omega)]
 simp only [U0,List.nil_append]
 rw [W4 (by simp only [Q4];omega)]
 simp only [U0]
 rw [W4 (by simp only [U5,Q4];omega)]
 rfl
theorem W0k {w:List Q3}{lst:List Z0}{pick:Int}{ρ:Type}{F:Nat→Q9→Z9×List Q9→Option (Ctl (X7×Bool×Z9) (Z9×List Q9))}{G:Nat→Q9→Int×List Q9→Option (Ctl ρ (Int×List Q9))}{L:Nat}{brs:List Q9}{P:Q9→X7→Prop}
  (hFG:∀ b∈brs,∀ (i j l:Nat) (out:List Q9),l≤L→out.length≤20→
   (∃ (t:X7) (l':Nat),(Z08 L t∧Q93 L t+l'=l∧P b t)∧F i b (CI w lst pick l,out)=some (.go (CI w lst pick l',out++[⟨b.ctor,b.n,b.m,t⟩]))∧G j b ((l:Int),out)=some (.go ((l':Int),out++[⟨b.ctor,b.n,b.m,t⟩])))∨
   (∃ (c:Z9) (e:Int) (out':List Q9),e<0∧F i b (CI w lst pick l,out)=some (.ret (zT,false,c))∧G j b ((l:Int),out)=some (.go (e,out'))))
  (hG:∀ (j:Nat) (b:Q9) (e:Int) (out:List Q9),e<0→G j b (e,out)=some (.brk (e,out))) :
  ∀ (bs:List Q9),(∀ b∈bs,b∈brs)→∀ (i j l:Nat) (out:List Q9),l≤L→out.length+bs.length≤20→
   (∃ (l':Nat) (out':List Q9),((∀ b∈out',b∈out∨Z08 L b.tree)∧(out'.map fun b=>Q93 L b.tree).sum+l'=(out.map fun b=>Q93 L b.tree).sum+l∧out'.length≤out.length+bs.length∧∃ ys,out'=out++ys∧brsR P bs ys)∧forL F i bs (CI w lst pick l,out)=some (.brk (CI w lst pick l',out'))∧forL G j bs ((l:Int),out)=some (.brk ((l':Int),out')))∨
   (∃ (c:Z9) (e:Int) (out':List Q9),e<0∧forL F i bs (CI w lst pick l,out)=some (.ret (zT,false,c))∧forL G j bs ((l:Int),out)=some (.brk (e,out'))):=by
 intro bs
 induction bs with
 | nil=>intro _ i j l out hl _;exact .inl ⟨l,out,⟨fun b h=>.inl h,rfl,by simp,[],by simp,trivial⟩,rfl,rfl⟩
 | cons b bs ih=>
  intro hm i j l out hl hlen
  simp only [U3] at hlen
  rcases hFG b (hm b (by simp)) i j l out hl (by omega) with ⟨t,l',hl',e1,e2⟩ | ⟨c,e,out',he,e1,e2⟩
  ·unfold forL
   rw [e1,e2]
   rcases ih (fun x hx=>hm x (by simp [hx])) (i+1) (j+1) l' (out++[⟨b.ctor,b.n,b.m,t⟩]) (by omega) (by simp;omega) with ⟨l2,out',⟨h1,h2,h3,ys,h6,h7⟩,h4,h5⟩ | h
   ·refine .inl ⟨l2,out',⟨fun x hx=>?_,?_,?_,⟨b.ctor,b.n,b.m,t⟩::ys,by rw [h6];simp,⟨⟨rfl,rfl,rfl,hl'.2.2⟩,h7⟩⟩,h4,h5⟩
    ·rcases h1 x hx with h | h
     ·rcases List.mem_append.1 h with h | h
      ·exact .inl h
      ·simp only [U8,List.not_mem_nil,or_false] at h
       subst h
       exact .inr hl'.1
     ·exact .inr h
    ·rw [h2]
     simp only [List.map_append,List.map_cons,List.map_nil,List.sum_append,List.sum_cons,List.sum_nil]
     omega
    ·simp only [U5,U3,U4] at h3
     simp only [U3]
     omega
   ·exact .inr h
  ·refine .inr ?_
   unfold forL
   rw [e1,e2]
   cases bs with
   | nil=>exact ⟨c,e,out',he,rfl,rfl⟩
   | cons b2 bs=>
    refine ⟨c,e,out',he,rfl,?_⟩
    dsimp only
    unfold forL
    rw [hG _ _ _ _ he]
def W62 (w:List Q3)(lst:List Z0)(pick:Int)(left:Nat):Prop:=∀ (n m:Nat) (rows:List Grow) (cols:List Z6),2 * left+1500≤n→left+1500≤m→rows.length≤1000→ColC w cols left→(∀ r∈rows,RowC w lst cols r)→
 Both w lst pick left (fun t=>Q8t w lst pick left t rows cols) (Y5 n (CI w lst pick left) rows cols) (Q1j m w lst (cols.map toD) (rows.map toS) pick left)
theorem Z49 {rows:List Grow}{c:Int}{r:Grow}(h:r∈Q4f rows c):r∈rows:=(List.mem_filter.1 h).1
theorem X8k (rows:List Grow)(c:Int):(Q4f rows c).length≤rows.length:=List.length_filter_le _ _
theorem W71 {w:List Q3}{lst:List Z0}{pick:Int}{L n m:Nat}(hT:W62 w lst pick L)(hn:2 * L+1501≤n)(hm:L+1500≤m){r0:Grow}{rest:List Grow}{cols:List Z6}
  (hrl:(r0::rest).length≤1000) (hC:ColC w cols L) (hr:∀ r∈r0::rest,RowC w lst cols r) (hpk:Q88 w (r0::rest) cols pick=none) :
  Both w lst pick (L+1) (fun t=>Q8t w lst pick (L+1) t (r0::rest) cols) (Q0m n (CI w lst pick L) (r0::rest) cols)
   (((Q2k m r0.binds).bind fun r27=>((idx lst r0.clause).bind fun x30=>
    (if (ieq x30.guard.op 0)=true then some (((X7.mk 1 r0.clause r27 [] [] []),(L:Int)))
    else ((Q2h ((r0::rest).map toS) r0.clause).bind fun r32=>((Q1j m w lst (cols.map toD) r32 pick L).bind fun r33=>some (((X7.mk 1 r0.clause r27 [] [] [r33.1]),r33.2)))))))):=by
 obtain ⟨n,rfl⟩:∃ k,n=k+1:=⟨n-1,by omega⟩
 have h0:=hr r0 (by simp)
 obtain ⟨b1,b2,b3⟩:=h0.binds
 unfold Q0m
 rw [show idx (r0::rest) 0=some r0 from rfl]
 simp only [U0]
 rw [Q7o _ (by simp only [Q4];omega)]
 simp only [U0]
 rw [W2d (by omega) (by omega) b1 b2,Z9c (by omega) (by omega) (fun b hb=>by have:=h0.bp b hb;omega)]
 simp only [U0]
 rw [Z6w (by rw [(Q9w b2).length_eq];simp)]
 simp only [U0]
 have hcl:r0.clause.toNat<lst.length:=by have:=h0.c0;have:=h0.c1;omega
 have hcl2:idx lst r0.clause=some (lst[r0.clause.toNat]):=Z4j h0.c0 (U9 hcl)
 rw [show (CI w lst pick (L:Int)).list=lst from rfl,hcl2]
 simp only [U0]
 have hcg:lst[r0.clause.toNat]?=some (lst[r0.clause.toNat]):=U9 hcl
 generalize lst[r0.clause.toNat]=cl at hcg ⊢
 have hsl:=(Q9w b2).length_eq
 have hbs:∀ (el:List X7),el.length≤1→((Q8w r0.binds).length≤1000∧(∀ b∈Q8w r0.binds,b.path.length≤1000)∧([]:List Int).length≤1000∧([]:List Q9).length≤20∧el.length≤1):=fun el he=>
  ⟨by omega,fun b hb=>h0.bp b ((Q9w b2).mem_iff.1 hb),by simp,by simp,he⟩
 by_cases hg:cl.guard.op=0
 ·have e:ieq cl.guard.op 0=true:=by simp [ieq,hg]
  simp only [e,if_true]
  exact ⟨_,_,_,_,_,rfl,rfl,.inl ⟨rfl,rfl,L,rfl,rfl,⟨hbs [] (by simp),by simp [Q84]⟩,by simp [Q93,Q84];omega,by simp only [Q8t,hpk];exact ⟨trivial,trivial,trivial,trivial,trivial,cl,hcg,.inl ⟨hg,trivial⟩⟩⟩⟩
 ·have e:ieq cl.guard.op 0=false:=by simp [ieq,hg]
  simp only [e,U2,if_false]
  simp only [U3] at hrl
  rw [W0c (by simp only [U3];omega)]
  simp only [U0]
  rw [Z9z (by simp only [U3];omega) (by omega),Z98 (by simp only [U3];omega)]
  simp only [U0]
  have hol:=X8k (r0::rest) r0.clause
  simp only [U3] at hol
  obtain ⟨ti,ok,c,ts,e,h1,h2,h3⟩:=hT n m (Q4f (r0::rest) r0.clause) cols (by omega) hm (by omega) hC (fun r h=>hr r (Z49 h))
  rw [h1,h2]
  simp only [U0]
  refine ⟨_,_,_,_,_,rfl,rfl,?_⟩
  rcases h3 with ⟨rfl,rfl,l,rfl,rfl,hd,hz,hq⟩ | ⟨rfl,he⟩
  ·exact .inl ⟨rfl,rfl,l,rfl,rfl,⟨hbs [ti] (by simp),by simpa [Q84] using hd⟩,by simp [Q93,Q84];omega,by simp only [Q8t,hpk];exact ⟨trivial,trivial,trivial,trivial,trivial,cl,hcg,.inr ⟨hg,ti,rfl,hq⟩⟩⟩
  ·exact .inr ⟨rfl,he⟩
theorem X3n (rows:List Grow)(k:Nat)(b:Q9)(args:List Z6):(Q5o rows k b args).length≤rows.length:=by
 unfold Q5o
 rw [U7]
 exact List.length_filter_le _ _
theorem W69 {w:List Q3}(hw:WW w)(hL:WL w)(hS:WS w){lst:List Z0}{pick:Int} : ∀ left:Nat,left≤300→W62 w lst pick left:=by
 intro left
 induction left using Nat.strongRecOn with
 | ind left ih=>
 intro hle n m rows cols hn hm hrl hC hr
 obtain ⟨n,rfl⟩:∃ k,n=k+1:=⟨n-1,by omega⟩
 obtain ⟨m,rfl⟩:∃ k,m=k+1:=⟨m-1,by omega⟩
 unfold Y5 Q1j
 have hcnt:(CI w lst pick (left:Int)).count=300-(left:Int):=rfl
 rw [hcnt,J3 (by omega) (by omega),Q23 (by omega) (by omega)]
 cases left with
 | zero=>
  have e1:ilt 300 (300-((0:Nat):Int)+1)=true:=rfl
  have e2:ilt (((0:Nat):Int)-1) 0=true:=rfl
  rw [if_pos e1,if_pos e2]
  exact ⟨_,_,_,_,_,rfl,rfl,.inr ⟨rfl,by omega⟩⟩
 | succ L=>
 have e1:ilt 300 (300-((L+1:Nat):Int)+1)=false:=by rw [W5];omega
 have e2:ilt (((L+1:Nat):Int)-1) 0=false:=by rw [W5];omega
 have eC:(Z9.mk (CI w lst pick ((L+1:Nat):Int)).spaces (CI w lst pick ((L+1:Nat):Int)).list (CI w lst pick ((L+1:Nat):Int)).pick (300-((L+1:Nat):Int)+1))=CI w lst pick (L:Int):=by
  show Z9.mk ⟨w,dimP w⟩ lst pick (300-((L+1:Nat):Int)+1)=Z9.mk ⟨w,dimP w⟩ lst pick (300-(L:Int))
  rw [show 300-((L+1:Nat):Int)+1=300-(L:Int) by omega]
 rw [e1,e2,eC,show (((L+1:Nat):Int)-1)=(L:Int) by omega]
 simp only [U2,if_false,U7]
 have hCL:ColC w cols L:=⟨hC.ty,fun c hc=>by have:=hC.path c hc;omega,by have:=hC.len;omega⟩
 cases rows with
 | nil=>
  have e:ieq (lenZ ([]:List Grow).length) 0=true:=rfl
  rw [if_pos e,if_pos e]
  exact ⟨_,_,_,_,_,rfl,rfl,.inl ⟨rfl,rfl,L,rfl,rfl,⟨by simp,by simp [Q84]⟩,by simp [Q93,Q84];omega,by simp only [Q8t];rfl⟩⟩
 | cons r0 rest=>
 have e:ieq (lenZ (r0::rest).length) 0=false:=by
  rw [ieq,decide_eq_false_iff_not,Q3d,U3]
  omega
 have h0:=hr r0 (by simp)
 have hlen:=hC.len
 simp only [e,U2,if_false]
 rw [show idx ((r0::rest).map toS) 0=some (toS r0) from rfl]
 simp only [U0]
 have hch:=Z7p hw hL (n:=n) (by omega) (lst:=lst) (pick:=pick) (count:=300-(L:Int)) (rows:=r0::rest) (cols:=cols) (by simp) (by omega) hC.ty (fun k hk=>RowC.rng hr hk)
 rw [show J8 n (CI w lst pick (L:Int)) (r0::rest) cols=some (optI (Q88 w (r0::rest) cols pick),CI w lst pick (L:Int)) from hch,Z2t]
 simp only [U0]
 have hfirst:Q8v (toR (toS r0))=none↔Q88 w (r0::rest) cols pick=none:=by
  unfold Q8v Q88
  rw [Q7t,Q7t]
  have hpl:(toR (toS r0)).pats.length=cols.length:=h0.len
  rw [hpl]
  exact Iff.rfl
 cases hp:Q88 w (r0::rest) cols pick with
 | none=>
  rw [hfirst.2 hp]
  have e:ilt (optI none) 0=true:=rfl
  simp only [e,if_true]
  obtain ⟨ti,ok,c,ts,e,h1,h2,h3⟩:=W71 (ih L (by omega) (by omega)) (n:=n) (m:=m) (by omega) (by omega) hrl hCL hr hp
  rw [h1]
  simp only [U0]
  exact ⟨ti,ok,c,ts,e,rfl,h2,h3⟩
 | some k=>
 obtain ⟨f,hf⟩:∃ f,Q8v (toR (toS r0))=some f:=by
  cases hq:Q8v (toR (toS r0)) with
  | none=>rw [hfirst.1 hq] at hp;cases hp
  | some f=>exact ⟨f,rfl⟩
 rw [hf]
 have e3:ilt (optI (some k)) 0=false:=by rw [W5];simp [optI]
 have e4:ilt (optI (some f)) 0=false:=by rw [W5];simp [optI]
 simp only [e3,e4,U2,if_false]
 have hkl:k<cols.length:=(Z1j hp).1
 obtain ⟨col,hk⟩:∃ c,cols[k]?=some c:=⟨_,U9 hkl⟩
 have hct:=hC.ty col (U1 hk)
 have hT:=hw.ty _ hct
 have hpl:=hC.path col (U1 hk)
 have hpk:=X1k hw hS (n:=m) (by omega) (pick:=pick) (row:=toS r0) (rest:=rest.map toS) (cols:=cols.map toD) (by simp only [U3,U7] at hrl ⊢;omega) (by rw [U7];omega) (by rw [U7];omega) (by rw [U7];exact h0.len)
  (fun c hc=>by obtain ⟨c',hc',rfl⟩:=U10.1 hc;exact hC.ty c' hc')
  (fun j hj=>by rw [←List.map_cons,toRS];exact RowC.rng hr (by rw [U7] at hj;exact hj)) hf
 rw [←List.map_cons,toRS,toCD,hp] at hpk
 rw [hpk]
 simp only [U0,optI]
 rw [Q2r hk,Q2r (show (cols.map toD)[k]?=some (toD col) by rw [List.getElem?_map,hk];rfl)]
 simp only [U0]
 rw [Q74 _ (by simp only [Q4];omega),W4 (by simp only [toD,U4,Q4];omega)]
 simp only [U0]
 have hbr:=Q9f hw hL (n:=n) (by omega) (lst:=lst) (pick:=pick) (count:=300-(L:Int)) (rows:=r0::rest) hk hct (RowC.rng hr hkl)
 rw [show V4 n (CI w lst pick (L:Int)) (r0::rest) cols (k:Int)=some (brsD w (r0::rest) col.t k,CI w lst pick (L:Int)) from hbr]
 have hcu:=Z0j hw hS (n:=m) (by omega) (rows:=(r0::rest).map toS) (col:=toD col) (k:=k) hct (by rw [toRS];exact RowC.rng hr hkl)
 rw [toRS] at hcu
 rw [hcu]
 simp only [U0]
 generalize hrows:r0::rest=rows at *
 have hbl:=W0i hT rows k
 rw [show (toD col).kind=col.t from rfl]
 generalize hbrs:brsD w rows col.t k=brs at *
 generalize hF:(fun (k2328:Nat) (x2329:Q9) (s2322:Z9×(List Q9))=>_)=F
 generalize hG:(fun (k186:Nat) (x187:Q9) (s180:Int×(List Q9))=>_)=G
 have hloop:=W0k (w:=w) (lst:=lst) (pick:=pick) (F:=F) (G:=G) (L:=L) (brs:=brs) (P:=fun b x=>Q8t w lst pick L x (Q5o rows k b (Y4 w col b)) (Q54 cols k (Y4 w col b))) (fun b hb i j l out hl hol=>?_) (fun j b e out he=>?_) brs (fun b h=>h) 0 0 L [] (Nat.le_refl _) (by simp;omega)
 ·rcases hloop with ⟨l',out',⟨g1,g2,g3,ys,g4,g5⟩,e1,e2⟩ | ⟨c,e,out',he,e1,e2⟩
  ·rw [e1,e2]
   refine ⟨_,_,_,_,_,rfl,rfl,.inl ⟨rfl,rfl,l',rfl,rfl,⟨⟨by simp,by simp,by simp only;omega,by simp only [U4] at g3 ⊢;omega,by simp⟩,fun x hx=>?_⟩,?_,?_⟩⟩
   ·simp only [Q84,List.append_nil] at hx
    obtain ⟨b,hb,rfl⟩:=U10.1 hx
    rcases g1 b hb with h | h
    ·cases h
    ·exact h
   ·simp only [Q93,Q84,List.append_nil,List.map_map]
    have:(List.map (Q93 L∘fun b=>b.tree) out')=out'.map fun b=>Q93 L b.tree:=rfl
    rw [this]
    simp only [List.map_nil,List.sum_nil] at g2
    omega
   ·rw [←hrows] at hp g5 hbrs ⊢
    simp only [Q8t,hp]
    rw [g4,List.nil_append]
    exact ⟨col,hk,trivial,trivial,trivial,rfl,trivial,by rw [hbrs];exact g5⟩
  ·rw [e1,e2]
   exact ⟨_,_,_,_,_,rfl,rfl,.inr ⟨rfl,he⟩⟩
 ·have hB:BrC w col.t b:=V3e hL hct b (by rw [hbrs];exact hb)
  have hCn:ColC w (Q54 cols k (Y4 w col b)) l:=by
   have:=ColC.next hw hC hk hB
   exact ⟨this.ty,fun c hc=>by have:=this.path c hc;omega,by have:=this.len;omega⟩
  have hRn:∀ r∈Q5o rows k b (Y4 w col b),RowC w lst (Q54 cols k (Y4 w col b)) r:=fun r hr'=>by
   unfold Q5o at hr'
   obtain ⟨r1,h1,rfl⟩:=U10.1 hr'
   obtain ⟨h2,h3⟩:=List.mem_filter.1 h1
   exact RowC.next hw hS hC (hr r1 h2) hk hB h3
  have hrn:=X3n rows k b (Y4 w col b)
  have hK:∀ r∈rows,X4s r k b (Y4 w col b):=fun r h=>RowC.kept hw hS hC (hr r h) hk hB
  obtain ⟨ti,ok,c,ts,e,h1,h2,h3⟩:=ih l (by omega) (by omega) n m (Q5o rows k b (Y4 w col b)) (Q54 cols k (Y4 w col b)) (by omega) (by omega) (by omega) hCn hRn
  have hal:(Y4 w col b).length≤3:=(hK r0 (by rw [←hrows];simp)).al
  have hI:F i b (CI w lst pick l,out)=some (if ok=true then .go (c,out++[⟨b.ctor,b.n,b.m,ti⟩]) else .ret (zT,false,c)):=by
   suffices hs:Ret (F i b (CI w lst pick l,out)) (fun a=>a=(if ok=true then .go (c,out++[⟨b.ctor,b.n,b.m,ti⟩]) else .ret (zT,false,c))) by
    obtain ⟨a,e,rfl⟩:=hs
    exact e
   rw [←hF]
   refine Ret.ctl (R:=fun _=>False) (B:=fun s=>s=Y4 w col b) ?_ (fun r h=>h.elim) (fun s hs=>?_)
   ·by_cases hc:b.ctor = -1
    ·have e:(!ieq b.ctor (-1))=false:=by simp [ieq,hc]
     simp only [e,U2,if_false]
     exact .some (by simp [Y4,hc])
    ·have e:(!ieq b.ctor (-1))=true:=by simp [ieq,hc]
     have hd:col.t.data≠-1:=fun hd=>hc (hB.int hd)
     simp only [e,if_true]
     rw [show (CI w lst pick (l:Int)).spaces.w=w from rfl,hT.a2 _ (hB.ctor hd).1]
     simp only [U0]
     refine Ret.ctl (Z5 (Q0t w col.t b.ctor) (fun i s=>s=(Y4 w col b).take i) (fun _=>False) (fun s=>s=Y4 w col b) (by simp) (fun i t s hi hI=>?_) (fun s hI=>?_)) (fun r hr=>hr.elim) (fun s hs=>.some hs)
     ·rw [W4 (by simp only [U3,U4,Q4];omega)]
      simp only [U0]
      rw [W4 (by rw [hI];simp only [U6,U3,U4,Q4];omega)]
      exact .some (by simp only [Q0e];rw [hI,List.take_add_one,Z20 hc hi];rfl)
     ·rw [hI,show (Q0t w col.t b.ctor).length=(Y4 w col b).length by rw [Q76,if_neg hc],List.take_length]
   ·subst hs
    dsimp only
    refine Ret.ctl (Z5 rows (fun i s=>s=Q5o (rows.take i) k b (Y4 w col b)) (fun _=>False) (fun s=>s=Q5o rows k b (Y4 w col b)) (by simp [Q5o]) (fun i r s hi hI=>?_) (fun s hI=>by rw [hI,List.take_length])) (fun r hr=>hr.elim) (fun s hs=>?_)
    ·have hil:i<rows.length:=(List.getElem?_eq_some_iff.1 hi).1
     rw [X27 (by omega) (hK r (U1 hi))]
     simp only [U0]
     have hsl:s.length≤1000:=by
      rw [hI]
      have:=X3n (rows.take i) k b (Y4 w col b)
      rw [U6] at this
      omega
     have hstep:Q5o (rows.take (i+1)) k b (Y4 w col b)=Q5o (rows.take i) k b (Y4 w col b)++(if Q6e (X9 r k) b=true then [Q9e r k (Y4 w col b)] else []):=by
      unfold Q5o
      rw [List.take_add_one,hi]
      simp only [Option.toList_some,List.filter_append,List.map_append]
      by_cases hf:Q6e (X9 r k) b=true<;>simp [hf]
     by_cases hf:Q6e (X9 r k) b=true
     ·rw [if_pos hf]
      simp only [if_true]
      rw [W4 (by simp only [U3,U4,Q4];omega)]
      exact .some (by simp only [Q0e];rw [hstep,if_pos hf,hI])
     ·rw [if_neg hf]
      simp only [U2,if_false]
      exact .some (by simp only [Q0e];rw [hstep,if_neg hf,hI,List.append_nil])
    ·subst hs
     dsimp only
     rw [Z12 (by omega)]
     simp only [U0]
     rw [J3 (by omega) (by omega),show ((k:Int)+1)=((k+1:Nat):Int) by simp,Z3q (by omega)]
     simp only [U0]
     rw [W0a (by simp only [U6,List.length_drop];omega)]
     simp only [U0]
     rw [show cols.take k++Y4 w col b++cols.drop (k+1)=Q54 cols k (Y4 w col b) from rfl,h1]
     simp only [U0]
     cases ok with
     | true=>
      simp only [Bool.not_true,U2,if_false]
      rw [W4 (by simp only [U3,U4,Q4];omega)]
      exact .some (by simp)
     | false=>
      simp only [Bool.not_false,if_true]
      exact .some (by simp [zT])
  have hJ:G j b ((l:Int),out)=some (.go (e,out++[⟨b.ctor,b.n,b.m,ts⟩])):=by
   rw [←hG]
   have e1:ile 0 (l:Int)=true:=by rw [Q0s];omega
   have hb2:b.ctor≠-1→b.ctor∈W3 w col.t:=fun h=>(hB.ctor fun hd=>h (hB.int hd)).1
   simp only [e1,if_true]
   rw [Z15 hT hk hb2 (by omega) (by omega)]
   simp only [U0]
   rw [X1m (by omega) hT hk hb2 (by omega) (by omega) (by omega) (fun r h=>⟨hK r h,(hr r h).len⟩)]
   simp only [U0]
   rw [h2]
   simp only [U0]
   rw [W4 (by simp only [U3,U4,Q4];omega)]
   rfl
  rw [hI,hJ]
  rcases h3 with ⟨rfl,rfl,l',rfl,rfl,hd,hz,hq⟩ | ⟨rfl,he⟩
  ·exact .inl ⟨ti,l',⟨X6n hd hl,by rw [W2f hd hl];exact hz,X4y hl hq⟩,by simp,rfl⟩
  ·exact .inr ⟨c,e,_,he,by simp,rfl⟩
 ·rw [←hG]
  have e1:ile 0 e=false:=by rw [Q5l];omega
  simp only [e1,U2,if_false]
theorem X1x {l:List Q1}(hl:l.length≤1000)(hp:∀ b∈l,b.path.length≤1000):Q2x l=some l:=by
 suffices hs:Ret (Q2x l) (fun a=>a=l) by
  obtain ⟨a,e,rfl⟩:=hs
  exact e
 unfold Q2x
 refine Ret.ctl (Z5 l (fun i s=>s=l.take i) (fun _=>False) (fun s=>s=l) (by simp) (fun i x s hi hI=>?_) (fun s hI=>by rw [hI,List.take_length])) (fun r hr=>hr.elim) (fun s hs=>.some hs)
 have hx:=hp x (U1 hi)
 rw [Q74 _ (by simp only [Q4];omega)]
 simp only [U0]
 rw [W4 (by rw [hI];simp only [U6,U3,U4,Q4];omega)]
 exact .some (by simp only [Q0e];rw [hI,List.take_add_one,hi];rfl)
theorem X6r (x:Q9):Q9.mk x.ctor x.n x.m x.tree=x:=by cases x;rfl
theorem W22 (t:X7):X7.mk t.op t.clause t.binds t.path t.branches t.else_=t:=by cases t;rfl
theorem X5d:∀ (d n:Nat) (t:X7),Z08 d t→d≤n→Q13 n t=some t:=by
 intro d
 induction d with
 | zero=>intro n t h;exact h.elim
 | succ d ih=>
  intro n t h hn
  obtain ⟨n,rfl⟩:∃ k,n=k+1:=⟨n-1,by omega⟩
  obtain ⟨⟨h1,h2,h3,h4,h5⟩,h6⟩:=h
  suffices hs:Ret (Q13 (n+1) t) (fun a=>a=t) by
   obtain ⟨a,e,rfl⟩:=hs
   exact e
  unfold Q13
  rw [X1x h1 h2,Q74 _ (by simp only [Q4];omega)]
  simp only [U0]
  refine Ret.ctl (Z5 t.branches (fun i s=>s=t.branches.take i) (fun _=>False) (fun s=>s=t.branches) (by simp) (fun i x s hi hI=>?_) (fun s hI=>by rw [hI,List.take_length])) (fun r hr=>hr.elim) (fun s hs=>?_)
  ·rw [ih n x.tree (h6 _ (List.mem_append_left _ (List.mem_map_of_mem (U1 hi)))) (by omega)]
   simp only [U0]
   rw [W4 (by rw [hI];simp only [U6,U3,U4,Q4];omega)]
   exact .some (by simp only [Q0e];rw [hI,List.take_add_one,hi,X6r];rfl)
  ·subst hs
   refine Ret.ctl (Z5 t.else_ (fun i s=>s=t.else_.take i) (fun _=>False) (fun s=>s=t.else_) (by simp) (fun i x s hi hI=>?_) (fun s hI=>by rw [hI,List.take_length])) (fun r hr=>hr.elim) (fun s hs=>.some (by rw [hs,W22]))
   rw [ih n x (h6 _ (List.mem_append_right _ (U1 hi))) (by omega)]
   simp only [U0]
   rw [W4 (by rw [hI];simp only [U6,U3,U4,Q4];omega)]
   exact .some (by simp only [Q0e];rw [hI,List.take_add_one,hi];rfl)
def Q7s (k:Nat)(p:Q0):Grow:=⟨(k:Int),[(Q6a p []).2],(Q6a p []).1⟩
def Q3g (l:List Z0):Nat→List Grow
 | 0=>[]
 | i+1=>Q3g l i++(match l[i]? with
  | none=>[]
  | some c=>(Z8 10 c.pat).map (Q7s i))
theorem Z6m {l:List Z0} : ∀ {i:Nat} {r:Grow},r∈Q3g l i→∃ k c p,l[k]?=some c∧p∈Z8 10 c.pat∧r=Q7s k p:=by
 intro i
 induction i with
 | zero=>intro r h;cases h
 | succ i ih=>
  intro r h
  rw [Q3g] at h
  rcases List.mem_append.1 h with h | h
  ·exact ih h
  ·cases hc:l[i]? with
   | none=>rw [hc] at h;cases h
   | some c=>
    rw [hc] at h
    obtain ⟨p,hp,rfl⟩:=U10.1 h
    exact ⟨i,c,p,hc,hp,rfl⟩
theorem Z27 {l:List Z0}(h:∀ c∈l,(Z8 10 c.pat).length≤40):∀ i,(Q3g l i).length≤40 * i:=by
 intro i
 induction i with
 | zero=>simp [Q3g]
 | succ i ih=>
  rw [Q3g,U5]
  cases hc:l[i]? with
  | none=>simp only [U4];omega
  | some c=>
   have:=h c (U1 hc)
   simp only [U7]
   omega
def W0u (w:List Q3)(t:Q5)(l:List Z0):Prop:=∀ c∈l,Q1f w 10 t c.pat=true∧linD w 10 t c.pat=true
theorem Z9j {w:List Q3}(hw:WW w){t:Q5}{l:List Z0}(hl:W0u w t l)(hll:l.length≤8):∀ r∈Q3g l l.length,RowC w l [⟨[],t⟩] r:=fun r hr=>by
 obtain ⟨k,c,p,hk,hp,rfl⟩:=Z6m hr
 obtain ⟨g,ln⟩:=hl c (U1 hk)
 have hkl:=(List.getElem?_eq_some_iff.1 hk).1
 have hO:PatO w t p:=⟨Q9h 11 t p (Q9h 10 t p (Z25 10 t c.pat p g hp)),Z4y 11 p (Z4y 10 p (X53 10 c.pat p hp))⟩
 obtain ⟨s1,s2,s3⟩:=X3k [] hO
 have hv:Z8z (Q7s k p)=Q4c p:=by
  unfold Z8z Q7s
  simp only [List.flatMap_cons,List.flatMap_nil,List.append_nil]
  exact s2
 have hperm:=X52 10 t c.pat p g ln hp
 have hd:=Q64 10 t c.pat g ln
 simp only [Q1l,decide_eq_true_eq] at hd
 refine ⟨rfl,fun x hx=>?_,?_,fun v hv'=>?_,by simp [Q7s],by simp only [Q7s];omega,fun b hb=>?_⟩
 ·simp only [Q7s,List.zip_cons_cons,List.zip_nil_right,U8,List.not_mem_nil,or_false] at hx
  rw [hx]
  exact s1
 ·rw [hv];exact hperm.nodup_iff.2 hd
 ·rw [hv] at hv'
  obtain ⟨y,hy,rfl⟩:=U10.1 (hperm.mem_iff.1 hv')
  exact Z6d 10 t c.pat g y hy
 ·rw [s3 b hb];simp
theorem Z7n {w:List Q3}(hw:WW w){t:Q5}(ht:t∈tys w){l:List Z0}(hl:W0u w t l)(hll:l.length≤8) :
  Q11 NN l=some (if l.all (fun c=>decide ((Z8 10 c.pat).length≤40))=true then (l.map (fun c=>Z8 10 c.pat),true) else ([],false)):=by
 suffices hs:Ret (Q11 NN l) (fun a=>a=(if l.all (fun c=>decide ((Z8 10 c.pat).length≤40))=true then (l.map (fun c=>Z8 10 c.pat),true) else ([],false))) by
  obtain ⟨a,e,rfl⟩:=hs
  exact e
 unfold Q11
 refine Ret.ctl (Z5 l (fun i s=>s=(l.take i).map (fun c=>Z8 10 c.pat)∧∀ c∈l.take i,(Z8 10 c.pat).length≤40) (fun r=>r=([],false)∧∃ c∈l,40<(Z8 10 c.pat).length) (fun s=>s=l.map (fun c=>Z8 10 c.pat)∧∀ c∈l,(Z8 10 c.pat).length≤40) ⟨by simp,by simp⟩ (fun i c s hi hI=>?_) (fun s hI=>by rw [List.take_length] at hI;exact hI)) (fun r hr=>.some ?_) (fun s hs=>.some ?_)
 ·obtain ⟨g,_⟩:=hl c (U1 hi)
  have hor:=X0b hw 10 t c.pat ht g
  have hil:i<l.length:=(List.getElem?_eq_some_iff.1 hi).1
  rw [Z8f 10 NN c.pat hor (by decide)]
  simp only [U0]
  by_cases hc:(Z8 10 c.pat).length≤40
  ·have e:ilt 40 ((min (Z8 10 c.pat).length 401:Nat):Int)=false:=by rw [W5];omega
   simp only [e,U2,if_false]
   rw [Z9x 10 NN c.pat hor (by decide) (by omega)]
   simp only [U0]
   rw [W4 (by rw [hI.1];simp only [U7,U6,U3,U4,Q4];omega)]
   refine .some ⟨by rw [hI.1,List.take_add_one,hi];simp,fun c' hc'=>?_⟩
   rw [List.take_add_one,hi] at hc'
   rcases List.mem_append.1 hc' with h | h
   ·exact hI.2 c' h
   ·simp only [Option.toList_some,U8,List.not_mem_nil,or_false] at h
    rw [h];exact hc
  ·have e:ilt 40 ((min (Z8 10 c.pat).length 401:Nat):Int)=true:=by rw [X2];omega
   simp only [e,if_true]
   exact .some ⟨rfl,c,U1 hi,by omega⟩
 ·obtain ⟨rfl,c,hc,hlt⟩:=hr
  rw [if_neg]
  rw [List.all_eq_true]
  intro h
  have:=h c hc
  simp only [decide_eq_true_eq] at this
  omega
 ·obtain ⟨rfl,h⟩:=hs
  rw [if_pos]
  rw [List.all_eq_true]
  exact fun c hc=>by simpa using h c hc
structure Comp (Q:X7→Prop) (x y:Option (X7×Bool)):Prop where
 tr:∀ t,x=some (t,true)→Q t
 eq:∃ t ok,x=some (t,ok)∧y=some (t,ok)∧(ok=false→t=zT)∧Z08 300 t∧Q93 300 t≤300
theorem W66:Z08 300 zT:=⟨by simp [zT],by simp [Q84,zT]⟩
theorem W65:Q93 300 zT=1:=by
 show 1+((Q84 zT).map (Q93 299)).sum=1
 rw [show Q84 zT=[] from rfl]
 simp
theorem Comp.no {Q:X7→Prop}{x y:Option (X7×Bool)}(h1:x=some (zT,false))(h2:y=some (zT,false)):Comp Q x y:=⟨fun t h=>by rw [h1] at h;simp at h,zT,false,h1,h2,fun _=>rfl,W66,by rw [W65];omega⟩
theorem W05 {ρ σ τ:Type}{x:Option (Ctl ρ σ)}{s0:σ}{g:Ctl ρ σ→Option τ}(h:Ret x (CtlQ (fun _=>False) (fun s=>s=s0))):x.bind g=g (.brk s0):=by
 obtain ⟨o,rfl,ho⟩:=h
 cases o with
 | ret r=>exact ho.elim
 | go s=>exact ho.elim
 | brk s=>rw [show s=s0 from ho];rfl
theorem W7l {ρ σ τ:Type}{x:Option (Ctl ρ σ)}{r0:ρ}{g:Ctl ρ σ→Option τ}(h:Ret x (CtlQ (fun r=>r=r0) (fun _=>False))):x.bind g=g (.ret r0):=by
 obtain ⟨o,rfl,ho⟩:=h
 cases o with
 | ret r=>rw [show r=r0 from ho];rfl
 | go s=>exact ho.elim
 | brk s=>exact ho.elim
def canC (w:List Q3)(t:Q5)(l:List Z0)(pick:Int):Bool:=Q4s w t l&&(decide (0≤pick)&&decide (pick≤2))&&l.all (fun c=>decide ((Z8 10 c.pat).length≤40))
theorem Z7e {w:List Q3}{t:Q5}{l:List Z0}(h:Q4s w t l=true):l.length≤8∧W0u w t l:=by
 simp only [Q4s,Bool.and_eq_true,decide_eq_true_eq,List.all_eq_true] at h
 refine ⟨h.1,fun c hc=>?_⟩
 have:=h.2 c hc
 simp only [Q5w,Bool.and_eq_true] at this
 obtain ⟨g,_,ln⟩:=Q7q this.1
 exact ⟨g,ln⟩
theorem X3v {w:List Q3}(hww:w∈Q32){t:Q5}(ht:t∈tys w)(l:List Z0)(pick:Int) :
  V5 NN w t l pick=if canC w t l pick=true then ((Y5 NN (CI w l pick ((300:Nat):Int)) (Q3g l l.length) [⟨[],t⟩]).bind fun r=>if (!r.2.1)=true then some (zT,false) else (Q13 NN r.1).bind fun r2=>some (r2,true)) else some (zT,false):=by
 have hw:=ww hww
 have hz:X7.mk 0 0 [] [] [] []=zT:=rfl
 unfold V5 canC
 rw [Z5v hw ht l]
 simp only [U0,hz]
 cases hv:Q4s w t l with
 | false=>simp
 | true=>
 obtain ⟨hll,hP⟩:=Z7e hv
 rw [Q90]
 simp only [U0,Bool.not_true,U2,if_false,Bool.true_and]
 cases hp:(decide (0≤pick)&&decide (pick≤2)) with
 | false=>simp
 | true=>
 simp only [Bool.not_true,U2,if_false,Bool.true_and]
 rw [Z7n hw ht hP hll]
 simp only [U0]
 cases hA:l.all (fun c=>decide ((Z8 10 c.pat).length≤40)) with
 | false=>simp
 | true=>
 simp only [if_true,Bool.not_true,U2,if_false]
 have hA':∀ c∈l,(Z8 10 c.pat).length≤40:=fun c hc=>by simpa using List.all_eq_true.1 hA c hc
 refine (W05 (s0:=Q3g l l.length) ?_).trans ?_
 ·refine Z5 (l.map fun c=>Z8 10 c.pat) (fun i s=>s=Q3g l i) (fun _=>False) (fun s=>s=Q3g l l.length) rfl (fun i ps s hi hI=>?_) (fun s hI=>by rw [hI,U7])
  rw [List.getElem?_map,U11] at hi
  obtain ⟨c,hi,rfl⟩:=hi
  have hc:=U1 hi
  have hil:i<l.length:=(List.getElem?_eq_some_iff.1 hi).1
  have hri:=Z27 hA' i
  have hcl:=hA' c hc
  refine Ret.ctl (Z5 (Z8 10 c.pat) (fun j u=>u=Q3g l i++((Z8 10 c.pat).take j).map (Q7s i)) (fun _=>False) (fun u=>u=Q3g l (i+1)) (by simp [hI]) (fun j p u hj hJ=>?_) (fun u hJ=>?_)) (fun r hr=>hr.elim) (fun u hu=>.some hu)
  ·have hjl:j<(Z8 10 c.pat).length:=(List.getElem?_eq_some_iff.1 hj).1
   have has:=Z80 10 t p (Z25 10 t c.pat p (hP c hc).1 (U1 hj))
   rw [X4h (d:=10) (n:=NN) has (by omega) (by decide) (by simp) (by simp) (by simp)]
   simp only [U0,List.nil_append]
   rw [W4 (by rw [hJ];simp only [U5,U7,U6,U3,U4,Q4];omega)]
   exact .some (by simp only [Q0e];rw [hJ,List.take_add_one,hj];simp [Q7s])
  ·rw [hJ,List.take_length,Q3g,hi]
 ·dsimp only
  rw [(wl hww).dim]
  simp only [U0]
  rfl
theorem W2c {w:List Q3}(hww:w∈Q32){t:Q5}(ht:t∈tys w)(l:List Z0)(pick:Int) :
  Q07 NN w t l pick=if canC w t l pick=true then ((Q1j NN w l [⟨[],t⟩] ((Q3g l l.length).map toS) pick ((300:Nat):Int)).bind fun r=>if ilt r.2 0=true then some (zT,false) else some (r.1,true)) else some (zT,false):=by
 have hw:=ww hww
 have hz:X7.mk 0 0 [] [] [] []=zT:=rfl
 unfold Q07 canC
 rw [Z5r hw ht l]
 simp only [U0,hz]
 cases hv:Q4s w t l with
 | false=>simp
 | true=>
 obtain ⟨hll,hP⟩:=Z7e hv
 simp only [Bool.not_true,U2,if_false,Bool.true_and]
 by_cases p0:pick<0
 ·have e1:ilt pick 0=true:=by rw [X2];exact p0
  have e2:(decide ((0:Int)≤pick)&&decide (pick≤2))=false:=by simp;omega
  simp only [e1,e2,if_true,Bool.false_and,U2,if_false]
 have e1:ilt pick 0=false:=by rw [W5];omega
 simp only [e1,U2,if_false]
 by_cases p2:2<pick
 ·have e1:ilt 2 pick=true:=by rw [X2];exact p2
  have e2:(decide ((0:Int)≤pick)&&decide (pick≤2))=false:=by simp;omega
  simp only [e1,e2,if_true,Bool.false_and,U2,if_false]
 have e1:ilt 2 pick=false:=by rw [W5];omega
 have e2:(decide ((0:Int)≤pick)&&decide (pick≤2))=true:=by simp;omega
 simp only [e1,e2,U2,if_false,Bool.true_and]
 unfold Q4p
 have hsp:∀ c∈l,Q01 NN c.pat=some ((Z8 10 c.pat).take 401):=fun c hc=>Z95 10 NN c.pat (X0b hw 10 t c.pat ht (hP c hc).1) (by decide)
 cases hA:l.all (fun c=>decide ((Z8 10 c.pat).length≤40)) with
 | true=>
  simp only [if_true]
  have hA':∀ c∈l,(Z8 10 c.pat).length≤40:=fun c hc=>by simpa using List.all_eq_true.1 hA c hc
  have hsp':∀ c∈l,Q01 NN c.pat=some (Z8 10 c.pat):=fun c hc=>by
   have:=hA' c hc
   rw [hsp c hc,List.take_of_length_le (by omega)]
  have hrows:Q42 NN l=some ((Q3g l l.length).map toS):=by
   suffices hs:Ret (Q42 NN l) (fun a=>a=(Q3g l l.length).map toS) by
    obtain ⟨a,e,rfl⟩:=hs
    exact e
   unfold Q42
   refine Ret.ctl (Z5 l (fun i s=>s=(Q3g l i).map toS) (fun _=>False) (fun s=>s=(Q3g l l.length).map toS) rfl (fun i c s hi hI=>?_) (fun s hI=>hI)) (fun r hr=>hr.elim) (fun s hs=>.some hs)
   have hc:=U1 hi
   have hil:i<l.length:=(List.getElem?_eq_some_iff.1 hi).1
   have hri:=Z27 hA' i
   have hcl:=hA' c hc
   rw [hsp' c hc]
   simp only [U0]
   refine Ret.ctl (Z5 (Z8 10 c.pat) (fun j u=>u=(Q3g l i).map toS++(((Z8 10 c.pat).take j).map (Q7s i)).map toS) (fun _=>False) (fun u=>u=(Q3g l (i+1)).map toS) (by simp [hI]) (fun j p u hj hJ=>?_) (fun u hJ=>?_)) (fun r hr=>hr.elim) (fun u hu=>.some hu)
   ·have hjl:j<(Z8 10 c.pat).length:=(List.getElem?_eq_some_iff.1 hj).1
    have has:=Z80 10 t p (Z25 10 t c.pat p (hP c hc).1 (U1 hj))
    rw [Z93 (d:=10) (n:=NN) has (by omega) (by decide) (by simp) (by simp)]
    simp only [U0,List.nil_append]
    rw [W4 (by rw [hJ];simp only [U5,U7,U6,U3,U4,Q4];omega)]
    exact .some (by simp only [Q0e];rw [hJ,List.take_add_one,hj];simp [Q7s,toS])
   ·rw [hJ,List.take_length,Q3g,hi];simp
  have h1:∀ (a:X7) (b:Bool),some (a,b)=some (a,b):=fun _ _=>rfl
  rw [hrows]
  have e300:(300:Int)=((300:Nat):Int):=rfl
  rw [e300]
  simp only [U0]
  have hin:∀ (X:Option (X7×Bool)),X.bind (fun r40=>some (r40.1,r40.2))=X:=fun X=>by cases X<;>rfl
  rw [hin]
  refine (W05 (s0:=()) ?_).trans ?_
  ·refine Z5 l (fun _ _=>True) (fun _=>False) (fun _=>_) trivial (fun i c s hi _=>?_) (fun _ _=>rfl)
   have hc:=U1 hi
   have:=hA' c hc
   rw [hsp' c hc]
   have e:ilt 40 (lenZ (Z8 10 c.pat).length)=false:=by rw [W5,Q3d];omega
   simp only [U0,e,U2,if_false]
   exact .some trivial
  ·rfl
 | false=>
  have hx:∃ c∈l,40<(Z8 10 c.pat).length:=by
   rw [List.all_eq_false] at hA
   simpa using hA
  have hin:∀ (X:Option (X7×Bool)),X.bind (fun r40=>some (r40.1,r40.2))=X:=fun X=>by cases X<;>rfl
  rw [hin]
  simp only [U2,if_false]
  refine (W7l (r0:=(zT,false)) ?_).trans rfl
  refine Z5 l (fun i _=>∀ c∈l.take i,(Z8 10 c.pat).length≤40) (fun r=>r=(zT,false)) (fun _=>False) (by simp) (fun i c s hi hI=>?_) (fun s hI=>?_)
  ·have hc:=U1 hi
   rw [hsp c hc]
   simp only [U0]
   by_cases h40:(Z8 10 c.pat).length≤40
   ·have e:ilt 40 (lenZ ((Z8 10 c.pat).take 401).length)=false:=by rw [W5,Q3d,U6];omega
    simp only [e,U2,if_false]
    refine .some fun c' hc'=>?_
    rw [List.take_add_one,hi] at hc'
    rcases List.mem_append.1 hc' with h | h
    ·exact hI c' h
    ·simp only [Option.toList_some,U8,List.not_mem_nil,or_false] at h
     rw [h];exact h40
   ·have e:ilt 40 (lenZ ((Z8 10 c.pat).take 401).length)=true:=by rw [X2,Q3d,U6];omega
    simp only [e,if_true]
    exact .some rfl
  ·obtain ⟨c,hc,h⟩:=hx
   rw [List.take_length] at hI
   have:=hI c hc
   omega
theorem X7s {w:List Q3}{t:Q5}(ht:t∈tys w):ColC w [⟨[],t⟩] 300:=
 ⟨fun c hc=>by simp only [U8,List.not_mem_nil,or_false] at hc;rw [hc];exact ht,fun c hc=>by simp only [U8,List.not_mem_nil,or_false] at hc;rw [hc];simp,by simp⟩
theorem Z2m {w:List Q3}(hww:w∈Q32){t:Q5}(ht:t∈tys w)(l:List Z0)(pick:Int):Comp (fun tr=>Q8t w l pick 300 tr (Q3g l l.length) [⟨[],t⟩]) (V5 NN w t l pick) (Q07 NN w t l pick):=by
 rw [X3v hww ht,W2c hww ht]
 cases hc:canC w t l pick with
 | false=>exact Comp.no (by simp) (by simp)
 | true=>
 simp only [if_true]
 simp only [canC,Bool.and_eq_true] at hc
 obtain ⟨hll,hP⟩:=Z7e hc.1.1
 have hA':∀ c∈l,(Z8 10 c.pat).length≤40:=fun c h=>by simpa using List.all_eq_true.1 hc.2 c h
 have hrl:=Z27 hA' l.length
 obtain ⟨ti,ok,c,ts,e,h1,h2,h3⟩:=W69 (ww hww) (wl hww) (ws hww) (lst:=l) (pick:=pick) 300 (Nat.le_refl _) NN NN (Q3g l l.length) [⟨[],t⟩] (by decide) (by decide) (by omega) (X7s ht) (Z9j (ww hww) hP hll)
 rw [h1,show [Y1.mk [] t]=[Z6.mk [] t].map toD from rfl,h2]
 simp only [U0]
 rcases h3 with ⟨rfl,rfl,lf,rfl,rfl,hd,hsz,hq⟩ | ⟨rfl,he⟩
 ·have e:ilt ((lf:Nat):Int) 0=false:=by rw [W5];omega
  simp only [Bool.not_true,e,U2,if_false]
  rw [X5d 300 NN ti hd (by decide)]
  exact ⟨fun t h=>by simp only [U0,Option.some.injEq,Prod.mk.injEq] at h;rw [←h.1];exact hq,ti,true,rfl,rfl,by simp,hd,by omega⟩
 ·have e:ilt e 0=true:=by rw [X2];exact he
  simp only [Bool.not_false,e,if_true]
  exact Comp.no rfl rfl
def Z2z (g:Q20)(l:List Q8z):Bool:=decide (g.op=0)||match l.find? fun b=>decide (b.var=g.var) with
 | none=>false
 | some b=>decide (b.value.ctor = -1)&&((decide (g.op=1)&&decide (b.value.n<g.n))||(decide (g.op=2)&&decide (b.value.n=g.n)))
theorem Z8d {α:Type}{l:List α}{k:Nat}{x:α}(h:l[k]?=some x):l.drop k=x::l.drop (k+1):=by
 obtain ⟨hk,rfl⟩:=List.getElem?_eq_some_iff.1 h
 exact List.drop_eq_getElem_cons hk
def J9 (b:Q9)(u:Z2):Bool:=decide (b.ctor=u.ctor)&&(decide (b.ctor≠-1)||(decide (b.n≤u.n)&&decide (u.n≤b.m)))
def cntV:Z2→Nat
 | ⟨_,_,kids⟩=>1+cntVs kids
where cntVs:List Z2→Nat
 | []=>0
 | v::l=>cntV v+cntVs l
theorem Q5v (v:Z2):cntV v=1+cntV.cntVs v.kids:=by cases v;rw [cntV]
theorem Z03:∀ (l:List Z2) (k:Nat) (q:Z2),l[k]?=some q→cntV.cntVs (l.take (k+1))=cntV.cntVs (l.take k)+cntV q
 | [],k,q,h=>by simp at h
 | p::l,0,q,h=>by simp at h;subst h;simp [cntV.cntVs]
 | p::l,k+1,q,h=>by
  have:=Z03 l k q (by simpa using h)
  simp only [List.take_succ_cons,cntV.cntVs]
  omega
theorem Q6i:∀ (l:List Z2) (k:Nat),cntV.cntVs (l.take k)≤cntV.cntVs l
 | [],k=>by simp
 | p::l,0=>by simp [cntV.cntVs]
 | p::l,k+1=>by
  have:=Q6i l k
  simp only [List.take_succ_cons,cntV.cntVs]
  omega
def Q7v (w:List Q3):Nat→Q5→Z2→Bool
 | 0,_,_=>false
 | d+1,t,v=>if t.data = -1 then decide (v.ctor = -1)&&(decide (0≤v.n)&&(decide (v.n≤9)&&decide (v.kids.length=0)))
  else decide (v.n=0)&&(decide (v.ctor∈W3 w t)&&(decide (v.kids.length=(Q0t w t v.ctor).length)&&((Q0t w t v.ctor).zip v.kids).all fun x=>Q7v w d x.1 x.2))
theorem X0x {w:List Q3}(hww:w∈Q32){t:Q5}(ht:t∈tys w){l:List Z0}{pick:Int}{tr:X7}(h:V5 NN w t l pick=some (tr,true)):canC w t l pick=true:=by
 rw [X3v hww ht] at h
 cases hc:canC w t l pick with
 | true=>rfl
 | false=>rw [hc] at h;simp at h
theorem W2z {w:List Q3}{lst:List Z0}{cols:List Z6}{pick:Int}{r0:Grow}{rest:List Grow}(hp:Q88 w (r0::rest) cols pick=none)(h0:RowC w lst cols r0):∀ q∈r0.pats,q=anyP:=fun q hq=>by
 obtain ⟨j,hj⟩:=List.mem_iff_getElem?.1 hq
 have hjl:=(List.getElem?_eq_some_iff.1 hj).1
 have hlen:=h0.len
 have hany:Q77 (r0::rest) j=true:=Q7t.1 hp j (by omega)
 have this:(X9 r0 j).op=1:=of_decide_eq_true hany
 have hq2:X9 r0 j=q:=by unfold X9;rw [hj];rfl
 have hc:cols[j]?=some (cols[j]'(by omega)):=by simp
 have hpc:=(h0.at hc).2
 rw [hq2] at this hpc
 exact X37 (Q0y hpc.1) this
def Q9i (w:List Q3):Nat→Q5→Z2→Prop
 | 0,_,_=>False
 | d+1,t,v=>(v.ctor = -2∧v.n=0∧v.kids=[])∨(v.ctor≠-2∧if t.data = -1 then v.ctor = -1∧0≤v.n∧v.n≤9∧v.kids=[] else v.n=0∧v.ctor∈W3 w t∧v.kids.length=(Q0t w t v.ctor).length∧∀ (j:Nat) (a:Q5) (x:Z2),(Q0t w t v.ctor)[j]?=some a→v.kids[j]?=some x→Q9i w d a x)
def Q58:Z2→List Int→Option Z2
 | v,[]=>some v
 | v,i::path=>if v.ctor = -2 then some v else (idx v.kids i).bind fun u=>Q58 u path
theorem Z6o:∀ (path:List Int) (v:Z2) (i:Int),Q58 v (path++[i])=(Q58 v path).bind fun u=>if u.ctor = -2 then some u else idx u.kids i
 | [],v,i=>by
  simp only [List.nil_append,Q58,U0]
  split
  ·rfl
  ·cases idx v.kids i<;>rfl
 | j::path,v,i=>by
  simp only [List.cons_append,Q58]
  by_cases h:v.ctor = -2
  ·rw [if_pos h,if_pos h]
   simp only [U0]
   rw [if_pos h]
  ·rw [if_neg h,if_neg h]
   cases idx v.kids j with
   | none=>rfl
   | some u=>simpa using Z6o path u i
def runP:Nat→X7→List Z0→Z2→Option (Int×List Int×Bool×List (List Int))
 | 0,_,_,_=>none
 | d+1,t,lst,v=>
  if t.op=2 then (Q58 v t.path).bind fun u=>if u.ctor = -2 then some (-1,t.path,true,[]) else match t.branches.find? (fun b=>J9 b u) with
   | none=>some (-1,[],false,[t.path])
   | some b=>(runP d b.tree lst v).map fun r=>(r.1,r.2.1,r.2.2.1,t.path::r.2.2.2)
  else if t.op=1 then (idx lst t.clause).bind fun c=>if c.guard.op=0 then some (t.clause,[],false,[]) else match t.binds.find? (fun b=>decide (b.var=c.guard.var)) with
   | none=>none
   | some b=>(Q58 v b.path).bind fun u=>if u.ctor = -2 then some (-1,b.path,true,[]) else if u.ctor = -1 then
     (if Z2z c.guard [⟨c.guard.var,u⟩]=true then some (t.clause,[],false,[b.path]) else match t.else_ with
      | el::_=>(runP d el lst v).map fun r=>(r.1,r.2.1,r.2.2.1,b.path::r.2.2.2)
      | []=>none)
    else none
  else some (-1,[],false,[])
def UsP (w:List Q3)(v:Z2)(cols:List Z6):Prop:=∀ c∈cols,∃ (u:Z2) (e:Nat),Q58 v c.path=some u∧Q9i w e c.t u
theorem X9p {w:List Q3}{e:Nat}{t:Q5}{u:Z2}(h:Q9i w e t u)(h2:u.ctor≠-2)(hd:t.data≠-1){i:Nat}{a:Q5}(ha:(Q0t w t u.ctor)[i]?=some a):∃ x e',idx u.kids (i:Int)=some x∧Q9i w e' a x:=by
 cases e with
 | zero=>exact h.elim
 | succ e=>
  rw [Q9i] at h
  rcases h with h | ⟨_,h⟩
  ·exact absurd h.1 h2
  ·rw [if_neg hd] at h
   obtain ⟨_,_,hl,hk⟩:=h
   have hil:=(List.getElem?_eq_some_iff.1 ha).1
   have hx:u.kids[i]?=some (u.kids[i]'(by omega)):=by simp
   exact ⟨_,e,Q2r hx,hk i a _ ha hx⟩
theorem X0c {w:List Q3}{e:Nat}{t:Q5}{u:Z2}(h:Q9i w e t u)(hd:t.data = -1):u.ctor = -2∨u.ctor = -1:=by
 cases e with
 | zero=>exact h.elim
 | succ e=>
  rw [Q9i,if_pos hd] at h
  rcases h with h | ⟨_,h,_⟩
  ·exact .inl h.1
  ·exact .inr h
theorem X12 {w:List Q3}{v u:Z2}{e:Nat}{col:Z6}(hu:Q58 v col.path=some u)(hg:Q9i w e col.t u)(h2:u.ctor≠-2){b:Q9}(hB:BrC w col.t b)(hf:J9 b u=true):UsP w v (Y4 w col b):=fun c hc=>by
 unfold Y4 at hc
 split at hc
 ·cases hc
 ·rename_i hne
  have hd:col.t.data≠-1:=fun hd=>hne (hB.int hd)
  obtain ⟨i,hi⟩:=List.getElem?_of_mem hc
  rw [List.getElem?_mapIdx,U11] at hi
  obtain ⟨a,ha,rfl⟩:=hi
  simp only [J9,Bool.and_eq_true,decide_eq_true_eq] at hf
  rw [hf.1] at ha
  obtain ⟨x,e',hx,hgx⟩:=X9p hg h2 hd ha
  exact ⟨x,e',by rw [Z6o,hu];simp only [U0];rw [if_neg h2,hx],hgx⟩
theorem W0b {w:List Q3}{cols:List Z6}{k:Nat}{col:Z6}{b:Q9}{c:Z6}(hc:c∈Q54 cols k (Y4 w col b)):c∈cols∨c∈Y4 w col b:=by
 unfold Q54 at hc
 rcases List.mem_append.1 hc with hc | hc
 ·rcases List.mem_append.1 hc with hc | hc
  ·exact .inl (List.mem_of_mem_take hc)
  ·exact .inr hc
 ·exact .inl (List.mem_of_mem_drop hc)
theorem W20 {w:List Q3}{v u:Z2}{cols:List Z6}(h:UsP w v cols){col:Z6}{e:Nat}(hu:Q58 v col.path=some u)(hg:Q9i w e col.t u)(h2:u.ctor≠-2){k:Nat}{b:Q9}(hB:BrC w col.t b)(hf:J9 b u=true):UsP w v (Q54 cols k (Y4 w col b)):=fun c hc=>by
 rcases W0b hc with hc | hc
 ·exact h c hc
 ·exact X12 hu hg h2 hB hf c hc
def hasI (w:List Q3):Nat→Q5→Q0→Int→Prop
 | 0,_,_,_=>False
 | d+1,t,p,x=>((p.op=2∨p.op=6)∧p.var=x∧t=tI)∨∃ (j:Nat) (a:Q5) (q:Q0),(J0 w t p)[j]?=some a∧p.kids[j]?=some q∧hasI w d a q x
theorem W41 {w:List Q3}{d:Nat}{t:Q5}{x:Int} : ¬hasI w d t anyP x:=by
 cases d with
 | zero=>exact id
 | succ d=>
  rintro (⟨h,_⟩ | ⟨j,a,q,_,h,_⟩)
  ·simp [anyP] at h
  ·simp [anyP] at h
def GrdR (w:List Q3)(v:Z2)(lst:List Z0)(cols:List Z6)(r:Grow):Prop:=
 ∀ cl,lst[r.clause.toNat]?=some cl→cl.guard.op≠0→(∃ b∈r.binds,b.var=cl.guard.var∧∃ u,Q58 v b.path=some u∧(u.ctor = -2∨u.ctor = -1))∨∃ x∈cols.zip r.pats,∃ d,hasI w d x.1.t x.2 cl.guard.var
theorem Z3w {w:List Q3}{v u:Z2}{path:List Int}(hu:Q58 v path=some u){t:Q5}{e:Nat}(hg:Q9i w e t u){x:Int} : ∀ (d:Nat) (p:Q0) (k:Nat),hasI w d t p x→(∃ b∈(Q1g k p path).1,b.var=x∧∃ u,Q58 v b.path=some u∧(u.ctor = -2∨u.ctor = -1))∨∃ d',hasI w d' t (Q1g k p path).2 x
 | 0,p,k,h=>h.elim
 | d+1,p,0,h=>.inr ⟨d+1,h⟩
 | d+1,p,k+1,h=>by
  rw [Q1v]
  by_cases h6:p.op=6
  ·rw [if_pos h6]
   rcases h with ⟨_,hv,ht⟩ | ⟨j,a,q,ha,hq,h⟩
   ·refine .inl ⟨⟨p.var,path⟩,by simp,hv,u,hu,X0c hg (by rw [ht];rfl)⟩
   ·have hk:J0 w t p=[t]:=by unfold J0;rw [if_neg (by omega),if_neg (by omega),if_pos h6]
    rw [hk] at ha
    have hj:j=0:=by
     have:=(List.getElem?_eq_some_iff.1 ha).1
     simp at this
     exact this
    subst hj
    simp only [List.getElem?_cons_zero,Option.some.injEq] at ha
    subst ha
    have hhd:p.kids.headD anyP=q:=by
     cases hks:p.kids with
     | nil=>rw [hks] at hq;cases hq
     | cons y l=>rw [hks] at hq;simpa using hq
    rw [hhd]
    rcases Z3w hu hg d q k h with ⟨b,hb,h1,h2⟩ | h
    ·exact .inl ⟨b,by simp [hb],h1,h2⟩
    ·exact .inr h
  ·rw [if_neg h6]
   by_cases h2:p.op=2
   ·rw [if_pos h2]
    rcases h with ⟨_,hv,ht⟩ | ⟨j,a,q,ha,hq,h⟩
    ·refine .inl ⟨⟨p.var,path⟩,by simp,hv,u,hu,X0c hg (by rw [ht];rfl)⟩
    ·have hk:J0 w t p=[]:=by unfold J0;rw [if_neg (by omega),if_neg (by omega),if_neg h6]
     rw [hk] at ha
     cases ha
   ·rw [if_neg h2]
    exact .inr ⟨d+1,h⟩
theorem W43 {w:List Q3}(hw:WW w)(hS:WS w){v u:Z2}{lst:List Z0}{cols:List Z6}{left:Nat}(hC:ColC w cols left){r:Grow}(hr:RowC w lst cols r){k:Nat}{col:Z6}(hk:cols[k]?=some col){e:Nat}(hu:Q58 v col.path=some u)(hg:Q9i w e col.t u)(h2:u.ctor≠-2){b:Q9}(hB:BrC w col.t b)(hf:J9 b u=true)(hfit:Q6e (X9 r k) b=true)(h:GrdR w v lst cols r):GrdR w v lst (Q54 cols k (Y4 w col b)) (Q9e r k (Y4 w col b)):=fun cl hcl h0=>by
 have hct:=hC.ty col (U1 hk)
 obtain ⟨h1,hp⟩:=hr.at hk
 obtain ⟨k1,k2,_⟩:=X8v hS hct hp hB hfit rfl
 have hA:=X12 hu hg h2 hB hf
 rcases h cl hcl h0 with ⟨b0,hb0,e1,e2⟩ | ⟨x,hx,d,hd⟩
 ·exact .inl ⟨b0,List.mem_append_left _ hb0,e1,e2⟩
 ·obtain ⟨i,hi⟩:=List.getElem?_of_mem hx
  rw [List.getElem?_zip_eq_some] at hi
  have hlen:=hr.len
  have hzl:(zipS (Q2q (X9 r k) (Y4 w col b)) (Y4 w col b)).length=(Y4 w col b).length:=by rw [zipS,List.length_zipWith,k1,Nat.min_self]
  have hzip:(Q54 cols k (Y4 w col b)).zip (Q9e r k (Y4 w col b)).pats=(cols.zip r.pats).take k++(Y4 w col b).zip ((zipS (Q2q (X9 r k) (Y4 w col b)) (Y4 w col b)).map (·.2))++(cols.zip r.pats).drop (k+1):=by
   simp only [Q9e,Q54]
   rw [X7b (by rw [U6,U6,hlen]) (by rw [U7,hzl]),Z71,Z72]
  by_cases hik:i=k
  ·subst hik
   rw [hk] at hi
   have hc1:x.1=col:=(Option.some.inj hi.1).symm
   have hp2:x.2=X9 r i:=by
    unfold X9
    rw [hi.2];rfl
   rw [hc1,hp2] at hd
   have hop:(X9 r i).op=4∨(X9 r i).op=1∨(X9 r i).op=3:=by have:=hp.2.2;omega
   cases d with
   | zero=>exact hd.elim
   | succ d=>
    rcases hd with ⟨hd,_⟩ | ⟨j,a,q,ha,hq,hd⟩
    ·omega
    ·have h4:(X9 r i).op=4:=by
      rcases hop with h | h | h
      ·exact h
      ·have:J0 w col.t (X9 r i)=[]:=by unfold J0;rw [if_neg (by omega),if_neg (by omega),if_neg (by omega)]
       rw [this] at ha;cases ha
      ·have:J0 w col.t (X9 r i)=[]:=by unfold J0;rw [if_neg (by omega),if_neg (by omega),if_neg (by omega)]
       rw [this] at ha;cases ha
     have hks:Q2q (X9 r i) (Y4 w col b)=(X9 r i).kids:=by unfold Q2q;rw [if_neg (by omega)]
     have hctor:(X9 r i).ctor=b.ctor:=by
      unfold Q6e at hfit
      rw [if_neg (by omega),if_neg (by omega)] at hfit
      exact of_decide_eq_true hfit
     have hkT:J0 w col.t (X9 r i)=Q0t w col.t b.ctor:=by unfold J0;rw [if_pos h4,hctor]
     rw [hkT] at ha
     have hne:b.ctor≠-1:=fun hne=>by
      rw [hks] at k1
      have hl1:=(List.getElem?_eq_some_iff.1 hq).1
      rw [k1,Y4,if_pos hne] at hl1
      simp at hl1
     have hai:(Y4 w col b)[j]?=some ⟨col.path++[(j:Int)],a⟩:=Z20 hne ha
     rw [hks] at hzip hzl k1
     obtain ⟨uj,ej,hpj,hgj⟩:=hA _ (U1 hai)
     rcases Z3w hpj hgj d q 12 hd with ⟨b1,hb1,g1,g2⟩ | ⟨d',hd'⟩
     ·refine .inl ⟨b1,?_,g1,g2⟩
      simp only [Q9e,hks]
      refine List.mem_append_right _ (List.mem_flatMap.2 ⟨_,U1 (Q9s hq hai),hb1⟩)
     ·refine .inr ⟨(⟨col.path++[(j:Int)],a⟩,(Q6a q (col.path++[(j:Int)])).2),?_,d',hd'⟩
      rw [hzip]
      refine List.mem_append_left _ (List.mem_append_right _ (U1 (i:=j) ?_))
      rw [List.getElem?_zip_eq_some]
      exact ⟨hai,by rw [List.getElem?_map,Q9s hq hai];rfl⟩
  ·refine .inr ⟨x,?_,d,hd⟩
   rw [hzip]
   have hz:(cols.zip r.pats)[i]?=some x:=by rw [List.getElem?_zip_eq_some];exact hi
   by_cases hlt:i<k
   ·refine List.mem_append_left _ (List.mem_append_left _ (U1 (i:=i) ?_))
    rw [List.getElem?_take_of_lt hlt,hz]
   ·refine List.mem_append_right _ (U1 (i:=i-(k+1)) ?_)
    rw [List.getElem?_drop,show k+1+(i-(k+1))=i by omega,hz]
theorem Z9r:∀ {l:List Q1} {x y:Q1},(l.map (·.var)).Nodup→x∈l→y∈l→x.var=y.var→x=y
 | [],x,y,_,hx,_,_=>by cases hx
 | a::l,x,y,hn,hx,hy,e=>by
  rw [List.map_cons,List.nodup_cons] at hn
  have no:∀ z,z∈l→z.var=a.var→False:=fun z hz ez=>hn.1 (by rw [←ez];exact List.mem_map_of_mem hz)
  rcases U8.1 hx with h1 | h1
  ·rcases U8.1 hy with h2 | h2
   ·rw [h1,h2]
   ·exact (no y h2 (by rw [←e,h1])).elim
  ·rcases U8.1 hy with h2 | h2
   ·exact (no x h1 (by rw [e,h2])).elim
   ·exact Z9r hn.2 h1 h2 e
theorem W44 {w:List Q3}{v:Z2}{lst:List Z0}{cols:List Z6}{r:Grow}(hr:RowC w lst cols r)(ha:∀ q∈r.pats,q=anyP)(h:GrdR w v lst cols r){cl:Z0}(hcl:lst[r.clause.toNat]?=some cl)(h0:cl.guard.op≠0) :
  ∃ b u,(Q8w r.binds).find? (fun b=>decide (b.var=cl.guard.var))=some b∧Q58 v b.path=some u∧(u.ctor = -2∨u.ctor = -1):=by
 obtain ⟨n1,n2,_⟩:=hr.binds
 rcases h cl hcl h0 with ⟨b,hb,e1,u,hu,hc⟩ | ⟨x,hx,d,hd⟩
 ·have hm:∀ y,y∈Q8w r.binds↔y∈r.binds:=fun y=>by
   unfold Q8w
   simp only [List.mem_flatMap,List.mem_range,List.mem_filter,decide_eq_true_eq]
   constructor
   ·rintro ⟨_,_,h,_⟩;exact h
   ·intro h
    have:=n2 y h
    exact ⟨y.var.toNat,by omega,h,by omega⟩
  cases hf:(Q8w r.binds).find? (fun b=>decide (b.var=cl.guard.var)) with
  | none=>
   rw [List.find?_eq_none] at hf
   exact absurd (decide_eq_true e1) (by simpa using hf b ((hm b).2 hb))
  | some y=>
   have hy:=(hm y).1 (List.mem_of_find?_eq_some hf)
   have hv:=List.find?_some hf
   simp only [decide_eq_true_eq] at hv
   have:y=b:=Z9r n1 hy hb (by rw [hv,e1])
   subst this
   exact ⟨y,u,rfl,hu,hc⟩
 ·have hq:=ha x.2 (List.of_mem_zip hx).2
  rw [hq] at hd
  exact absurd hd W41
theorem X4l {P:Q9→X7→Prop} : ∀ {bs xs:List Q9},brsR P bs xs→∀ x∈xs,∃ b∈bs,x.ctor=b.ctor∧x.n=b.n∧x.m=b.m∧P b x.tree
 | [],[],_,x,hx=>by cases hx
 | [],_::_,e,_,_=>e.elim
 | _::_,[],e,_,_=>e.elim
 | b::bs,y::ys,⟨⟨e1,e2,e3,e4⟩,e5⟩,x,hx=>by
  rcases U8.1 hx with rfl | hx
  ·exact ⟨b,by simp,e1,e2,e3,e4⟩
  ·obtain ⟨b',h1,h2⟩:=X4l e5 x hx
   exact ⟨b',by simp [h1],h2⟩
theorem X58 {w:List Q3}(hww:w∈Q32){lst:List Z0}{pick:Int}{v:Z2} : ∀ (d:Nat) (t:X7) (rows:List Grow) (cols:List Z6),Q8t w lst pick d t rows cols→(∀ r∈rows,RowC w lst cols r)→ColC w cols d→UsP w v cols→(∀ r∈rows,GrdR w v lst cols r)→∃ r,runP d t lst v=some r:=by
 have hw:=ww hww
 have hS:=ws hww
 intro d
 induction d with
 | zero=>intro t rows cols h;exact h.elim
 | succ d ih=>
  intro t rows cols h hR hC hV hG
  have hCd:ColC w cols d:=⟨hC.ty,fun c hc=>by have:=hC.path c hc;omega,by have:=hC.len;omega⟩
  cases rows with
  | nil=>
   simp only [Q8t] at h
   subst h
   exact ⟨(-1,[],false,[]),rfl⟩
  | cons r0 rest=>
   simp only [Q8t] at h
   have h0:=hR r0 (by simp)
   cases hp:Q88 w (r0::rest) cols pick with
   | none=>
    rw [hp] at h
    simp only at h
    obtain ⟨h1,h2,h3,h4,h5,cl,h6,h7⟩:=h
    have hidx:idx lst t.clause=some cl:=by
     rw [h2]
     exact Z4j h0.c0 h6
    rw [runP,if_neg (by omega),if_pos h1,hidx]
    simp only [U0]
    by_cases hg0:cl.guard.op=0
    ·rw [if_pos hg0]
     exact ⟨_,rfl⟩
    ·rw [if_neg hg0]
     obtain ⟨b,u,e1,e2,e3⟩:=W44 h0 (W2z hp h0) (hG r0 (by simp)) h6 hg0
     rw [h3,e1]
     simp only
     rw [e2]
     simp only [U0]
     by_cases hu:u.ctor = -2
     ·rw [if_pos hu]
      exact ⟨_,rfl⟩
     ·rw [if_neg hu,if_pos (by omega)]
      split
      ·exact ⟨_,rfl⟩
      ·rcases h7 with ⟨h7,_⟩ | ⟨_,el,h8,h9⟩
       ·exact absurd h7 hg0
       ·rw [h8]
        simp only
        obtain ⟨r,hr⟩:=ih el (Q4f (r0::rest) r0.clause) cols h9 (fun r hr=>hR r (Z49 hr)) hCd hV (fun r hr=>hG r (Z49 hr))
        rw [hr]
        exact ⟨_,rfl⟩
   | some k=>
    rw [hp] at h
    simp only at h
    obtain ⟨col,h1,h2,h3,h4,h5,h6,h7⟩:=h
    obtain ⟨u,e,hu,hg⟩:=hV col (U1 h1)
    rw [runP,if_pos h2,h5,hu]
    simp only [U0]
    by_cases hh:u.ctor = -2
    ·rw [if_pos hh]
     exact ⟨_,rfl⟩
    ·rw [if_neg hh]
     cases hf:t.branches.find? (fun b=>J9 b u) with
     | none=>exact ⟨_,rfl⟩
     | some x=>
      simp only
      have hct:=hC.ty col (U1 h1)
      obtain ⟨b,hb,e1,e2,e3,f4⟩:=X4l h7 x (List.mem_of_find?_eq_some hf)
      have hB:=V3e (wl hww) hct b hb
      have hfx:=List.find?_some hf
      have hfb:J9 b u=true:=by
       unfold J9 at hfx ⊢
       rw [←e1,←e2,←e3]
       exact hfx
      have hRn:∀ r∈Q5o (r0::rest) k b (Y4 w col b),RowC w lst (Q54 cols k (Y4 w col b)) r:=fun r hr=>by
       unfold Q5o at hr
       obtain ⟨r1,g1,rfl⟩:=U10.1 hr
       obtain ⟨g2,g3⟩:=List.mem_filter.1 g1
       exact RowC.next hw hS hC (hR r1 g2) h1 hB g3
      have hGn:∀ r∈Q5o (r0::rest) k b (Y4 w col b),GrdR w v lst (Q54 cols k (Y4 w col b)) r:=fun r hr=>by
       unfold Q5o at hr
       obtain ⟨r1,g1,rfl⟩:=U10.1 hr
       obtain ⟨g2,g3⟩:=List.mem_filter.1 g1
       exact W43 hw hS hC (hR r1 g2) h1 hu hg hh hB hfb g3 (hG r1 g2)
      obtain ⟨r,hr⟩:=ih x.tree _ _ f4 hRn (ColC.next hw hC h1 hB) (W20 hV hu hg hh hB hfb) hGn
      rw [hr]
      exact ⟨_,rfl⟩
theorem X9m {w:List Q3} : ∀ (d:Nat) (t:Q5) (p:Q0) (x:Int),hasI w d t p x→hasI w (d+1) t p x:=by
 intro d
 induction d with
 | zero=>intro t p x h;exact h.elim
 | succ d ih=>
  intro t p x h
  rcases h with h | ⟨j,a,q,h1,h2,h3⟩
  ·exact .inl h
  ·exact .inr ⟨j,a,q,h1,h2,ih a q x h3⟩
theorem X7v {w:List Q3}{x:Int} : ∀ (d:Nat) (t:Q5) (p q:Q0),Q1f w d t p=true→linD w d t p=true→q∈Z8 d p→⟨x,tI⟩∈Q1u w d t p→hasI w d t q x:=by
 intro d
 induction d with
 | zero=>intro t p q h;cases h
 | succ d ih=>
  intro t p q g l h hv
  have hn:=Q0y g
  have ho:=Q1i hn
  have hll:=l
  simp only [linD,Bool.and_eq_true,List.all_eq_true] at hll
  rcases Z13 h with ⟨h5,y,hy,hq⟩ | ⟨h5,ks,rfl,hl,hk⟩
  ·obtain ⟨a,b,hab,ht⟩:=kid0 h5 ho.2
   have ga:=Q1a g (k:=0) (a:=t) (q:=a) (by rw [ht];rfl) (by rw [hab];rfl)
   have gb:=Q1a g (k:=1) (a:=t) (q:=b) (by rw [ht];rfl) (by rw [hab];rfl)
   have la:=hll.1 (t,a) (by rw [ht,hab];simp)
   have lb:=hll.1 (t,b) (by rw [ht,hab];simp)
   have hal:=hll.2
   rw [if_pos h5] at hal
   have k0:kv w d t p 0=Q1u w d t a:=by simp [kv,ht,hab]
   have k1:kv w d t p 1=Q1u w d t b:=by simp [kv,ht,hab]
   rw [k0,k1] at hal
   have hvv:Q1u w (d+1) t p=Q1u w d t a:=by simp [Q1u,ownV,h5,ht,hab]
   rw [hvv] at hv
   rw [hab] at hy
   simp only [U8,List.not_mem_nil,or_false] at hy
   rcases hy with rfl | rfl
   ·exact X9m d t q x (ih t _ q ga la hq hv)
   ·refine X9m d t q x (ih t _ q gb lb hq ?_)
    simp only [Q80,Bool.and_eq_true,List.all_eq_true,decide_eq_true_eq] at hal
    exact hal.2 _ hv
  ·rw [Q1u,if_neg h5,List.mem_append] at hv
   rcases hv with hv | hv
   ·unfold ownV at hv
    split at hv
    ·rename_i hop
     simp only [List.mem_singleton,Q6.mk.injEq] at hv
     exact .inl ⟨hop,hv.1.symm,hv.2.symm⟩
    ·cases hv
   ·rw [List.take_of_length_le (by simp [ho.2])] at hv
    obtain ⟨z,hz,hv⟩:=List.mem_flatMap.1 hv
    obtain ⟨j,hj⟩:=List.getElem?_of_mem hz
    obtain ⟨h3,h4⟩:=List.getElem?_zip_eq_some.1 hj
    have hjl:=(List.getElem?_eq_some_iff.1 h4).1
    have hkj:ks[j]?=some (ks[j]'(by omega)):=by simp
    exact .inr ⟨j,z.1,_,h3,hkj,ih z.1 z.2 _ (Q1a g h3 h4) (hll.1 z hz) (hk j _ z.2 hkj h4) hv⟩
theorem X9o {w:List Q3}{t:Q5}{l:List Z0}(hcl:Q4s w t l=true){v:Z2}{e:Nat}(hv:Q9i w e t v):∀ r∈Q3g l l.length,GrdR w v l [⟨[],t⟩] r:=fun r hr cl hc h0=>by
 obtain ⟨k,c,q,h1,h2,rfl⟩:=Z6m hr
 have e1:((Q7s k q).clause).toNat=k:=rfl
 rw [e1,h1] at hc
 have hcc:=Option.some.inj hc
 subst hcc
 simp only [Q4s,Bool.and_eq_true,decide_eq_true_eq,List.all_eq_true] at hcl
 have hcb:=hcl.2 c (U1 h1)
 simp only [Q5w,Bool.and_eq_true] at hcb
 obtain ⟨g1,_,g3⟩:=Q7q hcb.1
 have hg:=hcb.2
 unfold Z4m at hg
 rw [if_neg h0] at hg
 simp only [Bool.and_eq_true,decide_eq_true_eq] at hg
 have hh:=X7v 10 t c.pat q g1 g3 h2 hg.2
 rcases Z3w (path:=[]) (show Q58 v []=some v from rfl) hv 10 q 12 hh with h | ⟨d',h⟩
 ·exact .inl h
 ·refine .inr ⟨(⟨[],t⟩,(Q6a q []).2),?_,d',h⟩
  simp [Q7s]
theorem Z9q {w:List Q3}(hww:w∈Q32){t:Q5}(ht:t∈tys w){l:List Z0}{pick:Int}{tr:X7}(h:V5 NN w t l pick=some (tr,true)){v:Z2}{e:Nat}(hv:Q9i w e t v):∃ r,runP 300 tr l v=some r:=by
 have hc:=X0x hww ht h
 simp only [canC,Bool.and_eq_true] at hc
 obtain ⟨hll,hP⟩:=Z7e hc.1.1
 exact X58 hww 300 tr _ _ ((Z2m hww ht l pick).tr tr h) (Z9j (ww hww) hP hll) (X7s ht) (fun c hc=>by
  simp only [List.mem_singleton] at hc
  subst hc
  exact ⟨v,e,rfl,hv⟩) (X9o hc.1.1 hv)
theorem X85 {lst:List Z0}{v:Z2} : ∀ (d:Nat) (t:X7) (r:Int×List Int×Bool×List (List Int)),runP d t lst v=some r→(r.2.2.1=true→r.1 = -1∧∃ u,Q58 v r.2.1=some u∧u.ctor = -2)∧(r.2.2.1=false→r.2.1=[]):=by
 intro d
 induction d with
 | zero=>intro t r h;cases h
 | succ d ih=>
  intro t r hp
  rw [runP] at hp
  have mapc:∀ (x:X7) (f:List (List Int)→List (List Int)),((runP d x lst v).map fun r=>(r.1,r.2.1,r.2.2.1,f r.2.2.2))=some r→(r.2.2.1=true→r.1 = -1∧∃ u,Q58 v r.2.1=some u∧u.ctor = -2)∧(r.2.2.1=false→r.2.1=[]):=fun x f h=>by
   rw [U11] at h
   obtain ⟨y,hy,rfl⟩:=h
   exact ih x y hy
  by_cases h2:t.op=2
  ·rw [if_pos h2,U12] at hp
   obtain ⟨u,hu,hp⟩:=hp
   by_cases hh:u.ctor = -2
   ·rw [if_pos hh] at hp
    cases hp
    exact ⟨fun _=>⟨rfl,u,hu,hh⟩,fun h=>(by cases h)⟩
   ·rw [if_neg hh] at hp
    cases hf:t.branches.find? (fun b=>J9 b u) with
    | none=>
     rw [hf] at hp
     cases hp
     exact ⟨fun h=>(by cases h),fun _=>rfl⟩
    | some b=>
     rw [hf] at hp
     exact mapc b.tree (t.path::·) hp
  ·rw [if_neg h2] at hp
   by_cases h1:t.op=1
   ·rw [if_pos h1,U12] at hp
    obtain ⟨c,hc,hp⟩:=hp
    by_cases hg0:c.guard.op=0
    ·rw [if_pos hg0] at hp
     cases hp
     exact ⟨fun h=>(by cases h),fun _=>rfl⟩
    ·rw [if_neg hg0] at hp
     cases hf:t.binds.find? (fun b=>decide (b.var=c.guard.var)) with
     | none=>rw [hf] at hp;cases hp
     | some b=>
      rw [hf] at hp
      simp only [U12] at hp
      obtain ⟨u,hu,hp⟩:=hp
      by_cases hh:u.ctor = -2
      ·rw [if_pos hh] at hp
       cases hp
       exact ⟨fun _=>⟨rfl,u,hu,hh⟩,fun h=>(by cases h)⟩
      ·rw [if_neg hh] at hp
       split at hp
       ·split at hp
        ·cases hp
         exact ⟨fun h=>(by cases h),fun _=>rfl⟩
        ·split at hp
         ·exact mapc _ (b.path::·) hp
         ·cases hp
       ·cases hp
   ·rw [if_neg h1] at hp
    cases hp
    exact ⟨fun h=>(by cases h),fun _=>rfl⟩
def Q1b (w:List Q3):Nat→Q5→Z2→Bool
 | 0,_,_=>false
 | d+1,t,v=>if v.ctor = -2 then decide (v.n=0)&&decide (v.kids.length=0) else if t.data = -1 then decide (v.ctor = -1)&&(decide (0≤v.n)&&(decide (v.n≤9)&&decide (v.kids.length=0)))
  else decide (v.n=0)&&(decide (v.ctor∈W3 w t)&&(decide (v.kids.length=(Q0t w t v.ctor).length)&&((Q0t w t v.ctor).zip v.kids).all fun x=>Q1b w d x.1 x.2))
theorem X5v {w:List Q3} : ∀ (d:Nat) (t:Q5) (v:Z2),Q1b w d t v=true↔Q9i w d t v:=by
 intro d
 induction d with
 | zero=>intro t v;simp [Q1b,Q9i]
 | succ d ih=>
  intro t v
  rw [Q1b,Q9i]
  by_cases hh:v.ctor = -2
  ·rw [if_pos hh]
   simp only [Bool.and_eq_true,decide_eq_true_eq,List.length_eq_zero_iff]
   constructor
   ·exact fun h=>.inl ⟨hh,h.1,h.2⟩
   ·rintro (h | h)
    ·exact h.2
    ·exact absurd hh h.1
  rw [if_neg hh]
  have hl:∀ {X Y:Prop},(X↔Y)→(X↔(v.ctor = -2∧v.n=0∧v.kids=[])∨(v.ctor≠-2∧Y)):=fun h=>by
   rw [h]
   constructor
   ·exact fun h=>.inr ⟨hh,h⟩
   ·rintro (h | h)
    ·exact absurd h.1 hh
    ·exact h.2
  refine hl ?_
  split
  ·simp only [Bool.and_eq_true,decide_eq_true_eq,List.length_eq_zero_iff]
  ·simp only [Bool.and_eq_true,decide_eq_true_eq,List.all_eq_true]
   constructor
   ·rintro ⟨h1,h2,h3,h4⟩
    exact ⟨h1,h2,h3,fun j a x ha hx=>(ih a x).1 (h4 (a,x) (U1 (Q6n ha hx)))⟩
   ·rintro ⟨h1,h2,h3,h4⟩
    refine ⟨h1,h2,h3,fun x hx=>?_⟩
    obtain ⟨j,hj⟩:=List.mem_iff_getElem?.1 hx
    obtain ⟨e1,e2⟩:=List.getElem?_zip_eq_some.1 hj
    exact (ih _ _).2 (h4 j _ _ e1 e2)
def okP (w:List Q3)(d:Nat)(t:Q5)(v:Z2)(c:Nat):Bool:=Q1b w d t v&&decide (c+cntV v≤60)
def Z09 (w:List Q3)(t:Q5)(v:Z2):Bool:=Q1b w 10 t v&&decide (cntV v≤60)
theorem X1g {w:List Q3}{t:Q5}{v:Z2}(h:Z09 w t v=true):Q9i w 10 t v:=by
 simp only [Z09,Bool.and_eq_true] at h
 exact (X5v 10 t v).1 h.1
theorem X8n {w:List Q3}{d:Nat}{t:Q5}{v:Z2}{c:Nat}(h:Q1b w d t v=false):okP w d t v c=false:=by simp [okP,h]
theorem W8s {w:List Q3}(hw:WW w):∀ (d n:Nat) (t:Q5) (v:Z2) (c:Nat),t∈tys w→c≤60→d+2≤n→d≤10→
  Ret (Q1c n w t v (11-(d:Int)) true (c:Int)) (fun r=>r.1=okP w d t v c∧(okP w d t v c=true→r.2=((c+cntV v:Nat):Int))):=by
 intro d
 induction d with
 | zero=>
  intro n t v c ht hc hn hd
  obtain ⟨n,rfl⟩:∃ k,n=k+1:=⟨n-1,by omega⟩
  have hb:okP w 0 t v c=false:=X8n rfl
  unfold Q1c
  refine Ret.ite (fun _=>.some ⟨hb.symm,fun h=>by rw [hb] at h;cases h⟩) (fun _=>?_)
  rw [if_pos (by rw [X2];omega)]
  exact .some ⟨hb.symm,fun h=>by rw [hb] at h;cases h⟩
 | succ d ih=>
  intro n t v c ht hc hn hd
  obtain ⟨n,rfl⟩:∃ k,n=k+1:=⟨n-1,by omega⟩
  have hT:=hw.ty t ht
  unfold Q1c
  have hc1:wadd .i64 (c:Int) 1=((c+1:Nat):Int):=by rw [J3]<;>omega
  rw [hc1]
  have hpos:1≤cntV v:=by rw [Q5v];omega
  refine Ret.ite (fun hlt=>?_) (fun hle=>?_)
  ·rw [X2] at hlt
   have hb:okP w (d+1) t v c=false:=by simp only [okP,Bool.and_eq_false_iff,decide_eq_false_iff_not];right;omega
   exact .some ⟨hb.symm,fun h=>by rw [hb] at h;cases h⟩
  rw [W5] at hle
  rw [if_neg (by rw [X2];omega),if_pos (rfl:(true:Bool)=true)]
  have bad:Q1b w (d+1) t v=false→okP w (d+1) t v c=false:=X8n
  refine Ret.ctl (R:=fun r:Bool×Int=>r.1=okP w (d+1) t v c∧(okP w (d+1) t v c=true→r.2=((c+cntV v:Nat):Int))) (B:=fun _:Unit=>v.ctor≠-2∧t.data≠-1∧v.n=0∧v.ctor∈W3 w t) ?_ (fun r hr=>.some hr) (fun s hs=>?_)
  ·refine Ret.ite (fun hh=>?_) (fun hne=>?_)
   ·rw [Z3] at hh
    have hg:Q1b w (d+1) t v=(decide (v.n=0)&&decide (v.kids.length=0)):=by rw [Q1b,if_pos hh]
    refine Ret.ite (fun h1=>?_) (fun h1=>?_)
    ·rw [Z3] at h1
     have hk:Q1b w (d+1) t v=decide (v.kids.length=0):=by rw [hg];simp [h1]
     refine .some ?_
     have h0:v.kids.length=0→cntV v=1:=fun h=>by rw [Q5v,List.eq_nil_of_length_eq_zero h];rfl
     by_cases hz:v.kids.length=0
     ·have e1:okP w (d+1) t v c=true:=by simp only [okP,hk,hz,decide_true,Bool.true_and,decide_eq_true_eq];have:=h0 hz;omega
      rw [e1]
      refine ⟨?_,fun _=>?_⟩
      ·simp only [Z3,lenZ];omega
      ·have:=h0 hz;simp only;omega
     ·have e1:okP w (d+1) t v c=false:=bad (by rw [hk];simp [hz])
      rw [e1]
      refine ⟨?_,fun h=>by cases h⟩
      simp only [X0,lenZ];omega
    ·rw [X0] at h1
     have e1:okP w (d+1) t v c=false:=bad (by rw [hg];simp [h1])
     exact .some ⟨e1.symm,fun h=>by rw [e1] at h;cases h⟩
   rw [X0] at hne
   refine Ret.ite (fun hi=>?_) (fun hi=>?_)
   ·rw [Z3] at hi
    have hg:Q1b w (d+1) t v=(decide (v.ctor = -1)&&(decide (0≤v.n)&&(decide (v.n≤9)&&decide (v.kids.length=0)))):=by rw [Q1b,if_neg hne,if_pos hi]
    refine Ret.ite (fun h1=>?_) (fun h1=>?_)
    ·rw [Z3] at h1
     rw [Q90]
     simp only [U0]
     refine Ret.ite (fun h2=>?_) (fun h2=>?_)
     ·simp only [Bool.and_eq_true,decide_eq_true_eq] at h2
      have hk:Q1b w (d+1) t v=decide (v.kids.length=0):=by rw [hg];simp [h1,h2.1,h2.2]
      refine .some ?_
      have h0:v.kids.length=0→cntV v=1:=fun h=>by rw [Q5v,List.eq_nil_of_length_eq_zero h];rfl
      by_cases hz:v.kids.length=0
      ·have e1:okP w (d+1) t v c=true:=by simp only [okP,hk,hz,decide_true,Bool.true_and,decide_eq_true_eq];have:=h0 hz;omega
       rw [e1]
       refine ⟨?_,fun _=>?_⟩
       ·simp only [Z3,lenZ];omega
       ·have:=h0 hz;simp only;omega
      ·have e1:okP w (d+1) t v c=false:=bad (by rw [hk];simp [hz])
       rw [e1]
       refine ⟨?_,fun h=>by cases h⟩
       simp only [X0,lenZ];omega
     ·have e1:okP w (d+1) t v c=false:=bad (by
       rw [hg]
       simp only [Bool.and_eq_false_iff,decide_eq_false_iff_not] at h2 ⊢
       rcases h2 with h2 | h2
       ·exact .inr (.inl h2)
       ·exact .inr (.inr (.inl h2)))
      exact .some ⟨e1.symm,fun h=>by rw [e1] at h;cases h⟩
    ·rw [X0] at h1
     have e1:okP w (d+1) t v c=false:=bad (by rw [hg];simp [h1])
     exact .some ⟨e1.symm,fun h=>by rw [e1] at h;cases h⟩
   ·rw [X0] at hi
    have hg:Q1b w (d+1) t v=(decide (v.n=0)&&(decide (v.ctor∈W3 w t)&&(decide (v.kids.length=(Q0t w t v.ctor).length)&&((Q0t w t v.ctor).zip v.kids).all fun x=>Q1b w d x.1 x.2))):=by rw [Q1b,if_neg hne,if_neg hi]
    refine Ret.ite (fun h1=>?_) (fun h1=>?_)
    ·rw [Bool.not_eq_true',X0] at h1
     have e1:okP w (d+1) t v c=false:=bad (by rw [hg];simp [h1])
     exact .some ⟨e1.symm,fun h=>by rw [e1] at h;cases h⟩
    rw [Bool.not_eq_false',Z3] at h1
    rw [hT.c2]
    simp only [U0]
    rw [Q9p]
    simp only [U0]
    refine Ret.ite (fun h2=>?_) (fun h2=>?_)
    ·rw [Bool.not_eq_true',decide_eq_false_iff_not] at h2
     have e1:okP w (d+1) t v c=false:=bad (by rw [hg];simp [h2])
     exact .some ⟨e1.symm,fun h=>by rw [e1] at h;cases h⟩
    rw [Bool.not_eq_false',decide_eq_true_eq] at h2
    exact .some ⟨hne,hi,h1,h2⟩
  ·obtain ⟨s0,s1,s2,s3⟩:=hs
   have hg:Q1b w (d+1) t v=(decide (v.kids.length=(Q0t w t v.ctor).length)&&((Q0t w t v.ctor).zip v.kids).all fun x=>Q1b w d x.1 x.2):=by rw [Q1b,if_neg s0,if_neg s1];simp [s2,s3]
   rw [hT.a2 _ s3]
   simp only [U0]
   refine Ret.ite (fun hl=>?_) (fun hl=>?_)
   ·rw [Bool.not_eq_true',X0] at hl
    simp only [lenZ] at hl
    have e1:okP w (d+1) t v c=false:=bad (by rw [hg];simp only [Bool.and_eq_false_iff,decide_eq_false_iff_not];left;omega)
    exact .some ⟨e1.symm,fun h=>by rw [e1] at h;cases h⟩
   rw [Bool.not_eq_false',Z3] at hl
   simp only [lenZ] at hl
   have hcv:=Q5v v
   refine Ret.ctl (Z5 v.kids (fun k s=>s=((c+1+cntV.cntVs (v.kids.take k):Nat):Int)∧c+1+cntV.cntVs (v.kids.take k)≤60∧∀ (j:Nat) (a:Q5) (x:Z2),j<k→(Q0t w t v.ctor)[j]?=some a→v.kids[j]?=some x→Q1b w d a x=true) (fun r:Bool×Int=>r.1=okP w (d+1) t v c∧(okP w (d+1) t v c=true→r.2=((c+cntV v:Nat):Int))) (fun s=>s=((c+cntV v:Nat):Int)∧okP w (d+1) t v c=true) ⟨by simp [cntV.cntVs],by simp only [List.take_zero,cntV.cntVs];omega,fun j a x hj=>by omega⟩ (fun k x s hx hI=>?_) (fun s hI=>?_)) (fun r hr=>.some hr) (fun s hs=>.some ⟨hs.2.symm,fun _=>hs.1⟩)
   ·obtain ⟨rfl,i2,i3⟩:=hI
    have hk:=(List.getElem?_eq_some_iff.1 hx).1
    have ha:(Q0t w t v.ctor)[k]?=some ((Q0t w t v.ctor)[k]'(by omega)):=by simp
    rw [Q2r ha]
    simp only [U0]
    have hdd:wadd .i64 (11-((d+1:Nat):Int)) 1=11-(d:Int):=by rw [J3]<;>omega
    rw [hdd]
    refine Ret.bind (ih n _ x _ (hT.at_ _ s3 _ (U1 ha)) i2 (by omega) (by omega)) (fun r hr=>?_)
    obtain ⟨r1,r2⟩:=hr
    have htk:=Z03 v.kids k x hx
    refine Ret.ite (fun h=>?_) (fun h=>?_)
    ·rw [Bool.not_eq_true',r1] at h
     have e1:okP w (d+1) t v c=false:=by
      simp only [okP,Bool.and_eq_false_iff,decide_eq_false_iff_not] at h ⊢
      rcases h with h | h
      ·left
       rw [hg,Bool.and_eq_false_iff]
       right
       rw [List.all_eq_false]
       exact ⟨_,U1 (Q6n ha hx),by simp [h]⟩
      ·right
       have:=Q6i v.kids (k+1)
       omega
     exact .some ⟨e1.symm,fun h=>by rw [e1] at h;cases h⟩
    ·rw [Bool.not_eq_false',r1] at h
     have r3:=r2 h
     simp only [okP,Bool.and_eq_true,decide_eq_true_eq] at h
     refine .some ⟨?_,by omega,fun j a y hj h1 h2=>?_⟩
     ·rw [r3];omega
     ·by_cases hjk:j=k
      ·subst hjk
       rw [ha] at h1
       rw [hx] at h2
       cases h1
       cases h2
       exact h.1
      ·exact i3 j a y (by omega) h1 h2
   ·obtain ⟨rfl,i2,i3⟩:=hI
    rw [List.take_length] at i2 ⊢
    refine ⟨by omega,?_⟩
    simp only [okP,Bool.and_eq_true,decide_eq_true_eq]
    refine ⟨?_,by omega⟩
    rw [hg]
    simp only [Bool.and_eq_true,decide_eq_true_eq,List.all_eq_true]
    refine ⟨by omega,fun y hy=>?_⟩
    obtain ⟨j,hj⟩:=List.mem_iff_getElem?.1 hy
    obtain ⟨e1,e2⟩:=List.getElem?_zip_eq_some.1 hj
    exact i3 j _ _ (List.getElem?_eq_some_iff.1 e2).1 e1 e2
theorem len0 (n:Nat):ieq (lenZ n) 0=decide (n=0):=by
 by_cases h:n=0
 ·subst h;rfl
 ·rw [decide_eq_false h,X0];simp only [lenZ];omega
theorem X1q:∀ (n:Nat) (p:Z2) (most:Nat),most<n→most≤1000→Q2n n p (most:Int)=some ((min (cntV p) (most+1):Nat):Int):=by
 intro n
 induction n with
 | zero=>intro p most h;omega
 | succ n ih=>
  intro p most hn hm
  unfold Q2n
  have key:=Z5 (ρ:=Int) (f:=fun k94 x95 (s88:Int)=>
   (if (ile s88 (most:Int))=true then
   ((Q2n n x95 (wsub .i64 (most:Int) s88)).bind fun r103=>
   some (Ctl.go (wadd .i64 s88 r103)))
   else
   some (Ctl.brk s88))) p.kids (s0:=1) (fun k s=>∃ m:Nat,s=(m:Int)∧m=min (1+cntV.cntVs (p.kids.take k)) (most+1)) (fun _=>False) (fun s=>s=((min (cntV p) (most+1):Nat):Int)) ⟨1,rfl,by simp [cntV.cntVs]⟩ (fun k q s hq hI=>?_) (fun s hI=>?_)
  ·have:=Ret.ctl (Q:=fun b=>b=((min (cntV p) (most+1):Nat):Int)) key (g:=fun (o:Ctl Int Int)=>match o with
    | .ret r=>some r
    | .go _=>none
    | .brk s=>some s) (fun r hr=>hr.elim) (fun s hs=>.some hs)
   obtain ⟨b,e,rfl⟩:=this
   exact e
  ·obtain ⟨m,rfl,hm2⟩:=hI
   refine Ret.ite (fun h=>?_) (fun h=>?_)
   ·rw [Q0s] at h
    have hle:m≤most:=by omega
    have hws:wsub .i64 (most:Int) (m:Int)=((most-m:Nat):Int):=by rw [Q23 (by omega) (by omega)];omega
    rw [hws,ih q (most-m) (by omega) (by omega)]
    simp only [U0]
    rw [J3 (by omega) (by omega)]
    refine .some ⟨m+min (cntV q) (most-m+1),by push_cast;rfl,?_⟩
    rw [Z03 p.kids k q hq]
    omega
   ·rw [Q5l] at h
    refine .some ?_
    have h1:=Q6i p.kids k
    have h2:=Q5v p
    show (m:Int)=_
    have:m=min (cntV p) (most+1):=by omega
    rw [this]
  ·obtain ⟨m,rfl,hm2⟩:=hI
   rw [List.take_length] at hm2
   have h2:=Q5v p
   have:m=min (cntV p) (most+1):=by omega
   rw [this]
theorem X1o {w:List Q3}(hw:WW w):∀ (d n:Nat) (t:Q5) (v:Z2),t∈tys w→d+1≤n→d≤100→Q29 n w t v (d:Int)=some (Q7v w d t v):=by
 intro d
 induction d with
 | zero=>
  intro n t v ht hn hd
  obtain ⟨m,rfl⟩:∃ m,n=m+1:=⟨n-1,by omega⟩
  unfold Q29
  rw [if_pos (by rw [X2];omega)]
  rfl
 | succ d ih=>
  intro n t v ht hn hd
  obtain ⟨m,rfl⟩:∃ m,n=m+1:=⟨n-1,by omega⟩
  have hT:=hw.ty t ht
  suffices hs:Ret (Q29 (m+1) w t v ((d+1:Nat):Int)) (fun r=>r=Q7v w (d+1) t v) by
   obtain ⟨a,e,rfl⟩:=hs
   exact e
  unfold Q29
  rw [if_neg (by rw [X2];omega)]
  have hws:wsub .i64 ((d+1:Nat):Int) 1=(d:Int):=by rw [Q23]<;>omega
  rw [hws]
  refine Ret.ite (fun hi=>?_) (fun hi=>?_)
  ·rw [Z3] at hi
   have hg:Q7v w (d+1) t v=(decide (v.ctor = -1)&&(decide (0≤v.n)&&(decide (v.n≤9)&&decide (v.kids.length=0)))):=by rw [Q7v,if_pos hi]
   rw [hg]
   refine Ret.ite (fun h1=>?_) (fun h1=>.some ?_)
   ·rw [Z3] at h1
    refine Ret.ite (fun h2=>?_) (fun h2=>.some ?_)
    ·rw [Q0s] at h2
     refine Ret.ite (fun h3=>.some ?_) (fun h3=>.some ?_)
     ·rw [Q0s] at h3
      simp only [h1,h2,h3,decide_true,Bool.true_and]
      exact len0 _
     ·rw [Q5l] at h3
      simp [show ¬v.n≤9 by omega]
    ·rw [Q5l] at h2
     simp [show ¬0≤v.n by omega]
   ·rw [X0] at h1
    simp [h1]
  ·rw [X0] at hi
   have hg:Q7v w (d+1) t v=(decide (v.n=0)&&(decide (v.ctor∈W3 w t)&&(decide (v.kids.length=(Q0t w t v.ctor).length)&&((Q0t w t v.ctor).zip v.kids).all fun x=>Q7v w d x.1 x.2))):=by rw [Q7v,if_neg hi]
   rw [hg]
   refine Ret.ite (fun h1=>.some ?_) (fun h1=>?_)
   ·rw [Bool.not_eq_true',X0] at h1
    simp [h1]
   rw [Bool.not_eq_false',Z3] at h1
   rw [hT.c1]
   simp only [U0]
   rw [X9l]
   simp only [U0]
   refine Ret.ite (fun h2=>.some ?_) (fun h2=>?_)
   ·rw [Bool.not_eq_true',decide_eq_false_iff_not] at h2
    simp [h2]
   rw [Bool.not_eq_false',decide_eq_true_eq] at h2
   rw [hT.a1 _ h2]
   simp only [U0]
   refine Ret.ite (fun hl=>.some ?_) (fun hl=>?_)
   ·rw [Bool.not_eq_true',X0] at hl
    simp only [lenZ] at hl
    have:¬v.kids.length=(Q0t w t v.ctor).length:=by omega
    simp [this]
   rw [Bool.not_eq_false',Z3] at hl
   simp only [lenZ] at hl
   have hl2:v.kids.length=(Q0t w t v.ctor).length:=by omega
   simp only [h1,h2,hl2,decide_true,Bool.true_and]
   refine Ret.ctl (Z5 (Q0t w t v.ctor) (fun k _=>∀ (j:Nat) (a:Q5) (x:Z2),j<k→(Q0t w t v.ctor)[j]?=some a→v.kids[j]?=some x→Q7v w d a x=true) (fun b=>b=false∧(((Q0t w t v.ctor).zip v.kids).all fun x=>Q7v w d x.1 x.2)=false) (fun _=>(((Q0t w t v.ctor).zip v.kids).all fun x=>Q7v w d x.1 x.2)=true) (fun j a x hj=>by omega) (fun k a s ha hI=>?_) (fun s hI=>?_)) (fun r hr=>.some (by rw [hr.1,hr.2])) (fun s hs=>.some hs.symm)
   ·have hlt:k<v.kids.length:=by have:=(List.getElem?_eq_some_iff.1 ha).1;omega
    have hq:v.kids[k]?=some v.kids[k]:=by simp [hlt]
    rw [Q2r hq]
    simp only [U0]
    rw [ih m a v.kids[k] (hT.at_ _ h2 a (U1 ha)) (by omega) (by omega)]
    simp only [U0]
    cases hgk:Q7v w d a v.kids[k] with
    | false=>
     refine .some ⟨rfl,?_⟩
     rw [List.all_eq_false]
     exact ⟨(a,v.kids[k]),U1 (Q6n ha hq),by simp [hgk]⟩
    | true=>
     refine .some (fun j a' q' hj ha' hq'=>?_)
     by_cases hjk:j=k
     ·subst hjk
      rw [ha] at ha'
      rw [hq] at hq'
      cases ha'
      cases hq'
      exact hgk
     ·exact hI j a' q' (by omega) ha' hq'
   ·rw [List.all_eq_true]
    intro x hx
    obtain ⟨j,hj⟩:=List.mem_iff_getElem?.1 hx
    obtain ⟨h3,h4⟩:=List.getElem?_zip_eq_some.1 hj
    exact hI j x.1 x.2 ((List.getElem?_eq_some_iff.1 h3).1) h3 h4
theorem X1p {w:List Q3}(hw:WW w):∀ (d n:Nat) (t:Q5) (v:Z2),t∈tys w→d+2≤n→d≤100→Q1o n w t v (d:Int)=some (Q1b w d t v):=by
 intro d
 induction d with
 | zero=>
  intro n t v ht hn hd
  obtain ⟨m,rfl⟩:∃ m,n=m+1:=⟨n-1,by omega⟩
  unfold Q1o
  rw [if_pos (by rw [X2];omega)]
  rfl
 | succ d ih=>
  intro n t v ht hn hd
  obtain ⟨m,rfl⟩:∃ m,n=m+1:=⟨n-1,by omega⟩
  have hT:=hw.ty t ht
  suffices hs:Ret (Q1o (m+1) w t v ((d+1:Nat):Int)) (fun r=>r=Q1b w (d+1) t v) by
   obtain ⟨a,e,rfl⟩:=hs
   exact e
  unfold Q1o
  rw [if_neg (by rw [X2];omega)]
  have hws:wsub .i64 ((d+1:Nat):Int) 1=(d:Int):=by rw [Q23]<;>omega
  rw [hws]
  refine Ret.ite (fun hh=>?_) (fun hh=>?_)
  ·rw [Z3] at hh
   have hg:Q1b w (d+1) t v=(decide (v.n=0)&&decide (v.kids.length=0)):=by rw [Q1b,if_pos hh]
   rw [hg]
   unfold Q5y
   rw [if_pos (by rw [Z3];exact hh)]
   by_cases h0:v.n=0
   ·rw [if_pos (by rw [Z3];exact h0)]
    refine .some ?_
    simp only [h0,decide_true,Bool.true_and]
    exact len0 _
   ·rw [if_neg (by rw [Z3];exact h0)]
    exact .some (by simp [h0])
  rw [X0] at hh
  refine Ret.ite (fun hi=>?_) (fun hi=>?_)
  ·have hi':=hi
   rw [Z3] at hi
   have h2:=X1o hw (d+1) m t v ht (by omega) (by omega)
   rw [h2]
   refine .some ?_
   rw [Q1b,if_neg hh,Q7v,if_pos hi,if_pos hi]
  ·rw [X0] at hi
   have hg:Q1b w (d+1) t v=(decide (v.n=0)&&(decide (v.ctor∈W3 w t)&&(decide (v.kids.length=(Q0t w t v.ctor).length)&&((Q0t w t v.ctor).zip v.kids).all fun x=>Q1b w d x.1 x.2))):=by rw [Q1b,if_neg hh,if_neg hi]
   rw [hg]
   refine Ret.ite (fun h1=>.some ?_) (fun h1=>?_)
   ·rw [Bool.not_eq_true',X0] at h1
    simp [h1]
   rw [Bool.not_eq_false',Z3] at h1
   rw [hT.c1]
   simp only [U0]
   rw [X9l]
   simp only [U0]
   refine Ret.ite (fun h2=>.some ?_) (fun h2=>?_)
   ·rw [Bool.not_eq_true',decide_eq_false_iff_not] at h2
    simp [h2]
   rw [Bool.not_eq_false',decide_eq_true_eq] at h2
   rw [hT.a1 _ h2]
   simp only [U0]
   refine Ret.ite (fun hl=>.some ?_) (fun hl=>?_)
   ·rw [Bool.not_eq_true',X0] at hl
    simp only [lenZ] at hl
    have:¬v.kids.length=(Q0t w t v.ctor).length:=by omega
    simp [this]
   rw [Bool.not_eq_false',Z3] at hl
   simp only [lenZ] at hl
   have hl2:v.kids.length=(Q0t w t v.ctor).length:=by omega
   simp only [h1,h2,hl2,decide_true,Bool.true_and]
   refine Ret.ctl (Z5 (Q0t w t v.ctor) (fun k _=>∀ (j:Nat) (a:Q5) (x:Z2),j<k→(Q0t w t v.ctor)[j]?=some a→v.kids[j]?=some x→Q1b w d a x=true) (fun b=>b=false∧(((Q0t w t v.ctor).zip v.kids).all fun x=>Q1b w d x.1 x.2)=false) (fun _=>(((Q0t w t v.ctor).zip v.kids).all fun x=>Q1b w d x.1 x.2)=true) (fun j a x hj=>by omega) (fun k a s ha hI=>?_) (fun s hI=>?_)) (fun r hr=>.some (by rw [hr.1,hr.2])) (fun s hs=>.some hs.symm)
   ·have hlt:k<v.kids.length:=by have:=(List.getElem?_eq_some_iff.1 ha).1;omega
    have hq:v.kids[k]?=some v.kids[k]:=by simp [hlt]
    rw [Q2r hq]
    simp only [U0]
    rw [ih m a v.kids[k] (hT.at_ _ h2 a (U1 ha)) (by omega) (by omega)]
    simp only [U0]
    cases hgk:Q1b w d a v.kids[k] with
    | false=>
     refine .some ⟨rfl,?_⟩
     rw [List.all_eq_false]
     exact ⟨(a,v.kids[k]),U1 (Q6n ha hq),by simp [hgk]⟩
    | true=>
     refine .some (fun j a' q' hj ha' hq'=>?_)
     by_cases hjk:j=k
     ·subst hjk
      rw [ha] at ha'
      rw [hq] at hq'
      cases ha'
      cases hq'
      exact hgk
     ·exact hI j a' q' (by omega) ha' hq'
   ·rw [List.all_eq_true]
    intro x hx
    obtain ⟨j,hj⟩:=List.mem_iff_getElem?.1 hx
    obtain ⟨h3,h4⟩:=List.getElem?_zip_eq_some.1 hj
    exact hI j x.1 x.2 ((List.getElem?_eq_some_iff.1 h3).1) h3 h4
theorem X1l {w:List Q3}(hw:WW w){t:Q5}(ht:t∈tys w)(v:Z2):Q62 NN w t v=some (Z09 w t v):=by
 unfold Q62 Z09
 rw [show (10:Int)=((10:Nat):Int) from rfl,X1p hw 10 NN t v ht (by decide) (by omega)]
 simp only [U0]
 cases hg:Q1b w 10 t v with
 | false=>rfl
 | true=>
  simp only [if_true,Bool.true_and]
  rw [show (60:Int)=((60:Nat):Int) from rfl,X1q NN v 60 (by decide) (by omega)]
  simp only [U0,Option.some.injEq]
  rw [Bool.eq_iff_iff,Q0s,decide_eq_true_eq]
  omega
theorem Z4i {w:List Q3}(hw:WW w){t:Q5}(ht:t∈tys w)(v:Z2):Q0k NN w t v=some (Z09 w t v):=by
 suffices hs:Ret (Q0k NN w t v) (fun r=>r=Z09 w t v) by
  obtain ⟨a,e,rfl⟩:=hs
  exact e
 unfold Q0k Q1e
 rw [hw.v1]
 simp only [U0,if_true]
 rw [(hw.ty t ht).t1]
 simp only [U0,if_true]
 refine Ret.bind (W8s hw 10 NN t v 0 ht (by omega) (by decide) (by omega)) (fun r hr=>.some ?_)
 rw [hr.1]
 simp [okP,Z09]
theorem Q9k {α:Type}{l:List α}{k:Nat}{x:α}{p:α→Bool}(h:l[k]?=some x):(l.drop k).find? p=if p x=true then some x else (l.drop (k+1)).find? p:=by
 rw [Z8d h,List.find?_cons]
 cases p x<;>rfl
theorem Z1n (g:Q20)(l:List Q8z):Q1t g l=some (Z2z g l):=by
 suffices hs:Ret (Q1t g l) (fun r=>r=Z2z g l) by
  obtain ⟨a,e,rfl⟩:=hs
  exact e
 unfold Q1t
 by_cases h0:g.op=0
 ·rw [if_pos (by rw [Z3];exact h0)]
  exact .some (by simp [Z2z,h0])
 rw [if_neg (by rw [Z3];exact h0)]
 have hfind:Ret (Q0q l (fun a0=>Q1y a0 g)) (fun k=>match l.find? (fun b=>decide (b.var=g.var)) with
   | none=>k = -1
   | some b=>∃ i:Nat,k=(i:Int)∧l[i]?=some b):=by
  unfold Q0q
  refine Ret.ctl (Z5 l (fun k _=>l.find? (fun b=>decide (b.var=g.var))=(l.drop k).find? (fun b=>decide (b.var=g.var))) (fun r=>∃ (i:Nat) (b:Q8z),r=(i:Int)∧l[i]?=some b∧l.find? (fun b=>decide (b.var=g.var))=some b) (fun _=>l.find? (fun b=>decide (b.var=g.var))=none) (by simp) (fun k x s hx hI=>?_) (fun s hI=>by rw [hI,List.drop_length];rfl)) (fun r hr=>.some ?_) (fun s hs=>.some (by rw [hs]))
  ·have e1:Q1y x g=some (ieq x.var g.var):=rfl
   simp only []
   rw [e1]
   simp only [U0]
   rw [Q9k hx] at hI
   refine Ret.ite (fun hc=>.some ?_) (fun hc=>.some ?_)
   ·rw [Z3] at hc
    rw [if_pos (by simpa using hc)] at hI
    exact ⟨k,x,rfl,hx,hI⟩
   ·rw [X0] at hc
    rw [if_neg (by simpa using hc)] at hI
    exact hI
  ·obtain ⟨i,b,rfl,h1,h2⟩:=hr
   rw [h2]
   exact ⟨i,rfl,h1⟩
 refine Ret.bind hfind (fun k hk=>?_)
 unfold Z2z
 cases hf:l.find? (fun b=>decide (b.var=g.var)) with
 | none=>
  rw [hf] at hk
  simp only at hk
  subst hk
  exact .some (by simp [h0])
 | some b=>
  rw [hf] at hk
  obtain ⟨i,rfl,hi⟩:=hk
  rw [if_neg (by rw [X2];omega),Q2r hi]
  simp only [U0,h0,decide_false,Bool.false_or]
  by_cases c1:b.value.ctor = -1
  ·have e1:ieq b.value.ctor (-1)=true:=by rw [Z3];exact c1
   simp only [e1,Bool.not_true,U2,if_false]
   by_cases c2:g.op=1
   ·have e2:ieq g.op 1=true:=by rw [Z3];exact c2
    have e3:ieq g.op 2=false:=by rw [X0];omega
    simp only [e2,e3,if_true,U2,if_false]
    by_cases c3:b.value.n<g.n
    ·have e4:ilt b.value.n g.n=true:=by rw [X2];exact c3
     simp only [e4,if_true]
     exact .some (by simp [c1,c2,c3])
    ·have e4:ilt b.value.n g.n=false:=by rw [W5];omega
     simp only [e4,U2,if_false]
     exact .some (by simp [c1,c2,c3])
   ·have e2:ieq g.op 1=false:=by rw [X0];exact c2
    simp only [e2,U2,if_false]
    by_cases c3:g.op=2
    ·have e3:ieq g.op 2=true:=by rw [Z3];exact c3
     simp only [e3,if_true]
     exact .some (by simp [c1,c3,ieq])
    ·have e3:ieq g.op 2=false:=by rw [X0];exact c3
     simp only [e3,U2,if_false]
     exact .some (by simp [c1,c2,c3])
  ·have e1:ieq b.value.ctor (-1)=false:=by rw [X0];exact c1
   simp only [e1,Bool.not_false,if_true]
   exact .some (by simp [c1])
theorem Z5u (b:Q9)(u:Z2):Q4q b u=some (J9 b u):=by
 unfold Q4q Q4m
 by_cases h1:b.ctor=u.ctor
 ·rw [if_pos (by rw [Z3];exact h1)]
  by_cases h2:b.ctor = -1
  ·rw [if_neg (by rw [Bool.not_eq_true,Bool.not_eq_false',Z3];exact h2),Q90]
   simp [J9,←h1,h2]
  ·rw [if_pos (by rw [Bool.not_eq_true',X0];exact h2)]
   simp [J9,h1,h1▸h2]
 ·rw [if_neg (by rw [Z3];exact h1)]
  simp [J9,h1]
theorem Z7q (bs:List Q9)(u:Z2):Ret (Q0g bs (fun a0=>Q4q a0 u)) (fun k=>match bs.find? (fun b=>J9 b u) with
  | none=>k = -1
  | some b=>∃ i:Nat,k=(i:Int)∧bs[i]?=some b):=by
 unfold Q0g
 refine Ret.ctl (Z5 bs (fun k _=>bs.find? (fun b=>J9 b u)=(bs.drop k).find? (fun b=>J9 b u)) (fun r=>∃ (i:Nat) (b:Q9),r=(i:Int)∧bs[i]?=some b∧bs.find? (fun b=>J9 b u)=some b) (fun _=>bs.find? (fun b=>J9 b u)=none) (by simp) (fun k x s hx hI=>?_) (fun s hI=>by rw [hI,List.drop_length];rfl)) (fun r hr=>.some ?_) (fun s hs=>.some (by rw [hs]))
 ·simp only []
  rw [Z5u]
  simp only [U0]
  rw [Q9k hx] at hI
  refine Ret.ite (fun hc=>.some ?_) (fun hc=>.some ?_)
  ·rw [if_pos hc] at hI
   exact ⟨k,x,rfl,hx,hI⟩
  ·rw [if_neg (by simp [hc])] at hI
   exact hI
 ·obtain ⟨i,b,rfl,h1,h2⟩:=hr
  rw [h2]
  exact ⟨i,rfl,h1⟩
theorem Z77 (bs:List Q9)(u:Z2):Ret (Q3r bs u) (fun r=>match bs.find? (fun b=>J9 b u) with
  | none=>r.2=false
  | some b=>r=(b.tree,true)):=by
 unfold Q3r
 refine Ret.ctl (Z5 bs (fun k _=>bs.find? (fun b=>J9 b u)=(bs.drop k).find? (fun b=>J9 b u)) (fun r=>∃ b:Q9,r=(b.tree,true)∧bs.find? (fun b=>J9 b u)=some b) (fun _=>bs.find? (fun b=>J9 b u)=none) (by simp) (fun k x s hx hI=>?_) (fun s hI=>by rw [hI,List.drop_length];rfl)) (fun r hr=>.some ?_) (fun s hs=>.some (by rw [hs]))
 ·rw [Q9k hx] at hI
  by_cases h1:x.ctor=u.ctor
  ·rw [if_pos (by rw [Z3];exact h1)]
   by_cases h2:u.ctor = -1
   ·rw [if_neg (by rw [Bool.not_eq_true,Bool.not_eq_false',Z3];exact h2)]
    by_cases h3:x.n≤u.n
    ·rw [if_pos (by rw [Q0s];exact h3)]
     by_cases h4:u.n≤x.m
     ·rw [if_pos (by rw [Q0s];exact h4)]
      rw [if_pos (by simp [J9,h1,h3,h4])] at hI
      exact .some ⟨x,rfl,hI⟩
     ·rw [if_neg (by rw [Q0s];exact h4)]
      rw [if_neg (by simp [J9,h1,h2,h4])] at hI
      exact .some hI
    ·rw [if_neg (by rw [Q0s];exact h3)]
     rw [if_neg (by simp [J9,h1,h2,h3])] at hI
     exact .some hI
   ·rw [if_pos (by rw [Bool.not_eq_true',X0];exact h2)]
    rw [if_pos (by simp [J9,h1,h2])] at hI
    exact .some ⟨x,rfl,hI⟩
  ·rw [if_neg (by rw [Z3];exact h1)]
   rw [if_neg (by simp [J9,h1])] at hI
   exact .some hI
 ·obtain ⟨b,rfl,h2⟩:=hr
  rw [h2]
theorem Z3t {σ ρ:Type}{f:σ→Option (Ctl ρ σ)}{s s':σ}{n:Nat}(h:f s=some (.go s')):whileL f (n+1) s=whileL f n s':=by
 rw [whileL,h]
theorem Q2s {σ ρ:Type}{f:σ→Option (Ctl ρ σ)}{s:σ}{r:ρ}{n:Nat}(h:f s=some (.ret r)):whileL f (n+1) s=some (.ret r):=by
 rw [whileL,h]
theorem X4u {σ ρ:Type}{f:σ→Option (Ctl ρ σ)}{s s':σ}{n:Nat}(h:f s=some (.brk s')):whileL f (n+1) s=some (.brk s'):=by
 rw [whileL,h]
def opT:Nat→X7→Prop
 | 0,_=>False
 | d+1,t=>(t.op=0∨t.op=1∨t.op=2)∧∀ x∈Q84 t,opT d x
theorem X4m {P:Q9→X7→Prop} : ∀ {bs xs:List Q9},brsR P bs xs→∀ x∈xs,∃ b∈bs,P b x.tree
 | [],[],_,x,hx=>by cases hx
 | [],_::_,e,_,_=>e.elim
 | _::_,[],e,_,_=>e.elim
 | b::bs,y::ys,⟨⟨_,_,_,e4⟩,e5⟩,x,hx=>by
  rcases U8.1 hx with rfl | hx
  ·exact ⟨b,by simp,e4⟩
  ·obtain ⟨b',h1,h2⟩:=X4m e5 x hx
   exact ⟨b',by simp [h1],h2⟩
theorem W23 {w:List Q3}{lst:List Z0}{pick:Int} : ∀ (d:Nat) (t:X7) (rows:List Grow) (cols:List Z6),Q8t w lst pick d t rows cols→opT d t:=by
 intro d
 induction d with
 | zero=>intro t rows cols h;exact h.elim
 | succ d ih=>
  intro t rows cols h
  cases rows with
  | nil=>
   simp only [Q8t] at h
   subst h
   exact ⟨.inl rfl,fun x hx=>by simp [Q84,zT] at hx⟩
  | cons r0 rest=>
   simp only [Q8t] at h
   cases hp:Q88 w (r0::rest) cols pick with
   | none=>
    rw [hp] at h
    simp only at h
    obtain ⟨h1,h2,h3,h4,h5,cl,h6,h7⟩:=h
    refine ⟨.inr (.inl h1),fun x hx=>?_⟩
    unfold Q84 at hx
    rw [h5] at hx
    rcases h7 with ⟨_,h7⟩ | ⟨_,el,h8,h9⟩
    ·simp [h7] at hx
    ·simp only [h8,List.map_nil,List.nil_append,List.mem_singleton] at hx
     subst hx
     exact ih _ _ _ h9
   | some k=>
    rw [hp] at h
    simp only at h
    obtain ⟨col,h1,h2,h3,h4,h5,h6,h7⟩:=h
    refine ⟨.inr (.inr h2),fun x hx=>?_⟩
    unfold Q84 at hx
    rw [h6,List.append_nil,U10] at hx
    obtain ⟨b,hb,rfl⟩:=hx
    obtain ⟨b',_,hb'⟩:=X4m h7 b hb
    exact ih _ _ _ hb'
theorem X00 {v u:Z2}{path:List Int}(h:Q58 v path=some u):Ret (Q50 v path) (fun r=>r.2=decide (u.ctor≠-2)∧(r.2=true→r.1=u)):=by
 unfold Q50
 refine Ret.ctl (Z5 path (fun k s=>Q58 s (path.drop k)=some u) (fun r=>r.2=false∧u.ctor = -2) (fun s=>s=u) (by simpa using h) (fun k x s hx hI=>?_) (fun s hI=>by rw [List.drop_length,Q58] at hI;exact Option.some.inj hI)) (fun r hr=>.some ⟨by rw [hr.1];simp [hr.2],fun h=>by rw [hr.1] at h;cases h⟩) (fun s hs=>.some ?_)
 ·rw [Z8d hx,Q58] at hI
  refine Ret.ite (fun hc=>.some ?_) (fun hc=>?_)
  ·rw [Z3] at hc
   rw [if_pos hc] at hI
   cases hI
   exact ⟨rfl,hc⟩
  ·rw [X0] at hc
   rw [if_neg hc,U12] at hI
   obtain ⟨y,hy,hI⟩:=hI
   rw [hy]
   exact .some hI
 ·rw [hs]
  refine ⟨?_,fun _=>rfl⟩
  by_cases hc:u.ctor = -2
  ·simp [ieq,hc]
  ·simp [ieq,hc]
theorem Z17 {v u:Z2}{path:List Int}(h:Q58 v path=some u):Q3v v path=some u:=by
 suffices hs:Ret (Q3v v path) (fun r=>r=u) by
  obtain ⟨a,e,rfl⟩:=hs
  exact e
 unfold Q3v
 refine Ret.ctl (Z5 path (fun k s=>Q58 s (path.drop k)=some u) (fun _=>False) (fun s=>s=u) (by simpa using h) (fun k x s hx hI=>?_) (fun s hI=>by rw [List.drop_length,Q58] at hI;exact Option.some.inj hI)) (fun r hr=>hr.elim) (fun s hs=>.some hs)
 rw [Z8d hx,Q58] at hI
 refine Ret.ite (fun hc=>?_) (fun hc=>.some ?_)
 ·rw [Bool.not_eq_true',X0] at hc
  rw [if_neg hc,U12] at hI
  obtain ⟨y,hy,hI⟩:=hI
  rw [hy]
  exact .some hI
 ·rw [Bool.not_eq_false',Z3] at hc
  rw [if_pos hc] at hI
  exact Option.some.inj hI
theorem Z2b {bs:List Q1}{x:Int}{b:Q1}(h:bs.find? (fun b=>decide (b.var=x))=some b):Q5k bs x=some b.path:=by
 have hk:Ret (Q08 bs (fun a0=>Q3y a0 x)) (fun k=>∃ i:Nat,k=(i:Int)∧bs[i]?=some b):=by
  unfold Q08
  refine Ret.ctl (Z5 bs (fun k _=>bs.find? (fun b=>decide (b.var=x))=(bs.drop k).find? (fun b=>decide (b.var=x))) (fun r=>∃ (i:Nat) (y:Q1),r=(i:Int)∧bs[i]?=some y∧bs.find? (fun b=>decide (b.var=x))=some y) (fun _=>bs.find? (fun b=>decide (b.var=x))=none) (by simp) (fun k y s hy hI=>?_) (fun s hI=>by rw [hI,List.drop_length];rfl)) (fun r hr=>.some ?_) (fun s hs=>by rw [h] at hs;cases hs)
  ·have e1:Q3y y x=some (ieq y.var x):=rfl
   simp only []
   rw [e1]
   simp only [U0]
   rw [Q9k hy] at hI
   refine Ret.ite (fun hc=>.some ?_) (fun hc=>.some ?_)
   ·rw [Z3] at hc
    rw [if_pos (by simpa using hc)] at hI
    exact ⟨k,y,rfl,hy,hI⟩
   ·rw [X0] at hc
    rw [if_neg (by simpa using hc)] at hI
    exact hI
  ·obtain ⟨i,y,e1,e2,e3⟩:=hr
   rw [h] at e3
   cases e3
   exact ⟨i,e1,e2⟩
 obtain ⟨k,hk,i,rfl,hi⟩:=hk
 unfold Q5k
 rw [hk]
 simp only [U0]
 rw [Q2r hi]
 rfl
theorem X55 {g:Q20}(h0:g.op=0)(bs:List Q1):Q0p g bs=some ([],false):=by
 suffices hs:Ret (Q0p g bs) (fun r=>r=([],false)) by
  obtain ⟨a,e,rfl⟩:=hs
  exact e
 unfold Q0p
 refine Ret.ctl (Z5 bs (fun _ _=>True) (fun _=>False) (fun _=>True) trivial (fun k y s hy _=>?_) (fun _ _=>trivial)) (fun r hr=>hr.elim) (fun s _=>.some rfl)
 rw [if_neg (by rw [Bool.not_eq_true,Bool.not_eq_false',Z3];exact h0)]
 exact .some trivial
theorem Z6j {g:Q20}(h0:g.op≠0){bs:List Q1}{b:Q1}(h:bs.find? (fun b=>decide (b.var=g.var))=some b):Q0p g bs=some (b.path,true):=by
 suffices hs:Ret (Q0p g bs) (fun r=>r=(b.path,true)) by
  obtain ⟨a,e,rfl⟩:=hs
  exact e
 unfold Q0p
 refine Ret.ctl (Z5 bs (fun k _=>bs.find? (fun b=>decide (b.var=g.var))=(bs.drop k).find? (fun b=>decide (b.var=g.var))) (fun r=>r=(b.path,true)) (fun _=>bs.find? (fun b=>decide (b.var=g.var))=none) (by simp) (fun k y s hy hI=>?_) (fun s hI=>by rw [hI,List.drop_length];rfl)) (fun r hr=>.some hr) (fun s hs=>by rw [h] at hs;cases hs)
 rw [if_pos (by rw [Bool.not_eq_true',X0];exact h0)]
 rw [Q9k hy] at hI
 refine Ret.ite (fun hc=>.some ?_) (fun hc=>.some ?_)
 ·rw [Z3] at hc
  rw [if_pos (by simpa using hc),h] at hI
  cases hI
  rfl
 ·rw [X0] at hc
  rw [if_neg (by simpa using hc)] at hI
  exact hI
theorem X7y {g:Q20}(h0:g.op≠0){u:Z2}(hu:u.ctor = -1):Q3u g u.n=some (Z2z g [⟨g.var,u⟩]):=by
 unfold Q3u Z2z
 simp only [List.find?_cons,decide_true,hu]
 by_cases h1:g.op=1
 ·rw [if_pos (by rw [Z3];exact h1)]
  by_cases h2:u.n<g.n
  ·rw [if_pos (by rw [X2];exact h2)]
   simp [h1,h2]
  ·rw [if_neg (by rw [X2];exact h2),if_neg (by rw [Z3];omega)]
   simp [h1,h2]
 ·rw [if_neg (by rw [Z3];exact h1)]
  by_cases h2:g.op=2
  ·rw [if_pos (by rw [Z3];exact h2)]
   simp [h2,ieq]
  ·rw [if_neg (by rw [Z3];exact h2)]
   simp [h0,h1,h2]
theorem Z9y {lst:List Z0}{v:Z2}{used:List Int→Option Unit}(hus:∀ p,used p=some ()){t:X7}{r:Int×List Int×Bool×List (List Int)}(hd:Z08 300 t)(h:runP 300 t lst v=some r):Q4k NN t lst v used=some (r.1,r.2.1,!r.2.2.1):=by
 unfold Q4k
 generalize hf:(fun (s:X7)=>_:X7→Option (Ctl (Int×List Int×Bool) X7))=f
 have key:∀ (d n:Nat) (t:X7) (r:Int×List Int×Bool×List (List Int)),Z08 d t→runP d t lst v=some r→d≤n→whileL f n t=some (.ret (r.1,r.2.1,!r.2.2.1)):=by
  intro d
  induction d with
  | zero=>intro n t r h;exact h.elim
  | succ d ih=>
   intro n t r hd h hn
   obtain ⟨n,rfl⟩:∃ j,n=j+1:=⟨n-1,by omega⟩
   obtain ⟨⟨hd1,hd2,hd3,hd4,hd5⟩,hd6⟩:=hd
   rw [runP] at h
   by_cases h2:t.op=2
   ·rw [if_pos h2,U12] at h
    obtain ⟨u,hu,h⟩:=h
    obtain ⟨q,hq,q1,q2⟩:=X00 hu
    by_cases hh:u.ctor = -2
    ·rw [if_pos hh] at h
     cases h
     refine Q2s ?_
     subst hf
     simp only
     rw [if_pos (by rw [Z3];exact h2),hus]
     simp only [U0]
     rw [hq]
     simp only [U0]
     rw [if_pos (by rw [q1];simp [hh]),Q74 t.path (by simp only [Q4];omega)]
     rfl
    ·rw [if_neg hh] at h
     have hq2:=q2 (by rw [q1];simp [hh])
     have hfun:(fun a0=>Q4r a0 q.1)=(fun a0=>Q4q a0 u):=by rw [hq2];rfl
     obtain ⟨k,hk,hkk⟩:=Z7q t.branches u
     cases hfd:t.branches.find? (fun b=>J9 b u) with
     | none=>
      rw [hfd] at h hkk
      simp only at h hkk
      cases h
      refine Q2s ?_
      subst hf
      simp only
      rw [if_pos (by rw [Z3];exact h2),hus]
      simp only [U0]
      rw [hq]
      simp only [U0]
      rw [if_neg (by rw [q1];simp [hh]),hfun,hk]
      simp only [U0]
      rw [if_pos (by rw [X2];omega)]
      rfl
     | some b=>
      rw [hfd] at h hkk
      simp only [U11] at h
      obtain ⟨i,rfl,hi⟩:=hkk
      obtain ⟨y,hy,rfl⟩:=h
      have hgo:f t=some (.go b.tree):=by
       subst hf
       simp only
       rw [if_pos (by rw [Z3];exact h2),hus]
       simp only [U0]
       rw [hq]
       simp only [U0]
       rw [if_neg (by rw [q1];simp [hh]),hfun,hk]
       simp only [U0]
       rw [if_neg (by rw [X2];omega),Q2r hi]
       rfl
      rw [Z3t hgo]
      exact ih n b.tree y (hd6 _ (List.mem_append_left _ (List.mem_map_of_mem (U1 hi)))) hy (by omega)
   ·rw [if_neg h2] at h
    by_cases h1:t.op=1
    ·rw [if_pos h1,U12] at h
     obtain ⟨c,hc,h⟩:=h
     by_cases hg0:c.guard.op=0
     ·rw [if_pos hg0] at h
      cases h
      refine Q2s ?_
      subst hf
      simp only
      rw [if_neg (by rw [Z3];exact h2),if_pos (by rw [Z3];exact h1),hc]
      simp only [U0]
      rw [if_pos (by rw [Z3];exact hg0)]
      rfl
     ·rw [if_neg hg0] at h
      cases hfd:t.binds.find? (fun b=>decide (b.var=c.guard.var)) with
      | none=>rw [hfd] at h;cases h
      | some b=>
       rw [hfd] at h
       simp only [U12] at h
       obtain ⟨u,hu,h⟩:=h
       obtain ⟨q,hq,q1,q2⟩:=X00 hu
       have hbl:=hd2 b (List.mem_of_find?_eq_some hfd)
       by_cases hh:u.ctor = -2
       ·rw [if_pos hh] at h
        cases h
        refine Q2s ?_
        subst hf
        simp only
        rw [if_neg (by rw [Z3];exact h2),if_pos (by rw [Z3];exact h1),hc]
        simp only [U0]
        rw [if_neg (by rw [Z3];exact hg0),Z2b hfd]
        simp only [U0]
        rw [hus]
        simp only [U0]
        rw [hq]
        simp only [U0]
        rw [if_pos (by rw [q1];simp [hh]),Q74 b.path (by simp only [Q4];omega)]
        rfl
       ·rw [if_neg hh] at h
        have hq2:=q2 (by rw [q1];simp [hh])
        split at h
        ·split at h
         ·rename_i hg
          cases h
          refine Q2s ?_
          subst hf
          simp only
          rw [if_neg (by rw [Z3];exact h2),if_pos (by rw [Z3];exact h1),hc]
          simp only [U0]
          rw [if_neg (by rw [Z3];exact hg0),Z2b hfd]
          simp only [U0]
          rw [hus]
          simp only [U0]
          rw [hq]
          simp only [U0]
          rw [if_neg (by rw [q1];simp [hh]),Z1n,hq2]
          simp only [U0]
          rw [if_pos hg]
          rfl
         ·rename_i hg
          cases hel:t.else_ with
          | nil=>rw [hel] at h;cases h
          | cons el rest=>
           rw [hel] at h
           simp only [U11] at h
           obtain ⟨y,hy,rfl⟩:=h
           have hgo:f t=some (.go el):=by
            subst hf
            simp only
            rw [if_neg (by rw [Z3];exact h2),if_pos (by rw [Z3];exact h1),hc]
            simp only [U0]
            rw [if_neg (by rw [Z3];exact hg0),Z2b hfd]
            simp only [U0]
            rw [hus]
            simp only [U0]
            rw [hq]
            simp only [U0]
            rw [if_neg (by rw [q1];simp [hh]),Z1n,hq2]
            simp only [U0]
            rw [if_neg hg,hel]
            rfl
           rw [Z3t hgo]
           exact ih n el y (hd6 _ (List.mem_append_right _ (by rw [hel];simp))) hy (by omega)
        ·cases h
    ·rw [if_neg h1] at h
     cases h
     refine Q2s ?_
     subst hf
     simp only
     rw [if_neg (by rw [Z3];exact h2),if_neg (by rw [Z3];exact h1)]
     rfl
 rw [key 300 NN t r hd h (by decide)]
 rfl
theorem Z97 {lst:List Z0}{v:Z2}{t:X7}{r:Int×List Int×Bool×List (List Int)}(hd:Z08 300 t)(ho:opT 300 t)(h:runP 300 t lst v=some r):Q5h NN lst t v=some r:=by
 unfold Q5h
 generalize hf:(fun (s:X7×List (List Int))=>_:X7×List (List Int)→Option (Ctl (Int×List Int×Bool×List (List Int)) (X7×List (List Int))))=f
 have key:∀ (d n:Nat) (t:X7) (us:List (List Int)) (r:Int×List Int×Bool×List (List Int)),Z08 d t→opT d t→runP d t lst v=some r→d≤n→us.length+d≤300→(whileL f n (t,us)=some (.ret (r.1,r.2.1,r.2.2.1,us++r.2.2.2)))∨(r.1 = -1∧r.2.1=[]∧r.2.2.1=false∧∃ t',whileL f n (t,us)=some (.brk (t',us++r.2.2.2))):=by
  intro d
  induction d with
  | zero=>intro n t us r h;exact h.elim
  | succ d ih=>
   intro n t us r hd ho h hn hl
   obtain ⟨n,rfl⟩:∃ j,n=j+1:=⟨n-1,by omega⟩
   obtain ⟨⟨hd1,hd2,hd3,hd4,hd5⟩,hd6⟩:=hd
   obtain ⟨ho1,ho2⟩:=ho
   have hap:∀ p:List Int,app us [p]=some (us++[p]):=fun p=>W4 (by simp only [U3,U4,Q4];omega)
   have nxt:∀ (x:X7) (p:List Int) (y:Int×List Int×Bool×List (List Int)),x∈Q84 t→f (t,us)=some (.go (x,us++[p]))→runP d x lst v=some y→r=(y.1,y.2.1,y.2.2.1,p::y.2.2.2)→(whileL f (n+1) (t,us)=some (.ret (r.1,r.2.1,r.2.2.1,us++r.2.2.2)))∨(r.1 = -1∧r.2.1=[]∧r.2.2.1=false∧∃ t',whileL f (n+1) (t,us)=some (.brk (t',us++r.2.2.2))):=fun x p y hx hgo hy e=>by
    rw [Z3t hgo]
    subst e
    have e2:us++p::y.2.2.2=(us++[p])++y.2.2.2:=by simp
    simp only
    rw [e2]
    exact ih n x (us++[p]) y (hd6 x hx) (ho2 x hx) hy (by omega) (by simp only [U5,U3,U4];omega)
   rw [runP] at h
   by_cases h2:t.op=2
   ·rw [if_pos h2,U12] at h
    obtain ⟨u,hu,h⟩:=h
    by_cases hh:u.ctor = -2
    ·rw [if_pos hh] at h
     cases h
     refine .inl (Q2s ?_)
     subst hf
     simp only
     rw [if_pos (by rw [Bool.not_eq_true',X0];omega),if_pos (by rw [Z3];exact h2),Z17 hu]
     simp only [U0]
     rw [if_pos (by rw [Z3];exact hh)]
     simp
    ·rw [if_neg hh] at h
     obtain ⟨q,hq,hqq⟩:=Z77 t.branches u
     cases hfd:t.branches.find? (fun b=>J9 b u) with
     | none=>
      rw [hfd] at h hqq
      simp only at h hqq
      cases h
      refine .inl (Q2s ?_)
      subst hf
      simp only
      rw [if_pos (by rw [Bool.not_eq_true',X0];omega),if_pos (by rw [Z3];exact h2),Z17 hu]
      simp only [U0]
      rw [if_neg (by rw [Z3];exact hh),hap]
      simp only [U0]
      rw [hq]
      simp only [U0]
      rw [if_pos (by rw [hqq];rfl)]
     | some b=>
      rw [hfd] at h hqq
      simp only [U11] at h hqq
      obtain ⟨y,hy,e⟩:=h
      refine nxt b.tree t.path y (List.mem_append_left _ (List.mem_map_of_mem (List.mem_of_find?_eq_some hfd))) ?_ hy e.symm
      subst hf
      simp only
      rw [if_pos (by rw [Bool.not_eq_true',X0];omega),if_pos (by rw [Z3];exact h2),Z17 hu]
      simp only [U0]
      rw [if_neg (by rw [Z3];exact hh),hap]
      simp only [U0]
      rw [hq,hqq]
      simp only [U0]
      rw [if_neg (by simp)]
   ·rw [if_neg h2] at h
    by_cases h1:t.op=1
    ·rw [if_pos h1,U12] at h
     obtain ⟨c,hc,h⟩:=h
     by_cases hg0:c.guard.op=0
     ·rw [if_pos hg0] at h
      cases h
      refine .inl (Q2s ?_)
      subst hf
      simp only
      rw [if_pos (by rw [Bool.not_eq_true',X0];omega),if_neg (by rw [Z3];exact h2),hc]
      simp only [U0]
      rw [X55 hg0]
      simp
     ·rw [if_neg hg0] at h
      cases hfd:t.binds.find? (fun b=>decide (b.var=c.guard.var)) with
      | none=>rw [hfd] at h;cases h
      | some b=>
       rw [hfd] at h
       simp only [U12] at h
       obtain ⟨u,hu,h⟩:=h
       by_cases hh:u.ctor = -2
       ·rw [if_pos hh] at h
        cases h
        refine .inl (Q2s ?_)
        subst hf
        simp only
        rw [if_pos (by rw [Bool.not_eq_true',X0];omega),if_neg (by rw [Z3];exact h2),hc]
        simp only [U0]
        rw [Z6j hg0 hfd]
        simp only [U0,Bool.not_true,U2,if_false]
        rw [Z17 hu]
        simp only [U0]
        rw [if_pos (by rw [Z3];exact hh)]
        simp
       ·rw [if_neg hh] at h
        split at h
        ·rename_i hu1
         have hst:∀ (z:Bool),Z2z c.guard [⟨c.guard.var,u⟩]=z→f (t,us)=if z=true then some (.ret (t.clause,[],false,us++[b.path])) else (idx t.else_ 0).bind fun x=>some (.go (x,us++[b.path])):=fun z hz=>by
          subst hf
          simp only
          rw [if_pos (by rw [Bool.not_eq_true',X0];omega),if_neg (by rw [Z3];exact h2),hc]
          simp only [U0]
          rw [Z6j hg0 hfd]
          simp only [U0,Bool.not_true,U2,if_false]
          rw [Z17 hu]
          simp only [U0]
          rw [if_neg (by rw [Z3];exact hh),hap]
          simp only [U0]
          rw [X7y hg0 hu1,hz]
          simp only [U0]
         split at h
         ·rename_i hg
          cases h
          refine .inl (Q2s ?_)
          rw [hst true hg]
          simp
         ·rename_i hg
          cases hel:t.else_ with
          | nil=>rw [hel] at h;cases h
          | cons el rest=>
           rw [hel] at h
           simp only [U11] at h
           obtain ⟨y,hy,e⟩:=h
           refine nxt el b.path y (List.mem_append_right _ (by rw [hel];simp)) ?_ hy e.symm
           rw [hst false (by simpa using hg),hel]
           rfl
        ·cases h
    ·rw [if_neg h1] at h
     cases h
     refine .inr ⟨rfl,rfl,rfl,t,X4u ?_⟩
     subst hf
     simp only
     rw [if_neg (by rw [Bool.not_eq_true,Bool.not_eq_false',Z3];omega)]
     simp
 obtain ⟨r1,r2,r3,r4⟩:=r
 rcases key 300 NN t [] _ hd ho h (by decide) (by simp) with h | ⟨rfl,rfl,rfl,t',h⟩
 ·rw [h]
  simp
 ·rw [h]
  simp
def W6s (w:List Q3)(t:Q5)(l:List Z0)(v:Z2)(tr:X7)(ok:Bool)(r:Int×List Int×Bool):Prop:=
 (r=(-1,[],false)∧¬(ok=true∧Z09 w t v=true))∨(ok=true∧Z09 w t v=true∧∃ q,runP 300 tr l v=some q∧r=(q.1,q.2.1,!q.2.2.1))
theorem X84 {lst:List Z0}{v:Z2} : ∀ (d:Nat) (t:X7) (r:Int×List Int×Bool×List (List Int)),Z08 d t→runP d t lst v=some r→r.2.1.length≤1000:=by
 intro d
 induction d with
 | zero=>intro t r h;exact h.elim
 | succ d ih=>
  intro t r hd hp
  obtain ⟨⟨hd1,hd2,hd3,hd4,hd5⟩,hd6⟩:=hd
  rw [runP] at hp
  have mapc:∀ (x:X7) (f:List (List Int)→List (List Int)),x∈Q84 t→((runP d x lst v).map fun r=>(r.1,r.2.1,r.2.2.1,f r.2.2.2))=some r→r.2.1.length≤1000:=fun x f hx h=>by
   rw [U11] at h
   obtain ⟨y,hy,rfl⟩:=h
   exact ih x y (hd6 x hx) hy
  by_cases h2:t.op=2
  ·rw [if_pos h2,U12] at hp
   obtain ⟨u,hu,hp⟩:=hp
   by_cases hh:u.ctor = -2
   ·rw [if_pos hh] at hp
    cases hp
    exact hd3
   ·rw [if_neg hh] at hp
    cases hf:t.branches.find? (fun b=>J9 b u) with
    | none=>rw [hf] at hp;cases hp;simp
    | some b=>
     rw [hf] at hp
     exact mapc b.tree (t.path::·) (List.mem_append_left _ (List.mem_map_of_mem (List.mem_of_find?_eq_some hf))) hp
  ·rw [if_neg h2] at hp
   by_cases h1:t.op=1
   ·rw [if_pos h1,U12] at hp
    obtain ⟨c,hc,hp⟩:=hp
    by_cases hg0:c.guard.op=0
    ·rw [if_pos hg0] at hp;cases hp;simp
    ·rw [if_neg hg0] at hp
     cases hf:t.binds.find? (fun b=>decide (b.var=c.guard.var)) with
     | none=>rw [hf] at hp;cases hp
     | some b=>
      rw [hf] at hp
      simp only [U12] at hp
      obtain ⟨u,hu,hp⟩:=hp
      by_cases hh:u.ctor = -2
      ·rw [if_pos hh] at hp
       cases hp
       exact hd2 b (List.mem_of_find?_eq_some hf)
      ·rw [if_neg hh] at hp
       split at hp
       ·split at hp
        ·cases hp;simp
        ·cases hel:t.else_ with
         | nil=>rw [hel] at hp;cases hp
         | cons el rest=>
          rw [hel] at hp
          exact mapc el (b.path::·) (List.mem_append_right _ (by rw [hel];simp)) hp
       ·cases hp
   ·rw [if_neg h1] at hp;cases hp;simp
theorem W0j {w:List Q3}(hww:w∈Q32){t:Q5}(ht:t∈tys w){l:List Z0}{pick:Int}{tr:X7}{ok:Bool}(e1:V5 NN w t l pick=some (tr,ok))(e2:Q07 NN w t l pick=some (tr,ok))(hd:Z08 300 tr)(v:Z2) :
  ∃ r,Q30 NN w t l pick v=some r∧Q2v NN w t l pick v=some r∧W6s w t l v tr ok r:=by
 have hw:=ww hww
 unfold Q30 Q2v
 rw [e1,e2]
 simp only [U0]
 cases ok with
 | false=>exact ⟨_,rfl,rfl,.inl ⟨rfl,fun h=>by cases h.1⟩⟩
 | true=>
  simp only [Bool.not_true,U2,if_false]
  rw [Z4i hw ht,X1l hw ht]
  simp only [U0]
  cases hv:Z09 w t v with
  | false=>exact ⟨_,rfl,rfl,.inl ⟨rfl,fun h=>by rw [hv] at h;cases h.2⟩⟩
  | true=>
   simp only [Bool.not_true,U2,if_false]
   obtain ⟨q,hq⟩:=Z9q hww ht e1 (X1g hv)
   have hop:=W23 _ _ _ _ ((Z2m hww ht l pick).tr tr e1)
   have hpl:=X84 300 tr q hd hq
   rw [Z9y (used:=fun a0=>Q3c a0) (fun _=>rfl) hd hq,Z97 hd hop hq]
   simp only [U0]
   rw [W4 (by simp only [U4,Q4];omega)]
   exact ⟨_,rfl,rfl,.inr ⟨rfl,hv,q,hq,rfl⟩⟩
theorem X1v (l:List Int):Q0j l l=some true:=by
 suffices hs:Ret (Q0j l l) (fun a=>a=true) by
  obtain ⟨a,e,rfl⟩:=hs
  exact e
 unfold Q0j
 have e:(!ieq (lenZ l.length) (lenZ l.length))=false:=by simp [ieq]
 simp only [e,U2,if_false]
 refine Ret.ctl (Z5 l (fun _ _=>True) (fun _=>False) (fun _=>True) trivial (fun i x s hi _=>?_) (fun _ _=>trivial)) (fun r hr=>hr.elim) (fun s _=>.some rfl)
 rw [Q2r hi]
 have e:(!ieq x x)=false:=by simp [ieq]
 simp only [U0,e,U2,if_false]
 exact .some trivial
def byt (r:Z7)(i:Nat):Nat:=(r.b.getD i 0).toNat
def pk24 (r:Z7)(p:Nat):Nat:=if r.b.length=0 then 0 else Zed.pkv (byt r) r.b.length p
theorem W68 {a:Nat}(h:a<1099511627776):wxor .i64 (a:Int) ((a / 64:Nat):Int)=((a ^^^ (a / 64):Nat):Int):=by
 have e:(BitVec.ofInt IntKind.i64.bits (a:Int) ^^^ BitVec.ofInt IntKind.i64.bits ((a / 64:Nat):Int)).toNat=a ^^^ (a / 64):=by
  have ha:(BitVec.ofInt IntKind.i64.bits (a:Int)).toNat=a:=by
   rw [BitVec.toNat_ofInt]
   show (((a:Int) % ((2 ^ 64:Nat):Int))).toNat=a
   omega
  have hb:(BitVec.ofInt IntKind.i64.bits ((a / 64:Nat):Int)).toNat=a / 64:=by
   rw [BitVec.toNat_ofInt]
   show ((((a / 64:Nat):Int) % ((2 ^ 64:Nat):Int))).toNat=a / 64
   omega
  rw [BitVec.toNat_xor,ha,hb]
 have hlt:a ^^^ (a / 64)<2 ^ 40:=Nat.xor_lt_two_pow (by omega) (by omega)
 unfold wxor
 rw [e,Z0v (by omega) (by omega)]
theorem V1n {r:Z7}(hb:∀ x∈r.b,0≤x∧x≤255)(hl:r.b.length≤2000){p:Nat}(hp:r.p=(p:Int))(hp2:p≤30000000):Z4 r 24=some (((pk24 r p:Nat):Int),⟨r.b,((p+1:Nat):Int)⟩):=by
 have ep:wadd .i64 r.p 1=((p+1:Nat):Int):=by rw [hp,J3]<;>omega
 have eq:wsub .i64 ((p+1:Nat):Int) 1=(p:Int):=by rw [Q23]<;>omega
 unfold Z4
 rw [ep,eq,if_neg (by rw [X2];omega)]
 unfold pk24
 by_cases h0:r.b.length=0
 ·rw [if_pos (by rw [Z3];simp only [lenZ];omega),if_pos h0]
  rfl
 rw [if_neg (by rw [Z3];simp only [lenZ];omega),if_neg h0]
 have hpos:0<r.b.length:=by omega
 have hk0:chk (!ieq 24 0)=some ():=rfl
 have hb0:chk (!ieq (lenZ r.b.length) 0)=some ():=Z6w (by rw [Bool.not_eq_true',X0];simp only [lenZ];omega)
 have get:∀ i:Nat,i<r.b.length→idx r.b (i:Int)=some ((byt r i:Nat):Int)∧byt r i≤255:=fun i hi=>by
  have h1:r.b[i]?=some r.b[i]:=U9 hi
  obtain ⟨b1,b2⟩:=hb _ (U1 h1)
  have h2:byt r i=r.b[i].toNat:=by unfold byt;rw [List.getD_eq_getElem?_getD,h1];rfl
  rw [Q2r h1,h2]
  exact ⟨by congr 1;omega,by omega⟩
 unfold Zed.pkv
 by_cases hlt:p<r.b.length
 ·rw [if_pos (by rw [X2];simp only [lenZ];omega),if_pos hlt]
  obtain ⟨g1,g2⟩:=get p hlt
  rw [g1,hk0]
  simp only [U0]
  rw [Z6c (by omega) (by omega)]
  congr 2
 ·rw [if_neg (by rw [X2];simp only [lenZ];omega),if_neg hlt,hb0]
  simp only [U0]
  have e7:wmul .i64 (p:Int) 7=((p * 7:Nat):Int):=by rw [Q6o]<;>omega
  have e73:wadd .i64 ((p * 7:Nat):Int) 3=((p * 7+3:Nat):Int):=by rw [J3]<;>omega
  rw [e7,e73]
  have rm:∀ a:Nat,wrem (a:Int) (lenZ r.b.length)=((a % r.b.length:Nat):Int):=fun a=>by
   unfold wrem lenZ
   rw [Int.tmod_eq_emod_of_nonneg (by omega)]
   rfl
  rw [rm,rm]
  obtain ⟨g1,g2⟩:=get (p % r.b.length) (Nat.mod_lt _ hpos)
  obtain ⟨g3,g4⟩:=get ((p * 7+3) % r.b.length) (Nat.mod_lt _ hpos)
  rw [g1,g3,hk0]
  simp only [U0]
  generalize byt r (p % r.b.length)=x at g2 ⊢
  generalize byt r ((p * 7+3) % r.b.length)=y at g4 ⊢
  have f1:wcv .i64 (x:Int)=(x:Int):=Z6c (by omega) (by omega)
  have f2:wcv .i64 (y:Int)=(y:Int):=Z6c (by omega) (by omega)
  have f3:wmul .i64 (x:Int) 131=((x * 131:Nat):Int):=by rw [Q6o]<;>omega
  have f4:wmul .i64 (y:Int) 1117=((y * 1117:Nat):Int):=by rw [Q6o]<;>omega
  have f5:wmul .i64 (p:Int) 29=((p * 29:Nat):Int):=by rw [Q6o]<;>omega
  have hq:p / r.b.length≤p:=Nat.div_le_self _ _
  have f6:wquo .i64 (p:Int) (lenZ r.b.length)=((p / r.b.length:Nat):Int):=by
   have:(p:Int).tdiv (lenZ r.b.length)=((p / r.b.length:Nat):Int):=by
    rw [Int.tdiv_eq_ediv_of_nonneg (by omega)]
    rfl
   generalize p / r.b.length=q at hq this ⊢
   rw [Z73 (by rw [this];omega) (by rw [this];omega),this]
  rw [f1,f2,f3,f4,f5,f6]
  generalize p / r.b.length=q at hq ⊢
  have f7:wmul .i64 (q:Int) 53=((q * 53:Nat):Int):=by rw [Q6o]<;>omega
  have f8:wadd .i64 ((x * 131:Nat):Int) ((y * 1117:Nat):Int)=((x * 131+y * 1117:Nat):Int):=by rw [J3]<;>omega
  have f9:wadd .i64 ((x * 131+y * 1117:Nat):Int) ((p * 29:Nat):Int)=((x * 131+y * 1117+p * 29:Nat):Int):=by rw [J3]<;>omega
  have f10:wadd .i64 ((x * 131+y * 1117+p * 29:Nat):Int) ((q * 53:Nat):Int)=((x * 131+y * 1117+p * 29+q * 53:Nat):Int):=by rw [J3]<;>omega
  rw [f7,f8,f9,f10]
  have hz:x * 131+y * 1117+p * 29+q * 53<1099511627776:=by omega
  generalize x * 131+y * 1117+p * 29+q * 53=z at hz ⊢
  have f11:wquo .i64 (z:Int) 64=((z / 64:Nat):Int):=by
   have:(z:Int).tdiv 64=((z / 64:Nat):Int):=by
    rw [Int.tdiv_eq_ediv_of_nonneg (by omega)]
    rfl
   rw [Z73 (by rw [this];omega) (by rw [this];omega),this]
  rw [f11]
  have f12:wxor .i64 (z:Int) ((z / 64:Nat):Int)=((z ^^^ (z / 64):Nat):Int):=W68 hz
  rw [f12]
  unfold Zed.yv
  have:wrem ((z ^^^ (z / 64):Nat):Int) 24=(((z ^^^ (z / 64)) % 24:Nat):Int):=by
   unfold wrem
   rw [Int.tmod_eq_emod_of_nonneg (by omega)]
   rfl
  rw [this]
def widV (m:Nat):Z2→Prop
 | ⟨_,_,ks⟩=>ks.length≤m∧widVs m ks
where widVs (m:Nat):List Z2→Prop
 | []=>True
 | v::l=>widV m v∧widVs m l
theorem Z8w (m:Nat):∀ l:List Z2,widV.widVs m l↔∀ x∈l,widV m x
 | []=>by simp [widV.widVs]
 | v::l=>by simp only [widV.widVs,U8,forall_eq_or_imp,Z8w m l]
theorem Q9t (m:Nat)(v:Z2):widV m v↔v.kids.length≤m∧∀ x∈v.kids,widV m x:=by
 cases v
 rw [widV,Z8w]
theorem Z0w {m k:Nat}(h:m≤k):∀ v:Z2,widV m v→widV k v
 | ⟨a,b,ks⟩,hv=>by
  rw [Q9t] at hv ⊢
  refine ⟨Nat.le_trans hv.1 h,fun x hx=>?_⟩
  have:=hv.2 x hx
  exact Z0w h x this
termination_by v=>SizeOf.sizeOf v
decreasing_by
 simp_wf
 have:=List.sizeOf_lt_of_mem hx
 simp at this
 omega
theorem X8h {r r':Z7}{k x:Int}(h:Z4 r k=some (x,r'))(hp:r.p≤40000000):r'.p=wadd .i64 r.p 1:=by
 unfold Z4 at h
 split at h
 ·cases h;rfl
 split at h
 ·cases h;rfl
 split at h
 ·simp only [U12,Option.some.injEq,Prod.mk.injEq] at h
  obtain ⟨_,_,_,_,_,rfl⟩:=h
  rfl
 ·simp only [U12,Option.some.injEq,Prod.mk.injEq] at h
  obtain ⟨_,_,_,_,_,_,_,_,_,rfl⟩:=h
  rfl
theorem Z5e:∀ (a b:List Z2),cntV.cntVs (a++b)=cntV.cntVs a+cntV.cntVs b
 | [],b=>by simp [cntV.cntVs]
 | x::a,b=>by
  have:=Z5e a b
  simp only [List.cons_append,cntV.cntVs]
  omega
theorem X0y:∀ (l:List Z2) (k:Nat) (x y:Z2),l[k]?=some x→cntV.cntVs (l.set k y)+cntV x=cntV.cntVs l+cntV y
 | [],k,x,y,h=>by simp at h
 | a::l,0,x,y,h=>by
  simp only [List.getElem?_cons_zero,Option.some.injEq] at h
  subst h
  simp only [List.set_cons_zero,cntV.cntVs]
  omega
 | a::l,k+1,x,y,h=>by
  have:=X0y l k x y (by simpa using h)
  simp only [List.set_cons_succ,cntV.cntVs]
  omega
theorem X20 {b:List Int}(hb:∀ x∈b,0≤x∧x≤255)(hl:b.length≤2000){E:Nat}{V:Nat→Int}(hE:E≤20000000)(hP:Zed.Pot (pk24 ⟨b,0⟩) E V):∀ (k n:Nat) (v:Z2) (p m:Nat) (P:Int),E-p≤k→k<n→m≤100+p→widV m v→1≤P→2 * P≤V p→
  Ret (Q16 n ⟨b,(p:Int)⟩ v) (fun a=>∃ p':Nat,a.2=⟨b,(p':Int)⟩∧p<p'∧p'≤E+2∧2 * (P-1)≤V p'∧widV (m+(p'-p)) a.1∧cntV a.1≤cntV v+(p'-p)):=by
 intro k
 induction k with
 | zero=>
  intro n v p m P hk hn hm hv h1 h2
  have:=hP.fin p (by omega)
  omega
 | succ k ih=>
  intro n v p m P hk hn hm hv h1 h2
  obtain ⟨n,rfl⟩:∃ j,n=j+1:=⟨n-1,by omega⟩
  have hpE:p<E:=by
   rcases Nat.lt_or_ge p E with h | h
   ·exact h
   ·have:=hP.fin p h
    omega
  have hv':=(Q9t m v).1 hv
  have hcv:=Q5v v
  unfold Q16
  rw [W4 (by simp only [U4,Q4];omega)]
  simp only [U0]
  have hpk:=V1n (r:=⟨b,(p:Int)⟩) hb hl rfl (by omega:p≤30000000)
  have hpe:pk24 ⟨b,(p:Int)⟩ p=pk24 ⟨b,0⟩ p:=rfl
  rw [hpe] at hpk
  simp only at hpk
  have hr1:ROk ⟨b,((p+1:Nat):Int)⟩ 1:=⟨hb,hl,by simp only;omega,by simp only;omega⟩
  refine Ret.ctl (R:=fun _=>False) (B:=fun (s:Z7×Int×Int×List Z2)=>∃ p':Nat,s.1=⟨b,(p':Int)⟩∧p<p'∧p'≤E+2∧2 * (P-1)≤V p'∧s.2.2.2.length≤m+(p'-p)∧(∀ x∈s.2.2.2,widV (m+(p'-p)) x)∧1+cntV.cntVs s.2.2.2≤cntV v+(p'-p)) ?_ (fun r hr=>hr.elim) (fun s hs=>?_)
  ·rw [hpk]
   simp only [U0]
   have kidsOk:∀ q:Nat,v.kids.length≤m+q∧∀ x∈v.kids,widV (m+q) x:=fun q=>⟨by omega,fun x hx=>Z0w (by omega) x (hv'.2 x hx)⟩
   have skip:pk24 ⟨b,0⟩ p≤1→∀ (a:Int×Z7),Nx ⟨b,((p+1:Nat):Int)⟩ a.2 1→a.2.p=((p+2:Nat):Int)→a.2=⟨b,((p+2:Nat):Int)⟩∧2 * (P-1)≤V (p+2):=fun h a hn hp2=>by
    have:=hP.skip p hpE h
    refine ⟨?_,by omega⟩
    cases a with
    | mk x r=>
     cases r with
     | mk bb pp=>
      have e1:bb=b:=hn.b
      simp only at hp2
      rw [e1,hp2]
   have num2:∀ l:List Int,1≤l.length→l.length≤1000→Ret (X1 ⟨b,((p+1:Nat):Int)⟩ l) (fun a=>Nx ⟨b,((p+1:Nat):Int)⟩ a.2 1∧a.2.p=((p+2:Nat):Int)):=fun l hl1 hl2=>by
    obtain ⟨a,e,_,hn⟩:=Q7u hr1 l hl1 hl2
    refine ⟨a,e,hn,?_⟩
    unfold X1 at e
    cases hpick:Z4 ⟨b,((p+1:Nat):Int)⟩ (lenZ l.length) with
    | none=>rw [hpick] at e;cases e
    | some q=>
     rw [hpick] at e
     simp only [U0] at e
     cases hi:idx l q.1 with
     | none=>rw [hi] at e;cases e
     | some y=>
      rw [hi] at e
      simp only [U0,Option.some.injEq] at e
      subst e
      simp only
      have:=X8h hpick (by simp only;omega)
      rw [this]
      show wadd .i64 ((p+1:Nat):Int) 1=_
      rw [J3 (by omega) (by omega)]
      omega
   refine Ret.ite (fun h0=>?_) (fun h0=>?_)
   ·rw [Z3] at h0
    refine Ret.bind (num2 _ (by simp) (by simp)) (fun a ha=>.some ?_)
    obtain ⟨e1,e2⟩:=skip (by omega) a ha.1 ha.2
    exact ⟨p+2,e1,by omega,by omega,e2,(kidsOk _).1,(kidsOk _).2,by simp only;omega⟩
   rw [X0] at h0
   refine Ret.ite (fun h1'=>?_) (fun h1'=>?_)
   ·rw [Z3] at h1'
    refine Ret.bind (num2 _ (by simp) (by simp)) (fun a ha=>.some ?_)
    obtain ⟨e1,e2⟩:=skip (by omega) a ha.1 ha.2
    exact ⟨p+2,e1,by omega,by omega,e2,(kidsOk _).1,(kidsOk _).2,by simp only;omega⟩
   rw [X0] at h1'
   refine Ret.ite (fun h2'=>?_) (fun h2'=>?_)
   ·rw [Z3] at h2'
    have hot:=hP.other p hpE (by omega) (by omega)
    rw [W4 (by simp only [U3,U4,Q4];omega)]
    refine .some ⟨p+1,rfl,by omega,by omega,by omega,by simp only [U5,U3,U4];omega,fun x hx=>?_,?_⟩
    ·rcases List.mem_append.1 hx with hx | hx
     ·exact (kidsOk _).2 x hx
     ·simp only [List.mem_singleton] at hx
      rw [hx,Q9t]
      exact ⟨by simp,fun y hy=>by cases hy⟩
    ·have e1:=Z5e v.kids [Z2.mk (-1) 0 []]
     have e2:cntV.cntVs [Z2.mk (-1) 0 []]=1:=by simp [cntV.cntVs,Q5v]
     simp only at e1 ⊢
     omega
   rw [X0] at h2'
   refine Ret.ite (fun h3=>?_) (fun h3=>?_)
   ·rw [Z3] at h3
    have hth:=hP.three p hpE (by omega)
    refine Ret.ite (fun h4=>?_) (fun h4=>?_)
    ·rw [X2] at h4
     simp only [lenZ] at h4
     obtain ⟨x,hx,hxm⟩:=Q40 (xs:=v.kids) (i:=0) (by omega) (by omega)
     rw [hx]
     simp only [U0]
     refine Ret.bind (ih n x (p+1) m (P+1) (by omega) (by omega) (by omega) (hv'.2 x hxm) (by omega) (by omega)) (fun a ha=>?_)
     obtain ⟨p1,e1,e2,e3,e4,e5,e6⟩:=ha
     rw [e1]
     refine Ret.bind (ih n a.1 p1 (m+(p1-(p+1))) P (by omega) (by omega) (by omega) e5 h1 (by omega)) (fun c hc=>?_)
     obtain ⟨p2,g1,g2,g3,g4,g5,g6⟩:=hc
     have hset:setI v.kids 0 c.1=some (v.kids.set 0 c.1):=by
      unfold setI
      rw [if_pos ⟨by omega,by show 0<v.kids.length;omega⟩]
      rfl
     rw [hset]
     simp only [U0]
     refine .some ⟨p2,g1,by omega,g3,g4,by simp only [List.length_set];omega,fun y hy=>?_,?_⟩
     ·rcases List.mem_or_eq_of_mem_set hy with hy | rfl
      ·exact (kidsOk _).2 y hy
      ·exact Z0w (by omega) _ g5
     ·have hx0:v.kids[0]?=some x:=by
       unfold idx at hx
       split at hx
       ·exact hx
       ·cases hx
      have e7:=X0y v.kids 0 x c.1 hx0
      simp only at e7 ⊢
      omega
    ·exact .some ⟨p+1,rfl,by omega,by omega,by omega,(kidsOk _).1,(kidsOk _).2,by simp only;omega⟩
   ·rw [X0] at h3
    have hot:=hP.other p hpE (by omega) (by omega)
    exact .some ⟨p+1,rfl,by omega,by omega,by omega,(kidsOk _).1,(kidsOk _).2,by simp only;omega⟩
  ·obtain ⟨p',e1,e2,e3,e4,e5,e6,e7⟩:=hs
   exact .some ⟨p',e1,e2,e3,e4,(Q9t _ _).2 ⟨e5,e6⟩,by rw [Q5v];exact e7⟩
theorem X21 {r:Z7}(hr:ROk r 1)(hp:r.p≤5000){v:Z2}(hv:widV 100 v):Ret (Q16 NN r v) (fun a=>Nx r a.2 20000010∧cntV a.1≤cntV v+20000010):=by
 obtain ⟨b,p⟩:=r
 obtain ⟨h1,h2,h3,h4⟩:=hr
 simp only at h1 h2 h3 h4 hp
 obtain ⟨p,rfl⟩:=Int.eq_ofNat_of_zero_le h3
 have hex:∃ E V,Zed.Pot (pk24 ⟨b,0⟩) E V∧2≤V p∧E≤20000000:=by
  by_cases hb:b.length=0
  ·obtain ⟨E,V,g1,g2,g3⟩:=Zed.pot0 p
   refine ⟨E,V,?_,g2,by omega⟩
   have:pk24 ⟨b,0⟩=fun _=>0:=by
    funext q
    unfold pk24
    rw [if_pos hb]
   rw [this]
   exact g1
  ·obtain ⟨E,V,g1,g2,g3⟩:=Zed.pot (byt ⟨b,0⟩) (fun i=>by
    unfold byt
    simp only
    rw [List.getD_eq_getElem?_getD]
    cases hi:b[i]? with
    | none=>simp
    | some x=>
     have:=h1 x (U1 hi)
     simp only [Option.getD_some]
     omega) (L:=b.length) (p0:=p) (by omega) h2 (by omega)
   refine ⟨E,V,?_,g2,g3⟩
   have:pk24 ⟨b,0⟩=Zed.pkv (byt ⟨b,0⟩) b.length:=by
    funext q
    unfold pk24
    rw [if_neg hb]
   rw [this]
   exact g1
 obtain ⟨E,V,g1,g2,g3⟩:=hex
 refine Ret.mono ?_ (X20 h1 h2 g3 g1 (E-p) NN v p (100+p) 1 (Nat.le_refl _) (by simp only [NN];omega) (Nat.le_refl _) (Z0w (by omega) v hv) (by omega) (by omega))
 rintro a ⟨p',e1,e2,e3,_,_,e6⟩
 rw [e1]
 refine ⟨⟨rfl,?_,?_⟩,by omega⟩
 ·show ((p:Nat):Int)≤((p':Nat):Int)
  omega
 ·show ((p':Nat):Int)≤((p:Nat):Int)+((20000010:Nat):Int)
  omega
def Par {α:Type}(x:Option α)(Q:α→Prop):Prop:=∀ a,x=some a→Q a
theorem Par.some {α:Type}{a:α}{Q:α→Prop}(h:Q a):Par (some a) Q:=fun b e=>by cases e;exact h
theorem Par.none {α:Type}{Q:α→Prop} : Par (none:Option α) Q:=fun b e=>by cases e
theorem Par.bind {α β:Type}{x:Option α}{f:α→Option β}{P:α→Prop}{Q:β→Prop}(hx:Par x P)(hf:∀ a,P a→Par (f a) Q):Par (x.bind f) Q:=fun b e=>by
 cases hx':x with
 | none=>rw [hx'] at e;cases e
 | some a=>rw [hx'] at e;exact hf a (hx a hx') b e
theorem Par.any {α β:Type}{x:Option α}{f:α→Option β}{Q:β→Prop}(hf:∀ a,Par (f a) Q):Par (x.bind f) Q:=Par.bind (P:=fun _=>True) (fun _ _=>trivial) fun a _=>hf a
theorem Par.ite {α:Type}{b:Bool}{x y:Option α}{Q:α→Prop}(h1:b=true→Par x Q)(h2:b=false→Par y Q):Par (if b=true then x else y) Q:=by
 cases b with
 | true=>exact h1 rfl
 | false=>exact h2 rfl
theorem Par.mono {α:Type}{x:Option α}{P Q:α→Prop}(h:∀ a,P a→Q a)(hx:Par x P):Par x Q:=fun a e=>h a (hx a e)
theorem Par.ctl {ρ σ τ:Type}{x:Option (Ctl ρ σ)}{g:Ctl ρ σ→Option τ}{R:ρ→Prop}{B:σ→Prop}{Q:τ→Prop}(h:Par x (CtlQ R B))(hr:∀ r,R r→Par (g (.ret r)) Q)(hb:∀ s,B s→Par (g (.brk s)) Q):Par (x.bind g) Q:=
 Par.bind h fun a ha=>by
  cases a with
  | ret r=>exact hr r ha
  | brk s=>exact hb s ha
  | go s=>exact ha.elim
theorem Z86 {α σ ρ:Type}{f:Nat→α→σ→Option (Ctl ρ σ)}(I:Nat→σ→Prop)(R:ρ→Prop)(B:σ→Prop):∀ (xs:List α) (i:Nat) (s0:σ),I i s0→(∀ k x s,x∈xs→I k s→Par (f k x s) (RndQ R B (I (k+1))))→(∀ s,I (i+xs.length) s→B s)→Par (forL f i xs s0) (CtlQ R B)
 | [],i,s0,h0,_,hb=>by
  unfold forL
  exact .some (hb s0 (by simpa using h0))
 | x::xs,i,s0,h0,st,hb=>by
  unfold forL
  have h1:=st i x s0 (by simp) h0
  intro a e
  cases hf:f i x s0 with
  | none=>rw [hf] at e;cases e
  | some o=>
   rw [hf] at e
   have h2:=h1 o hf
   cases o with
   | ret r=>cases e;exact h2
   | brk s=>cases e;exact h2
   | go s=>exact Z86 I R B xs (i+1) s h2 (fun k y s hy=>st k y s (by simp [hy])) (fun s hs=>hb s (by simpa [Nat.add_assoc,Nat.add_comm 1] using hs)) a e
theorem Ret.both {α:Type}{x:Option α}{P Q:α→Prop}(h:Ret x P)(k:Par x Q):Ret x (fun a=>P a∧Q a):=by
 obtain ⟨a,e,hp⟩:=h
 exact ⟨a,e,hp,k a e⟩
theorem W0m {α:Type}(xs ys:List α):Par (app xs ys) (fun z=>z=xs++ys):=fun z hz=>by
 unfold app at hz
 split at hz
 ·cases hz;rfl
 ·cases hz
theorem W2y {w:List Q3}(hw:WW w){r:Z7}{t:Q5}(ht:t∈tys w)(h:ROk r 2600):Ret (Q5b NN r w t) (fun a=>(∀ c∈a.1,Q4d w t c.pat=true)∧a.1.length≤5∧Nx r a.2 2600):=by
 unfold Q5b
 refine Ret.bind (Q7u (h.le (by omega)) [3,2,4,5,1,0] (by simp) (by simp)) (fun a ha=>?_)
 have hr1:ROk a.2 2599:=ROk.nx (c:=1) h ha.2
 have hd:0≤a.1∧a.1≤5:=by
  have:=ha.1
  simp at this
  omega
 refine Ret.ctl (Q35 (fun s=>0≤s.2.2∧s.2.2≤5∧(s.2.1.length:Int)+s.2.2=a.1∧(∀ c∈s.2.1,Q4d w t c.pat=true)∧Nx a.2 s.1 (s.2.1.length * 500)) (fun s=>s.2.2.toNat) (fun _=>False) (fun s=>s.2.1.length≤5∧(∀ c∈s.2.1,Q4d w t c.pat=true)∧Nx a.2 s.1 2500)
  ⟨hd.1,hd.2,by simp,by simp,by simpa using Nx.refl a.2⟩ (fun s hI=>?_) NN (by have:=hd;show (a.1).toNat<30000000;omega)) (fun r hr=>hr.elim) (fun s hs=>.some ⟨hs.2.1,hs.1,(ha.2.trans hs.2.2).le' (by omega)⟩)
 obtain ⟨i1,i2,i3,i4,i5⟩:=hI
 refine Ret.ite (fun h=>?_) (fun h=>?_)
 ·rw [X2] at h
  have hr2:ROk s.1 500:=ROk.nx (c:=s.2.1.length * 500) (hr1.le (by omega)) i5
  refine Ret.bind (X6q hw ht hr2) (fun b hb=>?_)
  rw [W4 (by simp only [Q4,U3,U4];omega)]
  have hws:wsub .i64 s.2.2 1=s.2.2-1:=Q23 (by omega) (by omega)
  simp only [U0]
  rw [hws]
  refine .some ⟨⟨by simp only;omega,by simp only;omega,by simp;omega,fun c hc=>?_,?_⟩,by simp only;omega⟩
  ·rcases List.mem_append.1 hc with hc | hc
   ·exact i4 c hc
   ·simp at hc;subst hc;exact hb.1
  ·have:=i5.trans hb.2
   simp only [U5,U3,U4]
   exact this.le' (by omega)
 ·exact .some ⟨by simp only;omega,i4,i5.le' (by omega)⟩
theorem X5e {code:List Int}{q:Z7}(h:((if (ilt 2000 (lenZ code.length))=true then ((Q69 code 2000).bind fun x8=>some (Ctl.brk (ρ:=Z7) x8)) else some (Ctl.brk code)))=some (.ret q)):False:=by
 split at h
 ·cases ht:Q69 code 2000 with
  | none=>rw [ht] at h;cases h
  | some x=>rw [ht] at h;cases h
 ·cases h
theorem W03 {w:List Q3}(hw:WW w):∀ (n:Nat) (r:Z7) (t:Q5) (depth:Int),t∈tys w→Par (Q2a n r w (tabP w) t depth) (fun a=>widV 3 a.1):=by
 intro n
 induction n with
 | zero=>intro r t depth _;exact .none
 | succ n ih=>
  intro r t depth ht
  have hT:=hw.ty t ht
  unfold Q2a
  refine Par.ite (fun _=>?_) (fun _=>?_)
  ·exact Par.any fun a=>.some ((Q9t _ _).2 ⟨by simp,fun x hx=>by cases hx⟩)
  ·rw [hT.c1]
   simp only [U0]
   refine Par.ctl (Z86 (fun _ (s:List Int)=>∀ x∈s,x∈W3 w t) (fun _=>False) (fun s=>∀ x∈s,x∈W3 w t) (W3 w t) 0 _ (by simp) (fun k x s hx hI=>?_) (fun s hs=>hs)) (fun r hr=>hr.elim) (fun s hs=>?_)
   ·have add:Par ((app s [x]).bind fun x310=>some (Ctl.brk (ρ:=Ctl (Z2×Z7) (List Int)) x310)) (CtlQ (fun _=>False) (fun s'=>∀ x∈s',x∈W3 w t)):=by
     refine Par.bind (W0m _ _) (fun z hz=>.some ?_)
     subst hz
     intro y hy
     rcases List.mem_append.1 hy with hy | hy
     ·exact hI y hy
     ·simp only [List.mem_singleton] at hy;rw [hy];exact hx
    have pass:Par (some (Ctl.brk (ρ:=Ctl (Z2×Z7) (List Int)) s)) (CtlQ (fun _=>False) (fun s'=>∀ x∈s',x∈W3 w t)):=.some hI
    refine Par.ctl (R:=fun _=>False) (B:=fun (s':List Int)=>∀ x∈s',x∈W3 w t) ?_ (fun r hr=>hr.elim) (fun s' hs'=>.some hs')
    refine Par.any fun a=>Par.ite (fun _=>Par.ite (fun _=>add) (fun _=>Par.any fun b=>Par.ite (fun _=>add) (fun _=>pass))) (fun _=>pass)
   ·refine Par.any fun a=>?_
    refine Par.bind (P:=fun x=>x∈W3 w t) (fun x hx=>?_) (fun x hx=>?_)
    ·unfold idx at hx
     split at hx
     ·exact hs x (U1 hx)
     ·cases hx
    ·rw [hT.a1 x hx]
     simp only [U0]
     have hal:=hT.al x hx
     refine Par.ctl (Z86 (fun k (u:Z7×List Z2)=>u.2.length≤k∧∀ y∈u.2,widV 3 y) (fun _=>False) (fun u=>u.2.length≤3∧∀ y∈u.2,widV 3 y) (Q0t w t x) 0 _ (by simp) (fun k y u hy hI=>?_) (fun u hu=>⟨by have:=hu.1;omega,hu.2⟩)) (fun r hr=>hr.elim) (fun u hu=>.some ((Q9t _ _).2 hu))
     refine Par.bind (ih u.1 y _ (hT.at_ x hx y hy)) (fun b hb=>?_)
     refine Par.bind (W0m _ _) (fun z hz=>.some ?_)
     subst hz
     refine ⟨by simp only [U5,U3,U4];have:=hI.1;omega,fun q hq=>?_⟩
     rcases List.mem_append.1 hq with hq | hq
     ·exact hI.2 q hq
     ·simp only [List.mem_singleton] at hq;rw [hq];exact hb
theorem X3r (code:List Int)(hb:∀ x∈code,0≤x∧x≤255):Ret (Q1n code) (fun r=>ROk r 1000000∧r.p=0):=by
 obtain ⟨r,e,hr⟩:=W6t code hb
 refine ⟨r,e,hr,?_⟩
 unfold Q1n at e
 simp only [U12] at e
 obtain ⟨o,h1,h2⟩:=e
 cases o with
 | ret q=>exact (X5e h1).elim
 | go s=>cases h2
 | brk s=>simp only [Option.some.injEq] at h2;rw [←h2]
theorem W04 {w:List Q3}(hw:WW w):∀ (m n:Nat) (r:Z7) (t:Q5) (depth:Int),t∈tys w→depP w t≠0→depth≤m→depP w t≤m→-1000+m≤depth→m≤100→m+1≤n→ROk r (Q79 m)→
  Ret (Q2a n r w (tabP w) t depth) (fun a=>Nx r a.2 (Q79 m)∧cntV a.1≤Q79 m):=by
 intro m
 induction m with
 | zero=>
  intro n r t depth ht hd h1 h2 h3 hm100 hn hr
  have:=(hw.ty t ht).d0
  omega
 | succ m ih=>
  intro n r t depth ht hd h1 h2 h3 hm100 hn hr
  obtain ⟨n,rfl⟩:∃ k,n=k+1:=⟨n-1,by omega⟩
  have hT:=hw.ty t ht
  have hpos:=W0h (m+1)
  unfold Q2a
  refine Ret.ite (fun h=>?_) (fun h=>?_)
  ·refine Ret.bind (Q38 (hr.le hpos) (by omega) (by omega)) (fun a ha=>.some ⟨ha.2.2.le' hpos,by rw [Q5v];simpa [cntV.cntVs] using hpos⟩)
  ·rw [X0] at h
   rw [hT.c1]
   simp only [U0]
   obtain ⟨kb,hkb,hmb⟩:=hT.dm h hd
   have hd0:=hT.d0
   refine Ret.ctl (Z5 (W3 w t) (fun k s=>(∀ x∈s,x∈W3 w t∧0<Q4v w t x∧(Q4v w t x≤depth∨Q4v w t x=depP w t))∧s.length≤k∧(∀ j,j<k→(W3 w t)[j]?=some kb→s≠[])) (fun _=>False)
    (fun s=>(∀ x∈s,x∈W3 w t∧0<Q4v w t x∧(Q4v w t x≤depth∨Q4v w t x=depP w t))∧s≠[]∧s.length≤4) ⟨by simp,by simp,fun j hj=>by omega⟩ (fun k x s hx hI=>?_) (fun s hI=>?_)) (fun r hr=>hr.elim) (fun s hs=>?_)
   ·obtain ⟨i1,i2,i3⟩:=hI
    have hxm:=U1 hx
    have hkl:=(List.getElem?_eq_some_iff.1 hx).1
    have hcl:=hT.cl
    have take:∀ (hp:0<Q4v w t x∧(Q4v w t x≤depth∨Q4v w t x=depP w t)),Ret ((app s [x]).bind fun x310=>some (Ctl.brk (ρ:=Ctl (Z2×Z7) (List Int)) x310)) (CtlQ (fun _=>False) (fun s'=>(∀ x∈s',x∈W3 w t∧0<Q4v w t x∧(Q4v w t x≤depth∨Q4v w t x=depP w t))∧s'.length≤k+1∧(∀ j,j<k+1→(W3 w t)[j]?=some kb→s'≠[]))):=fun hp=>by
     rw [W4 (by simp only [Q4,U3,U4];omega)]
     refine .some ⟨fun y hy=>?_,by simp;omega,fun _ _ _=>by simp⟩
     rcases List.mem_append.1 hy with hy | hy
     ·exact i1 y hy
     ·simp at hy;subst hy;exact ⟨hxm,hp⟩
    have pass:(¬(0<Q4v w t x∧(Q4v w t x≤depth∨Q4v w t x=depP w t)))→Ret (some (Ctl.brk (ρ:=Ctl (Z2×Z7) (List Int)) s)) (CtlQ (fun _=>False) (fun s'=>(∀ x∈s',x∈W3 w t∧0<Q4v w t x∧(Q4v w t x≤depth∨Q4v w t x=depP w t))∧s'.length≤k+1∧(∀ j,j<k+1→(W3 w t)[j]?=some kb→s'≠[]))):=fun hp=>by
     refine .some ⟨i1,by omega,fun j hj hjk=>?_⟩
     by_cases hjk2:j=k
     ·subst hjk2
      rw [hx] at hjk
      cases hjk
      exact absurd ⟨by omega,.inr hmb⟩ hp
     ·exact i3 j (by omega) hjk
    refine Ret.ctl (R:=fun _=>False) (B:=fun (s':List Int)=>(∀ x∈s',x∈W3 w t∧0<Q4v w t x∧(Q4v w t x≤depth∨Q4v w t x=depP w t))∧s'.length≤k+1∧(∀ j,j<k+1→(W3 w t)[j]?=some kb→s'≠[])) ?_ (fun r hr=>hr.elim) (fun s' hs'=>⟨_,rfl,hs'⟩)
    rw [hT.m1 x hxm]
    simp only [U0]
    refine Ret.ite (fun c=>?_) (fun c=>?_)
    ·rw [X2] at c
     refine Ret.ite (fun c2=>?_) (fun c2=>?_)
     ·rw [Q0s] at c2
      exact take ⟨c,.inl c2⟩
     ·rw [Q5l] at c2
      rw [hT.d1]
      simp only [U0]
      refine Ret.ite (fun c3=>?_) (fun c3=>?_)
      ·rw [Z3] at c3
       exact take ⟨c,.inr c3⟩
      ·rw [X0] at c3
       exact pass (by omega)
    ·rw [W5] at c
     exact pass (by omega)
   ·obtain ⟨i1,i2,i3⟩:=hI
    obtain ⟨j,hj⟩:=List.mem_iff_getElem?.1 hkb
    have:=hT.cl
    exact ⟨i1,i3 j ((List.getElem?_eq_some_iff.1 hj).1) hj,by omega⟩
   ·obtain ⟨i1,i2,i3⟩:=hs
    have hsl:1≤s.length:=by cases s with
     | nil=>exact absurd rfl i2
     | cons=>simp
    refine Ret.bind (Q38 (hr.le hpos) (k:=lenZ s.length) (by simp [lenZ];omega) (by simp [lenZ];omega)) (fun a ha=>?_)
    obtain ⟨x,hx,hxm⟩:=Q40 (xs:=s) ha.1 (by simpa [lenZ] using ha.2.1)
    obtain ⟨hxc,hx0,hxd⟩:=i1 x hxm
    rw [hx]
    simp only [U0]
    rw [hT.a1 x hxc]
    simp only [U0]
    have hal:=hT.al x hxc
    have hr1:ROk a.2 (3 * Q79 m):=ROk.nx (c:=1) hr ha.2.2
    refine Ret.ctl (Z5 (Q0t w t x) (fun k s=>Nx a.2 s.1 (k * Q79 m)∧s.2.length≤k∧cntV.cntVs s.2≤k * Q79 m) (fun _=>False) (fun s=>Nx a.2 s.1 (3 * Q79 m)∧cntV.cntVs s.2≤3 * Q79 m) ⟨by simpa using Nx.refl a.2,by simp,by simp [cntV.cntVs]⟩ (fun k y s hy hI=>?_) (fun s hI=>?_)) (fun r hr=>hr.elim) (fun s hs=>?_)
    ·obtain ⟨j1,j2,j3⟩:=hI
     have hym:=U1 hy
     have hkl:=(List.getElem?_eq_some_iff.1 hy).1
     obtain ⟨d1,d2⟩:=hT.ma x hxc (by omega) y hym
     have hws:wsub .i64 depth 1=depth-1:=Q23 (by omega) (by omega)
     rw [hws]
     have hr2:ROk s.1 (Q79 m):=by
      have:k * Q79 m+Q79 m≤3 * Q79 m:=by
       rw [←Nat.succ_mul]
       exact Nat.mul_le_mul_right _ (by omega)
      exact ROk.nx (c:=k * Q79 m) (hr1.le this) j1
     refine Ret.bind (ih n s.1 y (depth-1) (hT.at_ x hxc y hym) (by omega) (by omega) (by omega) (by omega) (by omega) (by omega) hr2) (fun b hb=>?_)
     rw [W4 (by simp only [Q4,U3,U4];omega)]
     refine .some ⟨?_,by simp;omega,?_⟩
     ·have:=j1.trans hb.1
      rw [←Nat.succ_mul] at this
      exact this
     ·have e1:=Z5e s.2 [b.1]
      have e2:cntV.cntVs [b.1]=cntV b.1:=by simp [cntV.cntVs]
      have e3:=hb.2
      have e4:(k+1) * Q79 m=k * Q79 m+Q79 m:=Nat.succ_mul k (Q79 m)
      simp only at e1 ⊢
      omega
    ·obtain ⟨j1,j2,j3⟩:=hI
     exact ⟨j1.le' (Nat.mul_le_mul_right _ hal),Nat.le_trans j3 (Nat.mul_le_mul_right _ hal)⟩
    ·refine .some ⟨ha.2.2.trans hs.1,?_⟩
     have e1:=hs.2
     have e2:Q79 (m+1)=1+3 * Q79 m:=rfl
     rw [Q5v]
     simp only
     omega
theorem X4x {r:Z7}(h:ROk r 1000):Ret (Q4i NN r) (fun a=>a.1∈Q32∧a.2.1∈tys a.1∧Nx r a.2.2.2 500∧widV 3 a.2.2.1∧depP a.1 a.2.1≠0∧cntV a.2.2.1≤121):=by
 unfold Q4i
 refine Ret.bind (W1v (h.le (by omega))) (fun a ha=>?_)
 obtain ⟨hw,hn1⟩:=ha
 have hW:=ww hw
 rw [hW.tab]
 simp only [U0]
 have hr1:ROk a.2 999:=ROk.nx (c:=1) h hn1
 have hpos:=hW.pos
 have hle:=hW.le
 refine Ret.bind (Q38 (hr1.le (by omega)) (k:=lenZ a.1.length) (by simp only [lenZ];omega) (by simp only [lenZ];omega)) (fun b hb=>?_)
 have hr2:ROk b.2 998:=ROk.nx (c:=1) hr1 hb.2.2
 refine Ret.bind (Q7u (hr2.le (by omega)) [0,0,1,2] (by simp) (by simp)) (fun c hc=>?_)
 have hr3:ROk c.2 997:=ROk.nx (c:=1) hr2 hc.2
 have hty:(Q5.mk b.1 c.1)∈tys a.1:=by
  obtain ⟨i,hi⟩:=Int.eq_ofNat_of_zero_le hb.1
  have hil:i<a.1.length:=by have:=hb.2.1;simp only [lenZ] at this;omega
  have hci:∃ j:Nat,j<4∧c.1=(j:Int):=by
   have:=hc.1
   simp at this
   rcases this with h | h | h
   ·exact ⟨0,by omega,h⟩
   ·exact ⟨1,by omega,h⟩
   ·exact ⟨2,by omega,h⟩
  obtain ⟨j,hj,hcj⟩:=hci
  unfold tys
  refine List.mem_cons_of_mem _ (List.mem_flatMap.2 ⟨i,List.mem_range.2 hil,U10.2 ⟨j,List.mem_range.2 hj,?_⟩⟩)
  rw [hi,hcj]
  rfl
 have htI:tI∈tys a.1:=by unfold tys;exact List.mem_cons_self
 refine Ret.ctl (R:=fun _=>False) (B:=fun s=>(Q5.mk s.1 s.2)∈tys a.1∧depP a.1 (Q5.mk s.1 s.2)≠0) ?_ (fun r hr=>hr.elim) (fun s hs=>?_)
 ·rw [(hW.ty _ hty).d1]
  simp only [U0]
  refine Ret.ite (fun h=>?_) (fun h=>?_)
  ·refine .some ⟨htI,?_⟩
   have:=(hW.ty tI htI).ti rfl
   show depP a.1 tI≠0
   omega
  ·rw [X0] at h
   exact .some ⟨hty,h⟩
 ·refine Ret.bind (Q7u (hr3.le (by omega)) [3,2,4,1] (by simp) (by simp)) (fun d hd=>?_)
  have hr4:ROk d.2 996:=ROk.nx (c:=1) hr3 hd.2
  have hd4:1≤d.1∧d.1≤4:=by
   have:=hd.1
   simp at this
   omega
  have hdep:=(hW.ty _ hs.1).d4
  refine Ret.bind ((W04 hW 4 NN d.2 _ d.1 hs.1 hs.2 (by omega) (by omega) (by omega) (by omega) (by decide) (hr4.le (by decide))).both (W03 hW NN d.2 _ d.1 hs.1)) (fun e he=>?_)
  refine .some ⟨hw,hs.1,?_,he.2,hs.2,he.1.2⟩
  have:=(((hn1.trans hb.2.2).trans hc.2).trans hd.2).trans he.1.1
  exact this.le' (by decide)
theorem X4w {r:Z7}(h:ROk r 5000):Ret (Q4h NN r) (fun a=>a.1∈Q32∧a.2.1∈tys a.1∧(∀ c∈a.2.2.1,Q4d a.1 a.2.1 c.pat=true)∧a.2.2.1.length≤5∧Nx r a.2.2.2.2 4000∧widV 3 a.2.2.2.1∧depP a.1 a.2.1≠0∧cntV a.2.2.2.1≤121):=by
 unfold Q4h
 refine Ret.bind (X4x (h.le (by omega))) (fun a ha=>?_)
 obtain ⟨h1,h2,h3,h4,h5,h6⟩:=ha
 refine Ret.bind (W2y (ww h1) h2 (ROk.nx (c:=500) (h.le (by omega)) h3)) (fun b hb=>?_)
 exact .some ⟨h1,h2,hb.1,hb.2.1,(h3.trans hb.2.2).le' (by omega),h4,h5,h6⟩
theorem X30 (code:List Int)(hb:∀ x∈code,0≤x∧x≤255):Ret (Q2c NN code) (fun a=>a.1∈Q32∧a.2.1∈tys a.1∧cntV a.2.2.2.2≤20000131):=by
 unfold Q2c
 refine Ret.bind (X3r code hb) (fun r hr=>?_)
 obtain ⟨hr,hp0⟩:=hr
 refine Ret.bind (X4w (hr.le (by omega))) (fun a ha=>?_)
 obtain ⟨h1,h2,h3,h4,h5,h6,_,h8⟩:=ha
 have hr1:ROk a.2.2.2.2 900000:=ROk.nx (c:=4000) (hr.le (by omega)) h5
 refine Ret.bind (X5f (hr1.le (by omega)) a.2.2.1 (by omega) (fun c hc=>by have:=X4v (ww h1) h2 (h3 c hc);omega)) (fun b hb=>?_)
 have hr2:ROk b.2 800000:=ROk.nx (c:=10) (hr1.le (by omega)) hb.2
 refine Ret.bind (Q7u (hr2.le (by omega)) [0,1,2,0,3] (by simp) (by simp)) (fun c hc=>?_)
 have hr3:ROk c.2 700000:=ROk.nx (c:=1) (hr2.le (by omega)) hc.2
 have hp:c.2.p≤5000:=by
  have e1:=h5.ge
  have e2:=hb.2.ge
  have e3:=hc.2.ge
  omega
 refine Ret.bind (X21 (hr3.le (by omega)) hp (Z0w (by omega) _ h6)) (fun d hd=>.some ⟨h1,h2,by have:=hd.2;simp only;omega⟩)
theorem X0z:∀ l:List Z2,l.length≤cntV.cntVs l
 | []=>by simp [cntV.cntVs]
 | v::l=>by
  have h1:=X0z l
  have h2:=Q5v v
  simp only [U3,cntV.cntVs]
  omega
theorem X7z:∀ (n:Nat) (r:Z7) (v:Z2) (m:Nat),cntV v≤m→m<n→m≤30000000→ROk r m→Ret (Q3o n r v) (fun a=>Nx r a.2 (cntV v)):=by
 intro n
 induction n with
 | zero=>intro r v m _ h;omega
 | succ n ih=>
  intro r v m hm hn h3 hr
  have hcv:=Q5v v
  unfold Q3o
  refine Ret.bind (Q38 (hr.le (by omega)) (by omega) (by omega)) (fun a ha=>?_)
  refine Ret.ite (fun _=>.some (ha.2.2.le' (by omega))) (fun _=>?_)
  have hr1:ROk a.2 (m-1):=ROk.nx (c:=1) (hr.le (by omega)) ha.2.2
  refine Ret.ctl (Z5 v.kids (fun k (s:Z7×List Z2)=>Nx a.2 s.1 (cntV.cntVs (v.kids.take k))∧s.2.length=k) (fun _=>False) (fun s=>Nx a.2 s.1 (cntV.cntVs v.kids)) ⟨by simpa [cntV.cntVs] using Nx.refl a.2,by simp⟩ (fun k x s hx hI=>?_) (fun s hI=>by rw [List.take_length] at hI;exact hI.1)) (fun r hr=>hr.elim) (fun s hs=>.some ?_)
  ·obtain ⟨i1,i2⟩:=hI
   have htk:=Z03 v.kids k x hx
   have hle:=Q6i v.kids (k+1)
   have hkl:=(List.getElem?_eq_some_iff.1 hx).1
   have hlen:=X0z v.kids
   refine Ret.bind (ih s.1 x (m-1-cntV.cntVs (v.kids.take k)) (by omega) (by omega) (by omega) (ROk.nx (c:=cntV.cntVs (v.kids.take k)) (hr1.le (by omega)) i1)) (fun b hb=>?_)
   rw [W4 (by simp only [U3,U4,Q4];omega)]
   refine .some ⟨?_,by simp [i2]⟩
   rw [htk]
   exact i1.trans hb
  ·have:=ha.2.2.trans hs
   exact this.le' (by omega)
theorem X31 (code:List Int)(hb:∀ x∈code,0≤x∧x≤255):Ret (Q17 NN code) (fun a=>a.1∈Q32∧a.2.1∈tys a.1):=by
 unfold Q17
 refine Ret.bind (X30 code hb) (fun a ha=>?_)
 obtain ⟨h1,h2,h3⟩:=ha
 refine Ret.bind (X3r code hb) (fun r hr=>?_)
 obtain ⟨hr,hp0⟩:=hr
 refine Ret.bind (X7z NN r a.2.2.2.2 20000131 h3 (by decide) (by omega) ⟨hr.bytes,hr.len,hr.p0,by omega⟩) (fun b _=>.some ⟨h1,h2⟩)
theorem Z7m (code:List Int)(hb:∀ x∈code,0≤x∧x≤255):Q1r NN code=some true:=by
 suffices hr:Ret (Q1r NN code) (fun r=>r=true) by
  obtain ⟨_,e,rfl⟩:=hr
  exact e
 unfold Q1r
 refine Ret.ite (fun _=>.some rfl) (fun _=>?_)
 refine Ret.bind (X31 code hb) (fun a ha=>?_)
 obtain ⟨w,t,l,pick,v⟩:=a
 obtain ⟨hww,ht⟩:=ha
 simp only at hww ht ⊢
 have hw:=ww hww
 obtain ⟨tr,ok,e1,e2,h1,h2,h3⟩:=(Z2m hww ht l pick).eq
 obtain ⟨r,p1,p2,hr⟩:=W0j hww ht e1 e2 h2 v
 have r1:ieq r.1 r.1=true:=by simp [ieq]
 rw [p1,p2,e1]
 simp only [U0,r1,beq_self_eq_true,Bool.not_true,U2,if_false,if_true]
 rw [X1v]
 simp only [U0,Bool.not_true,U2,if_false,if_true]
 refine Ret.ite (fun _=>.some rfl) (fun hk=>?_)
 refine Ret.ite (fun _=>.some rfl) (fun hok=>?_)
 rw [Z4i hw ht]
 simp only [U0]
 refine Ret.ite (fun _=>.some rfl) (fun hv=>?_)
 rw [Bool.not_eq_false'] at hok hv
 rcases hr with ⟨_,hr⟩ | ⟨_,_,q,hq,rfl⟩
 ·exact absurd ⟨hok,hv⟩ hr
 ·have hneed:q.2.2.1=true:=by
   simp only at hk
   simpa using hk
  obtain ⟨g1,u,g2,g3⟩:=(X85 300 tr q hq).1 hneed
  refine Ret.ctl (Z5 q.2.1 (fun k s=>Q58 s (q.2.1.drop k)=some u) (fun _=>False) (fun s=>s=u) (by simpa using g2) (fun k x s hx hI=>?_) (fun s hI=>by rw [List.drop_length,Q58] at hI;exact Option.some.inj hI)) (fun r hr=>hr.elim) (fun s hs=>?_)
  ·rw [Z8d hx,Q58] at hI
   refine Ret.ite (fun hc=>?_) (fun hc=>.some ?_)
   ·rw [Bool.not_eq_true',X0] at hc
    rw [if_neg hc,U12] at hI
    obtain ⟨y,hy,hI⟩:=hI
    rw [hy]
    exact .some hI
   ·rw [Bool.not_eq_false',Z3] at hc
    rw [if_pos hc] at hI
    exact Option.some.inj hI
  ·dsimp only
   rw [if_pos (by rw [Z3,hs];exact g3)]
   exact .some (by rw [Z3];exact g1)
end Go.Proofs.YtjgapphpbkapmaaGreat
