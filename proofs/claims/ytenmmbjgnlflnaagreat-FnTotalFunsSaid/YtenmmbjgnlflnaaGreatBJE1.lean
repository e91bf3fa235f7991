import Derived.Orders
import Derived.Test.YtenmmbjgnlflnaaGreatBJE0
set_option linter.unusedSimpArgs false
set_option linter.unusedVariables false
namespace Go.Proofs.YtenmmbjgnlflnaaGreat
open Go Go.RowKit
def resD (T:Ty)(σ:St):List ResultVar→(List D→Prop)→Prop
 | [],K=>K []
 | .tmp t::rest,K=>resD T σ rest fun l=>K (σ.t t::l)
 | .cell a t::rest,K=>match Z8i T σ t (.tmp a) with
  | some r=>r.ok∧resD T σ rest fun l=>K (r.d::l)
  | none=>False
def Z2y:List D→D
 | [d]=>d
 | l=>.tup l
def V3 (β:Base)(σ σ':St):Prop:=∀ a c,Conc β σ a c→∃ c',c'.w=c.w∧Conc β σ' a c'
theorem V3.refl {β:Base}{σ:St} : V3 β σ σ:=fun _ c H=>⟨c,rfl,H⟩
theorem V3.trans {β:Base}{σ σ' σ'':St}(h:V3 β σ σ')(k:V3 β σ' σ''):V3 β σ σ'':=fun a c H=>by
 obtain ⟨c1,e1,H1⟩:=h a c H
 obtain ⟨c2,e2,H2⟩:=k a c1 H1
 exact ⟨c2,e2.trans e1,H2⟩
def EndD (Q:D→Prop)(σ:St)(ds:List D):Prop:=∃ (ds1 ds':List D) (h':Nat→Option Loc),Q7y σ.h ds ds1 h'∧All2 D.le ds1 ds'∧(∀ d∈ds',Free d)∧Q (Z2y ds')
def W5c (T:Ty)(β:Base)(res:List ResultVar)(Q:D→Prop)(σ:St):Prop:=∃ σ',V3 β σ σ'∧resD T σ' res (EndD Q σ')
def W1b (T:Ty)(β:Base)(res:List ResultVar)(Q:D→Prop):Exit→St→Prop
 | .normal,σ=>W5c T β res Q σ
 | .ret,σ=>W5c T β res Q σ
 | _,_=>False
theorem W5b {T:Ty}{β:Base}{res:List ResultVar}{Q:D→Prop}{σ σ':St}(hg:V3 β σ σ')(h:W5c T β res Q σ'):W5c T β res Q σ:=by
 obtain ⟨σ2,g2,h⟩:=h
 exact ⟨σ2,hg.trans g2,h⟩
def X6p (tmps:Array Value)(r:ResultVar):Sem Value:=
 match r with
 | .tmp t=>pure (tmps.getD t undef)
 | .cell a t=>do loadVar t (←asAddr (tmps.getD a undef))
theorem X39 (fn:Func)(tmps:Array Value):results fn tmps=(do let vs ←fn.results.mapM (X6p tmps);pure (if h:vs.size=1 then vs[0] else .tuple vs)):=by
 unfold results X6p
 rfl
theorem X9r {P:Program}{t:TypeId}{x v:Value}{w w':World}(h:(Instr.loadAt t x).run P w=.ok v w'):(do loadVar t (←asAddr x):Sem Value).run P w=.ok v w':=by
 unfold Instr.loadAt at h
 cases x with
 | pointer a=>
  cases a with
  | none=>simp [Instr.sureAddr] at h
  | some a=>simpa [Instr.sureAddr,asAddr] using h
 | _=>simp [Instr.sureAddr] at h
theorem W9s {P:Program}{T:Ty}(hT:Z0w P T){β:Base}{σ:St}{a:Act}{c:Cx}(H:Conc β σ a c){s:Tmp}{t:TypeId}{r:Res}(h:Z8i T σ t (.tmp s)=some r)(hok:r.ok) :
  ∃ v,(X6p a.tmps (.cell s t)).run P c.w=.ok v c.w∧Rep c r.d v:=by
 have key:∃ v,(Instr.loadAt t (a.eval (.tmp s))).run P c.w=.ok v c.w∧Rep c r.d v:=by
  unfold Z8i at h
  repeat' split at h
  all_goals cases h
  ·rename_i i hi _ sz k q j hx _ L hk
   obtain ⟨h1s,h1,h2,h3⟩:=hok
   have hp:=H.get (.tmp s)
   rw [hx] at hp
   obtain ⟨b,hM,he,hsz0⟩:=Z19 hp
   obtain ⟨cs,f,hb,hfr,hlen,hfz,hlim,hrow,hcell⟩:=(H.heap.locs k L hk).block hM (by omega)
   have hget:=getD_some (d:=[]) h2
   have hrl:=hrow _ (U1 hget)
   subst h1
   rw [he]
   exact Z5t (P:=P) (hT _ _ hi) (c:=c) (b:=b) (o:=q * L.sz+j) (ds:=((L.rows.getD q []).drop j).take i.size) (f:=fun x=>f q (j+x)) (by simp only [U6,List.length_drop];omega) h1s
    (fun x d hq=>by
     obtain ⟨hq1,_⟩:=Q77 hq
     have:=(hcell q (j+x) _ d hget hq1).1
     simp only [World.cell?,hb]
     simpa [Nat.add_assoc] using this)
    (fun x d hq=>by
     obtain ⟨hq1,_⟩:=Q77 hq
     exact (hcell q (j+x) _ d hget hq1).2.1)
  ·rename_i i hi _ ds hx
   obtain ⟨h1s,h1⟩:=hok
   have hp:=H.get (.tmp s)
   rw [hx] at hp
   obtain ⟨b,o',f,he,g1,g2⟩:=Z4g hp
   have tk:∀ (q:Nat) (d:D),(ds.take i.size)[q]?=some d→ds[q]?=some d:=fun q d hq=>by
    simp only [List.getElem?_take] at hq
    split at hq
    ·exact hq
    ·cases hq
   rw [he]
   exact Z5t (P:=P) (hT _ _ hi) (c:=c) (b:=b) (o:=o') (ds:=ds.take i.size) (f:=f) (by simp;omega) h1s (fun q d hq=>(g1 q d (tk q d hq)).1) (fun q d hq=>g2 q d (tk q d hq))
 obtain ⟨v,h1,h2⟩:=key
 exact ⟨v,X9r h1,h2⟩
theorem X47 {P:Program}{T:Ty}(hT:Z0w P T){β:Base}{σ:St}{a:Act}{c:Cx}(H:Conc β σ a c):∀ (res:List ResultVar) (K:List D→Prop),resD T σ res K→
  ∃ (ds:List D) (vs:List Value),(res.mapM (X6p a.tmps)).run P c.w=.ok vs c.w∧All2 (Rep c) ds vs∧K ds
 | [],K,h=>⟨[],[],by simp,.nil,h⟩
 | .tmp t::rest,K,h=>by
  obtain ⟨ds,vs,h1,h2,h3⟩:=X47 hT H rest _ h
  refine ⟨σ.t t::ds,a.tmps.getD t undef::vs,?_,.cons (H.slots t) h2,h3⟩
  simp [List.mapM_cons,h1,X6p]
 | .cell s t::rest,K,h=>by
  simp only [resD] at h
  split at h
  ·rename_i r hr
   obtain ⟨v,g1,g2⟩:=W9s (P:=P) hT H hr h.1
   obtain ⟨ds,vs,h1,h2,h3⟩:=X47 hT H rest _ h.2
   refine ⟨r.d::ds,v::vs,?_,.cons g2 h2,h3⟩
   simp [List.mapM_cons,h1,g1]
  ·exact h.elim
theorem V56 {c:Cx}{ds:List D}{vs:List Value}(h:All2 (Rep c) ds vs):vs.length=ds.length:=by
 induction h with
 | nil=>rfl
 | cons _ _ ih=>simp [ih]
theorem X4b {c:Cx} : ∀ (ds:List D) (vs:List Value),All2 (Rep c) ds vs→Rep c (Z2y ds) (if h:vs.toArray.size=1 then vs.toArray[0] else .tuple vs.toArray)
 | [],_,h=>by
  cases h
  simp only [Z2y]
  exact .tup _ _ rfl (fun i d v hd=>by simp at hd)
 | [d],_,h=>by
  cases h with
  | cons h t=>cases t;simpa [Z2y] using h
 | d::e::l,vs,h=>by
  have hl:=V56 h
  have h2:¬vs.toArray.size=1:=by simp [hl]
  rw [dif_neg h2]
  obtain ⟨h3,h4⟩:=Z48 _ _ h
  exact .tup _ _ h3 h4
theorem X0o (P:Program)(w w':World)(f:ResultVar→Sem Value)(xs:Array ResultVar)(vs:List Value)(h:(xs.toList.mapM f).run P w=.ok vs w'):(xs.mapM f).run P w=.ok vs.toArray w':=by
 rw [Array.mapM_eq_mapM_toList]
 simp [h]
theorem Q7.of {P : Program} {T : Ty} (hT : Z0w P T) {f : FuncId} {fn : Func} {body : Code} {args : List D} {Q : D → Prop} (hf : P.funcs[f]? = some fn) (hname : (fn.name == "runtime.NumGoroutine") = false)
  (hb:fn.body=some body) (hn:args.length≤fn.ntmps) {res:List ResultVar} (hres:fn.results.toList=res) {n:Nat} (hnt:fn.ntmps=n)
  (h:∀ β:Base,β.c0.M=noM→TrD P β body ⟨fun i=>args.getD i (.val undef),fun _=>none,0,n⟩ (W1b T β res Q)):Q7 P f args Q:=by
 subst hres
 subst hnt
 refine ⟨⟨fn,hf,hname,by simp [hb]⟩,fun fr w vs hvs=>?_⟩
 obtain ⟨hl,hr⟩:=hvs
 refine calls_of_wp hf hb ?_
 have H:Conc ⟨⟨noM,fr,w⟩,fun _=>False⟩ ⟨fun i=>args.getD i (.val undef),fun _=>none,0,fn.ntmps⟩ { tmps:=vs++Array.replicate (fn.ntmps-vs.size) undef,defers:=[] } ⟨noM,fr,w⟩:=by
  refine ⟨⟨.refl _,rfl,rfl,rfl,Nat.le_refl _,fun b _ _=>⟨rfl,rfl⟩,(fun k L hk=>by cases hk),(fun k k' b h1=>by cases h1),(fun k b h1=>by cases h1)⟩,by simp;omega,rfl,fun i=>?_,fun k _=>⟨rfl,rfl⟩⟩
  simp only [Array.getD_eq_getD_getElem?,Array.getElem?_append]
  by_cases hi:i<vs.size
  ·have hi2:i<args.length:=by omega
   rw [if_pos hi]
   have h1:args[i]?=some (args.getD i (.val undef)):=getD_some hi2
   have h2:vs[i]?=some vs[i]:=by simp [hi]
   rw [h2]
   exact hr i _ _ h1 h2
  ·have hi2:¬i<args.length:=by omega
   rw [if_neg hi]
   have h1:args.getD i (.val undef)=.val undef:=by simp [List.getD_eq_getElem?_getD,List.getElem?_eq_none (by omega:args.length≤i)]
   simp only [h1]
   have:(Array.replicate (fn.ntmps-vs.size) undef)[i-vs.size]?.getD undef=undef:=by
    simp only [Array.getElem?_replicate]
    split<;>rfl
   rw [this]
   exact .val _
 refine wp_mono (h _ rfl _ _ H) fun e a' w' hp=>?_
 obtain ⟨σ',c',rfl,H',hq⟩:=hp
 have fin:W5c T ⟨⟨noM,fr,w⟩,fun _=>False⟩ fn.results.toList Q σ'→a'.defers=[]∧∃ v,(results fn a'.tmps).run P c'.w=.ok v c'.w∧∃ (v':Value) (fr':Nat→Nat) (r:D),Ending.returned v=.returned v'∧Q r∧Rep ⟨noM,fr',c'.w⟩ r v'∧
   c'.w.os=w.os∧c'.w.tape=w.tape∧c'.w.output=w.output∧w.heap.size≤c'.w.heap.size∧∀ b,b<w.heap.size→c'.w.heap[b]?=w.heap[b]?∧fr' b=fr b:=fun hx=>by
  obtain ⟨σ2,hg,hres⟩:=hx
  obtain ⟨c0,e0,H0⟩:=hg a' c' H'
  rw [←e0]
  obtain ⟨ds,us,h1,h2,ds1,ds',h',hv,hle,hfree,hQ⟩:=X47 (P:=P) hT H0 _ _ hres
  obtain ⟨c2,e1,e2,x2,H2,r2⟩:=Q7y.sound _ _ _ _ _ _ hv H0.heap h2
  have r3:=X5h c2 ds1 ds' us hle hfree r2
  refine ⟨H0.defers,(if hh:us.toArray.size=1 then us.toArray[0] else .tuple us.toArray),?_,_,c2.fr,Z2y ds',rfl,hQ,?_,H0.heap.os,H0.heap.tape,H0.heap.output,H0.heap.size,fun b hb=>?_⟩
  ·rw [X39]
   rw [Sem.run_bind,X0o P c0.w c0.w _ _ us h1]
   rfl
  ·have:=X4b ds' us r3
   rw [e1] at this
   exact this
  ·have:=H2.old b hb (fun h=>h)
   rw [e1] at this
   exact this
 cases e with
 | normal=>exact fin hq
 | ret=>exact fin hq
 | _=>exact hq.elim
theorem TyOk.of {P:Program}{t:TypeId}{i:TyI}{d:TypeDesc}(hd:P.underlying t=some d)(hk:i.kind.ok P d)(z:Value)
  (hi:(P.info? t).map (fun f=>(f.zero,f.size,f.bytes))=some (some z,i.size,i.bytes)) (hz:z.cells.toList=i.zero) (hz2:z=(if i.agg then .agg i.zero.toArray else i.zero.headD undef))
  (hl:i.zero.length=i.size) (ho:i.zero.all (·.oneCell')=true) (hr:i.bytes≤16384)
  (hq : i.eq = true → ∀ fs, i.kind = .struct fs → P.underlying t = some (.struct (P.fieldsOf t)) ∧ P.stoodInHeld t = false ∧ P.eqGuardType P.depth t = false ∧ (P.fieldsOf t).toList.map (fun f => (f.name != "_", f.offset, f.type)) = fs.map (fun x => (true, x.1, x.2.1))) : TyOk P t i := by
 refine ⟨⟨d,hd,hk⟩,?_,hl,fun v hv=>List.all_eq_true.1 ho v hv,hr,hq⟩
 simp only [U12,Prod.mk.injEq] at hi
 obtain ⟨f,hf,h1,h2,h3⟩:=hi
 exact ⟨f,hf,h2,h3,z,h1,hz,hz2⟩
theorem Z6k {T:Ty}{σ σ':St}{t:TypeId}{x:Operand}{lo hi mx:Option Operand}(hg:∀ y∈(Op.slice t x lo hi mx).operands,σ.get y=σ'.get y) :
  Z40 T σ t x lo hi mx=(Z40 T σ' t x lo hi mx).map fun r=>⟨r.ok,r.d,σ.h⟩:=by
 have gx:σ.get x=σ'.get x:=hg x (by simp [Op.operands])
 have gl:lo.map σ.get=lo.map σ'.get:=by
  cases lo with
  | none=>rfl
  | some y=>simp only [Option.map_some];rw [hg y (by simp [Op.operands])]
 have gh:hi.map σ.get=hi.map σ'.get:=by
  cases hi with
  | none=>rfl
  | some y=>simp only [Option.map_some];rw [hg y (by simp [Op.operands])]
 have gy:∀ y,hi=some y→σ.get y=σ'.get y:=fun y hy=>hg y (by simp [Op.operands,hy])
 unfold Z40
 rw [gx,gl]
 cases mx with
 | some m=>rfl
 | none=>
  simp only
  cases T t with
  | none=>rfl
  | some i=>
   simp only
   cases i.kind<;>try rfl
   case string=>
    cases σ'.get x<;>try rfl
    rename_i v
    cases v<;>try rfl
    rename_i s
    simp only [gh]
    cases loD (lo.map σ'.get)<;>cases hiD s.size (hi.map σ'.get)<;>simp
   case slice e=>
    simp only
    generalize T e=oe
    cases oe with
    | none=>rfl
    | some ie=>
     have gz:∀ z,lo=some z→σ.get z=σ'.get z:=fun z hz=>hg z (by simp [Op.operands,hz])
     clear hg gl gh
     cases lo<;>cases hi<;>try rfl
     ·rename_i y
      simp only
      rw [gy y rfl]
      generalize σ'.get x=d1
      generalize σ'.get y=d2
      cases d1<;>cases d2<;>try rfl
      all_goals (rename_i v;cases v<;>rfl)
     ·rename_i z
      simp only
      rw [gz z rfl]
      generalize σ'.get x=d1
      generalize σ'.get z=d2
      cases d1<;>cases d2<;>try rfl
      all_goals (rename_i v;cases v<;>rfl)
     ·rename_i z y
      simp only
      rw [gz z rfl,gy y rfl]
      generalize σ'.get x=d1
      generalize σ'.get z=d2
      generalize σ'.get y=d3
      cases d1<;>try rfl
      cases d2<;>try rfl
      rename_i v
      cases v<;>try rfl
      cases d3<;>try rfl
      rename_i v
      cases v<;>rfl
def Z5x:Op→Bool
 | .load ..=>true
 | .convert ..=>true
 | _=>false
theorem Z2q {T:Ty}{σ σ':St}{nm nm':Nat}{op:Op}{r:Res}(hg:∀ x∈op.operands,σ.get x=σ'.get x)(hm:Z5x op=true→∀ k L,σ'.h k=some L→σ.h k=some L)(hi:Z4t op=true)
  (h:V0 T σ' nm op=some r):V0 T σ nm' op=some ⟨r.ok,r.d,σ.h⟩:=by
 cases op<;>simp only [Z4t] at hi<;>(try (cases hi;done))<;>simp only [V0] at h ⊢<;>simp [Op.operands] at hg
 case move=>cases h;simp [hg]
 case assign=>cases h;simp [hg]
 case build t Q29=>
  unfold X1j at h ⊢
  have e:(Q29.toList.map fun x=>(x.1,σ.get x.2))=Q29.toList.map fun x=>(x.1,σ'.get x.2):=List.map_congr_left fun x hx=>by rw [hg x.2 x.1 (by simpa using hx)]
  rw [e]
  (repeat' split at h)<;>cases h<;>simp [*]
 case pick=>
  obtain ⟨g1,g2,g3⟩:=hg
  unfold X82 at h ⊢
  rw [g1,g2,g3]
  split at h<;>cases h
  rename_i hb
  simp only [hb]
 case load=>
  unfold Z8i at h ⊢
  rw [hg]
  cases hT:T ‹_› with
  | none=>simp [hT] at h
  | some i=>
   simp only [hT] at h ⊢
   generalize σ'.get _=d at h ⊢
   cases d<;>simp only at h ⊢<;>(try (cases h;done))
   case ptr sz k r' j=>
    cases hk:σ'.h k with
    | none=>simp [hk] at h
    | some L=>
     simp only [hk] at h
     simp only [hm rfl k L hk]
     cases h
     rfl
   case cptr=>cases h;rfl
 case fieldAddr=>unfold Z0r at h ⊢;rw [hg];(repeat' split at h)<;>cases h<;>simp [*]
 case field=>unfold X1h at h ⊢;rw [hg];(repeat' split at h)<;>cases h<;>simp [*]
 case indexAddr=>
  obtain ⟨g1,g2⟩:=hg
  unfold Z0q at h ⊢
  rw [g1,g2]
  (repeat' split at h)<;>cases h<;>simp [*]
 case index=>
  obtain ⟨g1,g2⟩:=hg
  unfold X1g at h ⊢
  rw [g1,g2]
  (repeat' split at h)<;>cases h<;>simp [*]
 case binOp=>
  obtain ⟨g1,g2⟩:=hg
  unfold V01 at h ⊢
  rw [g1,g2]
  (repeat' split at h)<;>cases h<;>simp [*]
 case unOp=>unfold evUn at h ⊢;rw [hg];(repeat' split at h)<;>cases h<;>simp [*]
 case convert=>
  unfold Z43 at h ⊢
  rw [hg]
  repeat' split at h
  all_goals cases h
  ·simp [*]
  ·rename_i hk _ l hl
   have:=hm rfl _ _ hk
   simp [*]
 case extract=>unfold Z42 at h ⊢;rw [hg];(repeat' split at h)<;>cases h<;>simp [*]
 case nilCheck=>unfold Z1o at h ⊢;rw [hg];(repeat' split at h)<;>cases h<;>simp [*]
 case slice t x lo hi' mx=>
  have hyy:∀ y∈(Op.slice t x lo hi' mx).operands,σ.get y=σ'.get y:=fun y hy=>by
   have hy':y=x∨lo=some y∨hi'=some y∨mx=some y:=by simpa [Op.operands,eq_comm] using hy
   rcases hy' with rfl | hy'
   ·exact hg.1
   ·exact hg.2 y hy'
  rw [Z6k (σ:=σ) (σ':=σ') hyy,h]
  rfl
 case call c=>
  obtain ⟨callee,args,ts⟩:=c
  obtain ⟨args⟩:=args
  obtain ⟨ts⟩:=ts
  simp only at hi
  cases callee with
  | builtin b=>
   simp only at h ⊢
   have hga:∀ x∈args,σ.get x=σ'.get x:=fun x hx=>hg x (by simp [Call.operands,hx])
   unfold Z1s at h ⊢
   split at h
   ·rename_i x t h1 h2
    try simp only at h1 h2
    subst h1
    subst h2
    unfold W9t at h ⊢
    try simp only
    rw [hga _ (by simp)]
    (repeat' split at h)<;>cases h<;>simp [*]
   ·simp at hi
   ·rename_i h1
    try simp only at h1
    subst h1
    unfold Q9s at h ⊢
    try simp only
    rw [hga _ (by simp),hga _ (by simp)]
    (repeat' split at h)<;>cases h<;>simp [*]
   ·rename_i h1
    try simp only at h1
    subst h1
    unfold Q9s at h ⊢
    try simp only
    rw [hga _ (by simp),hga _ (by simp)]
    (repeat' split at h)<;>cases h<;>simp [*]
   ·simp at hi
   ·simp at hi
   ·cases h
  | value f=>simp at hi
  | invoke f g=>simp at hi
theorem X1b {T:Ty}{σ σ':St}{nm:Nat}{op:Op}(hg:∀ x∈op.operands,σ.get x=σ'.get x)(hh:σ.h=σ'.h):V0 T σ nm op=V0 T σ' nm op:=by
 cases op<;>simp only [V0]<;>simp [Op.operands] at hg
 case move=>simp [hg,hh]
 case assign=>simp [hg,hh]
 case pick=>obtain ⟨g1,g2,g3⟩:=hg;unfold X82;rw [g1,g2,g3,hh]
 case alloc=>unfold Z7q;rw [hh]
 case makeMap=>unfold Z41;rw [hh]
 case makeSlice=>obtain ⟨g1,g2⟩:=hg;unfold Z0p;rw [g1,g2,hh]
 case lookup=>obtain ⟨g1,g2⟩:=hg;unfold Z6l;rw [g1,g2,hh]
 case mapUpdate=>obtain ⟨g1,g2,g3⟩:=hg;unfold Z0o;rw [g1,g2,g3,hh]
 case box=>unfold V00;rw [hg,hh]
 case build t Q29=>
  unfold X1j
  have:(Q29.toList.map fun x=>(x.1,σ.get x.2))=Q29.toList.map fun x=>(x.1,σ'.get x.2):=List.map_congr_left fun x hx=>by rw [hg x.2 x.1 (by simpa using hx)]
  rw [this,hh]
 case buildSlice t n Q29=>
  unfold Q88
  have:(Q29.toList.map fun x=>(x.1,σ.get x.2))=Q29.toList.map fun x=>(x.1,σ'.get x.2):=List.map_congr_left fun x hx=>by rw [hg x.2 x.1 (by simpa using hx)]
  rw [this,hh]
 case load=>unfold Z8i;rw [hg,hh]
 case store=>obtain ⟨g1,g2⟩:=hg;unfold X1f;rw [g1,g2,hh]
 case nilCheck=>unfold Z1o;rw [hg,hh]
 case binOp=>obtain ⟨g1,g2⟩:=hg;unfold V01;rw [g1,g2,hh]
 case unOp=>unfold evUn;rw [hg,hh]
 case convert=>unfold Z43;rw [hg,hh]
 case makeFunc fn first caps=>
  have:caps.toList.map σ.get=caps.toList.map σ'.get:=List.map_congr_left fun x hx=>hg x (.inr (by simpa using hx))
  rw [this,hh]
 case fieldAddr=>unfold Z0r;rw [hg,hh]
 case field=>unfold X1h;rw [hg,hh]
 case indexAddr=>obtain ⟨g1,g2⟩:=hg;unfold Z0q;rw [g1,g2,hh]
 case index=>obtain ⟨g1,g2⟩:=hg;unfold X1g;rw [g1,g2,hh]
 case extract=>unfold Z42;rw [hg,hh]
 case slice t x lo hi mx=>
  rw [Z6k (σ:=σ) (σ':=σ') (fun y hy=>by
   have hy':y=x∨lo=some y∨hi=some y∨mx=some y:=by simpa [Op.operands,eq_comm] using hy
   rcases hy' with rfl | hy'
   ·exact hg.1
   ·exact hg.2 y hy')]
  cases hs:Z40 T σ' t x lo hi mx with
  | none=>rfl
  | some r=>
   have:r.h=σ'.h:=by unfold Z40 at hs;(repeat' split at hs)<;>cases hs<;>rfl
   rw [Option.map_some,hh,←this]
 case call c=>
  obtain ⟨callee,args,ts⟩:=c
  obtain ⟨args⟩:=args
  cases callee with
  | builtin b=>
   simp only
   have hga:∀ x∈args,σ.get x=σ'.get x:=fun x hx=>hg x (by simp [Call.operands,hx])
   unfold Z1s
   split
   ·rename_i h1 _
    simp only at h1
    subst h1
    unfold W9t
    rw [hga _ (by simp),hh]
   ·rename_i h1 _
    simp only at h1
    subst h1
    unfold Z6m St.src
    rw [hga _ (by simp),hga _ (by simp),hh]
   ·rename_i h1
    simp only at h1
    subst h1
    unfold Q9s
    rw [hga _ (by simp),hga _ (by simp),hh]
   ·rename_i h1
    simp only at h1
    subst h1
    unfold Q9s
    rw [hga _ (by simp),hga _ (by simp),hh]
   ·rename_i h1 _
    simp only at h1
    subst h1
    unfold X1i
    rw [hga _ (by simp),hh]
   ·rename_i h1 _
    simp only at h1
    subst h1
    unfold W9x
    rw [hga _ (by simp),hh]
   ·rfl
  | value f=>rfl
  | invoke f g=>rfl
theorem X72 {σ σ':St}(hh:σ.h=σ'.h){ks l:List Nat}{H:List Loc}(h:All2 (Q8p σ ks) l H):All2 (Q8p σ' ks) l H:=by
 induction h with
 | nil=>exact .nil
 | cons h _ ih=>exact .cons (by unfold Q8p at *;rw [←hh];exact h) ih
theorem X1u {P:Program}{σ σ':St}(hh:σ.h=σ'.h)(hn:σ.next=σ'.next){f:FuncId}{args:List D}{K:(Nat→Option Loc)→D→Prop}(h:Q8n P σ f args K):Q8n P σ' f args K:=by
 rcases h with h | h
 ·left
  unfold V9i at *
  rw [←hh]
  exact h
 ·rcases h with h | h
  ·right;left
   obtain ⟨a1,g1,b1,g2,hv,hno,ks,H,args',Q,h1,h2,h3,h4,h5⟩:=h
   exact ⟨a1,g1,b1,g2,by rw [←hh];exact hv,by rw [←hn];exact hno,ks,H,args',Q,h1,h2,X72 (σ:={ σ with h:=g2,next:=σ.next+1 }) (σ':={ σ' with h:=g2,next:=σ'.next+1 }) rfl h3,h4,by simp only [←hn];exact h5⟩
  ·right;right
   unfold V9j at *
   rw [←hh]
   exact h
def Q7a (T:Ty)(σ:St)(o:Oper)(K:(Nat→Option Loc)→D→Prop):Prop:=
 match V0 T σ σ.next o.op with
 | none=>False
 | some r=>r.ok∧K r.h r.d
def V9 (P:Program)(T:Ty)(σ:St)(o:Oper)(K:(Nat→Option Loc)→D→Prop):Prop:=
 match o.op with
 | .call c=>match c.callee with
  | .builtin _=>Q7a T σ o K
  | .value (.func f)=>Q8n P σ f (c.args.toList.map σ.get) K
  | .value (.tmp t)=>match σ.t t with
   | .clos f caps=>Q8n P σ f (c.args.toList.map σ.get++caps) K
   | _=>False
  | _=>False
 | .binOp .eql t x y _=>match σ.get y with
  | .nil=>Z8j T σ t (σ.get x) K
  | _=>Q7a T σ o K
 | _=>Q7a T σ o K
theorem Z3a {T:Ty}{σ:St}{o:Oper}{K:St→Prop}(hd:Q0o σ.n o.dst)(h:Q7a T σ o fun h' d=>K ({ σ with h:=h',next:=σ.next+8 }.put o.dst d)):Z1y T σ o K:=by
 unfold Q7a at h
 unfold Z1y
 split at h
 ·exact h.elim
 ·rename_i r hr
  simp only [hr]
  exact ⟨hd,h⟩
theorem W5l {P:Program}{T:Ty}{σ:St}{o:Oper}{K:St→Prop}(hd:Q0o σ.n o.dst)(h:V9 P T σ o fun h' d=>K ({ σ with h:=h',next:=σ.next+8 }.put o.dst d)):Y6 P T σ o K:=by
 unfold V9 at h
 unfold Y6
 split at h
 ·rename_i c hc
  simp only [hc]
  split at h
  ·rename_i hcal;simp only [hcal];exact Z3a hd h
  ·rename_i hcal;simp only [hcal];exact ⟨hd,h⟩
  ·rename_i hcal
   simp only [hcal]
   split at h
   ·rename_i ht;simp only [ht];exact ⟨hd,h⟩
   ·exact h.elim
  ·exact h.elim
 ·rename_i t x y t' ho
  simp only [ho]
  split at h
  ·rename_i hy;simp only [hy];exact ⟨hd,h⟩
  ·rename_i hy
   split
   ·rename_i hy2;exact absurd hy2 hy
   ·exact Z3a hd h
 ·rename_i hc hb
  split
  ·rename_i c hc2;exact absurd hc2 (hc c)
  ·rename_i t x y t' ho;exact absurd ho (hb t x y t')
  ·exact Z3a hd h
theorem X1p {P:Program}{T:Ty}{σ σ':St}{o:Oper}{K:(Nat→Option Loc)→D→Prop}(hg:∀ x∈o.op.operands,σ'.get x=σ.get x)(hh:σ.h=σ'.h)(hn:σ.next=σ'.next)(h:V9 P T σ o K):V9 P T σ' o K:=by
 have hs:Q7a T σ o K→Q7a T σ' o K:=fun h=>by
  unfold Q7a at *
  rw [X1b hg hh.symm,←hn]
  exact h
 cases ho:o.op with
 | call c=>
  simp only [V9,ho] at h ⊢
  simp only [ho,Op.operands] at hg
  have hargs:c.args.toList.map σ'.get=c.args.toList.map σ.get:=List.map_congr_left fun x hx=>hg x (by simp [Call.operands] at hx ⊢;exact .inr hx)
  cases hcal:c.callee with
  | builtin b=>simp only [hcal] at h ⊢;exact hs h
  | value f=>
   cases f with
   | func f=>simp only [hcal,hargs] at h ⊢;exact X1u hh hn h
   | tmp t=>
    have ht:σ'.t t=σ.t t:=hg (.tmp t) (by simp [Call.operands,hcal])
    simp only [hcal,hargs,ht] at h ⊢
    split at h
    ·rename_i hcl;exact X1u hh hn h
    ·exact h.elim
   | _=>simp only [hcal] at h
  | invoke f g=>simp only [hcal] at h
 | binOp op t x y t'=>
  cases op with
  | eql=>
   simp only [V9,ho] at h ⊢
   have hx:σ'.get x=σ.get x:=hg x (by simp [ho,Op.operands])
   have hy:σ'.get y=σ.get y:=hg y (by simp [ho,Op.operands])
   rw [hy]
   split at h
   ·simp only [Z8j,hx,←hh] at h ⊢;exact h
   ·exact hs h
  | _=>simp only [V9,ho] at h ⊢;exact hs h
 | _=>simp only [V9,ho] at h ⊢;exact hs h
def St.hide (R:List Nat)(σ:St):St:={ σ with h:=fun k=>if k∈R then σ.h k else none }
def zone:Nat:=1048576
def Z8s (o:Oper):Bool:=o.guard.isNone&&match o.op,o.dst with
 | .alloc _,some _=>true
 | .buildSlice ..,some _=>true
 | _,_=>false
def Q0b (o:Oper):Nat:=zone+o.dst.getD 0
def mk (Z:List Nat)(o:Oper):Bool:=Z8s o&&Z.contains (Q0b o)
theorem Z12 {Z:List Nat}{o:Oper}(h:mk Z o=true):Z8s o=true:=by unfold mk at h;simp only [Bool.and_eq_true] at h;exact h.1
theorem X3c {Z:List Nat}{o:Oper}(h:mk Z o=true):Q0b o∈Z:=by unfold mk at h;simp only [Bool.and_eq_true] at h;simpa using h.2
def soft (pd:List Nat)(o:Oper):Bool:=Z4t o.op&&match o.dst with
 | some s=>!pd.contains s
 | none=>true
def Z6i (X:List Nat):Op→Bool
 | .store _ (.tmp s) _=>X.contains s
 | .call c=>match c.callee with
  | .value (.func f)=>X.contains (1000000+f)
  | _=>false
 | _=>false
theorem Q9y {pd:List Nat}{o:Oper}(h:soft pd o=true):Z4t o.op=true:=by
 unfold soft at h;simp only [Bool.and_eq_true] at h;exact h.1
def opA0 (P:Program)(T:Ty)(R Z pd X:List Nat)(σ:St)(o:Oper)(K:St→Prop):Prop:=
 Q0o σ.n o.dst∧if soft pd o=true then match V0 T (σ.hide R) σ.next o.op with
   | none=>False
   | some r=>r.ok∧K (σ.put o.dst r.d)
  else if mk Z o=true then match V0 T σ (Q0b o) o.op with
   | none=>False
   | some r=>r.ok∧K ({ σ with h:=r.h }.put o.dst r.d)
  else V9 P T σ o fun h' d=>(Z6i X o.op=true∨∀ k∈R,h' k=σ.h k∨σ.h k=none)∧(∀ k∈Z,σ.h k=none→h' k=none)∧K ({ σ with h:=h',next:=σ.next+8 }.put o.dst d)
def opA (P:Program)(T:Ty)(R Z pd X:List Nat)(ops:Array Oper)(σ:St)(o:Oper)(K:St→Prop):Prop:=
 match o.guard with
 | none=>opA0 P T R Z pd X σ o K
 | some (j,want)=>Z5c (Z0l ops σ j want) (opA0 P T R Z pd X σ o K) (Q0o σ.n o.dst∧K (σ.put o.dst (.val undef))) ⟨⟩ ⟨⟩
def runA (P:Program)(T:Ty)(R Z pd X:List Nat)(ops:Array Oper):List Nat→St→(St→Prop)→Prop
 | [],σ,K=>K σ
 | i::is,σ,K=>match ops[i]? with
  | none=>False
  | some o=>opA P T R Z pd X ops σ o fun σ'=>runA P T R Z pd X ops is σ' K
def Yld (T:Ty)(R:List Nat)(σ:St)(o:Oper)(d:D):Prop:=
 Q0o σ.n o.dst∧∃ r,V0 T (σ.hide R) σ.next o.op=some r∧r.ok∧d=r.d
theorem Z9a {P:Program}{T:Ty}{R Z pd X:List Nat}{σ:St}{o:Oper}{K:St→Prop}(hi:soft pd o=true):opA0 P T R Z pd X σ o K↔∃ d,Yld T R σ o d∧K (σ.put o.dst d):=by
 unfold opA0 Yld
 simp only [hi,if_true]
 constructor
 ·rintro ⟨hd,h⟩
  split at h
  ·exact h.elim
  ·rename_i r hr
   exact ⟨_,⟨hd,r,hr,h.1,rfl⟩,h.2⟩
 ·rintro ⟨d,⟨hd,r,hr,hok,rfl⟩,hK⟩
  simp only [hr]
  exact ⟨hd,hok,hK⟩
def YldG (T:Ty)(R:List Nat)(ops:Array Oper)(σ:St)(o:Oper)(d:D):Prop:=
 match o.guard with
 | none=>Yld T R σ o d
 | some (j,want)=>(Z0l ops σ j want=some true∧Yld T R σ o d)∨(Z0l ops σ j want=some false∧Q0o σ.n o.dst∧d=.val undef)
theorem X0g {P:Program}{T:Ty}{R Z pd X:List Nat}{ops:Array Oper}{σ:St}{o:Oper}{K:St→Prop}(hi:soft pd o=true):opA P T R Z pd X ops σ o K↔∃ d,YldG T R ops σ o d∧K (σ.put o.dst d):=by
 unfold opA YldG
 cases hg:o.guard with
 | none=>exact Z9a hi
 | some gw=>
  obtain ⟨j,want⟩:=gw
  simp only
  constructor
  ·intro h
   unfold Z5c at h
   split at h
   ·exact h.elim
   ·rename_i hge
    obtain ⟨d,h1,h2⟩:=(Z9a hi).1 h
    exact ⟨d,.inl ⟨hge,h1⟩,h2⟩
   ·rename_i hge
    exact ⟨_,.inr ⟨hge,h.1,rfl⟩,h.2⟩
  ·rintro ⟨d,⟨hge,h1⟩ | ⟨hge,h1,rfl⟩,hK⟩
   ·simp only [hge,Z7e]
    exact (Z9a hi).2 ⟨d,h1,hK⟩
   ·simp only [hge,Z5b]
    exact ⟨h1,hK⟩
def X8j (ops:Array Oper)(o:Oper)(σ σ':St):Prop:=(∀ x∈o.op.operands,σ.get x=σ'.get x)∧∀ j w,o.guard=some (j,w)→∀ d,(ops[j]?).bind (·.dst)=some d→σ.t d=σ'.t d
theorem X8j.symm {ops:Array Oper}{o:Oper}{σ σ':St}(h:X8j ops o σ σ'):X8j ops o σ' σ:=⟨fun x hx=>(h.1 x hx).symm,fun j w hg d hd=>(h.2 j w hg d hd).symm⟩
theorem Z15 {ops:Array Oper}{o:Oper}{σ σ':St}{dst:Option Tmp}(hl:∀ d,dst=some d→d∉o.looksAt ops)(ht:∀ s,dst≠some s→σ'.t s=σ.t s):X8j ops o σ σ':=by
 refine ⟨fun x hx=>?_,fun j w hg d hd=>?_⟩
 ·cases x with
  | tmp t=>
   refine (ht t fun e=>hl t e ?_).symm
   exact List.mem_append_left _ (List.mem_filterMap.2 ⟨.tmp t,by simpa using hx,rfl⟩)
  | _=>rfl
 ·refine (ht d fun e=>hl d e ?_).symm
  refine List.mem_append_right _ ?_
  simp only [hg,hd]
  simp
theorem Z3x {ops:Array Oper}{o:Oper}{σ σ':St}(h:X8j ops o σ σ'){j:Nat}{w:Bool}(hg:o.guard=some (j,w)):Z0l ops σ' j w=Z0l ops σ j w:=by
 unfold Z0l
 cases hd:(ops[j]?).bind (·.dst) with
 | none=>rfl
 | some d=>simp only [h.2 j w hg d hd]
theorem Yld.agree {T:Ty}{R:List Nat}{ops:Array Oper}{σ σ':St}{o:Oper}{d:D}(h:Yld T R σ o d)(hi:Z4t o.op=true)(ha:X8j ops o σ σ')(hh:Z5x o.op=true→∀ k∈R,σ'.h k=σ.h k∨σ.h k=none)(hn:σ'.n=σ.n):Yld T R σ' o d:=by
 have hm:Z5x o.op=true→∀ k L,(σ.hide R).h k=some L→(σ'.hide R).h k=some L:=fun hr k L hk=>by
  simp only [St.hide] at hk ⊢
  split at hk
  ·rename_i hkR
   rcases hh hr k hkR with e | e
   ·rw [if_pos hkR,e];exact hk
   ·rw [e] at hk;cases hk
  ·cases hk
 have hgx:∀ x∈o.op.operands,(σ'.hide R).get x=(σ.hide R).get x:=fun x hx=>by
  have:=(ha.1 x hx).symm
  cases x<;>exact this
 unfold Yld at *
 obtain ⟨hd,h⟩:=h
 refine ⟨by rw [hn];exact hd,?_⟩
 obtain ⟨r,hr,hok,rfl⟩:=h
 exact ⟨_,Z2q hgx hm hi hr,hok,rfl⟩
theorem YldG.agree {T:Ty}{R:List Nat}{ops:Array Oper}{σ σ':St}{o:Oper}{d:D}(h:YldG T R ops σ o d)(hi:Z4t o.op=true)(ha:X8j ops o σ σ')(hh:Z5x o.op=true→∀ k∈R,σ'.h k=σ.h k∨σ.h k=none)(hn:σ'.n=σ.n):YldG T R ops σ' o d:=by
 unfold YldG at *
 cases hg:o.guard with
 | none=>simp only [hg] at h ⊢;exact h.agree hi ha hh hn
 | some gw=>
  obtain ⟨j,want⟩:=gw
  simp only [hg] at h ⊢
  rw [Z3x ha hg,hn]
  rcases h with ⟨h1,h2⟩ | h
  ·exact .inl ⟨h1,h2.agree hi ha hh hn⟩
  ·exact .inr h
theorem Z1u {P:Program}{T:Ty}{σ:St}{o:Oper}{K K':(Nat→Option Loc)→D→Prop}(hK:∀ h d,K h d→K' h d)(h:V9 P T σ o K):V9 P T σ o K':=by
 have hx:∀ f args,Q8n P σ f args K→Q8n P σ f args K':=fun f args h=>by
  rcases h with ⟨a1,a2,h',Q,c1,c2,c3,c4,c5⟩ | ⟨a1,h1,b1,h2,hv,hn,ks,H,a',Q,c1,c2,c3,c4,c5⟩ | ⟨a1,a2,h',Q,c1,c2,c3,c4,c5⟩
  ·exact .inl ⟨a1,a2,h',Q,c1,c2,c3,c4,fun r hr=>hK _ _ (c5 r hr)⟩
  rotate_left
  ·exact .inr (.inr ⟨a1,a2,h',Q,c1,c2,c3,c4,fun r hr=>⟨(c5 r hr).1,hK _ _ (c5 r hr).2⟩⟩)
  ·refine .inr (.inl ⟨a1,h1,b1,h2,hv,hn,ks,H,a',Q,c1,c2,c3,c4,fun H' r hq=>?_⟩)
   obtain ⟨e1,Hs,r',e2,e3,e4⟩:=c5 H' r hq
   exact ⟨e1,Hs,r',e2,e3,hK _ _ e4⟩
 have hs:Q7a T σ o K→Q7a T σ o K':=fun h=>by
  unfold Q7a at *
  split at h
  ·exact h.elim
  ·exact ⟨h.1,hK _ _ h.2⟩
 unfold V9 at *
 split at h
 ·split at h
  ·exact hs h
  ·exact hx _ _ h
  ·split at h
   ·exact hx _ _ h
   ·exact h.elim
  ·exact h.elim
 ·split at h
  ·unfold Z8j at *
   split at h
   ·split at h
    ·split at h
     ·exact fun b hb=>hK _ _ (h b hb)
     ·exact h.elim
    ·exact h.elim
   ·exact h.elim
  ·exact hs h
 ·exact hs h
theorem Z10 {σ:St}{dst:Option Tmp}{d:D}{s:Nat}(h:dst≠some s):(σ.put dst d).t s=σ.t s:=by
 cases dst with
 | none=>rfl
 | some q=>
  have:s≠q:=fun e=>h (by rw [e])
  simp [St.put,this]
@[simp] theorem Y37 (σ:St) (dst:Option Tmp) (d:D):(σ.put dst d).h=σ.h:=by cases dst<;>rfl
@[simp] theorem V2j (σ:St) (dst:Option Tmp) (d:D):(σ.put dst d).next=σ.next:=by cases dst<;>rfl
@[simp] theorem put_n (σ:St) (dst:Option Tmp) (d:D):(σ.put dst d).n=σ.n:=by cases dst<;>rfl
theorem W1u (σ:St){x y:Option Tmp}(v u:D)(h:Nat→Option Loc)(nx:Nat)(hne:∀ d,x=some d→y≠some d) :
  ({ σ.put x v with h:=h,next:=nx } : St).put y u=({ σ with h:=h,next:=nx }.put y u).put x v:=by
 cases x with
 | none=>rfl
 | some d=>
  cases y with
  | none=>rfl
  | some e=>
   have hne:d≠e:=fun he=>hne d rfl (he▸rfl)
   simp only [St.put]
   congr 1
   funext i
   simp only [Z4c]
   by_cases h1:i=e
   ·by_cases h2:i=d
    ·exact absurd (h2.symm.trans h1) hne
    ·subst h1;simp [h2]
   ·simp [h1]
theorem X6t (σ:St){x y:Option Tmp}(v u:D)(hne:∀ d,x=some d→y≠some d):(σ.put x v).put y u=(σ.put y u).put x v:=by
 have:=W1u σ v u σ.h σ.next hne
 cases x<;>exact this
theorem Q28 {h:Nat→Option Loc}{k z:Nat}{x y:Option Loc}(hne:k≠z):updL (updL h k x) z y=updL (updL h z y) k x:=by
 funext i
 simp only [W3]
 by_cases h1:i=z
 ·by_cases h2:i=k
  ·exact absurd (h2.symm.trans h1) hne
  ·subst h1;simp [h2]
 ·simp [h1]
theorem X53 {T:Ty}{σ:St}{nm:Nat}{op:Op}{r:Res}(hi:Z4t op=true)(h:V0 T σ nm op=some r):r.h=σ.h:=by
 have:=Z2q (σ:=σ) (σ':=σ) (nm':=nm) (fun _ _=>rfl) (fun _ _ _ h=>h) hi h
 rw [h] at this
 have:=Option.some.inj this
 rw [this]
theorem W6z {σ:St}{z:Nat}{Lz:Loc}(hz:σ.h z=none){size:Nat}{d:D}{x:Prop×List (List D)}(h:σ.src size d=some x):({ σ with h:=updL σ.h z (some Lz) } : St).src size d=some x:=by
 cases d<;>simp only [St.src] at h ⊢<;>(try exact h)
 case sl sz k n=>
  cases hk:σ.h k with
  | none=>simp [hk] at h
  | some L=>
   have:k≠z:=fun e=>by subst e;rw [hz] at hk;cases hk
   simp only [hk] at h
   simp only [W3,this,if_false,hk]
   exact h
theorem W0p {T:Ty}{σ:St}{z nm:Nat}{Lz:Loc}{op:Op}{r:Res}(hz:σ.h z=none)(hne:nm≠z)(h:V0 T σ nm op=some r) :
  V0 T { σ with h:=updL σ.h z (some Lz) } nm op=some ⟨r.ok,r.d,updL r.h z (some Lz)⟩:=by
 have hget:∀ x,({ σ with h:=updL σ.h z (some Lz) } : St).get x=σ.get x:=fun x=>by cases x<;>rfl
 by_cases hi:Z4t op=true
 ·rw [X53 hi h]
  exact Z2q (fun x _=>hget x) (fun _ k L hk=>by
   have:k≠z:=fun e=>by subst e;rw [hz] at hk;cases hk
   simp only [W3,this,if_false]
   exact hk) hi h
 ·have hmap:∀ l:List (Nat×Operand),(l.map fun x=>(x.1,({ σ with h:=updL σ.h z (some Lz) } : St).get x.2))=l.map fun x=>(x.1,σ.get x.2):=fun l=>List.map_congr_left fun x _=>by rw [hget]
  cases op<;>simp only [Z4t] at hi<;>(try (first | exact absurd rfl hi | exact absurd trivial hi))<;>simp only [V0] at h ⊢<;>(try (cases h;done))
  case alloc=>
   unfold Z7q at h ⊢
   split at h<;>cases h
   rename_i hT
   simp only [hT,Q28 hne]
  case box=>
   unfold V00 at h ⊢
   rw [hget]
   split at h<;>cases h
   rename_i hT
   simp only [hT,Q28 hne]
  case buildSlice=>
   unfold Q88 at h ⊢
   rw [hmap]
   (repeat' split at h)<;>cases h<;>simp [*,Q28 hne]
  case store t x y=>
   unfold X1f at h ⊢
   rw [hget x,hget y]
   cases hT:T t with
   | none=>simp [hT] at h
   | some i=>
    simp only [hT] at h ⊢
    cases hx:σ.get x<;>simp only [hx] at h ⊢<;>(try (cases h;done))
    case ptr sz k r' j=>
     cases hk:σ.h k with
     | none=>simp [hk] at h
     | some L=>
      have hkz:k≠z:=fun e=>by subst e;rw [hz] at hk;cases hk
      simp only [hk] at h
      simp only [W3,hkz,if_false,hk]
      cases hf:(σ.get y).flat with
      | none=>simp [hf] at h
      | some ds=>
       simp only [hf] at h ⊢
       cases h
       rw [Q28 hkz]
  case makeSlice t x y=>
   unfold Z0p at h ⊢
   rw [hget x,hget y]
   (repeat' split at h)<;>cases h<;>simp [*,Q28 hne]
  case makeMap t r'=>
   unfold Z41 at h ⊢
   (repeat' split at h)<;>cases h<;>simp [*,Q28 hne]
  case lookup t x y ok=>
   unfold Z6l at h ⊢
   rw [hget x,hget y]
   repeat' split at h
   all_goals cases h
   rename_i k s' _ _ _ L hk _ l hl
   have hkz:k≠z:=fun e=>by subst e;simp_all
   simp [*]
  case mapUpdate t x y v=>
   unfold Z0o at h ⊢
   rw [hget x,hget y,hget v]
   repeat' split at h
   all_goals cases h
   rename_i k s' v' _ _ _ _ L hk _ l hl
   have hkz:k≠z:=fun e=>by subst e;simp_all
   simp [*,Q28 hkz]
  case makeFunc fn first caps=>
   have:caps.toList.map ({ σ with h:=updL σ.h z (some Lz) } : St).get=caps.toList.map σ.get:=List.map_congr_left fun x _=>hget x
   rw [this]
   split at h<;>cases h
   rfl
  case call c=>
   obtain ⟨callee,args,ts⟩:=c
   obtain ⟨args⟩:=args
   obtain ⟨ts⟩:=ts
   cases callee with
   | builtin b=>
    simp only at h ⊢
    unfold Z1s at h ⊢
    split at h
    ·first | exact absurd rfl hi | exact absurd trivial hi | simp at hi
    ·rename_i x y t t' h1 h2
     try simp only at h1 h2
     subst h1
     subst h2
     unfold Z6m at h ⊢
     try simp only
     rw [hget x,hget y]
     cases hT:T t with
     | none=>simp [hT] at h
     | some i=>
      simp only [hT] at h ⊢
      cases hk:i.kind<;>simp only [hk] at h ⊢<;>(try (cases h;done))
      case slice e=>
       cases hTe:T e with
       | none=>simp [hTe] at h
       | some ie=>
        simp only [hTe] at h ⊢
        cases hs:σ.src ie.size (σ.get y) with
        | none=>
         have hs2:({ σ with h:=updL σ.h z (some Lz) } : St).src ie.size (σ.get y)=none:=by
          cases hy:σ.get y with
          | sl sz k n=>
           rw [hy] at hs h
           rw [hs] at h
           (repeat' split at h)<;>simp_all
          | _=>rw [hy] at hs;simp [St.src] at hs ⊢
         simp only [hs] at h
         simp only [hs2]
         (repeat' split at h)<;>cases h<;>simp [*,Q28 hne]
        | some qr=>
         obtain ⟨q,rows⟩:=qr
         simp only [hs] at h
         simp only [W6z hz hs]
         cases hx:σ.get x<;>simp only [hx] at h ⊢<;>(try (cases h;done))
         case nil=>
          cases h
          rw [Q28 hne]
         case sl sz k n=>
          cases hkk:σ.h k with
          | none=>simp [hkk] at h
          | some L=>
           have hkz:k≠z:=fun e=>by subst e;rw [hz] at hkk;cases hkk
           simp only [hkk] at h
           simp only [W3,hkz,if_false,hkk]
           cases h
           rw [Q28 hne,Q28 hkz]
    ·first | exact absurd rfl hi | exact absurd trivial hi | simp at hi
    ·first | exact absurd rfl hi | exact absurd trivial hi | simp at hi
    ·rename_i x t h1 h2
     try simp only at h1 h2
     subst h1
     subst h2
     unfold X1i at h ⊢
     try simp only
     rw [hget x]
     repeat' split at h
     all_goals cases h
     rename_i _ k _ _ _ _ L hk
     have hkz:k≠z:=fun e=>by subst e;rw [hz] at hk;cases hk
     simp [*,Q28 hkz]
    ·rename_i x t h1 h2
     try simp only at h1 h2
     subst h1
     subst h2
     unfold W9x at h ⊢
     try simp only
     rw [hget x]
     (repeat' split at h)<;>cases h<;>simp [*]
    ·cases h
   | value f=>simp only at h;cases h
   | invoke f g=>simp only at h;cases h
theorem View.frame {h h':Nat→Option Loc}{d d':D}(hv:View h d d' h'){z:Nat}{Lz:Loc} : h z=Option.none→View (updL h z (Option.some Lz)) d d' (updL h' z (Option.some Lz)):=by
 have ne:∀ {h:Nat→Option Loc} {k:Nat} {L:Loc},h z=Option.none→h k=Option.some L→k≠z:=fun hz hk e=>by subst e;rw [hz] at hk;cases hk
 induction hv with
 | same h d=>exact fun _=>.same _ _
 | sl h sz k n L hk hs hn hf=>
  intro hz
  rw [Q28 (ne hz hk)]
  exact .sl _ _ _ _ L (by simp [ne hz hk,hk]) hs hn hf
 | ptr h sz k i j L row hk hs hr hf=>
  intro hz
  rw [Q28 (ne hz hk)]
  exact .ptr _ _ _ _ _ L row (by simp [ne hz hk,hk]) hs hr hf
 | agg h h' ds i d d' hi _ ih=>exact fun hz=>.agg _ _ _ _ _ _ hi (ih hz)
 | clos h h' f ds i d d' hi _ ih=>exact fun hz=>.clos _ _ _ _ _ _ _ hi (ih hz)
 | trans h h' h'' d d' d'' hv _ ih1 ih2=>exact fun hz=>.trans _ _ _ _ _ _ (ih1 hz) (ih2 (hv.none z hz))
 | cell h h1 x n i j L row d d' hn hr hd hs hv hn1 ih=>
  intro hz
  have hzn:=ne hz hn
  rw [Q28 hzn]
  exact .cell _ _ x n i j L row d d' (by simp [hzn,hn]) hr hd hs (ih hz) (by simp [hzn,hn1])
theorem Q7y.frame:∀ {h h':Nat→Option Loc} {l l':List D} (_:Q7y h l l' h') {z:Nat} {Lz:Loc},h z=Option.none→Q7y (updL h z (Option.some Lz)) l l' (updL h' z (Option.some Lz))
 | _,_,_,_,.nil _,_,_,_=>.nil _
 | _,_,_,_,.cons hv ht,z,Lz,hz=>.cons (hv.frame hz) (Q7y.frame ht (hv.none z hz))
theorem Z5r {h:Nat→Option Loc}{z:Nat}{x:Option Loc} : ∀ (l:List Nat) (Hs:List (Option Loc)),z∉l→Q26 (updL h z x) l Hs=updL (Q26 h l Hs) z x
 | [],_,_=>by simp [Q26]
 | k::ks,[],_=>by simp [Q26]
 | k::ks,y::ys,hn=>by
  simp only [U8,not_or] at hn
  simp only [Q26]
  rw [←Q28 (fun e=>hn.1 e.symm),Z5r ks ys hn.2]
theorem X1t {P:Program}{σ:St}{f:FuncId}{args:List D}{K:(Nat→Option Loc)→D→Prop}{z:Nat}{Lz:Loc}(hz:σ.h z=none)(hlt:z<σ.next)(h:Q8n P σ f args K) :
  Q8n P { σ with h:=updL σ.h z (some Lz) } f args (fun h' d=>∃ h0,h'=updL h0 z (some Lz)∧K h0 d):=by
 rcases h with ⟨a1,a2,h',Q,c1,c2,c3,c4,c5⟩ | ⟨a1,h1,b1,h2,hv,hn,ks,H,a',Q,c1,c2,c3,c4,c5⟩ | ⟨a1,a2,h',Q,c1,c2,c3,c4,c5⟩
 ·exact .inl ⟨a1,a2,updL h' z (some Lz),Q,c1,c2.frame hz,c3,c4,fun r hr=>⟨h',rfl,c5 r hr⟩⟩
 ·have hz1:=hv.none z hz
  have hz2:h2 z=none∧X8h σ.next (updL h1 z (some Lz)) a1 b1 (updL h2 z (some Lz)):=by
   cases hn with
   | same=>exact ⟨hz1,.same _ _⟩
   | own l1 l2 sz el=>
    have hne:σ.next≠z:=by omega
    refine ⟨by simp [Ne.symm hne,hz1],?_⟩
    rw [Q28 hne]
    exact .own _ _ _ _ _
  have hloc:∀ (l:List Nat) (Hl:List Loc),All2 (Q8p { σ with h:=h2,next:=σ.next+1 } ks) l Hl→All2 (Q8p { σ with h:=updL h2 z (some Lz),next:=σ.next+1 } ks) l Hl:=fun l Hl hl=>by
   induction hl with
   | nil=>exact .nil
   | cons hx _ ih=>
    obtain ⟨L,g1,g2⟩:=hx
    refine .cons ⟨L,?_,g2⟩ ih
    have g1':h2 _=some L:=g1
    simp only [W3]
    rw [if_neg (fun e=>by rw [e,hz2.1] at g1';cases g1')]
    exact g1'
  refine .inr (.inl ⟨a1,updL h1 z (some Lz),b1,updL h2 z (some Lz),hv.frame hz,hz2.2,ks,H,a',Q,c1,c2,hloc _ _ c3,c4,fun H' r hq=>?_⟩)
  obtain ⟨e1,Hs,r',e2,e3,e4⟩:=c5 H' r hq
  refine ⟨e1,Hs,r',e2,e3,_,Z5r _ _ ?_,e4⟩
  intro hmem
  rcases U9.1 hmem with hm | hm
  ·obtain ⟨i,hi⟩:=List.mem_iff_getElem?.1 hm
   obtain ⟨g1,g2⟩:=Q5v c3
   have hlt2:i<H.length:=by have:=(List.getElem?_eq_some_iff.1 hi).1;omega
   obtain ⟨L,g3,_⟩:=g2 i z H[i] hi (by simp [hlt2])
   have g3':h2 z=some L:=g3
   rw [hz2.1] at g3'
   cases g3'
  ·have:=Z3k hm
   simp only at this
   omega
 ·exact .inr (.inr ⟨a1,a2,updL h' z (some Lz),Q,c1,c2.frame hz,c3,c4,fun r hr=>⟨(c5 r hr).1,σ.h,rfl,(c5 r hr).2⟩⟩)
theorem W14 {P:Program}{T:Ty}{σ:St}{o:Oper}{K:(Nat→Option Loc)→D→Prop}{z:Nat}{Lz:Loc}(hz:σ.h z=none)(hlt:z<σ.next)(h:V9 P T σ o K) :
  V9 P T { σ with h:=updL σ.h z (some Lz) } o (fun h' d=>∃ h0,h'=updL h0 z (some Lz)∧K h0 d):=by
 have hget:∀ x,({ σ with h:=updL σ.h z (some Lz) } : St).get x=σ.get x:=fun x=>by cases x<;>rfl
 have hs:Q7a T σ o K→Q7a T { σ with h:=updL σ.h z (some Lz) } o (fun h' d=>∃ h0,h'=updL h0 z (some Lz)∧K h0 d):=fun h=>by
  unfold Q7a at h ⊢
  split at h
  ·exact h.elim
  ·rename_i r hr
   rw [W0p hz (by omega) hr]
   exact ⟨h.1,_,rfl,h.2⟩
 have hargs:∀ l:List Operand,l.map ({ σ with h:=updL σ.h z (some Lz) } : St).get=l.map σ.get:=fun l=>List.map_congr_left fun x _=>hget x
 unfold V9 at h ⊢
 split at h
 ·split at h
  ·exact hs h
  ·rw [hargs];exact X1t hz hlt h
  ·split at h
   ·rename_i hcl
    simp only [hcl,hargs]
    exact X1t hz hlt h
   ·exact h.elim
  ·exact h.elim
 ·rw [hget]
  split at h
  ·rename_i hy
   try simp only [hy]
   rw [hget]
   unfold Z8j at h ⊢
   split at h
   ·split at h
    ·split at h
     ·exact fun b hb=>⟨σ.h,rfl,h b hb⟩
     ·exact h.elim
    ·exact h.elim
   ·exact h.elim
  ·exact hs h
 ·exact hs h
theorem X3g {o:Oper}(h:Z8s o=true):o.guard=none∧(∃ x,o.dst=some x)∧∀ pd,soft pd o=false:=by
 unfold Z8s at h
 simp only [Bool.and_eq_true,Option.isNone_iff_eq_none] at h
 obtain ⟨h1,h2⟩:=h
 refine ⟨h1,?_,fun pd=>?_⟩
 ·split at h2
  ·exact ⟨_,‹_›⟩
  ·exact ⟨_,‹_›⟩
  ·cases h2
 ·unfold soft
  split at h2
  ·rename_i ho hd;simp [ho,Z4t]
  ·rename_i ho hd;simp [ho,Z4t]
  ·cases h2
theorem X71 {X:List Nat}{o:Oper}(h:Z8s o=true):Z6i X o.op=false:=by
 unfold Z8s at h
 simp only [Bool.and_eq_true] at h
 have h2:=h.2
 split at h2
 ·rename_i ho _;rw [ho];rfl
 ·rename_i ho _;rw [ho];rfl
 ·cases h2
theorem Z66 {T:Ty}{σ τ:St}{o:Oper}{z:Nat}{r:Res}(hm:Z8s o=true)(h:V0 T τ z o.op=some r)(hg:∀ y∈o.op.operands,σ.get y=τ.get y) :
  ∃ L,r.h=updL τ.h z (some L)∧V0 T σ z o.op=some ⟨r.ok,r.d,updL σ.h z (some L)⟩:=by
 unfold Z8s at hm
 simp only [Bool.and_eq_true] at hm
 have h2:=hm.2
 split at h2
 ·rename_i t x ho hd
  rw [ho] at h ⊢
  simp only [V0] at h ⊢
  unfold Z7q at h ⊢
  split at h<;>cases h
  rename_i hT
  exact ⟨_,rfl,by simp only [hT]⟩
 ·rename_i t len Q29 x ho hd
  rw [ho] at h hg ⊢
  simp only [V0] at h ⊢
  unfold Q88 at h ⊢
  have:(Q29.toList.map fun x=>(x.1,σ.get x.2))=Q29.toList.map fun x=>(x.1,τ.get x.2):=List.map_congr_left fun x hx=>by
   rw [hg x.2 (by simp [Op.operands];exact ⟨x.1,by simpa using hx⟩)]
  rw [this]
  (repeat' split at h)<;>cases h
  refine ⟨_,rfl,by simp [*]⟩
 ·cases h2
theorem X9q {T:Ty}{σ:St}{o:Oper}{z:Nat}{r:Res}(hm:Z8s o=true)(h:V0 T σ z o.op=some r)(k:Nat)(hk:k≠z):r.h k=σ.h k:=by
 obtain ⟨L,e,_⟩:=Z66 (σ:=σ) hm h (fun _ _=>rfl)
 rw [e]
 simp [hk]
theorem W1x {P:Program}{T:Ty}{R Z pd X:List Nat}{ops:Array Oper}{σ:St}{p o:Oper}{K:St→Prop}(hi:soft pd p=true)(hap:p.apart ops o=true)(hZ:mk Z o=true→Q0b o∉R)(hex:Z6i X o.op=false∨Z5x p.op=false)
  (h:opA P T R Z pd X ops σ p fun σ1=>opA P T R Z pd X ops σ1 o K):opA P T R Z pd X ops σ o fun σ1=>opA P T R Z pd X ops σ1 p K:=by
 obtain ⟨s1,s2,s3⟩:=Oper.apart_spec hap
 rw [X0g hi] at h
 obtain ⟨d,hy,h⟩:=h
 have ha:X8j ops o (σ.put p.dst d) σ:=(Z15 s1 (fun s hs=>Z10 hs)).symm
 by_cases ho:soft pd o=true
 ·rw [X0g ho] at h ⊢
  obtain ⟨u,hu,hK⟩:=h
  refine ⟨u,hu.agree (Q9y ho) ha (fun _ k _=>by simp) (by simp),?_⟩
  rw [X0g hi]
  refine ⟨d,hy.agree (Q9y hi) (Z15 s3 (fun s hs=>Z10 hs)) (fun _ k _=>by simp) (by simp),?_⟩
  rw [←X6t σ d u s2]
  exact hK
 ·generalize hK':(fun σ1=>opA P T R Z pd X ops σ1 p K)=K'
  have fin':∀ (h':Nat→Option Loc) (nx:Nat) (u:D),(Z5x p.op=true→∀ k∈R,h' k=σ.h k∨σ.h k=none)→K ({ σ.put p.dst d with h:=h',next:=nx }.put o.dst u)→K' ({ σ with h:=h',next:=nx }.put o.dst u):=fun h' nx u hR hK=>by
   rw [←hK']
   show opA P T R Z pd X ops ({ σ with h:=h',next:=nx }.put o.dst u) p K
   rw [X0g hi]
   refine ⟨d,hy.agree (Q9y hi) (Z15 s3 (fun s hs=>by rw [Z10 hs])) (fun hrd k hk=>by simpa using hR hrd k hk) (by simp),?_⟩
   rw [←W1u σ d u h' nx s2]
   exact hK
  have fin2:K ((σ.put p.dst d).put o.dst (.val undef))→K' (σ.put o.dst (.val undef)):=fun hK=>by
   rw [←hK']
   show opA P T R Z pd X ops (σ.put o.dst (.val undef)) p K
   rw [X0g hi]
   refine ⟨d,hy.agree (Q9y hi) (Z15 s3 (fun s hs=>by rw [Z10 hs])) (fun _ k hk=>by simp) (by simp),?_⟩
   rw [←X6t σ d _ s2]
   exact hK
  have core:opA0 P T R Z pd X (σ.put p.dst d) o K→opA0 P T R Z pd X σ o K':=fun h=>by
   unfold opA0 at h ⊢
   simp only [ho] at h ⊢
   refine ⟨by simpa using h.1,?_⟩
   have h2:=h.2
   by_cases hm:mk Z o=true
   ·simp only [hm,if_true,U2,if_false] at h2 ⊢
    rw [X1b (σ':=σ) (fun x hx=>ha.1 x hx) (by simp)] at h2
    cases hev:V0 T σ (Q0b o) o.op with
    | none=>rw [hev] at h2;exact h2.elim
    | some r=>
     rw [hev] at h2
     refine ⟨h2.1,?_⟩
     have e:({ σ with h:=r.h } : St) = { σ with h:=r.h,next:=σ.next }:=rfl
     rw [e]
     refine fin' r.h σ.next r.d (fun _ k hk=>?_) ?_
     ·have hkn:k≠Q0b o:=fun e=>hZ hm (e▸hk)
      exact .inl (X9q (Z12 hm) hev k hkn)
     ·have e2:({ σ.put p.dst d with h:=r.h,next:=σ.next } : St) = { σ.put p.dst d with h:=r.h }:=by
       cases p.dst<;>rfl
      rw [e2]
      exact h2.2
   ·simp only [hm,U2,if_false] at h2 ⊢
    refine Z1u (fun h' u hh=>?_) (X1p (fun x hx=>(ha.1 x hx).symm) (by simp) (by simp) h2)
    simp only [Y37,V2j] at hh
    exact ⟨hh.1,hh.2.1,fin' h' (σ.next+8) u (fun hrd=>hh.1.resolve_left (by rcases hex with hex | hex;rw [hex];decide;rw [hex] at hrd;cases hrd)) hh.2.2⟩
  unfold opA at h ⊢
  cases hg:o.guard with
  | none=>
   simp only [hg] at h ⊢
   exact core h
  | some gw=>
   obtain ⟨j,want⟩:=gw
   simp only [hg] at h ⊢
   rw [←Z3x ha hg] at h
   unfold Z5c at h ⊢
   split at h
   ·exact h.elim
   ·rename_i hge
    first | exact core h | (simp only [hge];exact core h)
   ·rename_i hge
    first | exact ⟨by simpa using h.1,fin2 h.2⟩ | (simp only [hge];exact ⟨by simpa using h.1,fin2 h.2⟩)
theorem W1y {P:Program}{T:Ty}{R Z pd X:List Nat}{ops:Array Oper}{σ:St}{o:Oper}{K K':St→Prop}(hK:∀ σ,K σ→K' σ)(h:opA P T R Z pd X ops σ o K):opA P T R Z pd X ops σ o K':=by
 have core:opA0 P T R Z pd X σ o K→opA0 P T R Z pd X σ o K':=fun h=>by
  unfold opA0 at h ⊢
  refine ⟨h.1,?_⟩
  have h2:=h.2
  split at h2
  ·rename_i hi
   simp only [hi,if_true]
   split at h2
   ·exact h2.elim
   ·exact ⟨h2.1,hK _ h2.2⟩
  ·rename_i hi
   split at h2
   ·rename_i hm
    simp only [hi,hm,if_true]
    split at h2
    ·exact h2.elim
    ·exact ⟨h2.1,hK _ h2.2⟩
   ·rename_i hm
    simp only [hi,hm]
    exact Z1u (fun _ _ hh=>⟨hh.1,hh.2.1,hK _ hh.2.2⟩) h2
 unfold opA at h ⊢
 split at h
 ·exact core h
 ·unfold Z5c at h ⊢
  split at h
  ·exact h.elim
  ·rename_i hge;first | exact core h | (simp only [hge];exact core h)
  ·rename_i hge;first | exact ⟨h.1,hK _ h.2⟩ | (simp only [hge];exact ⟨h.1,hK _ h.2⟩)
theorem W1z {P:Program}{T:Ty}{R Z pd X:List Nat}{ops:Array Oper}{σ:St}{o q:Oper}{K:St→Prop}{z:Nat}(hz:z∈Z)(hzn:σ.h z=none)(hne:mk Z o=true→Q0b o≠z)(hap:o.apart ops q=true)(h:opA P T R Z pd X ops σ o K) :
  opA P T R Z pd X ops σ o fun σ'=>(σ'.h z=σ.h z∧σ.next≤σ'.next∧σ'.n=σ.n∧∀ y∈q.op.operands,σ'.get y=σ.get y)∧K σ':=by
 obtain ⟨s1,s2,s3⟩:=Oper.apart_spec hap
 have agr:∀ (u:D) (h':Nat→Option Loc) (nx:Nat),∀ y∈q.op.operands,({ σ with h:=h',next:=nx }.put o.dst u).get y=σ.get y:=fun u h' nx y hy=>by
  have:=(Z15 (σ:=σ) (σ':=σ.put o.dst u) (o:=q) (ops:=ops) s1 (fun s hs=>Z10 hs)).1 y hy
  cases y with
  | tmp t=>
   have e:({ σ with h:=h',next:=nx }.put o.dst u).get (.tmp t)=(σ.put o.dst u).get (.tmp t):=by cases o.dst<;>rfl
   rw [e];exact this.symm
  | _=>rfl
 have core:opA0 P T R Z pd X σ o K→opA0 P T R Z pd X σ o (fun σ'=>(σ'.h z=σ.h z∧σ.next≤σ'.next∧σ'.n=σ.n∧∀ y∈q.op.operands,σ'.get y=σ.get y)∧K σ'):=fun h=>by
  unfold opA0 at h ⊢
  refine ⟨h.1,?_⟩
  have h2:=h.2
  split at h2
  ·rename_i hi
   simp only [hi,if_true]
   split at h2
   ·exact h2.elim
   ·exact ⟨h2.1,⟨by simp,by simp,by simp,agr _ σ.h σ.next⟩,h2.2⟩
  ·rename_i hi
   split at h2
   ·rename_i hm
    simp only [hi,hm,if_true]
    split at h2
    ·exact h2.elim
    ·rename_i r hr
     exact ⟨h2.1,⟨by simpa using X9q (Z12 hm) hr z (fun e=>hne hm e.symm),by simp,by simp,agr _ r.h σ.next⟩,h2.2⟩
   ·rename_i hm
    simp only [hi,hm]
    exact Z1u (fun h' _ hh=>⟨hh.1,hh.2.1,⟨by simpa [hzn] using hh.2.1 z hz hzn,by simp,by simp,agr _ h' (σ.next+8)⟩,hh.2.2⟩) h2
 unfold opA at h ⊢
 split at h
 ·exact core h
 ·unfold Z5c at h ⊢
  split at h
  ·exact h.elim
  ·rename_i hge;first | exact core h | (simp only [hge];exact core h)
  ·rename_i hge;simp only [hge];exact ⟨h.1,⟨by simp,by simp,by simp,agr _ σ.h σ.next⟩,h.2⟩
def putT (t:Nat→D)(dst:Option Tmp)(d:D):Nat→D:=match dst with
 | some s=>updD t s d
 | none=>t
theorem V7p (σ:St)(dst:Option Tmp)(d:D):(σ.put dst d).t=putT σ.t dst d:=by cases dst<;>rfl
theorem X0c (t:Nat→D){x y:Option Tmp}(v u:D)(hne:∀ d,x=some d→y≠some d):putT (putT t x v) y u=putT (putT t y u) x v:=by
 cases x with
 | none=>rfl
 | some d=>
  cases y with
  | none=>rfl
  | some e=>
   have hne:d≠e:=fun he=>hne d rfl (he▸rfl)
   funext i
   simp only [putT,Z4c]
   by_cases h1:i=e
   ·by_cases h2:i=d
    ·exact absurd (h2.symm.trans h1) hne
    ·subst h1;simp [h2]
   ·simp [h1]
theorem St.ext4 {σ τ:St}(h1:σ.t=τ.t)(h2:σ.h=τ.h)(h3:σ.next=τ.next)(h4:σ.n=τ.n):σ=τ:=by
 cases σ;cases τ;simp only at h1 h2 h3 h4;subst h1 h2 h3 h4;rfl
theorem W7p {P:Program}{T:Ty}{R Z pd X:List Nat}{ops:Array Oper}{σ:St}{p o:Oper}{K:St→Prop}(hmz:mk Z o=true)(hap:p.apart ops o=true)(hz:σ.h (Q0b o)=none)(hlt:Q0b o<σ.next)(hR:Q0b o∉R)
  (hne:mk Z p=true→Q0b p≠Q0b o) (hev:∃ r,V0 T σ (Q0b o) o.op=some r∧r.ok) (hdo:Q0o σ.n o.dst)
  (h:opA P T R Z pd X ops σ p fun σ1=>opA P T R Z pd X ops σ1 o K):opA P T R Z pd X ops σ o fun σ1=>opA P T R Z pd X ops σ1 p K:=by
 have hm:Z8s o=true:=Z12 hmz
 by_cases hps:soft pd p=true
 ·exact W1x hps hap (fun _=>hR) (.inl (X71 hm)) h
 have hps':soft pd p=false:=by simpa using hps
 obtain ⟨s1,s2,s3⟩:=Oper.apart_spec hap
 obtain ⟨hgo,⟨x,hx⟩,hso⟩:=X3g hm
 obtain ⟨r,hr,hok⟩:=hev
 obtain ⟨L,hrL,_⟩:=Z66 (σ:=σ) hm hr (fun _ _=>rfl)
 have mkd:∀ (τ:St) (K:St→Prop),opA P T R Z pd X ops τ o K↔(Q0o τ.n o.dst∧match V0 T τ (Q0b o) o.op with | none=>False | some r=>r.ok∧K ({ τ with h:=r.h }.put o.dst r.d)):=fun τ K=>by
  unfold opA opA0
  simp only [hgo,hso pd,hmz,if_true,U2,if_false]
 have key:∀ (τ:St),τ.n=σ.n→(∀ y∈o.op.operands,τ.get y=σ.get y)→opA P T R Z pd X ops τ o K→Q0o σ.n o.dst∧K ({ τ with h:=updL τ.h (Q0b o) (some L) }.put o.dst r.d):=fun τ hn hg h=>by
  rw [mkd] at h
  obtain ⟨L',e1,e2⟩:=Z66 (σ:=τ) hm hr hg
  rw [hrL] at e1
  have eL:L'=L:=by
   have:=congrFun e1 (Q0b o)
   simp at this
   exact this.symm
  subst eL
  rw [e2] at h
  exact ⟨by rw [←hn];exact h.1,h.2.2⟩
 have agr:∀ (u:D) (h':Nat→Option Loc) (nx:Nat),∀ y∈o.op.operands,({ σ with h:=h',next:=nx }.put p.dst u).get y=σ.get y:=fun u h' nx y hy=>by
  have:=(Z15 (σ:=σ) (σ':=σ.put p.dst u) (o:=o) (ops:=ops) s1 (fun s hs=>Z10 hs)).1 y hy
  cases y with
  | tmp t=>
   have e:({ σ with h:=h',next:=nx }.put p.dst u).get (.tmp t)=(σ.put p.dst u).get (.tmp t):=by cases p.dst<;>rfl
   rw [e];exact this.symm
  | _=>rfl
 let σz:St:={ σ with h:=updL σ.h (Q0b o) (some L) }
 have hgp:∀ j w,p.guard=some (j,w)→Z0l ops (σz.put o.dst r.d) j w=Z0l ops σ j w:=fun j w hg=>
  Z3x (o:=p) (Z15 (σ:=σ) s3 (fun s hs=>by rw [Z10 hs])) hg
 have hcp:∀ y∈p.op.operands,(σz.put o.dst r.d).get y=σz.get y:=fun y hy=>((Z15 (σ:=σz) (o:=p) (ops:=ops) s3 (fun s hs=>Z10 hs)).1 y hy).symm
 have goal:∀ (hd:Q0o σ.n o.dst),opA P T R Z pd X ops (σz.put o.dst r.d) p K→opA P T R Z pd X ops σ o fun σ1=>opA P T R Z pd X ops σ1 p K:=fun hd h=>by
  rw [mkd,hr]
  refine ⟨hd,hok,?_⟩
  rw [hrL]
  exact h
 have core:opA0 P T R Z pd X σ p (fun σ1=>opA P T R Z pd X ops σ1 o K)→opA0 P T R Z pd X (σz.put o.dst r.d) p K:=fun h=>by
  unfold opA0 at h ⊢
  simp only [hps',U2,if_false] at h ⊢
  obtain ⟨hd,h⟩:=h
  refine ⟨by simpa [σz] using hd,?_⟩
  by_cases hmp:mk Z p=true
  ·simp only [hmp,if_true] at h ⊢
   cases hep:V0 T σ (Q0b p) p.op with
   | none=>rw [hep] at h;exact h.elim
   | some rp=>
    rw [hep] at h
    obtain ⟨Lp,e1,e2⟩:=Z66 (σ:=σz.put o.dst r.d) (Z12 hmp) hep (fun y hy=>by rw [hcp y hy];cases y<;>rfl)
    rw [e2]
    refine ⟨h.1,?_⟩
    have hk:=key _ (by simp) (agr rp.d rp.h σ.next) h.2
    refine cast (congrArg K (St.ext4 ?_ ?_ ?_ ?_)) hk.2
    ·simp only [V7p]
     exact X0c _ _ _ s2
    ·simp only [Y37,σz]
     rw [e1,Q28 (hne hmp)]
    ·simp [σz]
    ·simp [σz]
  ·simp only [hmp,U2,if_false] at h ⊢
   have h2:=W14 (z:=Q0b o) (Lz:=L) hz hlt h
   refine Z1u (fun h' u hh=>?_) (X1p (σ:=σz) (σ':=σz.put o.dst r.d) hcp (by simp) (by simp) h2)
   obtain ⟨h0,rfl,hR0,hZ0,hK0⟩:=hh
   refine ⟨hR0.imp id fun hR0 k hk=>?_,fun k hk=>?_,?_⟩
   ·have:k≠Q0b o:=fun e=>hR (e▸hk)
    simp [σz,this,hR0 k hk]
   ·intro hn
    by_cases hkz:k=Q0b o
    ·simp [σz,hkz] at hn
    ·simp only [σz,W3,hkz,if_false] at hn ⊢
     exact hZ0 k hk (by simpa [hkz] using hn)
   ·have hk:=(key _ (by simp) (agr u h0 (σ.next+8)) hK0).2
    refine cast (congrArg K (St.ext4 ?_ ?_ ?_ ?_)) hk
    ·simp only [V7p]
     exact X0c _ _ _ s2
    ·simp [σz]
    ·simp [σz]
    ·simp [σz]
 refine goal hdo ?_
 unfold opA at h ⊢
 cases hgd:p.guard with
 | none=>
  simp only [hgd] at h ⊢
  exact core h
 | some gw=>
  obtain ⟨j,want⟩:=gw
  simp only [hgd] at h ⊢
  rw [hgp j want hgd]
  unfold Z5c at h ⊢
  split at h
  ·exact h.elim
  ·rename_i hge
   first | exact core h | (simp only [hge];exact core h)
  ·rename_i hge
   have fin:Q0o (σz.put o.dst r.d).n p.dst∧K ((σz.put o.dst r.d).put p.dst (.val undef)):=by
    refine ⟨by simpa [σz] using h.1,?_⟩
    have hk:=(key _ (by simp) (agr (.val undef) σ.h σ.next) h.2).2
    refine cast (congrArg K (St.ext4 ?_ ?_ ?_ ?_)) hk
    ·simp only [V7p]
     exact X0c _ _ _ s2
    ·simp [σz]
    ·simp [σz]
    ·simp [σz]
   first | exact fin | (simp only [hge];exact fin)
theorem X38 {P:Program}{T:Ty}{R Z pd X:List Nat}{ops:Array Oper}{K:St→Prop}{i:Nat}{o:Oper}(ho:ops[i]?=some o)(hZ:mk Z o=true→Q0b o∉R)(post:List Nat) :
  ∀ (pre:List Nat) (σ:St),(∀ p∈pre,∀ q,ops[p]?=some q→soft pd q=true∧q.apart ops o=true∧(Z6i X o.op=false∨Z5x q.op=false))→runA P T R Z pd X ops (pre++i::post) σ K→opA P T R Z pd X ops σ o fun σ'=>runA P T R Z pd X ops (pre++post) σ' K
 | [],σ,_,h=>by
  simp only [List.nil_append,runA,ho] at h ⊢
  exact h
 | p::pre,σ,hp,h=>by
  simp only [List.cons_append,runA] at h ⊢
  cases hq:ops[p]? with
  | none=>simp [hq] at h
  | some q=>
   simp only [hq] at h ⊢
   obtain ⟨h1,h2,h3⟩:=hp p (by simp) q hq
   exact W1x h1 h2 hZ h3 (W1y (fun σ' h'=>X38 ho hZ post pre σ' (fun p' hp'=>hp p' (by simp [hp'])) h') h)
theorem X0p {T:Ty}{σ τ:St}{o:Oper}{z:Nat}(hm:Z8s o=true)(hg:∀ y∈o.op.operands,τ.get y=σ.get y)(h:∃ r,V0 T σ z o.op=some r∧r.ok):∃ r,V0 T τ z o.op=some r∧r.ok:=by
 obtain ⟨r,hr,hok⟩:=h
 obtain ⟨L,_,e⟩:=Z66 (σ:=τ) hm hr hg
 exact ⟨_,e,hok⟩
theorem X03 {P:Program}{T:Ty}{R Z pd X:List Nat}{ops:Array Oper}{K:St→Prop}{i:Nat}{o:Oper}(ho:ops[i]?=some o)(hm:mk Z o=true)(hR:Q0b o∉R)(post:List Nat) :
  ∀ (pre:List Nat) (σ:St),(∀ p∈pre,∀ q,ops[p]?=some q→q.apart ops o=true∧(mk Z q=true→Q0b q≠Q0b o))→σ.h (Q0b o)=none→Q0b o<σ.next→(∃ r,V0 T σ (Q0b o) o.op=some r∧r.ok)→Q0o σ.n o.dst→
   runA P T R Z pd X ops (pre++i::post) σ K→opA P T R Z pd X ops σ o fun σ'=>runA P T R Z pd X ops (pre++post) σ' K
 | [],σ,_,_,_,_,_,h=>by
  simp only [List.nil_append,runA,ho] at h ⊢
  exact h
 | p::pre,σ,hp,hz,hlt,hev,hd,h=>by
  simp only [List.cons_append,runA] at h ⊢
  cases hq:ops[p]? with
  | none=>simp [hq] at h
  | some q=>
   simp only [hq] at h ⊢
   obtain ⟨h1,h2⟩:=hp p (by simp) q hq
   refine W7p hm h1 hz hlt hR h2 hev hd (W1y (fun σ' h'=>?_) (W1z (X3c hm) hz h2 h1 h))
   obtain ⟨⟨g1,g2,g3,g4⟩,h'⟩:=h'
   exact X03 ho hm hR post pre σ' (fun p' hp'=>hp p' (by simp [hp'])) (g1.trans hz) (by omega) (X0p (Z12 hm) g4 hev) (by rw [g3];exact hd) h'
theorem Conc.putD {β:Base}{σ:St}{a:Act}{c c':Cx}{dst:Option Tmp}{d:D}{v:Value}(H:Conc β σ a c)(hd:Q0o σ.n dst)(hx:c.Ext c')(hh:HOk β σ.h c')(hM:c'.M=c.M)(hr:Rep c' d v):Conc β (σ.put dst d) (a.put dst v) c':=by
 have:=H.put (nx:=σ.next) (h':=σ.h) hx hh (fun k hk=>by rw [hM];exact H.fresh k hk) dst (fun s hs=>by rw [hs] at hd;exact hd) hr
 exact this
theorem X9u {op:Op}(h:Z4t op=true):Z4s op=false:=by
 cases op<;>simp only [Z4t] at h<;>(try (cases h;done))<;>simp only [Z4s]
 case call c=>
  obtain ⟨callee,args,ts⟩:=c
  cases callee with
  | builtin b=>cases b<;>simp_all
  | value f=>simp at h
  | invoke f g=>simp at h
theorem St.hide_more {R:List Nat}{σ:St}(k:Nat)(L:Loc)(h:(σ.hide R).h k=some L):σ.h k=some L:=by
 simp only [St.hide] at h
 split at h
 ·exact h
 ·cases h
def V0q (β:Base)(Z:List Nat)(σ:St)(c:Cx)(o:Oper)(K:St→Prop)(a':Act)(w':World):Prop:=
 ∃ (σ':St) (c':Cx),c'.w=w'∧Conc β σ' a' c'∧K σ'∧σ.next≤σ'.next∧∀ z∈Z,z<σ.next→(mk Z o=true→z≠Q0b o)→(σ.h z=none→σ'.h z=none)∧(c.M z=none→c'.M z=none)
def Idle (Z:List Nat)(σ:St)(c:Cx)(o:Oper):Prop:=mk Z o=true→σ.h (Q0b o)=none∧c.M (Q0b o)=none∧Q0b o<σ.next
theorem W7q {P:Program}{T:Ty}(hT:Z0w P T){β:Base}{R Z pd X:List Nat}{σ:St}{a:Act}{c:Cx}{o:Oper}{K:St→Prop}(H:Conc β σ a c)(hI:Idle Z σ c o)
  (h:opA0 P T R Z pd X σ o K) (Q:Exit→Act→World→Prop):o.wp P a c.w (V0q β Z σ c o K) Q:=by
 obtain ⟨hn,hM⟩:=H.fresh σ.next (Nat.le_refl _)
 by_cases hi:soft pd o=true
 ·rw [Z9a hi] at h
  obtain ⟨d,⟨hd,r,hr,hok,rfl⟩,hK⟩:=h
  have hr2:=Z2q (σ:=σ) (nm':=σ.next) (fun x hx=>by cases x<;>rfl) (fun _=>St.hide_more) (Q9y hi) hr
  obtain ⟨v,c',hrun,hx,hrep,hh,_,_,hMs⟩:=X52 (P:=P) hT H hn hM hr2 hok
  have hMs:=hMs (X9u (Q9y hi))
  have H':=H.putD hd hx hh hMs hrep
  have hz:∀ z∈Z,z<σ.next→(mk Z o=true→z≠Q0b o)→(σ.h z=none→(σ.put o.dst r.d).h z=none)∧(c.M z=none→c'.M z=none):=fun z _ _ _=>⟨fun h=>by simpa using h,fun h=>by rw [hMs];exact h⟩
  unfold Oper.wp
  rcases hrun with hrun | ⟨hrun,rfl⟩
  ·rw [hrun];exact ⟨_,c',rfl,H',hK,by simp,hz⟩
  ·rw [hrun];exact ⟨_,c',rfl,H',hK,by simp,hz⟩
 ·unfold opA0 at h
  simp only [hi] at h
  by_cases hm:mk Z o=true
  ·simp only [hm,if_true,U2,if_false] at h
   obtain ⟨hd,h⟩:=h
   obtain ⟨i1,i2,i3⟩:=hI hm
   cases hev:V0 T σ (Q0b o) o.op with
   | none=>rw [hev] at h;exact h.elim
   | some r=>
    rw [hev] at h
    obtain ⟨v,c',hrun,hx,hrep,hh,hMo,hho,_⟩:=X52 (P:=P) hT H i1 i2 hev h.1
    have hk:=fun k (hk:k≠Q0b o)=>X9q (Z12 hm) hev k hk
    have hf:∀ k,σ.next≤k→r.h k=none∧c'.M k=none:=fun k hk1=>by
     have:k≠Q0b o:=by omega
     exact ⟨(hk k this).trans (H.fresh k hk1).1,(hMo k this).trans (H.fresh k hk1).2⟩
    have H':=H.put (nx:=σ.next) hx hh hf o.dst (fun s hs=>by rw [hs] at hd;exact hd) hrep
    have hz:∀ z∈Z,z<σ.next→(mk Z o=true→z≠Q0b o)→(σ.h z=none→({ σ with h:=r.h }.put o.dst r.d).h z=none)∧(c.M z=none→c'.M z=none):=fun z _ _ hne=>⟨fun h=>by rw [←h];simpa using hk z (hne hm),fun h=>(hMo z (hne hm)).trans h⟩
    unfold Oper.wp
    rcases hrun with hrun | ⟨hrun,rfl⟩
    ·rw [hrun];exact ⟨_,c',rfl,H',h.2,by simp,hz⟩
    ·rw [hrun];exact ⟨_,c',rfl,H',h.2,by simp,hz⟩
  ·simp only [hm,U2,if_false] at h
   have h2:=W5l (K:=fun σ'=>(∀ k∈Z,σ.h k=none→σ'.h k=none)∧K σ') h.1 (Z1u (fun h' d hh=>⟨fun k hk hn=>by simpa using hh.2.1 k hk hn,hh.2.2⟩) h.2)
   obtain ⟨hd,hw⟩:=X32 hT H h2 Q
   refine Oper.wp_mono (fun a' w' hs=>?_) hw
   obtain ⟨v,c',h',d,rfl,rfl,hx,hh,hr,hf,hmm,hZ,hK⟩:=hs
   exact ⟨_,c',rfl,H.put hx hh hf o.dst (fun s hs=>by rw [hs] at hd;exact hd) hr,hK,by simp,fun z hz hlt _=>⟨hZ z hz,hmm z hlt⟩⟩
theorem V5s {P:Program}{T:Ty}(hT:Z0w P T){β:Base}{R Z pd X:List Nat}{ops:Array Oper}{σ:St}{a:Act}{c:Cx}{i:Nat}{o:Oper}{K:St→Prop}(ho:ops[i]?=some o)(H:Conc β σ a c)(hI:Idle Z σ c o)
  (h:opA P T R Z pd X ops σ o K) (Q:Exit→Act→World→Prop):Region.wanted o (yielded ops a.tmps)=true∧o.wp P a c.w (V0q β Z σ c o K) Q∨Region.wanted o (yielded ops a.tmps)=false∧V0q β Z σ c o K (a.put o.dst undef) c.w:=by
 unfold opA at h
 cases hg:o.guard with
 | none=>
  simp only [hg] at h
  exact .inl ⟨by simp only [Region.wanted,hg],W7q hT H hI h Q⟩
 | some gw=>
  obtain ⟨j,want⟩:=gw
  simp only [hg] at h
  unfold Z5c at h
  split at h
  ·exact h.elim
  ·rename_i hge
   exact .inl ⟨X0w H hg hge,W7q hT H hI h Q⟩
  ·rename_i hge
   exact .inr ⟨X0w H hg hge,_,c,rfl,H.putSame o.dst h.1 (.val _),h.2,by simp,fun z _ _ _=>⟨by simp,fun h=>h⟩⟩
theorem Y39 {P:Program}{T:Ty}(hT:Z0w P T){β:Base}{R Z pd X:List Nat}{ops:Array Oper}{σ:St}{a:Act}{c:Cx}{i:Nat}{o:Oper}{K:St→Prop}(ho:ops[i]?=some o)(H:Conc β σ a c)(hI:Idle Z σ c o)
  (h:opA P T R Z pd X ops σ o K) (Q:Exit→Act→World→Prop):wpOp P ops Q i (V0q β Z σ c o K) a c.w:=by
 unfold wpOp
 simp only [ho]
 rcases V5s hT ho H hI h Q with ⟨h1,h2⟩ | ⟨h1,h2⟩
 ·rw [h1];exact .inl h2
 ·rw [h1];exact h2
theorem Y5w {P:Program}{o:Oper}{a:Act}{w:World}{N:Act→World→Prop}(h:o.wp P a w N fun _ _ _=>False):∃ a' w',N a' w':=by
 unfold Oper.wp at h
 generalize (execOp a.eval o).run P w=r at h
 cases r with
 | halt e w'=>
  cases e<;>exact h.elim
 | ok nx w'=>
  cases nx with
  | value v=>exact ⟨_,_,h⟩
  | skip=>exact ⟨_,_,h⟩
  | defer d=>exact ⟨_,_,h⟩
  | enter f args=>
   obtain ⟨e,w2,fr,hR,_⟩:=h []
   cases e with
   | returned v=>exact ⟨_,_,hR⟩
   | panicked ch=>exact hR.elim
   | outgrown=>obtain ⟨_,_,hf⟩:=hR;exact hf.elim
  | row row args=>
   obtain ⟨v,w2,hR,_⟩:=h (Frame.ofRow P row args .normal) []
   exact ⟨_,_,hR⟩
  | _=>exact h.elim
theorem Y3a {P:Program}{T:Ty}(hT:Z0w P T){β:Base}{R Z pd X:List Nat}{ops:Array Oper}{σ:St}{a:Act}{c:Cx}{i:Nat}{o:Oper}{K:St→Prop}(ho:ops[i]?=some o)(H:Conc β σ a c)(hI:Idle Z σ c o)
  (h:opA P T R Z pd X ops σ o K):∃ a' w',V0q β Z σ c o K a' w':=by
 rcases V5s hT ho H hI h (fun _ _ _=>False) with ⟨_,h2⟩ | ⟨_,h2⟩
 ·exact Y5w h2
 ·exact ⟨_,_,h2⟩
def X4o (ops:Array Oper)(Z:List Nat)(σ:St)(c:Cx)(l:List Nat):Prop:=∀ p∈l,∀ q,ops[p]?=some q→Idle Z σ c q
def W18 (ops:Array Oper)(Z:List Nat)(p i:Nat):Prop:=∀ q o,ops[p]?=some q→ops[i]?=some o→mk Z q=true→mk Z o=true→Q0b q≠Q0b o
theorem X7c {β:Base}{Z:List Nat}{σ σ':St}{a':Act}{c c':Cx}{o q:Oper}(hn:σ.next≤σ'.next)(hz:∀ z∈Z,z<σ.next→(mk Z o=true→z≠Q0b o)→(σ.h z=none→σ'.h z=none)∧(c.M z=none→c'.M z=none))
  (hne:mk Z o=true→mk Z q=true→Q0b o≠Q0b q) (hI:Idle Z σ c q):Idle Z σ' c' q:=fun hm=>by
 obtain ⟨h1,h2,h3⟩:=hI hm
 obtain ⟨g1,g2⟩:=hz (Q0b q) (X3c hm) h3 (fun ho e=>hne ho hm e.symm)
 exact ⟨g1 h1,g2 h2,by omega⟩
theorem W2h {P:Program}{T:Ty}(hT:Z0w P T){β:Base}{R Z pd X:List Nat}{ops:Array Oper}{K:St→Prop}{i:Nat}{o:Oper}(ho:ops[i]?=some o)(hm:mk Z o=true)(post:List Nat) :
  ∀ (pre:List Nat) (σ:St) (a:Act) (c:Cx),Conc β σ a c→X4o ops Z σ c (pre++i::post)→(pre++i::post).Pairwise (W18 ops Z)→(∀ p∈pre,∀ q,ops[p]?=some q→q.apart ops o=true)→
   runA P T R Z pd X ops (pre++i::post) σ K→(∃ r,V0 T σ (Q0b o) o.op=some r∧r.ok)∧Q0o σ.n o.dst
 | [],σ,a,c,H,hI,hP,hp,h=>by
  simp only [List.nil_append,runA,ho] at h
  obtain ⟨hgo,_,hso⟩:=X3g (Z12 hm)
  unfold opA opA0 at h
  simp only [hgo,hso pd,hm,if_true,U2,if_false] at h
  obtain ⟨hd,h⟩:=h
  cases hev:V0 T σ (Q0b o) o.op with
  | none=>rw [hev] at h;exact h.elim
  | some r=>rw [hev] at h;exact ⟨⟨r,rfl,h.1⟩,hd⟩
 | p::pre,σ,a,c,H,hI,hP,hp,h=>by
  simp only [List.cons_append,runA] at h
  cases hq:ops[p]? with
  | none=>simp [hq] at h
  | some q=>
   simp only [hq] at h
   have h2:=hp p (by simp) q hq
   rw [List.cons_append,List.pairwise_cons] at hP
   have hne:mk Z q=true→Q0b q≠Q0b o:=fun hmq=>hP.1 i (by simp) q o hq ho hmq hm
   have hk:=W1z (X3c hm) (hI i (by simp) o ho hm).1 hne h2 h
   obtain ⟨a',w',σ',c',_,H',⟨⟨g1,g2,g3,g4⟩,h'⟩,hn,hz⟩:=Y3a hT hq H (hI p (by simp) q hq) hk
   have:=W2h hT ho hm post pre σ' a' c' H' (fun x hx y hy=>X7c (β:=β) (a':=a') hn hz (fun m1 m2=>hP.1 x hx q y hq hy m1 m2) (hI x (by simp at hx ⊢;exact .inr hx) y hy)) hP.2 (fun p' hp'=>hp p' (by simp [hp'])) h'
   exact ⟨X0p (Z12 hm) (fun y hy=>(g4 y hy).symm) this.1,by rw [←g3];exact this.2⟩
def Z5k (ops:Array Oper)(i:Nat):List Nat:=match ops[i]? with
 | some o=>o.after.toList.filterMap fun e=>if Region.binds .any e=true then some e.on else none
 | none=>[]
def W7f (ops:Array Oper)(p:Nat):Nat→Nat→Bool
 | 0,_=>false
 | n+1,i=>(Z5k ops i).contains p||(Z5k ops i).any fun e=>W7f ops p n e
def Z3p (Z pd X:List Nat)(ops:Array Oper)(p i:Nat):Bool:=
 p != i&&!(Z5k ops p).contains i&&((match ops[p]?,ops[i]? with | some q,some o=>(soft pd q||mk Z o)&&q.apart ops o&&!(Z6i X o.op&&Z5x q.op) | _,_=>false)||W7f ops p 8 i) &&
  (match ops[p]?,ops[i]? with | some q,some o=>!(mk Z q&&mk Z o)||Q0b q != Q0b o | _,_=>true)
def X4c (Z pd X:List Nat)(ops:Array Oper):List Nat→Bool
 | []=>true
 | p::l=>!(Z5k ops p).contains p&&decide (p<ops.size)&&l.all (Z3p Z pd X ops p)&&X4c Z pd X ops l
def Q8l (R Z pd X:List Nat)(ops:Array Oper)(l:List Nat):Bool:=X4c Z pd X ops l&&((List.range ops.size).all fun i=>l.contains i&&(Z5k ops i).all fun e=>decide (e<ops.size))&&Z.all fun z=>!R.contains z&&decide (zone≤z∧z<2 * zone)
structure W1a (Z pd X:List Nat) (ops:Array Oper) (l:List Nat):Prop where
 pair:l.Pairwise fun p i=>Z3p Z pd X ops p i=true
 self:∀ p∈l,p∉Z5k ops p
 lt:∀ p∈l,p<ops.size
theorem W3w {Z pd X:List Nat}{ops:Array Oper}{p i:Nat}(h:Z3p Z pd X ops p i=true):W18 ops Z p i:=fun q o hq ho h1 h2=>by
 unfold Z3p at h
 simp only [Bool.and_eq_true,hq,ho,h1,h2] at h
 simpa using h.2
theorem W1a.mks {Z pd X:List Nat}{ops:Array Oper}{l:List Nat}(h:W1a Z pd X ops l):l.Pairwise (W18 ops Z):=h.pair.imp W3w
theorem X4d {Z pd X:List Nat}{ops:Array Oper} : ∀ l:List Nat,X4c Z pd X ops l=true→W1a Z pd X ops l
 | [],_=>⟨.nil,by simp,by simp⟩
 | p::l,h=>by
  simp only [X4c,Bool.and_eq_true,Bool.not_eq_true',decide_eq_true_eq,List.all_eq_true] at h
  obtain ⟨⟨⟨h1,h2⟩,h3⟩,h4⟩:=h
  obtain ⟨g1,g2,g3⟩:=X4d l h4
  refine ⟨.cons h3 g1,fun q hq=>?_,fun q hq=>?_⟩
  ·rcases U8.1 hq with rfl | hq
   ·simpa using h1
   ·exact g2 q hq
  ·rcases U8.1 hq with rfl | hq
   ·exact h2
   ·exact g3 q hq
theorem W1a.sub {Z pd X:List Nat}{ops:Array Oper}{l l':List Nat}(h:W1a Z pd X ops l)(hs:l'.Sublist l):W1a Z pd X ops l':=
 ⟨h.pair.sublist hs,fun p hp=>h.self p (hs.subset hp),fun p hp=>h.lt p (hs.subset hp)⟩
theorem Z88 {ops:Array Oper}{p:Nat}{S:Nat→Prop}(hS:∀ j,S j→∀ e∈Z5k ops j,S e):∀ (n i:Nat),(∀ e∈Z5k ops i,S e)→W7f ops p n i=true→S p
 | 0,_,_,h=>by simp [W7f] at h
 | n+1,i,hi,h=>by
  simp only [W7f,List.any_eq_true,Bool.or_eq_true,List.contains_iff_mem] at h
  rcases h with h | ⟨e,he,h⟩
  ·exact hi p h
  ·exact Z88 hS n e (hS e (hi e he)) h
theorem X6z {ops:Array Oper}{i:Nat}{o:Oper}(ho:ops[i]?=some o){x:Nat} : x∈Z5k ops i↔∃ e∈o.after,Region.binds .any e=true∧e.on=x:=by
 simp only [Z5k,ho,List.mem_filterMap,Array.mem_toList_iff]
 constructor
 ·rintro ⟨e,he,h⟩
  split at h
  ·rename_i hb;cases h;exact ⟨e,he,hb,rfl⟩
  ·cases h
 ·rintro ⟨e,he,hb,rfl⟩
  exact ⟨e,he,by simp [hb]⟩
theorem W1o {P:Program}{T:Ty}(hT:Z0w P T){β:Base}{R Z pd X:List Nat}(hR:∀ z∈Z,z∉R){ops:Array Oper}{K:St→Prop} :
  ∀ (fuel:Nat) (l:List Nat) (listed:Array Bool) (σ:St) (a:Act) (c:Cx),l.length=fuel→W1a Z pd X ops l→listed.size=ops.size→(∀ i,i<ops.size→(listed.getD i false=true↔i∉l))→
   (∀ j,j<ops.size→j∉l→∀ e∈Z5k ops j,e<ops.size∧e∉l)→(∀ j,j<ops.size→∀ e∈Z5k ops j,e<ops.size)→Conc β σ a c→X4o ops Z σ c l→runA P T R Z pd X ops l σ K→
   wpAny P .any ops (fun e a' w'=>e=.normal∧Post β K a' w') fuel listed a c.w:=by
 intro fuel
 induction fuel with
 | zero=>
  intro l listed σ a c hl hord hsz hlist hdown hwlt H hI h
  have:l=[]:=List.length_eq_zero_iff.1 hl
  subst this
  refine ⟨?_,rfl,σ,c,rfl,H,h⟩
  cases hr:Region.ready .any ops listed with
  | nil=>rfl
  | cons j js=>
   obtain ⟨h0,o,ho,_⟩:=mem_ready.1 (hr▸List.mem_cons_self:j∈Region.ready .any ops listed)
   have hlt:j<ops.size:=(Array.getElem?_eq_some_iff.1 ho).1
   have:=(hlist j hlt).2 (by simp)
   simp only [Array.getD_eq_getD_getElem?] at h0 this
   have hlt2:j<listed.size:=by omega
   simp [hlt2] at h0 this
   rw [h0] at this
   cases this
 | succ fuel ih=>
  intro l listed σ a c hl hord hsz hlist hdown hwlt H hI h
  have lst:∀ i,i<ops.size→∀ b,listed.getD i b=listed.getD i false:=fun i hi b=>by
   have:i<listed.size:=by omega
   simp [this]
  refine ⟨fun hnil=>?_,fun i hi=>?_⟩
  ·exfalso
   cases l with
   | nil=>simp at hl
   | cons p l=>
    have hp:=hord.lt p (by simp)
    have hmem:p∈Region.ready .any ops listed:=by
     refine mem_ready.2 ⟨?_,ops[p],by simp [hp],fun e he hb=>?_⟩
     ·rw [lst p hp]
      cases hc:listed.getD p false with
      | false=>rfl
      | true=>exact absurd (List.mem_cons_self) ((hlist p hp).1 hc)
     ·have hw:e.on∈Z5k ops p:=(X6z (by simp [hp])).2 ⟨e,he,hb,rfl⟩
      have hlt:=hwlt p hp _ hw
      refine (hlist _ hlt).2 fun hin=>?_
      rcases U8.1 hin with heq | hin
      ·exact hord.self p (by simp) (heq▸hw)
      ·have:=(List.pairwise_cons.1 hord.pair).1 _ hin
       simp [Z3p,hw] at this
    rw [hnil] at hmem
    cases hmem
  ·obtain ⟨h0,o,ho,hall⟩:=mem_ready.1 hi
   have hlt:i<ops.size:=(Array.getElem?_eq_some_iff.1 ho).1
   have hil:i∈l:=by
    apply Classical.byContradiction
    intro hn
    have:=(hlist i hlt).2 hn
    rw [lst i hlt] at h0
    rw [h0] at this
    cases this
   have hdeps:∀ e∈Z5k ops i,e<ops.size∧e∉l:=fun x hx=>by
    have hx2:=hx
    obtain ⟨e,he,hb,rfl⟩:=(X6z ho).1 hx
    have h1:=hwlt i hlt _ hx2
    exact ⟨h1,(hlist _ h1).1 (hall e he hb)⟩
   obtain ⟨pre,post,rfl⟩:=List.append_of_mem hil
   have hpre:∀ p∈pre,∀ q,ops[p]?=some q→((soft pd q=true∨mk Z o=true)∧q.apart ops o=true)∧(!(Z6i X o.op&&Z5x q.op))=true:=fun p hp q hq=>by
    have hm:=(List.pairwise_append.1 hord.pair).2.2 p hp i (by simp)
    simp only [Z3p,hq,ho,Bool.and_eq_true,Bool.or_eq_true] at hm
    rcases hm.1.2 with h1 | h1
    ·exact h1
    ·have:=Z88 (S:=fun j=>j<ops.size∧j∉pre++i::post) (fun j hj=>hdown j hj.1 hj.2) 8 i hdeps h1
     exact absurd (by simp [hp]) this.2
   have hne:∀ p,p∈pre++post→p≠i:=fun p hp=>by
    have hpw:=List.pairwise_append.1 hord.pair
    rcases U9.1 hp with hp | hp
    ·have:=hpw.2.2 p hp i (by simp)
     intro e
     simp [Z3p,e] at this
    ·have:=(List.pairwise_cons.1 hpw.2.1).1 p hp
     intro e
     simp [Z3p,e] at this
   have hsub:(pre++post).Sublist (pre++i::post):=List.Sublist.append (List.Sublist.refl _) (List.sublist_cons_self i post)
   have hmks:=hord.mks
   have hIo:Idle Z σ c o:=hI i hil o ho
   have hop:opA P T R Z pd X ops σ o fun σ'=>runA P T R Z pd X ops (pre++post) σ' K:=by
    by_cases hm:mk Z o=true
    ·obtain ⟨hev,hd⟩:=W2h hT ho hm post pre σ a c H hI hmks (fun p hp q hq=>(hpre p hp q hq).1.2) h
     obtain ⟨i1,i2,i3⟩:=hIo hm
     exact X03 ho hm (hR _ (X3c hm)) post pre σ (fun p hp q hq=>⟨(hpre p hp q hq).1.2,fun hmq=>(List.pairwise_append.1 hmks).2.2 p hp i (by simp) q o hq ho hmq hm⟩) i1 i3 hev hd h
    ·refine X38 ho (fun h=>absurd h hm) post pre σ (fun p hp q hq=>⟨(hpre p hp q hq).1.1.resolve_right hm,(hpre p hp q hq).1.2,?_⟩) h
     have:=(hpre p hp q hq).2
     cases h1:Z6i X o.op with
     | false=>exact .inl rfl
     | true=>rw [h1] at this;exact .inr (by simpa using this)
   refine wpOp_mono (fun a' w' hp=>?_) (Y39 hT ho H hIo hop _)
   obtain ⟨σ',c',rfl,H',h',hn,hz⟩:=hp
   have hI':X4o ops Z σ' c' (pre++post):=fun x hx y hy=>by
    refine X7c (β:=β) (a':=a') hn hz (fun m1 m2=>?_) (hI x (hsub.subset hx) y hy)
    have hpw:=List.pairwise_append.1 hmks
    rcases U9.1 hx with hx | hx
    ·exact fun e=>hpw.2.2 x hx i (by simp) y o hy ho m2 m1 e.symm
    ·exact (List.pairwise_cons.1 hpw.2.1).1 x hx o y ho hy m1 m2
   refine ih (pre++post) (listed.setIfInBounds i true) σ' a' c' (by simp at hl ⊢;omega) (hord.sub hsub) (by simpa using hsz) (fun j hj=>?_) (fun j hj hjn e he=>?_) hwlt H' hI' h'
   ·by_cases hji:j=i
    ·subst hji
     have:j<listed.size:=by omega
     simp only [Array.getD_eq_getD_getElem?,Array.getElem?_setIfInBounds_self_of_lt this,Option.getD_some,true_iff]
     exact fun hin=>hne j hin rfl
    ·rw [getD_set_ne false (Ne.symm hji),hlist j hj]
     simp [hji]
   ·by_cases hji:j=i
    ·subst hji
     obtain ⟨h1,h2⟩:=hdeps e he
     exact ⟨h1,fun hin=>h2 (hsub.subset hin)⟩
    ·have hjl:j∉pre++i::post:=by simp at hjn ⊢;exact ⟨hjn.1,hji,hjn.2⟩
     obtain ⟨h1,h2⟩:=hdown j hj hjl e he
     exact ⟨h1,fun hin=>h2 (hsub.subset hin)⟩
theorem TrD.drawZ {P:Program}{T:Ty}(hT:Z0w P T)(hP:P.follows .mixedOrders=true){β:Base}{σ:St}{Q:Exit→St→Prop}{id:Nat}{ops:Array Oper}(l R Z pd X:List Nat)(hc:Q8l R Z pd X ops l=true)
  (hl:l.length=ops.size) (nx:Nat) (hn:σ.next≤nx) (hz:Z=[]∨(σ.next≤zone∧nx=2 * zone)) (hh:∀ K:St→Prop,(∀ s,Q .normal s→K s)→runA P T R Z pd X ops l { σ with next:=nx } K):TrD P β (.region id ops true) σ Q:=fun a c H=>by
 have h:=hh (Q .normal) fun _ hs=>hs
 simp only [Q8l,Bool.and_eq_true,List.all_eq_true,List.mem_range,decide_eq_true_eq] at hc
 obtain ⟨⟨hc1,hc2⟩,hc3⟩:=hc
 have hall:∀ i,i<ops.size→i∈l:=fun i hi=>by simpa using (hc2 i hi).1
 refine wp_mono (wp_region_any hP (Q:=fun e a' w'=>e=.normal∧Post β (Q .normal) a' w') ?_) fun e a' w' hp=>by obtain ⟨rfl,hp⟩:=hp;exact hp
 obtain ⟨hx,hh⟩:=H.heap.drawn (w':={ c.w with drawn:=c.w.drawn+1 }) rfl rfl rfl rfl
 have H':Conc β { σ with next:=nx } a ⟨c.M,c.fr,{ c.w with drawn:=c.w.drawn+1 }⟩:=⟨hh,H.size,H.defers,fun i=>(H.slots i).mono hx,fun k hk=>H.fresh k (Nat.le_trans hn hk)⟩
 have hI:X4o ops Z { σ with next:=nx } ⟨c.M,c.fr,{ c.w with drawn:=c.w.drawn+1 }⟩ l:=fun p _ q _ hm=>by
  have hmem:=X3c hm
  rcases hz with rfl | ⟨h1,h2⟩
  ·cases hmem
  ·obtain ⟨_,h3⟩:=hc3 _ hmem
   obtain ⟨f1,f2⟩:=H.fresh (Q0b q) (by omega)
   exact ⟨f1,f2,by simp only;omega⟩
 refine W1o hT (fun z hz=>by simpa using (hc3 z hz).1) ops.size l (Array.replicate ops.size false) { σ with next:=nx } a _ hl (X4d l hc1) (by simp) (fun i hi=>?_) (fun j hj hjn=>absurd (hall j hj) hjn) (fun j hj e he=>(hc2 j hj).2 e he) H' hI h
 simp [hi,hall i hi]
theorem TrD.draw {P:Program}{T:Ty}(hT:Z0w P T)(hP:P.follows .mixedOrders=true){β:Base}{σ:St}{Q:Exit→St→Prop}{id:Nat}{ops:Array Oper}(l R X:List Nat)(hc:Q8l R [] [] X ops l=true)
  (hl:l.length=ops.size) (h:∀ K:St→Prop,(∀ s,Q .normal s→K s)→runA P T R [] [] X ops l σ K):TrD P β (.region id ops true) σ Q:=
 TrD.drawZ hT hP l R [] [] X hc hl σ.next (Nat.le_refl _) (.inl rfl) h
attribute [simp] V0 St.get D.ofV D.ofC St.put Q0o Z8i X1f V00 Z7q Z0r Z0q X1g X1h X1j Q88 V01 evUn Z43 Z42 X82 Z1o W9t Z6m Q9s
 Z1s Z0l Z4t D.under W7j St.src D.flat D.one D.len D.ofCells TyI.agg W0o Z2p Q7c Z9q W86 X43 Z40 loD hiD Value.oneCell' Z2y Z8j D.scalar D.isVal eqV eqFs W4q Z7e Z5b Z41 Z6l Z0o Z8r X9t isU8 Z0p Z65 X1i W9x
def J4 (x:Option Res)(K:Res→Prop)(_:Tag K):Prop:=match x with
 | none=>False
 | some r=>K r
def V7u (x:Option Oper)(K:Oper→Prop)(_:Tag K):Prop:=match x with
 | none=>False
 | some o=>K o
def V54 (x:Bool)(a b:Prop)(_:Tag a)(_:Tag b):Prop:=match x with
 | true=>a
 | false=>b
def V0f (x:D)(K:FuncId→List D→Prop)(_:Tag K):Prop:=match x with
 | .clos f caps=>K f caps
 | _=>False
def W11 (x:D)(a b:Prop)(_:Tag a)(_:Tag b):Prop:=match x with
 | .nil=>a
 | _=>b
@[simp] theorem V9p (ok:Prop) (d:D) (h:Nat→Option Loc) (K:Res→Prop) (t:Tag K):J4 (some ⟨ok,d,h⟩) K t=K ⟨ok,d,h⟩:=rfl
@[simp] theorem V9q (K:Res→Prop) (t:Tag K):J4 none K t=False:=rfl
@[simp] theorem V9u (o:Oper) (K:Oper→Prop) (t:Tag K):V7u (some o) K t=K o:=rfl
@[simp] theorem X3r (a b:Prop) (s:Tag a) (t:Tag b):V54 true a b s t=a:=rfl
@[simp] theorem X1x (a b:Prop) (s:Tag a) (t:Tag b):V54 false a b s t=b:=rfl
@[simp] theorem Y05 (f:FuncId) (caps:List D) (K:FuncId→List D→Prop) (t:Tag K):V0f (.clos f caps) K t=K f caps:=rfl
@[simp] theorem Y3t (a b:Prop) (s:Tag a) (t:Tag b):W11 .nil a b s t=a:=rfl
@[simp] theorem Y3s (v:Value) (a b:Prop) (s:Tag a) (t:Tag b):W11 (.val v) a b s t=b:=rfl
@[simp] theorem Y3u (l:List D) (a b:Prop) (s:Tag a) (t:Tag b):W11 (.agg l) a b s t=b:=rfl
@[simp] theorem V8q (n:Nat) (l:List (List D)) (a b:Prop) (s:Tag a) (t:Tag b):W11 (.slice n l) a b s t=b:=rfl
@[simp] theorem Y5s (n k m:Nat) (a b:Prop) (s:Tag a) (t:Tag b):W11 (.sl n k m) a b s t=b:=rfl
def V5d (P:Program)(σ:St)(f:FuncId)(args:List D)(K:(Nat→Option Loc)→D→Prop)(_:Tag K):Prop:=Q8n P σ f args K
theorem W5 {T:Ty}{σ:St}{dst:Option Tmp}{op:Op}{ty:TypeId}{pos:String}{af:Array Edge}{g:Option (Nat×Bool)}{K:St→Prop} :
  Z1y T σ ⟨dst,op,ty,pos,af,g⟩ K=J4 (V0 T σ σ.next op) (fun r=>Q0o σ.n dst∧r.ok∧K ({ σ with h:=r.h,next:=σ.next+8 }.put dst r.d)) ⟨⟩:=by
 unfold Z1y J4
 simp only
 split<;>rename_i h<;>simp only [h]
section
variable {P:Program} {T:Ty} {ops:Array Oper} {rest:List Oper} {σ:St} {K:St→Prop} {dst:Option Tmp} {op:Op} {ty:TypeId} {pos:String} {af:Array Edge} {g:Option (Nat×Bool)} {j:Nat} {w:Bool}
@[simp] theorem Y5j:runL P T ops [] σ K=K σ:=rfl
@[simp] theorem runL_0:runL P T ops (⟨dst,op,ty,pos,af,none⟩::rest) σ K=Y6 P T σ ⟨dst,op,ty,pos,af,none⟩ (fun σ'=>runL P T ops rest σ' K):=rfl
@[simp] theorem runL_1:runL P T ops (⟨dst,op,ty,pos,af,some (j,w)⟩::rest) σ K=Z5c (Z0l ops σ j w) (Y6 P T σ ⟨dst,op,ty,pos,af,some (j,w)⟩ (fun σ'=>runL P T ops rest σ' K)) (Q0o σ.n dst∧runL P T ops rest (σ.put dst (.val undef)) K) ⟨⟩ ⟨⟩:=rfl
@[simp ↓] theorem V9m (x:Operand):Y6 P T σ ⟨dst,.move x,ty,pos,af,g⟩ K=J4 (V0 T σ σ.next (.move x)) (fun r=>Q0o σ.n dst∧r.ok∧K ({ σ with h:=r.h,next:=σ.next+8 }.put dst r.d)) ⟨⟩:=by simp only [Y6];exact W5
@[simp ↓] theorem W6v (t:TypeId) (x y:Operand):Y6 P T σ ⟨dst,.makeSlice t x y,ty,pos,af,g⟩ K=J4 (V0 T σ σ.next (.makeSlice t x y)) (fun r=>Q0o σ.n dst∧r.ok∧K ({ σ with h:=r.h,next:=σ.next+8 }.put dst r.d)) ⟨⟩:=by simp only [Y6];exact W5
@[simp ↓] theorem V2b (t:TypeId) (q:Option Operand):Y6 P T σ ⟨dst,.makeMap t q,ty,pos,af,g⟩ K=J4 (V0 T σ σ.next (.makeMap t q)) (fun r=>Q0o σ.n dst∧r.ok∧K ({ σ with h:=r.h,next:=σ.next+8 }.put dst r.d)) ⟨⟩:=by simp only [Y6];exact W5
@[simp ↓] theorem V5h (t:TypeId) (x y:Operand) (q:Bool):Y6 P T σ ⟨dst,.lookup t x y q,ty,pos,af,g⟩ K=J4 (V0 T σ σ.next (.lookup t x y q)) (fun r=>Q0o σ.n dst∧r.ok∧K ({ σ with h:=r.h,next:=σ.next+8 }.put dst r.d)) ⟨⟩:=by simp only [Y6];exact W5
@[simp ↓] theorem W6u (t:TypeId) (x y z:Operand):Y6 P T σ ⟨dst,.mapUpdate t x y z,ty,pos,af,g⟩ K=J4 (V0 T σ σ.next (.mapUpdate t x y z)) (fun r=>Q0o σ.n dst∧r.ok∧K ({ σ with h:=r.h,next:=σ.next+8 }.put dst r.d)) ⟨⟩:=by simp only [Y6];exact W5
@[simp ↓] theorem V5i (x:Operand):Y6 P T σ ⟨dst,.assign x,ty,pos,af,g⟩ K=J4 (V0 T σ σ.next (.assign x)) (fun r=>Q0o σ.n dst∧r.ok∧K ({ σ with h:=r.h,next:=σ.next+8 }.put dst r.d)) ⟨⟩:=by simp only [Y6];exact W5
@[simp ↓] theorem V9l (x:Operand) (y:Operand) (z:Operand):Y6 P T σ ⟨dst,.pick x y z,ty,pos,af,g⟩ K=J4 (V0 T σ σ.next (.pick x y z)) (fun r=>Q0o σ.n dst∧r.ok∧K ({ σ with h:=r.h,next:=σ.next+8 }.put dst r.d)) ⟨⟩:=by simp only [Y6];exact W5
@[simp ↓] theorem V7c (t:TypeId):Y6 P T σ ⟨dst,.alloc t,ty,pos,af,g⟩ K=J4 (V0 T σ σ.next (.alloc t)) (fun r=>Q0o σ.n dst∧r.ok∧K ({ σ with h:=r.h,next:=σ.next+8 }.put dst r.d)) ⟨⟩:=by simp only [Y6];exact W5
@[simp ↓] theorem Y2q (t:TypeId) (x:Operand):Y6 P T σ ⟨dst,.box t x,ty,pos,af,g⟩ K=J4 (V0 T σ σ.next (.box t x)) (fun r=>Q0o σ.n dst∧r.ok∧K ({ σ with h:=r.h,next:=σ.next+8 }.put dst r.d)) ⟨⟩:=by simp only [Y6];exact W5
@[simp ↓] theorem V7b (t:TypeId) (ps:Array (Nat×Operand)):Y6 P T σ ⟨dst,.build t ps,ty,pos,af,g⟩ K=J4 (V0 T σ σ.next (.build t ps)) (fun r=>Q0o σ.n dst∧r.ok∧K ({ σ with h:=r.h,next:=σ.next+8 }.put dst r.d)) ⟨⟩:=by simp only [Y6];exact W5
@[simp ↓] theorem W5q (t:TypeId) (n:Nat) (ps:Array (Nat×Operand)):Y6 P T σ ⟨dst,.buildSlice t n ps,ty,pos,af,g⟩ K=J4 (V0 T σ σ.next (.buildSlice t n ps)) (fun r=>Q0o σ.n dst∧r.ok∧K ({ σ with h:=r.h,next:=σ.next+8 }.put dst r.d)) ⟨⟩:=by simp only [Y6];exact W5
@[simp ↓] theorem V9n (t:TypeId) (x:Operand):Y6 P T σ ⟨dst,.load t x,ty,pos,af,g⟩ K=J4 (V0 T σ σ.next (.load t x)) (fun r=>Q0o σ.n dst∧r.ok∧K ({ σ with h:=r.h,next:=σ.next+8 }.put dst r.d)) ⟨⟩:=by simp only [Y6];exact W5
@[simp ↓] theorem V77 (t:TypeId) (x:Operand) (y:Operand):Y6 P T σ ⟨dst,.store t x y,ty,pos,af,g⟩ K=J4 (V0 T σ σ.next (.store t x y)) (fun r=>Q0o σ.n dst∧r.ok∧K ({ σ with h:=r.h,next:=σ.next+8 }.put dst r.d)) ⟨⟩:=by simp only [Y6];exact W5
@[simp ↓] theorem V0s (x:Operand):Y6 P T σ ⟨dst,.nilCheck x,ty,pos,af,g⟩ K=J4 (V0 T σ σ.next (.nilCheck x)) (fun r=>Q0o σ.n dst∧r.ok∧K ({ σ with h:=r.h,next:=σ.next+8 }.put dst r.d)) ⟨⟩:=by simp only [Y6];exact W5
@[simp ↓] theorem V9k (u:UnOp) (t:TypeId) (x:Operand):Y6 P T σ ⟨dst,.unOp u t x,ty,pos,af,g⟩ K=J4 (V0 T σ σ.next (.unOp u t x)) (fun r=>Q0o σ.n dst∧r.ok∧K ({ σ with h:=r.h,next:=σ.next+8 }.put dst r.d)) ⟨⟩:=by simp only [Y6];exact W5
@[simp ↓] theorem V2d (t:TypeId) (t2:TypeId) (x:Operand):Y6 P T σ ⟨dst,.convert t t2 x,ty,pos,af,g⟩ K=J4 (V0 T σ σ.next (.convert t t2 x)) (fun r=>Q0o σ.n dst∧r.ok∧K ({ σ with h:=r.h,next:=σ.next+8 }.put dst r.d)) ⟨⟩:=by simp only [Y6];exact W5
@[simp ↓] theorem V0t (f:Fn) (fs:Array Operand) (caps:Array Operand):Y6 P T σ ⟨dst,.makeFunc f fs caps,ty,pos,af,g⟩ K=J4 (V0 T σ σ.next (.makeFunc f fs caps)) (fun r=>Q0o σ.n dst∧r.ok∧K ({ σ with h:=r.h,next:=σ.next+8 }.put dst r.d)) ⟨⟩:=by simp only [Y6];exact W5
@[simp ↓] theorem V78 (t:TypeId) (x:Operand) (l:Option Operand) (h:Option Operand) (m:Option Operand):Y6 P T σ ⟨dst,.slice t x l h m,ty,pos,af,g⟩ K=J4 (V0 T σ σ.next (.slice t x l h m)) (fun r=>Q0o σ.n dst∧r.ok∧K ({ σ with h:=r.h,next:=σ.next+8 }.put dst r.d)) ⟨⟩:=by simp only [Y6];exact W5
@[simp ↓] theorem W6x (t:TypeId) (x:Operand) (n:Nat):Y6 P T σ ⟨dst,.fieldAddr t x n,ty,pos,af,g⟩ K=J4 (V0 T σ σ.next (.fieldAddr t x n)) (fun r=>Q0o σ.n dst∧r.ok∧K ({ σ with h:=r.h,next:=σ.next+8 }.put dst r.d)) ⟨⟩:=by simp only [Y6];exact W5
@[simp ↓] theorem V7a (t:TypeId) (x:Operand) (n:Nat):Y6 P T σ ⟨dst,.field t x n,ty,pos,af,g⟩ K=J4 (V0 T σ σ.next (.field t x n)) (fun r=>Q0o σ.n dst∧r.ok∧K ({ σ with h:=r.h,next:=σ.next+8 }.put dst r.d)) ⟨⟩:=by simp only [Y6];exact W5
@[simp ↓] theorem W6w (t:TypeId) (x:Operand) (y:Operand):Y6 P T σ ⟨dst,.indexAddr t x y,ty,pos,af,g⟩ K=J4 (V0 T σ σ.next (.indexAddr t x y)) (fun r=>Q0o σ.n dst∧r.ok∧K ({ σ with h:=r.h,next:=σ.next+8 }.put dst r.d)) ⟨⟩:=by simp only [Y6];exact W5
@[simp ↓] theorem V79 (t:TypeId) (x:Operand) (y:Operand):Y6 P T σ ⟨dst,.index t x y,ty,pos,af,g⟩ K=J4 (V0 T σ σ.next (.index t x y)) (fun r=>Q0o σ.n dst∧r.ok∧K ({ σ with h:=r.h,next:=σ.next+8 }.put dst r.d)) ⟨⟩:=by simp only [Y6];exact W5
@[simp ↓] theorem V2c (x:Operand) (n:Nat):Y6 P T σ ⟨dst,.extract x n,ty,pos,af,g⟩ K=J4 (V0 T σ σ.next (.extract x n)) (fun r=>Q0o σ.n dst∧r.ok∧K ({ σ with h:=r.h,next:=σ.next+8 }.put dst r.d)) ⟨⟩:=by simp only [Y6];exact W5
@[simp ↓] theorem Y2j (t t2:TypeId) (x y:Operand):Y6 P T σ ⟨dst,.binOp .neq t x y t2,ty,pos,af,g⟩ K=J4 (V0 T σ σ.next (.binOp .neq t x y t2)) (fun r=>Q0o σ.n dst∧r.ok∧K ({ σ with h:=r.h,next:=σ.next+8 }.put dst r.d)) ⟨⟩:=by simp only [Y6];exact W5
@[simp ↓] theorem Y2l (t t2:TypeId) (x y:Operand):Y6 P T σ ⟨dst,.binOp .lss t x y t2,ty,pos,af,g⟩ K=J4 (V0 T σ σ.next (.binOp .lss t x y t2)) (fun r=>Q0o σ.n dst∧r.ok∧K ({ σ with h:=r.h,next:=σ.next+8 }.put dst r.d)) ⟨⟩:=by simp only [Y6];exact W5
@[simp ↓] theorem Y2m (t t2:TypeId) (x y:Operand):Y6 P T σ ⟨dst,.binOp .leq t x y t2,ty,pos,af,g⟩ K=J4 (V0 T σ σ.next (.binOp .leq t x y t2)) (fun r=>Q0o σ.n dst∧r.ok∧K ({ σ with h:=r.h,next:=σ.next+8 }.put dst r.d)) ⟨⟩:=by simp only [Y6];exact W5
@[simp ↓] theorem Y2n (t t2:TypeId) (x y:Operand):Y6 P T σ ⟨dst,.binOp .gtr t x y t2,ty,pos,af,g⟩ K=J4 (V0 T σ σ.next (.binOp .gtr t x y t2)) (fun r=>Q0o σ.n dst∧r.ok∧K ({ σ with h:=r.h,next:=σ.next+8 }.put dst r.d)) ⟨⟩:=by simp only [Y6];exact W5
@[simp ↓] theorem Y2o (t t2:TypeId) (x y:Operand):Y6 P T σ ⟨dst,.binOp .geq t x y t2,ty,pos,af,g⟩ K=J4 (V0 T σ σ.next (.binOp .geq t x y t2)) (fun r=>Q0o σ.n dst∧r.ok∧K ({ σ with h:=r.h,next:=σ.next+8 }.put dst r.d)) ⟨⟩:=by simp only [Y6];exact W5
@[simp ↓] theorem Y2s (t t2:TypeId) (x y:Operand):Y6 P T σ ⟨dst,.binOp .add t x y t2,ty,pos,af,g⟩ K=J4 (V0 T σ σ.next (.binOp .add t x y t2)) (fun r=>Q0o σ.n dst∧r.ok∧K ({ σ with h:=r.h,next:=σ.next+8 }.put dst r.d)) ⟨⟩:=by simp only [Y6];exact W5
@[simp ↓] theorem Y2e (t t2:TypeId) (x y:Operand):Y6 P T σ ⟨dst,.binOp .sub t x y t2,ty,pos,af,g⟩ K=J4 (V0 T σ σ.next (.binOp .sub t x y t2)) (fun r=>Q0o σ.n dst∧r.ok∧K ({ σ with h:=r.h,next:=σ.next+8 }.put dst r.d)) ⟨⟩:=by simp only [Y6];exact W5
@[simp ↓] theorem Y2k (t t2:TypeId) (x y:Operand):Y6 P T σ ⟨dst,.binOp .mul t x y t2,ty,pos,af,g⟩ K=J4 (V0 T σ σ.next (.binOp .mul t x y t2)) (fun r=>Q0o σ.n dst∧r.ok∧K ({ σ with h:=r.h,next:=σ.next+8 }.put dst r.d)) ⟨⟩:=by simp only [Y6];exact W5
@[simp ↓] theorem Y2i (t t2:TypeId) (x y:Operand):Y6 P T σ ⟨dst,.binOp .quo t x y t2,ty,pos,af,g⟩ K=J4 (V0 T σ σ.next (.binOp .quo t x y t2)) (fun r=>Q0o σ.n dst∧r.ok∧K ({ σ with h:=r.h,next:=σ.next+8 }.put dst r.d)) ⟨⟩:=by simp only [Y6];exact W5
@[simp ↓] theorem Y2h (t t2:TypeId) (x y:Operand):Y6 P T σ ⟨dst,.binOp .rem t x y t2,ty,pos,af,g⟩ K=J4 (V0 T σ σ.next (.binOp .rem t x y t2)) (fun r=>Q0o σ.n dst∧r.ok∧K ({ σ with h:=r.h,next:=σ.next+8 }.put dst r.d)) ⟨⟩:=by simp only [Y6];exact W5
@[simp ↓] theorem Y2r (t t2:TypeId) (x y:Operand):Y6 P T σ ⟨dst,.binOp .and t x y t2,ty,pos,af,g⟩ K=J4 (V0 T σ σ.next (.binOp .and t x y t2)) (fun r=>Q0o σ.n dst∧r.ok∧K ({ σ with h:=r.h,next:=σ.next+8 }.put dst r.d)) ⟨⟩:=by simp only [Y6];exact W5
@[simp ↓] theorem Y5i (t t2:TypeId) (x y:Operand):Y6 P T σ ⟨dst,.binOp .or t x y t2,ty,pos,af,g⟩ K=J4 (V0 T σ σ.next (.binOp .or t x y t2)) (fun r=>Q0o σ.n dst∧r.ok∧K ({ σ with h:=r.h,next:=σ.next+8 }.put dst r.d)) ⟨⟩:=by simp only [Y6];exact W5
@[simp ↓] theorem Y2c (t t2:TypeId) (x y:Operand):Y6 P T σ ⟨dst,.binOp .xor t x y t2,ty,pos,af,g⟩ K=J4 (V0 T σ σ.next (.binOp .xor t x y t2)) (fun r=>Q0o σ.n dst∧r.ok∧K ({ σ with h:=r.h,next:=σ.next+8 }.put dst r.d)) ⟨⟩:=by simp only [Y6];exact W5
@[simp ↓] theorem V5j (t t2:TypeId) (x y:Operand):Y6 P T σ ⟨dst,.binOp .andNot t x y t2,ty,pos,af,g⟩ K=J4 (V0 T σ σ.next (.binOp .andNot t x y t2)) (fun r=>Q0o σ.n dst∧r.ok∧K ({ σ with h:=r.h,next:=σ.next+8 }.put dst r.d)) ⟨⟩:=by simp only [Y6];exact W5
@[simp ↓] theorem Y2g (t t2:TypeId) (x y:Operand):Y6 P T σ ⟨dst,.binOp .shl t x y t2,ty,pos,af,g⟩ K=J4 (V0 T σ σ.next (.binOp .shl t x y t2)) (fun r=>Q0o σ.n dst∧r.ok∧K ({ σ with h:=r.h,next:=σ.next+8 }.put dst r.d)) ⟨⟩:=by simp only [Y6];exact W5
@[simp ↓] theorem Y2f (t t2:TypeId) (x y:Operand):Y6 P T σ ⟨dst,.binOp .shr t x y t2,ty,pos,af,g⟩ K=J4 (V0 T σ σ.next (.binOp .shr t x y t2)) (fun r=>Q0o σ.n dst∧r.ok∧K ({ σ with h:=r.h,next:=σ.next+8 }.put dst r.d)) ⟨⟩:=by simp only [Y6];exact W5
@[simp ↓] theorem Y2p (t t2:TypeId) (x y:Operand):Y6 P T σ ⟨dst,.binOp .eql t x y t2,ty,pos,af,g⟩ K=W11 (σ.get y) (Q0o σ.n dst∧Z8j T σ t (σ.get x) fun h' d=>K ({ σ with h:=h',next:=σ.next+8 }.put dst d))
  (J4 (V0 T σ σ.next (.binOp .eql t x y t2)) (fun r=>Q0o σ.n dst∧r.ok∧K ({ σ with h:=r.h,next:=σ.next+8 }.put dst r.d)) ⟨⟩) ⟨⟩ ⟨⟩:=by
 rw [←W5 (pos:=pos) (ty:=ty) (af:=af) (g:=g)]
 unfold Y6 W11
 simp only
 cases σ.get y<;>rfl
@[simp ↓] theorem V2e (b:Builtin) (args:Array Operand) (ts:Array TypeId):Y6 P T σ ⟨dst,.call ⟨.builtin b,args,ts⟩,ty,pos,af,g⟩ K=J4 (V0 T σ σ.next (.call ⟨.builtin b,args,ts⟩)) (fun r=>Q0o σ.n dst∧r.ok∧K ({ σ with h:=r.h,next:=σ.next+8 }.put dst r.d)) ⟨⟩:=by simp only [Y6];exact W5
@[simp ↓] theorem V9o (f:FuncId) (args:Array Operand) (ts:Array TypeId):Y6 P T σ ⟨dst,.call ⟨.value (.func f),args,ts⟩,ty,pos,af,g⟩ K=(Q0o σ.n dst∧V5d P σ f (args.toList.map σ.get) (fun h' d=>K ({ σ with h:=h',next:=σ.next+8 }.put dst d)) ⟨⟩):=rfl
@[simp ↓] theorem Y2d (t:Tmp) (args:Array Operand) (ts:Array TypeId):Y6 P T σ ⟨dst,.call ⟨.value (.tmp t),args,ts⟩,ty,pos,af,g⟩ K=V0f (σ.t t) (fun f caps=>Q0o σ.n dst∧V5d P σ f (args.toList.map σ.get++caps) (fun h' d=>K ({ σ with h:=h',next:=σ.next+8 }.put dst d)) ⟨⟩) ⟨⟩:=by
 unfold Y6 V0f
 simp only
 cases σ.t t<;>rfl
end
@[simp] theorem Y0a:undef=.tuple #[]:=rfl
theorem V4c:Free .any:=fun _ _ _ _ _=>.any _
@[simp] theorem Q5t (v:Value):Free (.val v):=fun M fr w u h=>by rw [W1 h];exact .val _
@[simp] theorem W2q:Free .nil:=fun M fr w u h=>by cases h;exact .nil
theorem Z9d {ds:List D}(h:∀ d∈ds,Free d):Free (.agg ds):=fun M fr w u hr=>by
 cases hr with
 | agg ds vs hlen hh=>exact .agg _ _ hlen fun i d v hd hv=>h d (U1 hd) M fr w v (hh i d v hd hv)
theorem V47 {ds:List D}(h:∀ d∈ds,Free d):Free (.tup ds):=fun M fr w u hr=>by
 cases hr with
 | tup ds vs hlen hh=>exact .tup _ _ hlen fun i d v hd hv=>h d (U1 hd) M fr w v (hh i d v hd hv)
theorem X7p {f:FuncId}{ds:List D}(h:∀ d∈ds,Free d):Free (.clos f ds):=fun M fr w u hr=>by
 cases hr with
 | clos f ds vs hlen hh=>exact .clos _ _ _ hlen fun i d v hd hv=>h d (U1 hd) M fr w v (hh i d v hd hv)
theorem X5 {sz:Nat}{rows:List (List D)}(h:∀ row∈rows,∀ d∈row,Free d):Free (.slice sz rows):=fun M fr w u hr=>by
 rcases Q8a hr with ⟨rfl,a,cap,rfl⟩ | ⟨b,o,cap,f,rfl,h1,h2,h3,h4,h5⟩
 ·exact .slice0 _ _ _
 ·exact .slice _ _ _ _ _ f h1 h2 h3 h4 fun i j row d hi hj=>h row (U1 hi) d (U1 hj) M fr w _ (h5 i j row d hi hj)
theorem X7o {ds:List D}(h:∀ d∈ds,Free d):Free (.cptr ds):=fun M fr w u hr=>by
 obtain ⟨b,o,f,rfl,h1,h2⟩:=Z4g hr
 exact .cptr _ _ _ f h1 fun j d hj=>h d (U1 hj) M fr w _ (h2 j d hj)
@[simp] theorem le_refl (d:D):D.le d d:=fun _ _ h=>h
theorem D.le.trans {a b c:D}(h:a.le b)(k:b.le c):a.le c:=fun x v r=>k x v (h x v r)
@[simp] theorem le_nil (sz:Nat):D.le .nil (.slice sz []):=fun c v h=>by cases h;exact .slice0 _ _ _
@[simp] theorem le_any (d:D):D.le d .any:=fun c v h=>.any _
theorem Y3g {ds es:List D}(h:All2 D.le ds es):D.le (.agg ds) (.agg es):=fun c v hr=>by
 cases hr with
 | agg ds vs hlen hh=>
  have key:∀ (l m:List D),All2 D.le l m→l.length=m.length∧∀ (i:Nat) (e:D),m[i]?=some e→∃ d,l[i]?=some d∧d.le e:=fun l m hlm=>by
   induction hlm with
   | nil=>exact ⟨rfl,fun i e he=>by simp at he⟩
   | cons h _ ih=>
    refine ⟨by simp [ih.1],fun i e he=>?_⟩
    cases i with
    | zero=>simp at he;subst he;exact ⟨_,rfl,h⟩
    | succ i=>exact ih.2 i e (by simpa using he)
  obtain ⟨h1,h2⟩:=key _ _ h
  refine .agg _ _ (by omega) fun i e v he hv=>?_
  obtain ⟨d,hd,hle⟩:=h2 i e he
  exact hle c v (hh i d v hd hv)
theorem Y8v {P:Program}{σ:St}{f:FuncId}{args args':List D}{K:(Nat→Option Loc)→D→Prop}{Q:D→Prop}(h:Q7 P f args' Q)(hle:All2 D.le args args')(hf:∀ d∈args',Free d)
  (hK:∀ r,Q r→K σ.h r):Q8n P σ f args K:=by
 have views:∀ l:List D,Q7y σ.h l l σ.h:=fun l=>by
  induction l with
  | nil=>exact .nil _
  | cons d l ih=>exact .cons (.same _ _) ih
 exact .inl ⟨args,args',σ.h,Q,h,views args,hle,hf,hK⟩
theorem Z6w:∀ l:List D,All2 D.le l l
 | []=>.nil
 | d::l=>.cons (le_refl d) (Z6w l)
@[simp] theorem Y5q {α γ:Type} (f:α→γ) (pre:List α) (x:α) (post:List α) (d:γ):((pre++x::post).map f).getD pre.length d=f x:=by
 simp [List.getD_eq_getElem?_getD]
theorem Z81 {x:Int}(h : -9223372036854775808≤x)(h':x≤9223372036854775807):IntKind.i64.wrap x=x:=by
 simp only [IntKind.wrap,IntKind.bits,IntKind.signed,Bool.true_and]
 split
 ·rename_i h2;simp at h2;omega
 ·rename_i h2;simp at h2;omega
end Go.Proofs.YtenmmbjgnlflnaaGreat
namespace Go.Proofs.YtenmmbjgnlflnaaGreat
open Go Go.RowKit
structure St.Ren (ρ:Nat→Option Nat) (σ σ':St):Prop where
 t:∀ i,Go.Proofs.YtenmmbjgnlflnaaGreat.Ren ρ (σ.t i) (σ'.t i)
 inj:∀ k k' q,ρ k=some q→ρ k'=some q→k=k'
 h:∀ k L',σ'.h k=some L'→∃ q L,ρ k=some q∧σ.h q=some L∧L'.sz=L.sz∧L'.el=L.el∧L'.fz=L.fz∧Z5h ρ L.rows L'.rows
 n:σ'.n=σ.n
 next:∀ k,σ'.next≤k→ρ k=none
 keep:∀ k,k<σ'.next∨σ'.h k=none
theorem Conc.ren {β:Base}{ρ:Nat→Option Nat}{σ σ':St}{a:Act}{c:Cx}(H:Conc β σ a c)(hr:σ.Ren ρ σ')(hk:∀ k x,β.c0.M k=some x→ρ k=some k):∃ c',c'.w=c.w∧c'.fr=c.fr∧Conc β σ' a c'∧∀ k' k,ρ k'=some k→c'.M k'=c.M k:=by
 let M':Nat→Option (Option Nat):=fun k=>match ρ k with | some q=>c.M q | none=>none
 have hM:∀ k' k,ρ k'=some k→M' k'=c.M k:=fun k' k h=>by simp only [M',h]
 have is:∀ k,(σ'.h k).isSome=true→∃ q,ρ k=some q∧(σ.h q).isSome=true:=fun k hk=>by
  obtain ⟨L',hL'⟩:=Option.isSome_iff_exists.1 hk
  obtain ⟨q,L,h1,h2,_⟩:=hr.h k L' hL'
  exact ⟨q,h1,by simp [h2]⟩
 have rep:∀ {d d':D} {v:Value},Go.Proofs.YtenmmbjgnlflnaaGreat.Ren ρ d d'→Rep c d v→Rep ⟨M',c.fr,c.w⟩ d' v:=fun h hv=>h.rep (M:=c.M) hM hv
 have hx:β.c0.Ext ⟨M',c.fr,c.w⟩:=⟨H.heap.ext.len,fun k x h=>by show M' k=some x;rw [hM k k (hk k x h)];exact H.heap.ext.M k x h,H.heap.ext.fr,H.heap.ext.cell,H.heap.ext.size⟩
 refine ⟨⟨M',c.fr,c.w⟩,rfl,rfl,⟨⟨hx,H.heap.os,H.heap.tape,H.heap.output,H.heap.size,H.heap.old,fun k L' hk'=>?_,fun k k' b h1 h2 e1 e2=>?_,fun k b h1 e1=>?_⟩,by rw [hr.n];exact H.size,H.defers,fun i=>rep (hr.t i) (H.slots i),fun k hk'=>?_⟩,hM⟩
 ·obtain ⟨q,L,h1,h2,h3,h4,h5,h6,h7⟩:=hr.h k L' hk'
  have hm:=hM k q h1
  have hlen:L'.rows.length=L.rows.length:=h6
  cases H.heap.locs q L h2 with
  | nil hM0 hr0 hf0=>exact .nil (hm.trans hM0) (List.eq_nil_of_length_eq_zero (by rw [hlen,hr0];rfl)) (h5.trans hf0)
  | map b clock es hM0 hb hfr hsz hfz hlen0 hrow=>
   refine .map b clock es (hm.trans hM0) hb hfr (by rw [h3];exact hsz) (by rw [h5];exact hfz) (by rw [hlen];exact hlen0) fun i row' e hi he=>?_
   have hlt:i<L.rows.length:=by have:=(List.getElem?_eq_some_iff.1 hi).1;omega
   have h0:L.rows[i]?=some L.rows[i]:=by simp [hlt]
   obtain ⟨g1,g2⟩:=h7 i _ row' h0 hi
   obtain ⟨dk,dv,hr0,r1,r2⟩:=hrow i _ e h0 he
   rw [hr0] at g1 g2
   match row',g1,g2 with
   | [dk',dv'],_,g2=>exact ⟨dk',dv',rfl,rep (g2 0 _ _ rfl rfl) r1,rep (g2 1 _ _ rfl rfl) r2⟩
  | own b cs f hM0 hb hfr hlen0 hfz hlim hrow hcell hpos=>
   refine .own (hpos:=by rw [h3];exact hpos) b cs f (hm.trans hM0) (by rw [h4];exact hb) (by rw [h5];exact hfr) (by rw [hlen,h3];exact hlen0) (by rw [h5,hlen,h3];exact hfz) (by rw [hlen];exact hlim) (fun row' hrow'=>?_) fun i j row' d' hi hj=>?_
   ·obtain ⟨i,hi⟩:=List.mem_iff_getElem?.1 hrow'
    have hlt:i<L.rows.length:=by have:=(List.getElem?_eq_some_iff.1 hi).1;omega
    have h0:L.rows[i]?=some L.rows[i]:=by simp [hlt]
    rw [(h7 i _ row' h0 hi).1,h3]
    exact hrow _ (U1 h0)
   ·have hlt:i<L.rows.length:=by have:=(List.getElem?_eq_some_iff.1 hi).1;omega
    have h0:L.rows[i]?=some L.rows[i]:=by simp [hlt]
    obtain ⟨g1,g2⟩:=h7 i _ row' h0 hi
    have hlt2:j<L.rows[i].length:=by have:=(List.getElem?_eq_some_iff.1 hj).1;omega
    have h02:L.rows[i][j]?=some L.rows[i][j]:=by simp [hlt2]
    obtain ⟨k1,k2,k3⟩:=hcell i j _ _ h0 h02
    rw [h3]
    exact ⟨k1,rep (g2 j _ d' h02 hj) k2,k3⟩
 ·obtain ⟨q1,g1,s1⟩:=is k h1
  obtain ⟨q2,g2,s2⟩:=is k' h2
  simp only [hM k q1 g1] at e1
  simp only [hM k' q2 g2] at e2
  have:=H.heap.inj q1 q2 b s1 s2 e1 e2
  subst this
  exact hr.inj k k' q1 g1 g2
 ·obtain ⟨q1,g1,s1⟩:=is k h1
  simp only [hM k q1 g1] at e1
  exact H.heap.mine q1 b s1 e1
 ·refine ⟨?_,?_⟩
  ·rcases hr.keep k with h | h
   ·omega
   ·exact h
  ·simp only [M',hr.next k hk']
theorem Conc.ownNil {β:Base}{σ:St}{a:Act}{c:Cx}(H:Conc β σ a c){s:Nat}(hs:σ.t s=.nil)(sz:Nat)(el:TypeId) :
  ∃ c',c'.w=c.w∧Conc β { σ with t:=updD σ.t s (.sl sz σ.next 0),h:=updL σ.h σ.next (some ⟨sz,[],0,el⟩),next:=σ.next+1 } a c':=by
 obtain ⟨hn,hM⟩:=H.fresh σ.next (Nat.le_refl _)
 obtain ⟨c',hc',hx,hh⟩:=H.heap.nilloc hM sz el
 subst hc'
 refine ⟨⟨fun k=>if k=σ.next then some none else c.M k,c.fr,c.w⟩,rfl,hh,H.size,H.defers,fun i=>?_,fun k hk=>?_⟩
 ·simp only [Z4c]
  split
  ·rename_i hi
   subst hi
   have:=H.slots i
   rw [hs] at this
   generalize a.tmps.getD i undef=v at this
   cases this
   exact .sl0 _ _ none (by simp)
  ·exact (H.slots i).mono hx
 ·have hk':σ.next+1≤k:=hk
  obtain ⟨h1,h2⟩:=H.fresh k (by omega)
  have:k≠σ.next:=by omega
  simp [this,h1,h2]
section
variable {P:Program} {β:Base} {σ:St} {Q:Exit→St→Prop}
theorem V3.ren {ρ:Nat→Option Nat}{σ':St}(hr:σ.Ren ρ σ')(hk:∀ k x,β.c0.M k=some x→ρ k=some k):V3 β σ σ':=fun _ _ H=>by obtain ⟨c',h1,_,h2,_⟩:=H.ren hr hk;exact ⟨c',h1,h2⟩
theorem V3.ownNil {s:Nat}(hs:σ.t s=.nil)(sz:Nat)(el:TypeId):V3 β σ { σ with t:=updD σ.t s (.sl sz σ.next 0),h:=updL σ.h σ.next (some ⟨sz,[],0,el⟩),next:=σ.next+1 }:=fun _ _ H=>H.ownNil hs sz el
theorem TrD.ghost {cd:Code}{σ':St}(hg:V3 β σ σ')(h:TrD P β cd σ' Q):TrD P β cd σ Q:=fun a c H=>by
 obtain ⟨c',e,H'⟩:=hg a c H
 rw [←e]
 exact h a c' H'
theorem TrL.ghost {cd:Code}{σ':St}(hg:V3 β σ σ')(h:TrL P β cd σ' Q):TrL P β cd σ Q:=fun a c H=>by
 obtain ⟨c',e,H'⟩:=hg a c H
 rw [←e]
 exact h a c' H'
end
theorem Z3e {ρ:Nat→Option Nat}{rows:List (List D)}(h:∀ row∈rows,∀ d∈row,Free d):Z5h ρ rows rows:=
 ⟨rfl,fun i row row' h1 h2=>by
  rw [h1] at h2
  cases h2
  exact ⟨rfl,fun j d d' e1 e2=>by
   rw [e1] at e2
   cases e2
   exact .free d d (h row (U1 h1) d (U1 e1)) (le_refl d)⟩⟩
@[simp] theorem Y7x (ρ:Nat→Option Nat) (v:Value):Ren ρ (.val v) (.val v):=.free _ _ (Q5t v) (le_refl _)
@[simp] theorem Y7z (ρ:Nat→Option Nat) (d:D):Ren ρ d .any:=.any d
@[simp] theorem Y7y (ρ:Nat→Option Nat):Ren ρ .nil .nil:=.free _ _ W2q (le_refl _)
@[simp] theorem Z21 {ρ:Nat→Option Nat} {sz k k' i j:Nat} (h:ρ k'=some k):Ren ρ (.ptr sz k i j) (.ptr sz k' i j):=.ptr _ _ _ _ _ h
@[simp] theorem Q9g {ρ:Nat→Option Nat} {sz k k' n:Nat} (h:ρ k'=some k):Ren ρ (.sl sz k n) (.sl sz k' n):=.sl _ _ _ _ h
theorem W1t {ρ:Nat→Option Nat}{d:D}(h:Free d):Ren ρ d d:=.free _ _ h (le_refl d)
def hOf (Hs:List Loc):Nat→Option Loc:=fun k=>Hs[k]?
@[simp] theorem Y8f (Hs:List Loc) (k:Nat):hOf Hs k=Hs[k]?:=rfl
section
variable {P:Program} {β:Base} {σ:St} {Q:Exit→St→Prop}
theorem TrD.to {x y:Code}(σ0:St)(h1:TrD P β x σ (fun e s=>match e with | .normal=>V3 β s σ0 | e=>Q e s))(h2:TrD P β y σ0 Q):TrD P β (.seq x y) σ Q:=
 TrD.seq (h1.mono fun e s hs=>by
  cases e with
  | normal=>exact TrD.ghost hs h2
  | _=>exact hs)
theorem TrD.toAny {x y:Code}{α:Type}(S:α→St)(p:α→Prop)(h1:TrD P β x σ (fun e s=>match e with | .normal=>∃ z,p z∧V3 β s (S z) | e=>Q e s))(h2:∀ z,p z→TrD P β y (S z) Q):TrD P β (.seq x y) σ Q:=
 TrD.seq (h1.mono fun e s hs=>by
  cases e with
  | normal=>obtain ⟨z,hz,hg⟩:=hs;exact TrD.ghost hg (h2 z hz)
  | _=>exact hs)
theorem TrL.rel {cd:Code}{α:Type}(S:α→St)(inv:α→Prop)(μ:α→Nat)
  (round:∀ x,inv x→TrD P β cd (S x) (fun e s=>match e with | .normal=>∃ y,inv y∧μ y<μ x∧V3 β s (S y) | e=>Q e s)):∀ (n:Nat) (x:α),μ x=n→inv x→TrL P β cd (S x) Q:=by
 intro n
 induction n using Nat.strongRecOn with
 | _ n ih=>
  intro x hn hx
  refine TrL.round ((round x hx).mono fun e s hs=>?_)
  cases e with
  | normal=>obtain ⟨y,hy,hlt,hg⟩:=hs;exact TrL.ghost hg (ih (μ y) (hn▸hlt) y rfl hy)
  | _=>exact hs
theorem TrD.loopRel {cd:Code}{α:Type}(S:α→St)(inv:α→Prop)(μ:α→Nat)(x0:α)(h0:V3 β σ (S x0))(hi:inv x0)
  (round:∀ x,inv x→TrD P β cd (S x) (fun e s=>match e with | .normal=>∃ y,inv y∧μ y<μ x∧V3 β s (S y) | e=>Q e s)):TrD P β (.loop cd) σ Q:=
 TrD.loop (TrL.ghost h0 (TrL.rel S inv μ round _ x0 rfl hi))
theorem TrD.loopList {cd:Code}{α:Type}(xs:List α)(S:List α→St)(h0:V3 β σ (S []))
  (step:∀ pre x post,xs=pre++x::post→TrD P β cd (S pre) (fun e s=>match e with | .normal=>V3 β s (S (pre++[x])) | e=>Q e s))
  (stop:TrD P β cd (S xs) (fun e s=>match e with | .normal=>False | e=>Q e s)):TrD P β (.loop cd) σ Q:=by
 refine TrD.loopRel (fun z:List α×List α=>S z.1) (fun z=>xs=z.1++z.2) (fun z=>z.2.length) ([],xs) h0 rfl fun z hz=>?_
 obtain ⟨pre,post⟩:=z
 simp only at hz
 cases post with
 | nil=>
  simp only [List.append_nil] at hz
  subst hz
  exact stop.mono fun e s hs=>by
   cases e with
   | normal=>exact hs.elim
   | _=>exact hs
 | cons x post=>
  exact (step pre x post hz).mono fun e s hs=>by
   cases e with
   | normal=>exact ⟨(pre++[x],post),by simp [hz],by simp,hs⟩
   | _=>exact hs
end
end Go.Proofs.YtenmmbjgnlflnaaGreat
namespace Go.Proofs.YtenmmbjgnlflnaaGreat
open Go Go.RowKit
def lowN (n:Nat):Nat→Option Nat:=fun k=>if k<n then some k else none
theorem V2u {n:Nat}{d:D}(h:Free d):Ren (lowN n) d d:=.free _ _ h (le_refl d)
def EndH (m:Nat)(Q:List (Option Loc)→D→Prop)(σ:St)(ds:List D):Prop:=
 ∃ H' X:List (Option Loc),σ.h=hOfO (H'++X)∧σ.next≤(H'++X).length∧m≤H'.length∧(X=[]∨((∀ d∈ds,Ren (lowN H'.length) d d)∧∀ L,some L∈H'→∀ row∈L.rows,∀ d∈row,Free d))∧Q H' (Z2y ds)
def W5a (T:Ty)(β:Base)(m:Nat)(res:List ResultVar)(Q:List (Option Loc)→D→Prop)(σ:St):Prop:=∃ σ',V3 β σ σ'∧resD T σ' res (EndH m Q σ')
theorem W59 {T:Ty}{β:Base}{m:Nat}{res:List ResultVar}{Q:List (Option Loc)→D→Prop}{σ σ':St}(hg:V3 β σ σ')(h:W5a T β m res Q σ'):W5a T β m res Q σ:=by
 obtain ⟨σ2,g2,h⟩:=h
 exact ⟨σ2,hg.trans g2,h⟩
def X8i (T:Ty)(β:Base)(m:Nat)(res:List ResultVar)(Q:List (Option Loc)→D→Prop):Exit→St→Prop
 | .normal,σ=>W5a T β m res Q σ
 | .ret,σ=>W5a T β m res Q σ
 | _,_=>False
theorem Q12.of {P:Program}{T:Ty}(hT:Z0w P T){f:FuncId}{fn:Func}{body:Code}{H:List Loc}{args:List D}{Q:List (Option Loc)→D→Prop}(hf:P.funcs[f]?=some fn)
  (hname : (fn.name == "runtime.NumGoroutine") = false) (hb : fn.body = some body) (hn : args.length ≤ fn.ntmps) {res : List ResultVar} (hres : fn.results.toList = res) {n : Nat} (hnt : fn.ntmps = n)
  (h:∀ β:Base,(∀ k x,β.c0.M k=some x→k<H.length)→TrD P β body ⟨fun i=>args.getD i (.val undef),hOf H,H.length,n⟩ (X8i T β H.length res Q)):Q12 P f H args Q:=by
 subst hres
 subst hnt
 refine ⟨⟨fn,hf,hname,by simp [hb]⟩,fun c vs hin hvs=>?_⟩
 obtain ⟨hl,hr⟩:=hvs
 refine calls_of_wp hf hb ?_
 have is:∀ k,(hOf H k).isSome=true→k<H.length:=fun k hk=>by
  obtain ⟨L,hL⟩:=Option.isSome_iff_exists.1 hk
  exact (List.getElem?_eq_some_iff.1 hL).1
 have Hc:Conc ⟨c,X0h c H.length⟩ ⟨fun i=>args.getD i (.val undef),hOf H,H.length,fn.ntmps⟩ { tmps:=vs++Array.replicate (fn.ntmps-vs.size) undef,defers:=[] } c:=by
  refine ⟨⟨.refl _,rfl,rfl,rfl,Nat.le_refl _,fun b _ _=>⟨rfl,rfl⟩,fun k L hk=>hin.locs k L hk,fun k k' b h1 h2=>hin.inj k k' b (is k h1) (is k' h2),fun k b h1 e1=>.inr ⟨k,is k h1,e1⟩⟩,by simp;omega,rfl,fun i=>?_,fun k hk=>⟨List.getElem?_eq_none hk,hin.fresh k hk⟩⟩
  simp only [Array.getD_eq_getD_getElem?,Array.getElem?_append]
  by_cases hi:i<vs.size
  ·have hi2:i<args.length:=by omega
   rw [if_pos hi]
   have h1:args[i]?=some (args.getD i (.val undef)):=getD_some hi2
   have h2:vs[i]?=some vs[i]:=by simp [hi]
   rw [h2]
   exact hr i _ _ h1 h2
  ·have hi2:¬i<args.length:=by omega
   rw [if_neg hi]
   have h1:args.getD i (.val undef)=.val undef:=by simp [List.getD_eq_getElem?_getD,List.getElem?_eq_none (by omega:args.length≤i)]
   rw [h1]
   have:(Array.replicate (fn.ntmps-vs.size) undef)[i-vs.size]?.getD undef=undef:=by
    simp only [Array.getElem?_replicate]
    split<;>rfl
   rw [this]
   exact .val _
 have hM:∀ k x,c.M k=some x→k<H.length:=fun k x hk=>by
  rcases Nat.lt_or_ge k H.length with h | h
  ·exact h
  ·rw [hin.fresh k h] at hk;cases hk
 refine wp_mono (h ⟨c,X0h c H.length⟩ hM _ _ Hc) fun e a' w' hp=>?_
 obtain ⟨σ',c',rfl,H',hq⟩:=hp
 have fin:W5a T ⟨c,X0h c H.length⟩ H.length fn.results.toList Q σ'→a'.defers=[]∧∃ v,(results fn a'.tmps).run P c'.w=.ok v c'.w∧∃ (v':Value) (c2:Cx) (H2:List (Option Loc)) (r:D),Ending.returned v=.returned v'∧c2.w=c'.w∧Q H2 r∧Rep c2 r v'∧
   HOk ⟨c,X0h c H.length⟩ (hOfO H2) c2∧H.length≤H2.length∧∀ k,H2.length≤k→c2.M k=none:=fun hx=>by
  obtain ⟨σ2,hg,hres⟩:=hx
  obtain ⟨c2,e2,H2⟩:=hg a' c' H'
  obtain ⟨ds,us,h1,h2,HH,X,hh,hnx,hm,hX,hQ⟩:=X47 (P:=P) hT H2 _ _ hres
  have hrun:(results fn a'.tmps).run P c'.w=.ok (if hh:us.toArray.size=1 then us.toArray[0] else .tuple us.toArray) c'.w:=by
   rw [←e2,X39]
   rw [Sem.run_bind,X0o P c2.w c2.w _ _ us h1]
   rfl
  rcases hX with rfl | ⟨hfree,hrows⟩
  ·rw [List.append_nil] at hh hnx
   refine ⟨H'.defers,_,hrun,_,c2,HH,Z2y ds,rfl,e2,hQ,X4b ds us h2,?_,hm,fun k hk=>(H2.fresh k (by omega)).2⟩
   rw [←hh]
   exact H2.heap
  ·have get:∀ k L,hOfO HH k=some L→k<HH.length∧some L∈HH∧σ2.h k=some L:=fun k L hk=>by
    simp only [Z6c] at hk
    cases hq:HH[k]? with
    | none=>rw [hq] at hk;cases hk
    | some x=>
     rw [hq] at hk
     have hx:x=some L:=hk
     subst hx
     have hlt:=(List.getElem?_eq_some_iff.1 hq).1
     refine ⟨hlt,U1 hq,?_⟩
     rw [hh,Z6c,List.getElem?_append_left hlt,hq]
     rfl
   obtain ⟨c3,e3,f3,H3,m3⟩:=H2.ren (ρ:=lowN HH.length) (σ':=⟨fun _=>.any,hOfO HH,HH.length,σ2.n⟩)
    ⟨fun i=>.any _,fun k k' q h1 h2=>by
     unfold lowN at h1 h2
     split at h1<;>split at h2<;>cases h1<;>cases h2
     rfl,fun k L' hk=>by
     obtain ⟨g1,g2,g3⟩:=get k L' hk
     exact ⟨k,L',by simp [lowN,g1],g3,rfl,rfl,rfl,Z3e (hrows L' g2)⟩,rfl,fun k hk=>by
     have:¬k<HH.length:=Nat.not_lt.2 hk
     simp [lowN,this],fun k=>by
     rcases Nat.lt_or_ge k HH.length with h | h
     ·exact .inl h
     ·exact .inr (by simp only [Z6c];rw [List.getElem?_eq_none h];rfl)⟩
    (fun k x hk=>by
     have:=hM k x hk
     rw [lowN,if_pos (by omega)])
   have r3:∀ (l:List D) (m:List Value),(∀ d∈l,Ren (lowN HH.length) d d)→All2 (Rep c2) l m→All2 (Rep c3) l m:=fun l m hf hr=>by
    obtain ⟨M3,fr3,w3⟩:=c3
    simp only at e3 f3 m3
    subst e3 f3
    induction hr with
    | nil=>exact .nil
    | cons h _ ih=>exact .cons ((hf _ (.head _)).rep (M:=c2.M) m3 h) (ih fun d hd=>hf d (.tail _ hd))
   refine ⟨H'.defers,_,hrun,_,c3,HH,Z2y ds,rfl,e3.trans e2,hQ,X4b ds us (r3 ds us hfree h2),H3.heap,hm,fun k hk=>(H3.fresh k hk).2⟩
 cases e with
 | normal=>exact fin hq
 | ret=>exact fin hq
 | _=>exact hq.elim
def W3d (σ:St)(l:List Nat)(q:Nat)(x:Option Loc):Prop:=∀ L',x=some L'→Q8p σ l q L'
theorem W3d.none {σ:St}{l:List Nat}{q:Nat} : W3d σ l q none:=fun _ h=>by cases h
theorem W3d.some {σ:St}{l:List Nat}{q:Nat}{L':Loc}(h:Q8p σ l q L'):W3d σ l q (some L'):=fun _ e=>by cases e;exact h
theorem V50 {P:Program}{σ:St}{f:FuncId}{args args1 args2 args':List D}{K:(Nat→Option Loc)→D→Prop}{Q:List (Option Loc)→D→Prop}{H:List Loc}{h1 h2:Nat→Option Loc}(hv:Q7y σ.h args args1 h1)(hno:X8h σ.next h1 args1 args2 h2)(ks:List Nat)(h:Q12 P f H args' Q)(hn:ks.Nodup)
  (hl:All2 (Q8p { σ with h:=h2,next:=σ.next+1 } ks) ks H) (ha:All2 (Ren (fun i=>ks[i]?)) args2 args')
  (hK:∀ H' r,Q H' r→H'.length≤ks.length+7∧∃ (Hs:List (Option Loc)) (r':D),All2 (Z4a (J0 (ks++J3 (σ.next+1) (H'.length-ks.length)))) H' Hs∧
   Ren (J0 (ks++J3 (σ.next+1) (H'.length-ks.length))) r r'∧K (Q26 h2 (ks++J3 (σ.next+1) (H'.length-ks.length)) Hs) r'):Q8n P σ f args K:=
 .inr (.inl ⟨args1,h1,args2,h2,hv,hno,ks,H,args',Q,h,hn,hl,ha,hK⟩)
theorem V97 {P:Program}{σ:St}{f:FuncId}{args args1 args':List D}{h':Nat→Option Loc}{K:(Nat→Option Loc)→D→Prop}{Q:D→Prop}(hv:Q7y σ.h args args1 h')(h:Q7 P f args' Q)(hle:All2 D.le args1 args')(hf:∀ d∈args',Free d)
  (hK:∀ r,Q r→r.scalar=true∧K σ.h r):Q8n P σ f args K:=.inr (.inr ⟨args1,args',h',Q,h,hv,hle,hf,hK⟩)
theorem Z1i (h:Nat→Option Loc):∀ l:List D,Q7y h l l h
 | []=>.nil _
 | d::l=>.cons (.same _ _) (Z1i h l)
theorem V96 {P:Program}{σ:St}{f:FuncId}{args args1 args':List D}{h':Nat→Option Loc}{K:(Nat→Option Loc)→D→Prop}{Q:D→Prop}(hv:Q7y σ.h args args1 h')(h:Q7 P f args' Q)(hle:All2 D.le args1 args')(hf:∀ d∈args',Free d)
  (hK:∀ r,Q r→K h' r):Q8n P σ f args K:=.inl ⟨args1,args',h',Q,h,hv,hle,hf,hK⟩
theorem W6 {T:Ty}{σ:St}{dst:Option Tmp}{op:Op}{ty:TypeId}{pos:String}{af:Array Edge}{g:Option (Nat×Bool)}{K:(Nat→Option Loc)→D→Prop} :
  Q7a T σ ⟨dst,op,ty,pos,af,g⟩ K=J4 (V0 T σ σ.next op) (fun r=>r.ok∧K r.h r.d) ⟨⟩:=by
 unfold Q7a J4
 first
  | (simp only;done)
  | (simp only;split<;>rename_i h<;>simp only [h])
section
variable {P:Program} {T:Ty} {R Z pd X:List Nat} {ops:Array Oper} {rest:List Nat} {σ:St} {K:St→Prop} {K2:(Nat→Option Loc)→D→Prop} {dst:Option Tmp} {op:Op} {ty:TypeId} {pos:String} {af:Array Edge} {g:Option (Nat×Bool)} {j i:Nat} {w:Bool}
@[simp] theorem Y5k:runA P T R Z pd X ops [] σ K=K σ:=rfl
@[simp] theorem Y2y:runA P T R Z pd X ops (i::rest) σ K=V7u ops[i]? (fun o=>opA P T R Z pd X ops σ o fun σ'=>runA P T R Z pd X ops rest σ' K) ⟨⟩:=by
 unfold V7u
 first
  | (rw [runA];done)
  | (rw [runA];cases ops[i]?<;>rfl)
@[simp ↓] theorem opA_0:opA P T R Z pd X ops σ ⟨dst,op,ty,pos,af,none⟩ K=opA0 P T R Z pd X σ ⟨dst,op,ty,pos,af,none⟩ K:=rfl
@[simp ↓] theorem opA_1:opA P T R Z pd X ops σ ⟨dst,op,ty,pos,af,some (j,w)⟩ K=Z5c (Z0l ops σ j w) (opA0 P T R Z pd X σ ⟨dst,op,ty,pos,af,some (j,w)⟩ K) (Q0o σ.n dst∧K (σ.put dst (.val undef))) ⟨⟩ ⟨⟩:=rfl
@[simp ↓] theorem opA0_r:opA0 P T R Z pd X σ ⟨dst,op,ty,pos,af,g⟩ K=(Q0o σ.n dst∧V54 (soft pd ⟨dst,op,ty,pos,af,g⟩)
   (J4 (V0 T (σ.hide R) σ.next op) (fun r=>r.ok∧K (σ.put dst r.d)) ⟨⟩)
   (V54 (mk Z ⟨dst,op,ty,pos,af,g⟩) (J4 (V0 T σ (zone+dst.getD 0) op) (fun r=>r.ok∧K ({ σ with h:=r.h }.put dst r.d)) ⟨⟩)
    (V9 P T σ ⟨dst,op,ty,pos,af,g⟩ fun h' d=>(Z6i X op=true∨∀ k∈R,h' k=σ.h k∨σ.h k=none)∧(∀ k∈Z,σ.h k=none→h' k=none)∧K ({ σ with h:=h',next:=σ.next+8 }.put dst d)) ⟨⟩ ⟨⟩) ⟨⟩ ⟨⟩):=by
 unfold opA0
 simp only
 congr 1
 generalize soft pd ⟨dst,op,ty,pos,af,g⟩=b
 cases b with
 | true=>
  rw [if_pos rfl,X3r]
  unfold J4
  split<;>rename_i h<;>simp only [h]
 | false=>
  rw [if_neg (by decide),X1x]
  generalize mk Z ⟨dst,op,ty,pos,af,g⟩=b
  cases b with
  | true=>
   rw [if_pos rfl,X3r]
   unfold J4 Q0b
   split<;>rename_i h<;>simp only [h]
  | false=>rw [if_neg (by decide),X1x]
@[simp ↓] theorem Y02 (x:Operand):V9 P T σ ⟨dst,.move x,ty,pos,af,g⟩ K2=J4 (V0 T σ σ.next (.move x)) (fun r=>r.ok∧K2 r.h r.d) ⟨⟩:=by simp only [V9];exact W6
@[simp ↓] theorem V6n (x:Operand):V9 P T σ ⟨dst,.assign x,ty,pos,af,g⟩ K2=J4 (V0 T σ σ.next (.assign x)) (fun r=>r.ok∧K2 r.h r.d) ⟨⟩:=by simp only [V9];exact W6
@[simp ↓] theorem Y01 (x:Operand) (y:Operand) (z:Operand):V9 P T σ ⟨dst,.pick x y z,ty,pos,af,g⟩ K2=J4 (V0 T σ σ.next (.pick x y z)) (fun r=>r.ok∧K2 r.h r.d) ⟨⟩:=by simp only [V9];exact W6
@[simp ↓] theorem V90 (t:TypeId):V9 P T σ ⟨dst,.alloc t,ty,pos,af,g⟩ K2=J4 (V0 T σ σ.next (.alloc t)) (fun r=>r.ok∧K2 r.h r.d) ⟨⟩:=by simp only [V9];exact W6
@[simp ↓] theorem Y4j (t:TypeId) (x:Operand):V9 P T σ ⟨dst,.box t x,ty,pos,af,g⟩ K2=J4 (V0 T σ σ.next (.box t x)) (fun r=>r.ok∧K2 r.h r.d) ⟨⟩:=by simp only [V9];exact W6
@[simp ↓] theorem V8z (t:TypeId) (ps:Array (Nat×Operand)):V9 P T σ ⟨dst,.build t ps,ty,pos,af,g⟩ K2=J4 (V0 T σ σ.next (.build t ps)) (fun r=>r.ok∧K2 r.h r.d) ⟨⟩:=by simp only [V9];exact W6
@[simp ↓] theorem W6h (t:TypeId) (n:Nat) (ps:Array (Nat×Operand)):V9 P T σ ⟨dst,.buildSlice t n ps,ty,pos,af,g⟩ K2=J4 (V0 T σ σ.next (.buildSlice t n ps)) (fun r=>r.ok∧K2 r.h r.d) ⟨⟩:=by simp only [V9];exact W6
@[simp ↓] theorem Y03 (t:TypeId) (x:Operand):V9 P T σ ⟨dst,.load t x,ty,pos,af,g⟩ K2=J4 (V0 T σ σ.next (.load t x)) (fun r=>r.ok∧K2 r.h r.d) ⟨⟩:=by simp only [V9];exact W6
@[simp ↓] theorem V8v (t:TypeId) (x:Operand) (y:Operand):V9 P T σ ⟨dst,.store t x y,ty,pos,af,g⟩ K2=J4 (V0 T σ σ.next (.store t x y)) (fun r=>r.ok∧K2 r.h r.d) ⟨⟩:=by simp only [V9];exact W6
@[simp ↓] theorem V21 (x:Operand):V9 P T σ ⟨dst,.nilCheck x,ty,pos,af,g⟩ K2=J4 (V0 T σ σ.next (.nilCheck x)) (fun r=>r.ok∧K2 r.h r.d) ⟨⟩:=by simp only [V9];exact W6
@[simp ↓] theorem Y00 (u:UnOp) (t:TypeId) (x:Operand):V9 P T σ ⟨dst,.unOp u t x,ty,pos,af,g⟩ K2=J4 (V0 T σ σ.next (.unOp u t x)) (fun r=>r.ok∧K2 r.h r.d) ⟨⟩:=by simp only [V9];exact W6
@[simp ↓] theorem V4u (t:TypeId) (t2:TypeId) (x:Operand):V9 P T σ ⟨dst,.convert t t2 x,ty,pos,af,g⟩ K2=J4 (V0 T σ σ.next (.convert t t2 x)) (fun r=>r.ok∧K2 r.h r.d) ⟨⟩:=by simp only [V9];exact W6
@[simp ↓] theorem V22 (f:Fn) (fs:Array Operand) (caps:Array Operand):V9 P T σ ⟨dst,.makeFunc f fs caps,ty,pos,af,g⟩ K2=J4 (V0 T σ σ.next (.makeFunc f fs caps)) (fun r=>r.ok∧K2 r.h r.d) ⟨⟩:=by simp only [V9];exact W6
@[simp ↓] theorem V8w (t:TypeId) (x:Operand) (l:Option Operand) (h:Option Operand) (m:Option Operand):V9 P T σ ⟨dst,.slice t x l h m,ty,pos,af,g⟩ K2=J4 (V0 T σ σ.next (.slice t x l h m)) (fun r=>r.ok∧K2 r.h r.d) ⟨⟩:=by simp only [V9];exact W6
@[simp ↓] theorem V0a (t:TypeId) (x:Operand) (n:Nat):V9 P T σ ⟨dst,.fieldAddr t x n,ty,pos,af,g⟩ K2=J4 (V0 T σ σ.next (.fieldAddr t x n)) (fun r=>r.ok∧K2 r.h r.d) ⟨⟩:=by simp only [V9];exact W6
@[simp ↓] theorem V8y (t:TypeId) (x:Operand) (n:Nat):V9 P T σ ⟨dst,.field t x n,ty,pos,af,g⟩ K2=J4 (V0 T σ σ.next (.field t x n)) (fun r=>r.ok∧K2 r.h r.d) ⟨⟩:=by simp only [V9];exact W6
@[simp ↓] theorem V09 (t:TypeId) (x:Operand) (y:Operand):V9 P T σ ⟨dst,.indexAddr t x y,ty,pos,af,g⟩ K2=J4 (V0 T σ σ.next (.indexAddr t x y)) (fun r=>r.ok∧K2 r.h r.d) ⟨⟩:=by simp only [V9];exact W6
@[simp ↓] theorem V8x (t:TypeId) (x:Operand) (y:Operand):V9 P T σ ⟨dst,.index t x y,ty,pos,af,g⟩ K2=J4 (V0 T σ σ.next (.index t x y)) (fun r=>r.ok∧K2 r.h r.d) ⟨⟩:=by simp only [V9];exact W6
@[simp ↓] theorem V4t (x:Operand) (n:Nat):V9 P T σ ⟨dst,.extract x n,ty,pos,af,g⟩ K2=J4 (V0 T σ σ.next (.extract x n)) (fun r=>r.ok∧K2 r.h r.d) ⟨⟩:=by simp only [V9];exact W6
@[simp ↓] theorem Y4d (t t2:TypeId) (x y:Operand):V9 P T σ ⟨dst,.binOp .neq t x y t2,ty,pos,af,g⟩ K2=J4 (V0 T σ σ.next (.binOp .neq t x y t2)) (fun r=>r.ok∧K2 r.h r.d) ⟨⟩:=by simp only [V9];exact W6
@[simp ↓] theorem Y4f (t t2:TypeId) (x y:Operand):V9 P T σ ⟨dst,.binOp .lss t x y t2,ty,pos,af,g⟩ K2=J4 (V0 T σ σ.next (.binOp .lss t x y t2)) (fun r=>r.ok∧K2 r.h r.d) ⟨⟩:=by simp only [V9];exact W6
@[simp ↓] theorem V08 (t:TypeId) (x y:Operand):V9 P T σ ⟨dst,.makeSlice t x y,ty,pos,af,g⟩ K2=J4 (V0 T σ σ.next (.makeSlice t x y)) (fun r=>r.ok∧K2 r.h r.d) ⟨⟩:=by simp only [V9];exact W6
@[simp ↓] theorem V4s (t:TypeId) (q:Option Operand):V9 P T σ ⟨dst,.makeMap t q,ty,pos,af,g⟩ K2=J4 (V0 T σ σ.next (.makeMap t q)) (fun r=>r.ok∧K2 r.h r.d) ⟨⟩:=by simp only [V9];exact W6
@[simp ↓] theorem V6m (t:TypeId) (x y:Operand) (q:Bool):V9 P T σ ⟨dst,.lookup t x y q,ty,pos,af,g⟩ K2=J4 (V0 T σ σ.next (.lookup t x y q)) (fun r=>r.ok∧K2 r.h r.d) ⟨⟩:=by simp only [V9];exact W6
@[simp ↓] theorem V07 (t:TypeId) (x y z:Operand):V9 P T σ ⟨dst,.mapUpdate t x y z,ty,pos,af,g⟩ K2=J4 (V0 T σ σ.next (.mapUpdate t x y z)) (fun r=>r.ok∧K2 r.h r.d) ⟨⟩:=by simp only [V9];exact W6
@[simp ↓] theorem Y4g (t t2:TypeId) (x y:Operand):V9 P T σ ⟨dst,.binOp .leq t x y t2,ty,pos,af,g⟩ K2=J4 (V0 T σ σ.next (.binOp .leq t x y t2)) (fun r=>r.ok∧K2 r.h r.d) ⟨⟩:=by simp only [V9];exact W6
@[simp ↓] theorem Y4h (t t2:TypeId) (x y:Operand):V9 P T σ ⟨dst,.binOp .gtr t x y t2,ty,pos,af,g⟩ K2=J4 (V0 T σ σ.next (.binOp .gtr t x y t2)) (fun r=>r.ok∧K2 r.h r.d) ⟨⟩:=by simp only [V9];exact W6
@[simp ↓] theorem Y4i (t t2:TypeId) (x y:Operand):V9 P T σ ⟨dst,.binOp .geq t x y t2,ty,pos,af,g⟩ K2=J4 (V0 T σ σ.next (.binOp .geq t x y t2)) (fun r=>r.ok∧K2 r.h r.d) ⟨⟩:=by simp only [V9];exact W6
@[simp ↓] theorem Y4l (t t2:TypeId) (x y:Operand):V9 P T σ ⟨dst,.binOp .add t x y t2,ty,pos,af,g⟩ K2=J4 (V0 T σ σ.next (.binOp .add t x y t2)) (fun r=>r.ok∧K2 r.h r.d) ⟨⟩:=by simp only [V9];exact W6
@[simp ↓] theorem Y48 (t t2:TypeId) (x y:Operand):V9 P T σ ⟨dst,.binOp .sub t x y t2,ty,pos,af,g⟩ K2=J4 (V0 T σ σ.next (.binOp .sub t x y t2)) (fun r=>r.ok∧K2 r.h r.d) ⟨⟩:=by simp only [V9];exact W6
@[simp ↓] theorem Y4e (t t2:TypeId) (x y:Operand):V9 P T σ ⟨dst,.binOp .mul t x y t2,ty,pos,af,g⟩ K2=J4 (V0 T σ σ.next (.binOp .mul t x y t2)) (fun r=>r.ok∧K2 r.h r.d) ⟨⟩:=by simp only [V9];exact W6
@[simp ↓] theorem Y4c (t t2:TypeId) (x y:Operand):V9 P T σ ⟨dst,.binOp .quo t x y t2,ty,pos,af,g⟩ K2=J4 (V0 T σ σ.next (.binOp .quo t x y t2)) (fun r=>r.ok∧K2 r.h r.d) ⟨⟩:=by simp only [V9];exact W6
@[simp ↓] theorem Y4b (t t2:TypeId) (x y:Operand):V9 P T σ ⟨dst,.binOp .rem t x y t2,ty,pos,af,g⟩ K2=J4 (V0 T σ σ.next (.binOp .rem t x y t2)) (fun r=>r.ok∧K2 r.h r.d) ⟨⟩:=by simp only [V9];exact W6
@[simp ↓] theorem Y4k (t t2:TypeId) (x y:Operand):V9 P T σ ⟨dst,.binOp .and t x y t2,ty,pos,af,g⟩ K2=J4 (V0 T σ σ.next (.binOp .and t x y t2)) (fun r=>r.ok∧K2 r.h r.d) ⟨⟩:=by simp only [V9];exact W6
@[simp ↓] theorem Y5v (t t2:TypeId) (x y:Operand):V9 P T σ ⟨dst,.binOp .or t x y t2,ty,pos,af,g⟩ K2=J4 (V0 T σ σ.next (.binOp .or t x y t2)) (fun r=>r.ok∧K2 r.h r.d) ⟨⟩:=by simp only [V9];exact W6
@[simp ↓] theorem Y46 (t t2:TypeId) (x y:Operand):V9 P T σ ⟨dst,.binOp .xor t x y t2,ty,pos,af,g⟩ K2=J4 (V0 T σ σ.next (.binOp .xor t x y t2)) (fun r=>r.ok∧K2 r.h r.d) ⟨⟩:=by simp only [V9];exact W6
@[simp ↓] theorem V6o (t t2:TypeId) (x y:Operand):V9 P T σ ⟨dst,.binOp .andNot t x y t2,ty,pos,af,g⟩ K2=J4 (V0 T σ σ.next (.binOp .andNot t x y t2)) (fun r=>r.ok∧K2 r.h r.d) ⟨⟩:=by simp only [V9];exact W6
@[simp ↓] theorem Y4a (t t2:TypeId) (x y:Operand):V9 P T σ ⟨dst,.binOp .shl t x y t2,ty,pos,af,g⟩ K2=J4 (V0 T σ σ.next (.binOp .shl t x y t2)) (fun r=>r.ok∧K2 r.h r.d) ⟨⟩:=by simp only [V9];exact W6
@[simp ↓] theorem Y49 (t t2:TypeId) (x y:Operand):V9 P T σ ⟨dst,.binOp .shr t x y t2,ty,pos,af,g⟩ K2=J4 (V0 T σ σ.next (.binOp .shr t x y t2)) (fun r=>r.ok∧K2 r.h r.d) ⟨⟩:=by simp only [V9];exact W6
@[simp ↓] theorem V4v (b:Builtin) (args:Array Operand) (ts:Array TypeId):V9 P T σ ⟨dst,.call ⟨.builtin b,args,ts⟩,ty,pos,af,g⟩ K2=J4 (V0 T σ σ.next (.call ⟨.builtin b,args,ts⟩)) (fun r=>r.ok∧K2 r.h r.d) ⟨⟩:=by simp only [V9];exact W6
@[simp ↓] theorem Y04 (f:FuncId) (args:Array Operand) (ts:Array TypeId):V9 P T σ ⟨dst,.call ⟨.value (.func f),args,ts⟩,ty,pos,af,g⟩ K2=V5d P σ f (args.toList.map σ.get) K2 ⟨⟩:=rfl
@[simp ↓] theorem Y47 (t:Tmp) (args:Array Operand) (ts:Array TypeId):V9 P T σ ⟨dst,.call ⟨.value (.tmp t),args,ts⟩,ty,pos,af,g⟩ K2=V0f (σ.t t) (fun f caps=>V5d P σ f (args.toList.map σ.get++caps) K2 ⟨⟩) ⟨⟩:=by
 unfold V9 V0f
 simp only
 cases σ.t t<;>rfl
end
@[simp] theorem Y2t {pd:List Nat} {s:Tmp} {op:Op} {ty:TypeId} {pos:String} {af:Array Edge} {g:Option (Nat×Bool)} : soft pd ⟨some s,op,ty,pos,af,g⟩=(Z4t op&&!pd.contains s):=rfl
@[simp] theorem Y2u {pd:List Nat} {op:Op} {ty:TypeId} {pos:String} {af:Array Edge} {g:Option (Nat×Bool)} : soft pd ⟨none,op,ty,pos,af,g⟩=(Z4t op&&true):=rfl
attribute [simp] St.hide mk Z8s Q0b zone Z6i
end Go.Proofs.YtenmmbjgnlflnaaGreat
namespace Go.Proofs.YtenmmbjgnlflnaaGreat
open Go Go.RowKit
theorem X0f {ρ:Nat→Option Nat}{L:Loc}(hf:∀ row∈L.rows,∀ d∈row,Free d):Z4a ρ (some L) (some L):=.some _ _ rfl rfl rfl (Z3e hf)
def idx {α:Type}(xs:List α)(i:Int):Option α:=if 0≤i then xs[i.toNat]? else none
def mkS {α:Type}(n:Int)(z:α):Option (List α):=if 0≤n∧n≤Q9 then some (List.replicate n.toNat z) else none
def app {α:Type}(xs ys:List α):Option (List α):=if xs.length+ys.length≤Q9 then some (xs++ys) else none
def setI {α:Type}(xs:List α)(i:Int)(x:α):Option (List α):=if 0≤i∧i.toNat<xs.length then some (xs.set i.toNat x) else none
def Z06 {α:Type}(xs:List α)(i:Int):Option (List α):=if 0≤i∧i≤xs.length then some (xs.take i.toNat) else none
def chk (b:Bool):Option Unit:=if b=true then some () else none
def sidx (s:ByteArray)(i:Int):Option Int:=if 0≤i∧i<s.size then some (W36 s i) else none
def ssub (s:ByteArray)(l h:Int):Option ByteArray:=if 0≤l∧l≤h∧h≤s.size then some (bsub s l h) else none
def scat (s t:ByteArray):Option ByteArray:=if s.size+t.size≤4611686018427387904 then some (s++t) else none
inductive Ctl (ρ σ:Type) where
 | ret (r:ρ)
 | brk (s:σ)
 | go (s:σ)
def forL {α σ ρ:Type}(f:Nat→α→σ→Option (Ctl ρ σ)):Nat→List α→σ→Option (Ctl ρ σ)
 | _,[],s=>some (.brk s)
 | i,x::xs,s=>match f i x s with
  | some (.go s')=>forL f (i+1) xs s'
  | some (.ret r)=>some (.ret r)
  | some (.brk s')=>some (.brk s')
  | none=>none
def whileL {σ ρ:Type}(f:σ→Option (Ctl ρ σ)):Nat→σ→Option (Ctl ρ σ)
 | 0,_=>none
 | n+1,s=>match f s with
  | some (.go s')=>whileL f n s'
  | some (.ret r)=>some (.ret r)
  | some (.brk s')=>some (.brk s')
  | none=>none
theorem bindE {α β:Type}{x:Option α}{f:α→Option β}{b:β}(h:x.bind f=some b):∃ a,x=some a∧f a=some b:=Option.bind_eq_some_iff.1 h
theorem Q9d {α:Type}{xs:List α}{i:Int}{x:α}(h:idx xs i=some x):xs[i.toNat]?=some x:=by
 unfold idx at h;split at h
 ·exact h
 ·cases h
theorem Z8d {α:Type}{xs:List α}{i:Int}{x:α}(h:idx xs i=some x):i.toNat<xs.length:=(List.getElem?_eq_some_iff.1 (Q9d h)).1
theorem Z3u {α:Type}{xs:List α}{i:Int}{x:α}(h:idx xs i=some x):inb i xs.length:=by
 have:=Z8d h
 unfold idx at h;split at h
 ·exact ⟨‹_›,by omega⟩
 ·cases h
theorem X4n {α:Type}{xs:List α}{i:Int}{x:α}(h:idx xs i=some x)(r:α→List D):X04 (xs.map r) i=r x:=by
 simp [X04,Q9d h]
theorem W8c {α:Type}{xs:List α}{k:Nat}{x:α}(h:xs[k]?=some x):idx xs (k:Int)=some x:=by simp [idx,h]
theorem Z6u {α:Type}{xs ys zs:List α}(h:app xs ys=some zs):zs=xs++ys∧xs.length+ys.length≤Q9:=by
 unfold app at h;split at h
 ·cases h;exact ⟨rfl,‹_›⟩
 ·cases h
theorem X4e {α:Type}{n:Int}{z:α}{xs:List α}(h:mkS n z=some xs):xs=List.replicate n.toNat z∧0≤n∧n≤Q9:=by
 unfold mkS at h;split at h
 ·cases h;exact ⟨rfl,‹_›⟩
 ·cases h
@[simp] theorem W81:∀ l:List Int,Z65 (List.map (fun n=>[D.val (.int .u8 n)]) l)=some l
 | []=>rfl
 | x::l=>by
  have:=W81 l
  simp only [List.map_cons,Z65,this]
theorem Z07 {α:Type}{xs ys:List α}{i:Int}{x:α}(h:setI xs i x=some ys):ys=xs.set i.toNat x∧i.toNat<xs.length∧inb i xs.length:=by
 unfold setI at h;split at h
 ·rename_i hc;cases h;exact ⟨rfl,hc.2,hc.1,by omega⟩
 ·cases h
theorem Q9x {α:Type}{xs ys:List α}{i:Int}(h:Z06 xs i=some ys):ys=xs.take i.toNat∧Z56 xs.length i:=by
 unfold Z06 at h;split at h
 ·rename_i hc;cases h;exact ⟨rfl,hc⟩
 ·cases h
theorem W6t {α:Type}{xs ys:List α}{i:Int}(h:Z06 xs i=some ys)(r:α→List D):Z99 (List.map r xs) i=List.map r ys:=by
 rw [(Q9x h).1,Z99,List.map_take]
theorem V0j {α:Type}{xs ys:List α}(h:app [] xs=some ys):xs=ys:=by
 unfold app at h;split at h
 ·cases h;rfl
 ·cases h
theorem Q9v {b:Bool}{u:Unit}(h:chk b=some u):b=true:=by
 unfold chk at h;split at h
 ·assumption
 ·cases h
theorem X6k {s:ByteArray}{i v:Int}(h:sidx s i=some v):v=W36 s i∧inb i s.size:=by
 unfold sidx at h;split at h
 ·rename_i hc;cases h;exact ⟨rfl,hc⟩
 ·cases h
theorem X67 {s t:ByteArray}{l h:Int}(hh:ssub s l h=some t):t=bsub s l h∧X94 s.size l h:=by
 unfold ssub at hh;split at hh
 ·rename_i hc;cases hh;exact ⟨rfl,hc⟩
 ·cases hh
theorem X6m {s t u:ByteArray}(h:scat s t=some u):u=s++t∧s.size+t.size≤4611686018427387904:=by
 unfold scat at h;split at h
 ·cases h;exact ⟨rfl,‹_›⟩
 ·cases h
theorem W8b (n:Nat):ilt (n:Int) (lenZ n)=false:=by simp [ilt,lenZ]
theorem V5x {k n:Nat}(h:k<n):ilt (k:Int) (lenZ n)=true:=by simp [ilt,lenZ];omega
theorem X60 {k n:Nat}(h:k<n)(hn:n≤Q0c):wadd .i64 (k:Int) 1=((k+1:Nat):Int):=by
 simp only [Q0c] at hn
 unfold wadd
 rw [Z81 (by omega) (by omega)]
 rfl
def Z7y {α:Type}(β:Base)(p:α→Prop)(S:α→St)(s:St):Prop:=∃ z,p z∧V3 β s (S z)
theorem Z7y.mk {α:Type}{β:Base}{p:α→Prop}{S:α→St}{s:St}(z:α)(hp:p z)(hg:V3 β s (S z)):Z7y β p S s:=⟨z,hp,hg⟩
theorem Z7y.ghost {α:Type}{β:Base}{p:α→Prop}{S:α→St}{s s':St}(hg:V3 β s s')(h:Z7y β p S s'):Z7y β p S s:=by
 obtain ⟨z,hp,h⟩:=h
 exact ⟨z,hp,hg.trans h⟩
section
variable {P:Program} {β:Base} {σ:St} {Q:Exit→St→Prop}
theorem TrD.forL {cd:Code}{α τ ρ:Type}{f:Nat→α→τ→Option (Ctl ρ τ)}{xs:List α}{s0:τ}{out:Ctl ρ τ}(S:Nat→τ→St)(hout:Go.Proofs.YtenmmbjgnlflnaaGreat.forL f 0 xs s0=some out)(hlim:xs.length≤Q0c)(h0:V3 β σ (S 0 s0))
  (step:∀ (k:Nat) (x:α) (s:τ),idx xs (k:Int)=some x→xs[k]?=some x→k<xs.length→ilt (k:Int) (lenZ xs.length)=true→wadd .i64 (k:Int) 1=((k+1:Nat):Int)→∀ o,f k x s=some o→(∀ r,o=.ret r→out=.ret r)→(∀ s',o=.brk s'→out=.brk s')→
   TrD P β cd (S k s) (fun e σ1=>match e with | .normal=>Z7y β (fun s'=>o=.go s') (S (k+1)) σ1 | e=>Q e σ1))
  (stop:∀ s,out=.brk s→TrD P β cd (S xs.length s) (fun e σ1=>match e with | .normal=>False | e=>Q e σ1)):TrD P β (.loop cd) σ Q:=by
 refine TrD.loopRel (fun z:Nat×τ=>S z.1 z.2) (fun z=>z.1≤xs.length∧Go.Proofs.YtenmmbjgnlflnaaGreat.forL f z.1 (xs.drop z.1) z.2=some out) (fun z=>xs.length-z.1) (0,s0) h0 ⟨Nat.zero_le _,by simpa using hout⟩ fun z hz=>?_
 obtain ⟨k,s⟩:=z
 obtain ⟨hk,hz⟩:=hz
 simp only at hk hz ⊢
 rcases Nat.lt_or_ge k xs.length with hlt | hge
 ·have hx:xs[k]?=some xs[k]:=by simp [hlt]
  rw [List.drop_eq_getElem_cons hlt] at hz
  simp only [Go.Proofs.YtenmmbjgnlflnaaGreat.forL] at hz
  cases ho:f k xs[k] s with
  | none=>rw [ho] at hz;cases hz
  | some o=>
   rw [ho] at hz
   refine (step k xs[k] s (W8c hx) hx hlt (V5x hlt) (X60 hlt hlim) o ho (fun r hr=>?_) (fun s' hs=>?_)).mono fun e σ1 h1=>?_
   ·subst hr;simpa using hz.symm
   ·subst hs;simpa using hz.symm
   ·cases e with
    | normal=>
     obtain ⟨s',rfl,hg⟩:=h1
     exact ⟨(k+1,s'),⟨hlt,hz⟩,by simp only;omega,hg⟩
    | _=>exact h1
 ·have hkn:k=xs.length:=by omega
  subst hkn
  simp [Go.Proofs.YtenmmbjgnlflnaaGreat.forL] at hz
  exact (stop s hz.symm).mono fun e σ1 h1=>by
   cases e with
   | normal=>exact h1.elim
   | _=>exact h1
theorem TrD.whileL {cd:Code}{τ ρ:Type}{f:τ→Option (Ctl ρ τ)}{n:Nat}{s0:τ}{out:Ctl ρ τ}(S:τ→St)(hout:Go.Proofs.YtenmmbjgnlflnaaGreat.whileL f n s0=some out)(h0:V3 β σ (S s0))
  (step:∀ (s:τ) o,f s=some o→(∀ r,o=.ret r→out=.ret r)→(∀ s',o=.brk s'→out=.brk s')→
   TrD P β cd (S s) (fun e σ1=>match e with | .normal=>Z7y β (fun s'=>o=.go s') S σ1 | e=>Q e σ1)):TrD P β (.loop cd) σ Q:=by
 refine TrD.loopRel (fun z:Nat×τ=>S z.2) (fun z=>Go.Proofs.YtenmmbjgnlflnaaGreat.whileL f z.1 z.2=some out) (fun z=>z.1) (n,s0) h0 hout fun z hz=>?_
 obtain ⟨n,s⟩:=z
 simp only at hz ⊢
 cases n with
 | zero=>cases hz
 | succ n=>
  simp only [Go.Proofs.YtenmmbjgnlflnaaGreat.whileL] at hz
  cases ho:f s with
  | none=>rw [ho] at hz;cases hz
  | some o=>
   rw [ho] at hz
   refine (step s o ho (fun r hr=>?_) (fun s' hs=>?_)).mono fun e σ1 h1=>?_
   ·subst hr;simpa using hz.symm
   ·subst hs;simpa using hz.symm
   ·cases e with
    | normal=>
     obtain ⟨s',rfl,hg⟩:=h1
     exact ⟨(n,s'),hz,by simp only;omega,hg⟩
    | _=>exact h1
theorem TrD.limL {cd:Code}{L:Loc}(k:Nat)(hk:σ.h k=some L)(h0:0<L.sz)(h:L.rows.length≤Q0c→TrD P β cd σ Q):TrD P β cd σ Q:=fun a c H=>by
 refine h ?_ a c H
 cases H.heap.locs k L hk with
 | nil hM hr hf=>rw [hr];exact Nat.zero_le _
 | own b cs f hM hb hfr hlen hfz hlim hrow hcell=>exact hlim
 | map _ _ _ _ _ _ hs=>omega
end
theorem V3.raise {β:Base}{σ:St}{L:Loc}(k:Nat)(hk:σ.h k=some L):V3 β σ { σ with h:=updL σ.h k (some ⟨L.sz,L.rows,L.rows.length * L.sz,L.el⟩) }:=fun a c H=>by
 obtain ⟨c1,e1,e2,x1,H1,_⟩:=H.heap.raise hk
 refine ⟨c1,e1,H1,H.size,H.defers,fun i=>(H.slots i).mono x1,fun q hq=>?_⟩
 obtain ⟨h1,h2⟩:=H.fresh q hq
 refine ⟨?_,by rw [e2];exact h2⟩
 have:q≠k:=fun e=>by subst e;rw [hk] at h1;cases h1
 simp [this,h1]
theorem V3.ownNilCell {β:Base}{σ:St}{L:Loc}{row:List D}(k j sz:Nat)(el:TypeId)(hk:σ.h k=some L)(hr:L.rows=[row])(hj:row[j]?=some .nil)(h0:0<L.sz) :
  V3 β σ { σ with h:=updL (updL σ.h k (some ⟨L.sz,[row.set j (.sl sz σ.next 0)],L.fz,L.el⟩)) σ.next (some ⟨sz,[],0,el⟩),next:=σ.next+1 }:=fun a c H=>by
 obtain ⟨hn,hM⟩:=H.fresh σ.next (Nat.le_refl _)
 obtain ⟨c',hc',hx,hh⟩:=H.heap.nilloc hM sz el
 have hne:k≠σ.next:=fun e=>by subst e;rw [hk] at hn;cases hn
 have is:∀ q,(updL (updL σ.h k (some ⟨L.sz,[row.set j (.sl sz σ.next 0)],L.fz,L.el⟩)) σ.next (some ⟨sz,[],0,el⟩) q).isSome=true→(updL σ.h σ.next (some ⟨sz,[],0,el⟩) q).isSome=true:=fun q hq=>by
  by_cases h1:q=σ.next
  ·simp [h1]
  ·by_cases h2:q=k
   ·simp [h2,hk,hne]
   ·simpa [h1,h2] using hq
 refine ⟨c',by rw [hc'],⟨hh.ext,hh.os,hh.tape,hh.output,hh.size,hh.old,fun q L' hq=>?_,fun q q' b h1 h2=>?_,fun q b h1=>?_⟩,H.size,H.defers,fun i=>(H.slots i).mono hx,fun q hq=>?_⟩
 ·simp only [W3] at hq
  split at hq
  ·rename_i hqn
   have:=hh.locs q L' (by simp only [W3,hqn,if_true];exact hq)
   exact this
  ·rename_i hqn
   split at hq
   ·rename_i hqk
    subst hqk
    cases hq
    have hl:=hh.locs q L (by simp only [W3,hqn,if_false];exact hk)
    cases hl with
    | nil hM' hr' hf'=>rw [hr] at hr';cases hr'
    | map _ _ _ _ _ _ hs=>omega
    | own b cs f hM' hb hfr hlen hfz hlim hrow hcell=>
     rw [hr] at hlen hfz hlim hrow hcell
     refine .own (hpos:=h0) b cs f hM' hb hfr (by simpa using hlen) (by simpa using hfz) (by simpa using hlim) (fun row' hr'=>?_) fun i jj row' d hi hjj=>?_
     ·simp only [List.mem_singleton] at hr'
      subst hr'
      simpa using hrow row (by simp)
     ·cases i with
      | succ i=>simp at hi
      | zero=>
       simp only [List.getElem?_cons_zero,Option.some.injEq] at hi
       subst hi
       by_cases hjk:jj=j
       ·subst hjk
        have hlt:=(List.getElem?_eq_some_iff.1 hj).1
        rw [List.getElem?_set_self hlt] at hjj
        cases hjj
        obtain ⟨g1,g2,g3⟩:=hcell 0 jj row .nil rfl hj
        refine ⟨g1,?_,g3⟩
        generalize f 0 jj=v at g2
        cases g2
        exact .sl0 _ _ none (by rw [hc'];simp)
       ·rw [List.getElem?_set_ne (by omega)] at hjj
        exact hcell 0 jj row d rfl hjj
   ·rename_i hqk
    exact hh.locs q L' (by simp only [W3,hqn,if_false];exact hq)
 ·exact hh.inj q q' b (is q h1) (is q' h2)
 ·exact hh.mine q b (is q h1)
 ·have hq':σ.next+1≤q:=hq
  obtain ⟨h1,h2⟩:=H.fresh q (by omega)
  have n1:q≠σ.next:=by omega
  have n2:q≠k:=fun e=>by subst e;rw [hk] at h1;cases h1
  rw [hc']
  simp [n1,n2,h1,h2]
inductive RenV (σ:St) (ρ:Nat→Option Nat):D→D→Prop
 | ren (d d':D) (h:Ren ρ d d'):RenV σ ρ d d'
 | agg (ds ds':List D) (hl:ds'.length=ds.length) (h:∀ (i:Nat) (d d':D),ds[i]?=some d→ds'[i]?=some d'→RenV σ ρ d d'):RenV σ ρ (.agg ds) (.agg ds')
 | frz (k:Nat) (L:Loc) (rows':List (List D)) (hk:σ.h k=some L) (hfz:L.fz=L.rows.length * L.sz) (hl:rows'.length=L.rows.length)
   (hw:∀ (i:Nat) (row row':List D),L.rows[i]?=some row→rows'[i]?=some row'→row'.length=row.length)
   (h:∀ (i j:Nat) (row row':List D) (d d':D),L.rows[i]?=some row→rows'[i]?=some row'→row[j]?=some d→row'[j]?=some d'→RenV σ ρ d d'):RenV σ ρ (.sl L.sz k L.rows.length) (.slice L.sz rows')
 | frzp (k:Nat) (L:Loc) (row row':List D) (hk:σ.h k=some L) (hfz:L.fz=L.rows.length * L.sz) (hr:L.rows[0]?=some row) (hl:row'.length=row.length)
   (h:∀ (j:Nat) (d d':D),row[j]?=some d→row'[j]?=some d'→RenV σ ρ d d'):RenV σ ρ (.ptr L.sz k 0 0) (.cptr row')
 | clos (f:FuncId) (ds ds':List D) (hl:ds'.length=ds.length) (h:∀ (i:Nat) (d d':D),ds[i]?=some d→ds'[i]?=some d'→RenV σ ρ d d'):RenV σ ρ (.clos f ds) (.clos f ds')
theorem RenV.rep {σ:St}{ρ:Nat→Option Nat}{β:Base}{c:Cx}(H:HOk β σ.h c){M':Nat→Option (Option Nat)}(hM:∀ k' k,ρ k'=some k→M' k'=c.M k){d d':D}(h:RenV σ ρ d d') :
  ∀ {v:Value},Rep c d v→Rep ⟨M',c.fr,c.w⟩ d' v:=by
 induction h with
 | ren d d' h=>exact fun hv=>h.rep (M:=c.M) hM hv
 | agg ds ds' hl _ ih=>
  intro v hr
  cases hr with
  | agg _ vs hlen hh=>
   refine .agg _ _ (by omega) fun i d' u hd hu=>?_
   have hlt:i<ds.length:=by have:=(List.getElem?_eq_some_iff.1 hd).1;omega
   have hd0:ds[i]?=some ds[i]:=by simp [hlt]
   exact ih i _ d' hd0 hd (hh i _ u hd0 hu)
 | clos f ds ds' hl _ ih=>
  intro v hr
  cases hr with
  | clos _ _ vs hlen hh=>
   refine .clos _ _ _ (by omega) fun i d' u hd hu=>?_
   have hlt:i<ds.length:=by have:=(List.getElem?_eq_some_iff.1 hd).1;omega
   have hd0:ds[i]?=some ds[i]:=by simp [hlt]
   exact ih i _ d' hd0 hd (hh i _ u hd0 hu)
 | frz k L rows' hk hfz hl hw _ ih=>
  intro v hr
  cases H.locs k L hk with
  | nil hM0 hr0 hf0=>
   rw [hr0] at hl
   have:rows'=[]:=List.eq_nil_of_length_eq_zero hl
   subst this
   rcases Z0y hr with ⟨_,_,a,rfl⟩ | ⟨b,cap,cs,e,fz,rfl,h1,_⟩
   ·exact .slice0 _ a 0
   ·rw [hM0] at h1;cases h1
  | map b clock es hM0 hb hfr hsz hfz0 _ _=>
   rcases Z0y hr with ⟨_,h1,_⟩ | ⟨b2,cap,cs2,e,fz,rfl,h1,hcap,hb2,_⟩
   ·rw [hM0] at h1;cases h1
   ·rw [hM0] at h1;cases h1;rw [hb] at hb2;cases hb2
  | own b cs f hM0 hb hfr hlen0 hfz0 hlim hrow hcell=>
   rcases Z0y hr with ⟨_,h1,_⟩ | ⟨b2,cap,cs2,e,fz,rfl,h1,hcap,_,_⟩
   ·rw [hM0] at h1;cases h1
   ·rw [hM0] at h1
    cases h1
    rw [←hl]
    have wid:∀ (i:Nat) (row':List D),rows'[i]?=some row'→∃ row,L.rows[i]?=some row∧row'.length=row.length∧row.length=L.sz:=fun i row' hi=>by
     have hlt:i<L.rows.length:=by have:=(List.getElem?_eq_some_iff.1 hi).1;omega
     have h0:L.rows[i]?=some L.rows[i]:=by simp [hlt]
     exact ⟨_,h0,hw i _ row' h0 hi,hrow _ (U1 h0)⟩
    refine .slice _ _ b 0 cap f (by omega) (by omega) (fun row' hr'=>?_) (fun i j row' d' hi hj=>?_) fun i j row' d' hi hj=>?_
    ·obtain ⟨i,hi⟩:=List.mem_iff_getElem?.1 hr'
     obtain ⟨row,g1,g2,g3⟩:=wid i row' hi
     omega
    ·obtain ⟨row,g1,g2,g3⟩:=wid i row' hi
     have hjl:j<row.length:=by have:=(List.getElem?_eq_some_iff.1 hj).1;omega
     obtain ⟨k1,k2,k3⟩:=hcell i j row row[j] g1 (by simp [hjl])
     have hil:=(List.getElem?_eq_some_iff.1 g1).1
     have:=Nat.mul_le_mul_right L.sz (show i+1≤L.rows.length from hil)
     rw [Nat.add_mul,Nat.one_mul] at this
     refine ⟨?_,by simp only [Nat.zero_add];omega,k3⟩
     simp only [World.cell?,hb]
     simpa using k1
    ·obtain ⟨row,g1,g2,g3⟩:=wid i row' hi
     have hjl:j<row.length:=by have:=(List.getElem?_eq_some_iff.1 hj).1;omega
     have hd:row[j]?=some row[j]:=by simp [hjl]
     exact ih i j row row' _ d' g1 hi hd hj (hcell i j row _ g1 hd).2.1
 | frzp k L row row' hk hfz hr0 hl _ ih=>
  intro v hr
  obtain ⟨b0,hb0,rfl,hsz0⟩:=Z19 hr
  cases H.locs k L hk with
  | nil hM0 hr1 hf0=>rw [hM0] at hb0;cases hb0
  | map b clock es hM0 hb hfr hsz hfz0 _ _=>omega
  | own b cs f hM0 hb hfr hlen0 hfz0 hlim hrow hcell=>
   rw [hM0] at hb0
   cases hb0
   have hlt:=(List.getElem?_eq_some_iff.1 hr0).1
   have hw:=hrow _ (U1 hr0)
   have hge:=Nat.mul_le_mul_right L.sz (show 1≤L.rows.length from hlt)
   rw [Nat.one_mul] at hge
   refine .cptr _ _ _ (f 0) (fun j d' hj=>?_) fun j d' hj=>?_
   ·have hjl:j<row.length:=by have:=(List.getElem?_eq_some_iff.1 hj).1;omega
    obtain ⟨k1,k2,k3⟩:=hcell 0 j row row[j] hr0 (by simp [hjl])
    refine ⟨?_,by simp only [Nat.zero_mul,Nat.zero_add];omega⟩
    simp only [World.cell?,hb]
    simpa using k1
   ·have hjl:j<row.length:=by have:=(List.getElem?_eq_some_iff.1 hj).1;omega
    have hd:row[j]?=some row[j]:=by simp [hjl]
    exact ih j row[j] d' hd hj (hcell 0 j row row[j] hr0 hd).2.1
def Z1x (σ:St)(ρ:Nat→Option Nat)(rows rows':List (List D)):Prop:=
 rows'.length=rows.length∧∀ (i:Nat) (row row':List D),rows[i]?=some row→rows'[i]?=some row'→row'.length=row.length∧∀ (j:Nat) (d d':D),row[j]?=some d→row'[j]?=some d'→RenV σ ρ d d'
def LocV (σ:St)(l:List Nat)(q:Nat)(x:Option Loc):Prop:=∀ L',x=some L'→∃ L,σ.h q=some L∧L'.sz=L.sz∧L'.el=L.el∧L'.fz=L.fz∧Z1x σ (fun k=>l[k]?) L.rows L'.rows
theorem V3.canonV {β:Base}{σ:St}(m:Nat)(l:List Nat)(Hs:List (Option Loc))(τ:Nat→D)(hβ:∀ k x,β.c0.M k=some x→k<m)(hm:∀ k,k<m→l[k]?=some k)(hl:l.Nodup)
  (ht:∀ i,RenV σ (fun k=>l[k]?) (σ.t i) (τ i)) (hh:All2 (LocV σ l) l Hs):V3 β σ ⟨τ,hOfO Hs,l.length,σ.n⟩:=fun a c H=>by
 obtain ⟨hlen,hlk⟩:=Q5v hh
 let M':Nat→Option (Option Nat):=fun k=>match l[k]? with | some q=>c.M q | none=>none
 have hM:∀ k' k,l[k']?=some k→M' k'=c.M k:=fun k' k h=>by simp only [M',h]
 have at_:∀ k L',hOfO Hs k=some L'→∃ q L,l[k]?=some q∧σ.h q=some L∧L'.sz=L.sz∧L'.el=L.el∧L'.fz=L.fz∧Z1x σ (fun k=>l[k]?) L.rows L'.rows:=fun k L' hk=>by
  simp only [Z6c] at hk
  have hlt:k<Hs.length:=by
   rcases Nat.lt_or_ge k Hs.length with h | h
   ·exact h
   ·rw [List.getElem?_eq_none h] at hk;cases hk
  have hlt2:k<l.length:=by omega
  have h1:Hs[k]?=some Hs[k]:=by simp [hlt]
  have h2:l[k]?=some l[k]:=by simp [hlt2]
  rw [h1] at hk
  obtain ⟨L,g2,g3⟩:=hlk k _ _ h2 h1 L' (by simpa using hk)
  exact ⟨_,L,h2,g2,g3⟩
 have is:∀ k,(hOfO Hs k).isSome=true→∃ q,l[k]?=some q∧(σ.h q).isSome=true:=fun k hk=>by
  obtain ⟨L',hL'⟩:=Option.isSome_iff_exists.1 hk
  obtain ⟨q,L,h1,h2,_⟩:=at_ k L' hL'
  exact ⟨q,h1,by simp [h2]⟩
 have rep:∀ {d d':D} {v:Value},RenV σ (fun k=>l[k]?) d d'→Rep c d v→Rep ⟨M',c.fr,c.w⟩ d' v:=fun h hv=>h.rep H.heap hM hv
 have hx:β.c0.Ext ⟨M',c.fr,c.w⟩:=⟨H.heap.ext.len,fun k x h=>by show M' k=some x;rw [hM k k (hm k (hβ k x h))];exact H.heap.ext.M k x h,H.heap.ext.fr,H.heap.ext.cell,H.heap.ext.size⟩
 refine ⟨⟨M',c.fr,c.w⟩,rfl,⟨hx,H.heap.os,H.heap.tape,H.heap.output,H.heap.size,H.heap.old,fun k L' hk'=>?_,fun k k' b h1 h2 e1 e2=>?_,fun k b h1 e1=>?_⟩,H.size,H.defers,fun i=>rep (ht i) (H.slots i),fun k hk'=>?_⟩
 ·obtain ⟨q,L,h1,h2,h3,h4,h5,h6,h7⟩:=at_ k L' hk'
  have hm':=hM k q h1
  have hlen':L'.rows.length=L.rows.length:=h6
  cases H.heap.locs q L h2 with
  | nil hM0 hr0 hf0=>exact .nil (hm'.trans hM0) (List.eq_nil_of_length_eq_zero (by rw [hlen',hr0];rfl)) (h5.trans hf0)
  | map b clock es hM0 hb hfr hsz hfz hlen0 hrow=>
   refine .map b clock es (hm'.trans hM0) hb hfr (by rw [h3];exact hsz) (by rw [h5];exact hfz) (by rw [hlen'];exact hlen0) fun i row' e hi he=>?_
   have hlt:i<L.rows.length:=by have:=(List.getElem?_eq_some_iff.1 hi).1;omega
   have h0:L.rows[i]?=some L.rows[i]:=by simp [hlt]
   obtain ⟨g1,g2⟩:=h7 i _ row' h0 hi
   obtain ⟨dk,dv,hr0,r1,r2⟩:=hrow i _ e h0 he
   rw [hr0] at g1 g2
   match row',g1,g2 with
   | [dk',dv'],_,g2=>exact ⟨dk',dv',rfl,rep (g2 0 _ _ rfl rfl) r1,rep (g2 1 _ _ rfl rfl) r2⟩
  | own b cs f hM0 hb hfr hlen0 hfz hlim hrow hcell hpos=>
   refine .own (hpos:=by rw [h3];exact hpos) b cs f (hm'.trans hM0) (by rw [h4];exact hb) (by rw [h5];exact hfr) (by rw [hlen',h3];exact hlen0) (by rw [h5,hlen',h3];exact hfz) (by rw [hlen'];exact hlim) (fun row' hrow'=>?_) fun i j row' d' hi hj=>?_
   ·obtain ⟨i,hi⟩:=List.mem_iff_getElem?.1 hrow'
    have hlt:i<L.rows.length:=by have:=(List.getElem?_eq_some_iff.1 hi).1;omega
    have h0:L.rows[i]?=some L.rows[i]:=by simp [hlt]
    rw [(h7 i _ row' h0 hi).1,h3]
    exact hrow _ (U1 h0)
   ·have hlt:i<L.rows.length:=by have:=(List.getElem?_eq_some_iff.1 hi).1;omega
    have h0:L.rows[i]?=some L.rows[i]:=by simp [hlt]
    obtain ⟨g1,g2⟩:=h7 i _ row' h0 hi
    have hlt2:j<L.rows[i].length:=by have:=(List.getElem?_eq_some_iff.1 hj).1;omega
    have h02:L.rows[i][j]?=some L.rows[i][j]:=by simp [hlt2]
    obtain ⟨k1,k2,k3⟩:=hcell i j _ _ h0 h02
    rw [h3]
    exact ⟨k1,rep (g2 j _ d' h02 hj) k2,k3⟩
 ·obtain ⟨q1,g1,s1⟩:=is k h1
  obtain ⟨q2,g2,s2⟩:=is k' h2
  simp only [hM k q1 g1] at e1
  simp only [hM k' q2 g2] at e2
  have:=H.heap.inj q1 q2 b s1 s2 e1 e2
  subst this
  exact Z62 hl g1 g2
 ·obtain ⟨q1,g1,s1⟩:=is k h1
  simp only [hM k q1 g1] at e1
  exact H.heap.mine q1 b s1 e1
 ·have h1:l[k]?=none:=by simp only [List.getElem?_eq_none_iff];exact hk'
  refine ⟨?_,by simp only [M',h1]⟩
  simp only [Z6c]
  rw [List.getElem?_eq_none (by have:l.length≤k:=hk';omega)]
  rfl
theorem W6r {σ:St}{ρ:Nat→Option Nat}(t:Nat→D):∀ i,RenV σ ρ (t i) ((fun _=>D.any) i):=fun i=>.ren _ _ (.any _)
theorem Z83 {σ:St}{ρ:Nat→Option Nat}{t τ:Nat→D}{s:Nat}{d:D}(hd:RenV σ ρ (t s) d)(h:∀ i,RenV σ ρ (t i) (τ i)):∀ i,RenV σ ρ (t i) (updD τ s d i):=fun i=>by
 simp only [Z4c]
 split
 ·rename_i hi;subst hi;exact hd
 ·exact h i
theorem Z4w {σ:St}{ρ:Nat→Option Nat}{d d':D}(hf:Free d)(hle:d.le d'):RenV σ ρ d d':=.ren _ _ (.free _ _ hf hle)
theorem v_mp {σ:St}{ρ:Nat→Option Nat}{k k':Nat}(h:ρ k'=some k):RenV σ ρ (.mp k) (.mp k'):=.ren _ _ (.mp _ _ h)
theorem V25 {σ:St}{ρ:Nat→Option Nat}{sz k k' i j:Nat}(h:ρ k'=some k):RenV σ ρ (.ptr sz k i j) (.ptr sz k' i j):=.ren _ _ (.ptr _ _ _ _ _ h)
theorem v_sl {σ:St}{ρ:Nat→Option Nat}{sz k k' n:Nat}(h:ρ k'=some k):RenV σ ρ (.sl sz k n) (.sl sz k' n):=.ren _ _ (.sl _ _ _ _ h)
theorem Y5x {σ:St}{ρ:Nat→Option Nat}{ds ds':List D}(h:All2 (RenV σ ρ) ds ds'):RenV σ ρ (.agg ds) (.agg ds'):=by
 obtain ⟨h1,h2⟩:=Q5v h
 exact .agg _ _ h1.symm fun i d d' e1 e2=>h2 i d d' e1 e2
theorem Y09 {σ:St}{ρ:Nat→Option Nat}{f:FuncId}{ds ds':List D}(h:All2 (RenV σ ρ) ds ds'):RenV σ ρ (.clos f ds) (.clos f ds'):=by
 obtain ⟨h1,h2⟩:=Q5v h
 exact .clos _ _ _ h1.symm fun i d d' e1 e2=>h2 i d d' e1 e2
theorem Z4q {σ:St}{ρ:Nat→Option Nat}{sz k n:Nat}{L:Loc}{rows':List (List D)}(hk:σ.h k=some L)(hs:L.sz=sz)(hn:L.rows.length=n)(hfz:L.fz=L.rows.length * L.sz)(h:Z1x σ ρ L.rows rows') :
  RenV σ ρ (.sl sz k n) (.slice sz rows'):=by
 subst hs hn
 obtain ⟨h1,h2⟩:=h
 exact .frz k L rows' hk hfz h1 (fun i row row' e1 e2=>(h2 i row row' e1 e2).1) fun i j row row' d d' e1 e2 e3 e4=>(h2 i row row' e1 e2).2 j d d' e3 e4
theorem V5f {σ:St}{ρ:Nat→Option Nat}{sz k:Nat}{L:Loc}{row row':List D}(hk:σ.h k=some L)(hs:L.sz=sz)(hr:L.rows=[row])(hfz:L.fz=L.sz)(h:All2 (RenV σ ρ) row row') :
  RenV σ ρ (.ptr sz k 0 0) (.cptr row'):=by
 subst hs
 obtain ⟨h1,h2⟩:=Q5v h
 exact .frzp k L row row' hk (by rw [hr,hfz];simp) (by rw [hr];rfl) h1.symm fun j d d' e1 e2=>h2 j d d' e1 e2
theorem Q4c {σ:St}{ρ:Nat→Option Nat}{rows rows':List (List D)}(h:rows=rows')(hf:∀ row∈rows,∀ d∈row,Free d):Z1x σ ρ rows rows':=by
 subst h
 exact ⟨rfl,fun i row row' h1 h2=>by
  rw [h1] at h2
  cases h2
  exact ⟨rfl,fun j d d' e1 e2=>by
   rw [e1] at e2
   cases e2
   exact Z4w (hf row (U1 h1) d (U1 e1)) (le_refl d)⟩⟩
theorem Z5s {σ:St}{ρ:Nat→Option Nat} : Z1x σ ρ [] []:=⟨rfl,fun i row row' h=>by simp at h⟩
theorem Z3b {σ:St}{ρ:Nat→Option Nat}{row row':List D}{rows rows':List (List D)}(h:All2 (RenV σ ρ) row row')(ht:Z1x σ ρ rows rows'):Z1x σ ρ (row::rows) (row'::rows'):=by
 obtain ⟨h1,h2⟩:=Q5v h
 refine ⟨by simp [ht.1],fun i r r' e1 e2=>?_⟩
 cases i with
 | zero=>
  simp only [List.getElem?_cons_zero,Option.some.injEq] at e1 e2
  subst e1 e2
  exact ⟨h1.symm,fun j d d' g1 g2=>h2 j d d' g1 g2⟩
 | succ i=>
  simp only [List.getElem?_cons_succ] at e1 e2
  exact ht.2 i r r' e1 e2
theorem X37 {σ:St}{ρ:Nat→Option Nat}{a a' b b':List (List D)}(h:Z1x σ ρ a a')(ht:Z1x σ ρ b b'):Z1x σ ρ (a++b) (a'++b'):=by
 refine ⟨by simp [h.1,ht.1],fun i r r' e1 e2=>?_⟩
 have hl:=h.1
 rw [List.getElem?_append] at e1 e2
 rw [hl] at e2
 split at e1
 ·rename_i hi;rw [if_pos hi] at e2;exact h.2 i r r' e1 e2
 ·rename_i hi;rw [if_neg hi] at e2;exact ht.2 _ r r' e1 e2
theorem V7y {σ:St}{l:List Nat}{q:Nat} : LocV σ l q none:=fun _ h=>by cases h
theorem lv {σ:St}{l:List Nat}{q:Nat}{L L':Loc}(hL:σ.h q=some L)(h1:L'.sz=L.sz)(h2:L'.el=L.el)(h3:L'.fz=L.fz)(h:Z1x σ (fun k=>l[k]?) L.rows L'.rows):LocV σ l q (some L'):=fun _ e=>by
 cases e;exact ⟨L,hL,h1,h2,h3,h⟩
theorem endF {Q:D→Prop}{σ:St}{ds:List D}(hf:∀ d∈ds,Free d)(hq:Q (Z2y ds)):EndD Q σ ds:=⟨ds,ds,σ.h,Z1i _ _,Z6w _,hf,hq⟩
theorem V6k {T:Ty}{β:Base}{res:List ResultVar}{Q:D→Prop}{σ σ':St}(hg:V3 β σ σ')(h:resD T σ' res (EndD Q σ')):W5c T β res Q σ:=⟨σ',hg,h⟩
def aget {α:Type}(n:Nat)(xs:List α)(i:Int):Option α:=if xs.length=n then idx xs i else none
def aset {α:Type}(n:Nat)(xs:List α)(i:Int)(x:α):Option (List α):=if xs.length=n then setI xs i x else none
theorem Z1v {α:Type}{n:Nat}{xs:List α}{i:Int}{x:α}(h:aget n xs i=some x):xs.length=n∧idx xs i=some x:=by
 unfold aget at h;split at h
 ·exact ⟨‹_›,h⟩
 ·cases h
theorem V59 {α:Type}{n:Nat}{xs:List α}{i:Int}{x:α}(h:aget n xs i=some x):inb i n:=by
 obtain ⟨h1,h2⟩:=Z1v h
 rw [←h1];exact Z3u h2
theorem V9d {α:Type}{n:Nat}{xs:List α}{i:Int}{x:α}(h:aget n xs i=some x):i.toNat+1≤n:=by
 obtain ⟨h1,h2⟩:=Z1v h
 have:=Z8d h2
 omega
theorem V58 {α:Type}{n:Nat}{xs:List α}{i:Int}{x:α}(h:aget n xs i=some x)(f:α→D):((List.map f xs).drop i.toNat).take 1=[f x]:=by
 obtain ⟨h1,h2⟩:=Z1v h
 have h3:=Q9d h2
 have h4:=Z8d h2
 rw [List.drop_eq_getElem_cons (by simpa using h4)]
 have h5:xs[i.toNat]=x:=by rw [U10 h4] at h3;exact Option.some.inj h3
 simp [h5]
theorem V5a {α:Type}{n:Nat}{xs:List α}{i:Int}{x:α}(h:aget n xs i=some x):xs[i.toNat]?=some x:=Q9d (Z1v h).2
theorem X1y {α:Type}{n:Nat}{xs ys:List α}{i:Int}{x:α}(h:aset n xs i x=some ys):xs.length=n∧setI xs i x=some ys:=by
 unfold aset at h;split at h
 ·exact ⟨‹_›,h⟩
 ·cases h
theorem V55 {α:Type}{n:Nat}{xs ys:List α}{i:Int}{x:α}(h:aset n xs i x=some ys):inb i n:=by
 obtain ⟨h1,h2⟩:=X1y h
 rw [←h1];exact (Z07 h2).2.2
theorem V9a {α:Type}{n:Nat}{xs ys:List α}{i:Int}{x:α}(h:aset n xs i x=some ys):i.toNat+1≤n:=by
 obtain ⟨h1,h2⟩:=X1y h
 have:=(Z07 h2).2.1
 omega
theorem W39 {α:Type}{n:Nat}{xs ys:List α}{i:Int}{x:α}(h:aset n xs i x=some ys)(f:α→D):Q7c (List.map f xs) i.toNat [f x]=List.map f ys:=by
 obtain ⟨h1,h2⟩:=X1y h
 obtain ⟨h3,h4,_⟩:=Z07 h2
 subst h3
 unfold Q7c
 rw [List.set_eq_take_append_cons_drop,if_pos h4]
 simp [List.map_take,List.map_drop]
@[simp] theorem V7s {α:Type} (l:List α):1+l.length=l.length+1:=Nat.add_comm 1 _
@[simp] theorem V73 {α:Type} (l:List α):2+l.length=l.length+2:=Nat.add_comm 2 _
theorem W3t {b:Bool}(h:b=false):¬b=true:=by simp [h]
theorem v_of {σ:St}{ρ:Nat→Option Nat}{s:Nat}{d0 d:D}(h:σ.t s=d0)(hv:RenV σ ρ d0 d):RenV σ ρ (σ.t s) d:=by rw [h];exact hv
theorem Z4j {m:Nat}{l:List Nat}(h:(List.range m).all (fun k=>l[k]?==some k)=true):∀ k,k<m→l[k]?=some k:=fun k hk=>by
 simpa using List.all_eq_true.1 h k (List.mem_range.2 hk)
theorem elt {α:Type}{xs:List α}{i:Nat}{x:α}(h:xs[i]?=some x)(hi:i<xs.length):xs[i]=x:=by
 rw [U10 hi] at h
 exact Option.some.inj h
theorem Y2x {σ:St}{ρ:Nat→Option Nat}{α:Type}{r:α→List D}{xs ys:List α}{i:Nat}{x:α}{row cs:List D}(hy:ys=xs.set i x)(hf:∀ row∈List.map r xs,∀ d∈row,Free d)(he:r x=cs)(h:All2 (RenV σ ρ) row cs) :
  Z1x σ ρ ((List.map r xs).set i row) (List.map r ys):=by
 subst hy he
 rw [List.map_set]
 refine ⟨by simp,fun k row1 row2 h1 h2=>?_⟩
 obtain ⟨g1,g2⟩:=Q5v h
 by_cases hk:i=k
 ·subst hk
  have hlt:i<(List.map r xs).length:=by have:=(List.getElem?_eq_some_iff.1 h1).1;simpa using this
  rw [List.getElem?_set_self hlt] at h1 h2
  cases h1
  cases h2
  exact ⟨g1.symm,fun j d d' e1 e2=>g2 j d d' e1 e2⟩
 ·rw [List.getElem?_set_ne hk] at h1 h2
  rw [h1] at h2
  cases h2
  exact ⟨rfl,fun j d d' e1 e2=>by
   rw [e1] at e2
   cases e2
   exact .ren _ _ (.free _ _ (hf row1 (U1 h1) d (U1 e1)) (le_refl d))⟩
theorem Q7n {σ:St}{ρ:Nat→Option Nat}{row row' cs:List D}{rows rows':List (List D)}(he:row'=cs)(h:All2 (RenV σ ρ) row cs)(ht:Z1x σ ρ rows rows'):Z1x σ ρ (row::rows) (row'::rows'):=by
 subst he
 exact Z3b h ht
section
variable {P:Program} {β:Base} {σ:St} {Q:Exit→St→Prop}
theorem TrD.join {x y:Code}{α:Type}(S:α→St)(p:α→Prop)(h1:TrD P β x σ (fun e s=>match e with | .normal=>Z7y β p S s | e=>Q e s))(h2:∀ z,p z→TrD P β y (S z) Q):TrD P β (.seq x y) σ Q:=TrD.toAny S p h1 h2
end
theorem V6j {T:Ty}{β:Base}{m:Nat}{res:List ResultVar}{Q:List (Option Loc)→D→Prop}{σ σ':St}(hg:V3 β σ σ')(h:resD T σ' res (EndH m Q σ')):W5a T β m res Q σ:=⟨σ',hg,h⟩
@[simp] theorem Q5w {α γ:Type} {R:α→γ→Prop} {x:α} {y:γ} {l:List α} {m:List γ} : All2 R (x::l) (y::m)↔R x y∧All2 R l m:=
 ⟨fun h=>by cases h;exact ⟨‹_›,‹_›⟩,fun h=>.cons h.1 h.2⟩
@[simp] theorem V6s (l:List D):All2 D.le l l:=Z6w l
@[simp] theorem Q6x {α γ:Type} {R:α→γ→Prop} : All2 R ([]:List α) ([]:List γ):=.nil
theorem Q9h {ρ:Nat→Option Nat}{d d':D}(hf:Free d)(h:D.le d d'):Ren ρ d d':=.free _ _ hf h
theorem W83 {σ:St}{l:List Nat}{q:Nat}{L:Loc}(hL:σ.h q=some L)(_:True)(hf:∀ row∈L.rows,∀ d∈row,Free d):Q8p σ l q L:=⟨L,hL,rfl,rfl,rfl,Z3e hf⟩
@[simp] theorem Y5o {ds es:List D} (h:All2 D.le ds es):D.le (.agg ds) (.agg es):=Y3g h
@[simp] theorem W3x {sz:Nat} {rows rows':List (List D)} (h:All2 (All2 D.le) rows rows'):D.le (.slice sz rows) (.slice sz rows'):=fun c v hr=>by
 obtain ⟨hl,hh⟩:=Q5v h
 rcases Q8a hr with ⟨rfl,a,cap,rfl⟩ | ⟨b,o,cap,f,rfl,h1,h2,h3,h4,h5⟩
 ·have:rows'=[]:=List.eq_nil_of_length_eq_zero hl.symm
  subst this
  exact .slice0 _ _ _
 ·rw [hl]
  have row:∀ (i:Nat) (row':List D),rows'[i]?=some row'→∃ row,rows[i]?=some row∧All2 D.le row row':=fun i row' hi=>by
   have hlt:i<rows.length:=by have:=(List.getElem?_eq_some_iff.1 hi).1;omega
   have h0:rows[i]?=some rows[i]:=by simp [hlt]
   exact ⟨_,h0,hh i _ _ h0 hi⟩
  have cell:∀ (i j:Nat) (row':List D) (d':D),rows'[i]?=some row'→row'[j]?=some d'→∃ row d,rows[i]?=some row∧row[j]?=some d∧d.le d':=fun i j row' d' hi hj=>by
   obtain ⟨row0,g1,g2⟩:=row i row' hi
   obtain ⟨e1,e2⟩:=Q5v g2
   have hlt:j<row0.length:=by have:=(List.getElem?_eq_some_iff.1 hj).1;omega
   have h0:row0[j]?=some row0[j]:=by simp [hlt]
   exact ⟨row0,_,g1,h0,e2 j _ _ h0 hj⟩
  refine .slice _ _ b o cap f (by omega) (by omega) (fun row' hr'=>?_) (fun i j row' d' hi hj=>?_) fun i j row' d' hi hj=>?_
  ·obtain ⟨i,hi⟩:=List.mem_iff_getElem?.1 hr'
   obtain ⟨row0,g1,g2⟩:=row i row' hi
   rw [←(Q5v g2).1]
   exact h3 _ (U1 g1)
  ·obtain ⟨row0,d0,g1,g2,_⟩:=cell i j row' d' hi hj
   exact h4 i j row0 d0 g1 g2
  ·obtain ⟨row0,d0,g1,g2,g3⟩:=cell i j row' d' hi hj
   exact g3 c _ (h5 i j row0 d0 g1 g2)
theorem V3.move {β:Base}{σ:St}{sz k n:Nat}{L:Loc}(s:Nat)(hs:σ.t s=.sl sz k n)(hk:σ.h k=some L) :
  V3 β σ { σ with t:=updD σ.t s (.sl sz σ.next n),h:=updL (updL σ.h k none) σ.next (some L),next:=σ.next+1 }:=fun a c H=>by
 obtain ⟨hn,hM⟩:=H.fresh σ.next (Nat.le_refl _)
 have hne:k≠σ.next:=fun e=>by subst e;rw [hk] at hn;cases hn
 let c':Cx:=⟨fun q=>if q=σ.next then c.M k else c.M q,c.fr,c.w⟩
 have hx:c.Ext c':=⟨Nat.le_refl _,fun q x hq=>by
   show (if q=σ.next then c.M k else c.M q)=some x
   have:q≠σ.next:=fun e=>by subst e;rw [hM] at hq;cases hq
   rw [if_neg this];exact hq,fun _ _=>Nat.le_refl _,fun _ _ _ _=>rfl,fun _ cs _ f h=>⟨cs,f,h,rfl⟩⟩
 have hself:c'.M σ.next=c.M k:=by simp [c']
 have hoth:∀ q,q≠σ.next→c'.M q=c.M q:=fun q hq=>by simp [c',hq]
 refine ⟨c',rfl,⟨H.heap.ext.trans hx,H.heap.os,H.heap.tape,H.heap.output,H.heap.size,H.heap.old,fun q L' hq=>?_,fun q q' b h1 h2 e1 e2=>?_,fun q b h1 e1=>?_⟩,H.size,H.defers,fun i=>?_,fun q hq=>?_⟩
 ·simp only [W3] at hq
  split at hq
  ·rename_i hqn
   cases hq
   subst hqn
   cases H.heap.locs k _ hk with
   | nil hM0 hr hf=>exact .nil (hself.trans hM0) hr hf
   | map b clock es hM0 hb hfr hsz hfz hlen hrow=>exact .map b clock es (hself.trans hM0) hb hfr hsz hfz hlen fun i row e hi he=>(hrow i row e hi he).imp fun dk h=>h.imp fun dv h=>⟨h.1,h.2.1.mono hx,h.2.2.mono hx⟩
   | own b cs f hM0 hb hfr hlen hfz hlim hrow hcell hpos=>exact .own (hpos:=hpos) b cs f (hself.trans hM0) hb hfr hlen hfz hlim hrow fun i j row d hi hj=>⟨(hcell i j row d hi hj).1,(hcell i j row d hi hj).2.1.mono hx,(hcell i j row d hi hj).2.2⟩
  ·split at hq
   ·cases hq
   ·exact (H.heap.locs q L' hq).mono hx fun b _=>⟨rfl,rfl⟩
 ·have nm:∀ q,(updL (updL σ.h k none) σ.next (some L) q).isSome=true→∃ p,(σ.h p).isSome=true∧c'.M q=c.M p∧(q=σ.next∧p=k∨q≠σ.next∧q≠k∧p=q):=fun q hq=>by
   by_cases h1:q=σ.next
   ·exact ⟨k,by simp [hk],by rw [h1];exact hself,.inl ⟨h1,rfl⟩⟩
   ·by_cases h2:q=k
    ·simp [h1,h2,hne] at hq
    ·exact ⟨q,by simpa [h1,h2] using hq,hoth q h1,.inr ⟨h1,h2,rfl⟩⟩
  obtain ⟨p1,s1,m1,w1⟩:=nm q h1
  obtain ⟨p2,s2,m2,w2⟩:=nm q' h2
  rw [m1] at e1
  rw [m2] at e2
  have:=H.heap.inj p1 p2 b s1 s2 e1 e2
  subst this
  rcases w1 with ⟨rfl,rfl⟩ | ⟨a1,a2,rfl⟩<;>rcases w2 with ⟨rfl,b3⟩ | ⟨b1,b2,b3⟩
  ·rfl
  ·exact absurd b3.symm b2
  ·exact absurd b3 a2
  ·exact b3
 ·by_cases h2:q=σ.next
  ·subst h2
   rw [hself] at e1
   exact H.heap.mine k b (by simp [hk]) e1
  ·rw [hoth q h2] at e1
   refine H.heap.mine q b ?_ e1
   by_cases h3:q=k
   ·simp [h2,h3,hne] at h1
   ·simpa [h2,h3] using h1
 ·simp only [Z4c]
  split
  ·rename_i hi
   subst hi
   have hr:=H.slots i
   rw [hs] at hr
   rcases Z0y hr with ⟨rfl,h1,a,hv⟩ | ⟨b,cap,cs,e,fz,hv,h1,h2,h3,h4⟩
   ·rw [hv];exact .sl0 _ _ a (hself.trans h1)
   ·rw [hv];exact .sl _ _ _ b cap cs e fz (hself.trans h1) h2 h3 h4
  ·exact (H.slots i).mono hx
 ·have hq':σ.next+1≤q:=hq
  obtain ⟨h1,h2⟩:=H.fresh q (by omega)
  have n1:q≠σ.next:=by omega
  refine ⟨?_,by rw [hoth q n1];exact h2⟩
  simp only [W3,n1,if_false]
  split
  ·rfl
  ·exact h1
def Seen (β:Base)(σ:St)(d:D):Prop:=∀ a c,Conc β σ a c→∃ v,Rep c d v
theorem X6l {β:Base}{σ:St}{d:D}(s:Nat)(hs:σ.t s=d):Seen β σ d:=fun a c H=>⟨_,by have:=H.slots s;rw [hs] at this;exact this⟩
theorem W77 {β:Base}{σ:St}{d:D}{L:Loc}{row:List D}(k i j:Nat)(hk:σ.h k=some L)(hi:L.rows[i]?=some row)(hj:row[j]?=some d):Seen β σ d:=fun a c H=>by
 cases H.heap.locs k L hk with
 | nil hM hr0 hf=>rw [hr0] at hi;simp at hi
 | map b clock es hM hb hfr hsz hfz hlen hrow=>
  have hlt:i<es.size:=by have:=(List.getElem?_eq_some_iff.1 hi).1;omega
  obtain ⟨dk,dv,rfl,h1,h2⟩:=hrow i row es[i] hi (by simp [hlt])
  match j,hj with
  | 0,hj=>cases hj;exact ⟨_,h1⟩
  | 1,hj=>cases hj;exact ⟨_,h2⟩
  | _+2,hj=>simp at hj
 | own b cs f hM hb hfr hlen hfz hlim hrow hcell=>exact ⟨_,(hcell i j row d hi hj).2.1⟩
theorem W76 {β:Base}{σ:St}{sz:Nat}{α:Type}{r:α→List D}{xs:List α}{x:α}{i:Int}{d:D}{row:List D}(h:Seen β σ (.slice sz (List.map r xs)))(hx:idx xs i=some x)(j:Nat)(hr:r x=row)(hj:row[j]?=some d):Seen β σ d:=fun a c H=>by
 obtain ⟨v,hv⟩:=h a c H
 rcases Q8a hv with ⟨h0,_⟩ | ⟨b,o,cap,f,_,h1,h2,h3,h4,h5⟩
 ·have:=Z8d hx
  simp at h0
  subst h0
  simp at this
 ·refine ⟨_,h5 i.toNat j row d ?_ hj⟩
  rw [←hr]
  simp [Q9d hx]
theorem TrD.limS {P:Program}{β:Base}{σ:St}{Q:Exit→St→Prop}{cd:Code}{sz:Nat}{rows:List (List D)}(hs:Seen β σ (.slice sz rows))(h:rows.length≤Q0c→TrD P β cd σ Q):TrD P β cd σ Q:=fun a c H=>by
 obtain ⟨v,hr⟩:=hs a c H
 refine h ?_ a c H
 rcases Q8a hr with ⟨rfl,_⟩ | ⟨b,o,cap,f,_,h1,h2,_⟩
 ·exact Nat.zero_le _
 ·exact h2
def rSB (p:ByteArray×Bool):List D:=[.val (.string p.1),.val (.bool p.2)]
def pSB (p:ByteArray×Bool):ByteArray×Value:=(p.1,.bool p.2)
@[simp] theorem V2q:∀ l:List (ByteArray×Bool),Z8r (List.map rSB l)=some (l.map pSB)
 | []=>rfl
 | p::l=>by
  have:=V2q l
  simp only [List.map_cons,rSB,Z8r] at this ⊢
  rw [this]
  rfl
@[simp] theorem V7x (s:ByteArray) (z:Bool):∀ l:List (ByteArray×Bool),mget (l.map pSB) s (.bool z)=.bool (mget l s z)
 | []=>rfl
 | p::l=>by
  simp only [List.map_cons,mget,V7x s z l]
  by_cases h:p.1=s
  ·simp [pSB,h]
  ·simp [pSB,h]
theorem W7y (s:ByteArray)(v:Bool):∀ l:List (ByteArray×Bool),mset (l.map pSB) s (.bool v)=(mset l s v).map pSB
 | []=>rfl
 | p::l=>by
  simp only [List.map_cons,mset,W7y s v l]
  by_cases h:p.1=s
  ·simp [pSB,h]
  ·simp [pSB,h]
@[simp] theorem Y5l (s:ByteArray) (v:Bool) (l:List (ByteArray×Bool)):Z3c (mset (l.map pSB) s (.bool v))=List.map rSB (mset l s v):=by
 rw [W7y,Z3c,List.map_map]
 rfl
@[simp] theorem Y2z (s:ByteArray) (v:Bool):Z3c (mset [] s (.bool v))=List.map rSB (mset [] s v):=rfl
@[simp] theorem X4v (l:List (ByteArray×Bool)):∀ row∈List.map rSB l,∀ d∈row,Free d:=fun row hr d hd=>by
 simp only [U11] at hr
 obtain ⟨p,_,rfl⟩:=hr
 simp only [rSB,U8,List.not_mem_nil,or_false] at hd
 rcases hd with rfl | rfl<;>exact Q5t _
end Go.Proofs.YtenmmbjgnlflnaaGreat
namespace Go.Proofs.YtenmmbjgnlflnaaGreat
open Go Go.RowKit
theorem Z9m {α:Type}{xs ys:List α}{i:Int}(h:Z06 xs i=some ys):i.toNat=ys.length:=by
 obtain ⟨e,h1,h2⟩:=Q9x h
 rw [e,U6];omega
theorem X30 {α:Type}{xs ys:List α}{i:Int}(h:Z06 xs i=some ys){r:α→List D} : (List.map r xs).take i.toNat=List.map r ys:=by
 rw [(Q9x h).1,List.map_take]
theorem X92 {α:Type}{xs ys:List α}{i:Int}(h:Z06 xs i=some ys){r:α→List D} : (List.map r xs).take ys.length=List.map r ys:=by
 rw [←Z9m h];exact X30 h
theorem X64 {α:Type}{xs ys:List α}{i:Int}(h:Z06 xs i=some ys):i.toNat+(xs.length-i.toNat)≤xs.length:=by
 obtain ⟨_,h1,h2⟩:=Q9x h
 omega
def Z30 {α:Type}(xs:List α)(i:Int):Option (List α):=if 0≤i∧i≤xs.length then some (xs.drop i.toNat) else none
theorem Z4l {α:Type}{xs ys:List α}{i:Int}(h:Z30 xs i=some ys):ys=xs.drop i.toNat∧Z56 xs.length i:=by
 unfold Z30 at h;split at h
 ·rename_i hc;cases h;exact ⟨rfl,hc⟩
 ·cases h
theorem X84 {α:Type}{xs ys:List α}{i:Int}(h:Z30 xs i=some ys)(r:α→List D):Z1z (List.map r xs) i=List.map r ys:=by
 rw [(Z4l h).1,Z1z,List.map_drop]
def subI {α:Type}(xs:List α)(l h:Int):Option (List α):=if 0≤l∧l≤h∧h≤xs.length then some ((xs.take h.toNat).drop l.toNat) else none
theorem Z9n {α:Type}{xs ys:List α}{l h:Int}(hh:subI xs l h=some ys):ys=(xs.take h.toNat).drop l.toNat∧X94 xs.length l h:=by
 unfold subI at hh;split at hh
 ·rename_i hc;cases hh;exact ⟨rfl,hc⟩
 ·cases hh
theorem W1k {α:Type}{xs ys:List α}{l h:Int}(hh:subI xs l h=some ys)(r:α→List D):Q7q (List.map r xs) l h=List.map r ys:=by
 rw [(Z9n hh).1,Q7q,List.map_drop,List.map_take]
def X5i {α:Type}(n m:Nat)(xs:List α)(i j:Int):Option α:=if xs.length=n * m∧(0≤i∧i<n)∧(0≤j∧j<m) then xs[i.toNat * m+j.toNat]? else none
def X5f {α:Type}(n m:Nat)(xs:List α)(i j:Int)(x:α):Option (List α):=if xs.length=n * m∧(0≤i∧i<n)∧(0≤j∧j<m) then some (xs.set (i.toNat * m+j.toNat) x) else none
theorem Z9f {n m:Nat}{i j:Int}(hi:0≤i∧i<n)(hj:0≤j∧j<m):i.toNat * m+j.toNat+1≤n * m:=by
 have h1:i.toNat+1≤n:=by omega
 have h2:j.toNat+1≤m:=by omega
 have:=Nat.mul_le_mul_right m h1
 rw [Nat.add_mul,Nat.one_mul] at this
 omega
theorem Z1w {α:Type}{n m:Nat}{xs:List α}{i j:Int}{x:α}(h:X5i n m xs i j=some x):xs.length=n * m∧(0≤i∧i<n)∧(0≤j∧j<m)∧xs[i.toNat * m+j.toNat]?=some x:=by
 unfold X5i at h;split at h
 ·rename_i hc;exact ⟨hc.1,hc.2.1,hc.2.2,h⟩
 ·cases h
theorem Z4o {α:Type}{n m:Nat}{xs ys:List α}{i j:Int}{x:α}(h:X5f n m xs i j x=some ys):xs.length=n * m∧(0≤i∧i<n)∧(0≤j∧j<m)∧ys=xs.set (i.toNat * m+j.toNat) x:=by
 unfold X5f at h;split at h
 ·rename_i hc;cases h;exact ⟨hc.1,hc.2.1,hc.2.2,rfl⟩
 ·cases h
theorem V9f {α:Type}{n m:Nat}{xs:List α}{i j:Int}{x:α}(h:X5i n m xs i j=some x):inb i n:=(Z1w h).2.1
theorem V9e {α:Type}{n m:Nat}{xs:List α}{i j:Int}{x:α}(h:X5i n m xs i j=some x):inb j m:=(Z1w h).2.2.1
theorem W3c {α:Type}{n m:Nat}{xs:List α}{i j:Int}{x:α}(h:X5i n m xs i j=some x){k:Nat}(hk:n * m=k):i.toNat * m+j.toNat+1≤k:=by
 obtain ⟨_,h1,h2,_⟩:=Z1w h
 rw [←hk];exact Z9f h1 h2
theorem V5c {α:Type}{n m:Nat}{xs:List α}{i j:Int}{x:α}(h:X5i n m xs i j=some x):i.toNat * m+j.toNat<xs.length:=by
 obtain ⟨h0,h1,h2,_⟩:=Z1w h
 rw [h0];exact Z9f h1 h2
theorem W3n {α:Type}{xs:List α}{k:Nat}{x:α}(h:xs[k]?=some x)(f:α→D):((List.map f xs).drop k).take 1=[f x]:=by
 have h4:=(List.getElem?_eq_some_iff.1 h).1
 rw [List.drop_eq_getElem_cons (by simpa using h4)]
 have h5:=(List.getElem?_eq_some_iff.1 h).2
 simp [h5]
theorem V0n {α:Type}{n m:Nat}{xs:List α}{i j:Int}{x:α}(h:X5i n m xs i j=some x)(f:α→D):((List.map f xs).drop (i.toNat * m+j.toNat)).take 1=[f x]:=W3n (Z1w h).2.2.2 f
theorem V5b {α:Type}{n:Nat}{xs:List α}{i:Int}{x:α}(h:aget n xs i=some x):i.toNat<xs.length:=Z8d (Z1v h).2
theorem V9c {α:Type}{n m:Nat}{xs ys:List α}{i j:Int}{x:α}(h:X5f n m xs i j x=some ys):inb i n:=(Z4o h).2.1
theorem V9b {α:Type}{n m:Nat}{xs ys:List α}{i j:Int}{x:α}(h:X5f n m xs i j x=some ys):inb j m:=(Z4o h).2.2.1
theorem W3a {α:Type}{n m:Nat}{xs ys:List α}{i j:Int}{x:α}(h:X5f n m xs i j x=some ys){k:Nat}(hk:n * m=k):i.toNat * m+j.toNat+1≤k:=by
 obtain ⟨_,h1,h2,_⟩:=Z4o h
 rw [←hk];exact Z9f h1 h2
theorem X8e {α:Type}{n m:Nat}{xs ys:List α}{i j:Int}{x:α}(h:X5f n m xs i j x=some ys)(f:α→D):Q7c (List.map f xs) (i.toNat * m+j.toNat) [f x]=List.map f ys:=by
 obtain ⟨h0,h1,h2,h3⟩:=Z4o h
 have h4:i.toNat * m+j.toNat<xs.length:=by rw [h0];exact Z9f h1 h2
 subst h3
 unfold Q7c
 rw [List.set_eq_take_append_cons_drop,if_pos h4]
 simp [List.map_take,List.map_drop]
theorem Z3d {ρ:Nat→Option Nat}{ds ds':List D}(h:All2 (Ren ρ) ds ds'):Ren ρ (.agg ds) (.agg ds'):=by
 obtain ⟨h1,h2⟩:=Q5v h
 exact .agg _ _ h1.symm fun i d d' e1 e2=>h2 i d d' e1 e2
theorem X21 {σ:St}{ρ:Nat→Option Nat} : ∀ {l:List D},(∀ d∈l,Free d)→All2 (RenV σ ρ) l l
 | [],_=>.nil
 | d::l,h=>.cons (Z4w (h d (by simp)) (le_refl d)) (X21 fun x hx=>h x (by simp [hx]))
theorem W3h {α:Type}{xs ys:List α}{i:Int}(h:Z06 xs i=some ys):ys.length+(xs.length-ys.length)≤xs.length:=by
 have:=X64 h
 rwa [Z9m h] at this
theorem V8e (n:Nat):Z56 n (lenZ 0):=⟨by decide,by simp [lenZ]⟩
@[simp] theorem Y3f:(lenZ 0).toNat=0:=rfl
theorem V29 {α β:Type}{xs:List α}{n:Nat}{u:Unit}(h:chk (decide (xs.length=n))=some u)(f:α→β):List.take n (List.map f xs)=List.map f xs:=by
 have:=Q9v h
 simp only [decide_eq_true_eq] at this
 rw [List.take_of_length_le (by simp [this])]
theorem V80 {α:Type}{xs:List α}{n:Nat}{u:Unit}(h:chk (decide (xs.length=n))=some u):n≤xs.length:=by
 have:=Q9v h
 simp only [decide_eq_true_eq] at this
 omega
@[simp] theorem W0m {sz:Nat} {α:Type} {r:α→List D} {xs:List α} {rows:List (List D)} (hr:∀ x,∀ d∈r x,Free d) (h:∀ row∈rows,∀ d∈row,Free d):Free (.slice sz (List.map r xs++rows)):=X5 fun row hrow d hd=>by
 rcases U9.1 hrow with h1 | h1
 ·obtain ⟨x,_,rfl⟩:=U11.1 h1
  exact hr x d hd
 ·exact h row h1 d hd
theorem V3.shrink {β:Base}{σ:St}{L:Loc}{rows':List (List D)}(k m:Nat)(hk:σ.h k=some L)(hr:rows'=L.rows.take m)(hf:L.fz≤m * L.sz)(hpos:0<L.sz) :
  V3 β σ { σ with h:=updL σ.h k (some ⟨L.sz,rows',L.fz,L.el⟩) }:=fun a c H=>by
 subst hr
 have hH:=H.heap
 have is:∀ q,(updL σ.h k (some (⟨L.sz,L.rows.take m,L.fz,L.el⟩:Loc)) q).isSome=true→(σ.h q).isSome=true:=fun q e1=>by
  simp only [W3] at e1
  split at e1
  ·rename_i hq;subst hq;simp [hk]
  ·exact e1
 refine ⟨c,rfl,⟨hH.ext,hH.os,hH.tape,hH.output,hH.size,hH.old,fun q L' hq=>?_,fun q q' b e1 e2=>hH.inj q q' b (is q e1) (is q' e2),fun q b e1=>hH.mine q b (is q e1)⟩,H.size,H.defers,H.slots,fun q hq=>?_⟩
 ·simp only [W3] at hq
  split at hq
  ·rename_i hqk
   subst hqk
   cases hq
   cases hH.locs q L hk with
   | nil m1 m2 m3=>exact .nil m1 (by simp [m2]) m3
   | map b clock es m1 m2 m3 m4=>omega
   | own b cs f m1 m2 m3 m4 m5 m6 m7 m8 m9=>
    have hle:(L.rows.take m).length≤L.rows.length:=by rw [U6];omega
    have hmul:=Nat.mul_le_mul_right L.sz hle
    refine .own (hpos:=m9) b cs f m1 m2 m3 (Nat.le_trans hmul m4) ?_ (Nat.le_trans hle m6) (fun row hr=>m7 row (List.mem_of_mem_take hr)) fun i j row d hi hj=>?_
    ·show L.fz≤(L.rows.take m).length * L.sz
     rw [U6]
     rcases Nat.le_total m L.rows.length with h | h
     ·rw [Nat.min_eq_left h];exact hf
     ·rw [Nat.min_eq_right h];exact m5
    ·have hi':L.rows[i]?=some row:=by
      have hi2:(L.rows.take m)[i]?=some row:=hi
      rw [List.getElem?_take] at hi2
      split at hi2
      ·exact hi2
      ·cases hi2
     exact m8 i j row d hi' hj
  ·exact hH.locs q L' hq
 ·obtain ⟨h1,h2⟩:=H.fresh q hq
  refine ⟨?_,h2⟩
  have:q≠k:=fun e=>by subst e;rw [hk] at h1;cases h1
  simp [this,h1]
end Go.Proofs.YtenmmbjgnlflnaaGreat
