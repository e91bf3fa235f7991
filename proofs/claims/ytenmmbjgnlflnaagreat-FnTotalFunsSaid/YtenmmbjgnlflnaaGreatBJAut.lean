import Derived.Test.YtenmmbjgnlflnaaGreatBJZap
set_option linter.unusedSimpArgs false
set_option linter.unusedVariables false
namespace Go.Proofs.YtenmmbjgnlflnaaGreat
open Go Go.RowKit
class Ct {τ:Type} (e:Option τ) (C:outParam (τ→Prop)):Prop where
 pf:∀ r,e=some r→C r
class FrR {α:Type} (r:α→List D):Prop where
 pf:∀ x,∀ d∈r x,Free d
def FrS (rows:List (List D)):Prop:=∀ row∈rows,∀ d∈row,Free d
@[simp] theorem Y8r:FrS []:=fun _ h=>by cases h
@[simp] theorem W2r {r:List D} {l:List (List D)} : FrS (r::l)↔(∀ d∈r,Free d)∧FrS l:=⟨fun h=>⟨h r (by simp),fun x hx=>h x (by simp [hx])⟩,fun h x hx=>by
 rcases U8.1 hx with rfl | hx
 ·exact h.1
 ·exact h.2 x hx⟩
@[simp] theorem Y8t {a b:List (List D)} : FrS (a++b)↔FrS a∧FrS b:=⟨fun h=>⟨fun x hx=>h x (by simp [hx]),fun x hx=>h x (by simp [hx])⟩,fun h x hx=>by
 rcases U9.1 hx with hx | hx
 ·exact h.1 x hx
 ·exact h.2 x hx⟩
@[simp high] theorem frS_cB {x:List Bool} {l:List (List D)} : FrS (List.map cB x::l)↔FrS l:=by
 rw [W2r]
 exact ⟨fun h=>h.2,fun h=>⟨fun d hd=>by obtain ⟨a,_,rfl⟩:=U11.1 hd;exact Q5t _,h⟩⟩
@[simp high] theorem frS_cI {x:List Int} {l:List (List D)} : FrS (List.map cI x::l)↔FrS l:=by
 rw [W2r]
 exact ⟨fun h=>h.2,fun h=>⟨fun d hd=>by obtain ⟨a,_,rfl⟩:=U11.1 hd;exact Q5t _,h⟩⟩
@[simp] theorem Y8p {rows:List (List D)} {row:List D} {n:Nat} (h:FrS rows) (h2:∀ d∈row,Free d):FrS (rows.set n row):=fun x hx=>by
 rcases List.mem_or_eq_of_mem_set hx with hx | rfl
 ·exact h x hx
 ·exact h2
@[simp] theorem Y8q {n:Nat} {row:List D} (h:∀ d∈row,Free d):FrS (List.replicate n row):=fun x hx=>by
 rw [(List.mem_replicate.1 hx).2]
 exact h
@[simp] theorem Y8s {α:Type} {r:α→List D} [i:FrR r] {xs:List α} : FrS (List.map r xs):=Q6 i.pf xs
class Fr1 (d:D):Prop where
 pf:Free d
class FrL (l:List D):Prop where
 pf:∀ d∈l,Free d
instance:FrL []:=⟨fun _ h=>by cases h⟩
instance {d:D}{l:List D} [i:Fr1 d] [j:FrL l]:FrL (d::l):=⟨fun x hx=>by
 rcases U8.1 hx with rfl | hx
 ·exact i.pf
 ·exact j.pf x hx⟩
instance (priority:=low){α:Type}{r:α→List D}{x:α} [i:FrR r]:FrL (r x):=⟨i.pf x⟩
instance {xs:List Int} : FrL (List.map cI xs):=⟨fun d hd=>by obtain ⟨a,_,rfl⟩:=U11.1 hd;exact Q5t _⟩
instance {xs:List Bool} : FrL (List.map cB xs):=⟨fun d hd=>by obtain ⟨a,_,rfl⟩:=U11.1 hd;exact Q5t _⟩
instance {v:Value} : Fr1 (.val v):=⟨Q5t v⟩
instance:Fr1 .nil:=⟨W2q⟩
instance {sz:Nat}{α:Type}{r:α→List D}{xs:List α} [i:FrR r]:Fr1 (.slice sz (List.map r xs)):=⟨X5 (Q6 i.pf xs)⟩
instance {l:List D} [i:FrL l]:Fr1 (.agg l):=⟨Z9d i.pf⟩
instance {l:List D} [i:FrL l]:Fr1 (.cptr l):=⟨X7o i.pf⟩
instance {f:FuncId}{l:List D} [i:FrL l]:Fr1 (.clos f l):=⟨X7p i.pf⟩
class CF1 {α β:Type} (A:α→D) (B:β→D) (p:α→Option β) (f:outParam FuncId) (c:outParam (List D)):Prop where
 fr:∀ d∈c,Free d
 h:∀ a r,p a=some r→Q7 Tryz.prog f ([A a]++c) (fun d=>d=B r)
class CF2 {α γ β:Type} (A:α→D) (A':γ→D) (B:β→D) (p:α→γ→Option β) (f:outParam FuncId) (c:outParam (List D)):Prop where
 fr:∀ d∈c,Free d
 h:∀ a a' r,p a a'=some r→Q7 Tryz.prog f ([A a,A' a']++c) (fun d=>d=B r)
instance {α β:Type}{A:α→D}{B:β→D}{p:α→Option β}{f:FuncId}{c:List D} [i:∀ a,Ct (p a) (fun r=>Q7 Tryz.prog f (A a::c) (fun d=>d=B r))] [j:FrL c]:CF1 A B p f c:=⟨j.pf,fun a r=>(i a).pf r⟩
instance {α γ β:Type}{A:α→D}{A':γ→D}{B:β→D}{p:α→γ→Option β}{f:FuncId}{c:List D} [i:∀ a a',Ct (p a a') (fun r=>Q7 Tryz.prog f (A a::A' a'::c) (fun d=>d=B r))] [j:FrL c]:CF2 A A' B p f c:=⟨j.pf,fun a a' r=>(i a a').pf r⟩
def Sl (p:Prop):Prop:=p
inductive Hint:Type 1 where
 | z
 | i (a b:Hint)
 | b {α:Type} (f:α→Hint)
 | o (t:Hint)
 | e (t:Hint)
 | j {α:Type} (id k:Nat) (v l:List Nat) (F:α→List (Nat×D)) (G:α→List (Nat×Option Loc)) (a:Hint) (b:α→Hint)
 | f {α:Type} (vE lE v l:List Nat) (F:Nat→α→List (Nat×D)) (G:Nat→α→List (Nat×Option Loc)) (a:Nat→α→Hint) (b:α→Hint)
 | w {α:Type} (vE lE v l:List Nat) (F:α→List (Nat×D)) (G:α→List (Nat×Option Loc)) (a:α→Hint) (b:α→Hint)
 | g (v l:List Nat) (F:List (Nat×D)) (G:List (Nat×Option Loc)) (t:Hint)
 | gr (id:Nat) (v l:List Nat) (F:List (Nat×D)) (G:List (Nat×Option Loc)) (t:Hint)
 | d (o R X:List Nat) (t:Hint)
 | dz (o R Z X:List Nat) (t:Hint)
 | pF (k:Nat) (t:Hint)
 | pN (s sz el:Nat) (t:Hint)
 | pC (k j sz el:Nat) (t:Hint)
 | pcr (id k j sz el:Nat) (t:Hint)
 | pM (s:Nat) (t:Hint)
 | pB (k:Nat) (t:Hint)
 | pS {α:Type} (q:Nat) (n:Int) (r:α→List D) (xs:List α) (t:Hint)
 | ls (s:Nat) (t:Hint)
 | lc {α:Type} (k j sz:Nat) (r:α→List D) (xs:List α) (t:Hint)
 | ll (k:Nat) (t:Hint)
 | le {α β:Type} (s j sz:Nat) (r:α→List D) (xs:List α) (x:β) (t:Hint)
 | c {P:Prop} (pf:P) (t:Hint)
structure Hn (t:Hint) (p:Prop):Prop where
 pf:p
def lid:Code→Nat
 | .region id _ _=>id
 | .seq a _=>lid a
 | .block _ a=>lid a
 | .loop a=>lid a
 | .cond (.tmp t) _ _=>100000+t
 | _=>99999
def lk:List (Nat×D)→Nat→D
 | []=>fun _=>.any
 | p::r=>updD (lk r) p.1 p.2
@[simp] theorem lk_nil (i:Nat):lk [] i=.any:=rfl
@[simp] theorem Y84 (s:Nat) (d:D) (r:List (Nat×D)) (i:Nat):lk ((s,d)::r) i=if i=s then d else lk r i:=rfl
def uT (t:Nat→D):List (Nat×D)→Nat→D
 | [],k=>t k
 | p::r,k=>if k=p.1 then p.2 else uT t r k
def nmI:List Nat→Nat→Option Nat
 | [],_=>none
 | a::l,k=>if a=k then some 0 else (nmI l k).map (· + 1)
def renI (l:List Nat):D→D
 | .ptr sz k i j=>match nmI l k with | some k'=>.ptr sz k' i j | none=>.any
 | .sl sz k n=>match nmI l k with | some k'=>.sl sz k' n | none=>.any
 | .mp k=>match nmI l k with | some k'=>.mp k' | none=>.any
 | d=>d
def ren1 (l:List Nat):Option Loc→Option Loc
 | some ⟨sz,[row],fz,el⟩=>some ⟨sz,[row.map (renI l)],fz,el⟩
 | o=>o
def uH (h:Nat→Option Loc)(l:List Nat):List (Nat×Option Loc)→Nat→Option Loc
 | [],k=>h k
 | p::r,k=>if k=p.1 then p.2 else if k+1000000000=p.1 then ren1 l p.2 else uH h l r k
def stR (σ:St)(v l:List Nat)(F:List (Nat×D))(G:List (Nat×Option Loc)):St:=⟨lk (v.map fun s=>(s,renI l (uT σ.t F s))),hOfO (l.map (uH σ.h l G)),l.length,σ.n⟩
section
variable {P:Program} {β:Base} {σ:St} {Q:Exit→St→Prop} {t:Hint} {G:Prop}
def QS (P:Program)(β:Base)(y:Code)(Q:Exit→St→Prop):Exit→St→Prop
 | .normal,s=>TrD P β y s Q
 | e,s=>Q e s
def QB (id:Nat)(Q:Exit→St→Prop):Exit→St→Prop
 | .exit id',s=>if id'=id then Q .normal s else Q (.exit id') s
 | e,s=>Q e s
def QJ {α ρ τ:Type}(β:Base)(S:α→St)(o:Ctl ρ α)(k:Ctl ρ α→Option τ)(Q:τ→Exit→St→Prop):Exit→St→Prop
 | .normal,s=>Z7y β (fun z=>o=.brk z) S s
 | e,s=>∀ r,k o=some r→Q r e s
def QF {α ρ τ:Type}(β:Base)(id:Nat)(S E:α→St)(o:Ctl ρ α)(k:Ctl ρ α→Option τ)(Q:τ→Exit→St→Prop):Exit→St→Prop
 | .normal,s=>Z7y β (fun z=>o=.go z) S s
 | .exit id',s=>if id'=id then Z7y β (fun z=>o=.brk z) E s else match o with | .ret a=>∀ r,k (.ret a)=some r→Q r (.exit id') s | _=>False
 | e,s=>match o with | .ret a=>∀ r,k (.ret a)=some r→Q r e s | _=>False
class Stab (β:Base) (Q:Exit→St→Prop):Prop where
 pf:∀ s s',V3 β s s'→Q .normal s'→Q .normal s
instance {y:Code} : Stab β (QS P β y Q):=⟨fun _ _ hg h=>TrD.ghost hg h⟩
instance {id:Nat} [i:Stab β Q]:Stab β (QB id Q):=⟨i.pf⟩
instance {α ρ τ:Type}{S:α→St}{o:Ctl ρ α}{k:Ctl ρ α→Option τ}{Q:τ→Exit→St→Prop} : Stab β (QJ β S o k Q):=⟨fun _ _ hg h=>Z7y.ghost hg h⟩
instance {α ρ τ:Type}{id:Nat}{S E:α→St}{o:Ctl ρ α}{k:Ctl ρ α→Option τ}{Q:τ→Exit→St→Prop} : Stab β (QF β id S E o k Q):=⟨fun _ _ hg h=>Z7y.ghost hg h⟩
instance {T:Ty}{res:List ResultVar}{Q:D→Prop} : Stab β (W1b T β res Q):=⟨fun _ _ hg h=>W5b hg h⟩
instance {T:Ty}{m:Nat}{res:List ResultVar}{Q:List (Option Loc)→D→Prop} : Stab β (X8i T β m res Q):=⟨fun _ _ hg h=>W59 hg h⟩
theorem zOk (h:Hn .z G):Hn .z G:=h
theorem unB {α:Type}{f:α→Hint}(x:α)(h:Hn (f x) G):Hn (.b f) G:=⟨h.pf⟩
theorem unO (h:Hn t G):Hn (.o t) G:=⟨h.pf⟩
theorem hI {α:Type}{b:Bool}{x y r:α}{t1 t2:Hint}(h1:b=true→x=r→Hn t1 G)(h2:b=false→y=r→Hn t2 G):(if b=true then x else y)=r→Hn (.i t1 t2) G:=fun h=>by
 cases b
 ·exact ⟨(h2 rfl h).pf⟩
 ·exact ⟨(h1 rfl h).pf⟩
theorem hIz {α:Type}{b:Bool}{x y r:α}(h1:b=true→x=r→Hn .z G)(h2:b=false→y=r→Hn .z G):(if b=true then x else y)=r→Hn .z G:=fun h=>⟨(hI h1 h2 h).pf⟩
theorem hNo {α:Type}{r:α} : none=some r→G:=fun h=>by cases h
theorem hSg {α:Type}{a r:α}(h:some a=some r→G):some a=some r→G:=h
theorem Y8l {τ υ:Type}{x:Option τ}{k:τ→Option υ}{r:υ}(C:τ→Prop)(i:Ct x C)(h:∀ a,C a→k a=some r→G):x.bind k=some r→G:=fun e=>by
 obtain ⟨a,h1,h2⟩:=bindE e
 exact h a (i.pf a h1) h2
theorem Y3i {τ υ:Type}{x:Option τ}{k:τ→Option υ}{r:υ}{C:τ→Prop}{p:∀ a,x=some a→C a}(h:∀ a,C a→k a=some r→Hn t G):x.bind k=some r→Hn (.c p t) G:=fun e=>by
 obtain ⟨a,h1,h2⟩:=bindE e
 exact ⟨(h a (p a h1) h2).pf⟩
theorem hCF1 {α β υ:Type}{A:α→D}{B:β→D}{p:α→Option β}{f:FuncId}{c:List D}(i:CF1 A B p f c){x:α}{k:β→Option υ}{r:υ}(h:∀ a,Q7 Tryz.prog f (A x::c) (fun d=>d=B a)→k a=some r→G):(p x).bind k=some r→G:=fun e=>by
 obtain ⟨a,h1,h2⟩:=bindE e
 exact h a (i.h x a h1) h2
theorem hCF2 {α γ β υ:Type}{A:α→D}{A':γ→D}{B:β→D}{p:α→γ→Option β}{f:FuncId}{c:List D}(i:CF2 A A' B p f c){x:α}{y:γ}{k:β→Option υ}{r:υ}(h:∀ a,Q7 Tryz.prog f (A x::A' y::c) (fun d=>d=B a)→k a=some r→G):(p x y).bind k=some r→G:=fun e=>by
 obtain ⟨a,h1,h2⟩:=bindE e
 exact h a (i.h x y a h1) h2
theorem hIdx {α υ:Type}{xs:List α}{n:Int}{k:α→Option υ}{r:υ}(h:∀ x,idx xs n=some x→inb n xs.length→(∀ f:α→List D,X04 (xs.map f) n=f x)→xs[n.toNat]?=some x→n.toNat<xs.length→(∀ hi:n.toNat<xs.length,xs[n.toNat]=x)→n<(xs.length:Int)→k x=some r→G):(idx xs n).bind k=some r→G:=fun e=>by
 obtain ⟨a,h1,h2⟩:=bindE e
 exact h a h1 (Z3u h1) (X4n h1) (Q9d h1) (Z8d h1) (elt (Q9d h1)) (Z3u h1).2 h2
theorem hApp {α υ:Type}{xs ys:List α}{k:List α→Option υ}{r:υ}(h:∀ zs,Sl (zs=xs++ys)→xs.length+ys.length≤Q9→ys.length+xs.length≤Q9→k zs=some r→G):(app xs ys).bind k=some r→G:=fun e=>by
 obtain ⟨a,h1,h2⟩:=bindE e
 exact h a (Z6u h1).1 (Z6u h1).2 (by have:=(Z6u h1).2;omega) h2
theorem Y8n {α υ:Type}{ys:List α}{k:List α→Option υ}{r:υ}(h:∀ zs,zs=ys→ys.length≤Q9→k zs=some r→G):(app [] ys).bind k=some r→G:=fun e=>by
 obtain ⟨a,h1,h2⟩:=bindE e
 have h3:=V0j h1
 subst h3
 exact h _ rfl (by simpa using (Z6u h1).2) h2
theorem hSet {α υ:Type}{xs:List α}{n:Int}{y:α}{k:List α→Option υ}{r:υ}(h:∀ zs,Sl (zs=xs.set n.toNat y)→zs.length=xs.length→n.toNat<xs.length→inb n xs.length→k zs=some r→G):(setI xs n y).bind k=some r→G:=fun e=>by
 obtain ⟨a,h1,h2⟩:=bindE e
 exact h a (Z07 h1).1 (by rw [(Z07 h1).1];simp) (Z07 h1).2.1 (Z07 h1).2.2 h2
theorem Y8b {α υ:Type}{xs:List α}{n:Int}{k:List α→Option υ}{r:υ}(h:∀ zs,Sl (zs=xs.take n.toNat)→Z56 xs.length n→(∀ f:α→List D,Z99 (List.map f xs) n=List.map f zs)→n.toNat=zs.length→(∀ f:α→List D,(List.map f xs).take n.toNat=List.map f zs)→(∀ f:α→List D,(List.map f xs).take zs.length=List.map f zs)→n.toNat+(xs.length-n.toNat)≤xs.length→zs.length+(xs.length-zs.length)≤xs.length→k zs=some r→G):(Z06 xs n).bind k=some r→G:=fun e=>by
 obtain ⟨a,h1,h2⟩:=bindE e
 exact h a (Q9x h1).1 (Q9x h1).2 (W6t h1) (Z9m h1) (fun f=>X30 h1) (fun f=>X92 h1) (X64 h1) (W3h h1) h2
theorem Y8g {α υ:Type}{xs:List α}{n:Int}{k:List α→Option υ}{r:υ}(h:∀ zs,Sl (zs=xs.drop n.toNat)→Z56 xs.length n→(∀ f:α→List D,Z1z (List.map f xs) n=List.map f zs)→(∀ m,n=m→Z56 xs.length m)→(∀ m,n=m→∀ f:α→List D,Z1z (List.map f xs) m=List.map f zs)→k zs=some r→G):(Z30 xs n).bind k=some r→G:=fun e=>by
 obtain ⟨a,h1,h2⟩:=bindE e
 exact h a (Z4l h1).1 (Z4l h1).2 (X84 h1) (fun m e=>e▸(Z4l h1).2) (fun m e=>e▸X84 h1) h2
theorem hSub {α υ:Type}{xs:List α}{m n:Int}{k:List α→Option υ}{r:υ}(h:∀ zs,X94 xs.length m n→(∀ f:α→List D,Q7q (List.map f xs) m n=List.map f zs)→(∀ m' n',m=m'→n=n'→X94 xs.length m' n')→(∀ m' n',m=m'→n=n'→∀ f:α→List D,Q7q (List.map f xs) m' n'=List.map f zs)→k zs=some r→G):(subI xs m n).bind k=some r→G:=fun e=>by
 obtain ⟨a,h1,h2⟩:=bindE e
 exact h a (Z9n h1).2 (W1k h1) (fun m' n' e e'=>e▸e'▸(Z9n h1).2) (fun m' n' e e'=>e▸e'▸W1k h1) h2
theorem hMk {α υ:Type}{n:Int}{z:α}{k:List α→Option υ}{r:υ}(h:∀ zs,zs=List.replicate n.toNat z→0≤n→n≤Q9→k zs=some r→G):(mkS n z).bind k=some r→G:=fun e=>by
 obtain ⟨a,h1,h2⟩:=bindE e
 have h3:=(X4e h1).1
 subst h3
 exact h _ rfl (X4e h1).2.1 (X4e h1).2.2 h2
theorem Y8o {α υ:Type}{m:Nat}{xs:List α}{n:Int}{k:α→Option υ}{r:υ}(h:∀ x,inb n m→(∀ f:α→D,((List.map f xs).drop n.toNat).take 1=[f x])→n.toNat+1≤m→1≤xs.length-n.toNat→xs[n.toNat]?=some x→xs.length=m→k x=some r→G):(aget m xs n).bind k=some r→G:=fun e=>by
 obtain ⟨a,h1,h2⟩:=bindE e
 exact h a (V59 h1) (V58 h1) (V9d h1) (Nat.sub_pos_of_lt (V5b h1)) (V5a h1) (Z1v h1).1 h2
theorem Y8m {α υ:Type}{m:Nat}{xs:List α}{n:Int}{y:α}{k:List α→Option υ}{r:υ}(h:∀ zs,inb n m→(∀ f:α→D,Q7c (List.map f xs) n.toNat [f y]=List.map f zs)→(∀ f:α→D,List.take n.toNat (List.map f xs)++f y::List.drop (n.toNat+1) (List.map f xs)=List.map f zs)→n.toNat+1≤m→k zs=some r→G):(aset m xs n y).bind k=some r→G:=fun e=>by
 obtain ⟨a,h1,h2⟩:=bindE e
 exact h a (V55 h1) (W39 h1) (fun f=>by simpa [Q7c] using W39 h1 f) (V9a h1) h2
theorem Y3k {α υ:Type}{m m':Nat}{xs:List α}{i j:Int}{k:α→Option υ}{r:υ}(h:∀ x,inb i m→inb j m'→(∀ f:α→D,((List.map f xs).drop (i.toNat * m'+j.toNat)).take 1=[f x])→i.toNat * m'+j.toNat+1≤m * m'→1≤xs.length-(i.toNat * m'+j.toNat)→i.toNat * m'+j.toNat≤m * m'-1→k x=some r→G):(X5i m m' xs i j).bind k=some r→G:=fun e=>by
 obtain ⟨a,h1,h2⟩:=bindE e
 exact h a (V9f h1) (V9e h1) (V0n h1) (W3c h1 rfl) (Nat.sub_pos_of_lt (V5c h1)) (by have:=W3c h1 rfl;omega) h2
theorem Y3j {α υ:Type}{m m':Nat}{xs:List α}{i j:Int}{y:α}{k:List α→Option υ}{r:υ}(h:∀ zs,inb i m→inb j m'→(∀ f:α→D,Q7c (List.map f xs) (i.toNat * m'+j.toNat) [f y]=List.map f zs)→(∀ f:α→D,List.take (i.toNat * m'+j.toNat) (List.map f xs)++f y::List.drop (i.toNat * m'+j.toNat+1) (List.map f xs)=List.map f zs)→i.toNat * m'+j.toNat+1≤m * m'→i.toNat * m'+j.toNat≤m * m'-1→k zs=some r→G):(X5f m m' xs i j y).bind k=some r→G:=fun e=>by
 obtain ⟨a,h1,h2⟩:=bindE e
 exact h a (V9c h1) (V9b h1) (X8e h1) (fun f=>by simpa [Q7c] using X8e h1 f) (W3a h1 rfl) (by have:=W3a h1 rfl;omega) h2
@[simp] theorem Y5p:ieq 2 0=false∧ieq 3 0=false∧ieq 4 0=false∧ieq 5 0=false∧ieq 6 0=false∧ieq 7 0=false∧ieq 8 0=false∧ieq 9 0=false∧ieq 10 0=false∧ieq 11 0=false∧ieq 12 0=false∧ieq 13 0=false∧ieq 14 0=false∧ieq 15 0=false∧ieq 16 0=false∧ieq 17 0=false∧ieq 18 0=false∧ieq 19 0=false∧ieq 20 0=false∧ieq 21 0=false∧ieq 22 0=false∧ieq 23 0=false∧ieq 24 0=false∧ieq 25 0=false∧ieq 26 0=false∧ieq 27 0=false∧ieq 28 0=false∧ieq 29 0=false∧ieq 30 0=false∧ieq 31 0=false∧ieq 32 0=false∧ieq 40 0=false∧ieq 48 0=false∧ieq 50 0=false∧ieq 60 0=false∧ieq 64 0=false∧ieq 90 0=false∧ieq 97 0=false∧ieq 100 0=false∧ieq 128 0=false∧ieq 200 0=false∧ieq 255 0=false∧ieq 256 0=false∧ieq 400 0=false∧ieq 500 0=false∧ieq 512 0=false∧ieq 1000 0=false∧ieq 1024 0=false:=by decide
theorem Y8h {υ:Type}{b:Bool}{k:Unit→Option υ}{r:υ}(h:b=false→k ()=some r→G):(chk (!b)).bind k=some r→G:=fun e=>by
 obtain ⟨a,h1,h2⟩:=bindE e
 exact h (by simpa using Q9v h1) h2
theorem Y8k {υ:Type}{p:Prop} [Decidable p] {k:Unit→Option υ}{r:υ}(h:p→k ()=some r→G):(chk (decide p)).bind k=some r→G:=fun e=>by
 obtain ⟨a,h1,h2⟩:=bindE e
 exact h (of_decide_eq_true (Q9v h1)) h2
theorem Y8i {α υ:Type}{xs:List α}{n:Nat}{k:Unit→Option υ}{r:υ}(h:xs.length=n→(∀ f:α→D,List.take n (List.map f xs)=List.map f xs)→n≤xs.length→k ()=some r→G):(chk (decide (xs.length=n))).bind k=some r→G:=fun e=>by
 obtain ⟨a,h1,h2⟩:=bindE e
 exact h (of_decide_eq_true (Q9v h1)) (fun f=>V29 h1 f) (V80 h1) h2
attribute [simp] V8e
@[simp] theorem Y3h:inb 10 11:=⟨by decide,by decide⟩
theorem Y8j {υ:Type}{a b:Int}{k:Unit→Option υ}{r:υ}(h:ieq a b=true→a=b→k ()=some r→G):(chk (ieq a b)).bind k=some r→G:=fun e=>by
 obtain ⟨u,h1,h2⟩:=bindE e
 exact h (Q9v h1) (by simpa [ieq] using Q9v h1) h2
theorem hChk {υ:Type}{b:Bool}{k:Unit→Option υ}{r:υ}(h:b=true→k ()=some r→G):(chk b).bind k=some r→G:=fun e=>by
 obtain ⟨a,h1,h2⟩:=bindE e
 exact h (Q9v h1) h2
theorem Y8d {υ:Type}{s:ByteArray}{n:Int}{k:Int→Option υ}{r:υ}(h:∀ x,x=W36 s n→inb n s.size→k x=some r→G):(sidx s n).bind k=some r→G:=fun e=>by
 obtain ⟨a,h1,h2⟩:=bindE e
 have h3:=(X6k h1).1
 subst h3
 exact h _ rfl (X6k h1).2 h2
theorem Y8c {υ:Type}{s:ByteArray}{l n:Int}{k:ByteArray→Option υ}{r:υ}(h:∀ x,x=bsub s l n→X94 s.size l n→k x=some r→G):(ssub s l n).bind k=some r→G:=fun e=>by
 obtain ⟨a,h1,h2⟩:=bindE e
 exact h a (X67 h1).1 (X67 h1).2 h2
theorem Y8e {υ:Type}{s u:ByteArray}{k:ByteArray→Option υ}{r:υ}(h:∀ x,x=s++u→s.size+u.size≤4611686018427387904→k x=some r→G):(scat s u).bind k=some r→G:=fun e=>by
 obtain ⟨a,h1,h2⟩:=bindE e
 exact h a (X6m h1).1 (X6m h1).2 h2
theorem HAll {α:Sort _}{G:α→Prop}(h:∀ x,Hn t (G x)):Hn t (∀ x,G x):=⟨fun x=>(h x).pf⟩
theorem HCt {τ:Type}{e:Option τ}{C:τ→Prop}(h:∀ r,e=some r→Hn t (C r)):Hn t (Ct e C):=⟨⟨fun r e=>(h r e).pf⟩⟩
theorem HCD {fn:Func}{f:FuncId}{body:Code}{args:List D}{Q:D→Prop}(hf:Tryz.prog.funcs[f]?=some fn)(res:List ResultVar){n:Nat}
  (h:∀ β:Base,Sl (∀ k x,β.c0.M k=some x→k<0)→Hn t (TrD Tryz.prog β body ⟨fun i=>args.getD i (.val undef),fun _=>none,0,n⟩ (W1b Tys β res Q)))
  (hname : (fn.name == "runtime.NumGoroutine") = false := by decide) (hb : fn.body = some body := by rfl) (hn : args.length ≤ fn.ntmps := by exact Nat.le_of_ble_eq_true rfl) (hres : fn.results.toList = res := by rfl) (hnt : fn.ntmps = n := by rfl) : Hn t (Q7 Tryz.prog f args Q) :=
 ⟨CD hf res (fun β hβ=>(h β hβ).pf) hname hb hn hres hnt⟩
theorem HCH {fn:Func}{f:FuncId}{body:Code}{H:List Loc}{args:List D}{Q:List (Option Loc)→D→Prop}(hf:Tryz.prog.funcs[f]?=some fn)(res:List ResultVar){n:Nat}(m:Nat)
  (h:∀ β:Base,Sl (∀ k x,β.c0.M k=some x→k<m)→Hn t (TrD Tryz.prog β body ⟨fun i=>args.getD i (.val undef),hOf H,m,n⟩ (X8i Tys β m res Q)))
  (hname : (fn.name == "runtime.NumGoroutine") = false := by decide) (hb : fn.body = some body := by rfl) (hn : args.length ≤ fn.ntmps := by exact Nat.le_of_ble_eq_true rfl) (hres : fn.results.toList = res := by rfl) (hnt : fn.ntmps = n := by rfl) (hm : H.length = m := by first | (simp only [U3, U4, Nat.zero_add, Nat.reduceAdd]; done) | (simp only [U3, U4, Nat.zero_add, Nat.reduceAdd]; rfl)) : Hn t (Q12 Tryz.prog f H args Q) := by
 subst hm
 exact ⟨CH hf res _ (fun β hβ=>(h β hβ).pf) hname hb hn hres hnt⟩
theorem sR {id:Nat}{ops:Array Oper}{y:Code}(h:∀ K:St→Prop,(∀ s,Hn t (TrD Tryz.prog β y s Q)→K s)→runL Tryz.prog Tys ops ops.toList σ K):Hn t (TrD Tryz.prog β (.seq (.region id ops false) y) σ Q):=⟨sk fun K hK=>h K fun s hs=>hK s hs.pf⟩
theorem rR {id:Nat}{ops:Array Oper}(h:∀ K:St→Prop,(∀ s,Hn t (Q .normal s)→K s)→runL Tryz.prog Tys ops ops.toList σ K):Hn t (TrD Tryz.prog β (.region id ops false) σ Q):=⟨rk fun K hK=>h K fun s hs=>hK s hs.pf⟩
theorem dS {id:Nat}{ops:Array Oper}{y:Code}{o R X:List Nat}(hc:Q8l R [] [] X ops o=true)(hl:o.length=ops.size)(h:∀ K:St→Prop,(∀ s,Hn t (TrD Tryz.prog β y s Q)→K s)→runA Tryz.prog Tys R [] [] X ops o σ K):Hn (.d o R X t) (TrD Tryz.prog β (.seq (.region id ops true) y) σ Q):=
 ⟨TrD.seq (TrD.draw Z73 W3v o R X hc hl fun K hK=>h K fun s hs=>hK s hs.pf)⟩
theorem dR {id:Nat}{ops:Array Oper}{o R X:List Nat}(hc:Q8l R [] [] X ops o=true)(hl:o.length=ops.size)(h:∀ K:St→Prop,(∀ s,Hn t (Q .normal s)→K s)→runA Tryz.prog Tys R [] [] X ops o σ K):Hn (.d o R X t) (TrD Tryz.prog β (.region id ops true) σ Q):=
 ⟨TrD.draw Z73 W3v o R X hc hl fun K hK=>h K fun s hs=>hK s hs.pf⟩
theorem zS {id:Nat}{ops:Array Oper}{y:Code}{o R Z X:List Nat}(hc:Q8l R Z [] X ops o=true)(hl:o.length=ops.size)(hn:σ.next≤zone)(h:∀ K:St→Prop,(∀ s,Hn t (TrD Tryz.prog β y s Q)→K s)→runA Tryz.prog Tys R Z [] X ops o { σ with next:=2097152 } K):Hn (.dz o R Z X t) (TrD Tryz.prog β (.seq (.region id ops true) y) σ Q):=
 ⟨TrD.seq (TrD.drawZ Z73 W3v o R Z [] X hc hl 2097152 (Nat.le_trans hn (Nat.le_of_ble_eq_true rfl)) (.inr ⟨hn,rfl⟩) fun K hK=>h K fun s hs=>hK s hs.pf)⟩
theorem zR {id:Nat}{ops:Array Oper}{o R Z X:List Nat}(hc:Q8l R Z [] X ops o=true)(hl:o.length=ops.size)(hn:σ.next≤zone)(h:∀ K:St→Prop,(∀ s,Hn t (Q .normal s)→K s)→runA Tryz.prog Tys R Z [] X ops o { σ with next:=2097152 } K):Hn (.dz o R Z X t) (TrD Tryz.prog β (.region id ops true) σ Q):=
 ⟨TrD.drawZ Z73 W3v o R Z [] X hc hl 2097152 (Nat.le_trans hn (Nat.le_of_ble_eq_true rfl)) (.inr ⟨hn,rfl⟩) fun K hK=>h K fun s hs=>hK s hs.pf⟩
theorem sqR {x y:Code}(h:Hn t (TrD P β x σ (QS P β y Q))):Hn t (TrD P β (.seq x y) σ Q):=⟨TrD.seq (TrD.mono h.pf fun e s hs=>by cases e<;>exact hs)⟩
theorem cdT {x:Operand}{th el:Code}(b:Bool)(hx:σ.get x=.val (.bool b))(hb:b=true)(h:Hn t (TrD P β th σ Q)):Hn t (TrD P β (.cond x th el) σ Q):=⟨cT h.pf (by rw [hx,hb])⟩
theorem cdF {x:Operand}{th el:Code}(b:Bool)(hx:σ.get x=.val (.bool b))(hb:b=false)(h:Hn t (TrD P β el σ Q)):Hn t (TrD P β (.cond x th el) σ Q):=⟨cF h.pf (by rw [hx,hb])⟩
theorem bkR {id:Nat}{x:Code}(h:Hn t (TrD P β x σ (QB id Q))):Hn t (TrD P β (.block id x) σ Q):=⟨TrD.block (TrD.mono h.pf fun e s hs=>by cases e<;>exact hs)⟩
theorem exR {id:Nat}(h:Hn t (Q (.exit id) σ)):Hn t (TrD P β (.exit id) σ Q):=⟨TrD.exit h.pf⟩
theorem skR (h:Hn t (Q .normal σ)):Hn t (TrD P β .skip σ Q):=⟨TrD.skip h.pf⟩
theorem rtR (h:Hn t (Q .ret σ)):Hn t (TrD P β .ret σ Q):=⟨TrD.ret h.pf⟩
theorem qs_n {y:Code}(h:Hn t (TrD P β y σ Q)):Hn t (QS P β y Q .normal σ):=⟨h.pf⟩
theorem qs_x {y:Code}{id:Nat}(h:Hn t (Q (.exit id) σ)):Hn t (QS P β y Q (.exit id) σ):=⟨h.pf⟩
theorem qs_r {y:Code}(h:Hn t (Q .ret σ)):Hn t (QS P β y Q .ret σ):=⟨h.pf⟩
theorem qb_n {id:Nat}(h:Hn t (Q .normal σ)):Hn t (QB id Q .normal σ):=⟨h.pf⟩
theorem qb_x {id:Nat}(h:Hn t (Q .normal σ)):Hn t (QB id Q (.exit id) σ):=⟨by show (if id=id then _ else _);rw [if_pos rfl];exact h.pf⟩
theorem qb_y {id id':Nat}(hn:¬id'=id)(h:Hn t (Q (.exit id') σ)):Hn t (QB id Q (.exit id') σ):=⟨by show (if id'=id then _ else _);rw [if_neg hn];exact h.pf⟩
theorem qb_r {id:Nat}(h:Hn t (Q .ret σ)):Hn t (QB id Q .ret σ):=⟨h.pf⟩
section
variable {α ρ τ:Type} {S E:α→St} {k:Ctl ρ α→Option τ} {Q:τ→Exit→St→Prop} {id:Nat}
theorem qj_n {a:α}(h:Hn t (V3 β σ (S a))):Hn t (QJ β S (.brk a) k Q .normal σ):=⟨⟨a,rfl,h.pf⟩⟩
theorem qj_r {a:ρ}(h:∀ r,k (.ret a)=some r→Hn t (Q r .ret σ)):Hn t (QJ β S (.ret a) k Q .ret σ):=⟨fun r e=>(h r e).pf⟩
theorem qj_x {a:ρ}{id:Nat}(h:∀ r,k (.ret a)=some r→Hn t (Q r (.exit id) σ)):Hn t (QJ β S (.ret a) k Q (.exit id) σ):=⟨fun r e=>(h r e).pf⟩
theorem qf_n {a:α}(h:Hn t (V3 β σ (S a))):Hn t (QF β id S E (.go a) k Q .normal σ):=⟨⟨a,rfl,h.pf⟩⟩
theorem qf_b {a:α}(h:Hn t (V3 β σ (E a))):Hn t (QF β id S E (.brk a) k Q (.exit id) σ):=⟨by
 show (if id=id then _ else _)
 rw [if_pos rfl]
 exact ⟨a,rfl,h.pf⟩⟩
theorem qf_r {a:ρ}(h:∀ r,k (.ret a)=some r→Hn t (Q r .ret σ)):Hn t (QF β id S E (.ret a) k Q .ret σ):=⟨fun r e=>(h r e).pf⟩
theorem qf_x {a:ρ}{id':Nat}(hn:¬id'=id)(h:∀ r,k (.ret a)=some r→Hn t (Q r (.exit id') σ)):Hn t (QF β id S E (.ret a) k Q (.exit id') σ):=⟨by
 show (if id'=id then _ else _)
 rw [if_neg hn]
 exact fun r e=>(h r e).pf⟩
theorem jS {x y:Code}{id:Nat}(hid:lid x=id){X:Option (Ctl ρ α)}{v l:List Nat}{F:α→List (Nat×D)}{G:α→List (Nat×Option Loc)}{a:Hint}{b:α→Hint}(S:α→St)(hS:(fun z=>stR σ v l (F z) (G z))=S)
  (h1:∀ o,X=some o→Hn a (TrD P β x σ (QJ β S o k Q))) (h2:∀ z r,k (.brk z)=some r→Hn (b z) (TrD P β y (S z) (Q r))) :
  ∀ r,X.bind k=some r→Hn (.j id 0 v l F G a b) (TrD P β (.seq x y) σ (Q r)):=fun r h=>by
 obtain ⟨o,e,h⟩:=bindE h
 refine ⟨TrD.seq (TrD.mono (h1 o e).pf fun ex s hs=>?_)⟩
 cases ex with
 | normal=>
  obtain ⟨z,hz,hg⟩:=hs
  subst hz
  exact TrD.ghost hg (h2 z r h).pf
 | _=>exact hs r h
theorem jK {x y:Code}{id n:Nat}{v l:List Nat}{F:α→List (Nat×D)}{G:α→List (Nat×Option Loc)}{a:Hint}{b:α→Hint}{Q:Exit→St→Prop}(hid:lid x=id)(h:Hn (.j id n v l F G a b) (TrD P β x σ (QS P β y Q))):Hn (.j id (n+1) v l F G a b) (TrD P β (.seq x y) σ Q):=⟨(sqR h).pf⟩
theorem jE {x y:Code}{id:Nat}(hid:lid x=id){X:Option (Ctl ρ α)}{v l:List Nat}{F:α→List (Nat×D)}{G:α→List (Nat×Option Loc)}{a:Hint}{b:α→Hint}(S:α→St)(hS:(fun z=>stR σ v l (F z) (G z))=S)
  (h1:∀ o,X=some o→Hn a (TrD P β x σ (QJ β S o k Q))) (h2:∀ z r,k (.brk z)=some r→Hn (b z) (TrD P β y (S z) (Q r))) :
  ∀ r,X.bind k=some r→Hn (.e (.j id 0 v l F G a b)) (TrD P β (.seq x y) σ (Q r)):=fun r h=>⟨(jS hid S hS h1 h2 r h).pf⟩
theorem fL {γ:Type}{cd:Code}{f:Nat→γ→α→Option (Ctl ρ α)}{xs:List γ}{s0:α}{vE lE v l:List Nat}{F:Nat→α→List (Nat×D)}{G:Nat→α→List (Nat×Option Loc)}{a:Nat→α→Hint}{b:α→Hint}(hlim:xs.length≤Q0c)
  (E:α→St) (S:Nat→α→St) (h0:Hn .z (V3 β σ (S 0 s0)))
  (step:∀ (n:Nat) (x:γ) (s:α),idx xs (n:Int)=some x→inb (n:Int) xs.length→(∀ f:γ→List D,X04 (xs.map f) (n:Int)=f x)→xs[n]?=some x→n<xs.length→(∀ hi:n<xs.length,xs[n]=x)→ilt (n:Int) (lenZ xs.length)=true→wadd .i64 (n:Int) 1=((n+1:Nat):Int)→
   ∀ o,f n x s=some o→Hn (a n s) (TrD P β cd (S n s) (QF β id (S (n+1)) E o k Q)))
  (stop:∀ s,ilt (xs.length:Int) (lenZ xs.length)=false→Hn .z (TrD P β cd (S xs.length s) (QF β id (S 0) E (.brk s) k Q)))
  (rest:∀ z r,k (.brk z)=some r→Hn (b z) (Q r .normal (E z)))
  (hE:(fun z=>stR σ vE lE (F 0 z) (G 0 z))=E) (hS:(fun n z=>stR σ v l (F n z) (G n z))=S) (i:∀ r,Stab β (Q r)):∀ r,(forL f 0 xs s0).bind k=some r→Hn (.f vE lE v l F G a b) (TrD P β (.block id (.loop cd)) σ (Q r)):=fun r h=>by
 obtain ⟨out,e,h⟩:=bindE h
 refine ⟨(bkR (t:=.z) ⟨TrD.forL S e hlim h0.pf (fun n x s h1 h2 h3 h4 h5 o h6 h7 h8=>?_) fun s hs=>?_⟩).pf⟩
 ·refine (step n x s h1 (Z3u h1) (X4n h1) h2 h3 (elt h2) h4 h5 o h6).pf.mono fun ex s1 hx=>?_
  cases ex with
  | normal=>exact hx
  | exit id'=>
   simp only [QF] at hx
   simp only [QB]
   split at hx
   ·rename_i hid
    rw [if_pos hid]
    obtain ⟨z,hz,hg⟩:=hx
    have:=h8 z hz
    subst this
    exact (i r).pf _ _ hg (rest z r h).pf
   ·rename_i hid
    rw [if_neg hid]
    cases o with
    | ret a=>have:=h7 a rfl;subst this;exact hx r h
    | _=>exact hx.elim
  | _=>
   cases o with
   | ret a=>have:=h7 a rfl;subst this;exact hx r h
   | _=>exact hx.elim
 ·refine (stop s (W8b _)).pf.mono fun ex s1 hx=>?_
  subst hs
  cases ex with
  | normal=>obtain ⟨z,hz,_⟩:=hx;cases hz
  | exit id'=>
   simp only [QF] at hx
   simp only [QB]
   split at hx
   ·rename_i hid
    rw [if_pos hid]
    obtain ⟨z,hz,hg⟩:=hx
    cases hz
    exact (i r).pf _ _ hg (rest s r h).pf
   ·exact hx.elim
  | _=>exact hx.elim
theorem wL {cd:Code}{f:α→Option (Ctl ρ α)}{n:Nat}{s0:α}{vE lE v l:List Nat}{F:α→List (Nat×D)}{G:α→List (Nat×Option Loc)}{a:α→Hint}{b:α→Hint}
  (E:α→St) (S:α→St) (h0:Hn .z (V3 β σ (S s0)))
  (step:∀ (s:α) o,f s=some o→Hn (a s) (TrD P β cd (S s) (QF β id S E o k Q)))
  (rest:∀ z r,k (.brk z)=some r→Hn (b z) (Q r .normal (E z)))
  (hE:(fun z=>stR σ vE lE (F z) (G z))=E) (hS:(fun z=>stR σ v l (F z) (G z))=S) (i:∀ r,Stab β (Q r)):∀ r,(whileL f n s0).bind k=some r→Hn (.w vE lE v l F G a b) (TrD P β (.block id (.loop cd)) σ (Q r)):=fun r h=>by
 obtain ⟨out,e,h⟩:=bindE h
 refine ⟨(bkR (t:=.z) ⟨TrD.whileL S e h0.pf fun s o h6 h7 h8=>?_⟩).pf⟩
 refine (step s o h6).pf.mono fun ex s1 hx=>?_
 cases ex with
 | normal=>exact hx
 | exit id'=>
  simp only [QF] at hx
  simp only [QB]
  split at hx
  ·rename_i hid
   rw [if_pos hid]
   obtain ⟨z,hz,hg⟩:=hx
   have:=h8 z hz
   subst this
   exact (i r).pf _ _ hg (rest z r h).pf
  ·rename_i hid
   rw [if_neg hid]
   cases o with
   | ret a=>have:=h7 a rfl;subst this;exact hx r h
   | _=>exact hx.elim
 | _=>
  cases o with
  | ret a=>have:=h7 a rfl;subst this;exact hx r h
  | _=>exact hx.elim
end
class Shp (c:Code):Prop where
 t:True
instance {id:Nat}{cd:Code} : Shp (.block id (.loop cd)):=⟨trivial⟩
instance {id:Nat}{ops:Array Oper} : Shp (.region id ops true):=⟨trivial⟩
instance {id:Nat}{ops:Array Oper}{y:Code} : Shp (.seq (.region id ops true) y):=⟨trivial⟩
class ShR (c:Code):Prop where
 t:True
instance {id:Nat}{ops:Array Oper} : ShR (.region id ops false):=⟨trivial⟩
instance {id:Nat}{ops:Array Oper}{y:Code} : ShR (.seq (.region id ops false) y):=⟨trivial⟩
theorem gT {cd:Code} [Shp cd] {v l:List Nat}{F:List (Nat×D)}{G:List (Nat×Option Loc)}(S:St)(hS:stR σ v l F G=S)(hg:Hn .z (V3 β σ S))(h:Hn t (TrD P β cd S Q)):Hn (.g v l F G t) (TrD P β cd σ Q):=⟨TrD.ghost hg.pf h.pf⟩
theorem gTr {cd:Code} [ShR cd] {id:Nat}(hid:lid cd=id){v l:List Nat}{F:List (Nat×D)}{G:List (Nat×Option Loc)}(S:St)(hS:stR σ v l F G=S)(hg:Hn .z (V3 β σ S))(h:Hn t (TrD P β cd S Q)):Hn (.gr id v l F G t) (TrD P β cd σ Q):=⟨TrD.ghost hg.pf h.pf⟩
def frzS (σ:St)(q:Nat):St:={ σ with h:=updL σ.h q ((σ.h q).map fun L=>⟨L.sz,L.rows,L.rows.length * L.sz,L.el⟩) }
theorem W9g {q:Nat} : V3 β σ (frzS σ q):=by
 unfold frzS
 cases hq:σ.h q with
 | some L=>exact V3.raise q hq
 | none=>
  have e:updL σ.h q (Option.map (fun L:Loc=>(⟨L.sz,L.rows,L.rows.length * L.sz,L.el⟩:Loc)) none)=σ.h:=by
   funext j
   simp only [W3,Option.map_none]
   split
   ·rename_i hj;subst hj;exact hq.symm
   ·rfl
  rw [e]
  exact V3.refl
def ownS (σ:St)(s sz el:Nat):St:={ σ with t:=updD σ.t s (.sl sz σ.next 0),h:=updL σ.h σ.next (some ⟨sz,[],0,el⟩),next:=σ.next+1 }
def celL (j sz nm:Nat)(L:Loc):Option Loc:=match L.rows with
 | [row]=>if 0<L.sz then (match row[j]? with
  | some .nil=>some ⟨L.sz,[row.set j (.sl sz nm 0)],L.fz,L.el⟩
  | _=>none) else none
 | _=>none
def celS (σ:St)(q j sz el:Nat):St:=match (σ.h q).bind (celL j sz σ.next) with
 | some L'=>{ σ with h:=updL (updL σ.h q (some L')) σ.next (some ⟨sz,[],0,el⟩),next:=σ.next+1 }
 | none=>σ
theorem W16 {q j sz el:Nat} : V3 β σ (celS σ q j sz el):=by
 unfold celS
 split
 ·rename_i L' h
  obtain ⟨L,hL,h⟩:=Option.bind_eq_some_iff.1 h
  unfold celL at h
  split at h
  ·rename_i row hr
   split at h
   ·rename_i h0
    split at h
    ·rename_i hj
     cases h
     exact V3.ownNilCell q j sz el hL hr hj h0
    ·cases h
   ·cases h
  ·cases h
 ·exact V3.refl
def movS (σ:St)(s:Nat):St:=match σ.t s with
 | .sl sz q n=>match σ.h q with
  | some L=>{ σ with t:=updD σ.t s (.sl sz σ.next n),h:=updL (updL σ.h q none) σ.next (some L),next:=σ.next+1 }
  | none=>σ
 | _=>σ
theorem W7z {s:Nat} : V3 β σ (movS σ s):=by
 unfold movS
 split
 ·rename_i h1
  split
  ·rename_i h2;exact V3.move s h1 h2
  ·exact V3.refl
 ·exact V3.refl
theorem W0b {sz k n kb fz el:Nat}{L:Loc}(hb:σ.h kb=some ⟨1,[[.sl sz k n]],fz,el⟩)(hk:σ.h k=some L)(hkb:kb≠k) :
  V3 β σ { σ with h:=updL (updL (updL σ.h k none) kb (some ⟨1,[[.sl sz σ.next n]],fz,el⟩)) σ.next (some L),next:=σ.next+1 }:=fun a c H=>by
 obtain ⟨hn,hM⟩:=H.fresh σ.next (Nat.le_refl _)
 have hne:k≠σ.next:=fun e=>by subst e;rw [hk] at hn;cases hn
 have hnb:kb≠σ.next:=fun e=>by subst e;rw [hb] at hn;cases hn
 let c':Cx:=⟨fun q=>if q=σ.next then c.M k else c.M q,c.fr,c.w⟩
 have hx:c.Ext c':=⟨Nat.le_refl _,fun q x hq=>by
   show (if q=σ.next then c.M k else c.M q)=some x
   have:q≠σ.next:=fun e=>by subst e;rw [hM] at hq;cases hq
   rw [if_neg this];exact hq,fun _ _=>Nat.le_refl _,fun _ _ _ _=>rfl,fun _ cs _ f h=>⟨cs,f,h,rfl⟩⟩
 have hself:c'.M σ.next=c.M k:=by simp [c']
 have hoth:∀ q,q≠σ.next→c'.M q=c.M q:=fun q hq=>by simp [c',hq]
 have hrep:∀ v,Rep c (.sl sz k n) v→Rep c' (.sl sz σ.next n) v:=fun v hr=>by
  rcases Z0y hr with ⟨rfl,h1,a,hv⟩ | ⟨b,cap,cs,e,fz,hv,h1,h2,h3,h4⟩
  ·rw [hv];exact .sl0 _ _ a (hself.trans h1)
  ·rw [hv];exact .sl _ _ _ b cap cs e fz (hself.trans h1) h2 h3 h4
 refine ⟨c',rfl,⟨H.heap.ext.trans hx,H.heap.os,H.heap.tape,H.heap.output,H.heap.size,H.heap.old,fun q L' hq=>?_,fun q q' b h1 h2 e1 e2=>?_,fun q b h1 e1=>?_⟩,H.size,H.defers,fun i=>(H.slots i).mono hx,fun q hq=>?_⟩
 ·simp only [W3] at hq
  split at hq
  ·rename_i hqn
   cases hq
   subst hqn
   cases H.heap.locs k _ hk with
   | nil hM0 hr hf=>exact .nil (hself.trans hM0) hr hf
   | map b clock es hM0 hb hfr hsz hfz hlen hrow=>exact .map b clock es (hself.trans hM0) hb hfr hsz hfz hlen fun i row e hi he=>(hrow i row e hi he).imp fun dk h=>h.imp fun dv h=>⟨h.1,h.2.1.mono hx,h.2.2.mono hx⟩
   | own b cs f hM0 hb hfr hlen hfz hlim hrow hcell hpos=>exact .own (hpos:=hpos) b cs f (hself.trans hM0) hb hfr hlen hfz hlim hrow fun i j row d hi hj=>⟨(hcell i j row d hi hj).1,(hcell i j row d hi hj).2.1.mono hx,(hcell i j row d hi hj).2.2⟩
  ·split at hq
   ·rename_i hqb
    cases hq
    subst hqb
    cases H.heap.locs q _ hb with
    | nil hM0 hr hf=>cases hr
    | map b clock es hM0 hb hfr hsz hfz hlen hrow=>cases hsz
    | own b cs f hM0 hb hfr hlen hfz hlim hrow hcell hpos=>
     refine .own (hpos:=hpos) b cs f ((hoth q hnb).trans hM0) hb hfr hlen hfz hlim (fun row h=>by
      simp only [List.mem_singleton] at h
      rw [h];rfl) fun i j row d hi hj=>?_
     cases i with
     | succ i=>simp at hi
     | zero=>
      simp only [List.getElem?_cons_zero,Option.some.injEq] at hi
      subst hi
      cases j with
      | succ j=>simp at hj
      | zero=>
       simp only [List.getElem?_cons_zero,Option.some.injEq] at hj
       subst hj
       obtain ⟨g1,g2,g3⟩:=hcell 0 0 _ _ rfl rfl
       exact ⟨g1,hrep _ g2,g3⟩
   ·split at hq
    ·cases hq
    ·exact (H.heap.locs q L' hq).mono hx fun b _=>⟨rfl,rfl⟩
 ·have nm:∀ q,(updL (updL (updL σ.h k none) kb (some ⟨1,[[.sl sz σ.next n]],fz,el⟩)) σ.next (some L) q).isSome=true→∃ p,(σ.h p).isSome=true∧c'.M q=c.M p∧(q=σ.next∧p=k∨q≠σ.next∧q≠k∧p=q):=fun q hq=>by
   by_cases g1:q=σ.next
   ·exact ⟨k,by simp [hk],by rw [g1];exact hself,.inl ⟨g1,rfl⟩⟩
   ·by_cases g2:q=k
    ·have g3:¬q=kb:=fun e=>hkb (e.symm.trans g2)
     simp [g1,g2,g3,Ne.symm hkb,hne] at hq
    ·by_cases g3:q=kb
     ·exact ⟨q,by rw [g3,hb];rfl,hoth q g1,.inr ⟨g1,g2,rfl⟩⟩
     ·exact ⟨q,by simpa [g1,g2,g3] using hq,hoth q g1,.inr ⟨g1,g2,rfl⟩⟩
  obtain ⟨p1,s1,m1,w1⟩:=nm q h1
  obtain ⟨p2,s2,m2,w2⟩:=nm q' h2
  rw [m1] at e1
  rw [m2] at e2
  have:=H.heap.inj p1 p2 b s1 s2 e1 e2
  subst this
  rcases w1 with ⟨rfl,rfl⟩ | ⟨a1,a2,rfl⟩<;>rcases w2 with ⟨rfl,b3⟩ | ⟨b1,b2,b3⟩
  ·rfl
  ·exact absurd b3.symm b2
  ·exact absurd b3 a2
  ·exact b3
 ·by_cases h2:q=σ.next
  ·subst h2
   rw [hself] at e1
   exact H.heap.mine k b (by simp [hk]) e1
  ·rw [hoth q h2] at e1
   refine H.heap.mine q b ?_ e1
   by_cases h3:q=k
   ·have g3:¬q=kb:=fun e=>hkb (e.symm.trans h3)
    simp [h2,h3,g3,Ne.symm hkb,hne] at h1
   ·by_cases h4:q=kb
    ·rw [h4,hb];rfl
    ·simpa [h2,h3,h4] using h1
 ·have hq':σ.next+1≤q:=hq
  obtain ⟨h1,h2⟩:=H.fresh q (by omega)
  have n1:q≠σ.next:=by omega
  refine ⟨?_,by rw [hoth q n1];exact h2⟩
  have n2:q≠kb:=fun e=>by subst e;rw [hb] at h1;cases h1
  simp only [W3,n1,n2,if_false]
  split
  ·rfl
  ·exact h1
def movB (σ:St)(kb:Nat):St:=match σ.h kb with
 | some ⟨1,[[.sl sz k n]],fz,el⟩=>match σ.h k with
  | some L=>if kb=k then σ else { σ with h:=updL (updL (updL σ.h k none) kb (some ⟨1,[[.sl sz σ.next n]],fz,el⟩)) σ.next (some L),next:=σ.next+1 }
  | none=>σ
 | _=>σ
theorem W80 {kb:Nat} : V3 β σ (movB σ kb):=by
 unfold movB
 split
 ·rename_i h1
  split
  ·rename_i h2
   split
   ·exact V3.refl
   ·rename_i h3;exact W0b h1 h2 h3
  ·exact V3.refl
 ·exact V3.refl
def shrS (σ:St)(q:Nat)(rows:List (List D)):St:={ σ with h:=updL σ.h q ((σ.h q).map fun L=>⟨L.sz,rows,L.fz,L.el⟩) }
theorem W73 {q n:Nat}{rows:List (List D)}(h:∃ L,σ.h q=some L∧rows=L.rows.take n∧L.fz≤n * L.sz∧0<L.sz):V3 β σ (shrS σ q rows):=by
 obtain ⟨L,h1,h2,h3,h4⟩:=h
 have:=V3.shrink (β:=β) q n h1 h2 h3 h4
 unfold shrS
 rw [h1]
 exact this
theorem pS_t {cd:Code} [Shp cd] {q:Nat}{n:Int}{α:Type}{r:α→List D}{xs:List α}(S:St)(hok:∃ L,σ.h q=some L∧List.map r xs=L.rows.take n.toNat∧L.fz≤n.toNat * L.sz∧0<L.sz)(hS:shrS σ q (List.map r xs)=S)(h:Hn t (TrD P β cd S Q)):Hn (.pS q n r xs t) (TrD P β cd σ Q):=⟨TrD.ghost (hS▸W73 hok) h.pf⟩
theorem pS_g {q:Nat}{n:Int}{α:Type}{r:α→List D}{xs:List α}{S0:St}(S:St)(hok:∃ L,σ.h q=some L∧List.map r xs=L.rows.take n.toNat∧L.fz≤n.toNat * L.sz∧0<L.sz)(hS:shrS σ q (List.map r xs)=S)(h:Hn t (V3 β S S0)):Hn (.pS q n r xs t) (V3 β σ S0):=⟨V3.trans (hS▸W73 hok) h.pf⟩
theorem pF_t {cd:Code} [Shp cd] {q:Nat}(S:St)(hS:frzS σ q=S)(h:Hn t (TrD P β cd S Q)):Hn (.pF q t) (TrD P β cd σ Q):=⟨TrD.ghost (hS▸W9g) h.pf⟩
theorem pF_g {q:Nat}{S0:St}(S:St)(hS:frzS σ q=S)(h:Hn t (V3 β S S0)):Hn (.pF q t) (V3 β σ S0):=⟨V3.trans (hS▸W9g) h.pf⟩
theorem pN_t {cd:Code} [Shp cd] {s sz el:Nat}(S:St)(hs:σ.t s=.nil)(hS:ownS σ s sz el=S)(h:Hn t (TrD P β cd S Q)):Hn (.pN s sz el t) (TrD P β cd σ Q):=⟨TrD.ghost (hS▸V3.ownNil hs sz el) h.pf⟩
theorem pN_g {s sz el:Nat}{S0:St}(S:St)(hs:σ.t s=.nil)(hS:ownS σ s sz el=S)(h:Hn t (V3 β S S0)):Hn (.pN s sz el t) (V3 β σ S0):=⟨V3.trans (hS▸V3.ownNil hs sz el) h.pf⟩
theorem pC_t {cd:Code} [Shp cd] {q j sz el:Nat}(S:St)(hS:celS σ q j sz el=S)(h:Hn t (TrD P β cd S Q)):Hn (.pC q j sz el t) (TrD P β cd σ Q):=⟨TrD.ghost (hS▸W16) h.pf⟩
theorem pC_g {q j sz el:Nat}{S0:St}(S:St)(hS:celS σ q j sz el=S)(h:Hn t (V3 β S S0)):Hn (.pC q j sz el t) (V3 β σ S0):=⟨V3.trans (hS▸W16) h.pf⟩
theorem pC_r {cd:Code} [ShR cd] {id:Nat}(hid:lid cd=id){q j sz el:Nat}(S:St)(hS:celS σ q j sz el=S)(h:Hn t (TrD P β cd S Q)):Hn (.pcr id q j sz el t) (TrD P β cd σ Q):=⟨TrD.ghost (hS▸W16) h.pf⟩
theorem pB_t {cd:Code} [Shp cd] {k:Nat}(S:St)(hS:movB σ k=S)(h:Hn t (TrD P β cd S Q)):Hn (.pB k t) (TrD P β cd σ Q):=⟨TrD.ghost (hS▸W80) h.pf⟩
theorem pB_g {k:Nat}{S0:St}(S:St)(hS:movB σ k=S)(h:Hn t (V3 β S S0)):Hn (.pB k t) (V3 β σ S0):=⟨V3.trans (hS▸W80) h.pf⟩
theorem pM_g {s:Nat}{S0:St}(S:St)(hS:movS σ s=S)(h:Hn t (V3 β S S0)):Hn (.pM s t) (V3 β σ S0):=⟨V3.trans (hS▸W7z) h.pf⟩
def LimG (d:D)(G:Prop):Prop:=match d with
 | .slice _ rows=>rows.length≤Q0c→G
 | _=>False
theorem Y3d {sz:Nat}{γ:Type}{r:γ→List D}{xs:List γ}{G:Prop}(h:xs.length≤Q0c→G):LimG (.slice sz (List.map r xs)) G:=fun hl=>h (by simpa using hl)
def LimL (o:Option Loc)(G:Prop):Prop:=match o with
 | some L=>0<L.sz∧(L.rows.length≤Q0c→G)
 | none=>False
theorem Y3c {sz fz el:Nat}{γ:Type}{r:γ→List D}{xs:List γ}{G:Prop}(h0:0<sz)(h:xs.length≤Q0c→G):LimL (some ⟨sz,List.map r xs,fz,el⟩) G:=⟨h0,fun hl=>h (by simpa using hl)⟩
theorem lS {cd:Code} [Shp cd] {s:Nat}(h:LimG (σ.t s) (Hn t (TrD P β cd σ Q))):Hn (.ls s t) (TrD P β cd σ Q):=by
 generalize hd:σ.t s=d at h
 cases d<;>first | exact h.elim | exact ⟨TrD.limS (X6l s hd) fun hl=>(h hl).pf⟩
theorem lE {cd:Code} [Shp cd] {s j sz sz0:Nat}{γ δ:Type}{r0:δ→List D}{xs0:List δ}{x:δ}{i:Int}{r:γ→List D}{xs:List γ}(h0:σ.t s=.slice sz0 (List.map r0 xs0))(hx:idx xs0 i=some x)(hj:(r0 x)[j]?=some (.slice sz (List.map r xs)))(h:xs.length≤Q0c→Hn t (TrD P β cd σ Q)):Hn (.le s j sz r xs x t) (TrD P β cd σ Q):=
 ⟨TrD.limS (W76 (X6l s h0) hx j rfl hj) fun hl=>(h (by simpa using hl)).pf⟩
theorem lC {cd:Code} [Shp cd] {q j sz:Nat}{γ:Type}{r:γ→List D}{xs:List γ}(h1:(((σ.h q).bind fun L=>L.rows[0]?).bind fun row=>row[j]?)=some (.slice sz (List.map r xs)))(h:xs.length≤Q0c→Hn t (TrD P β cd σ Q)):Hn (.lc q j sz r xs t) (TrD P β cd σ Q):=by
 obtain ⟨row,e1,e3⟩:=Option.bind_eq_some_iff.1 h1
 obtain ⟨L,e1,e2⟩:=Option.bind_eq_some_iff.1 e1
 exact ⟨TrD.limS (W77 q 0 j e1 e2 e3) fun hl=>(h (by simpa using hl)).pf⟩
theorem lL {cd:Code} [Shp cd] {q:Nat}(h:LimL (σ.h q) (Hn t (TrD P β cd σ Q))):Hn (.ll q t) (TrD P β cd σ Q):=by
 generalize hd:σ.h q=o at h
 cases o with
 | none=>exact h.elim
 | some L=>exact ⟨TrD.limL q hd h.1 fun hl=>(h.2 hl).pf⟩
def nmD:D→Option Nat
 | .ptr _ k _ _=>some k
 | .sl _ k _=>some k
 | .mp k=>some k
 | _=>none
inductive FndR (t:Nat→D):List (Nat×D)→Nat→Nat→Prop
 | p {s sz sz' q k i j i' j':Nat} {r:List (Nat×D)} (h:t s=.ptr sz k i j):FndR t ((s,.ptr sz' q i' j')::r) q k
 | s {s sz sz' q k n n':Nat} {r:List (Nat×D)} (h:t s=.sl sz k n):FndR t ((s,.sl sz' q n')::r) q k
 | m {s q k:Nat} {r:List (Nat×D)} (h:t s=.mp k):FndR t ((s,.mp q)::r) q k
 | t {x:Nat×D} {q k:Nat} {r:List (Nat×D)} (h:FndR t r q k):FndR t (x::r) q k
inductive FndC:List D→List D→Nat→Nat→Prop
 | s {sz sz' q k n n':Nat} {r r':List D} : FndC (.sl sz k n::r) (.sl sz' q n'::r') q k
 | t {d d':D} {q k:Nat} {r r':List D} (h:FndC r r' q k):FndC (d::r) (d'::r') q k
inductive FndB (h:Nat→Option Loc) (Hs:List (Option Loc)):List (Nat×Nat)→Nat→Nat→Prop
 | h {j q' q k:Nat} {L L':Loc} {r r':List D} {w w':List (List D)} {ac:List (Nat×Nat)} (h1:Hs[j]?=some (some L')) (h2:h q'=some L) (h3:L'.rows=r'::w') (h4:L.rows=r::w) (hc:FndC r r' q k):FndB h Hs ((j,q')::ac) q k
 | t {x:Nat×Nat} {q k:Nat} {ac:List (Nat×Nat)} (h1:FndB h Hs ac q k):FndB h Hs (x::ac) q k
inductive InfR (t:Nat→D) (h:Nat→Option Loc) (sl:List (Nat×D)) (Hs:List (Option Loc)) (m:Nat):Nat→List (Nat×Nat)→List (Option Loc)→List Nat→Prop
 | n {i:Nat} {ac:List (Nat×Nat)} : InfR t h sl Hs m i ac [] []
 | l {i:Nat} {ac:List (Nat×Nat)} {x:Option Loc} {r:List (Option Loc)} {l:List Nat} (h1:i<m) (hr:InfR t h sl Hs m (i+1) ((i,i)::ac) r l):InfR t h sl Hs m i ac (x::r) (i::l)
 | h {i k:Nat} {ac:List (Nat×Nat)} {x:Option Loc} {r:List (Option Loc)} {l:List Nat} (h1:FndR t sl i k) (hr:InfR t h sl Hs m (i+1) ((i,k)::ac) r l):InfR t h sl Hs m i ac (x::r) (k::l)
 | b {i k:Nat} {ac:List (Nat×Nat)} {x:Option Loc} {r:List (Option Loc)} {l:List Nat} (h1:FndB h Hs ac i k) (hr:InfR t h sl Hs m (i+1) ((i,k)::ac) r l):InfR t h sl Hs m i ac (x::r) (k::l)
 | c {i k q':Nat} {ac:List (Nat×Nat)} {x:Option Loc} {r:List (Option Loc)} {l:List Nat} {L L':Loc} {w w':List D} {ws ws':List (List D)} (h0:FndR t sl (i+1) q') (h1:Hs[i+1]?=some (some L')) (h2:h q'=some L) (h3:L'.rows=w'::ws') (h4:L.rows=w::ws) (hc:FndC w w' i k) (hr:InfR t h sl Hs m (i+1) ((i,k)::ac) r l):InfR t h sl Hs m i ac (x::r) (k::l)
def TG (σ:St)(l:List Nat)(sl:List (Nat×D)):Prop:=∀ i,RenV σ (fun k=>l[k]?) (σ.t i) (lk sl i)
theorem TG.z {l:List Nat} : TG σ l []:=W6r _
theorem TG.u {l:List Nat}{s:Nat}{d:D}{r:List (Nat×D)}(h:TG σ l r)(h1:RenV σ (fun k=>l[k]?) (σ.t s) d):TG σ l ((s,d)::r):=Z83 h1 h
theorem TG.a {l:List Nat}{s:Nat}{r:List (Nat×D)}(h:TG σ l r):TG σ l ((s,.any)::r):=h.u (.ren _ _ (.any _))
theorem TG.q {l:List Nat}{s sz k' i j:Nat}{r:List (Nat×D)}(h:TG σ l r)(h1:σ.t s=.ptr sz (l.getD k' 0) i j)(h2:k'<l.length):TG σ l ((s,.ptr sz k' i j)::r):=h.u (by rw [h1];exact V25 (Q8m h2))
theorem TG.r {l:List Nat}{s sz k' n:Nat}{r:List (Nat×D)}(h:TG σ l r)(h1:σ.t s=.sl sz (l.getD k' 0) n)(h2:k'<l.length):TG σ l ((s,.sl sz k' n)::r):=h.u (by rw [h1];exact v_sl (Q8m h2))
theorem TG.n {l:List Nat}{s k':Nat}{r:List (Nat×D)}(h:TG σ l r)(h1:σ.t s=.mp (l.getD k' 0))(h2:k'<l.length):TG σ l ((s,.mp k')::r):=h.u (by rw [h1];exact v_mp (Q8m h2))
theorem TG.f {l:List Nat}{s:Nat}{d:D}{r:List (Nat×D)}(h:TG σ l r)(h1:σ.t s=d)(h2:Free d):TG σ l ((s,d)::r):=h.u (by rw [h1];exact Z4w h2 (le_refl d))
theorem TG.d {l:List Nat}{s:Nat}{d:D}{r:List (Nat×D)}(h:TG σ l r)(h1:Free (σ.t s))(h2:(σ.t s).le d):TG σ l ((s,d)::r):=h.u (Z4w h1 h2)
def FzOk (σ:St)(rows':List (List D))(sz':Nat):D→Prop
 | .sl sz q n=>match σ.h q with
  | some L=>sz=sz'∧L.sz=sz∧L.rows.length=n∧L.fz=L.rows.length * L.sz∧L.rows=rows'
  | none=>False
 | _=>False
theorem TG.v {l:List Nat}{s sz:Nat}{rows':List (List D)}{r:List (Nat×D)}(h:TG σ l r)(h1:FzOk σ rows' sz (σ.t s))(h2:∀ row∈rows',∀ d∈row,Free d):TG σ l ((s,.slice sz rows')::r):=h.u (by
 generalize σ.t s=d at h1
 cases d<;>simp only [FzOk] at h1
 split at h1
 ·rename_i L hL
  obtain ⟨rfl,e1,e2,e3,rfl⟩:=h1
  exact Z4q hL e1 e2 e3 (Q4c rfl h2)
 ·exact h1.elim)
theorem lF {l:List Nat}{q:Nat}{L':Loc}(h1:σ.h q=some L')(h2:FrS L'.rows):LocV σ l q (some L'):=lv h1 rfl rfl rfl (Q4c rfl h2)
def c0Ok (σ:St)(d d':D):Prop:=match d with
 | .sl sz k n=>match d' with
  | .slice sz' rows'=>match σ.h k with
   | some L=>sz=sz'∧L.sz=sz∧L.rows.length=n∧L.fz=L.rows.length * L.sz∧L.rows=rows'∧FrS L.rows
   | none=>False
  | _=>False
 | d=>Free d∧d.le d'
theorem V98 {ρ:Nat→Option Nat}{d d':D}(h:c0Ok σ d d'):RenV σ ρ d d':=by
 unfold c0Ok at h
 split at h
 ·split at h
  ·split at h
   ·rename_i L hL
    obtain ⟨rfl,e1,e2,e3,rfl,e4⟩:=h
    exact Z4q hL e1 e2 e3 (Q4c rfl e4)
   ·exact h.elim
  ·exact h.elim
 ·exact Z4w h.1 h.2
theorem Y4y {ρ:Nat→Option Nat} : ∀ {ds ds':List D},All2 (c0Ok σ) ds ds'→All2 (RenV σ ρ) ds ds'
 | [],_,h=>by cases h;exact .nil
 | _::_,_,h=>by cases h with | cons h t=>exact .cons (V98 h) (Y4y t)
theorem Y4z {ρ:Nat→Option Nat} : ∀ {rows rows':List (List D)},All2 (All2 (c0Ok σ)) rows rows'→Z1x σ ρ rows rows'
 | [],_,h=>by cases h;exact Z5s
 | _::_,_,h=>by cases h with | cons h t=>exact Z3b (Y4y h) (Y4z t)
def R1Ok (σ:St)(rows rows':List (List D)):Prop:=∃ A r r',rows=A++[r]∧rows'=A++[r']∧FrS A∧All2 (c0Ok σ) r r'
@[simp] theorem Y36 {A:List (List D)} {r r':List D} : R1Ok σ (A++[r]) (A++[r'])↔FrS A∧All2 (c0Ok σ) r r':=⟨fun ⟨A',q,q',e1,e2,h1,h2⟩=>by
 obtain ⟨rfl,e3⟩:=List.append_inj' e1 rfl
 obtain ⟨_,e4⟩:=List.append_inj' e2 rfl
 cases e3;cases e4
 exact ⟨h1,h2⟩,fun h=>⟨A,r,r',rfl,rfl,h.1,h.2⟩⟩
@[simp] theorem r1_one {r r':List D} : R1Ok σ [r] [r']↔All2 (c0Ok σ) r r':=by
 have:=Y36 (σ:=σ) (A:=[]) (r:=r) (r':=r')
 simpa using this
theorem Y81 {ρ:Nat→Option Nat}{rows rows':List (List D)}(h:R1Ok σ rows rows'):Z1x σ ρ rows rows':=by
 obtain ⟨A,r,r',rfl,rfl,h1,h2⟩:=h
 exact X37 (Q4c rfl h1) (Y4z (.cons h2 .nil))
def cpOk (σ:St)(d d':D):Prop:=match d with
 | .ptr sz k i j=>match d' with
  | .cptr row'=>match σ.h k with
   | some L=>i=0∧j=0∧L.sz=sz∧L.fz=L.rows.length * L.sz∧L.rows=[row']∧∀ d∈row',Free d
   | none=>False
  | _=>False
 | d=>Free d∧d.le d'
theorem V8u {ρ:Nat→Option Nat}{d d':D}(h:cpOk σ d d'):RenV σ ρ d d':=by
 unfold cpOk at h
 split at h
 ·split at h
  ·split at h
   ·rename_i L hL
    obtain ⟨rfl,rfl,e1,e2,e3,e4⟩:=h
    exact V5f hL e1 e3 (by rw [e2,e3];simp) (X21 e4)
   ·exact h.elim
  ·exact h.elim
 ·exact Z4w h.1 h.2
theorem Y45 {ρ:Nat→Option Nat} : ∀ {ds ds':List D},All2 (cpOk σ) ds ds'→All2 (RenV σ ρ) ds ds'
 | [],_,h=>by cases h;exact .nil
 | _::_,_,h=>by cases h with | cons h t=>exact .cons (V8u h) (Y45 t)
def cOk (σ:St)(l:List Nat)(d d':D):Prop:=match d' with
 | .any=>True
 | _=>match d with
  | .ptr sz k i j=>match d' with
   | .ptr sz' k' i' j'=>sz=sz'∧i=i'∧j=j'∧l[k']?=some k
   | .cptr row'=>match σ.h k with
    | some L=>i=0∧j=0∧L.sz=sz∧L.fz=L.rows.length * L.sz∧L.rows=[row']∧∀ d∈row',Free d
    | none=>False
   | _=>False
  | .sl sz k n=>match d' with
   | .sl sz' k' n'=>sz=sz'∧n=n'∧l[k']?=some k
   | .slice sz' rows'=>match σ.h k with
    | some L=>sz=sz'∧L.sz=sz∧L.rows.length=n∧L.fz=L.rows.length * L.sz∧((L.rows=rows'∧FrS L.rows)∨R1Ok σ L.rows rows')
    | none=>False
   | _=>False
  | .mp k=>match d' with
   | .mp k'=>l[k']?=some k
   | _=>False
  | .clos f ds=>match d' with
   | .clos f' ds'=>f=f'∧All2 (cpOk σ) ds ds'
   | _=>False
  | d=>Free d∧d.le d'
theorem V6r {l:List Nat}{d d':D}(h:cOk σ l d d'):RenV σ (fun k=>l[k]?) d d':=by
 unfold cOk at h
 split at h
 ·exact .ren _ _ (.any _)
 ·split at h
  ·split at h
   ·obtain ⟨rfl,rfl,rfl,h⟩:=h;exact V25 h
   ·split at h
    ·rename_i L hL
     obtain ⟨rfl,rfl,e1,e2,e3,e4⟩:=h
     exact V5f hL e1 e3 (by rw [e2,e3];simp) (X21 e4)
    ·exact h.elim
   ·exact h.elim
  ·split at h
   ·obtain ⟨rfl,rfl,h⟩:=h;exact v_sl h
   ·split at h
    ·rename_i L hL
     obtain ⟨rfl,e1,e2,e3,e4⟩:=h
     rcases e4 with ⟨rfl,e4⟩ | e4
     ·exact Z4q hL e1 e2 e3 (Q4c rfl e4)
     ·exact Z4q hL e1 e2 e3 (Y81 e4)
    ·exact h.elim
   ·exact h.elim
  ·split at h
   ·exact v_mp h
   ·exact h.elim
  ·split at h
   ·obtain ⟨rfl,h⟩:=h;exact Y09 (Y45 h)
   ·exact h.elim
  ·exact Z4w h.1 h.2
theorem cOks {l:List Nat} : ∀ {ds ds':List D},All2 (cOk σ l) ds ds'→All2 (RenV σ (fun k=>l[k]?)) ds ds'
 | [],_,h=>by cases h;exact .nil
 | _::_,_,h=>by cases h with | cons h t=>exact .cons (V6r h) (cOks t)
theorem cOkr {l:List Nat} : ∀ {rows rows':List (List D)},All2 (All2 (cOk σ l)) rows rows'→Z1x σ (fun k=>l[k]?) rows rows'
 | [],_,h=>by cases h;exact Z5s
 | _::_,_,h=>by cases h with | cons h t=>exact Z3b (cOks h) (cOkr t)
def LcOk (σ:St)(l:List Nat)(L':Loc):Option Loc→Prop
 | some L=>L'.sz=L.sz∧L'.el=L.el∧L'.fz=L.fz∧All2 (All2 (cOk σ l)) L.rows L'.rows
 | none=>False
theorem lG {l:List Nat}{q:Nat}{L':Loc}(h:LcOk σ l L' (σ.h q)):LocV σ l q (some L'):=by
 generalize hq:σ.h q=o at h
 cases o with
 | none=>exact h.elim
 | some L=>exact lv hq h.1 h.2.1 h.2.2.1 (cOkr h.2.2.2)
theorem lA {l:List Nat}{q:Nat}{L L':Loc}{A:List (List D)}{r r':List D}(h1:σ.h q=some L)(e:L.rows=A++[r])(hz:L'.sz=L.sz∧L'.el=L.el∧L'.fz=L.fz)(e':L'.rows=A++[r'])(hr:All2 (cOk σ l) r r')(hA:FrS A):LocV σ l q (some L'):=by
 refine lv h1 hz.1 hz.2.1 hz.2.2 ?_
 rw [e,e']
 exact X37 (Q4c rfl hA) (cOkr (.cons hr .nil))
theorem lH {l:List Nat}{q:Nat}{L L':Loc}{A:List (List D)}{r r':List D}(h1:σ.h q=some L)(e:L.rows=r::A)(hz:L'.sz=L.sz∧L'.el=L.el∧L'.fz=L.fz)(e':L'.rows=r'::A)(hr:All2 (cOk σ l) r r')(hA:FrS A):LocV σ l q (some L'):=by
 refine lv h1 hz.1 hz.2.1 hz.2.2 ?_
 rw [e,e']
 exact Z3b (cOks hr) (Q4c rfl hA)
theorem lU {l:List Nat}{q:Nat}{L L':Loc}{α:Type}{r:α→List D}{xs ys:List α}{i:Nat}{x:α}{row:List D}(h1:σ.h q=some L)(e:L.rows=(List.map r xs).set i row)(hz:L'.sz=L.sz∧L'.el=L.el∧L'.fz=L.fz)(e':L'.rows=List.map r ys)(hy:Sl (ys=xs.set i x))(hr:All2 (cOk σ l) row (r x))(hf:FrS (List.map r xs)):LocV σ l q (some L'):=by
 refine lv h1 hz.1 hz.2.1 hz.2.2 ?_
 rw [e,e']
 exact Y2x hy hf rfl (cOks hr)
def AgOk (σ:St)(l:List Nat)(ds':List D):D→Prop
 | .agg ds=>All2 (cOk σ l) ds ds'
 | _=>False
theorem TG.g {l:List Nat}{s:Nat}{ds':List D}{r:List (Nat×D)}(h:TG σ l r)(h1:AgOk σ l ds' (σ.t s)):TG σ l ((s,.agg ds')::r):=h.u (by
 generalize σ.t s=d at h1
 cases d
 case agg ds=>exact Y5x (cOks h1)
 all_goals exact h1.elim)
theorem TG.w {l:List Nat}{s:Nat}{d':D}{r:List (Nat×D)}(h:TG σ l r)(h1:cOk σ l (σ.t s) d'):TG σ l ((s,d')::r):=h.u (V6r h1)
theorem gHn {S:St}(h:V3 β σ S):Hn .z (V3 β σ S):=⟨h⟩
theorem gL {m n:Nat}{sl:List (Nat×D)}{Hs:List (Option Loc)}(hβ:Sl (∀ k x,β.c0.M k=some x→k<m))(l:List Nat)(hl0:InfR σ.t σ.h sl Hs m 0 [] Hs l)(hm:(List.range m).all (fun k=>l[k]?==some k)=true)(ht:TG σ l sl)(hh:All2 (LocV σ l) l Hs)(hl:l.Nodup)(hn:l.length=n):V3 β σ ⟨lk sl,hOfO Hs,n,σ.n⟩:=by
 subst hn
 exact V3.canonV m l Hs (lk sl) hβ (Z4j hm) hl ht hh
theorem eD {T:Ty}{res:List ResultVar}{Q:D→Prop}(h:resD T σ res (EndD Q σ)):Hn t (W1b T β res Q .ret σ):=⟨V6k V3.refl h⟩
def Z79:D→List D
 | .agg ds=>ds
 | d=>[d]
def slX:List ResultVar→List D→Nat→List (Nat×D)
 | .tmp s::rs,x::xs,n=>(s,x)::slX rs xs n
 | .cell s _::rs,x::xs,n=>(s,.ptr (Z79 x).length n 0 0)::slX rs xs (n+1)
 | _,_,_=>[]
def lcX:List ResultVar→List D→List (Option Loc)
 | .cell _ el::rs,x::xs=>some ⟨(Z79 x).length,[Z79 x],0,el⟩::lcX rs xs
 | _::rs,_::xs=>lcX rs xs
 | _,_=>[]
theorem eH1 {T:Ty}{m:Nat}{res:List ResultVar}{Hs:List (Option Loc)}{x:D}(S:St)(hS:(⟨lk (slX res [x] Hs.length),hOfO (Hs++lcX res [x]),(Hs++lcX res [x]).length,σ.n⟩:St)=S)(hg:Hn t (V3 β σ S))(h:resD T S res (EndH m (fun H d=>H=Hs∧d=x) S)):Hn t (X8i T β m res (fun H d=>H=Hs∧d=x) .ret σ):=⟨⟨S,hg.pf,h⟩⟩
theorem eHt {T:Ty}{m:Nat}{res:List ResultVar}{Hs:List (Option Loc)}{xs:List D}(S:St)(hS:(⟨lk (slX res xs Hs.length),hOfO (Hs++lcX res xs),(Hs++lcX res xs).length,σ.n⟩:St)=S)(hg:Hn t (V3 β σ S))(h:resD T S res (EndH m (fun H d=>H=Hs∧d=.tup xs) S)):Hn t (X8i T β m res (fun H d=>H=Hs∧d=.tup xs) .ret σ):=⟨⟨S,hg.pf,h⟩⟩
theorem xDn {T:Ty}{res:List ResultVar}{Q:D→Prop}(h:Hn t (W1b T β res Q .ret σ)):Hn t (W1b T β res Q .normal σ):=⟨h.pf⟩
theorem xHn {T:Ty}{m:Nat}{res:List ResultVar}{Q:List (Option Loc)→D→Prop}(h:Hn t (X8i T β m res Q .ret σ)):Hn t (X8i T β m res Q .normal σ):=⟨h.pf⟩
structure VwR where
 ok:Prop
 d:D
 h:Nat→Option Loc
def vw0 (h:Nat→Option Loc):D→VwR
 | .sl sz k n=>match h k with
  | some L=>⟨L.sz=sz∧L.rows.length=n∧FrS L.rows,.slice sz L.rows,updL h k (some ⟨L.sz,L.rows,L.rows.length * L.sz,L.el⟩)⟩
  | none=>⟨False,.any,h⟩
 | .ptr sz k i j=>match h k with
  | some L=>match L.rows[i]? with
   | some row=>⟨L.sz=sz∧∀ d∈row,Free d,.cptr (row.drop j),updL h k (some ⟨L.sz,L.rows,L.rows.length * L.sz,L.el⟩)⟩
   | none=>⟨False,.any,h⟩
  | none=>⟨False,.any,h⟩
 | d=>⟨True,d,h⟩
theorem X61 {h:Nat→Option Loc}{d:D}(hk:(vw0 h d).ok):View h d (vw0 h d).d (vw0 h d).h:=by
 cases d
 case sl sz k n=>
  simp only [vw0] at hk ⊢
  cases e:h k with
  | none=>rw [e] at hk;exact hk.elim
  | some L=>rw [e] at hk;exact .sl h sz k n L e hk.1 hk.2.1 hk.2.2
 case ptr sz k i j=>
  simp only [vw0] at hk ⊢
  cases e:h k with
  | none=>rw [e] at hk;exact hk.elim
  | some L=>
   rw [e] at hk
   simp only at hk ⊢
   cases e2:L.rows[i]? with
   | none=>rw [e2] at hk;exact hk.elim
   | some row=>rw [e2] at hk;exact .ptr h sz k i j L row e hk.1 e2 hk.2
 all_goals exact .same _ _
def vwC (h:Nat→Option Loc):List D→Prop×List D×(Nat→Option Loc)
 | []=>(True,[],h)
 | d::l=>((vw0 h d).ok∧(vwC (vw0 h d).h l).1,(vw0 h d).d::(vwC (vw0 h d).h l).2.1,(vwC (vw0 h d).h l).2.2)
theorem W6p (mk:List D→D)(hmk:∀ (h h':Nat→Option Loc) (ds:List D) (i:Nat) (d d':D),ds[i]?=some d→View h d d' h'→View h (mk ds) (mk (ds.set i d')) h'):∀ (l pre:List D) (h:Nat→Option Loc),(vwC h l).1→View h (mk (pre++l)) (mk (pre++(vwC h l).2.1)) (vwC h l).2.2
 | [],pre,h,_=>.same _ _
 | d::l,pre,h,hk=>by
  have h1:=hmk h _ (pre++d::l) pre.length d _ (by simp) (X61 hk.1)
  have h2:=W6p mk hmk l (pre++[(vw0 h d).d]) (vw0 h d).h hk.2
  refine .trans _ _ _ _ _ _ ?_ (by simpa [vwC] using h2)
  simpa using h1
def vw1 (h:Nat→Option Loc):D→VwR
 | .agg ds=>⟨(vwC h ds).1,.agg (vwC h ds).2.1,(vwC h ds).2.2⟩
 | .clos f ds=>⟨(vwC h ds).1,.clos f (vwC h ds).2.1,(vwC h ds).2.2⟩
 | d=>vw0 h d
theorem X2z {h:Nat→Option Loc}{d:D}(hk:(vw1 h d).ok):View h d (vw1 h d).d (vw1 h d).h:=by
 cases d
 case agg ds=>exact W6p .agg (fun h h' ds i d d' hi hv=>.agg h h' ds i d d' hi hv) ds [] h hk
 case clos f ds=>exact W6p (.clos f) (fun h h' ds i d d' hi hv=>.clos h h' f ds i d d' hi hv) ds [] h hk
 all_goals exact X61 hk
def vwL (h:Nat→Option Loc):List D→Prop×List D×(Nat→Option Loc)
 | []=>(True,[],h)
 | d::l=>((vw1 h d).ok∧(vwL (vw1 h d).h l).1,(vw1 h d).d::(vwL (vw1 h d).h l).2.1,(vwL (vw1 h d).h l).2.2)
theorem W1e:∀ (l:List D) (h:Nat→Option Loc),(vwL h l).1→Q7y h l (vwL h l).2.1 (vwL h l).2.2
 | [],h,_=>.nil h
 | d::l,h,hk=>.cons (X2z hk.1) (W1e l _ hk.2)
def vwL0 (h:Nat→Option Loc):List D→Prop×List D×(Nat→Option Loc)
 | []=>(True,[],h)
 | d::l=>((vw0 h d).ok∧(vwL0 (vw0 h d).h l).1,(vw0 h d).d::(vwL0 (vw0 h d).h l).2.1,(vwL0 (vw0 h d).h l).2.2)
theorem X8z:∀ (l:List D) (h:Nat→Option Loc),(vwL0 h l).1→Q7y h l (vwL0 h l).2.1 (vwL0 h l).2.2
 | [],h,_=>.nil h
 | d::l,h,hk=>.cons (X61 hk.1) (X8z l _ hk.2)
theorem Y4q {f:FuncId}{args args':List D}{K:(Nat→Option Loc)→D→Prop}{x:D}(q:Q7 P f args' (fun d=>d=x))(hk:(vwL0 σ.h args).1)(hle:All2 D.le (vwL0 σ.h args).2.1 args')(hf:∀ d∈args',Free d)(hK:K (vwL0 σ.h args).2.2 x):Q8n P σ f args K:=
 V96 (X8z args σ.h hk) q hle hf fun r hr=>by rw [hr];exact hK
theorem Y4x {f:FuncId}{args args':List D}{K:(Nat→Option Loc)→D→Prop}{x:D}(q:Q7 P f args' (fun d=>d=x))(hs:x.scalar=true)(hk:(vwL0 σ.h args).1)(hle:All2 D.le (vwL0 σ.h args).2.1 args')(hf:∀ d∈args',Free d)(hK:K σ.h x):Q8n P σ f args K:=
 V97 (X8z args σ.h hk) q hle hf fun r hr=>by rw [hr];exact ⟨hs,hK⟩
theorem Y4p {f:FuncId}{args args':List D}{K:(Nat→Option Loc)→D→Prop}{x:D}(q:Q7 P f args' (fun d=>d=x))(hk:(vwL σ.h args).1)(hle:All2 D.le (vwL σ.h args).2.1 args')(hf:∀ d∈args',Free d)(hK:K (vwL σ.h args).2.2 x):Q8n P σ f args K:=
 V96 (W1e args σ.h hk) q hle hf fun r hr=>by rw [hr];exact hK
theorem Y4w {f:FuncId}{args args':List D}{K:(Nat→Option Loc)→D→Prop}{x:D}(q:Q7 P f args' (fun d=>d=x))(hs:x.scalar=true)(hk:(vwL σ.h args).1)(hle:All2 D.le (vwL σ.h args).2.1 args')(hf:∀ d∈args',Free d)(hK:K σ.h x):Q8n P σ f args K:=
 V97 (W1e args σ.h hk) q hle hf fun r hr=>by rw [hr];exact ⟨hs,hK⟩
def putC (h:Nat→Option Loc)(k i j:Nat)(d:D)(L:Loc):Nat→Option Loc:=updL h k (some ⟨L.sz,L.rows.set i ((L.rows.getD i []).set j d),L.fz,L.el⟩)
def vwCs (k i:Nat):(Nat→Option Loc)→Nat→List D→Prop×(Nat→Option Loc)
 | h,_,[]=>(True,h)
 | h,j,d::l=>match h k with
  | some L=>((vw0 h d).ok∧(vw0 h d).h k=some L∧0<L.sz∧(L.rows[i]?).bind (fun r=>r[j]?)=some d∧(vwCs k i (putC (vw0 h d).h k i j (vw0 h d).d L) (j+1) l).1,(vwCs k i (putC (vw0 h d).h k i j (vw0 h d).d L) (j+1) l).2)
  | none=>(False,h)
theorem W6o (k i:Nat)(x:D):∀ (l:List D) (h:Nat→Option Loc) (j:Nat),(vwCs k i h j l).1→View h x x (vwCs k i h j l).2
 | [],h,j,_=>.same _ _
 | d::l,h,j,hk=>by
  simp only [vwCs] at hk ⊢
  cases e:h k with
  | none=>rw [e] at hk;exact hk.elim
  | some L=>
   rw [e] at hk
   obtain ⟨h1,h2,h3,h4,h5⟩:=hk
   obtain ⟨row,e1,e2⟩:=Option.bind_eq_some_iff.1 h4
   have er:L.rows.getD i []=row:=by rw [List.getD_eq_getElem?_getD,e1];rfl
   refine .trans _ _ _ _ _ _ (.cell h (vw0 h d).h x k i j L row d (vw0 h d).d e e1 e2 h3 (X61 h1) h2) ?_
   have:=W6o k i x l _ (j+1) h5
   simp only [putC,er] at this ⊢
   exact this
def vwRs (k:Nat):(Nat→Option Loc)→Nat→List (List D)→Prop×(Nat→Option Loc)
 | h,_,[]=>(True,h)
 | h,i,r::rs=>((vwCs k i h 0 r).1∧(vwRs k (vwCs k i h 0 r).2 (i+1) rs).1,(vwRs k (vwCs k i h 0 r).2 (i+1) rs).2)
theorem X8y (k:Nat)(x:D):∀ (l:List (List D)) (h:Nat→Option Loc) (i:Nat),(vwRs k h i l).1→View h x x (vwRs k h i l).2
 | [],h,i,_=>.same _ _
 | r::l,h,i,hk=>.trans _ _ _ _ _ _ (W6o k i x r h 0 hk.1) (X8y k x l _ (i+1) hk.2)
def vwN (h:Nat→Option Loc):D→VwR
 | .sl sz k n=>match h k with
  | some L=>⟨(vwRs k h 0 L.rows).1∧(vw0 (vwRs k h 0 L.rows).2 (.sl sz k n)).ok,(vw0 (vwRs k h 0 L.rows).2 (.sl sz k n)).d,(vw0 (vwRs k h 0 L.rows).2 (.sl sz k n)).h⟩
  | none=>⟨False,.any,h⟩
 | d=>vw1 h d
theorem Y06 {h:Nat→Option Loc}{d:D}(hk:(vwN h d).ok):View h d (vwN h d).d (vwN h d).h:=by
 cases d
 case sl sz k n=>
  simp only [vwN] at hk ⊢
  cases e:h k with
  | none=>rw [e] at hk;exact hk.elim
  | some L=>
   rw [e] at hk
   exact .trans _ _ _ _ _ _ (X8y k _ L.rows h 0 hk.1) (X61 hk.2)
 all_goals exact X2z hk
def vwLn (h:Nat→Option Loc):List D→Prop×List D×(Nat→Option Loc)
 | []=>(True,[],h)
 | d::l=>((vwN h d).ok∧(vwLn (vwN h d).h l).1,(vwN h d).d::(vwLn (vwN h d).h l).2.1,(vwLn (vwN h d).h l).2.2)
theorem W6m:∀ (l:List D) (h:Nat→Option Loc),(vwLn h l).1→Q7y h l (vwLn h l).2.1 (vwLn h l).2.2
 | [],h,_=>.nil h
 | d::l,h,hk=>.cons (Y06 hk.1) (W6m l _ hk.2)
theorem Y4o {f:FuncId}{args args':List D}{K:(Nat→Option Loc)→D→Prop}{x:D}(q:Q7 P f args' (fun d=>d=x))(hk:(vwLn σ.h args).1)(hle:All2 D.le (vwLn σ.h args).2.1 args')(hf:∀ d∈args',Free d)(hK:K (vwLn σ.h args).2.2 x):Q8n P σ f args K:=
 V96 (W6m args σ.h hk) q hle hf fun r hr=>by rw [hr];exact hK
def nmL:List D→Option Nat
 | []=>none
 | d::l=>match nmD d with | some k=>some k | none=>nmL l
def nmA:D→Option Nat
 | .agg ds=>nmL ds
 | d=>nmD d
def vwK (h:Nat→Option Loc):List D→List D→Prop×List D×(Nat→Option Loc)
 | d::l,d'::l'=>if (nmA d').isSome=true then ((vwK h l l').1,d::(vwK h l l').2.1,(vwK h l l').2.2)
  else ((vw1 h d).ok∧(vwK (vw1 h d).h l l').1,(vw1 h d).d::(vwK (vw1 h d).h l l').2.1,(vwK (vw1 h d).h l l').2.2)
 | l,_=>(True,l,h)
theorem W1f:∀ (l l':List D) (h:Nat→Option Loc),(vwK h l l').1→Q7y h l (vwK h l l').2.1 (vwK h l l').2.2
 | [],_,h,_=>by simp only [vwK];exact .nil h
 | d::l,[],h,_=>by simp only [vwK];exact Z1i h _
 | d::l,d'::l',h,hk=>by
  simp only [vwK] at hk ⊢
  split at hk
  ·rename_i e;simp only [e,if_true];exact .cons (.same _ _) (W1f l l' h hk)
  ·rename_i e;simp only [e];exact .cons (X2z hk.1) (W1f l l' _ hk.2)
def fndK:List D→List D→Nat→Nat
 | d::l,d'::l',q=>if nmA d'=some q then (nmA d).getD 0 else fndK l l' q
 | _,_,_=>0
def infK (args args':List D):Nat→List Loc→List Nat
 | _,[]=>[]
 | i,_::r=>fndK args args' i::infK args args' (i+1) r
def rnm0 (l:List Nat):D→D
 | .ptr sz k i j=>.ptr sz (l.getD k 0) i j
 | .sl sz k n=>.sl sz (l.getD k 0) n
 | .mp k=>.mp (l.getD k 0)
 | d=>d
def Q7z (l:List Nat):D→Prop
 | .ptr _ k _ _=>k<l.length
 | .sl _ k _=>k<l.length
 | .mp k=>k<l.length
 | d=>Free d
theorem W7c {l:List Nat}(hn:l.Nodup){d:D}(h:Q7z l d):Ren (J0 l) d (rnm0 l d):=by
 cases d
 case ptr sz k i j=>exact .ptr _ _ _ _ _ (Q5u hn (Q8m h))
 case sl sz k n=>exact .sl _ _ _ _ (Q5u hn (Q8m h))
 case mp k=>exact .mp _ _ (Q5u hn (Q8m h))
 all_goals exact W1t h
def rnmA (l:List Nat):D→D
 | .agg ds=>.agg (ds.map (rnm0 l))
 | d=>rnm0 l d
def Q8o (l:List Nat):D→Prop
 | .agg ds=>∀ d∈ds,Q7z l d
 | d=>Q7z l d
theorem W7b {l:List Nat}(hn:l.Nodup){d:D}(h:Q8o l d):Ren (J0 l) d (rnmA l d):=by
 cases d
 case agg ds=>
  refine .agg _ _ (by simp) fun i d d' h1 h2=>?_
  rw [List.getElem?_map,h1] at h2
  cases h2
  exact W7c hn (h d (U1 h1))
 all_goals exact W7c hn h
def rnm (l:List Nat):D→D
 | .tup ds=>.tup (ds.map (rnmA l))
 | d=>rnmA l d
def Z5v (l:List Nat):D→Prop
 | .tup ds=>∀ d∈ds,Q8o l d
 | d=>Q8o l d
theorem W1p {l:List Nat}(hn:l.Nodup){d:D}(h:Z5v l d):Ren (J0 l) d (rnm l d):=by
 cases d
 case tup ds=>
  refine .tup _ _ (by simp) fun i d d' h1 h2=>?_
  rw [List.getElem?_map,h1] at h2
  cases h2
  exact W7b hn (h d (U1 h1))
 all_goals exact W7b hn h
theorem Q7l {ρ:Nat→Option Nat} : ∀ (Hs:List (Option Loc)),(∀ L,some L∈Hs→FrS L.rows)→All2 (Z4a ρ) Hs Hs
 | [],_=>.nil
 | none::l,h=>.cons (.none _) (Q7l l fun L hL=>h L (by simp [hL]))
 | some L::l,h=>.cons (X0f (h L (by simp))) (Q7l l fun L hL=>h L (by simp [hL]))
theorem X8a {f:FuncId}{args args':List D}{K:(Nat→Option Loc)→D→Prop}{H:List Loc}{Hs:List (Option Loc)}{x:D}(q:Q12 P f H args' (fun H' d=>H'=Hs∧d=x))(ks:List Nat)(h0:infK args args' 0 H=ks)(hk:(vwK σ.h args args').1)(hn:ks.Nodup)
  (names:List Nat) (hnm:ks++J3 (σ.next+1) (Hs.length-ks.length)=names) (hl:All2 (Q8p { σ with h:=(vwK σ.h args args').2.2,next:=σ.next+1 } ks) ks H) (ha:All2 (Ren (fun i=>ks[i]?)) (vwK σ.h args args').2.1 args') (h7:Hs.length≤ks.length+7)
  (hH:∀ L,some L∈Hs→FrS L.rows) (hnn:names.Nodup) (hx:Z5v names x) (hK:K (Q26 (vwK σ.h args args').2.2 names Hs) (rnm names x)):Q8n P σ f args K:=
 V50 (W1f args args' σ.h hk) (.same _ _) ks q hn hl ha fun H' r hr=>by
  obtain ⟨rfl,rfl⟩:=hr
  rw [hnm]
  exact ⟨h7,_,_,Q7l _ hH,W1p hnn hx,hK⟩
theorem Y4u {f:FuncId}{args args':List D}{K:(Nat→Option Loc)→D→Prop}{H:List Loc}{Hs:List (Option Loc)}{x:D}(q:Q12 P f H args' (fun H' d=>H'=Hs∧d=x))(ks:List Nat)(h0:infK args args' 0 H=ks)(hn:ks.Nodup)
  (names:List Nat) (hnm:ks++J3 (σ.next+1) (Hs.length-ks.length)=names) (hl:All2 (Q8p { σ with h:=σ.h,next:=σ.next+1 } ks) ks H) (ha:All2 (Ren (fun i=>ks[i]?)) args args') (h7:Hs.length≤ks.length+7)
  (hH:∀ L,some L∈Hs→FrS L.rows) (hnn:names.Nodup) (hx:Z5v names x) (hK:K (Q26 σ.h names Hs) (rnm names x)):Q8n P σ f args K:=
 V50 (Z1i σ.h args) (.same _ _) ks q hn hl ha fun H' r hr=>by
  obtain ⟨rfl,rfl⟩:=hr
  rw [hnm]
  exact ⟨h7,_,_,Q7l _ hH,W1p hnn hx,hK⟩
theorem Y4r {f:FuncId}{args args':List D}{K:(Nat→Option Loc)→D→Prop}{sz el s0 n0:Nat}{H:List Loc}{Hs:List (Option Loc)}{x:D}(q:Q12 P f (⟨sz,[],0,el⟩::H) (.sl s0 0 n0::args') (fun H' d=>H'=Hs∧d=x))(ks:List Nat)(h0:σ.next::infK args args' 1 H=ks)(hk:(vwK σ.h args args').1)(hn:ks.Nodup)
  (names:List Nat) (hnm:ks++J3 (σ.next+1) (Hs.length-ks.length)=names) (hl:All2 (Q8p { σ with h:=updL (vwK σ.h args args').2.2 σ.next (some ⟨sz,[],0,el⟩),next:=σ.next+1 } ks) ks (⟨sz,[],0,el⟩::H)) (ha:All2 (Ren (fun i=>ks[i]?)) (.sl sz σ.next 0::(vwK σ.h args args').2.1) (.sl s0 0 n0::args')) (h7:Hs.length≤ks.length+7)
  (hH:∀ L,some L∈Hs→FrS L.rows) (hnn:names.Nodup) (hx:Z5v names x) (hK:K (Q26 (updL (vwK σ.h args args').2.2 σ.next (some ⟨sz,[],0,el⟩)) names Hs) (rnm names x)):Q8n P σ f (.nil::args) K:=
 V50 (.cons (.same _ _) (W1f args args' σ.h hk)) (.own _ [] _ sz el) ks q hn hl ha fun H' r hr=>by
  obtain ⟨rfl,rfl⟩:=hr
  rw [hnm]
  exact ⟨h7,_,_,Q7l _ hH,W1p hnn hx,hK⟩
def flA:List D→List D
 | []=>[]
 | .clos _ ds::l=>ds++flA l
 | .agg ds::l=>ds++flA l
 | d::l=>d::flA l
def fndO:List D→List D→Nat→Option Nat
 | d::l,d'::l',q=>if nmD d'=some q then nmD d else fndO l l' q
 | _,_,_=>none
def V4d:List (List D)→List (List D)→Nat→Option Nat
 | r::rs,r'::rs',q=>match fndO r r' q with | some k=>some k | none=>V4d rs rs' q
 | _,_,_=>none
def nxB (h:Nat→Option Loc)(args args':List D)(i k0:Nat)(rows0:List (List D)):Nat:=match fndO (flA args) (flA args') i with
 | some k=>k
 | none=>match h k0 with | some M=>(V4d M.rows rows0 i).getD 0 | none=>0
def infB (h:Nat→Option Loc)(args args':List D):Nat→List Loc→Nat→List (List D)→List Nat
 | _,[],_,_=>[]
 | i,L::r,k0,rows0=>nxB h args args' i k0 rows0::infB h args args' (i+1) r (nxB h args args' i k0 rows0) L.rows
def nmF:D→Option Nat
 | .clos _ ds=>nmL ds
 | d=>nmA d
def vwKb (h:Nat→Option Loc):List D→List D→Prop×List D×(Nat→Option Loc)
 | d::l,d'::l'=>if (nmF d').isSome=true then ((vwKb h l l').1,d::(vwKb h l l').2.1,(vwKb h l l').2.2)
  else ((vw1 h d).ok∧(vwKb (vw1 h d).h l l').1,(vw1 h d).d::(vwKb (vw1 h d).h l l').2.1,(vwKb (vw1 h d).h l l').2.2)
 | l,_=>(True,l,h)
theorem X90:∀ (l l':List D) (h:Nat→Option Loc),(vwKb h l l').1→Q7y h l (vwKb h l l').2.1 (vwKb h l l').2.2
 | [],_,h,_=>by simp only [vwKb];exact .nil h
 | d::l,[],h,_=>by simp only [vwKb];exact Z1i h _
 | d::l,d'::l',h,hk=>by
  simp only [vwKb] at hk ⊢
  split at hk
  ·rename_i e;simp only [e,if_true];exact .cons (.same _ _) (X90 l l' h hk)
  ·rename_i e;simp only [e];exact .cons (X2z hk.1) (X90 l l' _ hk.2)
theorem V2h {ρ:Nat→Option Nat}{f:FuncId}{ds ds':List D}(h:All2 (Ren ρ) ds ds'):Ren ρ (.clos f ds) (.clos f ds'):=by
 obtain ⟨h1,h2⟩:=Q5v h
 exact .clos _ _ _ h1.symm fun i d d' e1 e2=>h2 i d d' e1 e2
theorem X08 {ρ:Nat→Option Nat}{d d':D}(h:Ren ρ d d'):Z5h ρ [[d]] [[d']]:=by
 refine ⟨rfl,fun i row row' h1 h2=>?_⟩
 cases i with
 | zero=>
  simp only [List.getElem?_cons_zero,Option.some.injEq] at h1 h2
  subst h1;subst h2
  refine ⟨rfl,fun j e e' g1 g2=>?_⟩
  cases j with
  | zero=>
   simp only [List.getElem?_cons_zero,Option.some.injEq] at g1 g2
   subst g1;subst g2
   exact h
  | succ j=>simp at g1
 | succ i=>simp at h1
theorem lRb {l:List Nat}{q sz k i n el fz:Nat}(hL:σ.h q=some ⟨1,[[.sl sz k n]],fz,el⟩)(hi:l[i]?=some k):Q8p σ l q ⟨1,[[.sl sz i n]],fz,el⟩:=
 ⟨_,hL,rfl,rfl,rfl,X08 (.sl _ _ _ _ hi)⟩
theorem oRn {ρ:Nat→Option Nat} : Z4a ρ none none:=.none _
theorem oRb {l:List Nat}(hn:l.Nodup){sz k i n el fz:Nat}(hi:l[i]?=some k):Z4a (J0 l) (some ⟨1,[[.sl sz i n]],fz,el⟩) (some ⟨1,[[.sl sz k n]],fz,el⟩):=
 .some _ _ rfl rfl rfl (X08 (.sl _ _ _ _ (Q5u hn hi)))
theorem Y4t {f:FuncId}{args args':List D}{K:(Nat→Option Loc)→D→Prop}{H:List Loc}{Hs:List (Option Loc)}{x:D}(q:Q12 P f H args' (fun H' d=>H'=Hs∧d=x))(ks:List Nat)(h0:infB σ.h args args' 0 H 0 []=ks)(hk:(vwKb σ.h args args').1)(hn:ks.Nodup)
  (names:List Nat) (hnm:ks++J3 (σ.next+1) (Hs.length-ks.length)=names) (hl:All2 (Q8p { σ with h:=(vwKb σ.h args args').2.2,next:=σ.next+1 } ks) ks H) (ha:All2 (Ren (fun i=>ks[i]?)) (vwKb σ.h args args').2.1 args') (h7:Hs.length≤ks.length+7)
  (hnn:names.Nodup) (Hs2:List (Option Loc)) (hH:All2 (Z4a (J0 names)) Hs Hs2) (hx:Z5v names x) (hK:K (Q26 (vwKb σ.h args args').2.2 names Hs2) (rnm names x)):Q8n P σ f args K:=
 V50 (X90 args args' σ.h hk) (.same _ _) ks q hn hl ha fun H' r hr=>by
  obtain ⟨rfl,rfl⟩:=hr
  rw [hnm]
  exact ⟨h7,_,_,hH,W1p hnn hx,hK⟩
theorem lRn {l:List Nat}{q:Nat}{L:Loc}(hL:σ.h q=some L)(hf:FrS L.rows):Q8p σ l q L:=W83 hL trivial hf
theorem eDv {ds xs:List D}{x:D}(hx:Z2y xs=x)(hk:(vwL σ.h ds).1)(hle:All2 D.le (vwL σ.h ds).2.1 xs)(hf:∀ d∈xs,Free d):EndD (fun y=>y=x) σ ds:=⟨_,xs,_,W1e ds σ.h hk,hle,hf,hx⟩
theorem eDvt {ds:List D}{xs:List D}(hx:Z2y xs=.tup xs)(hk:(vwL σ.h ds).1)(hle:All2 D.le (vwL σ.h ds).2.1 xs)(hf:∀ d∈xs,Free d):EndD (fun y=>y=.tup xs) σ ds:=eDv hx hk hle hf
theorem eDv1 {d x:D}(hk:(vwL σ.h [d]).1)(hle:All2 D.le (vwL σ.h [d]).2.1 [x])(hf:Free x):EndD (fun y=>y=x) σ [d]:=eDv (xs:=[x]) rfl hk hle (by simpa using hf)
theorem W82 {m:Nat}{d:D}(h:Q7z (List.range m) d):Ren (lowN m) d d:=by
 have lw:∀ k,k<(List.range m).length→lowN m k=some k:=fun k hk=>by simp at hk;simp [lowN,hk]
 cases d
 case ptr sz k i j=>exact .ptr _ _ _ _ _ (lw _ h)
 case sl sz k n=>exact .sl _ _ _ _ (lw _ h)
 case mp k=>exact .mp _ _ (lw _ h)
 all_goals exact V2u h
theorem V7z {m:Nat}{d:D}(h:Q8o (List.range m) d):Ren (lowN m) d d:=by
 cases d
 case agg ds=>
  refine .agg _ _ rfl fun i d d' h1 h2=>?_
  rw [h1] at h2
  cases h2
  exact W82 (h d (U1 h1))
 all_goals exact W82 h
theorem eXa {m:Nat}{Hs:List (Option Loc)}{x:D}{τ:Nat→D}{l:List (Option Loc)}{nx n:Nat}{ds:List D}(hl:l.take Hs.length=Hs)(hx:Z2y ds=x)(hf:∀ d∈ds,Q8o (List.range Hs.length) d)
  (hg:∀ L,some L∈Hs→FrS L.rows) (h1:nx≤l.length) (h2:m≤Hs.length):EndH m (fun H d=>H=Hs∧d=x) ⟨τ,hOfO l,nx,n⟩ ds:=
 have hl2:l=Hs++l.drop Hs.length:=by
  have:=List.take_append_drop Hs.length l
  rw [hl] at this
  exact this.symm
 ⟨Hs,l.drop Hs.length,by rw [←hl2],by rw [←hl2];exact h1,h2,.inr ⟨fun d hd=>V7z (hf d hd),hg⟩,rfl,hx⟩
end
end Go.Proofs.YtenmmbjgnlflnaaGreat
