import Derived.WalkKit
import Derived.Lib.LazyBuf
import Derived.Laws.StructEq
import Derived.WideMake
import Derived.Laws.MakeOwn
import Derived.Laws.BytesString
import Derived.Lib.AppendZeros
set_option linter.unusedSimpArgs false
set_option linter.unusedVariables false
namespace Go.Proofs.YtenmmbjgnlflnaaGreat
open Go Go.RowKit
theorem U0 {α β:Type} (a:α) (f:α→Option β):(some a).bind f=f a:=rfl
theorem U1 {α:Type} {l:List α} {i:Nat} {a:α} (h:l[i]?=some a):a∈l:=List.mem_of_getElem? h
theorem U2 :(false=true)=False:=Bool.false_eq_true
theorem U3 {α:Type} {a:α} {l:List α}:(a::l).length=l.length+1:=rfl
theorem U4 {α:Type}:([]:List α).length=0:=rfl
theorem U5 {α:Type} {a b:List α}:(a++b).length=a.length+b.length:=List.length_append
theorem U6 {α:Type} {i:Nat} {l:List α}:(l.take i).length=min i l.length:=List.length_take
theorem U7 {α β:Type} {l:List α} (f:α→β):(l.map f).length=l.length:=List.length_map f
theorem U8 {α:Type} {a b:α} {l:List α}:a∈b::l↔a=b∨a∈l:=List.mem_cons
theorem U9 {α:Type} {a:α} {s t:List α}:a∈s++t↔a∈s∨a∈t:=List.mem_append
theorem U10 {α:Type} {l:List α} {i:Nat} (h:i<l.length):l[i]?=some l[i]:=List.getElem?_eq_getElem h
theorem U11 {α β:Type} {b:β} {f:α→β} {l:List α}:b∈l.map f↔∃a,a∈l∧f a=b:=List.mem_map
theorem U12 {α β:Type} {b:β} {x:Option α} {f:α→β}:x.map f=some b↔∃a,x=some a∧f a=b:=Option.map_eq_some_iff
def Q9:Nat:=4294967296
def Q0c:Nat:=9223372036854775807
theorem Z5u {n:Nat}(h:n≤Q9):n≤Q0c:=by simp only [Q9,Q0c] at *;omega
inductive D where
 | any
 | val (v:Value)
 | nil
 | slice (sz:Nat) (rows:List (List D))
 | agg (cells:List D)
 | tup (vs:List D)
 | ptr (sz k i j:Nat)
 | cptr (cells:List D)
 | sl (sz k n:Nat)
 | clos (f:FuncId) (caps:List D)
 | whn (es:List Bool) (d:D)
 | mp (k:Nat)
 | tl (sz k r n:Nat)
 deriving Inhabited
structure Cx where
 M:Nat→Option (Option Nat)
 fr:Nat→Nat
 w:World
inductive Rep (c:Cx):D→Value→Prop
 | any (v:Value):Rep c .any v
 | val (v:Value):Rep c (.val v) v
 | nil:Rep c .nil (.slice none 0 0)
 | slice0 (sz:Nat) (a:Option Addr) (cap:Nat):Rep c (.slice sz []) (.slice a 0 cap)
 | slice (sz:Nat) (rows:List (List D)) (b o cap:Nat) (f:Nat→Nat→Value) (hcap:rows.length≤cap) (hlim:rows.length≤Q0c)
   (hrow:∀ row∈rows,row.length=sz)
   (hcell:∀ (i j:Nat) (row:List D) (d:D),rows[i]?=some row→row[j]?=some d→c.w.cell? ⟨b,o+i * sz+j,none⟩=some (f i j)∧o+i * sz+j<c.fr b∧(f i j).oneCell'=true)
   (hrep:∀ (i j:Nat) (row:List D) (d:D),rows[i]?=some row→row[j]?=some d→Rep c d (f i j)) :
   Rep c (.slice sz rows) (.slice (some ⟨b,o,none⟩) rows.length cap)
 | agg (ds:List D) (vs:Array Value) (hlen:vs.size=ds.length) (h:∀ (i:Nat) (d:D) (v:Value),ds[i]?=some d→vs[i]?=some v→Rep c d v):Rep c (.agg ds) (.agg vs)
 | tup (ds:List D) (vs:Array Value) (hlen:vs.size=ds.length) (h:∀ (i:Nat) (d:D) (v:Value),ds[i]?=some d→vs[i]?=some v→Rep c d v):Rep c (.tup ds) (.tuple vs)
 | ptr (sz k i j b:Nat) (hM:c.M k=some (some b)) (hsz:0<sz):Rep c (.ptr sz k i j) (.pointer (some ⟨b,i * sz+j,none⟩))
 | cptr (ds:List D) (b o:Nat) (f:Nat→Value)
   (hcell:∀ (j:Nat) (d:D),ds[j]?=some d→c.w.cell? ⟨b,o+j,none⟩=some (f j)∧o+j<c.fr b)
   (hrep:∀ (j:Nat) (d:D),ds[j]?=some d→Rep c d (f j)) :
   Rep c (.cptr ds) (.pointer (some ⟨b,o,none⟩))
 | sl0 (sz k:Nat) (a:Option Addr) (hM:c.M k=some none):Rep c (.sl sz k 0) (.slice a 0 0)
 | sl (sz k n b cap:Nat) (cs:Array Value) (e:TypeId) (fz:Nat×Nat) (hM:c.M k=some (some b)) (hcap:n≤cap)
   (hb:c.w.heap[b]?=some (Obj.cells cs e fz)) (hsz:cap * sz≤cs.size):Rep c (.sl sz k n) (.slice (some ⟨b,0,none⟩) n cap)
 | clos (f:FuncId) (ds:List D) (vs:Array Value) (hlen:vs.size=ds.length) (h:∀ (i:Nat) (d:D) (v:Value),ds[i]?=some d→vs[i]?=some v→Rep c d v) :
   Rep c (.clos f ds) (.func (.func f) #[] vs)
 | whn (es:List Bool) (d:D) (v:Value) (h:es.all id=true→Rep c d v) (h0:es.all id=false→v=undef):Rep c (.whn es d) v
 | mp (k b:Nat) (hM:c.M k=some (some b)):Rep c (.mp k) (.map (some b))
 | tl0 (sz k r cap:Nat) (a:Option Addr):Rep c (.tl sz k r 0) (.slice a 0 cap)
 | tl (sz k r n b cap:Nat) (hM:c.M k=some (some b)):Rep c (.tl sz k r n) (.slice (some ⟨b,r * sz,none⟩) n cap)
structure Cx.Ext (c c':Cx):Prop where
 len:c.w.heap.size≤c'.w.heap.size
 M:∀ k x,c.M k=some x→c'.M k=some x
 fr:∀ b,b<c.w.heap.size→c.fr b≤c'.fr b
 cell:∀ b o,b<c.w.heap.size→o<c.fr b→c'.w.cell? ⟨b,o,none⟩=c.w.cell? ⟨b,o,none⟩
 size:∀ (b:Nat) (cs:Array Value) (e:TypeId) (f:Nat×Nat),c.w.heap[b]?=some (Obj.cells cs e f)→∃ cs' f',c'.w.heap[b]?=some (Obj.cells cs' e f')∧cs'.size=cs.size
theorem Cx.Ext.refl (c:Cx):c.Ext c:=⟨Nat.le_refl _,fun _ _ h=>h,fun _ _=>Nat.le_refl _,fun _ _ _ _=>rfl,fun _ cs _ f h=>⟨cs,f,h,rfl⟩⟩
theorem Cx.Ext.trans {a b c:Cx}(h:a.Ext b)(k:b.Ext c):a.Ext c where
 len:=Nat.le_trans h.len k.len
 M:=fun x y e=>k.M x y (h.M x y e)
 fr:=fun x hx=>Nat.le_trans (h.fr x hx) (k.fr x (Nat.lt_of_lt_of_le hx h.len))
 cell:=fun x o hx ho=>(k.cell x o (Nat.lt_of_lt_of_le hx h.len) (Nat.lt_of_lt_of_le ho (h.fr x hx))).trans (h.cell x o hx ho)
 size:=fun x cs e f hx=>by
  obtain ⟨cs1,f1,h1,s1⟩:=h.size x cs e f hx
  obtain ⟨cs2,f2,h2,s2⟩:=k.size x cs1 e f1 h1
  exact ⟨cs2,f2,h2,s2.trans s1⟩
theorem Cx.Ext.lt {c c':Cx}(h:c.Ext c'){b:Nat}{cs:Array Value}{e:TypeId}{f:Nat×Nat}(hb:c.w.heap[b]?=some (Obj.cells cs e f)):b<c'.w.heap.size:=by
 obtain ⟨cs',f',h',_⟩:=h.size b cs e f hb
 exact (Array.getElem?_eq_some_iff.1 h').1
theorem X5c {w:World}{b o:Nat}{v:Value}(h:w.cell? ⟨b,o,none⟩=some v):∃ cs e f,w.heap[b]?=some (Obj.cells cs e f)∧cs[o]?=some v:=by
 unfold World.cell? at h
 split at h
 ·rename_i cs e f hb
  exact ⟨cs,e,f,hb,by simpa using h⟩
 ·simp at h
theorem Rep.mono {c c':Cx}(hx:c.Ext c'){d:D}{v:Value}(h:Rep c d v):Rep c' d v:=by
 induction h with
 | any v=>exact .any v
 | val v=>exact .val v
 | nil=>exact .nil
 | slice0 sz a cap=>exact .slice0 sz a cap
 | slice sz rows b o cap f hcap hlim hrow hcell _ ih=>
  refine .slice sz rows b o cap f hcap hlim hrow (fun i j row d hi hj=>?_) ih
  obtain ⟨h1,h2,h3⟩:=hcell i j row d hi hj
  have hb:=World.block_lt_of_cell? _ _ h1
  exact ⟨by rw [hx.cell b _ hb h2];exact h1,Nat.lt_of_lt_of_le h2 (hx.fr b hb),h3⟩
 | agg ds vs hlen _ ih=>exact .agg ds vs hlen ih
 | tup ds vs hlen _ ih=>exact .tup ds vs hlen ih
 | ptr sz k i j b hM hsz=>exact .ptr sz k i j b (hx.M _ _ hM) hsz
 | cptr ds b o f hcell _ ih=>
  refine .cptr ds b o f (fun j d hj=>?_) ih
  obtain ⟨h1,h2⟩:=hcell j d hj
  have hb:=World.block_lt_of_cell? _ _ h1
  exact ⟨by rw [hx.cell b _ hb h2];exact h1,Nat.lt_of_lt_of_le h2 (hx.fr b hb)⟩
 | sl0 sz k a hM=>exact .sl0 sz k a (hx.M _ _ hM)
 | sl sz k n b cap cs e fz hM hcap hb hsz=>
  obtain ⟨cs',f',h',hs⟩:=hx.size b cs e fz hb
  exact .sl sz k n b cap cs' e f' (hx.M _ _ hM) hcap h' (by omega)
 | clos f ds vs hlen _ ih=>exact .clos f ds vs hlen ih
 | whn e d v _ h0 ih=>exact .whn e d v ih h0
 | mp k b hM=>exact .mp k b (hx.M _ _ hM)
 | tl0 sz k r cap a=>exact .tl0 sz k r cap a
 | tl sz k r n b cap hM=>exact .tl sz k r n b cap (hx.M _ _ hM)
structure Loc where
 sz:Nat
 rows:List (List D)
 fz:Nat
 el:TypeId
 deriving Inhabited
inductive Z5i (c:Cx) (k:Nat) (L:Loc):Prop
 | nil (hM:c.M k=some none) (hr:L.rows=[]) (hf:L.fz=0)
 | own (b:Nat) (cs:Array Value) (f:Nat→Nat→Value) (hM:c.M k=some (some b)) (hb:c.w.heap[b]?=some (Obj.cells cs L.el (0,0)))
   (hfr:c.fr b=L.fz) (hlen:L.rows.length * L.sz≤cs.size) (hfz:L.fz≤L.rows.length * L.sz) (hlim:L.rows.length≤Q0c)
   (hrow:∀ row∈L.rows,row.length=L.sz)
   (hcell:∀ (i j:Nat) (row:List D) (d:D),L.rows[i]?=some row→row[j]?=some d→cs[i * L.sz+j]?=some (f i j)∧Rep c d (f i j)∧(f i j).oneCell'=true) (hpos:0<L.sz)
 | map (b clock:Nat) (es:Array MapEntry) (hM:c.M k=some (some b)) (hb:c.w.heap[b]?=some (Obj.map es clock)) (hfr:c.fr b=0) (hsz:L.sz=0) (hfz:L.fz=0) (hlen:L.rows.length=es.size)
   (hrow:∀ (i:Nat) (row:List D) (e:MapEntry),L.rows[i]?=some row→es[i]?=some e→∃ dk dv,row=[dk,dv]∧Rep c dk e.key∧Rep c dv e.val)
theorem Z5i.mono {c c':Cx}{k:Nat}{L:Loc}(hx:c.Ext c')(hb:∀ b,c.M k=some (some b)→c'.w.heap[b]?=c.w.heap[b]?∧c'.fr b=c.fr b)(h:Z5i c k L):Z5i c' k L:=by
 cases h with
 | nil hM hr hf=>exact .nil (hx.M _ _ hM) hr hf
 | own b cs f hM hb0 hfr hlen hfz hlim hrow hcell hpos=>
  obtain ⟨h1,h2⟩:=hb b hM
  exact .own (hpos:=hpos) b cs f (hx.M _ _ hM) (h1.trans hb0) (h2.trans hfr) hlen hfz hlim hrow fun i j row d hi hj=>⟨(hcell i j row d hi hj).1,(hcell i j row d hi hj).2.1.mono hx,(hcell i j row d hi hj).2.2⟩
 | map b clock es hM hb0 hfr hsz hfz hlen hrow=>
  obtain ⟨h1,h2⟩:=hb b hM
  refine .map b clock es (hx.M _ _ hM) (h1.trans hb0) (h2.trans hfr) hsz hfz hlen fun i row e hi he=>?_
  obtain ⟨dk,dv,h3,h4,h5⟩:=hrow i row e hi he
  exact ⟨dk,dv,h3,h4.mono hx,h5.mono hx⟩
inductive TK where
 | int (k:IntKind) | bool | string | slice (e:TypeId) | array (n:Nat) (e:TypeId) | struct (fs:List (Nat×TypeId×Nat)) | pointer (e:TypeId) | func | map (k e:TypeId) | tuple
structure TyI where
 kind:TK
 size:Nat
 bytes:Nat
 zero:List Value
 eq:Bool
def TyI.agg (i:TyI):Bool:=match i.kind with | .struct _ | .array _ _=>true | _=>false
def TK.ok (P:Program):TK→TypeDesc→Prop
 | .int k,d=>d=.int k
 | .bool,d=>d=.bool
 | .string,d=>d=.string
 | .slice e,d=>d=.slice e
 | .array n e,d=>d=.array n e
 | .struct fs,d=>∃ F,d=.struct F∧F.toList.map (fun f=>(f.offset,f.type))=fs.map (fun x=>(x.1,x.2.1))∧∀ x∈fs,(P.info? x.2.1).map (·.size)=some x.2.2∧x.2.2≠0
 | .pointer e,d=>d=.pointer e
 | .func,d=>∃ a b v,d=.func a b v
 | .map k e,d=>d=.map k e
 | .tuple,d=>∃ a,d=.tuple a
structure TyOk (P:Program) (t:TypeId) (i:TyI):Prop where
 desc:∃ d,P.underlying t=some d∧i.kind.ok P d
 info:∃ f,P.info? t=some f∧f.size=i.size∧f.bytes=i.bytes∧∃ z,f.zero=some z∧z.cells.toList=i.zero∧z=(if i.agg then .agg i.zero.toArray else i.zero.headD undef)
 zlen:i.zero.length=i.size
 zone:∀ v∈i.zero,v.oneCell'=true
 room:i.bytes≤16384
 eqok:i.eq=true→∀ fs,i.kind=.struct fs→P.underlying t=some (.struct (P.fieldsOf t))∧P.stoodInHeld t=false∧P.eqGuardType P.depth t=false∧
  (P.fieldsOf t).toList.map (fun f => (f.name != "_", f.offset, f.type)) = fs.map (fun x => (true, x.1, x.2.1))
def D.ofC:Value→D
 | .slice none 0 0=>.nil
 | v=>.val v
def D.ofV:Value→D
 | .slice none 0 0=>.nil
 | .agg vs=>.agg (vs.toList.map D.ofC)
 | v=>.val v
def D.one:D→Bool
 | .any=>false
 | .val v=>v.oneCell'
 | .agg _=>false
 | .tup _=>false
 | .whn _ _=>false
 | _=>true
def D.flat:D→Option (List D)
 | .agg ds=>if ds.all D.one=true then some ds else none
 | d=>if d.one=true then some [d] else none
def Q7c (row:List D)(j:Nat)(ds:List D):List D:=row.take j++ds++row.drop (j+ds.length)
def Z9q (n:Nat)(row:List D)(j:Nat)(ds:List D):List D:=if ds.length=n then ds else Q7c row j ds
def D.ofCells (i:TyI)(ds:List D):D:=if i.agg=true then .agg ds else ds.headD .any
def updD (f:Nat→D)(i:Nat)(v:D):Nat→D:=fun j=>if j=i then v else f j
def updL (f:Nat→Option Loc)(i:Nat)(v:Option Loc):Nat→Option Loc:=fun j=>if j=i then v else f j
@[simp] theorem Z4c (f:Nat→D) (i:Nat) (v:D) (j:Nat):updD f i v j=if j=i then v else f j:=rfl
@[simp] theorem W3 (f:Nat→Option Loc) (i:Nat) (v:Option Loc) (j:Nat):updL f i v j=if j=i then v else f j:=rfl
structure St where
 t:Nat→D
 h:Nat→Option Loc
 next:Nat
 n:Nat
def St.get (σ:St):Operand→D
 | .tmp t=>σ.t t
 | .const v=>D.ofV v
 | .global _=>.any
 | .func f=>.clos f []
def St.put (σ:St)(dst:Option Tmp)(d:D):St:=match dst with | some s=>{ σ with t:=updD σ.t s d } | none=>σ
structure Base where
 c0:Cx
 mod:Nat→Prop
structure HOk (β:Base) (h:Nat→Option Loc) (c:Cx):Prop where
 ext:β.c0.Ext c
 os:c.w.os=β.c0.w.os
 tape:c.w.tape=β.c0.w.tape
 output:c.w.output=β.c0.w.output
 size:β.c0.w.heap.size≤c.w.heap.size
 old:∀ b,b<β.c0.w.heap.size→¬β.mod b→c.w.heap[b]?=β.c0.w.heap[b]?∧c.fr b=β.c0.fr b
 locs:∀ k L,h k=some L→Z5i c k L
 inj:∀ k k' b,(h k).isSome=true→(h k').isSome=true→c.M k=some (some b)→c.M k'=some (some b)→k=k'
 mine:∀ k b,(h k).isSome=true→c.M k=some (some b)→β.c0.w.heap.size≤b∨β.mod b
structure Conc (β:Base) (σ:St) (a:Act) (c:Cx):Prop where
 heap:HOk β σ.h c
 size:a.tmps.size=σ.n
 defers:a.defers=[]
 slots:∀ i,Rep c (σ.t i) (a.tmps.getD i undef)
 fresh:∀ k,σ.next≤k→σ.h k=none∧c.M k=none
theorem V7i (c:Cx)(v:Value):Rep c (D.ofC v) v:=by
 unfold D.ofC
 split
 ·exact .nil
 ·exact .val _
theorem Z7a (c:Cx)(v:Value):Rep c (D.ofV v) v:=by
 unfold D.ofV
 split
 ·exact .nil
 ·rename_i vs
  refine .agg _ _ (by simp) fun i d u h1 h2=>?_
  rw [List.getElem?_map,Array.getElem?_toList,h2] at h1
  cases h1
  exact V7i c u
 ·exact .val _
theorem Conc.get {β:Base}{σ:St}{a:Act}{c:Cx}(h:Conc β σ a c)(x:Operand):Rep c (σ.get x) (a.eval x):=by
 cases x with
 | tmp t=>exact h.slots t
 | const v=>exact Z7a c v
 | global g=>exact .any _
 | func f=>exact .clos f [] #[] rfl (fun i d v hd=>by simp at hd)
theorem Conc.put {β:Base}{σ:St}{a:Act}{c c':Cx}{h':Nat→Option Loc}{nx:Nat}{d:D}{v:Value}(h:Conc β σ a c)(hx:c.Ext c')(hh:HOk β h' c')
  (hf:∀ k,nx≤k→h' k=none∧c'.M k=none) (dst:Option Tmp) (hd:∀ s:Nat,dst=some s→s<σ.n) (hr:Rep c' d v) :
  Conc β ({ σ with h:=h',next:=nx }.put dst d) (a.put dst v) c':=by
 cases dst with
 | none=>exact ⟨hh,h.size,h.defers,fun i=>(h.slots i).mono hx,hf⟩
 | some s=>
  have hs:=hd s rfl
  refine ⟨hh,by simpa [Act.put,St.put] using h.size,h.defers,fun i=>?_,hf⟩
  simp only [St.put,Act.put,Z4c,Array.getD_eq_getD_getElem?,Array.getElem?_setIfInBounds]
  have hsz:=h.size
  by_cases hi:i=s
  ·subst hi
   have hlt:i<a.tmps.size:=by omega
   simp [hlt]
   exact hr
  ·have hi':¬s=i:=fun e=>hi e.symm
   simp only [hi,hi',if_false]
   have:=(h.slots i).mono hx
   simpa [Array.getD_eq_getD_getElem?] using this
theorem X07 {c:Cx}{d:D}{v:Value}(h:Rep c d v)(ho:d.one=true):v.oneCell'=true:=by
 cases h<;>first | rfl | (simp [D.one] at ho;try exact ho)
theorem HOk.kill {β:Base}{h:Nat→Option Loc}{c:Cx}(H:HOk β h c)(k:Nat):HOk β (updL h k none) c where
 ext:=H.ext
 os:=H.os
 tape:=H.tape
 output:=H.output
 size:=H.size
 old:=H.old
 locs:=fun k' L hk=>by
  simp only [W3] at hk
  split at hk
  ·cases hk
  ·exact H.locs k' L hk
 inj:=fun k1 k2 b h1 h2=>by
  simp only [W3] at h1 h2
  split at h1
  ·simp at h1
  ·split at h2
   ·simp at h2
   ·exact H.inj k1 k2 b h1 h2
 mine:=fun k1 b h1=>by
  simp only [W3] at h1
  split at h1
  ·simp at h1
  ·exact H.mine k1 b h1
theorem Z5i.lt {c:Cx}{k b:Nat}{L:Loc}(h:Z5i c k L)(hM:c.M k=some (some b)):b<c.w.heap.size:=by
 cases h with
 | nil h1=>rw [h1] at hM;cases hM
 | own b' cs f h1 hb=>
  rw [h1] at hM
  cases hM
  exact (Array.getElem?_eq_some_iff.1 hb).1
 | map b' clock es h1 hb=>
  rw [h1] at hM
  cases hM
  exact (Array.getElem?_eq_some_iff.1 hb).1
theorem HOk.drawn {β:Base}{h:Nat→Option Loc}{c:Cx}(H:HOk β h c){w':World}(hh:w'.heap=c.w.heap)(ho:w'.os=c.w.os)(ht:w'.tape=c.w.tape)(hu:w'.output=c.w.output) :
  c.Ext ⟨c.M,c.fr,w'⟩∧HOk β h ⟨c.M,c.fr,w'⟩:=by
 have hx:c.Ext ⟨c.M,c.fr,w'⟩:=
  ⟨by simp [hh],fun _ _ h=>h,fun _ _=>Nat.le_refl _,fun b o _ _=>by simp [World.cell?,hh],fun b cs e f hb=>⟨cs,f,by simpa [hh] using hb,rfl⟩⟩
 refine ⟨hx,⟨H.ext.trans hx,ho.trans H.os,ht.trans H.tape,hu.trans H.output,by simpa [hh] using H.size,fun b hb hm=>by simpa [hh] using H.old b hb hm,fun k L hk=>?_,H.inj,H.mine⟩⟩
 exact (H.locs k L hk).mono hx fun b _=>⟨by simp [hh],rfl⟩
theorem HOk.alloc {β:Base}{h:Nat→Option Loc}{c:Cx}(H:HOk β h c){nm:Nat}(hn:h nm=none)(hM:c.M nm=none){w':World}(L:Loc)(cs:Array Value)(f:Nat→Nat→Value)(hpos:0<L.sz)
  (hh:w'.heap=c.w.heap.push (.cells cs L.el)) (ho:w'.os=c.w.os) (ht:w'.tape=c.w.tape) (hu:w'.output=c.w.output)
  (hlen:L.rows.length * L.sz≤cs.size) (hfz:L.fz≤L.rows.length * L.sz) (hlim:L.rows.length≤Q0c) (hrow:∀ row∈L.rows,row.length=L.sz)
  (hcell:∀ (i j:Nat) (row:List D) (d:D),L.rows[i]?=some row→row[j]?=some d→cs[i * L.sz+j]?=some (f i j)∧Rep c d (f i j)∧(f i j).oneCell'=true) :
  ∃ c':Cx,c'=⟨fun k=>if k=nm then some (some c.w.heap.size) else c.M k,fun b=>if b=c.w.heap.size then L.fz else c.fr b,w'⟩∧c.Ext c'∧HOk β (updL h nm (some L)) c':=by
 refine ⟨_,rfl,?_⟩
 have hne:∀ b,b<c.w.heap.size→b≠c.w.heap.size:=fun b hb e=>by omega
 have hold:∀ b,b<c.w.heap.size→w'.heap[b]?=c.w.heap[b]?:=fun b hb=>by rw [hh,Array.getElem?_push,if_neg (hne b hb)]
 have hx:c.Ext ⟨fun k=>if k=nm then some (some c.w.heap.size) else c.M k,fun b=>if b=c.w.heap.size then L.fz else c.fr b,w'⟩:=by
  refine ⟨by simp [hh],fun k x hk=>?_,fun b hb=>by simp [hne b hb],fun b o hb _=>?_,fun b cs e f hb=>?_⟩
  ·have:k≠nm:=fun e=>by subst e;rw [hM] at hk;cases hk
   simpa [this] using hk
  ·simp only [World.cell?,hold b hb]
  ·have hlt:=(Array.getElem?_eq_some_iff.1 hb).1
   exact ⟨cs,f,by show w'.heap[b]?=_;rw [hold b hlt];exact hb,rfl⟩
 have hMold:∀ k b,k≠nm→(if k=nm then some (some c.w.heap.size) else c.M k)=some (some b)→c.M k=some (some b):=fun k b hk e=>by simpa [hk] using e
 refine ⟨hx,⟨H.ext.trans hx,ho.trans H.os,ht.trans H.tape,hu.trans H.output,Nat.le_trans H.size (by simp [hh]),fun b hb hm=>?_,fun k L' hk=>?_,fun k1 k2 b h1 h2 e1 e2=>?_,fun k b h1 e1=>?_⟩⟩
 ·have hlt:=Nat.lt_of_lt_of_le hb H.size
  refine ⟨(hold b hlt).trans (H.old b hb hm).1,?_⟩
  simp only [hne b hlt,if_false]
  exact (H.old b hb hm).2
 ·simp only [W3] at hk
  split at hk
  ·rename_i hkn
   cases hk
   subst hkn
   refine .own (hpos:=hpos) c.w.heap.size cs f (by simp) (by simp [hh]) (by simp) hlen hfz hlim hrow fun i j row d hi hj=>?_
   exact ⟨(hcell i j row d hi hj).1,(hcell i j row d hi hj).2.1.mono hx,(hcell i j row d hi hj).2.2⟩
  ·rename_i hkn
   refine (H.locs k L' hk).mono hx fun b hb=>?_
   have hlt:=(H.locs k L' hk).lt hb
   exact ⟨hold b hlt,by simp [hne b hlt]⟩
 ·have lt:∀ k b,k≠nm→(updL h nm (some L) k).isSome=true→c.M k=some (some b)→b<c.w.heap.size:=fun k b hk hs hb=>by
   simp only [W3,hk,if_false] at hs
   obtain ⟨L',hL⟩:=Option.isSome_iff_exists.1 hs
   exact (H.locs k L' hL).lt hb
  by_cases ha:k1=nm<;>by_cases hb:k2=nm
  ·rw [ha,hb]
  ·simp [ha] at e1
   have:=lt k2 b hb h2 (hMold k2 b hb e2)
   omega
  ·simp [hb] at e2
   have:=lt k1 b ha h1 (hMold k1 b ha e1)
   omega
  ·simp only [W3,ha,hb,if_false] at h1 h2
   exact H.inj k1 k2 b h1 h2 (hMold k1 b ha e1) (hMold k2 b hb e2)
 ·by_cases ha:k=nm
  ·simp [ha] at e1
   left
   have:=H.size
   omega
  ·simp only [W3,ha,if_false] at h1
   exact H.mine k b h1 (hMold k b ha e1)
theorem HOk.nilloc {β:Base}{h:Nat→Option Loc}{c:Cx}(H:HOk β h c){nm:Nat}(hM:c.M nm=none)(sz:Nat)(el:TypeId) :
  ∃ c':Cx,c'=⟨fun k=>if k=nm then some none else c.M k,c.fr,c.w⟩∧c.Ext c'∧HOk β (updL h nm (some ⟨sz,[],0,el⟩)) c':=by
 refine ⟨_,rfl,?_⟩
 have hx:c.Ext ⟨fun k=>if k=nm then some none else c.M k,c.fr,c.w⟩:=by
  refine ⟨Nat.le_refl _,fun k x hk=>?_,fun b _=>Nat.le_refl _,fun b o _ _=>rfl,fun b cs e f hb=>⟨cs,f,hb,rfl⟩⟩
  have:k≠nm:=fun e=>by subst e;rw [hM] at hk;cases hk
  simpa [this] using hk
 have hMold:∀ k b,(if k=nm then some none else c.M k)=some (some b)→k≠nm∧c.M k=some (some b):=fun k b e=>by
  by_cases hk:k=nm
  ·simp [hk] at e
  ·simp [hk] at e;exact ⟨hk,e⟩
 refine ⟨hx,⟨H.ext.trans hx,H.os,H.tape,H.output,H.size,H.old,fun k L' hk=>?_,fun k1 k2 b h1 h2 e1 e2=>?_,fun k b h1 e1=>?_⟩⟩
 ·simp only [W3] at hk
  split at hk
  ·rename_i hkn
   cases hk
   exact .nil (by simp [hkn]) rfl rfl
  ·exact (H.locs k L' hk).mono hx fun b _=>⟨rfl,rfl⟩
 ·obtain ⟨n1,m1⟩:=hMold k1 b e1
  obtain ⟨n2,m2⟩:=hMold k2 b e2
  simp only [W3,n1,n2,if_false] at h1 h2
  exact H.inj k1 k2 b h1 h2 m1 m2
 ·obtain ⟨n1,m1⟩:=hMold k b e1
  simp only [W3,n1,if_false] at h1
  exact H.mine k b h1 m1
theorem HOk.write {β:Base}{h:Nat→Option Loc}{c:Cx}(H:HOk β h c){k k' b:Nat}{L:Loc}(hk:h k=some L)(hMk:c.M k=some (some b))(hk':k'=k∨c.M k'=none)
  {w':World} (L':Loc) (cs cs':Array Value) (f:Nat→Nat→Value) (hpos:0<L'.sz) (hb:c.w.heap[b]?=some (.cells cs L.el (0,0)))
  (hb':w'.heap[b]?=some (.cells cs' L.el (0,0))) (hoth:∀ x,x≠b→w'.heap[x]?=c.w.heap[x]?) (hsize:w'.heap.size=c.w.heap.size)
  (ho:w'.os=c.w.os) (ht:w'.tape=c.w.tape) (hu:w'.output=c.w.output)
  (hcs:cs'.size=cs.size) (hfr:∀ o,o<L.fz→cs'[o]?=cs[o]?) (hel:L'.el=L.el) (hfzL:L'.fz=L.fz)
  (hlen:L'.rows.length * L'.sz≤cs'.size) (hfz:L'.fz≤L'.rows.length * L'.sz) (hlim:L'.rows.length≤Q0c) (hrow:∀ row∈L'.rows,row.length=L'.sz)
  (hcell:∀ (i j:Nat) (row:List D) (d:D),L'.rows[i]?=some row→row[j]?=some d→cs'[i * L'.sz+j]?=some (f i j)∧Rep c d (f i j)∧(f i j).oneCell'=true) :
  ∃ c':Cx,c'=⟨fun x=>if x=k' then some (some b) else c.M x,c.fr,w'⟩∧c.Ext c'∧HOk β (updL (updL h k none) k' (some L')) c':=by
 refine ⟨_,rfl,?_⟩
 have hfrb:c.fr b=L.fz:=by
  cases H.locs k L hk with
  | nil h1=>rw [h1] at hMk;cases hMk
  | own b2 cs2 f2 h1 _ h3=>rw [h1] at hMk;cases hMk;exact h3
  | map b2 _ _ h1 h2=>rw [h1] at hMk;cases hMk;rw [hb] at h2;cases h2
 have hx:c.Ext ⟨fun x=>if x=k' then some (some b) else c.M x,c.fr,w'⟩:=by
  refine ⟨by simp [hsize],fun x y hxy=>?_,fun b _=>Nat.le_refl _,fun x o hxl hxo=>?_,fun x cs0 e f0 hx0=>?_⟩
  ·by_cases hxk:x=k'
   ·rcases hk' with rfl | hn
    ·subst hxk;rw [hMk] at hxy;simpa using hxy
    ·subst hxk;rw [hn] at hxy;cases hxy
   ·simpa [hxk] using hxy
  ·by_cases hxb:x=b
   ·subst hxb
    simp only [World.cell?,hb,hb']
    simpa using hfr o (by omega)
   ·simp only [World.cell?,hoth x hxb]
  ·by_cases hxb:x=b
   ·subst hxb
    rw [hb] at hx0
    cases hx0
    exact ⟨cs',(0,0),hb',hcs⟩
   ·exact ⟨cs0,f0,by show w'.heap[x]?=_;rw [hoth x hxb];exact hx0,rfl⟩
 have hsome:(h k).isSome=true:=by simp [hk]
 have hsrc:∀ x y,(updL (updL h k none) k' (some L') x).isSome=true→(if x=k' then some (some b) else c.M x)=some (some y)→
   (x=k'∧y=b)∨(x≠k'∧x≠k∧(h x).isSome=true∧c.M x=some (some y)):=fun x y h1 e1=>by
  by_cases hxk:x=k'
  ·left;simp [hxk] at e1;exact ⟨hxk,e1.symm⟩
  ·right
   simp only [W3,hxk,if_false] at h1 e1
   split at h1
   ·simp at h1
   ·exact ⟨hxk,by assumption,h1,e1⟩
 refine ⟨hx,⟨H.ext.trans hx,ho.trans H.os,ht.trans H.tape,hu.trans H.output,by simpa [hsize] using H.size,fun x hx1 hm=>?_,fun x L2 hx2=>?_,fun x y z h1 h2 e1 e2=>?_,fun x y h1 e1=>?_⟩⟩
 ·have hxb:x≠b:=fun e=>by
   subst e
   rcases H.mine k x hsome hMk with h1 | h1
   ·omega
   ·exact hm h1
  exact ⟨(hoth x hxb).trans (H.old x hx1 hm).1,(H.old x hx1 hm).2⟩
 ·simp only [W3] at hx2
  split at hx2
  ·rename_i hxk
   cases hx2
   refine .own (hpos:=hpos) b cs' f (by simp [hxk]) (by rw [hel];exact hb') (by rw [hfzL];exact hfrb) hlen hfz hlim hrow fun i j row d hi hj=>?_
   exact ⟨(hcell i j row d hi hj).1,(hcell i j row d hi hj).2.1.mono hx,(hcell i j row d hi hj).2.2⟩
  ·split at hx2
   ·cases hx2
   ·rename_i hxk' hxk
    refine (H.locs x L2 hx2).mono hx fun y hy=>⟨?_,rfl⟩
    have:y≠b:=fun e=>hxk (H.inj x k b (by simp [hx2]) hsome (e▸hy) hMk)
    exact hoth y this
 ·rcases hsrc x z h1 e1 with ⟨rfl,rfl⟩ | ⟨n1,n2,s1,m1⟩<;>rcases hsrc y _ h2 e2 with ⟨rfl,he⟩ | ⟨n3,n4,s2,m2⟩
  ·rfl
  ·exact absurd (H.inj y k _ s2 hsome m2 hMk) n4
  ·subst he
   exact absurd (H.inj x k _ s1 hsome m1 hMk) n2
  ·exact H.inj x y _ s1 s2 m1 m2
 ·rcases hsrc x y h1 e1 with ⟨rfl,rfl⟩ | ⟨n1,n2,s1,m1⟩
  ·exact H.mine k _ hsome hMk
  ·exact H.mine x y s1 m1
structure Res where
 ok:Prop
 d:D
 h:Nat→Option Loc
def Z4s:Op→Bool
 | .alloc _ | .box .. | .buildSlice .. | .store .. | .makeMap .. | .makeSlice ..=>true
 | .call c=>match c.callee with
  | .builtin .append=>true
  | _=>false
 | _=>false
def OpOk (P:Program)(β:Base)(σ:St)(a:Act)(c:Cx)(nm:Nat)(o:Oper)(r:Res):Prop:=
 ∃ v c',((execOp a.eval o).run P c.w=.ok (.value v) c'.w∨((execOp a.eval o).run P c.w=.ok .skip c'.w∧v=undef))∧
  c.Ext c'∧Rep c' r.d v∧HOk β r.h c'∧(∀ k,k≠nm→c'.M k=c.M k)∧(∀ k,k≠nm→σ.h k=none→r.h k=none)∧(Z4s o.op=false→c'.M=c.M)
theorem OpOk.same {P:Program}{β:Base}{σ:St}{a:Act}{c:Cx}{nm:Nat}{o:Oper}{p:Prop}{d:D}{v:Value}(H:Conc β σ a c)
  (hr:(execOp a.eval o).run P c.w=.ok (.value v) c.w) (hv:Rep c d v):OpOk P β σ a c nm o ⟨p,d,σ.h⟩:=
 ⟨v,c,.inl hr,.refl c,hv,H.heap,fun _ _=>rfl,fun _ _ h=>h,fun _=>rfl⟩
theorem Z5w {c:Cx}{d:D}{v:Value}{ds:List D}(h:Rep c d v)(hf:d.flat=some ds) :
  v.cells.size=ds.length∧(∀ (j:Nat) (d':D),ds[j]?=some d'→∃ u,v.cells[j]?=some u∧Rep c d' u∧u.oneCell'=true)∧∀ u∈v.cells.toList,u.oneCell'=true:=by
 have one:∀ (d:D) (v:Value),Rep c d v→d.one=true→v.cells = #[v]:=fun d v h ho=>by
  have:=X07 h ho
  cases v<;>first | rfl | (simp [Value.oneCell'] at this)
 have single:∀ (d:D) (v:Value),Rep c d v→d.one=true→v.cells.size=[d].length∧(∀ (j:Nat) (d':D),[d][j]?=some d'→∃ u,v.cells[j]?=some u∧Rep c d' u∧u.oneCell'=true)∧∀ u∈v.cells.toList,u.oneCell'=true:=fun d v h ho=>by
  rw [one d v h ho]
  refine ⟨rfl,fun j d' hj=>?_,fun u hu=>?_⟩
  ·cases j with
   | zero=>simp at hj;subst hj;exact ⟨v,by simp,h,X07 h ho⟩
   | succ j=>simp at hj
  ·simp at hu;subst hu;exact X07 h ho
 cases d with
 | agg ds0=>
  simp only [D.flat] at hf
  split at hf
  ·rename_i hall
   cases hf
   cases h with
   | agg ds vs hlen hh=>
    have hone:∀ (j:Nat) (d':D),ds[j]?=some d'→d'.one=true:=fun j d' hj=>by
     have:=List.all_eq_true.1 hall d' (U1 hj)
     exact this
    refine ⟨hlen,fun j d' hj=>?_,fun u hu=>?_⟩
    ·have hlt:j<vs.size:=by
      have:=(List.getElem?_eq_some_iff.1 hj).1
      omega
     exact ⟨vs[j],by simp [Value.cells,hlt],hh j d' _ hj (by simp [hlt]),X07 (hh j d' _ hj (by simp [hlt])) (hone j d' hj)⟩
    ·obtain ⟨j,hj⟩:=List.mem_iff_getElem?.1 hu
     simp only [Value.cells,Array.getElem?_toList] at hj
     have hlt:j<ds.length:=by
      have:=(Array.getElem?_eq_some_iff.1 hj).1
      omega
     exact X07 (hh j ds[j] u (by simp [hlt]) hj) (hone j ds[j] (by simp [hlt]))
  ·cases hf
 | _=>
  simp only [D.flat] at hf
  split at hf
  ·rename_i ho
   cases hf
   exact single _ v h ho
  ·cases hf
theorem Z16 (b o n:Nat):(⟨b,o,none⟩:Addr).add n=⟨b,o+n,none⟩:=by unfold Addr.add;split<;>simp_all
theorem W1 {c:Cx}{u v:Value}(h:Rep c (.val u) v):v=u:=by cases h;rfl
theorem W9o {P:Program}{β:Base}{σ:St}{a:Act}{c:Cx}{nm:Nat}{o:Oper}(H:Conc β σ a c)(x:Operand)(ho:o.op=.move x∨o.op=.assign x)(p:Prop) :
  OpOk P β σ a c nm o ⟨p,σ.get x,σ.h⟩:=by
 refine OpOk.same (v:=a.eval x) H ?_ (H.get x)
 rcases ho with ho | ho<;>simp [execOp,ho]
def D.under (g:List Bool):D→D
 | .whn es d=>if es.isPrefixOf g=true then d else .any
 | d=>d
theorem X3s:∀ {es g:List Bool},es.isPrefixOf g=true→g.all id=true→es.all id=true
 | [],_,_,_=>rfl
 | _::_,[],h,_=>by cases h
 | e::es,x::g,h,hg=>by
  simp only [List.isPrefixOf,Bool.and_eq_true,beq_iff_eq] at h
  simp only [List.all_cons,id,Bool.and_eq_true] at hg ⊢
  exact ⟨h.1▸hg.1,X3s h.2 hg.2⟩
theorem X06 {c:Cx}{g:List Bool}(hg:g.all id=true){d:D}{v:Value}(h:Rep c d v):Rep c (d.under g) v:=by
 unfold D.under
 split
 ·rename_i es d
  split
  ·rename_i hp
   cases h with
   | whn _ _ _ h _=>exact h (X3s hp hg)
  ·exact .any v
 ·exact h
def W7j (b:Bool)(x y:D):D:=
 match x,y with
 | .val (.bool p),.val (.bool q)=>.val (.bool (if b=true then p else q))
 | x,y=>if b=true then x else y
theorem V2g {c:Cx}{b:Bool}{x y:D}{v:Value}(h1:b=true→Rep c x v)(h2:b=false→Rep c y v):Rep c (W7j b x y) v:=by
 unfold W7j
 split
 ·cases b
  ·simpa using h2 rfl
  ·simpa using h1 rfl
 ·cases b
  ·simpa using h2 rfl
  ·simpa using h1 rfl
theorem V8o {P:Program}{β:Base}{σ:St}{a:Act}{c:Cx}{nm:Nat}{o:Oper}(H:Conc β σ a c)(x y z:Operand)(ho:o.op=.pick x y z){g:List Bool}(hg:g.all id=true)
  (b:Bool) (hx:(σ.get x).under g=.val (.bool b)) (p:Prop) :
  OpOk P β σ a c nm o ⟨p,W7j b ((σ.get y).under (g++[b])) ((σ.get z).under (g++[!b])),σ.h⟩:=by
 have h:=X06 hg (H.get x)
 rw [hx] at h
 have he:a.eval x=.bool b:=W1 h
 refine OpOk.same (v:=if b=true then a.eval y else a.eval z) H ?_ (V2g (fun hb=>?_) (fun hb=>?_))
 ·cases b<;>simp [execOp,ho,he,asBool]
 ·subst hb;exact X06 (by simpa using hg) (H.get y)
 ·subst hb;exact X06 (by simpa using hg) (H.get z)
theorem TyOk.find {P:Program}{t:TypeId}{i:TyI}(h:TyOk P t i):∃ f,P.info? t=some f∧f.size=i.size∧f.bytes=i.bytes:=by
 obtain ⟨f,h1,h2,h3,_⟩:=h.info
 exact ⟨f,h1,h2,h3⟩
theorem X62 (h:Nat→Option Loc)(k:Nat)(x y:Option Loc):updL (updL h k x) k y=updL h k y:=by
 funext j
 simp only [W3]
 split<;>rfl
theorem HOk.newVar {β:Base}{h:Nat→Option Loc}{c:Cx}(H:HOk β h c){nm:Nat}(hn:h nm=none)(hM:c.M nm=none)(t:TypeId)(ds:List D)(vs:Array Value)(hds:0<ds.length)
  (hlen:vs.size=ds.length) (hr:∀ (j:Nat) (d:D),ds[j]?=some d→∃ u,vs[j]?=some u∧Rep c d u∧u.oneCell'=true) :
  ∃ c':Cx,c'.w=c.w.alloc (.cells vs t)∧c.Ext c'∧HOk β (updL h nm (some ⟨ds.length,[ds],0,t⟩)) c'∧c'.M nm=some (some c.w.heap.size)∧∀ k,k≠nm→c'.M k=c.M k:=by
 obtain ⟨c',hc',hx,hh⟩:=H.alloc hn hM (w':=c.w.alloc (.cells vs t)) ⟨ds.length,[ds],0,t⟩ vs (fun _ j=>vs[j]?.getD undef) hds rfl rfl rfl rfl (by simp [hlen]) (Nat.zero_le _) (by simp [Q0c]) (by simp)
  (fun i j row d hi hj=>by
   cases i with
   | succ i=>simp at hi
   | zero=>
    simp at hi
    subst hi
    obtain ⟨u,hu,hru,hro⟩:=hr j d hj
    simp [hu,hru,hro])
 subst hc'
 exact ⟨_,rfl,hx,hh,by simp,fun k hk=>by simp [hk]⟩
theorem Y3r {P:Program}{β:Base}{σ:St}{a:Act}{c:Cx}{nm:Nat}{o:Oper}(H:Conc β σ a c)(hn:σ.h nm=none)(hM:c.M nm=none)(t:TypeId)(x:Operand)(ho:o.op=.box t x)
  (ds:List D) (hf:(σ.get x).flat=some ds) (p:Prop) (h0:0<ds.length) :
  OpOk P β σ a c nm o ⟨p,.ptr ds.length nm 0 0,updL σ.h nm (some ⟨ds.length,[ds],0,t⟩)⟩:=by
 obtain ⟨h1,h2,_⟩:=Z5w (H.get x) hf
 obtain ⟨c',hw,hx,hh,hm,ho'⟩:=H.heap.newVar hn hM t ds (a.eval x).cells h0 h1 h2
 refine ⟨.pointer (some ⟨c.w.heap.size,0,none⟩),c',.inl ?_,hx,?_,hh,ho',fun k hk h=>by simp [hk,h],fun hm0=>by simp [ho,Z4s] at hm0⟩
 ·rw [hw]
  simp [execOp,ho,Instr.box,newVar,newRow]
 ·have:=Rep.ptr (c:=c') ds.length nm 0 0 _ hm h0
  simpa using this
theorem V4l {P:Program}{β:Base}{σ:St}{a:Act}{c:Cx}{nm:Nat}{o:Oper}(H:Conc β σ a c)(hn:σ.h nm=none)(hM:c.M nm=none)(t:TypeId)(ho:o.op=.alloc t)
  {i:TyI} (ht:TyOk P t i) (p:Prop) (h0:0<i.size) :
  OpOk P β σ a c nm o ⟨p,.ptr i.size nm 0 0,updL σ.h nm (some ⟨i.size,[i.zero.map D.ofV],0,t⟩)⟩:=by
 obtain ⟨f,hf1,hf2,hf3,z,hz1,hz2,hz3⟩:=ht.info
 have hl:(i.zero.map D.ofV).length=i.size:=by simp [ht.zlen]
 obtain ⟨c',hw,hx,hh,hm,ho'⟩:=H.heap.newVar hn hM t (i.zero.map D.ofV) z.cells (by rw [hl];exact h0) (by rw [hl,←ht.zlen,←hz2];simp) (fun j d hj=>by
  simp only [List.getElem?_map,U12] at hj
  obtain ⟨u,hu,rfl⟩:=hj
  refine ⟨u,?_,Z7a _ u,ht.zone u (U1 hu)⟩
  rw [←hz2] at hu
  simpa using hu)
 rw [hl] at hh
 refine ⟨.pointer (some ⟨c.w.heap.size,0,none⟩),c',.inl ?_,hx,?_,hh,ho',fun k hk h=>by simp [hk,h],fun hm0=>by simp [ho,Z4s] at hm0⟩
 ·rw [hw]
  simp [execOp,ho,Instr.alloc,zeroValue,typeInfo,hf1,hz1,newVar,newRow]
 ·have:=Rep.ptr (c:=c') i.size nm 0 0 _ hm h0
  simpa using this
theorem Z19 {c:Cx}{sz k i j:Nat}{v:Value}(h:Rep c (.ptr sz k i j) v):∃ b,c.M k=some (some b)∧v=.pointer (some ⟨b,i * sz+j,none⟩)∧0<sz:=by
 cases h with
 | ptr _ _ _ _ b hM hsz=>exact ⟨b,hM,rfl,hsz⟩
theorem Z4g {c:Cx}{ds:List D}{v:Value}(h:Rep c (.cptr ds) v):∃ (b o:Nat) (f:Nat→Value),v=.pointer (some ⟨b,o,none⟩)∧
  (∀ (j:Nat) (d:D),ds[j]?=some d→c.w.cell? ⟨b,o+j,none⟩=some (f j)∧o+j<c.fr b)∧∀ (j:Nat) (d:D),ds[j]?=some d→Rep c d (f j):=by
 cases h with
 | cptr _ b o f h1 h2=>exact ⟨b,o,f,rfl,h1,h2⟩
theorem X87 {c:Cx}{ds:List D}{b o n:Nat}{f:Nat→Value}(h1:∀ (j:Nat) (d:D),ds[j]?=some d→c.w.cell? ⟨b,o+j,none⟩=some (f j)∧o+j<c.fr b)
  (h2:∀ (j:Nat) (d:D),ds[j]?=some d→Rep c d (f j)):Rep c (.cptr (ds.drop n)) (.pointer (some ⟨b,o+n,none⟩)):=by
 refine .cptr _ b (o+n) (fun j=>f (n+j)) (fun j d hj=>?_) (fun j d hj=>?_)
 ·simp only [List.getElem?_drop] at hj
  rw [Nat.add_assoc]
  exact h1 (n+j) d hj
 ·simp only [List.getElem?_drop] at hj
  exact h2 (n+j) d hj
theorem X6n {P:Program}{s t:TypeId}{i:TyI}(ht:TyOk P s i){fs:List (Nat×TypeId×Nat)}(hk:i.kind=.struct fs){n off sz:Nat}(hn:fs[n]?=some (off,t,sz))(w:World)(b o:Nat) :
  (Instr.fieldAt s (.pointer (some ⟨b,o,none⟩)) n).run P w=.ok (.pointer (some ⟨b,o+off,none⟩)) w:=by
 obtain ⟨d,hd,hok⟩:=ht.desc
 rw [hk] at hok
 obtain ⟨F,rfl,hF,hs⟩:=hok
 have hm:(off,t,sz)∈fs:=U1 hn
 obtain ⟨hs1,hs2⟩:=hs _ hm
 simp only at hs1 hs2
 have hFn:(F.toList.map (fun f=>(f.offset,f.type)))[n]?=some (off,t):=by rw [hF];simp [hn]
 simp only [List.getElem?_map,Array.getElem?_toList,U12,Prod.mk.injEq] at hFn
 obtain ⟨f,hf,hfo,hft⟩:=hFn
 simp only [U12] at hs1
 obtain ⟨g,hg,hgs⟩:=hs1
 have hgs':¬g.size=0:=by omega
 simp [Instr.fieldAt,run_underlying hd,hf,Instr.sureAddr,fieldPlace,sizeOf,typeInfo,hft,hg,hgs',hfo,Z16]
theorem Z8h {P:Program}{β:Base}{σ:St}{a:Act}{c:Cx}{nm:Nat}{o:Oper}(H:Conc β σ a c)(s t:TypeId)(x:Operand)(n:Nat)(ho:o.op=.fieldAddr s x n)
  {i:TyI} (ht:TyOk P s i) {fs:List (Nat×TypeId×Nat)} (hk:i.kind=.struct fs) {off sz':Nat} (hn:fs[n]?=some (off,t,sz')) (p:Prop) :
  (∀ sz k r j,σ.get x=.ptr sz k r j→OpOk P β σ a c nm o ⟨p,.ptr sz k r (j+off),σ.h⟩)∧
  (∀ ds,σ.get x=.cptr ds→OpOk P β σ a c nm o ⟨p,.cptr (ds.drop off),σ.h⟩):=by
 refine ⟨fun sz k r j hx=>?_,fun ds hx=>?_⟩
 ·have h:=H.get x
  rw [hx] at h
  obtain ⟨b,hM,he,hsz⟩:=Z19 h
  refine OpOk.same (v:=.pointer (some ⟨b,r * sz+(j+off),none⟩)) H ?_ (.ptr _ _ _ _ _ hM hsz)
  simp [execOp,ho,he,X6n ht hk hn,Nat.add_assoc]
 ·have h:=H.get x
  rw [hx] at h
  obtain ⟨b,o',f,he,h1,h2⟩:=Z4g h
  refine OpOk.same (v:=.pointer (some ⟨b,o'+off,none⟩)) H ?_ (X87 h1 h2)
  simp [execOp,ho,he,X6n ht hk hn]
theorem Z58 {P:Program}{t:TypeId}{i:TyI}(ht:TyOk P t i)(w:World):(isAgg t).run P w=.ok i.agg w:=by
 obtain ⟨d,hd,hok⟩:=ht.desc
 unfold isAgg TyI.agg
 cases hk:i.kind<;>rw [hk] at hok<;>simp only [TK.ok] at hok<;>(try (obtain ⟨a1,rfl,_⟩:=hok))<;>(try (obtain ⟨a1,a2,a3,rfl⟩:=hok))<;>(try (obtain ⟨a1,rfl⟩:=hok))<;>(try subst hok)<;>simp [run_underlying hd]
theorem Z5t {P:Program}{t:TypeId}{i:TyI}(ht:TyOk P t i){c:Cx}{b o:Nat}{ds:List D}{f:Nat→Value}(hl:ds.length=i.size)(h1s:i.agg=false→i.size=1)
  (h1:∀ (j:Nat) (d:D),ds[j]?=some d→c.w.cell? ⟨b,o+j,none⟩=some (f j)) (h2:∀ (j:Nat) (d:D),ds[j]?=some d→Rep c d (f j)) :
  ∃ v,(Instr.loadAt t (.pointer (some ⟨b,o,none⟩))).run P c.w=.ok v c.w∧Rep c (D.ofCells i ds) v:=by
 obtain ⟨g,hg1,hg2,_⟩:=ht.find
 have hcell:∀ j,j<i.size→c.w.cell? ⟨b,o+j,none⟩=some (f j):=fun j hj=>h1 j ds[j] (by simp [hl,hj])
 cases ha:i.agg with
 | true=>
  have hr:=run_loadCells (P:=P) c.w ⟨b,o,none⟩ i.size f (fun j hj=>by rw [Z16];exact hcell j hj)
  refine ⟨.agg (List.map f (List.range i.size)).toArray,by simp only [Instr.loadAt,Instr.sureAddr,loadVar,Sem.run_bind,Sem.run_pure,Result.andThen_ok,Z58 ht,ha,if_true,sizeOf,typeInfo,run_program,hg1,hg2,hr],?_⟩
  simp only [D.ofCells,ha,if_true]
  refine .agg _ _ (by simp [hl]) fun j d v hj hv=>?_
  have hlt:j<i.size:=by have:=(List.getElem?_eq_some_iff.1 hj).1;omega
  simp [hlt] at hv
  rw [←hv]
  exact h2 j d hj
 | false=>
  have hs:=h1s ha
  refine ⟨f 0,?_,?_⟩
  ·simp [Instr.loadAt,Instr.sureAddr,loadVar,Z58 ht,ha,hcell 0 (by omega)]
   have:=hcell 0 (by omega)
   simp at this
   simp [this]
  ·simp only [D.ofCells,ha]
   cases ds with
   | nil=>simp at hl;omega
   | cons d ds=>exact h2 0 d rfl
theorem getD_some {α:Type}{l:List α}{n:Nat}{d:α}(h:n<l.length):l[n]?=some (l.getD n d):=by
 simp [List.getD_eq_getElem?_getD,h]
theorem Z5i.block {c:Cx}{k b:Nat}{L:Loc}(h:Z5i c k L)(hM:c.M k=some (some b))(h0:0<L.sz) :
  ∃ (cs:Array Value) (f:Nat→Nat→Value),c.w.heap[b]?=some (.cells cs L.el (0,0))∧c.fr b=L.fz∧L.rows.length * L.sz≤cs.size∧L.fz≤L.rows.length * L.sz∧L.rows.length≤Q0c∧(∀ row∈L.rows,row.length=L.sz)∧
   ∀ (i j:Nat) (row:List D) (d:D),L.rows[i]?=some row→row[j]?=some d→cs[i * L.sz+j]?=some (f i j)∧Rep c d (f i j)∧(f i j).oneCell'=true:=by
 cases h with
 | nil h1=>rw [h1] at hM;cases hM
 | own b' cs f h1 h2 h3 h4 h5 h6 h7 h8=>
  rw [h1] at hM
  cases hM
  exact ⟨cs,f,h2,h3,h4,h5,h6,h7,h8⟩
 | map _ _ _ _ _ _ hs=>omega
theorem Q77 {α:Type}{l:List α}{j n i:Nat}{x:α}(h:((l.drop j).take n)[i]?=some x):l[j+i]?=some x∧i<n:=by
 simp only [List.getElem?_take] at h
 split at h
 ·simp only [List.getElem?_drop] at h
  exact ⟨h,by assumption⟩
 ·cases h
theorem W0u {P:Program}{β:Base}{σ:St}{a:Act}{c:Cx}{nm:Nat}{o:Oper}(H:Conc β σ a c)(t:TypeId)(x:Operand)(ho:o.op=.load t x)
  {i:TyI} (ht:TyOk P t i) (h1s:i.agg=false→i.size=1) {sz k r j:Nat} (hx:σ.get x=.ptr sz k r j) {L:Loc} (hk:σ.h k=some L) (p:Prop)
  (h1:L.sz=sz) (h2:r<L.rows.length) (h3:j+i.size≤sz) :
  OpOk P β σ a c nm o ⟨p,D.ofCells i (((L.rows.getD r []).drop j).take i.size),σ.h⟩:=by
 have h:=H.get x
 rw [hx] at h
 obtain ⟨b,hM,he,hsz0⟩:=Z19 h
 obtain ⟨cs,f,hb,hfr,hlen,hfz,hlim,hrow,hcell⟩:=(H.heap.locs k L hk).block hM (by omega)
 have hget:=getD_some (d:=[]) h2
 have hrl:=hrow _ (U1 hget)
 subst h1
 obtain ⟨v,hr,hv⟩:=Z5t (P:=P) ht (c:=c) (b:=b) (o:=r * L.sz+j) (ds:=((L.rows.getD r []).drop j).take i.size) (f:=fun q=>f r (j+q)) (by simp only [U6,List.length_drop];omega) h1s
  (fun q d hq=>by
   obtain ⟨hq1,_⟩:=Q77 hq
   have:=(hcell r (j+q) _ d hget hq1).1
   simp only [World.cell?,hb]
   simpa [Nat.add_assoc] using this)
  (fun q d hq=>by
   obtain ⟨hq1,_⟩:=Q77 hq
   exact (hcell r (j+q) _ d hget hq1).2.1)
 refine OpOk.same (v:=v) H ?_ hv
 simp [execOp,ho,he,hr]
theorem X7x {P:Program}{β:Base}{σ:St}{a:Act}{c:Cx}{nm:Nat}{o:Oper}(H:Conc β σ a c)(t:TypeId)(x:Operand)(ho:o.op=.load t x)
  {i:TyI} (ht:TyOk P t i) (h1s:i.agg=false→i.size=1) {ds:List D} (hx:σ.get x=.cptr ds) (p:Prop) (h1:i.size≤ds.length) :
  OpOk P β σ a c nm o ⟨p,D.ofCells i (ds.take i.size),σ.h⟩:=by
 have h:=H.get x
 rw [hx] at h
 obtain ⟨b,o',f,he,g1,g2⟩:=Z4g h
 have tk:∀ (q:Nat) (d:D),(ds.take i.size)[q]?=some d→ds[q]?=some d:=fun q d hq=>by
  simp only [List.getElem?_take] at hq
  split at hq
  ·exact hq
  ·cases hq
 obtain ⟨v,hr,hv⟩:=Z5t (P:=P) ht (c:=c) (b:=b) (o:=o') (ds:=ds.take i.size) (f:=f) (by simp;omega) h1s (fun q d hq=>(g1 q d (tk q d hq)).1) (fun q d hq=>g2 q d (tk q d hq))
 refine OpOk.same (v:=v) H ?_ hv
 simp [execOp,ho,he,hr]
theorem X34 {row:List D}{j:Nat}{ds:List D}(hj:j+ds.length≤row.length)(q:Nat) :
  (Q7c row j ds)[q]?=if q<j then row[q]? else if q<j+ds.length then ds[q-j]? else row[q]?:=by
 unfold Q7c
 rw [List.append_assoc,List.getElem?_append]
 simp only [U6,List.getElem?_take]
 have hm:min j row.length=j:=by omega
 rw [hm]
 split
 ·rfl
 ·rw [List.getElem?_append]
  split
  ·rw [if_pos (by omega)]
  ·rw [if_neg (by omega),List.getElem?_drop]
   congr 1
   omega
theorem X33 {row:List D}{j:Nat}{ds:List D}(hj:j+ds.length≤row.length):(Q7c row j ds).length=row.length:=by
 unfold Q7c
 simp only [U5,U6,List.length_drop]
 omega
theorem X9e {α:Type}(l vs:List α)(o:Nat)(ho:o+vs.length≤l.length)(q:Nat) :
  (l.take o++vs++l.drop (o+vs.length))[q]?=if q<o then l[q]? else if q<o+vs.length then vs[q-o]? else l[q]?:=by
 rw [List.append_assoc,List.getElem?_append]
 simp only [U6,List.getElem?_take]
 have hm:min o l.length=o:=by omega
 rw [hm]
 split
 ·rfl
 ·rw [List.getElem?_append]
  split
  ·rw [if_pos (by omega)]
  ·rw [if_neg (by omega),List.getElem?_drop]
   congr 1
   omega
theorem V4g {P:Program}{β:Base}{σ:St}{a:Act}{c:Cx}{nm:Nat}{o:Oper}(H:Conc β σ a c)(t:TypeId)(x y:Operand)(ho:o.op=.store t x y)
  {i:TyI} (ht:TyOk P t i) {sz k r j:Nat} (hx:σ.get x=.ptr sz k r j) {L:Loc} (hk:σ.h k=some L) {ds:List D} (hy:(σ.get y).flat=some ds) (p:Prop)
  (h1:L.sz=sz) (h2:r<L.rows.length) (h3:j+i.size≤sz) (h4:ds.length=i.size) (h5:L.fz≤r * sz+j) :
  OpOk P β σ a c nm o ⟨p,.val undef,updL σ.h k (some { L with rows:=L.rows.set r (Z9q L.sz (L.rows.getD r []) j ds) })⟩:=by
 have h:=H.get x
 rw [hx] at h
 obtain ⟨b,hM,he,hsz0⟩:=Z19 h
 obtain ⟨cs,f,hb,hfr,hlen,hfz,hlim,hrow,hcell⟩:=(H.heap.locs k L hk).block hM (by omega)
 have hget:=getD_some (d:=[]) h2
 have hrl:=hrow _ (U1 hget)
 subst h1
 have espl:Z9q L.sz (L.rows.getD r []) j ds=Q7c (L.rows.getD r []) j ds:=by
  unfold Z9q
  split
  ·rename_i hds
   have hj:j=0:=by omega
   subst hj
   unfold Q7c
   rw [List.drop_eq_nil_of_le (by rw [hrl];omega)]
   simp
  ·rfl
 rw [espl]
 obtain ⟨e1,e2,e3⟩:=Z5w (H.get y) hy
 obtain ⟨g,hg1,hg2,_⟩:=ht.find
 have hend:r * L.sz+L.sz≤L.rows.length * L.sz:=by
  have:=Nat.mul_le_mul_right L.sz (show r+1≤L.rows.length from h2)
  rw [Nat.add_mul] at this
  omega
 have hvl:(a.eval y).cells.toList.length=i.size:=by simp;omega
 have hrun:=run_storeCells_at P b (r * L.sz+j) L.el (a.eval y).cells.toList 0 cs c.w hb (by omega) e3
 simp only [Nat.add_zero] at hrun
 generalize hcs':(cs.toList.take (r * L.sz+j)++(a.eval y).cells.toList++cs.toList.drop (r * L.sz+j+(a.eval y).cells.toList.length)).toArray=cs' at hrun
 have hget':∀ q,cs'[q]?=if q<r * L.sz+j then cs[q]? else if q<r * L.sz+j+i.size then (a.eval y).cells[q-(r * L.sz+j)]? else cs[q]?:=fun q=>by
  subst hcs'
  have:=X9e cs.toList (a.eval y).cells.toList (r * L.sz+j) (by simp at hlen hvl ⊢;omega) q
  rw [hvl] at this
  have hvs:(a.eval y).cells.size=i.size:=by omega
  simpa [hvs] using this
 have hcl:cs'.size=cs.size:=by
  subst hcs'
  simp only [List.size_toArray,U5,U6,List.length_drop,Array.length_toList] at hvl ⊢
  omega
 have hlt:b<c.w.heap.size:=(Array.getElem?_eq_some_iff.1 hb).1
 let L':Loc:={ L with rows:=L.rows.set r (Q7c (L.rows.getD r []) j ds) }
 have hsl:(Q7c (L.rows.getD r []) j ds).length=L.sz:=by rw [X33 (by omega)];exact hrl
 obtain ⟨c',hc',hxt,hh⟩:=H.heap.write hk hM (k':=k) (.inl rfl) (w':=c.w.setRow b cs') L' cs cs' (fun i' j'=>(cs'[i' * L.sz+j']?).getD undef) hsz0 hb
  (setRow_heap c.w b cs cs' L.el (0,0) hb) (fun q hq=>setRow_other c.w b q cs' (by exact fun e=>hq e)) (by simp) rfl rfl rfl hcl
  (fun q hq=>by rw [hget' q,if_pos (by omega)]) rfl rfl (by simp only [L',List.length_set];omega) (by simp only [L',List.length_set];exact hfz) (by simp only [L',List.length_set];exact hlim)
  (fun row hm=>by
   rcases List.mem_or_eq_of_mem_set hm with hm | rfl
   ·exact hrow row hm
   ·exact hsl)
  (fun i' j' row d hi hj=>by
   have hi2:(L.rows.set r (Q7c (L.rows.getD r []) j ds))[i']?=some row:=hi
   show cs'[i' * L.sz+j']?=some ((cs'[i' * L.sz+j']?).getD undef)∧Rep c d ((cs'[i' * L.sz+j']?).getD undef)∧((cs'[i' * L.sz+j']?).getD undef).oneCell'=true
   have fin:∀ u,cs'[i' * L.sz+j']?=some u→Rep c d u∧u.oneCell'=true→cs'[i' * L.sz+j']?=some ((cs'[i' * L.sz+j']?).getD undef)∧Rep c d ((cs'[i' * L.sz+j']?).getD undef)∧((cs'[i' * L.sz+j']?).getD undef).oneCell'=true:=fun u hu hr=>by simp [hu,hr]
   by_cases hir:i'=r
   ·subst hir
    rw [List.getElem?_set_self h2] at hi2
    cases hi2
    rw [X34 (by omega)] at hj
    by_cases q1:j'<j
    ·rw [if_pos q1] at hj
     obtain ⟨w1,w2⟩:=hcell i' j' _ d hget hj
     exact fin _ (by rw [hget',if_pos (by omega)];exact w1) w2
    ·rw [if_neg q1] at hj
     by_cases q2:j'<j+ds.length
     ·rw [if_pos q2] at hj
      obtain ⟨u,hu,hr⟩:=e2 _ d hj
      refine fin u ?_ hr
      rw [hget',if_neg (by omega),if_pos (by omega)]
      have:i' * L.sz+j'-(i' * L.sz+j)=j'-j:=by omega
      rw [this]
      exact hu
     ·rw [if_neg q2] at hj
      obtain ⟨w1,w2⟩:=hcell i' j' _ d hget hj
      exact fin _ (by rw [hget',if_neg (by omega),if_neg (by omega)];exact w1) w2
   ·rw [List.getElem?_set_ne (by omega)] at hi2
    obtain ⟨w1,w2⟩:=hcell i' j' _ d hi2 hj
    have hrl':=hrow _ (U1 hi2)
    have hj':j'<L.sz:=by have:=(List.getElem?_eq_some_iff.1 hj).1;omega
    refine fin _ ?_ w2
    rw [hget']
    rcases Nat.lt_or_gt_of_ne hir with hlt' | hgt
    ·have:=Nat.mul_le_mul_right L.sz (show i'+1≤r from hlt')
     rw [Nat.add_mul] at this
     rw [if_pos (by omega)]
     exact w1
    ·have:=Nat.mul_le_mul_right L.sz (show r+1≤i' from hgt)
     rw [Nat.add_mul] at this
     rw [if_neg (by omega),if_neg (by omega)]
     exact w1)
 subst hc'
 rw [X62] at hh
 refine ⟨undef,_,.inr ⟨?_,rfl⟩,hxt,.val _,hh,fun q hq=>?_,fun q hq hn=>?_,fun hm0=>by simp [ho,Z4s] at hm0⟩
 ·have hsz:¬(a.eval y).cells.size≠g.size:=by simp;omega
  simp [execOp,ho,he,Instr.storeAt,Instr.sureAddr,storeVar,sizeOf,typeInfo,hg1,hsz]
  rw [hrun,if_pos (by omega)]
  rfl
 ·by_cases hqk:q=k
  ·subst hqk;simp [hM]
  ·simp [hqk]
 ·have:q≠k:=fun e=>by subst e;rw [hk] at hn;cases hn
  simp [this,hn]
theorem TyOk.slice {P:Program}{t e:TypeId}{i:TyI}(h:TyOk P t i)(hk:i.kind=.slice e):P.underlying t=some (.slice e):=by
 obtain ⟨d,hd,hok⟩:=h.desc
 rw [hk] at hok
 cases hok
 exact hd
theorem TyOk.array {P:Program}{t e:TypeId}{n:Nat}{i:TyI}(h:TyOk P t i)(hk:i.kind=.array n e):P.underlying t=some (.array n e):=by
 obtain ⟨d,hd,hok⟩:=h.desc
 rw [hk] at hok
 cases hok
 exact hd
theorem TyOk.string {P:Program}{t:TypeId}{i:TyI}(h:TyOk P t i)(hk:i.kind=.string):P.underlying t=some .string:=by
 obtain ⟨d,hd,hok⟩:=h.desc
 rw [hk] at hok
 cases hok
 exact hd
theorem TyOk.int {P:Program}{t:TypeId}{k:IntKind}{i:TyI}(h:TyOk P t i)(hk:i.kind=.int k):P.underlying t=some (.int k):=by
 obtain ⟨d,hd,hok⟩:=h.desc
 rw [hk] at hok
 cases hok
 exact hd
theorem TyOk.bool {P:Program}{t:TypeId}{i:TyI}(h:TyOk P t i)(hk:i.kind=.bool):P.underlying t=some .bool:=by
 obtain ⟨d,hd,hok⟩:=h.desc
 rw [hk] at hok
 cases hok
 exact hd
inductive All2 {α γ:Type} (R:α→γ→Prop):List α→List γ→Prop
 | nil:All2 R [] []
 | cons {x:α} {y:γ} {l:List α} {m:List γ} (h:R x y) (t:All2 R l m):All2 R (x::l) (y::m)
theorem Q8a {c:Cx}{sz:Nat}{rows:List (List D)}{v:Value}(h:Rep c (.slice sz rows) v) :
  (rows=[]∧∃ a cap,v=.slice a 0 cap)∨∃ (b o cap:Nat) (f:Nat→Nat→Value),v=.slice (some ⟨b,o,none⟩) rows.length cap∧rows.length≤cap∧rows.length≤Q0c∧(∀ row∈rows,row.length=sz)∧
   (∀ (i j:Nat) (row:List D) (d:D),rows[i]?=some row→row[j]?=some d→c.w.cell? ⟨b,o+i * sz+j,none⟩=some (f i j)∧o+i * sz+j<c.fr b∧(f i j).oneCell'=true)∧
   ∀ (i j:Nat) (row:List D) (d:D),rows[i]?=some row→row[j]?=some d→Rep c d (f i j):=by
 cases h with
 | slice0 _ a cap=>exact .inl ⟨rfl,a,cap,rfl⟩
 | slice _ _ b o cap f h1 h2 h3 h4 h5=>exact .inr ⟨b,o,cap,f,rfl,h1,h2,h3,h4,h5⟩
theorem Z0y {c:Cx}{sz k n:Nat}{v:Value}(h:Rep c (.sl sz k n) v) :
  (n=0∧c.M k=some none∧∃ a,v=.slice a 0 0)∨∃ (b cap:Nat) (cs:Array Value) (e:TypeId) (fz:Nat×Nat),v=.slice (some ⟨b,0,none⟩) n cap∧c.M k=some (some b)∧n≤cap∧
   c.w.heap[b]?=some (.cells cs e fz)∧cap * sz≤cs.size:=by
 cases h with
 | sl0 _ _ a hM=>exact .inl ⟨rfl,hM,a,rfl⟩
 | sl _ _ _ b cap cs e fz h1 h2 h3 h4=>exact .inr ⟨b,cap,cs,e,fz,rfl,h1,h2,h3,h4⟩
theorem Z4y {P:Program}{t e:TypeId}{i ie:TyI}(ht:TyOk P t i)(hk:i.kind=.slice e)(he:TyOk P e ie)(w:World)(b o len cap:Nat)(k:IntKind)(n:Int)(h0:0≤n)(h1:n<len) :
  (Instr.indexAt t (.slice (some ⟨b,o,none⟩) len cap) (.int k n)).run P w=.ok (.pointer (some ⟨b,o+n.toNat * ie.size,none⟩)) w:=by
 obtain ⟨g,hg1,hg2,_⟩:=he.find
 simp [Instr.indexAt,asIntOf,run_underlying (ht.slice hk),h0,h1,sizeOf,typeInfo,hg1,hg2,Z16]
theorem X2w {P:Program}{β:Base}{σ:St}{a:Act}{c:Cx}{nm:Nat}{o:Oper}(H:Conc β σ a c)(t e:TypeId)(x y:Operand)(ho:o.op=.indexAddr t x y)
  {i ie:TyI} (ht:TyOk P t i) (hk:i.kind=.slice e) (he:TyOk P e ie) {sz:Nat} {rows:List (List D)} (hx:σ.get x=.slice sz rows) {k:IntKind} {n:Int} (hy:σ.get y=.val (.int k n)) (p:Prop)
  (h1:sz=ie.size) (h2:0≤n) (h3:n<rows.length):OpOk P β σ a c nm o ⟨p,.cptr (rows.getD n.toNat []),σ.h⟩:=by
 have hx':=H.get x
 have hy':=H.get y
 rw [hx] at hx'
 rw [hy] at hy'
 have hyv:=W1 hy'
 subst h1
 rcases Q8a hx' with ⟨rfl,_⟩ | ⟨b,o',cap,f,hxe,hcap,hlim,hrow,hcell,hrep⟩
 ·simp at h3;omega
 ·have hn:n.toNat<rows.length:=by omega
  have hget:=getD_some (d:=[]) hn
  refine OpOk.same (v:=.pointer (some ⟨b,o'+n.toNat * ie.size,none⟩)) H ?_ (.cptr _ b _ (fun j=>f n.toNat j) (fun j d hj=>⟨(hcell n.toNat j _ d hget hj).1,(hcell n.toNat j _ d hget hj).2.1⟩) fun j d hj=>hrep n.toNat j _ d hget hj)
  simp [execOp,ho,hxe,hyv,Z4y ht hk he c.w b o' rows.length cap k n h2 h3]
theorem W0v {P:Program}{β:Base}{σ:St}{a:Act}{c:Cx}{nm:Nat}{o:Oper}(H:Conc β σ a c)(t e:TypeId)(x y:Operand)(ho:o.op=.indexAddr t x y)
  {i ie:TyI} (ht:TyOk P t i) (hk:i.kind=.slice e) (he:TyOk P e ie) {sz k' m:Nat} (hx:σ.get x=.sl sz k' m) {k:IntKind} {n:Int} (hy:σ.get y=.val (.int k n)) (p:Prop)
  (h1:sz=ie.size) (h2:0≤n) (h3:n<m) (h0:0<ie.size):OpOk P β σ a c nm o ⟨p,.ptr sz k' n.toNat 0,σ.h⟩:=by
 have hx':=H.get x
 have hy':=H.get y
 rw [hx] at hx'
 rw [hy] at hy'
 have hyv:=W1 hy'
 subst h1
 rcases Z0y hx' with ⟨rfl,_⟩ | ⟨b,cap,cs,e',fz,hxe,hM,hcap,hb,hsz⟩
 ·omega
 ·refine OpOk.same (v:=.pointer (some ⟨b,n.toNat * ie.size+0,none⟩)) H ?_ (.ptr _ _ _ _ _ hM h0)
  simp [execOp,ho,hxe,hyv,Z4y ht hk he c.w b 0 m cap k n h2 h3]
theorem Z4z {P:Program}{t e:TypeId}{i ie:TyI}{len:Nat}(ht:TyOk P t i)(hk:i.kind=.array len e)(he:TyOk P e ie)(w:World)(b o:Nat)(k:IntKind)(n:Int)(h0:0≤n)(h1:n<len) :
  (Instr.indexAt t (.pointer (some ⟨b,o,none⟩)) (.int k n)).run P w=.ok (.pointer (some ⟨b,o+n.toNat * ie.size,none⟩)) w:=by
 obtain ⟨g,hg1,hg2,_⟩:=he.find
 simp [Instr.indexAt,asIntOf,run_underlying (ht.array hk),h0,h1,sizeOf,typeInfo,hg1,hg2,Z16,Instr.sureAddr]
theorem Z57 {P:Program}{β:Base}{σ:St}{a:Act}{c:Cx}{nm:Nat}{o:Oper}(H:Conc β σ a c)(t e:TypeId)(x y:Operand)(ho:o.op=.indexAddr t x y)
  {i ie:TyI} {len:Nat} (ht:TyOk P t i) (hk:i.kind=.array len e) (he:TyOk P e ie) {k:IntKind} {n:Int} (hy:σ.get y=.val (.int k n)) (p:Prop) (h2:0≤n) (h3:n<len) :
  (∀ sz k' r j,σ.get x=.ptr sz k' r j→OpOk P β σ a c nm o ⟨p,.ptr sz k' r (j+n.toNat * ie.size),σ.h⟩)∧
  (∀ ds,σ.get x=.cptr ds→OpOk P β σ a c nm o ⟨p,.cptr (ds.drop (n.toNat * ie.size)),σ.h⟩):=by
 have hy':=H.get y
 rw [hy] at hy'
 have hyv:=W1 hy'
 refine ⟨fun sz k' r j hx=>?_,fun ds hx=>?_⟩
 ·have h:=H.get x
  rw [hx] at h
  obtain ⟨b,hM,he',hsz⟩:=Z19 h
  refine OpOk.same (v:=.pointer (some ⟨b,r * sz+(j+n.toNat * ie.size),none⟩)) H ?_ (.ptr _ _ _ _ _ hM hsz)
  simp [execOp,ho,he',hyv,Z4z ht hk he c.w b (r * sz+j) k n h2 h3,Nat.add_assoc]
 ·have h:=H.get x
  rw [hx] at h
  obtain ⟨b,o',f,he',g1,g2⟩:=Z4g h
  refine OpOk.same (v:=.pointer (some ⟨b,o'+n.toNat * ie.size,none⟩)) H ?_ (X87 g1 g2)
  simp [execOp,ho,he',hyv,Z4z ht hk he c.w b o' k n h2 h3]
theorem X1d {P:Program}{β:Base}{σ:St}{a:Act}{c:Cx}{nm:Nat}{o:Oper}(H:Conc β σ a c)(t:TypeId)(x y:Operand)(ho:o.op=.index t x y)
  {i:TyI} (ht:TyOk P t i) (hk:i.kind=.string) {s:ByteArray} (hx:σ.get x=.val (.string s)) {k:IntKind} {n:Int} (hy:σ.get y=.val (.int k n)) (p:Prop) (h2:0≤n) (h3:n<s.size) :
  OpOk P β σ a c nm o ⟨p,.val (.int .u8 (s.data.getD n.toNat 0).toNat),σ.h⟩:=by
 have hx':=H.get x
 have hy':=H.get y
 rw [hx] at hx'
 rw [hy] at hy'
 have hyv:=W1 hy'
 have hxv:=W1 hx'
 have hn:n.toNat<s.size:=by omega
 have hs:s[n.toNat]?=some (s.data.getD n.toNat 0):=by
  have:s.data.size=s.size:=rfl
  rw [getElem?_pos s n.toNat hn]
  simp [Array.getD,this,hn]
  try rfl
 refine OpOk.same (v:=.int .u8 (s.data.getD n.toNat 0).toNat) H ?_ (.val _)
 simp [execOp,ho,hxv,hyv,Instr.index,asIntOf,run_underlying (ht.string hk),h2,hs]
theorem X16 (off:Nat):∀ (l:List Value) (n:Nat) (arr:Array Value),off+n+l.length≤arr.size→
  ((l.zipIdx n).foldl (fun cs (x:Value×Nat)=>cs.setIfInBounds (off+x.2) x.1) arr).size=arr.size∧
  ∀ q:Nat,((l.zipIdx n).foldl (fun cs (x:Value×Nat)=>cs.setIfInBounds (off+x.2) x.1) arr)[q]?=if off+n≤q∧q<off+n+l.length then l[q-(off+n)]? else arr[q]?
 | [],n,arr,_=>⟨rfl,fun q=>by
  have:¬(off+n≤q∧q<off+n+([]:List Value).length):=by simp only [U4];omega
  rw [if_neg this]
  rfl⟩
 | v::l,n,arr,h=>by
  simp only [U3] at h
  obtain ⟨h1,h2⟩:=X16 off l (n+1) (arr.setIfInBounds (off+n) v) (by simp;omega)
  simp only [List.zipIdx_cons,List.foldl_cons]
  refine ⟨by rw [h1];simp,fun q=>?_⟩
  rw [h2 q]
  simp only [U3]
  by_cases hq:q=off+n
  ·subst hq
   rw [if_neg (by omega),if_pos (by omega)]
   have:off+n<arr.size:=by omega
   simp [this]
  ·by_cases hq2:off+(n+1)≤q∧q<off+(n+1)+l.length
   ·rw [if_pos hq2,if_pos (by omega)]
    have:q-(off+n)=(q-(off+(n+1)))+1:=by omega
    rw [this]
    rfl
   ·rw [if_neg hq2,if_neg (by omega)]
    rw [Array.getElem?_setIfInBounds_ne (by omega)]
def Z6z (c:Cx)(ds:List D)(arr:Array Value):Prop:=arr.size=ds.length∧∀ (j:Nat) (d:D),ds[j]?=some d→∃ u,arr[j]?=some u∧Rep c d u
theorem X1s {c:Cx}{ds:List D}{arr:Array Value}(h:Z6z c ds arr){d:D}{v:Value}{xs:List D}(hv:Rep c d v)(hf:d.flat=some xs){off:Nat}(ho:off+xs.length≤ds.length) :
  Z6z c (Q7c ds off xs) (v.cells.zipIdx.foldl (fun cs (x,j)=>cs.setIfInBounds (off+j) x) arr):=by
 obtain ⟨h1,h2,_⟩:=Z5w hv hf
 have hl:v.cells.toList.length=xs.length:=by simp [h1]
 have:=X16 off v.cells.toList 0 arr (by rw [hl,h.1];omega)
 have e:(v.cells.zipIdx.foldl (fun cs (x,j)=>cs.setIfInBounds (off+j) x) arr)=((v.cells.toList.zipIdx 0).foldl (fun cs (x:Value×Nat)=>cs.setIfInBounds (off+x.2) x.1) arr):=by
  rw [←Array.foldl_toList,Array.toList_zipIdx]
 rw [e]
 obtain ⟨k1,k2⟩:=this
 refine ⟨by rw [k1,h.1,X33 ho],fun j d' hj=>?_⟩
 rw [X34 ho] at hj
 rw [k2 j,hl]
 by_cases q1:j<off
 ·rw [if_pos q1] at hj
  rw [if_neg (by omega)]
  exact h.2 j d' hj
 ·rw [if_neg q1] at hj
  by_cases q2:j<off+xs.length
  ·rw [if_pos q2] at hj
   rw [if_pos (by omega)]
   obtain ⟨u,hu,hr,_⟩:=h2 _ d' hj
   exact ⟨u,by simpa using hu,hr⟩
  ·rw [if_neg q2] at hj
   rw [if_neg (by omega)]
   exact h.2 j d' hj
def W0o (X48:Nat→Option (Nat×Nat))(cells:List D):List (Nat×D)→Option (List D)
 | []=>some cells
 | (i,d)::rest=>match X48 i with
  | some (off,size)=>match d.flat with
   | some ds=>if ds.length=size∧off+size≤cells.length then W0o X48 (Q7c cells off ds) rest else none
   | none=>none
  | none=>none
theorem W2v {c:Cx}{X48:Nat→Option (Nat×Nat)} : ∀ (Q29:List (Nat×D)) (vs:List (Nat×Value)) (cells cells':List D) (arr:Array Value),
  All2 (fun p v=>p.1=v.1∧Rep c p.2 v.2) Q29 vs→Z6z c cells arr→W0o X48 cells Q29=some cells'→∃ arr',Instr.fill X48 arr vs=some arr'∧Z6z c cells' arr'
 | [],(_::_),_,_,_,h,_,_=>by cases h
 | (_::_),[],_,_,_,h,_,_=>by cases h
 | [],[],cells,cells',arr,_,h,hf=>by
  simp only [W0o,Option.some.injEq] at hf
  subst hf
  exact ⟨arr,rfl,h⟩
 | (i,d)::Q29,(i',v)::vs,cells,cells',arr,hp,h,hf=>by
  cases hp with
  | cons hh ht=>
   obtain ⟨h0,hv⟩:=hh
   simp only at h0 hv
   subst h0
   simp only [W0o] at hf
   cases hpl:X48 i with
   | none=>simp [hpl] at hf
   | some os=>
    obtain ⟨off,size⟩:=os
    cases hfl:d.flat with
    | none=>simp [hpl,hfl] at hf
    | some ds=>
     simp only [hpl,hfl] at hf
     split at hf
     ·rename_i hc
      obtain ⟨h1,h2,_⟩:=Z5w hv hfl
      obtain ⟨arr',ha,hr⟩:=W2v Q29 vs _ cells' _ ht (X1s h hv hfl (by omega)) hf
      refine ⟨arr',?_,hr⟩
      have hsz:=h.1
      have hcond:(v.cells.size≠size||off+v.cells.size > arr.size)=false:=by simp;omega
      simp only [Instr.fill,hpl,hcond]
      exact ha
     ·cases hf
theorem Z6h {c:Cx}(σ:St)(a:Act)(h:∀ x,Rep c (σ.get x) (a.eval x))(Q29:Array (Nat×Operand)) :
  All2 (fun p v=>p.1=v.1∧Rep c p.2 v.2) (Q29.toList.map fun x=>(x.1,σ.get x.2)) (Q29.map fun (i,x)=>(i,a.eval x)).toList:=by
 rw [Array.toList_map]
 induction Q29.toList with
 | nil=>exact .nil
 | cons x l ih=>exact .cons ⟨rfl,h _⟩ ih
theorem W1c {P:Program}{t:TypeId}{i:TyI}(ht:TyOk P t i)(c:Cx):∃ f z,P.info? t=some f∧f.zero=some z∧Z6z c (i.zero.map D.ofV) z.cells:=by
 obtain ⟨f,hf1,hf2,hf3,z,hz1,hz2,hz3⟩:=ht.info
 refine ⟨f,z,hf1,hz1,by rw [U7,←hz2];simp,fun j d hj=>?_⟩
 simp only [List.getElem?_map,U12] at hj
 obtain ⟨u,hu,rfl⟩:=hj
 refine ⟨u,?_,Z7a _ u⟩
 rw [←hz2] at hu
 simpa using hu
theorem X6u {P:Program} : ∀ (fs:List (Nat×TypeId×Nat)) (F:List Field),F.map (fun f=>(f.offset,f.type))=fs.map (fun x=>(x.1,x.2.1))→
  (∀ x∈fs,(P.info? x.2.1).map (·.size)=some x.2.2)→F.mapM (fun f=>(P.info? f.type).map fun i=>(f.offset,i.size))=some (fs.map fun x=>(x.1,x.2.2))
 | [],[],_,_=>rfl
 | [],f::F,h,_=>by simp at h
 | x::fs,[],h,_=>by simp at h
 | x::fs,f::F,h,hs=>by
  simp only [List.map_cons,List.cons.injEq,Prod.mk.injEq] at h
  obtain ⟨⟨h1,h2⟩,h3⟩:=h
  have hx:=hs x (by simp)
  simp only [U12] at hx
  obtain ⟨g,hg,hgs⟩:=hx
  have ih:=X6u fs F h3 (fun y hy=>hs y (by simp [hy]))
  simp only [List.mapM_cons,h2,hg,Option.map_some,ih,List.map_cons,hgs,h1]
  rfl
theorem V4k {P:Program}{β:Base}{σ:St}{a:Act}{c:Cx}{nm:Nat}{o:Oper}(H:Conc β σ a c)(t:TypeId)(Q29:Array (Nat×Operand))(ho:o.op=.build t Q29)
  {i:TyI} (ht:TyOk P t i) {fs:List (Nat×TypeId×Nat)} (hk:i.kind=.struct fs) {ds:List D}
  (hf:W0o (fun n=>(fs[n]?).map fun x=>(x.1,x.2.2)) (i.zero.map D.ofV) (Q29.toList.map fun x=>(x.1,σ.get x.2))=some ds) (p:Prop) :
  OpOk P β σ a c nm o ⟨p,.agg ds,σ.h⟩:=by
 obtain ⟨f,z,hf1,hz1,hz⟩:=W1c ht c
 obtain ⟨d,hd,hok⟩:=ht.desc
 rw [hk] at hok
 obtain ⟨F,rfl,hF,hs⟩:=hok
 obtain ⟨arr,ha,hr⟩:=W2v _ _ _ _ _ (Z6h σ a H.get Q29) hz hf
 have hb:P.built t (Q29.map fun (i,x)=>(i,a.eval x)).toList=some arr:=by
  unfold Program.built
  rw [hf1,hd]
  simp only [hz1,X6u fs F.toList hF (fun x hx=>(hs x hx).1)]
  rw [←ha]
  congr 1
  funext n
  simp
 refine OpOk.same (v:=.agg arr) H ?_ (.agg _ _ hr.1 fun j d v hj hv=>?_)
 ·simp [execOp,ho,run_build c.w t _ arr hb]
 ·obtain ⟨u,hu,hr'⟩:=hr.2 j d hj
  rw [hv] at hu
  cases hu
  exact hr'
def ieq (a b:Int):Bool:=decide (a=b)
def ilt (a b:Int):Bool:=decide (a<b)
def ile (a b:Int):Bool:=decide (a≤b)
def wadd (k:IntKind)(a b:Int):Int:=k.wrap (a+b)
def wsub (k:IntKind)(a b:Int):Int:=k.wrap (a-b)
def wmul (k:IntKind)(a b:Int):Int:=k.wrap (a * b)
def wquo (k:IntKind)(a b:Int):Int:=k.wrap (a.tdiv b)
def wrem (a b:Int):Int:=a.tmod b
def wand (k:IntKind)(a b:Int):Int:=k.wrap (BitVec.ofInt k.bits a &&& BitVec.ofInt k.bits b).toNat
def wor (k:IntKind)(a b:Int):Int:=k.wrap (BitVec.ofInt k.bits a ||| BitVec.ofInt k.bits b).toNat
def wxor (k:IntKind)(a b:Int):Int:=k.wrap (BitVec.ofInt k.bits a ^^^ BitVec.ofInt k.bits b).toNat
def wneg (k:IntKind)(a:Int):Int:=k.wrap (0-a)
def wcv (k:IntKind)(a:Int):Int:=k.wrap a
def wshl (k:IntKind)(x y:Int):Int:=k.wrap (x * 2 ^ min y.toNat k.bits)
def wshr (k:IntKind)(x y:Int):Int:=x.fdiv (2 ^ min y.toNat k.bits)
def imin (m n:Int):Int:=if n<m then n else m
def imax (m n:Int):Int:=if n > m then n else m
def lenZ (n:Nat):Int:=n
def seq2 (a b:ByteArray):Bool:=decide (a=b)
def inb (i:Int)(n:Nat):Prop:=0≤i∧i<n
def bsub (s:ByteArray)(l h:Int):ByteArray:=s.extract l.toNat h.toNat
def X94 (n:Nat)(l h:Int):Prop:=0≤l∧l≤h∧h≤n
def Z56 (n:Nat)(h:Int):Prop:=0≤h∧h≤n
def Z99 (rows:List (List D))(h:Int):List (List D):=rows.take h.toNat
def X04 (rows:List (List D))(i:Int):List D:=rows.getD i.toNat []
def W86 (op:BinOp)(k:IntKind)(x y:Int):Option (Prop×Value):=
 match op with
 | .add=>some (True,.int k (wadd k x y))
 | .sub=>some (True,.int k (wsub k x y))
 | .mul=>some (True,.int k (wmul k x y))
 | .quo=>some (ieq y 0=false,.int k (wquo k x y))
 | .rem=>some (ieq y 0=false,.int k (wrem x y))
 | .and=>some (True,.int k (wand k x y))
 | .or=>some (True,.int k (wor k x y))
 | .xor=>some (True,.int k (wxor k x y))
 | .eql=>some (True,.bool (ieq x y))
 | .neq=>some (True,.bool (!ieq x y))
 | .lss=>some (True,.bool (ilt x y))
 | .leq=>some (True,.bool (ile x y))
 | .gtr=>some (True,.bool (ilt y x))
 | .geq=>some (True,.bool (ile y x))
 | _=>none
theorem W78 {P:Program}{op:BinOp}{k:IntKind}{x y:Int}{q:Prop}{v:Value}(h:W86 op k x y=some (q,v))(hq:q)(t:TypeId)(ox oy:Operand)(w:World) :
  (do eqGuard op t ox oy (.int k x) (.int k y);binOp op t (.int k x) (.int k y)).run P w=.ok v w:=by
 cases op<;>simp only [W86] at h<;>cases h<;>simp [eqGuard,binOp,Op.intArith,Op.intDiv,Op.intCmp,Op.intBits,wadd,wsub,wmul,wquo,wrem,wand,wor,wxor,ieq,ilt,ile]<;>first | rfl | (intro h0;simp [ieq] at hq;exact absurd h0 hq) | (simp [ieq] at hq;simp [hq])
theorem W9r {P:Program}{β:Base}{σ:St}{a:Act}{c:Cx}{nm:Nat}{o:Oper}(H:Conc β σ a c)(op:BinOp)(t t':TypeId)(x y:Operand)(ho:o.op=.binOp op t x y t')
  {k:IntKind} {m n:Int} (hx:σ.get x=.val (.int k m)) (hy:σ.get y=.val (.int k n)) {q:Prop} {v:Value} (h:W86 op k m n=some (q,v)) (hq:q) (p:Prop) :
  OpOk P β σ a c nm o ⟨p,.val v,σ.h⟩:=by
 have hx':=H.get x
 have hy':=H.get y
 rw [hx] at hx'
 rw [hy] at hy'
 refine OpOk.same (v:=v) H ?_ (.val _)
 have:=W78 (P:=P) h hq t x y c.w
 simp only [execOp,ho,W1 hx',W1 hy',Sem.run_bind] at this ⊢
 rw [this]
 rfl
def X43 (op:BinOp)(k:IntKind)(x y:Int):Option Value:=
 match op with
 | .shl=>some (.int k (wshl k x y))
 | .shr=>some (.int k (wshr k x y))
 | _=>none
theorem V4h {P:Program}{β:Base}{σ:St}{a:Act}{c:Cx}{nm:Nat}{o:Oper}(H:Conc β σ a c)(op:BinOp)(t t':TypeId)(x y:Operand)(ho:o.op=.binOp op t x y t')
  {k k':IntKind} {m n:Int} (hx:σ.get x=.val (.int k m)) (hy:σ.get y=.val (.int k' n)) {v:Value} (h:X43 op k m n=some v) (hq:0≤n) (p:Prop) :
  OpOk P β σ a c nm o ⟨p,.val v,σ.h⟩:=by
 have hx':=H.get x
 have hy':=H.get y
 rw [hx] at hx'
 rw [hy] at hy'
 have hq':¬n<0:=by omega
 cases op<;>simp only [X43] at h<;>cases h
 ·refine OpOk.same (v:=_) H ?_ (.val _)
  simp [execOp,ho,W1 hx',W1 hy',eqGuard,binOp,Op.shift,hq',wshl,wshr]
 ·refine OpOk.same (v:=_) H ?_ (.val _)
  simp [execOp,ho,W1 hx',W1 hy',eqGuard,binOp,Op.shift,hq',wshl,wshr]
theorem W9n {P:Program}{β:Base}{σ:St}{a:Act}{c:Cx}{nm:Nat}{o:Oper}(H:Conc β σ a c)(t t':TypeId)(x y:Operand)(ho:o.op=.binOp .add t x y t')
  {m n:ByteArray} (hx:σ.get x=.val (.string m)) (hy:σ.get y=.val (.string n)) (hq:m.size+n.size≤4611686018427387904) (p:Prop) :
  OpOk P β σ a c nm o ⟨p,.val (.string (m++n)),σ.h⟩:=by
 have hx':=H.get x
 have hy':=H.get y
 rw [hx] at hx'
 rw [hy] at hy'
 refine OpOk.same (v:=.string (m++n)) H ?_ (.val _)
 have h2:¬(((m.size+n.size:Nat):Int) > IntKind.i64.max):=by
  have:IntKind.i64.max=9223372036854775807:=by decide
  rw [this]
  omega
 simp [execOp,ho,W1 hx',W1 hy',eqGuard,binOp,Op.stringOp]
 omega
theorem X7z {P:Program}{β:Base}{σ:St}{a:Act}{c:Cx}{nm:Nat}{o:Oper}(H:Conc β σ a c)(op:BinOp)(t t':TypeId)(x y:Operand)(ho:o.op=.binOp op t x y t')
  {m n:ByteArray} (hx:σ.get x=.val (.string m)) (hy:σ.get y=.val (.string n)) (hop:op=.eql∨op=.neq) (p:Prop) :
  OpOk P β σ a c nm o ⟨p,.val (.bool (if op=.eql then decide (m=n) else !decide (m=n))),σ.h⟩:=by
 have hx':=H.get x
 have hy':=H.get y
 rw [hx] at hx'
 rw [hy] at hy'
 refine OpOk.same (v:=.bool (if op=.eql then decide (m=n) else !decide (m=n))) H ?_ (.val _)
 have e:(m.toList==n.toList)=decide (m=n):=by
  rw [Bool.eq_iff_iff,decide_eq_true_iff,beq_iff_eq,ByteArray.toList_eq,ByteArray.toList_eq]
  refine ⟨fun h=>?_,fun h=>by rw [h]⟩
  cases m;cases n
  simp at h
  exact congrArg _ h
 rcases hop with rfl | rfl<;>simp [execOp,ho,W1 hx',W1 hy',eqGuard,binOp,Op.stringOp,e]
theorem X3p {P:Program}{β:Base}{σ:St}{a:Act}{c:Cx}{nm:Nat}{o:Oper}(H:Conc β σ a c)(op:BinOp)(t t':TypeId)(x y:Operand)(ho:o.op=.binOp op t x y t')
  {i:TyI} (ht:TyOk P t i) (hk:i.kind=.bool)
  {m n:Bool} (hx:σ.get x=.val (.bool m)) (hy:σ.get y=.val (.bool n)) (hop:op=.eql∨op=.neq) (p:Prop) :
  OpOk P β σ a c nm o ⟨p,.val (.bool (if op=.eql then m==n else !(m==n))),σ.h⟩:=by
 have hx':=H.get x
 have hy':=H.get y
 rw [hx] at hx'
 rw [hy] at hy'
 refine OpOk.same (v:=.bool (if op=.eql then m==n else !(m==n))) H ?_ (.val _)
 rcases hop with rfl | rfl<;>simp [execOp,ho,W1 hx',W1 hy',eqGuard,run_eql_bool c.w t m n (ht.bool hk),run_neq_bool c.w t m n (ht.bool hk)]
def Q7x (l:List Bool):Bool:=l.all id
def eqFs (f:TypeId→List D→List D→Option (List Bool)):List (Nat×TypeId×Nat)→List D→List D→Option (List Bool)
 | [],_,_=>some []
 | (off,t,sz)::fs,ds,es=>if off+sz≤ds.length∧off+sz≤es.length then match f t ((ds.drop off).take sz) ((es.drop off).take sz),eqFs f fs ds es with
   | some a,some b=>some (a++b)
   | _,_=>none
  else none
def eqV (T:TypeId→Option TyI):Nat→TypeId→List D→List D→Option (List Bool)
 | 0,_,_,_=>none
 | n+1,t,ds,es=>match T t with
  | none=>none
  | some i=>match i.kind with
   | .int k0=>match ds,es with
    | [.val (.int k a)],[.val (.int k' b)]=>if k=k'∧k=k0 then some [ieq a b] else none
    | _,_=>none
   | .string=>match ds,es with
    | [.val (.string a)],[.val (.string b)]=>some [seq2 a b]
    | _,_=>none
   | .struct fs=>if i.eq=true then eqFs (eqV T n) fs ds es else none
   | _=>none
def VRep (i:TyI)(c:Cx)(ds:List D)(v:Value):Prop:=
 (i.agg=true→∃ vs:Array Value,v=.agg vs∧vs.size=ds.length∧∀ (j:Nat) (d:D) (u:Value),ds[j]?=some d→vs[j]?=some u→Rep c d u)∧(i.agg=false→∃ d,ds.head?=some d∧Rep c d v)
theorem V2l {P:Program}{t:TypeId}{i:TyI}(h:TyOk P t i)(ha:i.agg=false)(xs:Array Value)(o:Nat)(v:Value)(hv:xs[o]?=some v)(w:World):(part t xs o).run P w=.ok v w:=by
 unfold part
 simp only [Sem.run_bind,Z58 h,Result.andThen_ok,ha,U2,if_false,hv,Sem.run_pure]
theorem V2m {P:Program}{t:TypeId}{i:TyI}(h:TyOk P t i)(ha:i.agg=true)(xs:Array Value)(o:Nat)(w:World):(part t xs o).run P w=.ok (.agg (xs.extract o (o+i.size))) w:=by
 obtain ⟨f,h1,h2,_⟩:=h.info
 unfold part
 simp [Sem.run_bind,Z58 h,ha,sizeOf,typeInfo,h1,h2]
theorem W7l {P:Program}{t:TypeId}{i:TyI}(h:TyOk P t i){c:Cx}{ds:List D}{xs:Array Value}(hl:xs.size=ds.length)(hh:∀ (j:Nat) (d:D) (u:Value),ds[j]?=some d→xs[j]?=some u→Rep c d u)(o:Nat)(ho:o+i.size≤ds.length)(hs:0<i.size)(w:World) :
  ∃ v,(part t xs o).run P w=.ok v w∧VRep i c ((ds.drop o).take i.size) v:=by
 cases ha:i.agg with
 | true=>
  refine ⟨_,V2m h ha xs o w,fun _=>⟨_,rfl,by simp;omega,fun j d u hd hu=>?_⟩,fun h=>by rw [ha] at h;cases h⟩
  obtain ⟨h1,h2⟩:=Q77 hd
  refine hh (o+j) d u h1 ?_
  rw [Array.getElem?_extract] at hu
  split at hu
  ·exact hu
  ·cases hu
 | false=>
  have hlt:o<ds.length:=by omega
  have hx:xs[o]?=some xs[o]:=by rw [Array.getElem?_eq_getElem]
  refine ⟨xs[o],V2l h ha xs o _ hx w,fun h=>(by rw [ha] at h;cases h),fun _=>⟨ds[o],?_,hh o ds[o] _ (by simp [hlt]) hx⟩⟩
  rw [List.drop_eq_getElem_cons hlt]
  cases hz:i.size with
  | zero=>omega
  | succ n=>rfl
theorem V6l {P:Program}{T:TypeId→Option TyI}(hT:∀ t i,T t=some i→TyOk P t i){c:Cx} : ∀ (n:Nat) (t:TypeId) (i:TyI) (ds es:List D) (bs:List Bool),T t=some i→eqV T n t ds es=some bs→
  ∀ v u,VRep i c ds v→VRep i c es u→∀ (d:Nat) (w:World),n≤d→(Op.equalIn d t v u).run P w=.ok (Q7x bs) w
 | 0,_,_,_,_,_,_,h,_,_,_,_,_,_,_=>by simp [eqV] at h
 | n+1,t,i,ds,es,bs,hi,h,v,u,hv,hu,d,w,hd=>by
  obtain ⟨d,rfl⟩:∃ m,d=m+1:=⟨d-1,by omega⟩
  have ht:=hT t i hi
  simp only [eqV,hi] at h
  split at h
  ·rename_i k0 hk
   split at h
   ·rename_i k a k' b
    split at h
    ·rename_i hkk
     obtain ⟨rfl,rfl⟩:=hkk
     cases h
     have ha:i.agg=false:=by simp [TyI.agg,hk]
     obtain ⟨d1,e1,r1⟩:=hv.2 ha
     obtain ⟨d2,e2,r2⟩:=hu.2 ha
     cases e1
     cases e2
     rw [W1 r1,W1 r2]
     rw [run_equalIn_int w d t k k a b (ht.int hk)]
     simp [Q7x,ieq]
     rw [Bool.eq_iff_iff]
     simp
    ·cases h
   ·cases h
  ·rename_i hk
   split at h
   ·rename_i a b
    cases h
    have ha:i.agg=false:=by simp [TyI.agg,hk]
    obtain ⟨d1,e1,r1⟩:=hv.2 ha
    obtain ⟨d2,e2,r2⟩:=hu.2 ha
    cases e1
    cases e2
    rw [W1 r1,W1 r2,run_equalIn_string w d t a b (ht.string hk)]
    have e:(a.toList==b.toList)=decide (a=b):=by
     rw [Bool.eq_iff_iff,decide_eq_true_iff,beq_iff_eq,ByteArray.toList_eq,ByteArray.toList_eq]
     refine ⟨fun h=>?_,fun h=>by rw [h]⟩
     cases a;cases b
     simp at h
     exact congrArg _ h
    simp [Q7x,seq2,e]
   ·cases h
  ·rename_i fs hk
   split at h
   ·rename_i heq
    obtain ⟨hu1,hu2,_,hu3⟩:=ht.eqok heq fs hk
    have ha:i.agg=true:=by simp [TyI.agg,hk]
    obtain ⟨xs,rfl,lx,rx⟩:=hv.1 ha
    obtain ⟨ys,rfl,ly,ry⟩:=hu.1 ha
    rw [run_equalIn_agg w d t xs ys hu1 hu2]
    obtain ⟨dsc,hdsc,hok⟩:=ht.desc
    rw [hk] at hok
    obtain ⟨F0,hF0,hF1,hF2⟩:=hok
    generalize (P.fieldsOf t).toList=F at hu3
    clear hF0 hF1 hdsc hu1 hu2 hk
    induction fs generalizing F bs w with
    | nil=>
     cases F with
     | nil=>simp only [eqFs] at h;cases h;simp [Op.eqFields,Q7x]
     | cons=>simp at hu3
    | cons x fs ih=>
     obtain ⟨off,ft,sz⟩:=x
     cases F with
     | nil=>simp at hu3
     | cons f F=>
      simp only [List.map_cons,List.cons.injEq,Prod.mk.injEq] at hu3
      obtain ⟨⟨g1,rfl,rfl⟩,g4⟩:=hu3
      simp only [eqFs] at h
      split at h
      ·rename_i hlen
       split at h
       ·rename_i b1 b2 h1 h2
        cases h
        cases hft:T f.type with
        | none=>cases n<;>simp [eqV,hft] at h1
        | some fi=>
         have hfo:=hT _ _ hft
         obtain ⟨hsz,hnz⟩:=hF2 (f.offset,f.type,sz) (by simp)
         obtain ⟨g,q1,q2,_⟩:=hfo.info
         simp only [q1,Option.map_some,Option.some.injEq] at hsz
         have hsz':sz=fi.size:=by rw [←hsz,q2]
         subst hsz'
         have hpos:0<fi.size:=Nat.pos_of_ne_zero hnz
         obtain ⟨v1,p1,r1⟩:=W7l hfo lx rx f.offset hlen.1 hpos w
         obtain ⟨v2,p2,r2⟩:=W7l hfo ly ry f.offset hlen.2 hpos w
         have hrec:=V6l hT n f.type fi _ _ b1 hft h1 v1 v2 r1 r2 d w (by omega)
         have hname : f.name ≠ "_" := by simpa using g1
         have hrest:=ih _ w h2 (fun x hx=>hF2 x (by simp [hx])) F g4
         simp only [Op.eqFields,hname,ne_eq,not_false_eq_true,if_true,Sem.run_bind,p1,p2,Result.andThen_ok,hrec]
         cases hb:Q7x b1 with
         | true=>
          simp only [Bool.not_true,U2,if_false,hrest]
          simp only [Q7x] at hb ⊢
          simp [hb]
         | false=>
          simp only [Bool.not_false,if_true,Sem.run_pure]
          simp only [Q7x] at hb ⊢
          simp only [List.all_append,hb,Bool.false_and]
       ·cases h
      ·cases h
   ·cases h
  ·cases h
theorem X80 {P:Program}{T:TypeId→Option TyI}(hT:∀ t i,T t=some i→TyOk P t i){β:Base}{σ:St}{a:Act}{c:Cx}{nm:Nat}{o:Oper}(H:Conc β σ a c)(op:BinOp)(t t':TypeId)(x y:Operand)(ho:o.op=.binOp op t x y t')
  {i:TyI} (hi:T t=some i) {fs:List (Nat×TypeId×Nat)} (hk:i.kind=.struct fs) (heq:i.eq=true) {ds es:List D} (hx:σ.get x=.agg ds) (hy:σ.get y=.agg es) {bs:List Bool} (h:eqV T 6 t ds es=some bs) (hop:op=.eql∨op=.neq) (p:Prop) :
  OpOk P β σ a c nm o ⟨p,.val (.bool (if op=.eql then Q7x bs else !Q7x bs)),σ.h⟩:=by
 have hx':=H.get x
 have hy':=H.get y
 rw [hx] at hx'
 rw [hy] at hy'
 have ht:=hT t i hi
 obtain ⟨_,_,hg,_⟩:=ht.eqok heq fs hk
 have ha:i.agg=true:=by simp [TyI.agg,hk]
 obtain ⟨xs,ex,rx⟩:∃ xs,a.eval x=.agg xs∧VRep i c ds (.agg xs):=by
  generalize a.eval x=v at hx'
  cases hx' with
  | agg _ vs hlen hh=>exact ⟨vs,rfl,fun _=>⟨vs,rfl,hlen,hh⟩,fun h=>by rw [ha] at h;cases h⟩
 obtain ⟨ys,ey,ry⟩:∃ xs,a.eval y=.agg xs∧VRep i c es (.agg xs):=by
  generalize a.eval y=v at hy'
  cases hy' with
  | agg _ vs hlen hh=>exact ⟨vs,rfl,fun _=>⟨vs,rfl,hlen,hh⟩,fun h=>by rw [ha] at h;cases h⟩
 have hrun:=V6l hT 6 t i ds es bs hi h _ _ rx ry 10000 c.w (by omega)
 refine OpOk.same (v:=.bool (if op=.eql then Q7x bs else !Q7x bs)) H ?_ (.val _)
 have hgd:=run_eqGuard_agg (P:=P) c.w op t x y xs ys hg
 rcases hop with rfl | rfl
 ·have:=run_eql_struct (P:=P) c.w t xs ys
  rw [hrun] at this
  simp only [execOp,ho,ex,ey,Sem.run_bind,hgd,Result.andThen_ok,this]
  simp
 ·have:=run_neq_struct (P:=P) c.w t xs ys
  rw [hrun] at this
  simp only [execOp,ho,ex,ey,Sem.run_bind,hgd,Result.andThen_ok,this]
  simp
theorem Y3m {P:Program}{β:Base}{σ:St}{a:Act}{c:Cx}{nm:Nat}{o:Oper}(H:Conc β σ a c)(t:TypeId)(x:Operand)(ho:o.op=.unOp .not t x)
  {m:Bool} (hx:σ.get x=.val (.bool m)) (p:Prop):OpOk P β σ a c nm o ⟨p,.val (.bool (!m)),σ.h⟩:=by
 have hx':=H.get x
 rw [hx] at hx'
 refine OpOk.same (v:=.bool (!m)) H ?_ (.val _)
 simp [execOp,ho,W1 hx',Op.unary]
theorem Y3n {P:Program}{β:Base}{σ:St}{a:Act}{c:Cx}{nm:Nat}{o:Oper}(H:Conc β σ a c)(t:TypeId)(x:Operand)(ho:o.op=.unOp .neg t x)
  {k:IntKind} {m:Int} (hx:σ.get x=.val (.int k m)) (p:Prop):OpOk P β σ a c nm o ⟨p,.val (.int k (k.wrap (0-m))),σ.h⟩:=by
 have hx':=H.get x
 rw [hx] at hx'
 refine OpOk.same (v:=.int k (k.wrap (0-m))) H ?_ (.val _)
 simp [execOp,ho,W1 hx',Op.unary,Op.intArith]
theorem W5g {P:Program}{β:Base}{σ:St}{a:Act}{c:Cx}{nm:Nat}{o:Oper}(H:Conc β σ a c)(s t:TypeId)(x:Operand)(ho:o.op=.convert s t x)
  {is it:TyI} (hs:TyOk P s is) (ht:TyOk P t it) {ks kt k:IntKind} (hks:is.kind=.int ks) (hkt:it.kind=.int kt) {m:Int} (hx:σ.get x=.val (.int k m)) (p:Prop) :
  OpOk P β σ a c nm o ⟨p,.val (.int kt (kt.wrap m)),σ.h⟩:=by
 have hx':=H.get x
 rw [hx] at hx'
 refine OpOk.same (v:=.int kt (kt.wrap m)) H ?_ (.val _)
 simp [execOp,ho,W1 hx',convert,run_underlying (hs.int hks),run_underlying (ht.int hkt),Conv.intToInt]
theorem W5f {P:Program}{β:Base}{σ:St}{a:Act}{c:Cx}{nm:Nat}{o:Oper}(H:Conc β σ a c)(x:Operand)(n:Nat)(ho:o.op=.extract x n)
  {ds:List D} (hx:σ.get x=.tup ds) {d:D} (hd:ds[n]?=some d) (p:Prop):OpOk P β σ a c nm o ⟨p,d,σ.h⟩:=by
 have hx':=H.get x
 rw [hx] at hx'
 cases hxe:a.eval x<;>rw [hxe] at hx'<;>cases hx'
 rename_i vs hlen hh
 have hlt:n<vs.size:=by have:=(List.getElem?_eq_some_iff.1 hd).1;omega
 have hv:vs[n]?=some vs[n]:=by simp [hlt]
 refine OpOk.same (v:=vs[n]) H ?_ (hh n d _ hd hv)
 simp [execOp,ho,hxe,Instr.extract,hv]
theorem V4i {P:Program}{β:Base}{σ:St}{a:Act}{c:Cx}{nm:Nat}{o:Oper}(H:Conc β σ a c)(s t:TypeId)(x:Operand)(n:Nat)(ho:o.op=.field s x n)
  {i it:TyI} (hs:TyOk P s i) (ht:TyOk P t it) {fs:List (Nat×TypeId×Nat)} (hk:i.kind=.struct fs) {off sz':Nat} (hn:fs[n]?=some (off,t,sz'))
  {ds:List D} (hx:σ.get x=.agg ds) (h1s:it.agg=false→it.size=1) (p:Prop) (hl:off+it.size≤ds.length) :
  OpOk P β σ a c nm o ⟨p,D.ofCells it ((ds.drop off).take it.size),σ.h⟩:=by
 have hx':=H.get x
 rw [hx] at hx'
 cases hxe:a.eval x<;>rw [hxe] at hx'<;>cases hx'
 rename_i vs hlen hh
 obtain ⟨d,hd,hok⟩:=hs.desc
 rw [hk] at hok
 obtain ⟨F,rfl,hF,_⟩:=hok
 have hFn:(F.toList.map (fun f=>(f.offset,f.type)))[n]?=some (off,t):=by rw [hF];simp [hn]
 simp only [List.getElem?_map,Array.getElem?_toList,U12,Prod.mk.injEq] at hFn
 obtain ⟨f,hf,hfo,hft⟩:=hFn
 obtain ⟨g,hg1,hg2,_⟩:=ht.find
 cases ha:it.agg with
 | true=>
  refine OpOk.same (v:=.agg (vs.extract off (off+it.size))) H ?_ ?_
  ·simp [execOp,ho,hxe,Instr.field,run_underlying hd,hf,asAgg,part,hft,hfo,Z58 ht,ha,sizeOf,typeInfo,hg1,hg2]
  ·simp only [D.ofCells,ha,if_true]
   refine .agg _ _ (by simp;omega) fun j d' v hj hv=>?_
   obtain ⟨h1,h2⟩:=Q77 hj
   refine hh (off+j) d' v h1 ?_
   have:j<off+it.size-off:=by omega
   rw [Array.getElem?_extract] at hv
   split at hv
   ·exact hv
   ·cases hv
 | false=>
  have h1:=h1s ha
  have hlt:off<ds.length:=by omega
  have hv:vs[off]?=some vs[off]:=by rw [Array.getElem?_eq_getElem]
  refine OpOk.same (v:=vs[off]) H ?_ ?_
  ·simp only [execOp,ho,hxe,Instr.field,Sem.run_bind,run_underlying hd,Result.andThen_ok,hf,asAgg,Sem.run_pure,part,hft,hfo,Z58 ht,ha,U2,if_false,hv]
  ·simp only [D.ofCells,ha,U2,if_false,h1]
   have hq:((ds.drop off).take 1).headD .any=ds[off]:=by
    rw [List.drop_eq_getElem_cons hlt]
    rfl
   rw [hq]
   exact hh off ds[off] _ (by simp [hlt]) hv
theorem W0t {P:Program}{β:Base}{σ:St}{a:Act}{c:Cx}{nm:Nat}{o:Oper}(H:Conc β σ a c)(f:FuncId)(caps:Array Operand)(ho:o.op=.makeFunc (.func f) #[] caps)(p:Prop) :
  OpOk P β σ a c nm o ⟨p,.clos f (caps.toList.map σ.get),σ.h⟩:=by
 refine OpOk.same (v:=.func (.func f) #[] (caps.map a.eval)) H ?_ (.clos _ _ _ (by simp) fun i d v hi hv=>?_)
 ·simp [execOp,ho,Instr.makeFunc]
 ·simp only [List.getElem?_map,Array.getElem?_toList,U12] at hi
  obtain ⟨x,hx,rfl⟩:=hi
  simp only [Array.getElem?_map,hx,Option.map_some,Option.some.injEq] at hv
  subst hv
  exact H.get x
def D.len:D→Option Nat
 | .nil=>some 0
 | .slice _ rows=>some rows.length
 | .sl _ _ n=>some n
 | _=>none
theorem W7d {c:Cx}{d:D}{v:Value}{n:Nat}(h:Rep c d v)(hn:d.len=some n):∃ a cap,v=.slice a n cap:=by
 cases h<;>simp [D.len] at hn
 all_goals (subst hn;exact ⟨_,_,rfl⟩)
theorem Y3q {P:Program}{β:Base}{σ:St}{a:Act}{c:Cx}{nm:Nat}{o:Oper}(H:Conc β σ a c)(t e:TypeId)(x:Operand)
  (ho:o.op=.call { callee:=.builtin .len,args:=#[x],argTypes:=#[t] })
  {i:TyI} (ht:TyOk P t i) (hk:i.kind=.slice e) {n:Nat} (hx:(σ.get x).len=some n) (p:Prop):OpOk P β σ a c nm o ⟨p,.val (.int .i64 n),σ.h⟩:=by
 obtain ⟨ad,cap,he⟩:=W7d (H.get x) hx
 refine OpOk.same (v:=.int .i64 n) H ?_ (.val _)
 simp [execOp,ho,resolve,invoke,builtin,he,Builtin.len_,run_underlying (ht.slice hk),goInt]
theorem X54 {P:Program}{β:Base}{σ:St}{a:Act}{c:Cx}{nm:Nat}{o:Oper}(H:Conc β σ a c)(t:TypeId)(x:Operand)
  (ho:o.op=.call { callee:=.builtin .len,args:=#[x],argTypes:=#[t] })
  {i:TyI} (ht:TyOk P t i) (hk:i.kind=.string) {s:ByteArray} (hx:σ.get x=.val (.string s)) (p:Prop):OpOk P β σ a c nm o ⟨p,.val (.int .i64 s.size),σ.h⟩:=by
 have hx':=H.get x
 rw [hx] at hx'
 refine OpOk.same (v:=.int .i64 s.size) H ?_ (.val _)
 simp [execOp,ho,resolve,invoke,builtin,W1 hx',Builtin.len_,run_underlying (ht.string hk),goInt]
theorem Y3o {P:Program}{β:Base}{σ:St}{a:Act}{c:Cx}{nm:Nat}{o:Oper}(H:Conc β σ a c)(ts:Array TypeId)(x y:Operand)
  (ho:o.op=.call { callee:=.builtin .min,args:=#[x,y],argTypes:=ts })
  {k:IntKind} {m n:Int} (hx:σ.get x=.val (.int k m)) (hy:σ.get y=.val (.int k n)) (p:Prop):OpOk P β σ a c nm o ⟨p,.val (.int k (if n<m then n else m)),σ.h⟩:=by
 have hx':=H.get x
 have hy':=H.get y
 rw [hx] at hx'
 rw [hy] at hy'
 refine OpOk.same (v:=.int k (if n<m then n else m)) H ?_ (.val _)
 simp [execOp,ho,resolve,invoke,builtin,W1 hx',W1 hy',run_min_int2]
theorem Y3p {P:Program}{β:Base}{σ:St}{a:Act}{c:Cx}{nm:Nat}{o:Oper}(H:Conc β σ a c)(ts:Array TypeId)(x y:Operand)
  (ho:o.op=.call { callee:=.builtin .max,args:=#[x,y],argTypes:=ts })
  {k:IntKind} {m n:Int} (hx:σ.get x=.val (.int k m)) (hy:σ.get y=.val (.int k n)) (p:Prop):OpOk P β σ a c nm o ⟨p,.val (.int k (if n > m then n else m)),σ.h⟩:=by
 have hx':=H.get x
 have hy':=H.get y
 rw [hx] at hx'
 rw [hy] at hy'
 refine OpOk.same (v:=.int k (if n > m then n else m)) H ?_ (.val _)
 simp [execOp,ho,resolve,invoke,builtin,W1 hx',W1 hy',run_max_int2]
theorem W0s {P:Program}{β:Base}{σ:St}{a:Act}{c:Cx}{nm:Nat}{o:Oper}(H:Conc β σ a c)(x:Operand)(ho:o.op=.nilCheck x)(p:Prop)
  (hx:(match σ.get x with | .ptr ..=>True | .cptr _=>True | .clos ..=>True | _=>False)):OpOk P β σ a c nm o ⟨p,σ.get x,σ.h⟩:=by
 have h:=H.get x
 refine OpOk.same (v:=a.eval x) H ?_ h
 cases hd:σ.get x<;>rw [hd] at hx h<;>simp only at hx
 ·obtain ⟨b,_,he,_⟩:=Z19 h
  simp [execOp,ho,he]
 ·obtain ⟨b,o',f,he,_⟩:=Z4g h
  simp [execOp,ho,he]
 ·cases hxe:a.eval x<;>rw [hxe] at h<;>cases h
  simp [execOp,ho,hxe]
def loD (lo:Option D):Option Int:=match lo with
 | none=>some 0
 | some (.val (.int _ n))=>some n
 | _=>none
def hiD (len:Nat)(hi:Option D):Option Int:=match hi with
 | none=>some len
 | some (.val (.int _ n))=>some n
 | _=>none
theorem V2v {d:D}{n:Int}(h:loD (some d)=some n):∃ k,d=.val (.int k n):=by
 cases d<;>simp only [loD] at h<;>(try (cases h;done))
 rename_i v
 cases v<;>simp only at h<;>(try (cases h;done))
 cases h
 exact ⟨_,rfl⟩
theorem W2e {len:Nat}{d:D}{n:Int}(h:hiD len (some d)=some n):∃ k,d=.val (.int k n):=by
 cases d<;>simp only [hiD] at h<;>(try (cases h;done))
 rename_i v
 cases v<;>simp only at h<;>(try (cases h;done))
 cases h
 exact ⟨_,rfl⟩
theorem X2v {P:Program}{β:Base}{σ:St}{a:Act}{c:Cx}{nm:Nat}{o:Oper}(H:Conc β σ a c)(t:TypeId)(x:Operand)(lo hi:Option Operand)(ho:o.op=.slice t x lo hi none)
  {i:TyI} (ht:TyOk P t i) (hk:i.kind=.string) {s:ByteArray} (hx:σ.get x=.val (.string s)) {l h:Int} (hl:loD (lo.map σ.get)=some l) (hh:hiD s.size (hi.map σ.get)=some h)
  (h0:0≤l) (h1:l≤h) (h2:h≤s.size) (p:Prop):OpOk P β σ a c nm o ⟨p,.val (.string (s.extract l.toNat h.toNat)),σ.h⟩:=by
 obtain ⟨dsc,hd1,hd2⟩:=ht.desc
 rw [hk] at hd2
 simp only [TK.ok] at hd2
 subst hd2
 have hx':=H.get x
 rw [hx] at hx'
 refine OpOk.same (v:=.string (s.extract l.toNat h.toNat)) H ?_ (.val _)
 have hb:(Instr.sliceBounds false s.size s.size (lo.map a.eval) (hi.map a.eval) none).run P c.w=.ok (l.toNat,h.toNat,s.size) c.w:=by
  cases lo with
  | none=>
   simp [loD] at hl
   subst hl
   cases hi with
   | none=>simp [hiD] at hh;subst hh;simp [Instr.sliceBounds]
   | some y=>
    have hy:=H.get y
    obtain ⟨k,hyd⟩:=W2e hh
    rw [hyd] at hy
    have h3:0≤h:=by omega
    simp [Instr.sliceBounds,Instr.sliceBound,W1 hy,asIntOf,h2,h3]
  | some z=>
   have hz:=H.get z
   obtain ⟨kz,hzd⟩:=V2v hl
   rw [hzd] at hz
   cases hi with
   | none=>
    simp [hiD] at hh;subst hh
    simp [Instr.sliceBounds,Instr.sliceBound,W1 hz,asIntOf,h0,h1]
   | some y=>
    have hy:=H.get y
    obtain ⟨k,hyd⟩:=W2e hh
    rw [hyd] at hy
    have h3:0≤h:=by omega
    have h4:max h 0=h:=by omega
    simp [Instr.sliceBounds,Instr.sliceBound,W1 hy,W1 hz,asIntOf,h0,h2,h3,h1,h4]
 have hu:(underlying t).run P c.w=.ok .string c.w:=by simp [underlying,hd1]
 simp [execOp,ho,Instr.sliceAt,Instr.slice,hu,W1 hx',hb]
theorem X7u {P:Program}{β:Base}{σ:St}{a:Act}{c:Cx}{nm:Nat}{o:Oper}(H:Conc β σ a c)(t e:TypeId)(x y:Operand)(ho:o.op=.slice t x none (some y) none)
  {i ie:TyI} (ht:TyOk P t i) (hk:i.kind=.slice e) (he:TyOk P e ie) {sz:Nat} {rows:List (List D)} (hx:σ.get x=.slice sz rows) {k:IntKind} {n:Int} (hy:σ.get y=.val (.int k n))
  (h0:0≤n) (h1:n≤rows.length) (p:Prop):OpOk P β σ a c nm o ⟨p,.slice sz (rows.take n.toNat),σ.h⟩:=by
 have hx':=H.get x
 rw [hx] at hx'
 have hy':=H.get y
 rw [hy] at hy'
 have hu:(underlying t).run P c.w=.ok (.slice e) c.w:=by simp [run_underlying (ht.slice hk)]
 obtain ⟨g,hg1,hg2,hg3,z,hz1,hz2,hz3⟩:=he.info
 have hs:(sizeOf e).run P c.w=.ok ie.size c.w:=by simp [sizeOf,typeInfo,hg1,hg2]
 rcases Q8a hx' with ⟨rfl,ad,cap,hv⟩ | ⟨b,of,cap,f,hv,g1,g2,g3,g4,g5⟩
 ·have hn:n=0:=by simp at h1;omega
  subst hn
  have hb:(Instr.sliceBounds true 0 cap none (some (.int k 0)) none).run P c.w=.ok (0,0,cap) c.w:=by
   have:((0:Int)≤(cap:Int)):=by omega
   simp [Instr.sliceBounds,Instr.sliceBound,asIntOf]
  refine OpOk.same (v:=.slice (if cap=0 then ad else ad.map (·.add (0 * ie.size))) 0 cap) H ?_ (by simpa using Rep.slice0 (c:=c) sz _ cap)
  simp [execOp,ho,Instr.sliceAt,Instr.slice,hu,hv,W1 hy',hb,hs]
 ·have hb:(Instr.sliceBounds true rows.length cap none (some (.int k n)) none).run P c.w=.ok (0,n.toNat,cap) c.w:=by
   have h3:n≤(cap:Int):=by omega
   simp [Instr.sliceBounds,Instr.sliceBound,asIntOf,h0,h3]
  have hlen:(rows.take n.toNat).length=n.toNat:=by rw [U6];omega
  refine OpOk.same (v:=.slice (some ⟨b,of,none⟩) n.toNat cap) H ?_ ?_
  ·by_cases hc0:cap=0
   ·have hn0:n=0:=by omega
    subst hn0
    subst hc0
    simp [execOp,ho,Instr.sliceAt,Instr.slice,hu,hv,W1 hy',hb,hs]
   ·simp [execOp,ho,Instr.sliceAt,Instr.slice,hu,hv,W1 hy',hb,hs,hc0,Addr.add]
  ·have:=Rep.slice (c:=c) sz (rows.take n.toNat) b of cap f (by omega) (by omega) (fun row hr=>g3 row (List.mem_of_mem_take hr))
    (fun i j row d hi hj=>g4 i j row d (by rw [List.getElem?_take] at hi;split at hi;exact hi;cases hi) hj) (fun i j row d hi hj=>g5 i j row d (by rw [List.getElem?_take] at hi;split at hi;exact hi;cases hi) hj)
   rw [hlen] at this
   exact this
def X8g (c:Cx)(size:Nat)(rows:List (List D))(v:Value):Prop:=
 ∃ (a:Option Addr) (cap:Nat) (news:List Value),v=.slice a rows.length cap∧news.length=rows.length * size∧(a=none→rows=[])∧
  (∀ (ad:Addr) (j:Nat) (u:Value),a=some ad→news[j]?=some u→c.w.cell? (ad.add j)=some u)∧(∀ u∈news,u.oneCell'=true)∧
  (∀ (i j:Nat) (row:List D) (d:D),rows[i]?=some row→row[j]?=some d→∃ u,news[i * size+j]?=some u∧Rep c d u∧u.oneCell'=true)∧∀ row∈rows,row.length=size
theorem Y44 {q m size:Nat}(h0:0<size)(h:q<m * size):q / size<m:=(Nat.div_lt_iff_lt_mul h0).2 h
theorem V5m {c:Cx}{size:Nat}(h0:0<size){rows:List (List D)}{b o cap:Nat}{f:Nat→Nat→Value}(hrow:∀ row∈rows,row.length=size)
  (hcell:∀ (i j:Nat) (row:List D) (d:D),rows[i]?=some row→row[j]?=some d→c.w.cell? ⟨b,o+i * size+j,none⟩=some (f i j)∧Rep c d (f i j)∧(f i j).oneCell'=true) :
  X8g c size rows (.slice (some ⟨b,o,none⟩) rows.length cap):=by
 have key:∀ q,q<rows.length * size→∃ row d,rows[q / size]?=some row∧row[q % size]?=some d:=fun q hq=>by
  have h1:=Y44 h0 hq
  have h2:=getD_some (d:=[]) h1
  have h3:=hrow _ (U1 h2)
  have h4:q % size<(rows.getD (q / size) []).length:=by rw [h3];exact Nat.mod_lt _ h0
  exact ⟨_,_,h2,getD_some (d:=.any) h4⟩
 refine ⟨some ⟨b,o,none⟩,cap,(List.range (rows.length * size)).map fun q=>f (q / size) (q % size),rfl,by simp,by simp,fun ad j u ha hu=>?_,fun u hu=>?_,fun i j row d hi hj=>?_,hrow⟩
 ·cases ha
  have hlt:j<rows.length * size:=by simpa using (List.getElem?_eq_some_iff.1 hu).1
  have hu':f (j / size) (j % size)=u:=by simpa [hlt] using hu
  subst hu'
  obtain ⟨row,d,h1,h2⟩:=key j hlt
  have:=(hcell _ _ row d h1 h2).1
  rw [Z16]
  have e:o+j / size * size+j % size=o+j:=by rw [Nat.add_assoc,Nat.div_add_mod' j size]
  rw [e] at this
  exact this
 ·simp only [U11,List.mem_range] at hu
  obtain ⟨q,hq,rfl⟩:=hu
  obtain ⟨row,d,h1,h2⟩:=key q hq
  exact (hcell _ _ row d h1 h2).2.2
 ·have hir:=(List.getElem?_eq_some_iff.1 hi).1
  have hrl:=hrow row (U1 hi)
  have hjr:j<size:=by have:=(List.getElem?_eq_some_iff.1 hj).1;omega
  have hlt:i * size+j<rows.length * size:=by
   have:=Nat.mul_le_mul_right size (show i+1≤rows.length from hir)
   rw [Nat.add_mul] at this
   omega
  have e1:(i * size+j) / size=i:=by rw [Nat.mul_comm,Nat.mul_add_div h0,Nat.div_eq_of_lt hjr];rfl
  have e2:(i * size+j) % size=j:=by rw [Nat.mul_comm,Nat.mul_add_mod,Nat.mod_eq_of_lt hjr]
  refine ⟨f i j,by simp [hlt,e1,e2],(hcell i j row d hi hj).2⟩
theorem W6y {c:Cx}{size:Nat}(h0:0<size){rows:List (List D)}{v:Value}(h:Rep c (.slice size rows) v):X8g c size rows v:=by
 rcases Q8a h with ⟨rfl,a,cap,rfl⟩ | ⟨b,o,cap,f,rfl,_,_,hrow,hcell,hrep⟩
 ·exact ⟨a,cap,[],rfl,by simp,by simp,by simp,by simp,by simp,by simp⟩
 ·exact V5m h0 hrow fun i j row d hi hj=>⟨(hcell i j row d hi hj).1,hrep i j row d hi hj,(hcell i j row d hi hj).2.2⟩
theorem V7d {c:Cx}{size:Nat}{v:Value}(h:Rep c .nil v):X8g c size [] v:=by
 cases h
 exact ⟨none,0,[],rfl,by simp,by simp,by simp,by simp,by simp,by simp⟩
theorem V5k {c:Cx}{size k n:Nat}{L:Loc}(h0:0<size){v:Value}(h:Rep c (.sl size k n) v)(hL:Z5i c k L)(hsz:L.sz=size)(hn:L.rows.length=n):X8g c size L.rows v:=by
 subst hsz
 subst hn
 rcases Z0y h with ⟨h1,_,a,rfl⟩ | ⟨b,cap,cs,e,fz,rfl,hM,hcap,hb,hs⟩
 ·have hr:L.rows=[]:=List.eq_nil_of_length_eq_zero h1
  rw [hr]
  exact ⟨a,0,[],rfl,by simp,by simp,by simp,by simp,by simp,by simp⟩
 ·obtain ⟨cs',f,hb',hfr,hlen,hfz,hlim,hrow,hcell⟩:=hL.block hM (by omega)
  refine V5m h0 (f:=f) hrow fun i j row d hi hj=>⟨?_,(hcell i j row d hi hj).2⟩
  have:=(hcell i j row d hi hj).1
  simp only [World.cell?,hb']
  simpa using this
theorem Z08 {P:Program}(w:World){t e:TypeId}{i ie:TyI}(ht:TyOk P t i)(hk:i.kind=.slice e)(he:TyOk P e ie)(ty:TypeId)(base a:Option Addr)(n cap c:Nat)(hn:n≤cap) :
  (Builtin.append_ #[t,t] ty #[.slice base n cap,.slice a 0 c]).run P w=.ok (.slice base n cap) w:=by
 obtain ⟨g,hg1,hg2,_⟩:=he.find
 have hf:(Builtin.firstCells g.size 0 (.slice a 0 c)).run P w=.ok #[] w:=by
  cases a<;>simp [Builtin.firstCells,loadCells,loadCellsFrom]
 cases base<;>simp [Builtin.append_,run_underlying (ht.slice hk),sizeOf,typeInfo,hg1,Builtin.lenOf,hn,hf,storeCells]
theorem W1n {P:Program}(w:World){t e:TypeId}{i ie:TyI}(ht:TyOk P t i)(hk:i.kind=.slice e)(he:TyOk P e ie)(ty:TypeId)(base:Option Addr)(n cap:Nat)(olds:List Value)
  (hlo:olds.length=n * ie.size) (hb0:base=none→n=0) (holds:∀ (ad:Addr) (j:Nat) (u:Value),base=some ad→olds[j]?=some u→w.cell? (ad.add j)=some u)
  (a:Addr) (m c:Nat) (news:List Value) (hl:news.length=m * ie.size) (hnews:∀ (j:Nat) (u:Value),news[j]?=some u→w.cell? (a.add j)=some u)
  (hm:0<m) (hg:cap<n+m) (hc0:base=none→cap=0) (hlim:n+m≤Q9) :
  ∃ (K:Nat) (rest:Array Value),n+m≤K∧rest.size=(K-(n+m)) * ie.size∧
   (Builtin.append_ #[t,t] ty #[.slice base n cap,.slice (some a) m c]).run P w =
    .ok (.slice (some ⟨w.heap.size,0,none⟩) (n+m) K) (w.drew.alloc (.cells (olds.toArray++news.toArray++rest) e)):=by
 obtain ⟨f,hf1,hf2,hf3,z,hz1,hz2,hz3⟩:=he.info
 have hzs:z.cells.size=ie.size:=by rw [←he.zlen,←hz2];simp
 have hroom:=he.room
 have hbig:(n+m) * f.bytes≤140737488355328:=by
  have h1:(n+m) * f.bytes≤Q9 * 16384:=Nat.mul_le_mul hlim (by omega)
  simp only [Q9] at h1
  omega
 have h63:((n+m:Nat):Int)≤9223372036854775807:=by simp only [Q9] at hlim;omega
 refine ⟨grownCap w (n+m) cap e,Builtin.zeroCells z.cells (grownCap w (n+m) cap e-(n+m)),grownCap_ge _ _ _ _,by rw [size_zeroCells,hzs],?_⟩
 cases base with
 | none=>
  have hn0:=hb0 rfl
  have hc:=hc0 rfl
  subst hn0
  subst hc
  have ho:olds=[]:=List.eq_nil_of_length_eq_zero (by simpa using hlo)
  subst ho
  have:=run_append_nil (P:=P) w t ty e f z (ht.slice hk) hf1 hz1 a m c news (by rw [hf2];exact hl) hnews hm (by simpa using h63) (by simp at hbig;omega)
  simpa using this
 | some ad=>
  exact run_append_grow (P:=P) w t ty e f z (ht.slice hk) hf1 hz1 ad n cap olds (by rw [hf2];exact hlo) (fun j v hv=>holds ad j v rfl hv) a m c news (by rw [hf2];exact hl) hnews hg h63
   (growslice_fits hg hbig)
theorem V0e {c:Cx}{size:Nat}{rows rows':List (List D)}{olds news:List Value}(rest:Array Value)(hlo:olds.length=rows.length * size)(hrow:∀ row∈rows,row.length=size)
  (h1:∀ (i j:Nat) (row:List D) (d:D),rows[i]?=some row→row[j]?=some d→∃ u,olds[i * size+j]?=some u∧Rep c d u∧u.oneCell'=true)
  (hln:news.length=rows'.length * size) (hrow':∀ row∈rows',row.length=size)
  (h2:∀ (i j:Nat) (row:List D) (d:D),rows'[i]?=some row→row[j]?=some d→∃ u,news[i * size+j]?=some u∧Rep c d u∧u.oneCell'=true) (i j:Nat) (row:List D) (d:D)
  (hi:(rows++rows')[i]?=some row) (hj:row[j]?=some d) :
  ∃ u,(olds++news++rest.toList)[i * size+j]?=some u∧Rep c d u∧u.oneCell'=true:=by
 rw [List.getElem?_append] at hi
 split at hi
 ·rename_i hlt
  obtain ⟨u,hu,hr⟩:=h1 i j row d hi hj
  refine ⟨u,?_,hr⟩
  have:=(List.getElem?_eq_some_iff.1 hu).1
  rw [List.append_assoc,List.getElem?_append_left this]
  exact hu
 ·rename_i hge
  obtain ⟨u,hu,hr⟩:=h2 _ j row d hi hj
  refine ⟨u,?_,hr⟩
  have hlt:=(List.getElem?_eq_some_iff.1 hu).1
  have e:(i-rows.length) * size+j=i * size+j-olds.length:=by
   rw [hlo,Nat.sub_mul]
   have:=Nat.mul_le_mul_right size (show rows.length≤i by omega)
   omega
  have hge2:olds.length≤i * size+j:=by
   rw [hlo]
   have:=Nat.mul_le_mul_right size (show rows.length≤i by omega)
   omega
  rw [List.append_assoc,List.getElem?_append_right hge2,←e,List.getElem?_append_left hlt]
  exact hu
theorem W9f {α:Type}{o:Option α}{u d:α}(h:o=some u):o.getD d=u:=by rw [h];rfl
theorem W17 {P:Program}{β:Base}{h:Nat→Option Loc}{c:Cx}(H:HOk β h c){k nm:Nat}{L:Loc}(hk:h k=some L)(hn:h nm=none)(hM:c.M nm=none)
  {t e:TypeId} {i ie:TyI} (ht:TyOk P t i) (hkd:i.kind=.slice e) (he:TyOk P e ie) (h0:0<ie.size) (hsz:L.sz=ie.size) (hel:L.el=e) (ty:TypeId)
  {v:Value} (hv:Rep c (.sl ie.size k L.rows.length) v) {rows:List (List D)} {u:Value} (hu:X8g c ie.size rows u) (hlim:L.rows.length+rows.length≤Q9) :
  ∃ v' c',(Builtin.append_ #[t,t] ty #[v,u]).run P c.w=.ok v' c'.w∧c.Ext c'∧Rep c' (.sl ie.size nm (L.rows.length+rows.length)) v'∧
   HOk β (updL (updL h k none) nm (some ⟨ie.size,L.rows++rows,L.fz,e⟩)) c'∧∀ q,q≠nm→c'.M q=c.M q:=by
 have hknm:k≠nm:=fun e=>by subst e;rw [hk] at hn;cases hn
 have hLk:=H.locs k L hk
 obtain ⟨a,ucap,news,rfl,hnl,hanone,hncell,hnone,hnrep,hnrow⟩:=hu
 have hkill:=H.kill k
 have hn':updL h k none nm=none:=by simp [hn]
 have grown:∀ (base:Option Addr) (n cap:Nat) (olds:List Value),n=L.rows.length→v=.slice base n cap→olds.length=n * ie.size→(base=none→n=0)→
   (∀ (ad:Addr) (j:Nat) (u:Value),base=some ad→olds[j]?=some u→c.w.cell? (ad.add j)=some u)→
   (∀ (i j:Nat) (row:List D) (d:D),L.rows[i]?=some row→row[j]?=some d→∃ u,olds[i * ie.size+j]?=some u∧Rep c d u∧u.oneCell'=true)→
   (∀ row∈L.rows,row.length=ie.size)→0<rows.length→cap<n+rows.length→(base=none→cap=0)→L.fz≤L.rows.length * ie.size→
   ∃ v' c',(Builtin.append_ #[t,t] ty #[v,.slice a rows.length ucap]).run P c.w=.ok v' c'.w∧c.Ext c'∧Rep c' (.sl ie.size nm (L.rows.length+rows.length)) v'∧
    HOk β (updL (updL h k none) nm (some ⟨ie.size,L.rows++rows,L.fz,e⟩)) c'∧∀ q,q≠nm→c'.M q=c.M q:=by
  intro base n cap olds hnn hvv hlo hb0 holds horep hrow hpos hgt hc0 hfz
  subst hnn
  subst hvv
  obtain ⟨ad,rfl⟩:∃ ad,a=some ad:=by
   cases a with
   | none=>have:=hanone rfl;subst this;simp at hpos
   | some ad=>exact ⟨ad,rfl⟩
  obtain ⟨K,rest,hK,hrest,hrun⟩:=W1n (P:=P) c.w ht hkd he ty base L.rows.length cap olds hlo hb0 holds ad rows.length ucap news hnl (fun j u hu=>hncell ad j u rfl hu) hpos hgt hc0 hlim
  have hcells:=fun i j row d=>V0e (c:=c) (rows:=L.rows) (rows':=rows) (olds:=olds) (news:=news) rest hlo hrow horep hnl hnrow hnrep i j row d
  have hlr:(L.rows++rows).length=L.rows.length+rows.length:=by simp
  obtain ⟨c',hc',hx,hh⟩:=hkill.alloc hn' hM (w':=c.w.drew.alloc (.cells (olds.toArray++news.toArray++rest) e)) ⟨ie.size,L.rows++rows,L.fz,e⟩ (olds.toArray++news.toArray++rest)
   (fun i j=>((olds++news++rest.toList)[i * ie.size+j]?).getD undef) h0 rfl rfl rfl rfl
   (by simp only [hlr,Array.size_append,List.size_toArray,hlo,hnl,hrest,←Nat.add_mul];exact Nat.mul_le_mul_right _ (by omega))
   (by simp only [hlr,Nat.add_mul];omega) (by simp only [hlr];exact Z5u hlim)
   (fun row hr=>by rcases U9.1 hr with hr | hr;exact hrow row hr;exact hnrow row hr)
   (fun i j row d hi hj=>by
    obtain ⟨u,hu,hr,ho⟩:=hcells i j row d hi hj
    have he2:(olds.toArray++news.toArray++rest)[i * ie.size+j]?=(olds++news++rest.toList)[i * ie.size+j]?:=by
     rw [←Array.getElem?_toList];simp
    simp only [he2,W9f hu]
    exact ⟨hu,hr,ho⟩)
  subst hc'
  refine ⟨_,_,hrun,hx,?_,hh,fun q hq=>by simp [hq]⟩
  refine .sl _ _ _ c.w.heap.size K (olds.toArray++news.toArray++rest) e (0,0) (by simp) hK (heap_alloc_new c.w.drew _) ?_
  simp only [Array.size_append,List.size_toArray,hlo,hnl,hrest,←Nat.add_mul]
  exact Nat.mul_le_mul_right _ (by omega)
 rcases Z0y hv with ⟨hl0,hMk,base,rfl⟩ | ⟨b,cap,cs0,e0,fz0,rfl,hMk,hcap,hb0,hcs0⟩
 ·
  have hLr:L.rows=[]:=List.eq_nil_of_length_eq_zero hl0
  have hLf:L.fz=0:=by
   cases hLk with
   | nil _ _ h3=>exact h3
   | own b cs f h1=>rw [h1] at hMk;cases hMk
   | map b _ _ h1=>rw [h1] at hMk;cases hMk
  by_cases hm:rows.length=0
  ·have hr0:rows=[]:=List.eq_nil_of_length_eq_zero hm
   subst hr0
   obtain ⟨c',hc',hx,hh⟩:=hkill.nilloc hM ie.size e
   subst hc'
   refine ⟨.slice base 0 0,⟨fun k=>if k=nm then some none else c.M k,c.fr,c.w⟩,Z08 (P:=P) c.w ht hkd he ty base a 0 0 ucap (Nat.le_refl _),hx,?_,?_,fun q hq=>by simp [hq]⟩
   ·rw [hl0]
    exact .sl0 _ _ base (by simp)
   ·rw [hLr,hLf]
    exact hh
  ·exact grown base 0 0 [] hl0.symm rfl (by simp) (fun _=>rfl) (by simp) (by simp [hLr]) (by simp [hLr]) (by omega) (by omega) (fun _=>rfl) (by omega)
 ·obtain ⟨cs,f,hb,hfr,hlen,hfz,hlm,hrow,hcell⟩:=hLk.block hMk (by omega)
  rw [hsz] at hlen hfz hrow hcell
  have hcseq:cs0=cs∧e0=L.el:=by rw [hb] at hb0;cases hb0;exact ⟨rfl,rfl⟩
  obtain ⟨rfl,_⟩:=hcseq
  have hlrr:(L.rows++rows).length=L.rows.length+rows.length:=by simp
  by_cases hroom:L.rows.length+rows.length≤cap
  ·
   have hend:(L.rows.length+rows.length) * ie.size≤cs0.size:=Nat.le_trans (Nat.mul_le_mul_right _ hroom) hcs0
   have hend':=hend
   rw [Nat.add_mul] at hend'
   obtain ⟨cs',hrun,hw',hget,hcl⟩:∃ cs':Array Value,(Builtin.append_ #[t,t] ty #[.slice (some ⟨b,0,none⟩) L.rows.length cap,.slice a rows.length ucap]).run P c.w =
     .ok (.slice (some ⟨b,0,none⟩) (L.rows.length+rows.length) cap) (c.w.setRow b cs')∧c.w.heap[b]?=some (.cells cs0 L.el (0,0))∧
     (∀ q,cs'[q]?=if q<L.rows.length * ie.size then cs0[q]? else if q<L.rows.length * ie.size+rows.length * ie.size then news[q-L.rows.length * ie.size]? else cs0[q]?)∧cs'.size=cs0.size:=by
    cases a with
    | none=>
     have hr0:=hanone rfl
     subst hr0
     refine ⟨cs0,?_,hb,fun q=>by by_cases hq:q<L.rows.length * ie.size<;>simp [hq],rfl⟩
     have:=Z08 (P:=P) c.w ht hkd he ty (some ⟨b,0,none⟩) none L.rows.length cap ucap hcap
     simp only [U4,Nat.add_zero]
     rw [this,setRow_self c.w b cs0 L.el (0,0) hb]
    | some ad=>
     obtain ⟨g,hg1,hg2,_⟩:=he.find
     have hr:=run_append_room (P:=P) c.w t ty e g (ht.slice hkd) hg1 b L.rows.length cap cs0 (by rw [←hel];exact hb) ad rows.length ucap news (by rw [hg2];exact hnl) (fun j u hu=>hncell ad j u rfl hu) hnone hroom
      (by rw [hg2,hnl];exact hend')
     refine ⟨_,hr,hb,fun q=>?_,?_⟩
     ·rw [hg2]
      have:=X9e cs0.toList news (L.rows.length * ie.size) (by simp only [hnl,Array.length_toList];omega) q
      rw [hnl] at this
      simpa [hnl] using this
     ·rw [hg2]
      simp only [List.size_toArray,U5,U6,List.length_drop,Array.length_toList,hnl]
      omega
   obtain ⟨c',hc',hx,hh⟩:=H.write hk hMk (k':=nm) (.inr hM) (w':=c.w.setRow b cs') ⟨ie.size,L.rows++rows,L.fz,e⟩ cs0 cs' (fun i j=>(cs'[i * ie.size+j]?).getD undef) h0 hb
    (setRow_heap c.w b cs0 cs' L.el (0,0) hb) (fun q hq=>setRow_other c.w b q cs' (by exact fun e=>hq e)) (by simp) rfl rfl rfl hcl
    (fun q hq=>by rw [hget q,if_pos (by omega)]) hel.symm rfl (by simp only [hlrr];omega) (by simp only [hlrr,Nat.add_mul];omega) (by simp only [hlrr];exact Z5u hlim)
    (fun row hr=>by rcases U9.1 hr with hr | hr;exact hrow row hr;exact hnrow row hr)
    (fun i j row d hi hj=>by
     have fin:∀ u,cs'[i * ie.size+j]?=some u→Rep c d u∧u.oneCell'=true→cs'[i * ie.size+j]?=some ((cs'[i * ie.size+j]?).getD undef)∧Rep c d ((cs'[i * ie.size+j]?).getD undef)∧((cs'[i * ie.size+j]?).getD undef).oneCell'=true:=fun u hu hr=>by simp [hu,hr]
     simp only at hi
     rw [List.getElem?_append] at hi
     split at hi
     ·rename_i hlt
      obtain ⟨h1,h2⟩:=hcell i j row d hi hj
      have hrl:=hrow row (U1 hi)
      have hjr:j<ie.size:=by have:=(List.getElem?_eq_some_iff.1 hj).1;omega
      have:=Nat.mul_le_mul_right ie.size (show i+1≤L.rows.length from hlt)
      rw [Nat.add_mul] at this
      exact fin _ (by rw [hget,if_pos (by omega)];exact h1) h2
     ·rename_i hge
      obtain ⟨u,hu,hr⟩:=hnrep _ j row d hi hj
      have hlt:=(List.getElem?_eq_some_iff.1 hu).1
      rw [hnl] at hlt
      have h1:=Nat.mul_le_mul_right ie.size (show L.rows.length≤i by omega)
      have h2:(i-L.rows.length) * ie.size=i * ie.size-L.rows.length * ie.size:=Nat.sub_mul _ _ _
      refine fin u ?_ hr
      rw [hget,if_neg (by omega),if_pos (by omega),←hu]
      congr 1
      omega)
   subst hc'
   refine ⟨_,_,hrun,hx,?_,hh,fun q hq=>by simp [hq]⟩
   exact .sl _ _ _ b cap cs' L.el (0,0) (by simp) hroom (setRow_heap c.w b cs0 cs' L.el (0,0) hb) (by omega)
  ·refine grown (some ⟨b,0,none⟩) L.rows.length cap (cs0.toList.take (L.rows.length * ie.size)) rfl rfl (by simp;omega) (by simp) (fun ad j u ha hu=>?_) (fun i j row d hi hj=>?_) hrow (by omega) (by omega) (by simp) hfz
   ·cases ha
    rw [Z16]
    simp only [List.getElem?_take] at hu
    split at hu
    ·simp only [World.cell?,hb]
     simpa using hu
    ·cases hu
   ·obtain ⟨h1,h2,h3⟩:=hcell i j row d hi hj
    have hlt:=(List.getElem?_eq_some_iff.1 hi).1
    have hrl:=hrow row (U1 hi)
    have hjr:j<ie.size:=by have:=(List.getElem?_eq_some_iff.1 hj).1;omega
    have:=Nat.mul_le_mul_right ie.size (show i+1≤L.rows.length from hlt)
    rw [Nat.add_mul] at this
    exact ⟨f i j,by rw [List.getElem?_take,if_pos (by omega)];simpa using h1,h2,h3⟩
theorem X81 {P:Program}{β:Base}{σ:St}{a:Act}{c:Cx}{nm:Nat}{o:Oper}(H:Conc β σ a c)(hn:σ.h nm=none)(hM:c.M nm=none)(t e:TypeId)(x y:Operand)
  (ho:o.op=.call { callee:=.builtin .append,args:=#[x,y],argTypes:=#[t,t] })
  {i ie:TyI} (ht:TyOk P t i) (hkd:i.kind=.slice e) (he:TyOk P e ie) (h0:0<ie.size) {sz k n:Nat} (hx:σ.get x=.sl sz k n) {L:Loc} (hk:σ.h k=some L)
  (h1:sz=ie.size) (h2:L.sz=ie.size) (h3:L.rows.length=n) (h4:L.el=e) {rows:List (List D)} (hy:X8g c ie.size rows (a.eval y)) (h5:n+rows.length≤Q9) (p:Prop) :
  OpOk P β σ a c nm o ⟨p,.sl sz nm (n+rows.length),updL (updL σ.h k none) nm (some ⟨sz,L.rows++rows,L.fz,e⟩)⟩:=by
 subst h1
 subst h3
 have hx':=H.get x
 rw [hx] at hx'
 obtain ⟨v',c',hr,hxt,hv,hh,hm⟩:=W17 (P:=P) H.heap hk hn hM ht hkd he h0 h2 h4 o.type hx' hy h5
 refine ⟨v',c',.inl ?_,hxt,hv,hh,hm,fun q hq hq'=>by simp [hq,hq'],fun hm0=>by simp [ho,Z4s] at hm0⟩
 simp [execOp,ho,resolve,invoke,builtin,hr]
theorem X56 {P:Program}{β:Base}{σ:St}{a:Act}{c:Cx}{nm:Nat}{o:Oper}(H:Conc β σ a c)(hn:σ.h nm=none)(hM:c.M nm=none)(t e:TypeId)(x y:Operand)
  (ho:o.op=.call { callee:=.builtin .append,args:=#[x,y],argTypes:=#[t,t] })
  {i ie:TyI} (ht:TyOk P t i) (hkd:i.kind=.slice e) (he:TyOk P e ie) (h0:0<ie.size) (hx:σ.get x=.nil)
  {rows:List (List D)} (hy:X8g c ie.size rows (a.eval y)) (h5:rows.length≤Q9) (p:Prop) :
  OpOk P β σ a c nm o ⟨p,.sl ie.size nm rows.length,updL σ.h nm (some ⟨ie.size,rows,0,e⟩)⟩:=by
 have hx':=H.get x
 rw [hx] at hx'
 have hxe:a.eval x=.slice none 0 0:=by
  generalize a.eval x=v at hx'
  cases hx'
  rfl
 obtain ⟨ya,ucap,news,hye,hnl,hanone,hncell,hnone,hnrep,hnrow⟩:=hy
 by_cases hm:rows.length=0
 ·have hr0:rows=[]:=List.eq_nil_of_length_eq_zero hm
  subst hr0
  obtain ⟨c',hc',hxt,hh⟩:=H.heap.nilloc hM ie.size e
  subst hc'
  have hr:=Z08 (P:=P) c.w ht hkd he o.type none ya 0 0 ucap (Nat.le_refl _)
  refine ⟨.slice none 0 0,⟨fun k=>if k=nm then some none else c.M k,c.fr,c.w⟩,.inl ?_,hxt,.sl0 _ _ none (by simp),hh,fun q hq=>by simp [hq],fun q hq hq'=>by simp [hq,hq'],fun hm0=>by simp [ho,Z4s] at hm0⟩
  simp [execOp,ho,resolve,invoke,builtin,hxe,hye,hr]
 ·obtain ⟨ad,rfl⟩:∃ ad,ya=some ad:=by
   cases ya with
   | none=>have:=hanone rfl;subst this;simp at hm
   | some ad=>exact ⟨ad,rfl⟩
  obtain ⟨K,rest,hK,hrest,hrun⟩:=W1n (P:=P) c.w ht hkd he o.type none 0 0 [] (by simp) (fun _=>rfl) (by simp) ad rows.length ucap news hnl (fun j u hu=>hncell ad j u rfl hu) (by omega) (by omega) (fun _=>rfl) (by omega)
  simp only [Nat.zero_add] at hK hrest hrun
  have he2:∀ q,((([]:List Value).toArray++news.toArray++rest))[q]?=(news++rest.toList)[q]?:=fun q=>by
   have e3:(([]:List Value).toArray++news.toArray++rest).toList=news++rest.toList:=by simp
   rw [←Array.getElem?_toList,e3]
  obtain ⟨c',hc',hxt,hh⟩:=H.heap.alloc hn hM (w':=c.w.drew.alloc (.cells (([]:List Value).toArray++news.toArray++rest) e)) ⟨ie.size,rows,0,e⟩ (([]:List Value).toArray++news.toArray++rest)
   (fun i j=>((news++rest.toList)[i * ie.size+j]?).getD undef) h0 rfl rfl rfl rfl
   (by simp only [Array.size_append,List.size_toArray,U4,hnl,hrest,←Nat.add_mul,Nat.zero_add];exact Nat.mul_le_mul_right _ (by omega)) (Nat.zero_le _) (Z5u h5) hnrow
   (fun i j row d hi hj=>by
    obtain ⟨u,hu,hr,ho⟩:=hnrep i j row d hi hj
    have hlt:=(List.getElem?_eq_some_iff.1 hu).1
    have hu2:(news++rest.toList)[i * ie.size+j]?=some u:=by rw [List.getElem?_append_left hlt];exact hu
    simp only [he2,W9f hu2]
    exact ⟨hu2,hr,ho⟩)
  subst hc'
  refine ⟨.slice (some ⟨c.w.heap.size,0,none⟩) rows.length K,_,.inl ?_,hxt,?_,hh,fun q hq=>by simp [hq],fun q hq hq'=>by simp [hq,hq'],fun hm0=>by simp [ho,Z4s] at hm0⟩
  ·simp [execOp,ho,resolve,invoke,builtin,hxe,hye,hrun]
  ·refine .sl _ _ _ c.w.heap.size K (([]:List Value).toArray++news.toArray++rest) e (0,0) (by simp) hK (heap_alloc_new c.w.drew _) ?_
   simp only [Array.size_append,List.size_toArray,U4,hnl,hrest,←Nat.add_mul,Nat.zero_add]
   exact Nat.mul_le_mul_right _ (by omega)
def Z2p (sz:Nat)(rows:List (List D)):List (Nat×D)→Option (List (List D))
 | []=>some rows
 | (i,d)::rest=>match d.flat with
  | some ds=>if ds.length=sz∧i<rows.length then Z2p sz (rows.set i ds) rest else none
  | none=>none
def X5k (c:Cx)(sz:Nat)(rows:List (List D))(arr:Array Value):Prop:=
 arr.size=rows.length * sz∧(∀ row∈rows,row.length=sz)∧
  ∀ (i j:Nat) (row:List D) (d:D),rows[i]?=some row→row[j]?=some d→∃ u,arr[i * sz+j]?=some u∧Rep c d u∧u.oneCell'=true
theorem Z8g {c:Cx}{sz:Nat} : ∀ (Q29:List (Nat×D)) (vs:List (Nat×Value)) (rows rows':List (List D)) (arr:Array Value),
  All2 (fun p v=>p.1=v.1∧Rep c p.2 v.2) Q29 vs→X5k c sz rows arr→Z2p sz rows Q29=some rows'→
   ∃ arr',Instr.fill (fun i=>some (i * sz,sz)) arr vs=some arr'∧X5k c sz rows' arr'∧rows'.length=rows.length
 | [],(_::_),_,_,_,h,_,_=>by cases h
 | (_::_),[],_,_,_,h,_,_=>by cases h
 | [],[],rows,rows',arr,_,h,hf=>by
  simp only [Z2p,Option.some.injEq] at hf
  subst hf
  exact ⟨arr,rfl,h,rfl⟩
 | (i,d)::Q29,(i',v)::vs,rows,rows',arr,hp,h,hf=>by
  cases hp with
  | cons hh ht=>
   obtain ⟨h0,hv⟩:=hh
   simp only at h0 hv
   subst h0
   simp only [Z2p] at hf
   cases hfl:d.flat with
   | none=>simp [hfl] at hf
   | some ds=>
    simp only [hfl] at hf
    split at hf
    ·rename_i hc
     obtain ⟨hds,hi⟩:=hc
     obtain ⟨h1,h2,_⟩:=Z5w hv hfl
     obtain ⟨hsz,hrow,hcell⟩:=h
     have hend:=Nat.mul_le_mul_right sz (show i+1≤rows.length from hi)
     rw [Nat.add_mul,Nat.one_mul] at hend
     have hvl:v.cells.toList.length=sz:=by simp;omega
     have hfold:=X16 (i * sz) v.cells.toList 0 arr (by rw [hvl,hsz];omega)
     have e:(v.cells.zipIdx.foldl (fun cs (x,j)=>cs.setIfInBounds (i * sz+j) x) arr)=((v.cells.toList.zipIdx 0).foldl (fun cs (x:Value×Nat)=>cs.setIfInBounds (i * sz+x.2) x.1) arr):=by
      rw [←Array.foldl_toList,Array.toList_zipIdx]
     rw [hvl] at hfold
     obtain ⟨f1,f2⟩:=hfold
     have hnew:X5k c sz (rows.set i ds) (v.cells.zipIdx.foldl (fun cs (x,j)=>cs.setIfInBounds (i * sz+j) x) arr):=by
      rw [e]
      refine ⟨by rw [f1,hsz,List.length_set],fun row hm=>?_,fun i2 j row d' hi2 hj=>?_⟩
      ·rcases List.mem_or_eq_of_mem_set hm with hm | rfl
       ·exact hrow row hm
       ·exact hds
      ·rw [f2]
       by_cases hii:i2=i
       ·subst hii
        rw [List.getElem?_set_self hi] at hi2
        cases hi2
        have hjr:j<sz:=by have:=(List.getElem?_eq_some_iff.1 hj).1;omega
        rw [if_pos (by omega)]
        obtain ⟨u,hu,hr⟩:=h2 j d' hj
        refine ⟨u,?_,hr⟩
        have e4:i2 * sz+j-(i2 * sz+0)=j:=by omega
        rw [e4]
        simpa using hu
       ·rw [List.getElem?_set_ne (by omega)] at hi2
        obtain ⟨u,hu,hr⟩:=hcell i2 j row d' hi2 hj
        refine ⟨u,?_,hr⟩
        have hrl:=hrow row (U1 hi2)
        have hjr:j<sz:=by have:=(List.getElem?_eq_some_iff.1 hj).1;omega
        rcases Nat.lt_or_gt_of_ne hii with hlt | hgt
        ·have:=Nat.mul_le_mul_right sz (show i2+1≤i from hlt)
         rw [Nat.add_mul,Nat.one_mul] at this
         rw [if_neg (by omega)]
         exact hu
        ·have:=Nat.mul_le_mul_right sz (show i+1≤i2 from hgt)
         rw [Nat.add_mul,Nat.one_mul] at this
         rw [if_neg (by omega)]
         exact hu
     obtain ⟨arr',ha,hr,hl⟩:=Z8g Q29 vs _ rows' _ ht hnew hf
     refine ⟨arr',?_,hr,by rw [hl,List.length_set]⟩
     have hcond:(v.cells.size≠sz||i * sz+v.cells.size > arr.size)=false:=by simp;omega
     simp only [Instr.fill,hcond]
     exact ha
    ·cases hf
theorem X55 {P:Program}{β:Base}{σ:St}{a:Act}{c:Cx}{nm:Nat}{o:Oper}(H:Conc β σ a c)(hn:σ.h nm=none)(hM:c.M nm=none)(t e:TypeId)(len:Nat)(Q29:Array (Nat×Operand))
  (ho:o.op=.buildSlice t len Q29) {i ie:TyI} (ht:TyOk P t i) (hk:i.kind=.slice e) (he:TyOk P e ie) (h0:0<ie.size) {rows:List (List D)}
  (hf:Z2p ie.size (List.replicate len (ie.zero.map D.ofV)) (Q29.toList.map fun x=>(x.1,σ.get x.2))=some rows) (hs:len * ie.size≤16777216) (p:Prop) :
  OpOk P β σ a c nm o ⟨p,.sl ie.size nm len,updL σ.h nm (some ⟨ie.size,rows,0,e⟩)⟩:=by
 obtain ⟨f,hf1,hf2,hf3,z,hz1,hz2,hz3⟩:=he.info
 have hzs:z.cells.size=ie.size:=by rw [←he.zlen,←hz2];simp
 have hzr:X5k c ie.size (List.replicate len (ie.zero.map D.ofV)) ((Array.range (len * ie.size)).map (z.cells[· % z.cells.size]!)):=by
  refine ⟨by simp,fun row hm=>by rw [List.eq_of_mem_replicate hm];simp [he.zlen],fun i j row d hi hj=>?_⟩
  have hil:=(List.getElem?_eq_some_iff.1 hi).1
  simp only [List.length_replicate] at hil
  have hrow:row=ie.zero.map D.ofV:=List.eq_of_mem_replicate (U1 hi)
  subst hrow
  simp only [List.getElem?_map,U12] at hj
  obtain ⟨u,hu,rfl⟩:=hj
  have hjl:=(List.getElem?_eq_some_iff.1 hu).1
  rw [he.zlen] at hjl
  have hend:=Nat.mul_le_mul_right ie.size (show i+1≤len from hil)
  rw [Nat.add_mul,Nat.one_mul] at hend
  refine ⟨u,?_,Z7a _ u,he.zone u (U1 hu)⟩
  have e2:(i * ie.size+j) % z.cells.size=j:=by rw [hzs,Nat.mul_comm,Nat.mul_add_mod,Nat.mod_eq_of_lt hjl]
  have e3:z.cells[j]?=some u:=by rw [←hz2] at hu;simpa using hu
  have hlt:i * ie.size+j<len * ie.size:=by omega
  simp only [Array.getElem?_map,Array.getElem?_range,hlt,if_true,Option.map_some,e2]
  simp [getElem!_def,e3]
 obtain ⟨arr,ha,hr,hl⟩:=Z8g _ _ _ _ _ (Z6h σ a H.get Q29) hzr hf
 rw [List.length_replicate] at hl
 have hlim:rows.length≤Q0c:=by
  rw [hl]
  have:=Nat.le_mul_of_pos_right len h0
  simp only [Q0c]
  omega
 obtain ⟨c',hc',hxt,hh⟩:=H.heap.alloc hn hM (w':=c.w.alloc (.cells arr e)) ⟨ie.size,rows,0,e⟩ arr (fun i j=>(arr[i * ie.size+j]?).getD undef) h0 rfl rfl rfl rfl
  (by simp only;rw [hr.1];exact Nat.le_refl _) (Nat.zero_le _) hlim hr.2.1 (fun i j row d hi hj=>by
   obtain ⟨u,hu,hr',ho⟩:=hr.2.2 i j row d hi hj
   simp [hu,hr',ho])
 subst hc'
 refine ⟨.slice (some ⟨c.w.heap.size,0,none⟩) len len,_,.inl ?_,hxt,?_,hh,fun q hq=>by simp [hq],fun q hq hq'=>by simp [hq,hq'],fun hm0=>by simp [ho,Z4s] at hm0⟩
 ·have hs':¬(len * f.size > 2 ^ 24):=by rw [hf2];omega
  have hfill:Instr.fill (fun i=>some (i * f.size,f.size)) ((Array.range (len * f.size)).map ((if len * f.size=0 then #[] else z.cells)[· % (if len * f.size=0 then #[] else z.cells:Array Value).size]!)) (Q29.map fun (i,x)=>(i,a.eval x)).toList=some arr:=by
   rw [hf2]
   by_cases h00:len * ie.size=0
   ·simp only [h00,if_true,show Array.range 0 = #[] from rfl,Array.map_empty] at ha ⊢
    exact ha
   ·simp only [h00,if_false]
    exact ha
  by_cases h00:len * f.size=0
  ·simp only [h00,if_true] at hfill
   simp only [execOp,ho,Instr.buildSlice,Sem.run_bind,run_underlying (ht.slice hk),Result.andThen_ok,sizeOf,typeInfo,run_program,hf1,Sem.run_pure,hs',if_false]
   simp only [h00,if_true,Sem.run_bind,Sem.run_pure,Result.andThen_ok]
   rw [hfill]
   simp [newRow]
  ·simp only [h00,if_false] at hfill
   simp only [execOp,ho,Instr.buildSlice,Sem.run_bind,run_underlying (ht.slice hk),Result.andThen_ok,sizeOf,typeInfo,run_program,hf1,Sem.run_pure,hs',if_false]
   simp only [h00,if_false,zeroValue,typeInfo,run_program,hf1,hz1,Sem.run_bind,Sem.run_pure,Result.andThen_ok]
   rw [hfill]
   simp [newRow]
 ·exact .sl _ _ _ c.w.heap.size len arr e (0,0) (by simp) (Nat.le_refl _) (heap_alloc_new c.w _) (by rw [hr.1,hl];exact Nat.le_refl _)
def Z8r:List (List D)→Option (List (ByteArray×Value))
 | []=>some []
 | [.val (.string s),.val v]::rows=>match Z8r rows with
  | some l=>some ((s,v)::l)
  | none=>none
 | _::_=>none
def mget {α:Type} : List (ByteArray×α)→ByteArray→α→α
 | [],_,z=>z
 | p::l,s,z=>if p.1=s then p.2 else mget l s z
def mset {α:Type} : List (ByteArray×α)→ByteArray→α→List (ByteArray×α)
 | [],s,v=>[(s,v)]
 | p::l,s,v=>if p.1=s then (s,v)::l else p::mset l s v
def Z3c (l:List (ByteArray×Value)):List (List D):=l.map fun p=>[.val (.string p.1),.val p.2]
def X9t (i:TyI):Prop:=i.kind=.string
def isU8 (i:TyI):Prop:=i.kind=.int .u8
theorem X3b:∀ {rows:List (List D)} {l:List (ByteArray×Value)},Z8r rows=some l→rows=Z3c l
 | [],l,h=>by simp only [Z8r] at h;cases h;rfl
 | row::rows,l,h=>by
  unfold Z8r at h
  split at h
  ·rename_i e;cases e
  ·rename_i e
   injection e with e1 e2
   subst e1 e2
   split at h
   ·rename_i l' hl
    cases h
    rw [X3b hl]
    rfl
   ·cases h
  ·cases h
theorem X3q {c:Cx} : ∀ {l:List (ByteArray×Value)} {es:List MapEntry},(Z3c l).length=es.length→
  (∀ (i:Nat) (row:List D) (e:MapEntry),(Z3c l)[i]?=some row→es[i]?=some e→∃ dk dv,row=[dk,dv]∧Rep c dk e.key∧Rep c dv e.val)→es.map (fun e=>(e.key,e.val))=l.map fun p=>(Value.string p.1,p.2)
 | [],[],_,_=>rfl
 | [],_::_,h,_=>by simp [Z3c] at h
 | _::_,[],h,_=>by simp [Z3c] at h
 | p::l,e::es,h,hr=>by
  obtain ⟨dk,dv,h1,h2,h3⟩:=hr 0 _ e rfl rfl
  injection h1 with e1 e2
  injection e2 with e2 _
  subst e1 e2
  have:=X3q (l:=l) (es:=es) (by simpa [Z3c] using h) fun i row e' hi he=>hr (i+1) row e' (by simpa [Z3c] using hi) (by simpa using he)
  simp only [List.map_cons,this,W1 h2,W1 h3]
theorem Z7n:∀ {l:List (ByteArray×Value)} {es:List MapEntry} (s:ByteArray) (i:Nat),es.map (fun e=>(e.key,e.val))=(l.map fun p=>(Value.string p.1,p.2))→
  (Instr.findNow .string (.string s) es i=some none∧(∀ z,mget l s z=z)∧∀ v,mset l s v=l++[(s,v)])∨
  ∃ j v0 e,Instr.findNow .string (.string s) es i=some (some (i+j,v0))∧es[j]?=some e∧e.key=.string s∧(∀ z,mget l s z=v0)∧∀ v,mset l s v=l.set j (s,v)
 | [],[],s,i,_=>.inl ⟨rfl,fun _=>rfl,fun _=>rfl⟩
 | [],_::_,_,_,h=>by simp at h
 | _::_,[],_,_,h=>by simp at h
 | p::l,e::es,s,i,h=>by
  simp only [List.map_cons,List.cons.injEq,Prod.mk.injEq] at h
  obtain ⟨⟨hk,hv⟩,ht⟩:=h
  by_cases hp:p.1=s
  ·refine .inr ⟨0,p.2,e,?_,rfl,by rw [hk,hp],fun z=>by simp [mget,hp],fun v=>by simp [mset,hp]⟩
   have:(s==p.1)=true:=(MapKept.bytes_beq s p.1).2 hp.symm
   simp [Instr.findNow,hk,Instr.sameNow,this,hv]
  ·have hne:(s==p.1)=false:=by
    cases hb:s==p.1 with
    | false=>rfl
    | true=>exact absurd ((MapKept.bytes_beq s p.1).1 hb).symm hp
   rcases Z7n s (i+1) ht with ⟨h1,h2,h3⟩ | ⟨j,v0,e',h1,h2,h3,h4,h5⟩
   ·exact .inl ⟨by simp [Instr.findNow,hk,Instr.sameNow,hne,h1],fun z=>by simp [mget,hp,h2],fun v=>by simp [mset,hp,h3]⟩
   ·exact .inr ⟨j+1,v0,e',by simp [Instr.findNow,hk,Instr.sameNow,hne,h1];omega,by simpa using h2,h3,fun z=>by simp [mget,hp,h4],fun v=>by simp [mset,hp,h5]⟩
theorem HOk.allocM {β:Base}{h:Nat→Option Loc}{c:Cx}(H:HOk β h c){nm:Nat}(hn:h nm=none)(hM:c.M nm=none){w':World}(t:TypeId)
  (hh:w'.heap=c.w.heap.push (.map #[] 0)) (ho:w'.os=c.w.os) (ht:w'.tape=c.w.tape) (hu:w'.output=c.w.output) :
  ∃ c':Cx,c'=⟨fun k=>if k=nm then some (some c.w.heap.size) else c.M k,fun b=>if b=c.w.heap.size then 0 else c.fr b,w'⟩∧c.Ext c'∧HOk β (updL h nm (some ⟨0,[],0,t⟩)) c':=by
 refine ⟨_,rfl,?_⟩
 have hne:∀ b,b<c.w.heap.size→b≠c.w.heap.size:=fun b hb e=>by omega
 have hold:∀ b,b<c.w.heap.size→w'.heap[b]?=c.w.heap[b]?:=fun b hb=>by rw [hh,Array.getElem?_push,if_neg (hne b hb)]
 have hx:c.Ext ⟨fun k=>if k=nm then some (some c.w.heap.size) else c.M k,fun b=>if b=c.w.heap.size then 0 else c.fr b,w'⟩:=by
  refine ⟨by simp [hh],fun k x hk=>?_,fun b hb=>by simp [hne b hb],fun b o hb _=>?_,fun b cs e f hb=>?_⟩
  ·have:k≠nm:=fun e=>by subst e;rw [hM] at hk;cases hk
   simpa [this] using hk
  ·simp only [World.cell?,hold b hb]
  ·have hlt:=(Array.getElem?_eq_some_iff.1 hb).1
   exact ⟨cs,f,by show w'.heap[b]?=_;rw [hold b hlt];exact hb,rfl⟩
 have hMold:∀ k b,k≠nm→(if k=nm then some (some c.w.heap.size) else c.M k)=some (some b)→c.M k=some (some b):=fun k b hk e=>by simpa [hk] using e
 refine ⟨hx,⟨H.ext.trans hx,ho.trans H.os,ht.trans H.tape,hu.trans H.output,Nat.le_trans H.size (by simp [hh]),fun b hb hm=>?_,fun k L' hk=>?_,fun k1 k2 b h1 h2 e1 e2=>?_,fun k b h1 e1=>?_⟩⟩
 ·have hlt:=Nat.lt_of_lt_of_le hb H.size
  refine ⟨(hold b hlt).trans (H.old b hb hm).1,?_⟩
  simp only [hne b hlt,if_false]
  exact (H.old b hb hm).2
 ·simp only [W3] at hk
  split at hk
  ·rename_i hkn
   cases hk
   subst hkn
   exact .map c.w.heap.size 0 #[] (by simp) (by simp [hh]) (by simp) rfl rfl rfl fun i row e hi _=>by simp at hi
  ·rename_i hkn
   refine (H.locs k L' hk).mono hx fun b hb=>?_
   have hlt:=(H.locs k L' hk).lt hb
   exact ⟨hold b hlt,by simp [hne b hlt]⟩
 ·have lt:∀ k b,k≠nm→(updL h nm (some (⟨0,[],0,t⟩:Loc)) k).isSome=true→c.M k=some (some b)→b<c.w.heap.size:=fun k b hk hs hb=>by
   simp only [W3,hk,if_false] at hs
   obtain ⟨L',hL⟩:=Option.isSome_iff_exists.1 hs
   exact (H.locs k L' hL).lt hb
  by_cases ha:k1=nm<;>by_cases hb:k2=nm
  ·rw [ha,hb]
  ·simp [ha] at e1
   have:=lt k2 b hb h2 (hMold k2 b hb e2)
   omega
  ·simp [hb] at e2
   have:=lt k1 b ha h1 (hMold k1 b ha e1)
   omega
  ·simp only [W3,ha,hb,if_false] at h1 h2
   exact H.inj k1 k2 b h1 h2 (hMold k1 b ha e1) (hMold k2 b hb e2)
 ·by_cases ha:k=nm
  ·simp [ha] at e1
   left
   have:=H.size
   omega
  ·simp only [W3,ha,if_false] at h1
   exact H.mine k b h1 (hMold k b ha e1)
theorem HOk.writeM {β:Base}{h:Nat→Option Loc}{c:Cx}(H:HOk β h c){k b clock clock':Nat}{L:Loc}{es es':Array MapEntry}(hk:h k=some L)(hMk:c.M k=some (some b))
  {w':World} (rows':List (List D)) (hb:c.w.heap[b]?=some (.map es clock)) (hfr:c.fr b=0) (hsz:L.sz=0) (hfz:L.fz=0)
  (hb':w'.heap[b]?=some (.map es' clock')) (hoth:∀ x,x≠b→w'.heap[x]?=c.w.heap[x]?) (hsize:w'.heap.size=c.w.heap.size)
  (ho:w'.os=c.w.os) (ht:w'.tape=c.w.tape) (hu:w'.output=c.w.output) (hlen:rows'.length=es'.size)
  (hrow:∀ (i:Nat) (row:List D) (e:MapEntry),rows'[i]?=some row→es'[i]?=some e→∃ dk dv,row=[dk,dv]∧Rep c dk e.key∧Rep c dv e.val) :
  c.Ext ⟨c.M,c.fr,w'⟩∧HOk β (updL h k (some ⟨L.sz,rows',L.fz,L.el⟩)) ⟨c.M,c.fr,w'⟩:=by
 have hx:c.Ext ⟨c.M,c.fr,w'⟩:=by
  refine ⟨by simp [hsize],fun x y hxy=>hxy,fun b _=>Nat.le_refl _,fun x o hxl hxo=>?_,fun x cs0 e f0 hx0=>?_⟩
  ·by_cases hxb:x=b
   ·subst hxb;omega
   ·simp only [World.cell?,hoth x hxb]
  ·by_cases hxb:x=b
   ·subst hxb;rw [hb] at hx0;cases hx0
   ·exact ⟨cs0,f0,by show w'.heap[x]?=_;rw [hoth x hxb];exact hx0,rfl⟩
 have hsome:(h k).isSome=true:=by simp [hk]
 have is:∀ q,(updL h k (some (⟨L.sz,rows',L.fz,L.el⟩:Loc)) q).isSome=true→(h q).isSome=true:=fun q hq=>by
  by_cases hqk:q=k
  ·rw [hqk];exact hsome
  ·simpa [hqk] using hq
 refine ⟨hx,⟨H.ext.trans hx,ho.trans H.os,ht.trans H.tape,hu.trans H.output,by simpa [hsize] using H.size,fun x hx1 hm=>?_,fun x L2 hx2=>?_,fun x y z h1 h2 e1 e2=>H.inj x y z (is x h1) (is y h2) e1 e2,fun x y h1 e1=>H.mine x y (is x h1) e1⟩⟩
 ·have hxb:x≠b:=fun e=>by
   subst e
   rcases H.mine k x hsome hMk with h1 | h1
   ·omega
   ·exact hm h1
  exact ⟨(hoth x hxb).trans (H.old x hx1 hm).1,(H.old x hx1 hm).2⟩
 ·simp only [W3] at hx2
  split at hx2
  ·rename_i hxk
   cases hx2
   subst hxk
   exact .map b clock' es' hMk hb' hfr hsz hfz hlen fun i row e hi he=>(hrow i row e hi he).imp fun dk h=>h.imp fun dv h=>⟨h.1,h.2.1.mono hx,h.2.2.mono hx⟩
  ·rename_i hxk
   refine (H.locs x L2 hx2).mono hx fun y hy=>⟨?_,rfl⟩
   have:y≠b:=fun e=>hxk (H.inj x k b (by simp [hx2]) hsome (e▸hy) hMk)
   exact hoth y this
theorem W5e {P:Program}{β:Base}{σ:St}{a:Act}{c:Cx}{nm:Nat}{o:Oper}(H:Conc β σ a c)(hn:σ.h nm=none)(hM:c.M nm=none)(t:TypeId)(ho:o.op=.makeMap t none)(p:Prop) :
  OpOk P β σ a c nm o ⟨p,.mp nm,updL σ.h nm (some ⟨0,[],0,t⟩)⟩:=by
 obtain ⟨c',hc',hx,hh⟩:=H.heap.allocM hn hM (w':=c.w.alloc (.map #[] 0)) t rfl rfl rfl rfl
 subst hc'
 refine ⟨.map (some c.w.heap.size),_,.inl ?_,hx,.mp _ _ (by simp),hh,fun q hq=>by simp [hq],fun q hq h=>by simp [hq,h],fun hm0=>by simp [ho,Z4s] at hm0⟩
 simp [execOp,ho,run_makeMap_plain]
theorem TyOk.strD {P:Program}{t:TypeId}{i:TyI}(h:TyOk P t i)(hk:X9t i):P.underlying t=some .string:=by
 obtain ⟨d,h1,h2⟩:=h.desc
 unfold X9t at hk
 rw [hk] at h2
 rw [h1,h2]
theorem TyOk.mapD {P:Program}{t kt et:TypeId}{i:TyI}(h:TyOk P t i)(hk:i.kind=.map kt et):P.underlying t=some (.map kt et):=by
 obtain ⟨d,h1,h2⟩:=h.desc
 rw [hk] at h2
 rw [h1,h2]
theorem V5n {c:Cx}{k:Nat}{v:Value}(h:Rep c (.mp k) v):∃ b,c.M k=some (some b)∧v=.map (some b):=by
 cases h with
 | mp _ b hM=>exact ⟨b,hM,rfl⟩
theorem Z5i.entries {c:Cx}{k b:Nat}{L:Loc}(h:Z5i c k L)(hM:c.M k=some (some b))(h0:L.sz=0){l:List (ByteArray×Value)}(hl:Z8r L.rows=some l) :
  ∃ es clock,c.w.heap[b]?=some (Obj.map es clock)∧c.fr b=0∧L.fz=0∧L.rows=Z3c l∧L.rows.length=es.size∧es.toList.map (fun e=>(e.key,e.val))=l.map fun p=>(Value.string p.1,p.2):=by
 have hr:=X3b hl
 cases h with
 | nil h1=>rw [h1] at hM;cases hM
 | own b' cs f h1 _ _ _ _ _ _ _ hpos=>omega
 | map b' clock es h1 h2 h3 h4 h5 h6 h7=>
  rw [h1] at hM
  cases hM
  refine ⟨es,clock,h2,h3,h5,hr,h6,X3q (c:=c) (by rw [←hr,h6];simp) fun i row e hi he=>h7 i row e (by rw [hr];exact hi) (by simpa using he)⟩
theorem W9p {P:Program}{β:Base}{σ:St}{a:Act}{c:Cx}{nm:Nat}{o:Oper}(H:Conc β σ a c)(t:TypeId)(x y:Operand)(ho:o.op=.lookup t x y false)
  {i ik ie:TyI} {kt et:TypeId} (ht:TyOk P t i) (hk:i.kind=.map kt et) (hkt:TyOk P kt ik) (het:TyOk P et ie) {k:Nat} {s:ByteArray} (hx:σ.get x=.mp k) (hy:σ.get y=.val (.string s)) {L:Loc} (hL:σ.h k=some L)
  {l:List (ByteArray×Value)} (hl:Z8r L.rows=some l) (h0:L.sz=0) (hs:X9t ik) (hag:ie.agg=false) (p:Prop) :
  OpOk P β σ a c nm o ⟨p,.val (mget l s (ie.zero.headD undef)),σ.h⟩:=by
 have hx':=H.get x
 have hy':=H.get y
 rw [hx] at hx'
 rw [hy] at hy'
 obtain ⟨b,hM,he⟩:=V5n hx'
 have hyv:=W1 hy'
 obtain ⟨es,clock,hb,_,_,_,_,hes⟩:=(H.heap.locs k L hL).entries hM h0 hl
 have hd:=hkt.strD hs
 have hc:(Instr.checkKey es.isEmpty 10000 kt (.string s)).run P c.w=.ok () c.w:=MapKept.run_checkKey (k:=.string s) hd (by simp [MapKept.IsKey]) _ 9999
 obtain ⟨g,hg1,hg2,_,z,hz1,hz2,hz3⟩:=het.info
 rw [hag] at hz3
 simp only [U2,if_false] at hz3
 have hrun:(Instr.lookup t (.map (some b)) (.string s) false).run P c.w=.ok (mget l s (ie.zero.headD undef)) c.w:=by
  rcases Z7n (l:=l) s 0 hes with ⟨h1,h2,_⟩ | ⟨j,v0,e,h1,_,_,h2,_⟩
  ·rw [h2,←hz3]
   simp [Instr.lookup,run_underlying (ht.mapD hk),MapKept.run_getObj_map hb,hc,MapKept.run_findKey hd h1,Result.andThen,zeroValue,typeInfo,hg1,hz1]
  ·rw [h2]
   simp [Instr.lookup,run_underlying (ht.mapD hk),MapKept.run_getObj_map hb,hc,MapKept.run_findKey hd h1,Result.andThen]
 refine OpOk.same (v:=mget l s (ie.zero.headD undef)) H ?_ (.val _)
 simp [execOp,ho,he,hyv,hrun]
theorem X7v {P:Program}{β:Base}{σ:St}{a:Act}{c:Cx}{nm:Nat}{o:Oper}(H:Conc β σ a c)(t:TypeId)(x y z:Operand)(ho:o.op=.mapUpdate t x y z)
  {i ik:TyI} {kt et:TypeId} (ht:TyOk P t i) (hk:i.kind=.map kt et) (hkt:TyOk P kt ik) {k:Nat} {s:ByteArray} {v:Value} (hx:σ.get x=.mp k) (hy:σ.get y=.val (.string s)) (hz:σ.get z=.val v) {L:Loc} (hL:σ.h k=some L)
  {l:List (ByteArray×Value)} (hl:Z8r L.rows=some l) (h0:L.sz=0) (hs:X9t ik) (p:Prop) :
  OpOk P β σ a c nm o ⟨p,.val undef,updL σ.h k (some ⟨L.sz,Z3c (mset l s v),L.fz,L.el⟩)⟩:=by
 have hx':=H.get x
 have hy':=H.get y
 have hz':=H.get z
 rw [hx] at hx'
 rw [hy] at hy'
 rw [hz] at hz'
 obtain ⟨b,hM,he⟩:=V5n hx'
 have hyv:=W1 hy'
 have hzv:=W1 hz'
 obtain ⟨es,clock,hb,hfr,hfz,hrows,hlen,hes⟩:=(H.heap.locs k L hL).entries hM h0 hl
 have hd:=hkt.strD hs
 have hkey:MapKept.IsKey .string (.string s):=by simp [MapKept.IsKey]
 have hc:(Instr.checkKey false 10000 kt (.string s)).run P c.w=.ok () c.w:=MapKept.run_checkKey hd hkey _ 9999
 have hll:l.length=es.size:=by rw [hrows] at hlen;simpa [Z3c] using hlen
 have key:∃ es' clock',(Instr.mapUpdate t (.map (some b)) (.string s) v).run P c.w=.ok () { c.w with heap:=c.w.heap.setIfInBounds b (.map es' clock') }∧
   es'.toList.map (fun e=>(e.key,e.val))=(mset l s v).map fun p=>(Value.string p.1,p.2):=by
  rcases Z7n (l:=l) s 0 hes with ⟨h1,_,h2⟩ | ⟨j,v0,e,h1,hj,hk2,_,h2⟩
  ·refine ⟨es.push { key:=.string s,val:=v,born:=clock },clock+1,?_,?_⟩
   ·simp [Instr.mapUpdate,run_underlying (ht.mapD hk),MapKept.run_getObj_map hb,hc,MapKept.run_findKey hd h1,MapKept.run_setObj_map _ hb,Result.andThen]
   ·rw [h2]
    simp [hes]
  ·have hj':es[j]?=some e:=by simpa using hj
   refine ⟨es.modify j fun e=>{ e with key:=.string s,val:=v },clock,?_,?_⟩
   ·have hst:(Instr.keyThatStays e.key (.string s)).run P c.w=.ok (.string s) c.w:=by rw [hk2];exact MapKept.run_keyThatStays hkey
    simp only [Nat.zero_add] at h1
    simp [Instr.mapUpdate,run_underlying (ht.mapD hk),MapKept.run_getObj_map hb,hc,MapKept.run_findKey hd h1,hj',hst,MapKept.run_setObj_map _ hb,Result.andThen]
   ·rw [h2]
    apply List.ext_getElem?
    intro q
    have hq:(es.toList.map fun e=>(e.key,e.val))[q]?=(l.map fun p=>(Value.string p.1,p.2))[q]?:=by rw [hes]
    simp only [List.getElem?_map,Array.getElem?_toList,Array.getElem?_modify,List.getElem?_set] at hq ⊢
    by_cases hjq:j=q
    ·subst hjq
     have hlt:j<l.length:=by have:=(Array.getElem?_eq_some_iff.1 hj').1;omega
     simp [hj',hlt]
    ·simp only [hjq,if_false]
     exact hq
 obtain ⟨es',clock',hrun,hes'⟩:=key
 have hsz':(mset l s v).length=es'.size:=by have:=congrArg List.length hes';simpa using this.symm
 obtain ⟨hx2,hh2⟩:=H.heap.writeM (clock':=clock') (es':=es') (w':={ c.w with heap:=c.w.heap.setIfInBounds b (.map es' clock') }) hL hM (Z3c (mset l s v)) hb hfr h0 hfz
  (MapKept.heap_set hb).1 (MapKept.heap_set hb).2 (by simp) rfl rfl rfl (by simpa [Z3c] using hsz') fun i row e hi he=>by
   have h1:(es'.toList.map fun e=>(e.key,e.val))[i]?=some (e.key,e.val):=by simp [he]
   rw [hes'] at h1
   simp only [Z3c,List.getElem?_map,U12] at h1 hi
   obtain ⟨p1,g1,g2⟩:=h1
   obtain ⟨p2,g3,g4⟩:=hi
   rw [g1] at g3
   cases g3
   simp only [Prod.mk.injEq] at g2
   subst g4
   exact ⟨_,_,rfl,by rw [←g2.1];exact .val _,by rw [←g2.2];exact .val _⟩
 refine ⟨undef,_,.inr ⟨?_,rfl⟩,hx2,.val _,hh2,fun q hq=>rfl,fun q hq hn=>?_,fun _=>rfl⟩
 ·simp [execOp,ho,he,hyv,hzv,hrun]
 ·have:q≠k:=fun e=>by subst e;rw [hL] at hn;cases hn
  simp [this,hn]
theorem X7w {P:Program}{β:Base}{σ:St}{a:Act}{c:Cx}{nm:Nat}{o:Oper}(H:Conc β σ a c)(hn:σ.h nm=none)(hM:c.M nm=none)(t e:TypeId)(x y:Operand)(ho:o.op=.makeSlice t x y)
  {i ie:TyI} (ht:TyOk P t i) (hk:i.kind=.slice e) (he:TyOk P e ie) {k k':IntKind} {n:Int} (hx:σ.get x=.val (.int k n)) (hy:σ.get y=.val (.int k' n)) (h0:0<ie.size) (h1:0≤n) (h2:n≤Q9) (p:Prop) :
  OpOk P β σ a c nm o ⟨p,.sl ie.size nm n.toNat,updL σ.h nm (some ⟨ie.size,List.replicate n.toNat (ie.zero.map D.ofV),0,e⟩)⟩:=by
 obtain ⟨f,hf1,hf2,hf3,z,hz1,hz2,hz3⟩:=he.info
 have hzs:z.cells.size=ie.size:=by rw [←he.zlen,←hz2];simp
 have hlim:n.toNat≤Q9:=by simp only [Q9] at h2 ⊢;omega
 have hget:∀ i j,i<n.toNat→j<ie.size→∀ u,ie.zero[j]?=some u→(madeCells z.cells (n.toNat * ie.size))[i * ie.size+j]?=some u:=fun i j hi hj u hu=>by
  have hend:=Nat.mul_le_mul_right ie.size (show i+1≤n.toNat from hi)
  rw [Nat.add_mul,Nat.one_mul] at hend
  have e2:(i * ie.size+j) % z.cells.size=j:=by rw [hzs,Nat.mul_comm,Nat.mul_add_mod,Nat.mod_eq_of_lt hj]
  have e3:z.cells[j]?=some u:=by rw [←hz2] at hu;simpa using hu
  have hlt:i * ie.size+j<n.toNat * ie.size:=by omega
  unfold madeCells
  simp only [Array.getElem?_map,Array.getElem?_range,hlt,if_true,Option.map_some,e2]
  simp [getElem!_def,e3]
 obtain ⟨c',hc',hxt,hh⟩:=H.heap.alloc hn hM (w':=c.w.alloc (.cells (madeCells z.cells (n.toNat * ie.size)) e)) ⟨ie.size,List.replicate n.toNat (ie.zero.map D.ofV),0,e⟩ (madeCells z.cells (n.toNat * ie.size)) (fun _ j=>(ie.zero[j]?).getD undef) h0 rfl rfl rfl rfl
  (by simp [size_madeCells]) (Nat.zero_le _) (by simpa using Z5u hlim) (fun row hm=>by rw [List.eq_of_mem_replicate hm];simp [he.zlen]) (fun i j row d hi hj=>by
   have hil:=(List.getElem?_eq_some_iff.1 hi).1
   simp only [List.length_replicate] at hil
   have hrow:row=ie.zero.map D.ofV:=List.eq_of_mem_replicate (U1 hi)
   subst hrow
   simp only [List.getElem?_map,U12] at hj
   obtain ⟨u,hu,rfl⟩:=hj
   have hjl:=(List.getElem?_eq_some_iff.1 hu).1
   rw [he.zlen] at hjl
   rw [hu]
   exact ⟨hget i j hil hjl u hu,Z7a _ u,he.zone u (U1 hu)⟩)
 subst hc'
 have hx':=H.get x
 have hy':=H.get y
 rw [hx] at hx'
 rw [hy] at hy'
 have hroom:=he.room
 have hb:(f.bytes:Int) * n≤281474976710656:=by
  rw [hf3]
  have q1:(ie.bytes:Int)≤16384:=by omega
  have q2:n≤4294967296:=by simp only [Q9] at h2;exact h2
  calc (ie.bytes:Int) * n≤16384 * n:=Int.mul_le_mul_of_nonneg_right q1 h1
   _≤16384 * 4294967296:=Int.mul_le_mul_of_nonneg_left q2 (by decide)
   _≤281474976710656:=by decide
 have hrun:=run_make (P:=P) c.w t e f z (ht.slice hk) hf1 hz1 k k' n n h1 (Int.le_refl _) hb (by simp only [Q9] at h2;omega)
 rw [hf2] at hrun
 refine ⟨.slice (some ⟨c.w.heap.size,0,none⟩) n.toNat n.toNat,_,.inl ?_,hxt,?_,hh,fun q hq=>by simp [hq],fun q hq hq'=>by simp [hq,hq'],fun hm0=>by simp [ho,Z4s] at hm0⟩
 ·simp [execOp,ho,W1 hx',W1 hy',hrun]
 ·exact .sl _ _ _ c.w.heap.size n.toNat (madeCells z.cells (n.toNat * ie.size)) e (0,0) (by simp) (Nat.le_refl _) (heap_alloc_new c.w _) (by rw [size_madeCells];exact Nat.le_refl _)
def Z65:List (List D)→Option (List Int)
 | []=>some []
 | [.val (.int .u8 n)]::rows=>match Z65 rows with
  | some l=>some (n::l)
  | none=>none
 | _::_=>none
def bstr (ns:List Int):ByteArray:=ns.foldl (fun r n=>r.push (UInt8.ofNat n.toNat)) ByteArray.empty
theorem X0l:∀ {rows:List (List D)} {l:List Int},Z65 rows=some l→rows=l.map fun n=>[.val (.int .u8 n)]
 | [],l,h=>by simp only [Z65] at h;cases h;rfl
 | row::rows,l,h=>by
  unfold Z65 at h
  split at h
  ·rename_i e;cases e
  ·rename_i e
   injection e with e1 e2
   subst e1 e2
   split at h
   ·rename_i l' hl
    cases h
    rw [X0l hl]
    rfl
   ·cases h
  ·cases h
theorem X7y {P:Program}{β:Base}{σ:St}{a:Act}{c:Cx}{nm:Nat}{o:Oper}(H:Conc β σ a c)(s t e:TypeId)(x:Operand)(ho:o.op=.convert s t x)
  {i it ie:TyI} (hs:TyOk P s i) (hk:i.kind=.slice e) (ht:TyOk P t it) (hkt:it.kind=.string) (he:TyOk P e ie) (hke:ie.kind=.int .u8) {sz k n:Nat} (hx:σ.get x=.sl sz k n) {L:Loc} (hL:σ.h k=some L)
  {l:List Int} (hl:Z65 L.rows=some l) (h1:sz=1) (h2:L.sz=1) (h3:L.rows.length=n) (p:Prop) :
  OpOk P β σ a c nm o ⟨p,.val (.string (bstr l)),σ.h⟩:=by
 have hx':=H.get x
 rw [hx] at hx'
 subst h1
 have hr:=X0l hl
 have hd:P.underlying t=some .string:=ht.strD hkt
 have hu8:P.underlying e=some (.int .u8):=by
  obtain ⟨d,g1,g2⟩:=he.desc
  rw [hke] at g2
  rw [g1,g2]
 obtain ⟨ad,cap,news,hv,hnl,hnone,hcells,_,hrep,_⟩:=V5k (by decide) hx' (H.heap.locs k L hL) h2 h3
 have hnews:news=l.map (Value.int .u8):=by
  apply List.ext_getElem?
  intro q
  by_cases hq:q<l.length
  ·have hrq:L.rows[q]?=some [.val (.int .u8 l[q])]:=by rw [hr];simp [hq]
   obtain ⟨u,hu,hru,_⟩:=hrep q 0 _ _ hrq rfl
   simp only [Nat.mul_one,Nat.add_zero] at hu
   rw [hu,W1 hru]
   simp [hq]
  ·have g1:news.length=l.length:=by rw [hnl,hr];simp
   rw [List.getElem?_eq_none (by omega),List.getElem?_eq_none (by simpa using Nat.le_of_not_lt hq)]
 have hrun:(convert s t (a.eval x)).run P c.w=.ok (.string (bstr l)) c.w:=by
  rw [hv,run_convert_bytes_string c.w s t e ad _ cap (hs.slice hk) hu8 hd]
  cases ad with
  | none=>
   have:L.rows=[]:=hnone rfl
   rw [this] at hr
   have:l=[]:=List.eq_nil_of_map_eq_nil hr.symm
   subst this
   simp [Conv.bytesToString,bstr]
  | some ad=>
   refine run_bytesToString c.w ad _ cap l ?_
   have hlen:L.rows.length=l.length:=by rw [hr];simp
   rw [hlen,←hnews,show l.length=news.length by rw [hnews];simp]
   exact run_loadCells_list c.w ad news fun j v hj=>hcells ad j v rfl hj
 refine OpOk.same (v:=.string (bstr l)) H ?_ (.val _)
 simp [execOp,ho,hrun]
def Q7q (rows:List (List D))(l h:Int):List (List D):=(rows.take h.toNat).drop l.toNat
def Z1z (rows:List (List D))(l:Int):List (List D):=rows.drop l.toNat
def X5l (σ:St)(x:Option Operand)(z n:Int):Prop:=(x=none∧n=z)∨∃ y k,x=some y∧σ.get y=.val (.int k n)
theorem X5l.val {β:Base}{σ:St}{a:Act}{c:Cx}(H:Conc β σ a c){x:Option Operand}{z n:Int}(h:X5l σ x z n):(x.map a.eval=none∧n=z)∨∃ k,x.map a.eval=some (.int k n):=by
 rcases h with ⟨rfl,h⟩ | ⟨y,k,rfl,h⟩
 ·exact .inl ⟨rfl,h⟩
 ·have:=H.get y
  rw [h] at this
  exact .inr ⟨k,by rw [Option.map_some,W1 this]⟩
theorem Q9z {P:Program}{w:World}{len cap:Nat}{lo hi:Option Value}{l h:Int}(hl:(lo=none∧l=0)∨∃ k,lo=some (.int k l))(hh:(hi=none∧h=len)∨∃ k,hi=some (.int k h))
  (h0:0≤l) (h1:l≤h) (h2:h≤cap) (h3:len≤cap):(Instr.sliceBounds true len cap lo hi none).run P w=.ok (l.toNat,h.toNat,cap) w:=by
 have e1:0≤h:=by omega
 have e2:l≤(h.toNat:Int):=by omega
 rcases hl with ⟨rfl,rfl⟩ | ⟨k,rfl⟩<;>rcases hh with ⟨rfl,rfl⟩ | ⟨k',rfl⟩<;>simp [Instr.sliceBounds,Instr.sliceBound,asIntOf,h0,h2,e1,e2,h1]<;>(try (intro hq;exfalso;omega))
theorem X6q {c:Cx}{sz:Nat}{rows:List (List D)}{l h:Int}(h0:0≤l)(h1:l≤h)(h2:h≤rows.length){ad:Option Addr}{cap:Nat}(hr:Rep c (.slice sz rows) (.slice ad rows.length cap)) :
  Rep c (.slice sz (Q7q rows l h)) (.slice (if cap=l.toNat then ad else ad.map (·.add (l.toNat * sz))) (h.toNat-l.toNat) (cap-l.toNat)):=by
 have hlen:(Q7q rows l h).length=h.toNat-l.toNat:=by simp only [Q7q,List.length_drop,U6];omega
 rcases Q8a hr with ⟨rfl,ad',cap',hv⟩ | ⟨b,of,cap',f,hv,g1,g2,g3,g4,g5⟩
 ·have e1:h=0:=by simp at h2;omega
  have e2:l=0:=by omega
  subst e1 e2
  exact .slice0 _ _ _
 ·cases hv
  by_cases hn:h.toNat-l.toNat=0
  ·have e:Q7q rows l h=[]:=List.eq_nil_of_length_eq_zero (by omega)
   rw [e,hn]
   exact .slice0 _ _ _
  ·have hc:¬cap=l.toNat:=by omega
   rw [if_neg hc,Option.map_some,Z16]
   have get:∀ {i:Nat} {row:List D},(Q7q rows l h)[i]?=some row→rows[l.toNat+i]?=some row:=fun {i row} hi=>by
    simp only [Q7q,List.getElem?_drop,List.getElem?_take] at hi
    split at hi
    ·exact hi
    ·cases hi
   have:=Rep.slice (c:=c) sz (Q7q rows l h) b (of+l.toNat * sz) (cap-l.toNat) (fun i j=>f (l.toNat+i) j) (by omega) (by omega)
    (fun row hm=>g3 row (List.mem_of_mem_take (List.mem_of_mem_drop hm)))
    (fun i j row d hi hj=>by
     have:=g4 (l.toNat+i) j row d (get hi) hj
     have e:of+l.toNat * sz+i * sz+j=of+(l.toNat+i) * sz+j:=by rw [Nat.add_mul];omega
     rw [e]
     exact this) (fun i j row d hi hj=>g5 (l.toNat+i) j row d (get hi) hj)
   rw [hlen] at this
   exact this
theorem X1c {P:Program}{β:Base}{σ:St}{a:Act}{c:Cx}{nm:Nat}{o:Oper}(H:Conc β σ a c)(t e:TypeId)(x:Operand)(lo hi:Option Operand)(ho:o.op=.slice t x lo hi none)
  {i ie:TyI} (ht:TyOk P t i) (hk:i.kind=.slice e) (he:TyOk P e ie) {sz:Nat} {rows:List (List D)} (hx:σ.get x=.slice sz rows) {l h:Int} (hl:X5l σ lo 0 l) (hh:X5l σ hi rows.length h)
  (hsz:sz=ie.size) (h0:0≤l) (h1:l≤h) (h2:h≤rows.length) (p:Prop):OpOk P β σ a c nm o ⟨p,.slice sz (Q7q rows l h),σ.h⟩:=by
 have hx':=H.get x
 rw [hx] at hx'
 have hu:(underlying t).run P c.w=.ok (.slice e) c.w:=by simp [run_underlying (ht.slice hk)]
 obtain ⟨g,hg1,hg2,hg3,z,hz1,hz2,hz3⟩:=he.info
 have hs:(sizeOf e).run P c.w=.ok ie.size c.w:=by simp [sizeOf,typeInfo,hg1,hg2]
 have sh:∃ ad cap,a.eval x=.slice ad rows.length cap∧rows.length≤cap:=by
  rcases Q8a hx' with ⟨rfl,ad,cap,hv⟩ | ⟨b,of,cap,f,hv,g1,_⟩
  ·exact ⟨ad,cap,hv,Nat.zero_le _⟩
  ·exact ⟨_,cap,hv,g1⟩
 obtain ⟨ad,cap,hv,hc⟩:=sh
 rw [hv] at hx'
 have hb:=Q9z (P:=P) (w:=c.w) (cap:=cap) (hl.val H) (hh.val H) h0 h1 (by omega) hc
 refine OpOk.same (v:=_) H ?_ (X6q h0 h1 h2 hx')
 subst hsz
 simp [execOp,ho,Instr.sliceAt,Instr.slice,hu,hv,hb,hs]
theorem W0q {P:Program}{β:Base}{σ:St}{a:Act}{c:Cx}{nm:Nat}{o:Oper}(H:Conc β σ a c)(t e:TypeId)(x y:Operand)(ho:o.op=.slice t x none (some y) none)
  {i ie:TyI} (ht:TyOk P t i) (hk:i.kind=.slice e) (he:TyOk P e ie) {sz k m:Nat} (hx:σ.get x=.sl sz k m) {ki:IntKind} {n:Int} (hy:σ.get y=.val (.int ki n))
  (h0:0≤n) (h1:n≤m) (p:Prop):OpOk P β σ a c nm o ⟨p,.sl sz k n.toNat,σ.h⟩:=by
 have hx':=H.get x
 rw [hx] at hx'
 have hy':=H.get y
 rw [hy] at hy'
 have hu:(underlying t).run P c.w=.ok (.slice e) c.w:=by simp [run_underlying (ht.slice hk)]
 obtain ⟨g,hg1,hg2,hg3,z,hz1,hz2,hz3⟩:=he.info
 have hs:(sizeOf e).run P c.w=.ok ie.size c.w:=by simp [sizeOf,typeInfo,hg1,hg2]
 rcases Z0y hx' with ⟨rfl,hM,ad,hv⟩ | ⟨b,cap,cs,el,fz,hv,hM,h3,h4,h5⟩
 ·have hn:n=0:=by omega
  subst hn
  have hb:=Q9z (P:=P) (w:=c.w) (len:=0) (cap:=0) (lo:=none) (hi:=some (.int ki 0)) (.inl ⟨rfl,rfl⟩) (.inr ⟨_,rfl⟩) (by omega) (by omega) (by omega) (by omega)
  refine OpOk.same (v:=.slice ad 0 0) H ?_ (.sl0 sz k ad hM)
  simp [execOp,ho,Instr.sliceAt,Instr.slice,hu,hv,W1 hy',hb,hs]
 ·have hb:=Q9z (P:=P) (w:=c.w) (len:=m) (cap:=cap) (lo:=none) (hi:=some (.int ki n)) (.inl ⟨rfl,rfl⟩) (.inr ⟨_,rfl⟩) (by omega) h0 (by omega) (by omega)
  refine OpOk.same (v:=.slice (some ⟨b,0,none⟩) n.toNat cap) H ?_ (.sl sz k n.toNat b cap cs el fz hM (by omega) h4 h5)
  by_cases hc:cap=0
  ·subst hc
   have:n=0:=by omega
   subst this
   simp [execOp,ho,Instr.sliceAt,Instr.slice,hu,hv,W1 hy',hb,hs]
  ·simp [execOp,ho,Instr.sliceAt,Instr.slice,hu,hv,W1 hy',hb,hs,hc,Addr.add]
theorem W0r {P:Program}{β:Base}{σ:St}{a:Act}{c:Cx}{nm:Nat}{o:Oper}(H:Conc β σ a c)(t e:TypeId)(x y:Operand)(ho:o.op=.slice t x none (some y) none)
  {i ie:TyI} (ht:TyOk P t i) (hk:i.kind=.slice e) (he:TyOk P e ie) (hx:σ.get x=.nil) {ki:IntKind} {n:Int} (hy:σ.get y=.val (.int ki n))
  (h0:n=0) (p:Prop):OpOk P β σ a c nm o ⟨p,.nil,σ.h⟩:=by
 have hx':=H.get x
 rw [hx] at hx'
 have hy':=H.get y
 rw [hy] at hy'
 have hu:(underlying t).run P c.w=.ok (.slice e) c.w:=by simp [run_underlying (ht.slice hk)]
 obtain ⟨g,hg1,hg2,hg3,z,hz1,hz2,hz3⟩:=he.info
 have hs:(sizeOf e).run P c.w=.ok ie.size c.w:=by simp [sizeOf,typeInfo,hg1,hg2]
 have hv:a.eval x=.slice none 0 0:=by generalize a.eval x=v at hx';cases hx';rfl
 subst h0
 have hb:=Q9z (P:=P) (w:=c.w) (len:=0) (cap:=0) (lo:=none) (hi:=some (.int ki 0)) (.inl ⟨rfl,rfl⟩) (.inr ⟨_,rfl⟩) (by omega) (by omega) (by omega) (by omega)
 refine OpOk.same (v:=.slice none 0 0) H ?_ .nil
 simp [execOp,ho,Instr.sliceAt,Instr.slice,hu,hv,W1 hy',hb,hs]
theorem X7t {P:Program}{β:Base}{σ:St}{a:Act}{c:Cx}{nm:Nat}{o:Oper}(H:Conc β σ a c)(t e:TypeId)(x y:Operand)(ho:o.op=.slice t x (some y) none none)
  {i ie:TyI} (ht:TyOk P t i) (hk:i.kind=.slice e) (he:TyOk P e ie) {sz k m:Nat} (hx:σ.get x=.sl sz k m) {ki:IntKind} {n:Int} (hy:σ.get y=.val (.int ki n))
  (hsz:sz=ie.size) (h0:0≤n) (h1:n≤m) (p:Prop):OpOk P β σ a c nm o ⟨p,.tl sz k n.toNat (m-n.toNat),σ.h⟩:=by
 have hx':=H.get x
 rw [hx] at hx'
 have hy':=H.get y
 rw [hy] at hy'
 have hu:(underlying t).run P c.w=.ok (.slice e) c.w:=by simp [run_underlying (ht.slice hk)]
 obtain ⟨g,hg1,hg2,hg3,z,hz1,hz2,hz3⟩:=he.info
 have hs:(sizeOf e).run P c.w=.ok ie.size c.w:=by simp [sizeOf,typeInfo,hg1,hg2]
 rcases Z0y hx' with ⟨rfl,hM,ad,hv⟩ | ⟨b,cap,cs,el,fz,hv,hM,h3,h4,h5⟩
 ·have hn:n=0:=by omega
  subst hn
  have hb:=Q9z (P:=P) (w:=c.w) (len:=0) (cap:=0) (lo:=some (.int ki 0)) (hi:=none) (.inr ⟨_,rfl⟩) (.inl ⟨rfl,rfl⟩) (by omega) (by omega) (by omega) (by omega)
  refine OpOk.same (v:=.slice ad 0 0) H ?_ (.tl0 sz k _ _ ad)
  simp [execOp,ho,Instr.sliceAt,Instr.slice,hu,hv,W1 hy',hb,hs]
 ·have hb:=Q9z (P:=P) (w:=c.w) (len:=m) (cap:=cap) (lo:=some (.int ki n)) (hi:=none) (h:=m) (.inr ⟨_,rfl⟩) (.inl ⟨rfl,rfl⟩) h0 (by omega) (by omega) (by omega)
  refine OpOk.same (v:=.slice (if cap=n.toNat then some ⟨b,0,none⟩ else some ⟨b,n.toNat * sz,none⟩) (m-n.toNat) (cap-n.toNat)) H ?_ ?_
  ·subst hsz
   by_cases hc:cap=n.toNat
   ·subst hc
    simp [execOp,ho,Instr.sliceAt,Instr.slice,hu,hv,W1 hy',hb,hs]
   ·simp [execOp,ho,Instr.sliceAt,Instr.slice,hu,hv,W1 hy',hb,hs,hc,Z16]
  ·by_cases hc:cap=n.toNat
   ·have:m-n.toNat=0:=by omega
    rw [if_pos hc,this]
    exact .tl0 _ _ _ _ _
   ·rw [if_neg hc]
    exact .tl _ _ _ _ b _ hM
theorem Y30 {c:Cx}{sz k r n:Nat}{v:Value}(h:Rep c (.tl sz k r n) v):(n=0∧∃ ad cap,v=.slice ad 0 cap)∨∃ b cap,c.M k=some (some b)∧v=.slice (some ⟨b,r * sz,none⟩) n cap:=by
 cases h with
 | tl0 _ _ _ cap ad=>exact .inl ⟨rfl,ad,cap,rfl⟩
 | tl _ _ _ _ b cap hM=>exact .inr ⟨b,cap,hM,rfl⟩
theorem V4j {P:Program}{β:Base}{σ:St}{a:Act}{c:Cx}{nm:Nat}{o:Oper}(H:Conc β σ a c)(cl:Call)(t e:TypeId)(x:Operand)(ho:o.op=.call cl)(hcal:cl.callee=.builtin .clear)(ha:cl.args.toList=[x])(hts:cl.argTypes.toList=[t])
  {i ie:TyI} (ht:TyOk P t i) (hk:i.kind=.slice e) (he:TyOk P e ie) {sz k r n:Nat} (hx:σ.get x=.tl sz k r n) {L:Loc} (hL:σ.h k=some L)
  (h1:L.sz=sz) (hsz:sz=ie.size) (hpos:0<sz) (h2:r+n≤L.rows.length) (h3:L.fz≤r * sz) (p:Prop) :
  OpOk P β σ a c nm o ⟨p,.any,updL σ.h k (some ⟨L.sz,L.rows.take r,L.fz,L.el⟩)⟩:=by
 obtain ⟨callee,args,ts⟩:=cl
 obtain ⟨args⟩:=args
 obtain ⟨ts⟩:=ts
 simp only at hcal ha hts
 subst hcal ha hts
 have hx':=H.get x
 rw [hx] at hx'
 obtain ⟨g,hg1,hg2,hg3,z,hz1,hz2,hz3⟩:=he.info
 have hu:(underlying t).run P c.w=.ok (.slice e) c.w:=by simp [run_underlying (ht.slice hk)]
 subst h1
 have hM':Z4s o.op=false:=by simp [ho,Z4s]
 have shrink:HOk β (updL σ.h k (some ⟨L.sz,L.rows.take r,L.fz,L.el⟩)) c:=by
  have hH:=H.heap
  refine ⟨hH.ext,hH.os,hH.tape,hH.output,hH.size,hH.old,fun q L' hq=>?_,fun q q' b e1 e2=>?_,fun q b e1=>?_⟩
  ·simp only [W3] at hq
   split at hq
   ·rename_i hqk
    subst hqk
    cases hq
    cases hH.locs q L hL with
    | nil m1 m2 m3=>exact .nil m1 (by simp [m2]) m3
    | map b clock es m1 m2 m3 m4=>omega
    | own b cs f m1 m2 m3 m4 m5 m6 m7 m8 m9=>
     have hle:(L.rows.take r).length≤L.rows.length:=by rw [U6];omega
     have hmul:=Nat.mul_le_mul_right L.sz hle
     refine .own (hpos:=m9) b cs f m1 m2 m3 (Nat.le_trans hmul m4) ?_ (Nat.le_trans hle m6) (fun row hr=>m7 row (List.mem_of_mem_take hr)) fun i j row d hi hj=>?_
     ·show L.fz≤(L.rows.take r).length * L.sz
      rw [U6,Nat.min_eq_left (by omega)]
      exact h3
     ·have hi':L.rows[i]?=some row:=by
       have hi2:(L.rows.take r)[i]?=some row:=hi
       rw [List.getElem?_take] at hi2
       split at hi2
       ·exact hi2
       ·cases hi2
      exact m8 i j row d hi' hj
   ·exact hH.locs q L' hq
  ·exact hH.inj q q' b (by simp only [W3] at e1;split at e1<;>simp_all) (by simp only [W3] at e2;split at e2<;>simp_all)
  ·exact hH.mine q b (by simp only [W3] at e1;split at e1<;>simp_all)
 rcases Y30 hx' with ⟨rfl,ad,cap,hv⟩ | ⟨b,cap,hM,hv⟩
 ·refine ⟨.tuple #[],c,.inl ?_,.refl c,.any _,shrink,fun _ _=>rfl,fun q _ hq=>?_,fun _=>rfl⟩
  ·cases ad<;>simp [execOp,ho,resolve,invoke,builtin,Builtin.clear_,hu,hv]
  ·simp only [W3]
   split
   ·rename_i hqk;subst hqk;rw [hL] at hq;cases hq
   ·exact hq
 ·by_cases hn0:n=0
  ·subst hn0
   refine ⟨.tuple #[],c,.inl ?_,.refl c,.any _,shrink,fun _ _=>rfl,fun q _ hq=>?_,fun _=>rfl⟩
   ·simp [execOp,ho,resolve,invoke,builtin,Builtin.clear_,hu,hv]
   ·simp only [W3]
    split
    ·rename_i hqk;subst hqk;rw [hL] at hq;cases hq
    ·exact hq
  ·obtain ⟨cs,f,hb,hfr,hlen,hfz,hlim,hrow,hcell⟩:=(H.heap.locs k L hL).block hM (by omega)
   have hzl:z.cells.size=ie.size:=by
    rw [←he.zlen,←hz2];simp
   have hzs:∀ v∈(Builtin.zeroCells z.cells n).toList,v.oneCell'=true:=fun v hv=>by
    simp only [Builtin.zeroCells,Array.toList_map,U11] at hv
    obtain ⟨q,_,rfl⟩:=hv
    have hlt:q % z.cells.size<z.cells.size:=Nat.mod_lt _ (by omega)
    apply he.zone
    rw [←hz2]
    rw [getElem!_pos z.cells _ hlt]
    simp
   have hcount:(Builtin.zeroCells z.cells n).toList.length=n * ie.size:=by simp [Builtin.zeroCells,hzl]
   have hmul:(r+n) * L.sz≤L.rows.length * L.sz:=Nat.mul_le_mul_right _ h2
   rw [Nat.add_mul] at hmul
   have hrun:=run_storeCells_at P b (r * L.sz) L.el (Builtin.zeroCells z.cells n).toList 0 cs c.w hb (by rw [hcount,←hsz];omega) hzs
   simp only [Nat.add_zero] at hrun
   rw [hcount] at hrun
   generalize hcs':(cs.toList.take (r * L.sz)++(Builtin.zeroCells z.cells n).toList++cs.toList.drop (r * L.sz+n * ie.size)).toArray=cs' at hrun
   have hget':∀ q,q<r * L.sz→cs'[q]?=cs[q]?:=fun q hq=>by
    subst hcs'
    have:=X9e cs.toList (Builtin.zeroCells z.cells n).toList (r * L.sz) (by rw [hcount,←hsz];simp;omega) q
    rw [hcount,if_pos hq] at this
    simpa using this
   have hcl:cs'.size=cs.size:=by
    subst hcs'
    simp only [List.size_toArray,U5,U6,List.length_drop,Array.length_toList,hcount]
    rw [←hsz]
    omega
   let L':Loc:=⟨L.sz,L.rows.take r,L.fz,L.el⟩
   have hrl:(L.rows.take r).length=r:=by rw [U6];omega
   obtain ⟨c',hc',hxt,hh⟩:=H.heap.write hL hM (k':=k) (.inl rfl) (w':=c.w.setRow b cs') L' cs cs' f (by omega) hb
    (setRow_heap c.w b cs cs' L.el (0,0) hb) (fun q hq=>setRow_other c.w b q cs' (by exact fun e=>hq e)) (by simp) rfl rfl rfl hcl
    (fun q hq=>hget' q (by omega)) rfl rfl (by simp only [L',hrl];omega) (by simp only [L',hrl];exact h3) (by simp only [L',hrl];omega)
    (fun row hm=>hrow row (List.mem_of_mem_take hm))
    (fun i' j' row d hi hj=>by
     have hi2:(L.rows.take r)[i']?=some row:=hi
     rw [List.getElem?_take] at hi2
     split at hi2
     ·rename_i hlt
      obtain ⟨w1,w2⟩:=hcell i' j' row d hi2 hj
      have hw:=hrow row (U1 hi2)
      have hj':j'<L.sz:=by have:=(List.getElem?_eq_some_iff.1 hj).1;omega
      have hm:=Nat.mul_le_mul_right L.sz (show i'+1≤r from hlt)
      rw [Nat.add_mul,Nat.one_mul] at hm
      refine ⟨?_,w2⟩
      show cs'[i' * L.sz+j']?=_
      rw [hget' _ (by omega)]
      exact w1
     ·cases hi2)
   subst hc'
   rw [X62] at hh
   refine ⟨.tuple #[],_,.inl ?_,hxt,.any _,hh,fun q hq=>?_,fun q hq hn=>?_,fun _=>?_⟩
   ·have hzv:(zeroValue e).run P c.w=.ok z c.w:=by simp [zeroValue,typeInfo,hg1,hz1]
    obtain ⟨m,rfl⟩:∃ m,n=m+1:=⟨n-1,by omega⟩
    simp [execOp,ho,resolve,invoke,builtin,Builtin.clear_,hu,hv,hzv,hrun]
   ·show (if q=k then some (some b) else c.M q)=c.M q
    split
    ·rename_i hqk;subst hqk;exact hM.symm
    ·rfl
   ·simp only [W3]
    split
    ·rename_i hqk;subst hqk;rw [hL] at hn;cases hn
    ·exact hn
   ·funext q
    show (if q=k then some (some b) else c.M q)=c.M q
    split
    ·rename_i hqk;subst hqk;exact hM.symm
    ·rfl
theorem W9q {P:Program}{β:Base}{σ:St}{a:Act}{c:Cx}{nm:Nat}{o:Oper}(H:Conc β σ a c)(cl:Call)(t e:TypeId)(x:Operand)(ho:o.op=.call cl)(hcal:cl.callee=.builtin .cap)(ha:cl.args.toList=[x])(hts:cl.argTypes.toList=[t])
  {i:TyI} (ht:TyOk P t i) (hk:i.kind=.slice e) (hx:σ.get x=.nil) (p:Prop):OpOk P β σ a c nm o ⟨p,.val (.int .i64 0),σ.h⟩:=by
 obtain ⟨callee,args,ts⟩:=cl
 obtain ⟨args⟩:=args
 obtain ⟨ts⟩:=ts
 simp only at hcal ha hts
 subst hcal ha hts
 have hx':=H.get x
 rw [hx] at hx'
 have hv:a.eval x=.slice none 0 0:=by generalize a.eval x=v at hx';cases hx';rfl
 have hu:(underlying t).run P c.w=.ok (.slice e) c.w:=by simp [run_underlying (ht.slice hk)]
 refine OpOk.same (v:=.int .i64 0) H ?_ (.val _)
 simp [execOp,ho,resolve,invoke,builtin,Builtin.cap_,hu,hv,goInt]
theorem W0x {P:Program}{β:Base}{σ:St}{a:Act}{c:Cx}{nm:Nat}{o:Oper}(H:Conc β σ a c)(t e:TypeId)(Q29:Array (Nat×Operand))(ho:o.op=.build t Q29)
  {i ie:TyI} {n:Nat} (ht:TyOk P t i) (hk:i.kind=.array n e) (he:TyOk P e ie) (hp:Q29.size=0) (p:Prop):OpOk P β σ a c nm o ⟨p,.agg (i.zero.map D.ofV),σ.h⟩:=by
 obtain ⟨f,z,hf1,hz1,hz⟩:=W1c ht c
 obtain ⟨g,hg1,hg2,_⟩:=he.find
 have hp':Q29 = #[]:=Array.eq_empty_of_size_eq_zero hp
 subst hp'
 have hb:P.built t (Array.map (fun x:Nat×Operand=>(x.1,a.eval x.2)) #[]).toList=some z.cells:=by
  unfold Program.built
  rw [hf1,ht.array hk]
  simp [hz1,hg1,Instr.fill]
 refine OpOk.same (v:=.agg z.cells) H ?_ (.agg _ _ hz.1 fun j d v hj hv=>?_)
 ·have:=run_build c.w t _ z.cells hb
  simp only [List.map_toArray,List.map_nil] at this
  simp [execOp,ho,this]
 ·obtain ⟨u,hu,hr'⟩:=hz.2 j d hj
  rw [hv] at hu
  cases hu
  exact hr'
theorem W0w {P:Program}{β:Base}{σ:St}{a:Act}{c:Cx}{nm:Nat}{o:Oper}(H:Conc β σ a c)(t e:TypeId)(x y:Operand)(ho:o.op=.index t x y)
  {i ie:TyI} {len:Nat} (ht:TyOk P t i) (hk:i.kind=.array len e) (he:TyOk P e ie) (ha:ie.agg=false) (h1:ie.size=1) {ds:List D} (hx:σ.get x=.agg ds) {k:IntKind} {n:Int} (hy:σ.get y=.val (.int k n)) (p:Prop) (h2:inb n len) (h3:ds.length=len) :
  OpOk P β σ a c nm o ⟨p,ds.getD n.toNat .any,σ.h⟩:=by
 have hx':=H.get x
 have hy':=H.get y
 rw [hx] at hx'
 rw [hy] at hy'
 have hyv:=W1 hy'
 cases hxe:a.eval x<;>rw [hxe] at hx'<;>cases hx'
 rename_i vs hlen hh
 obtain ⟨g,hg1,hg2,_⟩:=he.find
 obtain ⟨h20,h21⟩:=h2
 have hlt:n.toNat<ds.length:=by omega
 have hlv:n.toNat<vs.size:=by omega
 have hv:vs[n.toNat]?=some vs[n.toNat]:=by simp [hlv]
 have hd:=getD_some (d:=.any) hlt
 refine OpOk.same (v:=vs[n.toNat]) H ?_ (hh n.toNat _ _ hd hv)
 have hga:(isAgg e).run P c.w=.ok false c.w:=by rw [Z58 he,ha]
 simp [execOp,ho,hxe,hyv,Instr.index,asIntOf,run_underlying (ht.array hk),h20,h21,part,hga,sizeOf,typeInfo,hg1,hg2,h1,hv]
theorem X1e {P:Program}{β:Base}{σ:St}{a:Act}{c:Cx}{nm:Nat}{o:Oper}(H:Conc β σ a c)(hn:σ.h nm=none)(hM:c.M nm=none)(t t' e:TypeId)(x y:Operand)
  (ho:o.op=.call { callee:=.builtin .append,args:=#[x,y],argTypes:=#[t,t'] })
  {i it ie:TyI} (ht:TyOk P t i) (hk:i.kind=.slice e) (ht':TyOk P t' it) {kt:IntKind} (hk':it.kind=.int kt) (he:TyOk P e ie) (hx:σ.get x=.nil) {k:IntKind} {n:Int} (hy:σ.get y=.val (.int k n)) (h0:0<ie.size) (h1:0≤n) (h2:n≤Q9) (p:Prop) :
  OpOk P β σ a c nm o ⟨p,.sl ie.size nm n.toNat,updL σ.h nm (some ⟨ie.size,List.replicate n.toNat (ie.zero.map D.ofV),0,e⟩)⟩:=by
 obtain ⟨f,hf1,hf2,hf3,z,hz1,hz2,hz3⟩:=he.info
 have hzs:z.cells.size=ie.size:=by rw [←he.zlen,←hz2];simp
 have hlim:n.toNat≤Q9:=by simp only [Q9] at h2 ⊢;omega
 have hx':=H.get x
 have hy':=H.get y
 rw [hx] at hx'
 rw [hy] at hy'
 have hxe:a.eval x=.slice none 0 0:=by generalize a.eval x=v at hx';cases hx';rfl
 have hye:=W1 hy'
 have hu:(underlying t).run P c.w=.ok (.slice e) c.w:=by simp [run_underlying (ht.slice hk)]
 have hs:(sizeOf e).run P c.w=.ok ie.size c.w:=by simp [sizeOf,typeInfo,hf1,hf2]
 by_cases hn0:n=0
 ·subst hn0
  obtain ⟨c',hc',hxt,hh⟩:=H.heap.nilloc hM ie.size e
  subst hc'
  refine ⟨.slice none 0 0,⟨fun k=>if k=nm then some none else c.M k,c.fr,c.w⟩,.inl ?_,hxt,.sl0 _ _ none (by simp),hh,fun q hq=>by simp [hq],fun q hq hq'=>by simp [hq,hq'],fun hm0=>by simp [ho,Z4s] at hm0⟩
  have hw:IntKind.i64.wrap (0:Int)=0:=by decide
  simp [execOp,ho,resolve,invoke,builtin,hxe,hye,Builtin.append_,run_underlying (ht.slice hk),run_underlying (ht'.int hk'),sizeOf,typeInfo,hf1,asInt,asIntOf,hw]
 ·have hget:∀ i j,i<n.toNat→j<ie.size→∀ u,ie.zero[j]?=some u→(Builtin.zeroCells z.cells n.toNat)[i * ie.size+j]?=some u:=fun i j hi hj u hu=>by
   have hend:=Nat.mul_le_mul_right ie.size (show i+1≤n.toNat from hi)
   rw [Nat.add_mul,Nat.one_mul] at hend
   have e2:(i * ie.size+j) % z.cells.size=j:=by rw [hzs,Nat.mul_comm,Nat.mul_add_mod,Nat.mod_eq_of_lt hj]
   have e3:z.cells[j]?=some u:=by rw [←hz2] at hu;simpa using hu
   have hlt:i * ie.size+j<n.toNat * z.cells.size:=by rw [hzs];omega
   unfold Builtin.zeroCells
   simp only [Array.getElem?_map,Array.getElem?_range,hlt,if_true,Option.map_some,e2]
   simp [getElem!_def,e3]
  have hsz:(Builtin.zeroCells z.cells n.toNat).size=n.toNat * ie.size:=by rw [size_zeroCells,hzs]
  have hroom:=he.room
  have hb:n.toNat * f.bytes≤281474976710656:=by
   have q1:n.toNat * f.bytes≤Q9 * 16384:=Nat.mul_le_mul hlim (by omega)
   simp only [Q9] at q1
   omega
  have hrun:=Lib.run_append_nil_zeros (P:=P) c.w t t' o.type e f z k kt (ht.slice hk) (ht'.int hk') hf1 hz1 n.toNat (by omega) (by omega) (by simp only [Q9] at h2;omega) hb
  have hnn:((n.toNat:Nat):Int)=n:=by omega
  rw [hnn] at hrun
  have hK:=grownCap_ge c.w n.toNat 0 e
  obtain ⟨c',hc',hxt,hh⟩:=H.heap.alloc hn hM (w':=c.w.drew.alloc (.cells (Builtin.zeroCells z.cells n.toNat++Builtin.zeroCells z.cells (grownCap c.w n.toNat 0 e-n.toNat)) e)) ⟨ie.size,List.replicate n.toNat (ie.zero.map D.ofV),0,e⟩
   (Builtin.zeroCells z.cells n.toNat++Builtin.zeroCells z.cells (grownCap c.w n.toNat 0 e-n.toNat)) (fun _ j=>(ie.zero[j]?).getD undef) h0 rfl rfl rfl rfl
   (by simp only [Array.size_append,hsz,List.length_replicate];omega) (Nat.zero_le _) (by simpa using Z5u hlim) (fun row hm=>by rw [List.eq_of_mem_replicate hm];simp [he.zlen]) (fun i j row d hi hj=>by
    have hil:=(List.getElem?_eq_some_iff.1 hi).1
    simp only [List.length_replicate] at hil
    have hrow:row=ie.zero.map D.ofV:=List.eq_of_mem_replicate (U1 hi)
    subst hrow
    simp only [List.getElem?_map,U12] at hj
    obtain ⟨u,hu,rfl⟩:=hj
    have hjl:=(List.getElem?_eq_some_iff.1 hu).1
    rw [he.zlen] at hjl
    rw [hu]
    have hend:=Nat.mul_le_mul_right ie.size (show i+1≤n.toNat from hil)
    rw [Nat.add_mul,Nat.one_mul] at hend
    refine ⟨?_,Z7a _ u,he.zone u (U1 hu)⟩
    have hlt2:i * ie.size+j<(Builtin.zeroCells z.cells n.toNat).size:=by rw [hsz];omega
    have e5:(Builtin.zeroCells z.cells n.toNat++Builtin.zeroCells z.cells (grownCap c.w n.toNat 0 e-n.toNat))[i * ie.size+j]?=(Builtin.zeroCells z.cells n.toNat)[i * ie.size+j]?:=Array.getElem?_append_left hlt2
    exact e5.trans <| hget i j hil hjl u hu)
  subst hc'
  refine ⟨.slice (some ⟨c.w.heap.size,0,none⟩) n.toNat (grownCap c.w n.toNat 0 e),_,.inl ?_,hxt,?_,hh,fun q hq=>by simp [hq],fun q hq hq'=>by simp [hq,hq'],fun hm0=>by simp [ho,Z4s] at hm0⟩
  ·simp [execOp,ho,resolve,invoke,builtin,hxe,hye,hrun]
  ·refine .sl _ _ _ c.w.heap.size (grownCap c.w n.toNat 0 e) _ e (0,0) (by simp) hK (heap_alloc_new c.w.drew _) ?_
   simp only [Array.size_append,hsz,size_zeroCells,hzs,←Nat.add_mul]
   exact Nat.mul_le_mul_right _ (by omega)
abbrev Ty:=TypeId→Option TyI
def Z8i (T:Ty)(σ:St)(t:TypeId)(x:Operand):Option Res:=
 match T t with
 | none=>none
 | some i=>match σ.get x with
  | .ptr sz k r j=>match σ.h k with
   | some L=>some ⟨(i.agg=false→i.size=1)∧L.sz=sz∧r<L.rows.length∧j+i.size≤sz,D.ofCells i (((L.rows.getD r []).drop j).take i.size),σ.h⟩
   | none=>none
  | .cptr ds=>some ⟨(i.agg=false→i.size=1)∧i.size≤ds.length,D.ofCells i (ds.take i.size),σ.h⟩
  | _=>none
def X1f (T:Ty)(σ:St)(t:TypeId)(x y:Operand):Option Res:=
 match T t with
 | none=>none
 | some i=>match σ.get x with
  | .ptr sz k r j=>match σ.h k with
   | some L=>match (σ.get y).flat with
    | some ds=>some ⟨L.sz=sz∧r<L.rows.length∧j+i.size≤sz∧ds.length=i.size∧L.fz≤r * sz+j,.val undef,
      updL σ.h k (some ⟨L.sz,L.rows.set r (Z9q L.sz (L.rows.getD r []) j ds),L.fz,L.el⟩)⟩
    | none=>none
   | none=>none
  | _=>none
def V00 (σ:St)(nm:Nat)(t:TypeId)(x:Operand):Option Res:=
 match (σ.get x).flat with
 | some ds=>some ⟨0<ds.length,.ptr ds.length nm 0 0,updL σ.h nm (some ⟨ds.length,[ds],0,t⟩)⟩
 | none=>none
def Z7q (T:Ty)(σ:St)(nm:Nat)(t:TypeId):Option Res:=
 match T t with
 | some i=>some ⟨0<i.size,.ptr i.size nm 0 0,updL σ.h nm (some ⟨i.size,[i.zero.map D.ofV],0,t⟩)⟩
 | none=>none
def Z0r (T:Ty)(σ:St)(s:TypeId)(x:Operand)(n:Nat):Option Res:=
 match T s with
 | none=>none
 | some i=>match i.kind with
  | .struct fs=>match fs[n]? with
   | some (off,_,_)=>match σ.get x with
    | .ptr sz k r j=>some ⟨True,.ptr sz k r (j+off),σ.h⟩
    | .cptr ds=>some ⟨True,.cptr (ds.drop off),σ.h⟩
    | _=>none
   | none=>none
  | _=>none
def Z0q (T:Ty)(σ:St)(t:TypeId)(x y:Operand):Option Res:=
 match T t with
 | none=>none
 | some i=>match σ.get y with
  | .val (.int _ n)=>match i.kind with
   | .slice e=>match T e with
    | none=>none
    | some ie=>match σ.get x with
     | .slice sz rows=>some ⟨sz=ie.size∧inb n rows.length,.cptr (X04 rows n),σ.h⟩
     | .sl sz k m=>some ⟨sz=ie.size∧0<ie.size∧inb n m,.ptr sz k n.toNat 0,σ.h⟩
     | _=>none
   | .array len e=>match T e with
    | none=>none
    | some ie=>match σ.get x with
     | .ptr sz k r j=>some ⟨inb n len,.ptr sz k r (j+n.toNat * ie.size),σ.h⟩
     | .cptr ds=>some ⟨inb n len,.cptr (ds.drop (n.toNat * ie.size)),σ.h⟩
     | _=>none
   | _=>none
  | _=>none
def W36 (s:ByteArray)(i:Int):Int:=(s.data.getD i.toNat 0).toNat
def X1g (T:Ty)(σ:St)(t:TypeId)(x y:Operand):Option Res:=
 match T t with
 | none=>none
 | some i=>match i.kind with
  | .string=>match σ.get x,σ.get y with
   | .val (.string s),.val (.int _ n)=>some ⟨inb n s.size,.val (.int .u8 (W36 s n)),σ.h⟩
   | _,_=>none
  | .array len e=>match T e with
   | some ie=>match σ.get x,σ.get y with
    | .agg ds,.val (.int _ n)=>some ⟨ie.agg=false∧ie.size=1∧inb n len∧ds.length=len,ds.getD n.toNat .any,σ.h⟩
    | _,_=>none
   | none=>none
  | _=>none
def X1h (T:Ty)(σ:St)(s:TypeId)(x:Operand)(n:Nat):Option Res:=
 match T s with
 | none=>none
 | some i=>match i.kind with
  | .struct fs=>match fs[n]? with
   | some (off,t,_)=>match T t with
    | none=>none
    | some it=>match σ.get x with
     | .agg ds=>some ⟨(it.agg=false→it.size=1)∧off+it.size≤ds.length,D.ofCells it ((ds.drop off).take it.size),σ.h⟩
     | _=>none
   | none=>none
  | _=>none
def X1j (T:Ty)(σ:St)(t:TypeId)(Q29:Array (Nat×Operand)):Option Res:=
 match T t with
 | none=>none
 | some i=>match i.kind with
  | .struct fs=>match W0o (fun n=>(fs[n]?).map fun x=>(x.1,x.2.2)) (i.zero.map D.ofV) (Q29.toList.map fun x=>(x.1,σ.get x.2)) with
   | some ds=>some ⟨True,.agg ds,σ.h⟩
   | none=>none
  | .array _ e=>match T e with
   | some _=>if Q29.size=0 then some ⟨True,.agg (i.zero.map D.ofV),σ.h⟩ else none
   | none=>none
  | _=>none
def Q88 (T:Ty)(σ:St)(nm:Nat)(t:TypeId)(len:Nat)(Q29:Array (Nat×Operand)):Option Res:=
 match T t with
 | none=>none
 | some i=>match i.kind with
  | .slice e=>match T e with
   | none=>none
   | some ie=>match Z2p ie.size (List.replicate len (ie.zero.map D.ofV)) (Q29.toList.map fun x=>(x.1,σ.get x.2)) with
    | some rows=>some ⟨0<ie.size∧len * ie.size≤16777216,.sl ie.size nm len,updL σ.h nm (some ⟨ie.size,rows,0,e⟩)⟩
    | none=>none
  | _=>none
def V01 (T:Ty)(σ:St)(op:BinOp)(t:TypeId)(x y:Operand):Option Res:=
 match σ.get x,σ.get y with
 | .val (.int k m),.val (.int k' n)=>match W86 op k m n with
  | some (q,v)=>some ⟨k'=k∧q,.val v,σ.h⟩
  | none=>match X43 op k m n with
   | some v=>some ⟨0≤n,.val v,σ.h⟩
   | none=>none
 | .val (.string m),.val (.string n)=>match op with
  | .add=>some ⟨m.size+n.size≤4611686018427387904,.val (.string (m++n)),σ.h⟩
  | .eql=>some ⟨True,.val (.bool (seq2 m n)),σ.h⟩
  | .neq=>some ⟨True,.val (.bool (!seq2 m n)),σ.h⟩
  | _=>none
 | .val (.bool m),.val (.bool n)=>match T t with
  | some i=>match i.kind with
   | .bool=>match op with
    | .eql=>some ⟨True,.val (.bool (m==n)),σ.h⟩
    | .neq=>some ⟨True,.val (.bool (!(m==n))),σ.h⟩
    | _=>none
   | _=>none
  | none=>none
 | .agg ds,.agg es=>match T t with
  | some i=>match i.kind with
   | .struct _=>if i.eq=true then match eqV T 6 t ds es with
     | some bs=>match op with
      | .eql=>some ⟨True,.val (.bool (Q7x bs)),σ.h⟩
      | .neq=>some ⟨True,.val (.bool (!Q7x bs)),σ.h⟩
      | _=>none
     | none=>none
    else none
   | _=>none
  | none=>none
 | _,_=>none
def evUn (σ:St)(op:UnOp)(x:Operand):Option Res:=
 match op,σ.get x with
 | .not,.val (.bool m)=>some ⟨True,.val (.bool (!m)),σ.h⟩
 | .neg,.val (.int k m)=>some ⟨True,.val (.int k (wneg k m)),σ.h⟩
 | _,_=>none
def Z43 (T:Ty)(σ:St)(s t:TypeId)(x:Operand):Option Res:=
 match T s,T t with
 | some is,some it=>match is.kind,it.kind,σ.get x with
  | .int _,.int kt,.val (.int _ m)=>some ⟨True,.val (.int kt (wcv kt m)),σ.h⟩
  | .slice e,.string,.sl sz k n=>match T e,σ.h k with
   | some ie,some L=>match Z65 L.rows with
    | some l=>some ⟨isU8 ie∧sz=1∧L.sz=1∧L.rows.length=n,.val (.string (bstr l)),σ.h⟩
    | none=>none
   | _,_=>none
  | _,_,_=>none
 | _,_=>none
def Z0p (T:Ty)(σ:St)(nm:Nat)(t:TypeId)(x y:Operand):Option Res:=
 match T t with
 | some i=>match i.kind with
  | .slice e=>match T e with
   | some ie=>match σ.get x,σ.get y with
    | .val (.int _ n),.val (.int _ n')=>some ⟨n'=n∧0<ie.size∧0≤n∧n≤Q9,.sl ie.size nm n.toNat,updL σ.h nm (some ⟨ie.size,List.replicate n.toNat (ie.zero.map D.ofV),0,e⟩)⟩
    | _,_=>none
   | none=>none
  | _=>none
 | none=>none
def Z42 (σ:St)(x:Operand)(n:Nat):Option Res:=
 match σ.get x with
 | .tup ds=>match ds[n]? with
  | some d=>some ⟨True,d,σ.h⟩
  | none=>none
 | _=>none
def X82 (g:List Bool)(σ:St)(x y z:Operand):Option Res:=
 match (σ.get x).under g with
 | .val (.bool b)=>some ⟨True,W7j b ((σ.get y).under (g++[b])) ((σ.get z).under (g++[!b])),σ.h⟩
 | _=>none
def Z1o (σ:St)(x:Operand):Option Res:=
 match σ.get x with
 | .ptr sz k i j=>some ⟨True,.ptr sz k i j,σ.h⟩
 | .cptr ds=>some ⟨True,.cptr ds,σ.h⟩
 | .clos f ds=>some ⟨True,.clos f ds,σ.h⟩
 | _=>none
def W9t (T:Ty)(σ:St)(t:TypeId)(x:Operand):Option Res:=
 match T t with
 | none=>none
 | some i=>match i.kind with
  | .slice _=>match (σ.get x).len with
   | some n=>some ⟨True,.val (.int .i64 (lenZ n)),σ.h⟩
   | none=>none
  | .string=>match σ.get x with
   | .val (.string s)=>some ⟨True,.val (.int .i64 (lenZ s.size)),σ.h⟩
   | _=>none
  | _=>none
def Z40 (T:Ty)(σ:St)(t:TypeId)(x:Operand)(lo hi mx:Option Operand):Option Res:=
 match mx with
 | some _=>none
 | none=>match T t with
  | none=>none
  | some i=>match i.kind with
   | .string=>match σ.get x with
    | .val (.string s)=>match loD (lo.map σ.get),hiD s.size (hi.map σ.get) with
     | some l,some h=>some ⟨X94 s.size l h,.val (.string (bsub s l h)),σ.h⟩
     | _,_=>none
    | _=>none
   | .slice e=>match T e with
    | none=>none
    | some ie=>match lo,hi with
     | none,some y=>match σ.get x,σ.get y with
      | .slice sz rows,.val (.int _ n)=>some ⟨Z56 rows.length n,.slice sz (Z99 rows n),σ.h⟩
      | .sl sz k m,.val (.int _ n)=>some ⟨Z56 m n,.sl sz k n.toNat,σ.h⟩
      | .nil,.val (.int _ n)=>some ⟨n=0,.nil,σ.h⟩
      | _,_=>none
     | some z,none=>match σ.get x,σ.get z with
      | .slice sz rows,.val (.int _ l)=>some ⟨sz=ie.size∧Z56 rows.length l,.slice sz (Z1z rows l),σ.h⟩
      | .sl sz k m,.val (.int _ l)=>some ⟨sz=ie.size∧Z56 m l,.tl sz k l.toNat (m-l.toNat),σ.h⟩
      | _,_=>none
     | some z,some y=>match σ.get x,σ.get z,σ.get y with
      | .slice sz rows,.val (.int _ l),.val (.int _ n)=>some ⟨sz=ie.size∧X94 rows.length l n,.slice sz (Q7q rows l n),σ.h⟩
      | _,_,_=>none
     | _,_=>none
   | _=>none
def St.src (σ:St)(size:Nat):D→Option (Prop×List (List D))
 | .nil=>some (True,[])
 | .slice sz rows=>some (sz=size,rows)
 | .sl sz k n=>match σ.h k with
  | some L=>some (sz=size∧L.sz=size∧L.rows.length=n,L.rows)
  | none=>none
 | _=>none
def Z6m (T:Ty)(σ:St)(nm:Nat)(t t':TypeId)(x y:Operand):Option Res:=
 match T t with
 | none=>none
 | some i=>match i.kind with
  | .slice e=>match T e with
   | none=>none
   | some ie=>match σ.src ie.size (σ.get y) with
    | none=>match σ.get x,σ.get y,T t' with
     | .nil,.val (.int _ n),some it=>match it.kind with
      | .int _=>some ⟨0<ie.size∧0≤n∧n≤Q9,.sl ie.size nm n.toNat,updL σ.h nm (some ⟨ie.size,List.replicate n.toNat (ie.zero.map D.ofV),0,e⟩)⟩
      | _=>none
     | _,_,_=>none
    | some (q,rows)=>match σ.get x with
     | .nil=>some ⟨t'=t∧0<ie.size∧q∧rows.length≤Q9,.sl ie.size nm rows.length,updL σ.h nm (some ⟨ie.size,rows,0,e⟩)⟩
     | .sl sz k n=>match σ.h k with
      | some L=>some ⟨t'=t∧0<ie.size∧q∧sz=ie.size∧L.sz=ie.size∧L.rows.length=n∧L.el=e∧n+rows.length≤Q9,.sl sz nm (n+rows.length),
        updL (updL σ.h k none) nm (some ⟨sz,L.rows++rows,L.fz,e⟩)⟩
      | none=>none
     | _=>none
  | _=>none
def Q9s (σ:St)(mx:Bool)(x y:Operand):Option Res:=
 match σ.get x,σ.get y with
 | .val (.int k m),.val (.int k' n)=>some ⟨k'=k,.val (.int k (if mx=true then imax m n else imin m n)),σ.h⟩
 | _,_=>none
def X1i (T:Ty)(σ:St)(t:TypeId)(x:Operand):Option Res:=
 match T t with
 | none=>none
 | some i=>match i.kind with
  | .slice e=>match T e with
   | none=>none
   | some ie=>match σ.get x with
    | .tl sz k r n=>match σ.h k with
     | some L=>some ⟨L.sz=sz∧sz=ie.size∧0<sz∧r+n≤L.rows.length∧L.fz≤r * sz,.any,updL σ.h k (some ⟨L.sz,L.rows.take r,L.fz,L.el⟩)⟩
     | none=>none
    | _=>none
  | _=>none
def W9x (T:Ty)(σ:St)(t:TypeId)(x:Operand):Option Res:=
 match T t with
 | none=>none
 | some i=>match i.kind with
  | .slice _=>match σ.get x with
   | .nil=>some ⟨True,.val (.int .i64 0),σ.h⟩
   | _=>none
  | _=>none
def Z1s (T:Ty)(σ:St)(nm:Nat)(b:Builtin)(args:Array Operand)(ts:Array TypeId):Option Res:=
 match b,args.toList,ts.toList with
 | .len,[x],[t]=>W9t T σ t x
 | .append,[x,y],[t,t']=>Z6m T σ nm t t' x y
 | .min,[x,y],_=>Q9s σ false x y
 | .max,[x,y],_=>Q9s σ true x y
 | .clear,[x],[t]=>X1i T σ t x
 | .cap,[x],[t]=>W9x T σ t x
 | _,_,_=>none
def Z41 (T:Ty)(σ:St)(nm:Nat)(t:TypeId)(r:Option Operand):Option Res:=
 match r,T t with
 | none,some i=>match i.kind with
  | .map _ _=>some ⟨True,.mp nm,updL σ.h nm (some ⟨0,[],0,t⟩)⟩
  | _=>none
 | _,_=>none
def Z6l (T:Ty)(σ:St)(t:TypeId)(x y:Operand)(ok:Bool):Option Res:=
 match ok,T t with
 | false,some i=>match i.kind with
  | .map kt et=>match T kt,T et with
   | some ik,some ie=>match σ.get x,σ.get y with
    | .mp k,.val (.string s)=>match σ.h k with
     | some L=>match Z8r L.rows with
      | some l=>some ⟨L.sz=0∧X9t ik∧ie.agg=false,.val (mget l s (ie.zero.headD undef)),σ.h⟩
      | none=>none
     | none=>none
    | _,_=>none
   | _,_=>none
  | _=>none
 | _,_=>none
def Z0o (T:Ty)(σ:St)(t:TypeId)(x y z:Operand):Option Res:=
 match T t with
 | some i=>match i.kind with
  | .map kt _=>match T kt with
   | some ik=>match σ.get x,σ.get y,σ.get z with
    | .mp k,.val (.string s),.val v=>match σ.h k with
     | some L=>match Z8r L.rows with
      | some l=>some ⟨L.sz=0∧X9t ik,.val undef,updL σ.h k (some ⟨L.sz,Z3c (mset l s v),L.fz,L.el⟩)⟩
      | none=>none
     | none=>none
    | _,_,_=>none
   | none=>none
  | _=>none
 | none=>none
def V0 (T:Ty)(σ:St)(nm:Nat)(op:Op):Option Res:=
 match op with
 | .makeMap t r=>Z41 T σ nm t r
 | .makeSlice t x y=>Z0p T σ nm t x y
 | .lookup t x y ok=>Z6l T σ t x y ok
 | .mapUpdate t x y z=>Z0o T σ t x y z
 | .move x=>some ⟨True,σ.get x,σ.h⟩
 | .assign x=>some ⟨True,σ.get x,σ.h⟩
 | .pick x y z=>X82 [] σ x y z
 | .alloc t=>Z7q T σ nm t
 | .box t x=>V00 σ nm t x
 | .build t Q29=>X1j T σ t Q29
 | .buildSlice t len Q29=>Q88 T σ nm t len Q29
 | .load t x=>Z8i T σ t x
 | .store t x y=>X1f T σ t x y
 | .nilCheck x=>Z1o σ x
 | .binOp op t x y _=>V01 T σ op t x y
 | .unOp op _ x=>evUn σ op x
 | .convert s t x=>Z43 T σ s t x
 | .makeFunc fn first caps=>match fn,first.toList with
  | .func f,[]=>some ⟨True,.clos f (caps.toList.map σ.get),σ.h⟩
  | _,_=>none
 | .fieldAddr s x n=>Z0r T σ s x n
 | .field s x n=>X1h T σ s x n
 | .indexAddr t x y=>Z0q T σ t x y
 | .index t x y=>X1g T σ t x y
 | .extract x n=>Z42 σ x n
 | .slice t x lo hi mx=>Z40 T σ t x lo hi mx
 | .call c=>match c.callee with
  | .builtin b=>Z1s T σ nm b c.args c.argTypes
  | _=>none
 | _=>none
def Z0w (P:Program)(T:Ty):Prop:=∀ t i,T t=some i→TyOk P t i
theorem V5l {P:Program}{β:Base}{σ:St}{a:Act}{c:Cx}(H:Conc β σ a c){size:Nat}(h0:0<size){y:Operand}{q:Prop}{rows:List (List D)}(h:σ.src size (σ.get y)=some (q,rows))(hq:q):X8g c size rows (a.eval y):=by
 have hy:=H.get y
 revert h hy
 generalize σ.get y=d
 intro h hy
 cases d<;>simp only [St.src] at h<;>(try (cases h;done))
 ·cases h;exact V7d hy
 ·cases h;subst hq;exact W6y h0 hy
 ·rename_i sz k n
  cases hk:σ.h k with
  | none=>simp [hk] at h
  | some L=>
   simp only [hk] at h
   cases h
   obtain ⟨rfl,h2,h3⟩:=hq
   exact V5k h0 hy (H.heap.locs k L hk) h2 h3
theorem X52 {P:Program}{T:Ty}(hT:Z0w P T){β:Base}{σ:St}{a:Act}{c:Cx}{nm:Nat}{o:Oper}(H:Conc β σ a c)(hn:σ.h nm=none)(hM:c.M nm=none){r:Res}
  (h:V0 T σ nm o.op=some r) (hok:r.ok):OpOk P β σ a c nm o r:=by
 cases ho:o.op<;>rw [ho] at h<;>simp only [V0] at h<;>(try (cases h;done))
 case makeSlice t x y=>
  unfold Z0p at h
  repeat' split at h
  all_goals cases h
  obtain ⟨h1,h2,h3,h4⟩:=hok
  subst h1
  exact X7w H hn hM t _ x y ho (hT _ _ (by assumption)) (by assumption) (hT _ _ (by assumption)) (by assumption) (by assumption) h2 h3 h4 _
 case makeMap t r=>
  unfold Z41 at h
  repeat' split at h
  all_goals cases h
  exact W5e H hn hM t ho _
 case lookup t x y ok=>
  unfold Z6l at h
  repeat' split at h
  all_goals cases h
  exact W9p H t x y ho (hT _ _ (by assumption)) (by assumption) (hT _ _ (by assumption)) (hT _ _ (by assumption)) (by assumption) (by assumption) (by assumption) (by assumption) hok.1 hok.2.1 hok.2.2 _
 case mapUpdate t x y z=>
  unfold Z0o at h
  repeat' split at h
  all_goals cases h
  exact X7v H t x y z ho (hT _ _ (by assumption)) (by assumption) (hT _ _ (by assumption)) (by assumption) (by assumption) (by assumption) (by assumption) (by assumption) hok.1 hok.2 _
 case move x=>cases h;exact W9o H x (.inl ho) _
 case assign x=>cases h;exact W9o H x (.inr ho) _
 case pick x y z=>
  unfold X82 at h
  split at h<;>cases h
  rename_i b hb
  exact V8o H x y z ho (g:=[]) rfl b hb _
 case alloc t=>
  unfold Z7q at h
  split at h<;>cases h
  rename_i i hi
  exact V4l H hn hM t ho (hT t i hi) _ hok
 case box t x=>
  unfold V00 at h
  split at h<;>cases h
  rename_i ds hd
  exact Y3r H hn hM t x ho ds hd _ hok
 case build t Q29=>
  unfold X1j at h
  repeat' split at h
  all_goals cases h
  ·exact V4k H t Q29 ho (hT _ _ (by assumption)) (by assumption) (by assumption) _
  ·exact W0x H t _ Q29 ho (hT _ _ (by assumption)) (by assumption) (hT _ _ (by assumption)) (by assumption) _
 case buildSlice t len Q29=>
  unfold Q88 at h
  repeat' split at h
  all_goals cases h
  exact X55 H hn hM t _ len Q29 ho (hT _ _ (by assumption)) (by assumption) (hT _ _ (by assumption)) hok.1 (by assumption) hok.2 _
 case load t x=>
  unfold Z8i at h
  repeat' split at h
  all_goals cases h
  ·exact W0u H t x ho (hT _ _ (by assumption)) hok.1 (by assumption) (by assumption) _ hok.2.1 hok.2.2.1 hok.2.2.2
  ·exact X7x H t x ho (hT _ _ (by assumption)) hok.1 (by assumption) _ hok.2
 case store t x y=>
  unfold X1f at h
  repeat' split at h
  all_goals cases h
  exact V4g H t x y ho (hT _ _ (by assumption)) (by assumption) (by assumption) (by assumption) _ hok.1 hok.2.1 hok.2.2.1 hok.2.2.2.1 hok.2.2.2.2
 case nilCheck x=>
  unfold Z1o at h
  split at h<;>cases h
  all_goals
   rename_i hx
   rw [←hx]
   refine W0s H x ho _ ?_
   rw [hx]
   trivial
 case binOp op t x y t'=>
  unfold V01 at h
  repeat' split at h
  all_goals cases h
  ·obtain ⟨hk,hq⟩:=hok
   subst hk
   exact W9r H op t t' x y ho (by assumption) (by assumption) (by assumption) hq _
  ·exact V4h H op t t' x y ho (by assumption) (by assumption) (by assumption) hok _
  ·exact W9n H t t' x y ho (by assumption) (by assumption) hok _
  ·exact X7z H .eql t t' x y ho (by assumption) (by assumption) (.inl rfl) _
  ·exact X7z H .neq t t' x y ho (by assumption) (by assumption) (.inr rfl) _
  ·exact X3p H .eql t t' x y ho (hT _ _ (by assumption)) (by assumption) (by assumption) (by assumption) (.inl rfl) _
  ·exact X3p H .neq t t' x y ho (hT _ _ (by assumption)) (by assumption) (by assumption) (by assumption) (.inr rfl) _
  ·exact X80 hT H .eql t t' x y ho (by assumption) (by assumption) (by assumption) (by assumption) (by assumption) (by assumption) (.inl rfl) _
  ·exact X80 hT H .neq t t' x y ho (by assumption) (by assumption) (by assumption) (by assumption) (by assumption) (by assumption) (.inr rfl) _
 case unOp op t x=>
  unfold evUn at h
  repeat' split at h
  all_goals cases h
  ·exact Y3m H t x ho (by assumption) _
  ·exact Y3n H t x ho (by assumption) _
 case convert s t x=>
  unfold Z43 at h
  repeat' split at h
  all_goals cases h
  ·exact W5g H s t x ho (hT _ _ (by assumption)) (hT _ _ (by assumption)) (by assumption) (by assumption) (by assumption) _
  ·exact X7y H s t _ x ho (hT _ _ (by assumption)) (by assumption) (hT _ _ (by assumption)) (by assumption) (hT _ _ (by assumption)) hok.1 (by assumption) (by assumption) (by assumption) hok.2.1 hok.2.2.1 hok.2.2.2 _
 case makeFunc fn first caps=>
  obtain ⟨first⟩:=first
  split at h
  ·rename_i h2
   simp only at h2
   subst h2
   cases h
   exact W0t H _ _ ho _
  ·cases h
 case fieldAddr s x n=>
  unfold Z0r at h
  repeat' split at h
  all_goals cases h
  ·exact (Z8h H s _ x n ho (hT _ _ (by assumption)) (by assumption) (by assumption) _).1 _ _ _ _ (by assumption)
  ·exact (Z8h H s _ x n ho (hT _ _ (by assumption)) (by assumption) (by assumption) _).2 _ (by assumption)
 case field s x n=>
  unfold X1h at h
  repeat' split at h
  all_goals cases h
  exact V4i H s _ x n ho (hT _ _ (by assumption)) (hT _ _ (by assumption)) (by assumption) (by assumption) (by assumption) hok.1 _ hok.2
 case indexAddr t x y=>
  unfold Z0q at h
  repeat' split at h
  all_goals cases h
  ·exact X2w H t _ x y ho (hT _ _ (by assumption)) (by assumption) (hT _ _ (by assumption)) (by assumption) (by assumption) _ hok.1 hok.2.1 hok.2.2
  ·exact W0v H t _ x y ho (hT _ _ (by assumption)) (by assumption) (hT _ _ (by assumption)) (by assumption) (by assumption) _ hok.1 hok.2.2.1 hok.2.2.2 hok.2.1
  ·exact (Z57 H t _ x y ho (hT _ _ (by assumption)) (by assumption) (hT _ _ (by assumption)) (by assumption) _ hok.1 hok.2).1 _ _ _ _ (by assumption)
  ·exact (Z57 H t _ x y ho (hT _ _ (by assumption)) (by assumption) (hT _ _ (by assumption)) (by assumption) _ hok.1 hok.2).2 _ (by assumption)
 case index t x y=>
  unfold X1g at h
  repeat' split at h
  all_goals cases h
  ·exact X1d H t x y ho (hT _ _ (by assumption)) (by assumption) (by assumption) (by assumption) _ hok.1 hok.2
  ·exact W0w H t _ x y ho (hT _ _ (by assumption)) (by assumption) (hT _ _ (by assumption)) hok.1 hok.2.1 (by assumption) (by assumption) _ hok.2.2.1 hok.2.2.2
 case extract x n=>
  unfold Z42 at h
  repeat' split at h
  all_goals cases h
  exact W5f H x n ho (by assumption) (by assumption) _
 case slice t x lo hi mx=>
  unfold Z40 at h
  split at h
  ·cases h
  ·split at h
   ·cases h
   ·rename_i hti
    split at h
    ·rename_i hk
     repeat' split at h
     all_goals cases h
     exact X2v H t x lo hi ho (hT _ _ hti) hk (by assumption) (by assumption) (by assumption) hok.1 hok.2.1 hok.2.2 _
    ·rename_i e hk
     repeat' split at h
     all_goals cases h
     ·exact X7u H t e x _ ho (hT _ _ hti) hk (hT _ _ (by assumption)) (by assumption) (by assumption) hok.1 hok.2 _
     ·exact W0q H t e x _ ho (hT _ _ hti) hk (hT _ _ (by assumption)) (by assumption) (by assumption) hok.1 hok.2 _
     ·exact W0r H t e x _ ho (hT _ _ hti) hk (hT _ _ (by assumption)) (by assumption) (by assumption) hok _
     ·have e:∀ (rows:List (List D)) (l:Int),Z1z rows l=Q7q rows l rows.length:=fun rows l=>by simp [Q7q,Z1z]
      rw [e]
      exact X1c H t _ x _ _ ho (hT _ _ hti) hk (hT _ _ (by assumption)) (by assumption) (.inr ⟨_,_,rfl,by assumption⟩) (.inl ⟨rfl,rfl⟩) hok.1 hok.2.1 hok.2.2 (Int.le_refl _) _
     ·exact X7t H t e x _ ho (hT _ _ hti) hk (hT _ _ (by assumption)) (by assumption) (by assumption) hok.1 hok.2.1 hok.2.2 _
     ·exact X1c H t e x _ _ ho (hT _ _ hti) hk (hT _ _ (by assumption)) (by assumption) (.inr ⟨_,_,rfl,by assumption⟩) (.inr ⟨_,_,rfl,by assumption⟩) hok.1 hok.2.1 hok.2.2.1 hok.2.2.2 _
    ·cases h
 case call cl=>
  obtain ⟨callee,args,ts⟩:=cl
  cases callee with
  | builtin b=>
   simp only at h
   obtain ⟨args⟩:=args
   obtain ⟨ts⟩:=ts
   unfold Z1s at h
   split at h
   ·rename_i x t h1 h2
    simp only at h1 h2
    subst h1
    subst h2
    unfold W9t at h
    repeat' split at h
    all_goals cases h
    ·exact Y3q H t _ x ho (hT _ _ (by assumption)) (by assumption) (by assumption) _
    ·exact X54 H t x ho (hT _ _ (by assumption)) (by assumption) (by assumption) _
   ·rename_i x y t t' h1 h2
    simp only at h1 h2
    subst h1
    subst h2
    unfold Z6m at h
    repeat' split at h
    all_goals cases h
    ·exact X1e H hn hM _ _ _ x y ho (hT _ _ (by assumption)) (by assumption) (hT _ _ (by assumption)) (by assumption) (hT _ _ (by assumption)) (by assumption) (by assumption) hok.1 hok.2.1 hok.2.2 _
    ·obtain ⟨rfl,k0,kq,kl⟩:=hok
     exact X56 H hn hM _ _ x y ho (hT _ _ (by assumption)) (by assumption) (hT _ _ (by assumption)) k0 (by assumption) (V5l (P:=P) H k0 (by assumption) kq) kl _
    ·obtain ⟨rfl,k0,kq,k1,k2,k3,k4,kl⟩:=hok
     exact X81 H hn hM _ _ x y ho (hT _ _ (by assumption)) (by assumption) (hT _ _ (by assumption)) k0 (by assumption) (by assumption) k1 k2 k3 k4 (V5l (P:=P) H k0 (by assumption) kq) kl _
   ·rename_i h1
    simp only at h1
    subst h1
    unfold Q9s at h
    split at h
    all_goals cases h
    subst hok
    simp only [U2,if_false]
    exact Y3o H _ _ _ ho (by assumption) (by assumption) _
   ·rename_i h1
    simp only at h1
    subst h1
    unfold Q9s at h
    split at h
    all_goals cases h
    subst hok
    simp only [if_true]
    exact Y3p H _ _ _ ho (by assumption) (by assumption) _
   ·rename_i x t h1 h2
    simp only at h1 h2
    subst h1
    subst h2
    unfold X1i at h
    repeat' split at h
    all_goals cases h
    exact V4j H _ t _ x ho rfl rfl rfl (hT _ _ (by assumption)) (by assumption) (hT _ _ (by assumption)) (by assumption) (by assumption) hok.1 hok.2.1 hok.2.2.1 hok.2.2.2.1 hok.2.2.2.2 _
   ·rename_i x t h1 h2
    simp only at h1 h2
    subst h1
    subst h2
    unfold W9x at h
    repeat' split at h
    all_goals cases h
    exact W9q H _ t _ x ho rfl rfl rfl (hT _ _ (by assumption)) (by assumption) (by assumption) _
   ·cases h
  | value f=>simp at h
  | invoke f g=>simp at h
def noM:Nat→Option (Option Nat):=fun _=>none
def Free (d:D):Prop:=∀ (M:Nat→Option (Option Nat)) (fr:Nat→Nat) (w:World) (v:Value),Rep ⟨M,fr,w⟩ d v→Rep ⟨noM,fr,w⟩ d v
def D.le (d d':D):Prop:=∀ (c:Cx) (v:Value),Rep c d v→Rep c d' v
def X5m (c:Cx)(ds:List D)(vs:Array Value):Prop:=vs.size=ds.length∧∀ (i:Nat) (d:D) (v:Value),ds[i]?=some d→vs[i]?=some v→Rep c d v
def Q7 (P:Program)(f:FuncId)(args:List D)(Q:D→Prop):Prop:=
 (∃ fn, P.funcs[f]? = some fn ∧ (fn.name == "runtime.NumGoroutine") = false ∧ fn.body.isNone = false) ∧ ∀ (fr : Nat → Nat) (w : World) (vs : Array Value), X5m ⟨noM, fr, w⟩ args vs → Calls P f vs w fun e w' => ∃ (v : Value) (fr' : Nat → Nat) (r : D), e = .returned v ∧ Q r ∧ Rep ⟨noM, fr', w'⟩ r v ∧
  w'.os=w.os∧w'.tape=w.tape∧w'.output=w.output∧w.heap.size≤w'.heap.size∧∀ b,b<w.heap.size→w'.heap[b]?=w.heap[b]?∧fr' b=fr b
inductive View:(Nat→Option Loc)→D→D→(Nat→Option Loc)→Prop
 | same (h:Nat→Option Loc) (d:D):View h d d h
 | sl (h:Nat→Option Loc) (sz k n:Nat) (L:Loc) (hk:h k=some L) (hs:L.sz=sz) (hn:L.rows.length=n) (hf:∀ row∈L.rows,∀ d∈row,Free d) :
   View h (.sl sz k n) (.slice sz L.rows) (updL h k (some ⟨L.sz,L.rows,L.rows.length * L.sz,L.el⟩))
 | agg (h h':Nat→Option Loc) (ds:List D) (i:Nat) (d d':D) (hi:ds[i]?=some d) (hv:View h d d' h'):View h (.agg ds) (.agg (ds.set i d')) h'
 | ptr (h:Nat→Option Loc) (sz k i j:Nat) (L:Loc) (row:List D) (hk:h k=some L) (hs:L.sz=sz) (hr:L.rows[i]?=some row) (hf:∀ d∈row,Free d) :
   View h (.ptr sz k i j) (.cptr (row.drop j)) (updL h k (some ⟨L.sz,L.rows,L.rows.length * L.sz,L.el⟩))
 | clos (h h':Nat→Option Loc) (f:FuncId) (ds:List D) (i:Nat) (d d':D) (hi:ds[i]?=some d) (hv:View h d d' h'):View h (.clos f ds) (.clos f (ds.set i d')) h'
 | trans (h h' h'':Nat→Option Loc) (d d' d'':D) (hv:View h d d' h') (hv':View h' d' d'' h''):View h d d'' h''
 | cell (h h1:Nat→Option Loc) (x:D) (n i j:Nat) (L:Loc) (row:List D) (d d':D) (hn:h n=some L) (hr:L.rows[i]?=some row) (hd:row[j]?=some d) (hs:0<L.sz) (hv:View h d d' h1) (hn1:h1 n=some L) :
   View h x x (updL h1 n (some ⟨L.sz,L.rows.set i (row.set j d'),L.fz,L.el⟩))
theorem V4b {d:D}(hf:Free d){c:Cx}{v:Value}(h:Rep c d v):Rep ⟨noM,c.fr,c.w⟩ d v:=hf c.M c.fr c.w v h
theorem X6r {c:Cx}{d:D}{v:Value}(h:Rep ⟨noM,c.fr,c.w⟩ d v):Rep c d v:=
 Rep.mono (c:=⟨noM,c.fr,c.w⟩) (c':=c) ⟨Nat.le_refl _,(fun _ _ h=>by cases h),fun _ _=>Nat.le_refl _,fun _ _ _ _=>rfl,fun _ cs _ f h=>⟨cs,f,h,rfl⟩⟩ h
theorem HOk.raise {β:Base}{h:Nat→Option Loc}{c:Cx}(H:HOk β h c){k:Nat}{L:Loc}(hk:h k=some L) :
  ∃ c':Cx,c'.w=c.w∧c'.M=c.M∧c.Ext c'∧HOk β (updL h k (some ⟨L.sz,L.rows,L.rows.length * L.sz,L.el⟩)) c'∧
   (∀ v,(∀ row∈L.rows,∀ d∈row,Free d)→Rep c (.sl L.sz k L.rows.length) v→Rep c' (.slice L.sz L.rows) v)∧
   (∀ v i j row,L.rows[i]?=some row→Rep c (.ptr L.sz k i j) v→Rep c' (.cptr (row.drop j)) v):=by
 cases hL:H.locs k L hk with
 | nil hM hr hf=>
  refine ⟨c,rfl,rfl,.refl c,?_,fun v _ hv=>?_,fun v i j row hr0 _=>by rw [hr] at hr0;simp at hr0⟩
  ·have:(⟨L.sz,L.rows,L.rows.length * L.sz,L.el⟩:Loc)=L:=by
    obtain ⟨s1,s2,s3,s4⟩:=L
    simp only at hr hf
    subst hr
    subst hf
    simp
   rw [this]
   have e:updL h k (some L)=h:=by funext j;simp only [W3];split;rename_i hj;subst hj;exact hk.symm;rfl
   rw [e]
   exact H
  ·rcases Z0y hv with ⟨h1,_,a,rfl⟩ | ⟨b,cap,cs,e,fz,rfl,hM2,_⟩
   ·rw [hr];exact .slice0 _ a 0
   ·rw [hM] at hM2;cases hM2
 | map b clock es hM hb hfr hsz hfz _ _=>
  refine ⟨c,rfl,rfl,.refl c,?_,fun v _ hv=>?_,fun v i j row hr0 hv=>?_⟩
  ·have:(⟨L.sz,L.rows,L.rows.length * L.sz,L.el⟩:Loc)=L:=by
    obtain ⟨s1,s2,s3,s4⟩:=L
    simp only at hsz hfz
    subst hsz
    subst hfz
    simp
   rw [this]
   have e:updL h k (some L)=h:=by funext j;simp only [W3];split;rename_i hj;subst hj;exact hk.symm;rfl
   rw [e]
   exact H
  ·rcases Z0y hv with ⟨h1,hM2,a,rfl⟩ | ⟨b2,cap,cs2,e,fz,rfl,hM2,hcap,hb2,_⟩
   ·rw [hM] at hM2;cases hM2
   ·rw [hM] at hM2;cases hM2;rw [hb] at hb2;cases hb2
  ·obtain ⟨_,_,_,h0⟩:=Z19 hv
   omega
 | own b cs f hM hb hfr hlen hfz hlim hrow hcell hpos=>
  have hbm:=H.mine k b (by simp [hk]) hM
  have hx:c.Ext ⟨c.M,fun x=>if x=b then L.rows.length * L.sz else c.fr x,c.w⟩:=by
   refine ⟨Nat.le_refl _,fun _ _ h=>h,fun x _=>?_,fun _ _ _ _=>rfl,fun _ cs _ f h=>⟨cs,f,h,rfl⟩⟩
   by_cases hxb:x=b
   ·subst hxb;simp only [if_true];omega
   ·simp [hxb]
  refine ⟨⟨c.M,fun x=>if x=b then L.rows.length * L.sz else c.fr x,c.w⟩,rfl,rfl,hx,⟨H.ext.trans hx,H.os,H.tape,H.output,H.size,fun x hx1 hm=>?_,fun k2 L2 hk2=>?_,fun k1 k2 x h1 h2 e1 e2=>?_,fun k2 x h1 e1=>?_⟩,fun v hfree hv=>?_,fun v i j row hr hv=>?_⟩
  ·have hxb:x≠b:=fun e=>by
    subst e
    rcases hbm with h1 | h1
    ·omega
    ·exact hm h1
   refine ⟨(H.old x hx1 hm).1,?_⟩
   simp only [hxb,if_false]
   exact (H.old x hx1 hm).2
  ·simp only [W3] at hk2
   split at hk2
   ·rename_i hkk
    cases hk2
    subst hkk
    exact .own (hpos:=hpos) b cs f hM hb (by simp) hlen (Nat.le_refl _) hlim hrow fun i j row d hi hj=>⟨(hcell i j row d hi hj).1,(hcell i j row d hi hj).2.1.mono hx,(hcell i j row d hi hj).2.2⟩
   ·rename_i hkk
    refine (H.locs k2 L2 hk2).mono hx fun x hx2=>⟨rfl,?_⟩
    have:x≠b:=fun e=>hkk (H.inj k2 k b (by simp [hk2]) (by simp [hk]) (e▸hx2) hM)
    simp [this]
  ·have is:∀ q,(updL h k (some ⟨L.sz,L.rows,L.rows.length * L.sz,L.el⟩) q).isSome=true→(h q).isSome=true:=fun q hq=>by
    simp only [W3] at hq
    split at hq
    ·rename_i hqk;subst hqk;simp [hk]
    ·exact hq
   exact H.inj k1 k2 x (is _ h1) (is _ h2) e1 e2
  ·refine H.mine k2 x ?_ e1
   simp only [W3] at h1
   split at h1
   ·rename_i hqk;subst hqk;simp [hk]
   ·exact h1
  ·rcases Z0y hv with ⟨h1,hM2,a,rfl⟩ | ⟨b2,cap,cs2,e,fz,rfl,hM2,hcap,hb2,hsz⟩
   ·rw [hM] at hM2;cases hM2
   ·rw [hM] at hM2
    cases hM2
    refine .slice _ _ b 0 cap f hcap hlim hrow (fun i j row d hi hj=>?_) fun i j row d hi hj=>(hcell i j row d hi hj).2.1.mono hx
    have hil:=(List.getElem?_eq_some_iff.1 hi).1
    have hrl:=hrow row (U1 hi)
    have hjl:j<L.sz:=by have:=(List.getElem?_eq_some_iff.1 hj).1;omega
    have:=Nat.mul_le_mul_right L.sz (show i+1≤L.rows.length from hil)
    rw [Nat.add_mul,Nat.one_mul] at this
    refine ⟨?_,by simp only [if_true];omega,(hcell i j row d hi hj).2.2⟩
    have h1:=(hcell i j row d hi hj).1
    simp only [World.cell?,hb]
    simpa using h1
  ·obtain ⟨b2,hM2,rfl,_⟩:=Z19 hv
   rw [hM] at hM2
   cases hM2
   refine .cptr _ b (i * L.sz+j) (fun q=>f i (j+q)) (fun q d hq=>?_) fun q d hq=>?_
   ·rw [List.getElem?_drop] at hq
    obtain ⟨g1,g2,g3⟩:=hcell i (j+q) row d hr hq
    have hil:=(List.getElem?_eq_some_iff.1 hr).1
    have hrl:=hrow row (U1 hr)
    have hjl:j+q<L.sz:=by have:=(List.getElem?_eq_some_iff.1 hq).1;omega
    have:=Nat.mul_le_mul_right L.sz (show i+1≤L.rows.length from hil)
    rw [Nat.add_mul,Nat.one_mul] at this
    refine ⟨?_,by simp only [if_true];omega⟩
    simp only [World.cell?,hb]
    rw [Nat.add_assoc]
    simpa using g1
   ·rw [List.getElem?_drop] at hq
    exact (hcell i (j+q) row d hr hq).2.1.mono hx
theorem View.sound {h h':Nat→Option Loc}{d d':D}(hv:View h d d' h'):∀ {β:Base} {c:Cx} {v:Value},HOk β h c→Rep c d v→
  ∃ c':Cx,c'.w=c.w∧c'.M=c.M∧c.Ext c'∧HOk β h' c'∧Rep c' d' v:=by
 induction hv with
 | same h d=>exact fun {β c v} H hr=>⟨c,rfl,rfl,.refl c,H,hr⟩
 | sl h sz k n L hk hs hn hf=>
  intro β c v H hr
  subst hs
  subst hn
  obtain ⟨c1,h1,h2,h3,h4,h5,_⟩:=H.raise hk
  exact ⟨c1,h1,h2,h3,h4,h5 v hf hr⟩
 | ptr h sz k i j L row hk hs hr0 hf=>
  intro β c v H hr
  subst hs
  obtain ⟨c1,h1,h2,h3,h4,_,h6⟩:=H.raise hk
  exact ⟨c1,h1,h2,h3,h4,h6 v i j row hr0 hr⟩
 | clos h h' f ds i d d' hi hv ih=>
  intro β c v H hr
  cases hr with
  | clos f ds vs hlen hh=>
   have hlt:=(List.getElem?_eq_some_iff.1 hi).1
   have hvi:vs[i]?=some vs[i]:=by rw [Array.getElem?_eq_getElem]
   obtain ⟨c1,h1,h2,h3,h4,h5⟩:=ih H (hh i d _ hi hvi)
   refine ⟨c1,h1,h2,h3,h4,.clos _ _ _ (by simpa using hlen) fun j e u hj hu=>?_⟩
   by_cases hji:j=i
   ·subst hji
    rw [List.getElem?_set_self hlt] at hj
    cases hj
    rw [hvi] at hu
    cases hu
    exact h5
   ·rw [List.getElem?_set_ne (by omega)] at hj
    exact (hh j e u hj hu).mono h3
 | agg h h' ds i d d' hi hv ih=>
  intro β c v H hr
  cases hr with
  | agg ds vs hlen hh=>
   have hlt:=(List.getElem?_eq_some_iff.1 hi).1
   have hvi:vs[i]?=some vs[i]:=by rw [Array.getElem?_eq_getElem]
   obtain ⟨c1,h1,h2,h3,h4,h5⟩:=ih H (hh i d _ hi hvi)
   refine ⟨c1,h1,h2,h3,h4,.agg _ _ (by simpa using hlen) fun j e u hj hu=>?_⟩
   by_cases hji:j=i
   ·subst hji
    rw [List.getElem?_set_self hlt] at hj
    cases hj
    rw [hvi] at hu
    cases hu
    exact h5
   ·rw [List.getElem?_set_ne (by omega)] at hj
    exact (hh j e u hj hu).mono h3
 | trans h h' h'' d d' d'' _ _ ih1 ih2=>
  intro β c v H hr
  obtain ⟨c1,h1,h2,h3,h4,h5⟩:=ih1 H hr
  obtain ⟨c2,g1,g2,g3,g4,g5⟩:=ih2 h4 h5
  exact ⟨c2,g1.trans h1,g2.trans h2,h3.trans g3,g4,g5⟩
 | cell h h1 x n i j L row d d' hn hr hd hs hv hn1 ih=>
  intro β c v H hx
  cases H.locs n L hn with
  | nil hM hrr hf=>rw [hrr] at hr;simp at hr
  | map b clock es hM hb hfr hsz hfz hlen hrow=>omega
  | own b cs f hM hb hfr hlen hfz hlim hrow hcell hpos=>
   obtain ⟨e1,r1,_⟩:=hcell i j row d hr hd
   obtain ⟨c1,w1,m1,x1,H1,r2⟩:=ih H r1
   refine ⟨c1,w1,m1,x1,?_,hx.mono x1⟩
   cases H1.locs n L hn1 with
   | nil hM' hrr hf'=>rw [hrr] at hr;simp at hr
   | map b' clock es hM' hb' hfr' hsz hfz' hlen' hrow'=>omega
   | own b' cs' f' hM' hb' hfr' hlen' hfz' hlim' hrow' hcell' hpos'=>
    have eb:b'=b:=by
     rw [m1,hM] at hM'
     cases hM'
     rfl
    subst eb
    have ec:cs'=cs:=by
     rw [w1,hb] at hb'
     cases hb'
     rfl
    subst ec
    have ef:f' i j=f i j:=by
     have:=(hcell' i j row d hr hd).1
     rw [e1] at this
     exact (Option.some.inj this).symm
    have is:∀ q,(updL h1 n (some ⟨L.sz,L.rows.set i (row.set j d'),L.fz,L.el⟩) q).isSome=true→(h1 q).isSome=true:=fun q hq=>by
     simp only [W3] at hq
     split at hq
     ·rename_i e;subst e;simp [hn1]
     ·exact hq
    refine ⟨H1.ext,H1.os,H1.tape,H1.output,H1.size,H1.old,fun k2 L2 hk2=>?_,fun k1 k2 y g1 g2 e1 e2=>H1.inj k1 k2 y (is _ g1) (is _ g2) e1 e2,fun k2 y g1 e1=>H1.mine k2 y (is _ g1) e1⟩
    simp only [W3] at hk2
    split at hk2
    ·rename_i e
     cases hk2
     subst e
     have hil:=(List.getElem?_eq_some_iff.1 hr).1
     have hjl:=(List.getElem?_eq_some_iff.1 hd).1
     refine .own (hpos:=hpos') b' cs' f' hM' hb' hfr' (by simpa using hlen') (by simpa using hfz') (by simpa using hlim') (fun row2 h2=>?_) fun i2 j2 row2 d2 hi2 hj2=>?_
     ·rcases List.mem_or_eq_of_mem_set h2 with h2 | rfl
      ·exact hrow' row2 h2
      ·simpa using hrow' row (U1 hr)
     ·by_cases hi:i=i2
      ·subst hi
       simp only at hi2
       rw [List.getElem?_set_self hil] at hi2
       cases hi2
       by_cases hj:j=j2
       ·subst hj
        rw [List.getElem?_set_self hjl] at hj2
        cases hj2
        obtain ⟨q1,_,q3⟩:=hcell' i j row d hr hd
        exact ⟨q1,by rw [ef];exact r2,q3⟩
       ·rw [List.getElem?_set_ne hj] at hj2
        exact hcell' i j2 row d2 hr hj2
      ·simp only at hi2
       rw [List.getElem?_set_ne hi] at hi2
       exact hcell' i2 j2 row2 d2 hi2 hj2
    ·exact H1.locs k2 L2 hk2
theorem View.none {h h':Nat→Option Loc}{d d':D}(hv:View h d d' h'):∀ k,h k=none→h' k=none:=by
 induction hv with
 | same=>exact fun _ h=>h
 | sl h sz k n L hk hs hn hf=>
  intro q hq
  have:q≠k:=fun e=>by subst e;rw [hk] at hq;cases hq
  simp [this,hq]
 | ptr h sz k i j L row hk hs hr hf=>
  intro q hq
  have:q≠k:=fun e=>by subst e;rw [hk] at hq;cases hq
  simp [this,hq]
 | agg _ _ _ _ _ _ _ _ ih=>exact ih
 | clos _ _ _ _ _ _ _ _ _ ih=>exact ih
 | trans _ _ _ _ _ _ _ _ ih1 ih2=>exact fun k hk=>ih2 k (ih1 k hk)
 | cell h h1 x n i j L row d d' hn hr hd hs hv hn1 ih=>
  intro q hq
  have:q≠n:=fun e=>by subst e;rw [hn] at hq;cases hq
  simp [this,ih q hq]
inductive Q7y:(Nat→Option Loc)→List D→List D→(Nat→Option Loc)→Prop
 | nil (h:Nat→Option Loc):Q7y h [] [] h
 | cons {h h1 h':Nat→Option Loc} {d d':D} {l l':List D} (hv:View h d d' h1) (ht:Q7y h1 l l' h'):Q7y h (d::l) (d'::l') h'
theorem Z6x {c c':Cx}(hx:c.Ext c'):∀ (l:List D) (vs:List Value),All2 (Rep c) l vs→All2 (Rep c') l vs
 | [],_,h=>by cases h;exact .nil
 | _::l,_,h=>by cases h with | cons h t=>exact .cons (h.mono hx) (Z6x hx l _ t)
theorem Q7y.sound {β:Base} : ∀ (ds ds':List D) (h h':Nat→Option Loc) (c:Cx) (vs:List Value),Q7y h ds ds' h'→HOk β h c→All2 (Rep c) ds vs→
  ∃ c':Cx,c'.w=c.w∧c'.M=c.M∧c.Ext c'∧HOk β h' c'∧All2 (Rep c') ds' vs
 | [],_,h,h',c,vs,hv,H,hr=>by
  cases hv
  cases hr
  exact ⟨c,rfl,rfl,.refl c,H,.nil⟩
 | d::ds,_,h,h',c,vs,hv,H,hr=>by
  cases hv with
  | cons hv ht=>
   cases hr with
   | cons hr hrs=>
    obtain ⟨c1,e1,e2,x1,H1,r1⟩:=hv.sound H hr
    obtain ⟨c2,f1,f2,x2,H2,r2⟩:=Q7y.sound ds _ _ h' c1 _ ht H1 (Z6x x1 _ _ hrs)
    exact ⟨c2,f1.trans e1,f2.trans e2,x1.trans x2,H2,.cons (r1.mono x2) r2⟩
def V9i (P:Program)(σ:St)(f:FuncId)(args:List D)(K:(Nat→Option Loc)→D→Prop):Prop:=
 ∃ (args1 args':List D) (h':Nat→Option Loc) (Q:D→Prop),Q7 P f args' Q∧Q7y σ.h args args1 h'∧All2 D.le args1 args'∧(∀ d∈args',Free d)∧∀ r,Q r→K h' r
theorem Z48 {c:Cx} : ∀ (ds:List D) (vs:List Value),All2 (Rep c) ds vs→X5m c ds vs.toArray
 | [],_,h=>by cases h;exact ⟨rfl,fun i d v hd=>by simp at hd⟩
 | d::ds,_,h=>by
  cases h with
  | cons h t=>
   obtain ⟨h1,h2⟩:=Z48 ds _ t
   refine ⟨by simpa using h1,fun i d' v' hd hv=>?_⟩
   cases i with
   | zero=>simp at hd hv;subst hd;subst hv;exact h
   | succ i=>exact h2 i d' v' (by simpa using hd) (by simpa using hv)
theorem X5h (c:Cx):∀ (l l':List D) (vs:List Value),All2 D.le l l'→(∀ d∈l',Free d)→All2 (Rep c) l vs→All2 (Rep ⟨noM,c.fr,c.w⟩) l' vs
 | [],_,_,h,_,hr=>by cases h;cases hr;exact .nil
 | d::l,_,_,h,hf,hr=>by
  cases h with
  | cons h ht=>
   cases hr with
   | cons hr hrt=>exact .cons (V4b (hf _ (by simp)) (h _ _ hr)) (X5h c l _ _ ht (fun d hd=>hf d (by simp [hd])) hrt)
theorem HOk.grown {β:Base}{h:Nat→Option Loc}{c:Cx}(H:HOk β h c){w':World}{fr':Nat→Nat}(ho:w'.os=c.w.os)(ht:w'.tape=c.w.tape)(hu:w'.output=c.w.output)
  (hsz:c.w.heap.size≤w'.heap.size) (hold:∀ b,b<c.w.heap.size→w'.heap[b]?=c.w.heap[b]?∧fr' b=c.fr b):c.Ext ⟨c.M,fr',w'⟩∧HOk β h ⟨c.M,fr',w'⟩:=by
 have hx:c.Ext ⟨c.M,fr',w'⟩:=by
  refine ⟨hsz,fun _ _ h=>h,fun b hb=>by simp [(hold b hb).2],fun b o hb _=>by simp only [World.cell?,(hold b hb).1],fun b cs e f hb=>?_⟩
  have hlt:=(Array.getElem?_eq_some_iff.1 hb).1
  exact ⟨cs,f,(hold b hlt).1.trans hb,rfl⟩
 refine ⟨hx,⟨H.ext.trans hx,ho.trans H.os,ht.trans H.tape,hu.trans H.output,Nat.le_trans H.size hsz,fun b hb hm=>?_,fun k L hk=>(H.locs k L hk).mono hx fun b hb=>?_,H.inj,H.mine⟩⟩
 ·have hlt:=Nat.lt_of_lt_of_le hb H.size
  exact ⟨(hold b hlt).1.trans (H.old b hb hm).1,(hold b hlt).2.trans (H.old b hb hm).2⟩
 ·exact hold b ((H.locs k L hk).lt hb)
theorem Q7y.none {h h':Nat→Option Loc}{l l':List D}(hv:Q7y h l l' h'):∀ k,h k=none→h' k=none:=by
 induction hv with
 | nil=>exact fun _ h=>h
 | cons hv _ ih=>exact fun k hk=>ih k (hv.none k hk)
theorem V4y {P:Program}{β:Base}{σ:St}{c:Cx}{f:FuncId}{args:List D}{vs:List Value}{K:(Nat→Option Loc)→D→Prop}(H:HOk β σ.h c)
  (hr:All2 (Rep c) args vs) (h:V9i P σ f args K) :
  Calls P f vs.toArray c.w fun e w'=>∃ (v:Value) (c':Cx) (h':Nat→Option Loc) (r:D),e=.returned v∧c'.w=w'∧c'.M=c.M∧c.Ext c'∧HOk β h' c'∧Rep c' r v∧(∀ k,σ.h k=none→h' k=none)∧K h' r:=by
 obtain ⟨args1,args',h',Q,hc,hv,hle,hfree,hK⟩:=h
 obtain ⟨c1,e1,e2,x1,H1,r1⟩:=Q7y.sound _ _ _ _ _ _ hv H hr
 have r2:All2 (Rep ⟨noM,c1.fr,c1.w⟩) args' vs:=X5h c1 args1 args' vs hle hfree r1
 have hcall:=hc.2 c1.fr c1.w vs.toArray (Z48 _ _ r2)
 rw [e1] at hcall
 refine hcall.mono fun e w' hp=>?_
 obtain ⟨v,fr',r,he,hq,hrep,ho,ht,hu,hsz,hold⟩:=hp
 obtain ⟨x2,H2⟩:=H1.grown (w':=w') (fr':=fr') (by rw [e1];exact ho) (by rw [e1];exact ht) (by rw [e1];exact hu) (by rw [e1];exact hsz) (by rw [e1];exact hold)
 exact ⟨v,⟨c1.M,fr',w'⟩,h',r,he,rfl,e2,x1.trans x2,H2,X6r (c:=⟨c1.M,fr',w'⟩) hrep,hv.none,hK r hq⟩
def D.isVal:D→Bool
 | .val _=>true
 | _=>false
def D.scalar:D→Bool
 | .val _=>true
 | .tup ds=>ds.all D.isVal
 | _=>false
theorem W7e {c c':Cx}{d:D}{v:Value}(hs:d.isVal=true)(h:Rep c d v):Rep c' d v:=by
 cases d<;>simp only [D.isVal] at hs<;>(try (cases hs;done))
 rw [W1 h];exact .val _
theorem W3o {c c':Cx}{d:D}{v:Value}(hs:d.scalar=true)(h:Rep c d v):Rep c' d v:=by
 cases d<;>simp only [D.scalar] at hs<;>(try (cases hs;done))
 ·rw [W1 h];exact .val _
 ·cases h with
  | tup ds vs hlen hh=>exact .tup _ _ hlen fun i d v hd hv=>W7e (List.all_eq_true.1 hs d (U1 hd)) (hh i d v hd hv)
def V9j (P:Program)(σ:St)(f:FuncId)(args:List D)(K:(Nat→Option Loc)→D→Prop):Prop:=
 ∃ (args1 args':List D) (h':Nat→Option Loc) (Q:D→Prop),Q7 P f args' Q∧Q7y σ.h args args1 h'∧All2 D.le args1 args'∧(∀ d∈args',Free d)∧∀ r,Q r→r.scalar=true∧K σ.h r
theorem V51 {P:Program}{β:Base}{σ:St}{c:Cx}{f:FuncId}{args:List D}{vs:List Value}{K:(Nat→Option Loc)→D→Prop}(H:HOk β σ.h c)
  (hr:All2 (Rep c) args vs) (h:V9j P σ f args K) :
  Calls P f vs.toArray c.w fun e w'=>∃ (v:Value) (c':Cx) (h':Nat→Option Loc) (r:D),e=.returned v∧c'.w=w'∧c'.M=c.M∧c.Ext c'∧HOk β h' c'∧Rep c' r v∧(∀ k,σ.h k=none→h' k=none)∧K h' r:=by
 obtain ⟨args1,args',h',Q,hc,hv,hle,hfree,hK⟩:=h
 obtain ⟨c1,e1,e2,x1,H1,r1⟩:=Q7y.sound _ _ _ _ _ _ hv H hr
 have r2:All2 (Rep ⟨noM,c1.fr,c1.w⟩) args' vs:=X5h c1 args1 args' vs hle hfree r1
 have hcall:=hc.2 c1.fr c1.w vs.toArray (Z48 _ _ r2)
 rw [e1] at hcall
 refine hcall.mono fun e w' hp=>?_
 obtain ⟨v,fr',r,he,hq,hrep,ho,ht,hu,hsz,hold⟩:=hp
 obtain ⟨x2,H2⟩:=H.grown (w':=w') (fr':=c.fr) ho ht hu hsz (fun b hb=>⟨(hold b hb).1,rfl⟩)
 obtain ⟨hs,hk⟩:=hK r hq
 exact ⟨v,⟨c.M,c.fr,w'⟩,σ.h,r,he,rfl,rfl,x2,H2,W3o hs hrep,fun _ h=>h,hk⟩
inductive Ren (ρ:Nat→Option Nat):D→D→Prop
 | any (d:D):Ren ρ d .any
 | free (d d':D) (hf:Free d) (hle:d.le d'):Ren ρ d d'
 | ptr (sz k k' i j:Nat) (h:ρ k'=some k):Ren ρ (.ptr sz k i j) (.ptr sz k' i j)
 | sl (sz k k' n:Nat) (h:ρ k'=some k):Ren ρ (.sl sz k n) (.sl sz k' n)
 | agg (ds ds':List D) (hl:ds'.length=ds.length) (h:∀ (i:Nat) (d d':D),ds[i]?=some d→ds'[i]?=some d'→Ren ρ d d'):Ren ρ (.agg ds) (.agg ds')
 | mp (k k':Nat) (h:ρ k'=some k):Ren ρ (.mp k) (.mp k')
 | clos (f:FuncId) (ds ds':List D) (hl:ds'.length=ds.length) (h:∀ (i:Nat) (d d':D),ds[i]?=some d→ds'[i]?=some d'→Ren ρ d d'):Ren ρ (.clos f ds) (.clos f ds')
 | tup (ds ds':List D) (hl:ds'.length=ds.length) (h:∀ (i:Nat) (d d':D),ds[i]?=some d→ds'[i]?=some d'→Ren ρ d d'):Ren ρ (.tup ds) (.tup ds')
theorem Ren.rep {ρ:Nat→Option Nat}{M M':Nat→Option (Option Nat)}(hM:∀ k' k,ρ k'=some k→M' k'=M k){fr:Nat→Nat}{w:World}{d d':D}(h:Ren ρ d d') :
  ∀ {v:Value},Rep ⟨M,fr,w⟩ d v→Rep ⟨M',fr,w⟩ d' v:=by
 induction h with
 | any=>exact fun _=>.any _
 | free d d' hf hle=>exact fun hr=>hle _ _ (X6r (c:=⟨M',fr,w⟩) (hf M fr w _ hr))
 | ptr sz k k' i j h=>
  intro v hr
  obtain ⟨b,hb,rfl,hsz⟩:=Z19 hr
  exact .ptr _ _ _ _ b (by have:=hM _ _ h;simp only at hb ⊢;rw [this];exact hb) hsz
 | mp k k' h=>
  intro v hr
  cases hr with
  | mp _ b hb=>exact .mp _ b (by have:=hM _ _ h;simp only at hb ⊢;rw [this];exact hb)
 | sl sz k k' n h=>
  intro v hr
  have hm:=hM _ _ h
  rcases Z0y hr with ⟨rfl,h1,a,rfl⟩ | ⟨b,cap,cs,e,fz,rfl,h1,h2,h3,h4⟩
  ·exact .sl0 _ _ a (by simp only at h1 ⊢;rw [hm];exact h1)
  ·exact .sl _ _ _ b cap cs e fz (by simp only at h1 ⊢;rw [hm];exact h1) h2 h3 h4
 | agg ds ds' hl _ ih=>
  intro v hr
  cases hr with
  | agg _ vs hlen hh=>
   refine .agg _ _ (by omega) fun i d' u hd hu=>?_
   have hlt:i<ds.length:=by have:=(List.getElem?_eq_some_iff.1 hd).1;omega
   have hd0:ds[i]?=some ds[i]:=by simp [hlt]
   exact ih i _ d' hd0 hd (hh i _ u hd0 hu)
 | clos f ds ds' hl _ ih=>
  intro v hr
  cases hr with
  | clos _ _ vs hlen hh=>
   refine .clos _ _ _ (by omega) fun i d' u hd hu=>?_
   have hlt:i<ds.length:=by have:=(List.getElem?_eq_some_iff.1 hd).1;omega
   have hd0:ds[i]?=some ds[i]:=by simp [hlt]
   exact ih i _ d' hd0 hd (hh i _ u hd0 hu)
 | tup ds ds' hl _ ih=>
  intro v hr
  cases hr with
  | tup _ vs hlen hh=>
   refine .tup _ _ (by omega) fun i d' u hd hu=>?_
   have hlt:i<ds.length:=by have:=(List.getElem?_eq_some_iff.1 hd).1;omega
   have hd0:ds[i]?=some ds[i]:=by simp [hlt]
   exact ih i _ d' hd0 hd (hh i _ u hd0 hu)
def Z5h (ρ:Nat→Option Nat)(rows rows':List (List D)):Prop:=
 rows'.length=rows.length∧∀ (i:Nat) (row row':List D),rows[i]?=some row→rows'[i]?=some row'→row'.length=row.length∧∀ (j:Nat) (d d':D),row[j]?=some d→row'[j]?=some d'→Ren ρ d d'
def Q8p (σ:St)(l:List Nat)(q:Nat)(L':Loc):Prop:=∃ L,σ.h q=some L∧L'.sz=L.sz∧L'.el=L.el∧L'.fz=L.fz∧Z5h (fun k=>l[k]?) L.rows L'.rows
theorem Z62:∀ {l:List Nat},l.Nodup→∀ {i j q:Nat},l[i]?=some q→l[j]?=some q→i=j
 | [],_,i,j,q,hi,_=>by simp at hi
 | x::l,h,i,j,q,hi,hj=>by
  rw [List.nodup_cons] at h
  cases i with
  | zero=>
   cases j with
   | zero=>rfl
   | succ j=>
    simp at hi hj
    subst hi
    exact absurd (U1 hj) h.1
  | succ i=>
   cases j with
   | zero=>
    simp at hi hj
    subst hj
    exact absurd (U1 hi) h.1
   | succ j=>
    simp at hi hj
    rw [Z62 h.2 hi hj]
theorem Z5i.ren {ρ:Nat→Option Nat}{M':Nat→Option (Option Nat)}{c:Cx}{k q:Nat}{L L':Loc}(hM:∀ k' k,ρ k'=some k→M' k'=c.M k)(hm:M' k=c.M q)(h:Z5i c q L)
  (h3:L'.sz=L.sz) (h4:L'.el=L.el) (h5:L'.fz=L.fz) (h6:Z5h ρ L.rows L'.rows):Z5i ⟨M',c.fr,c.w⟩ k L':=by
 obtain ⟨hlen,h7⟩:=h6
 have rep:∀ {d d':D} {v:Value},Ren ρ d d'→Rep c d v→Rep ⟨M',c.fr,c.w⟩ d' v:=fun h hv=>h.rep (M:=c.M) hM hv
 cases h with
 | nil hM0 hr0 hf0=>exact .nil (hm.trans hM0) (List.eq_nil_of_length_eq_zero (by rw [hlen,hr0];rfl)) (h5.trans hf0)
 | map b clock es hM0 hb hfr hsz hfz hlen0 hrow=>
  refine .map b clock es (hm.trans hM0) hb hfr (by rw [h3];exact hsz) (by rw [h5];exact hfz) (by rw [hlen];exact hlen0) fun i row' e hi he=>?_
  have hlt:i<L.rows.length:=by have:=(List.getElem?_eq_some_iff.1 hi).1;omega
  have h0:L.rows[i]?=some L.rows[i]:=by simp [hlt]
  obtain ⟨g1,g2⟩:=h7 i _ row' h0 hi
  obtain ⟨dk,dv,hr0,r1,r2⟩:=hrow i _ e h0 he
  rw [hr0] at g1 g2
  match row',g1,g2 with
  | [dk',dv'],_,g2=>exact ⟨dk',dv',rfl,rep (g2 0 _ _ rfl rfl) r1,rep (g2 1 _ _ rfl rfl) r2⟩
 | own b cs f hM0 hb hfr hlen0 hfz hlim hrow hcell hpos=>
  refine .own (hpos:=by rw [h3];exact hpos) b cs f (hm.trans hM0) (by rw [h4];exact hb) (by rw [h5];exact hfr) (by rw [hlen,h3];exact hlen0) (by rw [h5,hlen,h3];exact hfz) (by rw [hlen];exact hlim) (fun row' hrow'=>?_) fun i j row' d' hi hj=>?_
  ·obtain ⟨i,hi⟩:=List.mem_iff_getElem?.1 hrow'
   have hlt:i<L.rows.length:=by have:=(List.getElem?_eq_some_iff.1 hi).1;omega
   have h0:L.rows[i]?=some L.rows[i]:=by simp [hlt]
   rw [(h7 i _ row' h0 hi).1,h3]
   exact hrow _ (U1 h0)
  ·have hlt:i<L.rows.length:=by have:=(List.getElem?_eq_some_iff.1 hi).1;omega
   have h0:L.rows[i]?=some L.rows[i]:=by simp [hlt]
   obtain ⟨g1,g2⟩:=h7 i _ row' h0 hi
   have hlt2:j<L.rows[i].length:=by have:=(List.getElem?_eq_some_iff.1 hj).1;omega
   have h02:L.rows[i][j]?=some L.rows[i][j]:=by simp [hlt2]
   obtain ⟨k1,k2,k3⟩:=hcell i j _ _ h0 h02
   rw [h3]
   exact ⟨k1,rep (g2 j _ d' h02 hj) k2,k3⟩
def hOfO (Hs:List (Option Loc)):Nat→Option Loc:=fun k=>(Hs[k]?).join
@[simp] theorem Z6c (Hs:List (Option Loc)) (k:Nat):hOfO Hs k=(Hs[k]?).join:=rfl
structure V6v (c:Cx) (H:List Loc):Prop where
 locs:∀ k L,H[k]?=some L→Z5i c k L
 inj:∀ k k' b,k<H.length→k'<H.length→c.M k=some (some b)→c.M k'=some (some b)→k=k'
 fresh:∀ k,H.length≤k→c.M k=none
def X0h (c:Cx)(n:Nat):Nat→Prop:=fun b=>∃ k,k<n∧c.M k=some (some b)
def Q12 (P:Program)(f:FuncId)(H:List Loc)(args:List D)(Q:List (Option Loc)→D→Prop):Prop:=
 (∃ fn, P.funcs[f]? = some fn ∧ (fn.name == "runtime.NumGoroutine") = false ∧ fn.body.isNone = false) ∧
 ∀ (c:Cx) (vs:Array Value),V6v c H→X5m c args vs→Calls P f vs c.w fun e w'=>∃ (v:Value) (c':Cx) (H':List (Option Loc)) (r:D),e=.returned v∧c'.w=w'∧Q H' r∧Rep c' r v∧
  HOk ⟨c,X0h c H.length⟩ (hOfO H') c'∧H.length≤H'.length∧∀ k,H'.length≤k→c'.M k=none
def Q26 (h:Nat→Option Loc):List Nat→List (Option Loc)→Nat→Option Loc
 | k::ks,x::xs=>Q26 (updL h k x) ks xs
 | _,_=>h
def J3 (nm:Nat):Nat→List Nat
 | 0=>[]
 | n+1=>nm::J3 (nm+1) n
inductive Z4a (ρ:Nat→Option Nat):Option Loc→Option Loc→Prop
 | none (x:Option Loc):Z4a ρ x none
 | some (L L':Loc) (h3:L'.sz=L.sz) (h4:L'.el=L.el) (h5:L'.fz=L.fz) (h6:Z5h ρ L.rows L'.rows):Z4a ρ (some L) (some L')
def J0 (l:List Nat)(k:Nat):Option Nat:=l.idxOf? k
def V6x (P:Program)(σ:St)(f:FuncId)(args:List D)(K:(Nat→Option Loc)→D→Prop):Prop:=
 ∃ (ks:List Nat) (H:List Loc) (args':List D) (Q:List (Option Loc)→D→Prop),Q12 P f H args' Q∧ks.Nodup∧All2 (Q8p σ ks) ks H∧All2 (Ren (fun i=>ks[i]?)) args args'∧
  ∀ H' r,Q H' r→H'.length≤ks.length+7∧∃ (Hs:List (Option Loc)) (r':D),All2 (Z4a (J0 (ks++J3 σ.next (H'.length-ks.length)))) H' Hs∧
   Ren (J0 (ks++J3 σ.next (H'.length-ks.length))) r r'∧K (Q26 σ.h (ks++J3 σ.next (H'.length-ks.length)) Hs) r'
theorem Z3m:∀ (n nm i:Nat),i<n→(J3 nm n)[i]?=some (nm+i)
 | 0,_,_,h=>by omega
 | n+1,nm,0,_=>rfl
 | n+1,nm,i+1,h=>by
  simp only [J3,List.getElem?_cons_succ]
  rw [Z3m n (nm+1) i (by omega)]
  congr 1
  omega
theorem Z3l:∀ (n nm:Nat),(J3 nm n).length=n
 | 0,_=>rfl
 | n+1,nm=>by simp [J3,Z3l n]
theorem Z3k {n nm k:Nat}(h:k∈J3 nm n):nm≤k∧k<nm+n:=by
 obtain ⟨i,hi⟩:=List.mem_iff_getElem?.1 h
 have hlt:=(List.getElem?_eq_some_iff.1 hi).1
 rw [Z3l] at hlt
 rw [Z3m n nm i hlt] at hi
 cases hi
 omega
theorem Z52:∀ (n nm:Nat),(J3 nm n).Nodup
 | 0,_=>.nil
 | n+1,nm=>by
  simp only [J3,List.nodup_cons]
  exact ⟨fun h=>by have:=Z3k h;omega,Z52 n (nm+1)⟩
theorem Q4s {l:List Nat}{k i:Nat}(h:J0 l k=some i):l[i]?=some k:=by
 unfold J0 at h
 rw [List.idxOf?_eq_some_iff] at h
 obtain ⟨h1,h2,_⟩:=h
 rw [U10 h1]
 simpa using h2
theorem Q5u {l:List Nat}(hn:l.Nodup){k i:Nat}(h:l[i]?=some k):J0 l k=some i:=by
 cases hb:J0 l k with
 | none=>
  unfold J0 at hb
  rw [List.idxOf?_eq_none_iff] at hb
  exact absurd (U1 h) hb
 | some j=>rw [Z62 hn (Q4s hb) h]
theorem X01 {h:Nat→Option Loc} : ∀ {l:List Nat} {Hs:List (Option Loc)},l.Nodup→Hs.length=l.length→∀ k,Q26 h l Hs k=match J0 l k with | some i=>(Hs[i]?).join | none=>h k
 | [],[],_,_,k=>by simp [Q26,J0]
 | [],_::_,_,h,_=>by simp at h
 | _::_,[],_,h,_=>by simp at h
 | x::l,y::Hs,hn,hl,k=>by
  have hn':=List.nodup_cons.1 hn
  rw [Q26,X01 hn'.2 (by simpa using hl)]
  cases hb:J0 l k with
  | some i=>
   have h1:(x::l)[i+1]?=some k:=by simpa using Q4s hb
   rw [Q5u hn h1]
   simp
  | none=>
   by_cases hk:k=x
   ·subst hk
    have h1:(k::l)[0]?=some k:=rfl
    rw [Q5u hn h1]
    simp
   ·have h2:J0 (x::l) k=none:=by
     unfold J0 at hb ⊢
     rw [List.idxOf?_eq_none_iff] at hb ⊢
     simp [hk,hb]
    rw [h2]
    simp [hk]
theorem Q5v {α γ:Type}{R:α→γ→Prop} : ∀ {l:List α} {m:List γ},All2 R l m→l.length=m.length∧∀ (i:Nat) (x:α) (y:γ),l[i]?=some x→m[i]?=some y→R x y
 | [],_,h=>by cases h;exact ⟨rfl,fun i x y hx=>by simp at hx⟩
 | x::l,_,h=>by
  cases h with
  | cons h t=>
   obtain ⟨h1,h2⟩:=Q5v t
   refine ⟨by simp [h1],fun i a b ha hb=>?_⟩
   cases i with
   | zero=>simp at ha hb;subst ha;subst hb;exact h
   | succ i=>exact h2 i a b (by simpa using ha) (by simpa using hb)
theorem W3b {ρ:Nat→Option Nat}{c:Cx}{M':Nat→Option (Option Nat)}(hM:∀ k' k,ρ k'=some k→M' k'=c.M k):∀ (l l':List D) (vs:List Value),All2 (Ren ρ) l l'→All2 (Rep c) l vs→All2 (Rep ⟨M',c.fr,c.w⟩) l' vs
 | [],_,_,h,hr=>by cases h;cases hr;exact .nil
 | d::l,_,_,h,hr=>by
  cases h with
  | cons h ht=>cases hr with | cons hr hrt=>exact .cons (h.rep (M:=c.M) hM hr) (W3b hM l _ _ ht hrt)
theorem V0g {P:Program}{β:Base}{σ:St}{c:Cx}{f:FuncId}{args:List D}{vs:List Value}{K:(Nat→Option Loc)→D→Prop}(H:HOk β σ.h c)(hfresh:∀ k,σ.next≤k→σ.h k=none∧c.M k=none)
  (hr:All2 (Rep c) args vs) (h:V6x P σ f args K) :
  Calls P f vs.toArray c.w fun e w'=>∃ (v:Value) (c':Cx) (h':Nat→Option Loc) (r:D),e=.returned v∧c'.w=w'∧c.Ext c'∧HOk β h' c'∧Rep c' r v∧
   (∀ k,σ.next+7≤k→h' k=none∧c'.M k=none)∧(∀ k,k<σ.next→c.M k=none→c'.M k=none)∧K h' r:=by
 obtain ⟨ks,Hc,args',Q,hc,hnd,hlocs,hargs,hK⟩:=h
 obtain ⟨hlen,hloc⟩:=Q5v hlocs
 let M1:Nat→Option (Option Nat):=fun i=>match ks[i]? with | some k=>c.M k | none=>none
 have hM1:∀ i k,ks[i]?=some k→M1 i=c.M k:=fun i k h=>by simp only [M1,h]
 have live:∀ i k,ks[i]?=some k→∃ L,σ.h k=some L:=fun i k h=>by
  have hlt:i<Hc.length:=by have:=(List.getElem?_eq_some_iff.1 h).1;omega
  obtain ⟨L,hL,_⟩:=hloc i k Hc[i] h (by simp [hlt])
  exact ⟨L,hL⟩
 have hin:V6v ⟨M1,c.fr,c.w⟩ Hc:=by
  refine ⟨fun k L hk=>?_,fun k k' b h1 h2 e1 e2=>?_,fun k hk=>?_⟩
  ·have hlt:k<ks.length:=by have:=(List.getElem?_eq_some_iff.1 hk).1;omega
   have hks:ks[k]?=some ks[k]:=by simp [hlt]
   obtain ⟨L0,g1,g2,g3,g4,g5⟩:=hloc k _ L hks hk
   exact (H.locs _ L0 g1).ren (ρ:=fun i=>ks[i]?) hM1 (hM1 k _ hks) g2 g3 g4 g5
  ·have hlt:k<ks.length:=by omega
   have hlt':k'<ks.length:=by omega
   have hks:ks[k]?=some ks[k]:=by simp [hlt]
   have hks':ks[k']?=some ks[k']:=by simp [hlt']
   simp only [hM1 k _ hks] at e1
   simp only [hM1 k' _ hks'] at e2
   obtain ⟨L0,g1⟩:=live k _ hks
   obtain ⟨L1,g2⟩:=live k' _ hks'
   have:=H.inj _ _ b (by simp [g1]) (by simp [g2]) e1 e2
   rw [←this] at hks'
   exact Z62 hnd hks hks'
  ·have:ks[k]?=none:=List.getElem?_eq_none (by omega)
   simp only [M1,this]
 have hav:X5m ⟨M1,c.fr,c.w⟩ args' vs.toArray:=Z48 _ _ (W3b (ρ:=fun i=>ks[i]?) hM1 _ _ _ hargs hr)
 refine (hc.2 ⟨M1,c.fr,c.w⟩ vs.toArray hin hav).mono fun e w' hp=>?_
 obtain ⟨v,c',H',r,rfl,rfl,hQ,hrep,hh,hlen',hfr'⟩:=hp
 obtain ⟨hle,Hs,r',hHs,hrr,hKK⟩:=hK H' r hQ
 obtain ⟨hHlen,hHs⟩:=Q5v hHs
 have hkl:ks.length≤H'.length:=by omega
 generalize hnm:ks++J3 σ.next (H'.length-ks.length)=names at *
 have hnl:names.length=H'.length:=by rw [←hnm];simp [Z3l];omega
 have hnn:names.Nodup:=by
  rw [←hnm,List.nodup_append]
  refine ⟨hnd,Z52 _ _,fun a ha b hb hab=>?_⟩
  subst hab
  obtain ⟨i,hi⟩:=List.mem_iff_getElem?.1 ha
  obtain ⟨L,hL⟩:=live i a hi
  have:=Z3k hb
  rw [(hfresh a this.1).1] at hL
  cases hL
 have hold:∀ i,i<ks.length→names[i]?=ks[i]?:=fun i hi=>by rw [←hnm,List.getElem?_append_left hi]
 have hnew:∀ i,ks.length≤i→i<names.length→names[i]?=some (σ.next+(i-ks.length)):=fun i h1 h2=>by
  rw [←hnm,List.getElem?_append_right h1,Z3m]
  omega
 let M2:Nat→Option (Option Nat):=fun k=>match J0 names k with | some i=>c'.M i | none=>c.M k
 have hM2:∀ k i,J0 names k=some i→M2 k=c'.M i:=fun k i h=>by simp only [M2,h]
 have hext:=hh.ext
 have hxM:∀ k x,c.M k=some x→M2 k=some x:=fun k x hk=>by
  cases hb:J0 names k with
  | none=>simp only [M2,hb];exact hk
  | some i=>
   rw [hM2 k i hb]
   have hi:=Q4s hb
   have hil:=(List.getElem?_eq_some_iff.1 hi).1
   rcases Nat.lt_or_ge i ks.length with hlt | hge
   ·rw [hold i hlt] at hi
    exact hext.M i x (by show M1 i=some x;rw [hM1 i k hi];exact hk)
   ·rw [hnew i hge hil] at hi
    cases hi
    rw [(hfresh _ (by omega)).2] at hk
    cases hk
 have hx:c.Ext ⟨M2,c'.fr,c'.w⟩:=⟨hext.len,hxM,hext.fr,hext.cell,hext.size⟩
 have hmod:∀ b,X0h ⟨M1,c.fr,c.w⟩ Hc.length b→∃ k L,σ.h k=some L∧c.M k=some (some b)∧∃ i,ks[i]?=some k:=fun b hb=>by
  obtain ⟨i,hi,hb⟩:=hb
  have hlt:i<ks.length:=by omega
  have hks:ks[i]?=some ks[i]:=by simp [hlt]
  obtain ⟨L,hL⟩:=live i _ hks
  exact ⟨_,L,hL,by simp only [hM1 i _ hks] at hb;exact hb,i,hks⟩
 have hget:=fun k=>X01 (h:=σ.h) (l:=names) (Hs:=Hs) hnn (by omega) k
 have hself:∀ k i,J0 names k=some i→∀ L',(Hs[i]?).join=some L'→∃ L,H'[i]?=some (some L)∧L'.sz=L.sz∧L'.el=L.el∧L'.fz=L.fz∧Z5h (J0 names) L.rows L'.rows:=fun k i hb L' hL'=>by
  have hil:i<H'.length:=by have:=(List.getElem?_eq_some_iff.1 (Q4s hb)).1;omega
  have h1:H'[i]?=some H'[i]:=by simp [hil]
  have hil2:i<Hs.length:=by omega
  have h2:Hs[i]?=some Hs[i]:=by simp [hil2]
  rw [h2] at hL'
  have hL2:Hs[i]=some L':=by simpa using hL'
  have hR:=hHs i _ _ h1 h2
  rw [hL2] at hR
  generalize H'[i]=y at h1 hR
  cases hR with
  | some L _ g3 g4 g5 g6=>exact ⟨L,h1,g3,g4,g5,g6⟩
 have hlive:∀ k b,(Q26 σ.h names Hs k).isSome=true→M2 k=some (some b)→
   (∃ i,J0 names k=some i∧(hOfO H' i).isSome=true∧c'.M i=some (some b))∨(J0 names k=none∧(σ.h k).isSome=true∧c.M k=some (some b)):=fun k b h1 e1=>by
  rw [hget k] at h1
  cases hb:J0 names k with
  | some i=>
   left
   rw [hb] at h1
   obtain ⟨L',hL'⟩:=Option.isSome_iff_exists.1 h1
   obtain ⟨L,g1,_⟩:=hself k i hb L' hL'
   exact ⟨i,rfl,by simp [g1],by rw [←hM2 k i hb];exact e1⟩
  | none=>
   right
   rw [hb] at h1
   exact ⟨rfl,h1,by simp only [M2,hb] at e1;exact e1⟩
 have hwhere:∀ i b,(hOfO H' i).isSome=true→c'.M i=some (some b)→c.w.heap.size≤b∨∃ k L,σ.h k=some L∧c.M k=some (some b)∧∃ i,ks[i]?=some k:=fun i b h1 e1=>by
  rcases hh.mine i b h1 e1 with h | h
  ·exact .inl h
  ·exact .inr (hmod b h)
 have hblk:∀ k b,J0 names k=none→(σ.h k).isSome=true→c.M k=some (some b)→b<c.w.heap.size∧c'.w.heap[b]?=c.w.heap[b]?∧c'.fr b=c.fr b:=fun k b hb h1 e1=>by
  obtain ⟨L,hL⟩:=Option.isSome_iff_exists.1 h1
  have hlt:=(H.locs k L hL).lt e1
  refine ⟨hlt,hh.old b hlt fun hm=>?_⟩
  obtain ⟨k2,L2,g1,g2,i,g3⟩:=hmod b hm
  have:=H.inj k k2 b h1 (by simp [g1]) e1 g2
  subst this
  have hi:i<ks.length:=(List.getElem?_eq_some_iff.1 g3).1
  rw [Q5u hnn ((hold i hi).trans g3)] at hb
  cases hb
 refine ⟨v,⟨M2,c'.fr,c'.w⟩,Q26 σ.h names Hs,r',rfl,rfl,hx,⟨H.ext.trans hx,hh.os.trans H.os,hh.tape.trans H.tape,hh.output.trans H.output,Nat.le_trans H.size hh.size,fun b hb hm=>?_,fun k L' hk=>?_,fun k k' b h1 h2 e1 e2=>?_,fun k b h1 e1=>?_⟩,
  hrr.rep (M:=c'.M) hM2 hrep,fun k hk=>?_,fun k hk hMk=>?_,hKK⟩
 ·have hlt:=Nat.lt_of_lt_of_le hb H.size
  have hnot:¬X0h ⟨M1,c.fr,c.w⟩ Hc.length b:=fun hmm=>by
   obtain ⟨k2,L2,g1,g2,_⟩:=hmod b hmm
   rcases H.mine k2 b (by simp [g1]) g2 with h | h
   ·omega
   ·exact hm h
  obtain ⟨g1,g2⟩:=hh.old b hlt hnot
  exact ⟨g1.trans (H.old b hb hm).1,g2.trans (H.old b hb hm).2⟩
 ·rw [hget k] at hk
  cases hb:J0 names k with
  | some i=>
   rw [hb] at hk
   obtain ⟨L,g1,g2,g3,g4,g5⟩:=hself k i hb L' hk
   exact (hh.locs i L (by simp [g1])).ren (ρ:=J0 names) hM2 (hM2 k i hb) g2 g3 g4 g5
  | none=>
   rw [hb] at hk
   refine (H.locs k L' hk).mono hx fun b hb2=>?_
   exact (hblk k b hb (by simp [hk]) hb2).2
 ·rcases hlive k b h1 e1 with ⟨i,b1,s1,m1⟩ | ⟨b1,s1,m1⟩<;>rcases hlive k' b h2 e2 with ⟨j,b2,s2,m2⟩ | ⟨b2,s2,m2⟩
  ·have:=hh.inj i j b s1 s2 m1 m2
   subst this
   have e3:=Q4s b1
   have e4:=Q4s b2
   rw [e3] at e4
   exact Option.some.inj e4
  ·obtain ⟨q1,_⟩:=hblk k' b b2 s2 m2
   rcases hwhere i b s1 m1 with h | ⟨k2,L2,g1,g2,x,g3⟩
   ·omega
   ·have:=H.inj k' k2 b s2 (by simp [g1]) m2 g2
    subst this
    have hi:x<ks.length:=(List.getElem?_eq_some_iff.1 g3).1
    rw [Q5u hnn ((hold x hi).trans g3)] at b2
    cases b2
  ·obtain ⟨q1,_⟩:=hblk k b b1 s1 m1
   rcases hwhere j b s2 m2 with h | ⟨k2,L2,g1,g2,x,g3⟩
   ·omega
   ·have:=H.inj k k2 b s1 (by simp [g1]) m1 g2
    subst this
    have hi:x<ks.length:=(List.getElem?_eq_some_iff.1 g3).1
    rw [Q5u hnn ((hold x hi).trans g3)] at b1
    cases b1
  ·exact H.inj k k' b s1 s2 m1 m2
 ·rcases hlive k b h1 e1 with ⟨i,b1,s1,m1⟩ | ⟨b1,s1,m1⟩
  ·rcases hwhere i b s1 m1 with h | ⟨k2,L2,g1,g2,_⟩
   ·left
    have:=H.size
    show β.c0.w.heap.size≤b
    omega
   ·exact H.mine k2 b (by simp [g1]) g2
  ·exact H.mine k b s1 m1
 ·have hb:J0 names k=none:=by
   cases hb:J0 names k with
   | none=>rfl
   | some i=>
    have hi:=Q4s hb
    have hil:=(List.getElem?_eq_some_iff.1 hi).1
    rcases Nat.lt_or_ge i ks.length with hlt | hge
    ·rw [hold i hlt] at hi
     obtain ⟨L,hL⟩:=live i k hi
     rw [(hfresh k (by omega)).1] at hL
     cases hL
    ·rw [hnew i hge hil] at hi
     cases hi
     omega
  obtain ⟨g1,g2⟩:=hfresh k (by omega)
  rw [hget k,hb]
  exact ⟨g1,by simp only [M2,hb];exact g2⟩
 ·have hb:J0 names k=none:=by
   cases hb:J0 names k with
   | none=>rfl
   | some i=>
    have hi:=Q4s hb
    have hil:=(List.getElem?_eq_some_iff.1 hi).1
    rcases Nat.lt_or_ge i ks.length with hlt | hge
    ·rw [hold i hlt] at hi
     obtain ⟨L,hL⟩:=live i k hi
     cases H.locs k L hL with
     | nil hM0=>rw [hMk] at hM0;cases hM0
     | own b cs f hM0=>rw [hMk] at hM0;cases hM0
     | map b _ _ hM0=>rw [hMk] at hM0;cases hM0
    ·rw [hnew i hge hil] at hi
     cases hi
     omega
  simp only [M2,hb]
  exact hMk
inductive X8h (nm:Nat):(Nat→Option Loc)→List D→List D→(Nat→Option Loc)→Prop
 | same (h:Nat→Option Loc) (l:List D):X8h nm h l l h
 | own (h:Nat→Option Loc) (l1 l2:List D) (sz:Nat) (el:TypeId):X8h nm h (l1++.nil::l2) (l1++.sl sz nm 0::l2) (updL h nm (some ⟨sz,[],0,el⟩))
def Y5g (P:Program)(σ:St)(f:FuncId)(args:List D)(K:(Nat→Option Loc)→D→Prop):Prop:=
 ∃ (args1:List D) (h1:Nat→Option Loc) (args2:List D) (h2:Nat→Option Loc),Q7y σ.h args args1 h1∧X8h σ.next h1 args1 args2 h2∧V6x P { σ with h:=h2,next:=σ.next+1 } f args2 K
theorem X3t {α γ:Type}{R:α→γ→Prop} : ∀ {l1 l2:List α} {m:List γ},All2 R (l1++l2) m→∃ m1 m2,m=m1++m2∧All2 R l1 m1∧All2 R l2 m2
 | [],l2,m,h=>⟨[],m,rfl,.nil,h⟩
 | x::l1,l2,m,h=>by
  cases h with
  | cons h t=>
   obtain ⟨m1,m2,rfl,g1,g2⟩:=X3t t
   exact ⟨_::m1,m2,rfl,.cons h g1,g2⟩
theorem V0l {α γ:Type}{R:α→γ→Prop}{l1 l2:List α}{m1 m2:List γ}(h1:All2 R l1 m1)(h2:All2 R l2 m2):All2 R (l1++l2) (m1++m2):=by
 induction h1 with
 | nil=>exact h2
 | cons h _ ih=>exact .cons h ih
theorem V4z {P:Program}{β:Base}{σ:St}{c:Cx}{f:FuncId}{args:List D}{vs:List Value}{K:(Nat→Option Loc)→D→Prop}(H:HOk β σ.h c)(hfresh:∀ k,σ.next≤k→σ.h k=none∧c.M k=none)
  (hr:All2 (Rep c) args vs) (h:Y5g P σ f args K) :
  Calls P f vs.toArray c.w fun e w'=>∃ (v:Value) (c':Cx) (h':Nat→Option Loc) (r:D),e=.returned v∧c'.w=w'∧c.Ext c'∧HOk β h' c'∧Rep c' r v∧
   (∀ k,σ.next+8≤k→h' k=none∧c'.M k=none)∧(∀ k,k<σ.next→c.M k=none→c'.M k=none)∧K h' r:=by
 obtain ⟨args1,h1,args2,h2,hv,hn,h⟩:=h
 obtain ⟨c1,e1,e2,x1,H1,r1⟩:=Q7y.sound _ _ _ _ _ _ hv H hr
 have hf1:∀ k,σ.next≤k→h1 k=none∧c1.M k=none:=fun k hk=>⟨hv.none k (hfresh k hk).1,by rw [e2];exact (hfresh k hk).2⟩
 obtain ⟨c2,x2,w2,H2,r2,hm2,hf2⟩:∃ c2:Cx,c1.Ext c2∧c2.w=c1.w∧HOk β h2 c2∧All2 (Rep c2) args2 vs∧(∀ k,k<σ.next→c2.M k=c1.M k)∧∀ k,σ.next+1≤k→h2 k=none∧c2.M k=none:=by
  cases hn with
  | same=>exact ⟨c1,.refl _,rfl,H1,r1,fun _ _=>rfl,fun k hk=>hf1 k (by omega)⟩
  | own l1 l2 sz el=>
   obtain ⟨c2,hc2,hx,hh⟩:=H1.nilloc (hf1 σ.next (Nat.le_refl _)).2 sz el
   obtain ⟨m1,m2,rfl,g1,g2⟩:=X3t r1
   cases g2 with
   | cons g3 g4=>
    rename_i v m
    refine ⟨c2,hx,by rw [hc2],hh,V0l (Z6x hx _ _ g1) (.cons ?_ (Z6x hx _ _ g4)),fun k hk=>(by have:k≠σ.next:=(by omega);rw [hc2];simp [this]),fun k hk=>?_⟩
    ·cases g3
     exact .sl0 _ _ none (by rw [hc2];simp)
    ·have hne:k≠σ.next:=by omega
     rw [hc2]
     simp [hne,hf1 k (by omega)]
 have:=V0g (σ:={ σ with h:=h2,next:=σ.next+1 }) H2 (fun k hk=>hf2 k hk) r2 h
 rw [w2,e1] at this
 refine this.mono fun e w' hp=>?_
 obtain ⟨v,c',h',r,g1,g2,g3,g4,g5,g6,g8,g7⟩:=hp
 exact ⟨v,c',h',r,g1,g2,(x1.trans x2).trans g3,g4,g5,fun k hk=>g6 k (by simp only;omega),fun k hk hM=>g8 k (by simp only;omega) (by rw [hm2 k hk,e2];exact hM),g7⟩
def Q0o (n:Nat):Option Tmp→Prop
 | none=>True
 | some s=>(s:Nat)<n
def Z1y (T:Ty)(σ:St)(o:Oper)(K:St→Prop):Prop:=
 match V0 T σ σ.next o.op with
 | none=>False
 | some r=>Q0o σ.n o.dst∧r.ok∧K ({ σ with h:=r.h,next:=σ.next+8 }.put o.dst r.d)
def Q8n (P:Program)(σ:St)(f:FuncId)(args:List D)(K:(Nat→Option Loc)→D→Prop):Prop:=V9i P σ f args K∨Y5g P σ f args K∨V9j P σ f args K
def Z8j (T:Ty)(σ:St)(t:TypeId)(d:D)(K:(Nat→Option Loc)→D→Prop):Prop:=
 match T t with
 | some i=>match i.kind with
  | .slice _=>match d.len with
   | some n=>∀ b:Bool,(b=true→n=0)→K σ.h (.val (.bool b))
   | none=>False
  | _=>False
 | none=>False
def Y6 (P:Program)(T:Ty)(σ:St)(o:Oper)(K:St→Prop):Prop:=
 match o.op with
 | .call c=>match c.callee with
  | .builtin _=>Z1y T σ o K
  | .value (.func f)=>Q0o σ.n o.dst∧Q8n P σ f (c.args.toList.map σ.get) (fun h' d=>K ({ σ with h:=h',next:=σ.next+8 }.put o.dst d))
  | .value (.tmp t)=>match σ.t t with
   | .clos f caps=>Q0o σ.n o.dst∧Q8n P σ f (c.args.toList.map σ.get++caps) (fun h' d=>K ({ σ with h:=h',next:=σ.next+8 }.put o.dst d))
   | _=>False
  | _=>False
 | .binOp .eql t x y _=>match σ.get y with
  | .nil=>Q0o σ.n o.dst∧Z8j T σ t (σ.get x) fun h' d=>K ({ σ with h:=h',next:=σ.next+8 }.put o.dst d)
  | _=>Z1y T σ o K
 | _=>Z1y T σ o K
def Z4t:Op→Bool
 | .move _ | .assign _ | .build .. | .pick .. | .load .. | .fieldAddr .. | .field .. | .indexAddr .. | .index .. | .binOp .. | .unOp .. | .convert .. | .extract .. | .nilCheck _ | .slice ..=>true
 | .call c=>match c.callee with
  | .builtin .len=>true
  | .builtin .min=>true
  | .builtin .max=>true
  | _=>false
 | _=>false
def Z0l (ops:Array Oper)(σ:St)(j:Nat)(want:Bool):Option Bool:=
 match (ops[j]?).bind (·.dst) with
 | none=>none
 | some d=>match σ.t d with
  | .val (.bool b)=>some (b==want)
  | .val (.tuple _)=>some false
  | _=>none
structure Tag {α:Type} (x:α):Type where
def Z5c (g:Option Bool)(a b:Prop)(_:Tag a)(_:Tag b):Prop:=match g with
 | none=>False
 | some true=>a
 | some false=>b
theorem W4q (a b:Prop)(s:Tag a)(t:Tag b):Z5c none a b s t=False:=rfl
theorem Z7e (a b:Prop)(s:Tag a)(t:Tag b):Z5c (some true) a b s t=a:=rfl
theorem Z5b (a b:Prop)(s:Tag a)(t:Tag b):Z5c (some false) a b s t=b:=rfl
def runL (P:Program)(T:Ty)(ops:Array Oper):List Oper→St→(St→Prop)→Prop
 | [],σ,K=>K σ
 | o::rest,σ,K=>match o.guard with
  | none=>Y6 P T σ o fun σ'=>runL P T ops rest σ' K
  | some (j,want)=>Z5c (Z0l ops σ j want) (Y6 P T σ o fun σ'=>runL P T ops rest σ' K) (Q0o σ.n o.dst∧runL P T ops rest (σ.put o.dst (.val undef)) K) ⟨⟩ ⟨⟩
theorem Conc.putSame {β:Base}{σ:St}{a:Act}{c:Cx}{d:D}{v:Value}(h:Conc β σ a c)(dst:Option Tmp)(hd:Q0o σ.n dst)(hr:Rep c d v):Conc β (σ.put dst d) (a.put dst v) c:=by
 have:=h.put (.refl c) h.heap h.fresh dst (fun s hs=>by subst hs;exact hd) hr
 exact this
def Post (β:Base)(K:St→Prop)(a:Act)(w:World):Prop:=∃ (σ:St) (c:Cx),c.w=w∧Conc β σ a c∧K σ
def Step (β:Base)(σ:St)(a:Act)(c:Cx)(o:Oper)(K:St→Prop)(a':Act)(w':World):Prop:=
 ∃ (v:Value) (c':Cx) (h':Nat→Option Loc) (d:D),c'.w=w'∧a'=a.put o.dst v∧c.Ext c'∧HOk β h' c'∧Rep c' d v∧(∀ k,σ.next+8≤k→h' k=none∧c'.M k=none)∧(∀ k,k<σ.next→c.M k=none→c'.M k=none)∧
  K ({ σ with h:=h',next:=σ.next+8 }.put o.dst d)
theorem Step.post {β:Base}{σ:St}{a:Act}{c:Cx}{o:Oper}{K:St→Prop}(H:Conc β σ a c)(hd:Q0o σ.n o.dst){a':Act}{w':World}(h:Step β σ a c o K a' w'):Post β K a' w':=by
 obtain ⟨v,c',h',d,rfl,rfl,hx,hh,hr,hf,_,hK⟩:=h
 exact ⟨_,c',rfl,H.put hx hh hf o.dst (fun s hs=>by rw [hs] at hd;exact hd) hr,hK⟩
theorem Z76 {P:Program}{T:Ty}(hT:Z0w P T){β:Base}{σ:St}{a:Act}{c:Cx}{o:Oper}{K:St→Prop}(H:Conc β σ a c)(h:Z1y T σ o K)(Q:Exit→Act→World→Prop) :
  Q0o σ.n o.dst∧o.wp P a c.w (Step β σ a c o K) Q:=by
 unfold Z1y at h
 split at h
 ·exact h.elim
 ·rename_i r hr
  obtain ⟨hd,hok,hK⟩:=h
  obtain ⟨hn,hM⟩:=H.fresh σ.next (Nat.le_refl _)
  obtain ⟨v,c',hrun,hx,hrep,hh,hMo,hho,_⟩:=X52 (P:=P) hT H hn hM hr hok
  have hf:∀ k,σ.next+8≤k→r.h k=none∧c'.M k=none:=fun k hk=>by
   obtain ⟨h1,h2⟩:=H.fresh k (by omega)
   exact ⟨hho k (by omega) h1,by rw [hMo k (by omega)];exact h2⟩
  refine ⟨hd,?_⟩
  unfold Oper.wp
  rcases hrun with hrun | ⟨hrun,rfl⟩
  ·rw [hrun]
   exact ⟨v,c',r.h,r.d,rfl,rfl,hx,hh,hrep,hf,fun k hk hMk=>by rw [hMo k (by omega)];exact hMk,hK⟩
  ·rw [hrun]
   exact ⟨undef,c',r.h,r.d,rfl,rfl,hx,hh,hrep,hf,fun k hk hMk=>by rw [hMo k (by omega)];exact hMk,hK⟩
theorem X5g {c:Cx}(σ:St)(a:Act)(h:∀ x,Rep c (σ.get x) (a.eval x)):∀ l:List Operand,All2 (Rep c) (l.map σ.get) (l.map a.eval)
 | []=>.nil
 | x::l=>.cons (h x) (X5g σ a h l)
theorem W19 {c:Cx}{l1 l2:List D}{m1 m2:List Value}(h1:All2 (Rep c) l1 m1)(h2:All2 (Rep c) l2 m2):All2 (Rep c) (l1++l2) (m1++m2):=by
 induction h1 with
 | nil=>exact h2
 | cons h _ ih=>exact .cons h ih
theorem Z8l {c:Cx} : ∀ (ds:List D) (vs:List Value),vs.length=ds.length→(∀ (i:Nat) (d:D) (v:Value),ds[i]?=some d→vs[i]?=some v→Rep c d v)→All2 (Rep c) ds vs
 | [],[],_,_=>.nil
 | [],_::_,h,_=>by simp at h
 | _::_,[],h,_=>by simp at h
 | d::ds,v::vs,h,hr=>.cons (hr 0 d v rfl rfl) (Z8l ds vs (by simpa using h) fun i d' v' hd hv=>hr (i+1) d' v' (by simpa using hd) (by simpa using hv))
theorem X1v {P:Program}{β:Base}{σ:St}{a:Act}{c:Cx}{o:Oper}{K:St→Prop}(H:Conc β σ a c){f:FuncId}{args:List D}{vs:List Value}(hr:All2 (Rep c) args vs)
  (hrun:(execOp a.eval o).run P c.w=(callFunc f vs.toArray).run P c.w) (hd:Q0o σ.n o.dst)
  (h:Q8n P σ f args (fun h' d=>K ({ σ with h:=h',next:=σ.next+8 }.put o.dst d))) (Q:Exit→Act→World→Prop):o.wp P a c.w (Step β σ a c o K) Q:=by
 have hent : ∃ fn, P.funcs[f]? = some fn ∧ (fn.name == "runtime.NumGoroutine") = false ∧ fn.body.isNone = false := by
  rcases h with ⟨_,_,_,_,⟨h,_⟩,_⟩ | ⟨_,_,_,_,_,_,_,_,_,_,⟨h,_⟩,_⟩ | ⟨_,_,_,_,⟨h,_⟩,_⟩<;>exact h
 have hc:Calls P f vs.toArray c.w fun e w'=>∃ (v:Value) (c':Cx) (h':Nat→Option Loc) (r:D),e=.returned v∧c'.w=w'∧c.Ext c'∧HOk β h' c'∧Rep c' r v∧
   (∀ k,σ.next+8≤k→h' k=none∧c'.M k=none)∧(∀ k,k<σ.next→c.M k=none→c'.M k=none)∧K ({ σ with h:=h',next:=σ.next+8 }.put o.dst r):=by
  rcases h with h | h
  ·refine (V4y H.heap hr h).mono fun e w' hp=>?_
   obtain ⟨v,c',h',r,rfl,rfl,hM,hx,hh,hrep,hnone,hK⟩:=hp
   refine ⟨v,c',h',r,rfl,rfl,hx,hh,hrep,fun k hk=>?_,fun k _ hMk=>by rw [hM];exact hMk,hK⟩
   obtain ⟨h1,h2⟩:=H.fresh k (by omega)
   exact ⟨hnone k h1,by rw [hM];exact h2⟩
  ·rcases h with h | h
   ·exact V4z H.heap H.fresh hr h
   ·refine (V51 H.heap hr h).mono fun e w' hp=>?_
    obtain ⟨v,c',h',r,rfl,rfl,hM,hx,hh,hrep,hnone,hK⟩:=hp
    refine ⟨v,c',h',r,rfl,rfl,hx,hh,hrep,fun k hk=>?_,fun k _ hMk=>by rw [hM];exact hMk,hK⟩
    obtain ⟨h1,h2⟩:=H.fresh k (by omega)
    exact ⟨hnone k h1,by rw [hM];exact h2⟩
 obtain ⟨fn,hfn,hname,hbody⟩:=hent
 have hcall:(callFunc f vs.toArray).run P c.w=.ok (.enter f vs.toArray) c.w:=by
  have hname' : ¬ fn.name = "runtime.NumGoroutine" := by simpa using hname
  have hbody':¬fn.body=none:=fun h=>by simp [h] at hbody
  simp [callFunc,hfn,hname',hbody']
 unfold Oper.wp
 rw [hrun,hcall]
 refine hc.mono fun e w' hp=>?_
 obtain ⟨v,c',h',r,rfl,rfl,hx,hh,hrep,hf,hm,hK⟩:=hp
 exact ⟨v,c',h',r,rfl,rfl,hx,hh,hrep,hf,hm,hK⟩
theorem X32 {P:Program}{T:Ty}(hT:Z0w P T){β:Base}{σ:St}{a:Act}{c:Cx}{o:Oper}{K:St→Prop}(H:Conc β σ a c)(h:Y6 P T σ o K)(Q:Exit→Act→World→Prop) :
  Q0o σ.n o.dst∧o.wp P a c.w (Step β σ a c o K) Q:=by
 unfold Y6 at h
 split at h
 ·rename_i cl hcl
  split at h
  ·exact Z76 hT H h Q
  ·rename_i f hf
   refine ⟨h.1,X1v H (X5g σ a H.get cl.args.toList) ?_ h.1 h.2 Q⟩
   simp only [execOp,hcl,resolve,hf]
   simp [Act.eval,Deferred.ofValue,invoke,←List.map_toArray]
  ·rename_i t ht
   split at h
   ·rename_i f caps hcaps
    have hs:=H.slots t
    rw [hcaps] at hs
    cases hv:a.tmps.getD t undef<;>rw [hv] at hs<;>cases hs
    rename_i cvs hlen hh
    refine ⟨h.1,X1v H (W19 (X5g σ a H.get cl.args.toList) (Z8l caps cvs.toList (by simpa using hlen) fun i d v hd hv=>hh i d v hd (by simpa using hv))) ?_ h.1 h.2 Q⟩
    have he:a.eval (.tmp t)=.func (.func f) #[] cvs:=hv
    simp only [execOp,hcl,resolve,ht,he]
    have hargs:(List.map a.eval cl.args.toList++cvs.toList).toArray=cl.args.map a.eval++cvs:=by apply Array.ext';simp
    rw [hargs]
    simp [Deferred.ofValue,invoke]
   ·exact h.elim
  ·exact h.elim
 ·rename_i t x y t' ho
  split at h
  ·rename_i hy
   obtain ⟨hd,h⟩:=h
   refine ⟨hd,?_⟩
   unfold Z8j at h
   split at h
   ·rename_i i hi
    split at h
    ·rename_i e hk
     split at h
     ·rename_i n hn
      have hx':=H.get x
      have hy':=H.get y
      rw [hy] at hy'
      obtain ⟨ad,cap,hv⟩:=W7d hx' hn
      have hyv:a.eval y=.slice none 0 0:=by
       generalize a.eval y=v at hy'
       cases hy'
       rfl
      have hn0:ad.isNone=true→n=0:=fun he=>by
       rw [hv] at hx'
       cases ad with
       | some b=>cases he
       | none=>
        generalize σ.get x=d at hx' hn
        cases hx'<;>simp [D.len] at hn<;>omega
      have hrun:(execOp a.eval o).run P c.w=.ok (.value (.bool ad.isNone)) c.w:=by
       have:=run_eql_slice_nil (P:=P) c.w t e ad n cap ((hT t i hi).slice hk)
       simp [execOp,ho,hv,hyv,eqGuard,this]
      unfold Oper.wp
      rw [hrun]
      have hK:=h ad.isNone hn0
      exact ⟨_,c,σ.h,_,rfl,rfl,.refl c,H.heap,.val _,fun k hk=>H.fresh k (by omega),fun _ _ h=>h,hK⟩
     ·exact h.elim
    ·exact h.elim
   ·exact h.elim
  ·exact Z76 hT H h Q
 ·exact Z76 hT H h Q
theorem W1l {P:Program}{T:Ty}(hT:Z0w P T){β:Base}{σ:St}{a:Act}{c:Cx}{o:Oper}{K:St→Prop}(H:Conc β σ a c)(h:Y6 P T σ o K)(Q:Exit→Act→World→Prop) :
  o.wp P a c.w (Post β K) Q:=by
 obtain ⟨hd,hw⟩:=X32 hT H h Q
 exact Oper.wp_mono (fun _ _=>Step.post H hd) hw
theorem X0w {ops:Array Oper}{β:Base}{σ:St}{a:Act}{c:Cx}(H:Conc β σ a c){o:Oper}{j:Nat}{want:Bool}{g:Bool}(hg:o.guard=some (j,want))(h:Z0l ops σ j want=some g) :
  Region.wanted o (yielded ops a.tmps)=g:=by
 unfold Z0l at h
 cases hd:(ops[j]?).bind (·.dst) with
 | none=>simp [hd] at h
 | some d=>
  simp only [hd] at h
  have hs:=H.slots d
  have hy:yielded ops a.tmps j=match a.tmps.getD d undef with | .bool b=>some b | _=>none:=by
   simp only [yielded,hd,U0,Array.getD_eq_getD_getElem?]
   cases a.tmps[d]? with
   | none=>rfl
   | some v=>cases v<;>rfl
  generalize a.tmps.getD d undef=v at hs hy
  simp only [Region.wanted,hg,hy]
  split at h
  ·rename_i b hb
   cases h
   rw [hb] at hs
   rw [W1 hs]
   cases b<;>cases want<;>rfl
  ·rename_i vs hb
   cases h
   rw [hb] at hs
   rw [W1 hs]
   rfl
  ·cases h
theorem W79 {P:Program}{T:Ty}(hT:Z0w P T){β:Base}{ops:Array Oper}{K:St→Prop} : ∀ (l:List Oper) (is:List Nat) (σ:St) (a:Act) (c:Cx),is.map (ops[·]?)=l.map some→Conc β σ a c→
  runL P T ops l σ K→wpOps P ops (fun e a' w'=>e=.normal∧Post β K a' w') is a c.w
 | [],[],σ,a,c,_,H,h=>⟨rfl,σ,c,rfl,H,h⟩
 | [],_::_,_,_,_,h,_,_=>by simp at h
 | _::_,[],_,_,_,h,_,_=>by simp at h
 | o::l,i::is,σ,a,c,he,H,h=>by
  simp only [List.map_cons,List.cons.injEq] at he
  obtain ⟨hio,his⟩:=he
  simp only [runL] at h
  simp only [wpOps,hio]
  have next:∀ a' w',Post β (fun σ'=>runL P T ops l σ' K) a' w'→wpOps P ops (fun e a' w'=>e=.normal∧Post β K a' w') is a' w':=fun a' w' hp=>by
   obtain ⟨σ',c',rfl,H',h'⟩:=hp
   exact W79 hT l is σ' a' c' his H' h'
  cases hg:o.guard with
  | none=>
   simp only [hg] at h
   simp only [Region.wanted,hg,if_true]
   exact .inl (Oper.wp_mono next (W1l hT H h _))
  | some gd=>
   obtain ⟨j,want⟩:=gd
   simp only [hg] at h
   cases hge:Z0l ops σ j want with
   | none=>rw [hge] at h;exact h.elim
   | some g=>
    simp only [hge] at h
    rw [X0w H hg hge]
    cases g with
    | true=>
     simp only [if_true,Z7e] at h ⊢
     exact .inl (Oper.wp_mono next (W1l hT H h _))
    | false=>
     simp only [Z5b] at h
     simp only [U2,if_false]
     exact next _ _ ⟨_,c,rfl,H.putSame o.dst h.1 (.val _),h.2⟩
def TrD (P:Program)(β:Base)(cd:Code)(σ:St)(Q:Exit→St→Prop):Prop:=∀ a c,Conc β σ a c→cd.wp P (fun e a' w'=>Post β (Q e) a' w') a c.w
section
variable {P:Program} {T:Ty} {β:Base} {σ:St} {Q:Exit→St→Prop}
theorem TrD.reg (hT:Z0w P T){id:Nat}{ops:Array Oper}(h:runL P T ops ops.toList σ (Q .normal)):TrD P β (.region id ops false) σ Q:=fun a c H=>
 wp_mono (wp_region (W79 hT ops.toList (List.range ops.size) σ a c (by
  apply List.ext_getElem?
  intro i
  simp only [List.getElem?_map,Array.getElem?_toList]
  by_cases hi:i<ops.size
  ·simp [hi]
  ·simp [hi]) H h)) fun e a' w' hp=>by obtain ⟨rfl,hp⟩:=hp;exact hp
theorem TrD.regK (hT:Z0w P T){id:Nat}{ops:Array Oper}(h:∀ K:St→Prop,(∀ s,Q .normal s→K s)→runL P T ops ops.toList σ K):TrD P β (.region id ops false) σ Q:=TrD.reg hT (h _ fun _ hs=>hs)
theorem TrD.mono {cd:Code}{Q':Exit→St→Prop}(h:TrD P β cd σ Q')(hq:∀ e σ,Q' e σ→Q e σ):TrD P β cd σ Q:=
 fun a c H=>wp_mono (h a c H) fun e a' w' hp=>by obtain ⟨σ',c',h1,h2,h3⟩:=hp;exact ⟨σ',c',h1,h2,hq _ _ h3⟩
theorem TrD.skip (h:Q .normal σ):TrD P β .skip σ Q:=fun a c H=>wp_skip ⟨σ,c,rfl,H,h⟩
theorem TrD.ret (h:Q .ret σ):TrD P β .ret σ Q:=fun a c H=>wp_ret ⟨σ,c,rfl,H,h⟩
theorem TrD.exit {id:Nat}(h:Q (.exit id) σ):TrD P β (.exit id) σ Q:=fun a c H=>wp_exit ⟨σ,c,rfl,H,h⟩
theorem TrD.seq {x y:Code}(h:TrD P β x σ (fun e σ'=>match e with | .normal=>TrD P β y σ' Q | e=>Q e σ')):TrD P β (.seq x y) σ Q:=fun a c H=>
 wp_seq (wp_mono (h a c H) fun e a' w' hp=>by
  obtain ⟨σ',c',rfl,H',h'⟩:=hp
  cases e with
  | normal=>exact h' a' c' H'
  | _=>exact ⟨σ',c',rfl,H',h'⟩)
theorem TrD.block {id:Nat}{x:Code}(h:TrD P β x σ (fun e σ'=>match e with | .exit id'=>if id'=id then Q .normal σ' else Q (.exit id') σ' | e=>Q e σ')):TrD P β (.block id x) σ Q:=fun a c H=>
 wp_block (wp_mono (h a c H) fun e a' w' hp=>by
  obtain ⟨σ',c',rfl,H',h'⟩:=hp
  cases e with
  | exit id'=>
   simp only [Exit.inBlock]
   simp only at h'
   split
   ·rename_i hid;rw [if_pos hid] at h';exact ⟨σ',c',rfl,H',h'⟩
   ·rename_i hid;rw [if_neg hid] at h';exact ⟨σ',c',rfl,H',h'⟩
  | _=>exact ⟨σ',c',rfl,H',h'⟩)
theorem TrD.cond {x:Operand}{th el:Code}{b:Bool}(hx:σ.get x=.val (.bool b))(h1:b=true→TrD P β th σ Q)(h2:b=false→TrD P β el σ Q):TrD P β (.cond x th el) σ Q:=fun a c H=>by
 have hr:=H.get x
 rw [hx] at hr
 exact wp_cond_split (W1 hr) (fun hb=>h1 hb a c H) (fun hb=>h2 hb a c H)
def Y5c (P:Program)(cd:Code)(Q:Exit→Act→World→Prop)(a:Act)(w:World):Prop:=
 ∀ (b:Frame) (k:List Item) (cs:List Frame),∃ e a' w',Q e a' w'∧Arrives P (lone (b.at a (.code cd::.inLoop cd::k)) cs w) b k cs e a' w'
def TrL (P:Program)(β:Base)(cd:Code)(σ:St)(Q:Exit→St→Prop):Prop:=∀ a c,Conc β σ a c→Y5c P cd (fun e a' w'=>Post β (Q e) a' w') a c.w
theorem TrD.loop {cd:Code}(h:TrL P β cd σ Q):TrD P β (.loop cd) σ Q:=fun a c H b k cs=>by
 obtain ⟨e,a',w',hq,harr⟩:=h a c H b k cs
 exact ⟨e,a',w',hq,.of_steps (.one step_loop) harr⟩
theorem TrL.round {cd:Code}(h:TrD P β cd σ (fun e σ'=>match e with | .normal=>TrL P β cd σ' Q | e=>Q e σ')):TrL P β cd σ Q:=fun a c H b k cs=>by
 obtain ⟨e,a₁,w₁,hq,harr⟩:=h a c H b (.inLoop cd::k) cs
 obtain ⟨σ₁,c₁,rfl,H₁,h₁⟩:=hq
 cases e with
 | normal=>
  obtain ⟨e₂,a₂,w₂,hq₂,harr₂⟩:=h₁ a₁ c₁ H₁ b k cs
  exact ⟨e₂,a₂,w₂,hq₂,.of_steps (Steps.trans harr (.one step_inLoop)) harr₂⟩
 | exit id=>exact ⟨_,a₁,_,⟨σ₁,c₁,rfl,H₁,h₁⟩,.pass (x:=.inLoop cd) rfl (fun _ _=>.inl (by simp)) harr⟩
 | goto l=>exact ⟨_,a₁,_,⟨σ₁,c₁,rfl,H₁,h₁⟩,.pass (x:=.inLoop cd) rfl (fun _ _=>.inl (by simp)) harr⟩
 | ret=>exact ⟨_,a₁,_,⟨σ₁,c₁,rfl,H₁,h₁⟩,.pass (x:=.inLoop cd) rfl (fun _ _=>.inl (by simp)) harr⟩
 | panic ch=>exact ⟨_,a₁,_,⟨σ₁,c₁,rfl,H₁,h₁⟩,.pass (x:=.inLoop cd) rfl (fun _ _=>.inl (by simp)) harr⟩
 | outgrown=>exact ⟨_,a₁,_,⟨σ₁,c₁,rfl,H₁,h₁⟩,.pass (x:=.inLoop cd) rfl (fun _ _=>.inl (by simp)) harr⟩
end
end Go.Proofs.YtenmmbjgnlflnaaGreat
