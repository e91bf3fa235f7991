import Derived.Test.YtenmmbjgnlflnaaGreatBJC2a0
import Derived.Test.YtenmmbjgnlflnaaGreatBJC2d0
import Derived.Test.YtenmmbjgnlflnaaGreatBJC2c0
import Derived.Test.YtenmmbjgnlflnaaGreatBJC2b0
set_option linter.unusedSimpArgs false
set_option linter.unusedVariables false
namespace Go.Proofs.YtenmmbjgnlflnaaGreat
open Go Go.RowKit
set_option maxRecDepth 100000
set_option maxHeartbeats 20000000
instance V35:∀ (n:Nat) (p0:(List Q5)) (p1:(List Q4)) (p2:Q2) (p3:Q0),Ct (Q0k n p0 p1 p2 p3) fun res=>Q12 Tryz.prog 0o00144 [⟨3,List.map X6 p0,0,0x009c⟩] [.sl 3 0 p0.length,(.slice 2 (List.map Z8 p1)),(.agg (Z7 p2)),(.agg (Q3 p3))] (fun H d=>H=[none,some ⟨3,List.map X6 res,0,0x009c⟩]∧d=.sl 3 1 res.length):=
 ar (au Tryz.func100 Q0k.eq_2 (.o (.o (.o (.o (.o (.o (.j 1 0 [0,1,6,7] [0,9000,1,9] (fun (s10:(List Q5))=>[(0,.sl 3 9000 (s10).length)]) (fun s10=>[(0,none),(9000,some ⟨3,(List.map X6 s10),0,0x009c⟩)]) (.i .z (.i .z (.pM 0 .z))) (fun s10=>.o (.ls 29 (.f [0] [0,1] [0,1,7,9,10] [0,1,3] (fun (k159:Nat) (s155:(List Q5))=>[(0,.sl 3 1 (s155).length),(10,eI (k159:Int))]) (fun k159 s155=>[(0,none),(1,some ⟨3,(List.map X6 s155),0,0x009c⟩)]) (fun k159 s155=>.o (.j 5 0 [0,1,7,9,10] [0,1,2] (fun (s169:Unit)=>[]) (fun _=>[(0,none)]) .z (fun _=>.g [0,1,7,9,10] [0,1,2] [] [(0,none)] (.o (.o (.d [0,1,2,3,4,5,6,7,8,9,10,11,12] [2] [] .z)))))) (fun s163=>.z))))))))))))
instance V34:∀ (n:Nat) (p0:(List Q4)) (p1:Q2) (p2:Z6),Ct (Q9n n p0 p1 p2) fun res=>Q7 Tryz.prog 0o00467 [(.slice 2 (List.map Z8 p0)),(.agg (Z7 p1)),(.agg (V6 p2))] (fun d=>d=(eS res)):=
 au Tryz.func311 Q9n.eq_1 (.o (.o (.o (.o (.o (.j 2 0 [7] [] (fun (s16:ByteArray)=>[(7,eS s16)]) (fun _=>[]) (.i (.g [5,7] [8] [] [] (.o (.o (.o (.o (.o (.o (.d [0,1,2,3,4,8,9,10,5,6,7,11,12,13] [0] [] .z)))))))) (.i (.g [5,7] [8] [] [] (.o (.o (.o (.o (.o (.o (.d [0,1,2,3,4,8,9,10,5,6,7,11,12,13] [0] [] .z)))))))) .z)) (fun _=>.z)))))))
instance Z7b:∀ (n:Nat) (p0:X3) (p1:(List GFun)),Ct (Q2i n p0 p1) fun res=>Q12 Tryz.prog 0o00117 [⟨2,[(Q01 p0)],0,0x00d7⟩] [.ptr 2 0 0 0,(.slice 6 (List.map Q0d p1))] (fun H d=>H=[some ⟨2,[(Q01 res.2)],0,0x00d7⟩]∧d=(.slice 6 (List.map Q0d res.1))):=
 au Tryz.func79 Q2i.eq_1 (.o (.o (.o (.ls 1 (.f [0,5] [0,9] [0,1,5,6] [0,9] (fun (k66:Nat) (s62:(List GFun))=>[(5,.sl 6 9 (s62).length),(6,eI (k66:Int))]) (fun k66 s62=>[(9,some ⟨6,(List.map Q0d s62),0,0x0035⟩)]) (fun k66 s62=>.o (.g [0,1,5,6] [0,1] [] [] (.o (.o (.o (.dz [0,1,2,3,4,5,7,8,9,10,11,14,15,16,17,18,6,12,13,19,20,21,22,23] [] [1048604] [] (.pF 2097160 (.pF 2097168 .z)))))))) (fun s70=>.i (.pF 1 .z) (.b fun (r79:(Int×X3))=>.j 9 0 [5] [0,1] (fun (s121:X3×(List GFun))=>[(5,.sl 6 1 (s121.2).length)]) (fun s121=>[(0,some ⟨2,[(Q01 s121.1)],0,0x00d7⟩),(1,some ⟨6,(List.map Q0d s121.2),0,0x0035⟩)]) (.o (.i .z (.i .z (.i .z (.i (.b fun (x132:(List GFun))=>.pS 1 r79.1 Q0d x132 .z) (.i (.w [5] [0,1] [5] [0,1] (fun (s144:(List GFun))=>[(5,.sl 6 1 (s144).length)]) (fun s144=>[(1,some ⟨6,(List.map Q0d s144),0,0x0035⟩)]) (fun s144=>.z) (fun s152=>.z)) (.i (.o (.i (.o (.b fun (x161:(List GFun))=>.gr 25 [5,7] [0,1] [(5,.sl 6 1 (x161).length)] [(1,some ⟨6,(List.map Q0d x161),0,0x0035⟩)] .z)) .z)) .z))))))) (fun _=>.pF 1 .z))))))))
def rowB (x:GFun)(n:Nat):List D:=[eI x.typ.arg.data,eI x.typ.arg.index,eI x.typ.res.data,eI x.typ.res.index,.slice 9 (List.map V6 x.clauses),.sl 4 2 n]
def yS (p0:X3)(p1:List GFun)(F:Nat)(x:GFun)(nt:Nat)(pre:List GFun):St:=
  if F<pre.length then ⟨lk [(0,.ptr 2 0 0 0),(1,.slice 6 (List.map Q0d p1)),(5,.sl 6 1 pre.length),(6,eI (pre.length:Int))],
    hOfO [some ⟨2,[Q01 p0],0,215⟩,some ⟨6,List.take F (List.map Q0d pre)++rowB x x.bodies.length::List.drop (F+1) (List.map Q0d pre),0,53⟩,some ⟨4,List.map V8 x.bodies,0,55⟩],3,nt⟩
  else ⟨lk [(0,.ptr 2 0 0 0),(1,.slice 6 (List.map Q0d p1)),(5,.sl 6 1 pre.length),(6,eI (pre.length:Int))],
    hOfO [some ⟨2,[Q01 p0],0,215⟩,some ⟨6,List.map Q0d pre,0,53⟩],2,nt⟩
theorem frT (n:Nat)(l:List GFun):FrS (List.take n (List.map Q0d l)):=fun row hr d hd=>Q6 Z2k l row (List.mem_of_mem_take hr) d hd
theorem frD (n:Nat)(l:List GFun):FrS (List.drop n (List.map Q0d l)):=fun row hr d hd=>Q6 Z2k l row (List.mem_of_mem_drop hr) d hd
theorem gLx {β:Base}{σ:St}{m n:Nat}{sl:List (Nat×D)}{Hs:List (Option Loc)}(hβ:Sl (∀ k x,β.c0.M k=some x→k<m))(l:List Nat)(hm:(List.range m).all (fun k=>l[k]?==some k)=true)(ht:TG σ l sl)(hh:All2 (LocV σ l) l Hs)(hl:l.Nodup)(hn:l.length=n):V3 β σ ⟨lk sl,hOfO Hs,n,σ.n⟩:=by
  subst hn
  exact V3.canonV m l Hs (lk sl) hβ (Z4j hm) hl ht hh
theorem lB0 {σ:St}{l:List Nat}{q:Nat}{L L':Loc}{A B:List (List D)}{r r':List D}(h1:σ.h q=some L)(e:L.rows=A++r::B)(hz:L'.sz=L.sz∧L'.el=L.el∧L'.fz=L.fz)(e':L'.rows=A++r'::B)(hr:All2 (cOk σ l) r r')(hA:FrS A)(hB:FrS B):LocV σ l q (some L'):=by
  refine lv h1 hz.1 hz.2.1 hz.2.2 ?_
  rw [e,e']
  exact X37 (Q4c rfl hA) (Z3b (cOks hr) (Q4c rfl hB))
theorem lB {σ:St}{l:List Nat}{q:Nat}{L L':Loc}{A B:List (List D)}{r0 r0' r r':List D}(h1:σ.h q=some L)(e:L.rows=A++r0::(B++[r]))(hz:L'.sz=L.sz∧L'.el=L.el∧L'.fz=L.fz)(e':L'.rows=A++r0'::(B++[r']))(h0:All2 (cOk σ l) r0 r0')(hr:All2 (cOk σ l) r r')(hA:FrS A)(hB:FrS B):LocV σ l q (some L'):=by
  refine lv h1 hz.1 hz.2.1 hz.2.2 ?_
  rw [e,e']
  exact X37 (Q4c rfl hA) (Z3b (cOks h0) (X37 (Q4c rfl hB) (cOkr (.cons hr .nil))))
def Q6d (ops:Array Oper)(q p:Nat):Array Oper:=ops.modify q fun o=>{ o with after:=o.after.push ⟨p,.data⟩ }
theorem Z49 (ops:Array Oper)(q p:Nat):(Q6d ops q p).size=ops.size:=by simp [Q6d]
theorem Q8w (ops:Array Oper)(q p i:Nat):(Q6d ops q p)[i]?=(ops[i]?).map fun o=>if q=i then { o with after:=o.after.push ⟨p,.data⟩ } else o:=by
  unfold Q6d
  rw [Array.getElem?_modify]
  split
  · rfl
  · cases ops[i]?<;>rfl
theorem W6j {P:Program}{ops:Array Oper}{Q:Exit→Act→World→Prop}(q p i:Nat){K:Act→World→Prop}{a:Act}{w:World}(h:wpOp P (Q6d ops q p) Q i K a w):wpOp P ops Q i K a w:=by
  unfold wpOp at h ⊢
  rw [Q8w] at h
  have hy:yielded (Q6d ops q p) a.tmps=yielded ops a.tmps:=by
    funext j
    unfold yielded
    rw [Q8w]
    cases ops[j]? with
    | none=>rfl
    | some o=>
      have e:(if q=j then ({ o with after:=o.after.push ⟨p,.data⟩ } : Oper) else o).dst=o.dst:=by split<;>rfl
      simp only [Option.map_some,U0,e]
  rw [hy] at h
  cases ho:ops[i]? with
  | none=>rw [ho] at h;exact h
  | some o=>
    rw [ho] at h
    simp only [Option.map_some] at h ⊢
    split at h
    · exact h
    · exact h
theorem Z1l {ops:Array Oper}{q p i:Nat}{listed:Array Bool}(h:i∈Region.ready .any ops listed)(hi:i=q→listed.getD p false=true):i∈Region.ready .any (Q6d ops q p) listed:=by
  unfold Region.ready at h ⊢
  rw [List.mem_filter,List.mem_range] at h ⊢
  rw [Z49,Q8w]
  refine ⟨h.1,?_⟩
  obtain ⟨_,h2⟩:=h
  cases ho:ops[i]? with
  | none=>rw [ho] at h2;exact h2
  | some o=>
    rw [ho] at h2
    simp only [Option.map_some,Option.getD_some,Bool.and_eq_true] at h2 ⊢
    refine ⟨h2.1,?_⟩
    split
    · rename_i hq
      simp only [Array.all_push,Bool.and_eq_true]
      exact ⟨h2.2,by simp [hi hq.symm]⟩
    · exact h2.2
theorem X09 {ops:Array Oper}{q p i:Nat}{listed:Array Bool}(h:i∈Region.ready .any (Q6d ops q p) listed):i∈Region.ready .any ops listed:=by
  unfold Region.ready at h ⊢
  rw [List.mem_filter,List.mem_range] at h ⊢
  rw [Z49,Q8w] at h
  refine ⟨h.1,?_⟩
  obtain ⟨_,h2⟩:=h
  cases ho:ops[i]? with
  | none=>rw [ho] at h2;exact h2
  | some o=>
    rw [ho] at h2
    simp only [Option.map_some,Option.getD_some,Bool.and_eq_true] at h2 ⊢
    refine ⟨h2.1,?_⟩
    have h3:=h2.2
    split at h3
    · simp only [Array.all_push,Bool.and_eq_true] at h3
      exact h3.1
    · exact h3
theorem V46 {l:Array Bool}{i p:Nat}(h:l.getD p false=true):(l.setIfInBounds i true).getD p false=true:=by
  simp only [Array.getD_eq_getD_getElem?,Array.getElem?_setIfInBounds] at h ⊢
  split
  · rename_i hi;subst hi
    split
    · rfl
    · rename_i hn;rw [Array.getElem?_eq_none (by omega)] at h;exact h
  · exact h
def SeqR (ops:Array Oper):Nat→Array Bool→List Nat→Prop
  | 0,_,[]=>True
  | 0,_,_::_=>False
  | _+1,listed,[]=>Region.ready .any ops listed=[]
  | n+1,listed,i::L=>i∈Region.ready .any ops listed∧SeqR ops n (listed.setIfInBounds i true) L
theorem Y2w {ops:Array Oper} : ∀ (n t:Nat) (listed:Array Bool),SeqR ops n listed (Region.linearise.go .any ops n t listed []):=by
  intro n
  induction n with
  | zero=>intro t listed;simp [Region.linearise.go,SeqR]
  | succ n ih=>
    intro t listed
    simp only [Region.linearise.go]
    change SeqR ops (n+1) listed (match (Region.ready .any ops listed)[t % (Region.ready .any ops listed).length]? with
      | some i=>Region.linearise.go .any ops n (t / (Region.ready .any ops listed).length) (listed.setIfInBounds i true) [i]
      | none=>[].reverse)
    cases hi:(Region.ready .any ops listed)[t % (Region.ready .any ops listed).length]? with
    | none=>
      cases hr:Region.ready .any ops listed with
      | nil=>simpa [SeqR] using hr
      | cons x xs=>
        rw [hr] at hi
        have hlt:t % (x::xs).length<(x::xs).length:=Nat.mod_lt _ (by simp)
        simp at hi
        simp at hlt
        omega
    | some i=>
      simp only []
      rw [linearise_go_acc,List.reverse_singleton,List.singleton_append]
      exact ⟨U1 hi,ih _ _⟩
theorem W74 {P:Program}{ops:Array Oper}{Q:Exit→Act→World→Prop} : ∀ (n:Nat) (listed:Array Bool) (L:List Nat) (a:Act) (w:World),wpAny P .any ops Q n listed a w→SeqR ops n listed L→wpOps P ops Q L a w
  | 0,_,[],a,w,h,_=>by simpa [wpOps] using h.2
  | 0,_,_::_,_,_,_,hs=>hs.elim
  | n+1,_,[],a,w,h,hs=>by simpa [wpOps] using h.1 hs
  | n+1,_,i::L,a,w,h,hs=>by
    rw [wpOps_cons]
    exact wpOp_mono (fun a w h=>W74 n _ L a w h hs.2) (h.2 i hs.1)
theorem Z71 {P:Program}{ops:Array Oper}{Q:Exit→Act→World→Prop}(q p:Nat):∀ (L:List Nat) (a:Act) (w:World),wpOps P (Q6d ops q p) Q L a w→wpOps P ops Q L a w
  | [],a,w,h=>by simpa [wpOps] using h
  | i::L,a,w,h=>by
    rw [wpOps_cons] at h ⊢
    exact W6j q p i (wpOp_mono (fun a w h=>Z71 q p L a w h) h)
theorem X02 {ops:Array Oper}{q p:Nat} : ∀ (n:Nat) (listed:Array Bool) (L:List Nat),listed.getD p false=true→SeqR ops n listed L→SeqR (Q6d ops q p) n listed L
  | 0,_,[],_,_=>trivial
  | 0,_,_::_,_,hs=>hs.elim
  | n+1,listed,[],_,hs=>List.eq_nil_iff_forall_not_mem.2 fun i hi=>by
    have:=X09 hi
    rw [show Region.ready .any ops listed=[] from hs] at this
    cases this
  | n+1,listed,i::L,hp,hs=>⟨Z1l hs.1 fun _=>hp,X02 n _ L (V46 hp) hs.2⟩
theorem W75 {ops:Array Oper}{q p:Nat}(hpq:p≠q)(hps:p<ops.size)(hqs:q<ops.size):∀ (n:Nat) (listed:Array Bool) (L:List Nat),listed.size=ops.size→SeqR ops n listed L→SeqR (Q6d ops q p) n listed L∨SeqR (Q6d ops p q) n listed L
  | 0,_,[],_,_=>.inl trivial
  | 0,_,_::_,_,hs=>hs.elim
  | n+1,listed,[],_,hs=>.inl (List.eq_nil_iff_forall_not_mem.2 fun i hi=>by
    have:=X09 hi
    rw [show Region.ready .any ops listed=[] from hs] at this
    cases this)
  | n+1,listed,i::L,hsz,hs=>by
    have done:∀ j,j<ops.size→(listed.setIfInBounds j true).getD j false=true:=fun j hj=>by
      simp only [Array.getD_eq_getD_getElem?]
      rw [Array.getElem?_setIfInBounds_self_of_lt (by omega)]
      rfl
    by_cases hiq:i=q
    · subst hiq
      exact .inr ⟨Z1l hs.1 (fun h=>absurd h.symm hpq),X02 n _ L (done i hqs) hs.2⟩
    · by_cases hip:i=p
      · subst hip
        exact .inl ⟨Z1l hs.1 (fun h=>absurd h hpq),X02 n _ L (done i hps) hs.2⟩
      · rcases W75 hpq hps hqs n _ L (by simpa using hsz) hs.2 with h | h
        · exact .inl ⟨Z1l hs.1 (fun h=>absurd h hiq),h⟩
        · exact .inr ⟨Z1l hs.1 (fun h=>absurd h hip),h⟩
theorem W2z {P:Program}{T:Ty}(hT:Z0w P T){β:Base}{σ:St}{Q:Exit→St→Prop}{ops:Array Oper}(l R X:List Nat)(hc:Q8l R [] [] X ops l=true)
    (hl:l.length=ops.size) (hh:∀ K:St→Prop,(∀ s,Q .normal s→K s)→runA P T R [] [] X ops l σ K) {a:Act} {c:Cx} (H:Conc β σ a c) :
    wpAny P .any ops (fun e a' w'=>e=.normal∧Post β (Q .normal) a' w') ops.size (Array.replicate ops.size false) a { c.w with drawn:=c.w.drawn+1 }:=by
  have h:=hh (Q .normal) fun _ hs=>hs
  simp only [Q8l,Bool.and_eq_true,List.all_eq_true,List.mem_range,decide_eq_true_eq] at hc
  obtain ⟨⟨hc1,hc2⟩,hc3⟩:=hc
  have hall:∀ i,i<ops.size→i∈l:=fun i hi=>by simpa using (hc2 i hi).1
  obtain ⟨hx,hh⟩:=H.heap.drawn (w':={ c.w with drawn:=c.w.drawn+1 }) rfl rfl rfl rfl
  have H':Conc β σ a ⟨c.M,c.fr,{ c.w with drawn:=c.w.drawn+1 }⟩:=⟨hh,H.size,H.defers,fun i=>(H.slots i).mono hx,fun k hk=>H.fresh k hk⟩
  refine W1o hT (fun z hz=>by cases hz) ops.size l (Array.replicate ops.size false) σ a _ hl (X4d l hc1) (by simp) (fun i hi=>?_) (fun j hj hjn=>absurd (hall j hj) hjn) (fun j hj e he=>(hc2 j hj).2 e he) H' (fun p _ q _ hm=>by cases X3c hm) h
  simp [hi,hall i hi]
theorem TrD.draw2 {P:Program}{T:Ty}(hT:Z0w P T)(hP:P.follows .mixedOrders=true){β:Base}{σ:St}{Q:Exit→St→Prop}{id:Nat}{ops:Array Oper}(q p:Nat)(l l' R X R' X':List Nat)(hpq:p≠q)(hps:p<ops.size)(hqs:q<ops.size)
    (hc:Q8l R [] [] X (Q6d ops q p) l=true) (hc':Q8l R' [] [] X' (Q6d ops p q) l'=true) (hl:l.length=(Q6d ops q p).size) (hl':l'.length=(Q6d ops p q).size)
    (h:∀ K:St→Prop,(∀ s,Q .normal s→K s)→runA P T R [] [] X (Q6d ops q p) l σ K) (h':∀ K:St→Prop,(∀ s,Q .normal s→K s)→runA P T R' [] [] X' (Q6d ops p q) l' σ K):TrD P β (.region id ops true) σ Q:=fun a c H=>by
  refine wp_mono (wp_region_draw (Q:=fun e a' w'=>e=.normal∧Post β (Q .normal) a' w') fun t=>?_) fun e a' w' hp=>by obtain ⟨rfl,hp⟩:=hp;exact hp
  simp only [Region.schedule,hP,Bool.true_or,if_true]
  have hs:=Y2w (ops:=ops) ops.size (t) (Array.replicate ops.size false)
  have h1:=W2z hT l R X hc hl h H
  have h2:=W2z hT l' R' X' hc' hl' h' H
  rw [Z49] at h1 h2
  rcases W75 hpq hps hqs ops.size _ _ (by simp) hs with hs | hs
  · exact Z71 q p _ a _ (W74 _ _ _ a _ h1 hs)
  · exact Z71 p q _ a _ (W74 _ _ _ a _ h2 hs)
theorem rvF {σ:St}{l:List Nat}{F:Nat}{A R:List (List D)}{row0 row row':List D}(hF:F<A.length)(hR:R=List.take F A++row0::List.drop (F+1) A)(hA:FrS A)(h:All2 (cOk σ l) row row'):Z1x σ (fun k=>l[k]?) (R.set F row) (A.set F row'):=by
  have e1:R.set F row=List.take F A++row::List.drop (F+1) A:=by
    rw [hR,List.set_append_right _ _ (by simp;omega)]
    simp [Nat.min_eq_left (Nat.le_of_lt hF)]
  have e2:A.set F row'=List.take F A++row'::List.drop (F+1) A:=by rw [List.set_eq_take_append_cons_drop,if_pos hF]
  rw [e1,e2]
  exact X37 (Q4c rfl fun r hr d hd=>hA r (List.mem_of_mem_take hr) d hd) (Z3b (cOks h) (Q4c rfl fun r hr d hd=>hA r (List.mem_of_mem_drop hr) d hd))
theorem Y88 {a b:Int} : (ieq a b=true)=(a=b):=by simp [ieq]
theorem Y89 {a b:Int} : (ieq a b=false)=(a≠b):=by simp [ieq]
theorem rvF0 {σ:St}{l:List Nat}{F:Nat}{A R:List (List D)}{row0 row':List D}(hF:F<A.length)(hR:R=List.take F A++row0::List.drop (F+1) A)(hA:FrS A)(h:All2 (cOk σ l) row0 row'):Z1x σ (fun k=>l[k]?) R (A.set F row'):=by
  have:=rvF (row0:=row0) hF hR hA h
  have e:R.set F row0=R:=by
    rw [hR,List.set_append_right _ _ (by simp;omega)]
    simp [Nat.min_eq_left (Nat.le_of_lt hF)]
  rwa [e] at this
theorem Z7v:∀ (n:Nat) (p0:X3) (p1:(List GFun)) (res:(List GFun)×X3),Q57 n p0 p1=some res→Q12 Tryz.prog 79 [⟨2,[(Q01 p0)],0,215⟩] [.ptr 2 0 0 0,(.slice 6 (List.map Q0d p1))] (fun H d=>H=[some ⟨2,[(Q01 res.2)],0,215⟩]∧d=(.slice 6 (List.map Q0d res.1))):=fun n p0 p1 res h=>by
  unfold Q57 at h
  obtain ⟨_,hc0,h1⟩:=bindE h
  clear h
  obtain ⟨a,ha,h2⟩:=bindE h1
  clear h1
  obtain ⟨b,hb,h3⟩:=bindE h2
  clear h2
  obtain ⟨x,hx,h⟩:=bindE h3
  clear h3
  have hc:=Q9v hc0
  clear hc0
  simp only [Bool.and_eq_true,decide_eq_true_eq,List.all_eq_true] at hc
  obtain ⟨hl,hall⟩:=hc
  have qa:=(Z1m p0 (lenZ p1.length)).pf _ ha
  have qb:=(Z1m a.2 24).pf _ hb
  refine (HCH (t:=.z) Tryz.func79 _ _ (hres:=by conv=>lhs;reduce) (fun β hβ=>?_)).pf
  have hF:a.1.toNat<p1.length:=Z8d hx
  ((with_reducible first | refine sR (fun K hK=>?_) | refine rR (fun K hK=>?_));first | simp [*,-h,-hK] | simp [*,-hK])
  (with_reducible refine hK _ ?_);clear hK
  ((with_reducible first | refine sR (fun K hK=>?_) | refine rR (fun K hK=>?_));first | simp [*,-h,-hK] | simp [*,-hK])
  (with_reducible refine hK _ ?_);clear hK
  refine sqR ?_
  ((with_reducible first | refine sR (fun K hK=>?_) | refine rR (fun K hK=>?_));first | simp [*,-h,-hK] | simp [*,-hK])
  (with_reducible refine hK _ ?_);clear hK
  refine bkR ⟨TrD.loopList p1 (yS p0 p1 a.1.toNat x 145) ?_ (fun pre y post hp=>?_) ?_⟩
  · simp [yS]
    refine Hn.pf (t:=.z) ?_
    ((with_reducible refine gHn ?_);(apply gL hβ)
     focus (repeat' first
      | exact InfR.n
      | (apply InfR.l;focus decide)
      | (apply InfR.h;focus ((repeat first | exact FndR.p rfl | exact FndR.s rfl | exact FndR.m rfl | apply FndR.t);done))
      | (apply InfR.b;focus ((repeat first | (apply FndB.h;exact rfl;exact rfl;exact rfl;exact rfl;(repeat first | exact FndC.s | apply FndC.t);done) | apply FndB.t);done))
      | (apply InfR.c;(focus ((repeat first | exact FndR.p rfl | exact FndR.s rfl | exact FndR.m rfl | apply FndR.t);done));exact rfl;exact rfl;exact rfl;exact rfl;focus ((repeat first | exact FndC.s | apply FndC.t);done)))
     focus decide
     focus (repeat first
      | exact TG.z
      | refine TG.a ?_
      | (refine TG.q ?_ ?_ ?_;rotate_left 1;(focus rfl);(focus decide))
      | (refine TG.r ?_ ?_ ?_;rotate_left 1;(focus (first | rfl | (simp [*];done)));(focus decide))
      | (refine TG.n ?_ ?_ ?_;rotate_left 1;(focus (first | rfl | (simp [*];done)));(focus decide))
      | (refine TG.f ?_ ?_ ?_;rotate_left 1;(focus (first | rfl | (simp [*];done)));(focus (first | (simp;done) | exact Fr1.pf)))
      | (refine TG.d ?_ ?_ ?_;rotate_left 1;(focus (first | rfl | (simp [*];done)));(focus (first | rfl | (simp [*];done)))))
     focus (repeat first
      | exact All2.nil
      | (refine All2.cons (lF ?_ ?_) ?_;(focus (first | rfl | (simp [*];done)));(focus (simp;done)))
      | (apply All2.cons;focus (apply lA;exact rfl;exact rfl;(focus (simp;done));(focus (first | rfl | (simp;done) | (simp;rfl)));(focus (simp [cOk,c0Ok,cpOk, *];done));(focus (simp;done)))))
     focus decide
     rfl)
  · have hpl:pre.length<p1.length:=by rw [hp];simp
    have hy:p1[pre.length]?=some y:=by rw [hp];simp
    have hrow:∀ f:GFun→List D,X04 (p1.map f) (pre.length:Int)=f y:=X4n (W8c hy)
    have hinb:inb (pre.length:Int) p1.length:=Z3u (W8c hy)
    have hilt:ilt (pre.length:Int) (lenZ p1.length)=true:=V5x hpl
    have hw:wadd .i64 (pre.length:Int) 1=(pre.length:Int)+1:=X60 hpl (by simp only [Q0c];omega)
    have hyl:y.clauses.length≤1000∧y.bodies.length≤1000:=hall y (U1 hy)
    clear hp
    by_cases hlt:a.1.toNat<pre.length
    · have ht1:List.take a.1.toNat (List.map Q0d (pre++[y]))=List.take a.1.toNat (List.map Q0d pre):=by
        rw [List.map_append];exact List.take_append_of_le_length (by simp;omega)
      have ht2:List.drop (a.1.toNat+1) (List.map Q0d (pre++[y]))=List.drop (a.1.toNat+1) (List.map Q0d pre)++[Q0d y]:=by
        rw [List.map_append];exact List.drop_append_of_le_length (by simp;omega)
      simp only [yS,if_pos hlt,ht1,ht2]
      refine Hn.pf (t:=.z) ?_
      refine sqR ?_
      refine sqR ?_
      ((with_reducible first | refine sR (fun K hK=>?_) | refine rR (fun K hK=>?_));first | simp [*,-h,-hK] | simp [*,-hK])
      (with_reducible refine hK _ ?_);clear hK
      refine qs_n ?_
      refine cdT true ?_ rfl ?_
      · simp [*]
      refine skR (qs_n ?_)
      refine sqR ?_
      refine bkR ?_
      refine ⟨Hn.pf (t:=.g [0,1,5,6] [0,1,2] [] [] (.dz [0,1,2,3,4,5,7,8,9,10,11,14,15,16,17,18,6,12,13,19,20,21,22,23] [] [1048604] [] .z)) ?_⟩
      (refine gT ?_ ?_ ?_ ?_;rotate_left 1;focus (first | (simp [stR,uT,uH,ren1,nmI,renI];done) | (simp [stR,uT,uH,ren1,nmI,renI];rfl)))
      · refine gHn (gLx hβ [0,1,2] (by decide) ?_ ?_ (by decide) rfl)
        · (repeat first
           | exact TG.z
           | refine TG.a ?_
           | (refine TG.q ?_ ?_ ?_;rotate_left 1;(focus rfl);(focus decide))
           | (refine TG.r ?_ ?_ ?_;rotate_left 1;(focus (first | rfl | (simp [*];done)));(focus decide))
           | (refine TG.n ?_ ?_ ?_;rotate_left 1;(focus (first | rfl | (simp [*];done)));(focus decide))
           | (refine TG.f ?_ ?_ ?_;rotate_left 1;(focus (first | rfl | (simp [*];done)));(focus (first | (simp;done) | exact Fr1.pf)))
           | (refine TG.d ?_ ?_ ?_;rotate_left 1;(focus (first | rfl | (simp [*];done)));(focus (first | rfl | (simp [*];done)))))
        · refine All2.cons ?_ (All2.cons ?_ (All2.cons ?_ All2.nil))
          · exact lF rfl (by simp)
          · apply lB0
            · rfl
            · rfl
            · simp
            · rfl
            · simp [cOk,c0Ok,cpOk,rowB, *]
            · exact frT _ _
            · exact frD _ _
          · exact lF rfl (by simp)
      ((first | refine zS ?_ ?_ ?_ (fun K hK=>?_) | refine zR ?_ ?_ ?_ (fun K hK=>?_));(focus rfl);(focus rfl);(focus (exact Nat.le_of_ble_eq_true rfl));first | simp [*,-h,-hK] | simp [*,-hK])
      refine ⟨by simp only [Q9];omega,by simp only [Q9];omega,by simp only [Q9];omega,hK _ ?_⟩
      clear hK
      refine qb_n (qs_n ?_)
      ((with_reducible first | refine sR (fun K hK=>?_) | refine rR (fun K hK=>?_));first | simp [*,-h,-hK] | simp [*,-hK])
      (with_reducible refine hK _ ?_);clear hK
      show Hn .z (V3 _ _ _)
      simp only [U5,U3,U4,Nat.zero_add]
      rw [if_pos (by omega)]
      refine ⟨Hn.pf (t:=.pF 2097160 (.pF 2097168 .z)) ?_⟩
      (refine pF_g ?_ ?_ ?_;rotate_left 1;focus (first | (simp [frzS];done) | (simp [frzS];rfl)))
      (refine pF_g ?_ ?_ ?_;rotate_left 1;focus (first | (simp [frzS];done) | (simp [frzS];rfl)))
      refine gHn (gLx hβ [0,2097184,2] (by decide) ?_ ?_ (by decide) rfl)
      · (repeat first
         | exact TG.z
         | refine TG.a ?_
         | (refine TG.q ?_ ?_ ?_;rotate_left 1;(focus rfl);(focus decide))
         | (refine TG.r ?_ ?_ ?_;rotate_left 1;(focus (first | rfl | (simp [*];done)));(focus decide))
         | (refine TG.n ?_ ?_ ?_;rotate_left 1;(focus (first | rfl | (simp [*];done)));(focus decide))
         | (refine TG.f ?_ ?_ ?_;rotate_left 1;(focus (first | rfl | (simp [*];done)));(focus (first | (simp;done) | exact Fr1.pf)))
         | (refine TG.d ?_ ?_ ?_;rotate_left 1;(focus (first | rfl | (simp [*];done)));(focus (first | rfl | (simp [*];done)))))
      · refine All2.cons ?_ (All2.cons ?_ (All2.cons ?_ All2.nil))
        · exact lF rfl (by simp)
        · apply lB
          · rfl
          · rfl
          · simp
          · rfl
          · simp [cOk,c0Ok,cpOk,rowB, *]
          · simp [cOk,c0Ok,cpOk, *]
          · exact frT _ _
          · exact frD _ _
        · exact lF rfl (by simp)
    · simp only [yS,if_neg hlt]
      refine Hn.pf (t:=.z) ?_
      refine sqR ?_
      refine sqR ?_
      ((with_reducible first | refine sR (fun K hK=>?_) | refine rR (fun K hK=>?_));first | simp [*,-h,-hK] | simp [*,-hK])
      (with_reducible refine hK _ ?_);clear hK
      refine qs_n ?_
      refine cdT true ?_ rfl ?_
      · simp [*]
      refine skR (qs_n ?_)
      refine sqR ?_
      refine bkR ?_
      refine ⟨Hn.pf (t:=.g [0,1,5,6] [0,1] [] [] (.dz [0,1,2,3,4,5,7,8,9,10,11,14,15,16,17,18,6,12,13,19,20,21,22,23] [] [1048604] [] .z)) ?_⟩
      (refine gT ?_ ?_ ?_ ?_;rotate_left 1;focus (first | (simp [stR,uT,uH,ren1,nmI,renI];done) | (simp [stR,uT,uH,ren1,nmI,renI];rfl)))
      · ((with_reducible refine gHn ?_);(apply gL hβ)
         focus (repeat' first
          | exact InfR.n
          | (apply InfR.l;focus decide)
          | (apply InfR.h;focus ((repeat first | exact FndR.p rfl | exact FndR.s rfl | exact FndR.m rfl | apply FndR.t);done))
          | (apply InfR.b;focus ((repeat first | (apply FndB.h;exact rfl;exact rfl;exact rfl;exact rfl;(repeat first | exact FndC.s | apply FndC.t);done) | apply FndB.t);done))
          | (apply InfR.c;(focus ((repeat first | exact FndR.p rfl | exact FndR.s rfl | exact FndR.m rfl | apply FndR.t);done));exact rfl;exact rfl;exact rfl;exact rfl;focus ((repeat first | exact FndC.s | apply FndC.t);done)))
         focus decide
         focus (repeat first
          | exact TG.z
          | refine TG.a ?_
          | (refine TG.q ?_ ?_ ?_;rotate_left 1;(focus rfl);(focus decide))
          | (refine TG.r ?_ ?_ ?_;rotate_left 1;(focus (first | rfl | (simp [*];done)));(focus decide))
          | (refine TG.n ?_ ?_ ?_;rotate_left 1;(focus (first | rfl | (simp [*];done)));(focus decide))
          | (refine TG.f ?_ ?_ ?_;rotate_left 1;(focus (first | rfl | (simp [*];done)));(focus (first | (simp;done) | exact Fr1.pf)))
          | (refine TG.d ?_ ?_ ?_;rotate_left 1;(focus (first | rfl | (simp [*];done)));(focus (first | rfl | (simp [*];done)))))
         focus (repeat first
          | exact All2.nil
          | (refine All2.cons (lF ?_ ?_) ?_;(focus (first | rfl | (simp [*];done)));(focus (simp;done)))
          | (apply All2.cons;focus (apply lA;exact rfl;exact rfl;(focus (simp;done));(focus (first | rfl | (simp;done) | (simp;rfl)));(focus (simp [cOk,c0Ok,cpOk, *];done));(focus (simp;done)))))
         focus decide
         rfl)
      ((first | refine zS ?_ ?_ ?_ (fun K hK=>?_) | refine zR ?_ ?_ ?_ (fun K hK=>?_));(focus rfl);(focus rfl);(focus (exact Nat.le_of_ble_eq_true rfl));first | simp [*,-h,-hK] | simp [*,-hK])
      refine ⟨by simp only [Q9];omega,by simp only [Q9];omega,by simp only [Q9];omega,hK _ ?_⟩
      clear hK
      refine qb_n (qs_n ?_)
      ((with_reducible first | refine sR (fun K hK=>?_) | refine rR (fun K hK=>?_));first | simp [*,-h,-hK] | simp [*,-hK])
      (with_reducible refine hK _ ?_);clear hK
      show Hn .z (V3 _ _ _)
      by_cases hFe:a.1.toNat=pre.length
      · have hxy:x=y:=by have:=Q9d hx;rw [hFe,hy] at this;exact (Option.some.inj this).symm
        subst hxy
        rw [hFe]
        simp only [yS,U5,U3,U4,Nat.zero_add,Nat.lt_succ_self,if_true]
        refine ⟨Hn.pf (t:=.pF 2097160 .z) ?_⟩
        (refine pF_g ?_ ?_ ?_;rotate_left 1;focus (first | (simp [frzS];done) | (simp [frzS];rfl)))
        refine gHn (gLx hβ [0,2097184,2097168] (by decide) ?_ ?_ (by decide) rfl)
        · (repeat first
           | exact TG.z
           | refine TG.a ?_
           | (refine TG.q ?_ ?_ ?_;rotate_left 1;(focus rfl);(focus decide))
           | (refine TG.r ?_ ?_ ?_;rotate_left 1;(focus (first | rfl | (simp [*];done)));(focus decide))
           | (refine TG.n ?_ ?_ ?_;rotate_left 1;(focus (first | rfl | (simp [*];done)));(focus decide))
           | (refine TG.f ?_ ?_ ?_;rotate_left 1;(focus (first | rfl | (simp [*];done)));(focus (first | (simp;done) | exact Fr1.pf)))
           | (refine TG.d ?_ ?_ ?_;rotate_left 1;(focus (first | rfl | (simp [*];done)));(focus (first | rfl | (simp [*];done)))))
        · refine All2.cons ?_ (All2.cons ?_ (All2.cons ?_ All2.nil))
          · exact lF rfl (by simp)
          · apply lA
            · rfl
            · rfl
            · simp
            · simp [rowB];rfl
            · simp [cOk,c0Ok,cpOk, *]
            · simp
          · exact lF (by simp) (by simp)
      · rw [if_neg (by simp;omega)]
        refine ⟨Hn.pf (t:=.pF 2097160 (.pF 2097168 .z)) ?_⟩
        (refine pF_g ?_ ?_ ?_;rotate_left 1;focus (first | (simp [frzS];done) | (simp [frzS];rfl)))
        (refine pF_g ?_ ?_ ?_;rotate_left 1;focus (first | (simp [frzS];done) | (simp [frzS];rfl)))
        simp
        ((with_reducible refine gHn ?_);(apply gL hβ)
         focus (repeat' first
          | exact InfR.n
          | (apply InfR.l;focus decide)
          | (apply InfR.h;focus ((repeat first | exact FndR.p rfl | exact FndR.s rfl | exact FndR.m rfl | apply FndR.t);done))
          | (apply InfR.b;focus ((repeat first | (apply FndB.h;exact rfl;exact rfl;exact rfl;exact rfl;(repeat first | exact FndC.s | apply FndC.t);done) | apply FndB.t);done))
          | (apply InfR.c;(focus ((repeat first | exact FndR.p rfl | exact FndR.s rfl | exact FndR.m rfl | apply FndR.t);done));exact rfl;exact rfl;exact rfl;exact rfl;focus ((repeat first | exact FndC.s | apply FndC.t);done)))
         focus decide
         focus (repeat first
          | exact TG.z
          | refine TG.a ?_
          | (refine TG.q ?_ ?_ ?_;rotate_left 1;(focus rfl);(focus decide))
          | (refine TG.r ?_ ?_ ?_;rotate_left 1;(focus (first | rfl | (simp [*];done)));(focus decide))
          | (refine TG.n ?_ ?_ ?_;rotate_left 1;(focus (first | rfl | (simp [*];done)));(focus decide))
          | (refine TG.f ?_ ?_ ?_;rotate_left 1;(focus (first | rfl | (simp [*];done)));(focus (first | (simp;done) | exact Fr1.pf)))
          | (refine TG.d ?_ ?_ ?_;rotate_left 1;(focus (first | rfl | (simp [*];done)));(focus (first | rfl | (simp [*];done)))))
         focus (repeat first
          | exact All2.nil
          | (refine All2.cons (lF ?_ ?_) ?_;(focus (first | rfl | (simp [*];done)));(focus (simp;done)))
          | (apply All2.cons;focus (apply lA;exact rfl;exact rfl;(focus (simp;done));(focus (first | rfl | (simp;done) | (simp;rfl)));(focus (simp [cOk,c0Ok,cpOk, *];done));(focus (simp;done)))))
         focus decide
         rfl)
  · simp only [yS,if_pos hF]
    have hilf:ilt (p1.length:Int) (lenZ p1.length)=false:=W8b _
    refine Hn.pf (t:=.z) ?_
    refine sqR ?_
    refine sqR ?_
    ((with_reducible first | refine sR (fun K hK=>?_) | refine rR (fun K hK=>?_));first | simp [*,-h,-hK] | simp [*,-hK])
    (with_reducible refine hK _ ?_);clear hK
    refine qs_n ?_
    refine cdF false ?_ rfl ?_
    · simp [*]
    refine exR ?_
    show Hn .z (TrD _ _ _ _ _)
    have e6:ieq (lenZ p1.length) 0=false:=by simp only [ieq,lenZ];exact decide_eq_false (by omega)
    refine sqR ?_
    ((with_reducible first | refine sR (fun K hK=>?_) | refine rR (fun K hK=>?_));first | simp [*,-h,-hK] | simp [*,-hK])
    (with_reducible refine hK _ ?_);clear hK
    refine cdF false ?_ rfl ?_
    · simp [*]
    refine skR (qs_n ?_)
    have q1:=qa
    ((with_reducible first | refine sR (fun K hK=>?_) | refine rR (fun K hK=>?_));first | simp [*,-h,-hK] | simp [*,-hK])
    ((refine X8a q1 ?_ ?_ ?_ ?_ ?_ ?_ ?_ ?_ ?_ ?_ ?_ ?_ ?_
      rotate_left 1
      focus (first | (simp [infK,fndK,nmA,nmL,nmD];done) | (simp [infK,fndK,nmA,nmL,nmD];rfl))
      focus (simp [vwK,nmA,nmL,nmD,vw1,vw0,vwC, *,-hK];done)
      focus decide
      rotate_left 1
      focus (first | (simp [J3];done) | (simp [J3];rfl))
      focus (repeat first
       | exact All2.nil
       | (refine All2.cons (lRn ?_ ?_) ?_;(focus (simp [vwK,nmA,nmL,nmD,vw1,vw0,vwC, *,-hK];done));(focus (first | (simp;done) | exact Q6 FrR.pf _))))
      focus (simp [vwK,nmA,nmL,nmD,vw1,vw0,vwC,-Q5w,-Q6x];repeat first
       | exact All2.nil
       | refine All2.cons (Z21 rfl) ?_
       | refine All2.cons (Q9g rfl) ?_
       | (refine All2.cons (Z3d ?_) ?_;focus (repeat first | exact All2.nil | refine All2.cons (Q9g rfl) ?_ | (refine All2.cons (Q9h ?_ ?_) ?_;(focus (first | (simp [*,-hK];done) | exact Fr1.pf));(focus (simp [*,-hK];done)))))
       | (refine All2.cons (Q9h ?_ ?_) ?_;(focus (first | (simp [*,-hK];done) | exact Fr1.pf));(focus (simp [*,-hK];done))))
      focus (simp;done)
      focus (simp;first | done | exact Q6 FrR.pf _)
      focus decide
      focus (simp [Z5v,Q8o,Q7z];done))
     clear q1;(try (revert q2;intro q1));first | simp [vw1,vw0,vwC,vwK,nmA,nmL,nmD,rnm,rnmA,rnm0,Q26, *,-h,-hK] | simp [vw1,vw0,vwC,vwK,nmA,nmL,nmD,rnm,rnmA,rnm0,Q26, *,-hK] | skip)
    (with_reducible refine hK _ ?_);clear hK
    have q1:=qb
    refine sqR ?_
    ((with_reducible first | refine sR (fun K hK=>?_) | refine rR (fun K hK=>?_));first | simp [*,-h,-hK] | simp [*,-hK])
    ((refine X8a q1 ?_ ?_ ?_ ?_ ?_ ?_ ?_ ?_ ?_ ?_ ?_ ?_ ?_
      rotate_left 1
      focus (first | (simp [infK,fndK,nmA,nmL,nmD];done) | (simp [infK,fndK,nmA,nmL,nmD];rfl))
      focus (simp [vwK,nmA,nmL,nmD,vw1,vw0,vwC, *,-hK];done)
      focus decide
      rotate_left 1
      focus (first | (simp [J3];done) | (simp [J3];rfl))
      focus (repeat first
       | exact All2.nil
       | (refine All2.cons (lRn ?_ ?_) ?_;(focus (simp [vwK,nmA,nmL,nmD,vw1,vw0,vwC, *,-hK];done));(focus (first | (simp;done) | exact Q6 FrR.pf _))))
      focus (simp [vwK,nmA,nmL,nmD,vw1,vw0,vwC,-Q5w,-Q6x];repeat first
       | exact All2.nil
       | refine All2.cons (Z21 rfl) ?_
       | refine All2.cons (Q9g rfl) ?_
       | (refine All2.cons (Z3d ?_) ?_;focus (repeat first | exact All2.nil | refine All2.cons (Q9g rfl) ?_ | (refine All2.cons (Q9h ?_ ?_) ?_;(focus (first | (simp [*,-hK];done) | exact Fr1.pf));(focus (simp [*,-hK];done)))))
       | (refine All2.cons (Q9h ?_ ?_) ?_;(focus (first | (simp [*,-hK];done) | exact Fr1.pf));(focus (simp [*,-hK];done))))
      focus (simp;done)
      focus (simp;first | done | exact Q6 FrR.pf _)
      focus decide
      focus (simp [Z5v,Q8o,Q7z];done))
     clear q1;(try (revert q2;intro q1));first | simp [vw1,vw0,vwC,vwK,nmA,nmL,nmD,rnm,rnmA,rnm0,Q26, *,-h,-hK] | simp [vw1,vw0,vwC,vwK,nmA,nmL,nmD,rnm,rnmA,rnm0,Q26, *,-hK] | skip)
    (with_reducible refine hK _ ?_);clear hK
    obtain ⟨R,hR⟩:∃ R,R=List.take a.1.toNat (List.map Q0d p1)++rowB x x.bodies.length::List.drop (a.1.toNat+1) (List.map Q0d p1):=⟨_,rfl⟩
    rw [←hR]
    refine ⟨TrD.ghost (σ':=⟨lk [(0,.ptr 2 0 0 0),(5,.sl 6 1 p1.length),(7,eI a.1),(47,eI b.1)],hOfO [some ⟨2,[Q01 b.2],0,215⟩,some ⟨6,R,0,53⟩,some ⟨4,List.map V8 x.bodies,0,55⟩],3,145⟩) ?_ (Hn.pf (t:=.z) ?_)⟩
    · refine gLx hβ [0,1,2] (by decide) ?_ ?_ (by decide) rfl
      · (repeat first
         | exact TG.z
         | refine TG.a ?_
         | (refine TG.q ?_ ?_ ?_;rotate_left 1;(focus rfl);(focus decide))
         | (refine TG.r ?_ ?_ ?_;rotate_left 1;(focus (first | rfl | (simp [*];done)));(focus decide))
         | (refine TG.n ?_ ?_ ?_;rotate_left 1;(focus (first | rfl | (simp [*];done)));(focus decide))
         | (refine TG.f ?_ ?_ ?_;rotate_left 1;(focus (first | rfl | (simp [*];done)));(focus (first | (simp;done) | exact Fr1.pf)))
         | (refine TG.d ?_ ?_ ?_;rotate_left 1;(focus (first | rfl | (simp [*];done)));(focus (first | rfl | (simp [*];done)))))
      · refine All2.cons ?_ (All2.cons ?_ (All2.cons ?_ All2.nil))
        · exact lF (by simp) (by simp)
        · rw [hR]
          apply lB0
          · rfl
          · rfl
          · simp
          · rfl
          · simp [cOk,c0Ok,cpOk,rowB, *]
          · exact frT _ _
          · exact frD _ _
        · exact lF rfl (by simp)
    have hRl:R.length=p1.length:=by rw [hR];simp;omega
    have hRr:R[a.1.toNat]?=some (rowB x x.bodies.length):=by
      rw [hR,List.getElem?_append_right (by simp;omega)]
      simp [Nat.min_eq_left (Nat.le_of_lt hF)]
    have hRS:Sl (R=List.take a.1.toNat (List.map Q0d p1)++rowB x x.bodies.length::List.drop (a.1.toNat+1) (List.map Q0d p1)):=hR
    clear hR
    by_cases h1:b.1=1
    · have c0:ieq b.1 0=false:=by rw [h1];rfl
      have c1:ieq b.1 1=true:=by rw [h1];rfl
      clear h1
      rw [if_pos c1] at h
      cases h
      have hxb:x.bodies.length≤1000:=(hall x (U1 (Q9d hx))).2
      have hinb:inb a.1 p1.length:=Z3u hx
      have hRe:∀ hi:a.1.toNat<R.length,R[a.1.toNat]=[eI x.typ.arg.data,eI x.typ.arg.index,eI x.typ.res.data,eI x.typ.res.index,.slice 9 (List.map V6 x.clauses),.sl 4 2 x.bodies.length]:=fun hi=>by
        have:=hRr
        rw [U10 hi] at this
        exact Option.some.inj this
      have hset:(List.map V8 x.bodies++[[D.val (Value.int IntKind.i64 0),D.val (Value.int IntKind.i64 0),D.val (Value.int IntKind.i64 0),D.nil]]).set (lenZ x.bodies.length).toNat [D.val (Value.int IntKind.i64 1),D.val (Value.int IntKind.i64 0),D.val (Value.int IntKind.i64 0),D.nil]=List.map V8 x.bodies++[[D.val (Value.int IntKind.i64 1),D.val (Value.int IntKind.i64 0),D.val (Value.int IntKind.i64 0),D.nil]]:=by
        have e:(lenZ x.bodies.length).toNat=(List.map V8 x.bodies).length:=by rw [U7];rfl
        rw [e,List.set_append_right _ _ (Nat.le_refl _),Nat.sub_self]
        rfl
      have hrat:X04 R a.1=rowB x x.bodies.length:=by unfold X04;simp [hRr]
      refine bkR ?_
      ((with_reducible first | refine sR (fun K hK=>?_) | refine rR (fun K hK=>?_));first | simp [*,-h,-hK] | simp [*,-hK])
      (with_reducible refine hK _ ?_);clear hK
      refine cdF false ?_ rfl ?_
      · simp [*]
      ((with_reducible first | refine sR (fun K hK=>?_) | refine rR (fun K hK=>?_));first | simp [*,-h,-hK] | simp [*,-hK])
      (with_reducible refine hK _ ?_);clear hK
      refine cdT true ?_ rfl ?_
      · simp [*]
      refine ⟨TrD.draw2 Z73 W3v 13 10 [0,1,2,3,4,5,6,7,8,9,11,12,10,13] [0,1,2,3,4,5,6,7,8,11,12,9,13,10] [1,43] [70,72] [1,43] [70,72] (by decide) (by decide) (by decide) rfl rfl rfl rfl (fun K hK=>?_) (fun K hK=>?_)⟩
      · simp [Q8w, *,-hK]
        refine ⟨by simp only [Q9];omega,by unfold inb lenZ;omega,by unfold lenZ;omega,hK _ ?_⟩
        clear hK
        refine Hn.pf (t:=.z) (qb_n (qs_n ?_))
        ((with_reducible first | refine sR (fun K hK=>?_) | refine rR (fun K hK=>?_));first | simp [*,-h,-hK] | simp [*,-hK])
        (with_reducible refine hK _ ?_);clear hK
        refine rtR ?_
        (refine eH1 ?_ ?_ ?_ ?_);rotate_left 1
        focus (first | (simp [slX,lcX,Z79];done) | (simp [slX,lcX,Z79];rfl))
        rotate_left 1
        focus (first | exact eA | (dsimp only [resD];exact eA) | (simp [resD];refine eXa rfl rfl ?_ ?_ ?_ ?_;(focus (simp [Q8o,Q7z];done));(focus (simp;first | done | exact Q6 FrR.pf _));(focus (simp;done));(focus (simp;done))))
        refine ⟨Hn.pf (t:=.pF 43 (.pF 1 .z)) ?_⟩
        (refine pF_g ?_ ?_ ?_;rotate_left 1;focus (first | (simp [frzS];done) | (simp [frzS];rfl)))
        (refine pF_g ?_ ?_ ?_;rotate_left 1;focus (first | (simp [frzS];done) | (simp [frzS];rfl)))
        refine gHn (gLx hβ [0] (by decide) (TG.z.u ?_) ?_ (by decide) rfl)
        · show RenV _ _ (.sl 6 1 p1.length) _
          refine Z4q (by simp;rfl) rfl (by simp [hRl]) (by simp [hRl]) ?_
          refine rvF (row0:=rowB x x.bodies.length) (by simpa using hF) hRS (Q6 Z2k p1) ?_
          simp [cOk,c0Ok,cpOk, *]
        · exact All2.cons (lF (by simp) (by simp)) All2.nil
      · simp [Q8w, *,-hK]
        refine ⟨by simp only [Q9];omega,by unfold inb lenZ;omega,by unfold lenZ;omega,hK _ ?_⟩
        clear hK
        refine Hn.pf (t:=.z) (qb_n (qs_n ?_))
        ((with_reducible first | refine sR (fun K hK=>?_) | refine rR (fun K hK=>?_));first | simp [*,-h,-hK] | simp [*,-hK])
        (with_reducible refine hK _ ?_);clear hK
        refine rtR ?_
        (refine eH1 ?_ ?_ ?_ ?_);rotate_left 1
        focus (first | (simp [slX,lcX,Z79];done) | (simp [slX,lcX,Z79];rfl))
        rotate_left 1
        focus (first | exact eA | (dsimp only [resD];exact eA) | (simp [resD];refine eXa rfl rfl ?_ ?_ ?_ ?_;(focus (simp [Q8o,Q7z];done));(focus (simp;first | done | exact Q6 FrR.pf _));(focus (simp;done));(focus (simp;done))))
        refine ⟨Hn.pf (t:=.pF 43 (.pF 1 .z)) ?_⟩
        (refine pF_g ?_ ?_ ?_;rotate_left 1;focus (first | (simp [frzS];done) | (simp [frzS];rfl)))
        (refine pF_g ?_ ?_ ?_;rotate_left 1;focus (first | (simp [frzS];done) | (simp [frzS];rfl)))
        refine gHn (gLx hβ [0] (by decide) (TG.z.u ?_) ?_ (by decide) rfl)
        · show RenV _ _ (.sl 6 1 p1.length) _
          refine Z4q (by simp;rfl) rfl (by simp [hRl]) (by simp [hRl]) ?_
          refine rvF (row0:=rowB x x.bodies.length) (by simpa using hF) hRS (Q6 Z2k p1) ?_
          simp [cOk,c0Ok,cpOk, *]
        · exact All2.cons (lF (by simp) (by simp)) All2.nil
    · have c1:ieq b.1 1=false:=by rw [Y89];exact h1
      clear h1
      rw [if_neg (by rw [c1];exact Bool.false_ne_true)] at h
      by_cases h2:b.1=2
      · have c0:ieq b.1 0=false:=by rw [h2];rfl
        have c2:ieq b.1 2=true:=by rw [h2];rfl
        clear h2
        rw [if_pos c2] at h
        have hinb:inb a.1 p1.length:=Z3u hx
        have hRe:∀ hi:a.1.toNat<R.length,R[a.1.toNat]=[eI x.typ.arg.data,eI x.typ.arg.index,eI x.typ.res.data,eI x.typ.res.index,.slice 9 (List.map V6 x.clauses),.sl 4 2 x.bodies.length]:=fun hi=>by
          have:=hRr
          rw [U10 hi] at this
          exact Option.some.inj this
        have hrat:X04 R a.1=rowB x x.bodies.length:=by unfold X04;simp [hRr]
        refine bkR ?_
        ((with_reducible first | refine sR (fun K hK=>?_) | refine rR (fun K hK=>?_));first | simp [*,-h,-hK] | simp [*,-hK])
        (with_reducible refine hK _ ?_);clear hK
        refine cdF false ?_ rfl ?_
        · simp [*]
        ((with_reducible first | refine sR (fun K hK=>?_) | refine rR (fun K hK=>?_));first | simp [*,-h,-hK] | simp [*,-hK])
        (with_reducible refine hK _ ?_);clear hK
        refine cdF false ?_ rfl ?_
        · simp [*]
        ((with_reducible first | refine sR (fun K hK=>?_) | refine rR (fun K hK=>?_));first | simp [*,-h,-hK] | simp [*,-hK])
        (with_reducible refine hK _ ?_);clear hK
        refine cdT true ?_ rfl ?_
        · simp [*]
        by_cases h0:ilt 0 (lenZ x.bodies.length)=true
        · rw [if_pos h0] at h
          obtain ⟨e,he,h3⟩:=bindE h
          clear h
          obtain ⟨c,hc,h4⟩:=bindE h3
          clear h3
          obtain ⟨d,hd,h⟩:=bindE h4
          clear h4
          cases h
          ((with_reducible first | refine sR (fun K hK=>?_) | refine rR (fun K hK=>?_));first | simp [*,-h,-hK] | simp [*,-hK])
          (with_reducible refine hK _ ?_);clear hK
          refine cdT true ?_ rfl ?_
          · simp [*]
          have q1:=(Z2x n b.2 e).pf _ hc
          have q2:=(Z2x n c.2 c.1).pf _ hd
          have e1:=Z3u he
          have e2:=Q9d he
          have e3:=Z8d he
          have e4:=elt (Q9d he)
          have e5:∀ f:Z1→List D,X04 (x.bodies.map f) 0=f e:=X4n he
          clear he hc hd ha hb qa qb
          simp only [Int.reduceToNat] at e2 e3 e4
          refine ⟨TrD.draw Z73 W3v [0,1,2,3,4,5,6,7,8,9,10,11,12,13,14,15,16,17] [1,2] [98] rfl rfl (fun K hK=>?_)⟩
          simp [*,-hK]
          ((refine X8a q1 ?_ ?_ ?_ ?_ ?_ ?_ ?_ ?_ ?_ ?_ ?_ ?_ ?_
            rotate_left 1
            focus (first | (simp [infK,fndK,nmA,nmL,nmD];done) | (simp [infK,fndK,nmA,nmL,nmD];rfl))
            focus (simp [vwK,nmA,nmL,nmD,vw1,vw0,vwC, *,-hK];done)
            focus decide
            rotate_left 1
            focus (first | (simp [J3];done) | (simp [J3];rfl))
            focus (repeat first
             | exact All2.nil
             | (refine All2.cons (lRn ?_ ?_) ?_;(focus (simp [vwK,nmA,nmL,nmD,vw1,vw0,vwC, *,-hK];done));(focus (first | (simp;done) | exact Q6 FrR.pf _))))
            focus (simp [vwK,nmA,nmL,nmD,vw1,vw0,vwC,-Q5w,-Q6x];repeat first
             | exact All2.nil
             | refine All2.cons (Z21 rfl) ?_
             | refine All2.cons (Q9g rfl) ?_
             | (refine All2.cons (Z3d ?_) ?_;focus (repeat first | exact All2.nil | refine All2.cons (Q9g rfl) ?_ | (refine All2.cons (Q9h ?_ ?_) ?_;(focus (first | (simp [*,-hK];done) | exact Fr1.pf));(focus (simp [*,-hK];done)))))
             | (refine All2.cons (Q9h ?_ ?_) ?_;(focus (first | (simp [*,-hK];done) | exact Fr1.pf));(focus (simp [*,-hK];done))))
            focus (simp;done)
            focus (simp;first | done | exact Q6 FrR.pf _)
            focus decide
            focus (simp [Z5v,Q8o,Q7z];done))
           clear q1;(try (revert q2;intro q1));first | simp [vw1,vw0,vwC,vwK,nmA,nmL,nmD,rnm,rnmA,rnm0,Q26, *,-h,-hK] | simp [vw1,vw0,vwC,vwK,nmA,nmL,nmD,rnm,rnmA,rnm0,Q26, *,-hK] | skip)
          ((refine X8a q1 ?_ ?_ ?_ ?_ ?_ ?_ ?_ ?_ ?_ ?_ ?_ ?_ ?_
            rotate_left 1
            focus (first | (simp [infK,fndK,nmA,nmL,nmD];done) | (simp [infK,fndK,nmA,nmL,nmD];rfl))
            focus (simp [vwK,nmA,nmL,nmD,vw1,vw0,vwC, *,-hK];done)
            focus decide
            rotate_left 1
            focus (first | (simp [J3];done) | (simp [J3];rfl))
            focus (repeat first
             | exact All2.nil
             | (refine All2.cons (lRn ?_ ?_) ?_;(focus (simp [vwK,nmA,nmL,nmD,vw1,vw0,vwC, *,-hK];done));(focus (first | (simp;done) | exact Q6 FrR.pf _))))
            focus (simp [vwK,nmA,nmL,nmD,vw1,vw0,vwC,-Q5w,-Q6x];repeat first
             | exact All2.nil
             | refine All2.cons (Z21 rfl) ?_
             | refine All2.cons (Q9g rfl) ?_
             | (refine All2.cons (Z3d ?_) ?_;focus (repeat first | exact All2.nil | refine All2.cons (Q9g rfl) ?_ | (refine All2.cons (Q9h ?_ ?_) ?_;(focus (first | (simp [*,-hK];done) | exact Fr1.pf));(focus (simp [*,-hK];done)))))
             | (refine All2.cons (Q9h ?_ ?_) ?_;(focus (first | (simp [*,-hK];done) | exact Fr1.pf));(focus (simp [*,-hK];done))))
            focus (simp;done)
            focus (simp;first | done | exact Q6 FrR.pf _)
            focus decide
            focus (simp [Z5v,Q8o,Q7z];done))
           clear q1;(try (revert q2;intro q1));first | simp [vw1,vw0,vwC,vwK,nmA,nmL,nmD,rnm,rnmA,rnm0,Q26, *,-h,-hK] | simp [vw1,vw0,vwC,vwK,nmA,nmL,nmD,rnm,rnmA,rnm0,Q26, *,-hK] | skip)
          refine hK _ ?_
          clear hK
          refine Hn.pf (t:=.z) (qb_n (qs_n ?_))
          ((with_reducible first | refine sR (fun K hK=>?_) | refine rR (fun K hK=>?_));first | simp [*,-h,-hK] | simp [*,-hK])
          (with_reducible refine hK _ ?_);clear hK
          refine rtR ?_
          (refine eH1 ?_ ?_ ?_ ?_);rotate_left 1
          focus (first | (simp [slX,lcX,Z79];done) | (simp [slX,lcX,Z79];rfl))
          rotate_left 1
          focus (first | exact eA | (dsimp only [resD];exact eA) | (simp [resD];refine eXa rfl rfl ?_ ?_ ?_ ?_;(focus (simp [Q8o,Q7z];done));(focus (simp;first | done | exact Q6 FrR.pf _));(focus (simp;done));(focus (simp;done))))
          refine ⟨Hn.pf (t:=.pF 2 (.pF 1 .z)) ?_⟩
          (refine pF_g ?_ ?_ ?_;rotate_left 1;focus (first | (simp [frzS];done) | (simp [frzS];rfl)))
          (refine pF_g ?_ ?_ ?_;rotate_left 1;focus (first | (simp [frzS];done) | (simp [frzS];rfl)))
          refine gHn (gLx hβ [0] (by decide) (TG.z.u ?_) ?_ (by decide) rfl)
          · show RenV _ _ (.sl 6 1 p1.length) _
            refine Z4q (by simp;rfl) rfl (by simp [hRl]) (by simp [hRl]) ?_
            refine rvF0 (row0:=rowB x x.bodies.length) (by simpa using hF) hRS (Q6 Z2k p1) ?_
            simp [cOk,c0Ok,cpOk,rowB, *]
          · exact All2.cons (lF (by simp) (by simp)) All2.nil
        · rw [if_neg h0] at h
          cases h
          have h0:ilt 0 (lenZ x.bodies.length)=false:=by simpa using h0
          ((with_reducible first | refine sR (fun K hK=>?_) | refine rR (fun K hK=>?_));first | simp [*,-h,-hK] | simp [*,-hK])
          (with_reducible refine hK _ ?_);clear hK
          refine cdF false ?_ rfl ?_
          · simp [*]
          refine skR (qb_n (qs_n ?_))
          ((with_reducible first | refine sR (fun K hK=>?_) | refine rR (fun K hK=>?_));first | simp [*,-h,-hK] | simp [*,-hK])
          (with_reducible refine hK _ ?_);clear hK
          refine rtR ?_
          (refine eH1 ?_ ?_ ?_ ?_);rotate_left 1
          focus (first | (simp [slX,lcX,Z79];done) | (simp [slX,lcX,Z79];rfl))
          rotate_left 1
          focus (first | exact eA | (dsimp only [resD];exact eA) | (simp [resD];refine eXa rfl rfl ?_ ?_ ?_ ?_;(focus (simp [Q8o,Q7z];done));(focus (simp;first | done | exact Q6 FrR.pf _));(focus (simp;done));(focus (simp;done))))
          refine ⟨Hn.pf (t:=.pF 2 (.pF 1 .z)) ?_⟩
          (refine pF_g ?_ ?_ ?_;rotate_left 1;focus (first | (simp [frzS];done) | (simp [frzS];rfl)))
          (refine pF_g ?_ ?_ ?_;rotate_left 1;focus (first | (simp [frzS];done) | (simp [frzS];rfl)))
          refine gHn (gLx hβ [0] (by decide) (TG.z.u ?_) ?_ (by decide) rfl)
          · show RenV _ _ (.sl 6 1 p1.length) _
            refine Z4q (by simp;rfl) rfl (by simp [hRl]) (by simp [hRl]) ?_
            have hAs:(List.map Q0d p1).set a.1.toNat (Q0d x)=List.map Q0d p1:=by
              have hx':(List.map Q0d p1)[a.1.toNat]?=some (Q0d x):=by rw [List.getElem?_map,Q9d hx];rfl
              obtain ⟨h5,h6⟩:=List.getElem?_eq_some_iff.1 hx'
              rw [←h6]
              exact List.set_getElem_self h5
            rw [←hAs]
            refine rvF0 (row0:=rowB x x.bodies.length) (by simpa using hF) hRS (Q6 Z2k p1) ?_
            simp [cOk,c0Ok,cpOk,rowB, *]
          · exact All2.cons (lF (by simp) (by simp)) All2.nil
      · rw [if_neg (by rw [Y88];exact h2)] at h
        cases h
instance W5s:∀ (n:Nat) (p0:X3) (p1:(List GFun)),Ct (Q4f n p0 p1) fun res=>Q12 Tryz.prog 79 [⟨2,[(Q01 p0)],0,215⟩] [.ptr 2 0 0 0,(.slice 6 (List.map Q0d p1))] (fun H d=>H=[some ⟨2,[(Q01 res.2)],0,215⟩]∧d=(.slice 6 (List.map Q0d res.1))):=fun n p0 p1=>⟨fun res h=>by
  unfold Q4f at h
  split at h
  · rename_i r hr;cases h;exact (Z7b n p0 p1).pf _ hr
  · exact Z7v n p0 p1 res h⟩
instance W8z:∀ (p0:(List Q5)) (p1:(List Q5)),Ct (Q6n p0 p1) fun res=>Q7 Tryz.prog 0o00442 [(.slice 3 (List.map X6 p0)),(.slice 3 (List.map X6 p1))] (fun d=>d=(eB res)):=
 au Tryz.func290 Q6n.eq_1 .z
instance W4b:∀ (n:Nat) (p0:Q4t) (p1:Q2) (p2:Z1) (p3:Int) (p4:Int),Ct (Q2l n p0 p1 p2 p3 p4) fun res=>Q12 Tryz.prog 0o00246 [⟨1,[[(eI p4)]],0,0x0003⟩] [(.agg (Q8b p0)),(.agg (Z7 p1)),(.agg (V8 p2)),(eI p3),.ptr 1 0 0 0] (fun H d=>H=[some ⟨1,[[(eI res.2)]],0,0x0003⟩]∧d=(eB res.1)):=
 ar (au Tryz.func166 Q2l.eq_2 (.o (.o (.o (.o (.o (.o (.o (.i .z (.i .z (.o (.i .z (.i .z (.ls 41 (.f [] [0] [3,4,5,11,46,47,48] [0,1] (fun (k87:Nat) (s83:Int)=>[(48,eI (k87:Int))]) (fun k87 s83=>[(0,some ⟨1,[[(eI s83)]],0,0x0003⟩)]) (fun k87 s83=>.o (.g [3,4,5,11,13,14,46,47,48] [0,1,34] [] [] (.o (.o (.d [0,1,2,3,4,5,6,7,8,9,10] [1,2] [] .z))))) (fun s91=>.z))))))))))))))))
instance W5u:∀ (n:Nat) (p0:Q05) (p1:Int) (p2:Q1),Ct (Q4g n p0 p1 p2) fun res=>Q7 Tryz.prog 0o00210 [(.agg (Q1t p0)),(eI p1),(.agg (X0 p2))] (fun d=>d=.tup [(.agg (Q1t res.1)),(eI res.2.1),(.slice 4 (List.map Q02 res.2.2))]):=
 au Tryz.func136 Q4g.eq_1 (.o (.o (.o (.o (.i (.g [1,3,5,6] [0,8,16] [] [] (.o (.o (.o (.d [0,1,2,3,4,5,6,7,8,9,10,11,12,13,14,15,16,17,18,19] [0,1] [] .z))))) (.g [1,3,5,6] [0,8,16] [] [] (.o (.o (.d [0,1,2,3,4,5,6,7,8,9,10,11,12] [0,1] [] .z)))))))))
end Go.Proofs.YtenmmbjgnlflnaaGreat
