import Derived.ProofKit
import Derived.OpenShut
import Derived.JoinedCond
import Derived.Below
import Derived.Test.YtenmmbjgnlflnaaGreatRows
import Derived.Test.YtenmmbjgnlflnaaGreatBJDat
set_option linter.unusedSimpArgs false
set_option linter.unusedVariables false
namespace Go.Proofs.YtenmmbjgnlflnaaGreat
open Go Go.ChangeShapes Go.WideShapes Go.ChangeAt Go.RowKit
def Z9j (W:World)(b:Nat):Nat:=match W.heap[b]? with | some (.cells cs _ _)=>cs.size | _=>0
theorem V95 {W:World}{b o:Nat}{v:Value}(h:W.cell? ⟨b,o,none⟩=some v):o<Z9j W b:=by
 obtain ⟨cs,e,f,hb,ho⟩:=X5c h
 simp only [Z9j,hb]
 exact (Array.getElem?_eq_some_iff.1 ho).1
theorem V52 {H:Type}{enc:TypeId×Value→H}{P:Program}{W:World}{t e:TypeId}(ht:P.underlying t=some (.slice e))(he:P.underlying e=some (.int .u8))(hc:P.cellsOf e=1){base:Nat}{v:Value}
  (hv:Value.okWide P W .any base t v) {d:DataW H} {p:List MemPlace} (h:DataW.Trod enc P W 0 (fun _=>true) true t v d p) (hlt:∀ q∈p,q.block<W.heap.size) :
  ∃ zs:List Int,(∀ z∈zs,0≤z∧z≤255)∧Rep ⟨noM,Z9j W,W⟩ (.slice 1 (List.map (rK .u8) zs)) v∧
   ∀ (W':World) (sp:Nat→Bool),(∀ b,b<W.heap.size→W'.heap[b]?=W.heap[b]?)→(∀ q∈p,sp q.block=true)→DataW.Trod enc P W' 0 sp true t v d p:=by
 obtain ⟨a0,len,cap,rfl⟩:=okWide_slice ht hv
 obtain ⟨fuel,hf⟩:=h
 rcases open_ints ht he hc hf with ⟨hcs,hx⟩ | ⟨a,len',cap',zs,hcs,_,hl,hm,hz,hx,hcell,hwz⟩
 ·simp [Value.cells] at hcs
  obtain ⟨rfl,rfl,rfl⟩:=hcs
  simp only [Prod.mk.injEq] at hx
  obtain ⟨rfl,rfl⟩:=hx
  exact ⟨[],by simp,.slice0 _ _ _,fun W' sp _ _=>shut_slice_nil ht⟩
 ·simp [Value.cells] at hcs
  obtain ⟨rfl,rfl,rfl⟩:=hcs
  simp only [Prod.mk.injEq] at hx
  obtain ⟨rfl,rfl⟩:=hx
  simp only [if_true] at hz
  refine ⟨zs.take len,fun z hzm=>?_,?_,fun W' sp hh hsp=>?_⟩
  ·have:=hwz z (List.mem_of_mem_take hzm)
   simpa [Lit.wf,IntKind.min,IntKind.max,IntKind.signed,IntKind.bits] using this
  ·by_cases h0:len=0
   ·subst h0;exact .slice0 _ _ _
   obtain ⟨b,off,rfl,hc'⟩:=ints_at hcell (by omega)
   have hlen:(List.map (rK .u8) (zs.take len)).length=len:=by simp;omega
   have hr:=Rep.slice (c:=⟨noM,Z9j W,W⟩) 1 (List.map (rK .u8) (zs.take len)) b off cap (fun i _=>.int .u8 (zs.getD i 0)) (by omega) (by rw [hlen];simp only [maxLen] at hm;simp only [Q0c];omega)
    (fun row hr=>by simp only [U11] at hr;obtain ⟨x,_,rfl⟩:=hr;rfl)
    (fun i j row d hi hj=>by
     simp only [List.getElem?_map,U12] at hi
     obtain ⟨x,hx,rfl⟩:=hi
     have hil:=(List.getElem?_eq_some_iff.1 hx).1
     simp only [U6] at hil
     have hj0:j=0:=by
      have:=(List.getElem?_eq_some_iff.1 hj).1
      simp [rK] at this
      omega
     subst hj0
     have hcl:=hc' i (by omega)
     have e:off+i * 1+0=off+i:=by omega
     rw [e]
     exact ⟨hcl,V95 hcl,rfl⟩)
    (fun i j row d hi hj=>by
     simp only [List.getElem?_map,U12] at hi
     obtain ⟨x,hx,rfl⟩:=hi
     have hj0:j=0:=by
      have:=(List.getElem?_eq_some_iff.1 hj).1
      simp [rK] at this
      omega
     subst hj0
     simp only [rK,List.getElem?_cons_zero,Option.some.injEq] at hj
     subst hj
     rw [List.getElem?_take] at hx
     split at hx
     ·simp only [List.getD,hx,Option.getD_some];exact .val _
     ·cases hx)
   rwa [hlen] at hr
  ·refine ⟨2,?_⟩
   by_cases h0:zs.length=0
   ·have h1:cap=0:=by omega
    have h2:len=0:=by omega
    subst h1;subst h2
    simpa [Value.cells] using shut_ints (enc:=enc) (w:=W') (base:=0) (spare:=sp) (held:=true) (a:=a) (len:=0) (cap:=0) 0 ht he hc (Nat.zero_le _) hl hm (by rw [h0];simp) (fun i hi=>by omega) hwz
   obtain ⟨b,off,rfl,hc'⟩:=ints_at hcell (by omega)
   have hb:b<W.heap.size:=hlt (.cell b off) (MemPlace.mem_row.2 ⟨0,by omega,by simp⟩)
   have hsb:sp b=true:=hsp (.cell b off) (MemPlace.mem_row.2 ⟨0,by omega,by simp⟩)
   simpa [Value.cells] using shut_ints' (enc:=enc) (w:=W') (base:=0) (spare:=sp) (held:=true) (b:=b) (off:=off) (len:=len) (cap:=cap) 0 ht he hc (Nat.zero_le _) hl hm (by rw [hsb];simpa using hz)
    (fun i hi=>by rw [World.cell?_of_block (w:=W) (hh b hb)];exact hc' i hi) hwz
theorem V2k {H:Type}{enc:TypeId×Value→H}{P:Program}{f:Func}{s:ChangeSpec}{apart fresh handsOn again:Bool}{W W':World}{args:Array Value}{v:Value}{ds gs:List (DataW H)}{before:List MemPlace}
  (hW:DataW.Whole enc P f.params.toList s.vars apart W args.toList ds gs before) (hB:Below W.heap.size W W') (hv:s.vars=[])
  (hres:∀ (b:Nat) (sp:Nat→Bool) (hd:Bool),DataW.TrodAll enc P W' b sp hd f.resultTypes.toList (v.resultList f.resultTypes.size) (s.fn H (ds++gs)).results [])
  (hargs:∀ sp:Nat→Bool,(∀ p∈before,sp p.block=true)→DataW.TrodAll enc P W' 0 sp true f.params.toList args.toList (s.fn H (ds++gs)).args before)
  (hvs:(s.fn H (ds++gs)).vars=[])
  (hok:∀ (j:Nat) (t:TypeId) (r:Value),f.resultTypes[j]?=some t→(v.resultList f.resultTypes.size)[j]?=some r→Value.okWide P W' .any 0 t r) :
  s.post enc P f apart fresh handsOn again W args v W':=by
 have hold:∀ p∈before,(fun b=>decide (b<W.heap.size)) p.block=true:=fun p hp=>by simpa using hW.lt p hp
 have hvars:∀ sp:Nat→Bool,DataW.TrodVars enc P W' sp s.vars (s.fn H (ds++gs)).vars []:=fun sp=>by rw [hv,hvs];rfl
 refine ⟨ds,gs,before,[],before,[],hW,hres _ _ _,hargs _ hold,hvars _,hB.frame _,fun _=>?_⟩
 have hlt:=hW.lt
 obtain ⟨_,_,_,_,_,hz,hn⟩:=hW
 refine ⟨hok,_,_,([]++before)++[],⟨[]++before,[],trodAll_append (hargs _ (fun _ _=>rfl)) (hres _ _ _),hvars _,rfl,?_,?_⟩,?_⟩
 ·intro b off hp
  have hp':MemPlace.cell b off∈before:=by simpa using hp
  rw [hB.frozen (hlt _ hp')]
  exact hz b off hp'
 ·intro ha
  have:=hn ha
  simpa using this
 ·intro p hp _
  simpa using hp
section
variable {P:Program} {fid:FuncId} {f:Func} {s:ChangeSpec} {t e tb:TypeId}
theorem law1 (hs:∀ H d1,s.fn H [d1] = { results:=[.lit (.bool true)],args:=[d1] })(hv:s.vars=[])(hp:f.params = #[t])(hr:f.resultTypes = #[tb])
  (htb:P.underlying tb=some .bool) (ht:P.underlying t=some (.slice e)) (he:P.underlying e=some (.int .u8)) (hc:P.cellsOf e=1)
  (law:∀ l1:List Int,(∀ z∈l1,0≤z∧z≤255)→Q7 P fid [.slice 1 (List.map (rK .u8) l1)] (fun d=>d=eB true))
  {H:Type} {enc:TypeId×Value→H} {W:World} {base:Nat} {args:Array Value} {ds gs:List (DataW H)} {before:List MemPlace} {apart fresh handsOn again:Bool}
  (hval:∀ (j:Nat) t v,f.params[j]?=some t→args[j]?=some v→Value.okWide P W .any base t v)
  (hW:DataW.Whole enc P f.params.toList s.vars apart W args.toList ds gs before) :
  Calls P fid args W fun e W'=>∃ v,e=.returned v∧s.post enc P f apart fresh handsOn again W args v W':=by
 have hW':=hW
 have hlt:=hW.lt
 obtain ⟨p,q,hA0,hV,rfl,hfz,hnd⟩:=hW
 have hA:DataW.TrodAll enc P W 0 (fun _=>true) true f.params.toList args.toList ds p:=hA0
 rw [hp] at hA hval
 obtain ⟨v0,vs0,d0,ds0,p0,q0,hargs,rfl,rfl,h0,r0⟩:=trodAll_cons hA
 obtain ⟨rfl,rfl,rfl⟩:=trodAll_nil r0
 obtain rfl:args = #[v0]:=by cases args;simp_all
 rw [hv] at hV
 obtain ⟨rfl,rfl⟩:=trodVars_none hV
 simp only [List.append_nil] at hW' hlt
 obtain ⟨z0,b0,R0,k0⟩:=V52 ht he hc (hval 0 t v0 rfl rfl) h0 (fun q hq=>hlt q (by simp [hq]))
 refine ((law z0 b0).2 (Z9j W) W #[v0] ⟨rfl,fun i d v hd hvv=>?_⟩).mono fun e W' ⟨v,fr',r,he',hr',hR,ho,htp,hout,hsz,hold⟩=>?_
 ·match i with
  | 0=>simp only [List.getElem?_cons_zero,Option.some.injEq] at hd;simp at hvv;subst hd;subst hvv;exact R0
  | i+1=>simp at hd
 ·subst hr'
  obtain rfl:=W1 hR
  have hB:Below W.heap.size W W':=⟨ho,htp,hout,hsz,fun k hk=>(hold k hk).1⟩
  refine ⟨_,he',V2k hW' hB hv (fun _ _ _=>?_) (fun sp hsp=>?_) ?_ (ok_one hr rfl (okWide_bool_mk htb _))⟩
  ·rw [hr]
   simp only [List.cons_append,List.nil_append,hs]
   exact trodAll_cons_mk (shut_bool htb _) trodAll_mk0
  ·rw [hp]
   simp only [List.cons_append,List.nil_append,hs]
   have:=trodAll_cons_mk (k0 W' sp (fun k hk=>(hold k hk).1) (fun q hq=>hsp q (by simp [hq]))) trodAll_mk0
   simpa using this
  ·simp only [List.cons_append,List.nil_append,hs]
end
end Go.Proofs.YtenmmbjgnlflnaaGreat
