import Derived.Test.YtfhpjeogjcfkaaaGreatSJP1
import Derived.Test.YtfhpjeogjcfkaaaGreatSJMa0
set_option linter.unusedSimpArgs false
set_option linter.unusedVariables false
namespace Go.Proofs.YtfhpjeogjcfkaaaGreat
open Go Go.RowKit
def nilR:Option (List Q0)→Bool
 | some l=>decide (l.length=0)
 | none=>false
def redD (w:List Q4)(t:Q1)(cs:List Q5):List Int×Bool:=
 if Y5 w t cs=true∧∀ i,i<cs.length→(Q53 w t cs i).isSome=true then (((List.range cs.length).filter fun i=>nilR (Q53 w t cs i)).map (fun i:Nat=>(i:Int)),true) else ([],false)
theorem Z5u {w:List Q4}(hww:w∈Q0a){t:Q1}(ht:t∈tys w)(cs:List Q5):Q0p NN w t cs=some (redD w t cs):=by
 have hw:=ww hww
 suffices hs:Ret (Q0p NN w t cs) (fun r=>r=redD w t cs) by
  obtain ⟨a,e,rfl⟩:=hs
  exact e
 unfold Q0p redD
 rw [Q3x hw ht]
 simp only [U0]
 by_cases h:Y5 w t cs=true
 ·obtain ⟨h8,hc⟩:=Q5k h
  simp only [h,Bool.not_true,U2,if_false,true_and]
  refine Ret.ctl (Z1 cs (fun k s=>s=((List.range k).filter fun i=>nilR (Q53 w t cs i)).map (fun i:Nat=>(i:Int))∧∀ i,i<k→(Q53 w t cs i).isSome=true) (fun r=>r=([],false)∧¬∀ i,i<cs.length→(Q53 w t cs i).isSome=true) (fun s=>s=((List.range cs.length).filter fun i=>nilR (Q53 w t cs i)).map (fun i:Nat=>(i:Int))∧∀ i,i<cs.length→(Q53 w t cs i).isSome=true) ⟨by simp,by simp⟩ (fun k c s hck hI=>?_) (fun s hI=>hI)) (fun r hr=>.some (by rw [if_neg hr.2];exact hr.1)) (fun s hs=>.some (by rw [if_pos hs.2,hs.1]))
  obtain ⟨hI,hall⟩:=hI
  have hk:=(List.getElem?_eq_some_iff.1 hck).1
  have hsl:s.length≤8:=by
   rw [hI,U7]
   have:=List.length_filter_le (fun i=>nilR (Q53 w t cs i)) (List.range k)
   rw [List.length_range] at this
   omega
  rw [Z1z hww ht hk]
  simp only [U0]
  have hnext:∀ i,i<k+1→(Q53 w t cs k).isSome=true→(Q53 w t cs i).isSome=true:=fun i hi hk'=>by
   by_cases hik:i=k
   ·rw [hik];exact hk'
   ·exact hall i (by omega)
  cases hr:Q53 w t cs k with
  | none=>
   simp only [optR,Bool.not_false,if_true,U0]
   exact .some ⟨rfl,fun hh=>by have:=hh k hk;rw [hr] at this;cases this⟩
  | some r=>
   simp only [optR,Bool.not_true,U2,if_false,len0]
   rw [hr] at hnext
   by_cases h0:r.length=0
   ·have hr0:r=[]:=List.eq_nil_of_length_eq_zero h0
    simp only [h0,decide_true,if_true]
    rw [W5 (by simp only [U3,U4,Q7];omega)]
    refine .some ⟨?_,fun i hi=>hnext i hi rfl⟩
    rw [hI,List.range_succ,List.filter_append,List.map_append]
    simp [hr,hr0,nilR]
   ·simp only [h0,decide_false,U2,if_false,U0]
    refine .some ⟨?_,fun i hi=>hnext i hi rfl⟩
    rw [hI,List.range_succ,List.filter_append,List.map_append]
    have:r≠[]:=fun e=>h0 (by rw [e];rfl)
    simp [hr,this,nilR]
 ·simp only [h,Bool.not_false,if_true,false_and,if_false]
  exact .some rfl
theorem W3l {w:List Q4}{t:Q1}{cs:List Q5}(h:(redD w t cs).2=true):Y5 w t cs=true∧(∀ i,i<cs.length→(Q53 w t cs i).isSome=true)∧∀ i:Nat,((i:Int)∈(redD w t cs).1↔i<cs.length∧nilR (Q53 w t cs i)=true):=by
 unfold redD at h ⊢
 split at h
 ·rename_i hh
  rw [if_pos hh]
  refine ⟨hh.1,hh.2,fun i=>?_⟩
  simp only [U10,List.mem_filter,List.mem_range]
  constructor
  ·rintro ⟨j,hj,he⟩
   have:j=i:=by omega
   rw [←this]
   exact hj
  ·intro hi
   exact ⟨i,hi,rfl⟩
 ·cases h
theorem X3a (code:List Int)(hb:∀ x∈code,0≤x∧x≤255):Ret (V8 NN code) (fun a=>a.1∈Q0a∧a.2.1∈tys a.1∧a.2.2.length≤10):=by
 unfold V8
 refine Ret.bind (X0w code hb) (fun r hr=>?_)
 refine Ret.bind (X02 code hb) (fun a ha=>?_)
 obtain ⟨w,t,l⟩:=a
 obtain ⟨h1,h2,h3⟩:=ha
 simp only at h1 h2 h3 ⊢
 refine Ret.ctl (R:=fun _=>False) (B:=fun s=>s.length≤10) ?_ (fun r h=>h.elim) (fun s hs=>.some ⟨h1,h2,hs⟩)
 refine Ret.ite (fun c1=>?_) (fun _=>.some (by simp only [Z01];omega))
 refine Ret.ite (fun c2=>?_) (fun _=>.some (by simp only [Z01];omega))
 rw [Z9] at c1 c2
 simp only [lenZ] at c1 c2
 refine Ret.bind (Q3o (hr.le (by omega)) (by omega) (by omega)) (fun p hp=>?_)
 refine Ret.ite (fun _=>?_) (fun _=>.some (by simp only [Z01];omega))
 refine Ret.bind (Q3o (r:=p.2) ((hr.le (by omega:1+1≤1000000)).nx hp.2.2) (by simp only [lenZ];omega) (by simp only [lenZ];omega)) (fun q hq=>?_)
 obtain ⟨x,hx,_⟩:=Q5h hq.1 hq.2.1
 rw [hx]
 simp only [U0]
 rw [W5 (by simp only [U3,U4,Q7];omega)]
 exact .some (by simp only [Z01,U5,U3,U4];omega)
theorem X3b (code:List Int)(hb:∀ x∈code,0≤x∧x≤255):Par (V8 NN code) (fun a=>∀ c∈a.2.2,Z1s a.1 a.2.1 c):=by
 unfold V8
 refine Par.any fun r=>Par.bind (X03 code hb) (fun a ha=>?_)
 refine Par.ctl (R:=fun _=>False) (B:=fun (s:List Q5)=>∀ c∈s,Z1s a.1 a.2.1 c) ?_ (fun r hr=>hr.elim) (fun s hs=>.some hs)
 refine Par.ite (fun _=>Par.ite (fun _=>Par.any fun b=>Par.ite (fun _=>Par.any fun d=>Par.bind (P:=fun c=>c∈a.2.2) (fun c hc=>?_) (fun c hc=>Par.bind (X1v _ _) (fun z hz=>.some ?_))) (fun _=>.some ha)) (fun _=>.some ha)) (fun _=>.some ha)
 ·unfold idx at hc
  split at hc
  ·exact U1 hc
  ·cases hc
 ·subst hz
  intro y hy
  rcases List.mem_append.1 hy with hy | hy
  ·exact ha y hy
  ·simp only [List.mem_singleton] at hy;rw [hy];exact ha c hc
def csZ (w:List Q4)(t:Q1)(cs:List Q5)(i:Int):Option Q3:=if 0≤i∧i<(cs.length:Int) then csD w t cs i.toNat else none
theorem W9o {w:List Q4}{t:Q1}{cs:List Q5}(h:¬Y5 w t cs=true)(i:Nat):csD w t cs i=none:=by
 unfold csD Q53
 rw [if_neg h]
 rfl
theorem V2i {w:List Q4}(hww:w∈Q0a){t:Q1}(ht:t∈tys w)(cs:List Q5)(i:Int):Q03 NN w t cs i=some (valR (csZ w t cs i)):=by
 by_cases h:0≤i∧i<(cs.length:Int)
 ·obtain ⟨k,rfl⟩:∃ k:Nat,i=(k:Int):=⟨i.toNat,by omega⟩
  unfold csZ
  rw [if_pos h]
  exact Z7s hww ht (by omega)
 ·unfold csZ
  rw [if_neg h]
  have hr:J3 NN w t cs i=some ([],false):=by
   unfold J3
   rw [Q3x (ww hww) ht]
   simp only [U0]
   by_cases hc:Y5 w t cs=true
   ·have h8:=(Q3m hc).1
    rw [Q77]
    have hin:(decide ((0:Int)≤i)&&decide (i≤wsub .i64 (lenZ cs.length) 1))=false:=by
     rw [Q0e,Q3z (by omega) (by omega)]
     simp only [Bool.and_eq_false_iff,decide_eq_false_iff_not]
     omega
    rw [hin]
    simp [hc]
   ·simp [hc]
  unfold Q03
  rw [hr]
  simp [valR]
theorem V1w {w:List Q4}(hww:w∈Q0a){t:Q1}(ht:t∈tys w){cs:List Q5}(hfl:∀ c∈cs,Z1s w t c)(i:Int):Q2w NN w t cs i=some (valR (csZ w t cs i)):=by
 unfold Q2w
 rw [Q74 (ww hww) ht]
 simp only [U0]
 by_cases hc:Y5 w t cs=true
 ·simp only [hc,Bool.not_true,U2,if_false]
  unfold csZ
  by_cases h0:i<0
  ·rw [if_pos (by rw [Z9];exact h0),if_neg (by omega)]
   rfl
  ·rw [if_neg (by rw [Z9];exact h0)]
   by_cases h1:(cs.length:Int)≤i
   ·rw [if_pos (by rw [J1,Q0e];exact h1),if_neg (by omega)]
    rfl
   ·rw [if_neg (by rw [J1,Q0e];exact h1),if_pos (by omega)]
    obtain ⟨k,rfl⟩:∃ k:Nat,i=(k:Int):=⟨i.toNat,by omega⟩
    rw [Z9r hww ht hfl (by omega)]
    simp
 ·simp only [hc,Bool.not_false,if_true]
  unfold csZ
  rw [W9o hc]
  simp [valR]
theorem W2n {w:List Q4}(hw:WW w){t:Q1}(ht:t∈tys w){o:Option Q3}(h:∀ v,o=some v→Q29 w t v=true):Q06 NN (valR o).1 (valR o).1=some true:=by
 cases o with
 | none=>exact Q8s 1 NN _ ⟨by simp [valR],by simp [valR]⟩ (by decide)
 | some v=>exact Q8s 10 NN v (Q7u hw 10 t v ht (Q4g (h v rfl))) (by decide)
theorem Z4i (code:List Int)(hb:∀ x∈code,0≤x∧x≤255):Q1b NN code=some true:=by
 suffices hr:Ret (Q1b NN code) (fun r=>r=true) by
  obtain ⟨_,e,rfl⟩:=hr
  exact e
 unfold Q1b
 refine Ret.ite (fun _=>.some rfl) (fun _=>?_)
 refine Ret.bind (P:=fun a=>(a.1∈Q0a∧a.2.1∈tys a.1)∧∀ c∈a.2.2.1,Z1s a.1 a.2.1 c) ?_ (fun a ha=>?_)
 ·unfold Q2j
  obtain ⟨a,e,ha⟩:=X3a code hb
  have hl:=X3b code hb a e
  refine Ret.bindE e ?_
  refine Ret.bind (X0w code hb) (fun r hr=>?_)
  refine Ret.bind (Z06 (hr.le (by omega)) _ (by simp) (by simp)) (fun q _=>.some ⟨⟨ha.1,ha.2.1⟩,hl⟩)
 obtain ⟨w,t,cs,i⟩:=a
 obtain ⟨⟨hww,ht⟩,hfl⟩:=ha
 simp only at hww ht hfl ⊢
 have hw:=ww hww
 have hval:∀ v,csZ w t cs i=some v→Q29 w t v=true:=fun v hv=>by
  unfold csZ at hv
  split at hv
  ·exact (Z40 hv).1
  ·cases hv
 rw [V2i hww ht,V1w hww ht hfl]
 simp only [U0]
 rw [W2n hw ht hval]
 simp only [beq_self_eq_true,Bool.not_true,U2,if_false,if_true,U0]
 refine Ret.ite (fun _=>.some rfl) (fun hok=>?_)
 cases hc:csZ w t cs i with
 | none=>rw [hc] at hok;simp [valR] at hok
 | some v=>
  unfold csZ at hc
  split at hc
  ·rename_i hi
   obtain ⟨k,rfl⟩:∃ k:Nat,i=(k:Int):=⟨i.toNat,by omega⟩
   rw [Int.toNat_natCast] at hc
   obtain ⟨h1,⟨b,h2⟩,r,h3,h4⟩:=Z40 hc
   have hcl:=(Z4g h3).1
   simp only [valR]
   rw [X12 hw ht,X61 hcl h1,h2]
   simp only [U0]
   rw [Z5u hww ht]
   have hself:ieq (k:Int) (k:Int)=true:=by rw [X2]
   simp only [U0,runR,if_true,hself]
   refine Ret.ite (fun _=>.some rfl) (fun hg=>?_)
   rw [X64]
   simp only [U0]
   refine .some ?_
   have hg':(redD w t cs).2=true:=by simpa using hg
   have:(k:Int)∉(redD w t cs).1:=fun hm=>by
    have:=(((W3l hg').2.2 k).1 hm).2
    rw [h3] at this
    simp only [nilR,decide_eq_true_eq] at this
    exact h4 (List.length_eq_zero_iff.1 this)
   simp [this]
  ·cases hc
end Go.Proofs.YtfhpjeogjcfkaaaGreat
