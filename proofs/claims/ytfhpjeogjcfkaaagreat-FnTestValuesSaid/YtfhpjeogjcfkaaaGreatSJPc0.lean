import Derived.Test.YtfhpjeogjcfkaaaGreatSJP1
import Derived.Test.YtfhpjeogjcfkaaaGreatSJMc0
set_option linter.unusedSimpArgs false
set_option linter.unusedVariables false
namespace Go.Proofs.YtfhpjeogjcfkaaaGreat
open Go Go.RowKit
theorem V1n {w:List Q4}{t:Q1}{cs:List Q5}{i:Nat}{v:Q3}(hi:i<cs.length)(h:csD w t cs i=some v):v∈tvD w t cs:=
 List.mem_append_left _ (List.mem_filterMap.2 ⟨i,List.mem_range.2 hi,h⟩)
theorem X0m {w:List Q4}(hw:WW w){t:Q1}(ht:t∈tys w)(v:Q3):Q48 NN w t v=some (Q29 w t v):=by
 unfold Q48
 rw [Z0s hw ht]
 simp only [U0,if_true]
 rw [Q8m hw ht]
 rfl
theorem Z7m (code:List Int)(hb:∀ x∈code,0≤x∧x≤255):Q21 NN code=some true:=by
 suffices hr:Ret (Q21 NN code) (fun r=>r=true) by
  obtain ⟨_,e,rfl⟩:=hr
  exact e
 unfold Q21
 refine Ret.ite (fun _=>.some rfl) (fun _=>?_)
 refine Ret.bind (Z8g code hb) (fun a ha=>?_)
 obtain ⟨w,t,cs⟩:=a
 obtain ⟨⟨hww,ht⟩,hfl⟩:=ha
 simp only at hww ht hfl ⊢
 have hw:=ww hww
 rw [Z4j hww ht,Z4c hww ht hfl]
 have hself:ieq (lenZ (tvR w t cs).1.length) (lenZ (tvR w t cs).1.length)=true:=by rw [X2]
 simp only [U0,beq_self_eq_true,Bool.not_true,U2,if_false,if_true,hself]
 refine Ret.ite (fun _=>.some rfl) (fun hok=>?_)
 by_cases hcl:Y5 w t cs=true
 ·have htv:tvR w t cs=(tvD w t cs,true):=by unfold tvR;rw [if_pos hcl]
  rw [htv]
  simp only
  have hlen:=W2q w t cs
  have h8:=(Q3m hcl).1
  refine Ret.ctl (Z1 (tvD w t cs) (fun _ _=>True) (fun _=>False) (fun _=>True) trivial (fun k v s hv _=>?_) (fun _ _=>trivial)) (fun r hr=>hr.elim) (fun _ _=>?_)
  ·have hvv:Q29 w t v=true:=Z2q (U1 hv)
   rw [Q1m hv]
   simp only [U0]
   rw [Q8s 10 NN v (Q7u hw 10 t v ht (Q4g hvv)) (by decide)]
   simp only [U0,Bool.not_true,U2,if_false]
   rw [X0m hw ht,hvv]
   exact .some trivial
  ·dsimp only
   rw [Z20 hww ht]
   simp only [U0]
   refine Ret.ctl (Z1 cs (fun _ _=>True) (fun _=>False) (fun _=>True) trivial (fun k c s hk _=>?_) (fun _ _=>trivial)) (fun r hr=>hr.elim) (fun _ _=>.some ?_)
   ·have hlt:=(List.getElem?_eq_some_iff.1 hk).1
    rw [Z7s hww ht hlt]
    simp only [U0]
    cases hcs:csD w t cs k with
    | none=>simp only [valR,U2,if_false,U0];exact .some trivial
    | some v=>
     obtain ⟨_,⟨b,hr⟩,_⟩:=Z40 hcs
     have hm:(k:Int)∈covD w t cs (tvD w t cs):=W40.2 ⟨⟨hcl,List.all_eq_true.2 fun u hu=>Z2q hu⟩,v,V1n hlt hcs,b,hr⟩
     simp only [valR,if_true]
     rw [X64,decide_eq_true hm]
     simp only [U0,Bool.not_true,U2,if_false]
     exact .some trivial
   ·rw [J1,Q0e,Q0e,Q10 (by omega) (by omega)]
    omega
 ·exfalso
  unfold tvR at hok
  rw [if_neg hcl] at hok
  simp at hok
end Go.Proofs.YtfhpjeogjcfkaaaGreat
