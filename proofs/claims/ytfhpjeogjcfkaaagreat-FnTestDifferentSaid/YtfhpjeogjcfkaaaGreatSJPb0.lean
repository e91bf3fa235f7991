import Derived.Test.YtfhpjeogjcfkaaaGreatSJP1
import Derived.Test.YtfhpjeogjcfkaaaGreatSJMb0
set_option linter.unusedSimpArgs false
set_option linter.unusedVariables false
namespace Go.Proofs.YtfhpjeogjcfkaaaGreat
open Go Go.RowKit
def IncV (cs:List Q5):Int→List Q3→Prop
 | _,[]=>True
 | a,v::vs=>(∃ (i:Nat) (b:List X3),runD v 0 cs=some (i,b)∧a<i∧IncV cs i vs)∨(runD v 0 cs=none∧vs=[])
theorem Z7o {w:List Q4}{t:Q1}{cs:List Q5}{rest:List Q3}(hrest:∀ a,IncV cs a rest):∀ (n s:Nat) (a:Int),a<s→IncV cs a ((List.range' s n).filterMap (csD w t cs)++rest)
 | 0,s,a,_=>by simpa using hrest a
 | n+1,s,a,h=>by
  rw [List.range'_succ,List.filterMap_cons]
  cases hc:csD w t cs s with
  | none=>exact Z7o hrest n (s+1) a (by omega)
  | some v=>
   obtain ⟨_,⟨b,hb⟩,_⟩:=Z40 hc
   exact .inl ⟨s,b,hb,h,Z7o hrest n (s+1) s (by omega)⟩
theorem V7o (w:List Q4)(t:Q1)(cs:List Q5):IncV cs (-1) (tvD w t cs):=by
 unfold tvD tvL
 rw [List.range_eq_range']
 refine Z7o (fun a=>?_) cs.length 0 (-1) (by omega)
 rcases X67 w t cs with h | ⟨v,h,_,h2⟩
 ·rw [h];trivial
 ·rw [h];exact .inr ⟨h2,rfl⟩
theorem Z3j (code:List Int)(hb:∀ x∈code,0≤x∧x≤255):Q0x NN code=some true:=by
 suffices hr:Ret (Q0x NN code) (fun r=>r=true) by
  obtain ⟨_,e,rfl⟩:=hr
  exact e
 unfold Q0x
 refine Ret.ite (fun _=>.some rfl) (fun _=>?_)
 refine Ret.bind (Z8g code hb) (fun a ha=>?_)
 obtain ⟨w,t,cs⟩:=a
 obtain ⟨⟨hww,ht⟩,hfl⟩:=ha
 simp only at hww ht hfl ⊢
 have hw:=ww hww
 rw [Z4j hww ht,Z4c hww ht hfl]
 have hself:ieq (lenZ (tvR w t cs).1.length) (lenZ (tvR w t cs).1.length)=true:=by rw [X2]
 simp only [U0,beq_self_eq_true,Bool.not_true,U2,if_false,if_true,hself]
 refine Ret.ite (fun _=>.some rfl) (fun hok=>?_)
 by_cases hcl:Y5 w t cs=true
 ·have htv:tvR w t cs=(tvD w t cs,true):=by unfold tvR;rw [if_pos hcl]
  rw [htv]
  simp only
  have hlen:=W2q w t cs
  have h8:=(Q3m hcl).1
  refine Ret.ctl (Z1 (tvD w t cs) (fun k s=>IncV cs s ((tvD w t cs).drop k)) (fun _=>False) (fun _=>True) (by simpa using V7o w t cs) (fun k v s hv hI=>?_) (fun _ _=>trivial)) (fun r hr=>hr.elim) (fun _ _=>.some rfl)
  have hvv:Q29 w t v=true:=Z2q (U1 hv)
  rw [Z13 hv] at hI
  rw [X12 hw ht,X61 hcl hvv]
  simp only [U0,Bool.not_true,U2,if_false]
  rcases hI with ⟨i,b,hr,hlt,hI⟩ | ⟨hr,hnil⟩
  ·have e1:ile 0 (i:Int)=true:=by rw [J1];omega
   have e2:ile (i:Int) s=false:=by rw [Q1z];omega
   have e3:ilt (i:Int) 0=false:=by rw [J0];omega
   rw [hr]
   simp only [runR,e1,e2,e3,if_true,U2,if_false,U0]
   exact .some hI
  ·have e1:ile 0 (-1:Int)=false:=rfl
   have e3:ilt (-1:Int) 0=true:=rfl
   have e4:ilt (k:Int) (wsub .i64 (lenZ (tvD w t cs).length) 1)=false:=by
    have hk:(tvD w t cs).length≤k+1:=by
     have:=congrArg List.length hnil
     simp only [List.length_drop,U4] at this
     omega
    rw [J0,Q0e,Q3z (by omega) (by omega)]
    omega
   rw [hr]
   simp only [runR,e1,e3,e4,if_true,U2,if_false,U0]
   refine .some ?_
   simp only [Q2r]
   rw [hnil]
   trivial
 ·exfalso
  unfold tvR at hok
  rw [if_neg hcl] at hok
  simp at hok
end Go.Proofs.YtfhpjeogjcfkaaaGreat
