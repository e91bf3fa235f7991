import Derived.Test.YtenmmbjgnlflnaaGreatJP1
import Derived.Test.YtenmmbjgnlflnaaGreatJMa0
set_option linter.unusedSimpArgs false
set_option linter.unusedVariables false
namespace Go.Proofs.YtenmmbjgnlflnaaGreat
open Go Go.RowKit
theorem X2e (code:List Int)(hb:∀ x∈code,0≤x∧x≤255):Q2v NN code=some true:=by
 suffices hs:Ret (Q2v NN code) (fun r=>r=true) by
  obtain ⟨a,e,rfl⟩:=hs
  exact e
 unfold Q2v
 refine Ret.ite (fun _=>.some rfl) (fun _=>?_)
 refine Ret.bind (Z1u code hb) (fun a ha=>?_)
 obtain ⟨hm,hl,_,_⟩:=ha
 have hw:=ww hm
 have hf:=W03 hm
 rw [Q8u hw hf hl,Z16 hw hf hl]
 simp only [U0]
 rw [if_neg (by simp [ieq]),Z86 hw hf]
 simp only [U0]
 rw [if_neg (by simp)]
 refine Ret.ite (fun _=>?_) (fun h0=>?_)
 ·rw [if_pos (by simp [ieq])]
  exact .some rfl
 ·have h0:(Q6z a.1 a.2.1 a.2.2.1 a.2.2.2.1 a.2.2.2.2).2=0:=by simpa [ieq] using h0
  have h5:(Q6z a.1 a.2.1 a.2.2.1 a.2.2.2.1 a.2.2.2.2).2≠5:=by rw [h0];decide
  obtain ⟨g,h⟩:=X04 h5
  rw [Q59 h.f0 h.gg]
  simp only [U0]
  have hres:=((Q9p h.funs).2 g (U1 h.gg)).res
  unfold Q4a
  rw [X0b hw hres]
  simp only [U0]
  rw [if_pos trivial,Z0n (by decide) hw hres]
  simp only [U0]
  refine .some ?_
  unfold Q6z at h0 ⊢
  rw [if_pos h.ok] at h0 ⊢
  unfold outV at h0 ⊢
  split at h0
  ·rw [if_pos ‹_›]
   exact (Z3z hw hf h ‹_›).1
  ·exact absurd h0 ‹_›
end Go.Proofs.YtenmmbjgnlflnaaGreat
