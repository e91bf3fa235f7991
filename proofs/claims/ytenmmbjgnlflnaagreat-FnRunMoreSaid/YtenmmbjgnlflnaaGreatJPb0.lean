import Derived.Test.YtenmmbjgnlflnaaGreatJP1
import Derived.Test.YtenmmbjgnlflnaaGreatJMb0
set_option linter.unusedSimpArgs false
set_option linter.unusedVariables false
namespace Go.Proofs.YtenmmbjgnlflnaaGreat
open Go Go.RowKit
theorem X09 (code:List Int)(hb:∀ x∈code,0≤x∧x≤255):Q26 NN code=some true:=by
 suffices hs:Ret (Q26 NN code) (fun r=>r=true) by
  obtain ⟨a,e,rfl⟩:=hs
  exact e
 unfold Q26
 refine Ret.ite (fun _=>.some rfl) (fun _=>?_)
 refine Ret.bind (Z1u code hb) (fun a ha=>?_)
 obtain ⟨hm,hl,_,_⟩:=ha
 have hw:=ww hm
 have hf:=W03 hm
 rw [Q8u hw hf hl,Z16 hw hf hl]
 simp only [U0]
 rw [if_neg (by simp [ieq]),Z86 hw hf]
 simp only [U0]
 rw [if_neg (by simp)]
 refine Ret.ite (fun _=>?_) (fun h5=>?_)
 ·rw [if_pos (by simp [ieq])]
  exact .some rfl
 refine Ret.ite (fun _=>?_) (fun h2=>?_)
 ·rw [if_pos (by simp [ieq])]
  exact .some rfl
 rw [Q9] at h5 h2
 obtain ⟨g,h⟩:=X04 h5
 rw [Q8u hw hf hl]
 simp only [U0]
 have he:Q6z a.1 a.2.1 a.2.2.1 a.2.2.2.1 300=Q6z a.1 a.2.1 a.2.2.1 a.2.2.2.1 a.2.2.2.2:=by
  unfold Q6z at h2 ⊢
  rw [if_pos h.ok] at h2 ⊢
  rw [if_pos h.more.ok]
  have hc:(Q5d a.1 a.2.1 a.2.2.1 a.2.2.2.1 a.2.2.2.2).2.code≠2:=by
   intro hc
   apply h2
   unfold outV
   rw [if_neg (by omega)]
   exact hc
  rw [X44 h hc]
  rfl
 rw [he,if_pos (by simp [ieq]),Z86 hw hf]
 exact .some rfl
end Go.Proofs.YtenmmbjgnlflnaaGreat
