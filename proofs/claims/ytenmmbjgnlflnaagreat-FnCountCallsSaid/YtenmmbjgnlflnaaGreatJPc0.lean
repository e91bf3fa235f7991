import Derived.Test.YtenmmbjgnlflnaaGreatJP1
import Derived.Test.YtenmmbjgnlflnaaGreatJMc0
set_option linter.unusedSimpArgs false
set_option linter.unusedVariables false
namespace Go.Proofs.YtenmmbjgnlflnaaGreat
open Go Go.RowKit
theorem Z2q (code:List Int)(hb:∀ x∈code,0≤x∧x≤255):Ret (Q16 NN code) (fun a=>a.1∈Q4e∧a.2.1.length≤1000∧-1≤a.2.2.1∧a.2.2.1≤4):=by
 unfold Q16
 exact Ret.bind (Z7g code hb) (fun a ha=>.some ha)
def Z0i (w:List Q2)(F:List GFun)(f:Int)(v:Q0)(fuel:Int):Int×Int:=if Q7k w F f v fuel=true then ((Q5d w F f v fuel).2.count,(Q5d w F f v fuel).2.code) else (0,5)
theorem Z1g {w:List Q2}(hw:WW w)(hf:Fit w){F:List GFun}(hF:F.length≤1000)(f:Int)(v:Q0)(fuel:Int):Q1r NN w F f v fuel=some (Z0i w F f v fuel):=by
 unfold Q1r Z0i
 rw [Z57 hw hF]
 simp only [U0]
 cases hr:Q7k w F f v fuel with
 | false=>rfl
 | true=>
  obtain ⟨g,h⟩:=Q8g hr
  rw [if_neg (by simp),if_pos rfl]
  show (W9 NN (mkRn w F ⟨fuel,0,0⟩) f v (50-((50:Nat):Int))).bind _=_
  rw [Z58 hw hf (Q9p h.funs) 50 (by omega) NN f g v ⟨fuel,0,0⟩ (by decide) h.f0 h.gg h.vv rfl h.rg]
  rfl
theorem Z7w {w:List Q2}(hw:WW w)(hf:Fit w){F:List GFun}(hF:F.length≤1000)(f:Int)(v:Q0)(fuel:Int):Q2u NN w F f v fuel=some (Z0i w F f v fuel):=by
 unfold Q2u Z0i
 rw [Z33 hw hF]
 simp only [U0]
 cases hr:Q7k w F f v fuel with
 | false=>rfl
 | true=>
  obtain ⟨g,h⟩:=Q8g hr
  rw [if_neg (by simp),if_pos rfl]
  show (Q05 NN (mkSp w F ⟨fuel,0,0⟩) f v ((50:Nat):Int)).bind _=_
  rw [Z4i hw hf (Q9p h.funs) 50 (by omega) NN f g v ⟨fuel,0,0⟩ (by decide) h.f0 h.gg h.vv rfl h.rg]
  rfl
theorem W0q {w:List Q2}{F:List GFun}{f:Int}{v:Q0}{fuel:Int}(h:(Z0i w F f v fuel).2≠5):∃ g,Q7s w F f v fuel g:=by
 unfold Z0i at h
 split at h
 ·exact Q8g ‹_›
 ·exact absurd rfl h
theorem X8g {w:List Q2}{F:List GFun}{f:Int}{v:Q0}{fuel:Int}{g:GFun}(h:Q7s w F f v fuel g):(Q5d w F f v fuel).2.count≤fuel∧(1≤(Q5d w F f v fuel).2.count↔1≤fuel)∧((Q5d w F f v fuel).2.code=2→(Q5d w F f v fuel).2.count=fuel):=by
 have ha:=Z5u w F 50 f v ⟨fuel,0,0⟩ h.a0 rfl
 obtain ⟨a1,a2,a3,a4⟩:=ha
 have e:evC w F 50 f v ⟨fuel,0,0⟩=Q5d w F f v fuel:=rfl
 rw [e] at a1 a2 a3 a4
 simp only at a1 a2
 refine ⟨by omega,⟨fun _=>by omega,fun h1=>?_⟩,fun h2=>by have:=a4 h2;omega⟩
 unfold Q5d
 rw [evC,if_neg (by show ¬fuel=0;omega),h.gg]
 simp only
 cases hr:runD v 0 g.clauses with
 | none=>simp
 | some x=>
  simp only
  have:=Z2o w (F.map (·.typ)) (Z5u w F 49) x.2 10 g.typ.res (g.bodies.getD x.1 default) ⟨fuel-1,0+1,0⟩ (by simp only;omega) rfl
  have b1:=this.1
  have b2:=this.2.1
  simp only at b1 b2
  omega
theorem Z55 (code:List Int)(hb:∀ x∈code,0≤x∧x≤255):Q0w NN code=some true:=by
 suffices hs:Ret (Q0w NN code) (fun r=>r=true) by
  obtain ⟨a,e,rfl⟩:=hs
  exact e
 unfold Q0w
 refine Ret.ite (fun _=>.some rfl) (fun _=>?_)
 refine Ret.bind (Z2q code hb) (fun a ha=>?_)
 obtain ⟨hm,hl,_,_⟩:=ha
 have hw:=ww hm
 have hf:=W03 hm
 rw [Z1g hw hf hl,Z7w hw hf hl]
 simp only [U0]
 rw [if_neg (by simp [ieq]),if_neg (by simp [ieq])]
 refine Ret.ite (fun _=>?_) (fun h5=>?_)
 ·rw [if_pos (by simp [ieq])]
  exact .some (by simp [ieq])
 rw [Q9] at h5
 obtain ⟨g,h⟩:=W0q h5
 rw [Z1g hw hf hl]
 simp only [U0]
 have e1:Z0i a.1 a.2.1 a.2.2.1 a.2.2.2.1 a.2.2.2.2=((Q5d a.1 a.2.1 a.2.2.1 a.2.2.2.1 a.2.2.2.2).2.count,(Q5d a.1 a.2.1 a.2.2.1 a.2.2.2.1 a.2.2.2.2).2.code):=by
  unfold Z0i
  rw [if_pos h.ok]
 have e2:Z0i a.1 a.2.1 a.2.2.1 a.2.2.2.1 300=((Q5d a.1 a.2.1 a.2.2.1 a.2.2.2.1 300).2.count,(Q5d a.1 a.2.1 a.2.2.1 a.2.2.2.1 300).2.code):=by
  unfold Z0i
  rw [if_pos h.more.ok]
 rw [e1,e2]
 obtain ⟨c1,c2,c3⟩:=X8g h
 simp only
 rw [if_pos (by rw [W5];exact c1),if_pos (by rw [beq_iff_eq,Bool.eq_iff_iff,W5,W5];exact c2)]
 have fin:∀ (hc:(Q5d a.1 a.2.1 a.2.2.1 a.2.2.2.1 a.2.2.2.2).2.code≠2),Ret (if (ieq (Q5d a.1 a.2.1 a.2.2.1 a.2.2.2.1 300).2.count (Q5d a.1 a.2.1 a.2.2.1 a.2.2.2.1 a.2.2.2.2).2.count)=true then some (ieq (Q5d a.1 a.2.1 a.2.2.1 a.2.2.2.1 300).2.code (Q5d a.1 a.2.1 a.2.2.1 a.2.2.2.1 a.2.2.2.2).2.code) else some false) (fun r=>r=true):=fun hc=>by
  rw [X44 h hc]
  rw [if_pos (by simp [ieq,Rn.more])]
  exact .some (by simp [ieq,Rn.more])
 refine Ret.ite (fun h2=>?_) (fun h2=>?_)
 ·rw [Q7] at h2
  rw [if_pos (by rw [Q7];exact c3 h2)]
  exact .some rfl
 ·rw [Q9] at h2
  exact fin h2
end Go.Proofs.YtenmmbjgnlflnaaGreat
