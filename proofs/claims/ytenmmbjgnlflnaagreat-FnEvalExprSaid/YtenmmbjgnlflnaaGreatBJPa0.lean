import Derived.Test.YtenmmbjgnlflnaaGreatBJP1
import Derived.Test.YtenmmbjgnlflnaaGreatBJMa0
set_option linter.unusedSimpArgs false
set_option linter.unusedVariables false
namespace Go.Proofs.YtenmmbjgnlflnaaGreat
open Go Go.RowKit
theorem X40 {w:List Q4}(hw:WW w){F:List GFun}(hF:F.length≤1000)(f:Int)(v:Q1)(fuel:Int):Q6i NN w F f v fuel=some (Z1k w F f v fuel):=by
 unfold Q6i Z1k
 rw [Z0x hw hF]
 simp only [U0]
 cases h1:Z0m w F with
 | false=>rfl
 | true=>
  have hk:=Q6t h1
  rw [if_pos rfl]
  by_cases h2:0≤f
  ·rw [if_pos (by rw [W4];exact h2),decide_eq_true h2]
   by_cases h3:f<F.length
   ·rw [if_pos (by rw [Z5];exact h3),decide_eq_true h3]
    by_cases h4:0≤fuel
    ·rw [if_pos (by rw [W4];exact h4),decide_eq_true h4]
     by_cases h5:fuel≤300
     ·rw [if_pos (by rw [W4];exact h5),decide_eq_true h5]
      have hg:F[f.toNat]?=some (F[f.toNat]'(by omega)):=U10 (by omega)
      rw [Q7b h2 hg]
      simp only [U0]
      rw [Z9r (by decide) hw (hk.2 _ (U1 hg)).arg,hg]
      simp
     ·rw [if_neg (by rw [W4];exact h5),decide_eq_false h5]
      rfl
    ·rw [if_neg (by rw [W4];exact h4),decide_eq_false h4]
     rfl
   ·rw [if_neg (by rw [Z5];exact h3),decide_eq_false h3]
    rfl
  ·rw [if_neg (by rw [W4];exact h2),decide_eq_false h2]
   rfl
theorem V2n {w:List Q4}(hw:WW w)(hf:Fit w){F:List GFun}{f:Int}{v:Q1}{fuel:Int}{g:GFun}(h:Z6y w F f v fuel g):Z1h 10 (outV (X45 w F f v fuel)).1:=by
 unfold outV
 split
 ·exact (X44 hw hf h ‹_›).2
 ·exact W33
theorem X3z {w:List Q4}(hw:WW w)(hf:Fit w){F:List GFun}(hF:F.length≤1000)(f:Int)(v:Q1)(fuel:Int):Q8h NN w F f v fuel=some (Z1j w F f v fuel):=by
 unfold Q8h Z1j
 rw [X40 hw hF]
 simp only [U0]
 cases hr:Z1k w F f v fuel with
 | false=>rfl
 | true=>
  obtain ⟨g,h⟩:=Z4f hr
  rw [if_neg (by simp),if_pos rfl]
  show (Q2s NN (mkSp w F ⟨fuel,0,0⟩) f v ((50:Nat):Int)).bind _=_
  rw [Z9z hw hf (Q6t h.funs) 50 (by omega) NN f g v ⟨fuel,0,0⟩ (by decide) h.f0 h.gg h.vv rfl h.rg]
  simp only [U0]
  rw [W1h (q:=evC w F 50 f v ⟨fuel,0,0⟩) (fun h0=>(X44 hw hf h h0).2)]
  rfl
theorem W1w {w:List Q4}(hw:WW w)(hf:Fit w)(F:List GFun)(f:Int)(v:Q1)(fuel:Int):V1 NN (Z1j w F f v fuel).1 (Z1j w F f v fuel).1=some true:=by
 refine Z18 10 NN _ ?_ (by decide)
 unfold Z1j
 split
 ·obtain ⟨g,h⟩:=Z4f ‹_›
  exact V2n hw hf h
 ·exact W33
theorem W7o {w:List Q4}{F:List GFun}{f:Int}{v:Q1}{fuel:Int}(h:(Z1j w F f v fuel).2≠5):∃ g,Z6y w F f v fuel g:=by
 unfold Z1j at h
 split at h
 ·exact Z4f ‹_›
 ·exact absurd rfl h
theorem V45 {w:List Q4}(hww:w∈Q0j)(T:List Z0)(vars:List Q5):∀ (d e:Nat) (t:Q2) (v:Q1),t∈tys w→Q2f w e t v→Q5e w T vars d t (exV v)=true→Q2f w d t v:=by
 have hw:=ww hww
 intro d
 induction d with
 | zero=>intro e t v _ _ h;cases h
 | succ d ih=>
  intro e t v ht h hg
  cases e with
  | zero=>exact h.elim
  | succ e=>
   simp only [Q2f] at h ⊢
   split at h
   ·rw [if_pos ‹_›]
    exact h
   ·rw [if_neg ‹_›]
    obtain ⟨h1,h2,h3,h4⟩:=h
    refine ⟨h1,h2,h3,fun j a x ha hx=>?_⟩
    have h0:=V8t hww ht _ h2
    rw [W2x,if_neg (by omega)] at hg
    have hk:Y9 w T t (Z1.mk 3 0 v.ctor (exV.exVs v.kids))=W0 w t v.ctor:=by simp [Y9]
    refine ih e a x ((hw.ty t ht).at_ _ h2 a (U1 ha)) (h4 j a x ha hx) (Q5d hg (k:=j) (by rw [hk];exact ha) ?_)
    show (exV.exVs v.kids)[j]?=_
    rw [Z6j,List.getElem?_map,hx]
    rfl
theorem V8n {w:List Q4}(hww:w∈Q0j){F:List GFun}{f:Int}{v:Q1}{fuel:Int}{g:GFun}(h:Z6y w F f v fuel g)(hv:Q5x w (F.map (·.typ)) [] g.typ.res (Z1.mk 5 f 0 [exV v])=true):exQ w F g.typ.res (Z1.mk 5 f 0 [exV v]) fuel=X45 w F f v fuel:=by
 have hk:=Q6t h.funs
 have harg:=(hk.2 g (U1 h.gg)).arg
 have hg:=Q3w hv
 have hkid:Y9 w (F.map (·.typ)) g.typ.res (Z1.mk 5 f 0 [exV v])=[g.typ.arg]:=by
  simp only [Y9,show ¬(5:Int)=3 by omega,show ¬(5:Int)=4 by omega,if_true,if_false,List.getElem?_map,h.gg]
  rfl
 have h9:Q2f w 9 g.typ.arg v:=V45 hww _ _ 9 10 _ _ harg (Q2g h.vv) (Q5d hg (k:=0) (by rw [hkid];rfl) rfl)
 unfold exQ X45
 rw [evE]
 simp only [show ¬(5:Int)=1 by omega,show ¬(5:Int)=2 by omega,if_false]
 rw [hkid]
 have e1:evE w (F.map (·.typ)) (evC w F 50) [] 9 g.typ.arg (exV v) ⟨fuel,0,0⟩=(v,⟨fuel,0,0⟩):=W9w hww _ _ _ rfl 9 _ _ harg h9 (by omega) (Z34 h.vv)
 have e2:evK (evE w (F.map (·.typ)) (evC w F 50) [] 9) [g.typ.arg] [exV v] ⟨fuel,0,0⟩=([v],⟨fuel,0,0⟩):=by
  rw [evK,e1]
  simp [evK]
 rw [e2,W9l rfl (show ¬(5:Int)=4 by omega) (show ¬(5:Int)=3 by omega)]
 rfl
theorem X4f (code:List Int)(hb:∀ x∈code,0≤x∧x≤255):Q3o NN code=some true:=by
 suffices hs:Ret (Q3o NN code) (fun r=>r=true) by
  obtain ⟨a,e,rfl⟩:=hs
  exact e
 unfold Q3o
 refine Ret.ite (fun _=>.some rfl) (fun _=>?_)
 refine Ret.bind (Z2r code hb) (fun a ha=>?_)
 obtain ⟨hm,hl,_,_⟩:=ha
 have hw:=ww hm
 have hf:=W2u hm
 rw [Z2g hw hf hl,X3z hw hf hl]
 simp only [U0]
 rw [if_neg (by simp [ieq]),W1w hw hf]
 simp only [U0]
 rw [if_neg (by simp)]
 refine Ret.ite (fun _=>?_) (fun h5=>?_)
 ·rw [if_pos (by simp [ieq])]
  exact .some rfl
 rw [Z2] at h5
 obtain ⟨g,h⟩:=W7o h5
 have hgo:=(Q6t h.funs).2 g (U1 h.gg)
 rw [Q7b h.f0 h.gg]
 simp only [U0]
 rw [Z69 hw hgo.arg,if_pos h.vv]
 simp only [U0]
 rw [Z0j hw hf hl hgo.res]
 simp only [U0]
 rw [if_pos trivial]
 refine Ret.ite (fun _=>.some rfl) (fun h6=>?_)
 rw [Z2] at h6
 have hb:exB a.1 a.2.1 g.typ.res (Z1.mk 5 a.2.2.1 0 [exV a.2.2.2.1]) a.2.2.2.2=true:=by
  cases hx:exB a.1 a.2.1 g.typ.res (Z1.mk 5 a.2.2.1 0 [exV a.2.2.2.1]) a.2.2.2.2 with
  | true=>rfl
  | false=>
   unfold Z3z at h6
   rw [hx] at h6
   exact absurd rfl h6
 have he:Z3z a.1 a.2.1 g.typ.res (Z1.mk 5 a.2.2.1 0 [exV a.2.2.2.1]) a.2.2.2.2=Z1j a.1 a.2.1 a.2.2.1 a.2.2.2.1 a.2.2.2.2:=by
  unfold Z3z Z1j
  rw [if_pos hb,if_pos h.ok]
  have hv:Q5x a.1 (a.2.1.map (·.typ)) [] g.typ.res (Z1.mk 5 a.2.2.1 0 [exV a.2.2.2.1])=true:=by
   simp only [exB,Bool.and_eq_true] at hb
   exact hb.1.2
  rw [V8n hm h hv]
 rw [he,if_pos (by simp [ieq]),W1w hw hf]
 exact .some rfl
end Go.Proofs.YtenmmbjgnlflnaaGreat
