import Derived.KernelRfl
import Derived.Test.YtbdkbdafhlcilaaGreatCJP0
import Derived.Test.YtbdkbdafhlcilaaGreatCJE1
import Derived.Test.YtbdkbdafhlcilaaGreatCJE0
import Derived.Test.YtbdkbdafhlcilaaGreatCJMir
import Derived.Test.YtbdkbdafhlcilaaGreatCJMb0
import Derived.Test.YtbdkbdafhlcilaaGreatCJP1
import Derived.Test.YtbdkbdafhlcilaaGreatCJZ0
set_option linter.unusedSimpArgs false
set_option linter.unusedVariables false
namespace Go.Proofs.YtbdkbdafhlcilaaGreat
open Go Go.RowKit
theorem Z8r (l : List Q2) (f : Q2 → Option Bool) (g : Q2 → Bool) (hf : ∀ x ∈ l, f x = some (g x)) : Q00 l f = some (l.any g) := X44 (Q7w l f g hf)
theorem W35 {w : List Q3} {t : Q2} (hw : WT w t) {p : Q0} (h : Q7i w t p = true) : (V6 w t p).length ≤ 3 := by
 unfold V6
 split
 ·rename_i h4; exact hw.al _ (Q9l h h4)
 ·split
  ·simp
  ·split <;> simp
end Go.Proofs.YtbdkbdafhlcilaaGreat
namespace Go.Proofs.YtbdkbdafhlcilaaGreat
open Go Go.RowKit
theorem Z8q (a b : List Q0) (f : Q0 → Q0 → Option Bool) (P : Q0 → Q0 → Prop) (hf : ∀ x ∈ a, ∀ y ∈ b, Ret (f x y) (fun r => r = true ↔ x = y)) : Ret (Q34 a b f) (fun r => r = true ↔ a = b) := by
 unfold Q34
 refine Ret.ite (fun h => ?_) (fun h => ?_)
 ·rw [Bool.not_eq_true', Z8] at h
  simp only [lenZ] at h
  exact .some ⟨fun e => (by cases e), fun e => by rw [e] at h; exact absurd rfl h⟩
 ·rw [Bool.not_eq_false', Z4] at h
  simp only [lenZ] at h
  have hl : a.length = b.length := by omega
  refine Ret.ctl (Z1 a (fun k _ => ∀ j : Nat, j < k → a[j]? = b[j]?) (fun r => r = false ∧ a ≠ b) (fun _ => a = b) (fun j hj => by omega) (fun k x s hx hI => ?_) (fun s hI => ?_)) (fun r hr => ?_) (fun s hs => ?_)
  ·have hkl := (List.getElem?_eq_some_iff.1 hx).1
   have hy : b[k]? = some (b[k]'(by omega)) := by simp
   rw [Q2a hy]
   simp only [Option.bind_some]
   refine Ret.bind (hf x (List.mem_of_getElem? hx) _ (List.mem_of_getElem? hy)) (fun r hr => ?_)
   refine Ret.ite (fun h => ?_) (fun h => ?_)
   ·rw [Bool.not_eq_true'] at h
    refine .some ⟨rfl, fun e => ?_⟩
    rw [e] at hx
    rw [hx] at hy
    have := hr.2 (Option.some.inj hy)
    rw [h] at this
    cases this
   ·rw [Bool.not_eq_false'] at h
    refine .some (fun j hj => ?_)
    by_cases hjk : j = k
    ·subst hjk
     rw [hx, hy, hr.1 h]
    ·exact hI j (by omega)
  ·apply List.ext_getElem?
   intro j
   rcases Nat.lt_or_ge j a.length with h | h
   ·exact hI j h
   ·rw [List.getElem?_eq_none h, List.getElem?_eq_none (by omega)]
  ·exact .some ⟨fun e => (by rw [hr.1] at e; cases e), fun e => absurd e hr.2⟩
  ·exact .some ⟨fun _ => hs, fun _ => rfl⟩
theorem X4r : ∀ (d n : Nat) (p : Q0), X69 d p → d ≤ n → cntP p ≤ 1000 → Q3a n p = some p := by
 intro d
 induction d with
 | zero => intro n p h; exact h.elim
 | succ d ih =>
  intro n p h hn hc
  obtain ⟨n, rfl⟩ : ∃ k, n = k + 1 := ⟨n - 1, by omega⟩
  have hcp := Q1u p
  have hr : Ret (Q3a (n + 1) p) (fun r => r = p) := by
   unfold Q3a
   refine Ret.ctl (Z1 p.kids (fun k s => s = p.kids.take k ∧ s.length ≤ cntP.cntPs (p.kids.take k)) (fun _ => False) (fun s => s = p.kids) ⟨by simp, by simp⟩ (fun k q s hq hI => ?_) (fun s hI => ?_)) (fun r hr => hr.elim) (fun s hs => .some (Q0.ext' rfl rfl rfl rfl rfl hs))
   ·obtain ⟨i1, i2⟩ := hI
    have hct := Q1z p.kids (k + 1)
    have hcd := Q5k p.kids k q hq
    have hq1 := Q5l q
    rw [ih n q (h q (List.mem_of_getElem? hq)) (by omega) (by omega)]
    simp only [Option.bind_some]
    rw [W6 (by simp only [Q6, List.length_cons, List.length_nil]; omega)]
    exact .some ⟨by rw [i1, List.take_add_one, hq]; rfl, by simp; omega⟩
   ·rw [hI.1, List.take_length]
  obtain ⟨r, e, rfl⟩ := hr
  exact e
end Go.Proofs.YtbdkbdafhlcilaaGreat
namespace Go.Proofs.YtbdkbdafhlcilaaGreat
open Go Go.RowKit
theorem Z7q {w : List Q3} (hw : WW w) (he : WE w) : ∀ (x : Nat) (t : Q2) (p : Q0), t ∈ tys w → Z7 w x t p → depP w t = 0 → V2 w x t p = true
 | 0, _, _, _, h, _ => h.elim
 | x + 1, t, p, ht, hp, h0 => by
  rcases hp with rfl | ⟨n, m, rfl, hd, _⟩ | ⟨c, ks, rfl, hd, hc, hl, hk⟩
  ·simp [V2, h0]
  ·have := ((hw.ty t ht).ti hd).2; omega
  ·obtain ⟨a, ha, ha0⟩ := he.e0 t ht h0 c hc
   obtain ⟨j, hj⟩ := List.mem_iff_getElem?.1 ha
   obtain ⟨q, hq⟩ := Q1j hl (List.getElem?_eq_some_iff.1 hj).1
   exact Q4x.2 ⟨j, a, q, hj, hq, Z7q hw he x a q ((hw.ty t ht).at_ _ hc a ha) (hk j a q hj hq) ha0⟩
theorem Z99 {w : List Q3} (hw : WW w) (he : WE w) : ∀ (d x : Nat) (t : Q2) (a b m : Q0), t ∈ tys w → d ≤ x → Z7 w x t a → Z7 w d t b → V2 w x t a = true → Q05 d a b = some m → V2 w x t m = true
 | 0, _, _, _, _, _, _, _, _, h, _, _ => h.elim
 | d + 1, 0, _, _, _, _, _, h, _, _, _, _ => by omega
 | d + 1, x + 1, t, a, b, m, htw, hx, ha, hb, hem, hm => by
  have hmp := Q84 (d + 1) (x + 1) t a b m hx ha hb hm
  rcases ha with rfl | ⟨n, n2, rfl, ht, h0, h1, h2⟩ | ⟨c, ks, rfl, ht, hc, hl, hk⟩
  ·simp only [V2, if_true, decide_eq_true_eq] at hem
   exact Z7q hw he _ t m htw hmp hem
  ·simp [V2] at hem
  ·rcases hb with rfl | ⟨n', m', rfl, ht', _⟩ | ⟨c', ks', rfl, _, hc', hl', hk'⟩
   ·simp [Q05] at hm; subst hm; exact hem
   ·exact absurd ht' ht
   ·have e1 : ¬ (4 : Int) = 1 := by decide
    have e3 : ¬ (4 : Int) = 3 := by decide
    simp only [Q05, e1, e3, if_false] at hm
    split at hm
    ·rename_i hcc
     subst hcc
     obtain ⟨ms, h1, h2⟩ := Option.map_eq_some_iff.1 hm
     subst h2
     obtain ⟨g1, g2⟩ := Z3e ks ks' ms (hl.trans hl'.symm) h1
     obtain ⟨j, a, q, k1, k2, k3⟩ := Q4x.1 hem
     obtain ⟨p', hp'⟩ := Q1j hl' (List.getElem?_eq_some_iff.1 k1).1
     obtain ⟨m, k4, k5⟩ := g2 j q p' k2 hp'
     exact Q4x.2 ⟨j, a, m, k1, k5, Z99 hw he d x a q p' m ((hw.ty t htw).at_ _ hc a (List.mem_of_getElem? k1)) (by omega) (hk j a q k1 k2) (hk' j a p' k1 hp') k3 k4⟩
    ·cases hm
end Go.Proofs.YtbdkbdafhlcilaaGreat
namespace Go.Proofs.YtbdkbdafhlcilaaGreat
open Go Go.RowKit
theorem W8v {w : List Q3} (hw : WW w) (he : WE w) {d x : Nat} {t : Q2} (htw : t ∈ tys w) (hx : d + 1 ≤ x) (hM : ∀ (t : Q2) (a b : Q0), t ∈ tys w → Z7 w x t a → Z7 w d t b → V2 w x t a = true → ∀ y ∈ W2 w d t a b, V2 w x t y = true) {c c' : Int} {ks ks' : List Q0} (hc : c ∈ Z9 w t)
  (hl : ks.length = (Z5 w t c).length) (hk : ∀ (j : Nat) (a : Q2) (q : Q0), (Z5 w t c)[j]? = some a → ks[j]? = some q → Z7 w x a q)
  (hl' : ks'.length = (Z5 w t c').length) (hk' : ∀ (j : Nat) (a : Q2) (q : Q0), (Z5 w t c')[j]? = some a → ks'[j]? = some q → Z7 w d a q) (hem : V2 w (x + 1) t (Q0.mk 4 c 0 0 0 ks) = true) :
  ∀ y ∈ cmD w (W2 w d) (Q05 d) t (Q0.mk 4 c 0 0 0 ks) (Q0.mk 4 c' 0 0 0 ks'), V2 w (x + 1) t y = true := fun y hy => by
 simp only [cmD] at hy
 split at hy
 ·rename_i hcc
  subst hcc
  obtain ⟨k, hk1, rfl⟩ := List.mem_map.1 hy
  obtain ⟨g1, i, g2, g3⟩ := X7g (Z5 w t c) ks ks' hl hl' k hk1
  obtain ⟨j, a, p, k1, k2, k3⟩ := Q4x.1 hem
  obtain ⟨p', hp'⟩ := Q1j hl' (List.getElem?_eq_some_iff.1 k1).1
  obtain ⟨q, hq⟩ := Q1j g1 (List.getElem?_eq_some_iff.1 k1).1
  obtain ⟨m1, m2, m3⟩ := g3 j a p p' q k1 k2 hp' hq
  have haw := (hw.ty t htw).at_ _ hc a (List.mem_of_getElem? k1)
  refine Q4x.2 ⟨j, a, q, k1, hq, ?_⟩
  rcases Nat.lt_trichotomy j i with h | h | h
  ·exact Z99 hw he d x a p p' q haw (by omega) (hk j a p k1 k2) (hk' j a p' k1 hp') k3 (m1 h)
  ·exact hM a p p' haw (hk j a p k1 k2) (hk' j a p' k1 hp') k3 q (m2 h)
  ·rw [m3 h]; exact k3
 ·simp at hy
  subst hy
  exact hem
theorem Z6u {w : List Q3} (hw : WW w) (he : WE w) : ∀ (d x : Nat) (t : Q2) (a b : Q0), t ∈ tys w → d + 1 ≤ x → Z7 w x t a → Z7 w d t b → V2 w x t a = true → ∀ y ∈ W2 w d t a b, V2 w x t y = true
 | 0, _, _, _, _, _, _, _, h, _, _, _ => h.elim
 | d + 1, 0, _, _, _, _, h, _, _, _, _, _ => by omega
 | d + 1, x + 1, t, a, b, htw, hx, ha, hb, hem, y, hy => by
  have hyp := Q7v (d + 1) (x + 1) t a b hx ha hb y hy
  rcases ha with rfl | ⟨n, m, rfl, ht, _⟩ | ⟨c, ks, rfl, ht, hc, hl, hk⟩
  ·simp only [V2, if_true, decide_eq_true_eq] at hem
   exact Z7q hw he _ t y htw hyp hem
  ·simp [V2] at hem
  ·rcases hb with rfl | ⟨n', m', rfl, ht', _⟩ | ⟨c', ks', rfl, _, hc', hl', hk'⟩
   ·simp [W2] at hy
   ·exact absurd ht' ht
   ·have e1 : ¬ (4 : Int) = 1 := by decide
    have e3 : ¬ (4 : Int) = 3 := by decide
    simp only [W2, e1, e3, if_false] at hy
    exact W8v hw he htw (by omega) (fun t a b h1 h2 h3 h4 => Z6u hw he d x t a b h1 (by omega) h2 h3 h4) hc hl hk hl' hk' hem y hy
theorem X1y {w : List Q3} (hw : WW w) (he : WE w) {d x : Nat} {t : Q2} (ht : t ∈ tys w) (hx : d + 1 ≤ x) {b : Q0} (hb : Z7 w d t b) : ∀ {l : List Q0}, (∀ a ∈ l, Z7 w x t a) → Q36 w d x t (Q79 w x t l) b = Q36 w d x t l b
 | [], _ => rfl
 | a :: l, h => by
  have ih := X1y hw he ht hx hb (l := l) fun a ha => h a (by simp [ha])
  simp only [Q36, Q79, List.filter_cons, List.flatMap_cons, List.filter_append] at ih ⊢
  cases hem : V2 w x t a with
  | false => simp only [Bool.not_false, if_true, List.flatMap_cons, List.filter_append, ih]
  | true =>
   have : (W2 w d t a b).filter (fun p => !V2 w x t p) = [] := by
    rw [List.filter_eq_nil_iff]
    intro y hy
    simp [Z6u hw he d x t a b ht hx (h a (by simp)) hb hem y hy]
   simp [ih, this]
theorem X4n {w : List Q3} {d x : Nat} {t : Q2} {l : List Q0} {b : Q0} : Q79 w x t (Q36 w d x t l b) = Q36 w d x t l b := by
 simp [Q36, Q79, List.filter_filter]
end Go.Proofs.YtbdkbdafhlcilaaGreat
namespace Go.Proofs.YtbdkbdafhlcilaaGreat
open Go Go.RowKit
theorem Z0h {w : List Q3} (hw : WW w) : ∀ (d n : Nat) (t : Q2) (p : Q0), t ∈ tys w → Z7 w d t p → d + 1 ≤ n → Q07 n w (tabP w) t p = some (!V2 w d t p)
 | 0, _, _, _, _, h, _ => h.elim
 | d + 1, n, t, p, ht, hp, hn => by
  obtain ⟨n, rfl⟩ : ∃ m, n = m + 1 := ⟨n - 1, by omega⟩
  have i11 : ieq 1 1 = true := rfl
  have i31 : ieq 3 1 = false := rfl
  have i33 : ieq 3 3 = true := rfl
  have i41 : ieq 4 1 = false := rfl
  have i43 : ieq 4 3 = false := rfl
  have e31 : ¬ (3 : Int) = 1 := by decide
  have e34 : ¬ (3 : Int) = 4 := by decide
  have e41 : ¬ (4 : Int) = 1 := by decide
  rcases hp with rfl | ⟨n1, m1, rfl, hd, _⟩ | ⟨c, ks, rfl, hd, hc, hl, hk⟩
  ·simp only [Q07, i11, if_true, Option.bind_some, (hw.ty t ht).d1, V2]
   have := (hw.ty t ht).d0
   by_cases h : depP w t = 0
   ·simp [h, ilt]
   ·have e : ilt 0 (depP w t) = true := by rw [X0]; omega
    simp [h, e]
  ·simp [Q07, i31, i33, V2, e34]
  ·simp only [Q07, i41, i43, Bool.false_eq_true, if_false, V2, e41, if_true]
   rw [(hw.ty t ht).a1 c hc]
   simp only [Option.bind_some]
   have hlp : ∀ (ts : List Q2) (k : Nat) (ks' : List Q0), (Z5 w t c).drop k = ts → ks.drop k = ks' →
     forL (ρ := Bool) (fun k87 x88 (s81 : Unit) => ((idx ks (k87 : Int)).bind fun x96 => ((Q07 n w (tabP w) x88 x96).bind fun r97 => (if (!r97) = true then some (Ctl.ret (false)) else some (Ctl.go ()))))) k ts () = some (if ((ts.zip ks').any fun x => V2 w d x.1 x.2) = true then .ret false else .brk ()) := by
    intro ts
    induction ts with
    | nil => intro k ks' _ _; simp [forL]
    | cons u ts ih =>
     intro k ks' h0 h1
     obtain ⟨u1, u2⟩ := Q3y h0
     have hkl := (List.getElem?_eq_some_iff.1 u1).1
     cases ks' with
     | nil => have := congrArg List.length h1; simp at this; omega
     | cons q ks' =>
     obtain ⟨q1, q2⟩ := Q3y h1
     unfold forL
     simp only [Q2a q1, Option.bind_some]
     rw [Z0h hw d n u q ((hw.ty t ht).at_ _ hc u (List.mem_of_getElem? u1)) (hk k u q u1 q1) (by omega)]
     simp only [Option.bind_some, List.zip_cons_cons, List.any_cons]
     rcases Bool.eq_false_or_eq_true (V2 w d u q) with hem | hem
     ·simp [hem]
     ·simp only [hem, Bool.not_false, Bool.not_true, Bool.false_eq_true, if_false, Bool.false_or]
      exact ih (k + 1) ks' u2 q2
   have e := hlp (Z5 w t c) 0 ks rfl rfl
   have e' := congrArg (fun z : Option (Ctl Bool Unit) => z.bind fun o => match o with | .ret r => some r | .go _ => none | .brk _ => some true) e
   refine e'.trans ?_
   cases ((Z5 w t c).zip ks).any fun x => V2 w d x.1 x.2 <;> simp
theorem Z4u {w : List Q3} (hw : WW w) {d n : Nat} {t : Q2} (ht : t ∈ tys w) {l : List Q0} (h : ∀ a ∈ l, Z7 w d t a) (hl : l.length ≤ 1000000) (hn : d + 1 ≤ n) : Q37 n w (tabP w) t l = some (Q79 w d t l) := by
 have hlp : ∀ (l : List Q0) (k : Nat) (s : List Q0), (∀ a ∈ l, Z7 w d t a) → s.length + l.length ≤ 1000000 →
   forL (ρ := List Q0) (fun k100 x101 (s94 : (List Q0)) =>
   ((((Q07 n w (tabP w) t x101).bind fun r113 =>
   (if r113 = true then
   ((app s94 [x101]).bind fun x115 =>
   some (Ctl.brk x115))
   else
   some (Ctl.brk s94)))).bind fun (o110 : Ctl (Ctl (List Q0) (List Q0)) ((List Q0))) => match o110 with
   | .ret r => some r
   | .go _ => none
   | .brk s109 =>
   some (Ctl.go s109))) k l s = some (.brk (s ++ Q79 w d t l)) := by
  intro l
  induction l with
  | nil => intro k s _ _; simp [forL, Q79]
  | cons a l ih =>
   intro k s h hs
   simp only [List.length_cons] at hs
   unfold forL
   rw [Z0h hw d n t a ht (h a (by simp)) hn]
   simp only [Option.bind_some]
   rcases Bool.eq_false_or_eq_true (V2 w d t a) with hem | hem
   ·simp only [hem, Bool.not_true, Bool.false_eq_true, if_false, Option.bind_some]
    rw [ih (k + 1) s (fun a ha => h a (by simp [ha])) (by omega)]
    simp [Q79, hem]
   ·simp only [hem, Bool.not_false, if_true]
    rw [W6 (by simp only [List.length_cons, List.length_nil, Q6]; omega)]
    simp only [Option.bind_some]
    rw [ih (k + 1) (s ++ [a]) (fun a ha => h a (by simp [ha])) (by simp only [List.length_append, List.length_cons, List.length_nil]; omega)]
    simp [Q79, hem]
 have e := hlp l 0 [] h (by simp only [List.length_nil]; omega)
 have e' := congrArg (fun z : Option (Ctl (List Q0) (List Q0)) => z.bind fun o => match o with | .ret r => some r | .go _ => none | .brk s => some s) e
 exact e'.trans (by simp)
theorem Z26 {w : List Q3} (hw : WW w) : ∀ (d n x : Nat) (t : Q2) (a b : Q0), t ∈ tys w → Z7 w x t a → Z7 w d t b → d + 3 ≤ n → ∃ q, Q0c n a b = some (match Q05 d a b with | some m => (m, true) | none => (q, false))
 | 0, _, _, _, _, _, _, _, h, _ => h.elim
 | d + 1, n, x, t, a, b, ht, ha, hb, hn => by
  obtain ⟨n, rfl⟩ : ∃ m, n = m + 1 := ⟨n - 1, by omega⟩
  obtain ⟨x, rfl, ha⟩ := Z0n ha
  have i11 : ieq 1 1 = true := rfl
  have i31 : ieq 3 1 = false := rfl
  have i33 : ieq 3 3 = true := rfl
  have i41 : ieq 4 1 = false := rfl
  have i43 : ieq 4 3 = false := rfl
  have e31 : ¬ (3 : Int) = 1 := by decide
  have e41 : ¬ (4 : Int) = 1 := by decide
  have e43 : ¬ (4 : Int) = 3 := by decide
  rcases ha with rfl | ⟨n1, m1, rfl, hd, _⟩ | ⟨c, ks, rfl, hd, hc, hl, hk⟩
  ·exact ⟨zP, by simp [Q0c, Q05, i11]⟩
  ·rcases hb with rfl | ⟨n2, m2, rfl, _⟩ | ⟨c', ks', rfl, hd', _⟩
   ·exact ⟨zP, by simp [Q0c, Q05, i11, i31]⟩
   ·refine ⟨Q0.mk 3 0 (max n1 n2) (min m1 m2) 0 [], ?_⟩
    simp only [Q0c, Q05, i31, i33, e31, Bool.false_eq_true, if_false, if_true]
    have h1 : (if ilt n1 n2 = true then some (Ctl.brk n2) else some (Ctl.brk n1) : Option (Ctl (Q0 × Bool) Int)) = some (Ctl.brk (max n1 n2)) := by
     by_cases h : n1 < n2
     ·rw [if_pos (by rw [X0]; exact h)]; congr 2; omega
     ·rw [if_neg (by rw [X0]; exact h)]; congr 2; omega
    have h2 : (if ilt m2 m1 = true then some (Ctl.brk m2) else some (Ctl.brk m1) : Option (Ctl (Q0 × Bool) Int)) = some (Ctl.brk (min m1 m2)) := by
     by_cases h : m2 < m1
     ·rw [if_pos (by rw [X0]; exact h)]; congr 2; omega
     ·rw [if_neg (by rw [X0]; exact h)]; congr 2; omega
    rw [h1, h2]
    simp only [Option.bind_some]
    by_cases h : max n1 n2 ≤ min m1 m2
    ·have : ile (max n1 n2) (min m1 m2) = true := by rw [Q03]; exact h
     simp [h, this]
    ·have : ile (max n1 n2) (min m1 m2) = false := by rw [Q25]; omega
     simp [h, this]
   ·exact absurd hd hd'
  ·rcases hb with rfl | ⟨n2, m2, rfl, hd', _⟩ | ⟨c', ks', rfl, _, hc', hl', hk'⟩
   ·exact ⟨zP, by simp [Q0c, Q05, i11, i41]⟩
   ·exact absurd hd' hd
   ·refine ⟨zP, ?_⟩
    simp only [Q0c, Q05, i41, i43, e41, e43, Bool.false_eq_true, if_false]
    by_cases hcc : c = c'
    ·subst hcc
     have ec : (!ieq c c) = false := by simp [ieq]
     simp only [ec, Bool.false_eq_true, if_false, if_true]
     have hal := (hw.ty t ht).al c hc
     have hlp : ∀ (as' : List Q0) (k : Nat) (s : List Q0) (bs' : List Q0), ks.drop k = as' → ks'.drop k = bs' → s.length + as'.length ≤ 100 →
       forL (fun k132 x133 (s126 : (List Q0)) =>
        ((idx ks' (k132 : Int)).bind fun x143 =>
        ((Q0c n x133 x143).bind fun r144 =>
        (if (!r144.2) = true then
        some (Ctl.ret (((Q0.mk 0 0 0 0 0 []), false)))
        else
        ((app s126 [r144.1]).bind fun x147 =>
        some (Ctl.go x147)))))) k as' s = some (match Q4n (Q05 d) as' bs' with | some ms => .brk (s ++ ms) | none => .ret (zP, false)) := by
      intro as'
      induction as' with
      | nil =>
       intro k s bs' h1 h2 _
       simp [forL, Q4n]
      | cons a as' ih =>
       intro k s bs' h1 h2 hs
       obtain ⟨a1, a2⟩ := Q3y h1
       have hkl := (List.getElem?_eq_some_iff.1 a1).1
       cases bs' with
       | nil => have := congrArg List.length h2; simp at this; omega
       | cons b bs' =>
       obtain ⟨b1, b2⟩ := Q3y h2
       obtain ⟨u, u1⟩ := Q1j (l := Z5 w t c) (j := k) rfl (by omega)
       simp only [List.length_cons] at hs
       unfold forL
       rw [Q2a b1]
       simp only [Option.bind_some]
       obtain ⟨q, e⟩ := Z26 hw d n x u a b ((hw.ty t ht).at_ _ hc u (List.mem_of_getElem? u1)) (hk k u a u1 a1) (hk' k u b u1 b1) (by omega)
       rw [e]
       simp only [Option.bind_some, Q4n]
       cases hm : Q05 d a b with
       | none => simp [zP]
       | some m =>
        simp only [Bool.not_true, Bool.false_eq_true, if_false, Option.bind_some]
        rw [W6 (by simp only [List.length_cons, List.length_nil, Q6]; omega)]
        simp only [Option.bind_some]
        rw [ih (k + 1) (s ++ [m]) bs' a2 b2 (by simp; omega)]
        cases Q4n (Q05 d) as' bs' with
        | none => simp
        | some ms => simp
     have := hlp ks 0 [] ks' rfl rfl (by simp; omega)
     rw [this]
     cases Q4n (Q05 d) ks ks' with
     | none => simp
     | some ms => simp
    ·have ec : (!ieq c c') = true := by simp [ieq, hcc]
     simp [ec, hcc, zP]
theorem Z2x {n1 m1 n2 m2 : Int} {a b : Q0} (ha : a.n = n1 ∧ a.m = m1) (hb : b.n = n2 ∧ b.m = m2) (h1 : 0 ≤ n2) (h2 : n2 ≤ 9) (h3 : 0 ≤ m2) (h4 : m2 ≤ 9) : Q42 a b = some (Z1o n1 m1 n2 m2) := by
 obtain ⟨rfl, rfl⟩ := ha
 obtain ⟨rfl, rfl⟩ := hb
 unfold Q42 Z1o
 have w1 : wsub .i64 b.n 1 = b.n - 1 := Q3k (by omega) (by omega)
 have w2 : wadd .i64 b.m 1 = b.m + 1 := Q09 (by omega) (by omega)
 simp only [w1, w2]
 have g1 : (if ilt (b.n - 1) a.m = true then some (Ctl.brk (b.n - 1)) else some (Ctl.brk a.m) : Option (Ctl (List Q0) Int)) = some (Ctl.brk (min a.m (b.n - 1))) := by
  by_cases h : b.n - 1 < a.m
  ·rw [if_pos (by rw [X0]; exact h)]; congr 2; omega
  ·rw [if_neg (by rw [X0]; exact h)]; congr 2; omega
 have g2 : (if ilt a.n (b.m + 1) = true then some (Ctl.brk (b.m + 1)) else some (Ctl.brk a.n) : Option (Ctl (List Q0) Int)) = some (Ctl.brk (max a.n (b.m + 1))) := by
  by_cases h : a.n < b.m + 1
  ·rw [if_pos (by rw [X0]; exact h)]; congr 2; omega
  ·rw [if_neg (by rw [X0]; exact h)]; congr 2; omega
 rw [g1, g2]
 simp only [Option.bind_some]
 by_cases c1 : a.n ≤ min a.m (b.n - 1)
 ·by_cases c2 : max a.n (b.m + 1) ≤ a.m
  ·have e1 : ile a.n (min a.m (b.n - 1)) = true := by rw [Q03]; exact c1
   have e2 : ile (max a.n (b.m + 1)) a.m = true := by rw [Q03]; exact c2
   simp [e1, e2, c1, c2, app, Q6]
  ·have e1 : ile a.n (min a.m (b.n - 1)) = true := by rw [Q03]; exact c1
   have e2 : ile (max a.n (b.m + 1)) a.m = false := by rw [Q25]; omega
   simp [e1, e2, c1, c2, app, Q6]
 ·by_cases c2 : max a.n (b.m + 1) ≤ a.m
  ·have e1 : ile a.n (min a.m (b.n - 1)) = false := by rw [Q25]; omega
   have e2 : ile (max a.n (b.m + 1)) a.m = true := by rw [Q03]; exact c2
   simp [e1, e2, c1, c2, app, Q6]
  ·have e1 : ile a.n (min a.m (b.n - 1)) = false := by rw [Q25]; omega
   have e2 : ile (max a.n (b.m + 1)) a.m = false := by rw [Q25]; omega
   simp [e1, e2, c1, c2, app, Q6]
theorem V0j {w : List Q3} (hw : WW w) {t : Q2} (ht : t ∈ tys w) {c : Int} (hc : c ∈ Z9 w t) : Q4e w t c = some (Q5n w t c) := by
 unfold Q4e
 rw [(hw.ty t ht).a1 c hc]
 simp only [Option.bind_some]
 have hal := (hw.ty t ht).al c hc
 rw [Q4q (fun _ => [Q0.mk 1 0 0 0 0 []]) 100 (Z5 w t c) 0 [] (fun k x _ s hs => by
  have : J2 = some (Q0.mk 1 0 0 0 0 []) := rfl
  rw [this]
  simp only [Option.bind_some]
  simp only [List.length_cons, List.length_nil] at hs
  rw [W6 (by simp only [List.length_cons, List.length_nil, Q6]; omega)]
  rfl) (by
   have : ∀ l : List Q2, (l.flatMap fun _ => [Q0.mk 1 0 0 0 0 []]).length = l.length := fun l => by induction l with | nil => rfl | cons a l ih => simp [ih]
   rw [this]; simp; omega)]
 simp only [Option.bind_some, List.nil_append, Q5n]
 congr 2
 induction Z5 w t c with
 | nil => rfl
 | cons a l ih => simp [ih]
end Go.Proofs.YtbdkbdafhlcilaaGreat
namespace Go.Proofs.YtbdkbdafhlcilaaGreat
open Go Go.RowKit
theorem Z88 {n : Nat} {c : Int} {ks ks' : List Q0} {fm : Q2 → Q0 → Q0 → List Q0} {fj : Q0 → Q0 → Option Q0} {args : List Q2} {w : List Q3}
  (hl : ks.length = args.length) (hl' : ks'.length = args.length) (ha3 : args.length ≤ 3)
  (hmin : ∀ (k : Nat) (u : Q2) (a b : Q0), args[k]? = some u → ks[k]? = some a → ks'[k]? = some b → Y0 n w u a b = some (fm u a b) ∧ ∃ q, Q0c n a b = some (match fj a b with | some m => (m, true) | none => (q, false))) :
  ∀ (ts : List Q2) (k : Nat) (out front as' bs' : List Q0), args.drop k = ts → ks.drop k = as' → ks'.drop k = bs' → front.length = k → out.length + (kmD fm fj ts as' bs').length ≤ 50000 →
  ∃ o : Ctl (List Q0) ((List Q0) × (List Q0)), (match o with | .ret r => some r | .go _ => none | .brk s => some s.1) = some (out ++ (kmD fm fj ts as' bs').map (fun q => Q0.mk 4 c 0 0 0 (front ++ q))) ∧
  forL (fun k1173 x1174 (s1167 : (List Q0) × (List Q0)) =>
  ((idx ks (k1173 : Int)).bind fun x1291 =>
  ((idx ks' (k1173 : Int)).bind fun x1292 =>
  ((Y0 n w x1174 x1291 x1292).bind fun r1293 =>
  ((forL (fun k1383 x1384 (s1377 : (List Q0)) =>
  ((app [] s1167.2).bind fun x1393 =>
  ((app s1167.2 [x1384]).bind fun x1394 =>
  ((Z5o ks (wadd .i64 (k1173 : Int) 1)).bind fun x1395 =>
  ((app x1394 x1395).bind fun x1396 =>
  ((app s1377 [(Q0.mk 4 c 0 0 0 x1396)]).bind fun x1397 =>
  some (Ctl.go (s1377 ++ [(Q0.mk 4 c 0 0 0 x1396)])))))))) 0 r1293 s1167.1).bind fun (o1376 : Ctl (Ctl (List Q0) ((List Q0) × (List Q0))) ((List Q0))) => match o1376 with
  | .ret r => some r
  | .go _ => none
  | .brk s1387 =>
  ((Q0c n x1291 x1292).bind fun r1398 =>
  (if (!r1398.2) = true then
  some (Ctl.ret (s1387))
  else
  ((app s1167.2 [r1398.1]).bind fun x1401 =>
  some (Ctl.go (s1387, x1401)))))))))) k ts (out, front) = some o := by
 intro ts
 induction ts with
 | nil =>
  intro k out front as' bs' h0 h1 h2 hf hs
  exact ⟨.brk (out, front), by simp [kmD], by simp [forL]⟩
 | cons u ts ih =>
  intro k out front as' bs' h0 h1 h2 hf hs
  obtain ⟨u1, u2⟩ := Q3y h0
  have hkl := (List.getElem?_eq_some_iff.1 u1).1
  cases as' with
  | nil => have := congrArg List.length h1; simp at this; omega
  | cons a as' =>
  cases bs' with
  | nil => have := congrArg List.length h2; simp at this; omega
  | cons b bs' =>
  obtain ⟨a1, a2⟩ := Q3y h1
  obtain ⟨b1, b2⟩ := Q3y h2
  obtain ⟨m1, q, m2⟩ := hmin k u a b u1 a1 b1
  simp only [kmD, List.length_append, List.length_map] at hs
  have hw1 : wadd .i64 (k : Int) 1 = ((k + 1 : Nat) : Int) := by rw [Q09] <;> omega
  have hdrop : Z5o ks ((k + 1 : Nat) : Int) = some as' := by
   unfold Z5o
   rw [if_pos ⟨by omega, by omega⟩]
   simp [← a2]
  have has : as'.length ≤ 3 := by rw [← a2]; simp; omega
  unfold forL
  simp only [Q2a a1, Q2a b1, Option.bind_some, m1, hw1, hdrop]
  have hin := Q4q (ρ := Ctl (List Q0) ((List Q0) × (List Q0))) (f := fun (k1383 : Nat) x1384 (s1377 : (List Q0)) =>
    ((app [] front).bind fun x1393 =>
    ((app front [x1384]).bind fun x1394 =>
    ((app x1394 as').bind fun x1396 =>
    ((app s1377 [(Q0.mk 4 c 0 0 0 x1396)]).bind fun x1397 =>
    some (Ctl.go (s1377 ++ [(Q0.mk 4 c 0 0 0 x1396)]))))))) (fun x => [Q0.mk 4 c 0 0 0 (front ++ x :: as')]) 100000 (fm u a b) 0 out (fun k x _ s hs => by
   simp only [List.length_cons, List.length_nil] at hs
   rw [W6 (by simp only [List.length_nil, Q6]; omega), W6 (by simp only [List.length_cons, List.length_nil, Q6]; omega)]
   simp only [Option.bind_some]
   rw [W6 (by simp only [List.length_append, List.length_cons, List.length_nil, Q6]; omega)]
   simp only [Option.bind_some]
   rw [W6 (by simp only [List.length_cons, List.length_nil, Q6]; omega)]
   simp) (by
    have : ∀ l : List Q0, (l.flatMap fun x => [Q0.mk 4 c 0 0 0 (front ++ x :: as')]).length = l.length := fun l => by induction l with | nil => rfl | cons a l ih => simp [ih]
    rw [this]; omega)
  have hfl : ∀ l : List Q0, (l.flatMap fun x => [Q0.mk 4 c 0 0 0 (front ++ x :: as')]) = l.map fun x => Q0.mk 4 c 0 0 0 (front ++ x :: as') := fun l => by induction l with | nil => rfl | cons a l ih => simp [ih]
  rw [hfl] at hin
  rw [hin]
  simp only [Option.bind_some, m2]
  cases hm : fj a b with
  | none =>
   simp only [Bool.not_false, if_true]
   refine ⟨_, ?_, rfl⟩
   simp only [kmD, hm, List.append_nil, List.map_map]
   rfl
  | some m =>
   simp only [Bool.not_true, Bool.false_eq_true, if_false]
   rw [W6 (by simp only [List.length_cons, List.length_nil, Q6]; omega)]
   simp only [Option.bind_some]
   rw [hm] at hs
   simp only [List.length_map] at hs
   obtain ⟨o, e1, e⟩ := ih (k + 1) (out ++ (fm u a b).map fun x => Q0.mk 4 c 0 0 0 (front ++ x :: as')) (front ++ [m]) as' bs' u2 a2 b2 (by simp; omega) (by simp only [List.length_append, List.length_map]; omega)
   refine ⟨o, ?_, e⟩
   rw [e1]
   simp only [kmD, hm, List.map_append, List.map_map, List.append_assoc]
   congr 5
theorem Z4t {w : List Q3} (hw : WW w) (he : WE w) : ∀ (d n x : Nat) (t : Q2) (a b : Q0), t ∈ tys w → Z7 w x t a → Z7 w d t b → cntP b ≤ 10000 → 3 * d + 6 ≤ n → Y0 n w t a b = some (W2 w d t a b)
 | 0, _, _, _, _, _, _, _, h, _, _ => h.elim
 | d + 1, n, x, t, a, b, ht, ha, hb, hcnt, hn => by
  obtain ⟨n, rfl⟩ : ∃ m, n = m + 1 := ⟨n - 1, by omega⟩
  have i11 : ieq 1 1 = true := rfl
  have i14 : ieq 1 4 = false := rfl
  have i31 : ieq 3 1 = false := rfl
  have i33 : ieq 3 3 = true := rfl
  have i41 : ieq 4 1 = false := rfl
  have i43 : ieq 4 3 = false := rfl
  have i44 : ieq 4 4 = true := rfl
  have e31 : ¬ (3 : Int) = 1 := by decide
  have e41 : ¬ (4 : Int) = 1 := by decide
  have e43 : ¬ (4 : Int) = 3 := by decide
  obtain ⟨x, rfl, ha'⟩ := Z0n ha
  have hb0 := hb
  rcases hb with rfl | ⟨n2, m2, rfl, hd', g0, g1, g2⟩ | ⟨c', ks', rfl, hd', hc', hl', hk'⟩
  ·simp [Y0, W2, i11]
  ·rcases ha' with rfl | ⟨n1, m1, rfl, hd, h0, _, h9⟩ | ⟨c, ks, rfl, hd, _⟩
   ·simp only [Y0, W2, i31, i33, i11, e31, Bool.false_eq_true, if_false, if_true, Option.bind_some]
    rw [Z2x (n1 := 0) (m1 := 9) (n2 := n2) (m2 := m2) ⟨rfl, rfl⟩ ⟨rfl, rfl⟩ (by omega) (by omega) (by omega) (by omega)]
    rfl
   ·simp only [Y0, W2, i31, i33, e31, Bool.false_eq_true, if_false, if_true, Option.bind_some]
    rw [Z2x (n1 := n1) (m1 := m1) (n2 := n2) (m2 := m2) ⟨rfl, rfl⟩ ⟨rfl, rfl⟩ (by omega) (by omega) (by omega) (by omega)]
    rfl
   ·exact absurd hd' hd
  ·have hcn : cntP (Q0.mk 4 c' 0 0 0 ks') = 1 + cntP.cntPs ks' := Q1u _
   have hkc : ∀ q ∈ ks', cntP q ≤ 10000 := fun q hq => by
    have := Q70 (p := Q0.mk 4 c' 0 0 0 ks') (List.mem_iff_getElem?.1 hq).choose_spec
    omega
   have hA : ∀ (N : Nat) (c : Int) (ks : List Q0) (y : Nat), 3 * d + 7 ≤ N → c ∈ Z9 w t → ks.length = (Z5 w t c).length → (∀ (j : Nat) (a : Q2) (q : Q0), (Z5 w t c)[j]? = some a → ks[j]? = some q → Z7 w y a q) →
     Y0 (N + 1) w t (Q0.mk 4 c 0 0 0 ks) (Q0.mk 4 c' 0 0 0 ks') = some (cmD w (W2 w d) (Q05 d) t (Q0.mk 4 c 0 0 0 ks) (Q0.mk 4 c' 0 0 0 ks')) := fun N c ks y hN hc hl hk => by
    obtain ⟨N, rfl⟩ : ∃ m, N = m + 1 := ⟨N - 1, by omega⟩
    simp only [Y0, i41, i43, i44, Bool.false_eq_true, if_false, if_true, cmD]
    by_cases hcc : c = c'
    ·subst hcc
     have ec : (!ieq c c) = false := by simp [ieq]
     simp only [ec, Bool.false_eq_true, if_false, if_true, Q6k]
     rw [(hw.ty t ht).a1 c hc]
     simp only [Option.bind_some]
     have hlen : (kmD (W2 w d) (Q05 d) (Z5 w t c) ks ks').length ≤ 3 * cntP.cntPs ks' :=
      X7f (Z5 w t c) ks ks' fun j u p q h1 h2 => Q83 hw he d u p q ((hw.ty t ht).at_ _ hc u (List.mem_of_getElem? h1)) (hk' j u q h1 h2)
     obtain ⟨o, e1, e⟩ := Z88 (w := w) (n := N) (c := c) (fm := W2 w d) (fj := Q05 d) hl hl' ((hw.ty t ht).al c hc) (fun k u p q h1 h2 h3 =>
      have hu := (hw.ty t ht).at_ _ hc u (List.mem_of_getElem? h1)
      ⟨Z4t hw he d N y u p q hu (hk k u p h1 h2) (hk' k u q h1 h3) (hkc q (List.mem_of_getElem? h3)) (by omega), Z26 hw d N y u p q hu (hk k u p h1 h2) (hk' k u q h1 h3) (by omega)⟩)
      (Z5 w t c) 0 [] [] ks ks' rfl rfl rfl rfl (by simp only [List.length_nil]; omega)
     have e' := congrArg (fun z : Option (Ctl (List Q0) ((List Q0) × (List Q0))) => (z.bind fun o => match o with | .ret r => some r | .go _ => none | .brk s => some s.1).bind fun r => some r) e
     refine e'.trans ?_
     simp only [Option.bind_some, e1]
     simp
    ·have ec : (!ieq c c') = true := by simp [ieq, hcc]
     simp [ec, hcc]
   rcases ha' with rfl | ⟨n1, m1, rfl, hd, _⟩ | ⟨c, ks, rfl, hd, hc, hl, hk⟩
   ·simp only [Y0, W2, i11, i14, i41, i43, e41, e43, Bool.false_eq_true, if_false, if_true]
    rw [(hw.ty t ht).c1]
    simp only [Option.bind_some]
    obtain ⟨N, rfl⟩ : ∃ m, n = m + 1 := ⟨n - 1, by omega⟩
    have hlen := Q83 hw he (d + 1) t (Q0.mk 1 0 0 0 0 []) (Q0.mk 4 c' 0 0 0 ks') ht hb0
    simp only [W2, e41, e43, if_false, if_true] at hlen
    rw [Q4q (fun c => cmD w (W2 w d) (Q05 d) t (Q5n w t c) (Q0.mk 4 c' 0 0 0 ks')) 1000000 (Z9 w t) 0 [] (fun k c hc s hs => by
     rw [V0j hw ht hc]
     simp only [Option.bind_some]
     rw [Q5n, hA N c _ 1 (by omega) hc (by simp) (fun j a q ha hq => by
      rw [List.getElem?_map, ha] at hq
      cases hq
      exact Q6j w 0 a)]
     simp only [Option.bind_some]
     rw [W6 (by simp only [Q6]; simp only [Q5n] at hs; omega)]
     rfl) (by simp only [List.length_nil]; omega)]
    simp
   ·exact absurd hd hd'
   ·rw [hA n c ks x (by omega) hc hl hk]
    simp [W2]
end Go.Proofs.YtbdkbdafhlcilaaGreat
namespace Go.Proofs.YtbdkbdafhlcilaaGreat
open Go Go.RowKit
theorem X41 {w : List Q3} (hw : WW w) (he : WE w) {d x : Nat} {t : Q2} (ht : t ∈ tys w) (hx : d + 1 ≤ x) : ∀ (bs l : List Q0), (∀ b ∈ bs, Z7 w d t b) → (∀ a ∈ l, Z7 w x t a) → (Q5q w d x t l bs).map (Q79 w x t) = Q0q w d x t l bs
 | [], l, _, _ => rfl
 | b :: bs, l, hb, hl => by
  have e := X1y hw he ht hx (hb b (by simp)) hl
  simp only [Q0q, Q5q, e]
  by_cases hc : 400 < (Q36 w d x t l b).length
  ·simp [hc]
  ·simp only [if_neg hc]
   rw [X41 hw he ht hx bs (Q36 w d x t l b) (fun b hb' => hb b (by simp [hb'])) (Q7y hx (hb b (by simp)) hl)]
   simp only [Q0q, X4n]
theorem Q80 {w : List Q3} (hw : WW w) (he : WE w) {d x n : Nat} {t : Q2} (ht : t ∈ tys w) (hx : d + 1 ≤ x) (hx2 : x ≤ 100) {l bs : List Q0} (hb : ∀ b ∈ bs, Z7 w d t b ∧ cntP b ≤ 130) (h : ∀ a ∈ l, Z7 w x t a) (hl : l.length ≤ 1000) (hn : 2000 ≤ n) :
  Q43 n w (tabP w) t l bs = some (optR (Q0q w d x t l bs)) := by
 have hin : ∀ (b : Q0), Z7 w d t b → cntP b ≤ 130 → ∀ (s : List Q0) (k : Nat) (acc : List Q0), (∀ a ∈ s, Z7 w x t a) → acc.length ≤ 1000 →
   ∃ r, forL (ρ := Ctl (List Q0 × Bool) (List Q0)) (fun k1807 x1808 (s1801 : (List Q0)) =>
   (if (ile (lenZ s1801.length) 400) = true then
   ((Y0 n w t x1808 b).bind fun r1819 =>
   ((Q37 n w (tabP w) t r1819).bind fun r1820 =>
   ((app s1801 r1820).bind fun x1821 =>
   some (Ctl.go x1821))))
   else
   some (Ctl.brk s1801))) k s acc = some (.brk r) ∧ ((acc ++ Q36 w d x t s b).length ≤ 400 → r = acc ++ Q36 w d x t s b) ∧ (400 < (acc ++ Q36 w d x t s b).length → 400 < r.length) := by
  intro b hb hcb s
  induction s with
  | nil => intro k acc _ _; exact ⟨acc, by simp [forL], by simp [Q36, Q79], by simp [Q36, Q79]⟩
  | cons a s ih =>
   intro k acc hs hacc
   have hstep : Q36 w d x t (a :: s) b = Q79 w x t (W2 w d t a b) ++ Q36 w d x t s b := by simp [Q36, Q79]
   rw [hstep]
   have hlen := Q83 hw he d t a b ht hb
   have hkl := Z5x w x t (W2 w d t a b)
   unfold forL
   by_cases hc : acc.length ≤ 400
   ·have e : ile (lenZ acc.length) 400 = true := by rw [Q03, Q0k]; omega
    simp only [e, if_true]
    rw [Z4t hw he d n x t a b ht (hs a (by simp)) hb (by omega) (by omega)]
    simp only [Option.bind_some]
    rw [Z4u hw ht (fun y hy => Q7v d x t a b hx (hs a (by simp)) hb y hy) (by omega) (by omega)]
    simp only [Option.bind_some]
    rw [W6 (by simp only [Q6]; omega)]
    simp only [Option.bind_some]
    obtain ⟨r, e1, e2, e3⟩ := ih (k + 1) (acc ++ Q79 w x t (W2 w d t a b)) (fun a ha => hs a (by simp [ha])) (by simp only [List.length_append]; omega)
    rw [List.append_assoc] at e2 e3
    exact ⟨r, e1, e2, e3⟩
   ·have e : ile (lenZ acc.length) 400 = false := by rw [Q25, Q0k]; omega
    simp only [e, Bool.false_eq_true, if_false]
    refine ⟨acc, rfl, fun h => ?_, fun _ => by omega⟩
    simp only [List.length_append] at h
    omega
 have hlp : ∀ (bs : List Q0) (k : Nat) (s : List Q0), (∀ b ∈ bs, Z7 w d t b ∧ cntP b ≤ 130) → (∀ a ∈ s, Z7 w x t a) →
   forL (fun k1538 x1539 (s1532 : (List Q0)) =>
   ((forL (fun k1807 x1808 (s1801 : (List Q0)) =>
   (if (ile (lenZ s1801.length) 400) = true then
   ((Y0 n w t x1808 x1539).bind fun r1819 =>
   ((Q37 n w (tabP w) t r1819).bind fun r1820 =>
   ((app s1801 r1820).bind fun x1821 =>
   some (Ctl.go x1821))))
   else
   some (Ctl.brk s1801))) 0 s1532 []).bind fun (o1800 : Ctl (Ctl (List Q0 × Bool) (List Q0)) ((List Q0))) => match o1800 with
   | .ret r => some r
   | .go _ => none
   | .brk s1811 =>
   (if (ilt 400 (lenZ s1811.length)) = true then
   some (Ctl.ret (([], false)))
   else
   some (Ctl.go s1811)))) k bs s = some (match Q5q w d x t s bs with | some r => .brk r | none => .ret ([], false)) := by
  intro bs
  induction bs with
  | nil => intro k s _ _; simp [forL, Q5q]
  | cons b bs ih =>
   intro k s hb hs
   obtain ⟨hb1, hb2⟩ := hb b (by simp)
   unfold forL
   obtain ⟨r, e1, e2, e3⟩ := hin b hb1 hb2 s 0 [] hs (by simp)
   rw [e1]
   simp only [List.nil_append] at e2 e3
   simp only [Option.bind_some, Q5q]
   by_cases hc : 400 < (Q36 w d x t s b).length
   ·have hr := e3 hc
    have e : ilt 400 (lenZ r.length) = true := by rw [X0, Q0k]; omega
    simp only [e, if_true, if_pos hc]
   ·have hr := e2 (by omega)
    subst hr
    have e : ilt 400 (lenZ (Q36 w d x t s b).length) = false := by rw [J8, Q0k]; omega
    simp only [e, Bool.false_eq_true, if_false, if_neg hc]
    exact ih (k + 1) _ (fun b hb' => hb b (by simp [hb'])) (Q7y hx hb1 hs)
 have e := hlp bs 0 l hb h
 have hk := X41 hw he ht hx bs l (fun b hb' => (hb b hb').1) h
 have hln : ∀ (bs l r : List Q0), l.length ≤ 1000 → Q5q w d x t l bs = some r → r.length ≤ 1000 := by
  intro bs
  induction bs with
  | nil => intro l r h e; simp only [Q5q, Option.some.injEq] at e; subst e; exact h
  | cons b bs ih =>
   intro l r h e
   simp only [Q5q] at e
   split at e
   ·cases e
   ·exact ih _ r (by omega) e
 have e' := congrArg (fun z : Option (Ctl ((List Q0) × Bool) (List Q0)) => z.bind fun o => match o with | .ret r => some r | .go _ => none | .brk s => (Q37 n w (tabP w) t s).bind fun r => some (r, true)) e
 refine e'.trans ?_
 rw [← hk]
 cases hr : Q5q w d x t l bs with
 | none => simp [optR]
 | some r =>
  have hl' := hln bs l r hl hr
  have hp := Z80 hx bs l r (fun b hb' => (hb b hb').1) h hr
  simp only [Option.bind_some, Option.map_some, optR]
  rw [Z4u hw ht hp (by omega) (by omega)]
  rfl
end Go.Proofs.YtbdkbdafhlcilaaGreat
namespace Go.Proofs.YtbdkbdafhlcilaaGreat
open Go Go.RowKit
theorem Z4q {α β : Type} (f : α → List β) : ∀ (X : List α) (m M : Nat), m ≤ M → (X.flatMap fun q => (f q).take M).take m = (X.flatMap f).take m
 | [], m, M, _ => by simp
 | q :: X, m, M, h => by
  simp only [List.flatMap_cons, List.take_append, List.take_take, List.length_take]
  rw [Nat.min_eq_left h]
  congr 1
  rcases Nat.le_total (f q).length M with h1 | h1
  ·rw [Nat.min_eq_right h1]; exact Z4q f X _ M (by omega)
  ·rw [Nat.min_eq_left h1, show m - M = 0 by omega, show m - (f q).length = 0 by omega]; simp
theorem Z2u {α β : Type} (f : α → List β) : ∀ (X : List α) (m j : Nat), (∀ q ∈ X, 1 ≤ (f q).length) → j ≤ m → ((X.take m).flatMap f).take j = (X.flatMap f).take j
 | [], m, j, _, _ => by simp
 | q :: X, 0, j, _, h => by rw [show j = 0 by omega]; simp
 | q :: X, m + 1, j, hq, h => by
  simp only [List.take_succ_cons, List.flatMap_cons, List.take_append]
  congr 1
  have := hq q (by simp)
  exact Z2u f X m _ (fun x hx => hq x (by simp [hx])) (by omega)
theorem W67 {α : Type} {a b : List α} (m : Nat) (h : m ≤ a.length) : (a ++ b).take m = a.take m := by rw [List.take_append_of_le_length h]
theorem W65 {l : List Q0} (hl : l ≠ []) (X : List (List Q0)) (m : Nat) (hm : 1 ≤ m) : (tupD (X.take m) (l.take m)).take m = (tupD X l).take m := by
 have hlen : 1 ≤ l.length := by cases l <;> simp_all
 unfold tupD
 rw [Z2u _ X m m (fun q _ => by rw [List.length_map, List.length_take]; omega) (Nat.le_refl m)]
 have e : (fun q : List Q0 => (l.take m).map fun c => q ++ [c]) = fun q => (l.map fun c => q ++ [c]).take m := by funext q; rw [List.map_take]
 rw [e]
 exact Z4q _ X m m (Nat.le_refl m)
theorem W3v {α : Type} {X : List α} {v : List α} {y : α} (hv : v = X.take 401) (h : v.length ≤ 400) : v ++ [y] = (X ++ [y]).take 401 := by
 have hX : X.length ≤ 400 := by rw [hv, List.length_take] at h; omega
 rw [hv, List.take_of_length_le (show X.length ≤ 401 by omega), List.take_of_length_le (by simp; omega)]
theorem X3c {α : Type} {X Y : List α} {v : List α} (hv : v = X.take 401) (h : ¬ v.length ≤ 400) : v = (X ++ Y).take 401 := by
 have hX : 401 ≤ X.length := by rw [hv, List.length_take] at h; omega
 rw [W67 401 hX, hv]
theorem W1j (ls : List (List Q0)) (hp : ∀ l ∈ ls, l ≠ []) (hk : ls.length ≤ 3) : Q44 (ls.map (·.take 401)) = some ((ls.foldl tupD [[]]).take 401) := by
 suffices hr : Ret (Q44 (ls.map (·.take 401))) (fun r => r = (ls.foldl tupD [[]]).take 401) by
  obtain ⟨r, e, rfl⟩ := hr
  exact e
 have kl : ∀ k, ∀ ks ∈ (ls.take k).foldl tupD [[]], ks.length ≤ k := by
  have gen : ∀ (ls : List (List Q0)) (out : List (List Q0)) (m : Nat), (∀ ks ∈ out, ks.length ≤ m) → ∀ ks ∈ ls.foldl tupD out, ks.length ≤ m + ls.length := by
   intro ls
   induction ls with
   | nil => intro out m h ks hks; simpa using h ks hks
   | cons l ls ih2 =>
    intro out m h ks hks
    rw [List.foldl_cons] at hks
    have := ih2 (tupD out l) (m + 1) (fun ks hk2 => by
     simp only [tupD, List.mem_flatMap, List.mem_map] at hk2
     obtain ⟨q2, hq2, c, _, rfl⟩ := hk2
     have := h q2 hq2
     simp; omega) ks hks
    simp only [List.length_cons]; omega
  intro k ks hks
  have := gen _ [[]] 0 (by simp) ks hks
  rw [List.length_take] at this
  omega
 unfold Q44
 refine Ret.ctl (Z1 (ls.map (·.take 401)) (fun k s => s = ((ls.take k).foldl tupD [[]]).take 401) (fun _ => False) (fun s => s = (ls.foldl tupD [[]]).take 401) (by simp) (fun k l0 s hl0 hI => ?_) (fun s hI => ?_)) (fun r hr => hr.elim) (fun s hs => .some hs)
 ·rw [List.getElem?_map] at hl0
  obtain ⟨l, hl, rfl⟩ := Option.map_eq_some_iff.1 hl0
  have hne := hp l (List.mem_of_getElem? hl)
  have hnx : (ls.take (k + 1)).foldl tupD [[]] = tupD ((ls.take k).foldl tupD [[]]) l := by rw [List.take_add_one, hl]; simp
  have hkl := (List.getElem?_eq_some_iff.1 hl).1
  rw [hnx]
  have kk := kl k
  generalize (ls.take k).foldl tupD [[]] = X at *
  have hs : s.length ≤ 401 := by rw [hI, List.length_take]; omega
  have hsk : ∀ q ∈ s, q.length ≤ 3 := fun q hq => by
   rw [hI] at hq
   have := kk q (List.mem_of_mem_take hq)
   omega
  have hl4 : (l.take 401).length ≤ 401 := by rw [List.length_take]; omega
  refine Ret.ctl (Z1 s (fun j v => v = (tupD (s.take j) (l.take 401)).take 401) (fun _ => False) (fun v => v = (tupD s (l.take 401)).take 401) (by simp [tupD]) (fun j q v hq hJ => ?_) (fun v hJ => ?_)) (fun r hr => hr.elim) (fun v hv => .some ?_)
  ·have hnj : tupD (s.take (j + 1)) (l.take 401) = tupD (s.take j) (l.take 401) ++ (l.take 401).map (fun c => q ++ [c]) := by rw [List.take_add_one, hq]; simp [tupD]
   refine Ret.ite (fun hle => ?_) (fun hgt => .some ?_)
   ·rw [Q03] at hle
    refine Ret.ctl (Z1 (l.take 401) (fun i u => u = (tupD (s.take j) (l.take 401) ++ ((l.take 401).take i).map (fun c => q ++ [c])).take 401) (fun _ => False) (fun u => u = (tupD (s.take (j + 1)) (l.take 401)).take 401) (by simpa using hJ) (fun i c u hc hK => ?_) (fun u hK => ?_)) (fun r hr => hr.elim) (fun u hu => .some hu)
    ·have hci : (l.take 401).take (i + 1) = (l.take 401).take i ++ [c] := by rw [List.take_add_one, hc]; simp
     refine Ret.ite (fun hl2 => ?_) (fun hg2 => .some ?_)
     ·rw [Q03, Q0k] at hl2
      have hq3 := hsk q (List.mem_of_getElem? hq)
      rw [W6 (by simp only [Q6, List.length_nil]; omega)]
      simp only [Option.bind_some]
      rw [W6 (by simp only [Q6, List.length_cons, List.length_nil]; omega)]
      simp only [Option.bind_some]
      rw [W6 (by simp only [Q6, List.length_cons, List.length_nil]; omega)]
      refine .some ?_
      simp only [Q4z]
      rw [hci, List.map_append, ← List.append_assoc]
      exact W3v hK (by omega)
     ·rw [Q25, Q0k] at hg2
      simp only [Z5u]
      rw [hnj]
      have e : (l.take 401).map (fun c => q ++ [c]) = ((l.take 401).take i).map (fun c => q ++ [c]) ++ ((l.take 401).drop i).map (fun c => q ++ [c]) := by rw [← List.map_append, List.take_append_drop]
      rw [e, ← List.append_assoc]
      exact X3c hK (by omega)
    ·rw [hK, hnj, List.take_of_length_le (Nat.le_refl _)]
   ·rw [Q25, Q0k] at hgt
    simp only [Z5u]
    have e : tupD s (l.take 401) = tupD (s.take j) (l.take 401) ++ tupD (s.drop j) (l.take 401) := by
     unfold tupD; rw [← List.flatMap_append, List.take_append_drop]
    rw [e]
    exact X3c hJ (by omega)
  ·rw [hJ, List.take_length]
  ·simp only [Q4z]
   rw [hv, hI]
   exact W65 hne X 401 (by omega)
 ·rw [hI, List.length_map, List.take_length]
theorem X22 : ∀ (d n : Nat) (p : Q0), orOk d p → d ≤ n → Q1b n p = some ((Z3 d p).take 401) := by
 intro d
 induction d with
 | zero => intro n p h; exact h.elim
 | succ d ih =>
  intro n p h hn
  obtain ⟨n, rfl⟩ : ∃ k, n = k + 1 := ⟨n - 1, by omega⟩
  obtain ⟨h1, h2, h3⟩ := h
  have hl4 : ∀ x, ((Z3 d x).take 401).length ≤ 401 := fun x => by rw [List.length_take]; omega
  by_cases h5 : p.op = 5
  ·have e5 : ieq p.op 5 = true := by simp [ieq, h5]
   unfold Q1b
   rw [if_pos e5]
   match hk : p.kids, h2 h5 with
   | [a, b], _ =>
    rw [hk] at h3
    rw [show idx [a, b] 0 = some a from rfl, show idx [a, b] 1 = some b from rfl]
    simp only [Option.bind_some]
    rw [ih n a (h3 a (by simp)) (by omega), ih n b (h3 b (by simp)) (by omega)]
    simp only [Option.bind_some]
    have ha := hl4 a
    have hb := hl4 b
    rw [W6 (by simp only [Q6]; omega)]
    have hs : Z3 (d + 1) p = Z3 d a ++ Z3 d b := by simp [Z3, h5, hk]
    have key : ((Z3 d a).take 401 ++ (Z3 d b).take 401).take 401 = (Z3 (d + 1) p).take 401 := by
     rw [hs, List.take_append, List.take_append, List.take_take, List.length_take]
     simp only [Nat.min_self]
     congr 1
     rcases Nat.le_total (Z3 d a).length 401 with q | q
     ·rw [Nat.min_eq_right q, List.take_take, Nat.min_eq_left (by omega)]
     ·rw [Nat.min_eq_left q, show 401 - 401 = 0 from rfl, show 401 - (Z3 d a).length = 0 by omega]; simp
    simp only [Option.bind_some]
    by_cases hgt : ilt 401 (lenZ ((Z3 d a).take 401 ++ (Z3 d b).take 401).length) = true
    ·rw [if_pos hgt]
     rw [X0, Q0k] at hgt
     have ht : Q73 ((Z3 d a).take 401 ++ (Z3 d b).take 401) 401 = some (((Z3 d a).take 401 ++ (Z3 d b).take 401).take 401) := by
      unfold Q73; rw [if_pos ⟨by omega, by omega⟩]; rfl
     rw [ht, key]; rfl
    ·rw [if_neg hgt, ← key]
     simp only [Bool.not_eq_true] at hgt
     rw [J8, Q0k] at hgt
     rw [List.take_of_length_le (i := 401) (l := (Z3 d a).take 401 ++ (Z3 d b).take 401) (by omega)]
  ·have e5 : ¬ ieq p.op 5 = true := by simp [ieq, h5]
   suffices hr : Ret (Q1b (n + 1) p) (fun r => r = (Z3 (d + 1) p).take 401) by
    obtain ⟨r, e, rfl⟩ := hr
    exact e
   unfold Q1b
   rw [if_neg e5]
   refine Ret.ctl (Z1 p.kids (fun k s => s = ((p.kids.take k).map (Z3 d)).map (·.take 401)) (fun _ => False) (fun s => s = (p.kids.map (Z3 d)).map (·.take 401)) (by simp) (fun k q s hq hI => ?_) (fun s hI => ?_)) (fun r hr => hr.elim) (fun s hs => ?_)
   ·rw [ih n q (h3 q (List.mem_of_getElem? hq)) (by omega)]
    simp only [Option.bind_some]
    have hkl := (List.getElem?_eq_some_iff.1 hq).1
    rw [W6 (by rw [hI]; simp only [Q6, List.length_cons, List.length_nil, List.length_map, List.length_take]; omega)]
    have hk1 : p.kids.take (k + 1) = p.kids.take k ++ [q] := by rw [List.take_add_one, hq]; rfl
    exact .some (by simp only [Q4z]; rw [hI, hk1]; simp)
   ·rw [hI, List.take_length]
   ·subst hs
    dsimp only
    rw [W1j _ (fun l hl => by
     obtain ⟨q, hq, rfl⟩ := List.mem_map.1 hl
     have := Z0g d q (h3 q hq)
     intro e; rw [e] at this; simp at this) (by simpa using h1)]
    simp only [Option.bind_some]
    have hlen : (((p.kids.map (Z3 d)).foldl tupD [[]]).take 401).length ≤ 401 := by rw [List.length_take]; omega
    have hB : (Z3 (d + 1) p).take 401 = (((p.kids.map (Z3 d)).foldl tupD [[]]).take 401).map (Q6t p) := by simp only [Z3, if_neg h5, List.map_take]
    rw [hB]
    generalize ((p.kids.map (Z3 d)).foldl tupD [[]]).take 401 = X at hlen
    refine Ret.ctl (Z1 X (fun k u => u = (X.take k).map (Q6t p)) (fun _ => False) (fun u => u = X.map (Q6t p)) (by simp) (fun k q u hq hJ => ?_) (fun u hJ => ?_)) (fun r hr => hr.elim) (fun u hu => .some hu)
    ·have hkl := (List.getElem?_eq_some_iff.1 hq).1
     rw [W6 (by rw [hJ]; simp only [Q6, List.length_cons, List.length_nil, List.length_map, List.length_take]; omega)]
     have hk1 : X.take (k + 1) = X.take k ++ [q] := by rw [List.take_add_one, hq]; rfl
     exact .some (by simp only [Q4z]; rw [hJ, hk1]; simp [Q6t])
    ·rw [hJ, List.take_length]
end Go.Proofs.YtbdkbdafhlcilaaGreat
namespace Go.Proofs.YtbdkbdafhlcilaaGreat
open Go Go.RowKit
theorem Z27 : ∀ (d n : Nat) (p : Q0), X69 d p → d ≤ n → cntP p ≤ 1000 → W8 n p = some (X7 d p)
 | 0, _, _, h, _, _ => h.elim
 | d + 1, n, p, h, hn, hc => by
  obtain ⟨n, rfl⟩ : ∃ m, n = m + 1 := ⟨n - 1, by omega⟩
  have hcp := Q1u p
  have hkid : ∀ q ∈ p.kids, W8 n q = some (X7 d q) := fun q hq => by
   obtain ⟨j, hj⟩ := List.mem_iff_getElem?.1 hq
   have := Q70 hj
   exact Z27 d n q (h q hq) (by omega) (by omega)
  have hlen : p.kids.length ≤ 1000 := by
   have : ∀ l : List Q0, l.length ≤ cntP.cntPs l := fun l => by
    induction l with
    | nil => simp
    | cons a l ih => have := Q5l a; simp only [List.length_cons, cntP.cntPs]; omega
   have := this p.kids
   omega
  have hloop := Q4q (ρ := Q0) (f := fun (k102 : Nat) x103 (s96 : (List Q0)) => ((W8 n x103).bind fun r110 => ((app s96 [r110]).bind fun x111 => some (Ctl.go x111)))) (fun q => [X7 d q]) 100000 p.kids 0 [] (fun k q hq s hs => by
   rw [hkid q hq]
   simp only [Option.bind_some]
   simp only [List.length_cons, List.length_nil] at hs
   rw [W6 (by simp only [List.length_cons, List.length_nil, Q6]; omega)]
   rfl) (by
    have : ∀ l : List Q0, (l.flatMap fun q => [X7 d q]).length = l.length := fun l => by induction l with | nil => rfl | cons a l ih => simp [ih]
    rw [this]; simp only [List.length_nil]; omega)
  have hfl : ∀ l : List Q0, (l.flatMap fun q => [X7 d q]) = l.map (X7 d) := fun l => by induction l with | nil => rfl | cons a l ih => simp [ih]
  rw [hfl] at hloop
  by_cases h2 : p.op = 2
  ·have e : ieq p.op 2 = true := by rw [Z4]; exact h2
   have hb : X7 (d + 1) p = Q0.mk 1 0 0 0 0 [] := by simp [X7, h2]
   rw [hb]
   simp only [W8, e, if_true, Option.bind_some]
  ·have e : ieq p.op 2 = false := by rw [Z8]; exact h2
   by_cases h6 : p.op = 6
   ·have e6 : ieq p.op 6 = true := by rw [Z4]; exact h6
    cases hk : p.kids with
    | nil =>
     have e0 : ilt 0 (lenZ p.kids.length) = false := by rw [J8, hk, Q0k]; simp
     rw [hk] at hloop
     simp only [W8, e, e6, e0, Bool.false_eq_true, if_false, if_true, Option.bind_some, X7, h2, hk]
     have e' := congrArg (fun z : Option (Ctl Q0 (List Q0)) => z.bind fun o => match o with | .ret r => some r | .go _ => none | .brk s => some (Q0.mk p.op p.ctor p.n p.m p.var s)) hloop
     refine e'.trans ?_
     simp
    | cons q ks =>
     have e0 : ilt 0 (lenZ p.kids.length) = true := by rw [X0, hk, Q0k]; simp
     have hq := hkid q (by simp [hk])
     have hix : idx p.kids 0 = some q := Q2a (i := 0) (by simp [hk])
     have hb : X7 (d + 1) p = X7 d q := by simp [X7, h6, hk]
     rw [hb]
     simp only [W8, e, e6, e0, Bool.false_eq_true, if_false, if_true, hix, Option.bind_some, hq]
   ·have e6 : ieq p.op 6 = false := by rw [Z8]; exact h6
    simp only [W8, e, e6, Bool.false_eq_true, if_false, Option.bind_some, X7, h2, h6, false_and]
    have e' := congrArg (fun z : Option (Ctl Q0 (List Q0)) => z.bind fun o => match o with | .ret r => some r | .go _ => none | .brk s => some (Q0.mk p.op p.ctor p.n p.m p.var s)) hloop
    refine e'.trans ?_
    simp
theorem Z4s {w : List Q3} (hw : WW w) {n : Nat} {t : Q2} {p : Q0} (ht : t ∈ tys w) (g : Q0a w 10 t p = true) (hc : cntP p ≤ 1000) (hn : 100 ≤ n) : Q3n n p = some ((Z3 10 (X7 10 p)).take 401) := by
 have ha := Q6r Q7b 10 t p g
 have ho := Z3u hw 10 t _ ht ha
 unfold Q3n
 rw [Z27 10 n p (Q93 10 t p g) (by omega) hc]
 simp only [Option.bind_some]
 rw [X22 10 n _ ho (by omega)]
 rfl
theorem Z4v {w : List Q3} (hw : WW w) {t : Q2} (ht : t ∈ tys w) {cs : List Q5} {k : Nat} (hk : k ≤ cs.length) (h : ∀ c ∈ cs, Q0a w 10 t c.pat = true ∧ cntP c.pat ≤ 1000) (hl : cs.length ≤ 1000) : Q5x NN cs (k : Int) = some (optR (Q1f (cs.take k))) := by
 have hlp : ∀ (rest : List Q5) (i n : Nat) (s : List Q0), (cs.take k).drop i = rest → i ≤ k → rest.length + 1 ≤ n → s.length + 40 * rest.length ≤ 100000 →
   whileL (fun (s138 : (List Q0) × Int) =>
   (if (ilt s138.2 (k : Int)) = true then
   ((((idx cs s138.2).bind fun x166 =>
   (if (!ieq x166.guard.op 0) = true then
   some (Ctl.brk s138.1)
   else
   ((Q3n NN x166.pat).bind fun r168 =>
   (if (ilt 40 (lenZ r168.length)) = true then
   some (Ctl.ret (Ctl.ret (([], false))))
   else
   ((app s138.1 r168).bind fun x171 =>
   some (Ctl.brk x171))))))).bind fun (o161 : Ctl (Ctl (List Q0 × Bool) ((List Q0) × Int)) ((List Q0))) => match o161 with
   | .ret r => some r
   | .go _ => none
   | .brk s160 =>
   some (Ctl.go (s160, wadd .i64 s138.2 1)))
   else
   some (Ctl.brk (s138.1, s138.2)))) n (s, (i : Int)) = some (match Q1f rest with | some r => .brk (s ++ r, (k : Int)) | none => .ret ([], false)) := by
  intro rest
  induction rest with
  | nil =>
   intro i n s h0 hi hn hs
   have hge : k ≤ i := by
    have := congrArg List.length h0
    simp only [List.length_drop, List.length_take, List.length_nil] at this
    omega
   have : i = k := by omega
   subst this
   obtain ⟨n, rfl⟩ : ∃ m, n = m + 1 := ⟨n - 1, by simp only [List.length_nil] at hn; omega⟩
   have e : ilt (i : Int) (i : Int) = false := by rw [J8]; omega
   simp [whileL, e, Q1f]
  | cons c rest ih =>
   intro i n s h0 hi hn hs
   obtain ⟨c1, c2⟩ := Q3y h0
   have hik : i < k := by
    have := (List.getElem?_eq_some_iff.1 c1).1
    simp only [List.length_take] at this
    omega
   have c3 : cs[i]? = some c := by
    rw [List.getElem?_take] at c1
    rw [if_pos hik] at c1
    exact c1
   simp only [List.length_cons] at hn hs
   obtain ⟨n, rfl⟩ : ∃ m, n = m + 1 := ⟨n - 1, by omega⟩
   obtain ⟨g, hc⟩ := h c (List.mem_of_getElem? c3)
   have e : ilt (i : Int) (k : Int) = true := by rw [X0]; omega
   have hw1 : wadd .i64 (i : Int) 1 = ((i + 1 : Nat) : Int) := by rw [Q09] <;> omega
   unfold whileL
   simp only [e, if_true, Q2a c3, Option.bind_some, hw1]
   by_cases hg : c.guard.op = 0
   ·have e0 : (!ieq c.guard.op 0) = false := by simp [ieq, hg]
    simp only [e0, Bool.false_eq_true, if_false]
    rw [Z4s hw ht g hc (by simp only [NN]; omega)]
    simp only [Option.bind_some, Q1f, if_pos hg, Q5t]
    by_cases hlen : 40 < (Z3 10 (X7 10 c.pat)).length
    ·have e4 : ilt 40 (lenZ ((Z3 10 (X7 10 c.pat)).take 401).length) = true := by rw [X0, Q0k]; simp only [List.length_take]; omega
     simp only [e4, if_true, if_pos hlen, Option.bind_some, Option.bind_none]
    ·have e5 : (Z3 10 (X7 10 c.pat)).take 401 = Z3 10 (X7 10 c.pat) := List.take_of_length_le (by omega)
     have e4 : ilt 40 (lenZ ((Z3 10 (X7 10 c.pat))).length) = false := by rw [J8, Q0k]; omega
     rw [e5]
     simp only [e4, Bool.false_eq_true, if_false, if_neg hlen, Option.bind_some]
     rw [W6 (by simp only [Q6]; omega)]
     simp only [Option.bind_some]
     rw [ih (i + 1) n (s ++ Z3 10 (X7 10 c.pat)) c2 (by omega) (by omega) (by simp only [List.length_append]; omega)]
     cases Q1f rest with
     | none => simp
     | some r => simp
   ·have e0 : (!ieq c.guard.op 0) = true := by simp [ieq, hg]
    simp only [e0, if_true, Option.bind_some, Q1f, if_neg hg]
    exact ih (i + 1) n s c2 (by omega) (by omega) (by omega)
 have e := hlp (cs.take k) 0 NN [] rfl (by omega) (by simp only [List.length_take, NN]; omega) (by simp only [List.length_nil, List.length_take]; omega)
 unfold Q5x
 have e' := congrArg (fun z : Option (Ctl ((List Q0) × Bool) ((List Q0) × Int)) => z.bind fun o => match o with | .ret r => some r | .go _ => none | .brk s => some (s.1, true)) e
 refine e'.trans ?_
 cases Q1f (cs.take k) <;> simp [optR]
end Go.Proofs.YtbdkbdafhlcilaaGreat
namespace Go.Proofs.YtbdkbdafhlcilaaGreat
open Go Go.RowKit
theorem X8u {w : List Q3} {t : Q2} {n : Nat} (hn : 10 ≤ n) : ∀ {l : List Q0}, (∀ p ∈ l, Q12 w t p = true) → l.length ≤ 100000 → Q4c n l = some l := fun {l} h hl => by
 unfold Q4c
 have hloop := Q4q (ρ := List Q0) (f := fun (k70 : Nat) x71 (s64 : (List Q0)) => ((Q3a n x71).bind fun r78 => ((app s64 [r78]).bind fun x79 => some (Ctl.go x79)))) (fun q => [q]) 1000000 l 0 [] (fun k q hq s hs => by
  obtain ⟨g, hc, _⟩ := Q3z (h q hq)
  rw [X4r 10 n q (Q93 10 t q g) hn (by omega)]
  simp only [Option.bind_some]
  simp only [List.length_cons, List.length_nil] at hs
  rw [W6 (by simp only [List.length_cons, List.length_nil, Q6]; omega)]
  rfl) (by
   have : ∀ l : List Q0, (l.flatMap fun q => [q]).length = l.length := fun l => by induction l with | nil => rfl | cons a l ih => simp [ih]
   rw [this]; simp only [List.length_nil]; omega)
 have hfl : ∀ l : List Q0, (l.flatMap fun q => [q]) = l := fun l => by induction l with | nil => rfl | cons a l ih => simp [ih]
 rw [hfl] at hloop
 have e' := congrArg (fun z : Option (Ctl (List Q0) (List Q0)) => z.bind fun o => match o with | .ret r => some r | .go _ => none | .brk s => some s) hloop
 exact e'.trans (by simp)
theorem Z4r {w : List Q3} (hw : WW w) {n : Nat} (hn : 100 ≤ n) {t : Q2} (ht : t ∈ tys w) (o : Option (List Q0)) (ho : ∀ l, o = some l → l.length ≤ 100000) :
  Q5y n w t (optR o).1 (optR o).2 = some (optR (Q7n w t o)) := by
 have hlp : ∀ (l : List Q0) (k : Nat), forL (ρ := (List Q0) × Bool) (fun k68 x69 (s62 : Unit) =>
   ((Q52 n w t x69).bind fun r76 =>
   (if (!r76) = true then
   some (Ctl.ret (([], false)))
   else
   some (Ctl.go ())))) k l () = some (if l.all (Q12 w t) = true then .brk () else .ret ([], false)) := by
  intro l
  induction l with
  | nil => intro k; simp [forL]
  | cons a l ih =>
   intro k
   unfold forL
   rw [Z6e hw hn t a ht]
   simp only [Option.bind_some, List.all_cons]
   rcases Bool.eq_false_or_eq_true (Q12 w t a) with hv | hv
   ·simp only [hv, Bool.not_true, Bool.false_eq_true, if_false, Bool.true_and]
    exact ih (k + 1)
   ·simp [hv]
 unfold Q5y
 cases o with
 | none =>
  have hnil : Q4c n [] = some [] := by simp [Q4c, forL]
  simp [optR, Q7n, forL, hnil]
 | some l =>
  simp only [optR, Q7n]
  have e' := congrArg (fun z : Option (Ctl (List Q0 × Bool) Unit) => z.bind fun o => match o with | .ret r => some r | .go _ => none | .brk _ => (Q4c n l).bind fun r => some (r, true)) (hlp l 0)
  refine e'.trans ?_
  by_cases h : l.all (Q12 w t) = true
  ·simp only [if_pos h, Option.bind_some]
   rw [X8u (by omega) (fun p hp => List.all_eq_true.1 h p hp) (ho l rfl)]
   rfl
  ·simp only [if_neg h, Option.bind_some, optR]
def Z3c (w : List Q3) (t : Q2) (cs : List Q5) : Option (List Q0) :=
 if J5 w t cs = true then (Q1f cs).bind fun l => Q7n w t (Q0q w 10 11 t [Q0.mk 1 0 0 0 0 []] l) else none
end Go.Proofs.YtbdkbdafhlcilaaGreat
namespace Go.Proofs.YtbdkbdafhlcilaaGreat
open Go Go.RowKit
theorem X8g {w : List Q3} {d x : Nat} {t : Q2} : ∀ (bs l r : List Q0), l.length ≤ 1000 → Q5q w d x t l bs = some r → r.length ≤ 1000
 | [], l, r, h, e => by simp only [Q5q, Option.some.injEq] at e; subst e; exact h
 | b :: bs, l, r, h, e => by
  simp only [Q5q] at e
  split at e
  ·cases e
  ·exact X8g bs _ r (by omega) e
theorem Z4p {w : List Q3} {d x : Nat} {t : Q2} {l bs r : List Q0} (h : l.length ≤ 1000) (e : Q0q w d x t l bs = some r) : r.length ≤ 1000 :=
 X8g bs _ r (by have := Z5x w x t l; omega) e
theorem Z8e {w : List Q3} (hww : w ∈ Q0g) (hw : WW w) (he : WE w) {t : Q2} (ht : t ∈ tys w) (cs : List Q5) : Q1q NN w t cs = some (optR (Z3c w t cs)) := by
 unfold Q1q Z3c
 rw [Q3w hw ht]
 simp only [Option.bind_some]
 by_cases h : J5 w t cs = true
 ·obtain ⟨h8, hc⟩ := Q3i h
  simp only [h, Bool.not_true, Bool.false_eq_true, if_false, if_true]
  rw [Z54 hw ht (by simp only [NN]; omega) cs (fun c m => ⟨(hc c m).2.1, by have := (hc c m).2.2; omega⟩) (by omega)]
  simp only [Option.bind_some]
  cases hl : Q1f cs with
  | none => simp [optR]
  | some l =>
   have hp := Q4y (fun c m => (hc c m).2.1) hl
   have hcnt := Q96 (m := 60) (fun c m => (hc c m).2.2) hl
   simp only [optR, Bool.not_true, Bool.false_eq_true, if_false, Option.bind_some]
   rw [(wl hww).dim]
   have hany : Q16 = some (Q0.mk 1 0 0 0 0 []) := rfl
   simp only [Option.bind_some, hany]
   rw [Q8w hww hw he (d := 10) (x := 11) ht (by omega) (by omega) (fun b hb => ⟨hp b hb, by have := hcnt b hb; omega⟩) (fun a ha => by simp only [List.mem_singleton] at ha; subst ha; exact Q6j w 10 t) (by simp) (by simp only [NN]; omega)]
   simp only [Option.bind_some]
   rw [Q9u hw (by simp only [NN]; omega) ht _ (fun r hr => by have := Z4p (by simp) hr; omega)]
   cases Q7n w t (Q0q w 10 11 t [Q0.mk 1 0 0 0 0 []] l) <;> rfl
 ·simp [h, optR]
theorem Z8a {w : List Q3} (hww : w ∈ Q0g) (hw : WW w) (he : WE w) {t : Q2} (ht : t ∈ tys w) (cs : List Q5) : Q1p NN w t cs = some (optR (Z3c w t cs)) := by
 unfold Q1p Z3c
 rw [Q5s hw ht]
 simp only [Option.bind_some]
 by_cases h : J5 w t cs = true
 ·obtain ⟨h8, hc⟩ := Q3i h
  have hany : J2 = some (Q0.mk 1 0 0 0 0 []) := rfl
  simp only [h, Bool.not_true, Bool.false_eq_true, if_false, if_true, hany, Option.bind_some]
  unfold Q5e
  have hcov := Z4v hw ht (cs := cs) (k := cs.length) (by omega) (fun c m => ⟨(hc c m).2.1, by have := (hc c m).2.2; omega⟩) (by omega)
  rw [List.take_length] at hcov
  rw [Q0k, hcov]
  simp only [Option.bind_some]
  cases hl : Q1f cs with
  | none => simp [optR]
  | some l =>
   have hp := Q4y (fun c m => (hc c m).2.1) hl
   have hcnt := Q96 (m := 60) (fun c m => (hc c m).2.2) hl
   simp only [optR, Bool.not_true, Bool.false_eq_true, if_false, Option.bind_some]
   rw [hw.tab]
   simp only [Option.bind_some]
   rw [Q80 hw he (d := 10) (x := 11) ht (by omega) (by omega) (fun b hb => ⟨hp b hb, by have := hcnt b hb; omega⟩) (fun a ha => by simp only [List.mem_singleton] at ha; subst ha; exact Q6j w 10 t) (by simp) (by simp only [NN]; omega)]
   simp only [Option.bind_some]
   rw [Z4r hw (by simp only [NN]; omega) ht _ (fun r hr => by have := Z4p (by simp) hr; omega)]
   cases Q7n w t (Q0q w 10 11 t [Q0.mk 1 0 0 0 0 []] l) <;> rfl
 ·simp [h, optR]
end Go.Proofs.YtbdkbdafhlcilaaGreat
namespace Go.Proofs.YtbdkbdafhlcilaaGreat
open Go Go.RowKit
theorem W6t {w : List Q3} (hw : WW w) (he : WE w) {e : Nat} {t : Q2} (ht : t ∈ tys w) {v : Q4} (hv : Q0s w e t v) {cs : List Q5} {r : List Q0} (hr : Z3c w t cs = some r) :
  (∃ y ∈ r, fitP y v = true) ↔ ∀ c ∈ cs, c.guard.op = 0 → X6 10 c.pat v = none := by
 unfold Z3c at hr
 split at hr
 ·rename_i h
  obtain ⟨h8, hc⟩ := Q3i h
  cases hl : Q1f cs with
  | none => rw [hl] at hr; cases hr
  | some l =>
   rw [hl] at hr
   simp only [Option.bind_some] at hr
   have hp := Q4y (fun c m => (hc c m).2.1) hl
   cases hwd : Q0q w 10 11 t [Q0.mk 1 0 0 0 0 []] l with
   | none => rw [hwd] at hr; cases hr
   | some q =>
    rw [hwd] at hr
    simp only [Q7n] at hr
    split at hr
    ·cases hr
     rw [Q9d hw he ht (by omega) hv hp (fun a ha => by simp only [List.mem_singleton] at ha; subst ha; exact Q6j w 10 t) hwd]
     have hf := Z3r hv (fun c m => (hc c m).2.1) hl
     constructor
     ·rintro ⟨_, g⟩ c m g0
      cases hm : X6 10 c.pat v with
      | none => rfl
      | some b =>
       obtain ⟨b, hb, g'⟩ := hf.2 ⟨c, m, g0, by simp [hm]⟩
       rw [g b hb] at g'
       cases g'
     ·intro g
      refine ⟨⟨_, List.mem_singleton_self _, Q5p rfl v⟩, fun b hb => ?_⟩
      cases hfb : fitP b v with
      | false => rfl
      | true =>
       obtain ⟨c, m, g0, g'⟩ := hf.1 ⟨b, hb, hfb⟩
       rw [g c m g0] at g'
       cases g'
    ·cases hr
 ·cases hr
end Go.Proofs.YtbdkbdafhlcilaaGreat
namespace Go.Proofs.YtbdkbdafhlcilaaGreat
open Go Go.RowKit
theorem W1h {r : Z0} (h : ROk r 1000) : Ret (Q3q NN r) (fun a => a.1 ∈ Q0g ∧ a.2.1 ∈ tys a.1 ∧ Nx r a.2.2.2 500) := by
 unfold Q3q
 refine Ret.bind (X6l (h.le (by omega))) (fun a ha => ?_)
 obtain ⟨hw, hn1⟩ := ha
 have hW := ww hw
 rw [hW.tab]
 simp only [Option.bind_some]
 have hr1 : ROk a.2 999 := ROk.nx (c := 1) h hn1
 have hpos := hW.pos
 have hle := hW.le
 refine Ret.bind (Q3m (hr1.le (by omega)) (k := lenZ a.1.length) (by simp only [lenZ]; omega) (by simp only [lenZ]; omega)) (fun b hb => ?_)
 have hr2 : ROk b.2 998 := ROk.nx (c := 1) hr1 hb.2.2
 refine Ret.bind (Q8k (hr2.le (by omega)) [0, 0, 1, 2] (by simp) (by simp)) (fun c hc => ?_)
 have hr3 : ROk c.2 997 := ROk.nx (c := 1) hr2 hc.2
 have hty : (Q2.mk b.1 c.1) ∈ tys a.1 := by
  obtain ⟨i, hi⟩ := Int.eq_ofNat_of_zero_le hb.1
  have hil : i < a.1.length := by have := hb.2.1; simp only [lenZ] at this; omega
  have hci : ∃ j : Nat, j < 4 ∧ c.1 = (j : Int) := by
   have := hc.1
   simp at this
   rcases this with h | h | h
   ·exact ⟨0, by omega, h⟩
   ·exact ⟨1, by omega, h⟩
   ·exact ⟨2, by omega, h⟩
  obtain ⟨j, hj, hcj⟩ := hci
  unfold tys
  refine List.mem_cons_of_mem _ (List.mem_flatMap.2 ⟨i, List.mem_range.2 hil, List.mem_map.2 ⟨j, List.mem_range.2 hj, ?_⟩⟩)
  rw [hi, hcj]
  rfl
 have htI : tI ∈ tys a.1 := by unfold tys; exact List.mem_cons_self
 refine Ret.ctl (R := fun _ => False) (B := fun s => (Q2.mk s.1 s.2) ∈ tys a.1 ∧ depP a.1 (Q2.mk s.1 s.2) ≠ 0) ?_ (fun r hr => hr.elim) (fun s hs => ?_)
 ·rw [(hW.ty _ hty).d1]
  simp only [Option.bind_some]
  refine Ret.ite (fun h => ?_) (fun h => ?_)
  ·refine .some ⟨htI, ?_⟩
   have := (hW.ty tI htI).ti rfl
   show depP a.1 tI ≠ 0
   omega
  ·rw [Z8] at h
   exact .some ⟨hty, h⟩
 ·refine Ret.bind (Q8k (hr3.le (by omega)) [3, 2, 4, 1] (by simp) (by simp)) (fun d hd => ?_)
  have hr4 : ROk d.2 996 := ROk.nx (c := 1) hr3 hd.2
  have hd4 : 1 ≤ d.1 ∧ d.1 ≤ 4 := by
   have := hd.1
   simp at this
   omega
  have hdep := (hW.ty _ hs.1).d4
  refine Ret.bind (X0y hW 4 NN d.2 _ d.1 hs.1 hs.2 (by omega) (by omega) (by omega) (by omega) (by decide) (hr4.le (by decide))) (fun e he => ?_)
  refine .some ⟨hw, hs.1, ?_⟩
  have := (((hn1.trans hb.2.2).trans hc.2).trans hd.2).trans he
  exact this.le' (by decide)
end Go.Proofs.YtbdkbdafhlcilaaGreat
namespace Go.Proofs.YtbdkbdafhlcilaaGreat
open Go Go.RowKit
theorem Z96 {r : Z0} (h : ROk r 2) (p : Q0) (hp : p.kids.length ≤ 1000) : Ret (Q20 r p) (fun a => a.1.kids.length ≤ p.kids.length + 1 ∧ Nx r a.2 2) := by
 unfold Q20
 rw [W6 (by simp [Q6]; omega)]
 simp only [Option.bind_some, List.nil_append]
 refine Ret.ctl (R := fun _ => False) (B := fun (s : Z0 × Int × Int × Int × Int × (List Q0)) => Nx r s.1 2 ∧ s.2.2.2.2.2.length ≤ p.kids.length + 1) ?_ (fun r hr => hr.elim) (fun s hs => .some ⟨hs.2, hs.1⟩)
 refine Ret.bind (Q3m (h.le (by omega)) (by omega) (by omega)) (fun a ha => ?_)
 have hr1 : ROk a.2 1 := ROk.nx (c := 1) h ha.2.2
 refine Ret.ite (fun _ => Ret.bind (Q8k hr1 _ (by simp) (by simp)) (fun b hb => .some ⟨(ha.2.2.trans hb.2), by simp⟩)) (fun _ => ?_)
 refine Ret.ite (fun _ => Ret.bind (Q8k hr1 _ (by simp) (by simp)) (fun b hb => .some ⟨(ha.2.2.trans hb.2), by simp⟩)) (fun _ => ?_)
 refine Ret.ite (fun _ => Ret.bind (Q8k hr1 _ (by simp) (by simp)) (fun b hb => .some ⟨(ha.2.2.trans hb.2), by simp⟩)) (fun _ => ?_)
 refine Ret.ite (fun _ => ?_) (fun _ => ?_)
 ·rw [W6 (by simp [Q6]; omega)]
  exact .some ⟨ha.2.2.le' (by omega), by simp⟩
 refine Ret.ite (fun _ => ?_) (fun _ => ?_)
 ·refine Ret.ite (fun c => ?_) (fun _ => .some ⟨ha.2.2.le' (by omega), by simp⟩)
  rw [X0] at c
  simp only [lenZ] at c
  obtain ⟨x, hx, hm⟩ := Q4a (xs := p.kids) (i := 0) (by omega) (by omega)
  rw [hx]
  simp only [Option.bind_some]
  have : setI p.kids 0 (Q0.mk 2 0 0 0 0 []) = some (p.kids.set 0 (Q0.mk 2 0 0 0 0 [])) := by
   unfold setI
   rw [if_pos ⟨by omega, by show 0 < p.kids.length; omega⟩]
   rfl
  rw [this]
  exact .some ⟨ha.2.2.le' (by omega), by simp⟩
 refine Ret.ite (fun _ => Ret.bind (Q8k hr1 _ (by simp) (by simp)) (fun b hb => .some ⟨(ha.2.2.trans hb.2), by simp⟩)) (fun _ => ?_)
 exact .some ⟨ha.2.2.le' (by omega), by simp⟩
theorem X96 {r : Z0} (h : ROk r 10) (l : List Q5) (hl : l.length ≤ 8) (hk : ∀ c ∈ l, c.pat.kids.length ≤ 100) : Ret (Q2q NN r l) (fun a => a.1.length ≤ 9 ∧ Nx r a.2 10) := by
 unfold Q2q
 rw [W6 (by simp [Q6]; omega)]
 simp only [Option.bind_some, List.nil_append]
 refine Ret.ctl (R := fun _ => False) (B := fun (s : Z0 × (List Q5)) => Nx r s.1 10 ∧ s.2.length ≤ 9) ?_ (fun r hr => hr.elim) (fun s hs => .some ⟨hs.2, hs.1⟩)
 refine Ret.bind (Q3m (h.le (by omega)) (by omega) (by omega)) (fun a ha => ?_)
 have hr1 : ROk a.2 9 := ROk.nx (c := 1) h ha.2.2
 have hset : ∀ c : Q5, 0 < l.length → setI l 0 c = some (l.set 0 c) := fun c h0 => by
  unfold setI
  rw [if_pos ⟨by omega, by show 0 < l.length; omega⟩]
  rfl
 have pass : Ret (some (Ctl.brk (ρ := List Q5 × Z0) (a.2, l))) (CtlQ (fun _ => False) (fun (s : Z0 × (List Q5)) => Nx r s.1 10 ∧ s.2.length ≤ 9)) := .some ⟨ha.2.2.le' (by omega), by simp only; omega⟩
 refine Ret.ite (fun _ => ?_) (fun _ => ?_)
 ·refine Ret.ite (fun c => ?_) (fun _ => pass)
  rw [X0] at c
  simp only [lenZ] at c
  refine Ret.bind (Q8k (hr1.le (by omega)) _ (by simp) (by simp)) (fun b hb => ?_)
  have hr2 : ROk b.2 8 := ROk.nx (c := 1) hr1 hb.2
  refine Ret.bind (Q8k (hr2.le (by omega)) _ (by simp) (by simp)) (fun d hd => ?_)
  have hr3 : ROk d.2 7 := ROk.nx (c := 1) hr2 hd.2
  refine Ret.bind (Q8k (hr3.le (by omega)) _ (by simp) (by simp)) (fun e he => ?_)
  obtain ⟨x, hx, hm⟩ := Q4a (xs := l) (i := 0) (by omega) (by omega)
  rw [hx]
  simp only [Option.bind_some]
  rw [hset _ (by omega)]
  exact .some ⟨(((ha.2.2.trans hb.2).trans hd.2).trans he.2).le' (by omega), by simp; omega⟩
 refine Ret.ite (fun _ => ?_) (fun _ => ?_)
 ·refine Ret.ite (fun c => ?_) (fun _ => pass)
  rw [X0] at c
  simp only [lenZ] at c
  obtain ⟨x, hx, hm⟩ := Q4a (xs := l) (i := 0) (by omega) (by omega)
  have hxk := hk x hm
  rw [hx]
  simp only [Option.bind_some]
  refine Ret.bind (Z96 (hr1.le (by omega)) x.pat (by omega)) (fun b hb => ?_)
  have hr2 : ROk b.2 7 := ROk.nx (c := 2) hr1 hb.2
  refine Ret.bind (Z96 (hr2.le (by omega)) b.1 (by have := hb.1; omega)) (fun d hd => ?_)
  rw [hset _ (by omega)]
  exact .some ⟨((ha.2.2.trans hb.2).trans hd.2).le' (by omega), by simp; omega⟩
 refine Ret.ite (fun _ => ?_) (fun _ => pass)
 refine Ret.ctl (Q3l (fun (s : List Q5) => s.length ≤ 9) (fun s => 9 - s.length) (fun _ => False) (fun s => s.length ≤ 9) (by omega) (fun s hI => ?_) NN (by show 9 - l.length < 30000000; omega)) (fun r hr => hr.elim) (fun s hs => .some ⟨ha.2.2.le' (by omega), hs⟩)
 refine Ret.ite (fun c => ?_) (fun _ => .some hI)
 rw [Q03] at c
 simp only [lenZ] at c
 rw [W6 (by simp [Q6]; omega)]
 exact .some ⟨by simp; omega, by simp; omega⟩
theorem X8o {w : List Q3} (hw : WW w) {t : Q2} (ht : t ∈ tys w) {p : Q0} (h : Q12 w t p = true) : p.kids.length ≤ 3 := by
 obtain ⟨ho, hl⟩ := Q3x (Q2x (Q3z h).1)
 rw [hl]
 exact W35 (hw.ty t ht) ho
end Go.Proofs.YtbdkbdafhlcilaaGreat
namespace Go.Proofs.YtbdkbdafhlcilaaGreat
open Go Go.RowKit
theorem W72 {α : Type} (p q : Bool) (x y : α) : (if p = true then (if q = true then x else y) else y) = if (p && q) = true then x else y := by cases p <;> cases q <;> rfl
def rng (n m : Int) : Q0 := if (ieq n 0 && ieq m 9) = true then anyP else Q0.mk 3 0 n m 0 []
end Go.Proofs.YtbdkbdafhlcilaaGreat
namespace Go.Proofs.YtbdkbdafhlcilaaGreat
open Go Go.RowKit
theorem W8t {w : List Q3} (hw : WW w) : ∀ (d : Nat) (t : Q2) (v : Q4), t ∈ tys w → Q0s w d t v → 2 * cntV v + 1 ≤ 3 ^ d := by
 intro d
 induction d with
 | zero => intro t v _ h; exact h.elim
 | succ d ih =>
  intro t v ht h
  have hT := hw.ty t ht
  have hcv := Z4k v
  have hp : 3 ≤ 3 ^ (d + 1) := by
   have := Nat.one_le_two_pow (n := d)
   have h3 : 1 ≤ 3 ^ d := Nat.one_le_pow _ _ (by omega)
   rw [Nat.pow_succ]; omega
  simp only [Q0s] at h
  split at h
  ·obtain ⟨_, _, _, h4⟩ := h
   rw [h4] at hcv
   simp only [cntV.cntVs] at hcv
   omega
  ·obtain ⟨_, h2, h3, h4⟩ := h
   have hal := hT.al _ h2
   have key : ∀ k, k ≤ v.kids.length → 2 * cntV.cntVs (v.kids.take k) + k ≤ k * 3 ^ d := by
    intro k
    induction k with
    | zero => intro _; simp [cntV.cntVs]
    | succ k ihk =>
     intro hk
     have hx : v.kids[k]? = some (v.kids[k]'(by omega)) := by simp
     have ha : (Z5 w t v.ctor)[k]? = some ((Z5 w t v.ctor)[k]'(by omega)) := by simp
     have h5 := ih _ _ (hT.at_ _ h2 _ (List.mem_of_getElem? ha)) (h4 k _ _ ha hx)
     have h6 := ihk (by omega)
     rw [Z1i _ _ _ hx]
     have e : (k + 1) * 3 ^ d = k * 3 ^ d + 3 ^ d := Nat.succ_mul _ _
     omega
   have h7 := key v.kids.length (Nat.le_refl _)
   rw [List.take_length] at h7
   have h8 : v.kids.length * 3 ^ d ≤ 3 * 3 ^ d := Nat.mul_le_mul_right _ (by omega)
   rw [Nat.pow_succ]
   by_cases h0 : v.kids.length = 0
   ·rw [List.eq_nil_of_length_eq_zero h0] at hcv
    simp only [cntV.cntVs] at hcv
    rw [Nat.pow_succ] at hp
    omega
   ·have h9 : v.kids.length = 1 ∨ v.kids.length = 2 ∨ v.kids.length = 3 := by omega
    have h3d : 1 ≤ 3 ^ d := Nat.one_le_pow _ _ (by omega)
    rcases h9 with h9 | h9 | h9 <;> rw [h9] at h7 <;> omega
theorem Z1f {w : List Q3} : ∀ (d e : Nat) (t : Q2) (v : Q4), d ≤ e → Q0s w d t v → Q0s w e t v := by
 intro d
 induction d with
 | zero => intro e t v _ h; exact h.elim
 | succ d ih =>
  intro e t v he h
  obtain ⟨e, rfl⟩ : ∃ k, e = k + 1 := ⟨e - 1, by omega⟩
  rw [Q0s] at h ⊢
  split
  ·rename_i hd; rw [if_pos hd] at h; exact h
  ·rename_i hd
   rw [if_neg hd] at h
   exact ⟨h.1, h.2.1, h.2.2.1, fun j a x ha hx => ih e a x (by omega) (h.2.2.2 j a x ha hx)⟩
theorem X2a {w : List Q3} (hw : WW w) {d : Nat} (hd : d ≤ 4) {t : Q2} {v : Q4} (ht : t ∈ tys w) (h : Q0s w d t v) : Q40 w t v = true := by
 have h1 := Z1f d 4 t v hd h
 have h2 := W8t hw 4 t v ht h1
 simp only [Q40, Bool.and_eq_true, decide_eq_true_eq]
 exact ⟨(Z49 10 t v).2 (Z1f 4 10 t v (by omega) h1), by omega⟩
end Go.Proofs.YtbdkbdafhlcilaaGreat
namespace Go.Proofs.YtbdkbdafhlcilaaGreat
open Go Go.RowKit
def tupV (out : List (List Q4)) (l : List Q4) : List (List Q4) := out.flatMap fun q => l.map fun c => q ++ [c]
def mkV (c : Int) (ks : List Q4) : Q4 := Q4.mk c 0 ks
def numV (n : Nat) : Q4 := Q4.mk (-1) (n : Int) []
def Q2d (w : List Q3) : Nat → Q2 → List Q4
 | 0, _ => []
 | d + 1, t => if t.data = -1 then (List.range 10).map numV else (Z9 w t).flatMap fun c => (((Z5 w t c).map (Q2d w d)).foldl tupV [[]]).map (mkV c)
theorem Z2s (out : List (List Q4)) (l : List Q4) : (tupV out l).length = out.length * l.length := by
 induction out with
 | nil => simp [tupV]
 | cons q out ih =>
  have e : tupV (q :: out) l = (l.map fun c => q ++ [c]) ++ tupV out l := by simp [tupV]
  rw [e, List.length_append, ih, List.length_map, List.length_cons, Nat.succ_mul]
  omega
theorem X1w : ∀ (ls : List (List Q4)) (out : List (List Q4)), (out = [] ∨ [] ∈ ls) → ls.foldl tupV out = []
 | [], out, h => by
  rcases h with h | h
  ·exact h
  ·cases h
 | l :: ls, out, h => by
  rw [List.foldl_cons]
  refine X1w ls _ ?_
  rcases h with rfl | h
  ·left; simp [tupV]
  ·rcases List.mem_cons.1 h with rfl | h
   ·left; simp [tupV]
   ·right; exact h
theorem Z9z : ∀ (ls : List (List Q4)) (out : List (List Q4)), (∀ l ∈ ls, l ≠ []) → out.length ≤ (ls.foldl tupV out).length
 | [], _, _ => Nat.le_refl _
 | l :: ls, out, h => by
  rw [List.foldl_cons]
  have h1 := Z9z ls (tupV out l) fun x hx => h x (by simp [hx])
  rw [Z2s] at h1
  have h2 : 1 ≤ l.length := List.length_pos_iff.2 (h l (by simp))
  exact Nat.le_trans (Nat.le_mul_of_pos_right _ h2) h1
theorem Z8u {ls : List (List Q4)} (h : ∀ l ∈ ls, l ≠ []) (k : Nat) : ((ls.take k).foldl tupV [[]]).length ≤ (ls.foldl tupV [[]]).length := by
 rw [← List.take_append_drop k ls, List.foldl_append, List.take_append_drop]
 exact Z9z _ _ fun l hl => h l (List.mem_of_mem_drop hl)
theorem Z41 {ls : List (List Q4)} {k : Nat} {l : List Q4} (h : ls[k]? = some l) : (ls.take (k + 1)).foldl tupV [[]] = tupV ((ls.take k).foldl tupV [[]]) l := by
 rw [List.take_add_one, h]; simp
theorem W1i {ls : List (List Q4)} (h : ∀ l ∈ ls, l ≠ []) : 1 ≤ (ls.foldl tupV [[]]).length := Z9z ls [[]] h
theorem Z0f : ∀ (ls : List (List Q4)) (out : List (List Q4)) (ks : List Q4), ks ∈ ls.foldl tupV out →
  ∃ a b, a ∈ out ∧ ks = a ++ b ∧ b.length = ls.length ∧ ∀ (i : Nat) (q : Q4) (l : List Q4), b[i]? = some q → ls[i]? = some l → q ∈ l
 | [], out, ks, h => ⟨ks, [], by simpa using h, by simp, rfl, by simp⟩
 | l :: ls, out, ks, h => by
  rw [List.foldl_cons] at h
  obtain ⟨a, b, ha, rfl, hl, hb⟩ := Z0f ls (tupV out l) ks h
  simp only [tupV, List.mem_flatMap, List.mem_map] at ha
  obtain ⟨a0, h0, c, hc, rfl⟩ := ha
  refine ⟨a0, c :: b, h0, by simp, by simp [hl], fun i q m h1 h2 => ?_⟩
  cases i with
  | zero => simp at h1 h2; subst h1 h2; exact hc
  | succ i => exact hb i q m (by simpa using h1) (by simpa using h2)
theorem X1t {w : List Q3} : ∀ (d : Nat) (t : Q2) (v : Q4), v ∈ Q2d w d t → Q0s w d t v := by
 intro d
 induction d with
 | zero => intro t v h; simp [Q2d] at h
 | succ d ih =>
  intro t v h
  rw [Q2d] at h
  rw [Q0s]
  split
  ·rename_i hd
   rw [if_pos hd] at h
   obtain ⟨n, hn, rfl⟩ := List.mem_map.1 h
   have := List.mem_range.1 hn
   exact ⟨rfl, by simp only [numV]; omega, by simp only [numV]; omega, rfl⟩
  ·rename_i hd
   rw [if_neg hd] at h
   obtain ⟨c, hc, h⟩ := List.mem_flatMap.1 h
   obtain ⟨ks, hks, rfl⟩ := List.mem_map.1 h
   obtain ⟨a, b, ha, rfl, hl, hb⟩ := Z0f _ _ _ hks
   simp only [List.mem_singleton] at ha
   subst ha
   simp only [List.length_map] at hl
   refine ⟨rfl, hc, by simp [mkV, hl], fun j u x hu hx => ih u x ?_⟩
   simp only [mkV] at hu hx
   exact hb j x (Q2d w d u) (by simpa using hx) (by rw [List.getElem?_map, hu]; rfl)
theorem W6u {a b m : Nat} : min (min a m * min b m) m = min (a * b) m := by
 rcases Nat.eq_zero_or_pos a with rfl | ha
 ·simp
 rcases Nat.eq_zero_or_pos b with rfl | hb
 ·simp
 rcases Nat.le_total a m with h1 | h1 <;> rcases Nat.le_total b m with h2 | h2
 ·rw [Nat.min_eq_left h1, Nat.min_eq_left h2]
 ·rw [Nat.min_eq_left h1, Nat.min_eq_right h2, Nat.min_eq_right, Nat.min_eq_right]
  ·exact Nat.le_trans h2 (Nat.le_mul_of_pos_left _ ha)
  ·exact Nat.le_mul_of_pos_left _ ha
 ·rw [Nat.min_eq_right h1, Nat.min_eq_left h2, Nat.min_eq_right, Nat.min_eq_right]
  ·exact Nat.le_trans h1 (Nat.le_mul_of_pos_right _ hb)
  ·exact Nat.le_mul_of_pos_right _ hb
 ·rw [Nat.min_eq_right h1, Nat.min_eq_right h2]
  rcases Nat.eq_zero_or_pos m with rfl | hm
  ·simp
  ·rw [Nat.min_eq_right (Nat.le_mul_of_pos_left _ hm), Nat.min_eq_right (Nat.le_trans h2 (Nat.le_mul_of_pos_left _ ha))]
theorem X7j (a b : Nat) : imin (a : Int) (b : Int) = ((min a b : Nat) : Int) := by
 unfold imin
 split <;> omega
theorem X3w {w : List Q3} (hw : WW w) : ∀ (d n : Nat) (t : Q2), t ∈ tys w → d + 2 ≤ n → d ≤ 100 → Q0e n w t (d : Int) = some ((min (Q2d w d t).length 401 : Nat) : Int) := by
 intro d
 induction d with
 | zero =>
  intro n t ht hn _
  obtain ⟨n, rfl⟩ : ∃ k, n = k + 1 := ⟨n - 1, by omega⟩
  unfold Q0e
  rw [if_pos (by simp [ieq])]
  rfl
 | succ d ih =>
  intro n t ht hn hd
  obtain ⟨n, rfl⟩ : ∃ k, n = k + 1 := ⟨n - 1, by omega⟩
  have hT := hw.ty t ht
  suffices hs : Ret (Q0e (n + 1) w t ((d + 1 : Nat) : Int)) (fun a => a = ((min (Q2d w (d + 1) t).length 401 : Nat) : Int)) by
   obtain ⟨a, e, rfl⟩ := hs
   exact e
  unfold Q0e
  rw [if_neg (by rw [Z4]; omega)]
  have e1 : wsub .i64 ((d + 1 : Nat) : Int) 1 = (d : Int) := by rw [Q3k] <;> omega
  rw [e1]
  by_cases hi : t.data = -1
  ·rw [if_pos (by rw [Z4]; exact hi)]
   refine .some ?_
   simp [Q2d, hi]
  ·rw [if_neg (by rw [Z4]; exact hi), hT.c2]
   simp only [Option.bind_some]
   have hv : Q2d w (d + 1) t = (Z9 w t).flatMap fun c => (((Z5 w t c).map (Q2d w d)).foldl tupV [[]]).map (mkV c) := by rw [Q2d, if_neg hi]
   rw [hv]
   generalize hF : (fun c => (((Z5 w t c).map (Q2d w d)).foldl tupV [[]]).map (mkV c)) = F
   refine Ret.ctl (Z1 (Z9 w t) (fun i s => s = ((min (((Z9 w t).take i).flatMap F).length 401 : Nat) : Int)) (fun _ => False) (fun s => s = ((min ((Z9 w t).flatMap F).length 401 : Nat) : Int)) (by simp) (fun i c s hc hI => ?_) (fun s hI => by rw [hI, List.take_length])) (fun r hr => hr.elim) (fun s hs => .some hs)
   have hcm := List.mem_of_getElem? hc
   rw [hT.a2 _ hcm]
   simp only [Option.bind_some]
   refine Ret.ctl (Z1 (Z5 w t c) (fun k s => s = ((min ((((Z5 w t c).map (Q2d w d)).take k).foldl tupV [[]]).length 401 : Nat) : Int)) (fun _ => False) (fun s => s = ((min (F c).length 401 : Nat) : Int)) (by simp) (fun k a u ha hJ => ?_) (fun s hJ => ?_)) (fun r hr => hr.elim) (fun u hu => ?_)
   ·rw [ih n a (hT.at_ _ hcm _ (List.mem_of_getElem? ha)) (by omega) (by omega)]
    simp only [Option.bind_some]
    refine .some ?_
    simp only [Q4z]
    rw [Z41 (l := Q2d w d a) (by rw [List.getElem?_map, ha]; rfl), Z2s, hJ]
    generalize ((((Z5 w t c).map (Q2d w d)).take k).foldl tupV [[]]).length = A
    generalize (Q2d w d a).length = B
    have hm : min A 401 * min B 401 ≤ 401 * 401 := Nat.mul_le_mul (Nat.min_le_right _ _) (Nat.min_le_right _ _)
    have e : ((min A 401 : Nat) : Int) * ((min B 401 : Nat) : Int) = ((min A 401 * min B 401 : Nat) : Int) := by simp
    rw [Q7f (by rw [e]; omega) (by rw [e]; omega), e, show (401 : Int) = ((401 : Nat) : Int) from rfl, X7j, W6u]
   ·rw [hJ, List.take_of_length_le (by simp), ← hF, List.length_map]
   ·refine .some ?_
    simp only [Q4z]
    rw [hu, hI, List.take_add_one, hc]
    simp only [Option.toList_some, List.flatMap_append, List.flatMap_cons, List.flatMap_nil, List.append_nil, List.length_append]
    generalize (((Z9 w t).take i).flatMap F).length = A
    generalize (F c).length = B
    rw [Q09 (by omega) (by omega)]
    have e : ((min A 401 : Nat) : Int) + ((min B 401 : Nat) : Int) = ((min A 401 + min B 401 : Nat) : Int) := by omega
    rw [e, show (401 : Int) = ((401 : Nat) : Int) from rfl, X7j]
    congr 1
    omega
theorem X6c (l : List Q4) (h : l.length ≤ Q6) : Q1g l = some l := by
 unfold Q1g
 rw [W6 (by simpa using h)]
 rfl
theorem X0r {α β : Type} (l : List α) (F : α → List β) (i : Nat) : ((l.take i).flatMap F).length ≤ (l.flatMap F).length := by
 conv => rhs; rw [← List.take_append_drop i l, List.flatMap_append, List.length_append]
 omega
theorem X0e {w : List Q3} (hw : WW w) : ∀ (d n : Nat) (t : Q2), t ∈ tys w → d + 20 ≤ n → d ≤ 100 → (Q2d w d t).length ≤ 400 → Q3e n w t (d : Int) = some (Q2d w d t) := by
 intro d
 induction d with
 | zero =>
  intro n t ht hn _ _
  obtain ⟨n, rfl⟩ : ∃ k, n = k + 1 := ⟨n - 1, by omega⟩
  unfold Q3e
  rw [if_pos (by simp [ieq])]
  rfl
 | succ d ih =>
  intro n t ht hn hd hlen
  obtain ⟨n, rfl⟩ : ∃ k, n = k + 1 := ⟨n - 1, by omega⟩
  have hT := hw.ty t ht
  suffices hs : Ret (Q3e (n + 1) w t ((d + 1 : Nat) : Int)) (fun a => a = Q2d w (d + 1) t) by
   obtain ⟨a, e, rfl⟩ := hs
   exact e
  unfold Q3e
  rw [if_neg (by rw [Z4]; omega)]
  have e1 : wsub .i64 ((d + 1 : Nat) : Int) 1 = (d : Int) := by rw [Q3k] <;> omega
  rw [e1]
  by_cases hi : t.data = -1
  ·rw [if_pos (by rw [Z4]; exact hi)]
   have hv : Q2d w (d + 1) t = (List.range 10).map numV := by rw [Q2d, if_pos hi]
   rw [hv]
   refine Ret.ctl (Q3l (fun s : List Q4 × Int => ∃ k : Nat, k ≤ 10 ∧ s = ((List.range k).map numV, (k : Int))) (fun s => (10 - s.2).toNat) (fun _ => False) (fun s => s.1 = (List.range 10).map numV) ⟨0, by omega, rfl⟩ (fun s hI => ?_) n (by simp; omega)) (fun r hr => hr.elim) (fun s hs => .some hs)
   obtain ⟨k, hk, rfl⟩ := hI
   refine Ret.ite (fun h1 => ?_) (fun h1 => ?_)
   ·rw [X0] at h1
    simp only [Q7p, Option.bind_some]
    rw [W6 (by simp only [List.length_map, List.length_range, List.length_cons, List.length_nil, Q6]; omega)]
    simp only [Option.bind_some]
    have e2 : wadd .i64 (k : Int) 1 = ((k + 1 : Nat) : Int) := by rw [Q09] <;> omega
    rw [e2]
    refine .some ⟨⟨k + 1, by omega, ?_⟩, by simp only; omega⟩
    rw [List.range_succ, List.map_append]; rfl
   ·rw [J8] at h1
    refine .some ?_
    simp only at h1
    rw [show k = 10 by omega]
    exact rfl
  ·rw [if_neg (by rw [Z4]; exact hi), hT.c2]
   simp only [Option.bind_some]
   have hv : Q2d w (d + 1) t = (Z9 w t).flatMap fun c => (((Z5 w t c).map (Q2d w d)).foldl tupV [[]]).map (mkV c) := by rw [Q2d, if_neg hi]
   rw [hv] at hlen ⊢
   generalize hF : (fun c => (((Z5 w t c).map (Q2d w d)).foldl tupV [[]]).map (mkV c)) = F at *
   refine Ret.ctl (Z1 (Z9 w t) (fun i s => s = ((Z9 w t).take i).flatMap F) (fun _ => False) (fun s => s = (Z9 w t).flatMap F) (by simp) (fun i c s hc hI => ?_) (fun s hI => by rw [hI, List.take_length])) (fun r hr => hr.elim) (fun s hs => .some hs)
   have hcm := List.mem_of_getElem? hc
   have hFc : F c = (((Z5 w t c).map (Q2d w d)).foldl tupV [[]]).map (mkV c) := by rw [← hF]
   have hnext : ((Z9 w t).take (i + 1)).flatMap F = ((Z9 w t).take i).flatMap F ++ F c := by
    rw [List.take_add_one, hc]; simp
   have hle := X0r (Z9 w t) F (i + 1)
   rw [hnext, List.length_append] at hle
   have hat := hT.at_ _ hcm
   have hal := hT.al _ hcm
   refine Ret.bind (P := CtlQ (fun r : Ctl (List Q4) (List Q4) => RndQ (fun _ => False) (fun s => s = (Z9 w t).flatMap F) (fun s => s = ((Z9 w t).take (i + 1)).flatMap F) r) (fun s => s = ((Z9 w t).take (i + 1)).flatMap F)) ?_ (fun o ho => ?_)
   ·rw [hT.a2 _ hcm]
    simp only [Option.bind_some]
    have hcf : Q00 (Z5 w t c) (fun a0 => Q54 n a0 w ((d + 1 : Nat) : Int)) = some ((Z5 w t c).any fun a => decide ((Q2d w d a).length = 0)) := by
     refine Z8r _ _ _ fun a ha => ?_
     unfold Q54
     rw [e1, X3w hw d n a (hat _ ha) (by omega) (by omega)]
     simp only [Option.bind_some, ieq]
     congr 1
     by_cases h0 : (Q2d w d a).length = 0
     ·simp [h0]
     ·rw [decide_eq_false h0, decide_eq_false]; omega
    rw [hcf]
    simp only [Option.bind_some]
    cases hany : (Z5 w t c).any fun a => decide ((Q2d w d a).length = 0) with
    | true =>
     simp only [if_true]
     refine .some ?_
     simp only [X8d]
     rw [hnext, hI]
     obtain ⟨a, ha, h0⟩ := List.any_eq_true.1 hany
     simp only [decide_eq_true_eq] at h0
     have : F c = [] := by
      rw [hFc, X1w _ _ (.inr (List.mem_map.2 ⟨a, ha, List.eq_nil_of_length_eq_zero h0⟩))]; rfl
     rw [this, List.append_nil]
    | false =>
     simp only [Bool.false_eq_true, if_false]
     have hne : ∀ l ∈ (Z5 w t c).map (Q2d w d), l ≠ [] := fun l hl e => by
      obtain ⟨a, ha, rfl⟩ := List.mem_map.1 hl
      have := List.any_eq_false.1 hany a ha
      simp [e] at this
     have hlenF : (F c).length = (((Z5 w t c).map (Q2d w d)).foldl tupV [[]]).length := by rw [hFc, List.length_map]
     refine Ret.ctl (Z1 (Z5 w t c) (fun k s => s = ((((Z5 w t c).map (Q2d w d)).take k).foldl tupV [[]]).map (mkV c)) (fun _ => False) (fun s => s = F c) (by simp [mkV]) (fun k a u ha hJ => ?_) (fun s hJ => by rw [hJ, List.take_of_length_le (by simp), hFc])) (fun r hr => hr.elim) (fun u hu => ?_)
     ·have hk1 := Z8u hne (k + 1)
      have hk0 := Z8u hne k
      have hg : ((Z5 w t c).map (Q2d w d))[k]? = some (Q2d w d a) := by rw [List.getElem?_map, ha]; rfl
      have hp : 1 ≤ ((((Z5 w t c).map (Q2d w d)).take k).foldl tupV [[]]).length := W1i fun l hl => hne l (List.mem_of_mem_take hl)
      have ha1 : 1 ≤ (Q2d w d a).length := List.length_pos_iff.2 (hne _ (List.mem_of_getElem? hg))
      rw [Z41 hg, Z2s] at hk1
      have hva : (Q2d w d a).length ≤ 400 := by
       have := Nat.le_mul_of_pos_left (Q2d w d a).length hp
       omega
      rw [ih n a (hat _ (List.mem_of_getElem? ha)) (by omega) (by omega) hva]
      simp only [Option.bind_some]
      rw [Z41 hg]
      have hkl : ∀ ks ∈ (((Z5 w t c).map (Q2d w d)).take k).foldl tupV [[]], ks.length ≤ 3 := fun ks hks => by
       obtain ⟨x, y, hx, rfl, hl, _⟩ := Z0f _ _ _ hks
       simp only [List.mem_singleton] at hx
       subst hx
       simp only [List.length_take, List.length_map] at hl
       simp only [List.nil_append]
       omega
      generalize ((((Z5 w t c).map (Q2d w d)).take k).foldl tupV [[]]) = T at *
      generalize Q2d w d a = L at *
      refine Ret.ctl (Z1 u (fun j z => z = (tupV (T.take j) L).map (mkV c)) (fun _ => False) (fun z => z = (tupV T L).map (mkV c)) (by simp [tupV]) (fun j x z hx hK => ?_) (fun z hK => by rw [hK, hJ, List.length_map, List.take_length])) (fun r hr => hr.elim) (fun z hz => .some hz)
      rw [hJ, List.getElem?_map] at hx
      obtain ⟨ks, hks, rfl⟩ := Option.map_eq_some_iff.1 hx
      have hjl := (List.getElem?_eq_some_iff.1 hks).1
      have hks3 := hkl ks (List.mem_of_getElem? hks)
      have hnj : tupV (T.take (j + 1)) L = tupV (T.take j) L ++ L.map (fun c => ks ++ [c]) := by
       rw [List.take_add_one, hks]; simp [tupV]
      rw [hnj]
      refine Ret.ctl (Z1 L (fun i v => v = (tupV (T.take j) L ++ (L.take i).map (fun c => ks ++ [c])).map (mkV c)) (fun _ => False) (fun v => v = (tupV (T.take j) L ++ L.map (fun c => ks ++ [c])).map (mkV c)) (by simp [hK]) (fun i y v hy hM => ?_) (fun v hM => by rw [hM, List.take_length])) (fun r hr => hr.elim) (fun v hv => .some hv)
      simp only [mkV]
      rw [X6c _ (by simp only [Q6]; omega)]
      simp only [Option.bind_some]
      rw [W6 (by simp only [Q6, List.length_cons, List.length_nil]; omega)]
      simp only [Option.bind_some]
      have hil := (List.getElem?_eq_some_iff.1 hy).1
      have hvl : v.length ≤ 1000 * 1000 + 1000 := by
       rw [hM, List.length_map, List.length_append, Z2s, List.length_map, List.length_take, List.length_take]
       have := Nat.mul_le_mul (show min j T.length ≤ 1000 by omega) (show L.length ≤ 1000 by omega)
       omega
      rw [W6 (by simp only [Q6, List.length_cons, List.length_nil]; omega)]
      refine .some ?_
      simp only [Q4z]
      rw [hM, List.take_add_one, hy]
      simp [mkV]
     ·have hsl : s.length ≤ 400 := by rw [hI]; omega
      dsimp only
      rw [W6 (by rw [hu]; simp only [Q6]; omega)]
      simp only [Option.bind_some]
      exact .some (by simp only [X8d]; rw [hnext, hI, hu])
   ·cases o with
    | ret r => exact .some ho
    | brk s => exact .some ho
    | go s => exact ho.elim
theorem X5c {w : List Q3} (hw : WW w) {t : Q2} (ht : t ∈ tys w) {d : Nat} (hd : d ≤ 4) : Q1s NN w t (d : Int) = some (if (Q2d w d t).length ≤ 400 then (Q2d w d t, true) else ([], false)) := by
 suffices hs : Ret (Q1s NN w t (d : Int)) (fun r => r = if (Q2d w d t).length ≤ 400 then (Q2d w d t, true) else ([], false)) by
  obtain ⟨a, e, rfl⟩ := hs
  exact e
 unfold Q1s
 rw [X2z hw ht]
 simp only [Option.bind_some, Bool.not_true, Bool.false_eq_true, if_false]
 rw [Q8y]
 have e0 : (decide ((0 : Int) ≤ (d : Int)) && decide ((d : Int) ≤ 4)) = true := by simp only [Bool.and_eq_true, decide_eq_true_eq]; omega
 rw [e0]
 simp only [Option.bind_some, Bool.not_true, Bool.false_eq_true, if_false]
 rw [X3w hw d NN t ht (by simp only [NN]; omega) (by omega)]
 simp only [Option.bind_some]
 refine Ret.ite (fun h => ?_) (fun h => ?_)
 ·rw [X0] at h
  rw [if_neg (by omega)]
  exact .some rfl
 ·rw [J8] at h
  have hl : (Q2d w d t).length ≤ 400 := by omega
  rw [if_pos hl, X0e hw d NN t ht (by simp only [NN]; omega) (by omega) hl]
  simp only [Option.bind_some]
  refine Ret.ctl (Z1 (Q2d w d t) (fun i s => s = (Q2d w d t).take i) (fun _ => False) (fun s => s = Q2d w d t) (by simp) (fun i v s hv hI => ?_) (fun s hI => by rw [hI, List.take_length])) (fun r hr => hr.elim) (fun s hs => .some (by rw [hs]))
  have hg := X1t d t v (List.mem_of_getElem? hv)
  rw [Z6q d NN v (Z48 hw d t v ht hg) (by simp only [NN]; omega)]
  simp only [Option.bind_some]
  rw [W6 (by rw [hI]; simp only [List.length_take, List.length_cons, List.length_nil, Q6]; omega)]
  refine .some ?_
  simp only [Q4z]
  rw [hI, List.take_add_one, hv]
  rfl
theorem Z8d {w : List Q3} (hw : WW w) {t : Q2} (ht : t ∈ tys w) {d : Int} (h1 : 1 ≤ d) (h3 : d ≤ 3) : ∃ r, Q1s NN w t d = some r ∧ r.1.length ≤ 400 ∧ ∀ v ∈ r.1, Q40 w t v = true ∧ Q0s w 4 t v := by
 obtain ⟨k, rfl⟩ : ∃ k : Nat, d = (k : Int) := ⟨d.toNat, by omega⟩
 refine ⟨_, X5c hw ht (by omega), ?_, fun v hv => ?_⟩
 ·split
  ·assumption
  ·simp
 ·split at hv
  ·have hg := X1t k t v hv
   exact ⟨X2a hw (by omega) ht hg, Z1f k 4 t v (by omega) hg⟩
  ·cases hv
end Go.Proofs.YtbdkbdafhlcilaaGreat
namespace Go.Proofs.YtbdkbdafhlcilaaGreat
open Go Go.RowKit
theorem rem3 (n : Nat) : ∃ d : Int, wadd .i64 1 (wrem (lenZ n) 3) = d ∧ 1 ≤ d ∧ d ≤ 3 := by
 refine ⟨_, rfl, ?_⟩
 have e : wrem (lenZ n) 3 = ((n % 3 : Nat) : Int) := by
  show Int.tmod _ _ = _
  simp only [lenZ]
  rw [Int.tmod_eq_emod_of_nonneg (by omega)]
  omega
 rw [e, Q09 (by omega) (by omega)]
 omega
def runC (w : List Q3) (t : Q2) (l : List Q5) (v : Q4) : Int × List X3 × Bool :=
 if (J5 w t l && Q40 w t v) = true then ((runR (runD v 0 l)).1, (runR (runD v 0 l)).2, true) else (-1, [], false)
theorem X7i {w : List Q3} (hw : WW w) {t : Q2} (ht : t ∈ tys w) (l : List Q5) (v : Q4) : Q2n NN w t l v = some (runC w t l v) := by
 unfold Q2n runC
 rw [Q3w hw ht l]
 simp only [Option.bind_some]
 cases hc : J5 w t l with
 | false => simp
 | true =>
  simp only [Bool.not_true, Bool.false_eq_true, if_false, Bool.true_and]
  rw [Z51 hw ht v]
  simp only [Option.bind_some]
  cases hv : Q40 w t v with
  | false => simp
  | true =>
   simp only [Bool.not_true, Bool.false_eq_true, if_false, if_true]
   rw [Z9g hw ht (Q5c hc).2 (Q9e hv) (by omega)]
   rfl
theorem W24 {w : List Q3} {t : Q2} {l : List Q5} {v : Q4} (hc : J5 w t l = true) (hv : Q40 w t v = true) : runC w t l v = ((runR (runD v 0 l)).1, (runR (runD v 0 l)).2, true) := by
 unfold runC
 rw [hc, hv]; rfl
theorem X03 {v : Q4} : ∀ {cs : List Q5} {k : Nat}, runD v k cs = none → ∀ c ∈ cs, ∀ b, X6 10 c.pat v = some b → Q4b c.guard b = false
 | [], _, _, _, h => by cases h
 | c :: cs, k, h, x, hx => by
  simp only [runD] at h
  intro b hb
  cases hm : X6 10 c.pat v with
  | none =>
   rw [hm] at h
   rcases List.mem_cons.1 hx with rfl | hx
   ·rw [hm] at hb; cases hb
   ·exact X03 h x hx b hb
  | some l =>
   rw [hm] at h
   simp only at h
   split at h
   ·cases h
   ·rename_i hg
    rcases List.mem_cons.1 hx with rfl | hx
    ·rw [hm] at hb; cases hb; simpa using hg
    ·exact X03 h x hx b hb
end Go.Proofs.YtbdkbdafhlcilaaGreat
namespace Go.Proofs.YtbdkbdafhlcilaaGreat
open Go Go.RowKit
theorem W2s (r : Z0) (l : List Int) : Par (X1 r l) (fun a => a.1 ∈ l) := by
 unfold X1
 refine Par.any fun a => ?_
 refine Par.bind (P := fun x => x ∈ l) (fun x hx => ?_) (fun x hx => .some hx)
 unfold idx at hx
 split at hx
 ·exact List.mem_of_getElem? hx
 ·cases hx
end Go.Proofs.YtbdkbdafhlcilaaGreat
namespace Go.Proofs.YtbdkbdafhlcilaaGreat
open Go Go.RowKit
theorem W1f {r : Z0} (h : ROk r 5000) : Ret (Q1a NN r) (fun a => a.1 ∈ Q0g ∧ a.2.1 ∈ tys a.1 ∧ (∀ c ∈ a.2.2.1, Q12 a.1 a.2.1 c.pat = true) ∧ a.2.2.1.length ≤ 5 ∧ Nx r a.2.2.2.2 4000) := by
 unfold Q1a
 refine Ret.bind (W1h (h.le (by omega))) (fun a ha => ?_)
 obtain ⟨h1, h2, h3⟩ := ha
 refine Ret.bind (X7e (ww h1) h2 (ROk.nx (c := 500) (h.le (by omega)) h3)) (fun b hb => ?_)
 exact .some ⟨h1, h2, hb.1, hb.2.1, (h3.trans hb.2.2).le' (by omega)⟩
end Go.Proofs.YtbdkbdafhlcilaaGreat
namespace Go.Proofs.YtbdkbdafhlcilaaGreat
open Go Go.RowKit
def Disj (w : List Q3) (t : Q2) (x y : Q0) : Prop := ∀ (e : Nat) (v : Q4), Q0s w e t v → fitP x v = true → fitP y v = true → False
def V2q (w : List Q3) (ts : List Q2) (xs ys : List Q0) : Prop := ∀ (e : Nat) (vs : List Q4), vs.length = ts.length → (∀ (j : Nat) (t : Q2) (v : Q4), ts[j]? = some t → vs[j]? = some v → Q0s w e t v) → fitL xs vs = true → fitL ys vs = true → False
theorem W33 {w : List Q3} {fm : Q2 → Q0 → Q0 → List Q0} {fj : Q0 → Q0 → Option Q0} : ∀ (ts : List Q2) (as bs : List Q0), as.length = ts.length → bs.length = ts.length →
  (∀ (j : Nat) (t : Q2) (a b : Q0), ts[j]? = some t → as[j]? = some a → bs[j]? = some b → (fm t a b).Pairwise (Disj w t) ∧ ∀ (e : Nat) (v : Q4), Q0s w e t v → (∀ y ∈ fm t a b, fitP y v = true → fitP b v = false) ∧ ∀ m, fj a b = some m → fitP m v = true → fitP b v = true) →
  (kmD fm fj ts as bs).Pairwise (V2q w ts)
 | [], as, bs, _, _, _ => by simp [kmD]
 | t :: ts, a :: as, b :: bs, h1, h2, h => by
  obtain ⟨g1, g2⟩ := h 0 t a b rfl rfl rfl
  have ih := W33 ts as bs (by simpa using h1) (by simpa using h2) fun j t a b e1 e2 e3 => h (j + 1) t a b (by simpa using e1) (by simpa using e2) (by simpa using e3)
  simp only [kmD]
  rw [List.pairwise_append]
  have split2 : ∀ (x y : Q0) (xs ys : List Q0), (Disj w t x y ∨ V2q w ts xs ys) → V2q w (t :: ts) (x :: xs) (y :: ys) := fun x y xs ys hd e vs hl hg hx hy => by
   cases vs with
   | nil => simp at hl
   | cons v vs =>
    rw [Q5b, Bool.and_eq_true] at hx hy
    rcases hd with hd | hd
    ·exact hd e v (hg 0 t v rfl rfl) hx.1 hy.1
    ·exact hd e vs (by simpa using hl) (fun j t v e1 e2 => hg (j + 1) t v (by simpa using e1) (by simpa using e2)) hx.2 hy.2
  refine ⟨?_, ?_, ?_⟩
  ·rw [List.pairwise_map]
   exact g1.imp fun {x y} hd => split2 x y as as (.inl hd)
  ·cases hm : fj a b with
   | none => exact List.Pairwise.nil
   | some m =>
    simp only
    rw [List.pairwise_map]
    exact ih.imp fun {x y} hd => split2 m m x y (.inr hd)
  ·intro x hx y hy
   obtain ⟨x0, hx0, rfl⟩ := List.mem_map.1 hx
   cases hm : fj a b with
   | none => rw [hm] at hy; cases hy
   | some m =>
    rw [hm] at hy
    simp only at hy
    obtain ⟨y0, _, rfl⟩ := List.mem_map.1 hy
    refine split2 x0 m as y0 (.inl fun e v hv f1 f2 => ?_)
    obtain ⟨q1, q2⟩ := g2 e v hv
    have := q1 x0 hx0 f1
    rw [q2 m hm f2] at this
    cases this
 | _ :: _, [], _, h, _, _ => by simp at h
 | _ :: _, _ :: _, [], _, h, _ => by simp at h
theorem V0b {w : List Q3} {fm : Q2 → Q0 → Q0 → List Q0} {fj : Q0 → Q0 → Option Q0} {t : Q2} {a b y : Q0} (ha : a.op = 4) (hy : y ∈ cmD w fm fj t a b) : y.op = 4 ∧ y.ctor = a.ctor := by
 unfold cmD at hy
 split at hy
 ·obtain ⟨ks, _, rfl⟩ := List.mem_map.1 hy
  exact ⟨rfl, rfl⟩
 ·simp only [List.mem_singleton] at hy
  subst hy
  exact ⟨ha, rfl⟩
theorem W4i {w : List Q3} {d x : Nat} (hM : ∀ (t : Q2) (a b : Q0) (x : Nat), t ∈ tys w → Z7 w x t a → Z7 w d t b → (W2 w d t a b).Pairwise (Disj w t)) {t : Q2} {c c' : Int} {ks ks' : List Q0} (hat : ∀ a ∈ Z5 w t c, a ∈ tys w) (ht : t.data ≠ -1)
  (hl : ks.length = (Z5 w t c).length) (hk : ∀ (j : Nat) (a : Q2) (q : Q0), (Z5 w t c)[j]? = some a → ks[j]? = some q → Z7 w x a q)
  (hl' : ks'.length = (Z5 w t c').length) (hk' : ∀ (j : Nat) (a : Q2) (q : Q0), (Z5 w t c')[j]? = some a → ks'[j]? = some q → Z7 w d a q) :
  (cmD w (W2 w d) (Q05 d) t (Q0.mk 4 c 0 0 0 ks) (Q0.mk 4 c' 0 0 0 ks')).Pairwise (Disj w t) := by
 unfold cmD
 by_cases hc : c = c'
 ·subst hc
  simp only [if_true]
  rw [List.pairwise_map]
  refine (W33 (w := w) (Z5 w t c) ks ks' hl hl' fun j u a b e1 e2 e3 => ⟨hM u a b x (hat u (List.mem_of_getElem? e1)) (hk j u a e1 e2) (hk' j u b e1 e3), fun e v hv => ⟨fun y hy hf => ?_, fun m hm hf => ?_⟩⟩).imp fun {xs ys} hd e v hv h1 h2 => ?_
  ·exact ((Z0r d e u a b x (hk j u a e1 e2) (hk' j u b e1 e3) v hv).2 ⟨y, hy, hf⟩).2
  ·exact ((Z5w d e u a b x (hk j u a e1 e2) (hk' j u b e1 e3) v hv).2 ⟨m, hm, hf⟩).2
  ·rw [Q1e rfl, Bool.and_eq_true, decide_eq_true_eq] at h1 h2
   obtain ⟨e', rfl, _, g2, g3⟩ := Q6y hv ht
   have hcv : c = v.ctor := h1.1
   rw [← hcv] at g2 g3
   exact hd e' v.kids g2 (fun j u x e1 e2 => g3 j u x e1 e2) h1.2 h2.2
 ·simp only [if_neg hc, List.pairwise_cons, List.not_mem_nil, false_implies, implies_true, List.Pairwise.nil, and_self]
theorem X2g {w : List Q3} {t : Q2} {n m n' m' : Int} (h : n' ≤ m') : (Z1o n m n' m').Pairwise (Disj w t) := by
 have hd : Disj w t (Q0.mk 3 0 n (min m (n' - 1)) 0 []) (Q0.mk 3 0 (max n (m' + 1)) m 0 []) := fun e v _ h1 h2 => by
  rw [Q67 rfl, decide_eq_true_eq] at h1 h2
  simp only at h1 h2
  omega
 unfold Z1o
 split <;> split <;> simp [hd]
theorem X99 {w : List Q3} (hw : WW w) (he : WE w) : ∀ (d : Nat) (t : Q2) (a b : Q0) (x : Nat), t ∈ tys w → Z7 w x t a → Z7 w d t b → (W2 w d t a b).Pairwise (Disj w t) := by
 intro d
 induction d with
 | zero => intro t a b x _ _ h; exact h.elim
 | succ d ih =>
  intro t a b x ht ha hb
  cases x with
  | zero => exact ha.elim
  | succ x =>
  rcases hb with rfl | ⟨n', m', rfl, ht', g0, g1, g2⟩ | ⟨c', ks', rfl, ht', hc', hl', hk'⟩
  ·simp [W2]
  ·have e1 : ¬ (3 : Int) = 1 := by decide
   simp only [W2, e1, if_false, if_true]
   split
   ·exact X2g g1
   ·exact X2g g1
  ·have e1 : ¬ (4 : Int) = 1 := by decide
   have e3 : ¬ (4 : Int) = 3 := by decide
   simp only [W2, e1, e3, if_false]
   rcases ha with rfl | ⟨n, m, rfl, ht2, _⟩ | ⟨c, ks, rfl, _, hc, hl, hk⟩
   ·simp only [if_true]
    rw [List.pairwise_flatMap]
    refine ⟨fun c hc => ?_, ?_⟩
    ·exact W4i (x := 1) ih ((hw.ty t ht).at_ c hc) ht' (by simp) (fun j a q ha hq => by
      rw [List.getElem?_map, ha] at hq
      cases hq
      exact Q6j w 0 a) hl' hk'
    ·refine (he.nd t ht).imp fun {c1 c2} hne y hy z hz e v hv f1 f2 => ?_
     obtain ⟨a1, a2⟩ := V0b (a := Q5n w t c1) rfl hy
     obtain ⟨b1, b2⟩ := V0b (a := Q5n w t c2) rfl hz
     rw [Q1e a1, Bool.and_eq_true, decide_eq_true_eq] at f1
     rw [Q1e b1, Bool.and_eq_true, decide_eq_true_eq] at f2
     have h1 : y.ctor = c1 := a2
     have h2 : z.ctor = c2 := b2
     exact hne (by rw [← h1, ← h2, f1.1, f2.1])
   ·exact absurd ht2 ht'
   ·simp only [e1, if_false]
    exact W4i ih ((hw.ty t ht).at_ c hc) ht' hl hk hl' hk'
theorem W8o {w : List Q3} {t : Q2} {a b x y : Q0} (h : Disj w t a b) (hx : ∀ e v, Q0s w e t v → fitP x v = true → fitP a v = true) (hy : ∀ e v, Q0s w e t v → fitP y v = true → fitP b v = true) : Disj w t x y :=
 fun e v hv h1 h2 => h e v hv (hx e v hv h1) (hy e v hv h2)
theorem W1m {w : List Q3} (hw : WW w) (he : WE w) {d x : Nat} {t : Q2} (ht : t ∈ tys w) {b : Q0} (hb : Z7 w d t b) {l : List Q0} (h : ∀ a ∈ l, Z7 w x t a) (hd : l.Pairwise (Disj w t)) : (Q36 w d x t l b).Pairwise (Disj w t) := by
 unfold Q36 Q79
 refine List.Pairwise.filter _ ?_
 rw [List.pairwise_flatMap]
 refine ⟨fun a ha => X99 hw he d t a b x ht (h a ha) hb, ?_⟩
 have hall : ∀ l : List Q0, (∀ a ∈ l, Z7 w x t a) → l.Pairwise (Disj w t) → l.Pairwise (fun a₁ a₂ => ∀ y ∈ W2 w d t a₁ b, ∀ z ∈ W2 w d t a₂ b, Disj w t y z) := by
  intro l
  induction l with
  | nil => intro _ _; exact List.Pairwise.nil
  | cons a l ih =>
   intro h hd
   rw [List.pairwise_cons] at hd ⊢
   refine ⟨fun a2 ha2 y hy z hz => W8o (hd.1 a2 ha2) (fun e v hv hf => ?_) (fun e v hv hf => ?_), ih (fun a ha => h a (by simp [ha])) hd.2⟩
   ·exact ((Z0r d e t a b x (h a (by simp)) hb v hv).2 ⟨y, hy, hf⟩).1
   ·exact ((Z0r d e t a2 b x (h a2 (by simp [ha2])) hb v hv).2 ⟨z, hz, hf⟩).1
 exact hall l h hd
theorem X42 {w : List Q3} (hw : WW w) (he : WE w) {d x : Nat} {t : Q2} (ht : t ∈ tys w) (hx : d + 1 ≤ x) : ∀ (bs l r : List Q0), (∀ b ∈ bs, Z7 w d t b) → (∀ a ∈ l, Z7 w x t a) → l.Pairwise (Disj w t) → Q5q w d x t l bs = some r → r.Pairwise (Disj w t)
 | [], l, r, _, _, hd, e => by simp only [Q5q, Option.some.injEq] at e; subst e; exact hd
 | b :: bs, l, r, hb, h, hd, e => by
  simp only [Q5q] at e
  split at e
  ·cases e
  ·exact X42 hw he ht hx bs _ r (fun b hb' => hb b (by simp [hb'])) (Q7y hx (hb b (by simp)) h) (W1m hw he ht (hb b (by simp)) h hd) e
theorem X1q {w : List Q3} (hw : WW w) (he : WE w) {d x : Nat} {t : Q2} (ht : t ∈ tys w) (hx : d + 1 ≤ x) {l bs r : List Q0} (hb : ∀ b ∈ bs, Z7 w d t b) (h : ∀ a ∈ l, Z7 w x t a) (hd : l.Pairwise (Disj w t)) (e : Q0q w d x t l bs = some r) : r.Pairwise (Disj w t) :=
 X42 hw he ht hx bs _ r hb (fun a ha => h a (List.mem_filter.1 ha).1) (hd.filter _) e
theorem X6v {w : List Q3} (hw : WW w) (he : WE w) {t : Q2} (ht : t ∈ tys w) : ∀ (ps bef r : List Q0), (∀ b ∈ bef, Z7 w 10 t b) → (∀ p ∈ ps, Z7 w 10 t p) → sepP w t bef ps = some r → r.Pairwise (Disj w t)
 | [], _, r, _, _, e => by simp only [sepP, Option.some.injEq] at e; subst e; exact List.Pairwise.nil
 | p :: ps, bef, r, hb, hp, e => by
  simp only [sepP] at e
  cases hm : Q0q w 10 11 t [p] bef with
  | none => rw [hm] at e; simp at e
  | some m =>
   rw [hm] at e
   simp only [Option.bind_some, Option.map_eq_some_iff] at e
   obtain ⟨r2, h2, rfl⟩ := e
   have hp1 : ∀ a ∈ [p], Z7 w 11 t a := fun a ha => by simp only [List.mem_singleton] at ha; rw [ha]; exact Q5u 10 t p (hp p (by simp))
   have hb2 : ∀ b ∈ bef ++ [p], Z7 w 10 t b := fun b hb' => by
    rcases List.mem_append.1 hb' with h | h
    ·exact hb b h
    ·simp only [List.mem_singleton] at h; rw [h]; exact hp p (by simp)
   rw [List.pairwise_append]
   refine ⟨X1q hw he ht (by omega) hb hp1 (List.pairwise_singleton _ _) hm, X6v hw he ht ps _ r2 hb2 (fun q hq => hp q (by simp [hq])) h2, fun y hy z hz e v hv f1 f2 => ?_⟩
   obtain ⟨⟨a, ha, haf⟩, _⟩ := (Q9d hw he ht (by omega) hv hb hp1 hm).1 ⟨y, hy, f1⟩
   simp only [List.mem_singleton] at ha
   subst ha
   have := ((X4v hw he ht hv ps _ r2 hb2 (fun q hq => hp q (by simp [hq])) h2).1 ⟨z, hz, f2⟩).2 a (by simp)
   rw [haf] at this
   cases this
theorem W0j {w : List Q3} {t : Q2} {e : Nat} {C : List Q4} (hC : ∀ v ∈ C, Q0s w e t v) {l : List Q0} (hd : l.Pairwise (Disj w t)) (h : ∀ p ∈ l, ∃ v ∈ C, fitP p v = true) : l.length ≤ C.length := by
 have key : ∀ (l : List Q0), l.Pairwise (Disj w t) → (∀ p ∈ l, ∃ v ∈ C, fitP p v = true) → ∃ js : List Int, js.length = l.length ∧ js.Nodup ∧ ∀ j ∈ js, ∃ k : Nat, j = (k : Int) ∧ ∃ v, C[k]? = some v ∧ ∃ p ∈ l, fitP p v = true := by
  intro l
  induction l with
  | nil => intro _ _; exact ⟨[], rfl, List.nodup_nil, fun j h => by cases h⟩
  | cons p l ih =>
   intro hd h
   rw [List.pairwise_cons] at hd
   obtain ⟨js, h1, h2, h3⟩ := ih hd.2 fun q hq => h q (by simp [hq])
   obtain ⟨v, hv, hf⟩ := h p (by simp)
   obtain ⟨k, hk⟩ := List.mem_iff_getElem?.1 hv
   refine ⟨(k : Int) :: js, by simp [h1], List.nodup_cons.2 ⟨fun hm => ?_, h2⟩, fun j hj => ?_⟩
   ·obtain ⟨k', e1, v', e2, q, hq, hqf⟩ := h3 _ hm
    have : k = k' := by omega
    subst this
    rw [hk] at e2
    cases e2
    exact hd.1 q hq e v (hC v hv) hf hqf
   ·rcases List.mem_cons.1 hj with rfl | hj
    ·exact ⟨k, rfl, v, hk, p, by simp, hf⟩
    ·obtain ⟨k', e1, v', e2, q, hq, hqf⟩ := h3 j hj
     exact ⟨k', e1, v', e2, q, by simp [hq], hqf⟩
 obtain ⟨js, h1, h2, h3⟩ := key l hd h
 rw [← h1]
 refine nodup_range C.length js h2 fun j hj => ?_
 obtain ⟨k, rfl, v, hv, _⟩ := h3 j hj
 have := (List.getElem?_eq_some_iff.1 hv).1
 omega
end Go.Proofs.YtbdkbdafhlcilaaGreat
namespace Go.Proofs.YtbdkbdafhlcilaaGreat
open Go Go.RowKit
def X2x (w : List Q3) : Nat → Q2 → Q4
 | 0, _ => ⟨0, 0, []⟩
 | d + 1, t => if t.data = -1 then ⟨-1, 0, []⟩ else match (Z9 w t).find? (fun c => decide (Q5w w t c = depP w t)) with
  | none => ⟨0, 0, []⟩
  | some c => ⟨c, 0, (Z5 w t c).map (X2x w d)⟩
def Z1p (w : List Q3) (t : Q2) : List Q4 := if t.data = -1 then (List.range 10).map numV else
 ((Z9 w t).filter fun c => (Z5 w t c).all fun a => decide (depP w a ≠ 0)).map fun c => ⟨c, 0, (Z5 w t c).map (X2x w 5)⟩
def Z8c (w : List Q3) (t : Q2) : List Q4 := if t.data = -1 then (List.range 10).map numV else
 (Z9 w t).flatMap fun c => (((Z5 w t c).map (Z1p w)).foldl tupV [[]]).map (mkV c)
def V68 (l : List Nat) : Nat := l.foldl (fun a b => a * max 1 b) 1
def chkR (w : List Q3) : Bool := (tys w).all fun t => (decide (depP w t = 0) || Q2y w 10 t (X2x w 5 t)) && (decide ((Z8c w t).length ≤ 400) && (Z9 w t).all fun c => decide (V68 ((Z5 w t c).map fun a => (Z1p w a).length) ≤ 400))
theorem Y1q : Q0g.all chkR = true := by kernel_rfl
structure WR (w : List Q3) : Prop where
 least : ∀ t ∈ tys w, depP w t ≠ 0 → Q0s w 10 t (X2x w 5 t)
 n2 : ∀ t ∈ tys w, (Z8c w t).length ≤ 400
 n1 : ∀ t ∈ tys w, ∀ c ∈ Z9 w t, V68 ((Z5 w t c).map fun a => (Z1p w a).length) ≤ 400
theorem wr {w : List Q3} (h : w ∈ Q0g) : WR w := by
 have h1 := List.all_eq_true.1 Y1q w h
 simp only [chkR, List.all_eq_true, Bool.and_eq_true, Bool.or_eq_true, decide_eq_true_eq] at h1
 exact ⟨fun t ht h0 => (Z49 10 t _).1 (((h1 t ht).1).resolve_left h0), fun t ht => (h1 t ht).2.1, fun t ht c hc => (h1 t ht).2.2 c hc⟩
def hgt1 (p : Q0) : Prop := p.op = 1 ∨ p.op = 3 ∨ (p.op = 4 ∧ ∀ q ∈ p.kids, q.op = 1)
def hgt2 (p : Q0) : Prop := p.op = 1 ∨ p.op = 3 ∨ (p.op = 4 ∧ ∀ q ∈ p.kids, hgt1 q)
theorem V6s {p : Q0} (h : hgt1 p) : hgt2 p := by
 rcases h with h | h | h
 ·exact .inl h
 ·exact .inr (.inl h)
 ·exact .inr (.inr ⟨h.1, fun q hq => .inl (h.2 q hq)⟩)
theorem Z6v : ∀ (ls : List (List Q4)) (out : List (List Q4)) (o vs : List Q4), o ∈ out → vs.length = ls.length → (∀ (j : Nat) (v : Q4) (l : List Q4), vs[j]? = some v → ls[j]? = some l → v ∈ l) → o ++ vs ∈ ls.foldl tupV out
 | [], out, o, [], ho, _, _ => by simpa using ho
 | l :: ls, out, o, v :: vs, ho, hl, h => by
  rw [List.foldl_cons]
  have := Z6v ls (tupV out l) (o ++ [v]) vs (List.mem_flatMap.2 ⟨o, ho, List.mem_map.2 ⟨v, h 0 v l rfl rfl, rfl⟩⟩) (by simpa using hl) fun j v l h1 h2 => h (j + 1) v l (by simpa using h1) (by simpa using h2)
  simpa using this
 | [], _, _, _ :: _, _, h, _ => by simp at h
 | _ :: _, _, _, [], _, h, _ => by simp at h
theorem V22 {ps : List Q0} : ∀ {vs : List Q4}, ps.length = vs.length → (∀ (j : Nat) (p : Q0) (v : Q4), ps[j]? = some p → vs[j]? = some v → fitP p v = true) → fitL ps vs = true := by
 induction ps with
 | nil => intro vs h _; cases vs with
  | nil => exact Z62
  | cons v vs => simp at h
 | cons p ps ih =>
  intro vs h hf
  cases vs with
  | nil => simp at h
  | cons v vs =>
   rw [Q5b, Bool.and_eq_true]
   exact ⟨hf 0 p v rfl rfl, ih (by simpa using h) fun j p v h1 h2 => hf (j + 1) p v (by simpa using h1) (by simpa using h2)⟩
theorem X0o {w : List Q3} {e : Nat} {t : Q2} {c : Int} {vs : List Q4} (hd : t.data ≠ -1) (hc : c ∈ Z9 w t) (hl : vs.length = (Z5 w t c).length) (h : ∀ (j : Nat) (a : Q2) (x : Q4), (Z5 w t c)[j]? = some a → vs[j]? = some x → Q0s w e a x) : Q0s w (e + 1) t ⟨c, 0, vs⟩ := by
 rw [Q0s, if_neg hd]
 exact ⟨rfl, hc, hl, h⟩
theorem X0b {w : List Q3} {e : Nat} {t : Q2} (hd : t.data = -1) {n : Nat} (hn : n < 10) : Q0s w (e + 1) t (numV n) := by
 rw [Q0s, if_pos hd]
 exact ⟨rfl, by simp only [numV]; omega, by simp only [numV]; omega, rfl⟩
theorem Z94 {w : List Q3} (hw : WW w) (hr : WR w) {t : Q2} (ht : t ∈ tys w) {v : Q4} (hv : v ∈ Z1p w t) : Q0s w 11 t v := by
 unfold Z1p at hv
 split at hv
 ·rename_i hd
  obtain ⟨n, hn, rfl⟩ := List.mem_map.1 hv
  exact X0b hd (List.mem_range.1 hn)
 ·rename_i hd
  obtain ⟨c, hc, rfl⟩ := List.mem_map.1 hv
  obtain ⟨h1, h2⟩ := List.mem_filter.1 hc
  refine X0o hd h1 (by simp) fun j a x ha hx => ?_
  rw [List.getElem?_map, ha] at hx
  simp only [Option.map_some, Option.some.injEq] at hx
  subst hx
  have ham := List.mem_of_getElem? ha
  exact hr.least a ((hw.ty t ht).at_ c h1 a ham) (by simpa using List.all_eq_true.1 h2 a ham)
theorem X8x {w : List Q3} (hw : WW w) (hr : WR w) {t : Q2} (ht : t ∈ tys w) {v : Q4} (hv : v ∈ Z8c w t) : Q0s w 12 t v := by
 unfold Z8c at hv
 split at hv
 ·rename_i hd
  obtain ⟨n, hn, rfl⟩ := List.mem_map.1 hv
  exact X0b hd (List.mem_range.1 hn)
 ·rename_i hd
  obtain ⟨c, hc, hv⟩ := List.mem_flatMap.1 hv
  obtain ⟨ks, hks, rfl⟩ := List.mem_map.1 hv
  obtain ⟨a, b, ha, rfl, hl, hb⟩ := Z0f _ _ _ hks
  simp only [List.mem_singleton] at ha
  subst ha
  simp only [List.length_map] at hl
  refine X0o hd hc (by simpa using hl) fun j u x hu hx => ?_
  exact Z94 hw hr ((hw.ty t ht).at_ c hc u (List.mem_of_getElem? hu)) (hb j x (Z1p w u) (by simpa using hx) (by rw [List.getElem?_map, hu]; rfl))
theorem rep1 {w : List Q3} (hw : WW w) {t : Q2} (ht : t ∈ tys w) {d : Nat} {p : Q0} (hp : Z7 w d t p) (h1 : hgt1 p) (he : V2 w d t p = false) : ∃ v ∈ Z1p w t, fitP p v = true := by
 have hT := hw.ty t ht
 cases d with
 | zero => exact hp.elim
 | succ d =>
 rcases hp with rfl | ⟨n, m, rfl, hd, g0, g1, g2⟩ | ⟨c, ks, rfl, hd, hc, hl, hk⟩
 ·simp only [V2, if_true, decide_eq_false_iff_not] at he
  unfold Z1p
  split
  ·exact ⟨numV 0, List.mem_map_of_mem (List.mem_range.2 (by omega)), Q5p rfl _⟩
  ·rename_i hd
   obtain ⟨k, hk, hm⟩ := hT.dm hd he
   exact ⟨_, List.mem_map_of_mem (List.mem_filter.2 ⟨hk, List.all_eq_true.2 fun a ha => by
    have := (hT.ma k hk (by omega) a ha).1
    simp only [ne_eq, decide_not, Bool.not_eq_true', decide_eq_false_iff_not]; omega⟩), Q5p rfl _⟩
 ·unfold Z1p
  rw [if_pos hd]
  refine ⟨numV n.toNat, List.mem_map_of_mem (List.mem_range.2 (by omega)), ?_⟩
  rw [Q67 rfl, decide_eq_true_eq]
  simp only [numV]
  omega
 ·unfold Z1p
  rw [if_neg hd]
  have hks : ∀ q ∈ ks, q.op = 1 := by
   rcases h1 with h | h | h
   ·simp at h
   ·simp at h
   ·exact h.2
  refine ⟨⟨c, 0, (Z5 w t c).map (X2x w 5)⟩, List.mem_map.2 ⟨c, List.mem_filter.2 ⟨hc, List.all_eq_true.2 fun a ha => ?_⟩, rfl⟩, ?_⟩
  ·obtain ⟨j, hj⟩ := List.mem_iff_getElem?.1 ha
   have hjl := (List.getElem?_eq_some_iff.1 hj).1
   have hq : ks[j]? = some (ks[j]'(by omega)) := by simp
   simp only [ne_eq, decide_not, Bool.not_eq_true', decide_eq_false_iff_not]
   intro h0
   have : V2 w (d + 1) t (Q0.mk 4 c 0 0 0 ks) = true := Q4x.2 ⟨j, a, _, hj, hq, by
    cases d with
    | zero => exact (hk j a _ hj hq).elim
    | succ d => rw [V2, if_pos (hks _ (List.mem_of_getElem? hq))]; simpa using h0⟩
   rw [he] at this
   cases this
  ·rw [Q1e rfl, Bool.and_eq_true, decide_eq_true_eq]
   exact ⟨rfl, V22 (by simp only [List.length_map]; exact hl) fun j q v hq _ => Q5p (hks q (List.mem_of_getElem? hq)) v⟩
theorem rep2 {w : List Q3} (hw : WW w) {t : Q2} (ht : t ∈ tys w) {d : Nat} {p : Q0} (hp : Z7 w d t p) (h2 : hgt2 p) (he : V2 w d t p = false) : ∃ v ∈ Z8c w t, fitP p v = true := by
 have hT := hw.ty t ht
 cases d with
 | zero => exact hp.elim
 | succ d =>
 have ctor : ∀ (d : Nat) (c : Int) (ks : List Q0), t.data ≠ -1 → c ∈ Z9 w t → ks.length = (Z5 w t c).length → (∀ (j : Nat) (a : Q2) (q : Q0), (Z5 w t c)[j]? = some a → ks[j]? = some q → Z7 w d a q ∧ hgt1 q ∧ V2 w d a q = false) → ∃ v ∈ Z8c w t, fitP (Q0.mk 4 c 0 0 0 ks) v = true := fun d c ks hd hc hl hk => by
  have gen : ∀ (ts : List Q2) (ks : List Q0), ks.length = ts.length → (∀ a ∈ ts, a ∈ tys w) → (∀ (j : Nat) (a : Q2) (q : Q0), ts[j]? = some a → ks[j]? = some q → Z7 w d a q ∧ hgt1 q ∧ V2 w d a q = false) →
    ∃ vs : List Q4, vs.length = ts.length ∧ (∀ (j : Nat) (v : Q4) (l : List Q4), vs[j]? = some v → (ts.map (Z1p w))[j]? = some l → v ∈ l) ∧ fitL ks vs = true := by
   intro ts
   induction ts with
   | nil => intro ks hl _ _; exact ⟨[], rfl, fun j v l h => by simp at h, by cases ks with
     | nil => exact Z62
     | cons k ks => simp at hl⟩
   | cons a ts ih =>
    intro ks hl hat hk
    cases ks with
    | nil => simp at hl
    | cons q ks =>
     obtain ⟨vs, e1, e2, e3⟩ := ih ks (by simpa using hl) (fun x hx => hat x (by simp [hx])) fun j a q h1 h2 => hk (j + 1) a q (by simpa using h1) (by simpa using h2)
     obtain ⟨g1, g2, g3⟩ := hk 0 a q rfl rfl
     obtain ⟨v, hv, hf⟩ := rep1 hw (hat a (by simp)) g1 g2 g3
     refine ⟨v :: vs, by simp [e1], fun j x l h1 h2 => ?_, by rw [Q5b, hf, e3]; rfl⟩
     cases j with
     | zero => simp only [List.getElem?_cons_zero, List.map_cons, Option.some.injEq] at h1 h2; subst h1 h2; exact hv
     | succ j => exact e2 j x l (by simpa using h1) (by simpa using h2)
  obtain ⟨vs, e1, e2, e3⟩ := gen _ ks hl (hT.at_ c hc) hk
  refine ⟨mkV c vs, ?_, by rw [Q1e rfl]; simp [mkV, e3]⟩
  unfold Z8c
  rw [if_neg hd]
  refine List.mem_flatMap.2 ⟨c, hc, List.mem_map_of_mem ?_⟩
  have := Z6v ((Z5 w t c).map (Z1p w)) [[]] [] vs (by simp) (by simpa using e1) e2
  simpa using this
 rcases hp with rfl | ⟨n, m, rfl, hd, g0, g1, g2⟩ | ⟨c, ks, rfl, hd, hc, hl, hk⟩
 ·simp only [V2, if_true, decide_eq_false_iff_not] at he
  by_cases hd : t.data = -1
  ·unfold Z8c
   rw [if_pos hd]
   exact ⟨numV 0, List.mem_map_of_mem (List.mem_range.2 (by omega)), Q5p rfl _⟩
  ·obtain ⟨k, hk, hm⟩ := hT.dm hd he
   obtain ⟨v, hv, _⟩ := ctor 1 k ((Z5 w t k).map fun _ => Q0.mk 1 0 0 0 0 []) hd hk (by simp) fun j a q ha hq => by
    rw [List.getElem?_map, ha] at hq
    simp only [Option.map_some, Option.some.injEq] at hq
    subst hq
    refine ⟨Q6j w 0 a, .inl rfl, ?_⟩
    have := (hT.ma k hk (by omega) a (List.mem_of_getElem? ha)).1
    simp only [V2, if_true, decide_eq_false_iff_not]
    omega
   exact ⟨v, hv, Q5p rfl _⟩
 ·unfold Z8c
  rw [if_pos hd]
  refine ⟨numV n.toNat, List.mem_map_of_mem (List.mem_range.2 (by omega)), ?_⟩
  rw [Q67 rfl, decide_eq_true_eq]
  simp only [numV]
  omega
 ·have hks : ∀ q ∈ ks, hgt1 q := by
   rcases h2 with h | h | h
   ·simp at h
   ·simp at h
   ·exact h.2
  refine ctor d c ks hd hc hl fun j a q ha hq => ⟨hk j a q ha hq, hks q (List.mem_of_getElem? hq), ?_⟩
  cases hem : V2 w d a q with
  | false => rfl
  | true =>
   have : V2 w (d + 1) t (Q0.mk 4 c 0 0 0 ks) = true := Q4x.2 ⟨j, a, q, ha, hq, hem⟩
   rw [he] at this
   cases this
theorem Z47 {w : List Q3} (hw : WW w) (hr : WR w) : ∀ (d : Nat) (t : Q2) (p : Q0), t ∈ tys w → Z7 w d t p → V2 w d t p = false → ∃ v, Q0s w (d + 10) t v ∧ fitP p v = true
 | 0, _, _, _, h, _ => h.elim
 | d + 1, t, p, ht, hp, he => by
  rcases hp with rfl | ⟨n, m, rfl, hd, g0, g1, g2⟩ | ⟨c, ks, rfl, hd, hc, hl, hk⟩
  ·simp only [V2, if_true, decide_eq_false_iff_not] at he
   exact ⟨_, Z1f 10 _ t _ (by omega) (hr.least t ht he), Q5p rfl _⟩
  ·refine ⟨numV n.toNat, X0b hd (by omega), ?_⟩
   rw [Q67 rfl, decide_eq_true_eq]
   simp only [numV]
   omega
  ·have hat := (hw.ty t ht).at_ c hc
   have gen : ∀ (ts : List Q2) (ks : List Q0), ks.length = ts.length → (∀ a ∈ ts, a ∈ tys w) → (∀ (j : Nat) (a : Q2) (q : Q0), ts[j]? = some a → ks[j]? = some q → Z7 w d a q ∧ V2 w d a q = false) →
     ∃ vs : List Q4, vs.length = ts.length ∧ (∀ (j : Nat) (a : Q2) (v : Q4), ts[j]? = some a → vs[j]? = some v → Q0s w (d + 10) a v) ∧ fitL ks vs = true := by
    intro ts
    induction ts with
    | nil => intro ks hl _ _; exact ⟨[], rfl, fun j a v h => by simp at h, by cases ks with
      | nil => exact Z62
      | cons k ks => simp at hl⟩
    | cons a ts ih =>
     intro ks hl hat hk
     cases ks with
     | nil => simp at hl
     | cons q ks =>
      obtain ⟨vs, e1, e2, e3⟩ := ih ks (by simpa using hl) (fun x hx => hat x (by simp [hx])) fun j a q h1 h2 => hk (j + 1) a q (by simpa using h1) (by simpa using h2)
      obtain ⟨g1, g3⟩ := hk 0 a q rfl rfl
      obtain ⟨v, hv, hf⟩ := Z47 hw hr d a q (hat a (by simp)) g1 g3
      refine ⟨v :: vs, by simp [e1], fun j b x h1 h2 => ?_, by rw [Q5b, hf, e3]; rfl⟩
      cases j with
      | zero => simp only [List.getElem?_cons_zero, Option.some.injEq] at h1 h2; subst h1 h2; exact hv
      | succ j => exact e2 j b x (by simpa using h1) (by simpa using h2)
   obtain ⟨vs, e1, e2, e3⟩ := gen _ ks hl hat fun j a q ha hq => ⟨hk j a q ha hq, by
    cases hem : V2 w d a q with
    | false => rfl
    | true =>
     have : V2 w (d + 1) t (Q0.mk 4 c 0 0 0 ks) = true := Q4x.2 ⟨j, a, q, ha, hq, hem⟩
     rw [he] at this
     cases this⟩
   refine ⟨⟨c, 0, vs⟩, ?_, by rw [Q1e rfl]; simp [e3]⟩
   have := X0o (e := d + 10) hd hc e1 e2
   rw [show d + 1 + 10 = d + 10 + 1 by omega]
   exact this
end Go.Proofs.YtbdkbdafhlcilaaGreat
namespace Go.Proofs.YtbdkbdafhlcilaaGreat
open Go Go.RowKit
theorem X7d {d : Nat} {a b m : Q0} (ha : a.op = 1) (h : Q05 d a b = some m) : m = b := by
 cases d with
 | zero => simp [Q05] at h
 | succ d => rw [Q05, if_pos ha] at h; cases h; rfl
theorem X2q {w : List Q3} {d : Nat} {t : Q2} {a b : Q0} (hb : b.op = 1) : W2 w d t a b = [] := by
 cases d with
 | zero => rfl
 | succ d => rw [W2, if_pos hb]
theorem V0y {n m n' m' : Int} : ∀ y ∈ Z1o n m n' m', y.op = 3 := fun y hy => by
 unfold Z1o at hy
 rcases List.mem_append.1 hy with h | h <;> split at h <;> simp at h <;> rw [h]
structure Cl (w : List Q3) (d x : Nat) (t : Q2) (P : Q0 → Prop) : Prop where
 mi : ∀ a b, P a → P b → Z7 w x t a → Z7 w d t b → ∀ y ∈ W2 w d t a b, P y
 me : ∀ a b, P a → P b → Z7 w x t a → Z7 w d t b → ∀ m, Q05 d a b = some m → P m
theorem V6n {w : List Q3} {d x : Nat} {ts : List Q2} {as bs : List Q0} {P : Nat → Q0 → Prop} (h1 : as.length = ts.length) (h2 : bs.length = ts.length)
  (h : ∀ (j : Nat) (t : Q2) (a b : Q0), ts[j]? = some t → as[j]? = some a → bs[j]? = some b → P j a ∧ P j b ∧ Z7 w x t a ∧ Z7 w d t b ∧ Cl w d x t (P j)) :
  ∀ ks ∈ kmD (W2 w d) (Q05 d) ts as bs, ks.length = ts.length ∧ ∀ (j : Nat) (q : Q0), ks[j]? = some q → P j q := fun ks hks => by
 obtain ⟨g1, i, hi, g2⟩ := X7g ts as bs h1 h2 ks hks
 refine ⟨g1, fun j q hq => ?_⟩
 have hj := (List.getElem?_eq_some_iff.1 hq).1
 have ht : ts[j]? = some (ts[j]'(by omega)) := by simp
 have ha : as[j]? = some (as[j]'(by omega)) := by simp
 have hb : bs[j]? = some (bs[j]'(by omega)) := by simp
 obtain ⟨p1, p2, p3, p4, p5⟩ := h j _ _ _ ht ha hb
 obtain ⟨q1, q2, q3⟩ := g2 j _ _ _ q ht ha hb hq
 rcases Nat.lt_trichotomy j i with hji | hji | hji
 ·exact p5.me _ _ p1 p2 p3 p4 q (q1 hji)
 ·exact p5.mi _ _ p1 p2 p3 p4 q (q2 hji)
 ·rw [q3 hji]; exact p1
theorem W6v {w : List Q3} {d x : Nat} {ts : List Q2} {as bs ms : List Q0} {P : Nat → Q0 → Prop} (h1 : as.length = ts.length) (h2 : bs.length = ts.length)
  (h : ∀ (j : Nat) (t : Q2) (a b : Q0), ts[j]? = some t → as[j]? = some a → bs[j]? = some b → P j a ∧ P j b ∧ Z7 w x t a ∧ Z7 w d t b ∧ Cl w d x t (P j)) (hm : Q4n (Q05 d) as bs = some ms) :
  ms.length = ts.length ∧ ∀ (j : Nat) (q : Q0), ms[j]? = some q → P j q := by
 obtain ⟨g1, g2⟩ := Z3e as bs ms (by omega) hm
 refine ⟨by omega, fun j q hq => ?_⟩
 have hj := (List.getElem?_eq_some_iff.1 hq).1
 have ht : ts[j]? = some (ts[j]'(by omega)) := by simp
 have ha : as[j]? = some (as[j]'(by omega)) := by simp
 have hb : bs[j]? = some (bs[j]'(by omega)) := by simp
 obtain ⟨p1, p2, p3, p4, p5⟩ := h j _ _ _ ht ha hb
 obtain ⟨m, e1, e2⟩ := g2 j _ _ ha hb
 rw [hq] at e2
 cases e2
 exact p5.me _ _ p1 p2 p3 p4 q e1
def famP (Q : Q0 → Prop) (p : Q0) : Prop := p.op = 1 ∨ p.op = 3 ∨ (p.op = 4 ∧ ∀ q ∈ p.kids, Q q)
theorem V06 {w : List Q3} (hw : WW w) {d x : Nat} (hx1 : 1 ≤ x) {Q : Q0 → Prop} (hq : ∀ p : Q0, p.op = 1 → Q p) (hQ : ∀ t ∈ tys w, Cl w d x t Q) {t : Q2} (ht : t ∈ tys w) : Cl w (d + 1) (x + 1) t (famP Q) := by
 have hT := hw.ty t ht
 have kids : ∀ (c : Int) (ks ks' : List Q0), c ∈ Z9 w t → (∀ q ∈ ks, Q q) → (∀ q ∈ ks', Q q) → ks.length = (Z5 w t c).length → ks'.length = (Z5 w t c).length →
   (∀ (j : Nat) (a : Q2) (q : Q0), (Z5 w t c)[j]? = some a → ks[j]? = some q → Z7 w x a q) → (∀ (j : Nat) (a : Q2) (q : Q0), (Z5 w t c)[j]? = some a → ks'[j]? = some q → Z7 w d a q) →
   ∀ (j : Nat) (u : Q2) (a b : Q0), (Z5 w t c)[j]? = some u → ks[j]? = some a → ks'[j]? = some b → (fun _ => Q) j a ∧ (fun _ => Q) j b ∧ Z7 w x u a ∧ Z7 w d u b ∧ Cl w d x u ((fun _ => Q) j) :=
  fun c ks ks' hc h1 h2 _ _ h5 h6 j u a b e1 e2 e3 => ⟨h1 a (List.mem_of_getElem? e2), h2 b (List.mem_of_getElem? e3), h5 j u a e1 e2, h6 j u b e1 e3, hQ u (hT.at_ c hc u (List.mem_of_getElem? e1))⟩
 have cm : ∀ (x' : Nat) (c c' : Int) (ks ks' : List Q0), x' ≤ x → c ∈ Z9 w t → (∀ q ∈ ks, Q q) → (∀ q ∈ ks', Q q) → ks.length = (Z5 w t c).length → ks'.length = (Z5 w t c').length →
   (∀ (j : Nat) (a : Q2) (q : Q0), (Z5 w t c)[j]? = some a → ks[j]? = some q → Z7 w x' a q) → (∀ (j : Nat) (a : Q2) (q : Q0), (Z5 w t c')[j]? = some a → ks'[j]? = some q → Z7 w d a q) →
   ∀ y ∈ cmD w (W2 w d) (Q05 d) t (Q0.mk 4 c 0 0 0 ks) (Q0.mk 4 c' 0 0 0 ks'), famP Q y := fun x' c c' ks ks' hx' hc h1 h2 h3 h4 h5 h6 y hy => by
  unfold cmD at hy
  by_cases hcc : c = c'
  ·subst hcc
   simp only [if_true] at hy
   obtain ⟨zs, hz, rfl⟩ := List.mem_map.1 hy
   refine .inr (.inr ⟨rfl, fun q hq => ?_⟩)
   obtain ⟨j, hj⟩ := List.mem_iff_getElem?.1 hq
   exact (V6n h3 h4 (kids c ks ks' hc h1 h2 h3 h4 (fun j a q e1 e2 => X53 (h5 j a q e1 e2) hx') h6) zs hz).2 j q hj
  ·simp only [if_neg hcc, List.mem_singleton] at hy
   subst hy
   exact .inr (.inr ⟨rfl, h1⟩)
 refine ⟨fun a b ha hb pa pb y hy => ?_, fun a b ha hb pa pb m hm => ?_⟩
 ·rcases pb with rfl | ⟨n', m', rfl, _⟩ | ⟨c', ks', rfl, hd', hc', hl', hk'⟩
  ·rw [X2q rfl] at hy; cases hy
  ·have e1 : ¬ (3 : Int) = 1 := by decide
   simp only [W2, e1, if_false, if_true] at hy
   refine .inr (.inl ?_)
   split at hy <;> exact V0y y hy
  ·have e1 : ¬ (4 : Int) = 1 := by decide
   have e3 : ¬ (4 : Int) = 3 := by decide
   have hbk : ∀ q ∈ ks', Q q := by
    rcases hb with h | h | h
    ·simp at h
    ·simp at h
    ·exact h.2
   simp only [W2, e1, e3, if_false] at hy
   rcases pa with rfl | ⟨n, m, rfl, hd, _⟩ | ⟨c, ks, rfl, hd, hc, hl, hk⟩
   ·simp only [if_true, List.mem_flatMap] at hy
    obtain ⟨c, hc, hy⟩ := hy
    unfold Q5n at hy
    exact cm 1 c c' _ ks' hx1 hc (fun q hq' => by obtain ⟨_, _, rfl⟩ := List.mem_map.1 hq'; exact hq _ rfl) hbk (by simp) hl' (fun j a q ha hq' => by
      rw [List.getElem?_map, ha] at hq'
      cases hq'
      exact Q6j w 0 a) hk' y hy
   ·exact absurd hd hd'
   ·have hak : ∀ q ∈ ks, Q q := by
     rcases ha with h | h | h
     ·simp at h
     ·simp at h
     ·exact h.2
    simp only [e1, if_false] at hy
    exact cm x c c' ks ks' (Nat.le_refl _) hc hak hbk hl hl' hk hk' y hy
 ·rcases pa with rfl | ⟨n, m, rfl, hd, _⟩ | ⟨c, ks, rfl, hd, hc, hl, hk⟩
  ·rw [X7d rfl hm]; exact hb
  ·rcases pb with rfl | ⟨n', m', rfl, _⟩ | ⟨c', ks', rfl, hd', _⟩
   ·simp [Q05] at hm; subst hm; exact .inr (.inl rfl)
   ·simp [Q05] at hm; obtain ⟨_, rfl⟩ := hm; exact .inr (.inl rfl)
   ·exact absurd hd hd'
  ·rcases pb with rfl | ⟨n', m', rfl, hd', _⟩ | ⟨c', ks', rfl, hd', hc', hl', hk'⟩
   ·simp [Q05] at hm; subst hm; exact ha
   ·exact absurd hd' hd
   ·have hak : ∀ q ∈ ks, Q q := by
     rcases ha with h | h | h
     ·simp at h
     ·simp at h
     ·exact h.2
    have hbk : ∀ q ∈ ks', Q q := by
     rcases hb with h | h | h
     ·simp at h
     ·simp at h
     ·exact h.2
    simp only [Q05] at hm
    simp at hm
    obtain ⟨rfl, zs, hz, rfl⟩ := hm
    refine .inr (.inr ⟨rfl, fun q hq' => ?_⟩)
    obtain ⟨j, hj⟩ := List.mem_iff_getElem?.1 hq'
    exact (W6v hl hl' (kids c ks ks' hc hak hbk hl hl' hk hk') hz).2 j q hj
theorem V7y {w : List Q3} (d x : Nat) (t : Q2) : Cl w d x t (fun p => p.op = 1) :=
 ⟨fun a b _ hb _ _ y hy => (by rw [X2q hb] at hy; cases hy), fun a b ha hb _ _ m hm => by rw [X7d ha hm]; exact hb⟩
theorem V7x {w : List Q3} (hw : WW w) {d x : Nat} (hx1 : 1 ≤ x) {t : Q2} (ht : t ∈ tys w) : Cl w (d + 1) (x + 1) t hgt1 := V06 hw hx1 (fun _ h => h) (fun t _ => V7y d x t) ht
theorem Y1p {w : List Q3} (hw : WW w) {d x : Nat} (hx1 : 1 ≤ x) {t : Q2} (ht : t ∈ tys w) : Cl w (d + 2) (x + 2) t hgt2 := V06 hw (by omega) (fun _ h => .inl h) (fun t ht => V7x hw hx1 ht) ht
theorem Z9a {f : Q0 → Q0 → Option Q0} : ∀ (as : List Q0), (∀ a ∈ as, f a a = some a) → Q4n f as as = some as
 | [], _ => rfl
 | a :: as, h => by
  simp only [Q4n]
  rw [h a (by simp), Z9a as fun x hx => h x (by simp [hx])]
  rfl
theorem X2s {w : List Q3} : ∀ (d : Nat) (t : Q2) (a : Q0), Z7 w d t a → Q05 d a a = some a
 | 0, _, _, h => h.elim
 | d + 1, t, a, h => by
  rcases h with rfl | ⟨n, m, rfl, hd, g0, g1, g2⟩ | ⟨c, ks, rfl, hd, hc, hl, hk⟩
  ·simp [Q05]
  ·have e1 : ¬ (3 : Int) = 1 := by decide
   simp only [Q05, e1, if_false, if_true]
   rw [if_pos (by omega)]
   congr 2 <;> omega
  ·have e1 : ¬ (4 : Int) = 1 := by decide
   have e3 : ¬ (4 : Int) = 3 := by decide
   simp only [Q05, e1, e3, if_false, if_true]
   rw [Z9a ks fun q hq => by
    obtain ⟨j, hj⟩ := List.mem_iff_getElem?.1 hq
    have hjl := (List.getElem?_eq_some_iff.1 hj).1
    have ha : (Z5 w t c)[j]? = some ((Z5 w t c)[j]'(by omega)) := by simp
    exact X2s d _ q (hk j _ q ha hj)]
   rfl
theorem W32 {fm : Q2 → Q0 → Q0 → List Q0} {fj : Q0 → Q0 → Option Q0} : ∀ (ts : List Q2) (as : List Q0), (∀ (j : Nat) (t : Q2) (a : Q0), ts[j]? = some t → as[j]? = some a → fm t a a = []) → kmD fm fj ts as as = []
 | [], _, _ => by simp [kmD]
 | _ :: _, [], _ => by simp [kmD]
 | t :: ts, a :: as, h => by
  simp only [kmD]
  rw [h 0 t a rfl rfl, W32 ts as fun j t a h1 h2 => h (j + 1) t a (by simpa using h1) (by simpa using h2)]
  cases fj a a <;> simp
theorem Z98 {w : List Q3} : ∀ (d : Nat) (t : Q2) (a : Q0), Z7 w d t a → W2 w d t a a = []
 | 0, _, _, h => h.elim
 | d + 1, t, a, h => by
  rcases h with rfl | ⟨n, m, rfl, hd, g0, g1, g2⟩ | ⟨c, ks, rfl, hd, hc, hl, hk⟩
  ·simp [W2]
  ·have e1 : ¬ (3 : Int) = 1 := by decide
   simp only [W2, e1, if_false, if_true]
   unfold Z1o
   rw [if_neg (by omega), if_neg (by omega)]
   rfl
  ·have e1 : ¬ (4 : Int) = 1 := by decide
   have e3 : ¬ (4 : Int) = 3 := by decide
   simp only [W2, e1, e3, if_false]
   unfold cmD
   simp only [if_true]
   rw [W32 _ ks fun j u q h1 h2 => Z98 d u q (hk j u q h1 h2)]
   rfl
theorem V7w {w : List Q3} {d x : Nat} {t : Q2} (α : Q0) : Cl w d x t (fun p => p = α) :=
 ⟨fun a b ha hb _ pb y hy => (by subst ha; subst hb; rw [Z98 d t _ pb] at hy; cases hy), fun a b ha hb _ pb m hm => by subst ha; subst hb; rw [X2s d t _ pb] at hm; cases hm; rfl⟩
structure Fam (w : List Q3) (t : Q2) (P : Q0 → Prop) : Prop where
 mi : ∀ a b, P a → P b → Z7 w 11 t a → Z7 w 10 t b → ∀ y ∈ W2 w 10 t a b, P y
 rep : ∃ (C : List Q4) (e : Nat), C.length ≤ 400 ∧ (∀ v ∈ C, Q0s w e t v) ∧ ∀ p, P p → Z7 w 11 t p → V2 w 11 t p = false → ∃ v ∈ C, fitP p v = true
theorem V6x {w : List Q3} (hw : WW w) (hr : WR w) {t : Q2} (ht : t ∈ tys w) : Fam w t hgt2 :=
 ⟨(Y1p hw (d := 8) (x := 9) (by omega) ht).mi, Z8c w t, 12, hr.n2 t ht, fun v hv => X8x hw hr ht hv, fun p h1 h2 h3 => rep2 hw ht h2 h1 h3⟩
def oneP (w : List Q3) (t : Q2) (c : Int) (K : Nat → Option Q0) (p : Q0) : Prop := ∃ ks, p = Q0.mk 4 c 0 0 0 ks ∧ ks.length = (Z5 w t c).length ∧ ∀ (j : Nat) (q : Q0), ks[j]? = some q → match K j with
 | none => hgt1 q
 | some α => q = α
theorem X91 (ns : List Nat) : ∀ a b, a ≤ b → ns.foldl (fun a b => a * max 1 b) a ≤ ns.foldl (fun a b => a * max 1 b) b := by
 induction ns with
 | nil => intro a b h; exact h
 | cons n ns ih => intro a b h; rw [List.foldl_cons, List.foldl_cons]; exact ih _ _ (Nat.mul_le_mul_right _ h)
theorem Z68 : ∀ (ls : List (List Q4)) (ns : List Nat) (out : List (List Q4)), ls.length = ns.length → (∀ (j : Nat) (l : List Q4) (n : Nat), ls[j]? = some l → ns[j]? = some n → l.length ≤ max 1 n) → (ls.foldl tupV out).length ≤ ns.foldl (fun a b => a * max 1 b) out.length
 | [], [], _, _, _ => Nat.le_refl _
 | l :: ls, n :: ns, out, h, hb => by
  rw [List.foldl_cons, List.foldl_cons]
  refine Nat.le_trans (Z68 ls ns (tupV out l) (by simpa using h) fun j l n h1 h2 => hb (j + 1) l n (by simpa using h1) (by simpa using h2)) (X91 ns _ _ ?_)
  rw [Z2s]
  exact Nat.mul_le_mul_left _ (hb 0 l n rfl rfl)
 | [], _ :: _, _, h, _ => by simp at h
 | _ :: _, [], _, h, _ => by simp at h
theorem V23 {w : List Q3} (hw : WW w) (hr : WR w) {t : Q2} (ht : t ∈ tys w) {c : Int} (hd : t.data ≠ -1) (hc : c ∈ Z9 w t) (K : Nat → Option Q0) : Fam w t (oneP w t c K) := by
 have hT := hw.ty t ht
 refine ⟨fun a b ha hb pa pb y hy => ?_, ?_⟩
 ·obtain ⟨ks, rfl, hl, hk⟩ := ha
  obtain ⟨ks', rfl, hl', hk'⟩ := hb
  have e1 : ¬ (4 : Int) = 1 := by decide
  have e3 : ¬ (4 : Int) = 3 := by decide
  simp only [W2, e1, e3, if_false] at hy
  unfold cmD at hy
  simp only [if_true] at hy
  obtain ⟨zs, hz, rfl⟩ := List.mem_map.1 hy
  have pk : ∀ (j : Nat) (u : Q2) (q : Q0), (Z5 w t c)[j]? = some u → ks[j]? = some q → Z7 w 10 u q := by
   rcases pa with h | ⟨_, _, h, _⟩ | ⟨c2, ks2, h, _, _, _, h4⟩
   ·cases h
   ·cases h
   ·cases h; exact h4
  have pk' : ∀ (j : Nat) (u : Q2) (q : Q0), (Z5 w t c)[j]? = some u → ks'[j]? = some q → Z7 w 9 u q := by
   rcases pb with h | ⟨_, _, h, _⟩ | ⟨c2, ks2, h, _, _, _, h4⟩
   ·cases h
   ·cases h
   ·cases h; exact h4
  have := V6n (w := w) (d := 9) (x := 10) (P := fun j q => match K j with
   | none => hgt1 q
   | some α => q = α) hl hl' (fun j u a b e1 e2 e3 => ⟨hk j a e2, hk' j b e3, pk j u a e1 e2, pk' j u b e1 e3, by
    cases K j with
    | none => exact V7x hw (d := 8) (x := 9) (by omega) (hT.at_ c hc u (List.mem_of_getElem? e1))
    | some α => exact V7w α⟩) zs hz
  exact ⟨zs, rfl, this.1, this.2⟩
 ·have gen : ∀ (ts : List Q2) (K : Nat → Option Q0), (∀ a ∈ ts, a ∈ tys w) → ∃ ls : List (List Q4), ls.length = ts.length ∧ (∀ (j : Nat) (u : Q2) (l : List Q4), ts[j]? = some u → ls[j]? = some l → l.length ≤ max 1 (Z1p w u).length ∧ (∀ v ∈ l, Q0s w 20 u v) ∧
    ∀ q, (match K j with | none => hgt1 q | some α => q = α) → Z7 w 10 u q → V2 w 10 u q = false → ∃ v ∈ l, fitP q v = true) := by
   intro ts
   induction ts with
   | nil => intro K _; exact ⟨[], rfl, fun j u l h => by simp at h⟩
   | cons a ts ih =>
    intro K hat
    obtain ⟨ls, e1, e2⟩ := ih (fun j => K (j + 1)) fun x hx => hat x (by simp [hx])
    have hat0 := hat a (by simp)
    have hex : ∃ l : List Q4, l.length ≤ max 1 (Z1p w a).length ∧ (∀ v ∈ l, Q0s w 20 a v) ∧ ∀ q, (match K 0 with | none => hgt1 q | some α => q = α) → Z7 w 10 a q → V2 w 10 a q = false → ∃ v ∈ l, fitP q v = true := by
     cases hK : K 0 with
     | none => exact ⟨Z1p w a, by omega, fun v hv => Z1f 11 20 a v (by omega) (Z94 hw hr hat0 hv), fun q h1 h2 h3 => rep1 hw hat0 h2 h1 h3⟩
     | some α =>
      by_cases hα : Z7 w 10 a α ∧ V2 w 10 a α = false
      ·obtain ⟨v, hv, hf⟩ := Z47 hw hr 10 a α hat0 hα.1 hα.2
       exact ⟨[v], by simp only [List.length_singleton]; omega, fun x hx => by simp only [List.mem_singleton] at hx; rw [hx]; exact hv, fun q h1 _ _ => ⟨v, by simp, by rw [show q = α from h1]; exact hf⟩⟩
      ·exact ⟨[], by simp, fun v hv => by (cases hv), fun q h1 h2 h3 => absurd (by rw [show q = α from h1] at h2 h3; exact ⟨h2, h3⟩) hα⟩
    obtain ⟨l, g1, g2, g3⟩ := hex
    refine ⟨l :: ls, by simp [e1], fun j u m h1 h2 => ?_⟩
    cases j with
    | zero => simp only [List.getElem?_cons_zero, Option.some.injEq] at h1 h2; subst h1 h2; exact ⟨g1, g2, g3⟩
    | succ j => exact e2 j u m (by simpa using h1) (by simpa using h2)
  obtain ⟨ls, e1, e2⟩ := gen (Z5 w t c) K (hT.at_ c hc)
  refine ⟨(ls.foldl tupV [[]]).map (mkV c), 21, ?_, fun v hv => ?_, fun p hp pp hem => ?_⟩
  ·rw [List.length_map]
   refine Nat.le_trans (Z68 ls ((Z5 w t c).map fun a => (Z1p w a).length) [[]] (by simp [e1]) fun j l n h1 h2 => ?_) (hr.n1 t ht c hc)
   rw [List.getElem?_map, Option.map_eq_some_iff] at h2
   obtain ⟨u, hu, rfl⟩ := h2
   exact (e2 j u l hu h1).1
  ·obtain ⟨ks, hks, rfl⟩ := List.mem_map.1 hv
   obtain ⟨a, b, ha, rfl, hl, hb⟩ := Z0f _ _ _ hks
   simp only [List.mem_singleton] at ha
   subst ha
   refine X0o hd hc (by simp; omega) fun j u x hu hx => ?_
   have hjl := (List.getElem?_eq_some_iff.1 hu).1
   have hlj : ls[j]? = some (ls[j]'(by omega)) := by simp
   exact (e2 j u _ hu hlj).2.1 x (hb j x _ (by simpa using hx) hlj)
  ·obtain ⟨ks, rfl, hl, hk⟩ := hp
   have pk : ∀ (j : Nat) (u : Q2) (q : Q0), (Z5 w t c)[j]? = some u → ks[j]? = some q → Z7 w 10 u q := by
    rcases pp with h | ⟨_, _, h, _⟩ | ⟨c2, ks2, h, _, _, _, h4⟩
    ·cases h
    ·cases h
    ·cases h; exact h4
   have gen2 : ∀ (ts : List Q2) (ls : List (List Q4)) (ks : List Q0), ls.length = ts.length → ks.length = ts.length → (∀ (j : Nat) (u : Q2) (l : List Q4) (q : Q0), ts[j]? = some u → ls[j]? = some l → ks[j]? = some q → ∃ v ∈ l, fitP q v = true) →
     ∃ vs : List Q4, vs.length = ls.length ∧ (∀ (j : Nat) (v : Q4) (l : List Q4), vs[j]? = some v → ls[j]? = some l → v ∈ l) ∧ fitL ks vs = true := by
    intro ts
    induction ts with
    | nil => intro ls ks h1 h2 _; exact ⟨[], by simp at h1; simp [h1], fun j v l h => by simp at h, by
      simp at h2; rw [h2]; exact Z62⟩
    | cons u ts ih =>
     intro ls ks h1 h2 h
     cases ls with
     | nil => simp at h1
     | cons l ls =>
      cases ks with
      | nil => simp at h2
      | cons q ks =>
       obtain ⟨vs, g1, g2, g3⟩ := ih ls ks (by simpa using h1) (by simpa using h2) fun j u l q a1 a2 a3 => h (j + 1) u l q (by simpa using a1) (by simpa using a2) (by simpa using a3)
       obtain ⟨v, hv, hf⟩ := h 0 u l q rfl rfl rfl
       refine ⟨v :: vs, by simp [g1], fun j x m a1 a2 => ?_, by rw [Q5b, hf, g3]; rfl⟩
       cases j with
       | zero => simp only [List.getElem?_cons_zero, Option.some.injEq] at a1 a2; subst a1 a2; exact hv
       | succ j => exact g2 j x m (by simpa using a1) (by simpa using a2)
   obtain ⟨vs, g1, g2, g3⟩ := gen2 (Z5 w t c) ls ks e1 hl fun j u l q a1 a2 a3 => (e2 j u l a1 a2).2.2 q (hk j q a3) (pk j u q a1 a3) (by
    cases hem2 : V2 w 10 u q with
    | false => rfl
    | true =>
     have : V2 w 11 t (Q0.mk 4 c 0 0 0 ks) = true := Q4x.2 ⟨j, u, q, a1, a3, hem2⟩
     rw [hem] at this
     cases this)
   refine ⟨mkV c vs, List.mem_map_of_mem ?_, by rw [Q1e rfl]; simp [mkV, g3]⟩
   have := Z6v ls [[]] [] vs (by simp) g1 g2
   simpa using this
theorem X8i {w : List Q3} {t : Q2} {P : Q0 → Prop} (hF : Fam w t P) : ∀ (bs l r : List Q0), (∀ b ∈ bs, P b ∧ Z7 w 10 t b) → (∀ a ∈ l, P a ∧ Z7 w 11 t a ∧ V2 w 11 t a = false) → Q5q w 10 11 t l bs = some r → ∀ y ∈ r, P y ∧ Z7 w 11 t y ∧ V2 w 11 t y = false
 | [], l, r, _, h, e => by simp only [Q5q, Option.some.injEq] at e; subst e; exact h
 | b :: bs, l, r, hb, h, e => by
  simp only [Q5q] at e
  split at e
  ·cases e
  ·refine X8i hF bs _ r (fun b hb' => hb b (by simp [hb'])) (fun y hy => ?_) e
   have hp := Q7y (d := 10) (x := 11) (by omega) (hb b (by simp)).2 (fun a ha => (h a ha).2.1) y hy
   unfold Q36 Q79 at hy
   obtain ⟨h1, h2⟩ := List.mem_filter.1 hy
   obtain ⟨a, ha, hya⟩ := List.mem_flatMap.1 h1
   exact ⟨hF.mi a b (h a ha).1 (hb b (by simp)).1 (h a ha).2.1 (hb b (by simp)).2 y hya, hp, by simpa using h2⟩
theorem W1z {w : List Q3} {t : Q2} {P : Q0 → Prop} (hF : Fam w t P) : ∀ (ps bef r : List Q0), (∀ b ∈ bef, P b ∧ Z7 w 10 t b) → (∀ p ∈ ps, P p ∧ Z7 w 10 t p) → sepP w t bef ps = some r → ∀ y ∈ r, P y ∧ Z7 w 11 t y ∧ V2 w 11 t y = false
 | [], _, r, _, _, e => by simp only [sepP, Option.some.injEq] at e; subst e; simp
 | p :: ps, bef, r, hb, hp, e => by
  simp only [sepP] at e
  cases hm : Q0q w 10 11 t [p] bef with
  | none => rw [hm] at e; simp at e
  | some m =>
   rw [hm] at e
   simp only [Option.bind_some, Option.map_eq_some_iff] at e
   obtain ⟨r2, h2, rfl⟩ := e
   intro y hy
   rcases List.mem_append.1 hy with hy | hy
   ·refine X8i hF bef _ m hb (fun a ha => ?_) hm y hy
    obtain ⟨h3, h4⟩ := List.mem_filter.1 ha
    simp only [List.mem_singleton] at h3
    subst h3
    exact ⟨(hp a (by simp)).1, Q5u 10 t a (hp a (by simp)).2, by simpa using h4⟩
   ·exact W1z hF ps (bef ++ [p]) r2 (fun b hb' => by
     rcases List.mem_append.1 hb' with h | h
     ·exact hb b h
     ·simp only [List.mem_singleton] at h; rw [h]; exact hp p (by simp)) (fun q hq => hp q (by simp [hq])) h2 y hy
theorem V0w {w : List Q3} (hw : WW w) (he : WE w) {t : Q2} (ht : t ∈ tys w) {P : Q0 → Prop} (hF : Fam w t P) {ps r : List Q0} (hp : ∀ p ∈ ps, P p ∧ Z7 w 10 t p) (h : sepP w t [] ps = some r) : r.length ≤ 400 := by
 obtain ⟨C, e, h1, h2, h3⟩ := hF.rep
 have h4 := W1z hF ps [] r (by simp) hp h
 exact Nat.le_trans (W0j h2 (X6v hw he ht ps [] r (by simp) (fun p hp' => (hp p hp').2) h) fun p hp' => h3 p (h4 p hp').1 (h4 p hp').2.1 (h4 p hp').2.2) h1
end Go.Proofs.YtbdkbdafhlcilaaGreat
namespace Go.Proofs.YtbdkbdafhlcilaaGreat
open Go Go.RowKit
theorem W1k : ∀ (ls : List (List Q0)) (out : List (List Q0)) (ks : List Q0), ks ∈ ls.foldl tupD out →
  ∃ a b, a ∈ out ∧ ks = a ++ b ∧ b.length = ls.length ∧ ∀ (i : Nat) (q : Q0) (l : List Q0), b[i]? = some q → ls[i]? = some l → q ∈ l
 | [], out, ks, h => ⟨ks, [], by simpa using h, by simp, rfl, by simp⟩
 | l :: ls, out, ks, h => by
  rw [List.foldl_cons] at h
  obtain ⟨a, b, ha, rfl, hl, hb⟩ := W1k ls (tupD out l) ks h
  simp only [tupD, List.mem_flatMap, List.mem_map] at ha
  obtain ⟨a0, h0, c, hc, rfl⟩ := ha
  refine ⟨a0, c :: b, h0, by simp, by simp [hl], fun i q m h1 h2 => ?_⟩
  cases i with
  | zero => simp at h1 h2; subst h1 h2; exact hc
  | succ i => exact hb i q m (by simpa using h1) (by simpa using h2)
theorem Q7z {d : Nat} {p q : Q0} (h : q ∈ Z3 (d + 1) p) : (p.op = 5 ∧ ∃ x ∈ p.kids, q ∈ Z3 d x) ∨
  (p.op ≠ 5 ∧ ∃ ks, q = Q6t p ks ∧ ks.length = p.kids.length ∧ ∀ (i : Nat) (y x : Q0), ks[i]? = some y → p.kids[i]? = some x → y ∈ Z3 d x) := by
 simp only [Z3] at h
 split at h
 ·rename_i h5
  obtain ⟨x, hx, hq⟩ := List.mem_flatMap.1 h
  exact .inl ⟨h5, x, hx, hq⟩
 ·rename_i h5
  obtain ⟨ks, hks, rfl⟩ := List.mem_map.1 h
  obtain ⟨a, b, ha, rfl, hl, hb⟩ := W1k _ _ ks hks
  simp only [List.mem_singleton] at ha
  subst ha
  refine .inr ⟨h5, b, by simp, by simpa using hl, fun i y x hy hx => ?_⟩
  exact hb i y (Z3 d x) hy (by rw [List.getElem?_map, hx]; rfl)
end Go.Proofs.YtbdkbdafhlcilaaGreat
namespace Go.Proofs.YtbdkbdafhlcilaaGreat
open Go Go.RowKit
def lvB : Nat → Q0 → Prop
 | 0, p => p.op = 1
 | m + 1, p => p.op = 1 ∨ p.op = 3 ∨ ((p.op = 4 ∨ p.op = 5) ∧ ∀ q ∈ p.kids, lvB m q)
theorem X2v {m : Nat} {p : Q0} (h : p.op = 1) : lvB m p := by
 cases m with
 | zero => exact h
 | succ m => exact .inl h
theorem Z6z : ∀ {m : Nat} {p : Q0}, lvB m p → lvB (m + 1) p
 | 0, _, h => .inl h
 | m + 1, _, h => by
  rcases h with h | h | ⟨h, k⟩
  ·exact .inl h
  ·exact .inr (.inl h)
  ·exact .inr (.inr ⟨h, fun q hq => Z6z (k q hq)⟩)
theorem Q8f : ∀ (D : Nat) {m : Nat} {p : Q0}, lvB m p → lvB m (X7 D p)
 | 0, _, _, h => h
 | D + 1, m, p, h => by
  have hop : p.op ≠ 2 ∧ p.op ≠ 6 := by
   cases m with
   | zero => have : p.op = 1 := h; omega
   | succ m => rcases h with h | h | ⟨h | h, _⟩ <;> omega
  rw [X7, if_neg hop.1, if_neg (fun hh => hop.2 hh.1)]
  cases m with
  | zero => exact h
  | succ m =>
   rcases h with h | h | ⟨h, k⟩
   ·exact .inl h
   ·exact .inr (.inl h)
   ·refine .inr (.inr ⟨h, fun q hq => ?_⟩)
    obtain ⟨x, hx, rfl⟩ := List.mem_map.1 hq
    exact Q8f D (k x hx)
theorem Z2w {d : Nat} {q : Q0} (h : q ∈ Z3 d (Q0.mk 1 0 0 0 0 [])) : q = Q0.mk 1 0 0 0 0 [] := by
 cases d with
 | zero => simp [Z3] at h
 | succ d => simpa [Z3, Q6t] using h
theorem X16 {w : List Q3} {d : Nat} {t : Q2} {p : Q0} (h : altD w d t p) (h1 : p.op = 1) : p = Q0.mk 1 0 0 0 0 [] := by
 cases d with
 | zero => exact h.elim
 | succ d =>
  rcases h with h | ⟨n, m, rfl, _⟩ | ⟨c, ks, rfl, _⟩ | ⟨a, b, rfl, _⟩
  ·exact h
  ·simp at h1
  ·simp at h1
  ·simp at h1
def oneS (d : Nat) (p : Q0) : Prop := ∃ α, ∀ q ∈ Z3 d p, q = α
theorem X2o {d : Nat} {p : Q0} (h5 : p.op ≠ 5) (h : ∀ x ∈ p.kids, oneS d x) : oneS (d + 1) p := by
 have gen : ∀ ks : List Q0, (∀ x ∈ ks, oneS d x) → ∃ as : List Q0, as.length = ks.length ∧ ∀ (i : Nat) (x a y : Q0), ks[i]? = some x → as[i]? = some a → y ∈ Z3 d x → y = a := by
  intro ks
  induction ks with
  | nil => intro _; exact ⟨[], rfl, fun i x a y h => by simp at h⟩
  | cons k ks ih =>
   intro h
   obtain ⟨as, e1, e2⟩ := ih fun x hx => h x (by simp [hx])
   obtain ⟨α, hα⟩ := h k (by simp)
   refine ⟨α :: as, by simp [e1], fun i x a y h1 h2 h3 => ?_⟩
   cases i with
   | zero => simp only [List.getElem?_cons_zero, Option.some.injEq] at h1 h2; subst h1 h2; exact hα y h3
   | succ i => exact e2 i x a y (by simpa using h1) (by simpa using h2) h3
 obtain ⟨as, e1, e2⟩ := gen p.kids h
 refine ⟨Q6t p as, fun q hq => ?_⟩
 rcases Q7z hq with ⟨h, _⟩ | ⟨_, ks, rfl, hl, hk⟩
 ·exact absurd h h5
 ·congr 1
  refine List.ext_getElem? fun i => ?_
  by_cases hi : i < ks.length
  ·have h1 : ks[i]? = some (ks[i]) := List.getElem?_eq_getElem hi
   have h2 : p.kids[i]? = some (p.kids[i]'(by omega)) := List.getElem?_eq_getElem (by omega)
   have h3 : as[i]? = some (as[i]'(by omega)) := List.getElem?_eq_getElem (by omega)
   rw [h1, h3, e2 i _ _ _ h2 h3 (hk i _ _ h1 h2)]
  ·rw [List.getElem?_eq_none (by omega), List.getElem?_eq_none (by omega)]
theorem Q7r {w : List Q3} {d : Nat} {t : Q2} {p x : Q0} (h : altD w (d + 1) t p) (hx : x ∈ p.kids) : ∃ u, altD w d u x := by
 rcases h with rfl | ⟨n, m, rfl, _⟩ | ⟨c, ks, rfl, _, _, hl, hk⟩ | ⟨a, b, rfl, h1, h2⟩
 ·cases hx
 ·cases hx
 ·obtain ⟨j, hj⟩ := List.mem_iff_getElem?.1 hx
  have hjl := (List.getElem?_eq_some_iff.1 hj).1
  simp only at hjl hj
  have ha : (Z5 w t c)[j]? = some ((Z5 w t c)[j]'(by omega)) := by simp
  exact ⟨_, hk j _ x ha hj⟩
 ·simp only [List.mem_cons, List.not_mem_nil, or_false] at hx
  rcases hx with rfl | rfl
  ·exact ⟨t, h1⟩
  ·exact ⟨t, h2⟩
theorem Z65 {w : List Q3} {d : Nat} {t : Q2} {p : Q0} (h : altD w d t p) (h4 : p.op ≠ 4) (h5 : p.op ≠ 5) : p.kids = [] := by
 cases d with
 | zero => exact h.elim
 | succ d =>
  rcases h with rfl | ⟨n, m, rfl, _⟩ | ⟨c, ks, rfl, _⟩ | ⟨a, b, rfl, _⟩
  ·rfl
  ·rfl
  ·simp at h4
  ·simp at h5
theorem W2z {w : List Q3} {d : Nat} {t : Q2} {p : Q0} (h : altD w d t p) (l : lvB 1 p) : ∀ q ∈ Z3 d p, hgt1 q := fun q hq => by
 cases d with
 | zero => exact h.elim
 | succ d =>
 rcases Q7z hq with ⟨h5, x, hx, hqx⟩ | ⟨h5, ks, rfl, hl, hk⟩
 ·rcases l with l | l | ⟨_, l⟩
  ·omega
  ·omega
  ·obtain ⟨u, hu⟩ := Q7r h hx
   rw [X16 hu (l x hx)] at hqx
   rw [Z2w hqx]
   exact .inl rfl
 ·rcases l with l | l | ⟨l | l, k⟩
  ·exact .inl l
  ·exact .inr (.inl l)
  ·refine .inr (.inr ⟨l, fun y hy => ?_⟩)
   obtain ⟨i, hi⟩ := List.mem_iff_getElem?.1 hy
   simp only [Q6t] at hi
   have hil := (List.getElem?_eq_some_iff.1 hi).1
   have h2 : p.kids[i]? = some (p.kids[i]'(by omega)) := List.getElem?_eq_getElem (by omega)
   have hxm := List.mem_of_getElem? h2
   obtain ⟨u, hu⟩ := Q7r h hxm
   have := hk i _ _ hi h2
   rw [X16 hu (k _ hxm)] at this
   rw [Z2w this]
  ·omega
theorem V1h {w : List Q3} {d : Nat} {t : Q2} {p : Q0} (h : altD w d t p) (l : lvB 1 p) : oneS d p := by
 cases d with
 | zero => exact h.elim
 | succ d =>
 by_cases h5 : p.op = 5
 ·refine ⟨Q0.mk 1 0 0 0 0 [], fun q hq => ?_⟩
  rcases Q7z hq with ⟨_, x, hx, hqx⟩ | ⟨h6, _⟩
  ·rcases l with l | l | ⟨_, l⟩
   ·omega
   ·omega
   ·obtain ⟨u, hu⟩ := Q7r h hx
    rw [X16 hu (l x hx)] at hqx
    exact Z2w hqx
  ·exact absurd h5 h6
 ·refine X2o h5 fun x hx => ?_
  rcases l with l | l | ⟨l | l, k⟩
  ·rw [Z65 h (by omega) h5] at hx; cases hx
  ·rw [Z65 h (by omega) h5] at hx; cases hx
  ·obtain ⟨u, hu⟩ := Q7r h hx
   rw [X16 hu (k x hx)]
   exact ⟨_, fun q hq => Z2w hq⟩
  ·omega
theorem V6h {w : List Q3} {d : Nat} {t : Q2} {p : Q0} (h : altD w d t p) (l : lvB 2 p) : ∀ q ∈ Z3 d p, hgt2 q := fun q hq => by
 cases d with
 | zero => exact h.elim
 | succ d =>
 rcases Q7z hq with ⟨h5, x, hx, hqx⟩ | ⟨h5, ks, rfl, hl, hk⟩
 ·rcases l with l | l | ⟨_, l⟩
  ·omega
  ·omega
  ·obtain ⟨u, hu⟩ := Q7r h hx
   exact V6s (W2z hu (l x hx) q hqx)
 ·rcases l with l | l | ⟨l | l, k⟩
  ·exact .inl l
  ·exact .inr (.inl l)
  ·refine .inr (.inr ⟨l, fun y hy => ?_⟩)
   obtain ⟨i, hi⟩ := List.mem_iff_getElem?.1 hy
   simp only [Q6t] at hi
   have hil := (List.getElem?_eq_some_iff.1 hi).1
   have h2 : p.kids[i]? = some (p.kids[i]'(by omega)) := List.getElem?_eq_getElem (by omega)
   have hxm := List.mem_of_getElem? h2
   obtain ⟨u, hu⟩ := Q7r h hxm
   exact W2z hu (k _ hxm) y (hk i _ _ hi h2)
  ·omega
theorem V1g {w : List Q3} {d : Nat} {t : Q2} {p : Q0} (h : altD w d t p) (l : lvB 2 p) : ∃ k : Option Q0, ∀ q ∈ Z3 d p, match k with
  | none => hgt1 q
  | some α => q = α := by
 cases d with
 | zero => exact h.elim
 | succ d =>
 by_cases h5 : p.op = 5
 ·refine ⟨none, fun q hq => ?_⟩
  rcases Q7z hq with ⟨_, x, hx, hqx⟩ | ⟨h6, _⟩
  ·rcases l with l | l | ⟨_, l⟩
   ·omega
   ·omega
   ·obtain ⟨u, hu⟩ := Q7r h hx
    exact W2z hu (l x hx) q hqx
  ·exact absurd h5 h6
 ·have : oneS (d + 1) p := X2o h5 fun x hx => by
   rcases l with l | l | ⟨l | l, k⟩
   ·rw [Z65 h (by omega) h5] at hx; cases hx
   ·rw [Z65 h (by omega) h5] at hx; cases hx
   ·obtain ⟨u, hu⟩ := Q7r h hx
    exact V1h hu (k x hx)
   ·omega
  obtain ⟨α, hα⟩ := this
  exact ⟨some α, hα⟩
def V8p (w : List Q3) (t : Q2) (l : List Q0) : Prop := (∀ q ∈ l, hgt2 q) ∨ ∃ (c : Int) (K : Nat → Option Q0), t.data ≠ -1 ∧ c ∈ Z9 w t ∧ ∀ q ∈ l, oneP w t c K q
theorem V6p {w : List Q3} (hw : WW w) (hr : WR w) {t : Q2} (ht : t ∈ tys w) {l : List Q0} (h : V8p w t l) : ∃ P, Fam w t P ∧ ∀ q ∈ l, P q := by
 rcases h with h | ⟨c, K, hd, hc, h⟩
 ·exact ⟨hgt2, V6x hw hr ht, h⟩
 ·exact ⟨oneP w t c K, V23 hw hr ht hd hc K, h⟩
theorem V6g {w : List Q3} {t : Q2} {p : Q0} (h : altD w 10 t p) (l : lvB 3 p) : V8p w t (Z3 10 p) := by
 by_cases h4 : p.op = 4
 ·rcases h with rfl | ⟨n, m, rfl, _⟩ | ⟨c, ks, rfl, hd, hc, hl, hk⟩ | ⟨a, b, rfl, _⟩
  ·simp at h4
  ·simp at h4
  ·have lk : ∀ q ∈ ks, lvB 2 q := by
    rcases l with l | l | ⟨_, l⟩
    ·simp at l
    ·simp at l
    ·exact l
   have hex : ∀ j : Nat, ∃ k : Option Q0, ∀ x, ks[j]? = some x → ∀ q ∈ Z3 9 x, match k with
     | none => hgt1 q
     | some α => q = α := fun j => by
    cases hj : ks[j]? with
    | none => exact ⟨none, fun x hx => by cases hx⟩
    | some x =>
     have hjl := (List.getElem?_eq_some_iff.1 hj).1
     have ha : (Z5 w t c)[j]? = some ((Z5 w t c)[j]'(by omega)) := by simp
     obtain ⟨k, hk2⟩ := V1g (hk j _ x ha hj) (lk x (List.mem_of_getElem? hj))
     exact ⟨k, fun y hy => by cases hy; exact hk2⟩
   obtain ⟨K, hK⟩ := Classical.axiomOfChoice hex
   refine .inr ⟨c, K, hd, hc, fun q hq => ?_⟩
   rcases Q7z hq with ⟨h5, _⟩ | ⟨_, zs, rfl, hzl, hz⟩
   ·simp at h5
   ·refine ⟨zs, rfl, by simp only at hzl; omega, fun j y hy => ?_⟩
    have hjl := (List.getElem?_eq_some_iff.1 hy).1
    simp only at hzl
    have h2 : ks[j]? = some (ks[j]'(by omega)) := List.getElem?_eq_getElem (by omega)
    exact hK j _ h2 y (hz j y _ hy h2)
  ·simp at h4
 ·refine .inl fun q hq => ?_
  rcases Q7z hq with ⟨h5, x, hx, hqx⟩ | ⟨h5, ks, rfl, hl, hk⟩
  ·rcases l with l | l | ⟨_, l⟩
   ·omega
   ·omega
   ·obtain ⟨u, hu⟩ := Q7r h hx
    exact V6h hu (l x hx) q hqx
  ·rcases l with l | l | ⟨l | l, _⟩
   ·exact .inl l
   ·exact .inr (.inl l)
   ·exact absurd l h4
   ·exact absurd l h5
theorem V1f {w : List Q3} (hw : WW w) (hr : WR w) {t : Q2} (ht : t ∈ tys w) {p : Q0} (h : altD w 10 t p) (l : lvB 3 p) : ∃ P, Fam w t P ∧ ∀ q ∈ Z3 10 p, P q := V6p hw hr ht (V6g h l)
theorem W8n : ∀ (m n : Nat) (r : Z0) (w : List Q3) (t : Q2) (depth : Int), depth ≤ m + 1 → -1000 + m ≤ depth → m ≤ 100 → Par (Q0z n r w t depth) (fun a => lvB m a.1) := by
 intro m
 induction m with
 | zero =>
  intro n r w t depth h1 _ _
  cases n with
  | zero => exact .none
  | succ n =>
   unfold Q0z
   rw [if_pos (by rw [X0]; omega)]
   exact .some rfl
 | succ m ih =>
  intro n r w t depth h1 h2 h3
  cases n with
  | zero => exact .none
  | succ n =>
  unfold Q0z
  have hws : wsub .i64 depth 1 = depth - 1 := Q3k (by omega) (by omega)
  rw [hws]
  refine Par.ite (fun _ => .some (.inl rfl)) (fun _ => ?_)
  refine Par.any fun a => Par.ite (fun _ => .some (.inl rfl)) (fun _ => ?_)
  refine Par.any fun b => Par.ite (fun _ => ?_) (fun _ => ?_)
  ·refine Par.bind (ih n b.2 w t (depth - 1) (by omega) (by omega) (by omega)) (fun c hc => ?_)
   refine Par.bind (ih n c.2 w t (depth - 1) (by omega) (by omega) (by omega)) (fun d hd => .some (.inr (.inr ⟨.inr rfl, fun q hq => ?_⟩)))
   simp only [List.mem_cons, List.not_mem_nil, or_false] at hq
   rcases hq with rfl | rfl
   ·exact hc
   ·exact hd
  ·refine Par.ite (fun _ => ?_) (fun _ => ?_)
   ·exact Par.any fun c => Par.any fun d => Par.any fun e => .some (.inr (.inl rfl))
   ·refine Par.any fun c => Par.ite (fun _ => .some (.inl rfl)) (fun _ => ?_)
    refine Par.any fun d => Par.any fun e => Par.any fun f => ?_
    refine Par.ctl (Z01 (fun _ (s : Z0 × List Q0) => ∀ q ∈ s.2, lvB m q) (fun _ => False) (fun s => ∀ q ∈ s.2, lvB m q) f 0 _ (by simp) (fun k x s _ hI => ?_) (fun s hs => hs)) (fun r hr => hr.elim) (fun s hs => .some (.inr (.inr ⟨.inl rfl, hs⟩)))
    refine Par.bind (ih n s.1 w x (depth - 1) (by omega) (by omega) (by omega)) (fun b hb => ?_)
    refine Par.bind (P := fun y => y = s.2 ++ [b.1]) (fun y hy => ?_) (fun y hy => .some ?_)
    ·unfold app at hy
     split at hy
     ·cases hy; rfl
     ·cases hy
    ·subst hy
     simp only [Q4z]
     intro q hq
     rcases List.mem_append.1 hq with hq | hq
     ·exact hI q hq
     ·simp only [List.mem_singleton] at hq; rw [hq]; exact hb
theorem X3z {D : Nat} {op c n m v : Int} {ks : List Q0} (h2 : op ≠ 2) (h6 : op ≠ 6) : X7 (D + 1) (Q0.mk op c n m v ks) = Q0.mk op c n m v (ks.map (X7 D)) := by
 rw [X7, if_neg h2, if_neg (fun hh => h6 hh.1)]
theorem W6q : ∀ (m n : Nat) (r : Z0) (p : Q0) (v : Int), lvB m p → Par (Q2e n r p v) (fun a => ∀ D, 2 * (m + 1) ≤ D → lvB m (X7 D a.1)) := by
 intro m
 induction m with
 | zero =>
  intro n r p v h
  have h1 : p.op = 1 := h
  cases n with
  | zero => exact .none
  | succ n =>
  unfold Q2e
  refine Par.ite (fun _ => .some fun D _ => Q8f D h) (fun _ => ?_)
  refine Par.ite (fun _ => .some fun D _ => Q8f D h) (fun _ => ?_)
  refine Par.ite (fun _ => .some fun D _ => Q8f D h) (fun _ => ?_)
  refine Par.ctl (R := fun (a : Q0 × Int × Z0) => ∀ D, 2 * (0 + 1) ≤ D → lvB 0 (X7 D a.1)) (B := fun _ => True) ?_ (fun a ha => .some ha) (fun s _ => ?_)
  ·refine Par.ite (fun _ => ?_) (fun _ => .some trivial)
   refine Par.any fun a => Par.ite (fun _ => .some fun D hD => ?_) (fun _ => .some trivial)
   obtain ⟨D, rfl⟩ : ∃ k, D = k + 1 := ⟨D - 1, by omega⟩
   simp [X7, lvB]
  ·refine Par.ctl (Z01 (fun _ _ => True) (fun _ => False) (fun _ => True) p.kids 0 _ trivial (fun k x s _ _ => Par.any fun a => Par.any fun b => .some trivial) (fun _ _ => trivial)) (fun r hr => hr.elim) (fun u _ => ?_)
   refine Par.ctl (R := fun (a : Q0 × Int × Z0) => ∀ D, 2 * (0 + 1) ≤ D → lvB 0 (X7 D a.1)) (B := fun _ => True) ?_ (fun a ha => .some ha) (fun s _ => .some fun D hD => ?_)
   ·refine Par.ite (fun _ => ?_) (fun _ => .some trivial)
    refine Par.any fun a => Par.ite (fun _ => .some fun D hD => ?_) (fun _ => .some trivial)
    obtain ⟨D, rfl⟩ : ∃ k, D = k + 2 := ⟨D - 2, by omega⟩
    rw [h1]
    simp [X7, lvB]
   ·obtain ⟨D, rfl⟩ : ∃ k, D = k + 1 := ⟨D - 1, by omega⟩
    rw [h1, X3z (by decide) (by decide)]
    exact rfl
 | succ m ih =>
  intro n r p v h
  cases n with
  | zero => exact .none
  | succ n =>
  unfold Q2e
  refine Par.ite (fun _ => .some fun D _ => Q8f D h) (fun _ => ?_)
  refine Par.ite (fun _ => .some fun D _ => Q8f D h) (fun h5 => ?_)
  refine Par.ite (fun _ => .some fun D _ => Q8f D h) (fun h3 => ?_)
  rw [Z8] at h5 h3
  refine Par.ctl (R := fun (a : Q0 × Int × Z0) => ∀ D, 2 * (m + 1 + 1) ≤ D → lvB (m + 1) (X7 D a.1)) (B := fun _ => True) ?_ (fun a ha => .some ha) (fun s _ => ?_)
  ·refine Par.ite (fun _ => ?_) (fun _ => .some trivial)
   refine Par.any fun a => Par.ite (fun _ => .some fun D hD => ?_) (fun _ => .some trivial)
   obtain ⟨D, rfl⟩ : ∃ k, D = k + 1 := ⟨D - 1, by omega⟩
   simp [X7, lvB]
  ·refine Par.ctl (Z01 (fun _ (u : Z0 × List Q0 × Int) => p.op = 1 ∨ ∀ q ∈ u.2.1, ∀ D, 2 * (m + 1) ≤ D → lvB m (X7 D q)) (fun _ => False) (fun u => p.op = 1 ∨ ∀ q ∈ u.2.1, ∀ D, 2 * (m + 1) ≤ D → lvB m (X7 D q)) p.kids 0 _ (by simp) (fun k x u hx hI => ?_) (fun _ hI => hI)) (fun r hr => hr.elim) (fun u hu => ?_)
   ·rcases h with h | h | ⟨_, hk⟩
    ·exact Par.any fun a => Par.any fun b => .some (.inl h)
    ·exact absurd h h3
    ·refine Par.bind (ih n u.1 x u.2.2 (hk x hx)) (fun a ha => ?_)
     refine Par.bind (X15 _ _) (fun b hb => .some ?_)
     subst hb
     simp only [Q4z]
     rcases hI with hI | hI
     ·exact .inl hI
     ·refine .inr fun q hq => ?_
      rcases List.mem_append.1 hq with hq | hq
      ·exact hI q hq
      ·simp only [List.mem_singleton] at hq; rw [hq]; exact ha
   ·have hop : p.op = 1 ∨ p.op = 4 := by rcases h with h | h | ⟨h | h, _⟩ <;> omega
    have hnode : ∀ D, 2 * (m + 1) + 1 ≤ D → lvB (m + 1) (X7 D (Q0.mk p.op p.ctor p.n p.m p.var u.2.1)) := fun D hD => by
     obtain ⟨D, rfl⟩ : ∃ k, D = k + 1 := ⟨D - 1, by omega⟩
     rw [X3z (by omega) (by omega)]
     rcases hop with h1 | h4
     ·exact .inl h1
     ·rcases hu with hu | hu
      ·omega
      ·refine .inr (.inr ⟨.inl h4, fun q hq => ?_⟩)
       obtain ⟨x, hx, rfl⟩ := List.mem_map.1 hq
       exact hu x hx D (by omega)
    refine Par.ctl (R := fun (a : Q0 × Int × Z0) => ∀ D, 2 * (m + 1 + 1) ≤ D → lvB (m + 1) (X7 D a.1)) (B := fun _ => True) ?_ (fun a ha => .some ha) (fun s _ => .some fun D hD => hnode D (by omega))
    refine Par.ite (fun _ => ?_) (fun _ => .some trivial)
    refine Par.any fun a => Par.ite (fun _ => .some fun D hD => ?_) (fun _ => .some trivial)
    obtain ⟨D, rfl⟩ : ∃ k, D = k + 1 := ⟨D - 1, by omega⟩
    have := hnode D (by omega)
    rw [X7]
    simpa using this
theorem X6t (r : Z0) (w : List Q3) (t : Q2) : Par (Q38 NN r w t) (fun a => lvB 3 (X7 10 a.1)) := by
 unfold Q38
 refine Par.bind (W2s r _) (fun a ha => ?_)
 refine Par.bind (W8n 3 NN a.2 w t a.1 (by simp at ha; omega) (by simp at ha; omega) (by omega)) (fun b hb => ?_)
 refine Par.bind (W6q 3 NN b.2 b.1 0 hb) (fun c hc => Par.any fun d => Par.ite (fun _ => .some ?_) (fun _ => .some (hc 10 (by omega))))
 exact Q8f 10 (X2v rfl)
end Go.Proofs.YtbdkbdafhlcilaaGreat
namespace Go.Proofs.YtbdkbdafhlcilaaGreat
open Go Go.RowKit
theorem Par.both {α : Type} {x : Option α} {P Q : α → Prop} (h : Par x P) (k : Par x Q) : Par x (fun a => P a ∧ Q a) := fun a e => ⟨h a e, k a e⟩
theorem Z3z {σ ρ : Type} {f : σ → Option (Ctl ρ σ)} (I : σ → Prop) (R : ρ → Prop) (B : σ → Prop) (st : ∀ s, I s → Par (f s) (RndQ R B I)) : ∀ (n : Nat) (s0 : σ), I s0 → Par (whileL f n s0) (CtlQ R B)
 | 0, _, _ => .none
 | n + 1, s0, h0 => fun a e => by
  unfold whileL at e
  have h1 := st s0 h0
  cases hf : f s0 with
  | none => rw [hf] at e; cases e
  | some o =>
   rw [hf] at e
   have h2 := h1 o hf
   cases o with
   | ret r => cases e; exact h2
   | brk s => cases e; exact h2
   | go s => exact Z3z I R B st n s h2 a e
def v0P : Q0 := Q0.mk 2 0 0 0 0 []
def Mut (p q : Q0) : Prop := ((q.op = 0 ∨ q.op = 7 ∨ q.op = 1 ∨ q.op = 2 ∨ q.op = 5) ∧ q.kids = p.kids ∧ q.var = p.var) ∨
 (q.op = p.op ∧ (q.kids = p.kids ∨ (q.kids = p.kids ++ [v0P] ∧ q.var = p.var) ∨ q.kids = p.kids.set 0 v0P))
theorem W2t (r : Z0) (p : Q0) : Par (Q20 r p) (fun a => Mut p a.1) := by
 unfold Q20
 refine Par.any fun x => ?_
 refine Par.ctl (R := fun _ => False) (B := fun (s : Z0 × Int × Int × Int × Int × List Q0) => Mut p (Q0.mk s.2.1 s.2.2.1 s.2.2.2.1 p.m s.2.2.2.2.1 s.2.2.2.2.2)) ?_ (fun r hr => hr.elim) (fun s hs => .some hs)
 have same : ∀ (r : Z0) (c n v : Int), Par (some (Ctl.brk (ρ := Q0 × Z0) (r, p.op, c, n, v, p.kids))) (CtlQ (fun _ => False) (fun (s : Z0 × Int × Int × Int × Int × List Q0) => Mut p (Q0.mk s.2.1 s.2.2.1 s.2.2.2.1 p.m s.2.2.2.2.1 s.2.2.2.2.2))) := fun r c n v => .some (.inr ⟨rfl, .inl rfl⟩)
 refine Par.any fun a => Par.ite (fun _ => ?_) (fun _ => Par.ite (fun _ => Par.any fun b => same _ _ _ _) (fun _ => Par.ite (fun _ => Par.any fun b => same _ _ _ _) (fun _ => Par.ite (fun _ => ?_) (fun _ => Par.ite (fun _ => Par.ite (fun _ => Par.any fun b => ?_) (fun _ => same _ _ _ _)) (fun _ => Par.ite (fun _ => Par.any fun b => same _ _ _ _) (fun _ => same _ _ _ _))))))
 ·refine Par.bind (W2s _ _) (fun b hb => .some (.inl ⟨?_, rfl, rfl⟩))
  simpa using hb
 ·exact Par.any fun b => .some (.inr ⟨rfl, .inr (.inl ⟨rfl, rfl⟩)⟩)
 ·refine Par.bind (P := fun z => z = p.kids.set 0 v0P) (fun z hz => ?_) (fun z hz => .some (.inr ⟨rfl, .inr (.inr hz)⟩))
  unfold setI at hz
  split at hz
  ·cases hz; rfl
  ·cases hz
theorem X7b {p q : Q0} (h : Mut p q) : ∀ k ∈ q.kids, k ∈ p.kids ∨ k = v0P := fun k hk => by
 rcases h with ⟨_, h, _⟩ | ⟨_, h | ⟨h, _⟩ | h⟩
 ·rw [h] at hk; exact .inl hk
 ·rw [h] at hk; exact .inl hk
 ·rw [h] at hk; simpa using hk
 ·rw [h] at hk; exact List.mem_or_eq_of_mem_set hk
theorem W4p (d : Nat) : lvB 2 (X7 (d + 1) v0P) := by
 have : X7 (d + 1) v0P = Q0.mk 1 0 0 0 0 [] := by simp [X7, v0P]
 rw [this]
 exact X2v rfl
theorem V1b {w : List Q3} {t : Q2} {p q1 q : Q0} (hp : Q0a w 10 t p = true) (lp : linD w 10 t p = true) (hq : Q0a w 10 t q = true) (lq : linD w 10 t q = true) (h : lvB 3 (X7 10 p)) (m1 : Mut p q1) (m2 : Mut q1 q) : lvB 3 (X7 10 q) := by
 obtain ⟨po, pl⟩ := Q3x (Q2x hp)
 obtain ⟨qo, ql⟩ := Q3x (Q2x hq)
 have pc := po
 have qc := qo
 simp only [Q7i, Bool.and_eq_true, Bool.or_eq_true, decide_eq_true_eq] at pc qc
 have hk : ∀ k ∈ q.kids, k ∈ p.kids ∨ k = v0P := fun k hk => by
  rcases X7b m2 k hk with h | h
  ·exact X7b m1 k h
  ·exact .inr h
 have hop : q.op = p.op ∨ q.op = 0 ∨ q.op = 7 ∨ q.op = 1 ∨ q.op = 2 ∨ q.op = 5 := by
  rcases m2 with ⟨h, _⟩ | ⟨h, _⟩
  ·exact .inr h
  ·rcases m1 with ⟨h', _⟩ | ⟨h', _⟩
   ·right; rw [h]; exact h'
   ·left; rw [h, h']
 have qcase : q.op = 1 ∨ q.op = 2 ∨ q.op = 5 ∨ q.op = 6 ∨ q.op = 3 ∨ q.op = 4 := by
  rcases qc.2 with (h | h) | h
  ·omega
  ·omega
  ·omega
 have pcase : p.op = 1 ∨ p.op = 2 ∨ p.op = 5 ∨ p.op = 6 ∨ p.op = 3 ∨ p.op = 4 := by
  rcases pc.2 with (h | h) | h
  ·omega
  ·omega
  ·omega
 have bq : q.op ≠ 2 → q.op ≠ 6 → X7 10 q = Q0.mk q.op q.ctor q.n q.m q.var (q.kids.map (X7 9)) := fun h2 h6 => by
  rw [X7, if_neg h2, if_neg (fun h => h6 h.1)]
 have bp : p.op ≠ 2 → p.op ≠ 6 → X7 10 p = Q0.mk p.op p.ctor p.n p.m p.var (p.kids.map (X7 9)) := fun h2 h6 => by
  rw [X7, if_neg h2, if_neg (fun h => h6 h.1)]
 have pk : (p.op = 4 ∨ p.op = 5) → ∀ k ∈ p.kids, lvB 2 (X7 9 k) := fun ho k hk => by
  rw [bp (by omega) (by omega)] at h
  rcases h with h | h | ⟨_, h⟩
  ·simp only at h; omega
  ·simp only at h; omega
  ·exact h _ (List.mem_map_of_mem hk)
 have fin : (q.op = 4 ∨ q.op = 5) → (∀ k ∈ p.kids, k ∈ q.kids → lvB 2 (X7 9 k)) → lvB 3 (X7 10 q) := fun ho hh => by
  rw [bq (by omega) (by omega)]
  refine .inr (.inr ⟨ho, fun k hk' => ?_⟩)
  obtain ⟨k0, hk0, rfl⟩ := List.mem_map.1 hk'
  rcases hk k0 hk0 with h | h
  ·exact hh k0 h hk0
  ·rw [h]; exact W4p 8
 rcases qcase with q1' | q2 | q5 | q6 | q3 | q4
 ·rw [bq (by omega) (by omega)]
  exact X2v q1'
 ·rw [X7, if_pos q2]
  exact X2v rfl
 ·refine fin (.inr q5) fun k hkp hkq => ?_
  rcases pcase with h' | h' | h' | h' | h' | h'
  ·have : p.kids = [] := List.eq_nil_of_length_eq_zero (by rw [pl, V6, if_neg (by omega), if_neg (by omega), if_neg (by omega)]; rfl)
   rw [this] at hkp; cases hkp
  ·have : p.kids = [] := List.eq_nil_of_length_eq_zero (by rw [pl, V6, if_neg (by omega), if_neg (by omega), if_neg (by omega)]; rfl)
   rw [this] at hkp; cases hkp
  ·exact pk (.inr h') k hkp
  ·exfalso
   have pl1 : p.kids.length = 1 := by rw [pl, V6, if_neg (by omega), if_neg (by omega), if_pos h']; rfl
   have ql2 : q.kids.length = 2 := by rw [ql, V6, if_neg (by omega), if_pos q5]; rfl
   obtain ⟨k0, hk0⟩ : ∃ k0, p.kids = [k0] := by
    match hp' : p.kids, pl1 with
    | [a], _ => exact ⟨a, rfl⟩
   have hqk : q.kids = [k0, v0P] ∧ q.var = p.var := by
    rcases m1 with ⟨_, a1, a2⟩ | ⟨a0, a1⟩
    ·rcases m2 with ⟨_, b1, b2⟩ | ⟨b0, b1 | ⟨b1, b2⟩ | b1⟩
     ·rw [b1, a1, hk0] at ql2; simp at ql2
     ·rw [b1, a1, hk0] at ql2; simp at ql2
     ·exact ⟨by rw [b1, a1, hk0]; rfl, by rw [b2, a2]⟩
     ·rw [b1, a1, hk0] at ql2; simp at ql2
    ·rcases m2 with ⟨_, b1, b2⟩ | ⟨b0, _⟩
     ·rcases a1 with a1 | ⟨a1, a2⟩ | a1
      ·rw [b1, a1, hk0] at ql2; simp at ql2
      ·exact ⟨by rw [b1, a1, hk0]; rfl, by rw [b2, a2]⟩
      ·rw [b1, a1, hk0] at ql2; simp at ql2
     ·omega
   have hv0 : q.var = 0 := by
    have := qc.1.1.1
    rw [if_neg (by omega)] at this
    simpa using this
   have kq : V6 w t q = [t, t] := by rw [V6, if_neg (by omega), if_pos q5]
   have kp : V6 w t p = [t] := by rw [V6, if_neg (by omega), if_neg (by omega), if_pos h']
   have e1 : kv w 9 t q 0 = Q26 w 9 t k0 := by simp [kv, kq, hqk.1]
   have e2 : kv w 9 t q 1 = [⟨0, t⟩] := by
    simp only [kv, kq, hqk.1]
    simp [Q26, ownV, v0P]
   have e3 : Q26 w 10 t p = ⟨0, t⟩ :: Q26 w 9 t k0 := by
    rw [Q26, kp, hk0, if_neg (by omega)]
    simp [ownV, h', ← hqk.2, hv0]
   rw [linD, if_pos q5] at lq
   rw [linD, if_neg (by omega)] at lp
   simp only [Bool.and_eq_true] at lq lp
   have a := lq.2
   have b := lp.2
   rw [e1, e2] at a
   rw [e3] at b
   simp only [Q8q, Bool.and_eq_true, decide_eq_true_eq, List.all_eq_true] at a
   simp only [Q19, decide_eq_true_eq] at b
   match hx : Q26 w 9 t k0, a with
   | [x], a =>
    have hxx := a.2 x (by simp)
    simp only [List.mem_singleton] at hxx
    rw [hx, hxx] at b
    simp at b
  ·have : p.kids = [] := List.eq_nil_of_length_eq_zero (by rw [pl, V6, if_neg (by omega), if_neg (by omega), if_neg (by omega)]; rfl)
   rw [this] at hkp; cases hkp
  ·exact pk (.inl h') k hkp
 ·have p6 : p.op = 6 := by omega
  have pl1 : p.kids.length = 1 := by rw [pl, V6, if_neg (by omega), if_neg (by omega), if_pos p6]; rfl
  have ql1 : q.kids.length = 1 := by rw [ql, V6, if_neg (by omega), if_neg (by omega), if_pos q6]; rfl
  obtain ⟨k0, hk0⟩ : ∃ k0, p.kids = [k0] := by
   match hp' : p.kids, pl1 with
   | [a], _ => exact ⟨a, rfl⟩
  obtain ⟨k1, hk1⟩ : ∃ k0, q.kids = [k0] := by
   match hp' : q.kids, ql1 with
   | [a], _ => exact ⟨a, rfl⟩
  have eq : X7 10 q = X7 9 k1 := by rw [X7, if_neg (by omega), if_pos ⟨q6, by rw [hk1]; simp⟩, hk1]; rfl
  have ep : X7 10 p = X7 9 k0 := by rw [X7, if_neg (by omega), if_pos ⟨p6, by rw [hk0]; simp⟩, hk0]; rfl
  rw [eq]
  rcases hk k1 (by rw [hk1]; simp) with h1 | h1
  ·rw [hk0, List.mem_singleton] at h1
   rw [h1, ← ep]
   exact h
  ·rw [h1]
   exact Z6z (W4p 8)
 ·rw [bq (by omega) (by omega)]
  exact .inr (.inl q3)
 ·exact fin (.inl q4) fun k hkp _ => pk (.inl (by omega)) k hkp
def Z2n (w : List Q3) (t : Q2) (c : Q5) : Prop := Q12 w t c.pat = true → lvB 3 (X7 10 c.pat)
def V2p (w : List Q3) (t : Q2) (c : Q5) : Prop := Q12 w t c.pat = true ∧ lvB 3 (X7 10 c.pat)
theorem W0o (r : Z0) (w : List Q3) (t : Q2) : Par (Q2r NN r w t) (fun a => lvB 3 (X7 10 a.1.pat)) := by
 unfold Q2r
 refine Par.bind (X6t r w t) (fun a ha => Par.any fun b => ?_)
 exact Par.ctl (R := fun _ => False) (B := fun _ => True) (Z01 (fun _ _ => True) (fun _ => False) (fun _ => True) _ 0 _ trivial (fun k x s _ _ => by
  refine Par.ctl (R := fun _ => False) (B := fun _ => True) ?_ (fun r h => h.elim) (fun s _ => .some trivial)
  refine Par.ite (fun _ => Par.any fun c => Par.ite (fun _ => Par.any fun d => Par.any fun e => .some trivial) (fun _ => .some trivial)) (fun _ => .some trivial)) (fun _ _ => trivial)) (fun r h => h.elim) (fun s _ => .some ha)
theorem W70 (r : Z0) (w : List Q3) (t : Q2) : Par (Q4f NN r w t) (fun a => ∀ c ∈ a.1, lvB 3 (X7 10 c.pat)) := by
 unfold Q4f
 refine Par.any fun a => ?_
 refine Par.ctl (Z3z (fun s : Z0 × List Q5 × Int => ∀ c ∈ s.2.1, lvB 3 (X7 10 c.pat)) (fun _ => False) (fun s => ∀ c ∈ s.2.1, lvB 3 (X7 10 c.pat)) (fun s hI => ?_) NN _ (by simp)) (fun r h => h.elim) (fun s hs => .some hs)
 refine Par.ite (fun _ => ?_) (fun _ => .some hI)
 refine Par.bind (W0o s.1 w t) (fun b hb => ?_)
 refine Par.bind (X15 _ _) (fun z hz => .some ?_)
 subst hz
 intro c hc
 rcases List.mem_append.1 hc with hc | hc
 ·exact hI c hc
 ·simp only [List.mem_singleton] at hc; rw [hc]; exact hb
theorem W1g (r : Z0) : Par (Q1a NN r) (fun a => ∀ c ∈ a.2.2.1, lvB 3 (X7 10 c.pat)) := by
 unfold Q1a
 exact Par.any fun a => Par.bind (W70 _ _ _) (fun b hb => .some hb)
theorem V8b (d : Nat) : lvB 3 (X7 d (Q0.mk 1 0 0 0 0 [])) := Q8f d (X2v rfl)
theorem X97 {w : List Q3} {t : Q2} (r : Z0) (l : List Q5) (hl : ∀ c ∈ l, V2p w t c) : Par (Q2q NN r l) (fun a => ∀ c ∈ a.1, Z2n w t c) := by
 have hl' : ∀ c ∈ l, Z2n w t c := fun c hc _ => (hl c hc).2
 unfold Q2q
 refine Par.any fun x => ?_
 refine Par.ctl (R := fun _ => False) (B := fun (s : Z0 × List Q5) => ∀ c ∈ s.2, Z2n w t c) ?_ (fun r h => h.elim) (fun s hs => .some hs)
 have setP : ∀ {i : Int} {c : Q5}, Z2n w t c → Par (setI l i c) (fun z => ∀ c ∈ z, Z2n w t c) := fun {i c} hc z hz => by
  unfold setI at hz
  split at hz
  ·cases hz
   intro y hy
   rcases List.mem_or_eq_of_mem_set hy with hy | rfl
   ·exact hl' y hy
   ·exact hc
  ·cases hz
 have idxP : ∀ i : Int, Par (idx l i) (fun c => c ∈ l) := fun i c hc => by
  unfold idx at hc
  split at hc
  ·exact List.mem_of_getElem? hc
  ·cases hc
 refine Par.any fun a => Par.ite (fun _ => Par.ite (fun _ => ?_) (fun _ => .some hl')) (fun _ => Par.ite (fun _ => Par.ite (fun _ => ?_) (fun _ => .some hl')) (fun _ => Par.ite (fun _ => ?_) (fun _ => .some hl')))
 ·refine Par.any fun b => Par.any fun c => Par.any fun d => Par.bind (idxP 0) (fun e he => ?_)
  exact Par.bind (setP (fun _ => (hl e he).2)) (fun z hz => .some hz)
 ·refine Par.bind (idxP 0) (fun e he => ?_)
  refine Par.bind (W2t _ _) (fun f hf => ?_)
  refine Par.bind (W2t _ _) (fun g hg => ?_)
  refine Par.bind (setP (fun hv => ?_)) (fun z hz => .some hz)
  obtain ⟨g1, _, l1⟩ := Q3z (hl e he).1
  obtain ⟨g2, _, l2⟩ := Q3z hv
  exact V1b g1 l1 g2 l2 (hl e he).2 hf hg
 ·refine Par.ctl (Z3z (fun s : List Q5 => ∀ c ∈ s, Z2n w t c) (fun _ => False) (fun s => ∀ c ∈ s, Z2n w t c) (fun s hI => ?_) NN _ hl') (fun r h => h.elim) (fun s hs => .some hs)
  refine Par.ite (fun _ => Par.any fun y => .some fun c hc => ?_) (fun _ => .some hI)
  rcases List.mem_append.1 hc with hc | hc
  ·exact hI c hc
  ·simp only [List.mem_singleton] at hc; rw [hc]; exact fun _ => V8b 10
end Go.Proofs.YtbdkbdafhlcilaaGreat
namespace Go.Proofs.YtbdkbdafhlcilaaGreat
open Go Go.RowKit
theorem X28 {w : List Q3} (hw : WW w) (he : WE w) {t : Q2} (ht : t ∈ tys w) {ps : List Q0} (hp : ∀ p ∈ ps, Z7 w 10 t p ∧ cntP p ≤ 130) (hl : ps.length ≤ 1600) (hfew : ∀ r, sepP w t [] ps = some r → r.length ≤ 400) :
  Q4r NN w (tabP w) t ps = some (optR (sepP w t [] ps)) := by
 suffices hs : Ret (Q4r NN w (tabP w) t ps) (fun r => r = optR (sepP w t [] ps)) by
  obtain ⟨a, e, rfl⟩ := hs
  exact e
 unfold Q4r
 refine Ret.ctl (Z1 ps (fun k s => s.length ≤ 400 ∧ sepP w t [] ps = (sepP w t (ps.take k) (ps.drop k)).map (s ++ ·)) (fun r => r = ([], false) ∧ sepP w t [] ps = none) (fun s => sepP w t [] ps = some s) ⟨by simp, by simp⟩ (fun k p s hp' hI => ?_) (fun s hI => ?_)) (fun r hr => .some (by rw [hr.1, hr.2]; rfl)) (fun s hs => .some (by rw [hs]; rfl))
 ·obtain ⟨hsl, hI⟩ := hI
  have hk := (List.getElem?_eq_some_iff.1 hp').1
  have hpm := hp p (List.mem_of_getElem? hp')
  have hsub : subI ps (k : Int) (wadd .i64 (k : Int) 1) = some [p] := by
   rw [Q09 (by omega) (by omega)]
   unfold subI
   rw [if_pos ⟨by omega, by omega, by omega⟩]
   have h1 : ((k : Int) + 1).toNat = k + 1 := by omega
   rw [h1, Int.toNat_natCast, List.take_add_one, hp', List.drop_append, List.length_take, Nat.min_eq_left (by omega), Nat.sub_self, List.drop_of_length_le (by rw [List.length_take]; omega)]
   rfl
  rw [hsub]
  simp only [Option.bind_some]
  rw [Z5q (by omega)]
  simp only [Option.bind_some]
  rw [Q80 hw he (d := 10) (x := 11) ht (by omega) (by omega) (fun b hb => hp b (List.mem_of_mem_take hb)) (fun a ha => by simp only [List.mem_singleton] at ha; rw [ha]; exact Q5u 10 t p hpm.1) (by simp) (by simp only [NN]; omega)]
  simp only [Option.bind_some]
  rw [Z2h hp'] at hI
  simp only [sepP] at hI
  cases hm : Q0q w 10 11 t [p] (ps.take k) with
  | none =>
   rw [hm] at hI
   simp only [Option.bind_none, Option.map_none] at hI
   simp only [optR, Bool.not_false, if_true]
   exact .some ⟨rfl, hI⟩
  | some m =>
   rw [hm] at hI
   have hml := Q72 (m := 400) (Nat.le_refl _) (by simp) hm
   have e1 : wadd .i64 (lenZ s.length) (lenZ m.length) = ((s.length + m.length : Nat) : Int) := by
    rw [Q0k, Q0k, Q09 (by omega) (by omega)]
    omega
   simp only [optR, Bool.not_true, Bool.false_eq_true, if_false, e1]
   refine Ret.ite (fun hgt => ?_) (fun hle => ?_)
   ·rw [X0] at hgt
    refine .some ⟨rfl, ?_⟩
    cases hz : sepP w t (ps.take k ++ [p]) (ps.drop (k + 1)) with
    | none => rw [hI]; simp [hz]
    | some z =>
     rw [hz] at hI
     simp only [Option.bind_some, Option.map_some] at hI
     have := hfew _ hI
     simp only [List.length_append] at this
     omega
   ·rw [J8] at hle
    rw [W6 (by simp only [Q6]; omega)]
    refine .some ⟨by simp only [List.length_append]; omega, ?_⟩
    rw [hI]
    simp only [Option.bind_some, Option.map_map]
    rw [List.take_add_one, hp']
    simp only [Option.toList_some]
    congr 1
    funext z
    simp
 ·obtain ⟨_, hI⟩ := hI
  rw [List.drop_length, sepP] at hI
  simpa using hI
theorem Z89 {w : List Q3} (hww : w ∈ Q0g) {t : Q2} (ht : t ∈ tys w) {cs : List Q5} (hf : ∀ c ∈ cs, Z2n w t c) {i : Nat} (hi : i < cs.length) : Q1o NN w t cs (i : Int) = some (optR (Q27 w t cs i)) := by
 have hw := ww hww
 have he := we hww
 unfold Q1o Q27
 rw [Q5s hw ht]
 simp only [Option.bind_some]
 by_cases h : J5 w t cs = true
 ·obtain ⟨h8, hc⟩ := Q3i h
  have hci : cs[i]? = some (cs[i]'hi) := by simp
  generalize cs[i]'hi = c at hci
  have hcm := List.mem_of_getElem? hci
  obtain ⟨hv, hg, hcn⟩ := hc c hcm
  simp only [h, Bool.not_true, Bool.false_eq_true, if_false, if_true]
  rw [if_neg (by rw [X0]; omega), if_neg (by rw [Q03, Q0k]; omega), hci, Q2a hci]
  simp only [Option.bind_some]
  rw [Z4s hw ht hg (by omega) (by simp only [NN]; omega)]
  simp only [Option.bind_some]
  have htk : ∀ c ∈ cs.take i, Q0a w 10 t c.pat = true ∧ cntP c.pat ≤ 60 := fun c m => (hc c (List.mem_of_mem_take m)).2
  by_cases h40 : 40 < (Z3 10 (X7 10 c.pat)).length
  ·have hm : Q5t c.pat = none := by unfold Q5t; rw [if_pos h40]
   rw [if_pos (by rw [X0, Q0k, List.length_take]; omega), hm]
   rfl
  ·have hm : Q5t c.pat = some (Z3 10 (X7 10 c.pat)) := by unfold Q5t; rw [if_neg h40]
   rw [List.take_of_length_le (by omega), if_neg (by rw [X0, Q0k]; omega), hm]
   have hpp := Z1e hg hm
   have hpc := Z6p hm
   have hpl := (Q75 hm).1
   obtain ⟨P, hP, hPs⟩ := V1f hw (wr hww) ht (Q6r Q7b 10 t c.pat hg) (hf c hcm hv)
   have hfew : ∀ r, sepP w t [] (Z3 10 (X7 10 c.pat)) = some r → r.length ≤ 400 := fun r hr => V0w hw he ht hP (fun p hp => ⟨hPs p hp, hpp p hp⟩) hr
   generalize Z3 10 (X7 10 c.pat) = mine at hpp hpc hpl hfew hPs
   simp only [Option.bind_some]
   rw [hw.tab]
   simp only [Option.bind_some]
   rw [X28 hw he ht (fun p hp => ⟨hpp p hp, by have := hpc p hp; omega⟩) (by omega) hfew]
   simp only [Option.bind_some]
   cases hs : sepP w t [] mine with
   | none =>
    simp only [optR, Bool.not_false, if_true, Option.bind_none]
    cases Q1f (cs.take i) <;> rfl
   | some out =>
    have hol := hfew out hs
    have hop := Z30 mine [] out (by simp) hpp hs
    simp only [optR, Bool.not_true, Bool.false_eq_true, if_false]
    unfold Q5e
    rw [Z4v hw ht (by omega) (fun c m => ⟨(hc c m).2.1, by have := (hc c m).2.2; omega⟩) (by omega)]
    simp only [Option.bind_some]
    cases ha : Q1f (cs.take i) with
    | none => simp [optR]
    | some away =>
     have hap := Q4y (fun c m => (htk c m).1) ha
     have hac := Q96 (m := 60) (fun c m => (htk c m).2) ha
     simp only [optR, Bool.not_true, Bool.false_eq_true, if_false, Option.bind_some]
     rw [hw.tab]
     simp only [Option.bind_some]
     rw [Q80 hw he (d := 10) (x := 11) ht (by omega) (by omega) (fun b hb => ⟨hap b hb, by have := hac b hb; omega⟩) hop (by omega) (by simp only [NN]; omega)]
     simp only [Option.bind_some]
     rw [Z4r hw (by simp only [NN]; omega) ht _ (fun r hr => by have := Q72 (m := 20000) (by omega) (by omega) hr; omega)]
     cases Q7n w t (Q0q w 10 11 t out away) <;> rfl
 ·simp [h, optR]
end Go.Proofs.YtbdkbdafhlcilaaGreat
namespace Go.Proofs.YtbdkbdafhlcilaaGreat
open Go Go.RowKit
theorem X8z {w : List Q3} {t : Q2} {cs : List Q5} {i : Nat} {r : List Q0} (hr : Q27 w t cs i = some r) : ∀ y ∈ r, Z7 w 11 t y := by
 unfold Q27 at hr
 split at hr
 ·rename_i hcl
  obtain ⟨_, hcs⟩ := Q3i hcl
  cases hc : cs[i]? with
  | none => rw [hc] at hr; cases hr
  | some c =>
   rw [hc] at hr
   simp only at hr
   have hcg := (hcs c (List.mem_of_getElem? hc)).2.1
   cases hm : Q5t c.pat with
   | none => rw [hm] at hr; simp at hr
   | some mine =>
    rw [hm] at hr
    simp only [Option.bind_some] at hr
    cases ha : Q1f (cs.take i) with
    | none => rw [ha] at hr; simp at hr
    | some away =>
     rw [ha] at hr
     simp only [Option.bind_some] at hr
     have hr := Z45 hr
     cases hs : sepP w t [] mine with
     | none => rw [hs] at hr; simp at hr
     | some out =>
      rw [hs] at hr
      simp only [Option.bind_some] at hr
      have gt : ∀ c' ∈ cs.take i, Q0a w 10 t c'.pat = true := fun c' h => (hcs c' (List.mem_of_mem_take h)).2.1
      exact Z0e (by omega) (Q4y gt ha) (Z30 mine [] out (by simp) (Z1e hcg hm) hs) hr
 ·cases hr
theorem W2w {w : List Q3} {t : Q2} {cs : List Q5} {r : List Q0} (hr : Z3c w t cs = some r) : ∀ y ∈ r, Z7 w 11 t y := by
 unfold Z3c at hr
 split at hr
 ·rename_i h
  obtain ⟨h8, hc⟩ := Q3i h
  cases hl : Q1f cs with
  | none => rw [hl] at hr; cases hr
  | some l =>
   rw [hl] at hr
   simp only [Option.bind_some] at hr
   exact Z0e (by omega) (Q4y (fun c m => (hc c m).2.1) hl) (fun a ha => by simp only [List.mem_singleton] at ha; subst ha; exact Q6j w 10 t) (Z45 hr)
 ·cases hr
def Z70 (w : List Q3) (t : Q2) (cs : List Q5) (k : Nat) : List (List Q0) := (List.range k).map fun i => (Q27 w t cs i).getD []
def scS (w : List Q3) (t : Q2) (cs : List Q5) : Option (List (List Q0)) :=
 if (∀ i, i < cs.length → (Q27 w t cs i).isSome = true) ∧ (Z3c w t cs).isSome = true then some (Z70 w t cs cs.length ++ [(Z3c w t cs).getD []]) else none
theorem Z9e (w : List Q3) (t : Q2) (cs : List Q5) (k : Nat) : Z70 w t cs (k + 1) = Z70 w t cs k ++ [(Q27 w t cs k).getD []] := by
 unfold Z70
 rw [List.range_succ, List.map_append]
 rfl
theorem Q77 (w : List Q3) (t : Q2) (cs : List Q5) (k : Nat) : (Z70 w t cs k).length = k := by simp [Z70]
def ScR (o : Option (List (List Q0))) (r : List (List Q0) × Bool) : Prop := match o with
 | some xs => r = (xs, true)
 | none => r.2 = false
theorem Z71 {w : List Q3} (hww : w ∈ Q0g) {t : Q2} (ht : t ∈ tys w) {cs : List Q5} (h8 : cs.length ≤ 8) : Ret (Q2m NN w t cs) (ScR (scS w t cs)) := by
 unfold Q2m
 refine Ret.ctl (Z1 cs (fun k s => s = Z70 w t cs k ∧ ∀ i, i < k → (Q27 w t cs i).isSome = true) (fun r => r.2 = false ∧ ¬ ∀ i, i < cs.length → (Q27 w t cs i).isSome = true) (fun s => s = Z70 w t cs cs.length ∧ ∀ i, i < cs.length → (Q27 w t cs i).isSome = true) ⟨rfl, fun i h => by omega⟩ (fun k c s hc hI => ?_) (fun s hI => hI)) (fun r hr => .some ?_) (fun s hs => ?_)
 ·obtain ⟨hI, hall⟩ := hI
  have hk := (List.getElem?_eq_some_iff.1 hc).1
  rw [Z22 hww ht hk]
  simp only [Option.bind_some]
  cases hr : Q27 w t cs k with
  | none =>
   simp only [optR, Bool.not_false, if_true]
   exact .some ⟨rfl, fun h => by have := h k hk; rw [hr] at this; cases this⟩
  | some r =>
   simp only [optR, Bool.not_true, Bool.false_eq_true, if_false]
   rw [W6 (by rw [hI, Q77]; simp only [List.length_cons, List.length_nil, Q6]; omega)]
   refine .some ⟨by rw [Z9e, hI, hr]; rfl, fun i hi => ?_⟩
   by_cases hik : i = k
   ·rw [hik, hr]; rfl
   ·exact hall i (by omega)
 ·have : scS w t cs = none := by unfold scS; rw [if_neg (fun h => hr.2 h.1)]
  rw [this]
  exact hr.1
 ·obtain ⟨hs, hall⟩ := hs
  subst hs
  dsimp only
  rw [Z8e hww (ww hww) (we hww) ht cs]
  simp only [Option.bind_some]
  rw [W6 (by rw [Q77]; simp only [List.length_cons, List.length_nil, Q6]; omega)]
  simp only [Option.bind_some]
  refine .some ?_
  unfold scS
  cases hm : Z3c w t cs with
  | none =>
   rw [if_neg (fun h => by have := h.2; cases this)]
   rfl
  | some r =>
   rw [if_pos ⟨hall, rfl⟩]
   rfl
theorem Z6d {w : List Q3} (hww : w ∈ Q0g) {t : Q2} (ht : t ∈ tys w) {cs : List Q5} (hf : ∀ c ∈ cs, Z2n w t c) (h8 : cs.length ≤ 8) : Ret (Q4v NN w t cs) (ScR (scS w t cs)) := by
 unfold Q4v
 refine Ret.ctl (Z1 cs (fun k s => s = Z70 w t cs k ∧ ∀ i, i < k → (Q27 w t cs i).isSome = true) (fun r => r.2 = false ∧ ¬ ∀ i, i < cs.length → (Q27 w t cs i).isSome = true) (fun s => s = Z70 w t cs cs.length ∧ ∀ i, i < cs.length → (Q27 w t cs i).isSome = true) ⟨rfl, fun i h => by omega⟩ (fun k c s hc hI => ?_) (fun s hI => hI)) (fun r hr => .some ?_) (fun s hs => ?_)
 ·obtain ⟨hI, hall⟩ := hI
  have hk := (List.getElem?_eq_some_iff.1 hc).1
  rw [Z89 hww ht hf hk]
  simp only [Option.bind_some]
  cases hr : Q27 w t cs k with
  | none =>
   simp only [optR, Bool.not_false, if_true]
   exact .some ⟨rfl, fun h => by have := h k hk; rw [hr] at this; cases this⟩
  | some r =>
   simp only [optR, Bool.not_true, Bool.false_eq_true, if_false]
   rw [W6 (by rw [hI, Q77]; simp only [List.length_cons, List.length_nil, Q6]; omega)]
   refine .some ⟨by rw [Z9e, hI, hr]; rfl, fun i hi => ?_⟩
   by_cases hik : i = k
   ·rw [hik, hr]; rfl
   ·exact hall i (by omega)
 ·have : scS w t cs = none := by unfold scS; rw [if_neg (fun h => hr.2 h.1)]
  rw [this]
  exact hr.1
 ·obtain ⟨hs, hall⟩ := hs
  subst hs
  dsimp only
  rw [Z8a hww (ww hww) (we hww) ht cs]
  simp only [Option.bind_some]
  rw [W6 (by rw [Q77]; simp only [List.length_cons, List.length_nil, Q6]; omega)]
  simp only [Option.bind_some]
  refine .some ?_
  unfold scS
  cases hm : Z3c w t cs with
  | none =>
   rw [if_neg (fun h => by have := h.2; cases this)]
   rfl
  | some r =>
   rw [if_pos ⟨hall, rfl⟩]
   rfl
def com1 (w : List Q3) (t : Q2) (a b : Q0) : Bool := match Q05 11 a b with
 | some m => !V2 w 11 t m
 | none => false
def comB (w : List Q3) (t : Q2) (xs ys : List Q0) : Bool := xs.any fun a => ys.any fun b => com1 w t a b
theorem Z3t {α : Type} {l : List α} {k : Nat} {x : α} {f : α → Bool} (h : l[k]? = some x) : (l.take (k + 1)).any f = ((l.take k).any f || f x) := by
 rw [List.take_add_one, h]
 simp
theorem X0f {w : List Q3} (hww : w ∈ Q0g) {t : Q2} (ht : t ∈ tys w) {xs ys : List Q0} (hx : ∀ a ∈ xs, Z7 w 11 t a) (hy : ∀ b ∈ ys, Z7 w 11 t b) : J4 NN ⟨w, dimP w⟩ t xs ys = some (comB w t xs ys) := by
 have hw := ww hww
 suffices hs : Ret (J4 NN ⟨w, dimP w⟩ t xs ys) (fun r => r = comB w t xs ys) by
  obtain ⟨a, e, rfl⟩ := hs
  exact e
 unfold J4
 refine Ret.ctl (Z1 xs (fun k _ => comB w t (xs.take k) ys = false) (fun r => r = true ∧ comB w t xs ys = true) (fun _ => comB w t xs ys = false) (by simp [comB]) (fun k a s ha hI => ?_) (fun s hI => by rwa [List.take_length] at hI)) (fun r hr => .some (by rw [hr.1, hr.2])) (fun s hs => .some hs.symm)
 have pa := hx a (List.mem_of_getElem? ha)
 have hin : ∀ b ∈ ys, com1 w t a b = true → comB w t xs ys = true := fun b hb h => List.any_eq_true.2 ⟨a, List.mem_of_getElem? ha, List.any_eq_true.2 ⟨b, hb, h⟩⟩
 refine Ret.ctl (R := fun (r : Ctl Bool Unit) => r = .ret true ∧ comB w t xs ys = true) (B := fun (_ : Unit) => (ys.any fun b => com1 w t a b) = false) ?_ (fun r hr => ?_) (fun s hs => .some ?_)
 ·refine Z1 ys (fun j _ => ((ys.take j).any fun b => com1 w t a b) = false) (fun (r : Ctl Bool Unit) => r = .ret true ∧ comB w t xs ys = true) (fun _ => (ys.any fun b => com1 w t a b) = false) (by simp) (fun j b u hb hJ => ?_) (fun u hJ => by rwa [List.take_length] at hJ)
  have pb := hy b (List.mem_of_getElem? hb)
  have hbm := List.mem_of_getElem? hb
  rw [Z2c hw (dimP w) 11 NN 11 t a b ht pa pb (by decide)]
  simp only [Option.bind_some]
  have hnext : com1 w t a b = false → ((ys.take (j + 1)).any fun b => com1 w t a b) = false := fun h => by rw [Z3t hb, hJ, h]; rfl
  cases hm : Q05 11 a b with
  | none =>
   simp only [Z1r, Bool.false_eq_true, if_false, Option.bind_some]
   exact .some (hnext (by unfold com1; rw [hm]))
  | some m =>
   simp only [Z1r, if_true]
   rw [Z0v hww hw 11 NN t m ht (Q84 11 11 t a b m (Nat.le_refl _) pa pb hm) (by decide)]
   simp only [Option.bind_some]
   cases hem : V2 w 11 t m with
   | false =>
    simp only [Bool.not_false, if_true, Option.bind_some]
    exact .some ⟨rfl, hin b hbm (by unfold com1; rw [hm]; simp [hem])⟩
   | true =>
    simp only [Bool.not_true, Bool.false_eq_true, if_false, Option.bind_some]
    exact .some (hnext (by unfold com1; rw [hm]; simp [hem]))
 ·rw [hr.1]
  exact .some ⟨rfl, hr.2⟩
 ·show comB w t (xs.take (k + 1)) ys = false
  unfold comB at hI ⊢
  rw [Z3t ha, hI, hs]
  rfl
theorem X00 {w : List Q3} (hww : w ∈ Q0g) {t : Q2} (ht : t ∈ tys w) {xs ys : List Q0} (hx : ∀ a ∈ xs, Z7 w 11 t a) (hy : ∀ b ∈ ys, Z7 w 11 t b) : Q3s NN w t xs ys = some (comB w t xs ys) := by
 have hw := ww hww
 suffices hs : Ret (Q3s NN w t xs ys) (fun r => r = comB w t xs ys) by
  obtain ⟨a, e, rfl⟩ := hs
  exact e
 unfold Q3s
 rw [hw.tab]
 simp only [Option.bind_some]
 refine Ret.ctl (Z1 xs (fun k _ => comB w t (xs.take k) ys = false) (fun r => r = true ∧ comB w t xs ys = true) (fun _ => comB w t xs ys = false) (by simp [comB]) (fun k a s ha hI => ?_) (fun s hI => by rwa [List.take_length] at hI)) (fun r hr => .some (by rw [hr.1, hr.2])) (fun s hs => .some hs.symm)
 have pa := hx a (List.mem_of_getElem? ha)
 have hin : ∀ b ∈ ys, com1 w t a b = true → comB w t xs ys = true := fun b hb h => List.any_eq_true.2 ⟨a, List.mem_of_getElem? ha, List.any_eq_true.2 ⟨b, hb, h⟩⟩
 refine Ret.ctl (R := fun (r : Ctl Bool Unit) => r = .ret true ∧ comB w t xs ys = true) (B := fun (_ : Unit) => (ys.any fun b => com1 w t a b) = false) ?_ (fun r hr => ?_) (fun s hs => .some ?_)
 ·refine Z1 ys (fun j _ => ((ys.take j).any fun b => com1 w t a b) = false) (fun (r : Ctl Bool Unit) => r = .ret true ∧ comB w t xs ys = true) (fun _ => (ys.any fun b => com1 w t a b) = false) (by simp) (fun j b u hb hJ => ?_) (fun u hJ => by rwa [List.take_length] at hJ)
  have pb := hy b (List.mem_of_getElem? hb)
  have hbm := List.mem_of_getElem? hb
  obtain ⟨z, hz⟩ := Z26 hw 11 NN 11 t a b ht pa pb (by decide)
  rw [hz]
  simp only [Option.bind_some]
  have hnext : com1 w t a b = false → ((ys.take (j + 1)).any fun b => com1 w t a b) = false := fun h => by rw [Z3t hb, hJ, h]; rfl
  cases hm : Q05 11 a b with
  | none =>
   simp only [Bool.false_eq_true, if_false, Option.bind_some]
   exact .some (hnext (by unfold com1; rw [hm]))
  | some m =>
   simp only [if_true]
   rw [Z0h hw 11 NN t m ht (Q84 11 11 t a b m (Nat.le_refl _) pa pb hm) (by decide)]
   simp only [Option.bind_some]
   cases hem : V2 w 11 t m with
   | false =>
    simp only [Bool.not_false, if_true, Option.bind_some]
    exact .some ⟨rfl, hin b hbm (by unfold com1; rw [hm]; simp [hem])⟩
   | true =>
    simp only [Bool.not_true, Bool.false_eq_true, if_false, Option.bind_some]
    exact .some (hnext (by unfold com1; rw [hm]; simp [hem]))
 ·rw [hr.1]
  exact .some ⟨rfl, hr.2⟩
 ·show comB w t (xs.take (k + 1)) ys = false
  unfold comB at hI ⊢
  rw [Z3t ha, hI, hs]
  rfl
def idxV (v : Q4) (cs : List Q5) : Nat := match runD v 0 cs with
 | some x => x.1
 | none => cs.length
theorem Z5r {w : List Q3} {t : Q2} {cs : List Q5} {xs : List (List Q0)} (h : scS w t cs = some xs) : xs.length = cs.length + 1 ∧ (∀ i, i < cs.length → ∃ r, Q27 w t cs i = some r ∧ xs[i]? = some r) ∧ ∃ r, Z3c w t cs = some r ∧ xs[cs.length]? = some r := by
 unfold scS at h
 split at h
 ·rename_i hh
  obtain ⟨h1, h2⟩ := hh
  cases h
  refine ⟨by simp [Q77], fun i hi => ?_, ?_⟩
  ·cases hr : Q27 w t cs i with
   | none => have := h1 i hi; rw [hr] at this; cases this
   | some r =>
    refine ⟨r, rfl, ?_⟩
    rw [List.getElem?_append_left (by rw [Q77]; exact hi)]
    unfold Z70
    rw [List.getElem?_map, List.getElem?_range hi]
    simp [hr]
  ·cases hm : Z3c w t cs with
   | none => rw [hm] at h2; cases h2
   | some r =>
    refine ⟨r, rfl, ?_⟩
    rw [List.getElem?_append_right (by rw [Q77]; omega), Q77]
    simp
 ·cases h
theorem Q6g {w : List Q3} {t : Q2} {cs : List Q5} {xs : List (List Q0)} (h : scS w t cs = some xs) : ∀ x ∈ xs, ∀ y ∈ x, Z7 w 11 t y := fun x hx => by
 obtain ⟨h1, h2, r, h3, h4⟩ := Z5r h
 obtain ⟨i, hi⟩ := List.mem_iff_getElem?.1 hx
 have hil := (List.getElem?_eq_some_iff.1 hi).1
 by_cases hic : i < cs.length
 ·obtain ⟨q, g1, g2⟩ := h2 i hic
  rw [hi] at g2
  cases g2
  exact X8z g1
 ·have : i = cs.length := by omega
  subst this
  rw [hi] at h4
  cases h4
  exact W2w h3
theorem Z5s {w : List Q3} (hww : w ∈ Q0g) {t : Q2} (ht : t ∈ tys w) {cs : List Q5} (hg : ∀ c ∈ cs, c.guard.op = 0) {xs : List (List Q0)} (h : scS w t cs = some xs) {e : Nat} {v : Q4} (hv : Q0s w e t v) {i : Nat} {x : List Q0} (hx : xs[i]? = some x) :
  (∃ y ∈ x, fitP y v = true) ↔ i = idxV v cs := by
 have hw := ww hww
 have he := we hww
 obtain ⟨h1, h2, r, h3, h4⟩ := Z5r h
 have hil := (List.getElem?_eq_some_iff.1 hx).1
 have gt : ∀ (c : Q5) (b : List X3), c.guard.op = 0 → Q4b c.guard b = true := fun c b h => by simp [Q4b, h]
 by_cases hic : i < cs.length
 ·obtain ⟨q, g1, g2⟩ := h2 i hic
  rw [hx] at g2
  cases g2
  obtain ⟨c, hc, hf⟩ := X2k hw he ht hv g1
  rw [hf]
  constructor
  ·rintro ⟨m1, m2⟩
   unfold idxV
   cases hr : runD v 0 cs with
   | none =>
    have := X03 hr c (List.mem_of_getElem? hc)
    cases hm : X6 10 c.pat v with
    | none => rw [hm] at m1; cases m1
    | some b => have := this b hm; rw [gt c b (hg c (List.mem_of_getElem? hc))] at this; cases this
   | some z =>
    obtain ⟨j, c', b', q1, q2, q3, q4, q5, q6⟩ := Q41 hr
    simp only
    have hjl := (List.getElem?_eq_some_iff.1 q1).1
    rcases Nat.lt_trichotomy j i with hji | hji | hji
    ·have hcm : c' ∈ cs.take i := by
      rw [List.mem_iff_getElem?]
      exact ⟨j, by rw [List.getElem?_take, if_pos hji, q1]⟩
     have := m2 c' hcm (hg c' (List.mem_of_getElem? q1))
     rw [this] at q3
     cases q3
    ·omega
    ·cases hm : X6 10 c.pat v with
     | none => rw [hm] at m1; cases m1
     | some b =>
      have := q6 i c hji hc b hm
      rw [gt c b (hg c (List.mem_of_getElem? hc))] at this
      cases this
  ·intro hi
   unfold idxV at hi
   cases hr : runD v 0 cs with
   | none => rw [hr] at hi; simp only at hi; omega
   | some z =>
    rw [hr] at hi
    simp only at hi
    obtain ⟨j, c', b', q1, q2, q3, q4, q5, q6⟩ := Q41 hr
    have hji : j = i := by omega
    subst hji
    rw [hc] at q1
    cases q1
    refine ⟨by rw [q3]; rfl, fun c' hc' h0 => ?_⟩
    obtain ⟨k, hk⟩ := List.mem_iff_getElem?.1 hc'
    rw [List.getElem?_take] at hk
    split at hk
    ·rename_i hkj
     cases hm : X6 10 c'.pat v with
     | none => rfl
     | some b =>
      have := q6 k c' hkj hk b hm
      rw [gt c' b h0] at this
      cases this
    ·cases hk
 ·have hie : i = cs.length := by omega
  subst hie
  rw [hx] at h4
  cases h4
  rw [W6t hw he ht hv h3]
  constructor
  ·intro m
   unfold idxV
   cases hr : runD v 0 cs with
   | none => rfl
   | some z =>
    obtain ⟨j, c', b', q1, q2, q3, _⟩ := Q41 hr
    have hcm := List.mem_of_getElem? q1
    rw [m c' hcm (hg c' hcm)] at q3
    cases q3
  ·intro hi c hc h0
   unfold idxV at hi
   cases hr : runD v 0 cs with
   | none =>
    cases hm : X6 10 c.pat v with
    | none => rfl
    | some b =>
     have := X03 hr c hc b hm
     rw [gt c b h0] at this
     cases this
   | some z =>
    rw [hr] at hi
    simp only at hi
    obtain ⟨j, c', b', q1, q2, _⟩ := Q41 hr
    have := (List.getElem?_eq_some_iff.1 q1).1
    omega
theorem X10 {w : List Q3} (hww : w ∈ Q0g) {t : Q2} (ht : t ∈ tys w) {xs ys : List Q0} (hx : ∀ a ∈ xs, Z7 w 11 t a) (hy : ∀ b ∈ ys, Z7 w 11 t b) : comB w t xs ys = true ↔ ∃ v, Q0s w 21 t v ∧ (∃ a ∈ xs, fitP a v = true) ∧ ∃ b ∈ ys, fitP b v = true := by
 have hw := ww hww
 unfold comB
 constructor
 ·intro h
  obtain ⟨a, ha, h⟩ := List.any_eq_true.1 h
  obtain ⟨b, hb, h⟩ := List.any_eq_true.1 h
  unfold com1 at h
  cases hm : Q05 11 a b with
  | none => rw [hm] at h; cases h
  | some m =>
   rw [hm] at h
   simp only [Bool.not_eq_true'] at h
   obtain ⟨v, g1, g2⟩ := Z47 hw (wr hww) 11 t m ht (Q84 11 11 t a b m (Nat.le_refl _) (hx a ha) (hy b hb) hm) h
   obtain ⟨f1, f2⟩ := (Z5w 11 21 t a b 11 (hx a ha) (hy b hb) v g1).2 ⟨m, hm, g2⟩
   exact ⟨v, g1, ⟨a, ha, f1⟩, b, hb, f2⟩
 ·rintro ⟨v, g1, ⟨a, ha, f1⟩, b, hb, f2⟩
  refine List.any_eq_true.2 ⟨a, ha, List.any_eq_true.2 ⟨b, hb, ?_⟩⟩
  obtain ⟨m, hm, f3⟩ := (Z5w 11 21 t a b 11 (hx a ha) (hy b hb) v g1).1 ⟨f1, f2⟩
  unfold com1
  rw [hm]
  simp only [Bool.not_eq_true']
  cases hem : V2 w 11 t m with
  | false => rfl
  | true =>
   rw [Z7p hw (we hww) 11 21 t m v ht (Q84 11 11 t a b m (Nat.le_refl _) (hx a ha) (hy b hb) hm) hem g1] at f3
   cases f3
end Go.Proofs.YtbdkbdafhlcilaaGreat
namespace Go.Proofs.YtbdkbdafhlcilaaGreat
open Go Go.RowKit
theorem X4p : ∀ (d n : Nat) (a b : Q0), X69 d a → d ≤ n → Ret (Q0r n a b) (fun r => r = true ↔ a = b) := by
 intro d
 induction d with
 | zero => intro n a b h; exact h.elim
 | succ d ih =>
  intro n a b h hn
  obtain ⟨n, rfl⟩ : ∃ k, n = k + 1 := ⟨n - 1, by omega⟩
  have neq : ∀ {x y : Int}, (!ieq x y) = true → x ≠ y := fun h => by rw [Bool.not_eq_true', Z8] at h; exact h
  have eq : ∀ {x y : Int}, (!ieq x y) = false → x = y := fun h => by rw [Bool.not_eq_false', Z4] at h; exact h
  unfold Q0r
  refine Ret.ite (fun h1 => .some ⟨fun e => (by cases e), fun e => absurd (by rw [e]) (neq h1)⟩) (fun h1 => ?_)
  refine Ret.ite (fun h1 => .some ⟨fun e => (by cases e), fun e => absurd (by rw [e]) (neq h1)⟩) (fun h2 => ?_)
  refine Ret.ite (fun h1 => .some ⟨fun e => (by cases e), fun e => absurd (by rw [e]) (neq h1)⟩) (fun h3 => ?_)
  refine Ret.ite (fun h1 => .some ⟨fun e => (by cases e), fun e => absurd (by rw [e]) (neq h1)⟩) (fun h4 => ?_)
  refine Ret.ite (fun h1 => .some ⟨fun e => (by cases e), fun e => absurd (by rw [e]) (neq h1)⟩) (fun h5 => ?_)
  have key : Ret (Q34 a.kids b.kids (fun x y => Q0r n x y)) (fun r => r = true ↔ a.kids = b.kids) := Z8q a.kids b.kids _ (fun _ _ => True) (fun x hx y hy => ih n x y (h x hx) (by omega))
  refine Ret.mono (fun r hr => ?_) key
  exact ⟨fun e => Q0.ext' (eq h1) (eq h2) (eq h3) (eq h4) (eq h5) (hr.1 e), fun e => hr.2 (by rw [e])⟩
theorem Z66 (p : Q0) : X4 p = some (p.kids.all fun q => decide (q.op = 1)) := by
 have h : Ret (X4 p) (fun r => r = (p.kids.all fun q => decide (q.op = 1))) := by
  unfold X4
  refine Ret.ctl (Z1 p.kids (fun k _ => ∀ (j : Nat) (q : Q0), j < k → p.kids[j]? = some q → q.op = 1) (fun r => r = false ∧ (p.kids.all fun q => decide (q.op = 1)) = false) (fun _ => (p.kids.all fun q => decide (q.op = 1)) = true) (fun j q hj => by omega) (fun k x s hx hI => ?_) (fun s hI => ?_)) (fun r hr => .some (by rw [hr.1, hr.2])) (fun s hs => .some hs.symm)
  ·simp only [Q0h, Option.bind_some]
   refine Ret.ite (fun h => ?_) (fun h => ?_)
   ·rw [Bool.not_eq_true', Z8] at h
    refine .some ⟨rfl, ?_⟩
    rw [List.all_eq_false]
    exact ⟨x, List.mem_of_getElem? hx, by simpa using h⟩
   ·rw [Bool.not_eq_false', Z4] at h
    refine .some (fun j q hj hq => ?_)
    by_cases hjk : j = k
    ·subst hjk
     rw [hx] at hq
     cases hq
     exact h
    ·exact hI j q (by omega) hq
  ·rw [List.all_eq_true]
   intro q hq
   obtain ⟨j, hj⟩ := List.mem_iff_getElem?.1 hq
   simpa using hI j q ((List.getElem?_eq_some_iff.1 hj).1) hj
 obtain ⟨r, e, rfl⟩ := h
 exact e
theorem X7h (n m : Int) : Q5g n m = some (rng n m) := by
 unfold Q5g rng J2
 cases ieq n 0 <;> cases ieq m 9 <;> rfl
theorem W1w {n : Nat} {w : List Q3} {t : Q2} {a b : Q0} {E AA AB : Bool} {vs : List Q8} {cs : List Int} (hE : Q0r n a b = some E) (hV : Y8 n [] w t a = some vs)
  (hAA : X4 a = some AA) (hAB : X4 b = some AB) (hc : W0 w t = some cs) :
  Q6a n w t a b = some (if E = true then a else if ieq a.op 1 = true then a else if (ieq a.op 3 && (ieq b.op 3 && (ile a.n (wadd .i64 b.m 1) && ile b.n (wadd .i64 a.m 1)))) = true then rng (if ilt b.n a.n = true then b.n else a.n) (if ilt a.m b.m = true then b.m else a.m)
   else if (ieq b.op 1 && ieq (lenZ vs.length) 0) = true then b else if (ieq a.op 4 && (ieq b.op 4 && (AA && (AB && (!ieq a.ctor b.ctor && ieq (lenZ cs.length) 2))))) = true then anyP else Q0.mk 5 0 0 0 0 [a, b]) := by
 unfold Q6a
 simp only [Option.bind_some, hE, hV, hAA, hAB, hc, X7h, J2, Q0h, W72, Bool.and_assoc]
 generalize (ieq a.op 3 && (ieq b.op 3 && (ile a.n (wadd .i64 b.m 1) && ile b.n (wadd .i64 a.m 1)))) = x1
 generalize (ieq b.op 1 && ieq (lenZ vs.length) 0) = x2
 generalize (ieq a.op 4 && (ieq b.op 4 && (AA && (AB && (!ieq a.ctor b.ctor && ieq (lenZ cs.length) 2))))) = x3
 generalize ieq a.op 1 = x4
 cases E <;> cases x4 <;> cases x1 <;> cases x2 <;> cases x3 <;> first | rfl | (cases ilt b.n a.n <;> cases ilt a.m b.m <;> rfl)
end Go.Proofs.YtbdkbdafhlcilaaGreat
namespace Go.Proofs.YtbdkbdafhlcilaaGreat
open Go Go.RowKit
theorem Z1m {w : List Q3} : ∀ (d : Nat) (t : Q2) (p : Q0), altD w d t p → Q0a w d t p = true ∧ linD w d t p = true ∧ Q26 w d t p = []
 | 0, _, _, h => h.elim
 | d + 1, t, p, h => by
  rcases h with rfl | ⟨n, m, rfl, hd, g0, g1, g2⟩ | ⟨c, ks, rfl, hd, hc, hl, hk⟩ | ⟨a, b, rfl, ha, hb⟩
  ·simp [Q0a, Q5v, Q7i, V6, linD, Q26, ownV, Q19]
  ·simp [Q0a, Q5v, Q7i, V6, linD, Q26, ownV, Q19, hd, g0, g1, g2]
  ·have hkk : V6 w t (Q0.mk 4 c 0 0 0 ks) = Z5 w t c := by simp [V6]
   have hz : ∀ x ∈ (Z5 w t c).zip ks, Q0a w d x.1 x.2 = true ∧ linD w d x.1 x.2 = true ∧ Q26 w d x.1 x.2 = [] := fun x hx => by
    obtain ⟨j, hj⟩ := List.mem_iff_getElem?.1 hx
    rw [List.getElem?_zip_eq_some] at hj
    exact Z1m d x.1 x.2 (hk j x.1 x.2 hj.1 hj.2)
   have hv : Q26 w (d + 1) t (Q0.mk 4 c 0 0 0 ks) = [] := by
    rw [Q26, hkk]
    have e5 : ¬ (4 : Int) = 5 := by decide
    simp only [ownV, e5, if_false]
    rw [List.append_eq_nil_iff]
    refine ⟨by simp, ?_⟩
    rw [List.flatMap_eq_nil_iff]
    intro x hx
    exact (hz x (List.mem_of_mem_take hx)).2.2
   refine ⟨?_, ?_, hv⟩
   ·rw [Q0a, hkk, Bool.and_eq_true]
    refine ⟨by simp [Q5v, Q7i, hkk, hl, hc], ?_⟩
    rw [List.all_eq_true]
    exact fun x hx => (hz x hx).1
   ·rw [linD, hkk, hv, Bool.and_eq_true, List.all_eq_true]
    exact ⟨fun x hx => (hz x hx).2.1, by simp [Q19]⟩
  ·obtain ⟨a1, a2, a3⟩ := Z1m d t a ha
   obtain ⟨b1, b2, b3⟩ := Z1m d t b hb
   have hkk : V6 w t (Q0.mk 5 0 0 0 0 [a, b]) = [t, t] := by simp [V6]
   have hv : Q26 w (d + 1) t (Q0.mk 5 0 0 0 0 [a, b]) = [] := by
    rw [Q26, hkk]
    simp [ownV, a3]
   refine ⟨?_, ?_, hv⟩
   ·rw [Q0a, hkk]
    simp [Q5v, Q7i, hkk, a1, b1]
   ·rw [linD, hkk]
    simp [a2, b2, kv, hkk, a3, b3, Q8q]
theorem X3y (a b : Q0) : cntP.cntPs [a, b] = cntP a + cntP b := by simp [cntP.cntPs]
theorem W29 {w : List Q3} {d : Nat} {t : Q2} {n m : Int} (hd : t.data = -1) (g0 : 0 ≤ n) (g1 : n ≤ m) (g2 : m ≤ 9) : altD w (d + 1) t (rng n m) ∧ lvB 1 (rng n m) ∧ cntP (rng n m) = 1 := by
 unfold rng
 split
 ·exact ⟨.inl rfl, .inl rfl, by simp [anyP, cntP, cntP.cntPs]⟩
 ·exact ⟨.inr (.inl ⟨n, m, rfl, hd, g0, g1, g2⟩), .inr (.inl rfl), by simp [cntP, cntP.cntPs]⟩
theorem V6f : ∀ {m k : Nat} {p : Q0}, m ≤ k → lvB m p → lvB k p := fun {m k p} h hp => by
 induction h with
 | refl => exact hp
 | step _ ih => exact Z6z ih
theorem V16 {w : List Q3} (hw : WW w) {d n m : Nat} {t : Q2} {a b : Q0} (ht : t ∈ tys w) (ha : altD w d t a) (hb : altD w d t b) (la : lvB m a) (lb : lvB m b) (hc : cntP a + cntP b ≤ 1000) (hn : d + 10 ≤ n) :
  ∃ q, Q6a n w t a b = some q ∧ altD w (d + 1) t q ∧ lvB (m + 1) q ∧ cntP q ≤ 1 + cntP a + cntP b := by
 have hT := hw.ty t ht
 obtain ⟨ga, lia, va⟩ := Z1m d t a ha
 obtain ⟨gb, lib, vb⟩ := Z1m d t b hb
 obtain ⟨E, hE, _⟩ := X4p d n a b (Q93 d t a ga) (by omega)
 have hV := (Q63 hw d n t a [] ht ga (by omega) (by simp; omega)).1
 have hpa := Q5l a
 have hpb := Q5l b
 rw [W1w hE hV (Z66 a) (Z66 b) hT.c1]
 refine ⟨_, rfl, ?_⟩
 have rA : altD w (d + 1) t a ∧ lvB (m + 1) a ∧ cntP a ≤ 1 + cntP a + cntP b := ⟨Z1l d t a ha, Z6z la, by omega⟩
 have rB : altD w (d + 1) t b ∧ lvB (m + 1) b ∧ cntP b ≤ 1 + cntP a + cntP b := ⟨Z1l d t b hb, Z6z lb, by omega⟩
 have rAny : altD w (d + 1) t anyP ∧ lvB (m + 1) anyP ∧ cntP anyP ≤ 1 + cntP a + cntP b := ⟨.inl rfl, .inl rfl, by simp [anyP, cntP, cntP.cntPs]; omega⟩
 split
 ·exact rA
 split
 ·exact rA
 split
 ·rename_i hR
  simp only [Bool.and_eq_true, Z4, Q03] at hR
  obtain ⟨a3, b3, r1, r2⟩ := hR
  obtain ⟨oa, _⟩ := Q3x (Q2x ga)
  obtain ⟨ob, _⟩ := Q3x (Q2x gb)
  simp [Q7i, a3] at oa
  simp [Q7i, b3] at ob
  have h1 : 0 ≤ (if ilt b.n a.n = true then b.n else a.n) ∧ (if ilt b.n a.n = true then b.n else a.n) ≤ (if ilt a.m b.m = true then b.m else a.m) ∧ (if ilt a.m b.m = true then b.m else a.m) ≤ 9 := by
   simp only [X0]
   split <;> split <;> omega
  obtain ⟨q1, q2, q3⟩ := W29 (w := w) (d := d) oa.2.1.1.1 h1.1 h1.2.1 h1.2.2
  exact ⟨q1, V6f (by omega) q2, by omega⟩
 split
 ·exact rB
 split
 ·exact rAny
 ·refine ⟨.inr (.inr (.inr ⟨a, b, rfl, ha, hb⟩)), .inr (.inr ⟨.inr rfl, fun q hq => ?_⟩), ?_⟩
  ·simp only [List.mem_cons, List.not_mem_nil, or_false] at hq
   rcases hq with rfl | rfl
   ·exact la
   ·exact lb
  ·rw [Q1u]; simp only [X3y]; omega
theorem X8v {w : List Q3} (hw : WW w) : ∀ (d n m : Nat) (t : Q2) (p : Q0), t ∈ tys w → altD w d t p → lvB m p → cntP p ≤ 1000 → d + 12 ≤ n → ∃ q, Y7 n w t p = some q ∧ altD w d t q ∧ lvB m q ∧ cntP q ≤ cntP p := by
 intro d
 induction d with
 | zero => intro n m t p _ h; exact h.elim
 | succ d ih =>
  intro n m t p ht h l hc hn
  obtain ⟨n, rfl⟩ : ∃ k, n = k + 1 := ⟨n - 1, by omega⟩
  have hT := hw.ty t ht
  rcases h with rfl | ⟨a, b, rfl, hd, g0, g1, g2⟩ | ⟨c, ks, rfl, hd, hcm, hl, hk⟩ | ⟨a, b, rfl, ha, hb⟩
  ·refine ⟨_, ?_, .inl rfl, l, Nat.le_refl _⟩
   unfold Y7
   rfl
  ·obtain ⟨q1, q2, q3⟩ := W29 (w := w) (d := d) (n := a) (m := b) hd g0 g1 g2
   refine ⟨rng a b, ?_, q1, ?_, ?_⟩
   ·unfold Y7
    rw [if_pos (by rw [Z4]), X7h]
    rfl
   ·cases m with
    | zero => exact absurd (show (3 : Int) = 1 from l) (by decide)
    | succ m => exact V6f (by omega) q2
   ·rw [q3]; exact Q5l _
  ·have hcp := Q1u (Q0.mk 4 c 0 0 0 ks)
   simp only at hcp
   obtain ⟨m, rfl⟩ : ∃ k, m = k + 1 := by
    cases m with
    | zero => exact absurd (show (4 : Int) = 1 from l) (by decide)
    | succ m => exact ⟨m, rfl⟩
   have lk : ∀ q ∈ ks, lvB m q := by
    rcases l with l | l | ⟨_, l⟩
    ·simp at l
    ·simp at l
    ·exact l
   suffices hs : Ret (Y7 (n + 1) w t (Q0.mk 4 c 0 0 0 ks)) (fun q => altD w (d + 1) t q ∧ lvB (m + 1) q ∧ cntP q ≤ cntP (Q0.mk 4 c 0 0 0 ks)) by
    obtain ⟨q, e, h1, h2, h3⟩ := hs
    exact ⟨q, e, h1, h2, h3⟩
   unfold Y7
   rw [if_neg (by rw [Z4]; simp), if_neg (by rw [Z4]; simp), if_neg (by rw [Z4]; simp), if_pos (by rw [Z4]), hT.a1 c hcm]
   simp only [Option.bind_some]
   have hal := hT.al c hcm
   refine Ret.ctl (Z1 (Z5 w t c) (fun k s => s.length = k ∧ cntP.cntPs s ≤ cntP.cntPs (ks.take k) ∧ ∀ (j : Nat) (u : Q2) (q : Q0), (Z5 w t c)[j]? = some u → s[j]? = some q → altD w d u q ∧ lvB m q) (fun _ => False)
    (fun s => s.length = (Z5 w t c).length ∧ cntP.cntPs s ≤ cntP.cntPs ks ∧ ∀ (j : Nat) (u : Q2) (q : Q0), (Z5 w t c)[j]? = some u → s[j]? = some q → altD w d u q ∧ lvB m q) ⟨rfl, by simp [cntP.cntPs], fun j u q _ h => by simp at h⟩ (fun k u s hu hI => ?_) (fun s hI => ?_)) (fun r hr => hr.elim) (fun s hs => ?_)
   ·obtain ⟨i1, i2, i3⟩ := hI
    have hkl := (List.getElem?_eq_some_iff.1 hu).1
    have hx : ks[k]? = some (ks[k]'(by omega)) := List.getElem?_eq_getElem (by omega)
    generalize ks[k]'(by omega) = x at hx
    have hck := Q70 (p := Q0.mk 4 c 0 0 0 ks) hx
    rw [Q2a hx]
    simp only [Option.bind_some]
    obtain ⟨q, e, h1, h2, h3⟩ := ih n m u x (hT.at_ c hcm u (List.mem_of_getElem? hu)) (hk k u x hu hx) (lk x (List.mem_of_getElem? hx)) (by omega) (by omega)
    rw [e]
    simp only [Option.bind_some]
    rw [W6 (by simp only [List.length_cons, List.length_nil, Q6]; omega)]
    have hsn : ∀ (l : List Q0) (y : Q0), cntP.cntPs (l ++ [y]) = cntP.cntPs l + cntP y := fun l y => by
     induction l with
     | nil => simp [cntP.cntPs]
     | cons a l ihl => simp only [List.cons_append, cntP.cntPs, ihl]; omega
    refine .some ⟨by simp [i1], ?_, fun j u' q' e1 e2 => ?_⟩
    ·rw [hsn, List.take_add_one, hx]
     simp only [Option.toList_some]
     rw [hsn]
     omega
    ·rw [List.getElem?_append] at e2
     split at e2
     ·exact i3 j u' q' e1 e2
     ·rename_i hjl
      have hj0 : j - s.length = 0 := by
       have := (List.getElem?_eq_some_iff.1 e2).1
       simp only [List.length_singleton] at this
       omega
      rw [hj0] at e2
      simp only [List.getElem?_cons_zero, Option.some.injEq] at e2
      have : j = k := by omega
      subst this
      rw [hu] at e1
      cases e1
      subst e2
      exact ⟨h1, h2⟩
   ·rw [← hl, List.take_length] at hI
    exact ⟨by rw [← hl]; exact hI.1, hI.2.1, hI.2.2⟩
   ·obtain ⟨s1, s2, s3⟩ := hs
    dsimp only
    have hres : altD w (d + 1) t (Q0.mk 4 c 0 0 0 s) ∧ lvB (m + 1) (Q0.mk 4 c 0 0 0 s) ∧ cntP (Q0.mk 4 c 0 0 0 s) ≤ cntP (Q0.mk 4 c 0 0 0 ks) := by
     refine ⟨.inr (.inr (.inl ⟨c, s, rfl, hd, hcm, s1, fun j u q e1 e2 => (s3 j u q e1 e2).1⟩)), .inr (.inr ⟨.inl rfl, fun q hq => ?_⟩), ?_⟩
     ·obtain ⟨j, hj⟩ := List.mem_iff_getElem?.1 hq
      have hjl := (List.getElem?_eq_some_iff.1 hj).1
      have hjl : j < s.length := hjl
      have hja : j < (Z5 w t c).length := by omega
      exact (s3 j _ q (List.getElem?_eq_getElem hja) hj).2
     ·rw [Q1u, Q1u]; simp only; omega
    refine Ret.ctl (R := fun q => q = anyP) (B := fun (_ : Unit) => True) ?_ (fun r hr => .some (by rw [hr]; exact ⟨.inl rfl, .inl rfl, by have := Q5l (Q0.mk 4 c 0 0 0 ks); simp [anyP, cntP, cntP.cntPs] at this ⊢⟩)) (fun _ _ => .some hres)
    rw [hT.c1]
    simp only [Option.bind_some]
    refine Ret.ite (fun _ => ?_) (fun _ => .some trivial)
    rw [Z66]
    simp only [Option.bind_some]
    exact Ret.ite (fun _ => .some rfl) (fun _ => .some trivial)
  ·have hcp := Q1u (Q0.mk 5 0 0 0 0 [a, b])
   simp only [X3y] at hcp
   obtain ⟨m, rfl⟩ : ∃ k, m = k + 1 := by
    cases m with
    | zero => exact absurd (show (5 : Int) = 1 from l) (by decide)
    | succ m => exact ⟨m, rfl⟩
   have lk : lvB m a ∧ lvB m b := by
    rcases l with l | l | ⟨_, l⟩
    ·simp at l
    ·simp at l
    ·exact ⟨l a (by simp), l b (by simp)⟩
   obtain ⟨qa, e1, a1, a2, a3⟩ := ih n m t a ht ha lk.1 (by omega) (by omega)
   obtain ⟨qb, e2, b1, b2, b3⟩ := ih n m t b ht hb lk.2 (by omega) (by omega)
   obtain ⟨q, e3, q1, q2, q3⟩ := V16 hw (n := n) ht a1 b1 a2 b2 (by omega) (by omega)
   refine ⟨q, ?_, q1, q2, by omega⟩
   unfold Y7
   rw [if_neg (by rw [Z4]; simp), if_pos (by rw [Z4]), show idx [a, b] 0 = some a from rfl, show idx [a, b] 1 = some b from rfl]
   simp only [Option.bind_some]
   rw [e1, e2]
   simp only [Option.bind_some]
   rw [e3]
   rfl
end Go.Proofs.YtbdkbdafhlcilaaGreat
namespace Go.Proofs.YtbdkbdafhlcilaaGreat
open Go Go.RowKit
def Z0j (w : List Q3) (t : Q2) (a b : List Q5) : Prop := J5 w t a = true ∧ J5 w t b = true ∧ a.length = b.length ∧ (∀ c ∈ a, c.guard.op = 0) ∧ ∀ c ∈ b, c.guard.op = 0
def scOk (w : List Q3) (t : Q2) (x y : List (List Q0)) : Prop := ∀ (i j : Nat) (a b : List Q0), x[i]? = some a → y[j]? = some b → i ≠ j → comB w t a b = false
def W0r (w : List Q3) (t : Q2) (a b : List Q5) (r : Bool × Bool) : Prop :=
 (¬ Z0j w t a b ∧ r = (false, false)) ∨ (Z0j w t a b ∧ (scS w t a = none ∨ scS w t b = none) ∧ r = (false, false)) ∨
 (Z0j w t a b ∧ ∃ x y, scS w t a = some x ∧ scS w t b = some y ∧ r.2 = true ∧ (r.1 = true ↔ scOk w t x y))
theorem V2l {w : List Q3} {t : Q2} {a b : List Q5} {r s : Bool × Bool} (h : W0r w t a b r) (k : W0r w t a b s) : r = s := by
 rcases h with ⟨h1, rfl⟩ | ⟨h1, h2, rfl⟩ | ⟨h1, x, y, h2, h3, h4, h5⟩
 ·rcases k with ⟨k1, rfl⟩ | ⟨k1, _⟩ | ⟨k1, _⟩
  ·rfl
  ·exact absurd k1 h1
  ·exact absurd k1 h1
 ·rcases k with ⟨k1, rfl⟩ | ⟨k1, k2, rfl⟩ | ⟨k1, x, y, k2, k3, _⟩
  ·rfl
  ·rfl
  ·rcases h2 with h2 | h2
   ·rw [h2] at k2; cases k2
   ·rw [h2] at k3; cases k3
 ·rcases k with ⟨k1, _⟩ | ⟨k1, k2, rfl⟩ | ⟨k1, x', y', k2, k3, k4, k5⟩
  ·exact absurd h1 k1
  ·rcases k2 with k2 | k2
   ·rw [k2] at h2; cases h2
   ·rw [k2] at h3; cases h3
  ·rw [h2] at k2; rw [h3] at k3
   cases k2; cases k3
   refine Prod.ext ?_ (by rw [h4, k4])
   rw [Bool.eq_iff_iff, h5, k5]
theorem Z9j (l : List Q5) : V7 l (fun a0 => Q2w a0) = some (l.any fun c => !ieq c.guard.op 0) := Z09 l _ (fun c => !ieq c.guard.op 0) (fun c _ => rfl)
theorem X75 (l : List Q5) : Q2t l = some (!(l.any fun c => !ieq c.guard.op 0)) := by
 suffices hs : Ret (Q2t l) (fun r => r = !(l.any fun c => !ieq c.guard.op 0)) by
  obtain ⟨a, e, rfl⟩ := hs
  exact e
 unfold Q2t
 refine Ret.ctl (Z1 l (fun k _ => ((l.take k).any fun c => !ieq c.guard.op 0) = false) (fun r => r = false ∧ (l.any fun c => !ieq c.guard.op 0) = true) (fun _ => (l.any fun c => !ieq c.guard.op 0) = false) (by simp) (fun k c s hc hI => ?_) (fun s hI => by rwa [List.take_length] at hI)) (fun r hr => .some (by rw [hr.1, hr.2]; rfl)) (fun s hs => .some (by rw [hs]; rfl))
 refine Ret.ite (fun h => .some ⟨rfl, List.any_eq_true.2 ⟨c, List.mem_of_getElem? hc, h⟩⟩) (fun h => .some ?_)
 show ((l.take (k + 1)).any fun c => !ieq c.guard.op 0) = false
 rw [Z3t hc, hI, h]
 rfl
theorem Q7c {l : List Q5} : (l.any fun c => !ieq c.guard.op 0) = false ↔ ∀ c ∈ l, c.guard.op = 0 := by
 rw [List.any_eq_false]
 constructor
 ·intro h c hc
  have := h c hc
  simpa [ieq] using this
 ·intro h c hc
  simp [ieq, h c hc]
theorem X8e {w : List Q3} {t : Q2} {x y : List (List Q0)} {F : List Q0 → List Q0 → Option Bool} (hF : ∀ a ∈ x, ∀ b ∈ y, F a b = some (comB w t a b)) :
  Ret (forL (fun (k1 : Nat) a (_ : Unit) => (forL (fun (k2 : Nat) b (_ : Unit) => ((if (!ieq (k1 : Int) (k2 : Int)) = true then (F a b).bind fun r => if r = true then some (Ctl.ret (Ctl.ret (Ctl.ret (false, true)))) else some (Ctl.brk ()) else some (Ctl.brk ())).bind fun (o : Ctl (Ctl (Ctl (Bool × Bool) Unit) Unit) Unit) => match o with
   | .ret r => some r
   | .go _ => none
   | .brk _ => some (Ctl.go ()))) 0 y ()).bind fun (o : Ctl (Ctl (Bool × Bool) Unit) Unit) => match o with
   | .ret r => some r
   | .go _ => none
   | .brk _ => some (Ctl.go ())) 0 x ()) (CtlQ (fun r => r = (false, true) ∧ ¬ scOk w t x y) (fun _ => scOk w t x y)) := by
 refine Z1 x (fun k _ => ∀ (i j : Nat) (a b : List Q0), i < k → x[i]? = some a → y[j]? = some b → i ≠ j → comB w t a b = false) (fun r => r = (false, true) ∧ ¬ scOk w t x y) (fun _ => scOk w t x y) (fun i j a b h => by omega) (fun k a s ha hI => ?_) (fun s hI i j a b h1 h2 h3 => hI i j a b (List.getElem?_eq_some_iff.1 h1).1 h1 h2 h3)
 have ham := List.mem_of_getElem? ha
 refine Ret.ctl (R := fun (r : Ctl (Bool × Bool) Unit) => r = .ret (false, true) ∧ ¬ scOk w t x y) (B := fun (_ : Unit) => ∀ (j : Nat) (b : List Q0), y[j]? = some b → k ≠ j → comB w t a b = false) ?_ (fun r hr => ?_) (fun s hs => .some ?_)
 ·refine Z1 y (fun j _ => ∀ (j' : Nat) (b : List Q0), j' < j → y[j']? = some b → k ≠ j' → comB w t a b = false) (fun (r : Ctl (Bool × Bool) Unit) => r = .ret (false, true) ∧ ¬ scOk w t x y) (fun _ => ∀ (j : Nat) (b : List Q0), y[j]? = some b → k ≠ j → comB w t a b = false) (fun j b h => by omega) (fun j b u hb hJ => ?_) (fun u hJ j b hj hne => hJ j b (List.getElem?_eq_some_iff.1 hj).1 hj hne)
  have hbm := List.mem_of_getElem? hb
  have step : (k ≠ j → comB w t a b = false) → ∀ (j' : Nat) (b' : List Q0), j' < j + 1 → y[j']? = some b' → k ≠ j' → comB w t a b' = false := fun h j' b' hj' hb' hne => by
   by_cases hjj : j' = j
   ·subst hjj
    rw [hb] at hb'
    cases hb'
    exact h hne
   ·exact hJ j' b' (by omega) hb' hne
  by_cases hkj : k = j
  ·have e : (!ieq (k : Int) (j : Int)) = false := by simp [ieq, hkj]
   simp only [e, Bool.false_eq_true, if_false, Option.bind_some]
   exact .some (step fun h => absurd hkj h)
  ·have e : (!ieq (k : Int) (j : Int)) = true := by rw [Bool.not_eq_true', Z8]; omega
   simp only [e, if_true]
   rw [hF a ham b hbm]
   simp only [Option.bind_some]
   cases hc : comB w t a b with
   | true =>
    simp only [if_true, Option.bind_some]
    refine .some ⟨rfl, fun h => ?_⟩
    rw [h k j a b ha hb hkj] at hc
    cases hc
   | false =>
    simp only [Bool.false_eq_true, if_false, Option.bind_some]
    exact .some (step fun _ => hc)
 ·rw [hr.1]
  exact .some ⟨rfl, hr.2⟩
 ·intro i j a' b hi h1 h2 h3
  by_cases hik : i = k
  ·subst hik
   rw [ha] at h1
   cases h1
   exact hs j b h2 h3
  ·exact hI i j a' b (by omega) h1 h2 h3
theorem Z73 {w : List Q3} (hww : w ∈ Q0g) {t : Q2} (ht : t ∈ tys w) (a b : List Q5) : Ret (Q1t NN w t a b) (W0r w t a b) := by
 have hw := ww hww
 unfold Q1t
 rw [Q3w hw ht, Q3w hw ht]
 simp only [Option.bind_some]
 have no : ¬ Z0j w t a b → Ret (some (false, false)) (W0r w t a b) := fun h => .some (.inl ⟨h, rfl⟩)
 cases ha : J5 w t a with
 | false => exact no fun h => by rw [h.1] at ha; cases ha
 | true =>
 simp only [Bool.not_true, Bool.false_eq_true, if_false]
 cases hb : J5 w t b with
 | false => exact no fun h => by rw [h.2.1] at hb; cases hb
 | true =>
 simp only [Bool.not_true, Bool.false_eq_true, if_false]
 refine Ret.ite (fun h => no fun g => ?_) (fun hl => ?_)
 ·rw [g.2.2.1] at h
  simp [ieq] at h
 have hlen : a.length = b.length := by
  rw [Bool.not_eq_false', Z4, Q0k, Q0k] at hl
  omega
 rw [Z9j, Z9j]
 simp only [Option.bind_some]
 refine Ret.ite (fun h => no fun g => ?_) (fun ga => ?_)
 ·rw [Q7c.2 g.2.2.2.1] at h; cases h
 refine Ret.ite (fun h => no fun g => ?_) (fun gb => ?_)
 ·rw [Q7c.2 g.2.2.2.2] at h; cases h
 have hg : Z0j w t a b := ⟨ha, hb, hlen, Q7c.1 ga, Q7c.1 gb⟩
 refine Ret.bind (Z71 hww ht (Q5c ha).1) (fun x hx => ?_)
 refine Ret.bind (Z71 hww ht (Q5c hb).1) (fun y hy => ?_)
 cases hsa : scS w t a with
 | none =>
  rw [hsa] at hx
  rw [if_pos (by rw [show x.2 = false from hx]; rfl)]
  exact .some (.inr (.inl ⟨hg, .inl hsa, rfl⟩))
 | some xs =>
 rw [hsa] at hx
 have hx : x = (xs, true) := hx
 subst hx
 simp only [Bool.not_true, Bool.false_eq_true, if_false]
 cases hsb : scS w t b with
 | none =>
  rw [hsb] at hy
  rw [if_pos (by rw [show y.2 = false from hy]; rfl)]
  exact .some (.inr (.inl ⟨hg, .inr hsb, rfl⟩))
 | some ys =>
 rw [hsb] at hy
 have hy : y = (ys, true) := hy
 subst hy
 simp only [Bool.not_true, Bool.false_eq_true, if_false]
 rw [(wl hww).dim]
 simp only [Option.bind_some]
 exact Ret.ctl (X8e (F := fun a b => J4 NN ⟨w, dimP w⟩ t a b) fun p hp q hq => X0f hww ht (Q6g hsa p hp) (Q6g hsb q hq))
  (fun r hr => .some (.inr (.inr ⟨hg, xs, ys, hsa, hsb, by rw [hr.1], by rw [hr.1]; exact ⟨fun h => (by cases h), fun h => absurd h hr.2⟩⟩)))
  (fun s hs => .some (.inr (.inr ⟨hg, xs, ys, hsa, hsb, rfl, ⟨fun _ => hs, fun _ => rfl⟩⟩)))
theorem W1v {w : List Q3} (hww : w ∈ Q0g) {t : Q2} (ht : t ∈ tys w) {a b : List Q5} (fa : ∀ c ∈ a, Z2n w t c) (fb : ∀ c ∈ b, Z2n w t c) : Ret (Q45 NN w t a b) (W0r w t a b) := by
 have hw := ww hww
 unfold Q45
 rw [Q5s hw ht, Q5s hw ht]
 simp only [Option.bind_some]
 have no : ¬ Z0j w t a b → Ret (some (false, false)) (W0r w t a b) := fun h => .some (.inl ⟨h, rfl⟩)
 cases ha : J5 w t a with
 | false => exact no fun h => by rw [h.1] at ha; cases ha
 | true =>
 simp only [Bool.not_true, Bool.false_eq_true, if_false]
 cases hb : J5 w t b with
 | false => exact no fun h => by rw [h.2.1] at hb; cases hb
 | true =>
 simp only [Bool.not_true, Bool.false_eq_true, if_false]
 refine Ret.ite (fun h => no fun g => ?_) (fun hl => ?_)
 ·rw [g.2.2.1] at h
  simp [ieq] at h
 have hlen : a.length = b.length := by
  rw [Bool.not_eq_false', Z4, Q0k, Q0k] at hl
  omega
 rw [X75, X75]
 simp only [Option.bind_some, Bool.not_not]
 refine Ret.ite (fun h => no fun g => ?_) (fun ga => ?_)
 ·rw [Q7c.2 g.2.2.2.1] at h; cases h
 refine Ret.ite (fun h => no fun g => ?_) (fun gb => ?_)
 ·rw [Q7c.2 g.2.2.2.2] at h; cases h
 have hg : Z0j w t a b := ⟨ha, hb, hlen, Q7c.1 ga, Q7c.1 gb⟩
 refine Ret.bind (Z6d hww ht fa (Q5c ha).1) (fun x hx => ?_)
 refine Ret.bind (Z6d hww ht fb (Q5c hb).1) (fun y hy => ?_)
 cases hsa : scS w t a with
 | none =>
  rw [hsa] at hx
  rw [if_pos (by rw [show x.2 = false from hx]; rfl)]
  exact .some (.inr (.inl ⟨hg, .inl hsa, rfl⟩))
 | some xs =>
 rw [hsa] at hx
 have hx : x = (xs, true) := hx
 subst hx
 simp only [Bool.not_true, Bool.false_eq_true, if_false]
 cases hsb : scS w t b with
 | none =>
  rw [hsb] at hy
  rw [if_pos (by rw [show y.2 = false from hy]; rfl)]
  exact .some (.inr (.inl ⟨hg, .inr hsb, rfl⟩))
 | some ys =>
 rw [hsb] at hy
 have hy : y = (ys, true) := hy
 subst hy
 simp only [Bool.not_true, Bool.false_eq_true, if_false]
 exact Ret.ctl (X8e (F := fun a b => Q3s NN w t a b) fun p hp q hq => X00 hww ht (Q6g hsa p hp) (Q6g hsb q hq))
  (fun r hr => .some (.inr (.inr ⟨hg, xs, ys, hsa, hsb, by rw [hr.1], by rw [hr.1]; exact ⟨fun h => (by cases h), fun h => absurd h hr.2⟩⟩)))
  (fun s hs => .some (.inr (.inr ⟨hg, xs, ys, hsa, hsb, rfl, ⟨fun _ => hs, fun _ => rfl⟩⟩)))
theorem W2p {w : List Q3} (hww : w ∈ Q0g) {t : Q2} (ht : t ∈ tys w) {x y : List (List Q0)} (hx : ∀ a ∈ x, ∀ p ∈ a, Z7 w 11 t p) (hy : ∀ b ∈ y, ∀ p ∈ b, Z7 w 11 t p) (h : scOk w t x y) : scOk w t y x := fun i j b a hb ha hne => by
 have h1 := h j i a b ha hb (Ne.symm hne)
 cases hc : comB w t b a with
 | false => rfl
 | true =>
  obtain ⟨v, g1, g2, g3⟩ := (X10 hww ht (hy b (List.mem_of_getElem? hb)) (hx a (List.mem_of_getElem? ha))).1 hc
  rw [(X10 hww ht (hx a (List.mem_of_getElem? ha)) (hy b (List.mem_of_getElem? hb))).2 ⟨v, g1, g3, g2⟩] at h1
  cases h1
theorem V19 {w : List Q3} (hww : w ∈ Q0g) {t : Q2} (ht : t ∈ tys w) {cs : List Q5} (hg : ∀ c ∈ cs, c.guard.op = 0) {x : List (List Q0)} (hs : scS w t cs = some x) : scOk w t x x := fun i j a b ha hb hne => by
 have hp := Q6g hs
 cases hc : comB w t a b with
 | false => rfl
 | true =>
  obtain ⟨v, g1, g2, g3⟩ := (X10 hww ht (hp a (List.mem_of_getElem? ha)) (hp b (List.mem_of_getElem? hb))).1 hc
  have e1 := (Z5s hww ht hg hs g1 ha).1 g2
  have e2 := (Z5s hww ht hg hs g1 hb).1 g3
  omega
theorem V6d {w : List Q3} (hww : w ∈ Q0g) {t : Q2} (ht : t ∈ tys w) {a b : List Q5} (h : Z0j w t a b) {x y : List (List Q0)} (hx : scS w t a = some x) (hy : scS w t b = some y) (ho : scOk w t x y) {v : Q4} (hv : Q0s w 21 t v) : (runR (runD v 0 a)).1 = (runR (runD v 0 b)).1 := by
 obtain ⟨_, _, hlen, ga, gb⟩ := h
 have hle : ∀ (l : List Q5), idxV v l ≤ l.length := fun l => by
  unfold idxV
  cases hr : runD v 0 l with
  | none => exact Nat.le_refl _
  | some z =>
   obtain ⟨i, c, b', q1, q2, _⟩ := Q41 hr
   have := (List.getElem?_eq_some_iff.1 q1).1
   simp only
   omega
 obtain ⟨x1, _, _⟩ := Z5r hx
 obtain ⟨y1, _, _⟩ := Z5r hy
 have la := hle a
 have lb := hle b
 have ha : x[idxV v a]? = some (x[idxV v a]'(by omega)) := List.getElem?_eq_getElem (by omega)
 have hb : y[idxV v b]? = some (y[idxV v b]'(by omega)) := List.getElem?_eq_getElem (by omega)
 have f1 := (Z5s hww ht ga hx hv ha).2 rfl
 have f2 := (Z5s hww ht gb hy hv hb).2 rfl
 have heq : idxV v a = idxV v b := by
  refine Classical.byContradiction fun hne => ?_
  have h1 := ho _ _ _ _ ha hb hne
  rw [(X10 hww ht (Q6g hx _ (List.mem_of_getElem? ha)) (Q6g hy _ (List.mem_of_getElem? hb))).2 ⟨v, hv, f1, f2⟩] at h1
  cases h1
 unfold idxV at heq
 cases hra : runD v 0 a with
 | none =>
  rw [hra] at heq
  cases hrb : runD v 0 b with
  | none => rfl
  | some z =>
   rw [hrb] at heq
   obtain ⟨i, c, b', q1, q2, _⟩ := Q41 hrb
   have := (List.getElem?_eq_some_iff.1 q1).1
   simp only at heq
   omega
 | some z =>
  rw [hra] at heq
  cases hrb : runD v 0 b with
  | none =>
   rw [hrb] at heq
   obtain ⟨i, c, b', q1, q2, _⟩ := Q41 hra
   have := (List.getElem?_eq_some_iff.1 q1).1
   simp only at heq
   omega
  | some u =>
   rw [hrb] at heq
   simp only at heq
   simp only [runR, heq]
end Go.Proofs.YtbdkbdafhlcilaaGreat
namespace Go.Proofs.YtbdkbdafhlcilaaGreat
open Go Go.RowKit
theorem W4s {w : List Q3} {t : Q2} {q : Q0} (h : altD w 10 t q) (hc : cntP q ≤ 60) : Q12 w t q = true := by
 obtain ⟨h1, h2, _⟩ := Z1m 10 t q h
 simp [Q12, h1, h2, hc]
theorem X68 (code : List Int) (hb : ∀ x ∈ code, 0 ≤ x ∧ x ≤ 255) : Ret (Q22 NN code) (fun a => a.1 ∈ Q0g ∧ a.2.1 ∈ tys a.1 ∧ (∀ c ∈ a.2.2.1, Z2n a.1 a.2.1 c) ∧ ∀ c ∈ a.2.2.2, Z2n a.1 a.2.1 c) := by
 unfold Q22
 refine Ret.bind (W2m code hb) (fun r hr => ?_)
 refine Ret.bind ((W1f (hr.le (by omega))).both (W1g r)) (fun a ha => ?_)
 obtain ⟨⟨h1, h2, h3, h4, h5⟩, h6⟩ := ha
 have hw := ww h1
 have hr1 : ROk a.2.2.2.2 900000 := ROk.nx (c := 4000) (hr.le (by omega)) h5
 have bare : ∀ p : Q0, Q12 a.1 a.2.1 p = true → lvB 3 (X7 10 p) → altD a.1 10 a.2.1 (X7 10 p) ∧ lvB 3 (X7 10 p) ∧ cntP (X7 10 p) ≤ 60 ∧ W8 NN p = some (X7 10 p) := fun p hv hl => by
  obtain ⟨g, c, _⟩ := Q3z hv
  exact ⟨Q6r Q7b 10 _ p g, hl, by have := Z64 10 p; omega, Z27 10 NN p (Q93 10 _ p g) (by decide) (by omega)⟩
 refine Ret.ctl (Z1 a.2.2.1 (fun k (s : Z0 × List Q5 × List Q5) => Nx a.2.2.2.2 s.1 (k * 201) ∧ s.2.1.length = k ∧ s.2.2.length = k ∧ (∀ c ∈ s.2.1, Z2n a.1 a.2.1 c) ∧ ∀ c ∈ s.2.2, V2p a.1 a.2.1 c) (fun _ => False)
  (fun s => Nx a.2.2.2.2 s.1 1005 ∧ s.2.2.length ≤ 5 ∧ (∀ c ∈ s.2.1, Z2n a.1 a.2.1 c) ∧ ∀ c ∈ s.2.2, V2p a.1 a.2.1 c) ⟨by simpa using Nx.refl _, rfl, rfl, by simp, by simp⟩ (fun k c s hc hI => ?_) (fun s hI => ⟨hI.1.le' (by have := Nat.mul_le_mul_right 201 h4; omega), by omega, hI.2.2.2⟩)) (fun r hr => hr.elim) (fun s hs => ?_)
 ·obtain ⟨i1, i2, i3, i4, i5⟩ := hI
  have hcm := List.mem_of_getElem? hc
  have hk := (List.getElem?_eq_some_iff.1 hc).1
  obtain ⟨b1, b2, b3, b4⟩ := bare c.pat (h3 c hcm) (h6 c hcm)
  have hkk : k * 201 ≤ 5 * 201 := Nat.mul_le_mul_right 201 (by omega)
  have hr2 : ROk s.1 800000 := ROk.nx (c := k * 201) (hr1.le (by omega)) i1
  rw [b4]
  simp only [Option.bind_some]
  rw [W6 (by simp only [List.length_cons, List.length_nil, Q6]; omega)]
  simp only [Option.bind_some]
  refine Ret.ctl (R := fun _ => False) (B := fun (u : Z0 × Q0) => Nx s.1 u.1 201 ∧ altD a.1 10 a.2.1 u.2 ∧ lvB 3 u.2 ∧ cntP u.2 ≤ 60) ?_ (fun r hr => hr.elim) (fun u hu => ?_)
  ·refine Ret.bind (Q3m (hr2.le (by omega)) (by omega) (by omega)) (fun z hz => ?_)
   refine Ret.ite (fun _ => ?_) (fun _ => .some ⟨hz.2.2.le' (by omega), b1, b2, b3⟩)
   have hr3 : ROk z.2 700000 := ROk.nx (c := 1) (hr2.le (by omega)) hz.2.2
   refine Ret.bind ((X6s hw h2 (hr3.le (by omega))).both (X6t _ _ _)) (fun y hy => ?_)
   obtain ⟨d1, d2, d3, d4⟩ := bare y.1 hy.1.1 hy.2
   rw [d4]
   exact .some ⟨(hz.2.2.trans hy.1.2).le' (by omega), d1, d2, d3⟩
  ·obtain ⟨u1, u2, u3, u4⟩ := hu
   obtain ⟨q, e, q1, q2, q3⟩ := X8v hw 10 NN 3 a.2.1 u.2 h2 u2 u3 (by omega) (by decide)
   dsimp only
   rw [e]
   simp only [Option.bind_some]
   rw [W6 (by simp only [List.length_cons, List.length_nil, Q6]; omega)]
   refine .some ⟨(i1.trans u1).le' (by omega), by simp [i2], by simp [i3], fun y hy => ?_, fun y hy => ?_⟩
   ·rcases List.mem_append.1 hy with hy | hy
    ·exact i4 y hy
    ·simp only [List.mem_singleton] at hy
     rw [hy]
     exact fun _ => Q8f 10 b2
   ·rcases List.mem_append.1 hy with hy | hy
    ·exact i5 y hy
    ·simp only [List.mem_singleton] at hy
     rw [hy]
     have hq60 : cntP q ≤ 60 := by omega
     exact ⟨W4s (q := q) q1 hq60, Q8f 10 q2⟩
 ·obtain ⟨s1, s2, s3, s4⟩ := hs
  have hr2 : ROk s.1 800000 := ROk.nx (c := 1005) (hr1.le (by omega)) s1
  dsimp only
  refine Ret.bind ((X96 (hr2.le (by omega)) s.2.2 (by omega) (fun c hc => by have := X8o hw h2 (s4 c hc).1; omega)).both (X97 s.1 s.2.2 s4)) (fun z hz => .some ⟨h1, h2, s3, hz.2⟩)
theorem W3w {w : List Q3} {t : Q2} {a b : List Q5} (h : Z0j w t a b) : Z0j w t b a := ⟨h.2.1, h.1, h.2.2.1.symm, h.2.2.2.2, h.2.2.2.1⟩
theorem W71 (code more : List Int) (hb : ∀ x ∈ code, 0 ≤ x ∧ x ≤ 255) : Q1r NN code more = some true := by
 suffices hr : Ret (Q1r NN code more) (fun r => r = true) by
  obtain ⟨_, e, rfl⟩ := hr
  exact e
 unfold Q1r
 refine Ret.ite (fun _ => .some rfl) (fun _ => ?_)
 refine Ret.ite (fun _ => .some rfl) (fun _ => ?_)
 refine Ret.bind (X68 code hb) (fun z hz => ?_)
 obtain ⟨w, t, a, b⟩ := z
 obtain ⟨hww, ht, fa, fb⟩ := hz
 simp only at hww ht fa fb ⊢
 have hw := ww hww
 refine Ret.bind (Z73 hww ht a b) (fun r hr => ?_)
 refine Ret.bind (W1v hww ht fa fb) (fun s hs => ?_)
 have hrs := V2l hr hs
 subst hrs
 simp only [beq_self_eq_true, Bool.not_true, Bool.false_eq_true, if_false, if_true]
 refine Ret.ite (fun _ => .some rfl) (fun hok => ?_)
 rw [Bool.not_eq_false'] at hok
 rcases hr with ⟨_, rfl⟩ | ⟨_, _, rfl⟩ | ⟨hg, x, y, hx, hy, _, hiff⟩
 ·cases hok
 ·cases hok
 obtain ⟨d, hd, d1, d3⟩ := rem3 more.length
 rw [hd]
 obtain ⟨vs, hvs, _, hvv⟩ := Z8d hw ht d1 d3
 rw [hvs]
 simp only [Option.bind_some]
 refine Ret.ctl (Z1 vs.1 (fun _ _ => True) (fun _ => False) (fun _ => True) trivial (fun k v u hv _ => ?_) (fun _ _ => trivial)) (fun r hr => hr.elim) (fun _ _ => ?_)
 ·refine Ret.ite (fun h1 => ?_) (fun _ => .some trivial)
  obtain ⟨v1, v2⟩ := hvv v (List.mem_of_getElem? hv)
  rw [X7i hw ht a v, X7i hw ht b v, W24 hg.1 v1, W24 hg.2.1 v1]
  simp only [Option.bind_some]
  have e : ieq (runR (runD v 0 a)).1 (runR (runD v 0 b)).1 = true := by
   rw [Z4]
   exact V6d hww ht hg hx hy (hiff.1 h1) (Z1f 4 21 t v (by omega) v2)
  simp only [e, Bool.not_true, Bool.false_eq_true, if_false]
  exact .some trivial
 ·dsimp only
  refine Ret.bind (Z73 hww ht b a) (fun r2 hr2 => ?_)
  refine Ret.bind (Z73 hww ht a a) (fun r3 hr3 => ?_)
  have hgaa : Z0j w t a a := ⟨hg.1, hg.1, rfl, hg.2.2.2.1, hg.2.2.2.1⟩
  rcases hr2 with ⟨h, _⟩ | ⟨_, h, _⟩ | ⟨_, y', x', hy', hx', k1, k2⟩
  ·exact absurd (W3w hg) h
  ·rcases h with h | h
   ·rw [h] at hy; cases hy
   ·rw [h] at hx; cases hx
  rw [hy] at hy'; rw [hx] at hx'
  cases hy'; cases hx'
  rcases hr3 with ⟨h, _⟩ | ⟨_, h, _⟩ | ⟨_, x1, x2, h1, h2, k3, k4⟩
  ·exact absurd hgaa h
  ·rcases h with h | h <;> (rw [h] at hx; cases hx)
  rw [hx] at h1 h2
  cases h1; cases h2
  have px := Q6g hx
  have py := Q6g hy
  have e1 : r2.1 = r.1 := by
   rw [Bool.eq_iff_iff, k2, hiff]
   exact ⟨fun h => W2p hww ht py px h, fun h => W2p hww ht px py h⟩
  have e2 : r3.1 = true := k4.2 (V19 hww ht hg.2.2.2.1 hx)
  rw [k1, e1, k3, e2]
  simp only [beq_self_eq_true, if_true]
  exact .some rfl
end Go.Proofs.YtbdkbdafhlcilaaGreat
