import Derived.Test.YtbdkbdafhlcilaaGreatBJP1
import Derived.Test.YtbdkbdafhlcilaaGreatBJP0
import Derived.Test.YtbdkbdafhlcilaaGreatBJE1
import Derived.Test.YtbdkbdafhlcilaaGreatBJE0
import Derived.Test.YtbdkbdafhlcilaaGreatBJMir
import Derived.Test.YtbdkbdafhlcilaaGreatBJMb0
import Derived.Test.YtbdkbdafhlcilaaGreatBJZb0
set_option linter.unusedSimpArgs false
set_option linter.unusedVariables false
namespace Go.Proofs.YtbdkbdafhlcilaaGreat
open Go Go.RowKit
def cntV : Q1 → Nat
 | ⟨_, _, kids⟩ => 1 + cntVs kids
where cntVs : List Q1 → Nat
 | [] => 0
 | v :: l => cntV v + cntVs l
theorem Z7n (v : Q1) : cntV v = 1 + cntV.cntVs v.kids := by cases v; rw [cntV]
theorem Z4a : ∀ (l : List Q1) (k : Nat) (q : Q1), l[k]? = some q → cntV.cntVs (l.take (k + 1)) = cntV.cntVs (l.take k) + cntV q
 | [], k, q, h => by simp at h
 | p :: l, 0, q, h => by simp at h; subst h; simp [cntV.cntVs]
 | p :: l, k + 1, q, h => by
  have := Z4a l k q (by simpa using h)
  simp only [List.take_succ_cons, cntV.cntVs]
  omega
theorem Q9l : ∀ (l : List Q1) (k : Nat), cntV.cntVs (l.take k) ≤ cntV.cntVs l
 | [], k => by simp
 | p :: l, 0 => by simp [cntV.cntVs]
 | p :: l, k + 1 => by
  have := Q9l l k
  simp only [List.take_succ_cons, cntV.cntVs]
  omega
def Q2p (w : List Q3) : Nat → Q5 → Q1 → Bool
 | 0, _, _ => false
 | d + 1, t, v => if t.data = -1 then decide (v.ctor = -1) && (decide (0 ≤ v.n) && (decide (v.n ≤ 9) && decide (v.kids.length = 0)))
  else decide (v.n = 0) && (decide (v.ctor ∈ X1 w t) && (decide (v.kids.length = (Y7 w t v.ctor).length) && ((Y7 w t v.ctor).zip v.kids).all fun x => Q2p w d x.1 x.2))
theorem X9e {w : List Q3} : ∀ (d : Nat) (t : Q5) (v : Q1), Q2p w d t v = true ↔ Q5x w d t v := by
 intro d
 induction d with
 | zero => intro t v; simp [Q2p, Q5x]
 | succ d ih =>
  intro t v
  rw [Q2p, Q5x]
  split
  ·simp only [Bool.and_eq_true, decide_eq_true_eq, List.length_eq_zero_iff]
  ·simp only [Bool.and_eq_true, decide_eq_true_eq, List.all_eq_true]
   constructor
   ·rintro ⟨h1, h2, h3, h4⟩
    exact ⟨h1, h2, h3, fun j a x ha hx => (ih a x).1 (h4 (a, x) (List.mem_of_getElem? (Q7n ha hx)))⟩
   ·rintro ⟨h1, h2, h3, h4⟩
    refine ⟨h1, h2, h3, fun x hx => ?_⟩
    obtain ⟨j, hj⟩ := List.mem_iff_getElem?.1 hx
    obtain ⟨e1, e2⟩ := List.getElem?_zip_eq_some.1 hj
    exact (ih _ _).2 (h4 j _ _ e1 e2)
def okV (w : List Q3) (d : Nat) (t : Q5) (v : Q1) (c : Nat) : Bool := Q2p w d t v && decide (c + cntV v ≤ 60)
def Z4g (w : List Q3) (t : Q5) (v : Q1) : Bool := Q2p w 10 t v && decide (cntV v ≤ 60)
theorem X4a {w : List Q3} {t : Q5} {v : Q1} (h : Z4g w t v = true) : Q5x w 10 t v := by
 simp only [Z4g, Bool.and_eq_true] at h
 exact (X9e 10 t v).1 h.1
theorem W24 {w : List Q3} {d : Nat} {t : Q5} {v : Q1} {c : Nat} (h : Q2p w d t v = false) : okV w d t v c = false := by simp [okV, h]
theorem V2k {w : List Q3} (hw : WW w) : ∀ (d n : Nat) (t : Q5) (v : Q1) (c : Nat), t ∈ tys w → c ≤ 60 → d + 2 ≤ n → d ≤ 10 →
  Ret (Q1w n w t v (11 - (d : Int)) false (c : Int)) (fun r => r.1 = okV w d t v c ∧ (okV w d t v c = true → r.2 = ((c + cntV v : Nat) : Int))) := by
 intro d
 induction d with
 | zero =>
  intro n t v c ht hc hn hd
  obtain ⟨n, rfl⟩ : ∃ k, n = k + 1 := ⟨n - 1, by omega⟩
  have hb : okV w 0 t v c = false := W24 rfl
  unfold Q1w
  refine Ret.ite (fun _ => .some ⟨hb.symm, fun h => by rw [hb] at h; cases h⟩) (fun _ => ?_)
  rw [if_pos (by rw [X2]; omega)]
  exact .some ⟨hb.symm, fun h => by rw [hb] at h; cases h⟩
 | succ d ih =>
  intro n t v c ht hc hn hd
  obtain ⟨n, rfl⟩ : ∃ k, n = k + 1 := ⟨n - 1, by omega⟩
  have hT := hw.ty t ht
  unfold Q1w
  have hc1 : wadd .i64 (c : Int) 1 = ((c + 1 : Nat) : Int) := by rw [V1] <;> omega
  rw [hc1]
  have hpos : 1 ≤ cntV v := by rw [Z7n]; omega
  refine Ret.ite (fun hlt => ?_) (fun hle => ?_)
  ·rw [X2] at hlt
   have hb : okV w (d + 1) t v c = false := by simp only [okV, Bool.and_eq_false_iff, decide_eq_false_iff_not]; right; omega
   exact .some ⟨hb.symm, fun h => by rw [hb] at h; cases h⟩
  rw [W5] at hle
  rw [if_neg (by rw [X2]; omega), if_neg (by simp)]
  have bad : Q2p w (d + 1) t v = false → okV w (d + 1) t v c = false := W24
  refine Ret.ctl (R := fun r : Bool × Int => r.1 = okV w (d + 1) t v c ∧ (okV w (d + 1) t v c = true → r.2 = ((c + cntV v : Nat) : Int))) (B := fun _ : Unit => t.data ≠ -1 ∧ v.n = 0 ∧ v.ctor ∈ X1 w t) ?_ (fun r hr => .some hr) (fun s hs => ?_)
  ·refine Ret.ite (fun hi => ?_) (fun hi => ?_)
   ·rw [X5] at hi
    have hg : Q2p w (d + 1) t v = (decide (v.ctor = -1) && (decide (0 ≤ v.n) && (decide (v.n ≤ 9) && decide (v.kids.length = 0)))) := by rw [Q2p, if_pos hi]
    refine Ret.ite (fun h1 => ?_) (fun h1 => ?_)
    ·rw [X5] at h1
     rw [Q7o]
     simp only [Option.bind_some]
     refine Ret.ite (fun h2 => ?_) (fun h2 => ?_)
     ·simp only [Bool.and_eq_true, decide_eq_true_eq] at h2
      have hk : Q2p w (d + 1) t v = decide (v.kids.length = 0) := by rw [hg]; simp [h1, h2.1, h2.2]
      refine .some ?_
      have h0 : v.kids.length = 0 → cntV v = 1 := fun h => by rw [Z7n, List.eq_nil_of_length_eq_zero h]; rfl
      by_cases hz : v.kids.length = 0
      ·have e1 : okV w (d + 1) t v c = true := by simp only [okV, hk, hz, decide_true, Bool.true_and, decide_eq_true_eq]; have := h0 hz; omega
       rw [e1]
       refine ⟨?_, fun _ => ?_⟩
       ·simp only [X5, lenZ]; omega
       ·have := h0 hz; simp only; omega
      ·have e1 : okV w (d + 1) t v c = false := bad (by rw [hk]; simp [hz])
       rw [e1]
       refine ⟨?_, fun h => by cases h⟩
       simp only [W2, lenZ]; omega
     ·have e1 : okV w (d + 1) t v c = false := bad (by
       rw [hg]
       simp only [Bool.and_eq_false_iff, decide_eq_false_iff_not] at h2 ⊢
       rcases h2 with h2 | h2
       ·exact .inr (.inl h2)
       ·exact .inr (.inr (.inl h2)))
      exact .some ⟨e1.symm, fun h => by rw [e1] at h; cases h⟩
    ·rw [W2] at h1
     have e1 : okV w (d + 1) t v c = false := bad (by rw [hg]; simp [h1])
     exact .some ⟨e1.symm, fun h => by rw [e1] at h; cases h⟩
   ·rw [W2] at hi
    have hg : Q2p w (d + 1) t v = (decide (v.n = 0) && (decide (v.ctor ∈ X1 w t) && (decide (v.kids.length = (Y7 w t v.ctor).length) && ((Y7 w t v.ctor).zip v.kids).all fun x => Q2p w d x.1 x.2))) := by rw [Q2p, if_neg hi]
    refine Ret.ite (fun h1 => ?_) (fun h1 => ?_)
    ·rw [Bool.not_eq_true', W2] at h1
     have e1 : okV w (d + 1) t v c = false := bad (by rw [hg]; simp [h1])
     exact .some ⟨e1.symm, fun h => by rw [e1] at h; cases h⟩
    rw [Bool.not_eq_false', X5] at h1
    rw [hT.c2]
    simp only [Option.bind_some]
    rw [Z0m]
    simp only [Option.bind_some]
    refine Ret.ite (fun h2 => ?_) (fun h2 => ?_)
    ·rw [Bool.not_eq_true', decide_eq_false_iff_not] at h2
     have e1 : okV w (d + 1) t v c = false := bad (by rw [hg]; simp [h2])
     exact .some ⟨e1.symm, fun h => by rw [e1] at h; cases h⟩
    rw [Bool.not_eq_false', decide_eq_true_eq] at h2
    exact .some ⟨hi, h1, h2⟩
  ·obtain ⟨s1, s2, s3⟩ := hs
   have hg : Q2p w (d + 1) t v = (decide (v.kids.length = (Y7 w t v.ctor).length) && ((Y7 w t v.ctor).zip v.kids).all fun x => Q2p w d x.1 x.2) := by rw [Q2p, if_neg s1]; simp [s2, s3]
   rw [hT.a2 _ s3]
   simp only [Option.bind_some]
   refine Ret.ite (fun hl => ?_) (fun hl => ?_)
   ·rw [Bool.not_eq_true', W2] at hl
    simp only [lenZ] at hl
    have e1 : okV w (d + 1) t v c = false := bad (by rw [hg]; simp only [Bool.and_eq_false_iff, decide_eq_false_iff_not]; left; omega)
    exact .some ⟨e1.symm, fun h => by rw [e1] at h; cases h⟩
   rw [Bool.not_eq_false', X5] at hl
   simp only [lenZ] at hl
   have hcv := Z7n v
   refine Ret.ctl (Z2 v.kids (fun k s => s = ((c + 1 + cntV.cntVs (v.kids.take k) : Nat) : Int) ∧ c + 1 + cntV.cntVs (v.kids.take k) ≤ 60 ∧ ∀ (j : Nat) (a : Q5) (x : Q1), j < k → (Y7 w t v.ctor)[j]? = some a → v.kids[j]? = some x → Q2p w d a x = true) (fun r : Bool × Int => r.1 = okV w (d + 1) t v c ∧ (okV w (d + 1) t v c = true → r.2 = ((c + cntV v : Nat) : Int))) (fun s => s = ((c + cntV v : Nat) : Int) ∧ okV w (d + 1) t v c = true) ⟨by simp [cntV.cntVs], by simp only [List.take_zero, cntV.cntVs]; omega, fun j a x hj => by omega⟩ (fun k x s hx hI => ?_) (fun s hI => ?_)) (fun r hr => .some hr) (fun s hs => .some ⟨hs.2.symm, fun _ => hs.1⟩)
   ·obtain ⟨rfl, i2, i3⟩ := hI
    have hk := (List.getElem?_eq_some_iff.1 hx).1
    have ha : (Y7 w t v.ctor)[k]? = some ((Y7 w t v.ctor)[k]'(by omega)) := by simp
    rw [Q3y ha]
    simp only [Option.bind_some]
    have hdd : wadd .i64 (11 - ((d + 1 : Nat) : Int)) 1 = 11 - (d : Int) := by rw [V1] <;> omega
    rw [hdd]
    refine Ret.bind (ih n _ x _ (hT.at_ _ s3 _ (List.mem_of_getElem? ha)) i2 (by omega) (by omega)) (fun r hr => ?_)
    obtain ⟨r1, r2⟩ := hr
    have htk := Z4a v.kids k x hx
    refine Ret.ite (fun h => ?_) (fun h => ?_)
    ·rw [Bool.not_eq_true', r1] at h
     have e1 : okV w (d + 1) t v c = false := by
      simp only [okV, Bool.and_eq_false_iff, decide_eq_false_iff_not] at h ⊢
      rcases h with h | h
      ·left
       rw [hg, Bool.and_eq_false_iff]
       right
       rw [List.all_eq_false]
       exact ⟨_, List.mem_of_getElem? (Q7n ha hx), by simp [h]⟩
      ·right
       have := Q9l v.kids (k + 1)
       omega
     exact .some ⟨e1.symm, fun h => by rw [e1] at h; cases h⟩
    ·rw [Bool.not_eq_false', r1] at h
     have r3 := r2 h
     simp only [okV, Bool.and_eq_true, decide_eq_true_eq] at h
     refine .some ⟨?_, by omega, fun j a y hj h1 h2 => ?_⟩
     ·rw [r3]; omega
     ·by_cases hjk : j = k
      ·subst hjk
       rw [ha] at h1
       rw [hx] at h2
       cases h1
       cases h2
       exact h.1
      ·exact i3 j a y (by omega) h1 h2
   ·obtain ⟨rfl, i2, i3⟩ := hI
    rw [List.take_length] at i2 ⊢
    refine ⟨by omega, ?_⟩
    simp only [okV, Bool.and_eq_true, decide_eq_true_eq]
    refine ⟨?_, by omega⟩
    rw [hg]
    simp only [Bool.and_eq_true, decide_eq_true_eq, List.all_eq_true]
    refine ⟨by omega, fun y hy => ?_⟩
    obtain ⟨j, hj⟩ := List.mem_iff_getElem?.1 hy
    obtain ⟨e1, e2⟩ := List.getElem?_zip_eq_some.1 hj
    exact i3 j _ _ (List.getElem?_eq_some_iff.1 e2).1 e1 e2
theorem X2p {w : List Q3} (hw : WW w) {t : Q5} (ht : t ∈ tys w) (v : Q1) : Q4f NN w t v = some (Z4g w t v) := by
 suffices hs : Ret (Q4f NN w t v) (fun r => r = Z4g w t v) by
  obtain ⟨a, e, rfl⟩ := hs
  exact e
 unfold Q4f
 refine Ret.bind (V2k hw 10 NN t v 0 ht (by omega) (by decide) (by omega)) (fun r hr => .some ?_)
 rw [hr.1]
 simp [okV, Z4g]
end Go.Proofs.YtbdkbdafhlcilaaGreat
namespace Go.Proofs.YtbdkbdafhlcilaaGreat
open Go Go.RowKit
theorem len0 (n : Nat) : ieq (lenZ n) 0 = decide (n = 0) := by
 by_cases h : n = 0
 ·subst h; rfl
 ·rw [decide_eq_false h, W2]; simp only [lenZ]; omega
end Go.Proofs.YtbdkbdafhlcilaaGreat
namespace Go.Proofs.YtbdkbdafhlcilaaGreat
open Go Go.RowKit
theorem X4k : ∀ (n : Nat) (p : Q1) (most : Nat), most < n → most ≤ 1000 → Q3g n p (most : Int) = some ((min (cntV p) (most + 1) : Nat) : Int) := by
 intro n
 induction n with
 | zero => intro p most h; omega
 | succ n ih =>
  intro p most hn hm
  unfold Q3g
  have key := Z2 (ρ := Int) (f := fun k94 x95 (s88 : Int) =>
   (if (ile s88 (most : Int)) = true then
   ((Q3g n x95 (wsub .i64 (most : Int) s88)).bind fun r103 =>
   some (Ctl.go (wadd .i64 s88 r103)))
   else
   some (Ctl.brk s88))) p.kids (s0 := 1) (fun k s => ∃ m : Nat, s = (m : Int) ∧ m = min (1 + cntV.cntVs (p.kids.take k)) (most + 1)) (fun _ => False) (fun s => s = ((min (cntV p) (most + 1) : Nat) : Int)) ⟨1, rfl, by simp [cntV.cntVs]⟩ (fun k q s hq hI => ?_) (fun s hI => ?_)
  ·have := Ret.ctl (Q := fun b => b = ((min (cntV p) (most + 1) : Nat) : Int)) key (g := fun (o : Ctl Int Int) => match o with
    | .ret r => some r
    | .go _ => none
    | .brk s => some s) (fun r hr => hr.elim) (fun s hs => .some hs)
   obtain ⟨b, e, rfl⟩ := this
   exact e
  ·obtain ⟨m, rfl, hm2⟩ := hI
   refine Ret.ite (fun h => ?_) (fun h => ?_)
   ·rw [J6] at h
    have hle : m ≤ most := by omega
    have hws : wsub .i64 (most : Int) (m : Int) = ((most - m : Nat) : Int) := by rw [Q1u (by omega) (by omega)]; omega
    rw [hws, ih q (most - m) (by omega) (by omega)]
    simp only [Option.bind_some]
    rw [V1 (by omega) (by omega)]
    refine .some ⟨m + min (cntV q) (most - m + 1), by push_cast; rfl, ?_⟩
    rw [Z4a p.kids k q hq]
    omega
   ·rw [Q5d] at h
    refine .some ?_
    have h1 := Q9l p.kids k
    have h2 := Z7n p
    show (m : Int) = _
    have : m = min (cntV p) (most + 1) := by omega
    rw [this]
  ·obtain ⟨m, rfl, hm2⟩ := hI
   rw [List.take_length] at hm2
   have h2 := Z7n p
   have : m = min (cntV p) (most + 1) := by omega
   rw [this]
theorem X4j {w : List Q3} (hw : WW w) : ∀ (d n : Nat) (t : Q5) (v : Q1), t ∈ tys w → d + 1 ≤ n → d ≤ 100 → Q2z n w t v (d : Int) = some (Q2p w d t v) := by
 intro d
 induction d with
 | zero =>
  intro n t v ht hn hd
  obtain ⟨m, rfl⟩ : ∃ m, n = m + 1 := ⟨n - 1, by omega⟩
  unfold Q2z
  rw [if_pos (by rw [X2]; omega)]
  rfl
 | succ d ih =>
  intro n t v ht hn hd
  obtain ⟨m, rfl⟩ : ∃ m, n = m + 1 := ⟨n - 1, by omega⟩
  have hT := hw.ty t ht
  suffices hs : Ret (Q2z (m + 1) w t v ((d + 1 : Nat) : Int)) (fun r => r = Q2p w (d + 1) t v) by
   obtain ⟨a, e, rfl⟩ := hs
   exact e
  unfold Q2z
  rw [if_neg (by rw [X2]; omega)]
  have hws : wsub .i64 ((d + 1 : Nat) : Int) 1 = (d : Int) := by rw [Q1u] <;> omega
  rw [hws]
  refine Ret.ite (fun hi => ?_) (fun hi => ?_)
  ·rw [X5] at hi
   have hg : Q2p w (d + 1) t v = (decide (v.ctor = -1) && (decide (0 ≤ v.n) && (decide (v.n ≤ 9) && decide (v.kids.length = 0)))) := by rw [Q2p, if_pos hi]
   rw [hg]
   refine Ret.ite (fun h1 => ?_) (fun h1 => .some ?_)
   ·rw [X5] at h1
    refine Ret.ite (fun h2 => ?_) (fun h2 => .some ?_)
    ·rw [J6] at h2
     refine Ret.ite (fun h3 => .some ?_) (fun h3 => .some ?_)
     ·rw [J6] at h3
      simp only [h1, h2, h3, decide_true, Bool.true_and]
      exact len0 _
     ·rw [Q5d] at h3
      simp [show ¬ v.n ≤ 9 by omega]
    ·rw [Q5d] at h2
     simp [show ¬ 0 ≤ v.n by omega]
   ·rw [W2] at h1
    simp [h1]
  ·rw [W2] at hi
   have hg : Q2p w (d + 1) t v = (decide (v.n = 0) && (decide (v.ctor ∈ X1 w t) && (decide (v.kids.length = (Y7 w t v.ctor).length) && ((Y7 w t v.ctor).zip v.kids).all fun x => Q2p w d x.1 x.2))) := by rw [Q2p, if_neg hi]
   rw [hg]
   refine Ret.ite (fun h1 => .some ?_) (fun h1 => ?_)
   ·rw [Bool.not_eq_true', W2] at h1
    simp [h1]
   rw [Bool.not_eq_false', X5] at h1
   rw [hT.c1]
   simp only [Option.bind_some]
   rw [W9f]
   simp only [Option.bind_some]
   refine Ret.ite (fun h2 => .some ?_) (fun h2 => ?_)
   ·rw [Bool.not_eq_true', decide_eq_false_iff_not] at h2
    simp [h2]
   rw [Bool.not_eq_false', decide_eq_true_eq] at h2
   rw [hT.a1 _ h2]
   simp only [Option.bind_some]
   refine Ret.ite (fun hl => .some ?_) (fun hl => ?_)
   ·rw [Bool.not_eq_true', W2] at hl
    simp only [lenZ] at hl
    have : ¬ v.kids.length = (Y7 w t v.ctor).length := by omega
    simp [this]
   rw [Bool.not_eq_false', X5] at hl
   simp only [lenZ] at hl
   have hl2 : v.kids.length = (Y7 w t v.ctor).length := by omega
   simp only [h1, h2, hl2, decide_true, Bool.true_and]
   refine Ret.ctl (Z2 (Y7 w t v.ctor) (fun k _ => ∀ (j : Nat) (a : Q5) (x : Q1), j < k → (Y7 w t v.ctor)[j]? = some a → v.kids[j]? = some x → Q2p w d a x = true) (fun b => b = false ∧ (((Y7 w t v.ctor).zip v.kids).all fun x => Q2p w d x.1 x.2) = false) (fun _ => (((Y7 w t v.ctor).zip v.kids).all fun x => Q2p w d x.1 x.2) = true) (fun j a x hj => by omega) (fun k a s ha hI => ?_) (fun s hI => ?_)) (fun r hr => .some (by rw [hr.1, hr.2])) (fun s hs => .some hs.symm)
   ·have hlt : k < v.kids.length := by have := (List.getElem?_eq_some_iff.1 ha).1; omega
    have hq : v.kids[k]? = some v.kids[k] := by simp [hlt]
    rw [Q3y hq]
    simp only [Option.bind_some]
    rw [ih m a v.kids[k] (hT.at_ _ h2 a (List.mem_of_getElem? ha)) (by omega) (by omega)]
    simp only [Option.bind_some]
    cases hgk : Q2p w d a v.kids[k] with
    | false =>
     refine .some ⟨rfl, ?_⟩
     rw [List.all_eq_false]
     exact ⟨(a, v.kids[k]), List.mem_of_getElem? (Q7n ha hq), by simp [hgk]⟩
    | true =>
     refine .some (fun j a' q' hj ha' hq' => ?_)
     by_cases hjk : j = k
     ·subst hjk
      rw [ha] at ha'
      rw [hq] at hq'
      cases ha'
      cases hq'
      exact hgk
     ·exact hI j a' q' (by omega) ha' hq'
   ·rw [List.all_eq_true]
    intro x hx
    obtain ⟨j, hj⟩ := List.mem_iff_getElem?.1 hx
    obtain ⟨h3, h4⟩ := List.getElem?_zip_eq_some.1 hj
    exact hI j x.1 x.2 ((List.getElem?_eq_some_iff.1 h3).1) h3 h4
theorem X1t {w : List Q3} (hw : WW w) {t : Q5} (ht : t ∈ tys w) (v : Q1) : Q7t NN w t v = some (Z4g w t v) := by
 unfold Q7t Z4g
 rw [show (10 : Int) = ((10 : Nat) : Int) from rfl, X4j hw 10 NN t v ht (by decide) (by omega)]
 simp only [Option.bind_some]
 cases Q2p w 10 t v with
 | false => rfl
 | true =>
  simp only [if_true, Bool.true_and]
  rw [show (60 : Int) = ((60 : Nat) : Int) from rfl, X4k NN v 60 (by decide) (by omega)]
  simp only [Option.bind_some]
  congr 1
  by_cases h : cntV v ≤ 60
  ·rw [decide_eq_true h, J6]; omega
  ·rw [decide_eq_false h, Q5d]; omega
end Go.Proofs.YtbdkbdafhlcilaaGreat
namespace Go.Proofs.YtbdkbdafhlcilaaGreat
open Go Go.RowKit
def maxN : List Nat → Nat
 | [] => 0
 | a :: l => max a (maxN l)
theorem X4t : ∀ {l : List Nat} {x : Nat}, x ∈ l → x ≤ maxN l
 | a :: l, x, h => by
  simp only [maxN]
  rcases List.mem_cons.1 h with rfl | h
  ·omega
  ·have := X4t h; omega
theorem X6x : ∀ {f g : Z9 → Nat} (l : List Z9), (∀ x ∈ l, f x ≤ g x) → maxN (l.map f) ≤ (l.map g).sum
 | _, _, [], _ => by simp [maxN]
 | f, g, a :: l, h => by
  have h1 := h a (by simp)
  have h2 := X6x (f := f) (g := g) l fun x hx => h x (by simp [hx])
  simp only [List.map_cons, maxN, List.sum_cons]
  omega
def Q10 : Nat → Z9 → Nat
 | 0, _ => 0
 | d + 1, t => maxN ((Q3z t).map (Q10 d)) + (if t.op = 2 then 1 else 0)
theorem X8n : ∀ (d : Nat) (t : Z9) (lst : List Q6) (v : Q1) (a : Int) (bs : List J7) (k : Nat), runT d t lst v = some (a, bs, k) → k ≤ Q10 d t := by
 intro d
 induction d with
 | zero => intro t lst v a bs k h; cases h
 | succ d ih =>
  intro t lst v a bs k h
  rw [runT] at h
  rw [Q10]
  split at h
  ·rename_i h2
   rw [if_pos h2]
   rw [Option.bind_eq_some_iff] at h
   obtain ⟨u, _, h⟩ := h
   split at h
   ·simp only [Option.some.injEq, Prod.mk.injEq] at h
    omega
   ·rename_i b hb
    rw [Option.map_eq_some_iff] at h
    obtain ⟨r, hr, h⟩ := h
    simp only [Prod.mk.injEq] at h
    have h3 := ih _ _ _ r.1 r.2.1 r.2.2 hr
    have h4 := X4t (List.mem_map_of_mem (f := Q10 d) (show b.tree ∈ Q3z t from List.mem_append_left _ (List.mem_map_of_mem (List.mem_of_find?_eq_some hb))))
    omega
  rename_i h2
  rw [if_neg h2]
  split at h
  ·rw [Option.bind_eq_some_iff] at h
   obtain ⟨c, _, h⟩ := h
   rw [Option.bind_eq_some_iff] at h
   obtain ⟨l, _, h⟩ := h
   split at h
   ·simp only [Option.some.injEq, Prod.mk.injEq] at h
    omega
   ·split at h
    ·rename_i el rest hel
     have h3 := ih _ _ _ a bs k h
     have h4 := X4t (List.mem_map_of_mem (f := Q10 d) (show el ∈ Q3z t from List.mem_append_right _ (by rw [hel]; simp)))
     omega
    ·cases h
  ·simp only [Option.some.injEq, Prod.mk.injEq] at h
   omega
theorem X8d : ∀ (d : Nat) (t : Z9), Q83 d t → Q10 d t ≤ Q5z d t := by
 intro d
 induction d with
 | zero => intro t h; exact h.elim
 | succ d ih =>
  intro t h
  rw [Q10, Q5z]
  have := X6x (f := Q10 d) (g := Q5z d) (Q3z t) fun x hx => ih x (h.2 x hx)
  split <;> omega
end Go.Proofs.YtbdkbdafhlcilaaGreat
namespace Go.Proofs.YtbdkbdafhlcilaaGreat
open Go Go.RowKit
theorem Z5w {d : Nat} {t : Z9} (h : Q83 d t) : Q2h t = some (Q3z t) := by
 cases d with
 | zero => exact h.elim
 | succ d =>
 obtain ⟨⟨h1, h2, h3, h4, h5⟩, h6⟩ := h
 suffices hs : Ret (Q2h t) (fun a => a = Q3z t) by
  obtain ⟨a, e, rfl⟩ := hs
  exact e
 unfold Q2h
 refine Ret.ctl (Z2 t.branches (fun i s => s = (t.branches.take i).map (fun b => b.tree)) (fun _ => False) (fun s => s = t.branches.map (fun b => b.tree)) (by simp) (fun i x s hi hI => ?_) (fun s hI => by rw [hI, List.take_length])) (fun r hr => hr.elim) (fun s hs => ?_)
 ·rw [X6 (by rw [hI]; simp only [List.length_map, List.length_take, List.length_cons, List.length_nil, Q4]; omega)]
  exact .some (by simp only [V6]; rw [hI, List.take_add_one, hi]; simp)
 ·subst hs
  dsimp only
  rw [X6 (by simp only [List.length_map, Q4]; omega)]
  exact .some rfl
theorem Z5v (f : Z9 → Nat) : ∀ (l : List Z9) (i : Nat), ((l.take i).map f).sum ≤ (l.map f).sum
 | [], i => by simp
 | x :: l, 0 => by simp
 | x :: l, i + 1 => by
  have := Z5v f l i
  simp only [List.take_succ_cons, List.map_cons, List.sum_cons]
  omega
theorem Z8y (f : Z9 → Nat) : ∀ (l : List Z9) (x : Z9), x ∈ l → f x ≤ (l.map f).sum
 | y :: l, x, h => by
  rcases List.mem_cons.1 h with rfl | h
  ·simp
  ·have := Z8y f l x h
   simp; omega
theorem W5p (f : Z9 → Nat) {l : List Z9} {i : Nat} {x : Z9} (h : l[i]? = some x) : ((l.take (i + 1)).map f).sum = ((l.take i).map f).sum + f x := by
 rw [List.take_add_one, h]; simp
theorem X4c : ∀ (d n : Nat) (t : Z9), Q83 d t → d ≤ n → Q5z d t ≤ 1000 → Q2i n t = some (Q5z d t : Int) := by
 intro d
 induction d with
 | zero => intro n t h; exact h.elim
 | succ d ih =>
  intro n t h hn hz
  obtain ⟨n, rfl⟩ : ∃ k, n = k + 1 := ⟨n - 1, by omega⟩
  suffices hs : Ret (Q2i (n + 1) t) (fun a => a = (Q5z (d + 1) t : Int)) by
   obtain ⟨a, e, rfl⟩ := hs
   exact e
  unfold Q2i
  rw [Z5w h]
  simp only [Option.bind_some]
  unfold Q5z at hz ⊢
  refine Ret.ctl (Z2 (Q3z t) (fun i s => s = ((1 + (((Q3z t).take i).map (Q5z d)).sum : Nat) : Int)) (fun _ => False) (fun s => s = ((1 + ((Q3z t).map (Q5z d)).sum : Nat) : Int)) (by simp) (fun i x s hi hI => ?_) (fun s hI => by rw [hI, List.take_length])) (fun r hr => hr.elim) (fun s hs => .some hs)
  have hm := List.mem_of_getElem? hi
  have h1 := Z8y (Q5z d) (Q3z t) x hm
  have h2 := Z5v (Q5z d) (Q3z t) i
  rw [ih n x (h.2 x hm) (by omega) (by omega)]
  simp only [Option.bind_some]
  refine .some ?_
  simp only [V6]
  rw [hI, W5p (Q5z d) hi, V1 (by omega) (by omega)]
  omega
end Go.Proofs.YtbdkbdafhlcilaaGreat
namespace Go.Proofs.YtbdkbdafhlcilaaGreat
open Go Go.RowKit
def byt (r : Z7) (i : Nat) : Nat := (r.b.getD i 0).toNat
def pk24 (r : Z7) (p : Nat) : Nat := if r.b.length = 0 then 0 else Zed.pkv (byt r) r.b.length p
theorem W9u {a : Nat} (h : a < 1099511627776) : wxor .i64 (a : Int) ((a / 64 : Nat) : Int) = ((a ^^^ (a / 64) : Nat) : Int) := by
 have e : (BitVec.ofInt IntKind.i64.bits (a : Int) ^^^ BitVec.ofInt IntKind.i64.bits ((a / 64 : Nat) : Int)).toNat = a ^^^ (a / 64) := by
  have ha : (BitVec.ofInt IntKind.i64.bits (a : Int)).toNat = a := by
   rw [BitVec.toNat_ofInt]
   show (((a : Int) % ((2 ^ 64 : Nat) : Int))).toNat = a
   omega
  have hb : (BitVec.ofInt IntKind.i64.bits ((a / 64 : Nat) : Int)).toNat = a / 64 := by
   rw [BitVec.toNat_ofInt]
   show ((((a / 64 : Nat) : Int) % ((2 ^ 64 : Nat) : Int))).toNat = a / 64
   omega
  rw [BitVec.toNat_xor, ha, hb]
 have hlt : a ^^^ (a / 64) < 2 ^ 40 := Nat.xor_lt_two_pow (by omega) (by omega)
 unfold wxor
 rw [e, Z24 (by omega) (by omega)]
theorem V5b {r : Z7} (hb : ∀ x ∈ r.b, 0 ≤ x ∧ x ≤ 255) (hl : r.b.length ≤ 2000) {p : Nat} (hp : r.p = (p : Int)) (hp2 : p ≤ 30000000) : Z4 r 24 = some (((pk24 r p : Nat) : Int), ⟨r.b, ((p + 1 : Nat) : Int)⟩) := by
 have ep : wadd .i64 r.p 1 = ((p + 1 : Nat) : Int) := by rw [hp, V1] <;> omega
 have eq : wsub .i64 ((p + 1 : Nat) : Int) 1 = (p : Int) := by rw [Q1u] <;> omega
 unfold Z4
 rw [ep, eq, if_neg (by rw [X2]; omega)]
 unfold pk24
 by_cases h0 : r.b.length = 0
 ·rw [if_pos (by rw [X5]; simp only [lenZ]; omega), if_pos h0]
  rfl
 rw [if_neg (by rw [X5]; simp only [lenZ]; omega), if_neg h0]
 have hpos : 0 < r.b.length := by omega
 have hk0 : chk (!ieq 24 0) = some () := rfl
 have hb0 : chk (!ieq (lenZ r.b.length) 0) = some () := Z9i (by rw [Bool.not_eq_true', W2]; simp only [lenZ]; omega)
 have get : ∀ i : Nat, i < r.b.length → idx r.b (i : Int) = some ((byt r i : Nat) : Int) ∧ byt r i ≤ 255 := fun i hi => by
  have h1 : r.b[i]? = some r.b[i] := List.getElem?_eq_getElem hi
  obtain ⟨b1, b2⟩ := hb _ (List.mem_of_getElem? h1)
  have h2 : byt r i = r.b[i].toNat := by unfold byt; rw [List.getD_eq_getElem?_getD, h1]; rfl
  rw [Q3y h1, h2]
  exact ⟨by congr 1; omega, by omega⟩
 unfold Zed.pkv
 by_cases hlt : p < r.b.length
 ·rw [if_pos (by rw [X2]; simp only [lenZ]; omega), if_pos hlt]
  obtain ⟨g1, g2⟩ := get p hlt
  rw [g1, hk0]
  simp only [Option.bind_some]
  rw [Z8r (by omega) (by omega)]
  congr 2
 ·rw [if_neg (by rw [X2]; simp only [lenZ]; omega), if_neg hlt, hb0]
  simp only [Option.bind_some]
  have e7 : wmul .i64 (p : Int) 7 = ((p * 7 : Nat) : Int) := by rw [Q72] <;> omega
  have e73 : wadd .i64 ((p * 7 : Nat) : Int) 3 = ((p * 7 + 3 : Nat) : Int) := by rw [V1] <;> omega
  rw [e7, e73]
  have rm : ∀ a : Nat, wrem (a : Int) (lenZ r.b.length) = ((a % r.b.length : Nat) : Int) := fun a => by
   unfold wrem lenZ
   rw [Int.tmod_eq_emod_of_nonneg (by omega)]
   rfl
  rw [rm, rm]
  obtain ⟨g1, g2⟩ := get (p % r.b.length) (Nat.mod_lt _ hpos)
  obtain ⟨g3, g4⟩ := get ((p * 7 + 3) % r.b.length) (Nat.mod_lt _ hpos)
  rw [g1, g3, hk0]
  simp only [Option.bind_some]
  generalize byt r (p % r.b.length) = x at g2 ⊢
  generalize byt r ((p * 7 + 3) % r.b.length) = y at g4 ⊢
  have f1 : wcv .i64 (x : Int) = (x : Int) := Z8r (by omega) (by omega)
  have f2 : wcv .i64 (y : Int) = (y : Int) := Z8r (by omega) (by omega)
  have f3 : wmul .i64 (x : Int) 131 = ((x * 131 : Nat) : Int) := by rw [Q72] <;> omega
  have f4 : wmul .i64 (y : Int) 1117 = ((y * 1117 : Nat) : Int) := by rw [Q72] <;> omega
  have f5 : wmul .i64 (p : Int) 29 = ((p * 29 : Nat) : Int) := by rw [Q72] <;> omega
  have hq : p / r.b.length ≤ p := Nat.div_le_self _ _
  have f6 : wquo .i64 (p : Int) (lenZ r.b.length) = ((p / r.b.length : Nat) : Int) := by
   have : (p : Int).tdiv (lenZ r.b.length) = ((p / r.b.length : Nat) : Int) := by
    rw [Int.tdiv_eq_ediv_of_nonneg (by omega)]
    rfl
   generalize p / r.b.length = q at hq this ⊢
   rw [Z9n (by rw [this]; omega) (by rw [this]; omega), this]
  rw [f1, f2, f3, f4, f5, f6]
  generalize p / r.b.length = q at hq ⊢
  have f7 : wmul .i64 (q : Int) 53 = ((q * 53 : Nat) : Int) := by rw [Q72] <;> omega
  have f8 : wadd .i64 ((x * 131 : Nat) : Int) ((y * 1117 : Nat) : Int) = ((x * 131 + y * 1117 : Nat) : Int) := by rw [V1] <;> omega
  have f9 : wadd .i64 ((x * 131 + y * 1117 : Nat) : Int) ((p * 29 : Nat) : Int) = ((x * 131 + y * 1117 + p * 29 : Nat) : Int) := by rw [V1] <;> omega
  have f10 : wadd .i64 ((x * 131 + y * 1117 + p * 29 : Nat) : Int) ((q * 53 : Nat) : Int) = ((x * 131 + y * 1117 + p * 29 + q * 53 : Nat) : Int) := by rw [V1] <;> omega
  rw [f7, f8, f9, f10]
  have hz : x * 131 + y * 1117 + p * 29 + q * 53 < 1099511627776 := by omega
  generalize x * 131 + y * 1117 + p * 29 + q * 53 = z at hz ⊢
  have f11 : wquo .i64 (z : Int) 64 = ((z / 64 : Nat) : Int) := by
   have : (z : Int).tdiv 64 = ((z / 64 : Nat) : Int) := by
    rw [Int.tdiv_eq_ediv_of_nonneg (by omega)]
    rfl
   rw [Z9n (by rw [this]; omega) (by rw [this]; omega), this]
  rw [f11]
  have f12 : wxor .i64 (z : Int) ((z / 64 : Nat) : Int) = ((z ^^^ (z / 64) : Nat) : Int) := W9u hz
  rw [f12]
  unfold Zed.yv
  have : wrem ((z ^^^ (z / 64) : Nat) : Int) 24 = (((z ^^^ (z / 64)) % 24 : Nat) : Int) := by
   unfold wrem
   rw [Int.tmod_eq_emod_of_nonneg (by omega)]
   rfl
  rw [this]
def widV (m : Nat) : Q1 → Prop
 | ⟨_, _, ks⟩ => ks.length ≤ m ∧ widVs m ks
where widVs (m : Nat) : List Q1 → Prop
 | [] => True
 | v :: l => widV m v ∧ widVs m l
theorem X1h (m : Nat) : ∀ l : List Q1, widV.widVs m l ↔ ∀ x ∈ l, widV m x
 | [] => by simp [widV.widVs]
 | v :: l => by simp only [widV.widVs, List.mem_cons, forall_eq_or_imp, X1h m l]
theorem Z0q (m : Nat) (v : Q1) : widV m v ↔ v.kids.length ≤ m ∧ ∀ x ∈ v.kids, widV m x := by
 cases v
 rw [widV, X1h]
theorem Z25 {m k : Nat} (h : m ≤ k) : ∀ v : Q1, widV m v → widV k v
 | ⟨a, b, ks⟩, hv => by
  rw [Z0q] at hv ⊢
  refine ⟨Nat.le_trans hv.1 h, fun x hx => ?_⟩
  have := hv.2 x hx
  exact Z25 h x this
termination_by v => SizeOf.sizeOf v
decreasing_by
 simp_wf
 have := List.sizeOf_lt_of_mem hx
 simp at this
 omega
theorem W1y {r r' : Z7} {k x : Int} (h : Z4 r k = some (x, r')) (hp : r.p ≤ 40000000) : r'.p = wadd .i64 r.p 1 := by
 unfold Z4 at h
 split at h
 ·cases h; rfl
 split at h
 ·cases h; rfl
 split at h
 ·simp only [Option.bind_eq_some_iff, Option.some.injEq, Prod.mk.injEq] at h
  obtain ⟨_, _, _, _, _, rfl⟩ := h
  rfl
 ·simp only [Option.bind_eq_some_iff, Option.some.injEq, Prod.mk.injEq] at h
  obtain ⟨_, _, _, _, _, _, _, _, _, rfl⟩ := h
  rfl
theorem X8u {b : List Int} (hb : ∀ x ∈ b, 0 ≤ x ∧ x ≤ 255) (hl : b.length ≤ 2000) {E : Nat} {V : Nat → Int} (hE : E ≤ 20000000) (hP : Zed.Pot (pk24 ⟨b, 0⟩) E V) : ∀ (k n : Nat) (v : Q1) (p m : Nat) (P : Int), E - p ≤ k → k < n → m ≤ 100 + p → widV m v → 1 ≤ P → 2 * P ≤ V p →
  Ret (Q1o n ⟨b, (p : Int)⟩ v) (fun a => ∃ p' : Nat, a.2 = ⟨b, (p' : Int)⟩ ∧ p < p' ∧ p' ≤ E + 2 ∧ 2 * (P - 1) ≤ V p' ∧ widV (m + (p' - p)) a.1) := by
 intro k
 induction k with
 | zero =>
  intro n v p m P hk hn hm hv h1 h2
  have := hP.fin p (by omega)
  omega
 | succ k ih =>
  intro n v p m P hk hn hm hv h1 h2
  obtain ⟨n, rfl⟩ : ∃ j, n = j + 1 := ⟨n - 1, by omega⟩
  have hpE : p < E := by
   rcases Nat.lt_or_ge p E with h | h
   ·exact h
   ·have := hP.fin p h
    omega
  have hv' := (Z0q m v).1 hv
  unfold Q1o
  rw [X6 (by simp only [List.length_nil, Q4]; omega)]
  simp only [Option.bind_some]
  have hpk := V5b (r := ⟨b, (p : Int)⟩) hb hl rfl (by omega : p ≤ 30000000)
  have hpe : pk24 ⟨b, (p : Int)⟩ p = pk24 ⟨b, 0⟩ p := rfl
  rw [hpe] at hpk
  simp only at hpk
  have hr1 : ROk ⟨b, ((p + 1 : Nat) : Int)⟩ 1 := ⟨hb, hl, by simp only; omega, by simp only; omega⟩
  refine Ret.ctl (R := fun _ => False) (B := fun (s : Z7 × Int × Int × List Q1) => ∃ p' : Nat, s.1 = ⟨b, (p' : Int)⟩ ∧ p < p' ∧ p' ≤ E + 2 ∧ 2 * (P - 1) ≤ V p' ∧ s.2.2.2.length ≤ m + (p' - p) ∧ ∀ x ∈ s.2.2.2, widV (m + (p' - p)) x) ?_ (fun r hr => hr.elim) (fun s hs => ?_)
  ·rw [hpk]
   simp only [Option.bind_some]
   have kidsOk : ∀ q : Nat, v.kids.length ≤ m + q ∧ ∀ x ∈ v.kids, widV (m + q) x := fun q => ⟨by omega, fun x hx => Z25 (by omega) x (hv'.2 x hx)⟩
   have skip : pk24 ⟨b, 0⟩ p ≤ 1 → ∀ (a : Int × Z7), Nx ⟨b, ((p + 1 : Nat) : Int)⟩ a.2 1 → a.2.p = ((p + 2 : Nat) : Int) → a.2 = ⟨b, ((p + 2 : Nat) : Int)⟩ ∧ 2 * (P - 1) ≤ V (p + 2) := fun h a hn hp2 => by
    have := hP.skip p hpE h
    refine ⟨?_, by omega⟩
    cases a with
    | mk x r =>
     cases r with
     | mk bb pp =>
      have e1 : bb = b := hn.b
      simp only at hp2
      rw [e1, hp2]
   have num2 : ∀ l : List Int, 1 ≤ l.length → l.length ≤ 1000 → Ret (X3 ⟨b, ((p + 1 : Nat) : Int)⟩ l) (fun a => Nx ⟨b, ((p + 1 : Nat) : Int)⟩ a.2 1 ∧ a.2.p = ((p + 2 : Nat) : Int)) := fun l hl1 hl2 => by
    obtain ⟨a, e, _, hn⟩ := Q6e hr1 l hl1 hl2
    refine ⟨a, e, hn, ?_⟩
    unfold X3 at e
    cases hpick : Z4 ⟨b, ((p + 1 : Nat) : Int)⟩ (lenZ l.length) with
    | none => rw [hpick] at e; cases e
    | some q =>
     rw [hpick] at e
     simp only [Option.bind_some] at e
     cases hi : idx l q.1 with
     | none => rw [hi] at e; cases e
     | some y =>
      rw [hi] at e
      simp only [Option.bind_some, Option.some.injEq] at e
      subst e
      simp only
      have := W1y hpick (by simp only; omega)
      rw [this]
      show wadd .i64 ((p + 1 : Nat) : Int) 1 = _
      rw [V1 (by omega) (by omega)]
      omega
   refine Ret.ite (fun h0 => ?_) (fun h0 => ?_)
   ·rw [X5] at h0
    refine Ret.bind (num2 _ (by simp) (by simp)) (fun a ha => .some ?_)
    obtain ⟨e1, e2⟩ := skip (by omega) a ha.1 ha.2
    exact ⟨p + 2, e1, by omega, by omega, e2, (kidsOk _).1, (kidsOk _).2⟩
   rw [W2] at h0
   refine Ret.ite (fun h1' => ?_) (fun h1' => ?_)
   ·rw [X5] at h1'
    refine Ret.bind (num2 _ (by simp) (by simp)) (fun a ha => .some ?_)
    obtain ⟨e1, e2⟩ := skip (by omega) a ha.1 ha.2
    exact ⟨p + 2, e1, by omega, by omega, e2, (kidsOk _).1, (kidsOk _).2⟩
   rw [W2] at h1'
   refine Ret.ite (fun h2' => ?_) (fun h2' => ?_)
   ·rw [X5] at h2'
    have hot := hP.other p hpE (by omega) (by omega)
    rw [X6 (by simp only [List.length_cons, List.length_nil, Q4]; omega)]
    refine .some ⟨p + 1, rfl, by omega, by omega, by omega, by simp only [List.length_append, List.length_cons, List.length_nil]; omega, fun x hx => ?_⟩
    rcases List.mem_append.1 hx with hx | hx
    ·exact (kidsOk _).2 x hx
    ·simp only [List.mem_singleton] at hx
     rw [hx, Z0q]
     exact ⟨by simp, fun y hy => by cases hy⟩
   rw [W2] at h2'
   refine Ret.ite (fun h3 => ?_) (fun h3 => ?_)
   ·rw [X5] at h3
    have hth := hP.three p hpE (by omega)
    refine Ret.ite (fun h4 => ?_) (fun h4 => ?_)
    ·rw [X2] at h4
     simp only [lenZ] at h4
     obtain ⟨x, hx, hxm⟩ := Q4a (xs := v.kids) (i := 0) (by omega) (by omega)
     rw [hx]
     simp only [Option.bind_some]
     refine Ret.bind (ih n x (p + 1) m (P + 1) (by omega) (by omega) (by omega) (hv'.2 x hxm) (by omega) (by omega)) (fun a ha => ?_)
     obtain ⟨p1, e1, e2, e3, e4, e5⟩ := ha
     rw [e1]
     refine Ret.bind (ih n a.1 p1 (m + (p1 - (p + 1))) P (by omega) (by omega) (by omega) e5 h1 (by omega)) (fun c hc => ?_)
     obtain ⟨p2, g1, g2, g3, g4, g5⟩ := hc
     have hset : setI v.kids 0 c.1 = some (v.kids.set 0 c.1) := by
      unfold setI
      rw [if_pos ⟨by omega, by show 0 < v.kids.length; omega⟩]
      rfl
     rw [hset]
     simp only [Option.bind_some]
     refine .some ⟨p2, g1, by omega, g3, g4, by simp only [List.length_set]; omega, fun y hy => ?_⟩
     rcases List.mem_or_eq_of_mem_set hy with hy | rfl
     ·exact (kidsOk _).2 y hy
     ·exact Z25 (by omega) _ g5
    ·exact .some ⟨p + 1, rfl, by omega, by omega, by omega, (kidsOk _).1, (kidsOk _).2⟩
   ·rw [W2] at h3
    have hot := hP.other p hpE (by omega) (by omega)
    exact .some ⟨p + 1, rfl, by omega, by omega, by omega, (kidsOk _).1, (kidsOk _).2⟩
  ·obtain ⟨p', e1, e2, e3, e4, e5, e6⟩ := hs
   exact .some ⟨p', e1, e2, e3, e4, (Z0q _ _).2 ⟨e5, e6⟩⟩
theorem X8v {r : Z7} (hr : ROk r 1) (hp : r.p ≤ 5000) {v : Q1} (hv : widV 100 v) : Ret (Q1o NN r v) (fun a => Nx r a.2 20000010) := by
 obtain ⟨b, p⟩ := r
 obtain ⟨h1, h2, h3, h4⟩ := hr
 simp only at h1 h2 h3 h4 hp
 obtain ⟨p, rfl⟩ := Int.eq_ofNat_of_zero_le h3
 have hex : ∃ E V, Zed.Pot (pk24 ⟨b, 0⟩) E V ∧ 2 ≤ V p ∧ E ≤ 20000000 := by
  by_cases hb : b.length = 0
  ·obtain ⟨E, V, g1, g2, g3⟩ := Zed.pot0 p
   refine ⟨E, V, ?_, g2, by omega⟩
   have : pk24 ⟨b, 0⟩ = fun _ => 0 := by
    funext q
    unfold pk24
    rw [if_pos hb]
   rw [this]
   exact g1
  ·obtain ⟨E, V, g1, g2, g3⟩ := Zed.pot (byt ⟨b, 0⟩) (fun i => by
    unfold byt
    simp only
    rw [List.getD_eq_getElem?_getD]
    cases hi : b[i]? with
    | none => simp
    | some x =>
     have := h1 x (List.mem_of_getElem? hi)
     simp only [Option.getD_some]
     omega) (L := b.length) (p0 := p) (by omega) h2 (by omega)
   refine ⟨E, V, ?_, g2, g3⟩
   have : pk24 ⟨b, 0⟩ = Zed.pkv (byt ⟨b, 0⟩) b.length := by
    funext q
    unfold pk24
    rw [if_neg hb]
   rw [this]
   exact g1
 obtain ⟨E, V, g1, g2, g3⟩ := hex
 refine Ret.mono ?_ (X8u h1 h2 g3 g1 (E - p) NN v p (100 + p) 1 (Nat.le_refl _) (by simp only [NN]; omega) (Nat.le_refl _) (Z25 (by omega) v hv) (by omega) (by omega))
 rintro a ⟨p', e1, e2, e3, _, _⟩
 rw [e1]
 refine ⟨rfl, ?_, ?_⟩
 ·show ((p : Nat) : Int) ≤ ((p' : Nat) : Int)
  omega
 ·show ((p' : Nat) : Int) ≤ ((p : Nat) : Int) + ((20000010 : Nat) : Int)
  omega
end Go.Proofs.YtbdkbdafhlcilaaGreat
namespace Go.Proofs.YtbdkbdafhlcilaaGreat
open Go Go.RowKit
def Par {α : Type} (x : Option α) (Q : α → Prop) : Prop := ∀ a, x = some a → Q a
theorem Par.some {α : Type} {a : α} {Q : α → Prop} (h : Q a) : Par (some a) Q := fun b e => by cases e; exact h
theorem Par.none {α : Type} {Q : α → Prop} : Par (none : Option α) Q := fun b e => by cases e
theorem Par.bind {α β : Type} {x : Option α} {f : α → Option β} {P : α → Prop} {Q : β → Prop} (hx : Par x P) (hf : ∀ a, P a → Par (f a) Q) : Par (x.bind f) Q := fun b e => by
 cases hx' : x with
 | none => rw [hx'] at e; cases e
 | some a => rw [hx'] at e; exact hf a (hx a hx') b e
theorem Par.any {α β : Type} {x : Option α} {f : α → Option β} {Q : β → Prop} (hf : ∀ a, Par (f a) Q) : Par (x.bind f) Q := Par.bind (P := fun _ => True) (fun _ _ => trivial) fun a _ => hf a
theorem Par.ite {α : Type} {b : Bool} {x y : Option α} {Q : α → Prop} (h1 : b = true → Par x Q) (h2 : b = false → Par y Q) : Par (if b = true then x else y) Q := by
 cases b with
 | true => exact h1 rfl
 | false => exact h2 rfl
theorem Par.mono {α : Type} {x : Option α} {P Q : α → Prop} (h : ∀ a, P a → Q a) (hx : Par x P) : Par x Q := fun a e => h a (hx a e)
theorem Par.ctl {ρ σ τ : Type} {x : Option (Ctl ρ σ)} {g : Ctl ρ σ → Option τ} {R : ρ → Prop} {B : σ → Prop} {Q : τ → Prop} (h : Par x (CtlQ R B)) (hr : ∀ r, R r → Par (g (.ret r)) Q) (hb : ∀ s, B s → Par (g (.brk s)) Q) : Par (x.bind g) Q :=
 Par.bind h fun a ha => by
  cases a with
  | ret r => exact hr r ha
  | brk s => exact hb s ha
  | go s => exact ha.elim
theorem X0m {α σ ρ : Type} {f : Nat → α → σ → Option (Ctl ρ σ)} (I : Nat → σ → Prop) (R : ρ → Prop) (B : σ → Prop) : ∀ (xs : List α) (i : Nat) (s0 : σ), I i s0 → (∀ k x s, x ∈ xs → I k s → Par (f k x s) (RndQ R B (I (k + 1)))) → (∀ s, I (i + xs.length) s → B s) → Par (forL f i xs s0) (CtlQ R B)
 | [], i, s0, h0, _, hb => by
  unfold forL
  exact .some (hb s0 (by simpa using h0))
 | x :: xs, i, s0, h0, st, hb => by
  unfold forL
  have h1 := st i x s0 (by simp) h0
  intro a e
  cases hf : f i x s0 with
  | none => rw [hf] at e; cases e
  | some o =>
   rw [hf] at e
   have h2 := h1 o hf
   cases o with
   | ret r => cases e; exact h2
   | brk s => cases e; exact h2
   | go s => exact X0m I R B xs (i + 1) s h2 (fun k y s hy => st k y s (by simp [hy])) (fun s hs => hb s (by simpa [Nat.add_assoc, Nat.add_comm 1] using hs)) a e
theorem Ret.both {α : Type} {x : Option α} {P Q : α → Prop} (h : Ret x P) (k : Par x Q) : Ret x (fun a => P a ∧ Q a) := by
 obtain ⟨a, e, hp⟩ := h
 exact ⟨a, e, hp, k a e⟩
theorem W42 {α : Type} (xs ys : List α) : Par (app xs ys) (fun z => z = xs ++ ys) := fun z hz => by
 unfold app at hz
 split at hz
 ·cases hz; rfl
 ·cases hz
end Go.Proofs.YtbdkbdafhlcilaaGreat
namespace Go.Proofs.YtbdkbdafhlcilaaGreat
open Go Go.RowKit
theorem X8t {code : List Int} {q : Z7} (h : ((if (ilt 2000 (lenZ code.length)) = true then ((Q73 code 2000).bind fun x8 => some (Ctl.brk (ρ := Z7) x8)) else some (Ctl.brk code))) = some (.ret q)) : False := by
 split at h
 ·cases ht : Q73 code 2000 with
  | none => rw [ht] at h; cases h
  | some x => rw [ht] at h; cases h
 ·cases h
theorem W3k {w : List Q3} (hw : WW w) : ∀ (n : Nat) (r : Z7) (t : Q5) (depth : Int), t ∈ tys w → Par (Q30 n r w (tabP w) t depth) (fun a => widV 3 a.1) := by
 intro n
 induction n with
 | zero => intro r t depth _; exact .none
 | succ n ih =>
  intro r t depth ht
  have hT := hw.ty t ht
  unfold Q30
  refine Par.ite (fun _ => ?_) (fun _ => ?_)
  ·exact Par.any fun a => .some ((Z0q _ _).2 ⟨by simp, fun x hx => by cases hx⟩)
  ·rw [hT.c1]
   simp only [Option.bind_some]
   refine Par.ctl (X0m (fun _ (s : List Int) => ∀ x ∈ s, x ∈ X1 w t) (fun _ => False) (fun s => ∀ x ∈ s, x ∈ X1 w t) (X1 w t) 0 _ (by simp) (fun k x s hx hI => ?_) (fun s hs => hs)) (fun r hr => hr.elim) (fun s hs => ?_)
   ·have add : Par ((app s [x]).bind fun x310 => some (Ctl.brk (ρ := Ctl (Q1 × Z7) (List Int)) x310)) (CtlQ (fun _ => False) (fun s' => ∀ x ∈ s', x ∈ X1 w t)) := by
     refine Par.bind (W42 _ _) (fun z hz => .some ?_)
     subst hz
     intro y hy
     rcases List.mem_append.1 hy with hy | hy
     ·exact hI y hy
     ·simp only [List.mem_singleton] at hy; rw [hy]; exact hx
    have pass : Par (some (Ctl.brk (ρ := Ctl (Q1 × Z7) (List Int)) s)) (CtlQ (fun _ => False) (fun s' => ∀ x ∈ s', x ∈ X1 w t)) := .some hI
    refine Par.ctl (R := fun _ => False) (B := fun (s' : List Int) => ∀ x ∈ s', x ∈ X1 w t) ?_ (fun r hr => hr.elim) (fun s' hs' => .some hs')
    refine Par.any fun a => Par.ite (fun _ => Par.ite (fun _ => add) (fun _ => Par.any fun b => Par.ite (fun _ => add) (fun _ => pass))) (fun _ => pass)
   ·refine Par.any fun a => ?_
    refine Par.bind (P := fun x => x ∈ X1 w t) (fun x hx => ?_) (fun x hx => ?_)
    ·unfold idx at hx
     split at hx
     ·exact hs x (List.mem_of_getElem? hx)
     ·cases hx
    ·rw [hT.a1 x hx]
     simp only [Option.bind_some]
     have hal := hT.al x hx
     refine Par.ctl (X0m (fun k (u : Z7 × List Q1) => u.2.length ≤ k ∧ ∀ y ∈ u.2, widV 3 y) (fun _ => False) (fun u => u.2.length ≤ 3 ∧ ∀ y ∈ u.2, widV 3 y) (Y7 w t x) 0 _ (by simp) (fun k y u hy hI => ?_) (fun u hu => ⟨by have := hu.1; omega, hu.2⟩)) (fun r hr => hr.elim) (fun u hu => .some ((Z0q _ _).2 hu))
     refine Par.bind (ih u.1 y _ (hT.at_ x hx y hy)) (fun b hb => ?_)
     refine Par.bind (W42 _ _) (fun z hz => .some ?_)
     subst hz
     refine ⟨by simp only [List.length_append, List.length_cons, List.length_nil]; have := hI.1; omega, fun q hq => ?_⟩
     rcases List.mem_append.1 hq with hq | hq
     ·exact hI.2 q hq
     ·simp only [List.mem_singleton] at hq; rw [hq]; exact hb
theorem X8a {r : Z7} (h : ROk r 1000) : Ret (Q3f NN r) (fun a => a.1 ∈ Q1c ∧ a.2.1 ∈ tys a.1 ∧ Nx r a.2.2.2 500 ∧ widV 3 a.2.2.1 ∧ depP a.1 a.2.1 ≠ 0) := by
 unfold Q3f
 refine Ret.bind (X6b (h.le (by omega))) (fun a ha => ?_)
 obtain ⟨hw, hn1⟩ := ha
 have hW := ww hw
 rw [hW.tab]
 simp only [Option.bind_some]
 have hr1 : ROk a.2 999 := ROk.nx (c := 1) h hn1
 have hpos := hW.pos
 have hle := hW.le
 refine Ret.bind (Q2r (hr1.le (by omega)) (k := lenZ a.1.length) (by simp only [lenZ]; omega) (by simp only [lenZ]; omega)) (fun b hb => ?_)
 have hr2 : ROk b.2 998 := ROk.nx (c := 1) hr1 hb.2.2
 refine Ret.bind (Q6e (hr2.le (by omega)) [0, 0, 1, 2] (by simp) (by simp)) (fun c hc => ?_)
 have hr3 : ROk c.2 997 := ROk.nx (c := 1) hr2 hc.2
 have hty : (Q5.mk b.1 c.1) ∈ tys a.1 := by
  obtain ⟨i, hi⟩ := Int.eq_ofNat_of_zero_le hb.1
  have hil : i < a.1.length := by have := hb.2.1; simp only [lenZ] at this; omega
  have hci : ∃ j : Nat, j < 4 ∧ c.1 = (j : Int) := by
   have := hc.1
   simp at this
   rcases this with h | h | h
   ·exact ⟨0, by omega, h⟩
   ·exact ⟨1, by omega, h⟩
   ·exact ⟨2, by omega, h⟩
  obtain ⟨j, hj, hcj⟩ := hci
  unfold tys
  refine List.mem_cons_of_mem _ (List.mem_flatMap.2 ⟨i, List.mem_range.2 hil, List.mem_map.2 ⟨j, List.mem_range.2 hj, ?_⟩⟩)
  rw [hi, hcj]
  rfl
 have htI : tI ∈ tys a.1 := by unfold tys; exact List.mem_cons_self
 refine Ret.ctl (R := fun _ => False) (B := fun s => (Q5.mk s.1 s.2) ∈ tys a.1 ∧ depP a.1 (Q5.mk s.1 s.2) ≠ 0) ?_ (fun r hr => hr.elim) (fun s hs => ?_)
 ·rw [(hW.ty _ hty).d1]
  simp only [Option.bind_some]
  refine Ret.ite (fun h => ?_) (fun h => ?_)
  ·refine .some ⟨htI, ?_⟩
   have := (hW.ty tI htI).ti rfl
   show depP a.1 tI ≠ 0
   omega
  ·rw [W2] at h
   exact .some ⟨hty, h⟩
 ·refine Ret.bind (Q6e (hr3.le (by omega)) [3, 2, 4, 1] (by simp) (by simp)) (fun d hd => ?_)
  have hr4 : ROk d.2 996 := ROk.nx (c := 1) hr3 hd.2
  have hd4 : 1 ≤ d.1 ∧ d.1 ≤ 4 := by
   have := hd.1
   simp at this
   omega
  have hdep := (hW.ty _ hs.1).d4
  refine Ret.bind ((X7t hW 4 NN d.2 _ d.1 hs.1 hs.2 (by omega) (by omega) (by omega) (by omega) (by decide) (hr4.le (by decide))).both (W3k hW NN d.2 _ d.1 hs.1)) (fun e he => ?_)
  refine .some ⟨hw, hs.1, ?_, he.2, hs.2⟩
  have := (((hn1.trans hb.2.2).trans hc.2).trans hd.2).trans he.1
  exact this.le' (by decide)
theorem X89 {r : Z7} (h : ROk r 5000) : Ret (Q25 NN r) (fun a => a.1 ∈ Q1c ∧ a.2.1 ∈ tys a.1 ∧ (∀ c ∈ a.2.2.1, Q54 a.1 a.2.1 c.pat = true) ∧ a.2.2.1.length ≤ 5 ∧ Nx r a.2.2.2.2 4000 ∧ widV 3 a.2.2.2.1 ∧ depP a.1 a.2.1 ≠ 0) := by
 unfold Q25
 refine Ret.bind (X8a (h.le (by omega))) (fun a ha => ?_)
 obtain ⟨h1, h2, h3, h4, h5⟩ := ha
 refine Ret.bind (X6z (ww h1) h2 (ROk.nx (c := 500) (h.le (by omega)) h3)) (fun b hb => ?_)
 exact .some ⟨h1, h2, hb.1, hb.2.1, (h3.trans hb.2.2).le' (by omega), h4, h5⟩
theorem W6a (code : List Int) (hb : ∀ x ∈ code, 0 ≤ x ∧ x ≤ 255) : Ret (Q0u code) (fun r => ROk r 1000000 ∧ r.p = 0) := by
 obtain ⟨r, e, hr⟩ := Z6e code hb
 refine ⟨r, e, hr, ?_⟩
 unfold Q0u at e
 simp only [Option.bind_eq_some_iff] at e
 obtain ⟨o, h1, h2⟩ := e
 cases o with
 | ret q => exact (X8t h1).elim
 | go s => cases h2
 | brk s => simp only [Option.some.injEq] at h2; rw [← h2]
theorem W02 (code : List Int) (hb : ∀ x ∈ code, 0 ≤ x ∧ x ≤ 255) : Ret (Q33 NN code) (fun a => a.1 ∈ Q1c ∧ a.2.1 ∈ tys a.1) := by
 unfold Q33
 refine Ret.bind (W6a code hb) (fun r hr => ?_)
 obtain ⟨hr, hp0⟩ := hr
 refine Ret.bind (X89 (hr.le (by omega))) (fun a ha => ?_)
 obtain ⟨h1, h2, h3, h4, h5, h6, _⟩ := ha
 have hr1 : ROk a.2.2.2.2 900000 := ROk.nx (c := 4000) (hr.le (by omega)) h5
 refine Ret.bind (Z97 (hr1.le (by omega)) a.2.2.1 (by omega) (fun c hc => by have := Z8t (ww h1) h2 (h3 c hc); omega)) (fun b hb => ?_)
 have hr2 : ROk b.2 800000 := ROk.nx (c := 10) (hr1.le (by omega)) hb.2
 refine Ret.bind (Q6e (hr2.le (by omega)) [0, 1, 2, 0, 3] (by simp) (by simp)) (fun c hc => ?_)
 have hr3 : ROk c.2 700000 := ROk.nx (c := 1) (hr2.le (by omega)) hc.2
 have hp : c.2.p ≤ 5000 := by
  have e1 := h5.ge
  have e2 := hb.2.ge
  have e3 := hc.2.ge
  omega
 refine Ret.bind (X8v (hr3.le (by omega)) hp (Z25 (by omega) _ h6)) (fun d _ => .some ⟨h1, h2⟩)
end Go.Proofs.YtbdkbdafhlcilaaGreat
namespace Go.Proofs.YtbdkbdafhlcilaaGreat
open Go Go.RowKit
theorem X6y (a b : List Nat) : maxN (a ++ b) = max (maxN a) (maxN b) := by
 induction a with
 | nil => simp [maxN]
 | cons x a ih => simp only [List.cons_append, maxN]; omega
theorem Z0b (f : Z9 → Nat) {l : List Z9} {k : Nat} {x : Z9} (h : l[k]? = some x) : maxN ((l.take (k + 1)).map f) = max (maxN ((l.take k).map f)) (f x) := by
 rw [List.take_add_one, h]
 simp only [Option.toList_some, List.map_append, List.map_cons, List.map_nil, X6y, maxN]
 omega
theorem X6i : ∀ (d : Nat) (t : Z9), Q10 d t ≤ d := by
 intro d
 induction d with
 | zero => intro t; simp [Q10]
 | succ d ih =>
  intro t
  rw [Q10]
  have : ∀ l : List Z9, maxN (l.map (Q10 d)) ≤ d := by
   intro l
   induction l with
   | nil => simp [maxN]
   | cons x l ih2 =>
    have := ih x
    simp only [List.map_cons, maxN]
    omega
  have := this (Q3z t)
  split <;> omega
theorem Z4u : ∀ (d n : Nat) (t : Z9), Q83 d t → d ≤ n → d ≤ 1000 → J0 n t = some (Q10 d t : Int) := by
 intro d
 induction d with
 | zero => intro n t h; exact h.elim
 | succ d ih =>
  intro n t h hn hd
  obtain ⟨n, rfl⟩ : ∃ k, n = k + 1 := ⟨n - 1, by omega⟩
  suffices hs : Ret (J0 (n + 1) t) (fun a => a = (Q10 (d + 1) t : Int)) by
   obtain ⟨a, e, rfl⟩ := hs
   exact e
  unfold J0
  rw [Z5w h]
  simp only [Option.bind_some]
  refine Ret.ctl (Z2 (Q3z t) (fun k s => s = (maxN (((Q3z t).take k).map (Q10 d)) : Int)) (fun _ => False) (fun s => s = (maxN ((Q3z t).map (Q10 d)) : Int)) (by simp [maxN]) (fun k x s hx hI => ?_) (fun s hI => by rw [hI, List.take_length])) (fun r hr => hr.elim) (fun s hs => ?_)
  ·have hm := List.mem_of_getElem? hx
   rw [ih n x (h.2 x hm) (by omega) (by omega)]
   simp only [Option.bind_some]
   refine .some ?_
   simp only [V6]
   rw [hI, Z0b _ hx]
   unfold imax
   split <;> omega
  ·subst hs
   have hle : maxN ((Q3z t).map (Q10 d)) ≤ Q10 (d + 1) t := by rw [Q10]; omega
   have := X6i (d + 1) t
   by_cases h2 : t.op = 2
   ·have e : ieq t.op 2 = true := by simp [ieq, h2]
    simp only [e, if_true]
    rw [V1 (by omega) (by omega)]
    exact .some (by rw [Q10, if_pos h2]; omega)
   ·have e : ieq t.op 2 = false := by simp [ieq, h2]
    simp only [e, Bool.false_eq_true, if_false]
    exact .some (by rw [Q10, if_neg h2]; omega)
theorem X1v : ∀ (d n : Nat) (t : Z9), Q83 d t → d ≤ n → d ≤ 1000 → Q02 n t = some (Q10 d t : Int) := by
 intro d
 induction d with
 | zero => intro n t h; exact h.elim
 | succ d ih =>
  intro n t h hn hd
  obtain ⟨n, rfl⟩ : ∃ k, n = k + 1 := ⟨n - 1, by omega⟩
  suffices hs : Ret (Q02 (n + 1) t) (fun a => a = (Q10 (d + 1) t : Int)) by
   obtain ⟨a, e, rfl⟩ := hs
   exact e
  unfold Q02
  have hsub : maxN ((Q3z t).map (Q10 d)) = max (maxN ((t.branches.map (fun b => b.tree)).map (Q10 d))) (maxN (t.else_.map (Q10 d))) := by
   unfold Q3z
   rw [List.map_append, X6y]
  refine Ret.ctl (Z2 t.branches (fun k s => s = (maxN (((t.branches.map (fun b => b.tree)).take k).map (Q10 d)) : Int)) (fun _ => False) (fun s => s = (maxN ((t.branches.map (fun b => b.tree)).map (Q10 d)) : Int)) (by simp [maxN]) (fun k x s hx hI => ?_) (fun s hI => by rw [hI, List.take_of_length_le (by simp)])) (fun r hr => hr.elim) (fun s hs => ?_)
  ·have hm := List.mem_of_getElem? hx
   have hx2 : (t.branches.map (fun b => b.tree))[k]? = some x.tree := by simp [hx]
   rw [ih n x.tree (h.2 _ (List.mem_append_left _ (List.mem_map_of_mem hm))) (by omega) (by omega)]
   simp only [Option.bind_some]
   by_cases hc : s < (Q10 d x.tree : Int)
   ·rw [if_pos (by rw [X2]; exact hc)]
    refine .some ?_
    simp only [V6]
    rw [Z0b _ hx2]
    omega
   ·rw [if_neg (by rw [X2]; exact hc)]
    refine .some ?_
    simp only [V6]
    rw [Z0b _ hx2]
    omega
  ·dsimp only
   refine Ret.ctl (Z2 t.else_ (fun k (s : Int) => s = ((max (maxN ((t.branches.map (fun b => b.tree)).map (Q10 d))) (maxN ((t.else_.take k).map (Q10 d))) : Nat) : Int)) (fun _ => False) (fun s => s = (maxN ((Q3z t).map (Q10 d)) : Int)) (by rw [hs]; simp [maxN]) (fun k x s hx hI => ?_) (fun s hI => by rw [hI, List.take_length, hsub])) (fun r hr => hr.elim) (fun s hs => ?_)
   ·have hm := List.mem_of_getElem? hx
    rw [ih n x (h.2 _ (List.mem_append_right _ hm)) (by omega) (by omega)]
    simp only [Option.bind_some]
    by_cases hc : s < (Q10 d x : Int)
    ·rw [if_pos (by rw [X2]; exact hc)]
     refine .some ?_
     simp only [V6]
     rw [Z0b _ hx]
     omega
    ·rw [if_neg (by rw [X2]; exact hc)]
     refine .some ?_
     simp only [V6]
     rw [Z0b _ hx]
     omega
   ·subst hs
    have hle : maxN ((Q3z t).map (Q10 d)) ≤ Q10 (d + 1) t := by rw [Q10]; omega
    have := X6i (d + 1) t
    dsimp only
    by_cases h2 : t.op = 2
    ·have e : ieq t.op 2 = true := by simp [ieq, h2]
     simp only [e, if_true]
     rw [V1 (by omega) (by omega)]
     exact .some (by rw [Q10, if_pos h2]; omega)
    ·have e : ieq t.op 2 = false := by simp [ieq, h2]
     simp only [e, Bool.false_eq_true, if_false]
     exact .some (by rw [Q10, if_neg h2]; omega)
theorem Z8o {w : List Q3} (hww : w ∈ Q1c) {t : Q5} (ht : t ∈ tys w) (l : List Q6) (pick : Int) (v : Q1) {tr : Z9} {ok : Bool} (e1 : W9 NN w t l pick = some (tr, ok)) (e2 : J2 NN w t l pick = some (tr, ok)) (h2 : Q83 300 tr) :
  ∃ r, Q5c NN w t l pick v = some r ∧ Q5a NN w t l pick v = some r ∧ (ok = true → r.2.2 ≤ (Q10 300 tr : Int)) := by
 have hw := ww hww
 unfold Q5c Q5a
 rw [e1, e2]
 simp only [Option.bind_some]
 cases ok with
 | false => exact ⟨_, rfl, rfl, fun h => by cases h⟩
 | true =>
  simp only [Bool.not_true, Bool.false_eq_true, if_false]
  rw [X2p hw ht v, X1t hw ht v]
  simp only [Option.bind_some]
  cases hv : Z4g w t v with
  | false => exact ⟨_, rfl, rfl, fun _ => by simp only; omega⟩
  | true =>
   simp only [Bool.not_true, Bool.false_eq_true, if_false]
   have hg := X4a hv
   have hdv := Z0y hw 10 t v ht hg
   obtain ⟨k, hk⟩ := Z4i hww ht e1 hg
   have hop := X6h _ _ _ _ ((Q7m hww ht l pick).tr tr e1)
   rw [X70 hdv h2 hk, X6n hdv h2 hop hk]
   exact ⟨_, rfl, rfl, fun _ => by have := X8n 300 tr l v _ _ k hk; simp only; omega⟩
theorem Z85 (code more : List Int) (hb : ∀ x ∈ code, 0 ≤ x ∧ x ≤ 255) (hm : ∀ x ∈ more, 0 ≤ x ∧ x ≤ 255) : Q1s NN code more = some true := by
 suffices hr : Ret (Q1s NN code more) (fun r => r = true) by
  obtain ⟨_, e, rfl⟩ := hr
  exact e
 unfold Q1s
 refine Ret.ite (fun _ => .some rfl) (fun _ => ?_)
 refine Ret.ite (fun _ => .some rfl) (fun _ => ?_)
 refine Ret.bind (W02 code hb) (fun a ha => ?_)
 obtain ⟨w, t, l, pick, v⟩ := a
 obtain ⟨hww, ht⟩ := ha
 simp only at hww ht ⊢
 obtain ⟨tr, ok, e1, e2, h1, h2, h3⟩ := (Q7m hww ht l pick).eq
 obtain ⟨r, q1, q2, hr⟩ := Z8o hww ht l pick v e1 e2 h2
 rw [q1, q2, e1]
 simp only [Option.bind_some]
 refine Ret.bind (P := fun y => Q83 300 y) ?_ (fun y hy => ?_)
 ·unfold Q3k Q7c
  refine Ret.bind (P := fun y => Q83 300 y) ?_ (fun y hy => .some hy)
  refine Ret.bind (P := fun a => a.1 ∈ Q1c ∧ a.2.1 ∈ tys a.1) ?_ (fun a ha => ?_)
  ·unfold Q7d
   refine Ret.bind (Z4r more hm) (fun a ha => ?_)
   refine Ret.bind (Z6e more hm) (fun r hr => ?_)
   refine Ret.bind (Q6e (hr.le (by omega)) _ (by simp) (by simp)) (fun q _ => .some ⟨ha.1, ha.2.1⟩)
  ·obtain ⟨tr2, ok2, _, f2, _, f3, _⟩ := (Q7m ha.1 ha.2 a.2.2.1 a.2.2.2).eq
   rw [f2]
   exact .some f3
 have r1 : ieq r.1 r.1 = true := by simp [ieq]
 have r2 : ieq r.2.2 r.2.2 = true := by simp [ieq]
 rw [Z4u 300 NN y hy (by decide) (by omega), X1v 300 NN y hy (by decide) (by omega), Z4u 300 NN tr h2 (by decide) (by omega)]
 have r3 : ieq (Q10 300 y : Int) (Q10 300 y : Int) = true := by simp [ieq]
 simp only [Option.bind_some, r1, r2, r3, Bool.not_true, Bool.false_eq_true, if_false, if_true]
 cases ok with
 | false => exact .some rfl
 | true =>
  simp only [Bool.not_true, Bool.false_eq_true, if_false]
  have c1 := hr rfl
  have c2 := X8d 300 tr h2
  rw [X4c 300 NN tr h2 (by decide) (by omega)]
  simp only [Option.bind_some]
  rw [if_pos (by rw [J6]; exact c1)]
  exact .some (by rw [J6]; omega)
end Go.Proofs.YtbdkbdafhlcilaaGreat
