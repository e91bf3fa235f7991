import Derived.Test.YtbdkbdafhlcilaaGreatCJP0
import Derived.Test.YtbdkbdafhlcilaaGreatCJE1
import Derived.Test.YtbdkbdafhlcilaaGreatCJE0
import Derived.Test.YtbdkbdafhlcilaaGreatCJMir
import Derived.Test.YtbdkbdafhlcilaaGreatCJMa0
import Derived.Test.YtbdkbdafhlcilaaGreatCJP1
import Derived.Test.YtbdkbdafhlcilaaGreatCJZa0
import Derived.Test.YtbdkbdafhlcilaaGreatCJZ0
set_option linter.unusedSimpArgs false
set_option linter.unusedVariables false
namespace Go.Proofs.YtbdkbdafhlcilaaGreat
open Go Go.RowKit
def DB (l : List X3) : Prop := ∀ b ∈ l, Z5p 10 b.value
end Go.Proofs.YtbdkbdafhlcilaaGreat
namespace Go.Proofs.YtbdkbdafhlcilaaGreat
open Go Go.RowKit
theorem len0 (n : Nat) : ieq (lenZ n) 0 = decide (n = 0) := by
 by_cases h : n = 0
 ·subst h; rfl
 ·rw [decide_eq_false h, Z8]; simp only [lenZ]; omega
theorem X6y (o : Option (Nat × List X3)) : (0 ≤ (runR o).1) ↔ o.isSome = true := by
 cases o with
 | none => simp [runR]
 | some x => simp [runR]
end Go.Proofs.YtbdkbdafhlcilaaGreat
namespace Go.Proofs.YtbdkbdafhlcilaaGreat
open Go Go.RowKit
def nilR : Option (List Q0) → Bool
 | some l => decide (l.length = 0)
 | none => false
def redD (w : List Q3) (t : Q2) (cs : List Q5) : List Int × Bool :=
 if J5 w t cs = true ∧ ∀ i, i < cs.length → (Q27 w t cs i).isSome = true then (((List.range cs.length).filter fun i => nilR (Q27 w t cs i)).map (fun i : Nat => (i : Int)), true) else ([], false)
theorem Z5h {w : List Q3} (hww : w ∈ Q0g) {t : Q2} (ht : t ∈ tys w) (cs : List Q5) : Q0n NN w t cs = some (redD w t cs) := by
 have hw := ww hww
 suffices hs : Ret (Q0n NN w t cs) (fun r => r = redD w t cs) by
  obtain ⟨a, e, rfl⟩ := hs
  exact e
 unfold Q0n redD
 rw [Q3w hw ht]
 simp only [Option.bind_some]
 by_cases h : J5 w t cs = true
 ·obtain ⟨h8, hc⟩ := Q3i h
  simp only [h, Bool.not_true, Bool.false_eq_true, if_false, true_and]
  refine Ret.ctl (Z1 cs (fun k s => s = ((List.range k).filter fun i => nilR (Q27 w t cs i)).map (fun i : Nat => (i : Int)) ∧ ∀ i, i < k → (Q27 w t cs i).isSome = true) (fun r => r = ([], false) ∧ ¬ ∀ i, i < cs.length → (Q27 w t cs i).isSome = true) (fun s => s = ((List.range cs.length).filter fun i => nilR (Q27 w t cs i)).map (fun i : Nat => (i : Int)) ∧ ∀ i, i < cs.length → (Q27 w t cs i).isSome = true) ⟨by simp, by simp⟩ (fun k c s hck hI => ?_) (fun s hI => hI)) (fun r hr => .some (by rw [if_neg hr.2]; exact hr.1)) (fun s hs => .some (by rw [if_pos hs.2, hs.1]))
  obtain ⟨hI, hall⟩ := hI
  have hk := (List.getElem?_eq_some_iff.1 hck).1
  have hsl : s.length ≤ 8 := by
   rw [hI, List.length_map]
   have := List.length_filter_le (fun i => nilR (Q27 w t cs i)) (List.range k)
   rw [List.length_range] at this
   omega
  rw [Z22 hww ht hk]
  simp only [Option.bind_some]
  have hnext : ∀ i, i < k + 1 → (Q27 w t cs k).isSome = true → (Q27 w t cs i).isSome = true := fun i hi hk' => by
   by_cases hik : i = k
   ·rw [hik]; exact hk'
   ·exact hall i (by omega)
  cases hr : Q27 w t cs k with
  | none =>
   simp only [optR, Bool.not_false, if_true, Option.bind_some]
   exact .some ⟨rfl, fun hh => by have := hh k hk; rw [hr] at this; cases this⟩
  | some r =>
   simp only [optR, Bool.not_true, Bool.false_eq_true, if_false, len0]
   rw [hr] at hnext
   by_cases h0 : r.length = 0
   ·have hr0 : r = [] := List.eq_nil_of_length_eq_zero h0
    simp only [h0, decide_true, if_true]
    rw [W6 (by simp only [List.length_cons, List.length_nil, Q6]; omega)]
    refine .some ⟨?_, fun i hi => hnext i hi rfl⟩
    rw [hI, List.range_succ, List.filter_append, List.map_append]
    simp [hr, hr0, nilR]
   ·simp only [h0, decide_false, Bool.false_eq_true, if_false, Option.bind_some]
    refine .some ⟨?_, fun i hi => hnext i hi rfl⟩
    rw [hI, List.range_succ, List.filter_append, List.map_append]
    have : r ≠ [] := fun e => h0 (by rw [e]; rfl)
    simp [hr, this, nilR]
 ·simp only [h, Bool.not_false, if_true, false_and, if_false]
  exact .some rfl
theorem W2c {w : List Q3} (hww : w ∈ Q0g) {t : Q2} (ht : t ∈ tys w) {cs : List Q5} {i : Nat} (hi : (i : Int) ∈ (redD w t cs).1) {e : Nat} {v : Q4} (hv : Q0s w e t v) {b : List X3} : runD v 0 cs ≠ some (i, b) := by
 intro hr
 unfold redD at hi
 split at hi
 ·rename_i hh
  simp only [List.mem_map, List.mem_filter, List.mem_range] at hi
  obtain ⟨j, ⟨hj, hj2⟩, hji⟩ := hi
  have hji : j = i := by omega
  subst hji
  obtain ⟨r0, hr0, hj2⟩ : ∃ r, Q27 w t cs j = some r ∧ r = [] := by
   cases hr0 : Q27 w t cs j with
   | none => rw [hr0] at hj2; cases hj2
   | some r0 =>
    rw [hr0] at hj2
    exact ⟨r0, rfl, List.eq_nil_of_length_eq_zero (by simpa [nilR] using hj2)⟩
  subst hj2
  obtain ⟨c, hc, h1⟩ := X2k (ww hww) (we hww) ht hv hr0
  obtain ⟨j', c', b', g1, g2, g3, g4, g5, g6⟩ := Q41 hr
  simp only [Nat.zero_add] at g2
  subst g2
  rw [hc] at g1
  have g1 := Option.some.inj g1
  subst g1
  have h2 := h1.2 ⟨by rw [g3]; rfl, fun c' hc' h0 => by
   obtain ⟨k, hk⟩ := List.mem_iff_getElem?.1 hc'
   rw [List.getElem?_take] at hk
   split at hk
   ·rename_i hkj
    cases hm : X6 10 c'.pat v with
    | none => rfl
    | some b' =>
     have := g6 k c' hkj hk b' hm
     simp [Q4b, h0] at this
   ·cases hk⟩
  obtain ⟨y, hy, _⟩ := h2
  cases hy
 ·cases hi
end Go.Proofs.YtbdkbdafhlcilaaGreat
namespace Go.Proofs.YtbdkbdafhlcilaaGreat
open Go Go.RowKit
theorem X4s : ∀ (n : Nat) (p : Q4) (most : Nat), most < n → most ≤ 1000 → Q3r n p (most : Int) = some ((min (cntV p) (most + 1) : Nat) : Int) := by
 intro n
 induction n with
 | zero => intro p most h; omega
 | succ n ih =>
  intro p most hn hm
  unfold Q3r
  have key := Z1 (ρ := Int) (f := fun k94 x95 (s88 : Int) =>
   (if (ile s88 (most : Int)) = true then
   ((Q3r n x95 (wsub .i64 (most : Int) s88)).bind fun r103 =>
   some (Ctl.go (wadd .i64 s88 r103)))
   else
   some (Ctl.brk s88))) p.kids (s0 := 1) (fun k s => ∃ m : Nat, s = (m : Int) ∧ m = min (1 + cntV.cntVs (p.kids.take k)) (most + 1)) (fun _ => False) (fun s => s = ((min (cntV p) (most + 1) : Nat) : Int)) ⟨1, rfl, by simp [cntV.cntVs]⟩ (fun k q s hq hI => ?_) (fun s hI => ?_)
  ·have := Ret.ctl (Q := fun b => b = ((min (cntV p) (most + 1) : Nat) : Int)) key (g := fun (o : Ctl Int Int) => match o with
    | .ret r => some r
    | .go _ => none
    | .brk s => some s) (fun r hr => hr.elim) (fun s hs => .some hs)
   obtain ⟨b, e, rfl⟩ := this
   exact e
  ·obtain ⟨m, rfl, hm2⟩ := hI
   refine Ret.ite (fun h => ?_) (fun h => ?_)
   ·rw [Q03] at h
    have hle : m ≤ most := by omega
    have hws : wsub .i64 (most : Int) (m : Int) = ((most - m : Nat) : Int) := by rw [Q3k (by omega) (by omega)]; omega
    rw [hws, ih q (most - m) (by omega) (by omega)]
    simp only [Option.bind_some]
    rw [Q09 (by omega) (by omega)]
    refine .some ⟨m + min (cntV q) (most - m + 1), by push_cast; rfl, ?_⟩
    rw [Z1i p.kids k q hq]
    omega
   ·rw [Q25] at h
    refine .some ?_
    have h1 := Z04 p.kids k
    have h2 := Z4k p
    show (m : Int) = _
    have : m = min (cntV p) (most + 1) := by omega
    rw [this]
  ·obtain ⟨m, rfl, hm2⟩ := hI
   rw [List.take_length] at hm2
   have h2 := Z4k p
   have : m = min (cntV p) (most + 1) := by omega
   rw [this]
theorem X3x : ∀ (d n : Nat) (v : Q4), Z5p d v → d ≤ n → Q4g n v = some v := by
 intro d
 induction d with
 | zero => intro n v h; exact h.elim
 | succ d ih =>
  intro n v h hn
  obtain ⟨n, rfl⟩ : ∃ k, n = k + 1 := ⟨n - 1, by omega⟩
  obtain ⟨h1, h2⟩ := h
  have hr : Ret (Q4g (n + 1) v) (fun r => r = v) := by
   unfold Q4g
   refine Ret.ctl (Z1 v.kids (fun k s => s = v.kids.take k) (fun _ => False) (fun s => s = v.kids) (by simp) (fun k q s hq hI => ?_) (fun s hI => ?_)) (fun r hr => hr.elim) (fun s hs => .some (Q4.ext' rfl rfl hs))
   ·rw [ih n q (h2 q (List.mem_of_getElem? hq)) (by omega)]
    simp only [Option.bind_some]
    rw [W6 (by simp only [Q6, List.length_cons, List.length_nil]; rw [hI, List.length_take]; omega)]
    exact .some (by rw [hI, List.take_add_one, hq]; rfl)
   ·rw [hI, List.take_length]
  obtain ⟨r, e, rfl⟩ := hr
  exact e
theorem X4q {w : List Q3} (hw : WW w) : ∀ (d n : Nat) (t : Q2) (v : Q4), t ∈ tys w → d + 1 ≤ n → d ≤ 100 → Q3b n w t v (d : Int) = some (Q2y w d t v) := by
 intro d
 induction d with
 | zero =>
  intro n t v ht hn hd
  obtain ⟨m, rfl⟩ : ∃ m, n = m + 1 := ⟨n - 1, by omega⟩
  unfold Q3b
  rw [if_pos (by rw [X0]; omega)]
  rfl
 | succ d ih =>
  intro n t v ht hn hd
  obtain ⟨m, rfl⟩ : ∃ m, n = m + 1 := ⟨n - 1, by omega⟩
  have hT := hw.ty t ht
  suffices hs : Ret (Q3b (m + 1) w t v ((d + 1 : Nat) : Int)) (fun r => r = Q2y w (d + 1) t v) by
   obtain ⟨a, e, rfl⟩ := hs
   exact e
  unfold Q3b
  rw [if_neg (by rw [X0]; omega)]
  have hws : wsub .i64 ((d + 1 : Nat) : Int) 1 = (d : Int) := by rw [Q3k] <;> omega
  rw [hws]
  refine Ret.ite (fun hi => ?_) (fun hi => ?_)
  ·rw [Z4] at hi
   have hg : Q2y w (d + 1) t v = (decide (v.ctor = -1) && (decide (0 ≤ v.n) && (decide (v.n ≤ 9) && decide (v.kids.length = 0)))) := by rw [Q2y, if_pos hi]
   rw [hg]
   refine Ret.ite (fun h1 => ?_) (fun h1 => .some ?_)
   ·rw [Z4] at h1
    refine Ret.ite (fun h2 => ?_) (fun h2 => .some ?_)
    ·rw [Q03] at h2
     refine Ret.ite (fun h3 => .some ?_) (fun h3 => .some ?_)
     ·rw [Q03] at h3
      simp only [h1, h2, h3, decide_true, Bool.true_and]
      exact len0 _
     ·rw [Q25] at h3
      simp [show ¬ v.n ≤ 9 by omega]
    ·rw [Q25] at h2
     simp [show ¬ 0 ≤ v.n by omega]
   ·rw [Z8] at h1
    simp [h1]
  ·rw [Z8] at hi
   have hg : Q2y w (d + 1) t v = (decide (v.n = 0) && (decide (v.ctor ∈ Z9 w t) && (decide (v.kids.length = (Z5 w t v.ctor).length) && ((Z5 w t v.ctor).zip v.kids).all fun x => Q2y w d x.1 x.2))) := by rw [Q2y, if_neg hi]
   rw [hg]
   refine Ret.ite (fun h1 => .some ?_) (fun h1 => ?_)
   ·rw [Bool.not_eq_true', Z8] at h1
    simp [h1]
   rw [Bool.not_eq_false', Z4] at h1
   rw [hT.c1]
   simp only [Option.bind_some]
   rw [V04]
   simp only [Option.bind_some]
   refine Ret.ite (fun h2 => .some ?_) (fun h2 => ?_)
   ·rw [Bool.not_eq_true', decide_eq_false_iff_not] at h2
    simp [h2]
   rw [Bool.not_eq_false', decide_eq_true_eq] at h2
   rw [hT.a1 _ h2]
   simp only [Option.bind_some]
   refine Ret.ite (fun hl => .some ?_) (fun hl => ?_)
   ·rw [Bool.not_eq_true', Z8] at hl
    simp only [lenZ] at hl
    have : ¬ v.kids.length = (Z5 w t v.ctor).length := by omega
    simp [this]
   rw [Bool.not_eq_false', Z4] at hl
   simp only [lenZ] at hl
   have hl2 : v.kids.length = (Z5 w t v.ctor).length := by omega
   simp only [h1, h2, hl2, decide_true, Bool.true_and]
   refine Ret.ctl (Z1 (Z5 w t v.ctor) (fun k _ => ∀ (j : Nat) (a : Q2) (x : Q4), j < k → (Z5 w t v.ctor)[j]? = some a → v.kids[j]? = some x → Q2y w d a x = true) (fun b => b = false ∧ (((Z5 w t v.ctor).zip v.kids).all fun x => Q2y w d x.1 x.2) = false) (fun _ => (((Z5 w t v.ctor).zip v.kids).all fun x => Q2y w d x.1 x.2) = true) (fun j a x hj => by omega) (fun k a s ha hI => ?_) (fun s hI => ?_)) (fun r hr => .some (by rw [hr.1, hr.2])) (fun s hs => .some hs.symm)
   ·have hlt : k < v.kids.length := by have := (List.getElem?_eq_some_iff.1 ha).1; omega
    have hq : v.kids[k]? = some v.kids[k] := by simp [hlt]
    rw [Q2a hq]
    simp only [Option.bind_some]
    rw [ih m a v.kids[k] (hT.at_ _ h2 a (List.mem_of_getElem? ha)) (by omega) (by omega)]
    simp only [Option.bind_some]
    cases hgk : Q2y w d a v.kids[k] with
    | false =>
     refine .some ⟨rfl, ?_⟩
     rw [List.all_eq_false]
     exact ⟨(a, v.kids[k]), List.mem_of_getElem? (Q9c ha hq), by simp [hgk]⟩
    | true =>
     refine .some (fun j a' q' hj ha' hq' => ?_)
     by_cases hjk : j = k
     ·subst hjk
      rw [ha] at ha'
      rw [hq] at hq'
      cases ha'
      cases hq'
      exact hgk
     ·exact hI j a' q' (by omega) ha' hq'
   ·rw [List.all_eq_true]
    intro x hx
    obtain ⟨j, hj⟩ := List.mem_iff_getElem?.1 hx
    obtain ⟨h3, h4⟩ := List.getElem?_zip_eq_some.1 hj
    exact hI j x.1 x.2 ((List.getElem?_eq_some_iff.1 h3).1) h3 h4
theorem X21 {w : List Q3} (hw : WW w) {t : Q2} (ht : t ∈ tys w) (v : Q4) : Q86 NN w t v = some (Q40 w t v) := by
 unfold Q86 Q40
 rw [show (10 : Int) = ((10 : Nat) : Int) from rfl, X4q hw 10 NN t v ht (by decide) (by omega)]
 simp only [Option.bind_some]
 cases Q2y w 10 t v with
 | false => rfl
 | true =>
  simp only [if_true, Bool.true_and]
  rw [show (60 : Int) = ((60 : Nat) : Int) from rfl, X4s NN v 60 (by decide) (by omega)]
  simp only [Option.bind_some]
  congr 1
  by_cases h : cntV v ≤ 60
  ·rw [decide_eq_true h, Q03]; omega
  ·rw [decide_eq_false h, Q25]; omega
theorem X26 (g : Q2z) (l : List X3) : Q2l g l = some (Q4b g l) := by
 suffices hs : Ret (Q2l g l) (fun r => r = Q4b g l) by
  obtain ⟨a, e, rfl⟩ := hs
  exact e
 unfold Q2l
 refine Ret.ite (fun h0 => .some ?_) (fun h0 => ?_)
 ·rw [Z4] at h0
  simp [Q4b, h0]
 rw [Z8] at h0
 have hG : Q4b g l = match l.find? fun b => decide (b.var = g.var) with
   | none => false
   | some b => ieq b.value.ctor (-1) && ((ieq g.op 1 && ilt b.value.n g.n) || (ieq g.op 2 && ieq b.value.n g.n)) := by
  unfold Q4b
  rw [decide_eq_false h0, Bool.false_or]
  rfl
 refine Ret.ctl (Z1 l (fun k _ => l.find? (fun b => decide (b.var = g.var)) = (l.drop k).find? (fun b => decide (b.var = g.var))) (fun r => r = Q4b g l) (fun _ => Q4b g l = false) rfl (fun k x s hx hI => ?_) (fun s hI => ?_)) (fun r hr => .some hr) (fun s hs => .some hs.symm)
 ·rw [Z2h hx, List.find?_cons] at hI
  by_cases hv : x.var = g.var
  ·have e : (!ieq x.var g.var) = false := by simp [ieq, hv]
   simp only [e, Bool.false_eq_true, if_false]
   rw [decide_eq_true hv] at hI
   simp only at hI
   rw [hI] at hG
   simp only at hG
   rw [hG]
   generalize ieq x.value.ctor (-1) = b1
   generalize ieq g.op 1 = b2
   generalize ilt x.value.n g.n = b3
   generalize ieq g.op 2 = b4
   generalize ieq x.value.n g.n = b5
   cases b1 <;> cases b2 <;> cases b3 <;> cases b4 <;> cases b5 <;> exact .some rfl
  ·have e : (!ieq x.var g.var) = true := by simp [ieq, hv]
   simp only [e, if_true, Option.bind_some]
   rw [decide_eq_false hv] at hI
   exact .some hI
 ·rw [List.drop_length] at hI
  rw [hG, hI]
  rfl
theorem X24 {w : List Q3} (hw : WW w) : ∀ (d n : Nat) (t : Q2) (p : Q0) (v : Q4) (e : Nat) (out : List X3), t ∈ tys w → Q0a w d t p = true → Q0s w e t v → d + 2 ≤ n → out.length + cntP p ≤ 100000 →
  Ret (Q1w n out p v) (fun r => r.2 = (X6 d p v).isSome ∧ ∀ l, X6 d p v = some l → r.1 = out ++ l ∧ l.length ≤ cntP p) := by
 intro d
 induction d with
 | zero => intro n t p v e out _ h; simp [Q0a] at h
 | succ d ih =>
  intro n t p v e out ht g hv hn hc
  obtain ⟨n, rfl⟩ : ∃ k, n = k + 1 := ⟨n - 1, by omega⟩
  have hT := hw.ty t ht
  obtain ⟨ho, hl⟩ := Q3x (Q2x g)
  have hpos := Q5l p
  unfold Q1w
  rw [X6]
  refine Ret.ite (fun h1 => ?_) (fun h1 => ?_)
  ·rw [Z4] at h1
   rw [if_pos h1]
   exact .some ⟨rfl, fun l h => by cases h; simp⟩
  rw [Z8] at h1
  rw [if_neg h1]
  refine Ret.ite (fun h2 => ?_) (fun h2 => ?_)
  ·rw [Z4] at h2
   rw [if_pos h2, W6 (by simp only [List.length_nil, Q6]; omega)]
   simp only [Option.bind_some]
   rw [W6 (by simp only [List.length_cons, List.length_nil, Q6]; omega)]
   exact .some ⟨rfl, fun l h => by cases h; exact ⟨rfl, hpos⟩⟩
  rw [Z8] at h2
  rw [if_neg h2]
  refine Ret.ite (fun h3 => ?_) (fun h3 => ?_)
  ·rw [Z4] at h3
   rw [if_pos h3]
   refine Ret.ite (fun h4 => .some ?_) (fun h4 => .some ?_)
   ·rw [Q03] at h4
    by_cases h5 : v.n ≤ p.m
    ·rw [if_pos ⟨h4, h5⟩]
     exact ⟨by simp only [Option.isSome_some]; rw [Q03]; exact h5, fun l h => by cases h; simp⟩
    ·rw [if_neg fun hh => h5 hh.2]
     exact ⟨by simp only [Option.isSome_none]; rw [Q25]; omega, fun l h => by cases h⟩
   ·rw [Q25] at h4
    rw [if_neg (fun hh => by omega)]
    exact ⟨rfl, fun l h => by cases h⟩
  rw [Z8] at h3
  rw [if_neg h3]
  refine Ret.ite (fun h5 => ?_) (fun h5 => ?_)
  ·rw [Z4] at h5
   rw [if_pos h5]
   obtain ⟨a, b, hab, hkt⟩ := kid0 h5 hl
   have ga := Q1y g (k := 0) (a := t) (q := a) (by rw [hkt]; rfl) (by rw [hab]; rfl)
   have gb := Q1y g (k := 1) (a := t) (q := b) (by rw [hkt]; rfl) (by rw [hab]; rfl)
   have hcp := Q1u p
   rw [hab] at hcp ⊢
   simp only [cntP.cntPs] at hcp
   rw [show idx [a, b] 0 = some a from rfl, show idx [a, b] 1 = some b from rfl]
   simp only [Option.bind_some]
   refine Ret.bind (ih n t a v e out ht ga hv (by omega) (by omega)) (fun r hr => ?_)
   obtain ⟨r1, r2⟩ := hr
   cases hm : X6 d a v with
   | some l =>
    rw [hm] at r1
    rw [if_pos (by rw [r1]; rfl)]
    obtain ⟨q1, q2⟩ := r2 l hm
    exact .some ⟨rfl, fun l' h => by cases h; exact ⟨q1, by omega⟩⟩
   | none =>
    rw [hm] at r1
    rw [if_neg (by rw [r1]; simp)]
    refine Ret.bind (ih n t b v e out ht gb hv (by omega) (by omega)) (fun s hs => .some ⟨hs.1, fun l h => ?_⟩)
    obtain ⟨q1, q2⟩ := hs.2 l h
    exact ⟨q1, by omega⟩
  rw [Z8] at h5
  rw [if_neg h5]
  refine Ret.ite (fun h6 => ?_) (fun h6 => ?_)
  ·rw [Z4] at h6
   rw [if_pos h6]
   obtain ⟨a, hk, hkt⟩ := X59 h6 hl
   have ga := Q1y g (k := 0) (a := t) (q := a) (by rw [hkt]; rfl) (by rw [hk]; rfl)
   have hcp := Q1u p
   rw [hk] at hcp ⊢
   simp only [cntP.cntPs] at hcp
   rw [show idx [a] 0 = some a from rfl]
   simp only [Option.bind_some]
   rw [W6 (by simp only [List.length_nil, Q6]; omega)]
   simp only [Option.bind_some]
   rw [W6 (by simp only [List.length_cons, List.length_nil, Q6]; omega)]
   simp only [Option.bind_some]
   refine Ret.bind (ih n t a v e (out ++ [⟨p.var, v⟩]) ht ga hv (by omega) (by simp only [List.length_append, List.length_cons, List.length_nil]; omega)) (fun r hr => .some ?_)
   cases hm : X6 d a v with
   | none => rw [hm] at hr; exact ⟨hr.1, fun l h => by cases h⟩
   | some l =>
    rw [hm] at hr
    obtain ⟨q1, q2⟩ := hr.2 l rfl
    exact ⟨hr.1, fun l' h => by cases h; exact ⟨by rw [q1]; simp, by simp only [List.length_cons]; omega⟩⟩
  rw [Z8] at h6
  rw [if_neg h6]
  have h4 : p.op = 4 := by
   simp only [Q7i, Bool.and_eq_true, Bool.or_eq_true, decide_eq_true_eq] at ho
   rcases ho.2 with (h | h) | h
   ·omega
   ·exact absurd h.1.1.1.1 h3
   ·exact h.1
  have hct := Q9l ho h4
  refine Ret.ite (fun h7 => ?_) (fun h7 => ?_)
  ·rw [Bool.not_eq_true', Z8] at h7
   rw [if_neg (fun hh => h7 hh.symm)]
   exact .some ⟨rfl, fun l h => by cases h⟩
  rw [Bool.not_eq_false', Z4] at h7
  rw [if_pos h7.symm]
  have hkt : V6 w t p = Z5 w t v.ctor := by rw [V6, if_pos h4, h7]
  cases e with
  | zero => exact hv.elim
  | succ e =>
  have hd : t.data ≠ -1 := fun hd => by
   obtain ⟨rfl, _⟩ := hT.ti hd
   have : Z9 w tI = [] := rfl
   rw [this] at hct
   cases hct
  rw [Q0s, if_neg hd] at hv
  obtain ⟨_, _, hvl, hvk⟩ := hv
  have hcp := Q1u p
  have hlen : p.kids.length = v.kids.length := by rw [hl, hkt, hvl]
  refine Ret.ctl (Z1 p.kids (fun k s => ∃ s', s = out ++ s' ∧ Q2p (X6 d) p.kids v.kids = (Q2p (X6 d) (p.kids.drop k) (v.kids.drop k)).map (s' ++ ·) ∧ s'.length ≤ cntP.cntPs (p.kids.take k)) (fun r : List X3 × Bool => r.2 = false ∧ Q2p (X6 d) p.kids v.kids = none)
   (fun s => ∃ s', s = out ++ s' ∧ Q2p (X6 d) p.kids v.kids = some s' ∧ s'.length ≤ cntP.cntPs p.kids) ⟨[], by simp, by simp, by simp⟩ (fun k q s hq hI => ?_) (fun s hI => ?_)) (fun r hr => ?_) (fun s hs => ?_)
  ·obtain ⟨s', rfl, i1, i2⟩ := hI
   have hlt := (List.getElem?_eq_some_iff.1 hq).1
   have hx : v.kids[k]? = some (v.kids[k]'(by omega)) := by simp
   obtain ⟨a, ha⟩ : ∃ a, (Z5 w t v.ctor)[k]? = some a := ⟨_, List.getElem?_eq_getElem (by omega)⟩
   rw [Q2a hx]
   simp only [Option.bind_some]
   have hcd := Q5k p.kids k q hq
   have hct2 := Q1z p.kids (k + 1)
   have hkm : a ∈ V6 w t p := by rw [hkt]; exact List.mem_of_getElem? ha
   refine Ret.bind (ih n a q (v.kids[k]'(by omega)) e (out ++ s') (Q78 hT ht ho a hkm) (Q1y g (by rw [hkt]; exact ha) hq) (hvk k a _ ha hx) (by omega) (by simp only [List.length_append]; omega)) (fun r hr => ?_)
   obtain ⟨r1, r2⟩ := hr
   rw [Z2h hq, Z2h hx] at i1
   simp only [Q2p] at i1
   cases hmq : X6 d q (v.kids[k]'(by omega)) with
   | none =>
    rw [hmq] at i1 r1
    rw [r1]
    exact .some ⟨rfl, i1⟩
   | some l =>
    rw [hmq] at i1 r1
    obtain ⟨q1, q2⟩ := r2 l hmq
    rw [r1]
    simp only [Option.isSome_some, Bool.not_true, Bool.false_eq_true, if_false]
    refine .some ⟨s' ++ l, by rw [q1]; simp, ?_, by simp only [List.length_append]; omega⟩
    rw [i1]
    cases Q2p (X6 d) (p.kids.drop (k + 1)) (v.kids.drop (k + 1)) with
    | none => rfl
    | some m => simp
  ·obtain ⟨s', rfl, i1, i2⟩ := hI
   rw [List.take_length] at i2
   refine ⟨s', rfl, ?_, i2⟩
   rw [i1, List.drop_length]
   simp [Q2p]
  ·exact .some ⟨by rw [hr.1, hr.2]; rfl, fun l h => by rw [hr.2] at h; cases h⟩
  ·obtain ⟨s', rfl, h1, h2⟩ := hs
   refine .some ⟨by rw [h1]; rfl, fun l h => ?_⟩
   rw [h1] at h
   cases h
   exact ⟨rfl, by omega⟩
theorem X4o {l : List X3} (hl : l.length ≤ 100) (hd : DB l) : Q5f NN l = some (Q9f l) := by
 suffices hs : Ret (Q5f NN l) (fun r => r = Q9f l) by
  obtain ⟨a, e, rfl⟩ := hs
  exact e
 unfold Q5f
 have hfl : ∀ k : Nat, ((List.range k).flatMap fun (v : Nat) => l.filter fun b => decide (b.var = (v : Int))).length ≤ k * 100 := by
  intro k
  induction k with
  | zero => simp
  | succ k ih =>
   rw [List.range_succ, List.flatMap_append, List.length_append]
   have := List.length_filter_le (fun b : X3 => decide (b.var = (k : Int))) l
   simp only [List.flatMap_cons, List.flatMap_nil, List.append_nil]
   omega
 refine Ret.ctl (Q3l (fun s : List X3 × Int => ∃ k : Nat, k ≤ 6 ∧ s = ((List.range k).flatMap (fun (v : Nat) => l.filter fun b => decide (b.var = (v : Int))), (k : Int))) (fun s => (6 - s.2).toNat) (fun _ => False) (fun s => s.1 = Q9f l) ⟨0, by omega, rfl⟩ (fun s hI => ?_) NN (by simp; decide)) (fun r hr => hr.elim) (fun s hs => .some hs)
 obtain ⟨k, hk, rfl⟩ := hI
 dsimp only
 by_cases h5 : k ≤ 5
 ·have e : ile (k : Int) 5 = true := by rw [Q03]; omega
  simp only [e, if_true]
  have hk1 := hfl k
  refine Ret.ctl (Z1 l (fun i s => s = (List.range k).flatMap (fun (v : Nat) => l.filter fun b => decide (b.var = (v : Int))) ++ (l.take i).filter fun b => decide (b.var = (k : Int))) (fun _ => False) (fun s => s = (List.range (k + 1)).flatMap (fun (v : Nat) => l.filter fun b => decide (b.var = (v : Int)))) (by simp) (fun i x s hi hI => ?_) (fun s hI => ?_)) (fun r hr => hr.elim) (fun s hs => ?_)
  ·have hil : i < l.length := (List.getElem?_eq_some_iff.1 hi).1
   have hf := List.length_filter_le (fun b : X3 => decide (b.var = (k : Int))) (l.take i)
   rw [List.length_take] at hf
   by_cases hc : x.var = (k : Int)
   ·have e : ieq x.var (k : Int) = true := by simp [ieq, hc]
    simp only [e, if_true]
    rw [X3x 10 NN x.value (hd x (List.mem_of_getElem? hi)) (by decide)]
    simp only [Option.bind_some]
    rw [W6 (by rw [hI]; simp only [List.length_append, List.length_cons, List.length_nil, Q6]; omega)]
    refine .some ?_
    simp only [Q4z]
    rw [hI, List.take_add_one, hi]
    simp only [Option.toList_some, List.filter_append, List.append_assoc]
    rw [← hc]
    simp
   ·have e : ieq x.var (k : Int) = false := by simp [ieq, hc]
    simp only [e, Bool.false_eq_true, if_false]
    refine .some ?_
    simp only [Q4z]
    rw [hI, List.take_add_one, hi]
    simp [hc]
  ·rw [hI, List.take_length, List.range_succ, List.flatMap_append]
   simp
  ·subst hs
   dsimp only
   rw [Q09 (by omega) (by omega)]
   exact .some ⟨⟨k + 1, by omega, by simp⟩, by simp only; omega⟩
 ·have e : ile (k : Int) 5 = false := by rw [Q25]; omega
  simp only [e, Bool.false_eq_true, if_false]
  exact .some (by simp only [Z5u]; rw [show k = 6 by omega]; rfl)
theorem X8s {w : List Q3} (hw : WW w) {t : Q2} (ht : t ∈ tys w) {l : List Q5} (hl : ∀ c ∈ l, Q12 w t c.pat = true) {e : Nat} {v : Q4} (hv : Q0s w e t v) (he : e ≤ 10) :
  Q69 NN l v = some (runR (runD v 0 l)) := by
 suffices hs : Ret (Q69 NN l v) (fun r => r = runR (runD v 0 l)) by
  obtain ⟨a, e, rfl⟩ := hs
  exact e
 unfold Q69
 refine Ret.ctl (Z1 l (fun k _ => runD v 0 l = runD v k (l.drop k)) (fun r : Int × List X3 => r = runR (runD v 0 l)) (fun _ => runD v 0 l = none) rfl (fun k c s hc hI => ?_) (fun s hI => by rw [hI, List.drop_length]; rfl)) (fun r hr => .some hr) (fun s hs => .some (by rw [hs]; rfl))
 obtain ⟨g, c1, ln⟩ := Q3z (hl c (List.mem_of_getElem? hc))
 rw [Z2h hc] at hI
 simp only [runD] at hI
 obtain ⟨r, er, r1, r2⟩ := X24 hw 10 NN t c.pat v e [] ht g hv (by decide) (by simp only [List.length_nil]; omega)
 rw [er]
 simp only [Option.bind_some]
 cases hm : X6 10 c.pat v with
 | none =>
  simp only [hm] at hI
  rw [hm] at r1
  rw [r1]
  simp only [Option.isSome_none, Bool.false_eq_true, if_false, Option.bind_some]
  exact .some hI
 | some b =>
  simp only [hm] at hI
  rw [hm] at r1
  have hb := Z2b g ln hm
  have hr1 : r.1 = b := by
   have := (r2 b hm).1
   simpa using this
  rw [r1, hr1]
  simp only [Option.isSome_some, if_true]
  rw [X26]
  simp only [Option.bind_some]
  cases hg : Q4b c.guard b with
  | true =>
   rw [hg] at hI
   simp only [if_true] at hI ⊢
   have hdv := Z63 e 10 v he (Z48 hw e t v ht hv)
   rw [X4o (by have := hb.ln; omega) (fun y hy => by
    obtain ⟨e', h1, h2⟩ := Z9b 10 c.pat 10 v b hdv hm y hy
    exact Z63 _ _ _ h1 h2)]
   simp only [Option.bind_some]
   exact .some (by simp only [X72]; rw [hI]; rfl)
  | false =>
   rw [hg] at hI
   simp only [Bool.false_eq_true, if_false, Option.bind_some] at hI ⊢
   exact .some hI
end Go.Proofs.YtbdkbdafhlcilaaGreat
namespace Go.Proofs.YtbdkbdafhlcilaaGreat
open Go Go.RowKit
def byt (r : Z0) (i : Nat) : Nat := (r.b.getD i 0).toNat
def pk24 (r : Z0) (p : Nat) : Nat := if r.b.length = 0 then 0 else Zed.pkv (byt r) r.b.length p
theorem V0i {a : Nat} (h : a < 1099511627776) : wxor .i64 (a : Int) ((a / 64 : Nat) : Int) = ((a ^^^ (a / 64) : Nat) : Int) := by
 have e : (BitVec.ofInt IntKind.i64.bits (a : Int) ^^^ BitVec.ofInt IntKind.i64.bits ((a / 64 : Nat) : Int)).toNat = a ^^^ (a / 64) := by
  have ha : (BitVec.ofInt IntKind.i64.bits (a : Int)).toNat = a := by
   rw [BitVec.toNat_ofInt]
   show (((a : Int) % ((2 ^ 64 : Nat) : Int))).toNat = a
   omega
  have hb : (BitVec.ofInt IntKind.i64.bits ((a / 64 : Nat) : Int)).toNat = a / 64 := by
   rw [BitVec.toNat_ofInt]
   show ((((a / 64 : Nat) : Int) % ((2 ^ 64 : Nat) : Int))).toNat = a / 64
   omega
  rw [BitVec.toNat_xor, ha, hb]
 have hlt : a ^^^ (a / 64) < 2 ^ 40 := Nat.xor_lt_two_pow (by omega) (by omega)
 unfold wxor
 rw [e, Z4o (by omega) (by omega)]
theorem V69 {r : Z0} (hb : ∀ x ∈ r.b, 0 ≤ x ∧ x ≤ 255) (hl : r.b.length ≤ 2000) {p : Nat} (hp : r.p = (p : Int)) (hp2 : p ≤ 30000000) : Z2 r 24 = some (((pk24 r p : Nat) : Int), ⟨r.b, ((p + 1 : Nat) : Int)⟩) := by
 have ep : wadd .i64 r.p 1 = ((p + 1 : Nat) : Int) := by rw [hp, Q09] <;> omega
 have eq : wsub .i64 ((p + 1 : Nat) : Int) 1 = (p : Int) := by rw [Q3k] <;> omega
 unfold Z2
 rw [ep, eq, if_neg (by rw [X0]; omega)]
 unfold pk24
 by_cases h0 : r.b.length = 0
 ·rw [if_pos (by rw [Z4]; simp only [lenZ]; omega), if_pos h0]
  rfl
 rw [if_neg (by rw [Z4]; simp only [lenZ]; omega), if_neg h0]
 have hpos : 0 < r.b.length := by omega
 have hk0 : chk (!ieq 24 0) = some () := rfl
 have hb0 : chk (!ieq (lenZ r.b.length) 0) = some () := Z7u (by rw [Bool.not_eq_true', Z8]; simp only [lenZ]; omega)
 have get : ∀ i : Nat, i < r.b.length → idx r.b (i : Int) = some ((byt r i : Nat) : Int) ∧ byt r i ≤ 255 := fun i hi => by
  have h1 : r.b[i]? = some r.b[i] := List.getElem?_eq_getElem hi
  obtain ⟨b1, b2⟩ := hb _ (List.mem_of_getElem? h1)
  have h2 : byt r i = r.b[i].toNat := by unfold byt; rw [List.getD_eq_getElem?_getD, h1]; rfl
  rw [Q2a h1, h2]
  exact ⟨by congr 1; omega, by omega⟩
 unfold Zed.pkv
 by_cases hlt : p < r.b.length
 ·rw [if_pos (by rw [X0]; simp only [lenZ]; omega), if_pos hlt]
  obtain ⟨g1, g2⟩ := get p hlt
  rw [g1, hk0]
  simp only [Option.bind_some]
  rw [Z8t (by omega) (by omega)]
  congr 2
 ·rw [if_neg (by rw [X0]; simp only [lenZ]; omega), if_neg hlt, hb0]
  simp only [Option.bind_some]
  have e7 : wmul .i64 (p : Int) 7 = ((p * 7 : Nat) : Int) := by rw [Q7f] <;> omega
  have e73 : wadd .i64 ((p * 7 : Nat) : Int) 3 = ((p * 7 + 3 : Nat) : Int) := by rw [Q09] <;> omega
  rw [e7, e73]
  have rm : ∀ a : Nat, wrem (a : Int) (lenZ r.b.length) = ((a % r.b.length : Nat) : Int) := fun a => by
   unfold wrem lenZ
   rw [Int.tmod_eq_emod_of_nonneg (by omega)]
   rfl
  rw [rm, rm]
  obtain ⟨g1, g2⟩ := get (p % r.b.length) (Nat.mod_lt _ hpos)
  obtain ⟨g3, g4⟩ := get ((p * 7 + 3) % r.b.length) (Nat.mod_lt _ hpos)
  rw [g1, g3, hk0]
  simp only [Option.bind_some]
  generalize byt r (p % r.b.length) = x at g2 ⊢
  generalize byt r ((p * 7 + 3) % r.b.length) = y at g4 ⊢
  have f1 : wcv .i64 (x : Int) = (x : Int) := Z8t (by omega) (by omega)
  have f2 : wcv .i64 (y : Int) = (y : Int) := Z8t (by omega) (by omega)
  have f3 : wmul .i64 (x : Int) 131 = ((x * 131 : Nat) : Int) := by rw [Q7f] <;> omega
  have f4 : wmul .i64 (y : Int) 1117 = ((y * 1117 : Nat) : Int) := by rw [Q7f] <;> omega
  have f5 : wmul .i64 (p : Int) 29 = ((p * 29 : Nat) : Int) := by rw [Q7f] <;> omega
  have hq : p / r.b.length ≤ p := Nat.div_le_self _ _
  have f6 : wquo .i64 (p : Int) (lenZ r.b.length) = ((p / r.b.length : Nat) : Int) := by
   have : (p : Int).tdiv (lenZ r.b.length) = ((p / r.b.length : Nat) : Int) := by
    rw [Int.tdiv_eq_ediv_of_nonneg (by omega)]
    rfl
   generalize p / r.b.length = q at hq this ⊢
   rw [Z9w (by rw [this]; omega) (by rw [this]; omega), this]
  rw [f1, f2, f3, f4, f5, f6]
  generalize p / r.b.length = q at hq ⊢
  have f7 : wmul .i64 (q : Int) 53 = ((q * 53 : Nat) : Int) := by rw [Q7f] <;> omega
  have f8 : wadd .i64 ((x * 131 : Nat) : Int) ((y * 1117 : Nat) : Int) = ((x * 131 + y * 1117 : Nat) : Int) := by rw [Q09] <;> omega
  have f9 : wadd .i64 ((x * 131 + y * 1117 : Nat) : Int) ((p * 29 : Nat) : Int) = ((x * 131 + y * 1117 + p * 29 : Nat) : Int) := by rw [Q09] <;> omega
  have f10 : wadd .i64 ((x * 131 + y * 1117 + p * 29 : Nat) : Int) ((q * 53 : Nat) : Int) = ((x * 131 + y * 1117 + p * 29 + q * 53 : Nat) : Int) := by rw [Q09] <;> omega
  rw [f7, f8, f9, f10]
  have hz : x * 131 + y * 1117 + p * 29 + q * 53 < 1099511627776 := by omega
  generalize x * 131 + y * 1117 + p * 29 + q * 53 = z at hz ⊢
  have f11 : wquo .i64 (z : Int) 64 = ((z / 64 : Nat) : Int) := by
   have : (z : Int).tdiv 64 = ((z / 64 : Nat) : Int) := by
    rw [Int.tdiv_eq_ediv_of_nonneg (by omega)]
    rfl
   rw [Z9w (by rw [this]; omega) (by rw [this]; omega), this]
  rw [f11]
  have f12 : wxor .i64 (z : Int) ((z / 64 : Nat) : Int) = ((z ^^^ (z / 64) : Nat) : Int) := V0i hz
  rw [f12]
  unfold Zed.yv
  have : wrem ((z ^^^ (z / 64) : Nat) : Int) 24 = (((z ^^^ (z / 64)) % 24 : Nat) : Int) := by
   unfold wrem
   rw [Int.tmod_eq_emod_of_nonneg (by omega)]
   rfl
  rw [this]
def widV (m : Nat) : Q4 → Prop
 | ⟨_, _, ks⟩ => ks.length ≤ m ∧ widVs m ks
where widVs (m : Nat) : List Q4 → Prop
 | [] => True
 | v :: l => widV m v ∧ widVs m l
theorem X1r (m : Nat) : ∀ l : List Q4, widV.widVs m l ↔ ∀ x ∈ l, widV m x
 | [] => by simp [widV.widVs]
 | v :: l => by simp only [widV.widVs, List.mem_cons, forall_eq_or_imp, X1r m l]
theorem Z19 (m : Nat) (v : Q4) : widV m v ↔ v.kids.length ≤ m ∧ ∀ x ∈ v.kids, widV m x := by
 cases v
 rw [widV, X1r]
theorem Z2p {m k : Nat} (h : m ≤ k) : ∀ v : Q4, widV m v → widV k v
 | ⟨a, b, ks⟩, hv => by
  rw [Z19] at hv ⊢
  refine ⟨Nat.le_trans hv.1 h, fun x hx => ?_⟩
  have := hv.2 x hx
  exact Z2p h x this
termination_by v => SizeOf.sizeOf v
decreasing_by
 simp_wf
 have := List.sizeOf_lt_of_mem hx
 simp at this
 omega
theorem W2h {r r' : Z0} {k x : Int} (h : Z2 r k = some (x, r')) (hp : r.p ≤ 40000000) : r'.p = wadd .i64 r.p 1 := by
 unfold Z2 at h
 split at h
 ·cases h; rfl
 split at h
 ·cases h; rfl
 split at h
 ·simp only [Option.bind_eq_some_iff, Option.some.injEq, Prod.mk.injEq] at h
  obtain ⟨_, _, _, _, _, rfl⟩ := h
  rfl
 ·simp only [Option.bind_eq_some_iff, Option.some.injEq, Prod.mk.injEq] at h
  obtain ⟨_, _, _, _, _, _, _, _, _, rfl⟩ := h
  rfl
theorem X95 {b : List Int} (hb : ∀ x ∈ b, 0 ≤ x ∧ x ≤ 255) (hl : b.length ≤ 2000) {E : Nat} {V : Nat → Int} (hE : E ≤ 20000000) (hP : Zed.Pot (pk24 ⟨b, 0⟩) E V) : ∀ (k n : Nat) (v : Q4) (p m : Nat) (P : Int), E - p ≤ k → k < n → m ≤ 100 + p → widV m v → 1 ≤ P → 2 * P ≤ V p →
  Ret (Q21 n ⟨b, (p : Int)⟩ v) (fun a => ∃ p' : Nat, a.2 = ⟨b, (p' : Int)⟩ ∧ p < p' ∧ p' ≤ E + 2 ∧ 2 * (P - 1) ≤ V p' ∧ widV (m + (p' - p)) a.1) := by
 intro k
 induction k with
 | zero =>
  intro n v p m P hk hn hm hv h1 h2
  have := hP.fin p (by omega)
  omega
 | succ k ih =>
  intro n v p m P hk hn hm hv h1 h2
  obtain ⟨n, rfl⟩ : ∃ j, n = j + 1 := ⟨n - 1, by omega⟩
  have hpE : p < E := by
   rcases Nat.lt_or_ge p E with h | h
   ·exact h
   ·have := hP.fin p h
    omega
  have hv' := (Z19 m v).1 hv
  unfold Q21
  rw [W6 (by simp only [List.length_nil, Q6]; omega)]
  simp only [Option.bind_some]
  have hpk := V69 (r := ⟨b, (p : Int)⟩) hb hl rfl (by omega : p ≤ 30000000)
  have hpe : pk24 ⟨b, (p : Int)⟩ p = pk24 ⟨b, 0⟩ p := rfl
  rw [hpe] at hpk
  simp only at hpk
  have hr1 : ROk ⟨b, ((p + 1 : Nat) : Int)⟩ 1 := ⟨hb, hl, by simp only; omega, by simp only; omega⟩
  refine Ret.ctl (R := fun _ => False) (B := fun (s : Z0 × Int × Int × List Q4) => ∃ p' : Nat, s.1 = ⟨b, (p' : Int)⟩ ∧ p < p' ∧ p' ≤ E + 2 ∧ 2 * (P - 1) ≤ V p' ∧ s.2.2.2.length ≤ m + (p' - p) ∧ ∀ x ∈ s.2.2.2, widV (m + (p' - p)) x) ?_ (fun r hr => hr.elim) (fun s hs => ?_)
  ·rw [hpk]
   simp only [Option.bind_some]
   have kidsOk : ∀ q : Nat, v.kids.length ≤ m + q ∧ ∀ x ∈ v.kids, widV (m + q) x := fun q => ⟨by omega, fun x hx => Z2p (by omega) x (hv'.2 x hx)⟩
   have skip : pk24 ⟨b, 0⟩ p ≤ 1 → ∀ (a : Int × Z0), Nx ⟨b, ((p + 1 : Nat) : Int)⟩ a.2 1 → a.2.p = ((p + 2 : Nat) : Int) → a.2 = ⟨b, ((p + 2 : Nat) : Int)⟩ ∧ 2 * (P - 1) ≤ V (p + 2) := fun h a hn hp2 => by
    have := hP.skip p hpE h
    refine ⟨?_, by omega⟩
    cases a with
    | mk x r =>
     cases r with
     | mk bb pp =>
      have e1 : bb = b := hn.b
      simp only at hp2
      rw [e1, hp2]
   have num2 : ∀ l : List Int, 1 ≤ l.length → l.length ≤ 1000 → Ret (X1 ⟨b, ((p + 1 : Nat) : Int)⟩ l) (fun a => Nx ⟨b, ((p + 1 : Nat) : Int)⟩ a.2 1 ∧ a.2.p = ((p + 2 : Nat) : Int)) := fun l hl1 hl2 => by
    obtain ⟨a, e, _, hn⟩ := Q8k hr1 l hl1 hl2
    refine ⟨a, e, hn, ?_⟩
    unfold X1 at e
    cases hpick : Z2 ⟨b, ((p + 1 : Nat) : Int)⟩ (lenZ l.length) with
    | none => rw [hpick] at e; cases e
    | some q =>
     rw [hpick] at e
     simp only [Option.bind_some] at e
     cases hi : idx l q.1 with
     | none => rw [hi] at e; cases e
     | some y =>
      rw [hi] at e
      simp only [Option.bind_some, Option.some.injEq] at e
      subst e
      simp only
      have := W2h hpick (by simp only; omega)
      rw [this]
      show wadd .i64 ((p + 1 : Nat) : Int) 1 = _
      rw [Q09 (by omega) (by omega)]
      omega
   refine Ret.ite (fun h0 => ?_) (fun h0 => ?_)
   ·rw [Z4] at h0
    refine Ret.bind (num2 _ (by simp) (by simp)) (fun a ha => .some ?_)
    obtain ⟨e1, e2⟩ := skip (by omega) a ha.1 ha.2
    exact ⟨p + 2, e1, by omega, by omega, e2, (kidsOk _).1, (kidsOk _).2⟩
   rw [Z8] at h0
   refine Ret.ite (fun h1' => ?_) (fun h1' => ?_)
   ·rw [Z4] at h1'
    refine Ret.bind (num2 _ (by simp) (by simp)) (fun a ha => .some ?_)
    obtain ⟨e1, e2⟩ := skip (by omega) a ha.1 ha.2
    exact ⟨p + 2, e1, by omega, by omega, e2, (kidsOk _).1, (kidsOk _).2⟩
   rw [Z8] at h1'
   refine Ret.ite (fun h2' => ?_) (fun h2' => ?_)
   ·rw [Z4] at h2'
    have hot := hP.other p hpE (by omega) (by omega)
    rw [W6 (by simp only [List.length_cons, List.length_nil, Q6]; omega)]
    refine .some ⟨p + 1, rfl, by omega, by omega, by omega, by simp only [List.length_append, List.length_cons, List.length_nil]; omega, fun x hx => ?_⟩
    rcases List.mem_append.1 hx with hx | hx
    ·exact (kidsOk _).2 x hx
    ·simp only [List.mem_singleton] at hx
     rw [hx, Z19]
     exact ⟨by simp, fun y hy => by cases hy⟩
   rw [Z8] at h2'
   refine Ret.ite (fun h3 => ?_) (fun h3 => ?_)
   ·rw [Z4] at h3
    have hth := hP.three p hpE (by omega)
    refine Ret.ite (fun h4 => ?_) (fun h4 => ?_)
    ·rw [X0] at h4
     simp only [lenZ] at h4
     obtain ⟨x, hx, hxm⟩ := Q4a (xs := v.kids) (i := 0) (by omega) (by omega)
     rw [hx]
     simp only [Option.bind_some]
     refine Ret.bind (ih n x (p + 1) m (P + 1) (by omega) (by omega) (by omega) (hv'.2 x hxm) (by omega) (by omega)) (fun a ha => ?_)
     obtain ⟨p1, e1, e2, e3, e4, e5⟩ := ha
     rw [e1]
     refine Ret.bind (ih n a.1 p1 (m + (p1 - (p + 1))) P (by omega) (by omega) (by omega) e5 h1 (by omega)) (fun c hc => ?_)
     obtain ⟨p2, g1, g2, g3, g4, g5⟩ := hc
     have hset : setI v.kids 0 c.1 = some (v.kids.set 0 c.1) := by
      unfold setI
      rw [if_pos ⟨by omega, by show 0 < v.kids.length; omega⟩]
      rfl
     rw [hset]
     simp only [Option.bind_some]
     refine .some ⟨p2, g1, by omega, g3, g4, by simp only [List.length_set]; omega, fun y hy => ?_⟩
     rcases List.mem_or_eq_of_mem_set hy with hy | rfl
     ·exact (kidsOk _).2 y hy
     ·exact Z2p (by omega) _ g5
    ·exact .some ⟨p + 1, rfl, by omega, by omega, by omega, (kidsOk _).1, (kidsOk _).2⟩
   ·rw [Z8] at h3
    have hot := hP.other p hpE (by omega) (by omega)
    exact .some ⟨p + 1, rfl, by omega, by omega, by omega, (kidsOk _).1, (kidsOk _).2⟩
  ·obtain ⟨p', e1, e2, e3, e4, e5, e6⟩ := hs
   exact .some ⟨p', e1, e2, e3, e4, (Z19 _ _).2 ⟨e5, e6⟩⟩
theorem X98 {r : Z0} (hr : ROk r 1) (hp : r.p ≤ 5000) {v : Q4} (hv : widV 100 v) : Ret (Q21 NN r v) (fun a => Nx r a.2 20000010) := by
 obtain ⟨b, p⟩ := r
 obtain ⟨h1, h2, h3, h4⟩ := hr
 simp only at h1 h2 h3 h4 hp
 obtain ⟨p, rfl⟩ := Int.eq_ofNat_of_zero_le h3
 have hex : ∃ E V, Zed.Pot (pk24 ⟨b, 0⟩) E V ∧ 2 ≤ V p ∧ E ≤ 20000000 := by
  by_cases hb : b.length = 0
  ·obtain ⟨E, V, g1, g2, g3⟩ := Zed.pot0 p
   refine ⟨E, V, ?_, g2, by omega⟩
   have : pk24 ⟨b, 0⟩ = fun _ => 0 := by
    funext q
    unfold pk24
    rw [if_pos hb]
   rw [this]
   exact g1
  ·obtain ⟨E, V, g1, g2, g3⟩ := Zed.pot (byt ⟨b, 0⟩) (fun i => by
    unfold byt
    simp only
    rw [List.getD_eq_getElem?_getD]
    cases hi : b[i]? with
    | none => simp
    | some x =>
     have := h1 x (List.mem_of_getElem? hi)
     simp only [Option.getD_some]
     omega) (L := b.length) (p0 := p) (by omega) h2 (by omega)
   refine ⟨E, V, ?_, g2, g3⟩
   have : pk24 ⟨b, 0⟩ = Zed.pkv (byt ⟨b, 0⟩) b.length := by
    funext q
    unfold pk24
    rw [if_neg hb]
   rw [this]
   exact g1
 obtain ⟨E, V, g1, g2, g3⟩ := hex
 refine Ret.mono ?_ (X95 h1 h2 g3 g1 (E - p) NN v p (100 + p) 1 (Nat.le_refl _) (by simp only [NN]; omega) (Nat.le_refl _) (Z2p (by omega) v hv) (by omega) (by omega))
 rintro a ⟨p', e1, e2, e3, _, _⟩
 rw [e1]
 refine ⟨rfl, ?_, ?_⟩
 ·show ((p : Nat) : Int) ≤ ((p' : Nat) : Int)
  omega
 ·show ((p' : Nat) : Int) ≤ ((p : Nat) : Int) + ((20000010 : Nat) : Int)
  omega
end Go.Proofs.YtbdkbdafhlcilaaGreat
namespace Go.Proofs.YtbdkbdafhlcilaaGreat
open Go Go.RowKit
theorem X94 {code : List Int} {q : Z0} (h : ((if (ilt 2000 (lenZ code.length)) = true then ((Q73 code 2000).bind fun x8 => some (Ctl.brk (ρ := Z0) x8)) else some (Ctl.brk code))) = some (.ret q)) : False := by
 split at h
 ·cases ht : Q73 code 2000 with
  | none => rw [ht] at h; cases h
  | some x => rw [ht] at h; cases h
 ·cases h
theorem W4c {w : List Q3} (hw : WW w) : ∀ (n : Nat) (r : Z0) (t : Q2) (depth : Int), t ∈ tys w → Par (Q2f n r w (tabP w) t depth) (fun a => widV 3 a.1) := by
 intro n
 induction n with
 | zero => intro r t depth _; exact .none
 | succ n ih =>
  intro r t depth ht
  have hT := hw.ty t ht
  unfold Q2f
  refine Par.ite (fun _ => ?_) (fun _ => ?_)
  ·exact Par.any fun a => .some ((Z19 _ _).2 ⟨by simp, fun x hx => by cases hx⟩)
  ·rw [hT.c1]
   simp only [Option.bind_some]
   refine Par.ctl (Z01 (fun _ (s : List Int) => ∀ x ∈ s, x ∈ Z9 w t) (fun _ => False) (fun s => ∀ x ∈ s, x ∈ Z9 w t) (Z9 w t) 0 _ (by simp) (fun k x s hx hI => ?_) (fun s hs => hs)) (fun r hr => hr.elim) (fun s hs => ?_)
   ·have add : Par ((app s [x]).bind fun x310 => some (Ctl.brk (ρ := Ctl (Q4 × Z0) (List Int)) x310)) (CtlQ (fun _ => False) (fun s' => ∀ x ∈ s', x ∈ Z9 w t)) := by
     refine Par.bind (X15 _ _) (fun z hz => .some ?_)
     subst hz
     intro y hy
     rcases List.mem_append.1 hy with hy | hy
     ·exact hI y hy
     ·simp only [List.mem_singleton] at hy; rw [hy]; exact hx
    have pass : Par (some (Ctl.brk (ρ := Ctl (Q4 × Z0) (List Int)) s)) (CtlQ (fun _ => False) (fun s' => ∀ x ∈ s', x ∈ Z9 w t)) := .some hI
    refine Par.ctl (R := fun _ => False) (B := fun (s' : List Int) => ∀ x ∈ s', x ∈ Z9 w t) ?_ (fun r hr => hr.elim) (fun s' hs' => .some hs')
    refine Par.any fun a => Par.ite (fun _ => Par.ite (fun _ => add) (fun _ => Par.any fun b => Par.ite (fun _ => add) (fun _ => pass))) (fun _ => pass)
   ·refine Par.any fun a => ?_
    refine Par.bind (P := fun x => x ∈ Z9 w t) (fun x hx => ?_) (fun x hx => ?_)
    ·unfold idx at hx
     split at hx
     ·exact hs x (List.mem_of_getElem? hx)
     ·cases hx
    ·rw [hT.a1 x hx]
     simp only [Option.bind_some]
     have hal := hT.al x hx
     refine Par.ctl (Z01 (fun k (u : Z0 × List Q4) => u.2.length ≤ k ∧ ∀ y ∈ u.2, widV 3 y) (fun _ => False) (fun u => u.2.length ≤ 3 ∧ ∀ y ∈ u.2, widV 3 y) (Z5 w t x) 0 _ (by simp) (fun k y u hy hI => ?_) (fun u hu => ⟨by have := hu.1; omega, hu.2⟩)) (fun r hr => hr.elim) (fun u hu => .some ((Z19 _ _).2 hu))
     refine Par.bind (ih u.1 y _ (hT.at_ x hx y hy)) (fun b hb => ?_)
     refine Par.bind (X15 _ _) (fun z hz => .some ?_)
     subst hz
     refine ⟨by simp only [List.length_append, List.length_cons, List.length_nil]; have := hI.1; omega, fun q hq => ?_⟩
     rcases List.mem_append.1 hq with hq | hq
     ·exact hI.2 q hq
     ·simp only [List.mem_singleton] at hq; rw [hq]; exact hb
theorem X8q {r : Z0} (h : ROk r 1000) : Ret (Q3q NN r) (fun a => a.1 ∈ Q0g ∧ a.2.1 ∈ tys a.1 ∧ Nx r a.2.2.2 500 ∧ widV 3 a.2.2.1 ∧ depP a.1 a.2.1 ≠ 0) := by
 unfold Q3q
 refine Ret.bind (X6l (h.le (by omega))) (fun a ha => ?_)
 obtain ⟨hw, hn1⟩ := ha
 have hW := ww hw
 rw [hW.tab]
 simp only [Option.bind_some]
 have hr1 : ROk a.2 999 := ROk.nx (c := 1) h hn1
 have hpos := hW.pos
 have hle := hW.le
 refine Ret.bind (Q3m (hr1.le (by omega)) (k := lenZ a.1.length) (by simp only [lenZ]; omega) (by simp only [lenZ]; omega)) (fun b hb => ?_)
 have hr2 : ROk b.2 998 := ROk.nx (c := 1) hr1 hb.2.2
 refine Ret.bind (Q8k (hr2.le (by omega)) [0, 0, 1, 2] (by simp) (by simp)) (fun c hc => ?_)
 have hr3 : ROk c.2 997 := ROk.nx (c := 1) hr2 hc.2
 have hty : (Q2.mk b.1 c.1) ∈ tys a.1 := by
  obtain ⟨i, hi⟩ := Int.eq_ofNat_of_zero_le hb.1
  have hil : i < a.1.length := by have := hb.2.1; simp only [lenZ] at this; omega
  have hci : ∃ j : Nat, j < 4 ∧ c.1 = (j : Int) := by
   have := hc.1
   simp at this
   rcases this with h | h | h
   ·exact ⟨0, by omega, h⟩
   ·exact ⟨1, by omega, h⟩
   ·exact ⟨2, by omega, h⟩
  obtain ⟨j, hj, hcj⟩ := hci
  unfold tys
  refine List.mem_cons_of_mem _ (List.mem_flatMap.2 ⟨i, List.mem_range.2 hil, List.mem_map.2 ⟨j, List.mem_range.2 hj, ?_⟩⟩)
  rw [hi, hcj]
  rfl
 have htI : tI ∈ tys a.1 := by unfold tys; exact List.mem_cons_self
 refine Ret.ctl (R := fun _ => False) (B := fun s => (Q2.mk s.1 s.2) ∈ tys a.1 ∧ depP a.1 (Q2.mk s.1 s.2) ≠ 0) ?_ (fun r hr => hr.elim) (fun s hs => ?_)
 ·rw [(hW.ty _ hty).d1]
  simp only [Option.bind_some]
  refine Ret.ite (fun h => ?_) (fun h => ?_)
  ·refine .some ⟨htI, ?_⟩
   have := (hW.ty tI htI).ti rfl
   show depP a.1 tI ≠ 0
   omega
  ·rw [Z8] at h
   exact .some ⟨hty, h⟩
 ·refine Ret.bind (Q8k (hr3.le (by omega)) [3, 2, 4, 1] (by simp) (by simp)) (fun d hd => ?_)
  have hr4 : ROk d.2 996 := ROk.nx (c := 1) hr3 hd.2
  have hd4 : 1 ≤ d.1 ∧ d.1 ≤ 4 := by
   have := hd.1
   simp at this
   omega
  have hdep := (hW.ty _ hs.1).d4
  refine Ret.bind ((X0y hW 4 NN d.2 _ d.1 hs.1 hs.2 (by omega) (by omega) (by omega) (by omega) (by decide) (hr4.le (by decide))).both (W4c hW NN d.2 _ d.1 hs.1)) (fun e he => ?_)
  refine .some ⟨hw, hs.1, ?_, he.2, hs.2⟩
  have := (((hn1.trans hb.2.2).trans hc.2).trans hd.2).trans he.1
  exact this.le' (by decide)
theorem X8p {r : Z0} (h : ROk r 5000) : Ret (Q1a NN r) (fun a => a.1 ∈ Q0g ∧ a.2.1 ∈ tys a.1 ∧ (∀ c ∈ a.2.2.1, Q12 a.1 a.2.1 c.pat = true) ∧ a.2.2.1.length ≤ 5 ∧ Nx r a.2.2.2.2 4000 ∧ widV 3 a.2.2.2.1 ∧ depP a.1 a.2.1 ≠ 0) := by
 unfold Q1a
 refine Ret.bind (X8q (h.le (by omega))) (fun a ha => ?_)
 obtain ⟨h1, h2, h3, h4, h5⟩ := ha
 refine Ret.bind (X7e (ww h1) h2 (ROk.nx (c := 500) (h.le (by omega)) h3)) (fun b hb => ?_)
 exact .some ⟨h1, h2, hb.1, hb.2.1, (h3.trans hb.2.2).le' (by omega), h4, h5⟩
theorem W6o (code : List Int) (hb : ∀ x ∈ code, 0 ≤ x ∧ x ≤ 255) : Ret (Q2i code) (fun r => ROk r 1000000 ∧ r.p = 0) := by
 obtain ⟨r, e, hr⟩ := W2m code hb
 refine ⟨r, e, hr, ?_⟩
 unfold Q2i at e
 simp only [Option.bind_eq_some_iff] at e
 obtain ⟨o, h1, h2⟩ := e
 cases o with
 | ret q => exact (X94 h1).elim
 | go s => cases h2
 | brk s => simp only [Option.some.injEq] at h2; rw [← h2]
end Go.Proofs.YtbdkbdafhlcilaaGreat
namespace Go.Proofs.YtbdkbdafhlcilaaGreat
open Go Go.RowKit
theorem W0i (code : List Int) (hb : ∀ x ∈ code, 0 ≤ x ∧ x ≤ 255) : Ret (Q0x NN code) (fun a => a.1 ∈ Q0g ∧ a.2.1 ∈ tys a.1 ∧ 1 ≤ a.2.2.2.length ∧ a.2.2.2.length ≤ 4) := by
 unfold Q0x
 refine Ret.bind (W6o code hb) (fun r hr => ?_)
 obtain ⟨hr, hp0⟩ := hr
 refine Ret.bind (X8p (hr.le (by omega))) (fun a ha => ?_)
 obtain ⟨h1, h2, h3, h4, h5, h6, h7⟩ := ha
 have hW := ww h1
 have hd4 := (hW.ty _ h2).d4
 have hr1 : ROk a.2.2.2.2 900000 := ROk.nx (c := 4000) (hr.le (by omega)) h5
 refine Ret.bind (Q3m (hr1.le (by omega)) (by omega) (by omega)) (fun b hb2 => ?_)
 have hr2 : ROk b.2 800000 := ROk.nx (c := 1) (hr1.le (by omega)) hb2.2.2
 have hb1 := hb2.1
 have hb3 := hb2.2.1
 refine Ret.ctl (Q3l (fun s : Z0 × List Q4 × Int => 0 ≤ s.2.2 ∧ s.2.2 ≤ 3 ∧ (s.2.1.length : Int) + s.2.2 = 1 + b.1 ∧ 1 ≤ s.2.1.length ∧ Nx b.2 s.1 ((s.2.1.length - 1) * 121)) (fun s => s.2.2.toNat) (fun _ => False) (fun s => 1 ≤ s.2.1.length ∧ s.2.1.length ≤ 4 ∧ Nx b.2 s.1 363)
  ⟨hb1, by show b.1 ≤ 3; omega, by simp, by simp, by simpa using Nx.refl b.2⟩ (fun s hI => ?_) NN (by simp only [NN]; omega)) (fun r hr => hr.elim) (fun s hs => ?_)
 ·obtain ⟨i1, i2, i3, i4, i5⟩ := hI
  refine Ret.ite (fun h => ?_) (fun h => ?_)
  ·rw [X0] at h
   have hr3 : ROk s.1 700000 := ROk.nx (c := (s.2.1.length - 1) * 121) (hr2.le (by omega)) i5
   rw [hW.tab]
   simp only [Option.bind_some]
   refine Ret.bind (X0y hW 4 NN s.1 _ 3 h2 h7 (by omega) (by omega) (by omega) (by omega) (by decide) (hr3.le (by decide))) (fun d hd => ?_)
   rw [W6 (by simp only [List.length_cons, List.length_nil, Q6]; omega)]
   simp only [Option.bind_some]
   have e1 : wsub .i64 s.2.2 1 = s.2.2 - 1 := by rw [Q3k] <;> omega
   rw [e1]
   refine .some ⟨⟨by simp only; omega, by simp only; omega, by simp only [List.length_append, List.length_cons, List.length_nil]; omega, by simp only [List.length_append, List.length_cons, List.length_nil]; omega, ?_⟩, by simp only; omega⟩
   have hc : Z3s 4 = 121 := rfl
   rw [hc] at hd
   exact (i5.trans hd).le' (by simp only [List.length_append, List.length_cons, List.length_nil]; omega)
  ·rw [J8] at h
   have hl : s.2.1.length ≤ 4 := by omega
   exact .some ⟨i4, hl, i5.le' (by omega)⟩
 ·obtain ⟨s1, s2, s3⟩ := hs
  have hr4 : ROk s.1 700000 := ROk.nx (c := 363) (hr2.le (by omega)) s3
  have hp : s.1.p ≤ 5000 := by
   have e1 := h5.ge
   have e2 := hb2.2.2.ge
   have e3 := s3.ge
   omega
  refine Ret.bind (X98 (hr4.le (by omega)) hp (Z2p (by omega) _ h6)) (fun d _ => ?_)
  obtain ⟨x, hx, _⟩ := Q4a (xs := s.2.1) (i := 0) (by omega) (by omega)
  rw [hx]
  simp only [Option.bind_some]
  have hset : setI s.2.1 0 d.1 = some (s.2.1.set 0 d.1) := by
   unfold setI
   rw [if_pos ⟨by omega, by show 0 < s.2.1.length; omega⟩]
   rfl
  rw [hset]
  exact .some ⟨h1, h2, by simp only [List.length_set]; omega, by simp only [List.length_set]; omega⟩
end Go.Proofs.YtbdkbdafhlcilaaGreat
namespace Go.Proofs.YtbdkbdafhlcilaaGreat
open Go Go.RowKit
theorem X50 (l : List Int) : Q3d l l = some true := by
 suffices hs : Ret (Q3d l l) (fun a => a = true) by
  obtain ⟨a, e, rfl⟩ := hs
  exact e
 unfold Q3d
 have e : (!ieq (lenZ l.length) (lenZ l.length)) = false := by simp [ieq]
 simp only [e, Bool.false_eq_true, if_false]
 refine Ret.ctl (Z1 l (fun _ _ => True) (fun _ => False) (fun _ => True) trivial (fun i x s hi _ => ?_) (fun _ _ => trivial)) (fun r hr => hr.elim) (fun s _ => .some rfl)
 rw [Q2a hi]
 have e : (!ieq x x) = false := by simp [ieq]
 simp only [Option.bind_some, e, Bool.false_eq_true, if_false]
 exact .some trivial
end Go.Proofs.YtbdkbdafhlcilaaGreat
namespace Go.Proofs.YtbdkbdafhlcilaaGreat
open Go Go.RowKit
theorem V15 (l : List Int) (x : Int) : Q2u l x = some (decide (x ∈ l)) := by
 suffices hs : Ret (Q2u l x) (fun r => r = decide (x ∈ l)) by
  obtain ⟨a, e, rfl⟩ := hs
  exact e
 unfold Q2u
 refine Ret.ctl (Z1 l (fun k _ => x ∉ l.take k) (fun r => r = true ∧ x ∈ l) (fun _ => x ∉ l) (by simp) (fun k y s hy hI => ?_) (fun s hI => by rwa [List.take_length] at hI)) (fun r hr => .some (by rw [hr.1]; simp [hr.2])) (fun s hs => .some (by simp [hs]))
 refine Ret.ite (fun h => ?_) (fun h => ?_)
 ·rw [Z4] at h
  exact .some ⟨rfl, h ▸ List.mem_of_getElem? hy⟩
 ·rw [Z8] at h
  refine .some ?_
  simp only [Q4z]
  rw [List.take_add_one, hy]
  simp only [Option.toList_some, List.mem_append, List.mem_singleton, not_or]
  exact ⟨hI, fun e => h e.symm⟩
end Go.Proofs.YtbdkbdafhlcilaaGreat
namespace Go.Proofs.YtbdkbdafhlcilaaGreat
open Go Go.RowKit
def Q7m (l : List Q5) (v : Q4) (i : Nat) : Bool := match runD v 0 l with
 | some x => decide (x.1 = i)
 | none => false
def hitB (l : List Q5) (vs : List Q4) (i : Nat) : Bool := vs.any fun v => Q7m l v i
def X3b (l : List Q5) (vs : List Q4) : List Nat := (List.range l.length).filter (hitB l vs)
def covD (w : List Q3) (t : Q2) (l : List Q5) (vs : List Q4) : List Int :=
 if J5 w t l = true ∧ vs.all (Q40 w t) = true then (X3b l vs).map (fun i : Nat => (i : Int)) else []
theorem X0n {l : List Q5} {vs : List Q4} {k : Nat} {v : Q4} (h : vs[k]? = some v) (i : Nat) : hitB l (vs.take (k + 1)) i = (hitB l (vs.take k) i || Q7m l v i) := by
 unfold hitB
 rw [List.take_add_one, h]
 simp
theorem Z9n {l : List Q5} {vs : List Q4} {k N : Nat} {v : Q4} (h : vs[k]? = some v) {x : Nat × List X3} (hr : runD v 0 l = some x) : ((List.range N).map (hitB l (vs.take k))).set x.1 true = (List.range N).map (hitB l (vs.take (k + 1))) := by
 apply List.ext_getElem?
 intro i
 rw [List.getElem?_set, List.getElem?_map, List.getElem?_map]
 by_cases hi : i < N
 ·rw [List.getElem?_range hi]
  simp only [Option.map_some, List.length_map, List.length_range]
  by_cases hx : x.1 = i
  ·rw [if_pos hx, if_pos (by omega), X0n h]
   simp [Q7m, hr, hx]
  ·rw [if_neg hx, X0n h]
   simp [Q7m, hr, hx]
 ·rw [List.getElem?_eq_none (by simpa using hi)]
  simp only [Option.map_none, List.length_map, List.length_range]
  by_cases hx : x.1 = i
  ·rw [if_pos hx, if_neg (by omega)]
  ·rw [if_neg hx]
theorem Z9o {l : List Q5} {vs : List Q4} {k N : Nat} {v : Q4} (h : vs[k]? = some v) (hr : runD v 0 l = none) : (List.range N).map (hitB l (vs.take k)) = (List.range N).map (hitB l (vs.take (k + 1))) := by
 refine List.map_congr_left fun i _ => ?_
 rw [X0n h]
 simp [Q7m, hr]
theorem X6w {v : Q4} {l : List Q5} {x : Nat × List X3} (h : runD v 0 l = some x) : x.1 < l.length := by
 obtain ⟨i, c, b, h1, h2, _⟩ := Q41 h
 have := (List.getElem?_eq_some_iff.1 h1).1
 omega
theorem X2f {o : Option (Nat × List X3)} (h : 0 ≤ (runR o).1) : ∃ x, o = some x ∧ (runR o).1 = (x.1 : Int) := by
 cases o with
 | none => simp [runR] at h
 | some x => exact ⟨x, rfl, rfl⟩
theorem Z57 (p : Nat → Bool) (N k : Nat) (hk : k < N) : ((List.range N).map p)[k]? = some (p k) := by
 rw [List.getElem?_map, List.getElem?_range hk]; rfl
theorem Z23 {w : List Q3} (hww : w ∈ Q0g) {t : Q2} (ht : t ∈ tys w) (l : List Q5) (vs : List Q4) : Q0j NN w t l vs = some (covD w t l vs) := by
 have hw := ww hww
 suffices hs : Ret (Q0j NN w t l vs) (fun r => r = covD w t l vs) by
  obtain ⟨a, e, rfl⟩ := hs
  exact e
 unfold Q0j covD
 rw [Q3w hw ht]
 simp only [Option.bind_some]
 by_cases hc : J5 w t l = true
 ·obtain ⟨h8, hpv⟩ := Q5c hc
  simp only [hc, Bool.not_true, Bool.false_eq_true, if_false, true_and]
  refine Ret.ctl (Z1 vs (fun k s => s = (List.range 8).map (hitB l (vs.take k)) ∧ ∀ v ∈ vs.take k, Q40 w t v = true) (fun r => r = [] ∧ vs.all (Q40 w t) = false) (fun s => s = (List.range 8).map (hitB l vs) ∧ vs.all (Q40 w t) = true) ⟨rfl, by simp⟩ (fun k v s hv hI => ?_) (fun s hI => ?_)) (fun r hr => .some (by rw [if_neg (by rw [hr.2]; simp)]; exact hr.1)) (fun s hs => ?_)
  ·obtain ⟨hI, hall⟩ := hI
   have hlen : s.length = 8 := by rw [hI]; simp
   rw [Z51 hw ht v]
   simp only [Option.bind_some]
   cases hvv : Q40 w t v with
   | false =>
    simp only [Bool.not_false, if_true, Option.bind_some]
    refine .some ⟨rfl, ?_⟩
    rw [List.all_eq_false]
    exact ⟨v, List.mem_of_getElem? hv, by rw [hvv]; simp⟩
   | true =>
    simp only [Bool.not_true, Bool.false_eq_true, if_false]
    rw [Z9g hw ht hpv (Q9e hvv) (Nat.le_refl _)]
    simp only [Option.bind_some]
    have hall' : ∀ u ∈ vs.take (k + 1), Q40 w t u = true := fun u hu => by
     rw [List.take_add_one, hv] at hu
     rcases List.mem_append.1 hu with hu | hu
     ·exact hall u hu
     ·simp only [Option.toList_some, List.mem_singleton] at hu; rw [hu]; exact hvv
    by_cases h0 : 0 ≤ (runR (runD v 0 l)).1
    ·rw [if_pos (by rw [Q03]; exact h0)]
     obtain ⟨x, hx, hx2⟩ := X2f h0
     have hxl := X6w hx
     rw [hx2]
     have hset : aset 8 s (x.1 : Int) true = some (s.set x.1 true) := by
      unfold aset setI
      rw [if_pos hlen, if_pos ⟨by omega, by simp only [Int.toNat_natCast]; omega⟩]
      simp
     rw [hset]
     refine .some ⟨?_, hall'⟩
     rw [hI, Z9n hv hx]
    ·rw [if_neg (by rw [Q03]; exact h0)]
     refine .some ⟨?_, hall'⟩
     rw [hI]
     refine Z9o hv ?_
     cases hr : runD v 0 l with
     | none => rfl
     | some x => exact absurd ((X6y _).2 (by rw [hr]; rfl)) h0
  ·rw [List.take_length] at hI
   exact ⟨hI.1, List.all_eq_true.2 hI.2⟩
  ·obtain ⟨hs1, hs2⟩ := hs
   rw [if_pos hs2]
   have hlen : s.length = 8 := by rw [hs1]; simp
   dsimp only
   rw [Z7u (by simp [hlen])]
   simp only [Option.bind_some]
   refine Ret.ctl (Q3l (fun u : List Int × Int => ∃ k : Nat, k ≤ 8 ∧ u = (((List.range k).filter (hitB l vs)).map (fun i : Nat => (i : Int)), (k : Int))) (fun u => (8 - u.2).toNat) (fun _ => False) (fun u => u.1 = ((List.range 8).filter (hitB l vs)).map (fun i : Nat => (i : Int))) ⟨0, by omega, rfl⟩ (fun u hI => ?_) NN (by show (8 - ((0 : Nat) : Int)).toNat < 30000000; omega)) (fun r hr => hr.elim) (fun u hu => .some ?_)
   ·obtain ⟨k, hk, rfl⟩ := hI
    dsimp only
    by_cases h8' : k < 8
    ·rw [if_pos (by rw [X0]; omega)]
     have hget : aget 8 s (k : Int) = some (hitB l vs k) := by
      unfold aget
      rw [if_pos hlen, Q2a]
      rw [hs1, Z57 _ _ _ h8']
     rw [hget, Q09 (by omega) (by omega)]
     simp only [Option.bind_some]
     have hfl : (((List.range k).filter (hitB l vs)).map (fun i : Nat => (i : Int))).length ≤ 8 := by
      rw [List.length_map]
      have := List.length_filter_le (hitB l vs) (List.range k)
      rw [List.length_range] at this
      omega
     cases hh : hitB l vs k with
     | true =>
      simp only [if_true]
      rw [W6 (by simp only [List.length_cons, List.length_nil, Q6]; omega)]
      refine .some ⟨⟨k + 1, by omega, ?_⟩, by simp only; omega⟩
      rw [List.range_succ, List.filter_append, List.map_append]
      simp [hh]
     | false =>
      simp only [Bool.false_eq_true, if_false, Option.bind_some]
      refine .some ⟨⟨k + 1, by omega, ?_⟩, by simp only; omega⟩
      rw [List.range_succ, List.filter_append, List.map_append]
      simp [hh]
    ·rw [if_neg (by rw [X0]; omega)]
     exact .some (by simp only [Z5u]; rw [show k = 8 by omega])
   ·rw [hu]
    unfold X3b
    have hno : ∀ i, l.length ≤ i → hitB l vs i = false := fun i hi => by
     unfold hitB
     rw [List.any_eq_false]
     intro v _
     unfold Q7m
     cases hr : runD v 0 l with
     | none => simp
     | some x =>
      have := X6w hr
      simp only [decide_eq_true_eq]
      omega
    obtain ⟨e, he⟩ : ∃ e, 8 = l.length + e := ⟨8 - l.length, by omega⟩
    rw [he, List.range_add, List.filter_append]
    have : (List.map (fun x => l.length + x) (List.range e)).filter (hitB l vs) = [] := by
     rw [List.filter_eq_nil_iff]
     intro a ha
     obtain ⟨x, _, rfl⟩ := List.mem_map.1 ha
     rw [hno _ (by omega)]
     simp
    rw [this, List.append_nil]
 ·simp only [hc, Bool.not_false, if_true, false_and, if_false]
  exact .some rfl
theorem Z8b {w : List Q3} (hww : w ∈ Q0g) {t : Q2} (ht : t ∈ tys w) (l : List Q5) (vs : List Q4) : J6 NN w t l vs = some (covD w t l vs) := by
 have hw := ww hww
 suffices hs : Ret (J6 NN w t l vs) (fun r => r = covD w t l vs) by
  obtain ⟨a, e, rfl⟩ := hs
  exact e
 unfold J6 covD
 rw [Q5s hw ht]
 simp only [Option.bind_some]
 by_cases hc : J5 w t l = true
 ·obtain ⟨h8, hpv⟩ := Q5c hc
  simp only [hc, Bool.not_true, Bool.false_eq_true, if_false, true_and]
  have hmk : mkS (lenZ l.length) false = some (List.replicate l.length false) := by
   unfold mkS
   rw [Q0k, if_pos ⟨by omega, by simp only [Q6]; omega⟩]
   simp
  rw [hmk]
  simp only [Option.bind_some]
  have h0 : List.replicate l.length false = (List.range l.length).map (hitB l (vs.take 0)) := by
   apply List.ext_getElem?
   intro i
   rw [List.getElem?_replicate, List.getElem?_map]
   by_cases hi : i < l.length
   ·rw [List.getElem?_range hi, if_pos hi]; simp [hitB]
   ·rw [if_neg hi, List.getElem?_eq_none (by simpa using hi)]; rfl
  refine Ret.ctl (Z1 vs (fun k s => s = (List.range l.length).map (hitB l (vs.take k)) ∧ ∀ v ∈ vs.take k, Q40 w t v = true) (fun r => r = [] ∧ vs.all (Q40 w t) = false) (fun s => s = (List.range l.length).map (hitB l vs) ∧ vs.all (Q40 w t) = true) ⟨h0, by simp⟩ (fun k v s hv hI => ?_) (fun s hI => ?_)) (fun r hr => .some (by rw [if_neg (by rw [hr.2]; simp)]; exact hr.1)) (fun s hs => ?_)
  ·obtain ⟨hI, hall⟩ := hI
   have hlen : s.length = l.length := by rw [hI]; simp
   rw [X21 hw ht v]
   simp only [Option.bind_some]
   cases hvv : Q40 w t v with
   | false =>
    simp only [Bool.not_false, if_true, Option.bind_some]
    refine .some ⟨rfl, ?_⟩
    rw [List.all_eq_false]
    exact ⟨v, List.mem_of_getElem? hv, by rw [hvv]; simp⟩
   | true =>
    simp only [Bool.not_true, Bool.false_eq_true, if_false]
    rw [X8s hw ht hpv (Q9e hvv) (Nat.le_refl _)]
    simp only [Option.bind_some]
    have hall' : ∀ u ∈ vs.take (k + 1), Q40 w t u = true := fun u hu => by
     rw [List.take_add_one, hv] at hu
     rcases List.mem_append.1 hu with hu | hu
     ·exact hall u hu
     ·simp only [Option.toList_some, List.mem_singleton] at hu; rw [hu]; exact hvv
    by_cases h0 : 0 ≤ (runR (runD v 0 l)).1
    ·rw [if_pos (by rw [Q03]; exact h0)]
     obtain ⟨x, hx, hx2⟩ := X2f h0
     have hxl := X6w hx
     rw [hx2]
     have hset : setI s (x.1 : Int) true = some (s.set x.1 true) := by
      unfold setI
      rw [if_pos ⟨by omega, by simp only [Int.toNat_natCast]; omega⟩]
      simp
     obtain ⟨y, hy, _⟩ := Q4a (xs := s) (i := (x.1 : Int)) (by omega) (by omega)
     rw [hy]
     simp only [Option.bind_some]
     rw [hset]
     refine .some ⟨?_, hall'⟩
     rw [hI, Z9n hv hx]
    ·rw [if_neg (by rw [Q03]; exact h0)]
     refine .some ⟨?_, hall'⟩
     rw [hI]
     refine Z9o hv ?_
     cases hr : runD v 0 l with
     | none => rfl
     | some x => exact absurd ((X6y _).2 (by rw [hr]; rfl)) h0
  ·rw [List.take_length] at hI
   exact ⟨hI.1, List.all_eq_true.2 hI.2⟩
  ·obtain ⟨hs1, hs2⟩ := hs
   rw [if_pos hs2]
   have hlen : s.length = l.length := by rw [hs1]; simp
   refine Ret.ctl (Z1 s (fun k u => u = ((List.range k).filter (hitB l vs)).map (fun i : Nat => (i : Int))) (fun _ => False) (fun u => u = (X3b l vs).map (fun i : Nat => (i : Int))) (by simp) (fun k b u hb hI => ?_) (fun u hI => by rw [hI, hlen]; rfl)) (fun r hr => hr.elim) (fun u hu => .some hu)
   have hk := (List.getElem?_eq_some_iff.1 hb).1
   have hbk : b = hitB l vs k := by
    rw [hs1, Z57 _ _ _ (by omega)] at hb
    exact (Option.some.inj hb).symm
   have hfl : u.length ≤ 8 := by
    rw [hI, List.length_map]
    have := List.length_filter_le (hitB l vs) (List.range k)
    rw [List.length_range] at this
    omega
   cases hh : hitB l vs k with
   | true =>
    rw [hh] at hbk
    subst hbk
    simp only [if_true]
    rw [W6 (by simp only [List.length_cons, List.length_nil, Q6]; omega)]
    refine .some ?_
    simp only [Q4z]
    rw [hI, List.range_succ, List.filter_append, List.map_append]
    simp [hh]
   | false =>
    rw [hh] at hbk
    subst hbk
    simp only [Bool.false_eq_true, if_false, Option.bind_some]
    refine .some ?_
    simp only [Q4z]
    rw [hI, List.range_succ, List.filter_append, List.map_append]
    simp [hh]
 ·simp only [hc, Bool.not_false, if_true, false_and, if_false]
  exact .some rfl
theorem W2x {w : List Q3} {t : Q2} {l : List Q5} {vs : List Q4} {k : Nat} : (k : Int) ∈ covD w t l vs ↔ (J5 w t l = true ∧ vs.all (Q40 w t) = true) ∧ ∃ v ∈ vs, ∃ b, runD v 0 l = some (k, b) := by
 unfold covD
 by_cases h : J5 w t l = true ∧ vs.all (Q40 w t) = true
 ·rw [if_pos h]
  simp only [List.mem_map, X3b, List.mem_filter, List.mem_range, h, true_and, and_self]
  constructor
  ·rintro ⟨i, ⟨_, hi⟩, he⟩
   have : i = k := by omega
   subst this
   obtain ⟨v, hv, hr⟩ := List.any_eq_true.1 hi
   unfold Q7m at hr
   cases hd : runD v 0 l with
   | none => rw [hd] at hr; cases hr
   | some x =>
    rw [hd] at hr
    simp only [decide_eq_true_eq] at hr
    subst hr
    exact ⟨v, hv, x.2, hd⟩
  ·rintro ⟨v, hv, b, hr⟩
   exact ⟨k, ⟨X6w hr, List.any_eq_true.2 ⟨v, hv, by simp [Q7m, hr]⟩⟩, rfl⟩
 ·rw [if_neg h]
  exact ⟨fun e => by simp at e, fun e => absurd e.1 h⟩
theorem X7v (l : List Q5) : ∀ vs : List Q4, (X3b l vs).length ≤ vs.length
 | [] => by
  have : X3b l [] = [] := by
   unfold X3b
   rw [List.filter_eq_nil_iff]
   simp [hitB]
  rw [this]; simp
 | v :: vs => by
  have ih := X7v l vs
  have hp : ∀ (N : Nat), ((List.range N).filter (hitB l (v :: vs))).length ≤ ((List.range N).filter (Q7m l v)).length + ((List.range N).filter (hitB l vs)).length := by
   intro N
   generalize List.range N = L
   induction L with
   | nil => simp
   | cons a L ihL =>
    simp only [List.filter_cons]
    have hab : hitB l (v :: vs) a = (Q7m l v a || hitB l vs a) := by simp [hitB]
    rw [hab]
    cases Q7m l v a <;> cases hitB l vs a <;> simp <;> omega
  have hone : ((List.range l.length).filter (Q7m l v)).length ≤ 1 := by
   cases hr : runD v 0 l with
   | none =>
    have : (List.range l.length).filter (Q7m l v) = [] := by
     rw [List.filter_eq_nil_iff]
     simp [Q7m, hr]
    rw [this]; simp
   | some x =>
    have e : (List.range l.length).filter (Q7m l v) = (List.range l.length).filter (fun i => decide (i = x.1)) := by
     refine List.filter_congr fun i _ => ?_
     simp only [Q7m, hr, eq_comm]
    rw [e]
    have hn : ((List.range l.length).filter (fun i => decide (i = x.1))).Nodup := List.Pairwise.filter _ List.nodup_range
    have hall : ∀ a ∈ (List.range l.length).filter (fun i => decide (i = x.1)), a = x.1 := fun a ha => by simpa using (List.mem_filter.1 ha).2
    generalize (List.range l.length).filter (fun i => decide (i = x.1)) = L at hn hall
    match L, hn, hall with
    | [], _, _ => simp
    | [a], _, _ => simp
    | a :: b :: L, hn, hall =>
     have h1 := hall a (by simp)
     have h2 := hall b (by simp)
     simp [h1, h2] at hn
  have := hp l.length
  unfold X3b at ih ⊢
  simp only [List.length_cons]
  omega
theorem X57 (code : List Int) (hb : ∀ x ∈ code, 0 ≤ x ∧ x ≤ 255) : Q0m NN code = some true := by
 suffices hr : Ret (Q0m NN code) (fun r => r = true) by
  obtain ⟨_, e, rfl⟩ := hr
  exact e
 unfold Q0m
 refine Ret.ite (fun _ => .some rfl) (fun _ => ?_)
 refine Ret.bind (W0i code hb) (fun a ha => ?_)
 obtain ⟨w, t, l, vs⟩ := a
 obtain ⟨hww, ht, hv1, hv4⟩ := ha
 simp only at hww ht hv1 hv4 ⊢
 rw [Z23 hww ht, Z8b hww ht]
 simp only [Option.bind_some]
 rw [X50]
 simp only [Option.bind_some, Bool.not_true, Bool.false_eq_true, if_false]
 refine Ret.ite (fun _ => .some rfl) (fun hne => ?_)
 have e1 : wsub .i64 (lenZ vs.length) 1 = ((vs.length - 1 : Nat) : Int) := by rw [Q0k, Q3k] <;> omega
 rw [e1, Z5q (by omega)]
 simp only [Option.bind_some]
 rw [Z23 hww ht, Z5h hww ht]
 simp only [Option.bind_some]
 have hcond : J5 w t l = true ∧ vs.all (Q40 w t) = true := by
  refine Classical.byContradiction fun h => ?_
  unfold covD at hne
  rw [if_neg h] at hne
  simp [ieq, Q0k] at hne
 have hle : (covD w t l vs).length ≤ vs.length := by
  unfold covD
  rw [if_pos hcond, List.length_map]
  exact X7v l vs
 refine Ret.ctl (Z1 l (fun _ _ => True) (fun _ => False) (fun _ => True) trivial (fun k c u hc _ => ?_) (fun _ _ => trivial)) (fun r hr => hr.elim) (fun _ _ => .some (by rw [Q03, Q0k, Q0k]; omega))
 simp only [V15, Option.bind_some]
 have hsub : (k : Int) ∈ covD w t l (vs.take (vs.length - 1)) → (k : Int) ∈ covD w t l vs := fun h => by
  rw [W2x] at h ⊢
  obtain ⟨_, v, hv, b, hr⟩ := h
  exact ⟨hcond, v, List.mem_of_mem_take hv, b, hr⟩
 have hno : (k : Int) ∈ covD w t l vs → (k : Int) ∉ (redD w t l).1 := fun h1 h2 => by
  obtain ⟨_, v, hv, b, hr⟩ := W2x.1 h1
  exact W2c hww ht h2 (Q9e (List.all_eq_true.1 hcond.2 v hv)) hr
 by_cases h1 : (k : Int) ∈ covD w t l vs
 ·have h2 := hno h1
  simp only [h1, h2, decide_true, decide_false, Bool.not_true, Bool.false_eq_true, if_false, if_true, ite_self]
  exact .some trivial
 ·have h3 : (k : Int) ∉ covD w t l (vs.take (vs.length - 1)) := fun h => h1 (hsub h)
  simp only [h1, h3, decide_false, Bool.false_eq_true, if_false, ite_self]
  exact .some trivial
end Go.Proofs.YtbdkbdafhlcilaaGreat
