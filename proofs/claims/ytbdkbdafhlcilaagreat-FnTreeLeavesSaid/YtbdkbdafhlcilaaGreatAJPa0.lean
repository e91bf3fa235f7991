import Derived.Test.YtbdkbdafhlcilaaGreatAJP1
import Derived.Test.YtbdkbdafhlcilaaGreatAJP0
import Derived.Test.YtbdkbdafhlcilaaGreatAJE1
import Derived.Test.YtbdkbdafhlcilaaGreatAJE0
import Derived.Test.YtbdkbdafhlcilaaGreatAJMir
import Derived.Test.YtbdkbdafhlcilaaGreatAJMa0
set_option linter.unusedSimpArgs false
set_option linter.unusedVariables false
namespace Go.Proofs.YtbdkbdafhlcilaaGreat
open Go Go.RowKit
def sepP (w : List Q3) (t : Q2) : List Q0 → List Q0 → Option (List Q0)
 | _, [] => some []
 | bef, p :: ps => (Q2z w 10 11 t [p] bef).bind fun m => (sepP w t (bef ++ [p]) ps).map (m ++ ·)
theorem Z5z {w : List Q3} {t : Q2} : ∀ (ps bef r : List Q0), (∀ b ∈ bef, Q0d w 10 t b) → (∀ p ∈ ps, Q0d w 10 t p) → sepP w t bef ps = some r → ∀ y ∈ r, Q0d w 11 t y
 | [], _, r, _, _, e => by simp only [sepP, Option.some.injEq] at e; subst e; simp
 | p :: ps, bef, r, hb, hp, e => by
  simp only [sepP] at e
  cases hm : Q2z w 10 11 t [p] bef with
  | none => rw [hm] at e; simp at e
  | some m =>
   rw [hm] at e
   simp only [Option.bind_some, Option.map_eq_some_iff] at e
   obtain ⟨r2, h2, rfl⟩ := e
   intro y hy
   rcases List.mem_append.1 hy with hy | hy
   ·exact Z0g (by omega) hb (fun a ha => by simp only [List.mem_singleton] at ha; rw [ha]; exact Q7w 10 t p (hp p (by simp))) hm y hy
   ·exact Z5z ps (bef ++ [p]) r2 (fun b hb' => by
     rcases List.mem_append.1 hb' with h | h
     ·exact hb b h
     ·simp only [List.mem_singleton] at h; rw [h]; exact hp p (by simp)) (fun q hq => hp q (by simp [hq])) h2 y hy
theorem W1w {w : List Q3} (hw : WW w) (he : WE w) {t : Q2} (ht : t ∈ tys w) {e : Nat} {v : Z4} (hv : Q1u w e t v) : ∀ (ps bef r : List Q0), (∀ b ∈ bef, Q0d w 10 t b) → (∀ p ∈ ps, Q0d w 10 t p) → sepP w t bef ps = some r →
  ((∃ y ∈ r, fitP y v = true) ↔ (∃ p ∈ ps, fitP p v = true) ∧ ∀ b ∈ bef, fitP b v = false)
 | [], _, r, _, _, e => by simp only [sepP, Option.some.injEq] at e; subst e; simp
 | p :: ps, bef, r, hb, hp, e => by
  simp only [sepP] at e
  cases hm : Q2z w 10 11 t [p] bef with
  | none => rw [hm] at e; simp at e
  | some m =>
   rw [hm] at e
   simp only [Option.bind_some, Option.map_eq_some_iff] at e
   obtain ⟨r2, h2, rfl⟩ := e
   have h3 := Z1z hw he ht (by omega) hv hb (fun a ha => by simp only [List.mem_singleton] at ha; rw [ha]; exact Q7w 10 t p (hp p (by simp))) hm
   have h4 := W1w hw he ht hv ps (bef ++ [p]) r2 (fun b hb' => by
     rcases List.mem_append.1 hb' with h | h
     ·exact hb b h
     ·simp only [List.mem_singleton] at h; rw [h]; exact hp p (by simp)) (fun q hq => hp q (by simp [hq])) h2
   constructor
   ·rintro ⟨y, hy, hf⟩
    rcases List.mem_append.1 hy with hy | hy
    ·obtain ⟨⟨a, ha, haf⟩, hbf⟩ := h3.1 ⟨y, hy, hf⟩
     simp only [List.mem_singleton] at ha
     subst ha
     exact ⟨⟨a, by simp, haf⟩, hbf⟩
    ·obtain ⟨⟨a, ha, haf⟩, hbf⟩ := h4.1 ⟨y, hy, hf⟩
     exact ⟨⟨a, by simp [ha], haf⟩, fun b hb' => hbf b (by simp [hb'])⟩
   ·rintro ⟨⟨a, ha, haf⟩, hbf⟩
    cases hpf : fitP p v with
    | true =>
     obtain ⟨y, hy, hf⟩ := h3.2 ⟨⟨p, by simp, hpf⟩, hbf⟩
     exact ⟨y, by simp [hy], hf⟩
    | false =>
     rcases List.mem_cons.1 ha with rfl | ha
     ·rw [hpf] at haf; cases haf
     ·obtain ⟨y, hy, hf⟩ := h4.2 ⟨⟨a, ha, haf⟩, fun b hb' => by
       rcases List.mem_append.1 hb' with h | h
       ·exact hbf b h
       ·simp only [List.mem_singleton] at h; rw [h]; exact hpf⟩
      exact ⟨y, by simp [hy], hf⟩
def Q5g (w : List Q3) (t : Q2) (cs : List Q6) (i : Nat) : Option (List Q0) :=
 if Q25 w t cs = true then (match cs[i]? with
  | none => none
  | some c => (Q7d c.pat).bind fun mine => (Q3a (cs.take i)).bind fun away => Z0n w t ((sepP w t [] mine).bind fun out => Q2z w 10 11 t out away)) else none
theorem W2e {w : List Q3} {t : Q2} {e : Nat} {v : Z4} (hv : Q1u w e t v) {p : Q0} (g : J2 w 10 t p = true) {l : List Q0} (h : Q7d p = some l) : (∃ q ∈ l, fitP q v = true) ↔ (Z9 10 p v).isSome = true := by
 obtain ⟨_, rfl⟩ := Q7v h
 exact (Q97 (fun t h => Z15 t h) 10 e t p v g hv).symm
theorem Z4e {w : List Q3} {t : Q2} {p : Q0} (g : J2 w 10 t p = true) {l : List Q0} (h : Q7d p = some l) : ∀ q ∈ l, Q0d w 10 t q := by
 obtain ⟨_, rfl⟩ := Q7v h
 exact Q92 10 t _ (Q8p (fun t h => Z15 t h) 10 t p g)
theorem W28 {w : List Q3} (hw : WW w) (he : WE w) {e : Nat} {t : Q2} (ht : t ∈ tys w) {v : Z4} (hv : Q1u w e t v) {cs : List Q6} {i : Nat} {r : List Q0} (hr : Q5g w t cs i = some r) :
  ∃ c, cs[i]? = some c ∧ ((∃ y ∈ r, fitP y v = true) ↔ (Z9 10 c.pat v).isSome = true ∧ ∀ c' ∈ cs.take i, c'.guard.op = 0 → Z9 10 c'.pat v = none) := by
 unfold Q5g at hr
 split at hr
 ·rename_i hcl
  obtain ⟨_, hcs⟩ := Q2h hcl
  cases hc : cs[i]? with
  | none => rw [hc] at hr; cases hr
  | some c =>
   rw [hc] at hr
   simp only at hr
   refine ⟨c, rfl, ?_⟩
   have hcg := (hcs c (List.mem_of_getElem? hc)).2.1
   cases hm : Q7d c.pat with
   | none => rw [hm] at hr; simp at hr
   | some mine =>
    rw [hm] at hr
    simp only [Option.bind_some] at hr
    cases ha : Q3a (cs.take i) with
    | none => rw [ha] at hr; simp at hr
    | some away =>
     rw [ha] at hr
     simp only [Option.bind_some] at hr
     have hr := Z4c hr
     cases hs : sepP w t [] mine with
     | none => rw [hs] at hr; simp at hr
     | some out =>
      rw [hs] at hr
      simp only [Option.bind_some] at hr
      have gt : ∀ c' ∈ cs.take i, J2 w 10 t c'.pat = true := fun c' h => (hcs c' (List.mem_of_mem_take h)).2.1
      have hcp := Q63 gt ha
      have hmp := Z4e hcg hm
      have h1 := Z1z hw he ht (by omega) hv hcp (Z5z mine [] out (by simp) hmp hs) hr
      have h2 := W1w hw he ht hv mine [] out (by simp) hmp hs
      have h3 := W2e hv hcg hm
      have h4 := Z3u hv gt ha
      rw [h1, h2, h3]
      constructor
      ·rintro ⟨⟨h5, _⟩, h6⟩
       refine ⟨h5, fun c' hc' h0 => ?_⟩
       cases hmm : Z9 10 c'.pat v with
       | none => rfl
       | some x =>
        obtain ⟨b, hb, hbf⟩ := h4.2 ⟨c', hc', h0, by rw [hmm]; rfl⟩
        rw [h6 b hb] at hbf
        cases hbf
      ·rintro ⟨h5, h6⟩
       refine ⟨⟨h5, by simp⟩, fun b hb => ?_⟩
       cases hbf : fitP b v with
       | false => rfl
       | true =>
        obtain ⟨c', hc', h0, h7⟩ := h4.1 ⟨b, hb, hbf⟩
        rw [h6 c' hc' h0] at h7
        cases h7
 ·cases hr
end Go.Proofs.YtbdkbdafhlcilaaGreat
namespace Go.Proofs.YtbdkbdafhlcilaaGreat
open Go Go.RowKit
theorem X4o {w : List Q3} {d x m : Nat} {t : Q2} (hm : 400 ≤ m) : ∀ (bs l r : List Q0), l.length ≤ m → Q8z w d x t l bs = some r → r.length ≤ m
 | [], l, r, h, e => by simp only [Q8z, Option.some.injEq] at e; subst e; exact h
 | b :: bs, l, r, h, e => by
  simp only [Q8z] at e
  split at e
  ·cases e
  ·exact X4o hm bs _ r (by omega) e
theorem Z0h {w : List Q3} {d x m : Nat} {t : Q2} {l bs r : List Q0} (hm : 400 ≤ m) (h : l.length ≤ m) (e : Q2z w d x t l bs = some r) : r.length ≤ m :=
 X4o hm bs _ r (by have := X0l w x t l; omega) e
theorem W1v {w : List Q3} {t : Q2} : ∀ (ps bef r : List Q0), sepP w t bef ps = some r → r.length ≤ 400 * ps.length
 | [], _, r, e => by simp only [sepP, Option.some.injEq] at e; subst e; simp
 | p :: ps, bef, r, e => by
  simp only [sepP] at e
  cases hm : Q2z w 10 11 t [p] bef with
  | none => rw [hm] at e; simp at e
  | some m =>
   rw [hm] at e
   simp only [Option.bind_some, Option.map_eq_some_iff] at e
   obtain ⟨r2, h2, rfl⟩ := e
   have h1 := Z0h (m := 400) (Nat.le_refl _) (by simp) hm
   have h3 := W1v ps (bef ++ [p]) r2 h2
   simp only [List.length_append, List.length_cons]
   omega
theorem X72 {α : Type} {l : List α} {k : Nat} (h : k ≤ l.length) : Q64 l (k : Int) = some (l.take k) := by
 unfold Q64
 rw [if_pos ⟨by omega, by omega⟩]
 simp
theorem Z7c {w : List Q3} (hww : w ∈ J8) (hw : WW w) (he : WE w) {t : Q2} (ht : t ∈ tys w) {ps : List Q0} (hp : ∀ p ∈ ps, Q0d w 10 t p ∧ cntP p ≤ 130) (hl : ps.length ≤ 1600) :
  Q0u NN ⟨w, dimP w⟩ t ps = some (optR (sepP w t [] ps)) := by
 suffices hs : Ret (Q0u NN ⟨w, dimP w⟩ t ps) (fun r => r = optR (sepP w t [] ps)) by
  obtain ⟨a, e, rfl⟩ := hs
  exact e
 unfold Q0u
 refine Ret.ctl (Z5 ps (fun k s => s.length ≤ 400 * k ∧ sepP w t [] ps = (sepP w t (ps.take k) (ps.drop k)).map (s ++ ·)) (fun r => r = ([], false) ∧ sepP w t [] ps = none) (fun s => sepP w t [] ps = some s) ⟨by simp, by simp⟩ (fun k p s hp' hI => ?_) (fun s hI => ?_)) (fun r hr => .some (by rw [hr.1, hr.2]; rfl)) (fun s hs => .some (by rw [hs]; rfl))
 ·obtain ⟨hsl, hI⟩ := hI
  have hk := (List.getElem?_eq_some_iff.1 hp').1
  have hpm := hp p (List.mem_of_getElem? hp')
  rw [X72 (by omega)]
  simp only [Option.bind_some]
  rw [Q8w hww hw he (d := 10) (x := 11) ht (by omega) (by omega) (fun b hb => hp b (List.mem_of_mem_take hb)) (fun a ha => by simp only [List.mem_singleton] at ha; rw [ha]; exact Q7w 10 t p hpm.1) (by simp) (by simp only [NN]; omega)]
  simp only [Option.bind_some]
  rw [W46 hp'] at hI
  simp only [sepP] at hI
  cases hm : Q2z w 10 11 t [p] (ps.take k) with
  | none =>
   rw [hm] at hI
   simp only [Option.bind_none, Option.map_none] at hI
   simp only [optR, Bool.not_false, if_true]
   exact .some ⟨rfl, hI⟩
  | some m =>
   rw [hm] at hI
   have hml := Z0h (m := 400) (Nat.le_refl _) (by simp) hm
   simp only [optR, Bool.not_true, Bool.false_eq_true, if_false]
   rw [X2 (by simp only [Q5]; omega)]
   refine .some ⟨by simp only [List.length_append]; omega, ?_⟩
   rw [hI]
   simp only [Option.bind_some, Option.map_map]
   rw [List.take_add_one, hp']
   simp only [Option.toList_some]
   congr 1
   funext z
   simp
 ·obtain ⟨_, hI⟩ := hI
  rw [List.drop_length, sepP] at hI
  simpa using hI
theorem Z8w {w : List Q3} (hww : w ∈ J8) {t : Q2} (ht : t ∈ tys w) {cs : List Q6} {i : Nat} (hi : i < cs.length) : Q1k NN w t cs (i : Int) = some (optR (Q5g w t cs i)) := by
 have hw := ww hww
 have he := we hww
 unfold Q1k Q5g
 rw [Q6v hw ht]
 simp only [Option.bind_some]
 by_cases h : Q25 w t cs = true
 ·obtain ⟨h8, hc⟩ := Q2h h
  have hin : (decide ((0 : Int) ≤ (i : Int)) && decide ((i : Int) ≤ wsub .i64 (lenZ cs.length) 1)) = true := by
   rw [Q1a, Q3c (by omega) (by omega)]
   simp only [Bool.and_eq_true, decide_eq_true_eq]
   omega
  have hci : cs[i]? = some (cs[i]'hi) := by simp
  generalize cs[i]'hi = c at hci
  obtain ⟨hv, hg, hcn⟩ := hc c (List.mem_of_getElem? hci)
  simp only [h, Bool.not_true, Bool.false_eq_true, if_false, if_true]
  rw [Z0i, hin, hci]
  simp only [Option.bind_some, Bool.not_true, Bool.false_eq_true, if_false]
  rw [Q2g hci]
  simp only [Option.bind_some]
  rw [Z5a hw ht hg (by omega) (by simp only [NN]; omega), X72 (by omega)]
  simp only [Option.bind_some]
  have htk : ∀ c ∈ cs.take i, J2 w 10 t c.pat = true ∧ cntP c.pat ≤ 60 := fun c m => (hc c (List.mem_of_mem_take m)).2
  rw [Z5d hw ht (by simp only [NN]; omega) (cs.take i) (fun c m => ⟨(htk c m).1, by have := (htk c m).2; omega⟩) (by rw [List.length_take]; omega)]
  simp only [Option.bind_some]
  cases hm : Q7d c.pat with
  | none => simp [optR]
  | some mine =>
   have hpp := Z4e hg hm
   have hpc := X30 hm
   have hpl := (Q7v hm).1
   cases ha : Q3a (cs.take i) with
   | none => simp [optR]
   | some away =>
    have hap := Q63 (fun c m => (htk c m).1) ha
    have hac := Z3v (m := 60) (fun c m => (htk c m).2) ha
    simp only [optR, Bool.not_true, Bool.false_eq_true, if_false, Option.bind_some]
    rw [(wl hww).dim]
    simp only [Option.bind_some]
    rw [Z7c hww hw he ht (fun p hp => ⟨hpp p hp, by have := hpc p hp; omega⟩) (by omega)]
    simp only [Option.bind_some]
    cases hs : sepP w t [] mine with
    | none =>
     simp only [optR, Bool.false_eq_true, if_false, Option.bind_some, Option.bind_none]
     have := Q9u hw (S := dimP w) (n := NN) (by simp only [NN]; omega) ht none (fun l h => by cases h)
     simp only [optR] at this
     rw [this]
     rfl
    | some out =>
     have hol := W1v mine [] out hs
     have hop := Z5z mine [] out (by simp) hpp hs
     simp only [optR, if_true, Option.bind_some]
     rw [Q8w hww hw he (d := 10) (x := 11) ht (by omega) (by omega) (fun b hb => ⟨hap b hb, by have := hac b hb; omega⟩) hop (by omega) (by simp only [NN]; omega)]
     simp only [Option.bind_some]
     rw [Q9u hw (by simp only [NN]; omega) ht _ (fun r hr => by have := Z0h (m := 20000) (by omega) (by omega) hr; omega)]
     cases Z0n w t (Q2z w 10 11 t out away) <;> rfl
 ·simp [h, optR]
def nilR : Option (List Q0) → Bool
 | some l => decide (l.length = 0)
 | none => false
def redD (w : List Q3) (t : Q2) (cs : List Q6) : List Int × Bool :=
 if Q25 w t cs = true ∧ ∀ i, i < cs.length → (Q5g w t cs i).isSome = true then (((List.range cs.length).filter fun i => nilR (Q5g w t cs i)).map (fun i : Nat => (i : Int)), true) else ([], false)
theorem Z5q {w : List Q3} (hww : w ∈ J8) {t : Q2} (ht : t ∈ tys w) (cs : List Q6) : Q0o NN w t cs = some (redD w t cs) := by
 have hw := ww hww
 suffices hs : Ret (Q0o NN w t cs) (fun r => r = redD w t cs) by
  obtain ⟨a, e, rfl⟩ := hs
  exact e
 unfold Q0o redD
 rw [Q6v hw ht]
 simp only [Option.bind_some]
 by_cases h : Q25 w t cs = true
 ·obtain ⟨h8, hc⟩ := Q2h h
  simp only [h, Bool.not_true, Bool.false_eq_true, if_false, true_and]
  refine Ret.ctl (Z5 cs (fun k s => s = ((List.range k).filter fun i => nilR (Q5g w t cs i)).map (fun i : Nat => (i : Int)) ∧ ∀ i, i < k → (Q5g w t cs i).isSome = true) (fun r => r = ([], false) ∧ ¬ ∀ i, i < cs.length → (Q5g w t cs i).isSome = true) (fun s => s = ((List.range cs.length).filter fun i => nilR (Q5g w t cs i)).map (fun i : Nat => (i : Int)) ∧ ∀ i, i < cs.length → (Q5g w t cs i).isSome = true) ⟨by simp, by simp⟩ (fun k c s hck hI => ?_) (fun s hI => hI)) (fun r hr => .some (by rw [if_neg hr.2]; exact hr.1)) (fun s hs => .some (by rw [if_pos hs.2, hs.1]))
  obtain ⟨hI, hall⟩ := hI
  have hk := (List.getElem?_eq_some_iff.1 hck).1
  have hsl : s.length ≤ 8 := by
   rw [hI, List.length_map]
   have := List.length_filter_le (fun i => nilR (Q5g w t cs i)) (List.range k)
   rw [List.length_range] at this
   omega
  rw [Z8w hww ht hk]
  simp only [Option.bind_some]
  have hnext : ∀ i, i < k + 1 → (Q5g w t cs k).isSome = true → (Q5g w t cs i).isSome = true := fun i hi hk' => by
   by_cases hik : i = k
   ·rw [hik]; exact hk'
   ·exact hall i (by omega)
  cases hr : Q5g w t cs k with
  | none =>
   simp only [optR, Bool.not_false, if_true, Option.bind_some]
   exact .some ⟨rfl, fun hh => by have := hh k hk; rw [hr] at this; cases this⟩
  | some r =>
   simp only [optR, Bool.not_true, Bool.false_eq_true, if_false, len0]
   rw [hr] at hnext
   by_cases h0 : r.length = 0
   ·have hr0 : r = [] := List.eq_nil_of_length_eq_zero h0
    simp only [h0, decide_true, if_true]
    rw [X2 (by simp only [List.length_cons, List.length_nil, Q5]; omega)]
    refine .some ⟨?_, fun i hi => hnext i hi rfl⟩
    rw [hI, List.range_succ, List.filter_append, List.map_append]
    simp [hr, hr0, nilR]
   ·simp only [h0, decide_false, Bool.false_eq_true, if_false, Option.bind_some]
    refine .some ⟨?_, fun i hi => hnext i hi rfl⟩
    rw [hI, List.range_succ, List.filter_append, List.map_append]
    have : r ≠ [] := fun e => h0 (by rw [e]; rfl)
    simp [hr, this, nilR]
 ·simp only [h, Bool.not_false, if_true, false_and, if_false]
  exact .some rfl
end Go.Proofs.YtbdkbdafhlcilaaGreat
namespace Go.Proofs.YtbdkbdafhlcilaaGreat
open Go Go.RowKit
theorem W27 {w : List Q3} {t : Q2} {cs : List Q6} (h : (redD w t cs).2 = true) : Q25 w t cs = true ∧ (∀ i, i < cs.length → (Q5g w t cs i).isSome = true) ∧ ∀ i : Nat, ((i : Int) ∈ (redD w t cs).1 ↔ i < cs.length ∧ nilR (Q5g w t cs i) = true) := by
 unfold redD at h ⊢
 split at h
 ·rename_i hh
  rw [if_pos hh]
  refine ⟨hh.1, hh.2, fun i => ?_⟩
  simp only [List.mem_map, List.mem_filter, List.mem_range]
  constructor
  ·rintro ⟨j, hj, he⟩
   have : j = i := by omega
   rw [← this]
   exact hj
  ·intro hi
   exact ⟨i, hi, rfl⟩
 ·cases h
theorem X5i {w : List Q3} (hww : w ∈ J8) {t : Q2} (ht : t ∈ tys w) {cs : List Q6} {i : Nat} {r : List Q0} (hr : Q5g w t cs i = some r) (hne : r ≠ []) : ∃ v, Q1u w 21 t v ∧ ∃ y ∈ r, fitP y v = true := by
 have hw := ww hww
 obtain ⟨y, hy⟩ := List.exists_mem_of_ne_nil r hne
 unfold Q5g at hr
 split at hr
 ·rename_i hcl
  obtain ⟨_, hcs⟩ := Q2h hcl
  cases hc : cs[i]? with
  | none => rw [hc] at hr; cases hr
  | some c =>
   rw [hc] at hr
   simp only at hr
   have hcg := (hcs c (List.mem_of_getElem? hc)).2.1
   cases hm : Q7d c.pat with
   | none => rw [hm] at hr; simp at hr
   | some mine =>
    rw [hm] at hr
    simp only [Option.bind_some] at hr
    cases ha : Q3a (cs.take i) with
    | none => rw [ha] at hr; simp at hr
    | some away =>
     rw [ha] at hr
     simp only [Option.bind_some] at hr
     have hr := Z4c hr
     cases hs : sepP w t [] mine with
     | none => rw [hs] at hr; simp at hr
     | some out =>
      rw [hs] at hr
      simp only [Option.bind_some] at hr
      have gt : ∀ c' ∈ cs.take i, J2 w 10 t c'.pat = true := fun c' h => (hcs c' (List.mem_of_mem_take h)).2.1
      have hp := Z0g (by omega) (Q63 gt ha) (Z5z mine [] out (by simp) (Z4e hcg hm) hs) hr y hy
      obtain ⟨v, h1, h2⟩ := Z4f hw (wr hww) 11 t y ht hp (Z4z hr y hy)
      exact ⟨v, h1, y, hy, h2⟩
 ·cases hr
end Go.Proofs.YtbdkbdafhlcilaaGreat
namespace Go.Proofs.YtbdkbdafhlcilaaGreat
open Go Go.RowKit
theorem W1j {w : List Q3} (hww : w ∈ J8) {t : Q2} (ht : t ∈ tys w) (hd : depP w t ≠ 0) {l : List Q6} {pick : Int} {tr : X4} (h : W8 NN w t l pick = some (tr, true)) {i : Nat} {r : List Q0} (hr : Q5g w t l i = some r) : Q83 (i : Int) 300 tr ↔ r ≠ [] := by
 have hw := ww hww
 obtain ⟨hT, hR, hcl⟩ := Z6g hww ht h
 have hg : ∀ c ∈ l, J2 w 10 t c.pat = true := fun c hc => ((Q2h hcl).2 c hc).2.1
 have key : ∀ (e : Nat) (v : Z4), Q1u w e t v → (Z0b l (i : Int) (hcR (Q1v l l.length) [v]) ↔ ∃ y ∈ r, fitP y v = true) := fun e v hv => by
  rw [((Z7g hw (ws hww) ht hg hv l.length (Nat.le_refl _)).2 i)]
  obtain ⟨c, hc, hf⟩ := W28 hw (we hww) ht hv hr
  rw [hf]
  have hil := (List.getElem?_eq_some_iff.1 hc).1
  constructor
  ·rintro ⟨_, c', h1, h2, h3⟩
   rw [hc] at h1
   cases h1
   refine ⟨h2, fun c' hc' h0 => ?_⟩
   obtain ⟨j, hj⟩ := List.mem_iff_getElem?.1 hc'
   rw [List.getElem?_take] at hj
   split at hj
   ·rename_i hji
    cases hm : Z9 10 c'.pat v with
    | none => rfl
    | some b => exact absurd h0 (h3 j c' hji hj (by rw [hm]; rfl))
   ·cases hj
  ·rintro ⟨h1, h2⟩
   refine ⟨hil, c, hc, h1, fun j c' hj hc' hm h0 => ?_⟩
   have hcm : c' ∈ l.take i := by
    rw [List.mem_iff_getElem?]
    exact ⟨j, by rw [List.getElem?_take, if_pos hj, hc']⟩
   rw [h2 c' hcm h0] at hm
   cases hm
 constructor
 ·intro hlf
  obtain ⟨e, us, g1, g2⟩ := (Z9b hww 300 tr _ _ hT hR (Z6k ht) (X2c hd)).1 _ hlf
  obtain ⟨v, rfl, hv⟩ := W1e g1
  obtain ⟨y, hy, _⟩ := (key e v hv).1 g2
  exact List.ne_nil_of_mem hy
 ·intro hne
  obtain ⟨v, hv, hf⟩ := X5i hww ht hr hne
  exact (Z2q hww 300 tr _ _ [v] hT hR (Z6k ht) (W2l hv)).1 _ ((key 21 v hv).2 hf)
end Go.Proofs.YtbdkbdafhlcilaaGreat
namespace Go.Proofs.YtbdkbdafhlcilaaGreat
open Go Go.RowKit
theorem W2c (l : List Int) (x : Int) : Q5u l x = some (decide (x ∈ l)) := by
 suffices hs : Ret (Q5u l x) (fun r => r = decide (x ∈ l)) by
  obtain ⟨a, e, rfl⟩ := hs
  exact e
 unfold Q5u
 refine Ret.ctl (Z5 l (fun k _ => x ∉ l.take k) (fun r => r = true ∧ x ∈ l) (fun _ => x ∉ l) (by simp) (fun k y s hy hI => ?_) (fun s hI => by rwa [List.take_length] at hI)) (fun r hr => .some (by rw [hr.1]; simp [hr.2])) (fun s hs => .some (by simp [hs]))
 refine Ret.ite (fun h => ?_) (fun h => ?_)
 ·rw [Q23] at h
  exact .some ⟨rfl, h ▸ List.mem_of_getElem? hy⟩
 ·rw [Q1m] at h
  refine .some ?_
  simp only [Q07]
  rw [List.take_add_one, hy]
  simp only [Option.toList_some, List.mem_append, List.mem_singleton, not_or]
  exact ⟨hI, fun e => h e.symm⟩
end Go.Proofs.YtbdkbdafhlcilaaGreat
namespace Go.Proofs.YtbdkbdafhlcilaaGreat
open Go Go.RowKit
theorem X59 {d : Nat} {t : X4} (h : Z0c d t) : Q3s t = some (Q4s t) := by
 cases d with
 | zero => exact h.elim
 | succ d =>
 obtain ⟨⟨h1, h2, h3, h4, h5⟩, h6⟩ := h
 suffices hs : Ret (Q3s t) (fun a => a = Q4s t) by
  obtain ⟨a, e, rfl⟩ := hs
  exact e
 unfold Q3s
 refine Ret.ctl (Z5 t.branches (fun i s => s = (t.branches.take i).map (fun b => b.tree)) (fun _ => False) (fun s => s = t.branches.map (fun b => b.tree)) (by simp) (fun i x s hi hI => ?_) (fun s hI => by rw [hI, List.take_length])) (fun r hr => hr.elim) (fun s hs => ?_)
 ·rw [X2 (by rw [hI]; simp only [List.length_map, List.length_take, List.length_cons, List.length_nil, Q5]; omega)]
  exact .some (by simp only [Q07]; rw [hI, List.take_add_one, hi]; simp)
 ·subst hs
  dsimp only
  rw [X2 (by simp only [List.length_map, Q5]; omega)]
  exact .some rfl
end Go.Proofs.YtbdkbdafhlcilaaGreat
namespace Go.Proofs.YtbdkbdafhlcilaaGreat
open Go Go.RowKit
def Q7c (P : Nat → Prop) (r : List Bool) : Prop := r.length = 8 ∧ ∀ i : Nat, i < 8 → (r[i]? = some true ↔ P i)
theorem W3v {P : Nat → Prop} {r s : List Bool} (hr : Q7c P r) (hs : Q7c P s) : r = s := by
 refine List.ext_getElem? fun i => ?_
 by_cases hi : i < 8
 ·have h1 := hr.2 i hi
  have h2 := hs.2 i hi
  have l1 := hr.1
  have l2 := hs.1
  have g1 : r[i]? = some (r[i]'(by omega)) := by simp
  have g2 : s[i]? = some (s[i]'(by omega)) := by simp
  rw [g1] at h1 ⊢
  rw [g2] at h2 ⊢
  generalize r[i]'(by omega) = a at h1 ⊢
  generalize s[i]'(by omega) = b at h2 ⊢
  simp only [Option.some.injEq] at h1 h2 ⊢
  have := h1.trans h2.symm
  revert this
  cases a <;> cases b <;> simp
 ·have l1 := hr.1
  have l2 := hs.1
  rw [List.getElem?_eq_none (by omega), List.getElem?_eq_none (by omega)]
theorem X41 {P : Nat → Prop} {s : List Bool} (hs : Q7c P s) {c : Int} (h0 : 0 ≤ c) (h8 : c < 8) : Q7c (fun i => P i ∨ c = (i : Int)) (s.set c.toNat true) := by
 refine ⟨by rw [List.length_set]; exact hs.1, fun i hi => ?_⟩
 have hl := hs.1
 rw [List.getElem?_set]
 by_cases hc : c.toNat = i
 ·rw [if_pos hc, if_pos (by omega)]
  exact ⟨fun _ => .inr (by omega), fun _ => rfl⟩
 ·rw [if_neg hc, hs.2 i hi]
  constructor
  ·exact .inl
  ·rintro (h | h)
   ·exact h
   ·exact absurd (by omega) hc
theorem Z7v {P : Nat → Prop} {s : List Bool} (hs : Q7c P s) {c : Int} (h : ¬ (0 ≤ c ∧ c < 8)) : Q7c (fun i => P i ∨ c = (i : Int)) s := by
 refine ⟨hs.1, fun i hi => ?_⟩
 rw [hs.2 i hi]
 constructor
 ·exact .inl
 ·rintro (h1 | h1)
  ·exact h1
  ·exact absurd ⟨by omega, by omega⟩ h
theorem Q4c {P Q : Nat → Prop} {s : List Bool} (hs : Q7c P s) (h : ∀ i, i < 8 → (P i ↔ Q i)) : Q7c Q s := ⟨hs.1, fun i hi => (hs.2 i hi).trans (h i hi)⟩
theorem Z7w {P : Nat → Prop} {d : Nat} {l : List X4} {k : Nat} {x : X4} (hx : l[k]? = some x) {r : List Bool} (h : Q7c (fun i => (P i ∨ ∃ y ∈ l.take k, Q83 (i : Int) d y) ∨ Q83 (i : Int) d x) r) : Q7c (fun i => P i ∨ ∃ y ∈ l.take (k + 1), Q83 (i : Int) d y) r := by
 refine Q4c h fun i _ => ?_
 rw [List.take_add_one, hx, or_assoc]
 refine or_congr Iff.rfl ?_
 simp only [Option.toList_some, List.mem_append, List.mem_singleton]
 constructor
 ·rintro (⟨y, h1, h2⟩ | h)
  ·exact ⟨y, .inl h1, h2⟩
  ·exact ⟨x, .inr rfl, h⟩
 ·rintro ⟨y, h1 | h1, h2⟩
  ·exact .inl ⟨y, h1, h2⟩
  ·exact .inr (h1 ▸ h2)
def Q24 (r : List Bool) (k : Nat) : List Int := ((List.range k).filter fun i => r[i]? = some true).map fun i : Nat => (i : Int)
theorem Z3p (r : List Bool) (k : Nat) : Q24 r (k + 1) = if r[k]? = some true then Q24 r k ++ [(k : Int)] else Q24 r k := by
 unfold Q24
 rw [List.range_succ, List.filter_append, List.map_append, List.filter_cons]
 by_cases h : r[k]? = some true
 ·rw [if_pos h, if_pos (by simpa using h)]
  rfl
 ·rw [if_neg h, if_neg (by simpa using h)]
  simp
theorem Z5f (r : List Bool) (k : Nat) : (Q24 r k).length ≤ k := by
 unfold Q24
 rw [List.length_map]
 have := List.length_filter_le (fun i => decide (r[i]? = some true)) (List.range k)
 rw [List.length_range] at this
 exact this
theorem X34 {r : List Bool} {k i : Nat} : (i : Int) ∈ Q24 r k ↔ i < k ∧ r[i]? = some true := by
 unfold Q24
 rw [List.mem_map]
 constructor
 ·rintro ⟨j, hj, he⟩
  have : j = i := by omega
  subst this
  rw [List.mem_filter, List.mem_range] at hj
  exact ⟨hj.1, of_decide_eq_true hj.2⟩
 ·rintro ⟨h1, h2⟩
  exact ⟨i, List.mem_filter.2 ⟨List.mem_range.2 h1, decide_eq_true h2⟩, rfl⟩
theorem X0n : ∀ (d n : Nat) (t : X4) (P : Nat → Prop) (s : List Bool), Z0c d t → d ≤ n → Q7c P s → Ret (Q59 n t s) (Q7c fun i => P i ∨ Q83 (i : Int) d t) := by
 intro d
 induction d with
 | zero => intro n t P s h; exact h.elim
 | succ d ih =>
  intro n t P s h hn hs
  obtain ⟨n, rfl⟩ : ∃ k, n = k + 1 := ⟨n - 1, by omega⟩
  unfold Q59
  have hs8 := hs.1
  refine Ret.ctl (R := fun _ => False) (B := Q7c fun i => P i ∨ (t.op = 1 ∧ t.clause = (i : Int))) ?_ (fun r h => h.elim) (fun u hu => ?_)
  ·by_cases h1 : t.op = 1
   ·have e : ieq t.op 1 = true := by simp [ieq, h1]
    simp only [e, if_true]
    rw [Z0i]
    simp only [Option.bind_some]
    cases hw : (decide (0 ≤ t.clause) && decide (t.clause ≤ 7)) with
    | true =>
     simp only [Bool.and_eq_true, decide_eq_true_eq] at hw
     simp only [if_true]
     rw [X6n hs8 hw.1 (by omega)]
     exact .some (Q4c (X41 hs hw.1 (by omega)) fun i _ => by simp [h1])
    | false =>
     simp only [Bool.false_eq_true, if_false]
     simp only [Bool.and_eq_false_iff, decide_eq_false_iff_not] at hw
     exact .some (Q4c (Z7v hs (c := t.clause) (by omega)) fun i _ => by simp [h1])
   ·have e : ieq t.op 1 = false := by simp [ieq, h1]
    simp only [e, Bool.false_eq_true, if_false]
    exact .some (Q4c hs fun i _ => by simp [h1])
  ·dsimp only
   rw [X59 h]
   simp only [Option.bind_some]
   refine Ret.ctl (Z5 (Q4s t) (fun k v => Q7c (fun i => (P i ∨ (t.op = 1 ∧ t.clause = (i : Int))) ∨ ∃ y ∈ (Q4s t).take k, Q83 (i : Int) d y) v) (fun _ => False) (Q7c fun i => P i ∨ Q83 (i : Int) (d + 1) t) (Q4c hu fun i _ => by simp) (fun k x v hi hI => ?_) (fun v hI => ?_)) (fun r hr => hr.elim) (fun v hv => .some hv)
   ·have hm := List.mem_of_getElem? hi
    rw [Z8e (by simp [hI.1])]
    simp only [Option.bind_some]
    refine Ret.bind (ih n x _ v (h.2 x hm) (by omega) hI) (fun r hr => .some ?_)
    exact Z7w hi hr
   ·rw [List.take_length] at hI
    exact Q4c hI fun i _ => by rw [or_assoc]; rfl
theorem X03 : ∀ (d n : Nat) (t : X4) (P : Nat → Prop) (s : List Bool), Z0c d t → d ≤ n → Q7c P s → Ret (Q2n n s t) (Q7c fun i => P i ∨ Q83 (i : Int) d t) := by
 intro d
 induction d with
 | zero => intro n t P s h; exact h.elim
 | succ d ih =>
  intro n t P s h hn hs
  obtain ⟨n, rfl⟩ : ∃ k, n = k + 1 := ⟨n - 1, by omega⟩
  unfold Q2n
  have hs8 := hs.1
  refine Ret.ctl (R := fun _ => False) (B := Q7c fun i => P i ∨ (t.op = 1 ∧ t.clause = (i : Int))) ?_ (fun r h => h.elim) (fun u hu => ?_)
  ·refine Ret.ite (fun h1 => ?_) (fun h1 => ?_)
   ·rw [Q23] at h1
    refine Ret.ite (fun h2 => ?_) (fun h2 => .some (Q4c (Z7v hs (c := t.clause) (by rw [Q84] at h2; omega)) fun i _ => by simp [h1]))
    rw [Q38] at h2
    refine Ret.ite (fun h3 => ?_) (fun h3 => .some (Q4c (Z7v hs (c := t.clause) (by rw [X3, Q1a] at h3; omega)) fun i _ => by simp [h1]))
    rw [W7, Q1a] at h3
    obtain ⟨x, hx, _⟩ := Q4i (xs := s) h2 h3
    rw [hx]
    simp only [Option.bind_some]
    have hset : setI s t.clause true = some (s.set t.clause.toNat true) := by
     unfold setI
     rw [if_pos ⟨h2, by omega⟩]
    rw [hset]
    exact .some (Q4c (X41 hs h2 (by omega)) fun i _ => by simp [h1])
   ·rw [Q1m] at h1
    exact .some (Q4c hs fun i _ => by simp [h1])
  ·dsimp only
   refine Ret.ctl (Z5 t.branches (fun k v => Q7c (fun i => (P i ∨ (t.op = 1 ∧ t.clause = (i : Int))) ∨ ∃ y ∈ (t.branches.map fun b => b.tree).take k, Q83 (i : Int) d y) v) (fun _ => False) (Q7c fun i => (P i ∨ (t.op = 1 ∧ t.clause = (i : Int))) ∨ ∃ y ∈ t.branches.map (fun b => b.tree), Q83 (i : Int) d y) (Q4c hu fun i _ => by simp) (fun k x v hx hI => ?_) (fun v hI => ?_)) (fun r hr => hr.elim) (fun v hv => ?_)
   ·have hm := List.mem_of_getElem? hx
    refine Ret.bind (ih n x.tree _ v (h.2 _ (List.mem_append_left _ (List.mem_map_of_mem hm))) (by omega) hI) (fun r hr => .some ?_)
    exact Z7w (by simp [hx]) hr
   ·rw [List.take_of_length_le (by simp)] at hI
    exact hI
   ·dsimp only
    refine Ret.ctl (Z5 t.else_ (fun k v => Q7c (fun i => ((P i ∨ (t.op = 1 ∧ t.clause = (i : Int))) ∨ ∃ y ∈ t.branches.map (fun b => b.tree), Q83 (i : Int) d y) ∨ ∃ y ∈ t.else_.take k, Q83 (i : Int) d y) v) (fun _ => False) (Q7c fun i => P i ∨ Q83 (i : Int) (d + 1) t) (Q4c hv fun i _ => by simp) (fun k x v hx hI => ?_) (fun v hI => ?_)) (fun r hr => hr.elim) (fun v hv => .some hv)
    ·have hm := List.mem_of_getElem? hx
     refine Ret.bind (ih n x _ v (h.2 _ (List.mem_append_right _ hm)) (by omega) hI) (fun r hr => .some ?_)
     exact Z7w hx hr
    ·rw [List.take_length] at hI
     refine Q4c hI fun i _ => ?_
     simp only [Q83, Q4s, List.mem_append]
     constructor
     ·rintro (((h | h) | ⟨y, h1, h2⟩) | ⟨y, h1, h2⟩)
      ·exact .inl h
      ·exact .inr (.inl h)
      ·exact .inr (.inr ⟨y, .inl h1, h2⟩)
      ·exact .inr (.inr ⟨y, .inr h1, h2⟩)
     ·rintro (h | h | ⟨y, h1 | h1, h2⟩)
      ·exact .inl (.inl (.inl h))
      ·exact .inl (.inl (.inr h))
      ·exact .inl (.inr ⟨y, h1, h2⟩)
      ·exact .inr ⟨y, h1, h2⟩
theorem X7h : Q7c (fun _ => False) [false, false, false, false, false, false, false, false] := ⟨rfl, fun i hi => by
 constructor
 ·intro h
  have hm := List.mem_of_getElem? h
  simp at hm
 ·exact fun h => h.elim⟩
theorem V5y {d n : Nat} {t : X4} (h : Z0c d t) (hn : d + 20 ≤ n) : Ret (Q3z n t) (fun r => ∃ fl, Q7c (fun i => Q83 (i : Int) d t) fl ∧ r = Q24 fl 8) := by
 unfold Q3z
 refine Ret.bind (X0n d n t _ _ h (by omega) X7h) (fun fl hfl => ?_)
 have hfl := Q4c (Q := fun i => Q83 (i : Int) d t) hfl fun i _ => by simp
 have h1 := hfl.1
 rw [Z8e (by simp [h1])]
 simp only [Option.bind_some]
 refine Ret.ctl (Q2k (fun s : List Int × Int => ∃ k : Nat, s.2 = (k : Int) ∧ k ≤ 8 ∧ s.1 = Q24 fl k) (fun s => 8 - s.2.toNat) (fun _ => False) (fun s => s.1 = Q24 fl 8) ⟨0, rfl, by omega, rfl⟩ (fun s hI => ?_) n (by simp; omega)) (fun r h => h.elim) (fun s hs => .some ⟨fl, hfl, hs⟩)
 obtain ⟨k, hk, hk8, hl⟩ := hI
 obtain ⟨out, i⟩ := s
 simp only at hk hl
 subst hk
 dsimp only
 by_cases hlt : k < 8
 ·have e : ilt (k : Int) 8 = true := by rw [W7]; omega
  simp only [e, if_true]
  obtain ⟨b, hb⟩ : ∃ b, fl[k]? = some b := ⟨_, List.getElem?_eq_getElem (by omega)⟩
  have hle : out.length ≤ 8 := by rw [hl]; have := Z5f fl k; omega
  have hnx := Z3p fl k
  rw [hb] at hnx
  rw [W4s h1 (by omega) (by simpa using hb), J5 (by omega) (by omega)]
  simp only [Option.bind_some]
  cases b with
  | true =>
   simp only [if_true]
   rw [X2 (by simp only [List.length_cons, List.length_nil, Q5]; omega)]
   exact .some ⟨⟨k + 1, by simp, by omega, by simp only; rw [hnx, hl]; simp⟩, by simp only; omega⟩
  | false =>
   simp only [Bool.false_eq_true, if_false, Option.bind_some]
   exact .some ⟨⟨k + 1, by simp, by omega, by simp only; rw [hnx, hl]; simp⟩, by simp only; omega⟩
 ·have e : ilt (k : Int) 8 = false := by rw [X3]; omega
  simp only [e, Bool.false_eq_true, if_false]
  refine .some ?_
  simp only [Z34]
  rw [hl, show k = 8 by omega]
theorem V58 {d n : Nat} {t : X4} (h : Z0c d t) (hn : d + 20 ≤ n) : Ret (Q3r n t) (fun r => ∃ fl, Q7c (fun i => Q83 (i : Int) d t) fl ∧ r = Q24 fl 8) := by
 unfold Q3r
 have hmk : mkS 8 false = some [false, false, false, false, false, false, false, false] := rfl
 rw [hmk]
 simp only [Option.bind_some]
 refine Ret.bind (X03 d n t _ _ h (by omega) X7h) (fun fl hfl => ?_)
 have hfl := Q4c (Q := fun i => Q83 (i : Int) d t) hfl fun i _ => by simp
 have h1 := hfl.1
 refine Ret.ctl (Z5 fl (fun k s => s = Q24 fl k) (fun _ => False) (fun s => s = Q24 fl 8) rfl (fun k x s hx hI => ?_) (fun s hI => by rw [hI, h1])) (fun r h => h.elim) (fun s hs => .some ⟨fl, hfl, hs⟩)
 have hk := (List.getElem?_eq_some_iff.1 hx).1
 have hle : s.length ≤ 8 := by rw [hI]; have := Z5f fl k; omega
 have hnx := Z3p fl k
 rw [hx] at hnx
 cases x with
 | true =>
  simp only [if_true]
  rw [X2 (by simp only [List.length_cons, List.length_nil, Q5]; omega)]
  exact .some (by simp only [Q07]; rw [hnx, hI]; simp)
 | false =>
  simp only [Bool.false_eq_true, if_false, Option.bind_some]
  exact .some (by simp only [Q07]; rw [hnx, hI]; simp)
theorem X5p {w : List Q3} {lst : List Q6} {pick : Int} : ∀ (d : Nat) (t : X4) (rows : List Grow) (cols : List Z3) (i : Int), Q7i w lst pick d t rows cols → Q83 i d t → ∃ r ∈ rows, r.clause = i := by
 intro d
 induction d with
 | zero => intro t rows cols i h; exact h.elim
 | succ d ih =>
  intro t rows cols i h hl
  cases rows with
  | nil =>
   simp only [Q7i] at h
   subst h
   rcases hl with hl | ⟨x, hx, _⟩
   ·exact absurd hl.1 (by decide)
   ·simp [Q4s, zT] at hx
  | cons r0 rest =>
   simp only [Q7i] at h
   cases hp : Q96 w (r0 :: rest) cols pick with
   | none =>
    rw [hp] at h
    simp only at h
    obtain ⟨h1, h2, h3, h4, h5, cl, h6, h7⟩ := h
    rcases hl with hl | ⟨x, hx, hl⟩
    ·exact ⟨r0, by simp, by rw [← h2]; exact hl.2⟩
    ·rcases h7 with ⟨_, h8⟩ | ⟨_, el, h8, h9⟩
     ·simp [Q4s, h5, h8] at hx
     ·simp only [Q4s, h5, h8, List.map_nil, List.nil_append, List.mem_singleton] at hx
      subst hx
      obtain ⟨r, hr, e⟩ := ih x _ cols i h9 hl
      exact ⟨r, Z3a hr, e⟩
   | some k =>
    rw [hp] at h
    simp only at h
    obtain ⟨col, h1, h2, h3, h4, h5, h6, h7⟩ := h
    rcases hl with hl | ⟨x, hx, hl⟩
    ·rw [h2] at hl
     exact absurd hl.1 (by decide)
    ·simp only [Q4s, h6, List.append_nil] at hx
     obtain ⟨b, hb, rfl⟩ := List.mem_map.1 hx
     obtain ⟨b', _, hT⟩ := X1f h7 b hb
     obtain ⟨r, hr, e⟩ := ih _ _ _ i hT hl
     unfold Q5e at hr
     obtain ⟨r1, g1, rfl⟩ := List.mem_map.1 hr
     exact ⟨r1, (List.mem_filter.1 g1).1, e⟩
theorem X44 (p : Nat → Bool) (n : Nat) : ∀ m, (∀ i, i < m → p i = true → i < n) → ((List.range m).filter p).length ≤ n
 | 0, _ => by simp
 | m + 1, h => by
  by_cases hm : m < n
  ·have := List.length_filter_le p (List.range (m + 1))
   rw [List.length_range] at this
   omega
  ·have ih := X44 p n m fun i hi => h i (by omega)
   rw [List.range_succ, List.filter_append, List.filter_cons]
   cases hp : p m with
   | true => exact absurd (h m (by omega) hp) hm
   | false => simpa using ih
theorem Z79 (code : List Int) (hb : ∀ x ∈ code, 0 ≤ x ∧ x ≤ 255) : Q1p NN code = some true := by
 suffices hr : Ret (Q1p NN code) (fun r => r = true) by
  obtain ⟨_, e, rfl⟩ := hr
  exact e
 unfold Q1p
 refine Ret.ite (fun _ => .some rfl) (fun _ => ?_)
 refine Ret.bind (X4i code hb) (fun a ha => ?_)
 obtain ⟨w, t, l, pick⟩ := a
 obtain ⟨hww, ht⟩ := ha
 simp only at hww ht ⊢
 obtain ⟨tr, ok, e1, e2, h1, h2, h3⟩ := (Z4t hww ht l pick).eq
 rw [e1, e2]
 simp only [Option.bind_some]
 rw [Z6x 300 NN tr h2 (by decide)]
 simp only [Option.bind_some, beq_self_eq_true, Bool.not_true, Bool.false_eq_true, if_false, if_true]
 cases ok with
 | false => exact .some rfl
 | true =>
  simp only [Bool.not_true, Bool.false_eq_true, if_false]
  refine Ret.bind (V5y h2 (by decide)) (fun lv hlv => ?_)
  obtain ⟨fl, hfl, rfl⟩ := hlv
  rw [Z5q hww ht]
  simp only [Option.bind_some]
  obtain ⟨hT, hR, hcl⟩ := Z6g hww ht e1
  have h8 : l.length ≤ 8 := (Q2h hcl).1
  have hmem : ∀ i : Nat, i < 8 → ((i : Int) ∈ Q24 fl 8 ↔ Q83 (i : Int) 300 tr) := fun i hi => by
   rw [X34, hfl.2 i hi]
   exact ⟨fun h => h.2, fun h => ⟨hi, h⟩⟩
  refine Ret.ctl (Z5 l (fun _ _ => True) (fun _ => False) (fun _ => True) trivial (fun k c u hc _ => ?_) (fun _ _ => trivial)) (fun r hr => hr.elim) (fun _ _ => ?_)
  ·have hk := (List.getElem?_eq_some_iff.1 hc).1
   refine Ret.ite (fun hok => ?_) (fun _ => .some trivial)
   rw [W2z hww ht]
   simp only [Option.bind_some]
   refine Ret.ite (fun hd => ?_) (fun _ => .some trivial)
   have hd0 : depP w t ≠ 0 := of_decide_eq_true hd
   rw [W2c, W2c]
   simp only [Option.bind_some]
   obtain ⟨_, hall, hiff⟩ := W27 hok
   have hs := hall k hk
   cases hr : Q5g w t l k with
   | none => rw [hr] at hs; cases hs
   | some r =>
    have a1 := (hmem k (by omega)).trans (W1j hww ht hd0 e1 hr)
    have a2 := hiff k
    rw [hr] at a2
    have e : (decide ((k : Int) ∈ Q24 fl 8) == decide ((k : Int) ∈ (redD w t l).1)) = false := by
     cases r with
     | nil =>
      have b1 : decide ((k : Int) ∈ Q24 fl 8) = false := decide_eq_false fun h => (a1.1 h) rfl
      have b2 : decide ((k : Int) ∈ (redD w t l).1) = true := decide_eq_true (a2.2 ⟨hk, rfl⟩)
      rw [b1, b2]; rfl
     | cons x r =>
      have b1 : decide ((k : Int) ∈ Q24 fl 8) = true := decide_eq_true (a1.2 (by simp))
      have b2 : decide ((k : Int) ∈ (redD w t l).1) = false := decide_eq_false fun h => absurd (a2.1 h).2 (by simp [nilR])
      rw [b1, b2]; rfl
    rw [e]
    exact .some trivial
  ·dsimp only
   refine Ret.bind (V58 h2 (by decide)) (fun lv hlv => ?_)
   obtain ⟨fl2, hfl2, rfl⟩ := hlv
   rw [W3v hfl2 hfl, Z24]
   simp only [Option.bind_some, if_true]
   refine .some ?_
   rw [Q38, Q1a, Q1a]
   have : (Q24 fl 8).length ≤ l.length := by
    unfold Q24
    rw [List.length_map]
    refine X44 _ _ _ fun i hi hp => ?_
    have hlf := (hfl.2 i hi).1 (of_decide_eq_true hp)
    obtain ⟨r, hr, hri⟩ := X5p 300 tr _ _ _ hT hlf
    have := (hR r hr).c1
    omega
   omega
end Go.Proofs.YtbdkbdafhlcilaaGreat
