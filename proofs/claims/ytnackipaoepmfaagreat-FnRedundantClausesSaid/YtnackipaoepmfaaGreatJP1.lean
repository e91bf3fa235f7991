import Derived.Test.YtnackipaoepmfaaGreatJP0
set_option linter.unusedSimpArgs false
set_option linter.unusedVariables false
namespace Go.Proofs.YtnackipaoepmfaaGreat
open Go Go.RowKit
theorem X83 {w : List Q3} {t : Q2} {n : Nat} (hn : 10 ≤ n) : ∀ {l : List Q0}, (∀ p ∈ l, Q0z w t p = true) → l.length ≤ 100000 → Q3g n l = some l := fun {l} h hl => by
 unfold Q3g
 have hloop := Q3u (ρ := List Q0) (f := fun (k70 : Nat) x71 (s64 : (List Q0)) => ((Q21 n x71).bind fun r78 => ((app s64 [r78]).bind fun x79 => some (Ctl.go x79)))) (fun q => [q]) 1000000 l 0 [] (fun k q hq s hs => by
  obtain ⟨g, hc, _⟩ := Q2l (h q hq)
  rw [Z5l 10 n q (Q7i 10 t q g) hn (by omega)]
  simp only [Option.bind_some]
  simp only [List.length_cons, List.length_nil] at hs
  rw [W9 (by simp only [List.length_cons, List.length_nil, Q8]; omega)]
  rfl) (by
   have : ∀ l : List Q0, (l.flatMap fun q => [q]).length = l.length := fun l => by induction l with | nil => rfl | cons a l ih => simp [ih]
   rw [this]; simp only [List.length_nil]; omega)
 have hfl : ∀ l : List Q0, (l.flatMap fun q => [q]) = l := fun l => by induction l with | nil => rfl | cons a l ih => simp [ih]
 rw [hfl] at hloop
 have e' := congrArg (fun z : Option (Ctl (List Q0) (List Q0)) => z.bind fun o => match o with | .ret r => some r | .go _ => none | .brk s => some s) hloop
 exact e'.trans (by simp)
theorem X1f {w : List Q3} (hw : WW w) {n : Nat} (hn : 100 ≤ n) {t : Q2} (ht : t ∈ tys w) (o : Option (List Q0)) (ho : ∀ l, o = some l → l.length ≤ 100000) :
  Q54 n w t (optR o).1 (optR o).2 = some (optR (Q9i w t o)) := by
 have hlp : ∀ (l : List Q0) (k : Nat), forL (ρ := (List Q0) × Bool) (fun k68 x69 (s62 : Unit) =>
   ((Q48 n w t x69).bind fun r76 =>
   (if (!r76) = true then
   some (Ctl.ret (([], false)))
   else
   some (Ctl.go ())))) k l () = some (if l.all (Q0z w t) = true then .brk () else .ret ([], false)) := by
  intro l
  induction l with
  | nil => intro k; simp [forL]
  | cons a l ih =>
   intro k
   unfold forL
   rw [Z5k hw hn t a ht]
   simp only [Option.bind_some, List.all_cons]
   rcases Bool.eq_false_or_eq_true (Q0z w t a) with hv | hv
   ·simp only [hv, Bool.not_true, Bool.false_eq_true, if_false, Bool.true_and]
    exact ih (k + 1)
   ·simp [hv]
 unfold Q54
 cases o with
 | none =>
  have hnil : Q3g n [] = some [] := by simp [Q3g, forL]
  simp [optR, Q9i, forL, hnil]
 | some l =>
  simp only [optR, Q9i]
  have e' := congrArg (fun z : Option (Ctl (List Q0 × Bool) Unit) => z.bind fun o => match o with | .ret r => some r | .go _ => none | .brk _ => (Q3g n l).bind fun r => some (r, true)) (hlp l 0)
  refine e'.trans ?_
  by_cases h : l.all (Q0z w t) = true
  ·simp only [if_pos h, Option.bind_some]
   rw [X83 (by omega) (fun p hp => List.all_eq_true.1 h p hp) (ho l rfl)]
   rfl
  ·simp only [if_neg h, Option.bind_some, optR]
theorem Q72 {w : List Q3} {t : Q2} : ∀ {cs : List Q4} {l : List Q0}, (∀ c ∈ cs, Q0c w 10 t c.pat = true) → Q1v cs = some l → ∀ b ∈ l, Z4 w 10 t b
 | [], l, _, e => by simp only [Q1v, Option.some.injEq] at e; subst e; simp
 | c :: cs, l, h, e => by
  simp only [Q1v] at e
  split at e
  ·cases hp : Q50 c.pat with
   | none => rw [hp] at e; simp at e
   | some m =>
    rw [hp] at e
    cases hc : Q1v cs with
    | none => rw [hc] at e; simp at e
    | some r =>
     rw [hc] at e
     simp only [Option.bind_some, Option.map_some, Option.some.injEq] at e
     subst e
     intro b hb
     rcases List.mem_append.1 hb with hb | hb
     ·rw [(Q6g hp).2] at hb
      exact Q8a 10 t _ (Q6d Q7n 10 t c.pat (h c (by simp))) b hb
     ·exact Q72 (fun c hc => h c (by simp [hc])) hc b hb
  ·exact Q72 (fun c hc => h c (by simp [hc])) e
end Go.Proofs.YtnackipaoepmfaaGreat
namespace Go.Proofs.YtnackipaoepmfaaGreat
open Go Go.RowKit
theorem X0h : ∀ (d : Nat) (p : Q0), cntP (X4 d p) ≤ cntP p
 | 0, p => by simp [X4]
 | d + 1, p => by
  have hp := Q3p p
  simp only [X4]
  split
  ·simp only [cntP, cntP.cntPs]; omega
  ·split
   ·rename_i h
    cases hk : p.kids with
    | nil => exact absurd hk h.2
    | cons q ks =>
     have := X0h d q
     rw [hk] at hp
     simp only [cntP.cntPs] at hp
     simp only [List.headD_cons]
     omega
   ·have : ∀ l : List Q0, cntP.cntPs (l.map (X4 d)) ≤ cntP.cntPs l := fun l => by
     induction l with
     | nil => simp
     | cons a l ih => have := X0h d a; simp only [List.map_cons, cntP.cntPs]; omega
    have := this p.kids
    rw [Q3p]
    simp only
    omega
theorem Z5g : ∀ (d : Nat) (p : Q0), ∀ q ∈ Z0 d p, cntP q ≤ cntP p
 | 0, _, _, h => by simp [Z0] at h
 | d + 1, p, q, h => by
  have hp := Q3p p
  simp only [Z0] at h
  split at h
  ·obtain ⟨k, hk, hq⟩ := List.mem_flatMap.1 h
   have h1 := Z5g d k q hq
   obtain ⟨j, hj⟩ := List.mem_iff_getElem?.1 hk
   have := Q6p hj
   omega
  ·obtain ⟨cs, hcs, rfl⟩ := List.mem_map.1 h
   have hm := Z2j.1 hcs
   have : ∀ (ks cs : List Q0), MemL cs (ks.map (Z0 d)) → cntP.cntPs cs ≤ cntP.cntPs ks := fun ks => by
    induction ks with
    | nil => intro cs h; have := h.1; simp at this; subst this; simp
    | cons k ks ih =>
     intro cs h
     cases cs with
     | nil => have := h.1; simp at this
     | cons c cs =>
      rw [List.map_cons, Z09] at h
      have h1 := Z5g d k c h.1
      have h2 := ih cs h.2
      simp only [cntP.cntPs]
      omega
   have := this p.kids cs hm
   rw [Q3p]
   simp only [Q63]
   omega
theorem Z5v {p : Q0} {l : List Q0} (h : Q50 p = some l) : ∀ q ∈ l, cntP q ≤ cntP p := fun q hq => by
 rw [(Q6g h).2] at hq
 exact Nat.le_trans (Z5g 10 _ q hq) (X0h 10 p)
theorem Z35 {m : Nat} : ∀ {cs : List Q4} {l : List Q0}, (∀ c ∈ cs, cntP c.pat ≤ m) → Q1v cs = some l → ∀ b ∈ l, cntP b ≤ m
 | [], l, _, e => by simp only [Q1v, Option.some.injEq] at e; subst e; simp
 | c :: cs, l, h, e => by
  simp only [Q1v] at e
  split at e
  ·cases hp : Q50 c.pat with
   | none => rw [hp] at e; simp at e
   | some m =>
    rw [hp] at e
    cases hc : Q1v cs with
    | none => rw [hc] at e; simp at e
    | some r =>
     rw [hc] at e
     simp only [Option.bind_some, Option.map_some, Option.some.injEq] at e
     subst e
     intro b hb
     rcases List.mem_append.1 hb with hb | hb
     ·exact Nat.le_trans (Z5v hp b hb) (h c (by simp))
     ·exact Z35 (fun c hc => h c (by simp [hc])) hc b hb
  ·exact Z35 (fun c hc => h c (by simp [hc])) e
end Go.Proofs.YtnackipaoepmfaaGreat
namespace Go.Proofs.YtnackipaoepmfaaGreat
open Go Go.RowKit
theorem Q4l {w : List Q3} {t : Q2} {cs : List Q4} (h : Q1e w t cs = true) : cs.length ≤ 8 ∧ ∀ c ∈ cs, Q0z w t c.pat = true ∧ Q0c w 10 t c.pat = true ∧ cntP c.pat ≤ 60 := by
 simp only [Q1e, Bool.and_eq_true, decide_eq_true_eq, List.all_eq_true] at h
 refine ⟨h.1, fun c hc => ?_⟩
 have := h.2 c hc
 simp only [Q6c, Bool.and_eq_true] at this
 obtain ⟨g1, g2, _⟩ := Q2l this.1
 exact ⟨this.1, g1, g2⟩
end Go.Proofs.YtnackipaoepmfaaGreat
namespace Go.Proofs.YtnackipaoepmfaaGreat
open Go Go.RowKit
theorem Z77 {w : List Q3} {e : Nat} {t : Q2} {v : Q5} (hv : Q0y w e t v) : ∀ {cs : List Q4} {l : List Q0}, (∀ c ∈ cs, Q0c w 10 t c.pat = true) → Q1v cs = some l →
  ((∃ b ∈ l, fitP b v = true) ↔ ∃ c ∈ cs, c.guard.op = 0 ∧ (W7 10 c.pat v).isSome = true)
 | [], l, _, e1 => by simp only [Q1v, Option.some.injEq] at e1; subst e1; simp
 | c :: cs, l, h, e1 => by
  simp only [Q1v] at e1
  split at e1
  ·rename_i h0
   cases hp : Q50 c.pat with
   | none => rw [hp] at e1; simp at e1
   | some m =>
    rw [hp] at e1
    cases hc : Q1v cs with
    | none => rw [hc] at e1; simp at e1
    | some r =>
     rw [hc] at e1
     simp only [Option.bind_some, Option.map_some, Option.some.injEq] at e1
     subst e1
     have ih := Z77 hv (fun c hc => h c (by simp [hc])) hc
     have h1 := Q8f Q7n 10 e t c.pat v (h c (by simp)) hv
     rw [← (Q6g hp).2] at h1
     constructor
     ·rintro ⟨b, hb, g⟩
      rcases List.mem_append.1 hb with hb | hb
      ·exact ⟨c, by simp, h0, h1.2 ⟨b, hb, g⟩⟩
      ·obtain ⟨c', m1, m2⟩ := ih.1 ⟨b, hb, g⟩
       exact ⟨c', by simp [m1], m2⟩
     ·rintro ⟨c', hc', g0, g⟩
      rcases List.mem_cons.1 hc' with rfl | hc'
      ·obtain ⟨b, hb, g⟩ := h1.1 g
       exact ⟨b, by simp [hb], g⟩
      ·obtain ⟨b, hb, g⟩ := ih.2 ⟨c', hc', g0, g⟩
       exact ⟨b, by simp [hb], g⟩
  ·rename_i h0
   have ih := Z77 hv (fun c hc => h c (by simp [hc])) e1
   rw [ih]
   constructor
   ·rintro ⟨c', m1, m2⟩; exact ⟨c', by simp [m1], m2⟩
   ·rintro ⟨c', hc', g0, g⟩
    rcases List.mem_cons.1 hc' with rfl | hc'
    ·exact absurd g0 h0
    ·exact ⟨c', hc', g0, g⟩
end Go.Proofs.YtnackipaoepmfaaGreat
namespace Go.Proofs.YtnackipaoepmfaaGreat
open Go Go.RowKit
def sepP (w : List Q3) (t : Q2) : List Q0 → List Q0 → Option (List Q0)
 | _, [] => some []
 | bef, p :: ps => (Q1d w 10 11 t [p] bef).bind fun m => (sepP w t (bef ++ [p]) ps).map (m ++ ·)
theorem Z29 {w : List Q3} {t : Q2} : ∀ (ps bef r : List Q0), (∀ b ∈ bef, Z4 w 10 t b) → (∀ p ∈ ps, Z4 w 10 t p) → sepP w t bef ps = some r → ∀ y ∈ r, Z4 w 11 t y
 | [], _, r, _, _, e => by simp only [sepP, Option.some.injEq] at e; subst e; simp
 | p :: ps, bef, r, hb, hp, e => by
  simp only [sepP] at e
  cases hm : Q1d w 10 11 t [p] bef with
  | none => rw [hm] at e; simp at e
  | some m =>
   rw [hm] at e
   simp only [Option.bind_some, Option.map_eq_some_iff] at e
   obtain ⟨r2, h2, rfl⟩ := e
   intro y hy
   rcases List.mem_append.1 hy with hy | hy
   ·exact Z41 (by omega) hb (fun a ha => by simp only [List.mem_singleton] at ha; rw [ha]; exact Q51 10 t p (hp p (by simp))) hm y hy
   ·exact Z29 ps (bef ++ [p]) r2 (fun b hb' => by
     rcases List.mem_append.1 hb' with h | h
     ·exact hb b h
     ·simp only [List.mem_singleton] at h; rw [h]; exact hp p (by simp)) (fun q hq => hp q (by simp [hq])) h2 y hy
theorem X49 {w : List Q3} (hw : WW w) (he : WE w) {t : Q2} (ht : t ∈ tys w) {e : Nat} {v : Q5} (hv : Q0y w e t v) : ∀ (ps bef r : List Q0), (∀ b ∈ bef, Z4 w 10 t b) → (∀ p ∈ ps, Z4 w 10 t p) → sepP w t bef ps = some r →
  ((∃ y ∈ r, fitP y v = true) ↔ (∃ p ∈ ps, fitP p v = true) ∧ ∀ b ∈ bef, fitP b v = false)
 | [], _, r, _, _, e => by simp only [sepP, Option.some.injEq] at e; subst e; simp
 | p :: ps, bef, r, hb, hp, e => by
  simp only [sepP] at e
  cases hm : Q1d w 10 11 t [p] bef with
  | none => rw [hm] at e; simp at e
  | some m =>
   rw [hm] at e
   simp only [Option.bind_some, Option.map_eq_some_iff] at e
   obtain ⟨r2, h2, rfl⟩ := e
   have h3 := Z1m hw he ht (by omega) hv hb (fun a ha => by simp only [List.mem_singleton] at ha; rw [ha]; exact Q51 10 t p (hp p (by simp))) hm
   have h4 := X49 hw he ht hv ps (bef ++ [p]) r2 (fun b hb' => by
     rcases List.mem_append.1 hb' with h | h
     ·exact hb b h
     ·simp only [List.mem_singleton] at h; rw [h]; exact hp p (by simp)) (fun q hq => hp q (by simp [hq])) h2
   constructor
   ·rintro ⟨y, hy, hf⟩
    rcases List.mem_append.1 hy with hy | hy
    ·obtain ⟨⟨a, ha, haf⟩, hbf⟩ := h3.1 ⟨y, hy, hf⟩
     simp only [List.mem_singleton] at ha
     subst ha
     exact ⟨⟨a, by simp, haf⟩, hbf⟩
    ·obtain ⟨⟨a, ha, haf⟩, hbf⟩ := h4.1 ⟨y, hy, hf⟩
     exact ⟨⟨a, by simp [ha], haf⟩, fun b hb' => hbf b (by simp [hb'])⟩
   ·rintro ⟨⟨a, ha, haf⟩, hbf⟩
    cases hpf : fitP p v with
    | true =>
     obtain ⟨y, hy, hf⟩ := h3.2 ⟨⟨p, by simp, hpf⟩, hbf⟩
     exact ⟨y, by simp [hy], hf⟩
    | false =>
     rcases List.mem_cons.1 ha with rfl | ha
     ·rw [hpf] at haf; cases haf
     ·obtain ⟨y, hy, hf⟩ := h4.2 ⟨⟨a, ha, haf⟩, fun b hb' => by
       rcases List.mem_append.1 hb' with h | h
       ·exact hbf b h
       ·simp only [List.mem_singleton] at h; rw [h]; exact hpf⟩
      exact ⟨y, by simp [hy], hf⟩
def J2 (w : List Q3) (t : Q2) (cs : List Q4) (i : Nat) : Option (List Q0) :=
 if Q1e w t cs = true then (match cs[i]? with
  | none => none
  | some c => (Q50 c.pat).bind fun mine => (Q1v (cs.take i)).bind fun away => Q9i w t ((sepP w t [] mine).bind fun out => Q1d w 10 11 t out away)) else none
theorem W1f {w : List Q3} {t : Q2} {e : Nat} {v : Q5} (hv : Q0y w e t v) {p : Q0} (g : Q0c w 10 t p = true) {l : List Q0} (h : Q50 p = some l) : (∃ q ∈ l, fitP q v = true) ↔ (W7 10 p v).isSome = true := by
 obtain ⟨_, rfl⟩ := Q6g h
 exact (Q8f (fun t h => Q7n t h) 10 e t p v g hv).symm
theorem Z0t {w : List Q3} {t : Q2} {p : Q0} (g : Q0c w 10 t p = true) {l : List Q0} (h : Q50 p = some l) : ∀ q ∈ l, Z4 w 10 t q := by
 obtain ⟨_, rfl⟩ := Q6g h
 exact Q8a 10 t _ (Q6d (fun t h => Q7n t h) 10 t p g)
theorem Z8i {w : List Q3} {t : Q2} {o : Option (List Q0)} {r : List Q0} (h : Q9i w t o = some r) : o = some r := by
 cases o with
 | none => simp [Q9i] at h
 | some l =>
  simp only [Q9i] at h
  split at h
  ·exact h
  ·cases h
theorem Z5t {w : List Q3} (hw : WW w) (he : WE w) {e : Nat} {t : Q2} (ht : t ∈ tys w) {v : Q5} (hv : Q0y w e t v) {cs : List Q4} {i : Nat} {r : List Q0} (hr : J2 w t cs i = some r) :
  ∃ c, cs[i]? = some c ∧ ((∃ y ∈ r, fitP y v = true) ↔ (W7 10 c.pat v).isSome = true ∧ ∀ c' ∈ cs.take i, c'.guard.op = 0 → W7 10 c'.pat v = none) := by
 unfold J2 at hr
 split at hr
 ·rename_i hcl
  obtain ⟨_, hcs⟩ := Q4l hcl
  cases hc : cs[i]? with
  | none => rw [hc] at hr; cases hr
  | some c =>
   rw [hc] at hr
   simp only at hr
   refine ⟨c, rfl, ?_⟩
   have hcg := (hcs c (List.mem_of_getElem? hc)).2.1
   cases hm : Q50 c.pat with
   | none => rw [hm] at hr; simp at hr
   | some mine =>
    rw [hm] at hr
    simp only [Option.bind_some] at hr
    cases ha : Q1v (cs.take i) with
    | none => rw [ha] at hr; simp at hr
    | some away =>
     rw [ha] at hr
     simp only [Option.bind_some] at hr
     have hr := Z8i hr
     cases hs : sepP w t [] mine with
     | none => rw [hs] at hr; simp at hr
     | some out =>
      rw [hs] at hr
      simp only [Option.bind_some] at hr
      have gt : ∀ c' ∈ cs.take i, Q0c w 10 t c'.pat = true := fun c' h => (hcs c' (List.mem_of_mem_take h)).2.1
      have hcp := Q72 gt ha
      have hmp := Z0t hcg hm
      have h1 := Z1m hw he ht (by omega) hv hcp (Z29 mine [] out (by simp) hmp hs) hr
      have h2 := X49 hw he ht hv mine [] out (by simp) hmp hs
      have h3 := W1f hv hcg hm
      have h4 := Z77 hv gt ha
      rw [h1, h2, h3]
      constructor
      ·rintro ⟨⟨h5, _⟩, h6⟩
       refine ⟨h5, fun c' hc' h0 => ?_⟩
       cases hmm : W7 10 c'.pat v with
       | none => rfl
       | some x =>
        obtain ⟨b, hb, hbf⟩ := h4.2 ⟨c', hc', h0, by rw [hmm]; rfl⟩
        rw [h6 b hb] at hbf
        cases hbf
      ·rintro ⟨h5, h6⟩
       refine ⟨⟨h5, by simp⟩, fun b hb => ?_⟩
       cases hbf : fitP b v with
       | false => rfl
       | true =>
        obtain ⟨c', hc', h0, h7⟩ := h4.1 ⟨b, hb, hbf⟩
        rw [h6 c' hc' h0] at h7
        cases h7
 ·cases hr
end Go.Proofs.YtnackipaoepmfaaGreat
namespace Go.Proofs.YtnackipaoepmfaaGreat
open Go Go.RowKit
structure ROk (r : Z1) (m : Nat) : Prop where
 bytes : ∀ x ∈ r.b, 0 ≤ x ∧ x ≤ 255
 len : r.b.length ≤ 2000
 p0 : 0 ≤ r.p
 pm : r.p + m ≤ 40000000
structure Nx (r r' : Z1) (c : Nat) : Prop where
 b : r'.b = r.b
 le : r.p ≤ r'.p
 ge : r'.p ≤ r.p + c
theorem ROk.le {r : Z1} {m m' : Nat} (h : ROk r m) (hm : m' ≤ m) : ROk r m' := ⟨h.bytes, h.len, h.p0, by have := h.pm; omega⟩
theorem ROk.nx {r r' : Z1} {c m : Nat} (h : ROk r (c + m)) (hn : Nx r r' c) : ROk r' m := ⟨by rw [hn.b]; exact h.bytes, by rw [hn.b]; exact h.len, by have := h.p0; have := hn.le; omega, by have := h.pm; have := hn.ge; omega⟩
theorem Nx.refl (r : Z1) : Nx r r 0 := ⟨rfl, by omega, by omega⟩
theorem Nx.trans {a b c : Z1} {m n : Nat} (h : Nx a b m) (k : Nx b c n) : Nx a c (m + n) := ⟨k.b.trans h.b, by have := h.le; have := k.le; omega, by have := h.ge; have := k.ge; omega⟩
theorem Nx.le' {a b : Z1} {m n : Nat} (h : Nx a b m) (hm : m ≤ n) : Nx a b n := ⟨h.b, h.le, by have := h.ge; omega⟩
theorem W08 {x y : Int} (hx : 0 ≤ x) (hx' : x < 1099511627776) (hy : 0 ≤ y) (hy' : y < 1099511627776) : 0 ≤ wxor .i64 x y ∧ wxor .i64 x y < 1099511627776 := by
 obtain ⟨a, rfl⟩ := Int.eq_ofNat_of_zero_le hx
 obtain ⟨b, rfl⟩ := Int.eq_ofNat_of_zero_le hy
 have e : (BitVec.ofInt IntKind.i64.bits (a : Int) ^^^ BitVec.ofInt IntKind.i64.bits (b : Int)).toNat = a ^^^ b := by
  have ha : (BitVec.ofInt IntKind.i64.bits (a : Int)).toNat = a := by
   rw [BitVec.toNat_ofInt]
   show (((a : Int) % ((2 ^ 64 : Nat) : Int))).toNat = a
   omega
  have hb : (BitVec.ofInt IntKind.i64.bits (b : Int)).toNat = b := by
   rw [BitVec.toNat_ofInt]
   show (((b : Int) % ((2 ^ 64 : Nat) : Int))).toNat = b
   omega
  rw [BitVec.toNat_xor, ha, hb]
 have hlt : a ^^^ b < 2 ^ 40 := Nat.xor_lt_two_pow (by omega) (by omega)
 unfold wxor
 rw [e, Z5a (by omega) (by omega)]
 omega
theorem Q30 {r : Z1} (h : ROk r 1) {k : Int} (h1 : 1 ≤ k) (h2 : k ≤ 1000000) : Ret (Z2 r k) (fun a => 0 ≤ a.1 ∧ a.1 < k ∧ Nx r a.2 1) := by
 have hp0 := h.p0
 have hpm := h.pm
 have hlen := h.len
 have ep : wadd .i64 r.p 1 = r.p + 1 := Q1c (by omega) (by omega)
 have eq : wsub .i64 (r.p + 1) 1 = r.p := by rw [Q4v (by omega) (by omega)]; omega
 have nx : Nx r (Z1.mk r.b (r.p + 1)) 1 := ⟨rfl, by simp only; omega, by simp only; omega⟩
 unfold Z2
 rw [ep, eq]
 refine Ret.ite (fun c => by rw [X3] at c; omega) (fun _ => ?_)
 refine Ret.ite (fun c => .some ⟨by simp, by simp; omega, nx⟩) (fun c => ?_)
 rw [X9] at c
 simp only [lenZ] at c
 have hpos : 0 < r.b.length := by omega
 have hk0 : chk (!ieq k 0) = some () := X39 (by simp [ieq]; omega)
 have hb0 : chk (!ieq (lenZ r.b.length) 0) = some () := X39 (by rw [Bool.not_eq_true', X9]; simp only [lenZ]; omega)
 have rem : ∀ x : Int, 0 ≤ x → 0 ≤ wrem x k ∧ wrem x k < k := fun x hx => by
  unfold wrem
  rw [Int.tmod_eq_emod_of_nonneg hx]
  exact ⟨Int.emod_nonneg _ (by omega), Int.emod_lt_of_pos _ (by omega)⟩
 refine Ret.ite (fun c2 => ?_) (fun c2 => ?_)
 ·rw [X3] at c2
  simp only [lenZ] at c2
  obtain ⟨x, hx, hm⟩ := Q4i hp0 c2
  obtain ⟨b1, b2⟩ := h.bytes x hm
  rw [hx, hk0]
  simp only [Option.bind_some]
  rw [W0b (by omega) (by omega)]
  exact .some ⟨(rem x b1).1, (rem x b1).2, nx⟩
 ·rw [hb0]
  simp only [Option.bind_some]
  have remb : ∀ x : Int, 0 ≤ x → 0 ≤ wrem x (lenZ r.b.length) ∧ wrem x (lenZ r.b.length) < r.b.length := fun x hx => by
   unfold wrem lenZ
   rw [Int.tmod_eq_emod_of_nonneg hx]
   exact ⟨Int.emod_nonneg _ (by omega), Int.emod_lt_of_pos _ (by omega)⟩
  have e7 : wmul .i64 r.p 7 = r.p * 7 := Z1l (by omega) (by omega)
  have e73 : wadd .i64 (r.p * 7) 3 = r.p * 7 + 3 := Q1c (by omega) (by omega)
  rw [e7, e73]
  obtain ⟨x, hx, hm⟩ := Q4i (remb r.p hp0).1 (remb r.p hp0).2
  obtain ⟨y, hy, hn⟩ := Q4i (remb (r.p * 7 + 3) (by omega)).1 (remb (r.p * 7 + 3) (by omega)).2
  obtain ⟨b1, b2⟩ := h.bytes x hm
  obtain ⟨b3, b4⟩ := h.bytes y hn
  rw [hx, hy, hk0]
  simp only [Option.bind_some]
  have f1 : wcv .i64 x = x := W0b (by omega) (by omega)
  have f2 : wcv .i64 y = y := W0b (by omega) (by omega)
  have f3 : wmul .i64 x 131 = x * 131 := Z1l (by omega) (by omega)
  have f4 : wmul .i64 y 1117 = y * 1117 := Z1l (by omega) (by omega)
  have f5 : wmul .i64 r.p 29 = r.p * 29 := Z1l (by omega) (by omega)
  have hq : 0 ≤ r.p.tdiv (lenZ r.b.length) ∧ r.p.tdiv (lenZ r.b.length) ≤ r.p := by
   rw [Int.tdiv_eq_ediv_of_nonneg hp0]
   exact ⟨Int.ediv_nonneg hp0 (by simp [lenZ]), Int.ediv_le_self _ hp0⟩
  have f6 : wquo .i64 r.p (lenZ r.b.length) = r.p.tdiv (lenZ r.b.length) := W09 (by omega) (by omega)
  rw [f1, f2, f3, f4, f5, f6]
  generalize r.p.tdiv (lenZ r.b.length) = q at hq ⊢
  have f7 : wmul .i64 q 53 = q * 53 := Z1l (by omega) (by omega)
  have f8 : wadd .i64 (x * 131) (y * 1117) = x * 131 + y * 1117 := Q1c (by omega) (by omega)
  have f9 : wadd .i64 (x * 131 + y * 1117) (r.p * 29) = x * 131 + y * 1117 + r.p * 29 := Q1c (by omega) (by omega)
  rw [f7, f8, f9, Q1c (by omega) (by omega)]
  have hz : 0 ≤ x * 131 + y * 1117 + r.p * 29 + q * 53 ∧ x * 131 + y * 1117 + r.p * 29 + q * 53 < 1099511627776 := ⟨by omega, by omega⟩
  generalize x * 131 + y * 1117 + r.p * 29 + q * 53 = z at hz ⊢
  have hz64 : z.tdiv 64 = z / 64 := Int.tdiv_eq_ediv_of_nonneg hz.1
  rw [W09 (by rw [hz64]; omega) (by rw [hz64]; omega), hz64]
  have hxr := W08 hz.1 hz.2 (show 0 ≤ z / 64 by omega) (show z / 64 < 1099511627776 by omega)
  exact .some ⟨(rem _ hxr.1).1, (rem _ hxr.1).2, nx⟩
theorem Z04 {r : Z1} (h : ROk r 1) (l : List Int) (h1 : 1 ≤ l.length) (h2 : l.length ≤ 1000) : Ret (W1 r l) (fun a => a.1 ∈ l ∧ Nx r a.2 1) := by
 unfold W1
 refine Ret.bind (Q30 h (k := lenZ l.length) (by simp [lenZ]; omega) (by simp [lenZ]; omega)) (fun a ha => ?_)
 obtain ⟨x, hx, hm⟩ := Q4i (xs := l) ha.1 (by simpa [lenZ] using ha.2.1)
 rw [hx]
 exact .some ⟨hm, ha.2.2⟩
theorem X4n (code : List Int) (hb : ∀ x ∈ code, 0 ≤ x ∧ x ≤ 255) : Ret (Q40 code) (fun r => ROk r 1000000) := by
 unfold Q40
 refine Ret.ctl (R := fun _ => False) (B := fun s => (∀ x ∈ s, 0 ≤ x ∧ x ≤ 255) ∧ s.length ≤ 2000) ?_ (fun r hr => hr.elim) (fun s hs => ?_)
 ·refine Ret.ite (fun h => ?_) (fun h => ?_)
  ·rw [X3] at h
   simp only [lenZ] at h
   have : Q74 code 2000 = some (code.take 2000) := by
    unfold Q74
    rw [if_pos ⟨by omega, by omega⟩]
    rfl
   rw [this]
   exact .some ⟨fun x hx => hb x (List.mem_of_mem_take hx), by simp; omega⟩
  ·rw [J0] at h
   simp only [lenZ] at h
   exact .some ⟨hb, by omega⟩
 ·exact .some ⟨hs.1, hs.2, by simp, by simp⟩
theorem W4i {r : Z1} (h : ROk r 1) : Ret (Q56 NN r) (fun a => a.1 ∈ Q1i ∧ Nx r a.2 1) := by
 unfold Q56
 obtain ⟨T, hT⟩ : ∃ T, Q3z = some T := ⟨_, rfl⟩
 have hlen : T.length = 8 := by
  have h8 : Q3z.map List.length = some 8 := rfl
  rw [hT] at h8
  simpa using h8
 rw [hT]
 simp only [Option.bind_some]
 have e7 : wsub .i64 (lenZ T.length) 1 = 7 := by rw [hlen]; rfl
 rw [e7]
 refine Ret.bind (Q30 h (by omega) (by omega)) (fun a ha => ?_)
 obtain ⟨i, hi⟩ := Int.eq_ofNat_of_zero_le ha.1
 obtain ⟨w, hw, hm⟩ := W6x (i := i) (by have := ha.2.1; omega)
 unfold X0b at hw
 rw [hT] at hw
 simp only [Option.bind_some] at hw
 rw [hi]
 obtain ⟨x, hx, hw⟩ := bindE hw
 rw [hx]
 simp only [Option.bind_some]
 rw [hw]
 exact .some ⟨hm, ha.2.2⟩
def Z3x : Nat → Nat
 | 0 => 1
 | m + 1 => 1 + 3 * Z3x m
theorem W3e : ∀ m, 1 ≤ Z3x m
 | 0 => Nat.le_refl _
 | m + 1 => by simp only [Z3x]; omega
theorem W70 {w : List Q3} (hw : WW w) : ∀ (m n : Nat) (r : Z1) (t : Q2) (depth : Int), t ∈ tys w → depP w t ≠ 0 → depth ≤ m → depP w t ≤ m → -1000 + m ≤ depth → m ≤ 100 → m + 1 ≤ n → ROk r (Z3x m) →
  Ret (Q4p n r w (tabP w) t depth) (fun a => Nx r a.2 (Z3x m)) := by
 intro m
 induction m with
 | zero =>
  intro n r t depth ht hd h1 h2 h3 hm100 hn hr
  have := (hw.ty t ht).d0
  omega
 | succ m ih =>
  intro n r t depth ht hd h1 h2 h3 hm100 hn hr
  obtain ⟨n, rfl⟩ : ∃ k, n = k + 1 := ⟨n - 1, by omega⟩
  have hT := hw.ty t ht
  have hpos := W3e (m + 1)
  unfold Q4p
  refine Ret.ite (fun h => ?_) (fun h => ?_)
  ·refine Ret.bind (Q30 (hr.le hpos) (by omega) (by omega)) (fun a ha => .some (ha.2.2.le' hpos))
  ·rw [X9] at h
   rw [hT.c1]
   simp only [Option.bind_some]
   obtain ⟨kb, hkb, hmb⟩ := hT.dm h hd
   have hd0 := hT.d0
   refine Ret.ctl (Z3 (Z9 w t) (fun k s => (∀ x ∈ s, x ∈ Z9 w t ∧ 0 < Q52 w t x ∧ (Q52 w t x ≤ depth ∨ Q52 w t x = depP w t)) ∧ s.length ≤ k ∧ (∀ j, j < k → (Z9 w t)[j]? = some kb → s ≠ [])) (fun _ => False)
    (fun s => (∀ x ∈ s, x ∈ Z9 w t ∧ 0 < Q52 w t x ∧ (Q52 w t x ≤ depth ∨ Q52 w t x = depP w t)) ∧ s ≠ [] ∧ s.length ≤ 4) ⟨by simp, by simp, fun j hj => by omega⟩ (fun k x s hx hI => ?_) (fun s hI => ?_)) (fun r hr => hr.elim) (fun s hs => ?_)
   ·obtain ⟨i1, i2, i3⟩ := hI
    have hxm := List.mem_of_getElem? hx
    have hkl := (List.getElem?_eq_some_iff.1 hx).1
    have hcl := hT.cl
    have take : ∀ (hp : 0 < Q52 w t x ∧ (Q52 w t x ≤ depth ∨ Q52 w t x = depP w t)), Ret ((app s [x]).bind fun x310 => some (Ctl.brk (ρ := Ctl (Q5 × Z1) (List Int)) x310)) (CtlQ (fun _ => False) (fun s' => (∀ x ∈ s', x ∈ Z9 w t ∧ 0 < Q52 w t x ∧ (Q52 w t x ≤ depth ∨ Q52 w t x = depP w t)) ∧ s'.length ≤ k + 1 ∧ (∀ j, j < k + 1 → (Z9 w t)[j]? = some kb → s' ≠ []))) := fun hp => by
     rw [W9 (by simp only [Q8, List.length_cons, List.length_nil]; omega)]
     refine .some ⟨fun y hy => ?_, by simp; omega, fun _ _ _ => by simp⟩
     rcases List.mem_append.1 hy with hy | hy
     ·exact i1 y hy
     ·simp at hy; subst hy; exact ⟨hxm, hp⟩
    have pass : (¬ (0 < Q52 w t x ∧ (Q52 w t x ≤ depth ∨ Q52 w t x = depP w t))) → Ret (some (Ctl.brk (ρ := Ctl (Q5 × Z1) (List Int)) s)) (CtlQ (fun _ => False) (fun s' => (∀ x ∈ s', x ∈ Z9 w t ∧ 0 < Q52 w t x ∧ (Q52 w t x ≤ depth ∨ Q52 w t x = depP w t)) ∧ s'.length ≤ k + 1 ∧ (∀ j, j < k + 1 → (Z9 w t)[j]? = some kb → s' ≠ []))) := fun hp => by
     refine .some ⟨i1, by omega, fun j hj hjk => ?_⟩
     by_cases hjk2 : j = k
     ·subst hjk2
      rw [hx] at hjk
      cases hjk
      exact absurd ⟨by omega, .inr hmb⟩ hp
     ·exact i3 j (by omega) hjk
    refine Ret.ctl (R := fun _ => False) (B := fun (s' : List Int) => (∀ x ∈ s', x ∈ Z9 w t ∧ 0 < Q52 w t x ∧ (Q52 w t x ≤ depth ∨ Q52 w t x = depP w t)) ∧ s'.length ≤ k + 1 ∧ (∀ j, j < k + 1 → (Z9 w t)[j]? = some kb → s' ≠ [])) ?_ (fun r hr => hr.elim) (fun s' hs' => ⟨_, rfl, hs'⟩)
    rw [hT.m1 x hxm]
    simp only [Option.bind_some]
    refine Ret.ite (fun c => ?_) (fun c => ?_)
    ·rw [X3] at c
     refine Ret.ite (fun c2 => ?_) (fun c2 => ?_)
     ·rw [Q24] at c2
      exact take ⟨c, .inl c2⟩
     ·rw [Q59] at c2
      rw [hT.d1]
      simp only [Option.bind_some]
      refine Ret.ite (fun c3 => ?_) (fun c3 => ?_)
      ·rw [W5] at c3
       exact take ⟨c, .inr c3⟩
      ·rw [X9] at c3
       exact pass (by omega)
    ·rw [J0] at c
     exact pass (by omega)
   ·obtain ⟨i1, i2, i3⟩ := hI
    obtain ⟨j, hj⟩ := List.mem_iff_getElem?.1 hkb
    have := hT.cl
    exact ⟨i1, i3 j ((List.getElem?_eq_some_iff.1 hj).1) hj, by omega⟩
   ·obtain ⟨i1, i2, i3⟩ := hs
    have hsl : 1 ≤ s.length := by cases s with
     | nil => exact absurd rfl i2
     | cons => simp
    refine Ret.bind (Q30 (hr.le hpos) (k := lenZ s.length) (by simp [lenZ]; omega) (by simp [lenZ]; omega)) (fun a ha => ?_)
    obtain ⟨x, hx, hxm⟩ := Q4i (xs := s) ha.1 (by simpa [lenZ] using ha.2.1)
    obtain ⟨hxc, hx0, hxd⟩ := i1 x hxm
    rw [hx]
    simp only [Option.bind_some]
    rw [hT.a1 x hxc]
    simp only [Option.bind_some]
    have hal := hT.al x hxc
    have hr1 : ROk a.2 (3 * Z3x m) := ROk.nx (c := 1) hr ha.2.2
    refine Ret.ctl (Z3 (Z6 w t x) (fun k s => Nx a.2 s.1 (k * Z3x m) ∧ s.2.length ≤ k) (fun _ => False) (fun s => Nx a.2 s.1 (3 * Z3x m)) ⟨by simpa using Nx.refl a.2, by simp⟩ (fun k y s hy hI => ?_) (fun s hI => ?_)) (fun r hr => hr.elim) (fun s hs => ?_)
    ·obtain ⟨j1, j2⟩ := hI
     have hym := List.mem_of_getElem? hy
     have hkl := (List.getElem?_eq_some_iff.1 hy).1
     obtain ⟨d1, d2⟩ := hT.ma x hxc (by omega) y hym
     have hws : wsub .i64 depth 1 = depth - 1 := Q4v (by omega) (by omega)
     rw [hws]
     have hr2 : ROk s.1 (Z3x m) := by
      have : k * Z3x m + Z3x m ≤ 3 * Z3x m := by
       rw [← Nat.succ_mul]
       exact Nat.mul_le_mul_right _ (by omega)
      exact ROk.nx (c := k * Z3x m) (hr1.le this) j1
     refine Ret.bind (ih n s.1 y (depth - 1) (hT.at_ x hxc y hym) (by omega) (by omega) (by omega) (by omega) (by omega) (by omega) hr2) (fun b hb => ?_)
     rw [W9 (by simp only [Q8, List.length_cons, List.length_nil]; omega)]
     refine .some ⟨?_, by simp; omega⟩
     have := j1.trans hb
     rw [← Nat.succ_mul] at this
     exact this
    ·obtain ⟨j1, j2⟩ := hI
     exact j1.le' (Nat.mul_le_mul_right _ hal)
    ·exact .some (ha.2.2.trans hs)
theorem W0j {r : Z1} (h : ROk r 1000) : Ret (Q55 NN r) (fun a => a.1 ∈ Q1i ∧ a.2.1 ∈ tys a.1 ∧ Nx r a.2.2.2 500) := by
 unfold Q55
 refine Ret.bind (W4i (h.le (by omega))) (fun a ha => ?_)
 obtain ⟨hw, hn1⟩ := ha
 have hW := ww hw
 rw [hW.tab]
 simp only [Option.bind_some]
 have hr1 : ROk a.2 999 := ROk.nx (c := 1) h hn1
 have hpos := hW.pos
 have hle := hW.le
 refine Ret.bind (Q30 (hr1.le (by omega)) (k := lenZ a.1.length) (by simp only [lenZ]; omega) (by simp only [lenZ]; omega)) (fun b hb => ?_)
 have hr2 : ROk b.2 998 := ROk.nx (c := 1) hr1 hb.2.2
 refine Ret.bind (Z04 (hr2.le (by omega)) [0, 0, 1, 2] (by simp) (by simp)) (fun c hc => ?_)
 have hr3 : ROk c.2 997 := ROk.nx (c := 1) hr2 hc.2
 have hty : (Q2.mk b.1 c.1) ∈ tys a.1 := by
  obtain ⟨i, hi⟩ := Int.eq_ofNat_of_zero_le hb.1
  have hil : i < a.1.length := by have := hb.2.1; simp only [lenZ] at this; omega
  have hci : ∃ j : Nat, j < 4 ∧ c.1 = (j : Int) := by
   have := hc.1
   simp at this
   rcases this with h | h | h
   ·exact ⟨0, by omega, h⟩
   ·exact ⟨1, by omega, h⟩
   ·exact ⟨2, by omega, h⟩
  obtain ⟨j, hj, hcj⟩ := hci
  unfold tys
  refine List.mem_cons_of_mem _ (List.mem_flatMap.2 ⟨i, List.mem_range.2 hil, List.mem_map.2 ⟨j, List.mem_range.2 hj, ?_⟩⟩)
  rw [hi, hcj]
  rfl
 have htI : tI ∈ tys a.1 := by unfold tys; exact List.mem_cons_self
 refine Ret.ctl (R := fun _ => False) (B := fun s => (Q2.mk s.1 s.2) ∈ tys a.1 ∧ depP a.1 (Q2.mk s.1 s.2) ≠ 0) ?_ (fun r hr => hr.elim) (fun s hs => ?_)
 ·rw [(hW.ty _ hty).d1]
  simp only [Option.bind_some]
  refine Ret.ite (fun h => ?_) (fun h => ?_)
  ·refine .some ⟨htI, ?_⟩
   have := (hW.ty tI htI).ti rfl
   show depP a.1 tI ≠ 0
   omega
  ·rw [X9] at h
   exact .some ⟨hty, h⟩
 ·refine Ret.bind (Z04 (hr3.le (by omega)) [3, 2, 4, 1] (by simp) (by simp)) (fun d hd => ?_)
  have hr4 : ROk d.2 996 := ROk.nx (c := 1) hr3 hd.2
  have hd4 : 1 ≤ d.1 ∧ d.1 ≤ 4 := by
   have := hd.1
   simp at this
   omega
  have hdep := (hW.ty _ hs.1).d4
  refine Ret.bind (W70 hW 4 NN d.2 _ d.1 hs.1 hs.2 (by omega) (by omega) (by omega) (by omega) (by decide) (hr4.le (by decide))) (fun e he => ?_)
  refine .some ⟨hw, hs.1, ?_⟩
  have := (((hn1.trans hb.2.2).trans hc.2).trans hd.2).trans he
  exact this.le' (by decide)
end Go.Proofs.YtnackipaoepmfaaGreat
namespace Go.Proofs.YtnackipaoepmfaaGreat
open Go Go.RowKit
def Z8g : Nat → Q0 → Prop
 | 0, _ => False
 | d + 1, p => p.kids.length ≤ 3 ∧ ∀ q ∈ p.kids, Z8g d q
theorem Z27 (d : Nat) : Z8g (d + 1) (Q0.mk 1 0 0 0 0 []) := ⟨by simp, by simp⟩
def cD3 : Nat → Nat
 | 0 => 0
 | m + 1 => 5 + 3 * cD3 m
def cN3 : Nat → Nat
 | 0 => 0
 | m + 1 => 2 + 3 * cN3 m
theorem W6y {w : List Q3} (hw : WW w) : ∀ (m n : Nat) (r : Z1) (t : Q2) (depth : Int), t ∈ tys w → depth ≤ m + 1 → -1000 + m ≤ depth → m ≤ 100 → m + 1 ≤ n → ROk r (cD3 m) →
  Ret (Q0l n r w t depth) (fun a => Z8g (m + 1) a.1 ∧ Nx r a.2 (cD3 m)) := by
 intro m
 induction m with
 | zero =>
  intro n r t depth ht h1 h2 h3 hn hr
  obtain ⟨n, rfl⟩ : ∃ k, n = k + 1 := ⟨n - 1, by omega⟩
  unfold Q0l
  rw [if_pos (by rw [X3]; omega)]
  exact .some ⟨Z27 0, Nx.refl r⟩
 | succ m ih =>
  intro n r t depth ht h1 h2 h3 hn hr
  obtain ⟨n, rfl⟩ : ∃ k, n = k + 1 := ⟨n - 1, by omega⟩
  have hT := hw.ty t ht
  have ec : cD3 (m + 1) = 5 + 3 * cD3 m := rfl
  rw [ec] at hr ⊢
  have hws : wsub .i64 depth 1 = depth - 1 := Q4v (by omega) (by omega)
  unfold Q0l
  refine Ret.ite (fun h => .some ⟨Z27 _, (Nx.refl r).le' (by omega)⟩) (fun h => ?_)
  refine Ret.bind (Q30 (hr.le (by omega)) (by omega) (by omega)) (fun a ha => ?_)
  have hr1 : ROk a.2 (4 + 3 * cD3 m) := ROk.nx (c := 1) (hr.le (by omega)) ha.2.2
  refine Ret.ite (fun h => .some ⟨Z27 _, ha.2.2.le' (by omega)⟩) (fun h => ?_)
  refine Ret.bind (Q30 (hr1.le (by omega)) (by omega) (by omega)) (fun b hb => ?_)
  have hr2 : ROk b.2 (3 + 3 * cD3 m) := ROk.nx (c := 1) (hr1.le (by omega)) hb.2.2
  have hab := ha.2.2.trans hb.2.2
  rw [hws]
  refine Ret.ite (fun h => ?_) (fun h => ?_)
  ·refine Ret.bind (ih n b.2 t (depth - 1) ht (by omega) (by omega) (by omega) (by omega) (hr2.le (by omega))) (fun c hc => ?_)
   have hr3 : ROk c.2 (cD3 m) := ROk.nx (c := cD3 m) (hr2.le (by omega)) hc.2
   refine Ret.bind (ih n c.2 t (depth - 1) ht (by omega) (by omega) (by omega) (by omega) hr3) (fun d hd => ?_)
   refine .some ⟨⟨by simp, fun q hq => ?_⟩, ((hab.trans hc.2).trans hd.2).le' (by omega)⟩
   simp at hq
   rcases hq with rfl | rfl
   ·exact hc.1
   ·exact hd.1
  ·refine Ret.ite (fun h => ?_) (fun h => ?_)
   ·refine Ret.bind (Q30 (hr2.le (by omega)) (by omega) (by omega)) (fun c hc => ?_)
    have hr3 : ROk c.2 (2 + 3 * cD3 m) := ROk.nx (c := 1) (hr2.le (by omega)) hc.2.2
    have e10 : wsub .i64 10 c.1 = 10 - c.1 := Q4v (by omega) (by omega)
    rw [e10]
    refine Ret.bind (Q30 (hr3.le (by omega)) (by omega) (by omega)) (fun d hd => ?_)
    have hr4 : ROk d.2 (1 + 3 * cD3 m) := ROk.nx (c := 1) (hr3.le (by omega)) hd.2.2
    refine Ret.bind (Q30 (hr4.le (by omega)) (by omega) (by omega)) (fun e he => ?_)
    exact .some ⟨⟨by simp, by simp⟩, (((hab.trans hc.2.2).trans hd.2.2).trans he.2.2).le' (by omega)⟩
   ·rw [hT.c1]
    simp only [Option.bind_some]
    refine Ret.ite (fun h => .some ⟨Z27 _, hab.le' (by omega)⟩) (fun h => ?_)
    rw [X9] at h
    simp only [lenZ] at h
    have hcl := hT.cl
    refine Ret.bind (Q30 (hr2.le (by omega)) (k := lenZ (Z9 w t).length) (by simp only [lenZ]; omega) (by simp only [lenZ]; omega)) (fun c hc => ?_)
    have hr3 : ROk c.2 (3 * cD3 m) := ROk.nx (c := 1) (hr2.le (by omega)) hc.2.2
    obtain ⟨x, hx, hxm⟩ := Q4i (xs := Z9 w t) hc.1 (by simpa [lenZ] using hc.2.1)
    rw [hx]
    simp only [Option.bind_some]
    rw [hT.a1 x hxm]
    simp only [Option.bind_some]
    have hal := hT.al x hxm
    refine Ret.ctl (Z3 (Z6 w t x) (fun k s => Nx c.2 s.1 (k * cD3 m) ∧ s.2.length = k ∧ ∀ q ∈ s.2, Z8g (m + 1) q) (fun _ => False) (fun s => Nx c.2 s.1 (3 * cD3 m) ∧ s.2.length ≤ 3 ∧ ∀ q ∈ s.2, Z8g (m + 1) q) ⟨by simpa using Nx.refl c.2, by simp, by simp⟩ (fun k y s hy hI => ?_) (fun s hI => ?_)) (fun r hr => hr.elim) (fun s hs => ?_)
    ·obtain ⟨j1, j2, j3⟩ := hI
     have hym := List.mem_of_getElem? hy
     have hkl := (List.getElem?_eq_some_iff.1 hy).1
     have hr4 : ROk s.1 (cD3 m) := by
      have : k * cD3 m + cD3 m ≤ 3 * cD3 m := by
       rw [← Nat.succ_mul]
       exact Nat.mul_le_mul_right _ (by omega)
      exact ROk.nx (c := k * cD3 m) (hr3.le this) j1
     refine Ret.bind (ih n s.1 y (depth - 1) (hT.at_ x hxm y hym) (by omega) (by omega) (by omega) (by omega) hr4) (fun b hb => ?_)
     rw [W9 (by simp only [Q8, List.length_cons, List.length_nil]; omega)]
     refine .some ⟨?_, by simp; omega, fun q hq => ?_⟩
     ·have := j1.trans hb.2
      rw [← Nat.succ_mul] at this
      exact this
     ·rcases List.mem_append.1 hq with hq | hq
      ·exact j3 q hq
      ·simp at hq; subst hq; exact hb.1
    ·obtain ⟨j1, j2, j3⟩ := hI
     exact ⟨j1.le' (Nat.mul_le_mul_right _ hal), by omega, j3⟩
    ·exact .some ⟨⟨hs.2.1, hs.2.2⟩, ((hab.trans hc.2.2).trans hs.1).le' (by omega)⟩
theorem W59 : ∀ (m n : Nat) (r : Z1) (p : Q0) (v : Int), Z8g m p → m + 1 ≤ n → ROk r (cN3 m) → Ret (Q20 n r p v) (fun a => Nx r a.2.2 (cN3 m)) := by
 intro m
 induction m with
 | zero => intro n r p v h; exact h.elim
 | succ m ih =>
  intro n r p v hp hn hr
  obtain ⟨n, rfl⟩ : ∃ k, n = k + 1 := ⟨n - 1, by omega⟩
  obtain ⟨hk, hq⟩ := hp
  have ec : cN3 (m + 1) = 2 + 3 * cN3 m := rfl
  rw [ec] at hr ⊢
  unfold Q20
  refine Ret.ite (fun h => .some ((Nx.refl r).le' (by omega))) (fun h => ?_)
  refine Ret.ite (fun h => .some ((Nx.refl r).le' (by omega))) (fun h => ?_)
  refine Ret.ite (fun h => .some ((Nx.refl r).le' (by omega))) (fun h => ?_)
  refine Ret.ctl (R := fun (a : Q0 × Int × Z1) => Nx r a.2.2 (2 + 3 * cN3 m)) (B := fun (s : Z1) => Nx r s 1) ?_ (fun a ha => .some ha) (fun s hs => ?_)
  ·refine Ret.ite (fun h => ?_) (fun h => .some ((Nx.refl r).le' (by omega)))
   refine Ret.bind (Q30 (hr.le (by omega)) (by omega) (by omega)) (fun a ha => ?_)
   exact Ret.ite (fun h => .some (ha.2.2.le' (by omega))) (fun h => .some ha.2.2)
  ·have hr1 : ROk s (1 + 3 * cN3 m) := ROk.nx (c := 1) (hr.le (by omega)) hs
   refine Ret.ctl (Z3 p.kids (fun k u => Nx s u.1 (k * cN3 m) ∧ u.2.1.length = k) (fun _ => False) (fun u => Nx s u.1 (3 * cN3 m) ∧ u.2.1.length ≤ 3) ⟨by simpa using Nx.refl s, by simp⟩ (fun k y u hy hI => ?_) (fun u hI => ?_)) (fun r hr => hr.elim) (fun u hu => ?_)
   ·obtain ⟨j1, j2⟩ := hI
    have hym := List.mem_of_getElem? hy
    have hkl := (List.getElem?_eq_some_iff.1 hy).1
    have hr4 : ROk u.1 (cN3 m) := by
     have : k * cN3 m + cN3 m ≤ 1 + 3 * cN3 m := by
      rw [← Nat.succ_mul]
      have := Nat.mul_le_mul_right (cN3 m) (show k.succ ≤ 3 by omega)
      omega
     exact ROk.nx (c := k * cN3 m) (hr1.le this) j1
    refine Ret.bind (ih n u.1 y _ (hq y hym) (by omega) hr4) (fun b hb => ?_)
    rw [W9 (by simp only [Q8, List.length_cons, List.length_nil]; omega)]
    refine .some ⟨?_, by simp; omega⟩
    have := j1.trans hb
    rw [← Nat.succ_mul] at this
    exact this
   ·obtain ⟨j1, j2⟩ := hI
    exact ⟨j1.le' (Nat.mul_le_mul_right _ hk), by omega⟩
   ·have hr2 : ROk u.1 1 := ROk.nx (c := 3 * cN3 m) (hr1.le (by omega)) hu.1
    have hsu := hs.trans hu.1
    refine Ret.ctl (R := fun (a : Q0 × Int × Z1) => Nx r a.2.2 (2 + 3 * cN3 m)) (B := fun (s : Z1) => Nx r s (2 + 3 * cN3 m)) ?_ (fun a ha => .some ha) (fun s hs => .some hs)
    refine Ret.ite (fun h => ?_) (fun h => .some (hsu.le' (by omega)))
    refine Ret.bind (Q30 hr2 (by omega) (by omega)) (fun a ha => ?_)
    have := (hsu.trans ha.2.2).le' (show 1 + 3 * cN3 m + 1 ≤ 2 + 3 * cN3 m by omega)
    exact Ret.ite (fun h => .some this) (fun h => .some this)
def anyP : Q0 := Q0.mk 1 0 0 0 0 []
theorem X3g (w : List Q3) (t : Q2) : Q0z w t anyP = true := by
 simp [Q0z, anyP, Q0c, Q6h, Q9k, Y5, linD, Q2o, ownV, Q1k, cntP, cntP.cntPs]
theorem W4w {w : List Q3} (hw : WW w) {r : Z1} {t : Q2} (ht : t ∈ tys w) (h : ROk r 200) : Ret (Q3j NN r w t) (fun a => Q0z w t a.1 = true ∧ Nx r a.2 200) := by
 unfold Q3j
 refine Ret.bind (Z04 (h.le (by omega)) [3, 2, 4, 1] (by simp) (by simp)) (fun a ha => ?_)
 have hr1 : ROk a.2 199 := ROk.nx (c := 1) h ha.2
 have hd4 : 1 ≤ a.1 ∧ a.1 ≤ 4 := by
  have := ha.1
  simp at this
  omega
 refine Ret.bind (W6y hw 3 NN a.2 t a.1 ht (by omega) (by omega) (by omega) (by decide) (hr1.le (by decide))) (fun b hb => ?_)
 have hr2 : ROk b.2 80 := ROk.nx (c := cD3 3) (hr1.le (by decide)) hb.2
 refine Ret.bind (W59 4 NN b.2 b.1 0 hb.1 (by decide) (hr2.le (by decide))) (fun c hc => ?_)
 rw [Z5k hw (by decide) t c.1 ht]
 simp only [Option.bind_some]
 have hnx := ((ha.2.trans hb.2).trans hc).le' (show 1 + cD3 3 + cN3 4 ≤ 200 by decide)
 cases hv : Q0z w t c.1 with
 | false => exact .some ⟨X3g w t, hnx⟩
 | true => exact .some ⟨hv, hnx⟩
theorem X9p {w : List Q3} (hw : WW w) {r : Z1} {t : Q2} (ht : t ∈ tys w) (h : ROk r 500) : Ret (Q2e NN r w t) (fun a => Q0z w t a.1.pat = true ∧ Nx r a.2 500) := by
 unfold Q2e
 refine Ret.bind (W4w hw ht (h.le (by omega))) (fun a ha => ?_)
 have hr1 : ROk a.2 300 := ROk.nx (c := 200) h ha.2
 obtain ⟨g1, g2, g3⟩ := Q2l ha.1
 obtain ⟨v1, v2⟩ := Q64 hw 10 NN t a.1 [] ht g1 (by decide) (by simp; omega)
 rw [v1]
 simp only [Option.bind_some, List.nil_append]
 refine Ret.ctl (Z3 (Q2o w 10 t a.1) (fun k s => Nx a.2 s.1 (k * 3)) (fun _ => False) (fun s => Nx a.2 s.1 300) (by simpa using Nx.refl a.2) (fun k y s hy hI => ?_) (fun s hI => hI.le' (by omega))) (fun r hr => hr.elim) (fun s hs => .some ⟨ha.1, (ha.2.trans hs).le' (by omega)⟩)
 have hkl := (List.getElem?_eq_some_iff.1 hy).1
 have hr2 : ROk s.1 3 := ROk.nx (c := k * 3) (hr1.le (by omega)) hI
 refine Ret.ctl (R := fun _ => False) (B := fun (u : Z1 × Int × Int × Int) => Nx a.2 u.1 ((k + 1) * 3)) ?_ (fun r hr => hr.elim) (fun u hu => .some hu)
 refine Ret.ite (fun h => ?_) (fun h => .some (hI.le' (by omega)))
 refine Ret.bind (Q30 (hr2.le (by omega)) (by omega) (by omega)) (fun b hb => ?_)
 have hr3 : ROk b.2 2 := ROk.nx (c := 1) hr2 hb.2.2
 refine Ret.ite (fun h => ?_) (fun h => .some ((hI.trans hb.2.2).le' (by omega)))
 refine Ret.bind (Q30 (hr3.le (by omega)) (by omega) (by omega)) (fun c hc => ?_)
 have hr4 : ROk c.2 1 := ROk.nx (c := 1) hr3 hc.2.2
 refine Ret.bind (Q30 hr4 (by omega) (by omega)) (fun d hd => ?_)
 exact .some ((((hI.trans hb.2.2).trans hc.2.2).trans hd.2.2).le' (by omega))
theorem Z8o {r : Z1} (h : ROk r 2) (p : Q0) (hp : p.kids.length ≤ 1000) : Ret (Q1m r p) (fun a => a.1.kids.length ≤ p.kids.length + 1 ∧ Nx r a.2 2) := by
 unfold Q1m
 rw [W9 (by simp [Q8]; omega)]
 simp only [Option.bind_some, List.nil_append]
 refine Ret.ctl (R := fun _ => False) (B := fun (s : Z1 × Int × Int × Int × Int × (List Q0)) => Nx r s.1 2 ∧ s.2.2.2.2.2.length ≤ p.kids.length + 1) ?_ (fun r hr => hr.elim) (fun s hs => .some ⟨hs.2, hs.1⟩)
 refine Ret.bind (Q30 (h.le (by omega)) (by omega) (by omega)) (fun a ha => ?_)
 have hr1 : ROk a.2 1 := ROk.nx (c := 1) h ha.2.2
 refine Ret.ite (fun _ => Ret.bind (Z04 hr1 _ (by simp) (by simp)) (fun b hb => .some ⟨(ha.2.2.trans hb.2), by simp⟩)) (fun _ => ?_)
 refine Ret.ite (fun _ => Ret.bind (Z04 hr1 _ (by simp) (by simp)) (fun b hb => .some ⟨(ha.2.2.trans hb.2), by simp⟩)) (fun _ => ?_)
 refine Ret.ite (fun _ => Ret.bind (Z04 hr1 _ (by simp) (by simp)) (fun b hb => .some ⟨(ha.2.2.trans hb.2), by simp⟩)) (fun _ => ?_)
 refine Ret.ite (fun _ => ?_) (fun _ => ?_)
 ·rw [W9 (by simp [Q8]; omega)]
  exact .some ⟨ha.2.2.le' (by omega), by simp⟩
 refine Ret.ite (fun _ => ?_) (fun _ => ?_)
 ·refine Ret.ite (fun c => ?_) (fun _ => .some ⟨ha.2.2.le' (by omega), by simp⟩)
  rw [X3] at c
  simp only [lenZ] at c
  obtain ⟨x, hx, hm⟩ := Q4i (xs := p.kids) (i := 0) (by omega) (by omega)
  rw [hx]
  simp only [Option.bind_some]
  have : setI p.kids 0 (Q0.mk 2 0 0 0 0 []) = some (p.kids.set 0 (Q0.mk 2 0 0 0 0 [])) := by
   unfold setI
   rw [if_pos ⟨by omega, by show 0 < p.kids.length; omega⟩]
   rfl
  rw [this]
  exact .some ⟨ha.2.2.le' (by omega), by simp⟩
 refine Ret.ite (fun _ => Ret.bind (Z04 hr1 _ (by simp) (by simp)) (fun b hb => .some ⟨(ha.2.2.trans hb.2), by simp⟩)) (fun _ => ?_)
 exact .some ⟨ha.2.2.le' (by omega), by simp⟩
theorem X8b {r : Z1} (h : ROk r 10) (l : List Q4) (hl : l.length ≤ 8) (hk : ∀ c ∈ l, c.pat.kids.length ≤ 100) : Ret (Q2d NN r l) (fun a => a.1.length ≤ 9 ∧ Nx r a.2 10) := by
 unfold Q2d
 rw [W9 (by simp [Q8]; omega)]
 simp only [Option.bind_some, List.nil_append]
 refine Ret.ctl (R := fun _ => False) (B := fun (s : Z1 × (List Q4)) => Nx r s.1 10 ∧ s.2.length ≤ 9) ?_ (fun r hr => hr.elim) (fun s hs => .some ⟨hs.2, hs.1⟩)
 refine Ret.bind (Q30 (h.le (by omega)) (by omega) (by omega)) (fun a ha => ?_)
 have hr1 : ROk a.2 9 := ROk.nx (c := 1) h ha.2.2
 have hset : ∀ c : Q4, 0 < l.length → setI l 0 c = some (l.set 0 c) := fun c h0 => by
  unfold setI
  rw [if_pos ⟨by omega, by show 0 < l.length; omega⟩]
  rfl
 have pass : Ret (some (Ctl.brk (ρ := List Q4 × Z1) (a.2, l))) (CtlQ (fun _ => False) (fun (s : Z1 × (List Q4)) => Nx r s.1 10 ∧ s.2.length ≤ 9)) := .some ⟨ha.2.2.le' (by omega), by simp only; omega⟩
 refine Ret.ite (fun _ => ?_) (fun _ => ?_)
 ·refine Ret.ite (fun c => ?_) (fun _ => pass)
  rw [X3] at c
  simp only [lenZ] at c
  refine Ret.bind (Z04 (hr1.le (by omega)) _ (by simp) (by simp)) (fun b hb => ?_)
  have hr2 : ROk b.2 8 := ROk.nx (c := 1) hr1 hb.2
  refine Ret.bind (Z04 (hr2.le (by omega)) _ (by simp) (by simp)) (fun d hd => ?_)
  have hr3 : ROk d.2 7 := ROk.nx (c := 1) hr2 hd.2
  refine Ret.bind (Z04 (hr3.le (by omega)) _ (by simp) (by simp)) (fun e he => ?_)
  obtain ⟨x, hx, hm⟩ := Q4i (xs := l) (i := 0) (by omega) (by omega)
  rw [hx]
  simp only [Option.bind_some]
  rw [hset _ (by omega)]
  exact .some ⟨(((ha.2.2.trans hb.2).trans hd.2).trans he.2).le' (by omega), by simp; omega⟩
 refine Ret.ite (fun _ => ?_) (fun _ => ?_)
 ·refine Ret.ite (fun c => ?_) (fun _ => pass)
  rw [X3] at c
  simp only [lenZ] at c
  obtain ⟨x, hx, hm⟩ := Q4i (xs := l) (i := 0) (by omega) (by omega)
  have hxk := hk x hm
  rw [hx]
  simp only [Option.bind_some]
  refine Ret.bind (Z8o (hr1.le (by omega)) x.pat (by omega)) (fun b hb => ?_)
  have hr2 : ROk b.2 7 := ROk.nx (c := 2) hr1 hb.2
  refine Ret.bind (Z8o (hr2.le (by omega)) b.1 (by have := hb.1; omega)) (fun d hd => ?_)
  rw [hset _ (by omega)]
  exact .some ⟨((ha.2.2.trans hb.2).trans hd.2).le' (by omega), by simp; omega⟩
 refine Ret.ite (fun _ => ?_) (fun _ => pass)
 refine Ret.ctl (Q5c (fun (s : List Q4) => s.length ≤ 9) (fun s => 9 - s.length) (fun _ => False) (fun s => s.length ≤ 9) (by omega) (fun s hI => ?_) NN (by show 9 - l.length < 30000000; omega)) (fun r hr => hr.elim) (fun s hs => .some ⟨ha.2.2.le' (by omega), hs⟩)
 refine Ret.ite (fun c => ?_) (fun _ => .some hI)
 rw [Q24] at c
 simp only [lenZ] at c
 rw [W9 (by simp [Q8]; omega)]
 exact .some ⟨by simp; omega, by simp; omega⟩
theorem X80 {w : List Q3} (hw : WW w) {t : Q2} (ht : t ∈ tys w) {p : Q0} (h : Q0z w t p = true) : p.kids.length ≤ 3 := by
 obtain ⟨ho, hl⟩ := Q4o (Q3v (Q2l h).1)
 rw [hl]
 exact W1x (hw.ty t ht) ho
end Go.Proofs.YtnackipaoepmfaaGreat
namespace Go.Proofs.YtnackipaoepmfaaGreat
open Go Go.RowKit
def Z4y : Nat → Q5 → Prop
 | 0, _ => False
 | d + 1, v => v.kids.length ≤ 3 ∧ ∀ x ∈ v.kids, Z4y d x
theorem Z3i {w : List Q3} (hw : WW w) : ∀ (d : Nat) (t : Q2) (v : Q5), t ∈ tys w → Q0y w d t v → Z4y d v := by
 intro d
 induction d with
 | zero => intro t v _ h; exact h
 | succ d ih =>
  intro t v ht h
  have hT := hw.ty t ht
  simp only [Q0y] at h
  split at h
  ·obtain ⟨_, _, _, h4⟩ := h
   exact ⟨by rw [h4]; simp, fun x hx => by rw [h4] at hx; cases hx⟩
  ·obtain ⟨_, h2, h3, h4⟩ := h
   have hal := hT.al _ h2
   refine ⟨by omega, fun x hx => ?_⟩
   obtain ⟨j, hj⟩ := List.mem_iff_getElem?.1 hx
   have hjl := (List.getElem?_eq_some_iff.1 hj).1
   have ha : (Z6 w t v.ctor)[j]? = some ((Z6 w t v.ctor)[j]'(by omega)) := by simp
   exact ih _ x (hT.at_ _ h2 _ (List.mem_of_getElem? ha)) (h4 j _ x ha hj)
theorem Q5.ext' {a b : Q5} (h1 : a.ctor = b.ctor) (h2 : a.n = b.n) (h3 : a.kids = b.kids) : a = b := by
 cases a; cases b; simp_all
theorem Z5w : ∀ (d n : Nat) (v : Q5), Z4y d v → d ≤ n → Q1o n v = some v := by
 intro d
 induction d with
 | zero => intro n v h; exact h.elim
 | succ d ih =>
  intro n v h hn
  obtain ⟨n, rfl⟩ : ∃ k, n = k + 1 := ⟨n - 1, by omega⟩
  obtain ⟨h1, h2⟩ := h
  have hr : Ret (Q1o (n + 1) v) (fun r => r = v) := by
   unfold Q1o
   refine Ret.ctl (Z3 v.kids (fun k s => s = v.kids.take k) (fun _ => False) (fun s => s = v.kids) (by simp) (fun k q s hq hI => ?_) (fun s hI => ?_)) (fun r hr => hr.elim) (fun s hs => .some (Q5.ext' rfl rfl hs))
   ·rw [ih n q (h2 q (List.mem_of_getElem? hq)) (by omega)]
    simp only [Option.bind_some]
    rw [W9 (by simp only [Q8, List.length_cons, List.length_nil]; rw [hI, List.length_take]; omega)]
    exact .some (by rw [hI, List.take_add_one, hq]; rfl)
   ·rw [hI, List.take_length]
  obtain ⟨r, e, rfl⟩ := hr
  exact e
theorem X5r (a : List Q5) (f : Q5 → Q5 → Option Bool) (hf : ∀ x ∈ a, f x x = some true) : Q06 a a f = some true := by
 have hr : Ret (Q06 a a f) (fun r => r = true) := by
  unfold Q06
  rw [if_neg (by simp [ieq])]
  refine Ret.ctl (Z3 a (fun _ _ => True) (fun _ => False) (fun _ => True) trivial (fun k x s hx _ => ?_) (fun _ _ => trivial)) (fun r hr => hr.elim) (fun s _ => .some rfl)
  rw [Q1u hx]
  simp only [Option.bind_some]
  rw [hf x (List.mem_of_getElem? hx)]
  exact .some trivial
 obtain ⟨_, e, rfl⟩ := hr
 exact e
theorem Z7q : ∀ (d n : Nat) (v : Q5), Z4y d v → d ≤ n → Q2m n v v = some true := by
 intro d
 induction d with
 | zero => intro n v h; exact h.elim
 | succ d ih =>
  intro n v h hn
  obtain ⟨n, rfl⟩ : ∃ k, n = k + 1 := ⟨n - 1, by omega⟩
  unfold Q2m
  rw [if_pos (by simp [ieq]), if_pos (by simp [ieq]), X5r _ _ fun x hx => ih n x (h.2 x hx) (by omega)]
  rfl
def DB (l : List W4) : Prop := ∀ b ∈ l, Z4y 10 b.value
theorem Z4c {l : List W4} (h : DB l) : Q41 NN l l = some true := by
 have hr : Ret (Q41 NN l l) (fun r => r = true) := by
  unfold Q41
  rw [if_neg (by simp [ieq])]
  refine Ret.ctl (Z3 l (fun _ _ => True) (fun _ => False) (fun _ => True) trivial (fun k x s hx _ => ?_) (fun _ _ => trivial)) (fun r hr => hr.elim) (fun s _ => .some rfl)
  rw [Q1u hx]
  simp only [Option.bind_some]
  rw [if_neg (by simp [ieq]), Z7q 10 NN x.value (h x (List.mem_of_getElem? hx)) (by decide)]
  exact .some trivial
 obtain ⟨_, e, rfl⟩ := hr
 exact e
theorem X48 {α : Type} {xs : List α} {i : Int} {x : α} (h0 : 0 ≤ i) (h : i < xs.length) : setI xs i x = some (xs.set i.toNat x) := by
 unfold setI
 rw [if_pos ⟨h0, by omega⟩]
theorem V4v : (List.range 13).all (fun k => (Q5x (wcv .u64 (lenZ k))).isSome) = true := by kernel_rfl
theorem Z8t : ∀ (d : Nat) (p : Q0) (e : Nat) (v : Q5) (l : List W4), Z4y e v → W7 d p v = some l → ∀ b ∈ l, ∃ e', e' ≤ e ∧ Z4y e' b.value := by
 intro d
 induction d with
 | zero => intro p e v l _ h; cases h
 | succ d ih =>
  intro p e v l hv hm b hb
  rw [W7] at hm
  split at hm
  ·cases hm; cases hb
  split at hm
  ·cases hm
   simp only [List.mem_cons, List.not_mem_nil, or_false] at hb
   subst hb
   exact ⟨e, Nat.le_refl _, hv⟩
  split at hm
  ·split at hm
   ·cases hm; cases hb
   ·cases hm
  split at hm
  ·split at hm
   ·split at hm
    ·rename_i l' hl'
     cases hm
     exact ih _ e v _ hv hl' b hb
    ·exact ih _ e v _ hv hm b hb
   ·cases hm
  split at hm
  ·split at hm
   ·rename_i a _
    cases ha : W7 d a v with
    | none => rw [ha] at hm; cases hm
    | some l' =>
     rw [ha] at hm
     cases hm
     rcases List.mem_cons.1 hb with h | h
     ·subst h
      exact ⟨e, Nat.le_refl _, hv⟩
     ·exact ih _ e v _ hv ha b h
   ·cases hm
  split at hm
  ·cases e with
   | zero => exact hv.elim
   | succ e =>
    have hk := hv.2
    have gen : ∀ (ps : List Q0) (vs : List Q5) (l : List W4), (∀ x ∈ vs, Z4y e x) → Q46 (W7 d) ps vs = some l → ∀ b ∈ l, ∃ e', e' ≤ e ∧ Z4y e' b.value := by
     intro ps
     induction ps with
     | nil => intro vs l _ h b hb; simp only [Q46] at h; cases h; cases hb
     | cons q ps ihp =>
      intro vs l hvs h b hb
      cases vs with
      | nil => cases h
      | cons u vs =>
       simp only [Q46] at h
       cases hq : W7 d q u with
       | none => rw [hq] at h; cases h
       | some l1 =>
        rw [hq] at h
        simp only at h
        cases hps : Q46 (W7 d) ps vs with
        | none => rw [hps] at h; cases h
        | some l2 =>
         rw [hps] at h
         cases h
         rcases List.mem_append.1 hb with hb | hb
         ·exact ih q e u l1 (hvs u (by simp)) hq b hb
         ·exact ihp vs l2 (fun x hx => hvs x (by simp [hx])) hps b hb
    obtain ⟨e', h1, h2⟩ := gen _ _ _ hk hm b hb
    exact ⟨e', by omega, h2⟩
  ·cases hm
theorem X0c : ∀ (d e : Nat) (v : Q5), d ≤ e → Z4y d v → Z4y e v := by
 intro d
 induction d with
 | zero => intro e v _ h; exact h.elim
 | succ d ih =>
  intro e v he h
  obtain ⟨e, rfl⟩ : ∃ k, e = k + 1 := ⟨e - 1, by omega⟩
  exact ⟨h.1, fun x hx => ih e x (by omega) (h.2 x hx)⟩
theorem Z5y : ∀ (m : Nat) (l : List Int), l.Nodup → (∀ x ∈ l, 0 ≤ x ∧ x < m) → l.length ≤ m := by
 intro m
 induction m with
 | zero =>
  intro l _ h
  cases l with
  | nil => simp
  | cons x l => have := h x (by simp); omega
 | succ m ih =>
  intro l hn h
  have h1 := ih (l.erase (m : Int)) (hn.erase _) (fun x hx => by
   have hx2 := (hn.mem_erase_iff).1 hx
   have := h x hx2.2
   have := hx2.1
   omega)
  have h2 := List.length_erase (a := (m : Int)) (l := l)
  split at h2 <;> omega
theorem W4l {w : List Q3} {t : Q2} {p : Q0} {d : Nat} (g : Q0c w d t p = true) (l : linD w d t p = true) : (Q2o w d t p).length ≤ 6 := by
 have h1 := Q5n d t p g l
 simp only [Q1k, decide_eq_true_eq] at h1
 have := Z5y 6 _ h1 (fun x hx => by
  obtain ⟨y, hy, rfl⟩ := List.mem_map.1 hx
  have := Z3d d t p g y hy
  omega)
 simpa using this
end Go.Proofs.YtnackipaoepmfaaGreat
namespace Go.Proofs.YtnackipaoepmfaaGreat
open Go Go.RowKit
def Q9u (l : List W4) : List W4 := (List.range 6).flatMap fun (v : Nat) => l.filter fun b => decide (b.var = (v : Int))
theorem X47 : ∀ (a b : List W4), a.Pairwise (fun x y => x.var < y.var) → b.Pairwise (fun x y => x.var < y.var) → a.Perm b → a = b := by
 intro a
 induction a with
 | nil => intro b _ _ h; exact h.nil_eq
 | cons x a ih =>
  intro b ha hb h
  cases b with
  | nil => exact absurd h.symm.nil_eq (by simp)
  | cons y b =>
   rw [List.pairwise_cons] at ha hb
   have hx : x ∈ y :: b := h.mem_iff.1 (by simp)
   have hy : y ∈ x :: a := h.mem_iff.2 (by simp)
   have hxy : x = y := by
    rcases List.mem_cons.1 hx with rfl | hx
    ·rfl
    ·rcases List.mem_cons.1 hy with h1 | hy
     ·exact h1.symm
     ·have h1 := hb.1 x hx
      have h2 := ha.1 y hy
      omega
   subst hxy
   rw [ih b ha.2 hb.2 ((List.perm_cons x).1 h)]
theorem Z8f {l : List W4} (h : l.Pairwise (fun x y => x.var ≤ y.var)) (hn : (l.map (·.var)).Nodup) : l.Pairwise (fun x y => x.var < y.var) := by
 rw [List.Nodup, List.pairwise_map] at hn
 refine (h.and hn).imp fun ⟨h1, h2⟩ => ?_
 omega
theorem X1k {l : List W4} (hn : (l.map (·.var)).Nodup) : (Q9u l).Pairwise (fun x y => x.var < y.var) := by
 unfold Q9u
 rw [List.pairwise_flatMap]
 refine ⟨fun v _ => ?_, ?_⟩
 ·have h1 : (l.filter fun b => decide (b.var = (v : Int))).Pairwise (fun x y => x.var ≤ y.var) := by
   rw [List.pairwise_filter]
   refine List.pairwise_of_forall fun x y hx hy => ?_
   simp only [decide_eq_true_eq] at hx hy
   omega
  exact Z8f h1 ((List.filter_sublist.map _).nodup hn)
 ·refine List.Pairwise.imp ?_ (List.pairwise_lt_range (n := 6))
  intro a b hab x hx y hy
  have h1 := (List.mem_filter.1 hx).2
  have h2 := (List.mem_filter.1 hy).2
  simp only [decide_eq_true_eq] at h1 h2
  omega
theorem Z4h {α β : Type} (f g h : α → List β) (e : ∀ v, f v = g v ++ h v) : ∀ L : List α, (L.flatMap f).Perm (L.flatMap g ++ L.flatMap h)
 | [] => by simp
 | v :: L => by
  rw [List.flatMap_cons, List.flatMap_cons, List.flatMap_cons, e v, List.append_assoc, List.append_assoc]
  refine List.Perm.append_left _ ?_
  refine ((Z4h f g h e L).append_left (h v)).trans ?_
  rw [← List.append_assoc, ← List.append_assoc]
  exact List.Perm.append_right _ List.perm_append_comm
theorem Q8b {l : List W4} (hv : ∀ b ∈ l, 0 ≤ b.var ∧ b.var ≤ 5) : (Q9u l).Perm l := by
 induction l with
 | nil => simp [Q9u]
 | cons x l ih =>
  have h1 := ih fun b hb => hv b (by simp [hb])
  obtain ⟨x0, x5⟩ := hv x (by simp)
  have h2 := Z4h (fun (v : Nat) => (x :: l).filter fun b => decide (b.var = (v : Int))) (fun (v : Nat) => if x.var = (v : Int) then [x] else []) (fun (v : Nat) => l.filter fun b => decide (b.var = (v : Int))) (fun v => by
   by_cases hc : x.var = (v : Int)
   ·rw [List.filter_cons, if_pos (by simp [hc]), if_pos hc]; rfl
   ·rw [List.filter_cons, if_neg (by simp [hc]), if_neg hc]; rfl) (List.range 6)
  have hx : ((List.range 6).flatMap fun (v : Nat) => if x.var = (v : Int) then [x] else []) = [x] := by
   have h6 : x.var = 0 ∨ x.var = 1 ∨ x.var = 2 ∨ x.var = 3 ∨ x.var = 4 ∨ x.var = 5 := by omega
   rcases h6 with h | h | h | h | h | h <;> simp [h, List.range, List.range.loop]
  rw [hx] at h2
  exact h2.trans (List.Perm.cons _ h1)
theorem X5v (a b : Int) : Q3e a b = some (if a < b then -1 else if b < a then 1 else 0) := by
 unfold Q3e Q4g
 have e1 : (!ieq a a) = false := by simp [ieq]
 have e2 : (!ieq b b) = false := by simp [ieq]
 simp only [Option.bind_some, e1, e2, Bool.false_eq_true, if_false]
 by_cases h : a < b
 ·have e : ilt a b = true := by rw [X3]; exact h
  simp only [e, if_true, if_pos h]
 ·have e : ilt a b = false := by rw [J0]; omega
  simp only [e, Bool.false_eq_true, if_false, if_neg h]
  by_cases h2 : b < a
  ·have e : ilt b a = true := by rw [X3]; exact h2
   simp only [e, if_true, if_pos h2]
  ·have e : ilt b a = false := by rw [J0]; omega
   simp only [e, Bool.false_eq_true, if_false, if_neg h2]
theorem X4o (a b : W4) : Q1a a b = some (if a.var < b.var then -1 else if b.var < a.var then 1 else 0) := by
 unfold Q1a
 rw [X5v]
 rfl
def OrdV (l : List W4) (i j : Nat) : Prop := ∀ a b x y, a < b → b ≤ i → b ≠ j → l[a]? = some x → l[b]? = some y → x.var ≤ y.var
theorem X8i {n : Nat} (hn : 30 ≤ n) (l : List W4) (hl : l.length ≤ 12) :
  Ret (Y1 n l 0 (lenZ l.length) (fun a b => Q1a a b)) (fun r => r.Perm l ∧ r.Pairwise (fun x y => x.var ≤ y.var)) := by
 unfold Y1
 have z1 : wadd .i64 0 1 = 1 := rfl
 rw [z1]
 refine Ret.ctl (Q5c (fun s : List W4 × Int => s.1.Perm l ∧ 1 ≤ s.2 ∧ s.2 ≤ 13 ∧ ∀ a b x y, a < b → b < s.2.toNat → s.1[a]? = some x → s.1[b]? = some y → x.var ≤ y.var) (fun s => (14 - s.2).toNat) (fun _ => False) (fun s => s.1.Perm l ∧ s.1.Pairwise (fun x y => x.var ≤ y.var)) ⟨.rfl, by simp, by simp, fun a b x y h1 h2 => by simp at h2; omega⟩ (fun s hI => ?_) n (by simp; omega)) (fun r hr => hr.elim) (fun s hs => .some hs)
 obtain ⟨i1, i3, i4, i5⟩ := hI
 refine Ret.ite (fun hlt => ?_) (fun hge => ?_)
 ·rw [X3] at hlt
  simp only [lenZ] at hlt
  refine Ret.ctl (Q5c (fun u : List W4 × Int => u.1.Perm l ∧ 0 ≤ u.2 ∧ u.2 ≤ s.2 ∧ OrdV u.1 s.2.toNat u.2.toNat) (fun u => u.2.toNat) (fun _ => False) (fun u => u.1.Perm l ∧ ∀ a b x y, a < b → b ≤ s.2.toNat → u.1[a]? = some x → u.1[b]? = some y → x.var ≤ y.var) ⟨i1, by omega, Int.le_refl _, fun a b x y h1 h2 h3 => i5 a b x y h1 (by omega)⟩ (fun u hJ => ?_) n (by omega)) (fun r hr => hr.elim) (fun u hu => ?_)
  ·obtain ⟨j1, j3, j4, j5⟩ := hJ
   have hlen := j1.length_eq
   refine Ret.ite (fun hp => ?_) (fun hp => ?_)
   ·rw [X3] at hp
    have hs : wsub .i64 u.2 1 = u.2 - 1 := Q4v (by omega) (by omega)
    rw [hs]
    have ex : idx u.1 u.2 = some (u.1[u.2.toNat]'(by omega)) := W22 j3 (List.getElem?_eq_getElem (by omega))
    have ey : idx u.1 (u.2 - 1) = some (u.1[(u.2 - 1).toNat]'(by omega)) := W22 (by omega) (List.getElem?_eq_getElem (by omega))
    have gx : u.1[u.2.toNat]? = some (u.1[u.2.toNat]'(by omega)) := List.getElem?_eq_getElem (by omega)
    have gy : u.1[u.2.toNat - 1]? = some (u.1[(u.2 - 1).toNat]'(by omega)) := by
     rw [show u.2.toNat - 1 = (u.2 - 1).toNat by omega]
     exact List.getElem?_eq_getElem (by omega)
    have hperm := (List.set_set_perm (as := u.1) (i := u.2.toNat) (j := (u.2 - 1).toNat) (by omega) (by omega)).trans j1
    generalize u.1[u.2.toNat]'(by omega) = x at *
    generalize u.1[(u.2 - 1).toNat]'(by omega) = y at *
    rw [ex, ey]
    simp only [Option.bind_some]
    rw [X4o]
    simp only [Option.bind_some]
    by_cases hxy : x.var < y.var
    ·rw [if_pos hxy]
     have e : ilt (-1) 0 = true := rfl
     simp only [e, if_true]
     rw [X48 j3 (by omega)]
     simp only [Option.bind_some]
     obtain ⟨z, ez, _⟩ := Q4i (xs := u.1.set u.2.toNat y) (i := u.2 - 1) (by omega) (by simp; omega)
     rw [ez]
     simp only [Option.bind_some]
     rw [X48 (by omega) (by simp; omega)]
     refine .some ⟨⟨hperm, by simp; omega, by simp; omega, ?_⟩, by simp; omega⟩
     simp only
     have hget : ∀ (m : Nat) (v : W4), ((u.1.set u.2.toNat y).set (u.2 - 1).toNat x)[m]? = some v → (m = u.2.toNat - 1 ∧ v = x) ∨ (m = u.2.toNat ∧ v = y) ∨ (m ≠ u.2.toNat - 1 ∧ m ≠ u.2.toNat ∧ u.1[m]? = some v) := fun m v hv => by
      rw [List.getElem?_set] at hv
      split at hv
      ·split at hv
       ·cases hv; exact .inl ⟨by omega, rfl⟩
       ·cases hv
      ·rw [List.getElem?_set] at hv
       split at hv
       ·split at hv
        ·cases hv; exact .inr (.inl ⟨by omega, rfl⟩)
        ·cases hv
       ·exact .inr (.inr ⟨by omega, by omega, hv⟩)
     intro a b p q hab hbi hbj hp' hq'
     rcases hget a p hp' with ⟨ha, rfl⟩ | ⟨ha, rfl⟩ | ⟨ha, ha', hpa⟩
     ·rcases hget b q hq' with ⟨hb, rfl⟩ | ⟨hb, rfl⟩ | ⟨hb, hb', hqb⟩
      ·omega
      ·omega
      ·exact j5 u.2.toNat b _ _ (by omega) hbi hb' gx hqb
     ·rcases hget b q hq' with ⟨hb, rfl⟩ | ⟨hb, rfl⟩ | ⟨hb, hb', hqb⟩
      ·omega
      ·omega
      ·exact j5 (u.2.toNat - 1) b _ _ (by omega) hbi hb' gy hqb
     ·rcases hget b q hq' with ⟨hb, rfl⟩ | ⟨hb, rfl⟩ | ⟨hb, hb', hqb⟩
      ·exact absurd hb (by omega)
      ·exact j5 a (u.2.toNat - 1) _ _ (by omega) (by omega) (by omega) hpa gy
      ·exact j5 a b _ _ hab hbi hb' hpa hqb
    ·rw [if_neg hxy]
     have e : ilt (if y.var < x.var then 1 else 0) 0 = false := by split <;> rfl
     simp only [e, Bool.false_eq_true, if_false]
     refine .some ⟨j1, fun a b p q hab hbi hp' hq' => ?_⟩
     by_cases hbj : b = u.2.toNat
     ·subst hbj
      rw [gx] at hq'
      cases hq'
      by_cases haj : a = u.2.toNat - 1
      ·subst haj
       rw [gy] at hp'
       cases hp'
       omega
      ·have := j5 a (u.2.toNat - 1) p y (by omega) (by omega) (by omega) hp' gy
       omega
     ·exact j5 a b p q hab hbi hbj hp' hq'
   ·rw [J0] at hp
    refine .some ⟨j1, fun a b p q hab hbi hp' hq' => j5 a b p q hab hbi (by omega) hp' hq'⟩
  ·obtain ⟨u1, u2⟩ := hu
   have hw : wadd .i64 s.2 1 = s.2 + 1 := Q1c (by omega) (by omega)
   refine .some ⟨⟨u1, by simp only [hw]; omega, by simp only [hw]; omega, fun a b x y h1 h2 => u2 a b x y h1 (by simp only [hw] at h2; omega)⟩, by simp only [hw]; omega⟩
 ·rw [J0] at hge
  simp only [lenZ] at hge
  refine .some ⟨i1, ?_⟩
  rw [List.pairwise_iff_getElem]
  intro a b ha hb hab
  have hlen := i1.length_eq
  have hb' : b < s.1.length := hb
  exact i5 a b _ _ hab (by omega) (List.getElem?_eq_getElem ha) (List.getElem?_eq_getElem hb)
theorem W4v {n : Nat} (hn : 40 ≤ n) {l : List W4} (hl : l.length ≤ 12) (hd : (l.map (·.var)).Nodup) (hv : ∀ b ∈ l, 0 ≤ b.var ∧ b.var ≤ 5) :
  Q0e n l (fun a b => Q1a a b) = some (Q9u l) := by
 suffices hs : Ret (Q0e n l (fun a b => Q1a a b)) (fun r => r = Q9u l) by
  obtain ⟨a, e, rfl⟩ := hs
  exact e
 unfold Q0e
 obtain ⟨b, hb⟩ := Option.isSome_iff_exists.1 (List.all_eq_true.1 V4v l.length (List.mem_range.2 (by omega)))
 rw [hb]
 simp only [Option.bind_some]
 have fin : ∀ r : List W4, r.Perm l → r.Pairwise (fun x y => x.var ≤ y.var) → r = Q9u l := fun r h1 h2 =>
  X47 r (Q9u l) (Z8f h2 ((h1.map _).nodup_iff.2 hd)) (X1k hd) (h1.trans (Q8b hv).symm)
 obtain ⟨n, rfl⟩ : ∃ k, n = k + 1 := ⟨n - 1, by omega⟩
 refine Ret.bind (P := fun r => r.Perm l ∧ r.Pairwise (fun x y => x.var ≤ y.var)) ?_ (fun r hr => ?_)
 ·unfold Q0w
  refine Ret.ctl (Q5c (fun _ => True) (fun _ => 0) (fun r : List W4 => r.Perm l ∧ r.Pairwise (fun x y => x.var ≤ y.var)) (fun _ => False) trivial (fun s _ => ?_) n (by omega)) (fun r hr => .some hr) (fun s hs => hs.elim)
  have h0 : wsub .i64 (lenZ l.length) 0 = lenZ l.length := by rw [Q4v] <;> simp only [lenZ] <;> omega
  rw [if_pos (by rw [Q24, h0]; simp only [lenZ]; omega)]
  refine Ret.bind (X8i (by omega) l hl) (fun r hr => ?_)
  rw [X39 (by simp [hr.1.length_eq])]
  exact .some hr
 ·rw [X39 (by simp [hr.1.length_eq])]
  exact .some (fin r hr.1 hr.2)
theorem X6f : ∀ {a b : List Int}, a.Nodup → (∀ x ∈ a, x ∈ b) → a.length = b.length → a.Perm b
 | [], b, _, _, h => by have : b = [] := List.eq_nil_of_length_eq_zero (by simpa using h.symm); rw [this]
 | x :: a, b, hn, hs, h => by
  have hx := hs x (by simp)
  have hn' := List.nodup_cons.1 hn
  have hl := List.length_erase_of_mem hx
  refine (List.Perm.cons x (X6f hn'.2 (fun y hy => ?_) (by simp at h; omega))).trans (List.perm_cons_erase hx).symm
  have hne : y ≠ x := fun e => hn'.1 (e ▸ hy)
  exact (List.mem_erase_of_ne hne).2 (hs y (by simp [hy]))
theorem X4k {a b : List Q7} (ha : Q1k a = true) (h : Q8j a b = true) : (a.map (·.var)).Perm (b.map (·.var)) := by
 simp only [Q8j, Bool.and_eq_true, decide_eq_true_eq, List.all_eq_true] at h
 have hn : (a.map (·.var)).Nodup := by simpa [Q1k] using ha
 refine X6f hn (fun x hx => ?_) (by simp [h.1])
 obtain ⟨v, hv, rfl⟩ := List.mem_map.1 hx
 exact List.mem_map.2 ⟨v, h.2 v hv, rfl⟩
theorem X8h {w : List Q3} : ∀ (d : Nat) (t : Q2) (p : Q0), Q0c w d t p = true → linD w d t p = true → ∀ v l, W7 d p v = some l → (l.map (·.var)).Perm ((Q2o w d t p).map (·.var)) := by
 intro d
 induction d with
 | zero => intro t p h; cases h
 | succ d ih =>
  intro t p hg hlin v l hm
  obtain ⟨ho, hl⟩ := Q4o (Q3v hg)
  simp only [linD, Bool.and_eq_true, List.all_eq_true] at hlin
  rw [Q2o]
  rw [W7] at hm
  have hnil : p.op ≠ 4 → p.op ≠ 5 → p.op ≠ 6 → Y5 w t p = [] := fun h4 h5 h6 => by simp [Y5, h4, h5, h6]
  by_cases h1 : p.op = 1
  ·rw [if_pos h1] at hm; cases hm
   simp [ownV, h1, hnil]
  rw [if_neg h1] at hm
  by_cases h2 : p.op = 2
  ·rw [if_pos h2] at hm; cases hm
   simp [ownV, h2, hnil]
  rw [if_neg h2] at hm
  by_cases h3 : p.op = 3
  ·rw [if_pos h3] at hm
   split at hm
   ·cases hm
    simp [ownV, h3, hnil]
   ·cases hm
  rw [if_neg h3] at hm
  by_cases h5 : p.op = 5
  ·rw [if_pos h5] at hm
   obtain ⟨a, b, hkids, hkt⟩ := kid0 h5 hl
   have ga := Q2y hg (k := 0) (by rw [hkt]; rfl) (by rw [hkids]; rfl)
   have gb := Q2y hg (k := 1) (by rw [hkt]; rfl) (by rw [hkids]; rfl)
   have g0 := hlin.1 (t, a) (by rw [hkids, hkt]; simp)
   have g1 := hlin.1 (t, b) (by rw [hkids, hkt]; simp)
   have hal := hlin.2
   rw [if_pos h5] at hal
   have k0 : kv w d t p 0 = Q2o w d t a := by simp [kv, hkids, hkt]
   have k1 : kv w d t p 1 = Q2o w d t b := by simp [kv, hkids, hkt]
   rw [k0, k1] at hal
   have hv : ownV t p = [] := by simp [ownV, h5]
   rw [hv, hkids, hkt, if_pos h5]
   simp only [List.zip_cons_cons, List.zip_nil_right, List.take_succ_cons, List.take_zero, List.flatMap_cons, List.flatMap_nil, List.append_nil, List.nil_append]
   rw [hkids] at hm
   simp only at hm
   split at hm
   ·rename_i l' hl'
    cases hm
    exact ih t a ga g0 v _ hl'
   ·exact (ih t b gb g1 v _ hm).trans (X4k (Q5n d t a ga g0) hal).symm
  rw [if_neg h5] at hm
  rw [if_neg h5, List.take_of_length_le (by rw [List.length_zip]; omega)]
  by_cases h6 : p.op = 6
  ·rw [if_pos h6] at hm
   obtain ⟨a, hkids, hk2⟩ := W1y h6 hl
   have ga := Q2y hg (k := 0) (by rw [hk2]; rfl) (by rw [hkids]; rfl)
   have g0 := hlin.1 (t, a) (by rw [hkids, hk2]; simp)
   rw [hkids] at hm
   simp only at hm
   cases ha : W7 d a v with
   | none => rw [ha] at hm; cases hm
   | some l' =>
    rw [ha] at hm
    cases hm
    have := ih t a ga g0 v l' ha
    rw [hkids, hk2]
    simpa [ownV, h6] using this
  rw [if_neg h6] at hm
  have hv : ownV t p = [] := by simp [ownV, h2, h6]
  rw [hv, List.nil_append]
  split at hm
  ·have gen : ∀ (ts : List Q2) (ps : List Q0) (vs : List Q5) (l : List W4), ts.length = ps.length → (∀ x ∈ ts.zip ps, ∀ v l, W7 d x.2 v = some l → (l.map (·.var)).Perm ((Q2o w d x.1 x.2).map (·.var))) → Q46 (W7 d) ps vs = some l → (l.map (·.var)).Perm (((ts.zip ps).flatMap fun x => Q2o w d x.1 x.2).map (·.var)) := by
    intro ts ps
    induction ps generalizing ts with
    | nil => intro vs l _ _ h; simp only [Q46] at h; cases h; simp
    | cons q ps ihp =>
     intro vs l hl hx h
     cases ts with
     | nil => simp at hl
     | cons a ts =>
      cases vs with
      | nil => cases h
      | cons u vs =>
       simp only [Q46] at h
       cases hq : W7 d q u with
       | none => rw [hq] at h; cases h
       | some l1 =>
        rw [hq] at h
        simp only at h
        cases hps : Q46 (W7 d) ps vs with
        | none => rw [hps] at h; cases h
        | some l2 =>
         rw [hps] at h
         cases h
         have e1 := hx (a, q) (by simp) u l1 hq
         have e2 := ihp ts vs l2 (by simpa using hl) (fun x hxx => hx x (by simp [hxx])) hps
         simp only [List.zip_cons_cons, List.flatMap_cons, List.map_append]
         exact e1.append e2
   refine gen _ _ _ _ hl.symm (fun x hx v l h => ?_) hm
   obtain ⟨j, hj⟩ := List.mem_iff_getElem?.1 hx
   obtain ⟨e1, e2⟩ := List.getElem?_zip_eq_some.1 hj
   exact ih _ _ (Q2y hg e1 e2) (hlin.1 x hx) v l h
  ·cases hm
structure W3k (l : List W4) : Prop where
 nd : (l.map (·.var)).Nodup
 rg : ∀ b ∈ l, 0 ≤ b.var ∧ b.var ≤ 5
 ln : l.length ≤ 6
theorem Z1r {w : List Q3} {d : Nat} {t : Q2} {p : Q0} (g : Q0c w d t p = true) (l : linD w d t p = true) {v : Q5} {r : List W4} (h : W7 d p v = some r) : W3k r := by
 have hp := X8h d t p g l v r h
 have hd := Q5n d t p g l
 simp only [Q1k, decide_eq_true_eq] at hd
 refine ⟨hp.nodup_iff.2 hd, fun b hb => ?_, ?_⟩
 ·obtain ⟨y, hy, e⟩ := List.mem_map.1 (hp.mem_iff.1 (List.mem_map_of_mem hb))
  have := Z3d d t p g y hy
  omega
 ·have h1 := hp.length_eq
  have h2 := W4l g l
  simp only [List.length_map] at h1
  omega
def Q62 (g : Q3f) (l : List W4) : Bool := decide (g.op = 0) || match l.find? fun b => decide (b.var = g.var) with
 | none => false
 | some b => decide (b.value.ctor = -1) && ((decide (g.op = 1) && decide (b.value.n < g.n)) || (decide (g.op = 2) && decide (b.value.n = g.n)))
theorem W2q {a b : List W4} (hn : (a.map (·.var)).Nodup) (h : a.Perm b) (v : Int) : a.find? (fun x => decide (x.var = v)) = b.find? (fun x => decide (x.var = v)) := by
 induction h with
 | nil => rfl
 | cons x h ih =>
  rw [List.find?_cons, List.find?_cons]
  split
  ·rfl
  ·exact ih (List.nodup_cons.1 (by simpa using hn)).2
 | swap x y l =>
  simp only [List.map_cons, List.nodup_cons, List.mem_cons, not_or] at hn
  simp only [List.find?_cons]
  by_cases h1 : x.var = v
  ·have h2 : ¬ y.var = v := fun e => hn.1.1 (by omega)
   simp [h1, h2]
  ·simp [h1]
 | trans h1 h2 ih1 ih2 => rw [ih1 hn, ih2 ((h1.map _).nodup_iff.1 hn)]
theorem X53 {a b : List W4} (hn : (a.map (·.var)).Nodup) (h : a.Perm b) (g : Q3f) : Q62 g a = Q62 g b := by
 unfold Q62
 rw [W2q hn h]
theorem X52 {l : List W4} (h : W3k l) (g : Q3f) : Q62 g (Q9u l) = Q62 g l := (X53 h.nd (Q8b h.rg).symm g).symm
def runD (v : Q5) : Nat → List Q4 → Option (Nat × List W4)
 | _, [] => none
 | k, c :: cs => match W7 10 c.pat v with
  | none => runD v (k + 1) cs
  | some l => if Q62 c.guard l = true then some (k, Q9u l) else runD v (k + 1) cs
def runR : Option (Nat × List W4) → Int × List W4
 | none => (-1, [])
 | some x => ((x.1 : Int), x.2)
end Go.Proofs.YtnackipaoepmfaaGreat
namespace Go.Proofs.YtnackipaoepmfaaGreat
open Go Go.RowKit
theorem W8s {l : List W4} (hn : (l.map (·.var)).Nodup) {x y : W4} (hx : x ∈ l) (hy : y ∈ l) (h : x.var = y.var) : x = y := by
 induction l with
 | nil => cases hx
 | cons a l ih =>
  simp only [List.map_cons, List.nodup_cons, List.mem_map, not_exists, not_and] at hn
  rcases List.mem_cons.1 hx with h1 | h1
  ·rcases List.mem_cons.1 hy with h2 | h2
   ·rw [h1, h2]
   ·exact absurd (by rw [← h1]; exact h.symm) (hn.1 y h2)
  ·rcases List.mem_cons.1 hy with h2 | h2
   ·exact absurd (by rw [← h2]; exact h) (hn.1 x h1)
   ·exact ih hn.2 h1 h2
theorem W6p {l : List W4} (hn : (l.map (·.var)).Nodup) {x : W4} {v : Int} (hx : x ∈ l) (h : x.var = v) : l.find? (fun b => decide (b.var = v)) = some x := by
 cases hf : l.find? (fun b => decide (b.var = v)) with
 | none =>
  have := List.find?_eq_none.1 hf x hx
  simp [h] at this
 | some y =>
  have h1 := List.find?_some hf
  have h2 := List.mem_of_find?_eq_some hf
  simp only [decide_eq_true_eq] at h1
  rw [W8s hn h2 hx (by omega)]
theorem X2e (g : Q3f) {l : List W4} (hn : (l.map (·.var)).Nodup) : Q2c g l = some (Q62 g l) := by
 suffices hs : Ret (Q2c g l) (fun r => r = Q62 g l) by
  obtain ⟨a, e, rfl⟩ := hs
  exact e
 unfold Q2c
 refine Ret.ite (fun h0 => .some ?_) (fun h0 => ?_)
 ·rw [W5] at h0
  simp [Q62, h0]
 rw [X9] at h0
 refine Ret.bind (Q71 l (fun a0 => Q3n a0 g) (fun b => ieq b.var g.var) (fun _ _ => rfl)) (fun i hi => ?_)
 rcases hi with ⟨k, x, rfl, hx, hxv⟩ | ⟨rfl, hall⟩
 ·rw [if_neg (by rw [X3]; omega), Q1u hx]
  simp only [Option.bind_some]
  rw [W5] at hxv
  have hG : Q62 g l = (ieq x.value.ctor (-1) && ((ieq g.op 1 && ilt x.value.n g.n) || (ieq g.op 2 && ieq x.value.n g.n))) := by
   unfold Q62
   rw [W6p hn (List.mem_of_getElem? hx) hxv, decide_eq_false h0]
   rfl
  rw [hG]
  generalize ieq x.value.ctor (-1) = b1
  generalize ieq g.op 1 = b2
  generalize ilt x.value.n g.n = b3
  generalize ieq g.op 2 = b4
  generalize ieq x.value.n g.n = b5
  cases b1 <;> cases b2 <;> cases b3 <;> cases b4 <;> cases b5 <;> exact .some rfl
 ·refine .some ?_
  have hf : l.find? (fun b => decide (b.var = g.var)) = none := List.find?_eq_none.2 fun x hx => by
   have := hall x hx
   rw [X9] at this
   simpa using this
  simp [Q62, hf, h0]
def matR : Option (List W4) → List W4 × Bool
 | none => ([], false)
 | some l => (Q9u l, true)
theorem Z7u {w : List Q3} (hw : WW w) {t : Q2} (ht : t ∈ tys w) {p : Q0} (g : Q0c w 10 t p = true) (ln : linD w 10 t p = true) (hc : cntP p ≤ 1000) {e : Nat} {v : Q5} (hv : Q0y w e t v) (he : e ≤ 10) :
  Q43 NN p v = some (matR (W7 10 p v)) := by
 suffices hs : Ret (Q43 NN p v) (fun r => r = matR (W7 10 p v)) by
  obtain ⟨a, e, rfl⟩ := hs
  exact e
 have hdv := X0c e 10 v he (Z3i hw e t v ht hv)
 unfold Q43
 refine Ret.bind (W5f hw 10 NN t p v e ht g hv (by decide) hc) (fun r hr => ?_)
 obtain ⟨_, h2, h3⟩ := hr
 cases hm : W7 10 p v with
 | none =>
  rw [hm] at h2
  simp only [Option.isSome_none] at h2
  rw [h2]
  exact .some rfl
 | some l =>
  rw [hm] at h2
  simp only [Option.isSome_some] at h2
  have h1 := h3 l hm
  have hb := Z1r g ln hm
  rw [h2, h1]
  simp only [Bool.not_true, Bool.false_eq_true, if_false]
  rw [W4v (by decide) (by have := hb.ln; omega) hb.nd hb.rg]
  have hpm := Q8b hb.rg
  simp only [Option.bind_some]
  rw [X39 (by simp [hpm.length_eq])]
  simp only [Option.bind_some]
  have hdb : ∀ b ∈ Q9u l, Z4y 10 b.value := fun b hb' => by
   obtain ⟨e', h1, h2⟩ := Z8t 10 p 10 v l hdv hm b (hpm.mem_iff.1 hb')
   exact X0c _ _ _ h1 h2
  rw [show matR (some l) = (Q9u l, true) from rfl]
  generalize Q9u l = r at *
  refine Ret.ctl (Z3 r (fun _ s => s = r) (fun _ => False) (fun s => s = r) rfl (fun k b s hb hI => ?_) (fun s hI => hI)) (fun r hr => hr.elim) (fun s hs => .some (by rw [hs]))
  subst hI
  have hk := (List.getElem?_eq_some_iff.1 hb).1
  have hy : s[k]? = some s[k] := by simp
  rw [Q1u hy]
  simp only [Option.bind_some]
  rw [Z5w 10 NN _ (hdb _ (List.mem_of_getElem? hy)) (by decide)]
  simp only [Option.bind_some]
  rw [X48 (by omega) (by omega)]
  refine .some ?_
  exact List.set_getElem_self (as := s) (i := k) hk
theorem Z74 {α : Type} {l : List α} {k : Nat} {x : α} (h : l[k]? = some x) : l.drop k = x :: l.drop (k + 1) := by
 obtain ⟨hk, rfl⟩ := List.getElem?_eq_some_iff.1 h
 exact List.drop_eq_getElem_cons hk
theorem X8j {w : List Q3} (hw : WW w) {t : Q2} (ht : t ∈ tys w) {l : List Q4} (hl : ∀ c ∈ l, Q0z w t c.pat = true) {e : Nat} {v : Q5} (hv : Q0y w e t v) (he : e ≤ 10) :
  Q70 NN l v = some (runR (runD v 0 l)) := by
 suffices hs : Ret (Q70 NN l v) (fun r => r = runR (runD v 0 l)) by
  obtain ⟨a, e, rfl⟩ := hs
  exact e
 unfold Q70
 refine Ret.ctl (Z3 l (fun k _ => runD v 0 l = runD v k (l.drop k)) (fun r : Int × List W4 => r = runR (runD v 0 l)) (fun _ => runD v 0 l = none) rfl (fun k c s hc hI => ?_) (fun s hI => by rw [hI, List.drop_length]; rfl)) (fun r hr => .some hr) (fun s hs => .some (by rw [hs]; rfl))
 obtain ⟨g, c1, ln⟩ := Q2l (hl c (List.mem_of_getElem? hc))
 rw [Z74 hc] at hI
 simp only [runD] at hI
 rw [Z7u hw ht g ln (by omega) hv he]
 simp only [Option.bind_some]
 cases hm : W7 10 c.pat v with
 | none =>
  simp only [hm] at hI
  simp only [matR, Bool.false_eq_true, if_false, Option.bind_some]
  exact .some hI
 | some r =>
  simp only [hm] at hI
  have hb := Z1r g ln hm
  have hn : ((Q9u r).map (·.var)).Nodup := ((Q8b hb.rg).map _).nodup_iff.2 hb.nd
  simp only [matR, if_true]
  rw [X2e _ hn, X52 hb]
  simp only [Option.bind_some]
  cases hg : Q62 c.guard r with
  | true =>
   rw [hg] at hI
   simp only [if_true, Option.bind_some] at hI ⊢
   exact .some (by simp only [W4z]; rw [hI]; rfl)
  | false =>
   rw [hg] at hI
   simp only [Bool.false_eq_true, if_false, Option.bind_some] at hI ⊢
   exact .some hI
end Go.Proofs.YtnackipaoepmfaaGreat
namespace Go.Proofs.YtnackipaoepmfaaGreat
open Go Go.RowKit
def cntV : Q5 → Nat
 | ⟨_, _, kids⟩ => 1 + cntVs kids
where cntVs : List Q5 → Nat
 | [] => 0
 | v :: l => cntV v + cntVs l
theorem X0e (v : Q5) : cntV v = 1 + cntV.cntVs v.kids := by cases v; rw [cntV]
theorem Z3w : ∀ (l : List Q5) (k : Nat) (q : Q5), l[k]? = some q → cntV.cntVs (l.take (k + 1)) = cntV.cntVs (l.take k) + cntV q
 | [], k, q, h => by simp at h
 | p :: l, 0, q, h => by simp at h; subst h; simp [cntV.cntVs]
 | p :: l, k + 1, q, h => by
  have := Z3w l k q (by simpa using h)
  simp only [List.take_succ_cons, cntV.cntVs]
  omega
theorem Z36 : ∀ (l : List Q5) (k : Nat), cntV.cntVs (l.take k) ≤ cntV.cntVs l
 | [], k => by simp
 | p :: l, 0 => by simp [cntV.cntVs]
 | p :: l, k + 1 => by
  have := Z36 l k
  simp only [List.take_succ_cons, cntV.cntVs]
  omega
def Q5z (w : List Q3) : Nat → Q2 → Q5 → Bool
 | 0, _, _ => false
 | d + 1, t, v => if t.data = -1 then decide (v.ctor = -1) && (decide (0 ≤ v.n) && (decide (v.n ≤ 9) && decide (v.kids.length = 0)))
  else decide (v.n = 0) && (decide (v.ctor ∈ Z9 w t) && (decide (v.kids.length = (Z6 w t v.ctor).length) && ((Z6 w t v.ctor).zip v.kids).all fun x => Q5z w d x.1 x.2))
theorem Z3j {w : List Q3} : ∀ (d : Nat) (t : Q2) (v : Q5), Q5z w d t v = true ↔ Q0y w d t v := by
 intro d
 induction d with
 | zero => intro t v; simp [Q5z, Q0y]
 | succ d ih =>
  intro t v
  rw [Q5z, Q0y]
  split
  ·simp only [Bool.and_eq_true, decide_eq_true_eq, List.length_eq_zero_iff]
  ·simp only [Bool.and_eq_true, decide_eq_true_eq, List.all_eq_true]
   constructor
   ·rintro ⟨h1, h2, h3, h4⟩
    exact ⟨h1, h2, h3, fun j a x ha hx => (ih a x).1 (h4 (a, x) (List.mem_of_getElem? (Q9p ha hx)))⟩
   ·rintro ⟨h1, h2, h3, h4⟩
    refine ⟨h1, h2, h3, fun x hx => ?_⟩
    obtain ⟨j, hj⟩ := List.mem_iff_getElem?.1 hx
    obtain ⟨e1, e2⟩ := List.getElem?_zip_eq_some.1 hj
    exact (ih _ _).2 (h4 j _ _ e1 e2)
def okV (w : List Q3) (d : Nat) (t : Q2) (v : Q5) (c : Nat) : Bool := Q5z w d t v && decide (c + cntV v ≤ 60)
def Q9q (w : List Q3) (t : Q2) (v : Q5) : Bool := Q5z w 10 t v && decide (cntV v ≤ 60)
theorem X41 {w : List Q3} {t : Q2} {v : Q5} (h : Q9q w t v = true) : Q0y w 10 t v := by
 simp only [Q9q, Bool.and_eq_true] at h
 exact (Z3j 10 t v).1 h.1
theorem W1k {w : List Q3} {d : Nat} {t : Q2} {v : Q5} {c : Nat} (h : Q5z w d t v = false) : okV w d t v c = false := by simp [okV, h]
theorem V1m {w : List Q3} (hw : WW w) : ∀ (d n : Nat) (t : Q2) (v : Q5) (c : Nat), t ∈ tys w → c ≤ 60 → d + 2 ≤ n → d ≤ 10 →
  Ret (Q1w n w t v (11 - (d : Int)) false (c : Int)) (fun r => r.1 = okV w d t v c ∧ (okV w d t v c = true → r.2 = ((c + cntV v : Nat) : Int))) := by
 intro d
 induction d with
 | zero =>
  intro n t v c ht hc hn hd
  obtain ⟨n, rfl⟩ : ∃ k, n = k + 1 := ⟨n - 1, by omega⟩
  have hb : okV w 0 t v c = false := W1k rfl
  unfold Q1w
  refine Ret.ite (fun _ => .some ⟨hb.symm, fun h => by rw [hb] at h; cases h⟩) (fun _ => ?_)
  rw [if_pos (by rw [X3]; omega)]
  exact .some ⟨hb.symm, fun h => by rw [hb] at h; cases h⟩
 | succ d ih =>
  intro n t v c ht hc hn hd
  obtain ⟨n, rfl⟩ : ∃ k, n = k + 1 := ⟨n - 1, by omega⟩
  have hT := hw.ty t ht
  unfold Q1w
  have hc1 : wadd .i64 (c : Int) 1 = ((c + 1 : Nat) : Int) := by rw [Q1c] <;> omega
  rw [hc1]
  have hpos : 1 ≤ cntV v := by rw [X0e]; omega
  refine Ret.ite (fun hlt => ?_) (fun hle => ?_)
  ·rw [X3] at hlt
   have hb : okV w (d + 1) t v c = false := by simp only [okV, Bool.and_eq_false_iff, decide_eq_false_iff_not]; right; omega
   exact .some ⟨hb.symm, fun h => by rw [hb] at h; cases h⟩
  rw [J0] at hle
  rw [if_neg (by rw [X3]; omega), if_neg (by simp)]
  have bad : Q5z w (d + 1) t v = false → okV w (d + 1) t v c = false := W1k
  refine Ret.ctl (R := fun r : Bool × Int => r.1 = okV w (d + 1) t v c ∧ (okV w (d + 1) t v c = true → r.2 = ((c + cntV v : Nat) : Int))) (B := fun _ : Unit => t.data ≠ -1 ∧ v.n = 0 ∧ v.ctor ∈ Z9 w t) ?_ (fun r hr => .some hr) (fun s hs => ?_)
  ·refine Ret.ite (fun hi => ?_) (fun hi => ?_)
   ·rw [W5] at hi
    have hg : Q5z w (d + 1) t v = (decide (v.ctor = -1) && (decide (0 ≤ v.n) && (decide (v.n ≤ 9) && decide (v.kids.length = 0)))) := by rw [Q5z, if_pos hi]
    refine Ret.ite (fun h1 => ?_) (fun h1 => ?_)
    ·rw [W5] at h1
     rw [Q89]
     simp only [Option.bind_some]
     refine Ret.ite (fun h2 => ?_) (fun h2 => ?_)
     ·simp only [Bool.and_eq_true, decide_eq_true_eq] at h2
      have hk : Q5z w (d + 1) t v = decide (v.kids.length = 0) := by rw [hg]; simp [h1, h2.1, h2.2]
      refine .some ?_
      have h0 : v.kids.length = 0 → cntV v = 1 := fun h => by rw [X0e, List.eq_nil_of_length_eq_zero h]; rfl
      by_cases hz : v.kids.length = 0
      ·have e1 : okV w (d + 1) t v c = true := by simp only [okV, hk, hz, decide_true, Bool.true_and, decide_eq_true_eq]; have := h0 hz; omega
       rw [e1]
       refine ⟨?_, fun _ => ?_⟩
       ·simp only [W5, lenZ]; omega
       ·have := h0 hz; simp only; omega
      ·have e1 : okV w (d + 1) t v c = false := bad (by rw [hk]; simp [hz])
       rw [e1]
       refine ⟨?_, fun h => by cases h⟩
       simp only [X9, lenZ]; omega
     ·have e1 : okV w (d + 1) t v c = false := bad (by
       rw [hg]
       simp only [Bool.and_eq_false_iff, decide_eq_false_iff_not] at h2 ⊢
       rcases h2 with h2 | h2
       ·exact .inr (.inl h2)
       ·exact .inr (.inr (.inl h2)))
      exact .some ⟨e1.symm, fun h => by rw [e1] at h; cases h⟩
    ·rw [X9] at h1
     have e1 : okV w (d + 1) t v c = false := bad (by rw [hg]; simp [h1])
     exact .some ⟨e1.symm, fun h => by rw [e1] at h; cases h⟩
   ·rw [X9] at hi
    have hg : Q5z w (d + 1) t v = (decide (v.n = 0) && (decide (v.ctor ∈ Z9 w t) && (decide (v.kids.length = (Z6 w t v.ctor).length) && ((Z6 w t v.ctor).zip v.kids).all fun x => Q5z w d x.1 x.2))) := by rw [Q5z, if_neg hi]
    refine Ret.ite (fun h1 => ?_) (fun h1 => ?_)
    ·rw [Bool.not_eq_true', X9] at h1
     have e1 : okV w (d + 1) t v c = false := bad (by rw [hg]; simp [h1])
     exact .some ⟨e1.symm, fun h => by rw [e1] at h; cases h⟩
    rw [Bool.not_eq_false', W5] at h1
    rw [hT.c2]
    simp only [Option.bind_some]
    rw [Z0n]
    simp only [Option.bind_some]
    refine Ret.ite (fun h2 => ?_) (fun h2 => ?_)
    ·rw [Bool.not_eq_true', decide_eq_false_iff_not] at h2
     have e1 : okV w (d + 1) t v c = false := bad (by rw [hg]; simp [h2])
     exact .some ⟨e1.symm, fun h => by rw [e1] at h; cases h⟩
    rw [Bool.not_eq_false', decide_eq_true_eq] at h2
    exact .some ⟨hi, h1, h2⟩
  ·obtain ⟨s1, s2, s3⟩ := hs
   have hg : Q5z w (d + 1) t v = (decide (v.kids.length = (Z6 w t v.ctor).length) && ((Z6 w t v.ctor).zip v.kids).all fun x => Q5z w d x.1 x.2) := by rw [Q5z, if_neg s1]; simp [s2, s3]
   rw [hT.a2 _ s3]
   simp only [Option.bind_some]
   refine Ret.ite (fun hl => ?_) (fun hl => ?_)
   ·rw [Bool.not_eq_true', X9] at hl
    simp only [lenZ] at hl
    have e1 : okV w (d + 1) t v c = false := bad (by rw [hg]; simp only [Bool.and_eq_false_iff, decide_eq_false_iff_not]; left; omega)
    exact .some ⟨e1.symm, fun h => by rw [e1] at h; cases h⟩
   rw [Bool.not_eq_false', W5] at hl
   simp only [lenZ] at hl
   have hcv := X0e v
   refine Ret.ctl (Z3 v.kids (fun k s => s = ((c + 1 + cntV.cntVs (v.kids.take k) : Nat) : Int) ∧ c + 1 + cntV.cntVs (v.kids.take k) ≤ 60 ∧ ∀ (j : Nat) (a : Q2) (x : Q5), j < k → (Z6 w t v.ctor)[j]? = some a → v.kids[j]? = some x → Q5z w d a x = true) (fun r : Bool × Int => r.1 = okV w (d + 1) t v c ∧ (okV w (d + 1) t v c = true → r.2 = ((c + cntV v : Nat) : Int))) (fun s => s = ((c + cntV v : Nat) : Int) ∧ okV w (d + 1) t v c = true) ⟨by simp [cntV.cntVs], by simp only [List.take_zero, cntV.cntVs]; omega, fun j a x hj => by omega⟩ (fun k x s hx hI => ?_) (fun s hI => ?_)) (fun r hr => .some hr) (fun s hs => .some ⟨hs.2.symm, fun _ => hs.1⟩)
   ·obtain ⟨rfl, i2, i3⟩ := hI
    have hk := (List.getElem?_eq_some_iff.1 hx).1
    have ha : (Z6 w t v.ctor)[k]? = some ((Z6 w t v.ctor)[k]'(by omega)) := by simp
    rw [Q1u ha]
    simp only [Option.bind_some]
    have hdd : wadd .i64 (11 - ((d + 1 : Nat) : Int)) 1 = 11 - (d : Int) := by rw [Q1c] <;> omega
    rw [hdd]
    refine Ret.bind (ih n _ x _ (hT.at_ _ s3 _ (List.mem_of_getElem? ha)) i2 (by omega) (by omega)) (fun r hr => ?_)
    obtain ⟨r1, r2⟩ := hr
    have htk := Z3w v.kids k x hx
    refine Ret.ite (fun h => ?_) (fun h => ?_)
    ·rw [Bool.not_eq_true', r1] at h
     have e1 : okV w (d + 1) t v c = false := by
      simp only [okV, Bool.and_eq_false_iff, decide_eq_false_iff_not] at h ⊢
      rcases h with h | h
      ·left
       rw [hg, Bool.and_eq_false_iff]
       right
       rw [List.all_eq_false]
       exact ⟨_, List.mem_of_getElem? (Q9p ha hx), by simp [h]⟩
      ·right
       have := Z36 v.kids (k + 1)
       omega
     exact .some ⟨e1.symm, fun h => by rw [e1] at h; cases h⟩
    ·rw [Bool.not_eq_false', r1] at h
     have r3 := r2 h
     simp only [okV, Bool.and_eq_true, decide_eq_true_eq] at h
     refine .some ⟨?_, by omega, fun j a y hj h1 h2 => ?_⟩
     ·rw [r3]; omega
     ·by_cases hjk : j = k
      ·subst hjk
       rw [ha] at h1
       rw [hx] at h2
       cases h1
       cases h2
       exact h.1
      ·exact i3 j a y (by omega) h1 h2
   ·obtain ⟨rfl, i2, i3⟩ := hI
    rw [List.take_length] at i2 ⊢
    refine ⟨by omega, ?_⟩
    simp only [okV, Bool.and_eq_true, decide_eq_true_eq]
    refine ⟨?_, by omega⟩
    rw [hg]
    simp only [Bool.and_eq_true, decide_eq_true_eq, List.all_eq_true]
    refine ⟨by omega, fun y hy => ?_⟩
    obtain ⟨j, hj⟩ := List.mem_iff_getElem?.1 hy
    obtain ⟨e1, e2⟩ := List.getElem?_zip_eq_some.1 hj
    exact i3 j _ _ (List.getElem?_eq_some_iff.1 e2).1 e1 e2
theorem X2a {w : List Q3} (hw : WW w) {t : Q2} (ht : t ∈ tys w) (v : Q5) : Q42 NN w t v = some (Q9q w t v) := by
 suffices hs : Ret (Q42 NN w t v) (fun r => r = Q9q w t v) by
  obtain ⟨a, e, rfl⟩ := hs
  exact e
 unfold Q42
 refine Ret.bind (V1m hw 10 NN t v 0 ht (by omega) (by decide) (by omega)) (fun r hr => .some ?_)
 rw [hr.1]
 simp [okV, Q9q]
theorem W76 {w : List Q3} (hw : WW w) : ∀ (d : Nat) (t : Q2) (v : Q5), t ∈ tys w → Q0y w d t v → 2 * cntV v + 1 ≤ 3 ^ d := by
 intro d
 induction d with
 | zero => intro t v _ h; exact h.elim
 | succ d ih =>
  intro t v ht h
  have hT := hw.ty t ht
  have hcv := X0e v
  have hp : 3 ≤ 3 ^ (d + 1) := by
   have := Nat.one_le_two_pow (n := d)
   have h3 : 1 ≤ 3 ^ d := Nat.one_le_pow _ _ (by omega)
   rw [Nat.pow_succ]; omega
  simp only [Q0y] at h
  split at h
  ·obtain ⟨_, _, _, h4⟩ := h
   rw [h4] at hcv
   simp only [cntV.cntVs] at hcv
   omega
  ·obtain ⟨_, h2, h3, h4⟩ := h
   have hal := hT.al _ h2
   have key : ∀ k, k ≤ v.kids.length → 2 * cntV.cntVs (v.kids.take k) + k ≤ k * 3 ^ d := by
    intro k
    induction k with
    | zero => intro _; simp [cntV.cntVs]
    | succ k ihk =>
     intro hk
     have hx : v.kids[k]? = some (v.kids[k]'(by omega)) := by simp
     have ha : (Z6 w t v.ctor)[k]? = some ((Z6 w t v.ctor)[k]'(by omega)) := by simp
     have h5 := ih _ _ (hT.at_ _ h2 _ (List.mem_of_getElem? ha)) (h4 k _ _ ha hx)
     have h6 := ihk (by omega)
     rw [Z3w _ _ _ hx]
     have e : (k + 1) * 3 ^ d = k * 3 ^ d + 3 ^ d := Nat.succ_mul _ _
     omega
   have h7 := key v.kids.length (Nat.le_refl _)
   rw [List.take_length] at h7
   have h8 : v.kids.length * 3 ^ d ≤ 3 * 3 ^ d := Nat.mul_le_mul_right _ (by omega)
   rw [Nat.pow_succ]
   by_cases h0 : v.kids.length = 0
   ·rw [List.eq_nil_of_length_eq_zero h0] at hcv
    simp only [cntV.cntVs] at hcv
    rw [Nat.pow_succ] at hp
    omega
   ·have h9 : v.kids.length = 1 ∨ v.kids.length = 2 ∨ v.kids.length = 3 := by omega
    have h3d : 1 ≤ 3 ^ d := Nat.one_le_pow _ _ (by omega)
    rcases h9 with h9 | h9 | h9 <;> rw [h9] at h7 <;> omega
theorem Z0v {w : List Q3} : ∀ (d e : Nat) (t : Q2) (v : Q5), d ≤ e → Q0y w d t v → Q0y w e t v := by
 intro d
 induction d with
 | zero => intro e t v _ h; exact h.elim
 | succ d ih =>
  intro e t v he h
  obtain ⟨e, rfl⟩ : ∃ k, e = k + 1 := ⟨e - 1, by omega⟩
  rw [Q0y] at h ⊢
  split
  ·rename_i hd; rw [if_pos hd] at h; exact h
  ·rename_i hd
   rw [if_neg hd] at h
   exact ⟨h.1, h.2.1, h.2.2.1, fun j a x ha hx => ih e a x (by omega) (h.2.2.2 j a x ha hx)⟩
theorem X1l {w : List Q3} (hw : WW w) {d : Nat} (hd : d ≤ 4) {t : Q2} {v : Q5} (ht : t ∈ tys w) (h : Q0y w d t v) : Q9q w t v = true := by
 have h1 := Z0v d 4 t v hd h
 have h2 := W76 hw 4 t v ht h1
 simp only [Q9q, Bool.and_eq_true, decide_eq_true_eq]
 exact ⟨(Z3j 10 t v).2 (Z0v 4 10 t v (by omega) h1), by omega⟩
end Go.Proofs.YtnackipaoepmfaaGreat
namespace Go.Proofs.YtnackipaoepmfaaGreat
open Go Go.RowKit
def tupV (out : List (List Q5)) (l : List Q5) : List (List Q5) := out.flatMap fun q => l.map fun c => q ++ [c]
def mkV (c : Int) (ks : List Q5) : Q5 := Q5.mk c 0 ks
def numV (n : Nat) : Q5 := Q5.mk (-1) (n : Int) []
def Q1z (w : List Q3) : Nat → Q2 → List Q5
 | 0, _ => []
 | d + 1, t => if t.data = -1 then (List.range 10).map numV else (Z9 w t).flatMap fun c => (((Z6 w t c).map (Q1z w d)).foldl tupV [[]]).map (mkV c)
theorem Z22 (out : List (List Q5)) (l : List Q5) : (tupV out l).length = out.length * l.length := by
 induction out with
 | nil => simp [tupV]
 | cons q out ih =>
  have e : tupV (q :: out) l = (l.map fun c => q ++ [c]) ++ tupV out l := by simp [tupV]
  rw [e, List.length_append, ih, List.length_map, List.length_cons, Nat.succ_mul]
  omega
theorem X18 : ∀ (ls : List (List Q5)) (out : List (List Q5)), (out = [] ∨ [] ∈ ls) → ls.foldl tupV out = []
 | [], out, h => by
  rcases h with h | h
  ·exact h
  ·cases h
 | l :: ls, out, h => by
  rw [List.foldl_cons]
  refine X18 ls _ ?_
  rcases h with rfl | h
  ·left; simp [tupV]
  ·rcases List.mem_cons.1 h with rfl | h
   ·left; simp [tupV]
   ·right; exact h
theorem Z9e : ∀ (ls : List (List Q5)) (out : List (List Q5)), (∀ l ∈ ls, l ≠ []) → out.length ≤ (ls.foldl tupV out).length
 | [], _, _ => Nat.le_refl _
 | l :: ls, out, h => by
  rw [List.foldl_cons]
  have h1 := Z9e ls (tupV out l) fun x hx => h x (by simp [hx])
  rw [Z22] at h1
  have h2 : 1 ≤ l.length := List.length_pos_iff.2 (h l (by simp))
  exact Nat.le_trans (Nat.le_mul_of_pos_right _ h2) h1
theorem Z89 {ls : List (List Q5)} (h : ∀ l ∈ ls, l ≠ []) (k : Nat) : ((ls.take k).foldl tupV [[]]).length ≤ (ls.foldl tupV [[]]).length := by
 rw [← List.take_append_drop k ls, List.foldl_append, List.take_append_drop]
 exact Z9e _ _ fun l hl => h l (List.mem_of_mem_drop hl)
theorem Z3e {ls : List (List Q5)} {k : Nat} {l : List Q5} (h : ls[k]? = some l) : (ls.take (k + 1)).foldl tupV [[]] = tupV ((ls.take k).foldl tupV [[]]) l := by
 rw [List.take_add_one, h]; simp
theorem W0k {ls : List (List Q5)} (h : ∀ l ∈ ls, l ≠ []) : 1 ≤ (ls.foldl tupV [[]]).length := Z9e ls [[]] h
theorem Q9r : ∀ (ls : List (List Q5)) (out : List (List Q5)) (ks : List Q5), ks ∈ ls.foldl tupV out →
  ∃ a b, a ∈ out ∧ ks = a ++ b ∧ b.length = ls.length ∧ ∀ (i : Nat) (q : Q5) (l : List Q5), b[i]? = some q → ls[i]? = some l → q ∈ l
 | [], out, ks, h => ⟨ks, [], by simpa using h, by simp, rfl, by simp⟩
 | l :: ls, out, ks, h => by
  rw [List.foldl_cons] at h
  obtain ⟨a, b, ha, rfl, hl, hb⟩ := Q9r ls (tupV out l) ks h
  simp only [tupV, List.mem_flatMap, List.mem_map] at ha
  obtain ⟨a0, h0, c, hc, rfl⟩ := ha
  refine ⟨a0, c :: b, h0, by simp, by simp [hl], fun i q m h1 h2 => ?_⟩
  cases i with
  | zero => simp at h1 h2; subst h1 h2; exact hc
  | succ i => exact hb i q m (by simpa using h1) (by simpa using h2)
theorem X14 {w : List Q3} : ∀ (d : Nat) (t : Q2) (v : Q5), v ∈ Q1z w d t → Q0y w d t v := by
 intro d
 induction d with
 | zero => intro t v h; simp [Q1z] at h
 | succ d ih =>
  intro t v h
  rw [Q1z] at h
  rw [Q0y]
  split
  ·rename_i hd
   rw [if_pos hd] at h
   obtain ⟨n, hn, rfl⟩ := List.mem_map.1 h
   have := List.mem_range.1 hn
   exact ⟨rfl, by simp only [numV]; omega, by simp only [numV]; omega, rfl⟩
  ·rename_i hd
   rw [if_neg hd] at h
   obtain ⟨c, hc, h⟩ := List.mem_flatMap.1 h
   obtain ⟨ks, hks, rfl⟩ := List.mem_map.1 h
   obtain ⟨a, b, ha, rfl, hl, hb⟩ := Q9r _ _ _ hks
   simp only [List.mem_singleton] at ha
   subst ha
   simp only [List.length_map] at hl
   refine ⟨rfl, hc, by simp [mkV, hl], fun j u x hu hx => ih u x ?_⟩
   simp only [mkV] at hu hx
   exact hb j x (Q1z w d u) (by simpa using hx) (by rw [List.getElem?_map, hu]; rfl)
theorem W5d {a b m : Nat} : min (min a m * min b m) m = min (a * b) m := by
 rcases Nat.eq_zero_or_pos a with rfl | ha
 ·simp
 rcases Nat.eq_zero_or_pos b with rfl | hb
 ·simp
 rcases Nat.le_total a m with h1 | h1 <;> rcases Nat.le_total b m with h2 | h2
 ·rw [Nat.min_eq_left h1, Nat.min_eq_left h2]
 ·rw [Nat.min_eq_left h1, Nat.min_eq_right h2, Nat.min_eq_right, Nat.min_eq_right]
  ·exact Nat.le_trans h2 (Nat.le_mul_of_pos_left _ ha)
  ·exact Nat.le_mul_of_pos_left _ ha
 ·rw [Nat.min_eq_right h1, Nat.min_eq_left h2, Nat.min_eq_right, Nat.min_eq_right]
  ·exact Nat.le_trans h1 (Nat.le_mul_of_pos_right _ hb)
  ·exact Nat.le_mul_of_pos_right _ hb
 ·rw [Nat.min_eq_right h1, Nat.min_eq_right h2]
  rcases Nat.eq_zero_or_pos m with rfl | hm
  ·simp
  ·rw [Nat.min_eq_right (Nat.le_mul_of_pos_left _ hm), Nat.min_eq_right (Nat.le_trans h2 (Nat.le_mul_of_pos_left _ ha))]
theorem X6r (a b : Nat) : imin (a : Int) (b : Int) = ((min a b : Nat) : Int) := by
 unfold imin
 split <;> omega
theorem X38 {w : List Q3} (hw : WW w) : ∀ (d n : Nat) (t : Q2), t ∈ tys w → d + 2 ≤ n → d ≤ 100 → Q04 n w t (d : Int) = some ((min (Q1z w d t).length 401 : Nat) : Int) := by
 intro d
 induction d with
 | zero =>
  intro n t ht hn _
  obtain ⟨n, rfl⟩ : ∃ k, n = k + 1 := ⟨n - 1, by omega⟩
  unfold Q04
  rw [if_pos (by simp [ieq])]
  rfl
 | succ d ih =>
  intro n t ht hn hd
  obtain ⟨n, rfl⟩ : ∃ k, n = k + 1 := ⟨n - 1, by omega⟩
  have hT := hw.ty t ht
  suffices hs : Ret (Q04 (n + 1) w t ((d + 1 : Nat) : Int)) (fun a => a = ((min (Q1z w (d + 1) t).length 401 : Nat) : Int)) by
   obtain ⟨a, e, rfl⟩ := hs
   exact e
  unfold Q04
  rw [if_neg (by rw [W5]; omega)]
  have e1 : wsub .i64 ((d + 1 : Nat) : Int) 1 = (d : Int) := by rw [Q4v] <;> omega
  rw [e1]
  by_cases hi : t.data = -1
  ·rw [if_pos (by rw [W5]; exact hi)]
   refine .some ?_
   simp [Q1z, hi]
  ·rw [if_neg (by rw [W5]; exact hi), hT.c2]
   simp only [Option.bind_some]
   have hv : Q1z w (d + 1) t = (Z9 w t).flatMap fun c => (((Z6 w t c).map (Q1z w d)).foldl tupV [[]]).map (mkV c) := by rw [Q1z, if_neg hi]
   rw [hv]
   generalize hF : (fun c => (((Z6 w t c).map (Q1z w d)).foldl tupV [[]]).map (mkV c)) = F
   refine Ret.ctl (Z3 (Z9 w t) (fun i s => s = ((min (((Z9 w t).take i).flatMap F).length 401 : Nat) : Int)) (fun _ => False) (fun s => s = ((min ((Z9 w t).flatMap F).length 401 : Nat) : Int)) (by simp) (fun i c s hc hI => ?_) (fun s hI => by rw [hI, List.take_length])) (fun r hr => hr.elim) (fun s hs => .some hs)
   have hcm := List.mem_of_getElem? hc
   rw [hT.a2 _ hcm]
   simp only [Option.bind_some]
   refine Ret.ctl (Z3 (Z6 w t c) (fun k s => s = ((min ((((Z6 w t c).map (Q1z w d)).take k).foldl tupV [[]]).length 401 : Nat) : Int)) (fun _ => False) (fun s => s = ((min (F c).length 401 : Nat) : Int)) (by simp) (fun k a u ha hJ => ?_) (fun s hJ => ?_)) (fun r hr => hr.elim) (fun u hu => ?_)
   ·rw [ih n a (hT.at_ _ hcm _ (List.mem_of_getElem? ha)) (by omega) (by omega)]
    simp only [Option.bind_some]
    refine .some ?_
    simp only [Q4x]
    rw [Z3e (l := Q1z w d a) (by rw [List.getElem?_map, ha]; rfl), Z22, hJ]
    generalize ((((Z6 w t c).map (Q1z w d)).take k).foldl tupV [[]]).length = A
    generalize (Q1z w d a).length = B
    have hm : min A 401 * min B 401 ≤ 401 * 401 := Nat.mul_le_mul (Nat.min_le_right _ _) (Nat.min_le_right _ _)
    have e : ((min A 401 : Nat) : Int) * ((min B 401 : Nat) : Int) = ((min A 401 * min B 401 : Nat) : Int) := by simp
    rw [Z1l (by rw [e]; omega) (by rw [e]; omega), e, show (401 : Int) = ((401 : Nat) : Int) from rfl, X6r, W5d]
   ·rw [hJ, List.take_of_length_le (by simp), ← hF, List.length_map]
   ·refine .some ?_
    simp only [Q4x]
    rw [hu, hI, List.take_add_one, hc]
    simp only [Option.toList_some, List.flatMap_append, List.flatMap_cons, List.flatMap_nil, List.append_nil, List.length_append]
    generalize (((Z9 w t).take i).flatMap F).length = A
    generalize (F c).length = B
    rw [Q1c (by omega) (by omega)]
    have e : ((min A 401 : Nat) : Int) + ((min B 401 : Nat) : Int) = ((min A 401 + min B 401 : Nat) : Int) := by omega
    rw [e, show (401 : Int) = ((401 : Nat) : Int) from rfl, X6r]
    congr 1
    omega
theorem X5w (l : List Q5) (h : l.length ≤ Q8) : Q16 l = some l := by
 unfold Q16
 rw [W9 (by simpa using h)]
 rfl
theorem X05 {α β : Type} (l : List α) (F : α → List β) (i : Nat) : ((l.take i).flatMap F).length ≤ (l.flatMap F).length := by
 conv => rhs; rw [← List.take_append_drop i l, List.flatMap_append, List.length_append]
 omega
theorem Z9s {w : List Q3} (hw : WW w) : ∀ (d n : Nat) (t : Q2), t ∈ tys w → d + 20 ≤ n → d ≤ 100 → (Q1z w d t).length ≤ 400 → Q2u n w t (d : Int) = some (Q1z w d t) := by
 intro d
 induction d with
 | zero =>
  intro n t ht hn _ _
  obtain ⟨n, rfl⟩ : ∃ k, n = k + 1 := ⟨n - 1, by omega⟩
  unfold Q2u
  rw [if_pos (by simp [ieq])]
  rfl
 | succ d ih =>
  intro n t ht hn hd hlen
  obtain ⟨n, rfl⟩ : ∃ k, n = k + 1 := ⟨n - 1, by omega⟩
  have hT := hw.ty t ht
  suffices hs : Ret (Q2u (n + 1) w t ((d + 1 : Nat) : Int)) (fun a => a = Q1z w (d + 1) t) by
   obtain ⟨a, e, rfl⟩ := hs
   exact e
  unfold Q2u
  rw [if_neg (by rw [W5]; omega)]
  have e1 : wsub .i64 ((d + 1 : Nat) : Int) 1 = (d : Int) := by rw [Q4v] <;> omega
  rw [e1]
  by_cases hi : t.data = -1
  ·rw [if_pos (by rw [W5]; exact hi)]
   have hv : Q1z w (d + 1) t = (List.range 10).map numV := by rw [Q1z, if_pos hi]
   rw [hv]
   refine Ret.ctl (Q5c (fun s : List Q5 × Int => ∃ k : Nat, k ≤ 10 ∧ s = ((List.range k).map numV, (k : Int))) (fun s => (10 - s.2).toNat) (fun _ => False) (fun s => s.1 = (List.range 10).map numV) ⟨0, by omega, rfl⟩ (fun s hI => ?_) n (by simp; omega)) (fun r hr => hr.elim) (fun s hs => .some hs)
   obtain ⟨k, hk, rfl⟩ := hI
   refine Ret.ite (fun h1 => ?_) (fun h1 => ?_)
   ·rw [X3] at h1
    simp only [Q6s, Option.bind_some]
    rw [W9 (by simp only [List.length_map, List.length_range, List.length_cons, List.length_nil, Q8]; omega)]
    simp only [Option.bind_some]
    have e2 : wadd .i64 (k : Int) 1 = ((k + 1 : Nat) : Int) := by rw [Q1c] <;> omega
    rw [e2]
    refine .some ⟨⟨k + 1, by omega, ?_⟩, by simp only; omega⟩
    rw [List.range_succ, List.map_append]; rfl
   ·rw [J0] at h1
    refine .some ?_
    simp only at h1
    rw [show k = 10 by omega]
    exact rfl
  ·rw [if_neg (by rw [W5]; exact hi), hT.c2]
   simp only [Option.bind_some]
   have hv : Q1z w (d + 1) t = (Z9 w t).flatMap fun c => (((Z6 w t c).map (Q1z w d)).foldl tupV [[]]).map (mkV c) := by rw [Q1z, if_neg hi]
   rw [hv] at hlen ⊢
   generalize hF : (fun c => (((Z6 w t c).map (Q1z w d)).foldl tupV [[]]).map (mkV c)) = F at *
   refine Ret.ctl (Z3 (Z9 w t) (fun i s => s = ((Z9 w t).take i).flatMap F) (fun _ => False) (fun s => s = (Z9 w t).flatMap F) (by simp) (fun i c s hc hI => ?_) (fun s hI => by rw [hI, List.take_length])) (fun r hr => hr.elim) (fun s hs => .some hs)
   have hcm := List.mem_of_getElem? hc
   have hFc : F c = (((Z6 w t c).map (Q1z w d)).foldl tupV [[]]).map (mkV c) := by rw [← hF]
   have hnext : ((Z9 w t).take (i + 1)).flatMap F = ((Z9 w t).take i).flatMap F ++ F c := by
    rw [List.take_add_one, hc]; simp
   have hle := X05 (Z9 w t) F (i + 1)
   rw [hnext, List.length_append] at hle
   have hat := hT.at_ _ hcm
   have hal := hT.al _ hcm
   refine Ret.bind (P := CtlQ (fun r : Ctl (List Q5) (List Q5) => RndQ (fun _ => False) (fun s => s = (Z9 w t).flatMap F) (fun s => s = ((Z9 w t).take (i + 1)).flatMap F) r) (fun s => s = ((Z9 w t).take (i + 1)).flatMap F)) ?_ (fun o ho => ?_)
   ·rw [hT.a2 _ hcm]
    simp only [Option.bind_some]
    have hcf : J4 (Z6 w t c) (fun a0 => Q4a n a0 w ((d + 1 : Nat) : Int)) = some ((Z6 w t c).any fun a => decide ((Q1z w d a).length = 0)) := by
     refine Z87 _ _ _ fun a ha => ?_
     unfold Q4a
     rw [e1, X38 hw d n a (hat _ ha) (by omega) (by omega)]
     simp only [Option.bind_some, ieq]
     congr 1
     by_cases h0 : (Q1z w d a).length = 0
     ·simp [h0]
     ·rw [decide_eq_false h0, decide_eq_false]; omega
    rw [hcf]
    simp only [Option.bind_some]
    cases hany : (Z6 w t c).any fun a => decide ((Q1z w d a).length = 0) with
    | true =>
     simp only [if_true]
     refine .some ?_
     simp only [Z0y]
     rw [hnext, hI]
     obtain ⟨a, ha, h0⟩ := List.any_eq_true.1 hany
     simp only [decide_eq_true_eq] at h0
     have : F c = [] := by
      rw [hFc, X18 _ _ (.inr (List.mem_map.2 ⟨a, ha, List.eq_nil_of_length_eq_zero h0⟩))]; rfl
     rw [this, List.append_nil]
    | false =>
     simp only [Bool.false_eq_true, if_false]
     have hne : ∀ l ∈ (Z6 w t c).map (Q1z w d), l ≠ [] := fun l hl e => by
      obtain ⟨a, ha, rfl⟩ := List.mem_map.1 hl
      have := List.any_eq_false.1 hany a ha
      simp [e] at this
     have hlenF : (F c).length = (((Z6 w t c).map (Q1z w d)).foldl tupV [[]]).length := by rw [hFc, List.length_map]
     refine Ret.ctl (Z3 (Z6 w t c) (fun k s => s = ((((Z6 w t c).map (Q1z w d)).take k).foldl tupV [[]]).map (mkV c)) (fun _ => False) (fun s => s = F c) (by simp [mkV]) (fun k a u ha hJ => ?_) (fun s hJ => by rw [hJ, List.take_of_length_le (by simp), hFc])) (fun r hr => hr.elim) (fun u hu => ?_)
     ·have hk1 := Z89 hne (k + 1)
      have hk0 := Z89 hne k
      have hg : ((Z6 w t c).map (Q1z w d))[k]? = some (Q1z w d a) := by rw [List.getElem?_map, ha]; rfl
      have hp : 1 ≤ ((((Z6 w t c).map (Q1z w d)).take k).foldl tupV [[]]).length := W0k fun l hl => hne l (List.mem_of_mem_take hl)
      have ha1 : 1 ≤ (Q1z w d a).length := List.length_pos_iff.2 (hne _ (List.mem_of_getElem? hg))
      rw [Z3e hg, Z22] at hk1
      have hva : (Q1z w d a).length ≤ 400 := by
       have := Nat.le_mul_of_pos_left (Q1z w d a).length hp
       omega
      rw [ih n a (hat _ (List.mem_of_getElem? ha)) (by omega) (by omega) hva]
      simp only [Option.bind_some]
      rw [Z3e hg]
      have hkl : ∀ ks ∈ (((Z6 w t c).map (Q1z w d)).take k).foldl tupV [[]], ks.length ≤ 3 := fun ks hks => by
       obtain ⟨x, y, hx, rfl, hl, _⟩ := Q9r _ _ _ hks
       simp only [List.mem_singleton] at hx
       subst hx
       simp only [List.length_take, List.length_map] at hl
       simp only [List.nil_append]
       omega
      generalize ((((Z6 w t c).map (Q1z w d)).take k).foldl tupV [[]]) = T at *
      generalize Q1z w d a = L at *
      refine Ret.ctl (Z3 u (fun j z => z = (tupV (T.take j) L).map (mkV c)) (fun _ => False) (fun z => z = (tupV T L).map (mkV c)) (by simp [tupV]) (fun j x z hx hK => ?_) (fun z hK => by rw [hK, hJ, List.length_map, List.take_length])) (fun r hr => hr.elim) (fun z hz => .some hz)
      rw [hJ, List.getElem?_map] at hx
      obtain ⟨ks, hks, rfl⟩ := Option.map_eq_some_iff.1 hx
      have hjl := (List.getElem?_eq_some_iff.1 hks).1
      have hks3 := hkl ks (List.mem_of_getElem? hks)
      have hnj : tupV (T.take (j + 1)) L = tupV (T.take j) L ++ L.map (fun c => ks ++ [c]) := by
       rw [List.take_add_one, hks]; simp [tupV]
      rw [hnj]
      refine Ret.ctl (Z3 L (fun i v => v = (tupV (T.take j) L ++ (L.take i).map (fun c => ks ++ [c])).map (mkV c)) (fun _ => False) (fun v => v = (tupV (T.take j) L ++ L.map (fun c => ks ++ [c])).map (mkV c)) (by simp [hK]) (fun i y v hy hM => ?_) (fun v hM => by rw [hM, List.take_length])) (fun r hr => hr.elim) (fun v hv => .some hv)
      simp only [mkV]
      rw [X5w _ (by simp only [Q8]; omega)]
      simp only [Option.bind_some]
      rw [W9 (by simp only [Q8, List.length_cons, List.length_nil]; omega)]
      simp only [Option.bind_some]
      have hil := (List.getElem?_eq_some_iff.1 hy).1
      have hvl : v.length ≤ 1000 * 1000 + 1000 := by
       rw [hM, List.length_map, List.length_append, Z22, List.length_map, List.length_take, List.length_take]
       have := Nat.mul_le_mul (show min j T.length ≤ 1000 by omega) (show L.length ≤ 1000 by omega)
       omega
      rw [W9 (by simp only [Q8, List.length_cons, List.length_nil]; omega)]
      refine .some ?_
      simp only [Q4x]
      rw [hM, List.take_add_one, hy]
      simp [mkV]
     ·have hsl : s.length ≤ 400 := by rw [hI]; omega
      dsimp only
      rw [W9 (by rw [hu]; simp only [Q8]; omega)]
      simp only [Option.bind_some]
      exact .some (by simp only [Z0y]; rw [hnext, hI, hu])
   ·cases o with
    | ret r => exact .some ho
    | brk s => exact .some ho
    | go s => exact ho.elim
theorem X4u {w : List Q3} (hw : WW w) {t : Q2} (ht : t ∈ tys w) {d : Nat} (hd : d ≤ 4) : Q0t NN w t (d : Int) = some (if (Q1z w d t).length ≤ 400 then (Q1z w d t, true) else ([], false)) := by
 suffices hs : Ret (Q0t NN w t (d : Int)) (fun r => r = if (Q1z w d t).length ≤ 400 then (Q1z w d t, true) else ([], false)) by
  obtain ⟨a, e, rfl⟩ := hs
  exact e
 unfold Q0t
 rw [X2b hw ht]
 simp only [Option.bind_some, Bool.not_true, Bool.false_eq_true, if_false]
 rw [Q89]
 have e0 : (decide ((0 : Int) ≤ (d : Int)) && decide ((d : Int) ≤ 4)) = true := by simp only [Bool.and_eq_true, decide_eq_true_eq]; omega
 rw [e0]
 simp only [Option.bind_some, Bool.not_true, Bool.false_eq_true, if_false]
 rw [X38 hw d NN t ht (by simp only [NN]; omega) (by omega)]
 simp only [Option.bind_some]
 refine Ret.ite (fun h => ?_) (fun h => ?_)
 ·rw [X3] at h
  rw [if_neg (by omega)]
  exact .some rfl
 ·rw [J0] at h
  have hl : (Q1z w d t).length ≤ 400 := by omega
  rw [if_pos hl, Z9s hw d NN t ht (by simp only [NN]; omega) (by omega) hl]
  simp only [Option.bind_some]
  refine Ret.ctl (Z3 (Q1z w d t) (fun i s => s = (Q1z w d t).take i) (fun _ => False) (fun s => s = Q1z w d t) (by simp) (fun i v s hv hI => ?_) (fun s hI => by rw [hI, List.take_length])) (fun r hr => hr.elim) (fun s hs => .some (by rw [hs]))
  have hg := X14 d t v (List.mem_of_getElem? hv)
  rw [Z5w d NN v (Z3i hw d t v ht hg) (by simp only [NN]; omega)]
  simp only [Option.bind_some]
  rw [W9 (by rw [hI]; simp only [List.length_take, List.length_cons, List.length_nil, Q8]; omega)]
  refine .some ?_
  simp only [Q4x]
  rw [hI, List.take_add_one, hv]
  rfl
theorem Z1h {w : List Q3} (hw : WW w) {t : Q2} (ht : t ∈ tys w) {d : Int} (h1 : 1 ≤ d) (h3 : d ≤ 3) : ∃ r, Q0t NN w t d = some r ∧ r.1.length ≤ 400 ∧ ∀ v ∈ r.1, Q9q w t v = true ∧ Q0y w 4 t v := by
 obtain ⟨k, rfl⟩ : ∃ k : Nat, d = (k : Int) := ⟨d.toNat, by omega⟩
 refine ⟨_, X4u hw ht (by omega), ?_, fun v hv => ?_⟩
 ·split
  ·assumption
  ·simp
 ·split at hv
  ·have hg := X14 k t v hv
   exact ⟨X1l hw (by omega) ht hg, Z0v k 4 t v (by omega) hg⟩
  ·cases hv
end Go.Proofs.YtnackipaoepmfaaGreat
namespace Go.Proofs.YtnackipaoepmfaaGreat
open Go Go.RowKit
theorem len0 (n : Nat) : ieq (lenZ n) 0 = decide (n = 0) := by
 by_cases h : n = 0
 ·subst h; rfl
 ·rw [decide_eq_false h, X9]; simp only [lenZ]; omega
theorem rem3 (n : Nat) : ∃ d : Int, wadd .i64 1 (wrem (lenZ n) 3) = d ∧ 1 ≤ d ∧ d ≤ 3 := by
 refine ⟨_, rfl, ?_⟩
 have e : wrem (lenZ n) 3 = ((n % 3 : Nat) : Int) := by
  show Int.tmod _ _ = _
  simp only [lenZ]
  rw [Int.tmod_eq_emod_of_nonneg (by omega)]
  omega
 rw [e, Q1c (by omega) (by omega)]
 omega
theorem Q7x {w : List Q3} {t : Q2} {cs : List Q4} (h : Q1e w t cs = true) : cs.length ≤ 8 ∧ ∀ c ∈ cs, Q0z w t c.pat = true := by
 simp only [Q1e, Bool.and_eq_true, decide_eq_true_eq, List.all_eq_true] at h
 refine ⟨h.1, fun c hc => ?_⟩
 have := h.2 c hc
 simp only [Q6c, Bool.and_eq_true] at this
 exact this.1
def runC (w : List Q3) (t : Q2) (l : List Q4) (v : Q5) : Int × List W4 × Bool :=
 if (Q1e w t l && Q9q w t v) = true then ((runR (runD v 0 l)).1, (runR (runD v 0 l)).2, true) else (-1, [], false)
theorem Z9t {w : List Q3} (hw : WW w) {t : Q2} (ht : t ∈ tys w) (l : List Q4) (v : Q5) : Q1h NN w t l v = some (runC w t l v) := by
 unfold Q1h runC
 rw [Q85 hw ht l]
 simp only [Option.bind_some]
 cases hc : Q1e w t l with
 | false => simp
 | true =>
  simp only [Bool.not_true, Bool.false_eq_true, if_false, Bool.true_and]
  rw [X2a hw ht v]
  simp only [Option.bind_some]
  cases hv : Q9q w t v with
  | false => simp
  | true =>
   simp only [Bool.not_true, Bool.false_eq_true, if_false, if_true]
   rw [X8j hw ht (Q7x hc).2 (X41 hv) (by omega)]
   rfl
theorem X4c {w : List Q3} {t : Q2} {l : List Q4} {v : Q5} (hc : Q1e w t l = true) (hv : Q9q w t v = true) : runC w t l v = ((runR (runD v 0 l)).1, (runR (runD v 0 l)).2, true) := by
 unfold runC
 rw [hc, hv]; rfl
theorem Q6y {v : Q5} : ∀ {cs : List Q4} {k : Nat} {x : Nat × List W4}, runD v k cs = some x → ∃ i c b, cs[i]? = some c ∧ x.1 = k + i ∧ W7 10 c.pat v = some b ∧ Q62 c.guard b = true ∧ x.2 = Q9u b ∧ ∀ (j : Nat) (c' : Q4), j < i → cs[j]? = some c' → ∀ b', W7 10 c'.pat v = some b' → Q62 c'.guard b' = false
 | [], _, _, h => by cases h
 | c :: cs, k, x, h => by
  simp only [runD] at h
  cases hm : W7 10 c.pat v with
  | none =>
   rw [hm] at h
   obtain ⟨i, c1, b, h1, h2, h3, h4, h5, h6⟩ := Q6y h
   refine ⟨i + 1, c1, b, by simpa using h1, by omega, h3, h4, h5, fun j c' hj hc' b' hb' => ?_⟩
   cases j with
   | zero => simp only [List.getElem?_cons_zero, Option.some.injEq] at hc'; subst hc'; rw [hm] at hb'; cases hb'
   | succ j => exact h6 j c' (by omega) (by simpa using hc') b' hb'
  | some l =>
   rw [hm] at h
   simp only at h
   split at h
   ·rename_i hg
    cases h
    exact ⟨0, c, l, rfl, rfl, hm, hg, rfl, fun j c' hj => by omega⟩
   ·rename_i hg
    obtain ⟨i, c1, b, h1, h2, h3, h4, h5, h6⟩ := Q6y h
    refine ⟨i + 1, c1, b, by simpa using h1, by omega, h3, h4, h5, fun j c' hj hc' b' hb' => ?_⟩
    cases j with
    | zero => simp only [List.getElem?_cons_zero, Option.some.injEq] at hc'; subst hc'; rw [hm] at hb'; cases hb'; simpa using hg
    | succ j => exact h6 j c' (by omega) (by simpa using hc') b' hb'
theorem V4e {w : List Q3} (hw : WW w) {t : Q2} (ht : t ∈ tys w) {l : List Q4} (hl : ∀ c ∈ l, Q0z w t c.pat = true) {v : Q5} (hv : Q0y w 10 t v) : DB (runR (runD v 0 l)).2 := by
 cases h : runD v 0 l with
 | none => intro b hb; cases hb
 | some x =>
  obtain ⟨i, c, b, h1, _, h3, _, h5, _⟩ := Q6y h
  obtain ⟨g, _, ln⟩ := Q2l (hl c (List.mem_of_getElem? h1))
  have hb := Z1r g ln h3
  intro y hy
  simp only [runR, h5] at hy
  obtain ⟨e', e1, e2⟩ := Z8t 10 c.pat 10 v b (Z3i hw 10 t v ht hv) h3 y ((Q8b hb.rg).mem_iff.1 hy)
  exact X0c _ _ _ e1 e2
end Go.Proofs.YtnackipaoepmfaaGreat
namespace Go.Proofs.YtnackipaoepmfaaGreat
open Go Go.RowKit
theorem X3b {w : List Q3} {d x m : Nat} {t : Q2} (hm : 400 ≤ m) : ∀ (bs l r : List Q0), l.length ≤ m → Q4y w d x t l bs = some r → r.length ≤ m
 | [], l, r, h, e => by simp only [Q4y, Option.some.injEq] at e; subst e; exact h
 | b :: bs, l, r, h, e => by
  simp only [Q4y] at e
  split at e
  ·cases e
  ·exact X3b hm bs _ r (by omega) e
theorem Q6e {w : List Q3} {d x m : Nat} {t : Q2} {l bs r : List Q0} (hm : 400 ≤ m) (h : l.length ≤ m) (e : Q1d w d x t l bs = some r) : r.length ≤ m :=
 X3b hm bs _ r (by have := Z9r w x t l; omega) e
theorem W0x {w : List Q3} {t : Q2} : ∀ (ps bef r : List Q0), sepP w t bef ps = some r → r.length ≤ 400 * ps.length
 | [], _, r, e => by simp only [sepP, Option.some.injEq] at e; subst e; simp
 | p :: ps, bef, r, e => by
  simp only [sepP] at e
  cases hm : Q1d w 10 11 t [p] bef with
  | none => rw [hm] at e; simp at e
  | some m =>
   rw [hm] at e
   simp only [Option.bind_some, Option.map_eq_some_iff] at e
   obtain ⟨r2, h2, rfl⟩ := e
   have h1 := Q6e (m := 400) (Nat.le_refl _) (by simp) hm
   have h3 := W0x ps (bef ++ [p]) r2 h2
   simp only [List.length_append, List.length_cons]
   omega
theorem Z9f {α : Type} {l : List α} {k : Nat} (h : k ≤ l.length) : Q74 l (k : Int) = some (l.take k) := by
 unfold Q74
 rw [if_pos ⟨by omega, by omega⟩]
 simp
theorem Z68 {w : List Q3} (hww : w ∈ Q1i) (hw : WW w) (he : WE w) {t : Q2} (ht : t ∈ tys w) {ps : List Q0} (hp : ∀ p ∈ ps, Z4 w 10 t p ∧ cntP p ≤ 100) (hl : ps.length ≤ 40) :
  Q0g NN ⟨w, dimP w⟩ t ps = some (optR (sepP w t [] ps)) := by
 suffices hs : Ret (Q0g NN ⟨w, dimP w⟩ t ps) (fun r => r = optR (sepP w t [] ps)) by
  obtain ⟨a, e, rfl⟩ := hs
  exact e
 unfold Q0g
 refine Ret.ctl (Z3 ps (fun k s => s.length ≤ 400 * k ∧ sepP w t [] ps = (sepP w t (ps.take k) (ps.drop k)).map (s ++ ·)) (fun r => r = ([], false) ∧ sepP w t [] ps = none) (fun s => sepP w t [] ps = some s) ⟨by simp, by simp⟩ (fun k p s hp' hI => ?_) (fun s hI => ?_)) (fun r hr => .some (by rw [hr.1, hr.2]; rfl)) (fun s hs => .some (by rw [hs]; rfl))
 ·obtain ⟨hsl, hI⟩ := hI
  have hk := (List.getElem?_eq_some_iff.1 hp').1
  have hpm := hp p (List.mem_of_getElem? hp')
  rw [Z9f (by omega)]
  simp only [Option.bind_some]
  rw [Z1g hww hw he (d := 10) (x := 11) ht (by omega) (by omega) (fun b hb => hp b (List.mem_of_mem_take hb)) (fun a ha => by simp only [List.mem_singleton] at ha; rw [ha]; exact Q51 10 t p hpm.1) (by simp) (by simp only [NN]; omega)]
  simp only [Option.bind_some]
  rw [Z74 hp'] at hI
  simp only [sepP] at hI
  cases hm : Q1d w 10 11 t [p] (ps.take k) with
  | none =>
   rw [hm] at hI
   simp only [Option.bind_none, Option.map_none] at hI
   simp only [optR, Bool.not_false, if_true]
   exact .some ⟨rfl, hI⟩
  | some m =>
   rw [hm] at hI
   have hml := Q6e (m := 400) (Nat.le_refl _) (by simp) hm
   simp only [optR, Bool.not_true, Bool.false_eq_true, if_false]
   rw [W9 (by simp only [Q8]; omega)]
   refine .some ⟨by simp only [List.length_append]; omega, ?_⟩
   rw [hI]
   simp only [Option.bind_some, Option.map_map]
   rw [List.take_add_one, hp']
   simp only [Option.toList_some]
   congr 1
   funext z
   simp
 ·obtain ⟨_, hI⟩ := hI
  rw [List.drop_length, sepP] at hI
  simpa using hI
theorem Z1i {w : List Q3} (hww : w ∈ Q1i) {t : Q2} (ht : t ∈ tys w) {cs : List Q4} {i : Nat} (hi : i < cs.length) : Q0h NN w t cs (i : Int) = some (optR (J2 w t cs i)) := by
 have hw := ww hww
 have he := we hww
 unfold Q0h J2
 rw [Q85 hw ht]
 simp only [Option.bind_some]
 by_cases h : Q1e w t cs = true
 ·obtain ⟨h8, hc⟩ := Q4l h
  have hin : (decide ((0 : Int) ≤ (i : Int)) && decide ((i : Int) ≤ wsub .i64 (lenZ cs.length) 1)) = true := by
   rw [Q1x, Q4v (by omega) (by omega)]
   simp only [Bool.and_eq_true, decide_eq_true_eq]
   omega
  have hci : cs[i]? = some (cs[i]'hi) := by simp
  generalize cs[i]'hi = c at hci
  obtain ⟨hv, hg, hcn⟩ := hc c (List.mem_of_getElem? hci)
  simp only [h, Bool.not_true, Bool.false_eq_true, if_false, if_true]
  rw [Q89, hin, hci]
  simp only [Option.bind_some, Bool.not_true, Bool.false_eq_true, if_false]
  rw [Q1u hci]
  simp only [Option.bind_some]
  rw [Z4d hw ht hg (by omega) (by simp only [NN]; omega), Z9f (by omega)]
  simp only [Option.bind_some]
  have htk : ∀ c ∈ cs.take i, Q0c w 10 t c.pat = true ∧ cntP c.pat ≤ 60 := fun c m => (hc c (List.mem_of_mem_take m)).2
  rw [X2f hw ht (by simp only [NN]; omega) (cs.take i) (fun c m => ⟨(htk c m).1, by have := (htk c m).2; omega⟩) (by rw [List.length_take]; omega)]
  simp only [Option.bind_some]
  cases hm : Q50 c.pat with
  | none => simp [optR]
  | some mine =>
   have hpp := Z0t hg hm
   have hpc := Z5v hm
   have hpl := (Q6g hm).1
   cases ha : Q1v (cs.take i) with
   | none => simp [optR]
   | some away =>
    have hap := Q72 (fun c m => (htk c m).1) ha
    have hac := Z35 (m := 60) (fun c m => (htk c m).2) ha
    simp only [optR, Bool.not_true, Bool.false_eq_true, if_false, Option.bind_some]
    rw [(wl hww).dim]
    simp only [Option.bind_some]
    rw [Z68 hww hw he ht (fun p hp => ⟨hpp p hp, by have := hpc p hp; omega⟩) hpl]
    simp only [Option.bind_some]
    cases hs : sepP w t [] mine with
    | none =>
     simp only [optR, Bool.false_eq_true, if_false, Option.bind_some, Option.bind_none]
     have := Z2p hw (S := dimP w) (n := NN) (by simp only [NN]; omega) ht none (fun l h => by cases h)
     simp only [optR] at this
     rw [this]
     rfl
    | some out =>
     have hol := W0x mine [] out hs
     have hop := Z29 mine [] out (by simp) hpp hs
     simp only [optR, if_true, Option.bind_some]
     rw [Z1g hww hw he (d := 10) (x := 11) ht (by omega) (by omega) (fun b hb => ⟨hap b hb, by have := hac b hb; omega⟩) hop (by omega) (by simp only [NN]; omega)]
     simp only [Option.bind_some]
     rw [Z2p hw (by simp only [NN]; omega) ht _ (fun r hr => by have := Q6e (m := 20000) (by omega) (by omega) hr; omega)]
     cases Q9i w t (Q1d w 10 11 t out away) <;> rfl
 ·simp [h, optR]
def nilR : Option (List Q0) → Bool
 | some l => decide (l.length = 0)
 | none => false
def redD (w : List Q3) (t : Q2) (cs : List Q4) : List Int × Bool :=
 if Q1e w t cs = true ∧ ∀ i, i < cs.length → (J2 w t cs i).isSome = true then (((List.range cs.length).filter fun i => nilR (J2 w t cs i)).map (fun i : Nat => (i : Int)), true) else ([], false)
theorem Q6o {w : List Q3} (hww : w ∈ Q1i) {t : Q2} (ht : t ∈ tys w) (cs : List Q4) : Y7 NN w t cs = some (redD w t cs) := by
 have hw := ww hww
 suffices hs : Ret (Y7 NN w t cs) (fun r => r = redD w t cs) by
  obtain ⟨a, e, rfl⟩ := hs
  exact e
 unfold Y7 redD
 rw [Q85 hw ht]
 simp only [Option.bind_some]
 by_cases h : Q1e w t cs = true
 ·obtain ⟨h8, hc⟩ := Q4l h
  simp only [h, Bool.not_true, Bool.false_eq_true, if_false, true_and]
  refine Ret.ctl (Z3 cs (fun k s => s = ((List.range k).filter fun i => nilR (J2 w t cs i)).map (fun i : Nat => (i : Int)) ∧ ∀ i, i < k → (J2 w t cs i).isSome = true) (fun r => r = ([], false) ∧ ¬ ∀ i, i < cs.length → (J2 w t cs i).isSome = true) (fun s => s = ((List.range cs.length).filter fun i => nilR (J2 w t cs i)).map (fun i : Nat => (i : Int)) ∧ ∀ i, i < cs.length → (J2 w t cs i).isSome = true) ⟨by simp, by simp⟩ (fun k c s hck hI => ?_) (fun s hI => hI)) (fun r hr => .some (by rw [if_neg hr.2]; exact hr.1)) (fun s hs => .some (by rw [if_pos hs.2, hs.1]))
  obtain ⟨hI, hall⟩ := hI
  have hk := (List.getElem?_eq_some_iff.1 hck).1
  have hsl : s.length ≤ 8 := by
   rw [hI, List.length_map]
   have := List.length_filter_le (fun i => nilR (J2 w t cs i)) (List.range k)
   rw [List.length_range] at this
   omega
  rw [Z1i hww ht hk]
  simp only [Option.bind_some]
  have hnext : ∀ i, i < k + 1 → (J2 w t cs k).isSome = true → (J2 w t cs i).isSome = true := fun i hi hk' => by
   by_cases hik : i = k
   ·rw [hik]; exact hk'
   ·exact hall i (by omega)
  cases hr : J2 w t cs k with
  | none =>
   simp only [optR, Bool.not_false, if_true, Option.bind_some]
   exact .some ⟨rfl, fun hh => by have := hh k hk; rw [hr] at this; cases this⟩
  | some r =>
   simp only [optR, Bool.not_true, Bool.false_eq_true, if_false, len0]
   rw [hr] at hnext
   by_cases h0 : r.length = 0
   ·have hr0 : r = [] := List.eq_nil_of_length_eq_zero h0
    simp only [h0, decide_true, if_true]
    rw [W9 (by simp only [List.length_cons, List.length_nil, Q8]; omega)]
    refine .some ⟨?_, fun i hi => hnext i hi rfl⟩
    rw [hI, List.range_succ, List.filter_append, List.map_append]
    simp [hr, hr0, nilR]
   ·simp only [h0, decide_false, Bool.false_eq_true, if_false, Option.bind_some]
    refine .some ⟨?_, fun i hi => hnext i hi rfl⟩
    rw [hI, List.range_succ, List.filter_append, List.map_append]
    have : r ≠ [] := fun e => h0 (by rw [e]; rfl)
    simp [hr, this, nilR]
 ·simp only [h, Bool.not_false, if_true, false_and, if_false]
  exact .some rfl
theorem X1u {w : List Q3} (hww : w ∈ Q1i) {t : Q2} (ht : t ∈ tys w) {cs : List Q4} {i : Nat} (hi : (i : Int) ∈ (redD w t cs).1) {e : Nat} {v : Q5} (hv : Q0y w e t v) {b : List W4} : runD v 0 cs ≠ some (i, b) := by
 intro hr
 unfold redD at hi
 split at hi
 ·rename_i hh
  simp only [List.mem_map, List.mem_filter, List.mem_range] at hi
  obtain ⟨j, ⟨hj, hj2⟩, hji⟩ := hi
  have hji : j = i := by omega
  subst hji
  obtain ⟨r0, hr0, hj2⟩ : ∃ r, J2 w t cs j = some r ∧ r = [] := by
   cases hr0 : J2 w t cs j with
   | none => rw [hr0] at hj2; cases hj2
   | some r0 =>
    rw [hr0] at hj2
    exact ⟨r0, rfl, List.eq_nil_of_length_eq_zero (by simpa [nilR] using hj2)⟩
  subst hj2
  obtain ⟨c, hc, h1⟩ := Z5t (ww hww) (we hww) ht hv hr0
  obtain ⟨j', c', b', g1, g2, g3, g4, g5, g6⟩ := Q6y hr
  simp only [Nat.zero_add] at g2
  subst g2
  rw [hc] at g1
  have g1 := Option.some.inj g1
  subst g1
  have h2 := h1.2 ⟨by rw [g3]; rfl, fun c' hc' h0 => by
   obtain ⟨k, hk⟩ := List.mem_iff_getElem?.1 hc'
   rw [List.getElem?_take] at hk
   split at hk
   ·rename_i hkj
    cases hm : W7 10 c'.pat v with
    | none => rfl
    | some b' =>
     have := g6 k c' hkj hk b' hm
     simp [Q62, h0] at this
   ·cases hk⟩
  obtain ⟨y, hy, _⟩ := h2
  cases hy
 ·cases hi
end Go.Proofs.YtnackipaoepmfaaGreat
namespace Go.Proofs.YtnackipaoepmfaaGreat
open Go Go.RowKit
def Disj (w : List Q3) (t : Q2) (x y : Q0) : Prop := ∀ (e : Nat) (v : Q5), Q0y w e t v → fitP x v = true → fitP y v = true → False
def V0s (w : List Q3) (ts : List Q2) (xs ys : List Q0) : Prop := ∀ (e : Nat) (vs : List Q5), vs.length = ts.length → (∀ (j : Nat) (t : Q2) (v : Q5), ts[j]? = some t → vs[j]? = some v → Q0y w e t v) → fitL xs vs = true → fitL ys vs = true → False
theorem W1v {w : List Q3} {fm : Q2 → Q0 → Q0 → List Q0} {fj : Q0 → Q0 → Option Q0} : ∀ (ts : List Q2) (as bs : List Q0), as.length = ts.length → bs.length = ts.length →
  (∀ (j : Nat) (t : Q2) (a b : Q0), ts[j]? = some t → as[j]? = some a → bs[j]? = some b → (fm t a b).Pairwise (Disj w t) ∧ ∀ (e : Nat) (v : Q5), Q0y w e t v → (∀ y ∈ fm t a b, fitP y v = true → fitP b v = false) ∧ ∀ m, fj a b = some m → fitP m v = true → fitP b v = true) →
  (kmD fm fj ts as bs).Pairwise (V0s w ts)
 | [], as, bs, _, _, _ => by simp [kmD]
 | t :: ts, a :: as, b :: bs, h1, h2, h => by
  obtain ⟨g1, g2⟩ := h 0 t a b rfl rfl rfl
  have ih := W1v ts as bs (by simpa using h1) (by simpa using h2) fun j t a b e1 e2 e3 => h (j + 1) t a b (by simpa using e1) (by simpa using e2) (by simpa using e3)
  simp only [kmD]
  rw [List.pairwise_append]
  have split2 : ∀ (x y : Q0) (xs ys : List Q0), (Disj w t x y ∨ V0s w ts xs ys) → V0s w (t :: ts) (x :: xs) (y :: ys) := fun x y xs ys hd e vs hl hg hx hy => by
   cases vs with
   | nil => simp at hl
   | cons v vs =>
    rw [Q4k, Bool.and_eq_true] at hx hy
    rcases hd with hd | hd
    ·exact hd e v (hg 0 t v rfl rfl) hx.1 hy.1
    ·exact hd e vs (by simpa using hl) (fun j t v e1 e2 => hg (j + 1) t v (by simpa using e1) (by simpa using e2)) hx.2 hy.2
  refine ⟨?_, ?_, ?_⟩
  ·rw [List.pairwise_map]
   exact g1.imp fun {x y} hd => split2 x y as as (.inl hd)
  ·cases hm : fj a b with
   | none => exact List.Pairwise.nil
   | some m =>
    simp only
    rw [List.pairwise_map]
    exact ih.imp fun {x y} hd => split2 m m x y (.inr hd)
  ·intro x hx y hy
   obtain ⟨x0, hx0, rfl⟩ := List.mem_map.1 hx
   cases hm : fj a b with
   | none => rw [hm] at hy; cases hy
   | some m =>
    rw [hm] at hy
    simp only at hy
    obtain ⟨y0, _, rfl⟩ := List.mem_map.1 hy
    refine split2 x0 m as y0 (.inl fun e v hv f1 f2 => ?_)
    obtain ⟨q1, q2⟩ := g2 e v hv
    have := q1 x0 hx0 f1
    rw [q2 m hm f2] at this
    cases this
 | _ :: _, [], _, h, _, _ => by simp at h
 | _ :: _, _ :: _, [], _, h, _ => by simp at h
theorem W8k {w : List Q3} {fm : Q2 → Q0 → Q0 → List Q0} {fj : Q0 → Q0 → Option Q0} {t : Q2} {a b y : Q0} (ha : a.op = 4) (hy : y ∈ cmD w fm fj t a b) : y.op = 4 ∧ y.ctor = a.ctor := by
 unfold cmD at hy
 split at hy
 ·obtain ⟨ks, _, rfl⟩ := List.mem_map.1 hy
  exact ⟨rfl, rfl⟩
 ·simp only [List.mem_singleton] at hy
  subst hy
  exact ⟨ha, rfl⟩
theorem W37 {w : List Q3} {d x : Nat} (hM : ∀ (t : Q2) (a b : Q0) (x : Nat), t ∈ tys w → Z4 w x t a → Z4 w d t b → (X6 w d t a b).Pairwise (Disj w t)) {t : Q2} {c c' : Int} {ks ks' : List Q0} (hat : ∀ a ∈ Z6 w t c, a ∈ tys w) (ht : t.data ≠ -1)
  (hl : ks.length = (Z6 w t c).length) (hk : ∀ (j : Nat) (a : Q2) (q : Q0), (Z6 w t c)[j]? = some a → ks[j]? = some q → Z4 w x a q)
  (hl' : ks'.length = (Z6 w t c').length) (hk' : ∀ (j : Nat) (a : Q2) (q : Q0), (Z6 w t c')[j]? = some a → ks'[j]? = some q → Z4 w d a q) :
  (cmD w (X6 w d) (Q03 d) t (Q0.mk 4 c 0 0 0 ks) (Q0.mk 4 c' 0 0 0 ks')).Pairwise (Disj w t) := by
 unfold cmD
 by_cases hc : c = c'
 ·subst hc
  simp only [if_true]
  rw [List.pairwise_map]
  refine (W1v (w := w) (Z6 w t c) ks ks' hl hl' fun j u a b e1 e2 e3 => ⟨hM u a b x (hat u (List.mem_of_getElem? e1)) (hk j u a e1 e2) (hk' j u b e1 e3), fun e v hv => ⟨fun y hy hf => ?_, fun m hm hf => ?_⟩⟩).imp fun {xs ys} hd e v hv h1 h2 => ?_
  ·exact ((Z08 d e u a b x (hk j u a e1 e2) (hk' j u b e1 e3) v hv).2 ⟨y, hy, hf⟩).2
  ·exact ((X6m d e u a b x (hk j u a e1 e2) (hk' j u b e1 e3) v hv).2 ⟨m, hm, hf⟩).2
  ·rw [Q13 rfl, Bool.and_eq_true, decide_eq_true_eq] at h1 h2
   obtain ⟨e', rfl, _, g2, g3⟩ := Q69 hv ht
   have hcv : c = v.ctor := h1.1
   rw [← hcv] at g2 g3
   exact hd e' v.kids g2 (fun j u x e1 e2 => g3 j u x e1 e2) h1.2 h2.2
 ·simp only [if_neg hc, List.pairwise_cons, List.not_mem_nil, false_implies, implies_true, List.Pairwise.nil, and_self]
theorem X1q {w : List Q3} {t : Q2} {n m n' m' : Int} (h : n' ≤ m') : (Z12 n m n' m').Pairwise (Disj w t) := by
 have hd : Disj w t (Q0.mk 3 0 n (min m (n' - 1)) 0 []) (Q0.mk 3 0 (max n (m' + 1)) m 0 []) := fun e v _ h1 h2 => by
  rw [Q5h rfl, decide_eq_true_eq] at h1 h2
  simp only at h1 h2
  omega
 unfold Z12
 split <;> split <;> simp [hd]
theorem X8f {w : List Q3} (hw : WW w) (he : WE w) : ∀ (d : Nat) (t : Q2) (a b : Q0) (x : Nat), t ∈ tys w → Z4 w x t a → Z4 w d t b → (X6 w d t a b).Pairwise (Disj w t) := by
 intro d
 induction d with
 | zero => intro t a b x _ _ h; exact h.elim
 | succ d ih =>
  intro t a b x ht ha hb
  cases x with
  | zero => exact ha.elim
  | succ x =>
  rcases hb with rfl | ⟨n', m', rfl, ht', g0, g1, g2⟩ | ⟨c', ks', rfl, ht', hc', hl', hk'⟩
  ·simp [X6]
  ·have e1 : ¬ (3 : Int) = 1 := by decide
   simp only [X6, e1, if_false, if_true]
   split
   ·exact X1q g1
   ·exact X1q g1
  ·have e1 : ¬ (4 : Int) = 1 := by decide
   have e3 : ¬ (4 : Int) = 3 := by decide
   simp only [X6, e1, e3, if_false]
   rcases ha with rfl | ⟨n, m, rfl, ht2, _⟩ | ⟨c, ks, rfl, _, hc, hl, hk⟩
   ·simp only [if_true]
    rw [List.pairwise_flatMap]
    refine ⟨fun c hc => ?_, ?_⟩
    ·exact W37 (x := 1) ih ((hw.ty t ht).at_ c hc) ht' (by simp) (fun j a q ha hq => by
      rw [List.getElem?_map, ha] at hq
      cases hq
      exact Q8y w 0 a) hl' hk'
    ·refine (he.nd t ht).imp fun {c1 c2} hne y hy z hz e v hv f1 f2 => ?_
     obtain ⟨a1, a2⟩ := W8k (a := Q4u w t c1) rfl hy
     obtain ⟨b1, b2⟩ := W8k (a := Q4u w t c2) rfl hz
     rw [Q13 a1, Bool.and_eq_true, decide_eq_true_eq] at f1
     rw [Q13 b1, Bool.and_eq_true, decide_eq_true_eq] at f2
     have h1 : y.ctor = c1 := a2
     have h2 : z.ctor = c2 := b2
     exact hne (by rw [← h1, ← h2, f1.1, f2.1])
   ·exact absurd ht2 ht'
   ·simp only [e1, if_false]
    exact W37 ih ((hw.ty t ht).at_ c hc) ht' hl hk hl' hk'
theorem W71 {w : List Q3} {t : Q2} {a b x y : Q0} (h : Disj w t a b) (hx : ∀ e v, Q0y w e t v → fitP x v = true → fitP a v = true) (hy : ∀ e v, Q0y w e t v → fitP y v = true → fitP b v = true) : Disj w t x y :=
 fun e v hv h1 h2 => h e v hv (hx e v hv h1) (hy e v hv h2)
theorem W0o {w : List Q3} (hw : WW w) (he : WE w) {d x : Nat} {t : Q2} (ht : t ∈ tys w) {b : Q0} (hb : Z4 w d t b) {l : List Q0} (h : ∀ a ∈ l, Z4 w x t a) (hd : l.Pairwise (Disj w t)) : (Q2p w d x t l b).Pairwise (Disj w t) := by
 unfold Q2p Q68
 refine List.Pairwise.filter _ ?_
 rw [List.pairwise_flatMap]
 refine ⟨fun a ha => X8f hw he d t a b x ht (h a ha) hb, ?_⟩
 have hall : ∀ l : List Q0, (∀ a ∈ l, Z4 w x t a) → l.Pairwise (Disj w t) → l.Pairwise (fun a₁ a₂ => ∀ y ∈ X6 w d t a₁ b, ∀ z ∈ X6 w d t a₂ b, Disj w t y z) := by
  intro l
  induction l with
  | nil => intro _ _; exact List.Pairwise.nil
  | cons a l ih =>
   intro h hd
   rw [List.pairwise_cons] at hd ⊢
   refine ⟨fun a2 ha2 y hy z hz => W71 (hd.1 a2 ha2) (fun e v hv hf => ?_) (fun e v hv hf => ?_), ih (fun a ha => h a (by simp [ha])) hd.2⟩
   ·exact ((Z08 d e t a b x (h a (by simp)) hb v hv).2 ⟨y, hy, hf⟩).1
   ·exact ((Z08 d e t a2 b x (h a2 (by simp [ha2])) hb v hv).2 ⟨z, hz, hf⟩).1
 exact hall l h hd
theorem X3e {w : List Q3} (hw : WW w) (he : WE w) {d x : Nat} {t : Q2} (ht : t ∈ tys w) (hx : d + 1 ≤ x) : ∀ (bs l r : List Q0), (∀ b ∈ bs, Z4 w d t b) → (∀ a ∈ l, Z4 w x t a) → l.Pairwise (Disj w t) → Q4y w d x t l bs = some r → r.Pairwise (Disj w t)
 | [], l, r, _, _, hd, e => by simp only [Q4y, Option.some.injEq] at e; subst e; exact hd
 | b :: bs, l, r, hb, h, hd, e => by
  simp only [Q4y] at e
  split at e
  ·cases e
  ·exact X3e hw he ht hx bs _ r (fun b hb' => hb b (by simp [hb'])) (Q75 hx (hb b (by simp)) h) (W0o hw he ht (hb b (by simp)) h hd) e
theorem X12 {w : List Q3} (hw : WW w) (he : WE w) {d x : Nat} {t : Q2} (ht : t ∈ tys w) (hx : d + 1 ≤ x) {l bs r : List Q0} (hb : ∀ b ∈ bs, Z4 w d t b) (h : ∀ a ∈ l, Z4 w x t a) (hd : l.Pairwise (Disj w t)) (e : Q1d w d x t l bs = some r) : r.Pairwise (Disj w t) :=
 X3e hw he ht hx bs _ r hb (fun a ha => h a (List.mem_filter.1 ha).1) (hd.filter _) e
theorem X69 {w : List Q3} (hw : WW w) (he : WE w) {t : Q2} (ht : t ∈ tys w) : ∀ (ps bef r : List Q0), (∀ b ∈ bef, Z4 w 10 t b) → (∀ p ∈ ps, Z4 w 10 t p) → sepP w t bef ps = some r → r.Pairwise (Disj w t)
 | [], _, r, _, _, e => by simp only [sepP, Option.some.injEq] at e; subst e; exact List.Pairwise.nil
 | p :: ps, bef, r, hb, hp, e => by
  simp only [sepP] at e
  cases hm : Q1d w 10 11 t [p] bef with
  | none => rw [hm] at e; simp at e
  | some m =>
   rw [hm] at e
   simp only [Option.bind_some, Option.map_eq_some_iff] at e
   obtain ⟨r2, h2, rfl⟩ := e
   have hp1 : ∀ a ∈ [p], Z4 w 11 t a := fun a ha => by simp only [List.mem_singleton] at ha; rw [ha]; exact Q51 10 t p (hp p (by simp))
   have hb2 : ∀ b ∈ bef ++ [p], Z4 w 10 t b := fun b hb' => by
    rcases List.mem_append.1 hb' with h | h
    ·exact hb b h
    ·simp only [List.mem_singleton] at h; rw [h]; exact hp p (by simp)
   rw [List.pairwise_append]
   refine ⟨X12 hw he ht (by omega) hb hp1 (List.pairwise_singleton _ _) hm, X69 hw he ht ps _ r2 hb2 (fun q hq => hp q (by simp [hq])) h2, fun y hy z hz e v hv f1 f2 => ?_⟩
   obtain ⟨⟨a, ha, haf⟩, _⟩ := (Z1m hw he ht (by omega) hv hb hp1 hm).1 ⟨y, hy, f1⟩
   simp only [List.mem_singleton] at ha
   subst ha
   have := ((X49 hw he ht hv ps _ r2 hb2 (fun q hq => hp q (by simp [hq])) h2).1 ⟨z, hz, f2⟩).2 a (by simp)
   rw [haf] at this
   cases this
theorem X9l {w : List Q3} {t : Q2} {e : Nat} {C : List Q5} (hC : ∀ v ∈ C, Q0y w e t v) {l : List Q0} (hd : l.Pairwise (Disj w t)) (h : ∀ p ∈ l, ∃ v ∈ C, fitP p v = true) : l.length ≤ C.length := by
 have key : ∀ (l : List Q0), l.Pairwise (Disj w t) → (∀ p ∈ l, ∃ v ∈ C, fitP p v = true) → ∃ js : List Int, js.length = l.length ∧ js.Nodup ∧ ∀ j ∈ js, ∃ k : Nat, j = (k : Int) ∧ ∃ v, C[k]? = some v ∧ ∃ p ∈ l, fitP p v = true := by
  intro l
  induction l with
  | nil => intro _ _; exact ⟨[], rfl, List.nodup_nil, fun j h => by cases h⟩
  | cons p l ih =>
   intro hd h
   rw [List.pairwise_cons] at hd
   obtain ⟨js, h1, h2, h3⟩ := ih hd.2 fun q hq => h q (by simp [hq])
   obtain ⟨v, hv, hf⟩ := h p (by simp)
   obtain ⟨k, hk⟩ := List.mem_iff_getElem?.1 hv
   refine ⟨(k : Int) :: js, by simp [h1], List.nodup_cons.2 ⟨fun hm => ?_, h2⟩, fun j hj => ?_⟩
   ·obtain ⟨k', e1, v', e2, q, hq, hqf⟩ := h3 _ hm
    have : k = k' := by omega
    subst this
    rw [hk] at e2
    cases e2
    exact hd.1 q hq e v (hC v hv) hf hqf
   ·rcases List.mem_cons.1 hj with rfl | hj
    ·exact ⟨k, rfl, v, hk, p, by simp, hf⟩
    ·obtain ⟨k', e1, v', e2, q, hq, hqf⟩ := h3 j hj
     exact ⟨k', e1, v', e2, q, by simp [hq], hqf⟩
 obtain ⟨js, h1, h2, h3⟩ := key l hd h
 rw [← h1]
 refine Z5y C.length js h2 fun j hj => ?_
 obtain ⟨k, rfl, v, hv, _⟩ := h3 j hj
 have := (List.getElem?_eq_some_iff.1 hv).1
 omega
end Go.Proofs.YtnackipaoepmfaaGreat
namespace Go.Proofs.YtnackipaoepmfaaGreat
open Go Go.RowKit
def X27 (w : List Q3) : Nat → Q2 → Q5
 | 0, _ => ⟨0, 0, []⟩
 | d + 1, t => if t.data = -1 then ⟨-1, 0, []⟩ else match (Z9 w t).find? (fun c => decide (Q52 w t c = depP w t)) with
  | none => ⟨0, 0, []⟩
  | some c => ⟨c, 0, (Z6 w t c).map (X27 w d)⟩
def Z13 (w : List Q3) (t : Q2) : List Q5 := if t.data = -1 then (List.range 10).map numV else
 ((Z9 w t).filter fun c => (Z6 w t c).all fun a => decide (depP w a ≠ 0)).map fun c => ⟨c, 0, (Z6 w t c).map (X27 w 5)⟩
def Z7t (w : List Q3) (t : Q2) : List Q5 := if t.data = -1 then (List.range 10).map numV else
 (Z9 w t).flatMap fun c => (((Z6 w t c).map (Z13 w)).foldl tupV [[]]).map (mkV c)
def V4n (l : List Nat) : Nat := l.foldl (fun a b => a * max 1 b) 1
def chkR (w : List Q3) : Bool := (tys w).all fun t => (decide (depP w t = 0) || Q5z w 10 t (X27 w 5 t)) && (decide ((Z7t w t).length ≤ 400) && (Z9 w t).all fun c => decide (V4n ((Z6 w t c).map fun a => (Z13 w a).length) ≤ 400))
theorem V9s : Q1i.all chkR = true := by kernel_rfl
structure WR (w : List Q3) : Prop where
 least : ∀ t ∈ tys w, depP w t ≠ 0 → Q0y w 10 t (X27 w 5 t)
 n2 : ∀ t ∈ tys w, (Z7t w t).length ≤ 400
 n1 : ∀ t ∈ tys w, ∀ c ∈ Z9 w t, V4n ((Z6 w t c).map fun a => (Z13 w a).length) ≤ 400
theorem wr {w : List Q3} (h : w ∈ Q1i) : WR w := by
 have h1 := List.all_eq_true.1 V9s w h
 simp only [chkR, List.all_eq_true, Bool.and_eq_true, Bool.or_eq_true, decide_eq_true_eq] at h1
 exact ⟨fun t ht h0 => (Z3j 10 t _).1 (((h1 t ht).1).resolve_left h0), fun t ht => (h1 t ht).2.1, fun t ht c hc => (h1 t ht).2.2 c hc⟩
def hgt1 (p : Q0) : Prop := p.op = 1 ∨ p.op = 3 ∨ (p.op = 4 ∧ ∀ q ∈ p.kids, q.op = 1)
def hgt2 (p : Q0) : Prop := p.op = 1 ∨ p.op = 3 ∨ (p.op = 4 ∧ ∀ q ∈ p.kids, hgt1 q)
theorem V52 {p : Q0} (h : hgt1 p) : hgt2 p := by
 rcases h with h | h | h
 ·exact .inl h
 ·exact .inr (.inl h)
 ·exact .inr (.inr ⟨h.1, fun q hq => .inl (h.2 q hq)⟩)
theorem Z61 : ∀ (ls : List (List Q5)) (out : List (List Q5)) (o vs : List Q5), o ∈ out → vs.length = ls.length → (∀ (j : Nat) (v : Q5) (l : List Q5), vs[j]? = some v → ls[j]? = some l → v ∈ l) → o ++ vs ∈ ls.foldl tupV out
 | [], out, o, [], ho, _, _ => by simpa using ho
 | l :: ls, out, o, v :: vs, ho, hl, h => by
  rw [List.foldl_cons]
  have := Z61 ls (tupV out l) (o ++ [v]) vs (List.mem_flatMap.2 ⟨o, ho, List.mem_map.2 ⟨v, h 0 v l rfl rfl, rfl⟩⟩) (by simpa using hl) fun j v l h1 h2 => h (j + 1) v l (by simpa using h1) (by simpa using h2)
  simpa using this
 | [], _, _, _ :: _, _, h, _ => by simp at h
 | _ :: _, _, _, [], _, h, _ => by simp at h
theorem V04 {ps : List Q0} : ∀ {vs : List Q5}, ps.length = vs.length → (∀ (j : Nat) (p : Q0) (v : Q5), ps[j]? = some p → vs[j]? = some v → fitP p v = true) → fitL ps vs = true := by
 induction ps with
 | nil => intro vs h _; cases vs with
  | nil => exact Z57
  | cons v vs => simp at h
 | cons p ps ih =>
  intro vs h hf
  cases vs with
  | nil => simp at h
  | cons v vs =>
   rw [Q4k, Bool.and_eq_true]
   exact ⟨hf 0 p v rfl rfl, ih (by simpa using h) fun j p v h1 h2 => hf (j + 1) p v (by simpa using h1) (by simpa using h2)⟩
theorem X02 {w : List Q3} {e : Nat} {t : Q2} {c : Int} {vs : List Q5} (hd : t.data ≠ -1) (hc : c ∈ Z9 w t) (hl : vs.length = (Z6 w t c).length) (h : ∀ (j : Nat) (a : Q2) (x : Q5), (Z6 w t c)[j]? = some a → vs[j]? = some x → Q0y w e a x) : Q0y w (e + 1) t ⟨c, 0, vs⟩ := by
 rw [Q0y, if_neg hd]
 exact ⟨rfl, hc, hl, h⟩
theorem Z9n {w : List Q3} {e : Nat} {t : Q2} (hd : t.data = -1) {n : Nat} (hn : n < 10) : Q0y w (e + 1) t (numV n) := by
 rw [Q0y, if_pos hd]
 exact ⟨rfl, by simp only [numV]; omega, by simp only [numV]; omega, rfl⟩
theorem Z8k {w : List Q3} (hw : WW w) (hr : WR w) {t : Q2} (ht : t ∈ tys w) {v : Q5} (hv : v ∈ Z13 w t) : Q0y w 11 t v := by
 unfold Z13 at hv
 split at hv
 ·rename_i hd
  obtain ⟨n, hn, rfl⟩ := List.mem_map.1 hv
  exact Z9n hd (List.mem_range.1 hn)
 ·rename_i hd
  obtain ⟨c, hc, rfl⟩ := List.mem_map.1 hv
  obtain ⟨h1, h2⟩ := List.mem_filter.1 hc
  refine X02 hd h1 (by simp) fun j a x ha hx => ?_
  rw [List.getElem?_map, ha] at hx
  simp only [Option.map_some, Option.some.injEq] at hx
  subst hx
  have ham := List.mem_of_getElem? ha
  exact hr.least a ((hw.ty t ht).at_ c h1 a ham) (by simpa using List.all_eq_true.1 h2 a ham)
theorem X85 {w : List Q3} (hw : WW w) (hr : WR w) {t : Q2} (ht : t ∈ tys w) {v : Q5} (hv : v ∈ Z7t w t) : Q0y w 12 t v := by
 unfold Z7t at hv
 split at hv
 ·rename_i hd
  obtain ⟨n, hn, rfl⟩ := List.mem_map.1 hv
  exact Z9n hd (List.mem_range.1 hn)
 ·rename_i hd
  obtain ⟨c, hc, hv⟩ := List.mem_flatMap.1 hv
  obtain ⟨ks, hks, rfl⟩ := List.mem_map.1 hv
  obtain ⟨a, b, ha, rfl, hl, hb⟩ := Q9r _ _ _ hks
  simp only [List.mem_singleton] at ha
  subst ha
  simp only [List.length_map] at hl
  refine X02 hd hc (by simpa using hl) fun j u x hu hx => ?_
  exact Z8k hw hr ((hw.ty t ht).at_ c hc u (List.mem_of_getElem? hu)) (hb j x (Z13 w u) (by simpa using hx) (by rw [List.getElem?_map, hu]; rfl))
theorem rep1 {w : List Q3} (hw : WW w) {t : Q2} (ht : t ∈ tys w) {d : Nat} {p : Q0} (hp : Z4 w d t p) (h1 : hgt1 p) (he : W6 w d t p = false) : ∃ v ∈ Z13 w t, fitP p v = true := by
 have hT := hw.ty t ht
 cases d with
 | zero => exact hp.elim
 | succ d =>
 rcases hp with rfl | ⟨n, m, rfl, hd, g0, g1, g2⟩ | ⟨c, ks, rfl, hd, hc, hl, hk⟩
 ·simp only [W6, if_true, decide_eq_false_iff_not] at he
  unfold Z13
  split
  ·exact ⟨numV 0, List.mem_map_of_mem (List.mem_range.2 (by omega)), Q5i rfl _⟩
  ·rename_i hd
   obtain ⟨k, hk, hm⟩ := hT.dm hd he
   exact ⟨_, List.mem_map_of_mem (List.mem_filter.2 ⟨hk, List.all_eq_true.2 fun a ha => by
    have := (hT.ma k hk (by omega) a ha).1
    simp only [ne_eq, decide_not, Bool.not_eq_true', decide_eq_false_iff_not]; omega⟩), Q5i rfl _⟩
 ·unfold Z13
  rw [if_pos hd]
  refine ⟨numV n.toNat, List.mem_map_of_mem (List.mem_range.2 (by omega)), ?_⟩
  rw [Q5h rfl, decide_eq_true_eq]
  simp only [numV]
  omega
 ·unfold Z13
  rw [if_neg hd]
  have hks : ∀ q ∈ ks, q.op = 1 := by
   rcases h1 with h | h | h
   ·simp at h
   ·simp at h
   ·exact h.2
  refine ⟨⟨c, 0, (Z6 w t c).map (X27 w 5)⟩, List.mem_map.2 ⟨c, List.mem_filter.2 ⟨hc, List.all_eq_true.2 fun a ha => ?_⟩, rfl⟩, ?_⟩
  ·obtain ⟨j, hj⟩ := List.mem_iff_getElem?.1 ha
   have hjl := (List.getElem?_eq_some_iff.1 hj).1
   have hq : ks[j]? = some (ks[j]'(by omega)) := by simp
   simp only [ne_eq, decide_not, Bool.not_eq_true', decide_eq_false_iff_not]
   intro h0
   have : W6 w (d + 1) t (Q0.mk 4 c 0 0 0 ks) = true := Q44.2 ⟨j, a, _, hj, hq, by
    cases d with
    | zero => exact (hk j a _ hj hq).elim
    | succ d => rw [W6, if_pos (hks _ (List.mem_of_getElem? hq))]; simpa using h0⟩
   rw [he] at this
   cases this
  ·rw [Q13 rfl, Bool.and_eq_true, decide_eq_true_eq]
   exact ⟨rfl, V04 (by simp only [List.length_map]; exact hl) fun j q v hq _ => Q5i (hks q (List.mem_of_getElem? hq)) v⟩
theorem rep2 {w : List Q3} (hw : WW w) {t : Q2} (ht : t ∈ tys w) {d : Nat} {p : Q0} (hp : Z4 w d t p) (h2 : hgt2 p) (he : W6 w d t p = false) : ∃ v ∈ Z7t w t, fitP p v = true := by
 have hT := hw.ty t ht
 cases d with
 | zero => exact hp.elim
 | succ d =>
 have ctor : ∀ (d : Nat) (c : Int) (ks : List Q0), t.data ≠ -1 → c ∈ Z9 w t → ks.length = (Z6 w t c).length → (∀ (j : Nat) (a : Q2) (q : Q0), (Z6 w t c)[j]? = some a → ks[j]? = some q → Z4 w d a q ∧ hgt1 q ∧ W6 w d a q = false) → ∃ v ∈ Z7t w t, fitP (Q0.mk 4 c 0 0 0 ks) v = true := fun d c ks hd hc hl hk => by
  have gen : ∀ (ts : List Q2) (ks : List Q0), ks.length = ts.length → (∀ a ∈ ts, a ∈ tys w) → (∀ (j : Nat) (a : Q2) (q : Q0), ts[j]? = some a → ks[j]? = some q → Z4 w d a q ∧ hgt1 q ∧ W6 w d a q = false) →
    ∃ vs : List Q5, vs.length = ts.length ∧ (∀ (j : Nat) (v : Q5) (l : List Q5), vs[j]? = some v → (ts.map (Z13 w))[j]? = some l → v ∈ l) ∧ fitL ks vs = true := by
   intro ts
   induction ts with
   | nil => intro ks hl _ _; exact ⟨[], rfl, fun j v l h => by simp at h, by cases ks with
     | nil => exact Z57
     | cons k ks => simp at hl⟩
   | cons a ts ih =>
    intro ks hl hat hk
    cases ks with
    | nil => simp at hl
    | cons q ks =>
     obtain ⟨vs, e1, e2, e3⟩ := ih ks (by simpa using hl) (fun x hx => hat x (by simp [hx])) fun j a q h1 h2 => hk (j + 1) a q (by simpa using h1) (by simpa using h2)
     obtain ⟨g1, g2, g3⟩ := hk 0 a q rfl rfl
     obtain ⟨v, hv, hf⟩ := rep1 hw (hat a (by simp)) g1 g2 g3
     refine ⟨v :: vs, by simp [e1], fun j x l h1 h2 => ?_, by rw [Q4k, hf, e3]; rfl⟩
     cases j with
     | zero => simp only [List.getElem?_cons_zero, List.map_cons, Option.some.injEq] at h1 h2; subst h1 h2; exact hv
     | succ j => exact e2 j x l (by simpa using h1) (by simpa using h2)
  obtain ⟨vs, e1, e2, e3⟩ := gen _ ks hl (hT.at_ c hc) hk
  refine ⟨mkV c vs, ?_, by rw [Q13 rfl]; simp [mkV, e3]⟩
  unfold Z7t
  rw [if_neg hd]
  refine List.mem_flatMap.2 ⟨c, hc, List.mem_map_of_mem ?_⟩
  have := Z61 ((Z6 w t c).map (Z13 w)) [[]] [] vs (by simp) (by simpa using e1) e2
  simpa using this
 rcases hp with rfl | ⟨n, m, rfl, hd, g0, g1, g2⟩ | ⟨c, ks, rfl, hd, hc, hl, hk⟩
 ·simp only [W6, if_true, decide_eq_false_iff_not] at he
  by_cases hd : t.data = -1
  ·unfold Z7t
   rw [if_pos hd]
   exact ⟨numV 0, List.mem_map_of_mem (List.mem_range.2 (by omega)), Q5i rfl _⟩
  ·obtain ⟨k, hk, hm⟩ := hT.dm hd he
   obtain ⟨v, hv, _⟩ := ctor 1 k ((Z6 w t k).map fun _ => Q0.mk 1 0 0 0 0 []) hd hk (by simp) fun j a q ha hq => by
    rw [List.getElem?_map, ha] at hq
    simp only [Option.map_some, Option.some.injEq] at hq
    subst hq
    refine ⟨Q8y w 0 a, .inl rfl, ?_⟩
    have := (hT.ma k hk (by omega) a (List.mem_of_getElem? ha)).1
    simp only [W6, if_true, decide_eq_false_iff_not]
    omega
   exact ⟨v, hv, Q5i rfl _⟩
 ·unfold Z7t
  rw [if_pos hd]
  refine ⟨numV n.toNat, List.mem_map_of_mem (List.mem_range.2 (by omega)), ?_⟩
  rw [Q5h rfl, decide_eq_true_eq]
  simp only [numV]
  omega
 ·have hks : ∀ q ∈ ks, hgt1 q := by
   rcases h2 with h | h | h
   ·simp at h
   ·simp at h
   ·exact h.2
  refine ctor d c ks hd hc hl fun j a q ha hq => ⟨hk j a q ha hq, hks q (List.mem_of_getElem? hq), ?_⟩
  cases hem : W6 w d a q with
  | false => rfl
  | true =>
   have : W6 w (d + 1) t (Q0.mk 4 c 0 0 0 ks) = true := Q44.2 ⟨j, a, q, ha, hq, hem⟩
   rw [he] at this
   cases this
theorem Z3h {w : List Q3} (hw : WW w) (hr : WR w) : ∀ (d : Nat) (t : Q2) (p : Q0), t ∈ tys w → Z4 w d t p → W6 w d t p = false → ∃ v, Q0y w (d + 10) t v ∧ fitP p v = true
 | 0, _, _, _, h, _ => h.elim
 | d + 1, t, p, ht, hp, he => by
  rcases hp with rfl | ⟨n, m, rfl, hd, g0, g1, g2⟩ | ⟨c, ks, rfl, hd, hc, hl, hk⟩
  ·simp only [W6, if_true, decide_eq_false_iff_not] at he
   exact ⟨_, Z0v 10 _ t _ (by omega) (hr.least t ht he), Q5i rfl _⟩
  ·refine ⟨numV n.toNat, Z9n hd (by omega), ?_⟩
   rw [Q5h rfl, decide_eq_true_eq]
   simp only [numV]
   omega
  ·have hat := (hw.ty t ht).at_ c hc
   have gen : ∀ (ts : List Q2) (ks : List Q0), ks.length = ts.length → (∀ a ∈ ts, a ∈ tys w) → (∀ (j : Nat) (a : Q2) (q : Q0), ts[j]? = some a → ks[j]? = some q → Z4 w d a q ∧ W6 w d a q = false) →
     ∃ vs : List Q5, vs.length = ts.length ∧ (∀ (j : Nat) (a : Q2) (v : Q5), ts[j]? = some a → vs[j]? = some v → Q0y w (d + 10) a v) ∧ fitL ks vs = true := by
    intro ts
    induction ts with
    | nil => intro ks hl _ _; exact ⟨[], rfl, fun j a v h => by simp at h, by cases ks with
      | nil => exact Z57
      | cons k ks => simp at hl⟩
    | cons a ts ih =>
     intro ks hl hat hk
     cases ks with
     | nil => simp at hl
     | cons q ks =>
      obtain ⟨vs, e1, e2, e3⟩ := ih ks (by simpa using hl) (fun x hx => hat x (by simp [hx])) fun j a q h1 h2 => hk (j + 1) a q (by simpa using h1) (by simpa using h2)
      obtain ⟨g1, g3⟩ := hk 0 a q rfl rfl
      obtain ⟨v, hv, hf⟩ := Z3h hw hr d a q (hat a (by simp)) g1 g3
      refine ⟨v :: vs, by simp [e1], fun j b x h1 h2 => ?_, by rw [Q4k, hf, e3]; rfl⟩
      cases j with
      | zero => simp only [List.getElem?_cons_zero, Option.some.injEq] at h1 h2; subst h1 h2; exact hv
      | succ j => exact e2 j b x (by simpa using h1) (by simpa using h2)
   obtain ⟨vs, e1, e2, e3⟩ := gen _ ks hl hat fun j a q ha hq => ⟨hk j a q ha hq, by
    cases hem : W6 w d a q with
    | false => rfl
    | true =>
     have : W6 w (d + 1) t (Q0.mk 4 c 0 0 0 ks) = true := Q44.2 ⟨j, a, q, ha, hq, hem⟩
     rw [he] at this
     cases this⟩
   refine ⟨⟨c, 0, vs⟩, ?_, by rw [Q13 rfl]; simp [e3]⟩
   have := X02 (e := d + 10) hd hc e1 e2
   rw [show d + 1 + 10 = d + 10 + 1 by omega]
   exact this
end Go.Proofs.YtnackipaoepmfaaGreat
namespace Go.Proofs.YtnackipaoepmfaaGreat
open Go Go.RowKit
theorem X6n {d : Nat} {a b m : Q0} (ha : a.op = 1) (h : Q03 d a b = some m) : m = b := by
 cases d with
 | zero => simp [Q03] at h
 | succ d => rw [Q03, if_pos ha] at h; cases h; rfl
theorem X20 {w : List Q3} {d : Nat} {t : Q2} {a b : Q0} (hb : b.op = 1) : X6 w d t a b = [] := by
 cases d with
 | zero => rfl
 | succ d => rw [X6, if_pos hb]
theorem W94 {n m n' m' : Int} : ∀ y ∈ Z12 n m n' m', y.op = 3 := fun y hy => by
 unfold Z12 at hy
 rcases List.mem_append.1 hy with h | h <;> split at h <;> simp at h <;> rw [h]
structure Cl (w : List Q3) (d x : Nat) (t : Q2) (P : Q0 → Prop) : Prop where
 mi : ∀ a b, P a → P b → Z4 w x t a → Z4 w d t b → ∀ y ∈ X6 w d t a b, P y
 me : ∀ a b, P a → P b → Z4 w x t a → Z4 w d t b → ∀ m, Q03 d a b = some m → P m
theorem V4y {w : List Q3} {d x : Nat} {ts : List Q2} {as bs : List Q0} {P : Nat → Q0 → Prop} (h1 : as.length = ts.length) (h2 : bs.length = ts.length)
  (h : ∀ (j : Nat) (t : Q2) (a b : Q0), ts[j]? = some t → as[j]? = some a → bs[j]? = some b → P j a ∧ P j b ∧ Z4 w x t a ∧ Z4 w d t b ∧ Cl w d x t (P j)) :
  ∀ ks ∈ kmD (X6 w d) (Q03 d) ts as bs, ks.length = ts.length ∧ ∀ (j : Nat) (q : Q0), ks[j]? = some q → P j q := fun ks hks => by
 obtain ⟨g1, i, hi, g2⟩ := X6p ts as bs h1 h2 ks hks
 refine ⟨g1, fun j q hq => ?_⟩
 have hj := (List.getElem?_eq_some_iff.1 hq).1
 have ht : ts[j]? = some (ts[j]'(by omega)) := by simp
 have ha : as[j]? = some (as[j]'(by omega)) := by simp
 have hb : bs[j]? = some (bs[j]'(by omega)) := by simp
 obtain ⟨p1, p2, p3, p4, p5⟩ := h j _ _ _ ht ha hb
 obtain ⟨q1, q2, q3⟩ := g2 j _ _ _ q ht ha hb hq
 rcases Nat.lt_trichotomy j i with hji | hji | hji
 ·exact p5.me _ _ p1 p2 p3 p4 q (q1 hji)
 ·exact p5.mi _ _ p1 p2 p3 p4 q (q2 hji)
 ·rw [q3 hji]; exact p1
theorem W5e {w : List Q3} {d x : Nat} {ts : List Q2} {as bs ms : List Q0} {P : Nat → Q0 → Prop} (h1 : as.length = ts.length) (h2 : bs.length = ts.length)
  (h : ∀ (j : Nat) (t : Q2) (a b : Q0), ts[j]? = some t → as[j]? = some a → bs[j]? = some b → P j a ∧ P j b ∧ Z4 w x t a ∧ Z4 w d t b ∧ Cl w d x t (P j)) (hm : Q3q (Q03 d) as bs = some ms) :
  ms.length = ts.length ∧ ∀ (j : Nat) (q : Q0), ms[j]? = some q → P j q := by
 obtain ⟨g1, g2⟩ := Z2l as bs ms (by omega) hm
 refine ⟨by omega, fun j q hq => ?_⟩
 have hj := (List.getElem?_eq_some_iff.1 hq).1
 have ht : ts[j]? = some (ts[j]'(by omega)) := by simp
 have ha : as[j]? = some (as[j]'(by omega)) := by simp
 have hb : bs[j]? = some (bs[j]'(by omega)) := by simp
 obtain ⟨p1, p2, p3, p4, p5⟩ := h j _ _ _ ht ha hb
 obtain ⟨m, e1, e2⟩ := g2 j _ _ ha hb
 rw [hq] at e2
 cases e2
 exact p5.me _ _ p1 p2 p3 p4 q e1
def famP (Q : Q0 → Prop) (p : Q0) : Prop := p.op = 1 ∨ p.op = 3 ∨ (p.op = 4 ∧ ∀ q ∈ p.kids, Q q)
theorem W8f {w : List Q3} (hw : WW w) {d x : Nat} (hx1 : 1 ≤ x) {Q : Q0 → Prop} (hq : ∀ p : Q0, p.op = 1 → Q p) (hQ : ∀ t ∈ tys w, Cl w d x t Q) {t : Q2} (ht : t ∈ tys w) : Cl w (d + 1) (x + 1) t (famP Q) := by
 have hT := hw.ty t ht
 have kids : ∀ (c : Int) (ks ks' : List Q0), c ∈ Z9 w t → (∀ q ∈ ks, Q q) → (∀ q ∈ ks', Q q) → ks.length = (Z6 w t c).length → ks'.length = (Z6 w t c).length →
   (∀ (j : Nat) (a : Q2) (q : Q0), (Z6 w t c)[j]? = some a → ks[j]? = some q → Z4 w x a q) → (∀ (j : Nat) (a : Q2) (q : Q0), (Z6 w t c)[j]? = some a → ks'[j]? = some q → Z4 w d a q) →
   ∀ (j : Nat) (u : Q2) (a b : Q0), (Z6 w t c)[j]? = some u → ks[j]? = some a → ks'[j]? = some b → (fun _ => Q) j a ∧ (fun _ => Q) j b ∧ Z4 w x u a ∧ Z4 w d u b ∧ Cl w d x u ((fun _ => Q) j) :=
  fun c ks ks' hc h1 h2 _ _ h5 h6 j u a b e1 e2 e3 => ⟨h1 a (List.mem_of_getElem? e2), h2 b (List.mem_of_getElem? e3), h5 j u a e1 e2, h6 j u b e1 e3, hQ u (hT.at_ c hc u (List.mem_of_getElem? e1))⟩
 have cm : ∀ (x' : Nat) (c c' : Int) (ks ks' : List Q0), x' ≤ x → c ∈ Z9 w t → (∀ q ∈ ks, Q q) → (∀ q ∈ ks', Q q) → ks.length = (Z6 w t c).length → ks'.length = (Z6 w t c').length →
   (∀ (j : Nat) (a : Q2) (q : Q0), (Z6 w t c)[j]? = some a → ks[j]? = some q → Z4 w x' a q) → (∀ (j : Nat) (a : Q2) (q : Q0), (Z6 w t c')[j]? = some a → ks'[j]? = some q → Z4 w d a q) →
   ∀ y ∈ cmD w (X6 w d) (Q03 d) t (Q0.mk 4 c 0 0 0 ks) (Q0.mk 4 c' 0 0 0 ks'), famP Q y := fun x' c c' ks ks' hx' hc h1 h2 h3 h4 h5 h6 y hy => by
  unfold cmD at hy
  by_cases hcc : c = c'
  ·subst hcc
   simp only [if_true] at hy
   obtain ⟨zs, hz, rfl⟩ := List.mem_map.1 hy
   refine .inr (.inr ⟨rfl, fun q hq => ?_⟩)
   obtain ⟨j, hj⟩ := List.mem_iff_getElem?.1 hq
   exact (V4y h3 h4 (kids c ks ks' hc h1 h2 h3 h4 (fun j a q e1 e2 => X4l (h5 j a q e1 e2) hx') h6) zs hz).2 j q hj
  ·simp only [if_neg hcc, List.mem_singleton] at hy
   subst hy
   exact .inr (.inr ⟨rfl, h1⟩)
 refine ⟨fun a b ha hb pa pb y hy => ?_, fun a b ha hb pa pb m hm => ?_⟩
 ·rcases pb with rfl | ⟨n', m', rfl, _⟩ | ⟨c', ks', rfl, hd', hc', hl', hk'⟩
  ·rw [X20 rfl] at hy; cases hy
  ·have e1 : ¬ (3 : Int) = 1 := by decide
   simp only [X6, e1, if_false, if_true] at hy
   refine .inr (.inl ?_)
   split at hy <;> exact W94 y hy
  ·have e1 : ¬ (4 : Int) = 1 := by decide
   have e3 : ¬ (4 : Int) = 3 := by decide
   have hbk : ∀ q ∈ ks', Q q := by
    rcases hb with h | h | h
    ·simp at h
    ·simp at h
    ·exact h.2
   simp only [X6, e1, e3, if_false] at hy
   rcases pa with rfl | ⟨n, m, rfl, hd, _⟩ | ⟨c, ks, rfl, hd, hc, hl, hk⟩
   ·simp only [if_true, List.mem_flatMap] at hy
    obtain ⟨c, hc, hy⟩ := hy
    unfold Q4u at hy
    exact cm 1 c c' _ ks' hx1 hc (fun q hq' => by obtain ⟨_, _, rfl⟩ := List.mem_map.1 hq'; exact hq _ rfl) hbk (by simp) hl' (fun j a q ha hq' => by
      rw [List.getElem?_map, ha] at hq'
      cases hq'
      exact Q8y w 0 a) hk' y hy
   ·exact absurd hd hd'
   ·have hak : ∀ q ∈ ks, Q q := by
     rcases ha with h | h | h
     ·simp at h
     ·simp at h
     ·exact h.2
    simp only [e1, if_false] at hy
    exact cm x c c' ks ks' (Nat.le_refl _) hc hak hbk hl hl' hk hk' y hy
 ·rcases pa with rfl | ⟨n, m, rfl, hd, _⟩ | ⟨c, ks, rfl, hd, hc, hl, hk⟩
  ·rw [X6n rfl hm]; exact hb
  ·rcases pb with rfl | ⟨n', m', rfl, _⟩ | ⟨c', ks', rfl, hd', _⟩
   ·simp [Q03] at hm; subst hm; exact .inr (.inl rfl)
   ·simp [Q03] at hm; obtain ⟨_, rfl⟩ := hm; exact .inr (.inl rfl)
   ·exact absurd hd hd'
  ·rcases pb with rfl | ⟨n', m', rfl, hd', _⟩ | ⟨c', ks', rfl, hd', hc', hl', hk'⟩
   ·simp [Q03] at hm; subst hm; exact ha
   ·exact absurd hd' hd
   ·have hak : ∀ q ∈ ks, Q q := by
     rcases ha with h | h | h
     ·simp at h
     ·simp at h
     ·exact h.2
    have hbk : ∀ q ∈ ks', Q q := by
     rcases hb with h | h | h
     ·simp at h
     ·simp at h
     ·exact h.2
    simp only [Q03] at hm
    simp at hm
    obtain ⟨rfl, zs, hz, rfl⟩ := hm
    refine .inr (.inr ⟨rfl, fun q hq' => ?_⟩)
    obtain ⟨j, hj⟩ := List.mem_iff_getElem?.1 hq'
    exact (W5e hl hl' (kids c ks ks' hc hak hbk hl hl' hk hk') hz).2 j q hj
theorem V67 {w : List Q3} (d x : Nat) (t : Q2) : Cl w d x t (fun p => p.op = 1) :=
 ⟨fun a b _ hb _ _ y hy => (by rw [X20 hb] at hy; cases hy), fun a b ha hb _ _ m hm => by rw [X6n ha hm]; exact hb⟩
theorem V66 {w : List Q3} (hw : WW w) {d x : Nat} (hx1 : 1 ≤ x) {t : Q2} (ht : t ∈ tys w) : Cl w (d + 1) (x + 1) t hgt1 := W8f hw hx1 (fun _ h => h) (fun t _ => V67 d x t) ht
theorem V9r {w : List Q3} (hw : WW w) {d x : Nat} (hx1 : 1 ≤ x) {t : Q2} (ht : t ∈ tys w) : Cl w (d + 2) (x + 2) t hgt2 := W8f hw (by omega) (fun _ h => .inl h) (fun t ht => V66 hw hx1 ht) ht
theorem Z8s {f : Q0 → Q0 → Option Q0} : ∀ (as : List Q0), (∀ a ∈ as, f a a = some a) → Q3q f as as = some as
 | [], _ => rfl
 | a :: as, h => by
  simp only [Q3q]
  rw [h a (by simp), Z8s as fun x hx => h x (by simp [hx])]
  rfl
theorem X22 {w : List Q3} : ∀ (d : Nat) (t : Q2) (a : Q0), Z4 w d t a → Q03 d a a = some a
 | 0, _, _, h => h.elim
 | d + 1, t, a, h => by
  rcases h with rfl | ⟨n, m, rfl, hd, g0, g1, g2⟩ | ⟨c, ks, rfl, hd, hc, hl, hk⟩
  ·simp [Q03]
  ·have e1 : ¬ (3 : Int) = 1 := by decide
   simp only [Q03, e1, if_false, if_true]
   rw [if_pos (by omega)]
   congr 2 <;> omega
  ·have e1 : ¬ (4 : Int) = 1 := by decide
   have e3 : ¬ (4 : Int) = 3 := by decide
   simp only [Q03, e1, e3, if_false, if_true]
   rw [Z8s ks fun q hq => by
    obtain ⟨j, hj⟩ := List.mem_iff_getElem?.1 hq
    have hjl := (List.getElem?_eq_some_iff.1 hj).1
    have ha : (Z6 w t c)[j]? = some ((Z6 w t c)[j]'(by omega)) := by simp
    exact X22 d _ q (hk j _ q ha hj)]
   rfl
theorem W1u {fm : Q2 → Q0 → Q0 → List Q0} {fj : Q0 → Q0 → Option Q0} : ∀ (ts : List Q2) (as : List Q0), (∀ (j : Nat) (t : Q2) (a : Q0), ts[j]? = some t → as[j]? = some a → fm t a a = []) → kmD fm fj ts as as = []
 | [], _, _ => by simp [kmD]
 | _ :: _, [], _ => by simp [kmD]
 | t :: ts, a :: as, h => by
  simp only [kmD]
  rw [h 0 t a rfl rfl, W1u ts as fun j t a h1 h2 => h (j + 1) t a (by simpa using h1) (by simpa using h2)]
  cases fj a a <;> simp
theorem Z8q {w : List Q3} : ∀ (d : Nat) (t : Q2) (a : Q0), Z4 w d t a → X6 w d t a a = []
 | 0, _, _, h => h.elim
 | d + 1, t, a, h => by
  rcases h with rfl | ⟨n, m, rfl, hd, g0, g1, g2⟩ | ⟨c, ks, rfl, hd, hc, hl, hk⟩
  ·simp [X6]
  ·have e1 : ¬ (3 : Int) = 1 := by decide
   simp only [X6, e1, if_false, if_true]
   unfold Z12
   rw [if_neg (by omega), if_neg (by omega)]
   rfl
  ·have e1 : ¬ (4 : Int) = 1 := by decide
   have e3 : ¬ (4 : Int) = 3 := by decide
   simp only [X6, e1, e3, if_false]
   unfold cmD
   simp only [if_true]
   rw [W1u _ ks fun j u q h1 h2 => Z8q d u q (hk j u q h1 h2)]
   rfl
theorem V65 {w : List Q3} {d x : Nat} {t : Q2} (α : Q0) : Cl w d x t (fun p => p = α) :=
 ⟨fun a b ha hb _ pb y hy => (by subst ha; subst hb; rw [Z8q d t _ pb] at hy; cases hy), fun a b ha hb _ pb m hm => by subst ha; subst hb; rw [X22 d t _ pb] at hm; cases hm; rfl⟩
structure Fam (w : List Q3) (t : Q2) (P : Q0 → Prop) : Prop where
 mi : ∀ a b, P a → P b → Z4 w 11 t a → Z4 w 10 t b → ∀ y ∈ X6 w 10 t a b, P y
 rep : ∃ (C : List Q5) (e : Nat), C.length ≤ 400 ∧ (∀ v ∈ C, Q0y w e t v) ∧ ∀ p, P p → Z4 w 11 t p → W6 w 11 t p = false → ∃ v ∈ C, fitP p v = true
theorem V56 {w : List Q3} (hw : WW w) (hr : WR w) {t : Q2} (ht : t ∈ tys w) : Fam w t hgt2 :=
 ⟨(V9r hw (d := 8) (x := 9) (by omega) ht).mi, Z7t w t, 12, hr.n2 t ht, fun v hv => X85 hw hr ht hv, fun p h1 h2 h3 => rep2 hw ht h2 h1 h3⟩
def oneP (w : List Q3) (t : Q2) (c : Int) (K : Nat → Option Q0) (p : Q0) : Prop := ∃ ks, p = Q0.mk 4 c 0 0 0 ks ∧ ks.length = (Z6 w t c).length ∧ ∀ (j : Nat) (q : Q0), ks[j]? = some q → match K j with
 | none => hgt1 q
 | some α => q = α
theorem X88 (ns : List Nat) : ∀ a b, a ≤ b → ns.foldl (fun a b => a * max 1 b) a ≤ ns.foldl (fun a b => a * max 1 b) b := by
 induction ns with
 | nil => intro a b h; exact h
 | cons n ns ih => intro a b h; rw [List.foldl_cons, List.foldl_cons]; exact ih _ _ (Nat.mul_le_mul_right _ h)
theorem Z5d : ∀ (ls : List (List Q5)) (ns : List Nat) (out : List (List Q5)), ls.length = ns.length → (∀ (j : Nat) (l : List Q5) (n : Nat), ls[j]? = some l → ns[j]? = some n → l.length ≤ max 1 n) → (ls.foldl tupV out).length ≤ ns.foldl (fun a b => a * max 1 b) out.length
 | [], [], _, _, _ => Nat.le_refl _
 | l :: ls, n :: ns, out, h, hb => by
  rw [List.foldl_cons, List.foldl_cons]
  refine Nat.le_trans (Z5d ls ns (tupV out l) (by simpa using h) fun j l n h1 h2 => hb (j + 1) l n (by simpa using h1) (by simpa using h2)) (X88 ns _ _ ?_)
  rw [Z22]
  exact Nat.mul_le_mul_left _ (hb 0 l n rfl rfl)
 | [], _ :: _, _, h, _ => by simp at h
 | _ :: _, [], _, h, _ => by simp at h
theorem V05 {w : List Q3} (hw : WW w) (hr : WR w) {t : Q2} (ht : t ∈ tys w) {c : Int} (hd : t.data ≠ -1) (hc : c ∈ Z9 w t) (K : Nat → Option Q0) : Fam w t (oneP w t c K) := by
 have hT := hw.ty t ht
 refine ⟨fun a b ha hb pa pb y hy => ?_, ?_⟩
 ·obtain ⟨ks, rfl, hl, hk⟩ := ha
  obtain ⟨ks', rfl, hl', hk'⟩ := hb
  have e1 : ¬ (4 : Int) = 1 := by decide
  have e3 : ¬ (4 : Int) = 3 := by decide
  simp only [X6, e1, e3, if_false] at hy
  unfold cmD at hy
  simp only [if_true] at hy
  obtain ⟨zs, hz, rfl⟩ := List.mem_map.1 hy
  have pk : ∀ (j : Nat) (u : Q2) (q : Q0), (Z6 w t c)[j]? = some u → ks[j]? = some q → Z4 w 10 u q := by
   rcases pa with h | ⟨_, _, h, _⟩ | ⟨c2, ks2, h, _, _, _, h4⟩
   ·cases h
   ·cases h
   ·cases h; exact h4
  have pk' : ∀ (j : Nat) (u : Q2) (q : Q0), (Z6 w t c)[j]? = some u → ks'[j]? = some q → Z4 w 9 u q := by
   rcases pb with h | ⟨_, _, h, _⟩ | ⟨c2, ks2, h, _, _, _, h4⟩
   ·cases h
   ·cases h
   ·cases h; exact h4
  have := V4y (w := w) (d := 9) (x := 10) (P := fun j q => match K j with
   | none => hgt1 q
   | some α => q = α) hl hl' (fun j u a b e1 e2 e3 => ⟨hk j a e2, hk' j b e3, pk j u a e1 e2, pk' j u b e1 e3, by
    cases K j with
    | none => exact V66 hw (d := 8) (x := 9) (by omega) (hT.at_ c hc u (List.mem_of_getElem? e1))
    | some α => exact V65 α⟩) zs hz
  exact ⟨zs, rfl, this.1, this.2⟩
 ·have gen : ∀ (ts : List Q2) (K : Nat → Option Q0), (∀ a ∈ ts, a ∈ tys w) → ∃ ls : List (List Q5), ls.length = ts.length ∧ (∀ (j : Nat) (u : Q2) (l : List Q5), ts[j]? = some u → ls[j]? = some l → l.length ≤ max 1 (Z13 w u).length ∧ (∀ v ∈ l, Q0y w 20 u v) ∧
    ∀ q, (match K j with | none => hgt1 q | some α => q = α) → Z4 w 10 u q → W6 w 10 u q = false → ∃ v ∈ l, fitP q v = true) := by
   intro ts
   induction ts with
   | nil => intro K _; exact ⟨[], rfl, fun j u l h => by simp at h⟩
   | cons a ts ih =>
    intro K hat
    obtain ⟨ls, e1, e2⟩ := ih (fun j => K (j + 1)) fun x hx => hat x (by simp [hx])
    have hat0 := hat a (by simp)
    have hex : ∃ l : List Q5, l.length ≤ max 1 (Z13 w a).length ∧ (∀ v ∈ l, Q0y w 20 a v) ∧ ∀ q, (match K 0 with | none => hgt1 q | some α => q = α) → Z4 w 10 a q → W6 w 10 a q = false → ∃ v ∈ l, fitP q v = true := by
     cases hK : K 0 with
     | none => exact ⟨Z13 w a, by omega, fun v hv => Z0v 11 20 a v (by omega) (Z8k hw hr hat0 hv), fun q h1 h2 h3 => rep1 hw hat0 h2 h1 h3⟩
     | some α =>
      by_cases hα : Z4 w 10 a α ∧ W6 w 10 a α = false
      ·obtain ⟨v, hv, hf⟩ := Z3h hw hr 10 a α hat0 hα.1 hα.2
       exact ⟨[v], by simp only [List.length_singleton]; omega, fun x hx => by simp only [List.mem_singleton] at hx; rw [hx]; exact hv, fun q h1 _ _ => ⟨v, by simp, by rw [show q = α from h1]; exact hf⟩⟩
      ·exact ⟨[], by simp, fun v hv => by (cases hv), fun q h1 h2 h3 => absurd (by rw [show q = α from h1] at h2 h3; exact ⟨h2, h3⟩) hα⟩
    obtain ⟨l, g1, g2, g3⟩ := hex
    refine ⟨l :: ls, by simp [e1], fun j u m h1 h2 => ?_⟩
    cases j with
    | zero => simp only [List.getElem?_cons_zero, Option.some.injEq] at h1 h2; subst h1 h2; exact ⟨g1, g2, g3⟩
    | succ j => exact e2 j u m (by simpa using h1) (by simpa using h2)
  obtain ⟨ls, e1, e2⟩ := gen (Z6 w t c) K (hT.at_ c hc)
  refine ⟨(ls.foldl tupV [[]]).map (mkV c), 21, ?_, fun v hv => ?_, fun p hp pp hem => ?_⟩
  ·rw [List.length_map]
   refine Nat.le_trans (Z5d ls ((Z6 w t c).map fun a => (Z13 w a).length) [[]] (by simp [e1]) fun j l n h1 h2 => ?_) (hr.n1 t ht c hc)
   rw [List.getElem?_map, Option.map_eq_some_iff] at h2
   obtain ⟨u, hu, rfl⟩ := h2
   exact (e2 j u l hu h1).1
  ·obtain ⟨ks, hks, rfl⟩ := List.mem_map.1 hv
   obtain ⟨a, b, ha, rfl, hl, hb⟩ := Q9r _ _ _ hks
   simp only [List.mem_singleton] at ha
   subst ha
   refine X02 hd hc (by simp; omega) fun j u x hu hx => ?_
   have hjl := (List.getElem?_eq_some_iff.1 hu).1
   have hlj : ls[j]? = some (ls[j]'(by omega)) := by simp
   exact (e2 j u _ hu hlj).2.1 x (hb j x _ (by simpa using hx) hlj)
  ·obtain ⟨ks, rfl, hl, hk⟩ := hp
   have pk : ∀ (j : Nat) (u : Q2) (q : Q0), (Z6 w t c)[j]? = some u → ks[j]? = some q → Z4 w 10 u q := by
    rcases pp with h | ⟨_, _, h, _⟩ | ⟨c2, ks2, h, _, _, _, h4⟩
    ·cases h
    ·cases h
    ·cases h; exact h4
   have gen2 : ∀ (ts : List Q2) (ls : List (List Q5)) (ks : List Q0), ls.length = ts.length → ks.length = ts.length → (∀ (j : Nat) (u : Q2) (l : List Q5) (q : Q0), ts[j]? = some u → ls[j]? = some l → ks[j]? = some q → ∃ v ∈ l, fitP q v = true) →
     ∃ vs : List Q5, vs.length = ls.length ∧ (∀ (j : Nat) (v : Q5) (l : List Q5), vs[j]? = some v → ls[j]? = some l → v ∈ l) ∧ fitL ks vs = true := by
    intro ts
    induction ts with
    | nil => intro ls ks h1 h2 _; exact ⟨[], by simp at h1; simp [h1], fun j v l h => by simp at h, by
      simp at h2; rw [h2]; exact Z57⟩
    | cons u ts ih =>
     intro ls ks h1 h2 h
     cases ls with
     | nil => simp at h1
     | cons l ls =>
      cases ks with
      | nil => simp at h2
      | cons q ks =>
       obtain ⟨vs, g1, g2, g3⟩ := ih ls ks (by simpa using h1) (by simpa using h2) fun j u l q a1 a2 a3 => h (j + 1) u l q (by simpa using a1) (by simpa using a2) (by simpa using a3)
       obtain ⟨v, hv, hf⟩ := h 0 u l q rfl rfl rfl
       refine ⟨v :: vs, by simp [g1], fun j x m a1 a2 => ?_, by rw [Q4k, hf, g3]; rfl⟩
       cases j with
       | zero => simp only [List.getElem?_cons_zero, Option.some.injEq] at a1 a2; subst a1 a2; exact hv
       | succ j => exact g2 j x m (by simpa using a1) (by simpa using a2)
   obtain ⟨vs, g1, g2, g3⟩ := gen2 (Z6 w t c) ls ks e1 hl fun j u l q a1 a2 a3 => (e2 j u l a1 a2).2.2 q (hk j q a3) (pk j u q a1 a3) (by
    cases hem2 : W6 w 10 u q with
    | false => rfl
    | true =>
     have : W6 w 11 t (Q0.mk 4 c 0 0 0 ks) = true := Q44.2 ⟨j, u, q, a1, a3, hem2⟩
     rw [hem] at this
     cases this)
   refine ⟨mkV c vs, List.mem_map_of_mem ?_, by rw [Q13 rfl]; simp [mkV, g3]⟩
   have := Z61 ls [[]] [] vs (by simp) g1 g2
   simpa using this
theorem X7u {w : List Q3} {t : Q2} {P : Q0 → Prop} (hF : Fam w t P) : ∀ (bs l r : List Q0), (∀ b ∈ bs, P b ∧ Z4 w 10 t b) → (∀ a ∈ l, P a ∧ Z4 w 11 t a ∧ W6 w 11 t a = false) → Q4y w 10 11 t l bs = some r → ∀ y ∈ r, P y ∧ Z4 w 11 t y ∧ W6 w 11 t y = false
 | [], l, r, _, h, e => by simp only [Q4y, Option.some.injEq] at e; subst e; exact h
 | b :: bs, l, r, hb, h, e => by
  simp only [Q4y] at e
  split at e
  ·cases e
  ·refine X7u hF bs _ r (fun b hb' => hb b (by simp [hb'])) (fun y hy => ?_) e
   have hp := Q75 (d := 10) (x := 11) (by omega) (hb b (by simp)).2 (fun a ha => (h a ha).2.1) y hy
   unfold Q2p Q68 at hy
   obtain ⟨h1, h2⟩ := List.mem_filter.1 hy
   obtain ⟨a, ha, hya⟩ := List.mem_flatMap.1 h1
   exact ⟨hF.mi a b (h a ha).1 (hb b (by simp)).1 (h a ha).2.1 (hb b (by simp)).2 y hya, hp, by simpa using h2⟩
theorem W0y {w : List Q3} {t : Q2} {P : Q0 → Prop} (hF : Fam w t P) : ∀ (ps bef r : List Q0), (∀ b ∈ bef, P b ∧ Z4 w 10 t b) → (∀ p ∈ ps, P p ∧ Z4 w 10 t p) → sepP w t bef ps = some r → ∀ y ∈ r, P y ∧ Z4 w 11 t y ∧ W6 w 11 t y = false
 | [], _, r, _, _, e => by simp only [sepP, Option.some.injEq] at e; subst e; simp
 | p :: ps, bef, r, hb, hp, e => by
  simp only [sepP] at e
  cases hm : Q1d w 10 11 t [p] bef with
  | none => rw [hm] at e; simp at e
  | some m =>
   rw [hm] at e
   simp only [Option.bind_some, Option.map_eq_some_iff] at e
   obtain ⟨r2, h2, rfl⟩ := e
   intro y hy
   rcases List.mem_append.1 hy with hy | hy
   ·refine X7u hF bef _ m hb (fun a ha => ?_) hm y hy
    obtain ⟨h3, h4⟩ := List.mem_filter.1 ha
    simp only [List.mem_singleton] at h3
    subst h3
    exact ⟨(hp a (by simp)).1, Q51 10 t a (hp a (by simp)).2, by simpa using h4⟩
   ·exact W0y hF ps (bef ++ [p]) r2 (fun b hb' => by
     rcases List.mem_append.1 hb' with h | h
     ·exact hb b h
     ·simp only [List.mem_singleton] at h; rw [h]; exact hp p (by simp)) (fun q hq => hp q (by simp [hq])) h2 y hy
theorem W92 {w : List Q3} (hw : WW w) (he : WE w) {t : Q2} (ht : t ∈ tys w) {P : Q0 → Prop} (hF : Fam w t P) {ps r : List Q0} (hp : ∀ p ∈ ps, P p ∧ Z4 w 10 t p) (h : sepP w t [] ps = some r) : r.length ≤ 400 := by
 obtain ⟨C, e, h1, h2, h3⟩ := hF.rep
 have h4 := W0y hF ps [] r (by simp) hp h
 exact Nat.le_trans (X9l h2 (X69 hw he ht ps [] r (by simp) (fun p hp' => (hp p hp').2) h) fun p hp' => h3 p (h4 p hp').1 (h4 p hp').2.1 (h4 p hp').2.2) h1
end Go.Proofs.YtnackipaoepmfaaGreat
namespace Go.Proofs.YtnackipaoepmfaaGreat
open Go Go.RowKit
theorem W0m : ∀ (ls : List (List Q0)) (out : List (List Q0)) (ks : List Q0), ks ∈ ls.foldl tupD out →
  ∃ a b, a ∈ out ∧ ks = a ++ b ∧ b.length = ls.length ∧ ∀ (i : Nat) (q : Q0) (l : List Q0), b[i]? = some q → ls[i]? = some l → q ∈ l
 | [], out, ks, h => ⟨ks, [], by simpa using h, by simp, rfl, by simp⟩
 | l :: ls, out, ks, h => by
  rw [List.foldl_cons] at h
  obtain ⟨a, b, ha, rfl, hl, hb⟩ := W0m ls (tupD out l) ks h
  simp only [tupD, List.mem_flatMap, List.mem_map] at ha
  obtain ⟨a0, h0, c, hc, rfl⟩ := ha
  refine ⟨a0, c :: b, h0, by simp, by simp [hl], fun i q m h1 h2 => ?_⟩
  cases i with
  | zero => simp at h1 h2; subst h1 h2; exact hc
  | succ i => exact hb i q m (by simpa using h1) (by simpa using h2)
theorem Q76 {d : Nat} {p q : Q0} (h : q ∈ Z0 (d + 1) p) : (p.op = 5 ∧ ∃ x ∈ p.kids, q ∈ Z0 d x) ∨
  (p.op ≠ 5 ∧ ∃ ks, q = Q63 p ks ∧ ks.length = p.kids.length ∧ ∀ (i : Nat) (y x : Q0), ks[i]? = some y → p.kids[i]? = some x → y ∈ Z0 d x) := by
 simp only [Z0] at h
 split at h
 ·rename_i h5
  obtain ⟨x, hx, hq⟩ := List.mem_flatMap.1 h
  exact .inl ⟨h5, x, hx, hq⟩
 ·rename_i h5
  obtain ⟨ks, hks, rfl⟩ := List.mem_map.1 h
  obtain ⟨a, b, ha, rfl, hl, hb⟩ := W0m _ _ ks hks
  simp only [List.mem_singleton] at ha
  subst ha
  refine .inr ⟨h5, b, by simp, by simpa using hl, fun i y x hy hx => ?_⟩
  exact hb i y (Z0 d x) hy (by rw [List.getElem?_map, hx]; rfl)
end Go.Proofs.YtnackipaoepmfaaGreat
namespace Go.Proofs.YtnackipaoepmfaaGreat
open Go Go.RowKit
def Par {α : Type} (x : Option α) (Q : α → Prop) : Prop := ∀ a, x = some a → Q a
theorem Par.some {α : Type} {a : α} {Q : α → Prop} (h : Q a) : Par (some a) Q := fun b e => by cases e; exact h
theorem Par.none {α : Type} {Q : α → Prop} : Par (none : Option α) Q := fun b e => by cases e
theorem Par.bind {α β : Type} {x : Option α} {f : α → Option β} {P : α → Prop} {Q : β → Prop} (hx : Par x P) (hf : ∀ a, P a → Par (f a) Q) : Par (x.bind f) Q := fun b e => by
 cases hx' : x with
 | none => rw [hx'] at e; cases e
 | some a => rw [hx'] at e; exact hf a (hx a hx') b e
theorem Par.any {α β : Type} {x : Option α} {f : α → Option β} {Q : β → Prop} (hf : ∀ a, Par (f a) Q) : Par (x.bind f) Q := Par.bind (P := fun _ => True) (fun _ _ => trivial) fun a _ => hf a
theorem Par.ite {α : Type} {b : Bool} {x y : Option α} {Q : α → Prop} (h1 : b = true → Par x Q) (h2 : b = false → Par y Q) : Par (if b = true then x else y) Q := by
 cases b with
 | true => exact h1 rfl
 | false => exact h2 rfl
theorem Par.mono {α : Type} {x : Option α} {P Q : α → Prop} (h : ∀ a, P a → Q a) (hx : Par x P) : Par x Q := fun a e => h a (hx a e)
theorem Par.ctl {ρ σ τ : Type} {x : Option (Ctl ρ σ)} {g : Ctl ρ σ → Option τ} {R : ρ → Prop} {B : σ → Prop} {Q : τ → Prop} (h : Par x (CtlQ R B)) (hr : ∀ r, R r → Par (g (.ret r)) Q) (hb : ∀ s, B s → Par (g (.brk s)) Q) : Par (x.bind g) Q :=
 Par.bind h fun a ha => by
  cases a with
  | ret r => exact hr r ha
  | brk s => exact hb s ha
  | go s => exact ha.elim
theorem Z2y {α σ ρ : Type} {f : Nat → α → σ → Option (Ctl ρ σ)} (I : Nat → σ → Prop) (R : ρ → Prop) (B : σ → Prop) : ∀ (xs : List α) (i : Nat) (s0 : σ), I i s0 → (∀ k x s, x ∈ xs → I k s → Par (f k x s) (RndQ R B (I (k + 1)))) → (∀ s, I (i + xs.length) s → B s) → Par (forL f i xs s0) (CtlQ R B)
 | [], i, s0, h0, _, hb => by
  unfold forL
  exact .some (hb s0 (by simpa using h0))
 | x :: xs, i, s0, h0, st, hb => by
  unfold forL
  have h1 := st i x s0 (by simp) h0
  intro a e
  cases hf : f i x s0 with
  | none => rw [hf] at e; cases e
  | some o =>
   rw [hf] at e
   have h2 := h1 o hf
   cases o with
   | ret r => cases e; exact h2
   | brk s => cases e; exact h2
   | go s => exact Z2y I R B xs (i + 1) s h2 (fun k y s hy => st k y s (by simp [hy])) (fun s hs => hb s (by simpa [Nat.add_assoc, Nat.add_comm 1] using hs)) a e
theorem Ret.both {α : Type} {x : Option α} {P Q : α → Prop} (h : Ret x P) (k : Par x Q) : Ret x (fun a => P a ∧ Q a) := by
 obtain ⟨a, e, hp⟩ := h
 exact ⟨a, e, hp, k a e⟩
theorem X0j {α : Type} (xs ys : List α) : Par (app xs ys) (fun z => z = xs ++ ys) := fun z hz => by
 unfold app at hz
 split at hz
 ·cases hz; rfl
 ·cases hz
theorem W1m (r : Z1) (l : List Int) : Par (W1 r l) (fun a => a.1 ∈ l) := by
 unfold W1
 refine Par.any fun a => ?_
 refine Par.bind (P := fun x => x ∈ l) (fun x hx => ?_) (fun x hx => .some hx)
 unfold idx at hx
 split at hx
 ·exact List.mem_of_getElem? hx
 ·cases hx
end Go.Proofs.YtnackipaoepmfaaGreat
namespace Go.Proofs.YtnackipaoepmfaaGreat
open Go Go.RowKit
def lvB : Nat → Q0 → Prop
 | 0, p => p.op = 1
 | m + 1, p => p.op = 1 ∨ p.op = 3 ∨ ((p.op = 4 ∨ p.op = 5) ∧ ∀ q ∈ p.kids, lvB m q)
theorem X25 {m : Nat} {p : Q0} (h : p.op = 1) : lvB m p := by
 cases m with
 | zero => exact h
 | succ m => exact .inl h
theorem W1q : ∀ {m : Nat} {p : Q0}, lvB m p → lvB (m + 1) p
 | 0, _, h => .inl h
 | m + 1, _, h => by
  rcases h with h | h | ⟨h, k⟩
  ·exact .inl h
  ·exact .inr (.inl h)
  ·exact .inr (.inr ⟨h, fun q hq => W1q (k q hq)⟩)
theorem Q9f : ∀ (D : Nat) {m : Nat} {p : Q0}, lvB m p → lvB m (X4 D p)
 | 0, _, _, h => h
 | D + 1, m, p, h => by
  have hop : p.op ≠ 2 ∧ p.op ≠ 6 := by
   cases m with
   | zero => have : p.op = 1 := h; omega
   | succ m => rcases h with h | h | ⟨h | h, _⟩ <;> omega
  rw [X4, if_neg hop.1, if_neg (fun hh => hop.2 hh.1)]
  cases m with
  | zero => exact h
  | succ m =>
   rcases h with h | h | ⟨h, k⟩
   ·exact .inl h
   ·exact .inr (.inl h)
   ·refine .inr (.inr ⟨h, fun q hq => ?_⟩)
    obtain ⟨x, hx, rfl⟩ := List.mem_map.1 hq
    exact Q9f D (k x hx)
theorem Z25 {d : Nat} {q : Q0} (h : q ∈ Z0 d (Q0.mk 1 0 0 0 0 [])) : q = Q0.mk 1 0 0 0 0 [] := by
 cases d with
 | zero => simp [Z0] at h
 | succ d => simpa [Z0, Q63] using h
theorem X0k {w : List Q3} {d : Nat} {t : Q2} {p : Q0} (h : altD w d t p) (h1 : p.op = 1) : p = Q0.mk 1 0 0 0 0 [] := by
 cases d with
 | zero => exact h.elim
 | succ d =>
  rcases h with h | ⟨n, m, rfl, _⟩ | ⟨c, ks, rfl, _⟩ | ⟨a, b, rfl, _⟩
  ·exact h
  ·simp at h1
  ·simp at h1
  ·simp at h1
def oneS (d : Nat) (p : Q0) : Prop := ∃ α, ∀ q ∈ Z0 d p, q = α
theorem X1y {d : Nat} {p : Q0} (h5 : p.op ≠ 5) (h : ∀ x ∈ p.kids, oneS d x) : oneS (d + 1) p := by
 have gen : ∀ ks : List Q0, (∀ x ∈ ks, oneS d x) → ∃ as : List Q0, as.length = ks.length ∧ ∀ (i : Nat) (x a y : Q0), ks[i]? = some x → as[i]? = some a → y ∈ Z0 d x → y = a := by
  intro ks
  induction ks with
  | nil => intro _; exact ⟨[], rfl, fun i x a y h => by simp at h⟩
  | cons k ks ih =>
   intro h
   obtain ⟨as, e1, e2⟩ := ih fun x hx => h x (by simp [hx])
   obtain ⟨α, hα⟩ := h k (by simp)
   refine ⟨α :: as, by simp [e1], fun i x a y h1 h2 h3 => ?_⟩
   cases i with
   | zero => simp only [List.getElem?_cons_zero, Option.some.injEq] at h1 h2; subst h1 h2; exact hα y h3
   | succ i => exact e2 i x a y (by simpa using h1) (by simpa using h2) h3
 obtain ⟨as, e1, e2⟩ := gen p.kids h
 refine ⟨Q63 p as, fun q hq => ?_⟩
 rcases Q76 hq with ⟨h, _⟩ | ⟨_, ks, rfl, hl, hk⟩
 ·exact absurd h h5
 ·congr 1
  refine List.ext_getElem? fun i => ?_
  by_cases hi : i < ks.length
  ·have h1 : ks[i]? = some (ks[i]) := List.getElem?_eq_getElem hi
   have h2 : p.kids[i]? = some (p.kids[i]'(by omega)) := List.getElem?_eq_getElem (by omega)
   have h3 : as[i]? = some (as[i]'(by omega)) := List.getElem?_eq_getElem (by omega)
   rw [h1, h3, e2 i _ _ _ h2 h3 (hk i _ _ h1 h2)]
  ·rw [List.getElem?_eq_none (by omega), List.getElem?_eq_none (by omega)]
theorem Q6u {w : List Q3} {d : Nat} {t : Q2} {p x : Q0} (h : altD w (d + 1) t p) (hx : x ∈ p.kids) : ∃ u, altD w d u x := by
 rcases h with rfl | ⟨n, m, rfl, _⟩ | ⟨c, ks, rfl, _, _, hl, hk⟩ | ⟨a, b, rfl, h1, h2⟩
 ·cases hx
 ·cases hx
 ·obtain ⟨j, hj⟩ := List.mem_iff_getElem?.1 hx
  have hjl := (List.getElem?_eq_some_iff.1 hj).1
  simp only at hjl hj
  have ha : (Z6 w t c)[j]? = some ((Z6 w t c)[j]'(by omega)) := by simp
  exact ⟨_, hk j _ x ha hj⟩
 ·simp only [List.mem_cons, List.not_mem_nil, or_false] at hx
  rcases hx with rfl | rfl
  ·exact ⟨t, h1⟩
  ·exact ⟨t, h2⟩
theorem Z59 {w : List Q3} {d : Nat} {t : Q2} {p : Q0} (h : altD w d t p) (h4 : p.op ≠ 4) (h5 : p.op ≠ 5) : p.kids = [] := by
 cases d with
 | zero => exact h.elim
 | succ d =>
  rcases h with rfl | ⟨n, m, rfl, _⟩ | ⟨c, ks, rfl, _⟩ | ⟨a, b, rfl, _⟩
  ·rfl
  ·rfl
  ·simp at h4
  ·simp at h5
theorem W1r {w : List Q3} {d : Nat} {t : Q2} {p : Q0} (h : altD w d t p) (l : lvB 1 p) : ∀ q ∈ Z0 d p, hgt1 q := fun q hq => by
 cases d with
 | zero => exact h.elim
 | succ d =>
 rcases Q76 hq with ⟨h5, x, hx, hqx⟩ | ⟨h5, ks, rfl, hl, hk⟩
 ·rcases l with l | l | ⟨_, l⟩
  ·omega
  ·omega
  ·obtain ⟨u, hu⟩ := Q6u h hx
   rw [X0k hu (l x hx)] at hqx
   rw [Z25 hqx]
   exact .inl rfl
 ·rcases l with l | l | ⟨l | l, k⟩
  ·exact .inl l
  ·exact .inr (.inl l)
  ·refine .inr (.inr ⟨l, fun y hy => ?_⟩)
   obtain ⟨i, hi⟩ := List.mem_iff_getElem?.1 hy
   simp only [Q63] at hi
   have hil := (List.getElem?_eq_some_iff.1 hi).1
   have h2 : p.kids[i]? = some (p.kids[i]'(by omega)) := List.getElem?_eq_getElem (by omega)
   have hxm := List.mem_of_getElem? h2
   obtain ⟨u, hu⟩ := Q6u h hxm
   have := hk i _ _ hi h2
   rw [X0k hu (k _ hxm)] at this
   rw [Z25 this]
  ·omega
theorem W9n {w : List Q3} {d : Nat} {t : Q2} {p : Q0} (h : altD w d t p) (l : lvB 1 p) : oneS d p := by
 cases d with
 | zero => exact h.elim
 | succ d =>
 by_cases h5 : p.op = 5
 ·refine ⟨Q0.mk 1 0 0 0 0 [], fun q hq => ?_⟩
  rcases Q76 hq with ⟨_, x, hx, hqx⟩ | ⟨h6, _⟩
  ·rcases l with l | l | ⟨_, l⟩
   ·omega
   ·omega
   ·obtain ⟨u, hu⟩ := Q6u h hx
    rw [X0k hu (l x hx)] at hqx
    exact Z25 hqx
  ·exact absurd h5 h6
 ·refine X1y h5 fun x hx => ?_
  rcases l with l | l | ⟨l | l, k⟩
  ·rw [Z59 h (by omega) h5] at hx; cases hx
  ·rw [Z59 h (by omega) h5] at hx; cases hx
  ·obtain ⟨u, hu⟩ := Q6u h hx
   rw [X0k hu (k x hx)]
   exact ⟨_, fun q hq => Z25 hq⟩
  ·omega
theorem V4s {w : List Q3} {d : Nat} {t : Q2} {p : Q0} (h : altD w d t p) (l : lvB 2 p) : ∀ q ∈ Z0 d p, hgt2 q := fun q hq => by
 cases d with
 | zero => exact h.elim
 | succ d =>
 rcases Q76 hq with ⟨h5, x, hx, hqx⟩ | ⟨h5, ks, rfl, hl, hk⟩
 ·rcases l with l | l | ⟨_, l⟩
  ·omega
  ·omega
  ·obtain ⟨u, hu⟩ := Q6u h hx
   exact V52 (W1r hu (l x hx) q hqx)
 ·rcases l with l | l | ⟨l | l, k⟩
  ·exact .inl l
  ·exact .inr (.inl l)
  ·refine .inr (.inr ⟨l, fun y hy => ?_⟩)
   obtain ⟨i, hi⟩ := List.mem_iff_getElem?.1 hy
   simp only [Q63] at hi
   have hil := (List.getElem?_eq_some_iff.1 hi).1
   have h2 : p.kids[i]? = some (p.kids[i]'(by omega)) := List.getElem?_eq_getElem (by omega)
   have hxm := List.mem_of_getElem? h2
   obtain ⟨u, hu⟩ := Q6u h hxm
   exact W1r hu (k _ hxm) y (hk i _ _ hi h2)
  ·omega
theorem W9m {w : List Q3} {d : Nat} {t : Q2} {p : Q0} (h : altD w d t p) (l : lvB 2 p) : ∃ k : Option Q0, ∀ q ∈ Z0 d p, match k with
  | none => hgt1 q
  | some α => q = α := by
 cases d with
 | zero => exact h.elim
 | succ d =>
 by_cases h5 : p.op = 5
 ·refine ⟨none, fun q hq => ?_⟩
  rcases Q76 hq with ⟨_, x, hx, hqx⟩ | ⟨h6, _⟩
  ·rcases l with l | l | ⟨_, l⟩
   ·omega
   ·omega
   ·obtain ⟨u, hu⟩ := Q6u h hx
    exact W1r hu (l x hx) q hqx
  ·exact absurd h5 h6
 ·have : oneS (d + 1) p := X1y h5 fun x hx => by
   rcases l with l | l | ⟨l | l, k⟩
   ·rw [Z59 h (by omega) h5] at hx; cases hx
   ·rw [Z59 h (by omega) h5] at hx; cases hx
   ·obtain ⟨u, hu⟩ := Q6u h hx
    exact W9n hu (k x hx)
   ·omega
  obtain ⟨α, hα⟩ := this
  exact ⟨some α, hα⟩
theorem W9l {w : List Q3} (hw : WW w) (hr : WR w) {t : Q2} (ht : t ∈ tys w) {p : Q0} (h : altD w 10 t p) (l : lvB 3 p) : ∃ P, Fam w t P ∧ ∀ q ∈ Z0 10 p, P q := by
 by_cases h4 : p.op = 4
 ·rcases h with rfl | ⟨n, m, rfl, _⟩ | ⟨c, ks, rfl, hd, hc, hl, hk⟩ | ⟨a, b, rfl, _⟩
  ·simp at h4
  ·simp at h4
  ·have lk : ∀ q ∈ ks, lvB 2 q := by
    rcases l with l | l | ⟨_, l⟩
    ·simp at l
    ·simp at l
    ·exact l
   have hex : ∀ j : Nat, ∃ k : Option Q0, ∀ x, ks[j]? = some x → ∀ q ∈ Z0 9 x, match k with
     | none => hgt1 q
     | some α => q = α := fun j => by
    cases hj : ks[j]? with
    | none => exact ⟨none, fun x hx => by cases hx⟩
    | some x =>
     have hjl := (List.getElem?_eq_some_iff.1 hj).1
     have ha : (Z6 w t c)[j]? = some ((Z6 w t c)[j]'(by omega)) := by simp
     obtain ⟨k, hk2⟩ := W9m (hk j _ x ha hj) (lk x (List.mem_of_getElem? hj))
     exact ⟨k, fun y hy => by cases hy; exact hk2⟩
   obtain ⟨K, hK⟩ := Classical.axiomOfChoice hex
   refine ⟨oneP w t c K, V05 hw hr ht hd hc K, fun q hq => ?_⟩
   rcases Q76 hq with ⟨h5, _⟩ | ⟨_, zs, rfl, hzl, hz⟩
   ·simp at h5
   ·refine ⟨zs, rfl, by simp only at hzl; omega, fun j y hy => ?_⟩
    have hjl := (List.getElem?_eq_some_iff.1 hy).1
    simp only at hzl
    have h2 : ks[j]? = some (ks[j]'(by omega)) := List.getElem?_eq_getElem (by omega)
    exact hK j _ h2 y (hz j y _ hy h2)
  ·simp at h4
 ·refine ⟨hgt2, V56 hw hr ht, fun q hq => ?_⟩
  rcases Q76 hq with ⟨h5, x, hx, hqx⟩ | ⟨h5, ks, rfl, hl, hk⟩
  ·rcases l with l | l | ⟨_, l⟩
   ·omega
   ·omega
   ·obtain ⟨u, hu⟩ := Q6u h hx
    exact V4s hu (l x hx) q hqx
  ·rcases l with l | l | ⟨l | l, _⟩
   ·exact .inl l
   ·exact .inr (.inl l)
   ·exact absurd l h4
   ·exact absurd l h5
theorem W6z : ∀ (m n : Nat) (r : Z1) (w : List Q3) (t : Q2) (depth : Int), depth ≤ m + 1 → -1000 + m ≤ depth → m ≤ 100 → Par (Q0l n r w t depth) (fun a => lvB m a.1) := by
 intro m
 induction m with
 | zero =>
  intro n r w t depth h1 _ _
  cases n with
  | zero => exact .none
  | succ n =>
   unfold Q0l
   rw [if_pos (by rw [X3]; omega)]
   exact .some rfl
 | succ m ih =>
  intro n r w t depth h1 h2 h3
  cases n with
  | zero => exact .none
  | succ n =>
  unfold Q0l
  have hws : wsub .i64 depth 1 = depth - 1 := Q4v (by omega) (by omega)
  rw [hws]
  refine Par.ite (fun _ => .some (.inl rfl)) (fun _ => ?_)
  refine Par.any fun a => Par.ite (fun _ => .some (.inl rfl)) (fun _ => ?_)
  refine Par.any fun b => Par.ite (fun _ => ?_) (fun _ => ?_)
  ·refine Par.bind (ih n b.2 w t (depth - 1) (by omega) (by omega) (by omega)) (fun c hc => ?_)
   refine Par.bind (ih n c.2 w t (depth - 1) (by omega) (by omega) (by omega)) (fun d hd => .some (.inr (.inr ⟨.inr rfl, fun q hq => ?_⟩)))
   simp only [List.mem_cons, List.not_mem_nil, or_false] at hq
   rcases hq with rfl | rfl
   ·exact hc
   ·exact hd
  ·refine Par.ite (fun _ => ?_) (fun _ => ?_)
   ·exact Par.any fun c => Par.any fun d => Par.any fun e => .some (.inr (.inl rfl))
   ·refine Par.any fun c => Par.ite (fun _ => .some (.inl rfl)) (fun _ => ?_)
    refine Par.any fun d => Par.any fun e => Par.any fun f => ?_
    refine Par.ctl (Z2y (fun _ (s : Z1 × List Q0) => ∀ q ∈ s.2, lvB m q) (fun _ => False) (fun s => ∀ q ∈ s.2, lvB m q) f 0 _ (by simp) (fun k x s _ hI => ?_) (fun s hs => hs)) (fun r hr => hr.elim) (fun s hs => .some (.inr (.inr ⟨.inl rfl, hs⟩)))
    refine Par.bind (ih n s.1 w x (depth - 1) (by omega) (by omega) (by omega)) (fun b hb => ?_)
    refine Par.bind (P := fun y => y = s.2 ++ [b.1]) (fun y hy => ?_) (fun y hy => .some ?_)
    ·unfold app at hy
     split at hy
     ·cases hy; rfl
     ·cases hy
    ·subst hy
     simp only [Q4x]
     intro q hq
     rcases List.mem_append.1 hq with hq | hq
     ·exact hI q hq
     ·simp only [List.mem_singleton] at hq; rw [hq]; exact hb
theorem X3a {D : Nat} {op c n m v : Int} {ks : List Q0} (h2 : op ≠ 2) (h6 : op ≠ 6) : X4 (D + 1) (Q0.mk op c n m v ks) = Q0.mk op c n m v (ks.map (X4 D)) := by
 rw [X4, if_neg h2, if_neg (fun hh => h6 hh.1)]
theorem W5a : ∀ (m n : Nat) (r : Z1) (p : Q0) (v : Int), lvB m p → Par (Q20 n r p v) (fun a => ∀ D, 2 * (m + 1) ≤ D → lvB m (X4 D a.1)) := by
 intro m
 induction m with
 | zero =>
  intro n r p v h
  have h1 : p.op = 1 := h
  cases n with
  | zero => exact .none
  | succ n =>
  unfold Q20
  refine Par.ite (fun _ => .some fun D _ => Q9f D h) (fun _ => ?_)
  refine Par.ite (fun _ => .some fun D _ => Q9f D h) (fun _ => ?_)
  refine Par.ite (fun _ => .some fun D _ => Q9f D h) (fun _ => ?_)
  refine Par.ctl (R := fun (a : Q0 × Int × Z1) => ∀ D, 2 * (0 + 1) ≤ D → lvB 0 (X4 D a.1)) (B := fun _ => True) ?_ (fun a ha => .some ha) (fun s _ => ?_)
  ·refine Par.ite (fun _ => ?_) (fun _ => .some trivial)
   refine Par.any fun a => Par.ite (fun _ => .some fun D hD => ?_) (fun _ => .some trivial)
   obtain ⟨D, rfl⟩ : ∃ k, D = k + 1 := ⟨D - 1, by omega⟩
   simp [X4, lvB]
  ·refine Par.ctl (Z2y (fun _ _ => True) (fun _ => False) (fun _ => True) p.kids 0 _ trivial (fun k x s _ _ => Par.any fun a => Par.any fun b => .some trivial) (fun _ _ => trivial)) (fun r hr => hr.elim) (fun u _ => ?_)
   refine Par.ctl (R := fun (a : Q0 × Int × Z1) => ∀ D, 2 * (0 + 1) ≤ D → lvB 0 (X4 D a.1)) (B := fun _ => True) ?_ (fun a ha => .some ha) (fun s _ => .some fun D hD => ?_)
   ·refine Par.ite (fun _ => ?_) (fun _ => .some trivial)
    refine Par.any fun a => Par.ite (fun _ => .some fun D hD => ?_) (fun _ => .some trivial)
    obtain ⟨D, rfl⟩ : ∃ k, D = k + 2 := ⟨D - 2, by omega⟩
    rw [h1]
    simp [X4, lvB]
   ·obtain ⟨D, rfl⟩ : ∃ k, D = k + 1 := ⟨D - 1, by omega⟩
    rw [h1, X3a (by decide) (by decide)]
    exact rfl
 | succ m ih =>
  intro n r p v h
  cases n with
  | zero => exact .none
  | succ n =>
  unfold Q20
  refine Par.ite (fun _ => .some fun D _ => Q9f D h) (fun _ => ?_)
  refine Par.ite (fun _ => .some fun D _ => Q9f D h) (fun h5 => ?_)
  refine Par.ite (fun _ => .some fun D _ => Q9f D h) (fun h3 => ?_)
  rw [X9] at h5 h3
  refine Par.ctl (R := fun (a : Q0 × Int × Z1) => ∀ D, 2 * (m + 1 + 1) ≤ D → lvB (m + 1) (X4 D a.1)) (B := fun _ => True) ?_ (fun a ha => .some ha) (fun s _ => ?_)
  ·refine Par.ite (fun _ => ?_) (fun _ => .some trivial)
   refine Par.any fun a => Par.ite (fun _ => .some fun D hD => ?_) (fun _ => .some trivial)
   obtain ⟨D, rfl⟩ : ∃ k, D = k + 1 := ⟨D - 1, by omega⟩
   simp [X4, lvB]
  ·refine Par.ctl (Z2y (fun _ (u : Z1 × List Q0 × Int) => p.op = 1 ∨ ∀ q ∈ u.2.1, ∀ D, 2 * (m + 1) ≤ D → lvB m (X4 D q)) (fun _ => False) (fun u => p.op = 1 ∨ ∀ q ∈ u.2.1, ∀ D, 2 * (m + 1) ≤ D → lvB m (X4 D q)) p.kids 0 _ (by simp) (fun k x u hx hI => ?_) (fun _ hI => hI)) (fun r hr => hr.elim) (fun u hu => ?_)
   ·rcases h with h | h | ⟨_, hk⟩
    ·exact Par.any fun a => Par.any fun b => .some (.inl h)
    ·exact absurd h h3
    ·refine Par.bind (ih n u.1 x u.2.2 (hk x hx)) (fun a ha => ?_)
     refine Par.bind (X0j _ _) (fun b hb => .some ?_)
     subst hb
     simp only [Q4x]
     rcases hI with hI | hI
     ·exact .inl hI
     ·refine .inr fun q hq => ?_
      rcases List.mem_append.1 hq with hq | hq
      ·exact hI q hq
      ·simp only [List.mem_singleton] at hq; rw [hq]; exact ha
   ·have hop : p.op = 1 ∨ p.op = 4 := by rcases h with h | h | ⟨h | h, _⟩ <;> omega
    have hnode : ∀ D, 2 * (m + 1) + 1 ≤ D → lvB (m + 1) (X4 D (Q0.mk p.op p.ctor p.n p.m p.var u.2.1)) := fun D hD => by
     obtain ⟨D, rfl⟩ : ∃ k, D = k + 1 := ⟨D - 1, by omega⟩
     rw [X3a (by omega) (by omega)]
     rcases hop with h1 | h4
     ·exact .inl h1
     ·rcases hu with hu | hu
      ·omega
      ·refine .inr (.inr ⟨.inl h4, fun q hq => ?_⟩)
       obtain ⟨x, hx, rfl⟩ := List.mem_map.1 hq
       exact hu x hx D (by omega)
    refine Par.ctl (R := fun (a : Q0 × Int × Z1) => ∀ D, 2 * (m + 1 + 1) ≤ D → lvB (m + 1) (X4 D a.1)) (B := fun _ => True) ?_ (fun a ha => .some ha) (fun s _ => .some fun D hD => hnode D (by omega))
    refine Par.ite (fun _ => ?_) (fun _ => .some trivial)
    refine Par.any fun a => Par.ite (fun _ => .some fun D hD => ?_) (fun _ => .some trivial)
    obtain ⟨D, rfl⟩ : ∃ k, D = k + 1 := ⟨D - 1, by omega⟩
    have := hnode D (by omega)
    rw [X4]
    simpa using this
theorem W4x (r : Z1) (w : List Q3) (t : Q2) : Par (Q3j NN r w t) (fun a => lvB 3 (X4 10 a.1)) := by
 unfold Q3j
 refine Par.bind (W1m r _) (fun a ha => ?_)
 refine Par.bind (W6z 3 NN a.2 w t a.1 (by simp at ha; omega) (by simp at ha; omega) (by omega)) (fun b hb => ?_)
 refine Par.bind (W5a 3 NN b.2 b.1 0 hb) (fun c hc => Par.any fun d => Par.ite (fun _ => .some ?_) (fun _ => .some (hc 10 (by omega))))
 exact Q9f 10 (X25 rfl)
end Go.Proofs.YtnackipaoepmfaaGreat
namespace Go.Proofs.YtnackipaoepmfaaGreat
open Go Go.RowKit
theorem W5j {w : List Q3} (hw : WW w) {r : Z1} {t : Q2} (ht : t ∈ tys w) (h : ROk r 2600) : Ret (Q3i NN r w t) (fun a => (∀ c ∈ a.1, Q0z w t c.pat = true) ∧ a.1.length ≤ 5 ∧ Nx r a.2 2600) := by
 unfold Q3i
 refine Ret.bind (Z04 (h.le (by omega)) [3, 2, 4, 5, 1, 0] (by simp) (by simp)) (fun a ha => ?_)
 have hr1 : ROk a.2 2599 := ROk.nx (c := 1) h ha.2
 have hd : 0 ≤ a.1 ∧ a.1 ≤ 5 := by
  have := ha.1
  simp at this
  omega
 refine Ret.ctl (Q5c (fun s => 0 ≤ s.2.2 ∧ s.2.2 ≤ 5 ∧ (s.2.1.length : Int) + s.2.2 = a.1 ∧ (∀ c ∈ s.2.1, Q0z w t c.pat = true) ∧ Nx a.2 s.1 (s.2.1.length * 500)) (fun s => s.2.2.toNat) (fun _ => False) (fun s => s.2.1.length ≤ 5 ∧ (∀ c ∈ s.2.1, Q0z w t c.pat = true) ∧ Nx a.2 s.1 2500)
  ⟨hd.1, hd.2, by simp, by simp, by simpa using Nx.refl a.2⟩ (fun s hI => ?_) NN (by have := hd; show (a.1).toNat < 30000000; omega)) (fun r hr => hr.elim) (fun s hs => .some ⟨hs.2.1, hs.1, (ha.2.trans hs.2.2).le' (by omega)⟩)
 obtain ⟨i1, i2, i3, i4, i5⟩ := hI
 refine Ret.ite (fun h => ?_) (fun h => ?_)
 ·rw [X3] at h
  have hr2 : ROk s.1 500 := ROk.nx (c := s.2.1.length * 500) (hr1.le (by omega)) i5
  refine Ret.bind (X9p hw ht hr2) (fun b hb => ?_)
  rw [W9 (by simp only [Q8, List.length_cons, List.length_nil]; omega)]
  have hws : wsub .i64 s.2.2 1 = s.2.2 - 1 := Q4v (by omega) (by omega)
  simp only [Option.bind_some]
  rw [hws]
  refine .some ⟨⟨by simp only; omega, by simp only; omega, by simp; omega, fun c hc => ?_, ?_⟩, by simp only; omega⟩
  ·rcases List.mem_append.1 hc with hc | hc
   ·exact i4 c hc
   ·simp at hc; subst hc; exact hb.1
  ·have := i5.trans hb.2
   simp only [List.length_append, List.length_cons, List.length_nil]
   exact this.le' (by omega)
 ·exact .some ⟨by simp only; omega, i4, i5.le' (by omega)⟩
theorem X17 {r : Z1} (h : ROk r 5000) : Ret (Q32 NN r) (fun a => a.1 ∈ Q1i ∧ a.2.1 ∈ tys a.1 ∧ (∀ c ∈ a.2.2.1, Q0z a.1 a.2.1 c.pat = true) ∧ a.2.2.1.length ≤ 5 ∧ Nx r a.2.2.2.2 4000) := by
 unfold Q32
 refine Ret.bind (W0j (h.le (by omega))) (fun a ha => ?_)
 obtain ⟨h1, h2, h3⟩ := ha
 refine Ret.bind (W5j (ww h1) h2 (ROk.nx (c := 500) (h.le (by omega)) h3)) (fun b hb => ?_)
 exact .some ⟨h1, h2, hb.1, hb.2.1, (h3.trans hb.2.2).le' (by omega)⟩
theorem X8d (code : List Int) (hb : ∀ x ∈ code, 0 ≤ x ∧ x ≤ 255) : Ret (Y4 NN code) (fun a => a.1 ∈ Q1i ∧ a.2.1 ∈ tys a.1 ∧ a.2.2.length ≤ 9) := by
 unfold Y4
 refine Ret.bind (X4n code hb) (fun r hr => ?_)
 refine Ret.bind (X17 (hr.le (by omega))) (fun a ha => ?_)
 obtain ⟨h1, h2, h3, h4, h5⟩ := ha
 have hr1 : ROk a.2.2.2.2 1000 := ROk.nx (c := 4000) (hr.le (by omega)) h5
 refine Ret.ctl (R := fun _ => False) (B := fun (s : Z1 × List Q4) => ROk s.1 100 ∧ s.2.length ≤ 8 ∧ ∀ c ∈ s.2, c.pat.kids.length ≤ 100) ?_ (fun r hr => hr.elim) (fun s hs => ?_)
 ·have hk : ∀ c ∈ a.2.2.1, c.pat.kids.length ≤ 100 := fun c hc => by have := X80 (ww h1) h2 (h3 c hc); omega
  refine Ret.ite (fun _ => ?_) (fun _ => .some ⟨hr1.le (by omega), by simp only; omega, hk⟩)
  refine Ret.bind (Q30 (hr1.le (by omega)) (by omega) (by omega)) (fun b hb => ?_)
  have hr2 : ROk b.2 999 := ROk.nx (c := 1) hr1 hb.2.2
  refine Ret.ite (fun _ => ?_) (fun _ => .some ⟨hr2.le (by omega), by simp only; omega, hk⟩)
  simp only [Q5k, Option.bind_some]
  rw [W9 (by simp [Q8]; omega)]
  refine .some ⟨hr2.le (by omega), by simp; omega, fun c hc => ?_⟩
  rcases List.mem_append.1 hc with hc | hc
  ·exact hk c hc
  ·simp at hc; subst hc; simp
 ·refine Ret.bind (X8b (hs.1.le (by omega)) s.2 hs.2.1 hs.2.2) (fun b hb => .some ⟨h1, h2, hb.1⟩)
end Go.Proofs.YtnackipaoepmfaaGreat
namespace Go.Proofs.YtnackipaoepmfaaGreat
open Go Go.RowKit
theorem Z48 (code : List Int) (hb : ∀ x ∈ code, 0 ≤ x ∧ x ≤ 255) : Ret (W3 NN code) (fun a => a.1 ∈ Q1i ∧ a.2.1 ∈ tys a.1 ∧ a.2.2.length ≤ 10) := by
 unfold W3
 refine Ret.bind (X4n code hb) (fun r hr => ?_)
 refine Ret.bind (X8d code hb) (fun a ha => ?_)
 obtain ⟨w, t, l⟩ := a
 obtain ⟨h1, h2, h3⟩ := ha
 simp only at h1 h2 h3 ⊢
 refine Ret.ctl (R := fun _ => False) (B := fun s => s.length ≤ 10) ?_ (fun r h => h.elim) (fun s hs => .some ⟨h1, h2, hs⟩)
 refine Ret.ite (fun c1 => ?_) (fun _ => .some (by simp only [Z0y]; omega))
 refine Ret.ite (fun c2 => ?_) (fun _ => .some (by simp only [Z0y]; omega))
 rw [X3] at c1 c2
 simp only [lenZ] at c1 c2
 refine Ret.bind (Q30 (hr.le (by omega)) (by omega) (by omega)) (fun p hp => ?_)
 refine Ret.ite (fun _ => ?_) (fun _ => .some (by simp only [Z0y]; omega))
 refine Ret.bind (Q30 (r := p.2) ((hr.le (by omega : 1 + 1 ≤ 1000000)).nx hp.2.2) (by simp only [lenZ]; omega) (by simp only [lenZ]; omega)) (fun q hq => ?_)
 obtain ⟨x, hx, _⟩ := Q4i hq.1 hq.2.1
 rw [hx]
 simp only [Option.bind_some]
 rw [W9 (by simp only [List.length_cons, List.length_nil, Q8]; omega)]
 exact .some (by simp only [Z0y, List.length_append, List.length_cons, List.length_nil]; omega)
end Go.Proofs.YtnackipaoepmfaaGreat
namespace Go.Proofs.YtnackipaoepmfaaGreat
open Go Go.RowKit
theorem Ret.par {α : Type} {x : Option α} {P : α → Prop} (h : Ret x P) : Par x P := fun a e => by
 obtain ⟨b, e', hp⟩ := h
 rw [e] at e'
 cases e'
 exact hp
theorem Par.both {α : Type} {x : Option α} {P Q : α → Prop} (h : Par x P) (k : Par x Q) : Par x (fun a => P a ∧ Q a) := fun a e => ⟨h a e, k a e⟩
theorem Z3c {σ ρ : Type} {f : σ → Option (Ctl ρ σ)} (I : σ → Prop) (R : ρ → Prop) (B : σ → Prop) (st : ∀ s, I s → Par (f s) (RndQ R B I)) : ∀ (n : Nat) (s0 : σ), I s0 → Par (whileL f n s0) (CtlQ R B)
 | 0, _, _ => .none
 | n + 1, s0, h0 => fun a e => by
  unfold whileL at e
  have h1 := st s0 h0
  cases hf : f s0 with
  | none => rw [hf] at e; cases e
  | some o =>
   rw [hf] at e
   have h2 := h1 o hf
   cases o with
   | ret r => cases e; exact h2
   | brk s => cases e; exact h2
   | go s => exact Z3c I R B st n s h2 a e
def v0P : Q0 := Q0.mk 2 0 0 0 0 []
def Mut (p q : Q0) : Prop := ((q.op = 0 ∨ q.op = 7 ∨ q.op = 1 ∨ q.op = 2 ∨ q.op = 5) ∧ q.kids = p.kids ∧ q.var = p.var) ∨
 (q.op = p.op ∧ (q.kids = p.kids ∨ (q.kids = p.kids ++ [v0P] ∧ q.var = p.var) ∨ q.kids = p.kids.set 0 v0P))
theorem W1n (r : Z1) (p : Q0) : Par (Q1m r p) (fun a => Mut p a.1) := by
 unfold Q1m
 refine Par.any fun x => ?_
 refine Par.ctl (R := fun _ => False) (B := fun (s : Z1 × Int × Int × Int × Int × List Q0) => Mut p (Q0.mk s.2.1 s.2.2.1 s.2.2.2.1 p.m s.2.2.2.2.1 s.2.2.2.2.2)) ?_ (fun r hr => hr.elim) (fun s hs => .some hs)
 have same : ∀ (r : Z1) (c n v : Int), Par (some (Ctl.brk (ρ := Q0 × Z1) (r, p.op, c, n, v, p.kids))) (CtlQ (fun _ => False) (fun (s : Z1 × Int × Int × Int × Int × List Q0) => Mut p (Q0.mk s.2.1 s.2.2.1 s.2.2.2.1 p.m s.2.2.2.2.1 s.2.2.2.2.2))) := fun r c n v => .some (.inr ⟨rfl, .inl rfl⟩)
 refine Par.any fun a => Par.ite (fun _ => ?_) (fun _ => Par.ite (fun _ => Par.any fun b => same _ _ _ _) (fun _ => Par.ite (fun _ => Par.any fun b => same _ _ _ _) (fun _ => Par.ite (fun _ => ?_) (fun _ => Par.ite (fun _ => Par.ite (fun _ => Par.any fun b => ?_) (fun _ => same _ _ _ _)) (fun _ => Par.ite (fun _ => Par.any fun b => same _ _ _ _) (fun _ => same _ _ _ _))))))
 ·refine Par.bind (W1m _ _) (fun b hb => .some (.inl ⟨?_, rfl, rfl⟩))
  simpa using hb
 ·exact Par.any fun b => .some (.inr ⟨rfl, .inr (.inl ⟨rfl, rfl⟩)⟩)
 ·refine Par.bind (P := fun z => z = p.kids.set 0 v0P) (fun z hz => ?_) (fun z hz => .some (.inr ⟨rfl, .inr (.inr hz)⟩))
  unfold setI at hz
  split at hz
  ·cases hz; rfl
  ·cases hz
theorem X6k {p q : Q0} (h : Mut p q) : ∀ k ∈ q.kids, k ∈ p.kids ∨ k = v0P := fun k hk => by
 rcases h with ⟨_, h, _⟩ | ⟨_, h | ⟨h, _⟩ | h⟩
 ·rw [h] at hk; exact .inl hk
 ·rw [h] at hk; exact .inl hk
 ·rw [h] at hk; simpa using hk
 ·rw [h] at hk; exact List.mem_or_eq_of_mem_set hk
theorem W3f (d : Nat) : lvB 2 (X4 (d + 1) v0P) := by
 have : X4 (d + 1) v0P = Q0.mk 1 0 0 0 0 [] := by simp [X4, v0P]
 rw [this]
 exact X25 rfl
theorem W9g {w : List Q3} {t : Q2} {p q1 q : Q0} (hp : Q0c w 10 t p = true) (lp : linD w 10 t p = true) (hq : Q0c w 10 t q = true) (lq : linD w 10 t q = true) (h : lvB 3 (X4 10 p)) (m1 : Mut p q1) (m2 : Mut q1 q) : lvB 3 (X4 10 q) := by
 obtain ⟨po, pl⟩ := Q4o (Q3v hp)
 obtain ⟨qo, ql⟩ := Q4o (Q3v hq)
 have pc := po
 have qc := qo
 simp only [Q9k, Bool.and_eq_true, Bool.or_eq_true, decide_eq_true_eq] at pc qc
 have hk : ∀ k ∈ q.kids, k ∈ p.kids ∨ k = v0P := fun k hk => by
  rcases X6k m2 k hk with h | h
  ·exact X6k m1 k h
  ·exact .inr h
 have hop : q.op = p.op ∨ q.op = 0 ∨ q.op = 7 ∨ q.op = 1 ∨ q.op = 2 ∨ q.op = 5 := by
  rcases m2 with ⟨h, _⟩ | ⟨h, _⟩
  ·exact .inr h
  ·rcases m1 with ⟨h', _⟩ | ⟨h', _⟩
   ·right; rw [h]; exact h'
   ·left; rw [h, h']
 have qcase : q.op = 1 ∨ q.op = 2 ∨ q.op = 5 ∨ q.op = 6 ∨ q.op = 3 ∨ q.op = 4 := by
  rcases qc.2 with (h | h) | h
  ·omega
  ·omega
  ·omega
 have pcase : p.op = 1 ∨ p.op = 2 ∨ p.op = 5 ∨ p.op = 6 ∨ p.op = 3 ∨ p.op = 4 := by
  rcases pc.2 with (h | h) | h
  ·omega
  ·omega
  ·omega
 have bq : q.op ≠ 2 → q.op ≠ 6 → X4 10 q = Q0.mk q.op q.ctor q.n q.m q.var (q.kids.map (X4 9)) := fun h2 h6 => by
  rw [X4, if_neg h2, if_neg (fun h => h6 h.1)]
 have bp : p.op ≠ 2 → p.op ≠ 6 → X4 10 p = Q0.mk p.op p.ctor p.n p.m p.var (p.kids.map (X4 9)) := fun h2 h6 => by
  rw [X4, if_neg h2, if_neg (fun h => h6 h.1)]
 have pk : (p.op = 4 ∨ p.op = 5) → ∀ k ∈ p.kids, lvB 2 (X4 9 k) := fun ho k hk => by
  rw [bp (by omega) (by omega)] at h
  rcases h with h | h | ⟨_, h⟩
  ·simp only at h; omega
  ·simp only at h; omega
  ·exact h _ (List.mem_map_of_mem hk)
 have fin : (q.op = 4 ∨ q.op = 5) → (∀ k ∈ p.kids, k ∈ q.kids → lvB 2 (X4 9 k)) → lvB 3 (X4 10 q) := fun ho hh => by
  rw [bq (by omega) (by omega)]
  refine .inr (.inr ⟨ho, fun k hk' => ?_⟩)
  obtain ⟨k0, hk0, rfl⟩ := List.mem_map.1 hk'
  rcases hk k0 hk0 with h | h
  ·exact hh k0 h hk0
  ·rw [h]; exact W3f 8
 rcases qcase with q1' | q2 | q5 | q6 | q3 | q4
 ·rw [bq (by omega) (by omega)]
  exact X25 q1'
 ·rw [X4, if_pos q2]
  exact X25 rfl
 ·refine fin (.inr q5) fun k hkp hkq => ?_
  rcases pcase with h' | h' | h' | h' | h' | h'
  ·have : p.kids = [] := List.eq_nil_of_length_eq_zero (by rw [pl, Y5, if_neg (by omega), if_neg (by omega), if_neg (by omega)]; rfl)
   rw [this] at hkp; cases hkp
  ·have : p.kids = [] := List.eq_nil_of_length_eq_zero (by rw [pl, Y5, if_neg (by omega), if_neg (by omega), if_neg (by omega)]; rfl)
   rw [this] at hkp; cases hkp
  ·exact pk (.inr h') k hkp
  ·exfalso
   have pl1 : p.kids.length = 1 := by rw [pl, Y5, if_neg (by omega), if_neg (by omega), if_pos h']; rfl
   have ql2 : q.kids.length = 2 := by rw [ql, Y5, if_neg (by omega), if_pos q5]; rfl
   obtain ⟨k0, hk0⟩ : ∃ k0, p.kids = [k0] := by
    match hp' : p.kids, pl1 with
    | [a], _ => exact ⟨a, rfl⟩
   have hqk : q.kids = [k0, v0P] ∧ q.var = p.var := by
    rcases m1 with ⟨_, a1, a2⟩ | ⟨a0, a1⟩
    ·rcases m2 with ⟨_, b1, b2⟩ | ⟨b0, b1 | ⟨b1, b2⟩ | b1⟩
     ·rw [b1, a1, hk0] at ql2; simp at ql2
     ·rw [b1, a1, hk0] at ql2; simp at ql2
     ·exact ⟨by rw [b1, a1, hk0]; rfl, by rw [b2, a2]⟩
     ·rw [b1, a1, hk0] at ql2; simp at ql2
    ·rcases m2 with ⟨_, b1, b2⟩ | ⟨b0, _⟩
     ·rcases a1 with a1 | ⟨a1, a2⟩ | a1
      ·rw [b1, a1, hk0] at ql2; simp at ql2
      ·exact ⟨by rw [b1, a1, hk0]; rfl, by rw [b2, a2]⟩
      ·rw [b1, a1, hk0] at ql2; simp at ql2
     ·omega
   have hv0 : q.var = 0 := by
    have := qc.1.1.1
    rw [if_neg (by omega)] at this
    simpa using this
   have kq : Y5 w t q = [t, t] := by rw [Y5, if_neg (by omega), if_pos q5]
   have kp : Y5 w t p = [t] := by rw [Y5, if_neg (by omega), if_neg (by omega), if_pos h']
   have e1 : kv w 9 t q 0 = Q2o w 9 t k0 := by simp [kv, kq, hqk.1]
   have e2 : kv w 9 t q 1 = [⟨0, t⟩] := by
    simp only [kv, kq, hqk.1]
    simp [Q2o, ownV, v0P]
   have e3 : Q2o w 10 t p = ⟨0, t⟩ :: Q2o w 9 t k0 := by
    rw [Q2o, kp, hk0, if_neg (by omega)]
    simp [ownV, h', ← hqk.2, hv0]
   rw [linD, if_pos q5] at lq
   rw [linD, if_neg (by omega)] at lp
   simp only [Bool.and_eq_true] at lq lp
   have a := lq.2
   have b := lp.2
   rw [e1, e2] at a
   rw [e3] at b
   simp only [Q8j, Bool.and_eq_true, decide_eq_true_eq, List.all_eq_true] at a
   simp only [Q1k, decide_eq_true_eq] at b
   match hx : Q2o w 9 t k0, a with
   | [x], a =>
    have hxx := a.2 x (by simp)
    simp only [List.mem_singleton] at hxx
    rw [hx, hxx] at b
    simp at b
  ·have : p.kids = [] := List.eq_nil_of_length_eq_zero (by rw [pl, Y5, if_neg (by omega), if_neg (by omega), if_neg (by omega)]; rfl)
   rw [this] at hkp; cases hkp
  ·exact pk (.inl h') k hkp
 ·have p6 : p.op = 6 := by omega
  have pl1 : p.kids.length = 1 := by rw [pl, Y5, if_neg (by omega), if_neg (by omega), if_pos p6]; rfl
  have ql1 : q.kids.length = 1 := by rw [ql, Y5, if_neg (by omega), if_neg (by omega), if_pos q6]; rfl
  obtain ⟨k0, hk0⟩ : ∃ k0, p.kids = [k0] := by
   match hp' : p.kids, pl1 with
   | [a], _ => exact ⟨a, rfl⟩
  obtain ⟨k1, hk1⟩ : ∃ k0, q.kids = [k0] := by
   match hp' : q.kids, ql1 with
   | [a], _ => exact ⟨a, rfl⟩
  have eq : X4 10 q = X4 9 k1 := by rw [X4, if_neg (by omega), if_pos ⟨q6, by rw [hk1]; simp⟩, hk1]; rfl
  have ep : X4 10 p = X4 9 k0 := by rw [X4, if_neg (by omega), if_pos ⟨p6, by rw [hk0]; simp⟩, hk0]; rfl
  rw [eq]
  rcases hk k1 (by rw [hk1]; simp) with h1 | h1
  ·rw [hk0, List.mem_singleton] at h1
   rw [h1, ← ep]
   exact h
  ·rw [h1]
   exact W1q (W3f 8)
 ·rw [bq (by omega) (by omega)]
  exact .inr (.inl q3)
 ·exact fin (.inl q4) fun k hkp _ => pk (.inl (by omega)) k hkp
def Z3a (w : List Q3) (t : Q2) (c : Q4) : Prop := Q0z w t c.pat = true → lvB 3 (X4 10 c.pat)
def V0r (w : List Q3) (t : Q2) (c : Q4) : Prop := Q0z w t c.pat = true ∧ lvB 3 (X4 10 c.pat)
theorem X9q (r : Z1) (w : List Q3) (t : Q2) : Par (Q2e NN r w t) (fun a => lvB 3 (X4 10 a.1.pat)) := by
 unfold Q2e
 refine Par.bind (W4x r w t) (fun a ha => Par.any fun b => ?_)
 exact Par.ctl (R := fun _ => False) (B := fun _ => True) (Z2y (fun _ _ => True) (fun _ => False) (fun _ => True) _ 0 _ trivial (fun k x s _ _ => by
  refine Par.ctl (R := fun _ => False) (B := fun _ => True) ?_ (fun r h => h.elim) (fun s _ => .some trivial)
  refine Par.ite (fun _ => Par.any fun c => Par.ite (fun _ => Par.any fun d => Par.any fun e => .some trivial) (fun _ => .some trivial)) (fun _ => .some trivial)) (fun _ _ => trivial)) (fun r h => h.elim) (fun s _ => .some ha)
theorem W5k (r : Z1) (w : List Q3) (t : Q2) : Par (Q3i NN r w t) (fun a => ∀ c ∈ a.1, lvB 3 (X4 10 c.pat)) := by
 unfold Q3i
 refine Par.any fun a => ?_
 refine Par.ctl (Z3c (fun s : Z1 × List Q4 × Int => ∀ c ∈ s.2.1, lvB 3 (X4 10 c.pat)) (fun _ => False) (fun s => ∀ c ∈ s.2.1, lvB 3 (X4 10 c.pat)) (fun s hI => ?_) NN _ (by simp)) (fun r h => h.elim) (fun s hs => .some hs)
 refine Par.ite (fun _ => ?_) (fun _ => .some hI)
 refine Par.bind (X9q s.1 w t) (fun b hb => ?_)
 refine Par.bind (X0j _ _) (fun z hz => .some ?_)
 subst hz
 intro c hc
 rcases List.mem_append.1 hc with hc | hc
 ·exact hI c hc
 ·simp only [List.mem_singleton] at hc; rw [hc]; exact hb
theorem W0i (r : Z1) : Par (Q32 NN r) (fun a => ∀ c ∈ a.2.2.1, lvB 3 (X4 10 c.pat)) := by
 unfold Q32
 exact Par.any fun a => Par.bind (W5k _ _ _) (fun b hb => .some hb)
theorem W8n (d : Nat) : lvB 3 (X4 d (Q0.mk 1 0 0 0 0 [])) := Q9f d (X25 rfl)
theorem X8c {w : List Q3} {t : Q2} (r : Z1) (l : List Q4) (hl : ∀ c ∈ l, V0r w t c) : Par (Q2d NN r l) (fun a => ∀ c ∈ a.1, Z3a w t c) := by
 have hl' : ∀ c ∈ l, Z3a w t c := fun c hc _ => (hl c hc).2
 unfold Q2d
 refine Par.any fun x => ?_
 refine Par.ctl (R := fun _ => False) (B := fun (s : Z1 × List Q4) => ∀ c ∈ s.2, Z3a w t c) ?_ (fun r h => h.elim) (fun s hs => .some hs)
 have setP : ∀ {i : Int} {c : Q4}, Z3a w t c → Par (setI l i c) (fun z => ∀ c ∈ z, Z3a w t c) := fun {i c} hc z hz => by
  unfold setI at hz
  split at hz
  ·cases hz
   intro y hy
   rcases List.mem_or_eq_of_mem_set hy with hy | rfl
   ·exact hl' y hy
   ·exact hc
  ·cases hz
 have idxP : ∀ i : Int, Par (idx l i) (fun c => c ∈ l) := fun i c hc => by
  unfold idx at hc
  split at hc
  ·exact List.mem_of_getElem? hc
  ·cases hc
 refine Par.any fun a => Par.ite (fun _ => Par.ite (fun _ => ?_) (fun _ => .some hl')) (fun _ => Par.ite (fun _ => Par.ite (fun _ => ?_) (fun _ => .some hl')) (fun _ => Par.ite (fun _ => ?_) (fun _ => .some hl')))
 ·refine Par.any fun b => Par.any fun c => Par.any fun d => Par.bind (idxP 0) (fun e he => ?_)
  exact Par.bind (setP (fun _ => (hl e he).2)) (fun z hz => .some hz)
 ·refine Par.bind (idxP 0) (fun e he => ?_)
  refine Par.bind (W1n _ _) (fun f hf => ?_)
  refine Par.bind (W1n _ _) (fun g hg => ?_)
  refine Par.bind (setP (fun hv => ?_)) (fun z hz => .some hz)
  obtain ⟨g1, _, l1⟩ := Q2l (hl e he).1
  obtain ⟨g2, _, l2⟩ := Q2l hv
  exact W9g g1 l1 g2 l2 (hl e he).2 hf hg
 ·refine Par.ctl (Z3c (fun s : List Q4 => ∀ c ∈ s, Z3a w t c) (fun _ => False) (fun s => ∀ c ∈ s, Z3a w t c) (fun s hI => ?_) NN _ hl') (fun r h => h.elim) (fun s hs => .some hs)
  refine Par.ite (fun _ => Par.any fun y => .some fun c hc => ?_) (fun _ => .some hI)
  rcases List.mem_append.1 hc with hc | hc
  ·exact hI c hc
  ·simp only [List.mem_singleton] at hc; rw [hc]; exact fun _ => W8n 10
theorem X8e (code : List Int) (hb : ∀ x ∈ code, 0 ≤ x ∧ x ≤ 255) : Par (Y4 NN code) (fun a => ∀ c ∈ a.2.2, Z3a a.1 a.2.1 c) := by
 unfold Y4
 refine Par.bind (X4n code hb).par (fun r hr => ?_)
 refine Par.bind ((X17 (hr.le (by omega))).par.both (W0i r)) (fun a ha => ?_)
 obtain ⟨⟨h1, h2, h3, h4, h5⟩, h6⟩ := ha
 have hd : ∀ c ∈ a.2.2.1, V0r a.1 a.2.1 c := fun c hc => ⟨h3 c hc, h6 c hc⟩
 refine Par.ctl (R := fun _ => False) (B := fun (s : Z1 × List Q4) => ∀ c ∈ s.2, V0r a.1 a.2.1 c) ?_ (fun r hr => hr.elim) (fun s hs => Par.bind (X8c s.1 s.2 hs) (fun b hb => .some hb))
 refine Par.ite (fun _ => Par.any fun b => Par.ite (fun _ => Par.bind (P := fun p => p = Q0.mk 1 0 0 0 0 []) (.some rfl) (fun p hp => Par.bind (X0j _ _) (fun z hz => .some ?_))) (fun _ => .some hd)) (fun _ => .some hd)
 subst hz hp
 intro c hc
 rcases List.mem_append.1 hc with hc | hc
 ·exact hd c hc
 ·simp only [List.mem_singleton] at hc
  rw [hc]
  exact ⟨X3g _ _, W8n 10⟩
theorem Z49 (code : List Int) (hb : ∀ x ∈ code, 0 ≤ x ∧ x ≤ 255) : Par (W3 NN code) (fun a => ∀ c ∈ a.2.2, Z3a a.1 a.2.1 c) := by
 unfold W3
 refine Par.any fun r => Par.bind (X8e code hb) (fun a ha => ?_)
 refine Par.ctl (R := fun _ => False) (B := fun (s : List Q4) => ∀ c ∈ s, Z3a a.1 a.2.1 c) ?_ (fun r hr => hr.elim) (fun s hs => .some hs)
 refine Par.ite (fun _ => Par.ite (fun _ => Par.any fun b => Par.ite (fun _ => Par.any fun d => Par.bind (P := fun c => c ∈ a.2.2) (fun c hc => ?_) (fun c hc => Par.bind (X0j _ _) (fun z hz => .some ?_))) (fun _ => .some ha)) (fun _ => .some ha)) (fun _ => .some ha)
 ·unfold idx at hc
  split at hc
  ·exact List.mem_of_getElem? hc
  ·cases hc
 ·subst hz
  intro y hy
  rcases List.mem_append.1 hy with hy | hy
  ·exact ha y hy
  ·simp only [List.mem_singleton] at hy; rw [hy]; exact ha c hc
end Go.Proofs.YtnackipaoepmfaaGreat
namespace Go.Proofs.YtnackipaoepmfaaGreat
open Go Go.RowKit
theorem X1j {w : List Q3} (hw : WW w) (he : WE w) {t : Q2} (ht : t ∈ tys w) {ps : List Q0} (hp : ∀ p ∈ ps, Z4 w 10 t p ∧ cntP p ≤ 100) (hl : ps.length ≤ 40) (hfew : ∀ r, sepP w t [] ps = some r → r.length ≤ 400) :
  Q3w NN w (tabP w) t ps = some (optR (sepP w t [] ps)) := by
 suffices hs : Ret (Q3w NN w (tabP w) t ps) (fun r => r = optR (sepP w t [] ps)) by
  obtain ⟨a, e, rfl⟩ := hs
  exact e
 unfold Q3w
 refine Ret.ctl (Z3 ps (fun k s => s.length ≤ 400 ∧ sepP w t [] ps = (sepP w t (ps.take k) (ps.drop k)).map (s ++ ·)) (fun r => r = ([], false) ∧ sepP w t [] ps = none) (fun s => sepP w t [] ps = some s) ⟨by simp, by simp⟩ (fun k p s hp' hI => ?_) (fun s hI => ?_)) (fun r hr => .some (by rw [hr.1, hr.2]; rfl)) (fun s hs => .some (by rw [hs]; rfl))
 ·obtain ⟨hsl, hI⟩ := hI
  have hk := (List.getElem?_eq_some_iff.1 hp').1
  have hpm := hp p (List.mem_of_getElem? hp')
  have hsub : subI ps (k : Int) (wadd .i64 (k : Int) 1) = some [p] := by
   rw [Q1c (by omega) (by omega)]
   unfold subI
   rw [if_pos ⟨by omega, by omega, by omega⟩]
   have h1 : ((k : Int) + 1).toNat = k + 1 := by omega
   rw [h1, Int.toNat_natCast, List.take_add_one, hp', List.drop_append, List.length_take, Nat.min_eq_left (by omega), Nat.sub_self, List.drop_of_length_le (by rw [List.length_take]; omega)]
   rfl
  rw [hsub]
  simp only [Option.bind_some]
  rw [Z9f (by omega)]
  simp only [Option.bind_some]
  rw [Q9t hw he (d := 10) (x := 11) ht (by omega) (by omega) (fun b hb => hp b (List.mem_of_mem_take hb)) (fun a ha => by simp only [List.mem_singleton] at ha; rw [ha]; exact Q51 10 t p hpm.1) (by simp) (by simp only [NN]; omega)]
  simp only [Option.bind_some]
  rw [Z74 hp'] at hI
  simp only [sepP] at hI
  cases hm : Q1d w 10 11 t [p] (ps.take k) with
  | none =>
   rw [hm] at hI
   simp only [Option.bind_none, Option.map_none] at hI
   simp only [optR, Bool.not_false, if_true]
   exact .some ⟨rfl, hI⟩
  | some m =>
   rw [hm] at hI
   have hml := Q6e (m := 400) (Nat.le_refl _) (by simp) hm
   have e1 : wadd .i64 (lenZ s.length) (lenZ m.length) = ((s.length + m.length : Nat) : Int) := by
    rw [Q1x, Q1x, Q1c (by omega) (by omega)]
    omega
   simp only [optR, Bool.not_true, Bool.false_eq_true, if_false, e1]
   refine Ret.ite (fun hgt => ?_) (fun hle => ?_)
   ·rw [X3] at hgt
    refine .some ⟨rfl, ?_⟩
    cases hz : sepP w t (ps.take k ++ [p]) (ps.drop (k + 1)) with
    | none => rw [hI]; simp [hz]
    | some z =>
     rw [hz] at hI
     simp only [Option.bind_some, Option.map_some] at hI
     have := hfew _ hI
     simp only [List.length_append] at this
     omega
   ·rw [J0] at hle
    rw [W9 (by simp only [Q8]; omega)]
    refine .some ⟨by simp only [List.length_append]; omega, ?_⟩
    rw [hI]
    simp only [Option.bind_some, Option.map_map]
    rw [List.take_add_one, hp']
    simp only [Option.toList_some]
    congr 1
    funext z
    simp
 ·obtain ⟨_, hI⟩ := hI
  rw [List.drop_length, sepP] at hI
  simpa using hI
theorem Z7s {w : List Q3} (hww : w ∈ Q1i) {t : Q2} (ht : t ∈ tys w) {cs : List Q4} (hf : ∀ c ∈ cs, Z3a w t c) {i : Nat} (hi : i < cs.length) : Q1g NN w t cs (i : Int) = some (optR (J2 w t cs i)) := by
 have hw := ww hww
 have he := we hww
 unfold Q1g J2
 rw [Z1a hw ht]
 simp only [Option.bind_some]
 by_cases h : Q1e w t cs = true
 ·obtain ⟨h8, hc⟩ := Q4l h
  have hci : cs[i]? = some (cs[i]'hi) := by simp
  generalize cs[i]'hi = c at hci
  have hcm := List.mem_of_getElem? hci
  obtain ⟨hv, hg, hcn⟩ := hc c hcm
  simp only [h, Bool.not_true, Bool.false_eq_true, if_false, if_true]
  rw [if_neg (by rw [X3]; omega), if_neg (by rw [Q24, Q1x]; omega), hci, Q1u hci]
  simp only [Option.bind_some]
  rw [Z43 hw ht hg (by omega) (by simp only [NN]; omega)]
  simp only [Option.bind_some]
  have htk : ∀ c ∈ cs.take i, Q0c w 10 t c.pat = true ∧ cntP c.pat ≤ 60 := fun c m => (hc c (List.mem_of_mem_take m)).2
  by_cases h40 : 40 < (Z0 10 (X4 10 c.pat)).length
  ·have hm : Q50 c.pat = none := by unfold Q50; rw [if_pos h40]
   rw [if_pos (by rw [X3, Q1x, List.length_take]; omega), hm]
   rfl
  ·have hm : Q50 c.pat = some (Z0 10 (X4 10 c.pat)) := by unfold Q50; rw [if_neg h40]
   rw [List.take_of_length_le (by omega), if_neg (by rw [X3, Q1x]; omega), hm]
   have hpp := Z0t hg hm
   have hpc := Z5v hm
   have hpl := (Q6g hm).1
   obtain ⟨P, hP, hPs⟩ := W9l hw (wr hww) ht (Q6d Q7n 10 t c.pat hg) (hf c hcm hv)
   have hfew : ∀ r, sepP w t [] (Z0 10 (X4 10 c.pat)) = some r → r.length ≤ 400 := fun r hr => W92 hw he ht hP (fun p hp => ⟨hPs p hp, hpp p hp⟩) hr
   generalize Z0 10 (X4 10 c.pat) = mine at hpp hpc hpl hfew hPs
   simp only [Option.bind_some]
   rw [hw.tab]
   simp only [Option.bind_some]
   rw [X1j hw he ht (fun p hp => ⟨hpp p hp, by have := hpc p hp; omega⟩) hpl hfew]
   simp only [Option.bind_some]
   cases hs : sepP w t [] mine with
   | none =>
    simp only [optR, Bool.not_false, if_true, Option.bind_none]
    cases Q1v (cs.take i) <;> rfl
   | some out =>
    have hol := hfew out hs
    have hop := Z29 mine [] out (by simp) hpp hs
    simp only [optR, Bool.not_true, Bool.false_eq_true, if_false]
    unfold Q6r
    rw [X1h hw ht (by omega) (fun c m => ⟨(hc c m).2.1, by have := (hc c m).2.2; omega⟩) (by omega)]
    simp only [Option.bind_some]
    cases ha : Q1v (cs.take i) with
    | none => simp [optR]
    | some away =>
     have hap := Q72 (fun c m => (htk c m).1) ha
     have hac := Z35 (m := 60) (fun c m => (htk c m).2) ha
     simp only [optR, Bool.not_true, Bool.false_eq_true, if_false, Option.bind_some]
     rw [hw.tab]
     simp only [Option.bind_some]
     rw [Q9t hw he (d := 10) (x := 11) ht (by omega) (by omega) (fun b hb => ⟨hap b hb, by have := hac b hb; omega⟩) hop (by omega) (by simp only [NN]; omega)]
     simp only [Option.bind_some]
     rw [X1f hw (by simp only [NN]; omega) ht _ (fun r hr => by have := Q6e (m := 20000) (by omega) (by omega) hr; omega)]
     cases Q9i w t (Q1d w 10 11 t out away) <;> rfl
 ·simp [h, optR]
theorem Q9h {w : List Q3} (hww : w ∈ Q1i) {t : Q2} (ht : t ∈ tys w) {cs : List Q4} (hf : ∀ c ∈ cs, Z3a w t c) : J5 NN w t cs = some (redD w t cs) := by
 have hw := ww hww
 suffices hs : Ret (J5 NN w t cs) (fun r => r = redD w t cs) by
  obtain ⟨a, e, rfl⟩ := hs
  exact e
 unfold J5 redD
 rw [Z1a hw ht]
 simp only [Option.bind_some]
 by_cases h : Q1e w t cs = true
 ·obtain ⟨h8, hc⟩ := Q4l h
  simp only [h, Bool.not_true, Bool.false_eq_true, if_false, true_and]
  refine Ret.ctl (Z3 cs (fun k s => s = ((List.range k).filter fun i => nilR (J2 w t cs i)).map (fun i : Nat => (i : Int)) ∧ ∀ i, i < k → (J2 w t cs i).isSome = true) (fun r => r = ([], false) ∧ ¬ ∀ i, i < cs.length → (J2 w t cs i).isSome = true) (fun s => s = ((List.range cs.length).filter fun i => nilR (J2 w t cs i)).map (fun i : Nat => (i : Int)) ∧ ∀ i, i < cs.length → (J2 w t cs i).isSome = true) ⟨by simp, by simp⟩ (fun k c s hck hI => ?_) (fun s hI => hI)) (fun r hr => .some (by rw [if_neg hr.2]; exact hr.1)) (fun s hs => .some (by rw [if_pos hs.2, hs.1]))
  obtain ⟨hI, hall⟩ := hI
  have hk := (List.getElem?_eq_some_iff.1 hck).1
  have hsl : s.length ≤ 8 := by
   rw [hI, List.length_map]
   have := List.length_filter_le (fun i => nilR (J2 w t cs i)) (List.range k)
   rw [List.length_range] at this
   omega
  rw [Z7s hww ht hf hk]
  simp only [Option.bind_some]
  have hnext : ∀ i, i < k + 1 → (J2 w t cs k).isSome = true → (J2 w t cs i).isSome = true := fun i hi hk' => by
   by_cases hik : i = k
   ·rw [hik]; exact hk'
   ·exact hall i (by omega)
  cases hr : J2 w t cs k with
  | none =>
   simp only [optR, Bool.not_false, if_true, Option.bind_some]
   exact .some ⟨rfl, fun hh => by have := hh k hk; rw [hr] at this; cases this⟩
  | some r =>
   simp only [optR, Bool.not_true, Bool.false_eq_true, if_false, len0]
   rw [hr] at hnext
   by_cases h0 : r.length = 0
   ·have hr0 : r = [] := List.eq_nil_of_length_eq_zero h0
    simp only [h0, decide_true, if_true]
    rw [W9 (by simp only [List.length_cons, List.length_nil, Q8]; omega)]
    refine .some ⟨?_, fun i hi => hnext i hi rfl⟩
    rw [hI, List.range_succ, List.filter_append, List.map_append]
    simp [hr, hr0, nilR]
   ·simp only [h0, decide_false, Bool.false_eq_true, if_false, Option.bind_some]
    refine .some ⟨?_, fun i hi => hnext i hi rfl⟩
    rw [hI, List.range_succ, List.filter_append, List.map_append]
    have : r ≠ [] := fun e => h0 (by rw [e]; rfl)
    simp [hr, this, nilR]
 ·simp only [h, Bool.not_false, if_true, false_and, if_false]
  exact .some rfl
end Go.Proofs.YtnackipaoepmfaaGreat
namespace Go.Proofs.YtnackipaoepmfaaGreat
open Go Go.RowKit
theorem W1d (l : List Int) (x : Int) : Q5f l x = some (decide (x ∈ l)) := by
 suffices hs : Ret (Q5f l x) (fun r => r = decide (x ∈ l)) by
  obtain ⟨a, e, rfl⟩ := hs
  exact e
 unfold Q5f
 refine Ret.ctl (Z3 l (fun k _ => x ∉ l.take k) (fun r => r = true ∧ x ∈ l) (fun _ => x ∉ l) (by simp) (fun k y s hy hI => ?_) (fun s hI => by rwa [List.take_length] at hI)) (fun r hr => .some (by rw [hr.1]; simp [hr.2])) (fun s hs => .some (by simp [hs]))
 refine Ret.ite (fun h => ?_) (fun h => ?_)
 ·rw [W5] at h
  exact .some ⟨rfl, h ▸ List.mem_of_getElem? hy⟩
 ·rw [X9] at h
  refine .some ?_
  simp only [Q4x]
  rw [List.take_add_one, hy]
  simp only [Option.toList_some, List.mem_append, List.mem_singleton, not_or]
  exact ⟨hI, fun e => h e.symm⟩
end Go.Proofs.YtnackipaoepmfaaGreat
namespace Go.Proofs.YtnackipaoepmfaaGreat
open Go Go.RowKit
theorem X4j (l : List Int) : Q22 l l = some true := by
 suffices hs : Ret (Q22 l l) (fun a => a = true) by
  obtain ⟨a, e, rfl⟩ := hs
  exact e
 unfold Q22
 have e : (!ieq (lenZ l.length) (lenZ l.length)) = false := by simp [ieq]
 simp only [e, Bool.false_eq_true, if_false]
 refine Ret.ctl (Z3 l (fun _ _ => True) (fun _ => False) (fun _ => True) trivial (fun i x s hi _ => ?_) (fun _ _ => trivial)) (fun r hr => hr.elim) (fun s _ => .some rfl)
 rw [Q1u hi]
 have e : (!ieq x x) = false := by simp [ieq]
 simp only [Option.bind_some, e, Bool.false_eq_true, if_false]
 exact .some trivial
end Go.Proofs.YtnackipaoepmfaaGreat
namespace Go.Proofs.YtnackipaoepmfaaGreat
open Go Go.RowKit
theorem W95 {w : List Q3} {t : Q2} {cs : List Q4} (h : (redD w t cs).2 = true) : Q1e w t cs = true ∧ (∀ i, i < cs.length → (J2 w t cs i).isSome = true) ∧ (redD w t cs).1 = ((List.range cs.length).filter fun i => nilR (J2 w t cs i)).map (fun i : Nat => (i : Int)) := by
 unfold redD at h ⊢
 split at h
 ·rename_i hh
  rw [if_pos hh]
  exact ⟨hh.1, hh.2, rfl⟩
 ·cases h
theorem Z9p (code more : List Int) (hb : ∀ x ∈ code, 0 ≤ x ∧ x ≤ 255) : Q01 NN code more = some true := by
 suffices hr : Ret (Q01 NN code more) (fun r => r = true) by
  obtain ⟨_, e, rfl⟩ := hr
  exact e
 unfold Q01
 refine Ret.ite (fun _ => .some rfl) (fun _ => ?_)
 refine Ret.ite (fun _ => .some rfl) (fun _ => ?_)
 refine Ret.bind ((Z48 code hb).both (Z49 code hb)) (fun a ha => ?_)
 obtain ⟨w, t, cs⟩ := a
 obtain ⟨⟨hww, ht, _⟩, hf⟩ := ha
 simp only at hww ht hf ⊢
 have hw := ww hww
 rw [Q6o hww ht, Q9h hww ht hf]
 simp only [Option.bind_some, beq_self_eq_true, Bool.not_true, Bool.false_eq_true, if_false, if_true]
 rw [X4j]
 simp only [Option.bind_some, Bool.not_true, Bool.false_eq_true, if_false]
 refine Ret.ite (fun _ => .some rfl) (fun hok => ?_)
 rw [Bool.not_eq_false'] at hok
 obtain ⟨hcl, hall, hlist⟩ := W95 hok
 obtain ⟨d, hd, d1, d3⟩ := rem3 more.length
 rw [hd]
 obtain ⟨vs, hvs, _, hvv⟩ := Z1h hw ht d1 d3
 rw [hvs]
 simp only [Option.bind_some]
 refine Ret.ctl (Z3 vs.1 (fun _ _ => True) (fun _ => False) (fun _ => True) trivial (fun k v u hv _ => ?_) (fun _ _ => trivial)) (fun r hr => hr.elim) (fun _ _ => ?_)
 ·obtain ⟨h1, h2⟩ := hvv v (List.mem_of_getElem? hv)
  rw [Z9t hw ht cs v, X4c hcl h1]
  simp only [Option.bind_some]
  rw [W1d]
  simp only [Option.bind_some]
  have hno : (runR (runD v 0 cs)).1 ∉ (redD w t cs).1 := fun hin => by
   cases hr : runD v 0 cs with
   | none =>
    rw [hr, hlist] at hin
    simp only [runR, List.mem_map] at hin
    obtain ⟨i, _, hi⟩ := hin
    omega
   | some x =>
    rw [hr] at hin
    exact X1u hww ht (i := x.1) (b := x.2) hin h2 hr
  simp only [hno, decide_false, Bool.false_eq_true, if_false]
  exact .some trivial
 ·dsimp only
  refine Ret.ctl (Z3 cs (fun _ _ => True) (fun _ => False) (fun _ => True) trivial (fun k c u hc _ => ?_) (fun _ _ => trivial)) (fun r hr => hr.elim) (fun _ _ => .some rfl)
  have hk := (List.getElem?_eq_some_iff.1 hc).1
  rw [Z1i hww ht hk]
  simp only [Option.bind_some]
  have hs := hall k hk
  cases hr : J2 w t cs k with
  | none => rw [hr] at hs; cases hs
  | some r =>
   simp only [optR, Bool.not_true, Bool.false_eq_true, if_false]
   rw [W1d]
   simp only [Option.bind_some, len0]
   have hiff : ((k : Int) ∈ (redD w t cs).1) ↔ r.length = 0 := by
    rw [hlist]
    simp only [List.mem_map, List.mem_filter, List.mem_range]
    constructor
    ·rintro ⟨i, ⟨_, hi⟩, he⟩
     have : i = k := by omega
     subst this
     rw [hr] at hi
     simpa [nilR] using hi
    ·intro h0
     exact ⟨k, ⟨hk, by rw [hr]; simp [nilR, h0]⟩, rfl⟩
   have e : (decide (r.length = 0) == decide ((k : Int) ∈ (redD w t cs).1)) = true := by
    rw [beq_iff_eq]
    exact decide_eq_decide.2 hiff.symm
   rw [e]
   exact .some trivial
end Go.Proofs.YtnackipaoepmfaaGreat
namespace Go.Proofs.YtnackipaoepmfaaGreat
open Go Go.RowKit
theorem X5s (l : List Q4) (f : Q4 → Q4 → Option Bool) (h : ∀ c ∈ l, f c c = some true) : J9 l l f = some true := by
 suffices hr : Ret (J9 l l f) (fun r => r = true) by
  obtain ⟨_, e, rfl⟩ := hr
  exact e
 unfold J9
 have e : (!ieq (lenZ l.length) (lenZ l.length)) = false := by simp [ieq]
 simp only [e, Bool.false_eq_true, if_false]
 refine Ret.ctl (Z3 l (fun _ _ => True) (fun _ => False) (fun _ => True) trivial (fun k c u hc _ => ?_) (fun _ _ => trivial)) (fun r hr => hr.elim) (fun _ _ => .some rfl)
 rw [Q1u hc]
 simp only [Option.bind_some]
 rw [h c (List.mem_of_getElem? hc)]
 exact .some trivial
theorem Z50 {l : List Q4} (h : ∀ c ∈ l, Z86 10 c.pat) : Q0d NN l l = some true := by
 unfold Q0d
 rw [X5s l _ fun c hc => by
  unfold Q37
  obtain ⟨r, e, hr⟩ := Z69 10 NN c.pat c.pat (h c hc) (by decide)
  rw [e, hr.2 rfl]
  simp [Q6b, ieq]]
 rfl
theorem Z88 {w : List Q3} {t : Q2} {l : List Q4} (h : ∀ c ∈ l, Q0z w t c.pat = true) : ∀ c ∈ l, Z86 10 c.pat := fun c hc => Q7i 10 t c.pat (Q2l (h c hc)).1
theorem Z9l {w : List Q3} {t : Q2} {l : List Q4} (h : ∀ c ∈ l, Q0z w t c.pat = true) (hl : l.length ≤ 1000) : Q2a NN l = some l := by
 suffices hr : Ret (Q2a NN l) (fun r => r = l) by
  obtain ⟨_, e, rfl⟩ := hr
  exact e
 unfold Q2a
 refine Ret.ctl (Z3 l (fun i s => s = l.take i) (fun _ => False) (fun s => s = l) (by simp) (fun i c s hc hI => ?_) (fun s hI => by rw [hI, List.take_length])) (fun r hr => hr.elim) (fun s hs => .some hs)
 obtain ⟨g, c1, _⟩ := Q2l (h c (List.mem_of_getElem? hc))
 rw [Z8x 10 NN c.pat (Q7i 10 t c.pat g) (by decide) (by omega)]
 simp only [Option.bind_some]
 rw [W9 (by rw [hI]; simp only [List.length_take, List.length_cons, List.length_nil, Q8]; omega)]
 exact .some (by simp only [Q4x]; rw [hI, List.take_add_one, hc]; cases c; rfl)
end Go.Proofs.YtnackipaoepmfaaGreat
namespace Go.Proofs.YtnackipaoepmfaaGreat
open Go Go.RowKit
def Q4h (p : Nat → Bool) : Nat → List Q4 → List Q4
 | _, [] => []
 | k, c :: cs => if p k = true then Q4h p (k + 1) cs else c :: Q4h p (k + 1) cs
theorem Z0c {p : Nat → Bool} : ∀ {l : List Q4} {k : Nat} {c : Q4}, c ∈ Q4h p k l → c ∈ l
 | [], _, _, h => by simp [Q4h] at h
 | a :: l, k, c, h => by
  rw [Q4h] at h
  split at h
  ·exact List.mem_cons_of_mem _ (Z0c h)
  ·rcases List.mem_cons.1 h with rfl | h
   ·simp
   ·exact List.mem_cons_of_mem _ (Z0c h)
theorem Z66 (p : Nat → Bool) : ∀ (l : List Q4) (k : Nat), (Q4h p k l).length ≤ l.length
 | [], _ => by simp [Q4h]
 | a :: l, k => by
  rw [Q4h]
  have := Z66 p l (k + 1)
  split <;> simp only [List.length_cons] <;> omega
theorem Z67 {p : Nat → Bool} : ∀ {l : List Q4} {k j : Nat} {c : Q4}, (Q4h p k l)[j]? = some c → ∃ i, l[i]? = some c ∧ p (k + i) = false ∧ ∀ c' ∈ (Q4h p k l).take j, c' ∈ l.take i
 | [], _, _, _, h => by simp [Q4h] at h
 | a :: l, k, j, c, h => by
  rw [Q4h] at h ⊢
  by_cases hp : p k = true
  ·rw [if_pos hp] at h ⊢
   obtain ⟨i, h1, h2, h3⟩ := Z67 h
   exact ⟨i + 1, by simpa using h1, by rw [← h2]; congr 1; omega, fun c' hc => by rw [List.take_succ_cons]; exact List.mem_cons_of_mem _ (h3 c' hc)⟩
  ·rw [if_neg hp] at h ⊢
   cases j with
   | zero =>
    simp only [List.getElem?_cons_zero, Option.some.injEq] at h
    exact ⟨0, by simp [h], by simpa using hp, by simp⟩
   | succ j =>
    obtain ⟨i, h1, h2, h3⟩ := Z67 (by simpa using h)
    refine ⟨i + 1, by simpa using h1, by rw [← h2]; congr 1; omega, fun c' hc => ?_⟩
    rw [List.take_succ_cons] at hc ⊢
    rcases List.mem_cons.1 hc with rfl | hc
    ·simp
    ·exact List.mem_cons_of_mem _ (h3 c' hc)
def hitC (v : Q5) (c : Q4) : Option (List W4) := match W7 10 c.pat v with
 | some b => if Q62 c.guard b = true then some (Q9u b) else none
 | none => none
theorem Z5p (v : Q5) (k : Nat) (c : Q4) (l : List Q4) : runD v k (c :: l) = match hitC v c with
  | some b => some (k, b)
  | none => runD v (k + 1) l := by
 simp only [runD, hitC]
 cases W7 10 c.pat v with
 | none => rfl
 | some b => simp only; cases Q62 c.guard b <;> rfl
theorem X6q {v : Q5} {p : Nat → Bool} : ∀ (l : List Q4) (k : Nat), (∀ x, runD v k l = some x → p x.1 = false) → match runD v k l with
  | none => ∀ j, runD v j (Q4h p k l) = none
  | some x => k ≤ x.1 ∧ ∀ j, ∃ i, runD v j (Q4h p k l) = some (j + i, x.2) ∧ (Q4h p k l)[i]? = l[x.1 - k]?
 | [], k, _ => fun j => rfl
 | c :: l, k, h => by
  rw [Z5p] at h ⊢
  cases hc : hitC v c with
  | some b =>
   rw [hc] at h
   have hp : p k = false := h (k, b) rfl
   refine ⟨Nat.le_refl _, fun j => ⟨0, ?_, ?_⟩⟩
   ·rw [Q4h, if_neg (by rw [hp]; simp), Z5p, hc]
    rfl
   ·rw [Q4h, if_neg (by rw [hp]; simp)]
    simp
  | none =>
   rw [hc] at h
   simp only at h ⊢
   have ih := X6q l (k + 1) h
   have hsk : ∀ (j : Nat), runD v j (Q4h p k (c :: l)) = if p k = true then runD v j (Q4h p (k + 1) l) else runD v (j + 1) (Q4h p (k + 1) l) := fun j => by
    rw [Q4h]
    by_cases hp : p k = true
    ·rw [if_pos hp, if_pos hp]
    ·rw [if_neg hp, if_neg hp, Z5p, hc]
   cases hr : runD v (k + 1) l with
   | none =>
    rw [hr] at ih
    intro j
    rw [hsk]
    split
    ·exact ih j
    ·exact ih (j + 1)
   | some x =>
    rw [hr] at ih
    obtain ⟨h1, h2⟩ := ih
    refine ⟨by omega, fun j => ?_⟩
    have hx : x.1 - k = (x.1 - (k + 1)) + 1 := by omega
    rw [hsk, hx, List.getElem?_cons_succ, Q4h]
    by_cases hp : p k = true
    ·rw [if_pos hp, if_pos hp]
     exact h2 j
    ·rw [if_neg hp, if_neg hp]
     obtain ⟨i, g1, g2⟩ := h2 (j + 1)
     exact ⟨i + 1, by rw [g1]; congr 2; omega, by rw [List.getElem?_cons_succ]; exact g2⟩
theorem W35 (l : List Int) (x : Int) : W2 l x = some (decide (x ∈ l)) := by
 suffices hs : Ret (W2 l x) (fun r => r = decide (x ∈ l)) by
  obtain ⟨a, e, rfl⟩ := hs
  exact e
 unfold W2 Q2t
 refine Ret.bind (P := fun r => ile 0 r = decide (x ∈ l)) ?_ (fun r hr => .some hr)
 refine Ret.ctl (Z3 l (fun k _ => x ∉ l.take k) (fun r => 0 ≤ r ∧ x ∈ l) (fun _ => x ∉ l) (by simp) (fun k y s hy hI => ?_) (fun s hI => by rwa [List.take_length] at hI)) (fun r hr => .some (by simp [ile, hr.1, hr.2])) (fun s hs => .some (by simp [ile, hs]))
 refine Ret.ite (fun h => ?_) (fun h => ?_)
 ·rw [W5] at h
  exact .some ⟨by omega, h ▸ List.mem_of_getElem? hy⟩
 ·rw [X9] at h
  refine .some ?_
  simp only [Q4x]
  rw [List.take_add_one, hy]
  simp only [Option.toList_some, List.mem_append, List.mem_singleton, not_or]
  exact ⟨hI, h⟩
def Z75 (w : List Q3) (t : Q2) (cs : List Q4) : List Q4 × Bool :=
 if (redD w t cs).2 = true then (Q4h (fun i => nilR (J2 w t cs i)) 0 cs, true) else ([], false)
theorem Z00 {w : List Q3} {t : Q2} {cs : List Q4} (h : (redD w t cs).2 = true) : Q1e w t cs = true ∧ (∀ i, i < cs.length → (J2 w t cs i).isSome = true) ∧ ∀ i : Nat, ((i : Int) ∈ (redD w t cs).1 ↔ i < cs.length ∧ nilR (J2 w t cs i) = true) := by
 unfold redD at h ⊢
 split at h
 ·rename_i hh
  rw [if_pos hh]
  refine ⟨hh.1, hh.2, fun i => ?_⟩
  simp only [List.mem_map, List.mem_filter, List.mem_range]
  constructor
  ·rintro ⟨j, hj, he⟩
   have : j = i := by omega
   rw [← this]
   exact hj
  ·intro hi
   exact ⟨i, hi, rfl⟩
 ·cases h
theorem X4v {w : List Q3} (hww : w ∈ Q1i) {t : Q2} (ht : t ∈ tys w) (cs : List Q4) : Q18 NN w t cs = some (Z75 w t cs) := by
 suffices hs : Ret (Q18 NN w t cs) (fun r => r = Z75 w t cs) by
  obtain ⟨a, e, rfl⟩ := hs
  exact e
 unfold Q18 Z75
 rw [Q6o hww ht]
 simp only [Option.bind_some]
 cases hok : (redD w t cs).2 with
 | false => exact .some (by simp)
 | true =>
  obtain ⟨hcl, _, hiff⟩ := Z00 hok
  obtain ⟨h8, hv⟩ := Q7x hcl
  simp only [Bool.not_true, Bool.false_eq_true, if_false, if_true]
  have hlen := Z66 (fun i => nilR (J2 w t cs i)) cs 0
  refine Ret.ctl (Z3 cs (fun k s => s.length ≤ k ∧ s ++ Q4h (fun i => nilR (J2 w t cs i)) k (cs.drop k) = Q4h (fun i => nilR (J2 w t cs i)) 0 cs) (fun _ => False) (fun s => s = Q4h (fun i => nilR (J2 w t cs i)) 0 cs) ⟨by simp, by simp⟩ (fun k c s hc hI => ?_) (fun s hI => ?_)) (fun r hr => hr.elim) (fun s hs => ?_)
  ·obtain ⟨i1, i2⟩ := hI
   have hk := (List.getElem?_eq_some_iff.1 hc).1
   rw [Z74 hc, Q4h] at i2
   rw [W35]
   simp only [Option.bind_some]
   by_cases hp : nilR (J2 w t cs k) = true
   ·have e : decide ((k : Int) ∈ (redD w t cs).1) = true := by rw [decide_eq_true_eq, hiff]; exact ⟨hk, hp⟩
    rw [if_pos hp] at i2
    simp only [e, Bool.not_true, Bool.false_eq_true, if_false, Option.bind_some]
    exact .some ⟨by omega, i2⟩
   ·have e : decide ((k : Int) ∈ (redD w t cs).1) = false := by rw [decide_eq_false_iff_not, hiff]; exact fun h => hp h.2
    rw [if_neg hp] at i2
    simp only [e, Bool.not_false, if_true]
    rw [W9 (by simp only [List.length_cons, List.length_nil, Q8]; omega)]
    exact .some ⟨by simp only [List.length_append, List.length_cons, List.length_nil]; omega, by rw [← i2]; simp⟩
  ·rw [List.drop_length, Q4h, List.append_nil] at hI
   exact hI.2
  ·subst hs
   dsimp only
   rw [Z9l (fun c hc => hv c (Z0c hc)) (by omega)]
   exact .some rfl
theorem X46 {w : List Q3} (hww : w ∈ Q1i) {t : Q2} (ht : t ∈ tys w) {cs : List Q4} (hf : ∀ c ∈ cs, Z3a w t c) : Q15 NN w t cs = some (Z75 w t cs) := by
 suffices hs : Ret (Q15 NN w t cs) (fun r => r = Z75 w t cs) by
  obtain ⟨a, e, rfl⟩ := hs
  exact e
 unfold Q15 Z75
 rw [Q9h hww ht hf]
 simp only [Option.bind_some]
 cases hok : (redD w t cs).2 with
 | false => exact .some (by simp)
 | true =>
  obtain ⟨hcl, _, hiff⟩ := Z00 hok
  obtain ⟨h8, hv⟩ := Q4l hcl
  simp only [Bool.not_true, Bool.false_eq_true, if_false, if_true]
  refine Ret.ctl (Z3 cs (fun k s => s.length ≤ k ∧ s ++ Q4h (fun i => nilR (J2 w t cs i)) k (cs.drop k) = Q4h (fun i => nilR (J2 w t cs i)) 0 cs) (fun _ => False) (fun s => s = Q4h (fun i => nilR (J2 w t cs i)) 0 cs) ⟨by simp, by simp⟩ (fun k c s hc hI => ?_) (fun s hI => ?_)) (fun r hr => hr.elim) (fun s hs => .some (by rw [hs]))
  ·obtain ⟨i1, i2⟩ := hI
   have hk := (List.getElem?_eq_some_iff.1 hc).1
   obtain ⟨_, g, hcn⟩ := hv c (List.mem_of_getElem? hc)
   rw [Z74 hc, Q4h] at i2
   rw [W8d]
   simp only [Option.bind_some]
   by_cases hp : nilR (J2 w t cs k) = true
   ·have e : decide ((k : Int) ∈ (redD w t cs).1) = true := by rw [decide_eq_true_eq, hiff]; exact ⟨hk, hp⟩
    rw [if_pos hp] at i2
    simp only [e, Bool.not_true, Bool.false_eq_true, if_false, Option.bind_some]
    exact .some ⟨by omega, i2⟩
   ·have e : decide ((k : Int) ∈ (redD w t cs).1) = false := by rw [decide_eq_false_iff_not, hiff]; exact fun h => hp h.2
    rw [if_neg hp] at i2
    simp only [e, Bool.not_false, if_true]
    rw [Z5l 10 NN c.pat (Q7i 10 t c.pat g) (by decide) (by omega)]
    simp only [Option.bind_some]
    rw [W9 (by simp only [List.length_cons, List.length_nil, Q8]; omega)]
    exact .some ⟨by simp only [List.length_append, List.length_cons, List.length_nil]; omega, by rw [← i2]; simp⟩
  ·rw [List.drop_length, Q4h, List.append_nil] at hI
   exact hI.2
theorem X28 {w : List Q3} {x : Nat} {t : Q2} {l : List Q0} {y : Q0} (h : y ∈ Q68 w x t l) : W6 w x t y = false := by
 have := (List.mem_filter.1 h).2
 simpa using this
theorem X3d {w : List Q3} {d x : Nat} {t : Q2} : ∀ (bs l r : List Q0), (∀ a ∈ l, W6 w x t a = false) → Q4y w d x t l bs = some r → ∀ y ∈ r, W6 w x t y = false
 | [], l, r, h, e => by simp only [Q4y, Option.some.injEq] at e; subst e; exact h
 | b :: bs, l, r, h, e => by
  simp only [Q4y] at e
  split at e
  ·cases e
  ·exact X3d bs _ r (fun a ha => X28 ha) e
theorem X11 {w : List Q3} {d x : Nat} {t : Q2} {l bs r : List Q0} (e : Q1d w d x t l bs = some r) : ∀ y ∈ r, W6 w x t y = false :=
 X3d bs _ r (fun a ha => X28 ha) e
theorem X4g {w : List Q3} (hww : w ∈ Q1i) {t : Q2} (ht : t ∈ tys w) {cs : List Q4} {i : Nat} {r : List Q0} (hr : J2 w t cs i = some r) (hne : r ≠ []) : ∃ v, Q0y w 21 t v ∧ ∃ y ∈ r, fitP y v = true := by
 have hw := ww hww
 obtain ⟨y, hy⟩ := List.exists_mem_of_ne_nil r hne
 unfold J2 at hr
 split at hr
 ·rename_i hcl
  obtain ⟨_, hcs⟩ := Q4l hcl
  cases hc : cs[i]? with
  | none => rw [hc] at hr; cases hr
  | some c =>
   rw [hc] at hr
   simp only at hr
   have hcg := (hcs c (List.mem_of_getElem? hc)).2.1
   cases hm : Q50 c.pat with
   | none => rw [hm] at hr; simp at hr
   | some mine =>
    rw [hm] at hr
    simp only [Option.bind_some] at hr
    cases ha : Q1v (cs.take i) with
    | none => rw [ha] at hr; simp at hr
    | some away =>
     rw [ha] at hr
     simp only [Option.bind_some] at hr
     have hr := Z8i hr
     cases hs : sepP w t [] mine with
     | none => rw [hs] at hr; simp at hr
     | some out =>
      rw [hs] at hr
      simp only [Option.bind_some] at hr
      have gt : ∀ c' ∈ cs.take i, Q0c w 10 t c'.pat = true := fun c' h => (hcs c' (List.mem_of_mem_take h)).2.1
      have hp := Z41 (by omega) (Q72 gt ha) (Z29 mine [] out (by simp) (Z0t hcg hm) hs) hr y hy
      obtain ⟨v, h1, h2⟩ := Z3h hw (wr hww) 11 t y ht hp (X11 hr y hy)
      exact ⟨v, h1, y, hy, h2⟩
 ·cases hr
theorem Z2o (code more : List Int) (hb : ∀ x ∈ code, 0 ≤ x ∧ x ≤ 255) : Q0f NN code more = some true := by
 suffices hr : Ret (Q0f NN code more) (fun r => r = true) by
  obtain ⟨_, e, rfl⟩ := hr
  exact e
 unfold Q0f
 refine Ret.ite (fun _ => .some rfl) (fun _ => ?_)
 refine Ret.ite (fun _ => .some rfl) (fun _ => ?_)
 refine Ret.bind (P := fun a => (a.1 ∈ Q1i ∧ a.2.1 ∈ tys a.1 ∧ a.2.2.length ≤ 10) ∧ ∀ c ∈ a.2.2, Z3a a.1 a.2.1 c) ?_ (fun a ha => ?_)
 ·unfold Q1s
  exact Ret.bind ((Z48 code hb).both (Z49 code hb)) (fun a ha => .some ha)
 obtain ⟨w, t, cs⟩ := a
 obtain ⟨⟨hww, ht, _⟩, hf⟩ := ha
 simp only at hww ht hf ⊢
 have hw := ww hww
 rw [X4v hww ht, X46 hww ht hf]
 simp only [Option.bind_some, beq_self_eq_true, Bool.not_true, Bool.false_eq_true, if_false, if_true]
 have hdeep : ∀ c ∈ (Z75 w t cs).1, Z86 10 c.pat := fun c hc => by
  unfold Z75 at hc
  split at hc
  ·rename_i hok
   obtain ⟨hcl, _, _⟩ := Z00 hok
   exact Z88 (Q7x hcl).2 c (Z0c hc)
  ·cases hc
 rw [Z50 hdeep]
 simp only [Option.bind_some, Bool.not_true, Bool.false_eq_true, if_false]
 refine Ret.ite (fun _ => .some rfl) (fun hok => ?_)
 rw [Bool.not_eq_false'] at hok
 have hok' : (redD w t cs).2 = true := by
  unfold Z75 at hok
  split at hok
  ·assumption
  ·cases hok
 obtain ⟨hcl, hall, hiff⟩ := Z00 hok'
 obtain ⟨h8, hv8⟩ := Q7x hcl
 have hdrop : (Z75 w t cs).1 = Q4h (fun i => nilR (J2 w t cs i)) 0 cs := by unfold Z75; rw [if_pos hok']
 rw [hdrop]
 generalize hless : Q4h (fun i => nilR (J2 w t cs i)) 0 cs = less
 have hlcl : Q1e w t less = true := by
  simp only [Q1e, Bool.and_eq_true, decide_eq_true_eq, List.all_eq_true] at hcl ⊢
  refine ⟨by rw [← hless]; have := Z66 (fun i => nilR (J2 w t cs i)) cs 0; omega, fun c hc => ?_⟩
  rw [← hless] at hc
  exact hcl.2 c (Z0c hc)
 obtain ⟨d, hd, d1, d3⟩ := rem3 more.length
 rw [hd]
 obtain ⟨vs, hvs, _, hvv⟩ := Z1h hw ht d1 d3
 rw [hvs]
 simp only [Option.bind_some]
 refine Ret.ctl (Z3 vs.1 (fun _ _ => True) (fun _ => False) (fun _ => True) trivial (fun k v u hv _ => ?_) (fun _ _ => trivial)) (fun r hr => hr.elim) (fun _ _ => ?_)
 ·obtain ⟨h1, h2⟩ := hvv v (List.mem_of_getElem? hv)
  refine Ret.ctl (R := fun _ => False) (B := fun _ => True) ?_ (fun r h => h.elim) (fun _ _ => .some trivial)
  rw [Z9t hw ht cs v, Z9t hw ht less v, X4c hcl h1, X4c hlcl h1]
  simp only [Option.bind_some]
  have hdb := V4e hw ht hv8 (Z0v 4 10 t v (by omega) h2)
  have hk := X6q (v := v) (p := fun i => nilR (J2 w t cs i)) cs 0 fun x hx => by
   cases hn : nilR (J2 w t cs x.1) with
   | false => rfl
   | true =>
    obtain ⟨i, c, b, q1, q2, _⟩ := Q6y hx
    have hlt := (List.getElem?_eq_some_iff.1 q1).1
    exact absurd hx (X1u hww ht ((hiff x.1).2 ⟨by omega, hn⟩) h2)
  rw [hless] at hk
  cases hr : runD v 0 cs with
  | none =>
   rw [hr] at hk
   rw [hk 0]
   have e1 : (ilt (runR none).1 0 == ilt (runR none).1 0) = true := by simp
   have e2 : ile 0 (runR none).1 = false := rfl
   simp only [e1, e2, Bool.not_true, Bool.false_eq_true, if_false]
   rw [Z4c (fun b hb => by cases hb)]
   exact .some trivial
  | some x =>
   rw [hr] at hk hdb
   obtain ⟨_, hk⟩ := hk
   obtain ⟨i, k1, k2⟩ := hk 0
   rw [k1]
   obtain ⟨i0, c, b, q1, q2, _⟩ := Q6y hr
   simp only [Nat.zero_add] at q2
   simp only [runR, Nat.zero_add, Nat.sub_zero] at hdb k2 ⊢
   rw [q2, q1] at k2
   have e1 : ilt (x.1 : Int) 0 = false := by rw [J0]; omega
   have e2 : ilt (i : Int) 0 = false := by rw [J0]; omega
   have e3 : ile 0 (x.1 : Int) = true := by rw [Q24]; omega
   simp only [e1, e2, e3, beq_self_eq_true, Bool.not_true, Bool.false_eq_true, if_false, if_true]
   rw [Z4c hdb]
   simp only [Option.bind_some, Bool.not_true, Bool.false_eq_true, if_false]
   rw [q2, Q1u q1, Q1u k2]
   simp only [Option.bind_some]
   obtain ⟨r, er, hr2⟩ := Z69 10 NN c.pat c.pat (Z88 hv8 c (List.mem_of_getElem? q1)) (by decide)
   rw [er, hr2.2 rfl]
   exact .some trivial
 ·dsimp only
  rw [Q6o hww ht]
  simp only [Option.bind_some]
  refine Ret.ite (fun _ => .some rfl) (fun hok2 => .some ?_)
  rw [Bool.not_eq_false'] at hok2
  have hl2 : (redD w t less).1 = [] := by
   have hh : (redD w t less).1 = ((List.range less.length).filter fun i => nilR (J2 w t less i)).map (fun i : Nat => (i : Int)) := by
    unfold redD at hok2 ⊢
    split at hok2
    ·rename_i q
     rw [if_pos q]
    ·cases hok2
   rw [hh, List.map_eq_nil_iff, List.filter_eq_nil_iff]
   intro j hj hn
   rw [List.mem_range] at hj
   obtain ⟨_, hall2, _⟩ := Z00 hok2
   have hs := hall2 j hj
   cases hr : J2 w t less j with
   | none => rw [hr] at hs; cases hs
   | some r2 =>
    rw [hr] at hn
    have hr20 : r2 = [] := List.eq_nil_of_length_eq_zero (by simpa [nilR] using hn)
    have hcj : less[j]? = some (less[j]'hj) := by simp
    generalize less[j]'hj = c at hcj
    rw [← hless] at hcj
    obtain ⟨i, g1, g2, g3⟩ := Z67 hcj
    simp only [Nat.zero_add] at g2
    have hil := (List.getElem?_eq_some_iff.1 g1).1
    have hsi := hall i hil
    cases hri : J2 w t cs i with
    | none => rw [hri] at hsi; cases hsi
    | some r1 =>
     rw [hri] at g2
     have hr1 : r1 ≠ [] := fun h => by rw [h] at g2; simp [nilR] at g2
     obtain ⟨v, hv, hfit⟩ := X4g hww ht hri hr1
     obtain ⟨c1, p1, p2⟩ := Z5t hw (we hww) ht hv hri
     rw [g1] at p1
     cases p1
     obtain ⟨m1, m2⟩ := p2.1 hfit
     obtain ⟨c2, p3, p4⟩ := Z5t hw (we hww) ht hv hr
     rw [← hless, hcj] at p3
     cases p3
     obtain ⟨y, hy, _⟩ := p4.2 ⟨m1, fun c' hc' h0 => m2 c' (g3 c' (by rw [hless]; exact hc')) h0⟩
     rw [hr20] at hy
     cases hy
  rw [hl2]
  rfl
end Go.Proofs.YtnackipaoepmfaaGreat
