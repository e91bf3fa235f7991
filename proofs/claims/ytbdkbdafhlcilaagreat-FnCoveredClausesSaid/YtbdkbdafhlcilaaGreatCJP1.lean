import Derived.Test.YtbdkbdafhlcilaaGreatCJP0
set_option linter.unusedSimpArgs false
set_option linter.unusedVariables false
namespace Go.Proofs.YtbdkbdafhlcilaaGreat
open Go Go.RowKit
def Q9f (l : List X3) : List X3 := (List.range 6).flatMap fun (v : Nat) => l.filter fun b => decide (b.var = (v : Int))
theorem X4t : ∀ (a b : List X3), a.Pairwise (fun x y => x.var < y.var) → b.Pairwise (fun x y => x.var < y.var) → a.Perm b → a = b := by
 intro a
 induction a with
 | nil => intro b _ _ h; exact h.nil_eq
 | cons x a ih =>
  intro b ha hb h
  cases b with
  | nil => exact absurd h.symm.nil_eq (by simp)
  | cons y b =>
   rw [List.pairwise_cons] at ha hb
   have hx : x ∈ y :: b := h.mem_iff.1 (by simp)
   have hy : y ∈ x :: a := h.mem_iff.2 (by simp)
   have hxy : x = y := by
    rcases List.mem_cons.1 hx with rfl | hx
    ·rfl
    ·rcases List.mem_cons.1 hy with h1 | hy
     ·exact h1.symm
     ·have h1 := hb.1 x hx
      have h2 := ha.1 y hy
      omega
   subst hxy
   rw [ih b ha.2 hb.2 ((List.perm_cons x).1 h)]
theorem Z90 {l : List X3} (h : l.Pairwise (fun x y => x.var ≤ y.var)) (hn : (l.map (·.var)).Nodup) : l.Pairwise (fun x y => x.var < y.var) := by
 rw [List.Nodup, List.pairwise_map] at hn
 refine (h.and hn).imp fun ⟨h1, h2⟩ => ?_
 omega
theorem X29 {l : List X3} (hn : (l.map (·.var)).Nodup) : (Q9f l).Pairwise (fun x y => x.var < y.var) := by
 unfold Q9f
 rw [List.pairwise_flatMap]
 refine ⟨fun v _ => ?_, ?_⟩
 ·have h1 : (l.filter fun b => decide (b.var = (v : Int))).Pairwise (fun x y => x.var ≤ y.var) := by
   rw [List.pairwise_filter]
   refine List.pairwise_of_forall fun x y hx hy => ?_
   simp only [decide_eq_true_eq] at hx hy
   omega
  exact Z90 h1 ((List.filter_sublist.map _).nodup hn)
 ·refine List.Pairwise.imp ?_ (List.pairwise_lt_range (n := 6))
  intro a b hab x hx y hy
  have h1 := (List.mem_filter.1 hx).2
  have h2 := (List.mem_filter.1 hy).2
  simp only [decide_eq_true_eq] at h1 h2
  omega
theorem Z56 {α β : Type} (f g h : α → List β) (e : ∀ v, f v = g v ++ h v) : ∀ L : List α, (L.flatMap f).Perm (L.flatMap g ++ L.flatMap h)
 | [] => by simp
 | v :: L => by
  rw [List.flatMap_cons, List.flatMap_cons, List.flatMap_cons, e v, List.append_assoc, List.append_assoc]
  refine List.Perm.append_left _ ?_
  refine ((Z56 f g h e L).append_left (h v)).trans ?_
  rw [← List.append_assoc, ← List.append_assoc]
  exact List.Perm.append_right _ List.perm_append_comm
theorem Z1c {l : List X3} (hv : ∀ b ∈ l, 0 ≤ b.var ∧ b.var ≤ 5) : (Q9f l).Perm l := by
 induction l with
 | nil => simp [Q9f]
 | cons x l ih =>
  have h1 := ih fun b hb => hv b (by simp [hb])
  obtain ⟨x0, x5⟩ := hv x (by simp)
  have h2 := Z56 (fun (v : Nat) => (x :: l).filter fun b => decide (b.var = (v : Int))) (fun (v : Nat) => if x.var = (v : Int) then [x] else []) (fun (v : Nat) => l.filter fun b => decide (b.var = (v : Int))) (fun v => by
   by_cases hc : x.var = (v : Int)
   ·rw [List.filter_cons, if_pos (by simp [hc]), if_pos hc]; rfl
   ·rw [List.filter_cons, if_neg (by simp [hc]), if_neg hc]; rfl) (List.range 6)
  have hx : ((List.range 6).flatMap fun (v : Nat) => if x.var = (v : Int) then [x] else []) = [x] := by
   have h6 : x.var = 0 ∨ x.var = 1 ∨ x.var = 2 ∨ x.var = 3 ∨ x.var = 4 ∨ x.var = 5 := by omega
   rcases h6 with h | h | h | h | h | h <;> simp [h, List.range, List.range.loop]
  rw [hx] at h2
  exact h2.trans (List.Perm.cons _ h1)
theorem X6b (a b : Int) : Q49 a b = some (if a < b then -1 else if b < a then 1 else 0) := by
 unfold Q49 Q59
 have e1 : (!ieq a a) = false := by simp [ieq]
 have e2 : (!ieq b b) = false := by simp [ieq]
 simp only [Option.bind_some, e1, e2, Bool.false_eq_true, if_false]
 by_cases h : a < b
 ·have e : ilt a b = true := by rw [X0]; exact h
  simp only [e, if_true, if_pos h]
 ·have e : ilt a b = false := by rw [J8]; omega
  simp only [e, Bool.false_eq_true, if_false, if_neg h]
  by_cases h2 : b < a
  ·have e : ilt b a = true := by rw [X0]; exact h2
   simp only [e, if_true, if_pos h2]
  ·have e : ilt b a = false := by rw [J8]; omega
   simp only [e, Bool.false_eq_true, if_false, if_neg h2]
theorem X54 (a b : X3) : Q1k a b = some (if a.var < b.var then -1 else if b.var < a.var then 1 else 0) := by
 unfold Q1k
 rw [X6b]
 rfl
def OrdV (l : List X3) (i j : Nat) : Prop := ∀ a b x y, a < b → b ≤ i → b ≠ j → l[a]? = some x → l[b]? = some y → x.var ≤ y.var
theorem X9c {n : Nat} (hn : 30 ≤ n) (l : List X3) (hl : l.length ≤ 12) :
  Ret (Y5 n l 0 (lenZ l.length) (fun a b => Q1k a b)) (fun r => r.Perm l ∧ r.Pairwise (fun x y => x.var ≤ y.var)) := by
 unfold Y5
 have z1 : wadd .i64 0 1 = 1 := rfl
 rw [z1]
 refine Ret.ctl (Q3l (fun s : List X3 × Int => s.1.Perm l ∧ 1 ≤ s.2 ∧ s.2 ≤ 13 ∧ ∀ a b x y, a < b → b < s.2.toNat → s.1[a]? = some x → s.1[b]? = some y → x.var ≤ y.var) (fun s => (14 - s.2).toNat) (fun _ => False) (fun s => s.1.Perm l ∧ s.1.Pairwise (fun x y => x.var ≤ y.var)) ⟨.rfl, by simp, by simp, fun a b x y h1 h2 => by simp at h2; omega⟩ (fun s hI => ?_) n (by simp; omega)) (fun r hr => hr.elim) (fun s hs => .some hs)
 obtain ⟨i1, i3, i4, i5⟩ := hI
 refine Ret.ite (fun hlt => ?_) (fun hge => ?_)
 ·rw [X0] at hlt
  simp only [lenZ] at hlt
  refine Ret.ctl (Q3l (fun u : List X3 × Int => u.1.Perm l ∧ 0 ≤ u.2 ∧ u.2 ≤ s.2 ∧ OrdV u.1 s.2.toNat u.2.toNat) (fun u => u.2.toNat) (fun _ => False) (fun u => u.1.Perm l ∧ ∀ a b x y, a < b → b ≤ s.2.toNat → u.1[a]? = some x → u.1[b]? = some y → x.var ≤ y.var) ⟨i1, by omega, Int.le_refl _, fun a b x y h1 h2 h3 => i5 a b x y h1 (by omega)⟩ (fun u hJ => ?_) n (by omega)) (fun r hr => hr.elim) (fun u hu => ?_)
  ·obtain ⟨j1, j3, j4, j5⟩ := hJ
   have hlen := j1.length_eq
   refine Ret.ite (fun hp => ?_) (fun hp => ?_)
   ·rw [X0] at hp
    have hs : wsub .i64 u.2 1 = u.2 - 1 := Q3k (by omega) (by omega)
    rw [hs]
    have ex : idx u.1 u.2 = some (u.1[u.2.toNat]'(by omega)) := W39 j3 (List.getElem?_eq_getElem (by omega))
    have ey : idx u.1 (u.2 - 1) = some (u.1[(u.2 - 1).toNat]'(by omega)) := W39 (by omega) (List.getElem?_eq_getElem (by omega))
    have gx : u.1[u.2.toNat]? = some (u.1[u.2.toNat]'(by omega)) := List.getElem?_eq_getElem (by omega)
    have gy : u.1[u.2.toNat - 1]? = some (u.1[(u.2 - 1).toNat]'(by omega)) := by
     rw [show u.2.toNat - 1 = (u.2 - 1).toNat by omega]
     exact List.getElem?_eq_getElem (by omega)
    have hperm := (List.set_set_perm (as := u.1) (i := u.2.toNat) (j := (u.2 - 1).toNat) (by omega) (by omega)).trans j1
    generalize u.1[u.2.toNat]'(by omega) = x at *
    generalize u.1[(u.2 - 1).toNat]'(by omega) = y at *
    rw [ex, ey]
    simp only [Option.bind_some]
    rw [X54]
    simp only [Option.bind_some]
    by_cases hxy : x.var < y.var
    ·rw [if_pos hxy]
     have e : ilt (-1) 0 = true := rfl
     simp only [e, if_true]
     rw [X4u j3 (by omega)]
     simp only [Option.bind_some]
     obtain ⟨z, ez, _⟩ := Q4a (xs := u.1.set u.2.toNat y) (i := u.2 - 1) (by omega) (by simp; omega)
     rw [ez]
     simp only [Option.bind_some]
     rw [X4u (by omega) (by simp; omega)]
     refine .some ⟨⟨hperm, by simp; omega, by simp; omega, ?_⟩, by simp; omega⟩
     simp only
     have hget : ∀ (m : Nat) (v : X3), ((u.1.set u.2.toNat y).set (u.2 - 1).toNat x)[m]? = some v → (m = u.2.toNat - 1 ∧ v = x) ∨ (m = u.2.toNat ∧ v = y) ∨ (m ≠ u.2.toNat - 1 ∧ m ≠ u.2.toNat ∧ u.1[m]? = some v) := fun m v hv => by
      rw [List.getElem?_set] at hv
      split at hv
      ·split at hv
       ·cases hv; exact .inl ⟨by omega, rfl⟩
       ·cases hv
      ·rw [List.getElem?_set] at hv
       split at hv
       ·split at hv
        ·cases hv; exact .inr (.inl ⟨by omega, rfl⟩)
        ·cases hv
       ·exact .inr (.inr ⟨by omega, by omega, hv⟩)
     intro a b p q hab hbi hbj hp' hq'
     rcases hget a p hp' with ⟨ha, rfl⟩ | ⟨ha, rfl⟩ | ⟨ha, ha', hpa⟩
     ·rcases hget b q hq' with ⟨hb, rfl⟩ | ⟨hb, rfl⟩ | ⟨hb, hb', hqb⟩
      ·omega
      ·omega
      ·exact j5 u.2.toNat b _ _ (by omega) hbi hb' gx hqb
     ·rcases hget b q hq' with ⟨hb, rfl⟩ | ⟨hb, rfl⟩ | ⟨hb, hb', hqb⟩
      ·omega
      ·omega
      ·exact j5 (u.2.toNat - 1) b _ _ (by omega) hbi hb' gy hqb
     ·rcases hget b q hq' with ⟨hb, rfl⟩ | ⟨hb, rfl⟩ | ⟨hb, hb', hqb⟩
      ·exact absurd hb (by omega)
      ·exact j5 a (u.2.toNat - 1) _ _ (by omega) (by omega) (by omega) hpa gy
      ·exact j5 a b _ _ hab hbi hb' hpa hqb
    ·rw [if_neg hxy]
     have e : ilt (if y.var < x.var then 1 else 0) 0 = false := by split <;> rfl
     simp only [e, Bool.false_eq_true, if_false]
     refine .some ⟨j1, fun a b p q hab hbi hp' hq' => ?_⟩
     by_cases hbj : b = u.2.toNat
     ·subst hbj
      rw [gx] at hq'
      cases hq'
      by_cases haj : a = u.2.toNat - 1
      ·subst haj
       rw [gy] at hp'
       cases hp'
       omega
      ·have := j5 a (u.2.toNat - 1) p y (by omega) (by omega) (by omega) hp' gy
       omega
     ·exact j5 a b p q hab hbi hbj hp' hq'
   ·rw [J8] at hp
    refine .some ⟨j1, fun a b p q hab hbi hp' hq' => j5 a b p q hab hbi (by omega) hp' hq'⟩
  ·obtain ⟨u1, u2⟩ := hu
   have hw : wadd .i64 s.2 1 = s.2 + 1 := Q09 (by omega) (by omega)
   refine .some ⟨⟨u1, by simp only [hw]; omega, by simp only [hw]; omega, fun a b x y h1 h2 => u2 a b x y h1 (by simp only [hw] at h2; omega)⟩, by simp only [hw]; omega⟩
 ·rw [J8] at hge
  simp only [lenZ] at hge
  refine .some ⟨i1, ?_⟩
  rw [List.pairwise_iff_getElem]
  intro a b ha hb hab
  have hlen := i1.length_eq
  have hb' : b < s.1.length := hb
  exact i5 a b _ _ hab (by omega) (List.getElem?_eq_getElem ha) (List.getElem?_eq_getElem hb)
theorem W6e {n : Nat} (hn : 40 ≤ n) {l : List X3} (hl : l.length ≤ 12) (hd : (l.map (·.var)).Nodup) (hv : ∀ b ∈ l, 0 ≤ b.var ∧ b.var ≤ 5) :
  Q0t n l (fun a b => Q1k a b) = some (Q9f l) := by
 suffices hs : Ret (Q0t n l (fun a b => Q1k a b)) (fun r => r = Q9f l) by
  obtain ⟨a, e, rfl⟩ := hs
  exact e
 unfold Q0t
 obtain ⟨b, hb⟩ := Option.isSome_iff_exists.1 (List.all_eq_true.1 V6k l.length (List.mem_range.2 (by omega)))
 rw [hb]
 simp only [Option.bind_some]
 have fin : ∀ r : List X3, r.Perm l → r.Pairwise (fun x y => x.var ≤ y.var) → r = Q9f l := fun r h1 h2 =>
  X4t r (Q9f l) (Z90 h2 ((h1.map _).nodup_iff.2 hd)) (X29 hd) (h1.trans (Z1c hv).symm)
 obtain ⟨n, rfl⟩ : ∃ k, n = k + 1 := ⟨n - 1, by omega⟩
 refine Ret.bind (P := fun r => r.Perm l ∧ r.Pairwise (fun x y => x.var ≤ y.var)) ?_ (fun r hr => ?_)
 ·unfold Q18
  refine Ret.ctl (Q3l (fun _ => True) (fun _ => 0) (fun r : List X3 => r.Perm l ∧ r.Pairwise (fun x y => x.var ≤ y.var)) (fun _ => False) trivial (fun s _ => ?_) n (by omega)) (fun r hr => .some hr) (fun s hs => hs.elim)
  have h0 : wsub .i64 (lenZ l.length) 0 = lenZ l.length := by rw [Q3k] <;> simp only [lenZ] <;> omega
  rw [if_pos (by rw [Q03, h0]; simp only [lenZ]; omega)]
  refine Ret.bind (X9c (by omega) l hl) (fun r hr => ?_)
  rw [Z7u (by simp [hr.1.length_eq])]
  exact .some hr
 ·rw [Z7u (by simp [hr.1.length_eq])]
  exact .some (fin r hr.1 hr.2)
theorem X76 : ∀ {a b : List Int}, a.Nodup → (∀ x ∈ a, x ∈ b) → a.length = b.length → a.Perm b
 | [], b, _, _, h => by have : b = [] := List.eq_nil_of_length_eq_zero (by simpa using h.symm); rw [this]
 | x :: a, b, hn, hs, h => by
  have hx := hs x (by simp)
  have hn' := List.nodup_cons.1 hn
  have hl := List.length_erase_of_mem hx
  refine (List.Perm.cons x (X76 hn'.2 (fun y hy => ?_) (by simp at h; omega))).trans (List.perm_cons_erase hx).symm
  have hne : y ≠ x := fun e => hn'.1 (e ▸ hy)
  exact (List.mem_erase_of_ne hne).2 (hs y (by simp [hy]))
theorem X52 {a b : List Q8} (ha : Q19 a = true) (h : Q8q a b = true) : (a.map (·.var)).Perm (b.map (·.var)) := by
 simp only [Q8q, Bool.and_eq_true, decide_eq_true_eq, List.all_eq_true] at h
 have hn : (a.map (·.var)).Nodup := by simpa [Q19] using ha
 refine X76 hn (fun x hx => ?_) (by simp [h.1])
 obtain ⟨v, hv, rfl⟩ := List.mem_map.1 hx
 exact List.mem_map.2 ⟨v, h.2 v hv, rfl⟩
theorem X9b {w : List Q3} : ∀ (d : Nat) (t : Q2) (p : Q0), Q0a w d t p = true → linD w d t p = true → ∀ v l, X6 d p v = some l → (l.map (·.var)).Perm ((Q26 w d t p).map (·.var)) := by
 intro d
 induction d with
 | zero => intro t p h; cases h
 | succ d ih =>
  intro t p hg hlin v l hm
  obtain ⟨ho, hl⟩ := Q3x (Q2x hg)
  simp only [linD, Bool.and_eq_true, List.all_eq_true] at hlin
  rw [Q26]
  rw [X6] at hm
  have hnil : p.op ≠ 4 → p.op ≠ 5 → p.op ≠ 6 → V6 w t p = [] := fun h4 h5 h6 => by simp [V6, h4, h5, h6]
  by_cases h1 : p.op = 1
  ·rw [if_pos h1] at hm; cases hm
   simp [ownV, h1, hnil]
  rw [if_neg h1] at hm
  by_cases h2 : p.op = 2
  ·rw [if_pos h2] at hm; cases hm
   simp [ownV, h2, hnil]
  rw [if_neg h2] at hm
  by_cases h3 : p.op = 3
  ·rw [if_pos h3] at hm
   split at hm
   ·cases hm
    simp [ownV, h3, hnil]
   ·cases hm
  rw [if_neg h3] at hm
  by_cases h5 : p.op = 5
  ·rw [if_pos h5] at hm
   obtain ⟨a, b, hkids, hkt⟩ := kid0 h5 hl
   have ga := Q1y hg (k := 0) (by rw [hkt]; rfl) (by rw [hkids]; rfl)
   have gb := Q1y hg (k := 1) (by rw [hkt]; rfl) (by rw [hkids]; rfl)
   have g0 := hlin.1 (t, a) (by rw [hkids, hkt]; simp)
   have g1 := hlin.1 (t, b) (by rw [hkids, hkt]; simp)
   have hal := hlin.2
   rw [if_pos h5] at hal
   have k0 : kv w d t p 0 = Q26 w d t a := by simp [kv, hkids, hkt]
   have k1 : kv w d t p 1 = Q26 w d t b := by simp [kv, hkids, hkt]
   rw [k0, k1] at hal
   have hv : ownV t p = [] := by simp [ownV, h5]
   rw [hv, hkids, hkt, if_pos h5]
   simp only [List.zip_cons_cons, List.zip_nil_right, List.take_succ_cons, List.take_zero, List.flatMap_cons, List.flatMap_nil, List.append_nil, List.nil_append]
   rw [hkids] at hm
   simp only at hm
   split at hm
   ·rename_i l' hl'
    cases hm
    exact ih t a ga g0 v _ hl'
   ·exact (ih t b gb g1 v _ hm).trans (X52 (Q6d d t a ga g0) hal).symm
  rw [if_neg h5] at hm
  rw [if_neg h5, List.take_of_length_le (by rw [List.length_zip]; omega)]
  by_cases h6 : p.op = 6
  ·rw [if_pos h6] at hm
   obtain ⟨a, hkids, hk2⟩ := X59 h6 hl
   have ga := Q1y hg (k := 0) (by rw [hk2]; rfl) (by rw [hkids]; rfl)
   have g0 := hlin.1 (t, a) (by rw [hkids, hk2]; simp)
   rw [hkids] at hm
   simp only at hm
   cases ha : X6 d a v with
   | none => rw [ha] at hm; cases hm
   | some l' =>
    rw [ha] at hm
    cases hm
    have := ih t a ga g0 v l' ha
    rw [hkids, hk2]
    simpa [ownV, h6] using this
  rw [if_neg h6] at hm
  have hv : ownV t p = [] := by simp [ownV, h2, h6]
  rw [hv, List.nil_append]
  split at hm
  ·have gen : ∀ (ts : List Q2) (ps : List Q0) (vs : List Q4) (l : List X3), ts.length = ps.length → (∀ x ∈ ts.zip ps, ∀ v l, X6 d x.2 v = some l → (l.map (·.var)).Perm ((Q26 w d x.1 x.2).map (·.var))) → Q2p (X6 d) ps vs = some l → (l.map (·.var)).Perm (((ts.zip ps).flatMap fun x => Q26 w d x.1 x.2).map (·.var)) := by
    intro ts ps
    induction ps generalizing ts with
    | nil => intro vs l _ _ h; simp only [Q2p] at h; cases h; simp
    | cons q ps ihp =>
     intro vs l hl hx h
     cases ts with
     | nil => simp at hl
     | cons a ts =>
      cases vs with
      | nil => cases h
      | cons u vs =>
       simp only [Q2p] at h
       cases hq : X6 d q u with
       | none => rw [hq] at h; cases h
       | some l1 =>
        rw [hq] at h
        simp only at h
        cases hps : Q2p (X6 d) ps vs with
        | none => rw [hps] at h; cases h
        | some l2 =>
         rw [hps] at h
         cases h
         have e1 := hx (a, q) (by simp) u l1 hq
         have e2 := ihp ts vs l2 (by simpa using hl) (fun x hxx => hx x (by simp [hxx])) hps
         simp only [List.zip_cons_cons, List.flatMap_cons, List.map_append]
         exact e1.append e2
   refine gen _ _ _ _ hl.symm (fun x hx v l h => ?_) hm
   obtain ⟨j, hj⟩ := List.mem_iff_getElem?.1 hx
   obtain ⟨e1, e2⟩ := List.getElem?_zip_eq_some.1 hj
   exact ih _ _ (Q1y hg e1 e2) (hlin.1 x hx) v l h
  ·cases hm
structure W4y (l : List X3) : Prop where
 nd : (l.map (·.var)).Nodup
 rg : ∀ b ∈ l, 0 ≤ b.var ∧ b.var ≤ 5
 ln : l.length ≤ 6
theorem Z2b {w : List Q3} {d : Nat} {t : Q2} {p : Q0} (g : Q0a w d t p = true) (l : linD w d t p = true) {v : Q4} {r : List X3} (h : X6 d p v = some r) : W4y r := by
 have hp := X9b d t p g l v r h
 have hd := Q6d d t p g l
 simp only [Q19, decide_eq_true_eq] at hd
 refine ⟨hp.nodup_iff.2 hd, fun b hb => ?_, ?_⟩
 ·obtain ⟨y, hy, e⟩ := List.mem_map.1 (hp.mem_iff.1 (List.mem_map_of_mem hb))
  have := Z40 d t p g y hy
  omega
 ·have h1 := hp.length_eq
  have h2 := W62 g l
  simp only [List.length_map] at h1
  omega
def Q4b (g : Q2z) (l : List X3) : Bool := decide (g.op = 0) || match l.find? fun b => decide (b.var = g.var) with
 | none => false
 | some b => decide (b.value.ctor = -1) && ((decide (g.op = 1) && decide (b.value.n < g.n)) || (decide (g.op = 2) && decide (b.value.n = g.n)))
theorem W41 {a b : List X3} (hn : (a.map (·.var)).Nodup) (h : a.Perm b) (v : Int) : a.find? (fun x => decide (x.var = v)) = b.find? (fun x => decide (x.var = v)) := by
 induction h with
 | nil => rfl
 | cons x h ih =>
  rw [List.find?_cons, List.find?_cons]
  split
  ·rfl
  ·exact ih (List.nodup_cons.1 (by simpa using hn)).2
 | swap x y l =>
  simp only [List.map_cons, List.nodup_cons, List.mem_cons, not_or] at hn
  simp only [List.find?_cons]
  by_cases h1 : x.var = v
  ·have h2 : ¬ y.var = v := fun e => hn.1.1 (by omega)
   simp [h1, h2]
  ·simp [h1]
 | trans h1 h2 ih1 ih2 => rw [ih1 hn, ih2 ((h1.map _).nodup_iff.1 hn)]
theorem X5l {a b : List X3} (hn : (a.map (·.var)).Nodup) (h : a.Perm b) (g : Q2z) : Q4b g a = Q4b g b := by
 unfold Q4b
 rw [W41 hn h]
theorem X5k {l : List X3} (h : W4y l) (g : Q2z) : Q4b g (Q9f l) = Q4b g l := (X5l h.nd (Z1c h.rg).symm g).symm
def runD (v : Q4) : Nat → List Q5 → Option (Nat × List X3)
 | _, [] => none
 | k, c :: cs => match X6 10 c.pat v with
  | none => runD v (k + 1) cs
  | some l => if Q4b c.guard l = true then some (k, Q9f l) else runD v (k + 1) cs
def runR : Option (Nat × List X3) → Int × List X3
 | none => (-1, [])
 | some x => ((x.1 : Int), x.2)
end Go.Proofs.YtbdkbdafhlcilaaGreat
namespace Go.Proofs.YtbdkbdafhlcilaaGreat
open Go Go.RowKit
theorem V0k {l : List X3} (hn : (l.map (·.var)).Nodup) {x y : X3} (hx : x ∈ l) (hy : y ∈ l) (h : x.var = y.var) : x = y := by
 induction l with
 | nil => cases hx
 | cons a l ih =>
  simp only [List.map_cons, List.nodup_cons, List.mem_map, not_exists, not_and] at hn
  rcases List.mem_cons.1 hx with h1 | h1
  ·rcases List.mem_cons.1 hy with h2 | h2
   ·rw [h1, h2]
   ·exact absurd (by rw [← h1]; exact h.symm) (hn.1 y h2)
  ·rcases List.mem_cons.1 hy with h2 | h2
   ·exact absurd (by rw [← h2]; exact h) (hn.1 x h1)
   ·exact ih hn.2 h1 h2
theorem W8d {l : List X3} (hn : (l.map (·.var)).Nodup) {x : X3} {v : Int} (hx : x ∈ l) (h : x.var = v) : l.find? (fun b => decide (b.var = v)) = some x := by
 cases hf : l.find? (fun b => decide (b.var = v)) with
 | none =>
  have := List.find?_eq_none.1 hf x hx
  simp [h] at this
 | some y =>
  have h1 := List.find?_some hf
  have h2 := List.mem_of_find?_eq_some hf
  simp only [decide_eq_true_eq] at h1
  rw [V0k hn h2 hx (by omega)]
theorem X32 (g : Q2z) {l : List X3} (hn : (l.map (·.var)).Nodup) : Q2o g l = some (Q4b g l) := by
 suffices hs : Ret (Q2o g l) (fun r => r = Q4b g l) by
  obtain ⟨a, e, rfl⟩ := hs
  exact e
 unfold Q2o
 refine Ret.ite (fun h0 => .some ?_) (fun h0 => ?_)
 ·rw [Z4] at h0
  simp [Q4b, h0]
 rw [Z8] at h0
 refine Ret.bind (Q7w l (fun a0 => Q4k a0 g) (fun b => ieq b.var g.var) (fun _ _ => rfl)) (fun i hi => ?_)
 rcases hi with ⟨k, x, rfl, hx, hxv⟩ | ⟨rfl, hall⟩
 ·rw [if_neg (by rw [X0]; omega), Q2a hx]
  simp only [Option.bind_some]
  rw [Z4] at hxv
  have hG : Q4b g l = (ieq x.value.ctor (-1) && ((ieq g.op 1 && ilt x.value.n g.n) || (ieq g.op 2 && ieq x.value.n g.n))) := by
   unfold Q4b
   rw [W8d hn (List.mem_of_getElem? hx) hxv, decide_eq_false h0]
   rfl
  rw [hG]
  generalize ieq x.value.ctor (-1) = b1
  generalize ieq g.op 1 = b2
  generalize ilt x.value.n g.n = b3
  generalize ieq g.op 2 = b4
  generalize ieq x.value.n g.n = b5
  cases b1 <;> cases b2 <;> cases b3 <;> cases b4 <;> cases b5 <;> exact .some rfl
 ·refine .some ?_
  have hf : l.find? (fun b => decide (b.var = g.var)) = none := List.find?_eq_none.2 fun x hx => by
   have := hall x hx
   rw [Z8] at this
   simpa using this
  simp [Q4b, hf, h0]
def matR : Option (List X3) → List X3 × Bool
 | none => ([], false)
 | some l => (Q9f l, true)
theorem Z8f {w : List Q3} (hw : WW w) {t : Q2} (ht : t ∈ tys w) {p : Q0} (g : Q0a w 10 t p = true) (ln : linD w 10 t p = true) (hc : cntP p ≤ 1000) {e : Nat} {v : Q4} (hv : Q0s w e t v) (he : e ≤ 10) :
  Q4w NN p v = some (matR (X6 10 p v)) := by
 suffices hs : Ret (Q4w NN p v) (fun r => r = matR (X6 10 p v)) by
  obtain ⟨a, e, rfl⟩ := hs
  exact e
 have hdv := Z63 e 10 v he (Z48 hw e t v ht hv)
 unfold Q4w
 refine Ret.bind (W6w hw 10 NN t p v e ht g hv (by decide) hc) (fun r hr => ?_)
 obtain ⟨_, h2, h3⟩ := hr
 cases hm : X6 10 p v with
 | none =>
  rw [hm] at h2
  simp only [Option.isSome_none] at h2
  rw [h2]
  exact .some rfl
 | some l =>
  rw [hm] at h2
  simp only [Option.isSome_some] at h2
  have h1 := h3 l hm
  have hb := Z2b g ln hm
  rw [h2, h1]
  simp only [Bool.not_true, Bool.false_eq_true, if_false]
  rw [W6e (by decide) (by have := hb.ln; omega) hb.nd hb.rg]
  have hpm := Z1c hb.rg
  simp only [Option.bind_some]
  rw [Z7u (by simp [hpm.length_eq])]
  simp only [Option.bind_some]
  have hdb : ∀ b ∈ Q9f l, Z5p 10 b.value := fun b hb' => by
   obtain ⟨e', h1, h2⟩ := Z9b 10 p 10 v l hdv hm b (hpm.mem_iff.1 hb')
   exact Z63 _ _ _ h1 h2
  rw [show matR (some l) = (Q9f l, true) from rfl]
  generalize Q9f l = r at *
  refine Ret.ctl (Z1 r (fun _ s => s = r) (fun _ => False) (fun s => s = r) rfl (fun k b s hb hI => ?_) (fun s hI => hI)) (fun r hr => hr.elim) (fun s hs => .some (by rw [hs]))
  subst hI
  have hk := (List.getElem?_eq_some_iff.1 hb).1
  have hy : s[k]? = some s[k] := by simp
  rw [Q2a hy]
  simp only [Option.bind_some]
  rw [Z6q 10 NN _ (hdb _ (List.mem_of_getElem? hy)) (by decide)]
  simp only [Option.bind_some]
  rw [X4u (by omega) (by omega)]
  refine .some ?_
  exact List.set_getElem_self (as := s) (i := k) hk
theorem Z2h {α : Type} {l : List α} {k : Nat} {x : α} (h : l[k]? = some x) : l.drop k = x :: l.drop (k + 1) := by
 obtain ⟨hk, rfl⟩ := List.getElem?_eq_some_iff.1 h
 exact List.drop_eq_getElem_cons hk
theorem Z9g {w : List Q3} (hw : WW w) {t : Q2} (ht : t ∈ tys w) {l : List Q5} (hl : ∀ c ∈ l, Q12 w t c.pat = true) {e : Nat} {v : Q4} (hv : Q0s w e t v) (he : e ≤ 10) :
  Q6x NN l v = some (runR (runD v 0 l)) := by
 suffices hs : Ret (Q6x NN l v) (fun r => r = runR (runD v 0 l)) by
  obtain ⟨a, e, rfl⟩ := hs
  exact e
 unfold Q6x
 refine Ret.ctl (Z1 l (fun k _ => runD v 0 l = runD v k (l.drop k)) (fun r : Int × List X3 => r = runR (runD v 0 l)) (fun _ => runD v 0 l = none) rfl (fun k c s hc hI => ?_) (fun s hI => by rw [hI, List.drop_length]; rfl)) (fun r hr => .some hr) (fun s hs => .some (by rw [hs]; rfl))
 obtain ⟨g, c1, ln⟩ := Q3z (hl c (List.mem_of_getElem? hc))
 rw [Z2h hc] at hI
 simp only [runD] at hI
 rw [Z8f hw ht g ln (by omega) hv he]
 simp only [Option.bind_some]
 cases hm : X6 10 c.pat v with
 | none =>
  simp only [hm] at hI
  simp only [matR, Bool.false_eq_true, if_false, Option.bind_some]
  exact .some hI
 | some r =>
  simp only [hm] at hI
  have hb := Z2b g ln hm
  have hn : ((Q9f r).map (·.var)).Nodup := ((Z1c hb.rg).map _).nodup_iff.2 hb.nd
  simp only [matR, if_true]
  rw [X32 _ hn, X5k hb]
  simp only [Option.bind_some]
  cases hg : Q4b c.guard r with
  | true =>
   rw [hg] at hI
   simp only [if_true, Option.bind_some] at hI ⊢
   exact .some (by simp only [X72]; rw [hI]; rfl)
  | false =>
   rw [hg] at hI
   simp only [Bool.false_eq_true, if_false, Option.bind_some] at hI ⊢
   exact .some hI
end Go.Proofs.YtbdkbdafhlcilaaGreat
namespace Go.Proofs.YtbdkbdafhlcilaaGreat
open Go Go.RowKit
def cntV : Q4 → Nat
 | ⟨_, _, kids⟩ => 1 + cntVs kids
where cntVs : List Q4 → Nat
 | [] => 0
 | v :: l => cntV v + cntVs l
theorem Z4k (v : Q4) : cntV v = 1 + cntV.cntVs v.kids := by cases v; rw [cntV]
theorem Z1i : ∀ (l : List Q4) (k : Nat) (q : Q4), l[k]? = some q → cntV.cntVs (l.take (k + 1)) = cntV.cntVs (l.take k) + cntV q
 | [], k, q, h => by simp at h
 | p :: l, 0, q, h => by simp at h; subst h; simp [cntV.cntVs]
 | p :: l, k + 1, q, h => by
  have := Z1i l k q (by simpa using h)
  simp only [List.take_succ_cons, cntV.cntVs]
  omega
theorem Z04 : ∀ (l : List Q4) (k : Nat), cntV.cntVs (l.take k) ≤ cntV.cntVs l
 | [], k => by simp
 | p :: l, 0 => by simp [cntV.cntVs]
 | p :: l, k + 1 => by
  have := Z04 l k
  simp only [List.take_succ_cons, cntV.cntVs]
  omega
def Q2y (w : List Q3) : Nat → Q2 → Q4 → Bool
 | 0, _, _ => false
 | d + 1, t, v => if t.data = -1 then decide (v.ctor = -1) && (decide (0 ≤ v.n) && (decide (v.n ≤ 9) && decide (v.kids.length = 0)))
  else decide (v.n = 0) && (decide (v.ctor ∈ Z9 w t) && (decide (v.kids.length = (Z5 w t v.ctor).length) && ((Z5 w t v.ctor).zip v.kids).all fun x => Q2y w d x.1 x.2))
theorem Z49 {w : List Q3} : ∀ (d : Nat) (t : Q2) (v : Q4), Q2y w d t v = true ↔ Q0s w d t v := by
 intro d
 induction d with
 | zero => intro t v; simp [Q2y, Q0s]
 | succ d ih =>
  intro t v
  rw [Q2y, Q0s]
  split
  ·simp only [Bool.and_eq_true, decide_eq_true_eq, List.length_eq_zero_iff]
  ·simp only [Bool.and_eq_true, decide_eq_true_eq, List.all_eq_true]
   constructor
   ·rintro ⟨h1, h2, h3, h4⟩
    exact ⟨h1, h2, h3, fun j a x ha hx => (ih a x).1 (h4 (a, x) (List.mem_of_getElem? (Q9c ha hx)))⟩
   ·rintro ⟨h1, h2, h3, h4⟩
    refine ⟨h1, h2, h3, fun x hx => ?_⟩
    obtain ⟨j, hj⟩ := List.mem_iff_getElem?.1 hx
    obtain ⟨e1, e2⟩ := List.getElem?_zip_eq_some.1 hj
    exact (ih _ _).2 (h4 j _ _ e1 e2)
def okV (w : List Q3) (d : Nat) (t : Q2) (v : Q4) (c : Nat) : Bool := Q2y w d t v && decide (c + cntV v ≤ 60)
def Q40 (w : List Q3) (t : Q2) (v : Q4) : Bool := Q2y w 10 t v && decide (cntV v ≤ 60)
theorem Q9e {w : List Q3} {t : Q2} {v : Q4} (h : Q40 w t v = true) : Q0s w 10 t v := by
 simp only [Q40, Bool.and_eq_true] at h
 exact (Z49 10 t v).1 h.1
theorem W2q {w : List Q3} {d : Nat} {t : Q2} {v : Q4} {c : Nat} (h : Q2y w d t v = false) : okV w d t v c = false := by simp [okV, h]
theorem V3h {w : List Q3} (hw : WW w) : ∀ (d n : Nat) (t : Q2) (v : Q4) (c : Nat), t ∈ tys w → c ≤ 60 → d + 2 ≤ n → d ≤ 10 →
  Ret (Q2b n w t v (11 - (d : Int)) false (c : Int)) (fun r => r.1 = okV w d t v c ∧ (okV w d t v c = true → r.2 = ((c + cntV v : Nat) : Int))) := by
 intro d
 induction d with
 | zero =>
  intro n t v c ht hc hn hd
  obtain ⟨n, rfl⟩ : ∃ k, n = k + 1 := ⟨n - 1, by omega⟩
  have hb : okV w 0 t v c = false := W2q rfl
  unfold Q2b
  refine Ret.ite (fun _ => .some ⟨hb.symm, fun h => by rw [hb] at h; cases h⟩) (fun _ => ?_)
  rw [if_pos (by rw [X0]; omega)]
  exact .some ⟨hb.symm, fun h => by rw [hb] at h; cases h⟩
 | succ d ih =>
  intro n t v c ht hc hn hd
  obtain ⟨n, rfl⟩ : ∃ k, n = k + 1 := ⟨n - 1, by omega⟩
  have hT := hw.ty t ht
  unfold Q2b
  have hc1 : wadd .i64 (c : Int) 1 = ((c + 1 : Nat) : Int) := by rw [Q09] <;> omega
  rw [hc1]
  have hpos : 1 ≤ cntV v := by rw [Z4k]; omega
  refine Ret.ite (fun hlt => ?_) (fun hle => ?_)
  ·rw [X0] at hlt
   have hb : okV w (d + 1) t v c = false := by simp only [okV, Bool.and_eq_false_iff, decide_eq_false_iff_not]; right; omega
   exact .some ⟨hb.symm, fun h => by rw [hb] at h; cases h⟩
  rw [J8] at hle
  rw [if_neg (by rw [X0]; omega), if_neg (by simp)]
  have bad : Q2y w (d + 1) t v = false → okV w (d + 1) t v c = false := W2q
  refine Ret.ctl (R := fun r : Bool × Int => r.1 = okV w (d + 1) t v c ∧ (okV w (d + 1) t v c = true → r.2 = ((c + cntV v : Nat) : Int))) (B := fun _ : Unit => t.data ≠ -1 ∧ v.n = 0 ∧ v.ctor ∈ Z9 w t) ?_ (fun r hr => .some hr) (fun s hs => ?_)
  ·refine Ret.ite (fun hi => ?_) (fun hi => ?_)
   ·rw [Z4] at hi
    have hg : Q2y w (d + 1) t v = (decide (v.ctor = -1) && (decide (0 ≤ v.n) && (decide (v.n ≤ 9) && decide (v.kids.length = 0)))) := by rw [Q2y, if_pos hi]
    refine Ret.ite (fun h1 => ?_) (fun h1 => ?_)
    ·rw [Z4] at h1
     rw [Q8y]
     simp only [Option.bind_some]
     refine Ret.ite (fun h2 => ?_) (fun h2 => ?_)
     ·simp only [Bool.and_eq_true, decide_eq_true_eq] at h2
      have hk : Q2y w (d + 1) t v = decide (v.kids.length = 0) := by rw [hg]; simp [h1, h2.1, h2.2]
      refine .some ?_
      have h0 : v.kids.length = 0 → cntV v = 1 := fun h => by rw [Z4k, List.eq_nil_of_length_eq_zero h]; rfl
      by_cases hz : v.kids.length = 0
      ·have e1 : okV w (d + 1) t v c = true := by simp only [okV, hk, hz, decide_true, Bool.true_and, decide_eq_true_eq]; have := h0 hz; omega
       rw [e1]
       refine ⟨?_, fun _ => ?_⟩
       ·simp only [Z4, lenZ]; omega
       ·have := h0 hz; simp only; omega
      ·have e1 : okV w (d + 1) t v c = false := bad (by rw [hk]; simp [hz])
       rw [e1]
       refine ⟨?_, fun h => by cases h⟩
       simp only [Z8, lenZ]; omega
     ·have e1 : okV w (d + 1) t v c = false := bad (by
       rw [hg]
       simp only [Bool.and_eq_false_iff, decide_eq_false_iff_not] at h2 ⊢
       rcases h2 with h2 | h2
       ·exact .inr (.inl h2)
       ·exact .inr (.inr (.inl h2)))
      exact .some ⟨e1.symm, fun h => by rw [e1] at h; cases h⟩
    ·rw [Z8] at h1
     have e1 : okV w (d + 1) t v c = false := bad (by rw [hg]; simp [h1])
     exact .some ⟨e1.symm, fun h => by rw [e1] at h; cases h⟩
   ·rw [Z8] at hi
    have hg : Q2y w (d + 1) t v = (decide (v.n = 0) && (decide (v.ctor ∈ Z9 w t) && (decide (v.kids.length = (Z5 w t v.ctor).length) && ((Z5 w t v.ctor).zip v.kids).all fun x => Q2y w d x.1 x.2))) := by rw [Q2y, if_neg hi]
    refine Ret.ite (fun h1 => ?_) (fun h1 => ?_)
    ·rw [Bool.not_eq_true', Z8] at h1
     have e1 : okV w (d + 1) t v c = false := bad (by rw [hg]; simp [h1])
     exact .some ⟨e1.symm, fun h => by rw [e1] at h; cases h⟩
    rw [Bool.not_eq_false', Z4] at h1
    rw [hT.c2]
    simp only [Option.bind_some]
    rw [Z16]
    simp only [Option.bind_some]
    refine Ret.ite (fun h2 => ?_) (fun h2 => ?_)
    ·rw [Bool.not_eq_true', decide_eq_false_iff_not] at h2
     have e1 : okV w (d + 1) t v c = false := bad (by rw [hg]; simp [h2])
     exact .some ⟨e1.symm, fun h => by rw [e1] at h; cases h⟩
    rw [Bool.not_eq_false', decide_eq_true_eq] at h2
    exact .some ⟨hi, h1, h2⟩
  ·obtain ⟨s1, s2, s3⟩ := hs
   have hg : Q2y w (d + 1) t v = (decide (v.kids.length = (Z5 w t v.ctor).length) && ((Z5 w t v.ctor).zip v.kids).all fun x => Q2y w d x.1 x.2) := by rw [Q2y, if_neg s1]; simp [s2, s3]
   rw [hT.a2 _ s3]
   simp only [Option.bind_some]
   refine Ret.ite (fun hl => ?_) (fun hl => ?_)
   ·rw [Bool.not_eq_true', Z8] at hl
    simp only [lenZ] at hl
    have e1 : okV w (d + 1) t v c = false := bad (by rw [hg]; simp only [Bool.and_eq_false_iff, decide_eq_false_iff_not]; left; omega)
    exact .some ⟨e1.symm, fun h => by rw [e1] at h; cases h⟩
   rw [Bool.not_eq_false', Z4] at hl
   simp only [lenZ] at hl
   have hcv := Z4k v
   refine Ret.ctl (Z1 v.kids (fun k s => s = ((c + 1 + cntV.cntVs (v.kids.take k) : Nat) : Int) ∧ c + 1 + cntV.cntVs (v.kids.take k) ≤ 60 ∧ ∀ (j : Nat) (a : Q2) (x : Q4), j < k → (Z5 w t v.ctor)[j]? = some a → v.kids[j]? = some x → Q2y w d a x = true) (fun r : Bool × Int => r.1 = okV w (d + 1) t v c ∧ (okV w (d + 1) t v c = true → r.2 = ((c + cntV v : Nat) : Int))) (fun s => s = ((c + cntV v : Nat) : Int) ∧ okV w (d + 1) t v c = true) ⟨by simp [cntV.cntVs], by simp only [List.take_zero, cntV.cntVs]; omega, fun j a x hj => by omega⟩ (fun k x s hx hI => ?_) (fun s hI => ?_)) (fun r hr => .some hr) (fun s hs => .some ⟨hs.2.symm, fun _ => hs.1⟩)
   ·obtain ⟨rfl, i2, i3⟩ := hI
    have hk := (List.getElem?_eq_some_iff.1 hx).1
    have ha : (Z5 w t v.ctor)[k]? = some ((Z5 w t v.ctor)[k]'(by omega)) := by simp
    rw [Q2a ha]
    simp only [Option.bind_some]
    have hdd : wadd .i64 (11 - ((d + 1 : Nat) : Int)) 1 = 11 - (d : Int) := by rw [Q09] <;> omega
    rw [hdd]
    refine Ret.bind (ih n _ x _ (hT.at_ _ s3 _ (List.mem_of_getElem? ha)) i2 (by omega) (by omega)) (fun r hr => ?_)
    obtain ⟨r1, r2⟩ := hr
    have htk := Z1i v.kids k x hx
    refine Ret.ite (fun h => ?_) (fun h => ?_)
    ·rw [Bool.not_eq_true', r1] at h
     have e1 : okV w (d + 1) t v c = false := by
      simp only [okV, Bool.and_eq_false_iff, decide_eq_false_iff_not] at h ⊢
      rcases h with h | h
      ·left
       rw [hg, Bool.and_eq_false_iff]
       right
       rw [List.all_eq_false]
       exact ⟨_, List.mem_of_getElem? (Q9c ha hx), by simp [h]⟩
      ·right
       have := Z04 v.kids (k + 1)
       omega
     exact .some ⟨e1.symm, fun h => by rw [e1] at h; cases h⟩
    ·rw [Bool.not_eq_false', r1] at h
     have r3 := r2 h
     simp only [okV, Bool.and_eq_true, decide_eq_true_eq] at h
     refine .some ⟨?_, by omega, fun j a y hj h1 h2 => ?_⟩
     ·rw [r3]; omega
     ·by_cases hjk : j = k
      ·subst hjk
       rw [ha] at h1
       rw [hx] at h2
       cases h1
       cases h2
       exact h.1
      ·exact i3 j a y (by omega) h1 h2
   ·obtain ⟨rfl, i2, i3⟩ := hI
    rw [List.take_length] at i2 ⊢
    refine ⟨by omega, ?_⟩
    simp only [okV, Bool.and_eq_true, decide_eq_true_eq]
    refine ⟨?_, by omega⟩
    rw [hg]
    simp only [Bool.and_eq_true, decide_eq_true_eq, List.all_eq_true]
    refine ⟨by omega, fun y hy => ?_⟩
    obtain ⟨j, hj⟩ := List.mem_iff_getElem?.1 hy
    obtain ⟨e1, e2⟩ := List.getElem?_zip_eq_some.1 hj
    exact i3 j _ _ (List.getElem?_eq_some_iff.1 e2).1 e1 e2
theorem Z51 {w : List Q3} (hw : WW w) {t : Q2} (ht : t ∈ tys w) (v : Q4) : Q3u NN w t v = some (Q40 w t v) := by
 suffices hs : Ret (Q3u NN w t v) (fun r => r = Q40 w t v) by
  obtain ⟨a, e, rfl⟩ := hs
  exact e
 unfold Q3u
 refine Ret.bind (V3h hw 10 NN t v 0 ht (by omega) (by decide) (by omega)) (fun r hr => .some ?_)
 rw [hr.1]
 simp [okV, Q40]
end Go.Proofs.YtbdkbdafhlcilaaGreat
namespace Go.Proofs.YtbdkbdafhlcilaaGreat
open Go Go.RowKit
theorem Q5c {w : List Q3} {t : Q2} {cs : List Q5} (h : J5 w t cs = true) : cs.length ≤ 8 ∧ ∀ c ∈ cs, Q12 w t c.pat = true := by
 simp only [J5, Bool.and_eq_true, decide_eq_true_eq, List.all_eq_true] at h
 refine ⟨h.1, fun c hc => ?_⟩
 have := h.2 c hc
 simp only [Q71, Bool.and_eq_true] at this
 exact this.1
theorem Q41 {v : Q4} : ∀ {cs : List Q5} {k : Nat} {x : Nat × List X3}, runD v k cs = some x → ∃ i c b, cs[i]? = some c ∧ x.1 = k + i ∧ X6 10 c.pat v = some b ∧ Q4b c.guard b = true ∧ x.2 = Q9f b ∧ ∀ (j : Nat) (c' : Q5), j < i → cs[j]? = some c' → ∀ b', X6 10 c'.pat v = some b' → Q4b c'.guard b' = false
 | [], _, _, h => by cases h
 | c :: cs, k, x, h => by
  simp only [runD] at h
  cases hm : X6 10 c.pat v with
  | none =>
   rw [hm] at h
   obtain ⟨i, c1, b, h1, h2, h3, h4, h5, h6⟩ := Q41 h
   refine ⟨i + 1, c1, b, by simpa using h1, by omega, h3, h4, h5, fun j c' hj hc' b' hb' => ?_⟩
   cases j with
   | zero => simp only [List.getElem?_cons_zero, Option.some.injEq] at hc'; subst hc'; rw [hm] at hb'; cases hb'
   | succ j => exact h6 j c' (by omega) (by simpa using hc') b' hb'
  | some l =>
   rw [hm] at h
   simp only at h
   split at h
   ·rename_i hg
    cases h
    exact ⟨0, c, l, rfl, rfl, hm, hg, rfl, fun j c' hj => by omega⟩
   ·rename_i hg
    obtain ⟨i, c1, b, h1, h2, h3, h4, h5, h6⟩ := Q41 h
    refine ⟨i + 1, c1, b, by simpa using h1, by omega, h3, h4, h5, fun j c' hj hc' b' hb' => ?_⟩
    cases j with
    | zero => simp only [List.getElem?_cons_zero, Option.some.injEq] at hc'; subst hc'; rw [hm] at hb'; cases hb'; simpa using hg
    | succ j => exact h6 j c' (by omega) (by simpa using hc') b' hb'
end Go.Proofs.YtbdkbdafhlcilaaGreat
namespace Go.Proofs.YtbdkbdafhlcilaaGreat
open Go Go.RowKit
theorem X40 {w : List Q3} {d x m : Nat} {t : Q2} (hm : 400 ≤ m) : ∀ (bs l r : List Q0), l.length ≤ m → Q5q w d x t l bs = some r → r.length ≤ m
 | [], l, r, h, e => by simp only [Q5q, Option.some.injEq] at e; subst e; exact h
 | b :: bs, l, r, h, e => by
  simp only [Q5q] at e
  split at e
  ·cases e
  ·exact X40 hm bs _ r (by omega) e
theorem Q72 {w : List Q3} {d x m : Nat} {t : Q2} {l bs r : List Q0} (hm : 400 ≤ m) (h : l.length ≤ m) (e : Q0q w d x t l bs = some r) : r.length ≤ m :=
 X40 hm bs _ r (by have := Z5x w x t l; omega) e
theorem W1y {w : List Q3} {t : Q2} : ∀ (ps bef r : List Q0), sepP w t bef ps = some r → r.length ≤ 400 * ps.length
 | [], _, r, e => by simp only [sepP, Option.some.injEq] at e; subst e; simp
 | p :: ps, bef, r, e => by
  simp only [sepP] at e
  cases hm : Q0q w 10 11 t [p] bef with
  | none => rw [hm] at e; simp at e
  | some m =>
   rw [hm] at e
   simp only [Option.bind_some, Option.map_eq_some_iff] at e
   obtain ⟨r2, h2, rfl⟩ := e
   have h1 := Q72 (m := 400) (Nat.le_refl _) (by simp) hm
   have h3 := W1y ps (bef ++ [p]) r2 h2
   simp only [List.length_append, List.length_cons]
   omega
theorem Z5q {α : Type} {l : List α} {k : Nat} (h : k ≤ l.length) : Q73 l (k : Int) = some (l.take k) := by
 unfold Q73
 rw [if_pos ⟨by omega, by omega⟩]
 simp
theorem Z72 {w : List Q3} (hww : w ∈ Q0g) (hw : WW w) (he : WE w) {t : Q2} (ht : t ∈ tys w) {ps : List Q0} (hp : ∀ p ∈ ps, Z7 w 10 t p ∧ cntP p ≤ 130) (hl : ps.length ≤ 1600) :
  Q0u NN ⟨w, dimP w⟩ t ps = some (optR (sepP w t [] ps)) := by
 suffices hs : Ret (Q0u NN ⟨w, dimP w⟩ t ps) (fun r => r = optR (sepP w t [] ps)) by
  obtain ⟨a, e, rfl⟩ := hs
  exact e
 unfold Q0u
 refine Ret.ctl (Z1 ps (fun k s => s.length ≤ 400 * k ∧ sepP w t [] ps = (sepP w t (ps.take k) (ps.drop k)).map (s ++ ·)) (fun r => r = ([], false) ∧ sepP w t [] ps = none) (fun s => sepP w t [] ps = some s) ⟨by simp, by simp⟩ (fun k p s hp' hI => ?_) (fun s hI => ?_)) (fun r hr => .some (by rw [hr.1, hr.2]; rfl)) (fun s hs => .some (by rw [hs]; rfl))
 ·obtain ⟨hsl, hI⟩ := hI
  have hk := (List.getElem?_eq_some_iff.1 hp').1
  have hpm := hp p (List.mem_of_getElem? hp')
  rw [Z5q (by omega)]
  simp only [Option.bind_some]
  rw [Q8w hww hw he (d := 10) (x := 11) ht (by omega) (by omega) (fun b hb => hp b (List.mem_of_mem_take hb)) (fun a ha => by simp only [List.mem_singleton] at ha; rw [ha]; exact Q5u 10 t p hpm.1) (by simp) (by simp only [NN]; omega)]
  simp only [Option.bind_some]
  rw [Z2h hp'] at hI
  simp only [sepP] at hI
  cases hm : Q0q w 10 11 t [p] (ps.take k) with
  | none =>
   rw [hm] at hI
   simp only [Option.bind_none, Option.map_none] at hI
   simp only [optR, Bool.not_false, if_true]
   exact .some ⟨rfl, hI⟩
  | some m =>
   rw [hm] at hI
   have hml := Q72 (m := 400) (Nat.le_refl _) (by simp) hm
   simp only [optR, Bool.not_true, Bool.false_eq_true, if_false]
   rw [W6 (by simp only [Q6]; omega)]
   refine .some ⟨by simp only [List.length_append]; omega, ?_⟩
   rw [hI]
   simp only [Option.bind_some, Option.map_map]
   rw [List.take_add_one, hp']
   simp only [Option.toList_some]
   congr 1
   funext z
   simp
 ·obtain ⟨_, hI⟩ := hI
  rw [List.drop_length, sepP] at hI
  simpa using hI
theorem Z22 {w : List Q3} (hww : w ∈ Q0g) {t : Q2} (ht : t ∈ tys w) {cs : List Q5} {i : Nat} (hi : i < cs.length) : Q0v NN w t cs (i : Int) = some (optR (Q27 w t cs i)) := by
 have hw := ww hww
 have he := we hww
 unfold Q0v Q27
 rw [Q3w hw ht]
 simp only [Option.bind_some]
 by_cases h : J5 w t cs = true
 ·obtain ⟨h8, hc⟩ := Q3i h
  have hin : (decide ((0 : Int) ≤ (i : Int)) && decide ((i : Int) ≤ wsub .i64 (lenZ cs.length) 1)) = true := by
   rw [Q0k, Q3k (by omega) (by omega)]
   simp only [Bool.and_eq_true, decide_eq_true_eq]
   omega
  have hci : cs[i]? = some (cs[i]'hi) := by simp
  generalize cs[i]'hi = c at hci
  obtain ⟨hv, hg, hcn⟩ := hc c (List.mem_of_getElem? hci)
  simp only [h, Bool.not_true, Bool.false_eq_true, if_false, if_true]
  rw [Q8y, hin, hci]
  simp only [Option.bind_some, Bool.not_true, Bool.false_eq_true, if_false]
  rw [Q2a hci]
  simp only [Option.bind_some]
  rw [Z52 hw ht hg (by omega) (by simp only [NN]; omega), Z5q (by omega)]
  simp only [Option.bind_some]
  have htk : ∀ c ∈ cs.take i, Q0a w 10 t c.pat = true ∧ cntP c.pat ≤ 60 := fun c m => (hc c (List.mem_of_mem_take m)).2
  rw [Z54 hw ht (by simp only [NN]; omega) (cs.take i) (fun c m => ⟨(htk c m).1, by have := (htk c m).2; omega⟩) (by rw [List.length_take]; omega)]
  simp only [Option.bind_some]
  cases hm : Q5t c.pat with
  | none => simp [optR]
  | some mine =>
   have hpp := Z1e hg hm
   have hpc := Z6p hm
   have hpl := (Q75 hm).1
   cases ha : Q1f (cs.take i) with
   | none => simp [optR]
   | some away =>
    have hap := Q4y (fun c m => (htk c m).1) ha
    have hac := Q96 (m := 60) (fun c m => (htk c m).2) ha
    simp only [optR, Bool.not_true, Bool.false_eq_true, if_false, Option.bind_some]
    rw [(wl hww).dim]
    simp only [Option.bind_some]
    rw [Z72 hww hw he ht (fun p hp => ⟨hpp p hp, by have := hpc p hp; omega⟩) (by omega)]
    simp only [Option.bind_some]
    cases hs : sepP w t [] mine with
    | none =>
     simp only [optR, Bool.false_eq_true, if_false, Option.bind_some, Option.bind_none]
     have := Q9u hw (S := dimP w) (n := NN) (by simp only [NN]; omega) ht none (fun l h => by cases h)
     simp only [optR] at this
     rw [this]
     rfl
    | some out =>
     have hol := W1y mine [] out hs
     have hop := Z30 mine [] out (by simp) hpp hs
     simp only [optR, if_true, Option.bind_some]
     rw [Q8w hww hw he (d := 10) (x := 11) ht (by omega) (by omega) (fun b hb => ⟨hap b hb, by have := hac b hb; omega⟩) hop (by omega) (by simp only [NN]; omega)]
     simp only [Option.bind_some]
     rw [Q9u hw (by simp only [NN]; omega) ht _ (fun r hr => by have := Q72 (m := 20000) (by omega) (by omega) hr; omega)]
     cases Q7n w t (Q0q w 10 11 t out away) <;> rfl
 ·simp [h, optR]
end Go.Proofs.YtbdkbdafhlcilaaGreat
namespace Go.Proofs.YtbdkbdafhlcilaaGreat
open Go Go.RowKit
def Par {α : Type} (x : Option α) (Q : α → Prop) : Prop := ∀ a, x = some a → Q a
theorem Par.some {α : Type} {a : α} {Q : α → Prop} (h : Q a) : Par (some a) Q := fun b e => by cases e; exact h
theorem Par.none {α : Type} {Q : α → Prop} : Par (none : Option α) Q := fun b e => by cases e
theorem Par.bind {α β : Type} {x : Option α} {f : α → Option β} {P : α → Prop} {Q : β → Prop} (hx : Par x P) (hf : ∀ a, P a → Par (f a) Q) : Par (x.bind f) Q := fun b e => by
 cases hx' : x with
 | none => rw [hx'] at e; cases e
 | some a => rw [hx'] at e; exact hf a (hx a hx') b e
theorem Par.any {α β : Type} {x : Option α} {f : α → Option β} {Q : β → Prop} (hf : ∀ a, Par (f a) Q) : Par (x.bind f) Q := Par.bind (P := fun _ => True) (fun _ _ => trivial) fun a _ => hf a
theorem Par.ite {α : Type} {b : Bool} {x y : Option α} {Q : α → Prop} (h1 : b = true → Par x Q) (h2 : b = false → Par y Q) : Par (if b = true then x else y) Q := by
 cases b with
 | true => exact h1 rfl
 | false => exact h2 rfl
theorem Par.mono {α : Type} {x : Option α} {P Q : α → Prop} (h : ∀ a, P a → Q a) (hx : Par x P) : Par x Q := fun a e => h a (hx a e)
theorem Par.ctl {ρ σ τ : Type} {x : Option (Ctl ρ σ)} {g : Ctl ρ σ → Option τ} {R : ρ → Prop} {B : σ → Prop} {Q : τ → Prop} (h : Par x (CtlQ R B)) (hr : ∀ r, R r → Par (g (.ret r)) Q) (hb : ∀ s, B s → Par (g (.brk s)) Q) : Par (x.bind g) Q :=
 Par.bind h fun a ha => by
  cases a with
  | ret r => exact hr r ha
  | brk s => exact hb s ha
  | go s => exact ha.elim
theorem Z01 {α σ ρ : Type} {f : Nat → α → σ → Option (Ctl ρ σ)} (I : Nat → σ → Prop) (R : ρ → Prop) (B : σ → Prop) : ∀ (xs : List α) (i : Nat) (s0 : σ), I i s0 → (∀ k x s, x ∈ xs → I k s → Par (f k x s) (RndQ R B (I (k + 1)))) → (∀ s, I (i + xs.length) s → B s) → Par (forL f i xs s0) (CtlQ R B)
 | [], i, s0, h0, _, hb => by
  unfold forL
  exact .some (hb s0 (by simpa using h0))
 | x :: xs, i, s0, h0, st, hb => by
  unfold forL
  have h1 := st i x s0 (by simp) h0
  intro a e
  cases hf : f i x s0 with
  | none => rw [hf] at e; cases e
  | some o =>
   rw [hf] at e
   have h2 := h1 o hf
   cases o with
   | ret r => cases e; exact h2
   | brk s => cases e; exact h2
   | go s => exact Z01 I R B xs (i + 1) s h2 (fun k y s hy => st k y s (by simp [hy])) (fun s hs => hb s (by simpa [Nat.add_assoc, Nat.add_comm 1] using hs)) a e
theorem Ret.both {α : Type} {x : Option α} {P Q : α → Prop} (h : Ret x P) (k : Par x Q) : Ret x (fun a => P a ∧ Q a) := by
 obtain ⟨a, e, hp⟩ := h
 exact ⟨a, e, hp, k a e⟩
theorem X15 {α : Type} (xs ys : List α) : Par (app xs ys) (fun z => z = xs ++ ys) := fun z hz => by
 unfold app at hz
 split at hz
 ·cases hz; rfl
 ·cases hz
end Go.Proofs.YtbdkbdafhlcilaaGreat
namespace Go.Proofs.YtbdkbdafhlcilaaGreat
open Go Go.RowKit
theorem X7e {w : List Q3} (hw : WW w) {r : Z0} {t : Q2} (ht : t ∈ tys w) (h : ROk r 2600) : Ret (Q4f NN r w t) (fun a => (∀ c ∈ a.1, Q12 w t c.pat = true) ∧ a.1.length ≤ 5 ∧ Nx r a.2 2600) := by
 unfold Q4f
 refine Ret.bind (Q8k (h.le (by omega)) [3, 2, 4, 5, 1, 0] (by simp) (by simp)) (fun a ha => ?_)
 have hr1 : ROk a.2 2599 := ROk.nx (c := 1) h ha.2
 have hd : 0 ≤ a.1 ∧ a.1 ≤ 5 := by
  have := ha.1
  simp at this
  omega
 refine Ret.ctl (Q3l (fun s => 0 ≤ s.2.2 ∧ s.2.2 ≤ 5 ∧ (s.2.1.length : Int) + s.2.2 = a.1 ∧ (∀ c ∈ s.2.1, Q12 w t c.pat = true) ∧ Nx a.2 s.1 (s.2.1.length * 500)) (fun s => s.2.2.toNat) (fun _ => False) (fun s => s.2.1.length ≤ 5 ∧ (∀ c ∈ s.2.1, Q12 w t c.pat = true) ∧ Nx a.2 s.1 2500)
  ⟨hd.1, hd.2, by simp, by simp, by simpa using Nx.refl a.2⟩ (fun s hI => ?_) NN (by have := hd; show (a.1).toNat < 30000000; omega)) (fun r hr => hr.elim) (fun s hs => .some ⟨hs.2.1, hs.1, (ha.2.trans hs.2.2).le' (by omega)⟩)
 obtain ⟨i1, i2, i3, i4, i5⟩ := hI
 refine Ret.ite (fun h => ?_) (fun h => ?_)
 ·rw [X0] at h
  have hr2 : ROk s.1 500 := ROk.nx (c := s.2.1.length * 500) (hr1.le (by omega)) i5
  refine Ret.bind (W0n hw ht hr2) (fun b hb => ?_)
  rw [W6 (by simp only [Q6, List.length_cons, List.length_nil]; omega)]
  have hws : wsub .i64 s.2.2 1 = s.2.2 - 1 := Q3k (by omega) (by omega)
  simp only [Option.bind_some]
  rw [hws]
  refine .some ⟨⟨by simp only; omega, by simp only; omega, by simp; omega, fun c hc => ?_, ?_⟩, by simp only; omega⟩
  ·rcases List.mem_append.1 hc with hc | hc
   ·exact i4 c hc
   ·simp at hc; subst hc; exact hb.1
  ·have := i5.trans hb.2
   simp only [List.length_append, List.length_cons, List.length_nil]
   exact this.le' (by omega)
 ·exact .some ⟨by simp only; omega, i4, i5.le' (by omega)⟩
end Go.Proofs.YtbdkbdafhlcilaaGreat
