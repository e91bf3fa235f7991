import Derived.Test.YtnackipaoepmfaaGreatGJP0
import Derived.Test.YtnackipaoepmfaaGreatGJZ0
set_option linter.unusedSimpArgs false
set_option linter.unusedVariables false
namespace Go.Proofs.YtnackipaoepmfaaGreat
open Go Go.RowKit
structure ROk (r : Z1) (m : Nat) : Prop where
 bytes : ∀ x ∈ r.b, 0 ≤ x ∧ x ≤ 255
 len : r.b.length ≤ 2000
 p0 : 0 ≤ r.p
 pm : r.p + m ≤ 40000000
structure Nx (r r' : Z1) (c : Nat) : Prop where
 b : r'.b = r.b
 le : r.p ≤ r'.p
 ge : r'.p ≤ r.p + c
theorem ROk.le {r : Z1} {m m' : Nat} (h : ROk r m) (hm : m' ≤ m) : ROk r m' := ⟨h.bytes, h.len, h.p0, by have := h.pm; omega⟩
theorem ROk.nx {r r' : Z1} {c m : Nat} (h : ROk r (c + m)) (hn : Nx r r' c) : ROk r' m := ⟨by rw [hn.b]; exact h.bytes, by rw [hn.b]; exact h.len, by have := h.p0; have := hn.le; omega, by have := h.pm; have := hn.ge; omega⟩
theorem Nx.refl (r : Z1) : Nx r r 0 := ⟨rfl, by omega, by omega⟩
theorem Nx.trans {a b c : Z1} {m n : Nat} (h : Nx a b m) (k : Nx b c n) : Nx a c (m + n) := ⟨k.b.trans h.b, by have := h.le; have := k.le; omega, by have := h.ge; have := k.ge; omega⟩
theorem Nx.le' {a b : Z1} {m n : Nat} (h : Nx a b m) (hm : m ≤ n) : Nx a b n := ⟨h.b, h.le, by have := h.ge; omega⟩
theorem W01 {x y : Int} (hx : 0 ≤ x) (hx' : x < 1099511627776) (hy : 0 ≤ y) (hy' : y < 1099511627776) : 0 ≤ wxor .i64 x y ∧ wxor .i64 x y < 1099511627776 := by
 obtain ⟨a, rfl⟩ := Int.eq_ofNat_of_zero_le hx
 obtain ⟨b, rfl⟩ := Int.eq_ofNat_of_zero_le hy
 have e : (BitVec.ofInt IntKind.i64.bits (a : Int) ^^^ BitVec.ofInt IntKind.i64.bits (b : Int)).toNat = a ^^^ b := by
  have ha : (BitVec.ofInt IntKind.i64.bits (a : Int)).toNat = a := by
   rw [BitVec.toNat_ofInt]
   show (((a : Int) % ((2 ^ 64 : Nat) : Int))).toNat = a
   omega
  have hb : (BitVec.ofInt IntKind.i64.bits (b : Int)).toNat = b := by
   rw [BitVec.toNat_ofInt]
   show (((b : Int) % ((2 ^ 64 : Nat) : Int))).toNat = b
   omega
  rw [BitVec.toNat_xor, ha, hb]
 have hlt : a ^^^ b < 2 ^ 40 := Nat.xor_lt_two_pow (by omega) (by omega)
 unfold wxor
 rw [e, Z4z (by omega) (by omega)]
 omega
theorem Q34 {r : Z1} (h : ROk r 1) {k : Int} (h1 : 1 ≤ k) (h2 : k ≤ 1000000) : Ret (Z2 r k) (fun a => 0 ≤ a.1 ∧ a.1 < k ∧ Nx r a.2 1) := by
 have hp0 := h.p0
 have hpm := h.pm
 have hlen := h.len
 have ep : wadd .i64 r.p 1 = r.p + 1 := Q0p (by omega) (by omega)
 have eq : wsub .i64 (r.p + 1) 1 = r.p := by rw [Q4c (by omega) (by omega)]; omega
 have nx : Nx r (Z1.mk r.b (r.p + 1)) 1 := ⟨rfl, by simp only; omega, by simp only; omega⟩
 unfold Z2
 rw [ep, eq]
 refine Ret.ite (fun c => by rw [W0] at c; omega) (fun _ => ?_)
 refine Ret.ite (fun c => .some ⟨by simp, by simp; omega, nx⟩) (fun c => ?_)
 rw [X8] at c
 simp only [lenZ] at c
 have hpos : 0 < r.b.length := by omega
 have hk0 : chk (!ieq k 0) = some () := X2m (by simp [ieq]; omega)
 have hb0 : chk (!ieq (lenZ r.b.length) 0) = some () := X2m (by rw [Bool.not_eq_true', X8]; simp only [lenZ]; omega)
 have rem : ∀ x : Int, 0 ≤ x → 0 ≤ wrem x k ∧ wrem x k < k := fun x hx => by
  unfold wrem
  rw [Int.tmod_eq_emod_of_nonneg hx]
  exact ⟨Int.emod_nonneg _ (by omega), Int.emod_lt_of_pos _ (by omega)⟩
 refine Ret.ite (fun c2 => ?_) (fun c2 => ?_)
 ·rw [W0] at c2
  simp only [lenZ] at c2
  obtain ⟨x, hx, hm⟩ := Q4k hp0 c2
  obtain ⟨b1, b2⟩ := h.bytes x hm
  rw [hx, hk0]
  simp only [Option.bind_some]
  rw [W04 (by omega) (by omega)]
  exact .some ⟨(rem x b1).1, (rem x b1).2, nx⟩
 ·rw [hb0]
  simp only [Option.bind_some]
  have remb : ∀ x : Int, 0 ≤ x → 0 ≤ wrem x (lenZ r.b.length) ∧ wrem x (lenZ r.b.length) < r.b.length := fun x hx => by
   unfold wrem lenZ
   rw [Int.tmod_eq_emod_of_nonneg hx]
   exact ⟨Int.emod_nonneg _ (by omega), Int.emod_lt_of_pos _ (by omega)⟩
  have e7 : wmul .i64 r.p 7 = r.p * 7 := Z15 (by omega) (by omega)
  have e73 : wadd .i64 (r.p * 7) 3 = r.p * 7 + 3 := Q0p (by omega) (by omega)
  rw [e7, e73]
  obtain ⟨x, hx, hm⟩ := Q4k (remb r.p hp0).1 (remb r.p hp0).2
  obtain ⟨y, hy, hn⟩ := Q4k (remb (r.p * 7 + 3) (by omega)).1 (remb (r.p * 7 + 3) (by omega)).2
  obtain ⟨b1, b2⟩ := h.bytes x hm
  obtain ⟨b3, b4⟩ := h.bytes y hn
  rw [hx, hy, hk0]
  simp only [Option.bind_some]
  have f1 : wcv .i64 x = x := W04 (by omega) (by omega)
  have f2 : wcv .i64 y = y := W04 (by omega) (by omega)
  have f3 : wmul .i64 x 131 = x * 131 := Z15 (by omega) (by omega)
  have f4 : wmul .i64 y 1117 = y * 1117 := Z15 (by omega) (by omega)
  have f5 : wmul .i64 r.p 29 = r.p * 29 := Z15 (by omega) (by omega)
  have hq : 0 ≤ r.p.tdiv (lenZ r.b.length) ∧ r.p.tdiv (lenZ r.b.length) ≤ r.p := by
   rw [Int.tdiv_eq_ediv_of_nonneg hp0]
   exact ⟨Int.ediv_nonneg hp0 (by simp [lenZ]), Int.ediv_le_self _ hp0⟩
  have f6 : wquo .i64 r.p (lenZ r.b.length) = r.p.tdiv (lenZ r.b.length) := W02 (by omega) (by omega)
  rw [f1, f2, f3, f4, f5, f6]
  generalize r.p.tdiv (lenZ r.b.length) = q at hq ⊢
  have f7 : wmul .i64 q 53 = q * 53 := Z15 (by omega) (by omega)
  have f8 : wadd .i64 (x * 131) (y * 1117) = x * 131 + y * 1117 := Q0p (by omega) (by omega)
  have f9 : wadd .i64 (x * 131 + y * 1117) (r.p * 29) = x * 131 + y * 1117 + r.p * 29 := Q0p (by omega) (by omega)
  rw [f7, f8, f9, Q0p (by omega) (by omega)]
  have hz : 0 ≤ x * 131 + y * 1117 + r.p * 29 + q * 53 ∧ x * 131 + y * 1117 + r.p * 29 + q * 53 < 1099511627776 := ⟨by omega, by omega⟩
  generalize x * 131 + y * 1117 + r.p * 29 + q * 53 = z at hz ⊢
  have hz64 : z.tdiv 64 = z / 64 := Int.tdiv_eq_ediv_of_nonneg hz.1
  rw [W02 (by rw [hz64]; omega) (by rw [hz64]; omega), hz64]
  have hxr := W01 hz.1 hz.2 (show 0 ≤ z / 64 by omega) (show z / 64 < 1099511627776 by omega)
  exact .some ⟨(rem _ hxr.1).1, (rem _ hxr.1).2, nx⟩
theorem Q9a {r : Z1} (h : ROk r 1) (l : List Int) (h1 : 1 ≤ l.length) (h2 : l.length ≤ 1000) : Ret (X6 r l) (fun a => a.1 ∈ l ∧ Nx r a.2 1) := by
 unfold X6
 refine Ret.bind (Q34 h (k := lenZ l.length) (by simp [lenZ]; omega) (by simp [lenZ]; omega)) (fun a ha => ?_)
 obtain ⟨x, hx, hm⟩ := Q4k (xs := l) ha.1 (by simpa [lenZ] using ha.2.1)
 rw [hx]
 exact .some ⟨hm, ha.2.2⟩
theorem Z95 (code : List Int) (hb : ∀ x ∈ code, 0 ≤ x ∧ x ≤ 255) : Ret (Q39 code) (fun r => ROk r 1000000) := by
 unfold Q39
 refine Ret.ctl (R := fun _ => False) (B := fun s => (∀ x ∈ s, 0 ≤ x ∧ x ≤ 255) ∧ s.length ≤ 2000) ?_ (fun r hr => hr.elim) (fun s hs => ?_)
 ·refine Ret.ite (fun h => ?_) (fun h => ?_)
  ·rw [W0] at h
   simp only [lenZ] at h
   have : Q7k code 2000 = some (code.take 2000) := by
    unfold Q7k
    rw [if_pos ⟨by omega, by omega⟩]
    rfl
   rw [this]
   exact .some ⟨fun x hx => hb x (List.mem_of_mem_take hx), by simp; omega⟩
  ·rw [Q06] at h
   simp only [lenZ] at h
   exact .some ⟨hb, by omega⟩
 ·exact .some ⟨hs.1, hs.2, by simp, by simp⟩
theorem W4d {r : Z1} (h : ROk r 1) : Ret (Q54 NN r) (fun a => a.1 ∈ Q15 ∧ Nx r a.2 1) := by
 unfold Q54
 obtain ⟨T, hT⟩ : ∃ T, Q43 = some T := ⟨_, rfl⟩
 have hlen : T.length = 8 := by
  have h8 : Q43.map List.length = some 8 := rfl
  rw [hT] at h8
  simpa using h8
 rw [hT]
 simp only [Option.bind_some]
 have e7 : wsub .i64 (lenZ T.length) 1 = 7 := by rw [hlen]; rfl
 rw [e7]
 refine Ret.bind (Q34 h (by omega) (by omega)) (fun a ha => ?_)
 obtain ⟨i, hi⟩ := Int.eq_ofNat_of_zero_le ha.1
 obtain ⟨w, hw, hm⟩ := W6w (i := i) (by have := ha.2.1; omega)
 unfold Z9q at hw
 rw [hT] at hw
 simp only [Option.bind_some] at hw
 rw [hi]
 obtain ⟨x, hx, hw⟩ := bindE hw
 rw [hx]
 simp only [Option.bind_some]
 rw [hw]
 exact .some ⟨hm, ha.2.2⟩
def Z3m : Nat → Nat
 | 0 => 1
 | m + 1 => 1 + 3 * Z3m m
theorem W3a : ∀ m, 1 ≤ Z3m m
 | 0 => Nat.le_refl _
 | m + 1 => by simp only [Z3m]; omega
theorem W6z {w : List Q3} (hw : WW w) : ∀ (m n : Nat) (r : Z1) (t : Q2) (depth : Int), t ∈ tys w → depP w t ≠ 0 → depth ≤ m → depP w t ≤ m → -1000 + m ≤ depth → m ≤ 100 → m + 1 ≤ n → ROk r (Z3m m) →
  Ret (Q4r n r w (tabP w) t depth) (fun a => Nx r a.2 (Z3m m)) := by
 intro m
 induction m with
 | zero =>
  intro n r t depth ht hd h1 h2 h3 hm100 hn hr
  have := (hw.ty t ht).d0
  omega
 | succ m ih =>
  intro n r t depth ht hd h1 h2 h3 hm100 hn hr
  obtain ⟨n, rfl⟩ : ∃ k, n = k + 1 := ⟨n - 1, by omega⟩
  have hT := hw.ty t ht
  have hpos := W3a (m + 1)
  unfold Q4r
  refine Ret.ite (fun h => ?_) (fun h => ?_)
  ·refine Ret.bind (Q34 (hr.le hpos) (by omega) (by omega)) (fun a ha => .some (ha.2.2.le' hpos))
  ·rw [X8] at h
   rw [hT.c1]
   simp only [Option.bind_some]
   obtain ⟨kb, hkb, hmb⟩ := hT.dm h hd
   have hd0 := hT.d0
   refine Ret.ctl (Z4 (Z7 w t) (fun k s => (∀ x ∈ s, x ∈ Z7 w t ∧ 0 < Q51 w t x ∧ (Q51 w t x ≤ depth ∨ Q51 w t x = depP w t)) ∧ s.length ≤ k ∧ (∀ j, j < k → (Z7 w t)[j]? = some kb → s ≠ [])) (fun _ => False)
    (fun s => (∀ x ∈ s, x ∈ Z7 w t ∧ 0 < Q51 w t x ∧ (Q51 w t x ≤ depth ∨ Q51 w t x = depP w t)) ∧ s ≠ [] ∧ s.length ≤ 4) ⟨by simp, by simp, fun j hj => by omega⟩ (fun k x s hx hI => ?_) (fun s hI => ?_)) (fun r hr => hr.elim) (fun s hs => ?_)
   ·obtain ⟨i1, i2, i3⟩ := hI
    have hxm := List.mem_of_getElem? hx
    have hkl := (List.getElem?_eq_some_iff.1 hx).1
    have hcl := hT.cl
    have take : ∀ (hp : 0 < Q51 w t x ∧ (Q51 w t x ≤ depth ∨ Q51 w t x = depP w t)), Ret ((app s [x]).bind fun x310 => some (Ctl.brk (ρ := Ctl (Q4 × Z1) (List Int)) x310)) (CtlQ (fun _ => False) (fun s' => (∀ x ∈ s', x ∈ Z7 w t ∧ 0 < Q51 w t x ∧ (Q51 w t x ≤ depth ∨ Q51 w t x = depP w t)) ∧ s'.length ≤ k + 1 ∧ (∀ j, j < k + 1 → (Z7 w t)[j]? = some kb → s' ≠ []))) := fun hp => by
     rw [V4 (by simp only [Q8, List.length_cons, List.length_nil]; omega)]
     refine .some ⟨fun y hy => ?_, by simp; omega, fun _ _ _ => by simp⟩
     rcases List.mem_append.1 hy with hy | hy
     ·exact i1 y hy
     ·simp at hy; subst hy; exact ⟨hxm, hp⟩
    have pass : (¬ (0 < Q51 w t x ∧ (Q51 w t x ≤ depth ∨ Q51 w t x = depP w t))) → Ret (some (Ctl.brk (ρ := Ctl (Q4 × Z1) (List Int)) s)) (CtlQ (fun _ => False) (fun s' => (∀ x ∈ s', x ∈ Z7 w t ∧ 0 < Q51 w t x ∧ (Q51 w t x ≤ depth ∨ Q51 w t x = depP w t)) ∧ s'.length ≤ k + 1 ∧ (∀ j, j < k + 1 → (Z7 w t)[j]? = some kb → s' ≠ []))) := fun hp => by
     refine .some ⟨i1, by omega, fun j hj hjk => ?_⟩
     by_cases hjk2 : j = k
     ·subst hjk2
      rw [hx] at hjk
      cases hjk
      exact absurd ⟨by omega, .inr hmb⟩ hp
     ·exact i3 j (by omega) hjk
    refine Ret.ctl (R := fun _ => False) (B := fun (s' : List Int) => (∀ x ∈ s', x ∈ Z7 w t ∧ 0 < Q51 w t x ∧ (Q51 w t x ≤ depth ∨ Q51 w t x = depP w t)) ∧ s'.length ≤ k + 1 ∧ (∀ j, j < k + 1 → (Z7 w t)[j]? = some kb → s' ≠ [])) ?_ (fun r hr => hr.elim) (fun s' hs' => ⟨_, rfl, hs'⟩)
    rw [hT.m1 x hxm]
    simp only [Option.bind_some]
    refine Ret.ite (fun c => ?_) (fun c => ?_)
    ·rw [W0] at c
     refine Ret.ite (fun c2 => ?_) (fun c2 => ?_)
     ·rw [Q14] at c2
      exact take ⟨c, .inl c2⟩
     ·rw [Q4j] at c2
      rw [hT.d1]
      simp only [Option.bind_some]
      refine Ret.ite (fun c3 => ?_) (fun c3 => ?_)
      ·rw [W5] at c3
       exact take ⟨c, .inr c3⟩
      ·rw [X8] at c3
       exact pass (by omega)
    ·rw [Q06] at c
     exact pass (by omega)
   ·obtain ⟨i1, i2, i3⟩ := hI
    obtain ⟨j, hj⟩ := List.mem_iff_getElem?.1 hkb
    have := hT.cl
    exact ⟨i1, i3 j ((List.getElem?_eq_some_iff.1 hj).1) hj, by omega⟩
   ·obtain ⟨i1, i2, i3⟩ := hs
    have hsl : 1 ≤ s.length := by cases s with
     | nil => exact absurd rfl i2
     | cons => simp
    refine Ret.bind (Q34 (hr.le hpos) (k := lenZ s.length) (by simp [lenZ]; omega) (by simp [lenZ]; omega)) (fun a ha => ?_)
    obtain ⟨x, hx, hxm⟩ := Q4k (xs := s) ha.1 (by simpa [lenZ] using ha.2.1)
    obtain ⟨hxc, hx0, hxd⟩ := i1 x hxm
    rw [hx]
    simp only [Option.bind_some]
    rw [hT.a1 x hxc]
    simp only [Option.bind_some]
    have hal := hT.al x hxc
    have hr1 : ROk a.2 (3 * Z3m m) := ROk.nx (c := 1) hr ha.2.2
    refine Ret.ctl (Z4 (Z5 w t x) (fun k s => Nx a.2 s.1 (k * Z3m m) ∧ s.2.length ≤ k) (fun _ => False) (fun s => Nx a.2 s.1 (3 * Z3m m)) ⟨by simpa using Nx.refl a.2, by simp⟩ (fun k y s hy hI => ?_) (fun s hI => ?_)) (fun r hr => hr.elim) (fun s hs => ?_)
    ·obtain ⟨j1, j2⟩ := hI
     have hym := List.mem_of_getElem? hy
     have hkl := (List.getElem?_eq_some_iff.1 hy).1
     obtain ⟨d1, d2⟩ := hT.ma x hxc (by omega) y hym
     have hws : wsub .i64 depth 1 = depth - 1 := Q4c (by omega) (by omega)
     rw [hws]
     have hr2 : ROk s.1 (Z3m m) := by
      have : k * Z3m m + Z3m m ≤ 3 * Z3m m := by
       rw [← Nat.succ_mul]
       exact Nat.mul_le_mul_right _ (by omega)
      exact ROk.nx (c := k * Z3m m) (hr1.le this) j1
     refine Ret.bind (ih n s.1 y (depth - 1) (hT.at_ x hxc y hym) (by omega) (by omega) (by omega) (by omega) (by omega) (by omega) hr2) (fun b hb => ?_)
     rw [V4 (by simp only [Q8, List.length_cons, List.length_nil]; omega)]
     refine .some ⟨?_, by simp; omega⟩
     have := j1.trans hb
     rw [← Nat.succ_mul] at this
     exact this
    ·obtain ⟨j1, j2⟩ := hI
     exact j1.le' (Nat.mul_le_mul_right _ hal)
    ·exact .some (ha.2.2.trans hs)
theorem W0c {r : Z1} (h : ROk r 1000) : Ret (Q53 NN r) (fun a => a.1 ∈ Q15 ∧ a.2.1 ∈ tys a.1 ∧ Nx r a.2.2.2 500) := by
 unfold Q53
 refine Ret.bind (W4d (h.le (by omega))) (fun a ha => ?_)
 obtain ⟨hw, hn1⟩ := ha
 have hW := ww hw
 rw [hW.tab]
 simp only [Option.bind_some]
 have hr1 : ROk a.2 999 := ROk.nx (c := 1) h hn1
 have hpos := hW.pos
 have hle := hW.le
 refine Ret.bind (Q34 (hr1.le (by omega)) (k := lenZ a.1.length) (by simp only [lenZ]; omega) (by simp only [lenZ]; omega)) (fun b hb => ?_)
 have hr2 : ROk b.2 998 := ROk.nx (c := 1) hr1 hb.2.2
 refine Ret.bind (Q9a (hr2.le (by omega)) [0, 0, 1, 2] (by simp) (by simp)) (fun c hc => ?_)
 have hr3 : ROk c.2 997 := ROk.nx (c := 1) hr2 hc.2
 have hty : (Q2.mk b.1 c.1) ∈ tys a.1 := by
  obtain ⟨i, hi⟩ := Int.eq_ofNat_of_zero_le hb.1
  have hil : i < a.1.length := by have := hb.2.1; simp only [lenZ] at this; omega
  have hci : ∃ j : Nat, j < 4 ∧ c.1 = (j : Int) := by
   have := hc.1
   simp at this
   rcases this with h | h | h
   ·exact ⟨0, by omega, h⟩
   ·exact ⟨1, by omega, h⟩
   ·exact ⟨2, by omega, h⟩
  obtain ⟨j, hj, hcj⟩ := hci
  unfold tys
  refine List.mem_cons_of_mem _ (List.mem_flatMap.2 ⟨i, List.mem_range.2 hil, List.mem_map.2 ⟨j, List.mem_range.2 hj, ?_⟩⟩)
  rw [hi, hcj]
  rfl
 have htI : tI ∈ tys a.1 := by unfold tys; exact List.mem_cons_self
 refine Ret.ctl (R := fun _ => False) (B := fun s => (Q2.mk s.1 s.2) ∈ tys a.1 ∧ depP a.1 (Q2.mk s.1 s.2) ≠ 0) ?_ (fun r hr => hr.elim) (fun s hs => ?_)
 ·rw [(hW.ty _ hty).d1]
  simp only [Option.bind_some]
  refine Ret.ite (fun h => ?_) (fun h => ?_)
  ·refine .some ⟨htI, ?_⟩
   have := (hW.ty tI htI).ti rfl
   show depP a.1 tI ≠ 0
   omega
  ·rw [X8] at h
   exact .some ⟨hty, h⟩
 ·refine Ret.bind (Q9a (hr3.le (by omega)) [3, 2, 4, 1] (by simp) (by simp)) (fun d hd => ?_)
  have hr4 : ROk d.2 996 := ROk.nx (c := 1) hr3 hd.2
  have hd4 : 1 ≤ d.1 ∧ d.1 ≤ 4 := by
   have := hd.1
   simp at this
   omega
  have hdep := (hW.ty _ hs.1).d4
  refine Ret.bind (W6z hW 4 NN d.2 _ d.1 hs.1 hs.2 (by omega) (by omega) (by omega) (by omega) (by decide) (hr4.le (by decide))) (fun e he => ?_)
  refine .some ⟨hw, hs.1, ?_⟩
  have := (((hn1.trans hb.2.2).trans hc.2).trans hd.2).trans he
  exact this.le' (by decide)
end Go.Proofs.YtnackipaoepmfaaGreat
namespace Go.Proofs.YtnackipaoepmfaaGreat
open Go Go.RowKit
def Z81 : Nat → Q0 → Prop
 | 0, _ => False
 | d + 1, p => p.kids.length ≤ 3 ∧ ∀ q ∈ p.kids, Z81 d q
theorem Z1w (d : Nat) : Z81 (d + 1) (Q0.mk 1 0 0 0 0 []) := ⟨by simp, by simp⟩
def cD3 : Nat → Nat
 | 0 => 0
 | m + 1 => 5 + 3 * cD3 m
def cN3 : Nat → Nat
 | 0 => 0
 | m + 1 => 2 + 3 * cN3 m
theorem W6x {w : List Q3} (hw : WW w) : ∀ (m n : Nat) (r : Z1) (t : Q2) (depth : Int), t ∈ tys w → depth ≤ m + 1 → -1000 + m ≤ depth → m ≤ 100 → m + 1 ≤ n → ROk r (cD3 m) →
  Ret (Q0g n r w t depth) (fun a => Z81 (m + 1) a.1 ∧ Nx r a.2 (cD3 m)) := by
 intro m
 induction m with
 | zero =>
  intro n r t depth ht h1 h2 h3 hn hr
  obtain ⟨n, rfl⟩ : ∃ k, n = k + 1 := ⟨n - 1, by omega⟩
  unfold Q0g
  rw [if_pos (by rw [W0]; omega)]
  exact .some ⟨Z1w 0, Nx.refl r⟩
 | succ m ih =>
  intro n r t depth ht h1 h2 h3 hn hr
  obtain ⟨n, rfl⟩ : ∃ k, n = k + 1 := ⟨n - 1, by omega⟩
  have hT := hw.ty t ht
  have ec : cD3 (m + 1) = 5 + 3 * cD3 m := rfl
  rw [ec] at hr ⊢
  have hws : wsub .i64 depth 1 = depth - 1 := Q4c (by omega) (by omega)
  unfold Q0g
  refine Ret.ite (fun h => .some ⟨Z1w _, (Nx.refl r).le' (by omega)⟩) (fun h => ?_)
  refine Ret.bind (Q34 (hr.le (by omega)) (by omega) (by omega)) (fun a ha => ?_)
  have hr1 : ROk a.2 (4 + 3 * cD3 m) := ROk.nx (c := 1) (hr.le (by omega)) ha.2.2
  refine Ret.ite (fun h => .some ⟨Z1w _, ha.2.2.le' (by omega)⟩) (fun h => ?_)
  refine Ret.bind (Q34 (hr1.le (by omega)) (by omega) (by omega)) (fun b hb => ?_)
  have hr2 : ROk b.2 (3 + 3 * cD3 m) := ROk.nx (c := 1) (hr1.le (by omega)) hb.2.2
  have hab := ha.2.2.trans hb.2.2
  rw [hws]
  refine Ret.ite (fun h => ?_) (fun h => ?_)
  ·refine Ret.bind (ih n b.2 t (depth - 1) ht (by omega) (by omega) (by omega) (by omega) (hr2.le (by omega))) (fun c hc => ?_)
   have hr3 : ROk c.2 (cD3 m) := ROk.nx (c := cD3 m) (hr2.le (by omega)) hc.2
   refine Ret.bind (ih n c.2 t (depth - 1) ht (by omega) (by omega) (by omega) (by omega) hr3) (fun d hd => ?_)
   refine .some ⟨⟨by simp, fun q hq => ?_⟩, ((hab.trans hc.2).trans hd.2).le' (by omega)⟩
   simp at hq
   rcases hq with rfl | rfl
   ·exact hc.1
   ·exact hd.1
  ·refine Ret.ite (fun h => ?_) (fun h => ?_)
   ·refine Ret.bind (Q34 (hr2.le (by omega)) (by omega) (by omega)) (fun c hc => ?_)
    have hr3 : ROk c.2 (2 + 3 * cD3 m) := ROk.nx (c := 1) (hr2.le (by omega)) hc.2.2
    have e10 : wsub .i64 10 c.1 = 10 - c.1 := Q4c (by omega) (by omega)
    rw [e10]
    refine Ret.bind (Q34 (hr3.le (by omega)) (by omega) (by omega)) (fun d hd => ?_)
    have hr4 : ROk d.2 (1 + 3 * cD3 m) := ROk.nx (c := 1) (hr3.le (by omega)) hd.2.2
    refine Ret.bind (Q34 (hr4.le (by omega)) (by omega) (by omega)) (fun e he => ?_)
    exact .some ⟨⟨by simp, by simp⟩, (((hab.trans hc.2.2).trans hd.2.2).trans he.2.2).le' (by omega)⟩
   ·rw [hT.c1]
    simp only [Option.bind_some]
    refine Ret.ite (fun h => .some ⟨Z1w _, hab.le' (by omega)⟩) (fun h => ?_)
    rw [X8] at h
    simp only [lenZ] at h
    have hcl := hT.cl
    refine Ret.bind (Q34 (hr2.le (by omega)) (k := lenZ (Z7 w t).length) (by simp only [lenZ]; omega) (by simp only [lenZ]; omega)) (fun c hc => ?_)
    have hr3 : ROk c.2 (3 * cD3 m) := ROk.nx (c := 1) (hr2.le (by omega)) hc.2.2
    obtain ⟨x, hx, hxm⟩ := Q4k (xs := Z7 w t) hc.1 (by simpa [lenZ] using hc.2.1)
    rw [hx]
    simp only [Option.bind_some]
    rw [hT.a1 x hxm]
    simp only [Option.bind_some]
    have hal := hT.al x hxm
    refine Ret.ctl (Z4 (Z5 w t x) (fun k s => Nx c.2 s.1 (k * cD3 m) ∧ s.2.length = k ∧ ∀ q ∈ s.2, Z81 (m + 1) q) (fun _ => False) (fun s => Nx c.2 s.1 (3 * cD3 m) ∧ s.2.length ≤ 3 ∧ ∀ q ∈ s.2, Z81 (m + 1) q) ⟨by simpa using Nx.refl c.2, by simp, by simp⟩ (fun k y s hy hI => ?_) (fun s hI => ?_)) (fun r hr => hr.elim) (fun s hs => ?_)
    ·obtain ⟨j1, j2, j3⟩ := hI
     have hym := List.mem_of_getElem? hy
     have hkl := (List.getElem?_eq_some_iff.1 hy).1
     have hr4 : ROk s.1 (cD3 m) := by
      have : k * cD3 m + cD3 m ≤ 3 * cD3 m := by
       rw [← Nat.succ_mul]
       exact Nat.mul_le_mul_right _ (by omega)
      exact ROk.nx (c := k * cD3 m) (hr3.le this) j1
     refine Ret.bind (ih n s.1 y (depth - 1) (hT.at_ x hxm y hym) (by omega) (by omega) (by omega) (by omega) hr4) (fun b hb => ?_)
     rw [V4 (by simp only [Q8, List.length_cons, List.length_nil]; omega)]
     refine .some ⟨?_, by simp; omega, fun q hq => ?_⟩
     ·have := j1.trans hb.2
      rw [← Nat.succ_mul] at this
      exact this
     ·rcases List.mem_append.1 hq with hq | hq
      ·exact j3 q hq
      ·simp at hq; subst hq; exact hb.1
    ·obtain ⟨j1, j2, j3⟩ := hI
     exact ⟨j1.le' (Nat.mul_le_mul_right _ hal), by omega, j3⟩
    ·exact .some ⟨⟨hs.2.1, hs.2.2⟩, ((hab.trans hc.2.2).trans hs.1).le' (by omega)⟩
theorem W55 : ∀ (m n : Nat) (r : Z1) (p : Q0) (v : Int), Z81 m p → m + 1 ≤ n → ROk r (cN3 m) → Ret (Q1z n r p v) (fun a => Nx r a.2.2 (cN3 m)) := by
 intro m
 induction m with
 | zero => intro n r p v h; exact h.elim
 | succ m ih =>
  intro n r p v hp hn hr
  obtain ⟨n, rfl⟩ : ∃ k, n = k + 1 := ⟨n - 1, by omega⟩
  obtain ⟨hk, hq⟩ := hp
  have ec : cN3 (m + 1) = 2 + 3 * cN3 m := rfl
  rw [ec] at hr ⊢
  unfold Q1z
  refine Ret.ite (fun h => .some ((Nx.refl r).le' (by omega))) (fun h => ?_)
  refine Ret.ite (fun h => .some ((Nx.refl r).le' (by omega))) (fun h => ?_)
  refine Ret.ite (fun h => .some ((Nx.refl r).le' (by omega))) (fun h => ?_)
  refine Ret.ctl (R := fun (a : Q0 × Int × Z1) => Nx r a.2.2 (2 + 3 * cN3 m)) (B := fun (s : Z1) => Nx r s 1) ?_ (fun a ha => .some ha) (fun s hs => ?_)
  ·refine Ret.ite (fun h => ?_) (fun h => .some ((Nx.refl r).le' (by omega)))
   refine Ret.bind (Q34 (hr.le (by omega)) (by omega) (by omega)) (fun a ha => ?_)
   exact Ret.ite (fun h => .some (ha.2.2.le' (by omega))) (fun h => .some ha.2.2)
  ·have hr1 : ROk s (1 + 3 * cN3 m) := ROk.nx (c := 1) (hr.le (by omega)) hs
   refine Ret.ctl (Z4 p.kids (fun k u => Nx s u.1 (k * cN3 m) ∧ u.2.1.length = k) (fun _ => False) (fun u => Nx s u.1 (3 * cN3 m) ∧ u.2.1.length ≤ 3) ⟨by simpa using Nx.refl s, by simp⟩ (fun k y u hy hI => ?_) (fun u hI => ?_)) (fun r hr => hr.elim) (fun u hu => ?_)
   ·obtain ⟨j1, j2⟩ := hI
    have hym := List.mem_of_getElem? hy
    have hkl := (List.getElem?_eq_some_iff.1 hy).1
    have hr4 : ROk u.1 (cN3 m) := by
     have : k * cN3 m + cN3 m ≤ 1 + 3 * cN3 m := by
      rw [← Nat.succ_mul]
      have := Nat.mul_le_mul_right (cN3 m) (show k.succ ≤ 3 by omega)
      omega
     exact ROk.nx (c := k * cN3 m) (hr1.le this) j1
    refine Ret.bind (ih n u.1 y _ (hq y hym) (by omega) hr4) (fun b hb => ?_)
    rw [V4 (by simp only [Q8, List.length_cons, List.length_nil]; omega)]
    refine .some ⟨?_, by simp; omega⟩
    have := j1.trans hb
    rw [← Nat.succ_mul] at this
    exact this
   ·obtain ⟨j1, j2⟩ := hI
    exact ⟨j1.le' (Nat.mul_le_mul_right _ hk), by omega⟩
   ·have hr2 : ROk u.1 1 := ROk.nx (c := 3 * cN3 m) (hr1.le (by omega)) hu.1
    have hsu := hs.trans hu.1
    refine Ret.ctl (R := fun (a : Q0 × Int × Z1) => Nx r a.2.2 (2 + 3 * cN3 m)) (B := fun (s : Z1) => Nx r s (2 + 3 * cN3 m)) ?_ (fun a ha => .some ha) (fun s hs => .some hs)
    refine Ret.ite (fun h => ?_) (fun h => .some (hsu.le' (by omega)))
    refine Ret.bind (Q34 hr2 (by omega) (by omega)) (fun a ha => ?_)
    have := (hsu.trans ha.2.2).le' (show 1 + 3 * cN3 m + 1 ≤ 2 + 3 * cN3 m by omega)
    exact Ret.ite (fun h => .some this) (fun h => .some this)
def anyP : Q0 := Q0.mk 1 0 0 0 0 []
theorem X2t (w : List Q3) (t : Q2) : Y9 w t anyP = true := by
 simp [Y9, anyP, Q13, Q6e, Q9b, Y5, linD, Q2n, ownV, Q1g, cntP, cntP.cntPs]
theorem W4r {w : List Q3} (hw : WW w) {r : Z1} {t : Q2} (ht : t ∈ tys w) (h : ROk r 200) : Ret (Q3n NN r w t) (fun a => Y9 w t a.1 = true ∧ Nx r a.2 200) := by
 unfold Q3n
 refine Ret.bind (Q9a (h.le (by omega)) [3, 2, 4, 1] (by simp) (by simp)) (fun a ha => ?_)
 have hr1 : ROk a.2 199 := ROk.nx (c := 1) h ha.2
 have hd4 : 1 ≤ a.1 ∧ a.1 ≤ 4 := by
  have := ha.1
  simp at this
  omega
 refine Ret.bind (W6x hw 3 NN a.2 t a.1 ht (by omega) (by omega) (by omega) (by decide) (hr1.le (by decide))) (fun b hb => ?_)
 have hr2 : ROk b.2 80 := ROk.nx (c := cD3 3) (hr1.le (by decide)) hb.2
 refine Ret.bind (W55 4 NN b.2 b.1 0 hb.1 (by decide) (hr2.le (by decide))) (fun c hc => ?_)
 rw [Z1v hw (by decide) t c.1 ht]
 simp only [Option.bind_some]
 have hnx := ((ha.2.trans hb.2).trans hc).le' (show 1 + cD3 3 + cN3 4 ≤ 200 by decide)
 cases hv : Y9 w t c.1 with
 | false => exact .some ⟨X2t w t, hnx⟩
 | true => exact .some ⟨hv, hnx⟩
theorem X9h {w : List Q3} (hw : WW w) {r : Z1} {t : Q2} (ht : t ∈ tys w) (h : ROk r 500) : Ret (Q2b NN r w t) (fun a => Y9 w t a.1.pat = true ∧ Nx r a.2 500) := by
 unfold Q2b
 refine Ret.bind (W4r hw ht (h.le (by omega))) (fun a ha => ?_)
 have hr1 : ROk a.2 300 := ROk.nx (c := 200) h ha.2
 obtain ⟨g1, g2, g3⟩ := J2 ha.1
 obtain ⟨v1, v2⟩ := Q64 hw 10 NN t a.1 [] ht g1 (by decide) (by simp; omega)
 rw [v1]
 simp only [Option.bind_some, List.nil_append]
 refine Ret.ctl (Z4 (Q2n w 10 t a.1) (fun k s => Nx a.2 s.1 (k * 3)) (fun _ => False) (fun s => Nx a.2 s.1 300) (by simpa using Nx.refl a.2) (fun k y s hy hI => ?_) (fun s hI => hI.le' (by omega))) (fun r hr => hr.elim) (fun s hs => .some ⟨ha.1, (ha.2.trans hs).le' (by omega)⟩)
 have hkl := (List.getElem?_eq_some_iff.1 hy).1
 have hr2 : ROk s.1 3 := ROk.nx (c := k * 3) (hr1.le (by omega)) hI
 refine Ret.ctl (R := fun _ => False) (B := fun (u : Z1 × Int × Int × Int) => Nx a.2 u.1 ((k + 1) * 3)) ?_ (fun r hr => hr.elim) (fun u hu => .some hu)
 refine Ret.ite (fun h => ?_) (fun h => .some (hI.le' (by omega)))
 refine Ret.bind (Q34 (hr2.le (by omega)) (by omega) (by omega)) (fun b hb => ?_)
 have hr3 : ROk b.2 2 := ROk.nx (c := 1) hr2 hb.2.2
 refine Ret.ite (fun h => ?_) (fun h => .some ((hI.trans hb.2.2).le' (by omega)))
 refine Ret.bind (Q34 (hr3.le (by omega)) (by omega) (by omega)) (fun c hc => ?_)
 have hr4 : ROk c.2 1 := ROk.nx (c := 1) hr3 hc.2.2
 refine Ret.bind (Q34 hr4 (by omega) (by omega)) (fun d hd => ?_)
 exact .some ((((hI.trans hb.2.2).trans hc.2.2).trans hd.2.2).le' (by omega))
theorem Z89 {r : Z1} (h : ROk r 2) (p : Q0) (hp : p.kids.length ≤ 1000) : Ret (Q1i r p) (fun a => a.1.kids.length ≤ p.kids.length + 1 ∧ Nx r a.2 2) := by
 unfold Q1i
 rw [V4 (by simp [Q8]; omega)]
 simp only [Option.bind_some, List.nil_append]
 refine Ret.ctl (R := fun _ => False) (B := fun (s : Z1 × Int × Int × Int × Int × (List Q0)) => Nx r s.1 2 ∧ s.2.2.2.2.2.length ≤ p.kids.length + 1) ?_ (fun r hr => hr.elim) (fun s hs => .some ⟨hs.2, hs.1⟩)
 refine Ret.bind (Q34 (h.le (by omega)) (by omega) (by omega)) (fun a ha => ?_)
 have hr1 : ROk a.2 1 := ROk.nx (c := 1) h ha.2.2
 refine Ret.ite (fun _ => Ret.bind (Q9a hr1 _ (by simp) (by simp)) (fun b hb => .some ⟨(ha.2.2.trans hb.2), by simp⟩)) (fun _ => ?_)
 refine Ret.ite (fun _ => Ret.bind (Q9a hr1 _ (by simp) (by simp)) (fun b hb => .some ⟨(ha.2.2.trans hb.2), by simp⟩)) (fun _ => ?_)
 refine Ret.ite (fun _ => Ret.bind (Q9a hr1 _ (by simp) (by simp)) (fun b hb => .some ⟨(ha.2.2.trans hb.2), by simp⟩)) (fun _ => ?_)
 refine Ret.ite (fun _ => ?_) (fun _ => ?_)
 ·rw [V4 (by simp [Q8]; omega)]
  exact .some ⟨ha.2.2.le' (by omega), by simp⟩
 refine Ret.ite (fun _ => ?_) (fun _ => ?_)
 ·refine Ret.ite (fun c => ?_) (fun _ => .some ⟨ha.2.2.le' (by omega), by simp⟩)
  rw [W0] at c
  simp only [lenZ] at c
  obtain ⟨x, hx, hm⟩ := Q4k (xs := p.kids) (i := 0) (by omega) (by omega)
  rw [hx]
  simp only [Option.bind_some]
  have : setI p.kids 0 (Q0.mk 2 0 0 0 0 []) = some (p.kids.set 0 (Q0.mk 2 0 0 0 0 [])) := by
   unfold setI
   rw [if_pos ⟨by omega, by show 0 < p.kids.length; omega⟩]
   rfl
  rw [this]
  exact .some ⟨ha.2.2.le' (by omega), by simp⟩
 refine Ret.ite (fun _ => Ret.bind (Q9a hr1 _ (by simp) (by simp)) (fun b hb => .some ⟨(ha.2.2.trans hb.2), by simp⟩)) (fun _ => ?_)
 exact .some ⟨ha.2.2.le' (by omega), by simp⟩
theorem X82 {r : Z1} (h : ROk r 10) (l : List Q5) (hl : l.length ≤ 8) (hk : ∀ c ∈ l, c.pat.kids.length ≤ 100) : Ret (Q2a NN r l) (fun a => a.1.length ≤ 9 ∧ Nx r a.2 10) := by
 unfold Q2a
 rw [V4 (by simp [Q8]; omega)]
 simp only [Option.bind_some, List.nil_append]
 refine Ret.ctl (R := fun _ => False) (B := fun (s : Z1 × (List Q5)) => Nx r s.1 10 ∧ s.2.length ≤ 9) ?_ (fun r hr => hr.elim) (fun s hs => .some ⟨hs.2, hs.1⟩)
 refine Ret.bind (Q34 (h.le (by omega)) (by omega) (by omega)) (fun a ha => ?_)
 have hr1 : ROk a.2 9 := ROk.nx (c := 1) h ha.2.2
 have hset : ∀ c : Q5, 0 < l.length → setI l 0 c = some (l.set 0 c) := fun c h0 => by
  unfold setI
  rw [if_pos ⟨by omega, by show 0 < l.length; omega⟩]
  rfl
 have pass : Ret (some (Ctl.brk (ρ := List Q5 × Z1) (a.2, l))) (CtlQ (fun _ => False) (fun (s : Z1 × (List Q5)) => Nx r s.1 10 ∧ s.2.length ≤ 9)) := .some ⟨ha.2.2.le' (by omega), by simp only; omega⟩
 refine Ret.ite (fun _ => ?_) (fun _ => ?_)
 ·refine Ret.ite (fun c => ?_) (fun _ => pass)
  rw [W0] at c
  simp only [lenZ] at c
  refine Ret.bind (Q9a (hr1.le (by omega)) _ (by simp) (by simp)) (fun b hb => ?_)
  have hr2 : ROk b.2 8 := ROk.nx (c := 1) hr1 hb.2
  refine Ret.bind (Q9a (hr2.le (by omega)) _ (by simp) (by simp)) (fun d hd => ?_)
  have hr3 : ROk d.2 7 := ROk.nx (c := 1) hr2 hd.2
  refine Ret.bind (Q9a (hr3.le (by omega)) _ (by simp) (by simp)) (fun e he => ?_)
  obtain ⟨x, hx, hm⟩ := Q4k (xs := l) (i := 0) (by omega) (by omega)
  rw [hx]
  simp only [Option.bind_some]
  rw [hset _ (by omega)]
  exact .some ⟨(((ha.2.2.trans hb.2).trans hd.2).trans he.2).le' (by omega), by simp; omega⟩
 refine Ret.ite (fun _ => ?_) (fun _ => ?_)
 ·refine Ret.ite (fun c => ?_) (fun _ => pass)
  rw [W0] at c
  simp only [lenZ] at c
  obtain ⟨x, hx, hm⟩ := Q4k (xs := l) (i := 0) (by omega) (by omega)
  have hxk := hk x hm
  rw [hx]
  simp only [Option.bind_some]
  refine Ret.bind (Z89 (hr1.le (by omega)) x.pat (by omega)) (fun b hb => ?_)
  have hr2 : ROk b.2 7 := ROk.nx (c := 2) hr1 hb.2
  refine Ret.bind (Z89 (hr2.le (by omega)) b.1 (by have := hb.1; omega)) (fun d hd => ?_)
  rw [hset _ (by omega)]
  exact .some ⟨((ha.2.2.trans hb.2).trans hd.2).le' (by omega), by simp; omega⟩
 refine Ret.ite (fun _ => ?_) (fun _ => pass)
 refine Ret.ctl (Q5b (fun (s : List Q5) => s.length ≤ 9) (fun s => 9 - s.length) (fun _ => False) (fun s => s.length ≤ 9) (by omega) (fun s hI => ?_) NN (by show 9 - l.length < 30000000; omega)) (fun r hr => hr.elim) (fun s hs => .some ⟨ha.2.2.le' (by omega), hs⟩)
 refine Ret.ite (fun c => ?_) (fun _ => .some hI)
 rw [Q14] at c
 simp only [lenZ] at c
 rw [V4 (by simp [Q8]; omega)]
 exact .some ⟨by simp; omega, by simp; omega⟩
theorem X7p {w : List Q3} (hw : WW w) {t : Q2} (ht : t ∈ tys w) {p : Q0} (h : Y9 w t p = true) : p.kids.length ≤ 3 := by
 obtain ⟨ho, hl⟩ := Q4p (Q3y (J2 h).1)
 rw [hl]
 exact W1r (hw.ty t ht) ho
end Go.Proofs.YtnackipaoepmfaaGreat
namespace Go.Proofs.YtnackipaoepmfaaGreat
open Go Go.RowKit
def Z4m : Nat → Q4 → Prop
 | 0, _ => False
 | d + 1, v => v.kids.length ≤ 3 ∧ ∀ x ∈ v.kids, Z4m d x
theorem Z37 {w : List Q3} (hw : WW w) : ∀ (d : Nat) (t : Q2) (v : Q4), t ∈ tys w → Q0y w d t v → Z4m d v := by
 intro d
 induction d with
 | zero => intro t v _ h; exact h
 | succ d ih =>
  intro t v ht h
  have hT := hw.ty t ht
  simp only [Q0y] at h
  split at h
  ·obtain ⟨_, _, _, h4⟩ := h
   exact ⟨by rw [h4]; simp, fun x hx => by rw [h4] at hx; cases hx⟩
  ·obtain ⟨_, h2, h3, h4⟩ := h
   have hal := hT.al _ h2
   refine ⟨by omega, fun x hx => ?_⟩
   obtain ⟨j, hj⟩ := List.mem_iff_getElem?.1 hx
   have hjl := (List.getElem?_eq_some_iff.1 hj).1
   have ha : (Z5 w t v.ctor)[j]? = some ((Z5 w t v.ctor)[j]'(by omega)) := by simp
   exact ih _ x (hT.at_ _ h2 _ (List.mem_of_getElem? ha)) (h4 j _ x ha hj)
theorem Q4.ext' {a b : Q4} (h1 : a.ctor = b.ctor) (h2 : a.n = b.n) (h3 : a.kids = b.kids) : a = b := by
 cases a; cases b; simp_all
theorem Z5j : ∀ (d n : Nat) (v : Q4), Z4m d v → d ≤ n → Q1l n v = some v := by
 intro d
 induction d with
 | zero => intro n v h; exact h.elim
 | succ d ih =>
  intro n v h hn
  obtain ⟨n, rfl⟩ : ∃ k, n = k + 1 := ⟨n - 1, by omega⟩
  obtain ⟨h1, h2⟩ := h
  have hr : Ret (Q1l (n + 1) v) (fun r => r = v) := by
   unfold Q1l
   refine Ret.ctl (Z4 v.kids (fun k s => s = v.kids.take k) (fun _ => False) (fun s => s = v.kids) (by simp) (fun k q s hq hI => ?_) (fun s hI => ?_)) (fun r hr => hr.elim) (fun s hs => .some (Q4.ext' rfl rfl hs))
   ·rw [ih n q (h2 q (List.mem_of_getElem? hq)) (by omega)]
    simp only [Option.bind_some]
    rw [V4 (by simp only [Q8, List.length_cons, List.length_nil]; rw [hI, List.length_take]; omega)]
    exact .some (by rw [hI, List.take_add_one, hq]; rfl)
   ·rw [hI, List.take_length]
  obtain ⟨r, e, rfl⟩ := hr
  exact e
theorem X53 (a : List Q4) (f : Q4 → Q4 → Option Bool) (hf : ∀ x ∈ a, f x x = some true) : Q05 a a f = some true := by
 have hr : Ret (Q05 a a f) (fun r => r = true) := by
  unfold Q05
  rw [if_neg (by simp [ieq])]
  refine Ret.ctl (Z4 a (fun _ _ => True) (fun _ => False) (fun _ => True) trivial (fun k x s hx _ => ?_) (fun _ _ => trivial)) (fun r hr => hr.elim) (fun s _ => .some rfl)
  rw [Q12 hx]
  simp only [Option.bind_some]
  rw [hf x (List.mem_of_getElem? hx)]
  exact .some trivial
 obtain ⟨_, e, rfl⟩ := hr
 exact e
theorem Z79 : ∀ (d n : Nat) (v : Q4), Z4m d v → d ≤ n → Q2m n v v = some true := by
 intro d
 induction d with
 | zero => intro n v h; exact h.elim
 | succ d ih =>
  intro n v h hn
  obtain ⟨n, rfl⟩ : ∃ k, n = k + 1 := ⟨n - 1, by omega⟩
  unfold Q2m
  rw [if_pos (by simp [ieq]), if_pos (by simp [ieq]), X53 _ _ fun x hx => ih n x (h.2 x hx) (by omega)]
  rfl
def DB (l : List W4) : Prop := ∀ b ∈ l, Z4m 10 b.value
theorem X1b {l : List W4} (h : DB l) : Q44 NN l l = some true := by
 have hr : Ret (Q44 NN l l) (fun r => r = true) := by
  unfold Q44
  rw [if_neg (by simp [ieq])]
  refine Ret.ctl (Z4 l (fun _ _ => True) (fun _ => False) (fun _ => True) trivial (fun k x s hx _ => ?_) (fun _ _ => trivial)) (fun r hr => hr.elim) (fun s _ => .some rfl)
  rw [Q12 hx]
  simp only [Option.bind_some]
  rw [if_neg (by simp [ieq]), Z79 10 NN x.value (h x (List.mem_of_getElem? hx)) (by decide)]
  exact .some trivial
 obtain ⟨_, e, rfl⟩ := hr
 exact e
theorem X3j {α : Type} {xs : List α} {i : Int} {x : α} (h0 : 0 ≤ i) (h : i < xs.length) : setI xs i x = some (xs.set i.toNat x) := by
 unfold setI
 rw [if_pos ⟨h0, by omega⟩]
theorem V4z : (List.range 13).all (fun k => (Q5x (wcv .u64 (lenZ k))).isSome) = true := by kernel_rfl
theorem Z8e : ∀ (d : Nat) (p : Q0) (e : Nat) (v : Q4) (l : List W4), Z4m e v → W6 d p v = some l → ∀ b ∈ l, ∃ e', e' ≤ e ∧ Z4m e' b.value := by
 intro d
 induction d with
 | zero => intro p e v l _ h; cases h
 | succ d ih =>
  intro p e v l hv hm b hb
  rw [W6] at hm
  split at hm
  ·cases hm; cases hb
  split at hm
  ·cases hm
   simp only [List.mem_cons, List.not_mem_nil, or_false] at hb
   subst hb
   exact ⟨e, Nat.le_refl _, hv⟩
  split at hm
  ·split at hm
   ·cases hm; cases hb
   ·cases hm
  split at hm
  ·split at hm
   ·split at hm
    ·rename_i l' hl'
     cases hm
     exact ih _ e v _ hv hl' b hb
    ·exact ih _ e v _ hv hm b hb
   ·cases hm
  split at hm
  ·split at hm
   ·rename_i a _
    cases ha : W6 d a v with
    | none => rw [ha] at hm; cases hm
    | some l' =>
     rw [ha] at hm
     cases hm
     rcases List.mem_cons.1 hb with h | h
     ·subst h
      exact ⟨e, Nat.le_refl _, hv⟩
     ·exact ih _ e v _ hv ha b h
   ·cases hm
  split at hm
  ·cases e with
   | zero => exact hv.elim
   | succ e =>
    have hk := hv.2
    have gen : ∀ (ps : List Q0) (vs : List Q4) (l : List W4), (∀ x ∈ vs, Z4m e x) → Q4a (W6 d) ps vs = some l → ∀ b ∈ l, ∃ e', e' ≤ e ∧ Z4m e' b.value := by
     intro ps
     induction ps with
     | nil => intro vs l _ h b hb; simp only [Q4a] at h; cases h; cases hb
     | cons q ps ihp =>
      intro vs l hvs h b hb
      cases vs with
      | nil => cases h
      | cons u vs =>
       simp only [Q4a] at h
       cases hq : W6 d q u with
       | none => rw [hq] at h; cases h
       | some l1 =>
        rw [hq] at h
        simp only at h
        cases hps : Q4a (W6 d) ps vs with
        | none => rw [hps] at h; cases h
        | some l2 =>
         rw [hps] at h
         cases h
         rcases List.mem_append.1 hb with hb | hb
         ·exact ih q e u l1 (hvs u (by simp)) hq b hb
         ·exact ihp vs l2 (fun x hx => hvs x (by simp [hx])) hps b hb
    obtain ⟨e', h1, h2⟩ := gen _ _ _ hk hm b hb
    exact ⟨e', by omega, h2⟩
  ·cases hm
theorem Z9r : ∀ (d e : Nat) (v : Q4), d ≤ e → Z4m d v → Z4m e v := by
 intro d
 induction d with
 | zero => intro e v _ h; exact h.elim
 | succ d ih =>
  intro e v he h
  obtain ⟨e, rfl⟩ : ∃ k, e = k + 1 := ⟨e - 1, by omega⟩
  exact ⟨h.1, fun x hx => ih e x (by omega) (h.2 x hx)⟩
theorem Z5m : ∀ (m : Nat) (l : List Int), l.Nodup → (∀ x ∈ l, 0 ≤ x ∧ x < m) → l.length ≤ m := by
 intro m
 induction m with
 | zero =>
  intro l _ h
  cases l with
  | nil => simp
  | cons x l => have := h x (by simp); omega
 | succ m ih =>
  intro l hn h
  have h1 := ih (l.erase (m : Int)) (hn.erase _) (fun x hx => by
   have hx2 := (hn.mem_erase_iff).1 hx
   have := h x hx2.2
   have := hx2.1
   omega)
  have h2 := List.length_erase (a := (m : Int)) (l := l)
  split at h2 <;> omega
theorem W4g {w : List Q3} {t : Q2} {p : Q0} {d : Nat} (g : Q13 w d t p = true) (l : linD w d t p = true) : (Q2n w d t p).length ≤ 6 := by
 have h1 := Q5n d t p g l
 simp only [Q1g, decide_eq_true_eq] at h1
 have := Z5m 6 _ h1 (fun x hx => by
  obtain ⟨y, hy, rfl⟩ := List.mem_map.1 hx
  have := Z2z d t p g y hy
  omega)
 simpa using this
end Go.Proofs.YtnackipaoepmfaaGreat
namespace Go.Proofs.YtnackipaoepmfaaGreat
open Go Go.RowKit
def Q9j (l : List W4) : List W4 := (List.range 6).flatMap fun (v : Nat) => l.filter fun b => decide (b.var = (v : Int))
theorem X3i : ∀ (a b : List W4), a.Pairwise (fun x y => x.var < y.var) → b.Pairwise (fun x y => x.var < y.var) → a.Perm b → a = b := by
 intro a
 induction a with
 | nil => intro b _ _ h; exact h.nil_eq
 | cons x a ih =>
  intro b ha hb h
  cases b with
  | nil => exact absurd h.symm.nil_eq (by simp)
  | cons y b =>
   rw [List.pairwise_cons] at ha hb
   have hx : x ∈ y :: b := h.mem_iff.1 (by simp)
   have hy : y ∈ x :: a := h.mem_iff.2 (by simp)
   have hxy : x = y := by
    rcases List.mem_cons.1 hx with rfl | hx
    ·rfl
    ·rcases List.mem_cons.1 hy with h1 | hy
     ·exact h1.symm
     ·have h1 := hb.1 x hx
      have h2 := ha.1 y hy
      omega
   subst hxy
   rw [ih b ha.2 hb.2 ((List.perm_cons x).1 h)]
theorem Z80 {l : List W4} (h : l.Pairwise (fun x y => x.var ≤ y.var)) (hn : (l.map (·.var)).Nodup) : l.Pairwise (fun x y => x.var < y.var) := by
 rw [List.Nodup, List.pairwise_map] at hn
 refine (h.and hn).imp fun ⟨h1, h2⟩ => ?_
 omega
theorem X0x {l : List W4} (hn : (l.map (·.var)).Nodup) : (Q9j l).Pairwise (fun x y => x.var < y.var) := by
 unfold Q9j
 rw [List.pairwise_flatMap]
 refine ⟨fun v _ => ?_, ?_⟩
 ·have h1 : (l.filter fun b => decide (b.var = (v : Int))).Pairwise (fun x y => x.var ≤ y.var) := by
   rw [List.pairwise_filter]
   refine List.pairwise_of_forall fun x y hx hy => ?_
   simp only [decide_eq_true_eq] at hx hy
   omega
  exact Z80 h1 ((List.filter_sublist.map _).nodup hn)
 ·refine List.Pairwise.imp ?_ (List.pairwise_lt_range (n := 6))
  intro a b hab x hx y hy
  have h1 := (List.mem_filter.1 hx).2
  have h2 := (List.mem_filter.1 hy).2
  simp only [decide_eq_true_eq] at h1 h2
  omega
theorem Z43 {α β : Type} (f g h : α → List β) (e : ∀ v, f v = g v ++ h v) : ∀ L : List α, (L.flatMap f).Perm (L.flatMap g ++ L.flatMap h)
 | [] => by simp
 | v :: L => by
  rw [List.flatMap_cons, List.flatMap_cons, List.flatMap_cons, e v, List.append_assoc, List.append_assoc]
  refine List.Perm.append_left _ ?_
  refine ((Z43 f g h e L).append_left (h v)).trans ?_
  rw [← List.append_assoc, ← List.append_assoc]
  exact List.Perm.append_right _ List.perm_append_comm
theorem Q84 {l : List W4} (hv : ∀ b ∈ l, 0 ≤ b.var ∧ b.var ≤ 5) : (Q9j l).Perm l := by
 induction l with
 | nil => simp [Q9j]
 | cons x l ih =>
  have h1 := ih fun b hb => hv b (by simp [hb])
  obtain ⟨x0, x5⟩ := hv x (by simp)
  have h2 := Z43 (fun (v : Nat) => (x :: l).filter fun b => decide (b.var = (v : Int))) (fun (v : Nat) => if x.var = (v : Int) then [x] else []) (fun (v : Nat) => l.filter fun b => decide (b.var = (v : Int))) (fun v => by
   by_cases hc : x.var = (v : Int)
   ·rw [List.filter_cons, if_pos (by simp [hc]), if_pos hc]; rfl
   ·rw [List.filter_cons, if_neg (by simp [hc]), if_neg hc]; rfl) (List.range 6)
  have hx : ((List.range 6).flatMap fun (v : Nat) => if x.var = (v : Int) then [x] else []) = [x] := by
   have h6 : x.var = 0 ∨ x.var = 1 ∨ x.var = 2 ∨ x.var = 3 ∨ x.var = 4 ∨ x.var = 5 := by omega
   rcases h6 with h | h | h | h | h | h <;> simp [h, List.range, List.range.loop]
  rw [hx] at h2
  exact h2.trans (List.Perm.cons _ h1)
theorem X58 (a b : Int) : Q3i a b = some (if a < b then -1 else if b < a then 1 else 0) := by
 unfold Q3i Q4i
 have e1 : (!ieq a a) = false := by simp [ieq]
 have e2 : (!ieq b b) = false := by simp [ieq]
 simp only [Option.bind_some, e1, e2, Bool.false_eq_true, if_false]
 by_cases h : a < b
 ·have e : ilt a b = true := by rw [W0]; exact h
  simp only [e, if_true, if_pos h]
 ·have e : ilt a b = false := by rw [Q06]; omega
  simp only [e, Bool.false_eq_true, if_false, if_neg h]
  by_cases h2 : b < a
  ·have e : ilt b a = true := by rw [W0]; exact h2
   simp only [e, if_true, if_pos h2]
  ·have e : ilt b a = false := by rw [Q06]; omega
   simp only [e, Bool.false_eq_true, if_false, if_neg h2]
theorem X3w (a b : W4) : Q0z a b = some (if a.var < b.var then -1 else if b.var < a.var then 1 else 0) := by
 unfold Q0z
 rw [X58]
 rfl
def OrdV (l : List W4) (i j : Nat) : Prop := ∀ a b x y, a < b → b ≤ i → b ≠ j → l[a]? = some x → l[b]? = some y → x.var ≤ y.var
theorem X8a {n : Nat} (hn : 30 ≤ n) (l : List W4) (hl : l.length ≤ 12) :
  Ret (Y1 n l 0 (lenZ l.length) (fun a b => Q0z a b)) (fun r => r.Perm l ∧ r.Pairwise (fun x y => x.var ≤ y.var)) := by
 unfold Y1
 have z1 : wadd .i64 0 1 = 1 := rfl
 rw [z1]
 refine Ret.ctl (Q5b (fun s : List W4 × Int => s.1.Perm l ∧ 1 ≤ s.2 ∧ s.2 ≤ 13 ∧ ∀ a b x y, a < b → b < s.2.toNat → s.1[a]? = some x → s.1[b]? = some y → x.var ≤ y.var) (fun s => (14 - s.2).toNat) (fun _ => False) (fun s => s.1.Perm l ∧ s.1.Pairwise (fun x y => x.var ≤ y.var)) ⟨.rfl, by simp, by simp, fun a b x y h1 h2 => by simp at h2; omega⟩ (fun s hI => ?_) n (by simp; omega)) (fun r hr => hr.elim) (fun s hs => .some hs)
 obtain ⟨i1, i3, i4, i5⟩ := hI
 refine Ret.ite (fun hlt => ?_) (fun hge => ?_)
 ·rw [W0] at hlt
  simp only [lenZ] at hlt
  refine Ret.ctl (Q5b (fun u : List W4 × Int => u.1.Perm l ∧ 0 ≤ u.2 ∧ u.2 ≤ s.2 ∧ OrdV u.1 s.2.toNat u.2.toNat) (fun u => u.2.toNat) (fun _ => False) (fun u => u.1.Perm l ∧ ∀ a b x y, a < b → b ≤ s.2.toNat → u.1[a]? = some x → u.1[b]? = some y → x.var ≤ y.var) ⟨i1, by omega, Int.le_refl _, fun a b x y h1 h2 h3 => i5 a b x y h1 (by omega)⟩ (fun u hJ => ?_) n (by omega)) (fun r hr => hr.elim) (fun u hu => ?_)
  ·obtain ⟨j1, j3, j4, j5⟩ := hJ
   have hlen := j1.length_eq
   refine Ret.ite (fun hp => ?_) (fun hp => ?_)
   ·rw [W0] at hp
    have hs : wsub .i64 u.2 1 = u.2 - 1 := Q4c (by omega) (by omega)
    rw [hs]
    have ex : idx u.1 u.2 = some (u.1[u.2.toNat]'(by omega)) := W1z j3 (List.getElem?_eq_getElem (by omega))
    have ey : idx u.1 (u.2 - 1) = some (u.1[(u.2 - 1).toNat]'(by omega)) := W1z (by omega) (List.getElem?_eq_getElem (by omega))
    have gx : u.1[u.2.toNat]? = some (u.1[u.2.toNat]'(by omega)) := List.getElem?_eq_getElem (by omega)
    have gy : u.1[u.2.toNat - 1]? = some (u.1[(u.2 - 1).toNat]'(by omega)) := by
     rw [show u.2.toNat - 1 = (u.2 - 1).toNat by omega]
     exact List.getElem?_eq_getElem (by omega)
    have hperm := (List.set_set_perm (as := u.1) (i := u.2.toNat) (j := (u.2 - 1).toNat) (by omega) (by omega)).trans j1
    generalize u.1[u.2.toNat]'(by omega) = x at *
    generalize u.1[(u.2 - 1).toNat]'(by omega) = y at *
    rw [ex, ey]
    simp only [Option.bind_some]
    rw [X3w]
    simp only [Option.bind_some]
    by_cases hxy : x.var < y.var
    ·rw [if_pos hxy]
     have e : ilt (-1) 0 = true := rfl
     simp only [e, if_true]
     rw [X3j j3 (by omega)]
     simp only [Option.bind_some]
     obtain ⟨z, ez, _⟩ := Q4k (xs := u.1.set u.2.toNat y) (i := u.2 - 1) (by omega) (by simp; omega)
     rw [ez]
     simp only [Option.bind_some]
     rw [X3j (by omega) (by simp; omega)]
     refine .some ⟨⟨hperm, by simp; omega, by simp; omega, ?_⟩, by simp; omega⟩
     simp only
     have hget : ∀ (m : Nat) (v : W4), ((u.1.set u.2.toNat y).set (u.2 - 1).toNat x)[m]? = some v → (m = u.2.toNat - 1 ∧ v = x) ∨ (m = u.2.toNat ∧ v = y) ∨ (m ≠ u.2.toNat - 1 ∧ m ≠ u.2.toNat ∧ u.1[m]? = some v) := fun m v hv => by
      rw [List.getElem?_set] at hv
      split at hv
      ·split at hv
       ·cases hv; exact .inl ⟨by omega, rfl⟩
       ·cases hv
      ·rw [List.getElem?_set] at hv
       split at hv
       ·split at hv
        ·cases hv; exact .inr (.inl ⟨by omega, rfl⟩)
        ·cases hv
       ·exact .inr (.inr ⟨by omega, by omega, hv⟩)
     intro a b p q hab hbi hbj hp' hq'
     rcases hget a p hp' with ⟨ha, rfl⟩ | ⟨ha, rfl⟩ | ⟨ha, ha', hpa⟩
     ·rcases hget b q hq' with ⟨hb, rfl⟩ | ⟨hb, rfl⟩ | ⟨hb, hb', hqb⟩
      ·omega
      ·omega
      ·exact j5 u.2.toNat b _ _ (by omega) hbi hb' gx hqb
     ·rcases hget b q hq' with ⟨hb, rfl⟩ | ⟨hb, rfl⟩ | ⟨hb, hb', hqb⟩
      ·omega
      ·omega
      ·exact j5 (u.2.toNat - 1) b _ _ (by omega) hbi hb' gy hqb
     ·rcases hget b q hq' with ⟨hb, rfl⟩ | ⟨hb, rfl⟩ | ⟨hb, hb', hqb⟩
      ·exact absurd hb (by omega)
      ·exact j5 a (u.2.toNat - 1) _ _ (by omega) (by omega) (by omega) hpa gy
      ·exact j5 a b _ _ hab hbi hb' hpa hqb
    ·rw [if_neg hxy]
     have e : ilt (if y.var < x.var then 1 else 0) 0 = false := by split <;> rfl
     simp only [e, Bool.false_eq_true, if_false]
     refine .some ⟨j1, fun a b p q hab hbi hp' hq' => ?_⟩
     by_cases hbj : b = u.2.toNat
     ·subst hbj
      rw [gx] at hq'
      cases hq'
      by_cases haj : a = u.2.toNat - 1
      ·subst haj
       rw [gy] at hp'
       cases hp'
       omega
      ·have := j5 a (u.2.toNat - 1) p y (by omega) (by omega) (by omega) hp' gy
       omega
     ·exact j5 a b p q hab hbi hbj hp' hq'
   ·rw [Q06] at hp
    refine .some ⟨j1, fun a b p q hab hbi hp' hq' => j5 a b p q hab hbi (by omega) hp' hq'⟩
  ·obtain ⟨u1, u2⟩ := hu
   have hw : wadd .i64 s.2 1 = s.2 + 1 := Q0p (by omega) (by omega)
   refine .some ⟨⟨u1, by simp only [hw]; omega, by simp only [hw]; omega, fun a b x y h1 h2 => u2 a b x y h1 (by simp only [hw] at h2; omega)⟩, by simp only [hw]; omega⟩
 ·rw [Q06] at hge
  simp only [lenZ] at hge
  refine .some ⟨i1, ?_⟩
  rw [List.pairwise_iff_getElem]
  intro a b ha hb hab
  have hlen := i1.length_eq
  have hb' : b < s.1.length := hb
  exact i5 a b _ _ hab (by omega) (List.getElem?_eq_getElem ha) (List.getElem?_eq_getElem hb)
theorem W4q {n : Nat} (hn : 40 ≤ n) {l : List W4} (hl : l.length ≤ 12) (hd : (l.map (·.var)).Nodup) (hv : ∀ b ∈ l, 0 ≤ b.var ∧ b.var ≤ 5) :
  Q0b n l (fun a b => Q0z a b) = some (Q9j l) := by
 suffices hs : Ret (Q0b n l (fun a b => Q0z a b)) (fun r => r = Q9j l) by
  obtain ⟨a, e, rfl⟩ := hs
  exact e
 unfold Q0b
 obtain ⟨b, hb⟩ := Option.isSome_iff_exists.1 (List.all_eq_true.1 V4z l.length (List.mem_range.2 (by omega)))
 rw [hb]
 simp only [Option.bind_some]
 have fin : ∀ r : List W4, r.Perm l → r.Pairwise (fun x y => x.var ≤ y.var) → r = Q9j l := fun r h1 h2 =>
  X3i r (Q9j l) (Z80 h2 ((h1.map _).nodup_iff.2 hd)) (X0x hd) (h1.trans (Q84 hv).symm)
 obtain ⟨n, rfl⟩ : ∃ k, n = k + 1 := ⟨n - 1, by omega⟩
 refine Ret.bind (P := fun r => r.Perm l ∧ r.Pairwise (fun x y => x.var ≤ y.var)) ?_ (fun r hr => ?_)
 ·unfold Q0n
  refine Ret.ctl (Q5b (fun _ => True) (fun _ => 0) (fun r : List W4 => r.Perm l ∧ r.Pairwise (fun x y => x.var ≤ y.var)) (fun _ => False) trivial (fun s _ => ?_) n (by omega)) (fun r hr => .some hr) (fun s hs => hs.elim)
  have h0 : wsub .i64 (lenZ l.length) 0 = lenZ l.length := by rw [Q4c] <;> simp only [lenZ] <;> omega
  rw [if_pos (by rw [Q14, h0]; simp only [lenZ]; omega)]
  refine Ret.bind (X8a (by omega) l hl) (fun r hr => ?_)
  rw [X2m (by simp [hr.1.length_eq])]
  exact .some hr
 ·rw [X2m (by simp [hr.1.length_eq])]
  exact .some (fin r hr.1 hr.2)
theorem X5v : ∀ {a b : List Int}, a.Nodup → (∀ x ∈ a, x ∈ b) → a.length = b.length → a.Perm b
 | [], b, _, _, h => by have : b = [] := List.eq_nil_of_length_eq_zero (by simpa using h.symm); rw [this]
 | x :: a, b, hn, hs, h => by
  have hx := hs x (by simp)
  have hn' := List.nodup_cons.1 hn
  have hl := List.length_erase_of_mem hx
  refine (List.Perm.cons x (X5v hn'.2 (fun y hy => ?_) (by simp at h; omega))).trans (List.perm_cons_erase hx).symm
  have hne : y ≠ x := fun e => hn'.1 (e ▸ hy)
  exact (List.mem_erase_of_ne hne).2 (hs y (by simp [hy]))
theorem X3t {a b : List Q7} (ha : Q1g a = true) (h : Q8b a b = true) : (a.map (·.var)).Perm (b.map (·.var)) := by
 simp only [Q8b, Bool.and_eq_true, decide_eq_true_eq, List.all_eq_true] at h
 have hn : (a.map (·.var)).Nodup := by simpa [Q1g] using ha
 refine X5v hn (fun x hx => ?_) (by simp [h.1])
 obtain ⟨v, hv, rfl⟩ := List.mem_map.1 hx
 exact List.mem_map.2 ⟨v, h.2 v hv, rfl⟩
theorem X88 {w : List Q3} : ∀ (d : Nat) (t : Q2) (p : Q0), Q13 w d t p = true → linD w d t p = true → ∀ v l, W6 d p v = some l → (l.map (·.var)).Perm ((Q2n w d t p).map (·.var)) := by
 intro d
 induction d with
 | zero => intro t p h; cases h
 | succ d ih =>
  intro t p hg hlin v l hm
  obtain ⟨ho, hl⟩ := Q4p (Q3y hg)
  simp only [linD, Bool.and_eq_true, List.all_eq_true] at hlin
  rw [Q2n]
  rw [W6] at hm
  have hnil : p.op ≠ 4 → p.op ≠ 5 → p.op ≠ 6 → Y5 w t p = [] := fun h4 h5 h6 => by simp [Y5, h4, h5, h6]
  by_cases h1 : p.op = 1
  ·rw [if_pos h1] at hm; cases hm
   simp [ownV, h1, hnil]
  rw [if_neg h1] at hm
  by_cases h2 : p.op = 2
  ·rw [if_pos h2] at hm; cases hm
   simp [ownV, h2, hnil]
  rw [if_neg h2] at hm
  by_cases h3 : p.op = 3
  ·rw [if_pos h3] at hm
   split at hm
   ·cases hm
    simp [ownV, h3, hnil]
   ·cases hm
  rw [if_neg h3] at hm
  by_cases h5 : p.op = 5
  ·rw [if_pos h5] at hm
   obtain ⟨a, b, hkids, hkt⟩ := kid0 h5 hl
   have ga := Q31 hg (k := 0) (by rw [hkt]; rfl) (by rw [hkids]; rfl)
   have gb := Q31 hg (k := 1) (by rw [hkt]; rfl) (by rw [hkids]; rfl)
   have g0 := hlin.1 (t, a) (by rw [hkids, hkt]; simp)
   have g1 := hlin.1 (t, b) (by rw [hkids, hkt]; simp)
   have hal := hlin.2
   rw [if_pos h5] at hal
   have k0 : kv w d t p 0 = Q2n w d t a := by simp [kv, hkids, hkt]
   have k1 : kv w d t p 1 = Q2n w d t b := by simp [kv, hkids, hkt]
   rw [k0, k1] at hal
   have hv : ownV t p = [] := by simp [ownV, h5]
   rw [hv, hkids, hkt, if_pos h5]
   simp only [List.zip_cons_cons, List.zip_nil_right, List.take_succ_cons, List.take_zero, List.flatMap_cons, List.flatMap_nil, List.append_nil, List.nil_append]
   rw [hkids] at hm
   simp only at hm
   split at hm
   ·rename_i l' hl'
    cases hm
    exact ih t a ga g0 v _ hl'
   ·exact (ih t b gb g1 v _ hm).trans (X3t (Q5n d t a ga g0) hal).symm
  rw [if_neg h5] at hm
  rw [if_neg h5, List.take_of_length_le (by rw [List.length_zip]; omega)]
  by_cases h6 : p.op = 6
  ·rw [if_pos h6] at hm
   obtain ⟨a, hkids, hk2⟩ := W1s h6 hl
   have ga := Q31 hg (k := 0) (by rw [hk2]; rfl) (by rw [hkids]; rfl)
   have g0 := hlin.1 (t, a) (by rw [hkids, hk2]; simp)
   rw [hkids] at hm
   simp only at hm
   cases ha : W6 d a v with
   | none => rw [ha] at hm; cases hm
   | some l' =>
    rw [ha] at hm
    cases hm
    have := ih t a ga g0 v l' ha
    rw [hkids, hk2]
    simpa [ownV, h6] using this
  rw [if_neg h6] at hm
  have hv : ownV t p = [] := by simp [ownV, h2, h6]
  rw [hv, List.nil_append]
  split at hm
  ·have gen : ∀ (ts : List Q2) (ps : List Q0) (vs : List Q4) (l : List W4), ts.length = ps.length → (∀ x ∈ ts.zip ps, ∀ v l, W6 d x.2 v = some l → (l.map (·.var)).Perm ((Q2n w d x.1 x.2).map (·.var))) → Q4a (W6 d) ps vs = some l → (l.map (·.var)).Perm (((ts.zip ps).flatMap fun x => Q2n w d x.1 x.2).map (·.var)) := by
    intro ts ps
    induction ps generalizing ts with
    | nil => intro vs l _ _ h; simp only [Q4a] at h; cases h; simp
    | cons q ps ihp =>
     intro vs l hl hx h
     cases ts with
     | nil => simp at hl
     | cons a ts =>
      cases vs with
      | nil => cases h
      | cons u vs =>
       simp only [Q4a] at h
       cases hq : W6 d q u with
       | none => rw [hq] at h; cases h
       | some l1 =>
        rw [hq] at h
        simp only at h
        cases hps : Q4a (W6 d) ps vs with
        | none => rw [hps] at h; cases h
        | some l2 =>
         rw [hps] at h
         cases h
         have e1 := hx (a, q) (by simp) u l1 hq
         have e2 := ihp ts vs l2 (by simpa using hl) (fun x hxx => hx x (by simp [hxx])) hps
         simp only [List.zip_cons_cons, List.flatMap_cons, List.map_append]
         exact e1.append e2
   refine gen _ _ _ _ hl.symm (fun x hx v l h => ?_) hm
   obtain ⟨j, hj⟩ := List.mem_iff_getElem?.1 hx
   obtain ⟨e1, e2⟩ := List.getElem?_zip_eq_some.1 hj
   exact ih _ _ (Q31 hg e1 e2) (hlin.1 x hx) v l h
  ·cases hm
structure W3g (l : List W4) : Prop where
 nd : (l.map (·.var)).Nodup
 rg : ∀ b ∈ l, 0 ≤ b.var ∧ b.var ≤ 5
 ln : l.length ≤ 6
theorem Z1d {w : List Q3} {d : Nat} {t : Q2} {p : Q0} (g : Q13 w d t p = true) (l : linD w d t p = true) {v : Q4} {r : List W4} (h : W6 d p v = some r) : W3g r := by
 have hp := X88 d t p g l v r h
 have hd := Q5n d t p g l
 simp only [Q1g, decide_eq_true_eq] at hd
 refine ⟨hp.nodup_iff.2 hd, fun b hb => ?_, ?_⟩
 ·obtain ⟨y, hy, e⟩ := List.mem_map.1 (hp.mem_iff.1 (List.mem_map_of_mem hb))
  have := Z2z d t p g y hy
  omega
 ·have h1 := hp.length_eq
  have h2 := W4g g l
  simp only [List.length_map] at h1
  omega
def Q6g (g : Q3j) (l : List W4) : Bool := decide (g.op = 0) || match l.find? fun b => decide (b.var = g.var) with
 | none => false
 | some b => decide (b.value.ctor = -1) && ((decide (g.op = 1) && decide (b.value.n < g.n)) || (decide (g.op = 2) && decide (b.value.n = g.n)))
theorem W2n {a b : List W4} (hn : (a.map (·.var)).Nodup) (h : a.Perm b) (v : Int) : a.find? (fun x => decide (x.var = v)) = b.find? (fun x => decide (x.var = v)) := by
 induction h with
 | nil => rfl
 | cons x h ih =>
  rw [List.find?_cons, List.find?_cons]
  split
  ·rfl
  ·exact ih (List.nodup_cons.1 (by simpa using hn)).2
 | swap x y l =>
  simp only [List.map_cons, List.nodup_cons, List.mem_cons, not_or] at hn
  simp only [List.find?_cons]
  by_cases h1 : x.var = v
  ·have h2 : ¬ y.var = v := fun e => hn.1.1 (by omega)
   simp [h1, h2]
  ·simp [h1]
 | trans h1 h2 ih1 ih2 => rw [ih1 hn, ih2 ((h1.map _).nodup_iff.1 hn)]
theorem X4f {a b : List W4} (hn : (a.map (·.var)).Nodup) (h : a.Perm b) (g : Q3j) : Q6g g a = Q6g g b := by
 unfold Q6g
 rw [W2n hn h]
theorem X4e {l : List W4} (h : W3g l) (g : Q3j) : Q6g g (Q9j l) = Q6g g l := (X4f h.nd (Q84 h.rg).symm g).symm
def runD (v : Q4) : Nat → List Q5 → Option (Nat × List W4)
 | _, [] => none
 | k, c :: cs => match W6 10 c.pat v with
  | none => runD v (k + 1) cs
  | some l => if Q6g c.guard l = true then some (k, Q9j l) else runD v (k + 1) cs
def runR : Option (Nat × List W4) → Int × List W4
 | none => (-1, [])
 | some x => ((x.1 : Int), x.2)
end Go.Proofs.YtnackipaoepmfaaGreat
namespace Go.Proofs.YtnackipaoepmfaaGreat
open Go Go.RowKit
theorem W8t {l : List W4} (hn : (l.map (·.var)).Nodup) {x y : W4} (hx : x ∈ l) (hy : y ∈ l) (h : x.var = y.var) : x = y := by
 induction l with
 | nil => cases hx
 | cons a l ih =>
  simp only [List.map_cons, List.nodup_cons, List.mem_map, not_exists, not_and] at hn
  rcases List.mem_cons.1 hx with h1 | h1
  ·rcases List.mem_cons.1 hy with h2 | h2
   ·rw [h1, h2]
   ·exact absurd (by rw [← h1]; exact h.symm) (hn.1 y h2)
  ·rcases List.mem_cons.1 hy with h2 | h2
   ·exact absurd (by rw [← h2]; exact h) (hn.1 x h1)
   ·exact ih hn.2 h1 h2
theorem W6o {l : List W4} (hn : (l.map (·.var)).Nodup) {x : W4} {v : Int} (hx : x ∈ l) (h : x.var = v) : l.find? (fun b => decide (b.var = v)) = some x := by
 cases hf : l.find? (fun b => decide (b.var = v)) with
 | none =>
  have := List.find?_eq_none.1 hf x hx
  simp [h] at this
 | some y =>
  have h1 := List.find?_some hf
  have h2 := List.mem_of_find?_eq_some hf
  simp only [decide_eq_true_eq] at h1
  rw [W8t hn h2 hx (by omega)]
theorem X1s (g : Q3j) {l : List W4} (hn : (l.map (·.var)).Nodup) : Q29 g l = some (Q6g g l) := by
 suffices hs : Ret (Q29 g l) (fun r => r = Q6g g l) by
  obtain ⟨a, e, rfl⟩ := hs
  exact e
 unfold Q29
 refine Ret.ite (fun h0 => .some ?_) (fun h0 => ?_)
 ·rw [W5] at h0
  simp [Q6g, h0]
 rw [X8] at h0
 refine Ret.bind (Q70 l (fun a0 => Q3s a0 g) (fun b => ieq b.var g.var) (fun _ _ => rfl)) (fun i hi => ?_)
 rcases hi with ⟨k, x, rfl, hx, hxv⟩ | ⟨rfl, hall⟩
 ·rw [if_neg (by rw [W0]; omega), Q12 hx]
  simp only [Option.bind_some]
  rw [W5] at hxv
  have hG : Q6g g l = (ieq x.value.ctor (-1) && ((ieq g.op 1 && ilt x.value.n g.n) || (ieq g.op 2 && ieq x.value.n g.n))) := by
   unfold Q6g
   rw [W6o hn (List.mem_of_getElem? hx) hxv, decide_eq_false h0]
   rfl
  rw [hG]
  generalize ieq x.value.ctor (-1) = b1
  generalize ieq g.op 1 = b2
  generalize ilt x.value.n g.n = b3
  generalize ieq g.op 2 = b4
  generalize ieq x.value.n g.n = b5
  cases b1 <;> cases b2 <;> cases b3 <;> cases b4 <;> cases b5 <;> exact .some rfl
 ·refine .some ?_
  have hf : l.find? (fun b => decide (b.var = g.var)) = none := List.find?_eq_none.2 fun x hx => by
   have := hall x hx
   rw [X8] at this
   simpa using this
  simp [Q6g, hf, h0]
def matR : Option (List W4) → List W4 × Bool
 | none => ([], false)
 | some l => (Q9j l, true)
theorem Z7f {w : List Q3} (hw : WW w) {t : Q2} (ht : t ∈ tys w) {p : Q0} (g : Q13 w 10 t p = true) (ln : linD w 10 t p = true) (hc : cntP p ≤ 1000) {e : Nat} {v : Q4} (hv : Q0y w e t v) (he : e ≤ 10) :
  Q46 NN p v = some (matR (W6 10 p v)) := by
 suffices hs : Ret (Q46 NN p v) (fun r => r = matR (W6 10 p v)) by
  obtain ⟨a, e, rfl⟩ := hs
  exact e
 have hdv := Z9r e 10 v he (Z37 hw e t v ht hv)
 unfold Q46
 refine Ret.bind (W5b hw 10 NN t p v e ht g hv (by decide) hc) (fun r hr => ?_)
 obtain ⟨_, h2, h3⟩ := hr
 cases hm : W6 10 p v with
 | none =>
  rw [hm] at h2
  simp only [Option.isSome_none] at h2
  rw [h2]
  exact .some rfl
 | some l =>
  rw [hm] at h2
  simp only [Option.isSome_some] at h2
  have h1 := h3 l hm
  have hb := Z1d g ln hm
  rw [h2, h1]
  simp only [Bool.not_true, Bool.false_eq_true, if_false]
  rw [W4q (by decide) (by have := hb.ln; omega) hb.nd hb.rg]
  have hpm := Q84 hb.rg
  simp only [Option.bind_some]
  rw [X2m (by simp [hpm.length_eq])]
  simp only [Option.bind_some]
  have hdb : ∀ b ∈ Q9j l, Z4m 10 b.value := fun b hb' => by
   obtain ⟨e', h1, h2⟩ := Z8e 10 p 10 v l hdv hm b (hpm.mem_iff.1 hb')
   exact Z9r _ _ _ h1 h2
  rw [show matR (some l) = (Q9j l, true) from rfl]
  generalize Q9j l = r at *
  refine Ret.ctl (Z4 r (fun _ s => s = r) (fun _ => False) (fun s => s = r) rfl (fun k b s hb hI => ?_) (fun s hI => hI)) (fun r hr => hr.elim) (fun s hs => .some (by rw [hs]))
  subst hI
  have hk := (List.getElem?_eq_some_iff.1 hb).1
  have hy : s[k]? = some s[k] := by simp
  rw [Q12 hy]
  simp only [Option.bind_some]
  rw [Z5j 10 NN _ (hdb _ (List.mem_of_getElem? hy)) (by decide)]
  simp only [Option.bind_some]
  rw [X3j (by omega) (by omega)]
  refine .some ?_
  exact List.set_getElem_self (as := s) (i := k) hk
theorem Z6p {α : Type} {l : List α} {k : Nat} {x : α} (h : l[k]? = some x) : l.drop k = x :: l.drop (k + 1) := by
 obtain ⟨hk, rfl⟩ := List.getElem?_eq_some_iff.1 h
 exact List.drop_eq_getElem_cons hk
theorem X8b {w : List Q3} (hw : WW w) {t : Q2} (ht : t ∈ tys w) {l : List Q5} (hl : ∀ c ∈ l, Y9 w t c.pat = true) {e : Nat} {v : Q4} (hv : Q0y w e t v) (he : e ≤ 10) :
  Q6z NN l v = some (runR (runD v 0 l)) := by
 suffices hs : Ret (Q6z NN l v) (fun r => r = runR (runD v 0 l)) by
  obtain ⟨a, e, rfl⟩ := hs
  exact e
 unfold Q6z
 refine Ret.ctl (Z4 l (fun k _ => runD v 0 l = runD v k (l.drop k)) (fun r : Int × List W4 => r = runR (runD v 0 l)) (fun _ => runD v 0 l = none) rfl (fun k c s hc hI => ?_) (fun s hI => by rw [hI, List.drop_length]; rfl)) (fun r hr => .some hr) (fun s hs => .some (by rw [hs]; rfl))
 obtain ⟨g, c1, ln⟩ := J2 (hl c (List.mem_of_getElem? hc))
 rw [Z6p hc] at hI
 simp only [runD] at hI
 rw [Z7f hw ht g ln (by omega) hv he]
 simp only [Option.bind_some]
 cases hm : W6 10 c.pat v with
 | none =>
  simp only [hm] at hI
  simp only [matR, Bool.false_eq_true, if_false, Option.bind_some]
  exact .some hI
 | some r =>
  simp only [hm] at hI
  have hb := Z1d g ln hm
  have hn : ((Q9j r).map (·.var)).Nodup := ((Q84 hb.rg).map _).nodup_iff.2 hb.nd
  simp only [matR, if_true]
  rw [X1s _ hn, X4e hb]
  simp only [Option.bind_some]
  cases hg : Q6g c.guard r with
  | true =>
   rw [hg] at hI
   simp only [if_true, Option.bind_some] at hI ⊢
   exact .some (by simp only [W4u]; rw [hI]; rfl)
  | false =>
   rw [hg] at hI
   simp only [Bool.false_eq_true, if_false, Option.bind_some] at hI ⊢
   exact .some hI
end Go.Proofs.YtnackipaoepmfaaGreat
namespace Go.Proofs.YtnackipaoepmfaaGreat
open Go Go.RowKit
def cntV : Q4 → Nat
 | ⟨_, _, kids⟩ => 1 + cntVs kids
where cntVs : List Q4 → Nat
 | [] => 0
 | v :: l => cntV v + cntVs l
theorem Z9t (v : Q4) : cntV v = 1 + cntV.cntVs v.kids := by cases v; rw [cntV]
theorem Z3l : ∀ (l : List Q4) (k : Nat) (q : Q4), l[k]? = some q → cntV.cntVs (l.take (k + 1)) = cntV.cntVs (l.take k) + cntV q
 | [], k, q, h => by simp at h
 | p :: l, 0, q, h => by simp at h; subst h; simp [cntV.cntVs]
 | p :: l, k + 1, q, h => by
  have := Z3l l k q (by simpa using h)
  simp only [List.take_succ_cons, cntV.cntVs]
  omega
theorem Z2t : ∀ (l : List Q4) (k : Nat), cntV.cntVs (l.take k) ≤ cntV.cntVs l
 | [], k => by simp
 | p :: l, 0 => by simp [cntV.cntVs]
 | p :: l, k + 1 => by
  have := Z2t l k
  simp only [List.take_succ_cons, cntV.cntVs]
  omega
def Q5z (w : List Q3) : Nat → Q2 → Q4 → Bool
 | 0, _, _ => false
 | d + 1, t, v => if t.data = -1 then decide (v.ctor = -1) && (decide (0 ≤ v.n) && (decide (v.n ≤ 9) && decide (v.kids.length = 0)))
  else decide (v.n = 0) && (decide (v.ctor ∈ Z7 w t) && (decide (v.kids.length = (Z5 w t v.ctor).length) && ((Z5 w t v.ctor).zip v.kids).all fun x => Q5z w d x.1 x.2))
theorem Z38 {w : List Q3} : ∀ (d : Nat) (t : Q2) (v : Q4), Q5z w d t v = true ↔ Q0y w d t v := by
 intro d
 induction d with
 | zero => intro t v; simp [Q5z, Q0y]
 | succ d ih =>
  intro t v
  rw [Q5z, Q0y]
  split
  ·simp only [Bool.and_eq_true, decide_eq_true_eq, List.length_eq_zero_iff]
  ·simp only [Bool.and_eq_true, decide_eq_true_eq, List.all_eq_true]
   constructor
   ·rintro ⟨h1, h2, h3, h4⟩
    exact ⟨h1, h2, h3, fun j a x ha hx => (ih a x).1 (h4 (a, x) (List.mem_of_getElem? (Q9f ha hx)))⟩
   ·rintro ⟨h1, h2, h3, h4⟩
    refine ⟨h1, h2, h3, fun x hx => ?_⟩
    obtain ⟨j, hj⟩ := List.mem_iff_getElem?.1 hx
    obtain ⟨e1, e2⟩ := List.getElem?_zip_eq_some.1 hj
    exact (ih _ _).2 (h4 j _ _ e1 e2)
def okV (w : List Q3) (d : Nat) (t : Q2) (v : Q4) (c : Nat) : Bool := Q5z w d t v && decide (c + cntV v ≤ 60)
def Q9g (w : List Q3) (t : Q2) (v : Q4) : Bool := Q5z w 10 t v && decide (cntV v ≤ 60)
theorem X3c {w : List Q3} {t : Q2} {v : Q4} (h : Q9g w t v = true) : Q0y w 10 t v := by
 simp only [Q9g, Bool.and_eq_true] at h
 exact (Z38 10 t v).1 h.1
theorem W1e {w : List Q3} {d : Nat} {t : Q2} {v : Q4} {c : Nat} (h : Q5z w d t v = false) : okV w d t v c = false := by simp [okV, h]
theorem V1q {w : List Q3} (hw : WW w) : ∀ (d n : Nat) (t : Q2) (v : Q4) (c : Nat), t ∈ tys w → c ≤ 60 → d + 2 ≤ n → d ≤ 10 →
  Ret (Q1v n w t v (11 - (d : Int)) false (c : Int)) (fun r => r.1 = okV w d t v c ∧ (okV w d t v c = true → r.2 = ((c + cntV v : Nat) : Int))) := by
 intro d
 induction d with
 | zero =>
  intro n t v c ht hc hn hd
  obtain ⟨n, rfl⟩ : ∃ k, n = k + 1 := ⟨n - 1, by omega⟩
  have hb : okV w 0 t v c = false := W1e rfl
  unfold Q1v
  refine Ret.ite (fun _ => .some ⟨hb.symm, fun h => by rw [hb] at h; cases h⟩) (fun _ => ?_)
  rw [if_pos (by rw [W0]; omega)]
  exact .some ⟨hb.symm, fun h => by rw [hb] at h; cases h⟩
 | succ d ih =>
  intro n t v c ht hc hn hd
  obtain ⟨n, rfl⟩ : ∃ k, n = k + 1 := ⟨n - 1, by omega⟩
  have hT := hw.ty t ht
  unfold Q1v
  have hc1 : wadd .i64 (c : Int) 1 = ((c + 1 : Nat) : Int) := by rw [Q0p] <;> omega
  rw [hc1]
  have hpos : 1 ≤ cntV v := by rw [Z9t]; omega
  refine Ret.ite (fun hlt => ?_) (fun hle => ?_)
  ·rw [W0] at hlt
   have hb : okV w (d + 1) t v c = false := by simp only [okV, Bool.and_eq_false_iff, decide_eq_false_iff_not]; right; omega
   exact .some ⟨hb.symm, fun h => by rw [hb] at h; cases h⟩
  rw [Q06] at hle
  rw [if_neg (by rw [W0]; omega), if_neg (by simp)]
  have bad : Q5z w (d + 1) t v = false → okV w (d + 1) t v c = false := W1e
  refine Ret.ctl (R := fun r : Bool × Int => r.1 = okV w (d + 1) t v c ∧ (okV w (d + 1) t v c = true → r.2 = ((c + cntV v : Nat) : Int))) (B := fun _ : Unit => t.data ≠ -1 ∧ v.n = 0 ∧ v.ctor ∈ Z7 w t) ?_ (fun r hr => .some hr) (fun s hs => ?_)
  ·refine Ret.ite (fun hi => ?_) (fun hi => ?_)
   ·rw [W5] at hi
    have hg : Q5z w (d + 1) t v = (decide (v.ctor = -1) && (decide (0 ≤ v.n) && (decide (v.n ≤ 9) && decide (v.kids.length = 0)))) := by rw [Q5z, if_pos hi]
    refine Ret.ite (fun h1 => ?_) (fun h1 => ?_)
    ·rw [W5] at h1
     rw [Q83]
     simp only [Option.bind_some]
     refine Ret.ite (fun h2 => ?_) (fun h2 => ?_)
     ·simp only [Bool.and_eq_true, decide_eq_true_eq] at h2
      have hk : Q5z w (d + 1) t v = decide (v.kids.length = 0) := by rw [hg]; simp [h1, h2.1, h2.2]
      refine .some ?_
      have h0 : v.kids.length = 0 → cntV v = 1 := fun h => by rw [Z9t, List.eq_nil_of_length_eq_zero h]; rfl
      by_cases hz : v.kids.length = 0
      ·have e1 : okV w (d + 1) t v c = true := by simp only [okV, hk, hz, decide_true, Bool.true_and, decide_eq_true_eq]; have := h0 hz; omega
       rw [e1]
       refine ⟨?_, fun _ => ?_⟩
       ·simp only [W5, lenZ]; omega
       ·have := h0 hz; simp only; omega
      ·have e1 : okV w (d + 1) t v c = false := bad (by rw [hk]; simp [hz])
       rw [e1]
       refine ⟨?_, fun h => by cases h⟩
       simp only [X8, lenZ]; omega
     ·have e1 : okV w (d + 1) t v c = false := bad (by
       rw [hg]
       simp only [Bool.and_eq_false_iff, decide_eq_false_iff_not] at h2 ⊢
       rcases h2 with h2 | h2
       ·exact .inr (.inl h2)
       ·exact .inr (.inr (.inl h2)))
      exact .some ⟨e1.symm, fun h => by rw [e1] at h; cases h⟩
    ·rw [X8] at h1
     have e1 : okV w (d + 1) t v c = false := bad (by rw [hg]; simp [h1])
     exact .some ⟨e1.symm, fun h => by rw [e1] at h; cases h⟩
   ·rw [X8] at hi
    have hg : Q5z w (d + 1) t v = (decide (v.n = 0) && (decide (v.ctor ∈ Z7 w t) && (decide (v.kids.length = (Z5 w t v.ctor).length) && ((Z5 w t v.ctor).zip v.kids).all fun x => Q5z w d x.1 x.2))) := by rw [Q5z, if_neg hi]
    refine Ret.ite (fun h1 => ?_) (fun h1 => ?_)
    ·rw [Bool.not_eq_true', X8] at h1
     have e1 : okV w (d + 1) t v c = false := bad (by rw [hg]; simp [h1])
     exact .some ⟨e1.symm, fun h => by rw [e1] at h; cases h⟩
    rw [Bool.not_eq_false', W5] at h1
    rw [hT.c2]
    simp only [Option.bind_some]
    rw [Z06]
    simp only [Option.bind_some]
    refine Ret.ite (fun h2 => ?_) (fun h2 => ?_)
    ·rw [Bool.not_eq_true', decide_eq_false_iff_not] at h2
     have e1 : okV w (d + 1) t v c = false := bad (by rw [hg]; simp [h2])
     exact .some ⟨e1.symm, fun h => by rw [e1] at h; cases h⟩
    rw [Bool.not_eq_false', decide_eq_true_eq] at h2
    exact .some ⟨hi, h1, h2⟩
  ·obtain ⟨s1, s2, s3⟩ := hs
   have hg : Q5z w (d + 1) t v = (decide (v.kids.length = (Z5 w t v.ctor).length) && ((Z5 w t v.ctor).zip v.kids).all fun x => Q5z w d x.1 x.2) := by rw [Q5z, if_neg s1]; simp [s2, s3]
   rw [hT.a2 _ s3]
   simp only [Option.bind_some]
   refine Ret.ite (fun hl => ?_) (fun hl => ?_)
   ·rw [Bool.not_eq_true', X8] at hl
    simp only [lenZ] at hl
    have e1 : okV w (d + 1) t v c = false := bad (by rw [hg]; simp only [Bool.and_eq_false_iff, decide_eq_false_iff_not]; left; omega)
    exact .some ⟨e1.symm, fun h => by rw [e1] at h; cases h⟩
   rw [Bool.not_eq_false', W5] at hl
   simp only [lenZ] at hl
   have hcv := Z9t v
   refine Ret.ctl (Z4 v.kids (fun k s => s = ((c + 1 + cntV.cntVs (v.kids.take k) : Nat) : Int) ∧ c + 1 + cntV.cntVs (v.kids.take k) ≤ 60 ∧ ∀ (j : Nat) (a : Q2) (x : Q4), j < k → (Z5 w t v.ctor)[j]? = some a → v.kids[j]? = some x → Q5z w d a x = true) (fun r : Bool × Int => r.1 = okV w (d + 1) t v c ∧ (okV w (d + 1) t v c = true → r.2 = ((c + cntV v : Nat) : Int))) (fun s => s = ((c + cntV v : Nat) : Int) ∧ okV w (d + 1) t v c = true) ⟨by simp [cntV.cntVs], by simp only [List.take_zero, cntV.cntVs]; omega, fun j a x hj => by omega⟩ (fun k x s hx hI => ?_) (fun s hI => ?_)) (fun r hr => .some hr) (fun s hs => .some ⟨hs.2.symm, fun _ => hs.1⟩)
   ·obtain ⟨rfl, i2, i3⟩ := hI
    have hk := (List.getElem?_eq_some_iff.1 hx).1
    have ha : (Z5 w t v.ctor)[k]? = some ((Z5 w t v.ctor)[k]'(by omega)) := by simp
    rw [Q12 ha]
    simp only [Option.bind_some]
    have hdd : wadd .i64 (11 - ((d + 1 : Nat) : Int)) 1 = 11 - (d : Int) := by rw [Q0p] <;> omega
    rw [hdd]
    refine Ret.bind (ih n _ x _ (hT.at_ _ s3 _ (List.mem_of_getElem? ha)) i2 (by omega) (by omega)) (fun r hr => ?_)
    obtain ⟨r1, r2⟩ := hr
    have htk := Z3l v.kids k x hx
    refine Ret.ite (fun h => ?_) (fun h => ?_)
    ·rw [Bool.not_eq_true', r1] at h
     have e1 : okV w (d + 1) t v c = false := by
      simp only [okV, Bool.and_eq_false_iff, decide_eq_false_iff_not] at h ⊢
      rcases h with h | h
      ·left
       rw [hg, Bool.and_eq_false_iff]
       right
       rw [List.all_eq_false]
       exact ⟨_, List.mem_of_getElem? (Q9f ha hx), by simp [h]⟩
      ·right
       have := Z2t v.kids (k + 1)
       omega
     exact .some ⟨e1.symm, fun h => by rw [e1] at h; cases h⟩
    ·rw [Bool.not_eq_false', r1] at h
     have r3 := r2 h
     simp only [okV, Bool.and_eq_true, decide_eq_true_eq] at h
     refine .some ⟨?_, by omega, fun j a y hj h1 h2 => ?_⟩
     ·rw [r3]; omega
     ·by_cases hjk : j = k
      ·subst hjk
       rw [ha] at h1
       rw [hx] at h2
       cases h1
       cases h2
       exact h.1
      ·exact i3 j a y (by omega) h1 h2
   ·obtain ⟨rfl, i2, i3⟩ := hI
    rw [List.take_length] at i2 ⊢
    refine ⟨by omega, ?_⟩
    simp only [okV, Bool.and_eq_true, decide_eq_true_eq]
    refine ⟨?_, by omega⟩
    rw [hg]
    simp only [Bool.and_eq_true, decide_eq_true_eq, List.all_eq_true]
    refine ⟨by omega, fun y hy => ?_⟩
    obtain ⟨j, hj⟩ := List.mem_iff_getElem?.1 hy
    obtain ⟨e1, e2⟩ := List.getElem?_zip_eq_some.1 hj
    exact i3 j _ _ (List.getElem?_eq_some_iff.1 e2).1 e1 e2
theorem X1p {w : List Q3} (hw : WW w) {t : Q2} (ht : t ∈ tys w) (v : Q4) : Q45 NN w t v = some (Q9g w t v) := by
 suffices hs : Ret (Q45 NN w t v) (fun r => r = Q9g w t v) by
  obtain ⟨a, e, rfl⟩ := hs
  exact e
 unfold Q45
 refine Ret.bind (V1q hw 10 NN t v 0 ht (by omega) (by decide) (by omega)) (fun r hr => .some ?_)
 rw [hr.1]
 simp [okV, Q9g]
theorem W75 {w : List Q3} (hw : WW w) : ∀ (d : Nat) (t : Q2) (v : Q4), t ∈ tys w → Q0y w d t v → 2 * cntV v + 1 ≤ 3 ^ d := by
 intro d
 induction d with
 | zero => intro t v _ h; exact h.elim
 | succ d ih =>
  intro t v ht h
  have hT := hw.ty t ht
  have hcv := Z9t v
  have hp : 3 ≤ 3 ^ (d + 1) := by
   have := Nat.one_le_two_pow (n := d)
   have h3 : 1 ≤ 3 ^ d := Nat.one_le_pow _ _ (by omega)
   rw [Nat.pow_succ]; omega
  simp only [Q0y] at h
  split at h
  ·obtain ⟨_, _, _, h4⟩ := h
   rw [h4] at hcv
   simp only [cntV.cntVs] at hcv
   omega
  ·obtain ⟨_, h2, h3, h4⟩ := h
   have hal := hT.al _ h2
   have key : ∀ k, k ≤ v.kids.length → 2 * cntV.cntVs (v.kids.take k) + k ≤ k * 3 ^ d := by
    intro k
    induction k with
    | zero => intro _; simp [cntV.cntVs]
    | succ k ihk =>
     intro hk
     have hx : v.kids[k]? = some (v.kids[k]'(by omega)) := by simp
     have ha : (Z5 w t v.ctor)[k]? = some ((Z5 w t v.ctor)[k]'(by omega)) := by simp
     have h5 := ih _ _ (hT.at_ _ h2 _ (List.mem_of_getElem? ha)) (h4 k _ _ ha hx)
     have h6 := ihk (by omega)
     rw [Z3l _ _ _ hx]
     have e : (k + 1) * 3 ^ d = k * 3 ^ d + 3 ^ d := Nat.succ_mul _ _
     omega
   have h7 := key v.kids.length (Nat.le_refl _)
   rw [List.take_length] at h7
   have h8 : v.kids.length * 3 ^ d ≤ 3 * 3 ^ d := Nat.mul_le_mul_right _ (by omega)
   rw [Nat.pow_succ]
   by_cases h0 : v.kids.length = 0
   ·rw [List.eq_nil_of_length_eq_zero h0] at hcv
    simp only [cntV.cntVs] at hcv
    rw [Nat.pow_succ] at hp
    omega
   ·have h9 : v.kids.length = 1 ∨ v.kids.length = 2 ∨ v.kids.length = 3 := by omega
    have h3d : 1 ≤ 3 ^ d := Nat.one_le_pow _ _ (by omega)
    rcases h9 with h9 | h9 | h9 <;> rw [h9] at h7 <;> omega
theorem Z0f {w : List Q3} : ∀ (d e : Nat) (t : Q2) (v : Q4), d ≤ e → Q0y w d t v → Q0y w e t v := by
 intro d
 induction d with
 | zero => intro e t v _ h; exact h.elim
 | succ d ih =>
  intro e t v he h
  obtain ⟨e, rfl⟩ : ∃ k, e = k + 1 := ⟨e - 1, by omega⟩
  rw [Q0y] at h ⊢
  split
  ·rename_i hd; rw [if_pos hd] at h; exact h
  ·rename_i hd
   rw [if_neg hd] at h
   exact ⟨h.1, h.2.1, h.2.2.1, fun j a x ha hx => ih e a x (by omega) (h.2.2.2 j a x ha hx)⟩
theorem X0y {w : List Q3} (hw : WW w) {d : Nat} (hd : d ≤ 4) {t : Q2} {v : Q4} (ht : t ∈ tys w) (h : Q0y w d t v) : Q9g w t v = true := by
 have h1 := Z0f d 4 t v hd h
 have h2 := W75 hw 4 t v ht h1
 simp only [Q9g, Bool.and_eq_true, decide_eq_true_eq]
 exact ⟨(Z38 10 t v).2 (Z0f 4 10 t v (by omega) h1), by omega⟩
end Go.Proofs.YtnackipaoepmfaaGreat
namespace Go.Proofs.YtnackipaoepmfaaGreat
open Go Go.RowKit
def tupV (out : List (List Q4)) (l : List Q4) : List (List Q4) := out.flatMap fun q => l.map fun c => q ++ [c]
def mkV (c : Int) (ks : List Q4) : Q4 := Q4.mk c 0 ks
def numV (n : Nat) : Q4 := Q4.mk (-1) (n : Int) []
def Q1y (w : List Q3) : Nat → Q2 → List Q4
 | 0, _ => []
 | d + 1, t => if t.data = -1 then (List.range 10).map numV else (Z7 w t).flatMap fun c => (((Z5 w t c).map (Q1y w d)).foldl tupV [[]]).map (mkV c)
theorem Z1o (out : List (List Q4)) (l : List Q4) : (tupV out l).length = out.length * l.length := by
 induction out with
 | nil => simp [tupV]
 | cons q out ih =>
  have e : tupV (q :: out) l = (l.map fun c => q ++ [c]) ++ tupV out l := by simp [tupV]
  rw [e, List.length_append, ih, List.length_map, List.length_cons, Nat.succ_mul]
  omega
theorem X0l : ∀ (ls : List (List Q4)) (out : List (List Q4)), (out = [] ∨ [] ∈ ls) → ls.foldl tupV out = []
 | [], out, h => by
  rcases h with h | h
  ·exact h
  ·cases h
 | l :: ls, out, h => by
  rw [List.foldl_cons]
  refine X0l ls _ ?_
  rcases h with rfl | h
  ·left; simp [tupV]
  ·rcases List.mem_cons.1 h with rfl | h
   ·left; simp [tupV]
   ·right; exact h
theorem Z8y : ∀ (ls : List (List Q4)) (out : List (List Q4)), (∀ l ∈ ls, l ≠ []) → out.length ≤ (ls.foldl tupV out).length
 | [], _, _ => Nat.le_refl _
 | l :: ls, out, h => by
  rw [List.foldl_cons]
  have h1 := Z8y ls (tupV out l) fun x hx => h x (by simp [hx])
  rw [Z1o] at h1
  have h2 : 1 ≤ l.length := List.length_pos_iff.2 (h l (by simp))
  exact Nat.le_trans (Nat.le_mul_of_pos_right _ h2) h1
theorem Z7u {ls : List (List Q4)} (h : ∀ l ∈ ls, l ≠ []) (k : Nat) : ((ls.take k).foldl tupV [[]]).length ≤ (ls.foldl tupV [[]]).length := by
 rw [← List.take_append_drop k ls, List.foldl_append, List.take_append_drop]
 exact Z8y _ _ fun l hl => h l (List.mem_of_mem_drop hl)
theorem Z30 {ls : List (List Q4)} {k : Nat} {l : List Q4} (h : ls[k]? = some l) : (ls.take (k + 1)).foldl tupV [[]] = tupV ((ls.take k).foldl tupV [[]]) l := by
 rw [List.take_add_one, h]; simp
theorem W0e {ls : List (List Q4)} (h : ∀ l ∈ ls, l ≠ []) : 1 ≤ (ls.foldl tupV [[]]).length := Z8y ls [[]] h
theorem Q9h : ∀ (ls : List (List Q4)) (out : List (List Q4)) (ks : List Q4), ks ∈ ls.foldl tupV out →
  ∃ a b, a ∈ out ∧ ks = a ++ b ∧ b.length = ls.length ∧ ∀ (i : Nat) (q : Q4) (l : List Q4), b[i]? = some q → ls[i]? = some l → q ∈ l
 | [], out, ks, h => ⟨ks, [], by simpa using h, by simp, rfl, by simp⟩
 | l :: ls, out, ks, h => by
  rw [List.foldl_cons] at h
  obtain ⟨a, b, ha, rfl, hl, hb⟩ := Q9h ls (tupV out l) ks h
  simp only [tupV, List.mem_flatMap, List.mem_map] at ha
  obtain ⟨a0, h0, c, hc, rfl⟩ := ha
  refine ⟨a0, c :: b, h0, by simp, by simp [hl], fun i q m h1 h2 => ?_⟩
  cases i with
  | zero => simp at h1 h2; subst h1 h2; exact hc
  | succ i => exact hb i q m (by simpa using h1) (by simpa using h2)
theorem X0h {w : List Q3} : ∀ (d : Nat) (t : Q2) (v : Q4), v ∈ Q1y w d t → Q0y w d t v := by
 intro d
 induction d with
 | zero => intro t v h; simp [Q1y] at h
 | succ d ih =>
  intro t v h
  rw [Q1y] at h
  rw [Q0y]
  split
  ·rename_i hd
   rw [if_pos hd] at h
   obtain ⟨n, hn, rfl⟩ := List.mem_map.1 h
   have := List.mem_range.1 hn
   exact ⟨rfl, by simp only [numV]; omega, by simp only [numV]; omega, rfl⟩
  ·rename_i hd
   rw [if_neg hd] at h
   obtain ⟨c, hc, h⟩ := List.mem_flatMap.1 h
   obtain ⟨ks, hks, rfl⟩ := List.mem_map.1 h
   obtain ⟨a, b, ha, rfl, hl, hb⟩ := Q9h _ _ _ hks
   simp only [List.mem_singleton] at ha
   subst ha
   simp only [List.length_map] at hl
   refine ⟨rfl, hc, by simp [mkV, hl], fun j u x hu hx => ih u x ?_⟩
   simp only [mkV] at hu hx
   exact hb j x (Q1y w d u) (by simpa using hx) (by rw [List.getElem?_map, hu]; rfl)
theorem W59 {a b m : Nat} : min (min a m * min b m) m = min (a * b) m := by
 rcases Nat.eq_zero_or_pos a with rfl | ha
 ·simp
 rcases Nat.eq_zero_or_pos b with rfl | hb
 ·simp
 rcases Nat.le_total a m with h1 | h1 <;> rcases Nat.le_total b m with h2 | h2
 ·rw [Nat.min_eq_left h1, Nat.min_eq_left h2]
 ·rw [Nat.min_eq_left h1, Nat.min_eq_right h2, Nat.min_eq_right, Nat.min_eq_right]
  ·exact Nat.le_trans h2 (Nat.le_mul_of_pos_left _ ha)
  ·exact Nat.le_mul_of_pos_left _ ha
 ·rw [Nat.min_eq_right h1, Nat.min_eq_left h2, Nat.min_eq_right, Nat.min_eq_right]
  ·exact Nat.le_trans h1 (Nat.le_mul_of_pos_right _ hb)
  ·exact Nat.le_mul_of_pos_right _ hb
 ·rw [Nat.min_eq_right h1, Nat.min_eq_right h2]
  rcases Nat.eq_zero_or_pos m with rfl | hm
  ·simp
  ·rw [Nat.min_eq_right (Nat.le_mul_of_pos_left _ hm), Nat.min_eq_right (Nat.le_trans h2 (Nat.le_mul_of_pos_left _ ha))]
theorem X68 (a b : Nat) : imin (a : Int) (b : Int) = ((min a b : Nat) : Int) := by
 unfold imin
 split <;> omega
theorem X2l {w : List Q3} (hw : WW w) : ∀ (d n : Nat) (t : Q2), t ∈ tys w → d + 2 ≤ n → d ≤ 100 → Q02 n w t (d : Int) = some ((min (Q1y w d t).length 401 : Nat) : Int) := by
 intro d
 induction d with
 | zero =>
  intro n t ht hn _
  obtain ⟨n, rfl⟩ : ∃ k, n = k + 1 := ⟨n - 1, by omega⟩
  unfold Q02
  rw [if_pos (by simp [ieq])]
  rfl
 | succ d ih =>
  intro n t ht hn hd
  obtain ⟨n, rfl⟩ : ∃ k, n = k + 1 := ⟨n - 1, by omega⟩
  have hT := hw.ty t ht
  suffices hs : Ret (Q02 (n + 1) w t ((d + 1 : Nat) : Int)) (fun a => a = ((min (Q1y w (d + 1) t).length 401 : Nat) : Int)) by
   obtain ⟨a, e, rfl⟩ := hs
   exact e
  unfold Q02
  rw [if_neg (by rw [W5]; omega)]
  have e1 : wsub .i64 ((d + 1 : Nat) : Int) 1 = (d : Int) := by rw [Q4c] <;> omega
  rw [e1]
  by_cases hi : t.data = -1
  ·rw [if_pos (by rw [W5]; exact hi)]
   refine .some ?_
   simp [Q1y, hi]
  ·rw [if_neg (by rw [W5]; exact hi), hT.c2]
   simp only [Option.bind_some]
   have hv : Q1y w (d + 1) t = (Z7 w t).flatMap fun c => (((Z5 w t c).map (Q1y w d)).foldl tupV [[]]).map (mkV c) := by rw [Q1y, if_neg hi]
   rw [hv]
   generalize hF : (fun c => (((Z5 w t c).map (Q1y w d)).foldl tupV [[]]).map (mkV c)) = F
   refine Ret.ctl (Z4 (Z7 w t) (fun i s => s = ((min (((Z7 w t).take i).flatMap F).length 401 : Nat) : Int)) (fun _ => False) (fun s => s = ((min ((Z7 w t).flatMap F).length 401 : Nat) : Int)) (by simp) (fun i c s hc hI => ?_) (fun s hI => by rw [hI, List.take_length])) (fun r hr => hr.elim) (fun s hs => .some hs)
   have hcm := List.mem_of_getElem? hc
   rw [hT.a2 _ hcm]
   simp only [Option.bind_some]
   refine Ret.ctl (Z4 (Z5 w t c) (fun k s => s = ((min ((((Z5 w t c).map (Q1y w d)).take k).foldl tupV [[]]).length 401 : Nat) : Int)) (fun _ => False) (fun s => s = ((min (F c).length 401 : Nat) : Int)) (by simp) (fun k a u ha hJ => ?_) (fun s hJ => ?_)) (fun r hr => hr.elim) (fun u hu => ?_)
   ·rw [ih n a (hT.at_ _ hcm _ (List.mem_of_getElem? ha)) (by omega) (by omega)]
    simp only [Option.bind_some]
    refine .some ?_
    simp only [Q33]
    rw [Z30 (l := Q1y w d a) (by rw [List.getElem?_map, ha]; rfl), Z1o, hJ]
    generalize ((((Z5 w t c).map (Q1y w d)).take k).foldl tupV [[]]).length = A
    generalize (Q1y w d a).length = B
    have hm : min A 401 * min B 401 ≤ 401 * 401 := Nat.mul_le_mul (Nat.min_le_right _ _) (Nat.min_le_right _ _)
    have e : ((min A 401 : Nat) : Int) * ((min B 401 : Nat) : Int) = ((min A 401 * min B 401 : Nat) : Int) := by simp
    rw [Z15 (by rw [e]; omega) (by rw [e]; omega), e, show (401 : Int) = ((401 : Nat) : Int) from rfl, X68, W59]
   ·rw [hJ, List.take_of_length_le (by simp), ← hF, List.length_map]
   ·refine .some ?_
    simp only [Q33]
    rw [hu, hI, List.take_add_one, hc]
    simp only [Option.toList_some, List.flatMap_append, List.flatMap_cons, List.flatMap_nil, List.append_nil, List.length_append]
    generalize (((Z7 w t).take i).flatMap F).length = A
    generalize (F c).length = B
    rw [Q0p (by omega) (by omega)]
    have e : ((min A 401 : Nat) : Int) + ((min B 401 : Nat) : Int) = ((min A 401 + min B 401 : Nat) : Int) := by omega
    rw [e, show (401 : Int) = ((401 : Nat) : Int) from rfl, X68]
    congr 1
    omega
theorem X59 (l : List Q4) (h : l.length ≤ Q8) : Q0u l = some l := by
 unfold Q0u
 rw [V4 (by simpa using h)]
 rfl
theorem Z9k {α β : Type} (l : List α) (F : α → List β) (i : Nat) : ((l.take i).flatMap F).length ≤ (l.flatMap F).length := by
 conv => rhs; rw [← List.take_append_drop i l, List.flatMap_append, List.length_append]
 omega
theorem Z9a {w : List Q3} (hw : WW w) : ∀ (d n : Nat) (t : Q2), t ∈ tys w → d + 20 ≤ n → d ≤ 100 → (Q1y w d t).length ≤ 400 → Q2v n w t (d : Int) = some (Q1y w d t) := by
 intro d
 induction d with
 | zero =>
  intro n t ht hn _ _
  obtain ⟨n, rfl⟩ : ∃ k, n = k + 1 := ⟨n - 1, by omega⟩
  unfold Q2v
  rw [if_pos (by simp [ieq])]
  rfl
 | succ d ih =>
  intro n t ht hn hd hlen
  obtain ⟨n, rfl⟩ : ∃ k, n = k + 1 := ⟨n - 1, by omega⟩
  have hT := hw.ty t ht
  suffices hs : Ret (Q2v (n + 1) w t ((d + 1 : Nat) : Int)) (fun a => a = Q1y w (d + 1) t) by
   obtain ⟨a, e, rfl⟩ := hs
   exact e
  unfold Q2v
  rw [if_neg (by rw [W5]; omega)]
  have e1 : wsub .i64 ((d + 1 : Nat) : Int) 1 = (d : Int) := by rw [Q4c] <;> omega
  rw [e1]
  by_cases hi : t.data = -1
  ·rw [if_pos (by rw [W5]; exact hi)]
   have hv : Q1y w (d + 1) t = (List.range 10).map numV := by rw [Q1y, if_pos hi]
   rw [hv]
   refine Ret.ctl (Q5b (fun s : List Q4 × Int => ∃ k : Nat, k ≤ 10 ∧ s = ((List.range k).map numV, (k : Int))) (fun s => (10 - s.2).toNat) (fun _ => False) (fun s => s.1 = (List.range 10).map numV) ⟨0, by omega, rfl⟩ (fun s hI => ?_) n (by simp; omega)) (fun r hr => hr.elim) (fun s hs => .some hs)
   obtain ⟨k, hk, rfl⟩ := hI
   refine Ret.ite (fun h1 => ?_) (fun h1 => ?_)
   ·rw [W0] at h1
    simp only [Q6q, Option.bind_some]
    rw [V4 (by simp only [List.length_map, List.length_range, List.length_cons, List.length_nil, Q8]; omega)]
    simp only [Option.bind_some]
    have e2 : wadd .i64 (k : Int) 1 = ((k + 1 : Nat) : Int) := by rw [Q0p] <;> omega
    rw [e2]
    refine .some ⟨⟨k + 1, by omega, ?_⟩, by simp only; omega⟩
    rw [List.range_succ, List.map_append]; rfl
   ·rw [Q06] at h1
    refine .some ?_
    simp only at h1
    rw [show k = 10 by omega]
    exact rfl
  ·rw [if_neg (by rw [W5]; exact hi), hT.c2]
   simp only [Option.bind_some]
   have hv : Q1y w (d + 1) t = (Z7 w t).flatMap fun c => (((Z5 w t c).map (Q1y w d)).foldl tupV [[]]).map (mkV c) := by rw [Q1y, if_neg hi]
   rw [hv] at hlen ⊢
   generalize hF : (fun c => (((Z5 w t c).map (Q1y w d)).foldl tupV [[]]).map (mkV c)) = F at *
   refine Ret.ctl (Z4 (Z7 w t) (fun i s => s = ((Z7 w t).take i).flatMap F) (fun _ => False) (fun s => s = (Z7 w t).flatMap F) (by simp) (fun i c s hc hI => ?_) (fun s hI => by rw [hI, List.take_length])) (fun r hr => hr.elim) (fun s hs => .some hs)
   have hcm := List.mem_of_getElem? hc
   have hFc : F c = (((Z5 w t c).map (Q1y w d)).foldl tupV [[]]).map (mkV c) := by rw [← hF]
   have hnext : ((Z7 w t).take (i + 1)).flatMap F = ((Z7 w t).take i).flatMap F ++ F c := by
    rw [List.take_add_one, hc]; simp
   have hle := Z9k (Z7 w t) F (i + 1)
   rw [hnext, List.length_append] at hle
   have hat := hT.at_ _ hcm
   have hal := hT.al _ hcm
   refine Ret.bind (P := CtlQ (fun r : Ctl (List Q4) (List Q4) => RndQ (fun _ => False) (fun s => s = (Z7 w t).flatMap F) (fun s => s = ((Z7 w t).take (i + 1)).flatMap F) r) (fun s => s = ((Z7 w t).take (i + 1)).flatMap F)) ?_ (fun o ho => ?_)
   ·rw [hT.a2 _ hcm]
    simp only [Option.bind_some]
    have hcf : J4 (Z5 w t c) (fun a0 => Q4e n a0 w ((d + 1 : Nat) : Int)) = some ((Z5 w t c).any fun a => decide ((Q1y w d a).length = 0)) := by
     refine Z7s _ _ _ fun a ha => ?_
     unfold Q4e
     rw [e1, X2l hw d n a (hat _ ha) (by omega) (by omega)]
     simp only [Option.bind_some, ieq]
     congr 1
     by_cases h0 : (Q1y w d a).length = 0
     ·simp [h0]
     ·rw [decide_eq_false h0, decide_eq_false]; omega
    rw [hcf]
    simp only [Option.bind_some]
    cases hany : (Z5 w t c).any fun a => decide ((Q1y w d a).length = 0) with
    | true =>
     simp only [if_true]
     refine .some ?_
     simp only [Z0j]
     rw [hnext, hI]
     obtain ⟨a, ha, h0⟩ := List.any_eq_true.1 hany
     simp only [decide_eq_true_eq] at h0
     have : F c = [] := by
      rw [hFc, X0l _ _ (.inr (List.mem_map.2 ⟨a, ha, List.eq_nil_of_length_eq_zero h0⟩))]; rfl
     rw [this, List.append_nil]
    | false =>
     simp only [Bool.false_eq_true, if_false]
     have hne : ∀ l ∈ (Z5 w t c).map (Q1y w d), l ≠ [] := fun l hl e => by
      obtain ⟨a, ha, rfl⟩ := List.mem_map.1 hl
      have := List.any_eq_false.1 hany a ha
      simp [e] at this
     have hlenF : (F c).length = (((Z5 w t c).map (Q1y w d)).foldl tupV [[]]).length := by rw [hFc, List.length_map]
     refine Ret.ctl (Z4 (Z5 w t c) (fun k s => s = ((((Z5 w t c).map (Q1y w d)).take k).foldl tupV [[]]).map (mkV c)) (fun _ => False) (fun s => s = F c) (by simp [mkV]) (fun k a u ha hJ => ?_) (fun s hJ => by rw [hJ, List.take_of_length_le (by simp), hFc])) (fun r hr => hr.elim) (fun u hu => ?_)
     ·have hk1 := Z7u hne (k + 1)
      have hk0 := Z7u hne k
      have hg : ((Z5 w t c).map (Q1y w d))[k]? = some (Q1y w d a) := by rw [List.getElem?_map, ha]; rfl
      have hp : 1 ≤ ((((Z5 w t c).map (Q1y w d)).take k).foldl tupV [[]]).length := W0e fun l hl => hne l (List.mem_of_mem_take hl)
      have ha1 : 1 ≤ (Q1y w d a).length := List.length_pos_iff.2 (hne _ (List.mem_of_getElem? hg))
      rw [Z30 hg, Z1o] at hk1
      have hva : (Q1y w d a).length ≤ 400 := by
       have := Nat.le_mul_of_pos_left (Q1y w d a).length hp
       omega
      rw [ih n a (hat _ (List.mem_of_getElem? ha)) (by omega) (by omega) hva]
      simp only [Option.bind_some]
      rw [Z30 hg]
      have hkl : ∀ ks ∈ (((Z5 w t c).map (Q1y w d)).take k).foldl tupV [[]], ks.length ≤ 3 := fun ks hks => by
       obtain ⟨x, y, hx, rfl, hl, _⟩ := Q9h _ _ _ hks
       simp only [List.mem_singleton] at hx
       subst hx
       simp only [List.length_take, List.length_map] at hl
       simp only [List.nil_append]
       omega
      generalize ((((Z5 w t c).map (Q1y w d)).take k).foldl tupV [[]]) = T at *
      generalize Q1y w d a = L at *
      refine Ret.ctl (Z4 u (fun j z => z = (tupV (T.take j) L).map (mkV c)) (fun _ => False) (fun z => z = (tupV T L).map (mkV c)) (by simp [tupV]) (fun j x z hx hK => ?_) (fun z hK => by rw [hK, hJ, List.length_map, List.take_length])) (fun r hr => hr.elim) (fun z hz => .some hz)
      rw [hJ, List.getElem?_map] at hx
      obtain ⟨ks, hks, rfl⟩ := Option.map_eq_some_iff.1 hx
      have hjl := (List.getElem?_eq_some_iff.1 hks).1
      have hks3 := hkl ks (List.mem_of_getElem? hks)
      have hnj : tupV (T.take (j + 1)) L = tupV (T.take j) L ++ L.map (fun c => ks ++ [c]) := by
       rw [List.take_add_one, hks]; simp [tupV]
      rw [hnj]
      refine Ret.ctl (Z4 L (fun i v => v = (tupV (T.take j) L ++ (L.take i).map (fun c => ks ++ [c])).map (mkV c)) (fun _ => False) (fun v => v = (tupV (T.take j) L ++ L.map (fun c => ks ++ [c])).map (mkV c)) (by simp [hK]) (fun i y v hy hM => ?_) (fun v hM => by rw [hM, List.take_length])) (fun r hr => hr.elim) (fun v hv => .some hv)
      simp only [mkV]
      rw [X59 _ (by simp only [Q8]; omega)]
      simp only [Option.bind_some]
      rw [V4 (by simp only [Q8, List.length_cons, List.length_nil]; omega)]
      simp only [Option.bind_some]
      have hil := (List.getElem?_eq_some_iff.1 hy).1
      have hvl : v.length ≤ 1000 * 1000 + 1000 := by
       rw [hM, List.length_map, List.length_append, Z1o, List.length_map, List.length_take, List.length_take]
       have := Nat.mul_le_mul (show min j T.length ≤ 1000 by omega) (show L.length ≤ 1000 by omega)
       omega
      rw [V4 (by simp only [Q8, List.length_cons, List.length_nil]; omega)]
      refine .some ?_
      simp only [Q33]
      rw [hM, List.take_add_one, hy]
      simp [mkV]
     ·have hsl : s.length ≤ 400 := by rw [hI]; omega
      dsimp only
      rw [V4 (by rw [hu]; simp only [Q8]; omega)]
      simp only [Option.bind_some]
      exact .some (by simp only [Z0j]; rw [hnext, hI, hu])
   ·cases o with
    | ret r => exact .some ho
    | brk s => exact .some ho
    | go s => exact ho.elim
theorem X42 {w : List Q3} (hw : WW w) {t : Q2} (ht : t ∈ tys w) {d : Nat} (hd : d ≤ 4) : Q1b NN w t (d : Int) = some (if (Q1y w d t).length ≤ 400 then (Q1y w d t, true) else ([], false)) := by
 suffices hs : Ret (Q1b NN w t (d : Int)) (fun r => r = if (Q1y w d t).length ≤ 400 then (Q1y w d t, true) else ([], false)) by
  obtain ⟨a, e, rfl⟩ := hs
  exact e
 unfold Q1b
 rw [Z2f hw ht]
 simp only [Option.bind_some, Bool.not_true, Bool.false_eq_true, if_false]
 rw [Q83]
 have e0 : (decide ((0 : Int) ≤ (d : Int)) && decide ((d : Int) ≤ 4)) = true := by simp only [Bool.and_eq_true, decide_eq_true_eq]; omega
 rw [e0]
 simp only [Option.bind_some, Bool.not_true, Bool.false_eq_true, if_false]
 rw [X2l hw d NN t ht (by simp only [NN]; omega) (by omega)]
 simp only [Option.bind_some]
 refine Ret.ite (fun h => ?_) (fun h => ?_)
 ·rw [W0] at h
  rw [if_neg (by omega)]
  exact .some rfl
 ·rw [Q06] at h
  have hl : (Q1y w d t).length ≤ 400 := by omega
  rw [if_pos hl, Z9a hw d NN t ht (by simp only [NN]; omega) (by omega) hl]
  simp only [Option.bind_some]
  refine Ret.ctl (Z4 (Q1y w d t) (fun i s => s = (Q1y w d t).take i) (fun _ => False) (fun s => s = Q1y w d t) (by simp) (fun i v s hv hI => ?_) (fun s hI => by rw [hI, List.take_length])) (fun r hr => hr.elim) (fun s hs => .some (by rw [hs]))
  have hg := X0h d t v (List.mem_of_getElem? hv)
  rw [Z5j d NN v (Z37 hw d t v ht hg) (by simp only [NN]; omega)]
  simp only [Option.bind_some]
  rw [V4 (by rw [hI]; simp only [List.length_take, List.length_cons, List.length_nil, Q8]; omega)]
  refine .some ?_
  simp only [Q33]
  rw [hI, List.take_add_one, hv]
  rfl
theorem Z7e {w : List Q3} (hw : WW w) {t : Q2} (ht : t ∈ tys w) {d : Int} (h1 : 1 ≤ d) (h3 : d ≤ 3) : ∃ r, Q1b NN w t d = some r ∧ r.1.length ≤ 400 ∧ ∀ v ∈ r.1, Q9g w t v = true ∧ Q0y w 4 t v := by
 obtain ⟨k, rfl⟩ : ∃ k : Nat, d = (k : Int) := ⟨d.toNat, by omega⟩
 refine ⟨_, X42 hw ht (by omega), ?_, fun v hv => ?_⟩
 ·split
  ·assumption
  ·simp
 ·split at hv
  ·have hg := X0h k t v hv
   exact ⟨X0y hw (by omega) ht hg, Z0f k 4 t v (by omega) hg⟩
  ·cases hv
end Go.Proofs.YtnackipaoepmfaaGreat
namespace Go.Proofs.YtnackipaoepmfaaGreat
open Go Go.RowKit
theorem rem3 (n : Nat) : ∃ d : Int, wadd .i64 1 (wrem (lenZ n) 3) = d ∧ 1 ≤ d ∧ d ≤ 3 := by
 refine ⟨_, rfl, ?_⟩
 have e : wrem (lenZ n) 3 = ((n % 3 : Nat) : Int) := by
  show Int.tmod _ _ = _
  simp only [lenZ]
  rw [Int.tmod_eq_emod_of_nonneg (by omega)]
  omega
 rw [e, Q0p (by omega) (by omega)]
 omega
theorem Q6i {w : List Q3} {t : Q2} {cs : List Q5} (h : Q3e w t cs = true) : cs.length ≤ 8 ∧ ∀ c ∈ cs, Y9 w t c.pat = true := by
 simp only [Q3e, Bool.and_eq_true, decide_eq_true_eq, List.all_eq_true] at h
 refine ⟨h.1, fun c hc => ?_⟩
 have := h.2 c hc
 simp only [Q49, Bool.and_eq_true] at this
 exact this.1
def runC (w : List Q3) (t : Q2) (l : List Q5) (v : Q4) : Int × List W4 × Bool :=
 if (Q3e w t l && Q9g w t v) = true then ((runR (runD v 0 l)).1, (runR (runD v 0 l)).2, true) else (-1, [], false)
theorem X67 {w : List Q3} (hw : WW w) {t : Q2} (ht : t ∈ tys w) (l : List Q5) (v : Q4) : Q28 NN w t l v = some (runC w t l v) := by
 unfold Q28 runC
 rw [Z12 hw ht l]
 simp only [Option.bind_some]
 cases hc : Q3e w t l with
 | false => simp
 | true =>
  simp only [Bool.not_true, Bool.false_eq_true, if_false, Bool.true_and]
  rw [X1p hw ht v]
  simp only [Option.bind_some]
  cases hv : Q9g w t v with
  | false => simp
  | true =>
   simp only [Bool.not_true, Bool.false_eq_true, if_false, if_true]
   rw [X8b hw ht (Q6i hc).2 (X3c hv) (by omega)]
   rfl
theorem W0y {w : List Q3} {t : Q2} {l : List Q5} {v : Q4} (hc : Q3e w t l = true) (hv : Q9g w t v = true) : runC w t l v = ((runR (runD v 0 l)).1, (runR (runD v 0 l)).2, true) := by
 unfold runC
 rw [hc, hv]; rfl
theorem Z0c {v : Q4} : ∀ {cs : List Q5} {k : Nat} {x : Nat × List W4}, runD v k cs = some x → ∃ i c b, cs[i]? = some c ∧ x.1 = k + i ∧ W6 10 c.pat v = some b ∧ Q6g c.guard b = true ∧ x.2 = Q9j b ∧ ∀ (j : Nat) (c' : Q5), j < i → cs[j]? = some c' → ∀ b', W6 10 c'.pat v = some b' → Q6g c'.guard b' = false
 | [], _, _, h => by cases h
 | c :: cs, k, x, h => by
  simp only [runD] at h
  cases hm : W6 10 c.pat v with
  | none =>
   rw [hm] at h
   obtain ⟨i, c1, b, h1, h2, h3, h4, h5, h6⟩ := Z0c h
   refine ⟨i + 1, c1, b, by simpa using h1, by omega, h3, h4, h5, fun j c' hj hc' b' hb' => ?_⟩
   cases j with
   | zero => simp only [List.getElem?_cons_zero, Option.some.injEq] at hc'; subst hc'; rw [hm] at hb'; cases hb'
   | succ j => exact h6 j c' (by omega) (by simpa using hc') b' hb'
  | some l =>
   rw [hm] at h
   simp only at h
   split at h
   ·rename_i hg
    cases h
    exact ⟨0, c, l, rfl, rfl, hm, hg, rfl, fun j c' hj => by omega⟩
   ·rename_i hg
    obtain ⟨i, c1, b, h1, h2, h3, h4, h5, h6⟩ := Z0c h
    refine ⟨i + 1, c1, b, by simpa using h1, by omega, h3, h4, h5, fun j c' hj hc' b' hb' => ?_⟩
    cases j with
    | zero => simp only [List.getElem?_cons_zero, Option.some.injEq] at hc'; subst hc'; rw [hm] at hb'; cases hb'; simpa using hg
    | succ j => exact h6 j c' (by omega) (by simpa using hc') b' hb'
theorem V4i {w : List Q3} (hw : WW w) {t : Q2} (ht : t ∈ tys w) {l : List Q5} (hl : ∀ c ∈ l, Y9 w t c.pat = true) {v : Q4} (hv : Q0y w 10 t v) : DB (runR (runD v 0 l)).2 := by
 cases h : runD v 0 l with
 | none => intro b hb; cases hb
 | some x =>
  obtain ⟨i, c, b, h1, _, h3, _, h5, _⟩ := Z0c h
  obtain ⟨g, _, ln⟩ := J2 (hl c (List.mem_of_getElem? h1))
  have hb := Z1d g ln h3
  intro y hy
  simp only [runR, h5] at hy
  obtain ⟨e', e1, e2⟩ := Z8e 10 c.pat 10 v b (Z37 hw 10 t v ht hv) h3 y ((Q84 hb.rg).mem_iff.1 hy)
  exact Z9r _ _ _ e1 e2
end Go.Proofs.YtnackipaoepmfaaGreat
namespace Go.Proofs.YtnackipaoepmfaaGreat
open Go Go.RowKit
theorem X2p {w : List Q3} {d x m : Nat} {t : Q2} (hm : 400 ≤ m) : ∀ (bs l r : List Q0), l.length ≤ m → Q57 w d x t l bs = some r → r.length ≤ m
 | [], l, r, h, e => by simp only [Q57, Option.some.injEq] at e; subst e; exact h
 | b :: bs, l, r, h, e => by
  simp only [Q57] at e
  split at e
  ·cases e
  ·exact X2p hm bs _ r (by omega) e
theorem Z3q {w : List Q3} {d x m : Nat} {t : Q2} {l bs r : List Q0} (hm : 400 ≤ m) (h : l.length ≤ m) (e : Q3c w d x t l bs = some r) : r.length ≤ m :=
 X2p hm bs _ r (by have := Z99 w x t l; omega) e
theorem X5k {α : Type} {l : List α} {k : Nat} (h : k ≤ l.length) : Q7k l (k : Int) = some (l.take k) := by
 unfold Q7k
 rw [if_pos ⟨by omega, by omega⟩]
 simp
theorem Z5v {w : List Q3} (hww : w ∈ Q15) (hw : WW w) (he : WE w) {t : Q2} (ht : t ∈ tys w) {ps : List Q0} (hp : ∀ p ∈ ps, Z3 w 10 t p ∧ cntP p ≤ 130) (hl : ps.length ≤ 1600) :
  Q0c NN ⟨w, dimP w⟩ t ps = some (optR (sepP w t [] ps)) := by
 suffices hs : Ret (Q0c NN ⟨w, dimP w⟩ t ps) (fun r => r = optR (sepP w t [] ps)) by
  obtain ⟨a, e, rfl⟩ := hs
  exact e
 unfold Q0c
 refine Ret.ctl (Z4 ps (fun k s => s.length ≤ 400 * k ∧ sepP w t [] ps = (sepP w t (ps.take k) (ps.drop k)).map (s ++ ·)) (fun r => r = ([], false) ∧ sepP w t [] ps = none) (fun s => sepP w t [] ps = some s) ⟨by simp, by simp⟩ (fun k p s hp' hI => ?_) (fun s hI => ?_)) (fun r hr => .some (by rw [hr.1, hr.2]; rfl)) (fun s hs => .some (by rw [hs]; rfl))
 ·obtain ⟨hsl, hI⟩ := hI
  have hk := (List.getElem?_eq_some_iff.1 hp').1
  have hpm := hp p (List.mem_of_getElem? hp')
  rw [X5k (by omega)]
  simp only [Option.bind_some]
  rw [Z7d hww hw he (d := 10) (x := 11) ht (by omega) (by omega) (fun b hb => hp b (List.mem_of_mem_take hb)) (fun a ha => by simp only [List.mem_singleton] at ha; rw [ha]; exact Q50 10 t p hpm.1) (by simp) (by simp only [NN]; omega)]
  simp only [Option.bind_some]
  rw [Z6p hp'] at hI
  simp only [sepP] at hI
  cases hm : Q3c w 10 11 t [p] (ps.take k) with
  | none =>
   rw [hm] at hI
   simp only [Option.bind_none, Option.map_none] at hI
   simp only [optR, Bool.not_false, if_true]
   exact .some ⟨rfl, hI⟩
  | some m =>
   rw [hm] at hI
   have hml := Z3q (m := 400) (Nat.le_refl _) (by simp) hm
   simp only [optR, Bool.not_true, Bool.false_eq_true, if_false]
   rw [V4 (by simp only [Q8]; omega)]
   refine .some ⟨by simp only [List.length_append]; omega, ?_⟩
   rw [hI]
   simp only [Option.bind_some, Option.map_map]
   rw [List.take_add_one, hp']
   simp only [Option.toList_some]
   congr 1
   funext z
   simp
 ·obtain ⟨_, hI⟩ := hI
  rw [List.drop_length, sepP] at hI
  simpa using hI
end Go.Proofs.YtnackipaoepmfaaGreat
namespace Go.Proofs.YtnackipaoepmfaaGreat
open Go Go.RowKit
def Disj (w : List Q3) (t : Q2) (x y : Q0) : Prop := ∀ (e : Nat) (v : Q4), Q0y w e t v → fitP x v = true → fitP y v = true → False
def V0w (w : List Q3) (ts : List Q2) (xs ys : List Q0) : Prop := ∀ (e : Nat) (vs : List Q4), vs.length = ts.length → (∀ (j : Nat) (t : Q2) (v : Q4), ts[j]? = some t → vs[j]? = some v → Q0y w e t v) → fitL xs vs = true → fitL ys vs = true → False
theorem W1p {w : List Q3} {fm : Q2 → Q0 → Q0 → List Q0} {fj : Q0 → Q0 → Option Q0} : ∀ (ts : List Q2) (as bs : List Q0), as.length = ts.length → bs.length = ts.length →
  (∀ (j : Nat) (t : Q2) (a b : Q0), ts[j]? = some t → as[j]? = some a → bs[j]? = some b → (fm t a b).Pairwise (Disj w t) ∧ ∀ (e : Nat) (v : Q4), Q0y w e t v → (∀ y ∈ fm t a b, fitP y v = true → fitP b v = false) ∧ ∀ m, fj a b = some m → fitP m v = true → fitP b v = true) →
  (kmD fm fj ts as bs).Pairwise (V0w w ts)
 | [], as, bs, _, _, _ => by simp [kmD]
 | t :: ts, a :: as, b :: bs, h1, h2, h => by
  obtain ⟨g1, g2⟩ := h 0 t a b rfl rfl rfl
  have ih := W1p ts as bs (by simpa using h1) (by simpa using h2) fun j t a b e1 e2 e3 => h (j + 1) t a b (by simpa using e1) (by simpa using e2) (by simpa using e3)
  simp only [kmD]
  rw [List.pairwise_append]
  have split2 : ∀ (x y : Q0) (xs ys : List Q0), (Disj w t x y ∨ V0w w ts xs ys) → V0w w (t :: ts) (x :: xs) (y :: ys) := fun x y xs ys hd e vs hl hg hx hy => by
   cases vs with
   | nil => simp at hl
   | cons v vs =>
    rw [Q4m, Bool.and_eq_true] at hx hy
    rcases hd with hd | hd
    ·exact hd e v (hg 0 t v rfl rfl) hx.1 hy.1
    ·exact hd e vs (by simpa using hl) (fun j t v e1 e2 => hg (j + 1) t v (by simpa using e1) (by simpa using e2)) hx.2 hy.2
  refine ⟨?_, ?_, ?_⟩
  ·rw [List.pairwise_map]
   exact g1.imp fun {x y} hd => split2 x y as as (.inl hd)
  ·cases hm : fj a b with
   | none => exact List.Pairwise.nil
   | some m =>
    simp only
    rw [List.pairwise_map]
    exact ih.imp fun {x y} hd => split2 m m x y (.inr hd)
  ·intro x hx y hy
   obtain ⟨x0, hx0, rfl⟩ := List.mem_map.1 hx
   cases hm : fj a b with
   | none => rw [hm] at hy; cases hy
   | some m =>
    rw [hm] at hy
    simp only at hy
    obtain ⟨y0, _, rfl⟩ := List.mem_map.1 hy
    refine split2 x0 m as y0 (.inl fun e v hv f1 f2 => ?_)
    obtain ⟨q1, q2⟩ := g2 e v hv
    have := q1 x0 hx0 f1
    rw [q2 m hm f2] at this
    cases this
 | _ :: _, [], _, h, _, _ => by simp at h
 | _ :: _, _ :: _, [], _, h, _ => by simp at h
theorem W8l {w : List Q3} {fm : Q2 → Q0 → Q0 → List Q0} {fj : Q0 → Q0 → Option Q0} {t : Q2} {a b y : Q0} (ha : a.op = 4) (hy : y ∈ cmD w fm fj t a b) : y.op = 4 ∧ y.ctor = a.ctor := by
 unfold cmD at hy
 split at hy
 ·obtain ⟨ks, _, rfl⟩ := List.mem_map.1 hy
  exact ⟨rfl, rfl⟩
 ·simp only [List.mem_singleton] at hy
  subst hy
  exact ⟨ha, rfl⟩
theorem W33 {w : List Q3} {d x : Nat} (hM : ∀ (t : Q2) (a b : Q0) (x : Nat), t ∈ tys w → Z3 w x t a → Z3 w d t b → (X5 w d t a b).Pairwise (Disj w t)) {t : Q2} {c c' : Int} {ks ks' : List Q0} (hat : ∀ a ∈ Z5 w t c, a ∈ tys w) (ht : t.data ≠ -1)
  (hl : ks.length = (Z5 w t c).length) (hk : ∀ (j : Nat) (a : Q2) (q : Q0), (Z5 w t c)[j]? = some a → ks[j]? = some q → Z3 w x a q)
  (hl' : ks'.length = (Z5 w t c').length) (hk' : ∀ (j : Nat) (a : Q2) (q : Q0), (Z5 w t c')[j]? = some a → ks'[j]? = some q → Z3 w d a q) :
  (cmD w (X5 w d) (W3 d) t (Q0.mk 4 c 0 0 0 ks) (Q0.mk 4 c' 0 0 0 ks')).Pairwise (Disj w t) := by
 unfold cmD
 by_cases hc : c = c'
 ·subst hc
  simp only [if_true]
  rw [List.pairwise_map]
  refine (W1p (w := w) (Z5 w t c) ks ks' hl hl' fun j u a b e1 e2 e3 => ⟨hM u a b x (hat u (List.mem_of_getElem? e1)) (hk j u a e1 e2) (hk' j u b e1 e3), fun e v hv => ⟨fun y hy hf => ?_, fun m hm hf => ?_⟩⟩).imp fun {xs ys} hd e v hv h1 h2 => ?_
  ·exact ((Q9t d e u a b x (hk j u a e1 e2) (hk' j u b e1 e3) v hv).2 ⟨y, hy, hf⟩).2
  ·exact ((Z4r d e u a b x (hk j u a e1 e2) (hk' j u b e1 e3) v hv).2 ⟨m, hm, hf⟩).2
  ·rw [Q0s rfl, Bool.and_eq_true, decide_eq_true_eq] at h1 h2
   obtain ⟨e', rfl, _, g2, g3⟩ := Q69 hv ht
   have hcv : c = v.ctor := h1.1
   rw [← hcv] at g2 g3
   exact hd e' v.kids g2 (fun j u x e1 e2 => g3 j u x e1 e2) h1.2 h2.2
 ·simp only [if_neg hc, List.pairwise_cons, List.not_mem_nil, false_implies, implies_true, List.Pairwise.nil, and_self]
theorem X13 {w : List Q3} {t : Q2} {n m n' m' : Int} (h : n' ≤ m') : (Z0n n m n' m').Pairwise (Disj w t) := by
 have hd : Disj w t (Q0.mk 3 0 n (min m (n' - 1)) 0 []) (Q0.mk 3 0 (max n (m' + 1)) m 0 []) := fun e v _ h1 h2 => by
  rw [Q5f rfl, decide_eq_true_eq] at h1 h2
  simp only at h1 h2
  omega
 unfold Z0n
 split <;> split <;> simp [hd]
theorem X86 {w : List Q3} (hw : WW w) (he : WE w) : ∀ (d : Nat) (t : Q2) (a b : Q0) (x : Nat), t ∈ tys w → Z3 w x t a → Z3 w d t b → (X5 w d t a b).Pairwise (Disj w t) := by
 intro d
 induction d with
 | zero => intro t a b x _ _ h; exact h.elim
 | succ d ih =>
  intro t a b x ht ha hb
  cases x with
  | zero => exact ha.elim
  | succ x =>
  rcases hb with rfl | ⟨n', m', rfl, ht', g0, g1, g2⟩ | ⟨c', ks', rfl, ht', hc', hl', hk'⟩
  ·simp [X5]
  ·have e1 : ¬ (3 : Int) = 1 := by decide
   simp only [X5, e1, if_false, if_true]
   split
   ·exact X13 g1
   ·exact X13 g1
  ·have e1 : ¬ (4 : Int) = 1 := by decide
   have e3 : ¬ (4 : Int) = 3 := by decide
   simp only [X5, e1, e3, if_false]
   rcases ha with rfl | ⟨n, m, rfl, ht2, _⟩ | ⟨c, ks, rfl, _, hc, hl, hk⟩
   ·simp only [if_true]
    rw [List.pairwise_flatMap]
    refine ⟨fun c hc => ?_, ?_⟩
    ·exact W33 (x := 1) ih ((hw.ty t ht).at_ c hc) ht' (by simp) (fun j a q ha hq => by
      rw [List.getElem?_map, ha] at hq
      cases hq
      exact Q8q w 0 a) hl' hk'
    ·refine (he.nd t ht).imp fun {c1 c2} hne y hy z hz e v hv f1 f2 => ?_
     obtain ⟨a1, a2⟩ := W8l (a := Q4x w t c1) rfl hy
     obtain ⟨b1, b2⟩ := W8l (a := Q4x w t c2) rfl hz
     rw [Q0s a1, Bool.and_eq_true, decide_eq_true_eq] at f1
     rw [Q0s b1, Bool.and_eq_true, decide_eq_true_eq] at f2
     have h1 : y.ctor = c1 := a2
     have h2 : z.ctor = c2 := b2
     exact hne (by rw [← h1, ← h2, f1.1, f2.1])
   ·exact absurd ht2 ht'
   ·simp only [e1, if_false]
    exact W33 ih ((hw.ty t ht).at_ c hc) ht' hl hk hl' hk'
theorem W70 {w : List Q3} {t : Q2} {a b x y : Q0} (h : Disj w t a b) (hx : ∀ e v, Q0y w e t v → fitP x v = true → fitP a v = true) (hy : ∀ e v, Q0y w e t v → fitP y v = true → fitP b v = true) : Disj w t x y :=
 fun e v hv h1 h2 => h e v hv (hx e v hv h1) (hy e v hv h2)
theorem W0i {w : List Q3} (hw : WW w) (he : WE w) {d x : Nat} {t : Q2} (ht : t ∈ tys w) {b : Q0} (hb : Z3 w d t b) {l : List Q0} (h : ∀ a ∈ l, Z3 w x t a) (hd : l.Pairwise (Disj w t)) : (Q2k w d x t l b).Pairwise (Disj w t) := by
 unfold Q2k Q62
 refine List.Pairwise.filter _ ?_
 rw [List.pairwise_flatMap]
 refine ⟨fun a ha => X86 hw he d t a b x ht (h a ha) hb, ?_⟩
 have hall : ∀ l : List Q0, (∀ a ∈ l, Z3 w x t a) → l.Pairwise (Disj w t) → l.Pairwise (fun a₁ a₂ => ∀ y ∈ X5 w d t a₁ b, ∀ z ∈ X5 w d t a₂ b, Disj w t y z) := by
  intro l
  induction l with
  | nil => intro _ _; exact List.Pairwise.nil
  | cons a l ih =>
   intro h hd
   rw [List.pairwise_cons] at hd ⊢
   refine ⟨fun a2 ha2 y hy z hz => W70 (hd.1 a2 ha2) (fun e v hv hf => ?_) (fun e v hv hf => ?_), ih (fun a ha => h a (by simp [ha])) hd.2⟩
   ·exact ((Q9t d e t a b x (h a (by simp)) hb v hv).2 ⟨y, hy, hf⟩).1
   ·exact ((Q9t d e t a2 b x (h a2 (by simp [ha2])) hb v hv).2 ⟨z, hz, hf⟩).1
 exact hall l h hd
theorem X2r {w : List Q3} (hw : WW w) (he : WE w) {d x : Nat} {t : Q2} (ht : t ∈ tys w) (hx : d + 1 ≤ x) : ∀ (bs l r : List Q0), (∀ b ∈ bs, Z3 w d t b) → (∀ a ∈ l, Z3 w x t a) → l.Pairwise (Disj w t) → Q57 w d x t l bs = some r → r.Pairwise (Disj w t)
 | [], l, r, _, _, hd, e => by simp only [Q57, Option.some.injEq] at e; subst e; exact hd
 | b :: bs, l, r, hb, h, hd, e => by
  simp only [Q57] at e
  split at e
  ·cases e
  ·exact X2r hw he ht hx bs _ r (fun b hb' => hb b (by simp [hb'])) (Q72 hx (hb b (by simp)) h) (W0i hw he ht (hb b (by simp)) h hd) e
theorem X0f {w : List Q3} (hw : WW w) (he : WE w) {d x : Nat} {t : Q2} (ht : t ∈ tys w) (hx : d + 1 ≤ x) {l bs r : List Q0} (hb : ∀ b ∈ bs, Z3 w d t b) (h : ∀ a ∈ l, Z3 w x t a) (hd : l.Pairwise (Disj w t)) (e : Q3c w d x t l bs = some r) : r.Pairwise (Disj w t) :=
 X2r hw he ht hx bs _ r hb (fun a ha => h a (List.mem_filter.1 ha).1) (hd.filter _) e
theorem X5p {w : List Q3} (hw : WW w) (he : WE w) {t : Q2} (ht : t ∈ tys w) : ∀ (ps bef r : List Q0), (∀ b ∈ bef, Z3 w 10 t b) → (∀ p ∈ ps, Z3 w 10 t p) → sepP w t bef ps = some r → r.Pairwise (Disj w t)
 | [], _, r, _, _, e => by simp only [sepP, Option.some.injEq] at e; subst e; exact List.Pairwise.nil
 | p :: ps, bef, r, hb, hp, e => by
  simp only [sepP] at e
  cases hm : Q3c w 10 11 t [p] bef with
  | none => rw [hm] at e; simp at e
  | some m =>
   rw [hm] at e
   simp only [Option.bind_some, Option.map_eq_some_iff] at e
   obtain ⟨r2, h2, rfl⟩ := e
   have hp1 : ∀ a ∈ [p], Z3 w 11 t a := fun a ha => by simp only [List.mem_singleton] at ha; rw [ha]; exact Q50 10 t p (hp p (by simp))
   have hb2 : ∀ b ∈ bef ++ [p], Z3 w 10 t b := fun b hb' => by
    rcases List.mem_append.1 hb' with h | h
    ·exact hb b h
    ·simp only [List.mem_singleton] at h; rw [h]; exact hp p (by simp)
   rw [List.pairwise_append]
   refine ⟨X0f hw he ht (by omega) hb hp1 (List.pairwise_singleton _ _) hm, X5p hw he ht ps _ r2 hb2 (fun q hq => hp q (by simp [hq])) h2, fun y hy z hz e v hv f1 f2 => ?_⟩
   obtain ⟨⟨a, ha, haf⟩, _⟩ := (Z50 hw he ht (by omega) hv hb hp1 hm).1 ⟨y, hy, f1⟩
   simp only [List.mem_singleton] at ha
   subst ha
   have := ((X3k hw he ht hv ps _ r2 hb2 (fun q hq => hp q (by simp [hq])) h2).1 ⟨z, hz, f2⟩).2 a (by simp)
   rw [haf] at this
   cases this
theorem X9d {w : List Q3} {t : Q2} {e : Nat} {C : List Q4} (hC : ∀ v ∈ C, Q0y w e t v) {l : List Q0} (hd : l.Pairwise (Disj w t)) (h : ∀ p ∈ l, ∃ v ∈ C, fitP p v = true) : l.length ≤ C.length := by
 have key : ∀ (l : List Q0), l.Pairwise (Disj w t) → (∀ p ∈ l, ∃ v ∈ C, fitP p v = true) → ∃ js : List Int, js.length = l.length ∧ js.Nodup ∧ ∀ j ∈ js, ∃ k : Nat, j = (k : Int) ∧ ∃ v, C[k]? = some v ∧ ∃ p ∈ l, fitP p v = true := by
  intro l
  induction l with
  | nil => intro _ _; exact ⟨[], rfl, List.nodup_nil, fun j h => by cases h⟩
  | cons p l ih =>
   intro hd h
   rw [List.pairwise_cons] at hd
   obtain ⟨js, h1, h2, h3⟩ := ih hd.2 fun q hq => h q (by simp [hq])
   obtain ⟨v, hv, hf⟩ := h p (by simp)
   obtain ⟨k, hk⟩ := List.mem_iff_getElem?.1 hv
   refine ⟨(k : Int) :: js, by simp [h1], List.nodup_cons.2 ⟨fun hm => ?_, h2⟩, fun j hj => ?_⟩
   ·obtain ⟨k', e1, v', e2, q, hq, hqf⟩ := h3 _ hm
    have : k = k' := by omega
    subst this
    rw [hk] at e2
    cases e2
    exact hd.1 q hq e v (hC v hv) hf hqf
   ·rcases List.mem_cons.1 hj with rfl | hj
    ·exact ⟨k, rfl, v, hk, p, by simp, hf⟩
    ·obtain ⟨k', e1, v', e2, q, hq, hqf⟩ := h3 j hj
     exact ⟨k', e1, v', e2, q, by simp [hq], hqf⟩
 obtain ⟨js, h1, h2, h3⟩ := key l hd h
 rw [← h1]
 refine Z5m C.length js h2 fun j hj => ?_
 obtain ⟨k, rfl, v, hv, _⟩ := h3 j hj
 have := (List.getElem?_eq_some_iff.1 hv).1
 omega
end Go.Proofs.YtnackipaoepmfaaGreat
namespace Go.Proofs.YtnackipaoepmfaaGreat
open Go Go.RowKit
def X1n (w : List Q3) : Nat → Q2 → Q4
 | 0, _ => ⟨0, 0, []⟩
 | d + 1, t => if t.data = -1 then ⟨-1, 0, []⟩ else match (Z7 w t).find? (fun c => decide (Q51 w t c = depP w t)) with
  | none => ⟨0, 0, []⟩
  | some c => ⟨c, 0, (Z5 w t c).map (X1n w d)⟩
def Z0o (w : List Q3) (t : Q2) : List Q4 := if t.data = -1 then (List.range 10).map numV else
 ((Z7 w t).filter fun c => (Z5 w t c).all fun a => decide (depP w a ≠ 0)).map fun c => ⟨c, 0, (Z5 w t c).map (X1n w 5)⟩
def Z7c (w : List Q3) (t : Q2) : List Q4 := if t.data = -1 then (List.range 10).map numV else
 (Z7 w t).flatMap fun c => (((Z5 w t c).map (Z0o w)).foldl tupV [[]]).map (mkV c)
def V4r (l : List Nat) : Nat := l.foldl (fun a b => a * max 1 b) 1
def chkR (w : List Q3) : Bool := (tys w).all fun t => (decide (depP w t = 0) || Q5z w 10 t (X1n w 5 t)) && (decide ((Z7c w t).length ≤ 400) && (Z7 w t).all fun c => decide (V4r ((Z5 w t c).map fun a => (Z0o w a).length) ≤ 400))
theorem V9x : Q15.all chkR = true := by kernel_rfl
structure WR (w : List Q3) : Prop where
 least : ∀ t ∈ tys w, depP w t ≠ 0 → Q0y w 10 t (X1n w 5 t)
 n2 : ∀ t ∈ tys w, (Z7c w t).length ≤ 400
 n1 : ∀ t ∈ tys w, ∀ c ∈ Z7 w t, V4r ((Z5 w t c).map fun a => (Z0o w a).length) ≤ 400
theorem wr {w : List Q3} (h : w ∈ Q15) : WR w := by
 have h1 := List.all_eq_true.1 V9x w h
 simp only [chkR, List.all_eq_true, Bool.and_eq_true, Bool.or_eq_true, decide_eq_true_eq] at h1
 exact ⟨fun t ht h0 => (Z38 10 t _).1 (((h1 t ht).1).resolve_left h0), fun t ht => (h1 t ht).2.1, fun t ht c hc => (h1 t ht).2.2 c hc⟩
def hgt1 (p : Q0) : Prop := p.op = 1 ∨ p.op = 3 ∨ (p.op = 4 ∧ ∀ q ∈ p.kids, q.op = 1)
def hgt2 (p : Q0) : Prop := p.op = 1 ∨ p.op = 3 ∨ (p.op = 4 ∧ ∀ q ∈ p.kids, hgt1 q)
theorem V57 {p : Q0} (h : hgt1 p) : hgt2 p := by
 rcases h with h | h | h
 ·exact .inl h
 ·exact .inr (.inl h)
 ·exact .inr (.inr ⟨h.1, fun q hq => .inl (h.2 q hq)⟩)
theorem Z5p : ∀ (ls : List (List Q4)) (out : List (List Q4)) (o vs : List Q4), o ∈ out → vs.length = ls.length → (∀ (j : Nat) (v : Q4) (l : List Q4), vs[j]? = some v → ls[j]? = some l → v ∈ l) → o ++ vs ∈ ls.foldl tupV out
 | [], out, o, [], ho, _, _ => by simpa using ho
 | l :: ls, out, o, v :: vs, ho, hl, h => by
  rw [List.foldl_cons]
  have := Z5p ls (tupV out l) (o ++ [v]) vs (List.mem_flatMap.2 ⟨o, ho, List.mem_map.2 ⟨v, h 0 v l rfl rfl, rfl⟩⟩) (by simpa using hl) fun j v l h1 h2 => h (j + 1) v l (by simpa using h1) (by simpa using h2)
  simpa using this
 | [], _, _, _ :: _, _, h, _ => by simp at h
 | _ :: _, _, _, [], _, h, _ => by simp at h
theorem V06 {ps : List Q0} : ∀ {vs : List Q4}, ps.length = vs.length → (∀ (j : Nat) (p : Q0) (v : Q4), ps[j]? = some p → vs[j]? = some v → fitP p v = true) → fitL ps vs = true := by
 induction ps with
 | nil => intro vs h _; cases vs with
  | nil => exact Z4w
  | cons v vs => simp at h
 | cons p ps ih =>
  intro vs h hf
  cases vs with
  | nil => simp at h
  | cons v vs =>
   rw [Q4m, Bool.and_eq_true]
   exact ⟨hf 0 p v rfl rfl, ih (by simpa using h) fun j p v h1 h2 => hf (j + 1) p v (by simpa using h1) (by simpa using h2)⟩
theorem Z9h {w : List Q3} {e : Nat} {t : Q2} {c : Int} {vs : List Q4} (hd : t.data ≠ -1) (hc : c ∈ Z7 w t) (hl : vs.length = (Z5 w t c).length) (h : ∀ (j : Nat) (a : Q2) (x : Q4), (Z5 w t c)[j]? = some a → vs[j]? = some x → Q0y w e a x) : Q0y w (e + 1) t ⟨c, 0, vs⟩ := by
 rw [Q0y, if_neg hd]
 exact ⟨rfl, hc, hl, h⟩
theorem Z96 {w : List Q3} {e : Nat} {t : Q2} (hd : t.data = -1) {n : Nat} (hn : n < 10) : Q0y w (e + 1) t (numV n) := by
 rw [Q0y, if_pos hd]
 exact ⟨rfl, by simp only [numV]; omega, by simp only [numV]; omega, rfl⟩
theorem Z84 {w : List Q3} (hw : WW w) (hr : WR w) {t : Q2} (ht : t ∈ tys w) {v : Q4} (hv : v ∈ Z0o w t) : Q0y w 11 t v := by
 unfold Z0o at hv
 split at hv
 ·rename_i hd
  obtain ⟨n, hn, rfl⟩ := List.mem_map.1 hv
  exact Z96 hd (List.mem_range.1 hn)
 ·rename_i hd
  obtain ⟨c, hc, rfl⟩ := List.mem_map.1 hv
  obtain ⟨h1, h2⟩ := List.mem_filter.1 hc
  refine Z9h hd h1 (by simp) fun j a x ha hx => ?_
  rw [List.getElem?_map, ha] at hx
  simp only [Option.map_some, Option.some.injEq] at hx
  subst hx
  have ham := List.mem_of_getElem? ha
  exact hr.least a ((hw.ty t ht).at_ c h1 a ham) (by simpa using List.all_eq_true.1 h2 a ham)
theorem X7w {w : List Q3} (hw : WW w) (hr : WR w) {t : Q2} (ht : t ∈ tys w) {v : Q4} (hv : v ∈ Z7c w t) : Q0y w 12 t v := by
 unfold Z7c at hv
 split at hv
 ·rename_i hd
  obtain ⟨n, hn, rfl⟩ := List.mem_map.1 hv
  exact Z96 hd (List.mem_range.1 hn)
 ·rename_i hd
  obtain ⟨c, hc, hv⟩ := List.mem_flatMap.1 hv
  obtain ⟨ks, hks, rfl⟩ := List.mem_map.1 hv
  obtain ⟨a, b, ha, rfl, hl, hb⟩ := Q9h _ _ _ hks
  simp only [List.mem_singleton] at ha
  subst ha
  simp only [List.length_map] at hl
  refine Z9h hd hc (by simpa using hl) fun j u x hu hx => ?_
  exact Z84 hw hr ((hw.ty t ht).at_ c hc u (List.mem_of_getElem? hu)) (hb j x (Z0o w u) (by simpa using hx) (by rw [List.getElem?_map, hu]; rfl))
theorem rep1 {w : List Q3} (hw : WW w) {t : Q2} (ht : t ∈ tys w) {d : Nat} {p : Q0} (hp : Z3 w d t p) (h1 : hgt1 p) (he : W7 w d t p = false) : ∃ v ∈ Z0o w t, fitP p v = true := by
 have hT := hw.ty t ht
 cases d with
 | zero => exact hp.elim
 | succ d =>
 rcases hp with rfl | ⟨n, m, rfl, hd, g0, g1, g2⟩ | ⟨c, ks, rfl, hd, hc, hl, hk⟩
 ·simp only [W7, if_true, decide_eq_false_iff_not] at he
  unfold Z0o
  split
  ·exact ⟨numV 0, List.mem_map_of_mem (List.mem_range.2 (by omega)), Q5g rfl _⟩
  ·rename_i hd
   obtain ⟨k, hk, hm⟩ := hT.dm hd he
   exact ⟨_, List.mem_map_of_mem (List.mem_filter.2 ⟨hk, List.all_eq_true.2 fun a ha => by
    have := (hT.ma k hk (by omega) a ha).1
    simp only [ne_eq, decide_not, Bool.not_eq_true', decide_eq_false_iff_not]; omega⟩), Q5g rfl _⟩
 ·unfold Z0o
  rw [if_pos hd]
  refine ⟨numV n.toNat, List.mem_map_of_mem (List.mem_range.2 (by omega)), ?_⟩
  rw [Q5f rfl, decide_eq_true_eq]
  simp only [numV]
  omega
 ·unfold Z0o
  rw [if_neg hd]
  have hks : ∀ q ∈ ks, q.op = 1 := by
   rcases h1 with h | h | h
   ·simp at h
   ·simp at h
   ·exact h.2
  refine ⟨⟨c, 0, (Z5 w t c).map (X1n w 5)⟩, List.mem_map.2 ⟨c, List.mem_filter.2 ⟨hc, List.all_eq_true.2 fun a ha => ?_⟩, rfl⟩, ?_⟩
  ·obtain ⟨j, hj⟩ := List.mem_iff_getElem?.1 ha
   have hjl := (List.getElem?_eq_some_iff.1 hj).1
   have hq : ks[j]? = some (ks[j]'(by omega)) := by simp
   simp only [ne_eq, decide_not, Bool.not_eq_true', decide_eq_false_iff_not]
   intro h0
   have : W7 w (d + 1) t (Q0.mk 4 c 0 0 0 ks) = true := Q47.2 ⟨j, a, _, hj, hq, by
    cases d with
    | zero => exact (hk j a _ hj hq).elim
    | succ d => rw [W7, if_pos (hks _ (List.mem_of_getElem? hq))]; simpa using h0⟩
   rw [he] at this
   cases this
  ·rw [Q0s rfl, Bool.and_eq_true, decide_eq_true_eq]
   exact ⟨rfl, V06 (by simp only [List.length_map]; exact hl) fun j q v hq _ => Q5g (hks q (List.mem_of_getElem? hq)) v⟩
theorem rep2 {w : List Q3} (hw : WW w) {t : Q2} (ht : t ∈ tys w) {d : Nat} {p : Q0} (hp : Z3 w d t p) (h2 : hgt2 p) (he : W7 w d t p = false) : ∃ v ∈ Z7c w t, fitP p v = true := by
 have hT := hw.ty t ht
 cases d with
 | zero => exact hp.elim
 | succ d =>
 have ctor : ∀ (d : Nat) (c : Int) (ks : List Q0), t.data ≠ -1 → c ∈ Z7 w t → ks.length = (Z5 w t c).length → (∀ (j : Nat) (a : Q2) (q : Q0), (Z5 w t c)[j]? = some a → ks[j]? = some q → Z3 w d a q ∧ hgt1 q ∧ W7 w d a q = false) → ∃ v ∈ Z7c w t, fitP (Q0.mk 4 c 0 0 0 ks) v = true := fun d c ks hd hc hl hk => by
  have gen : ∀ (ts : List Q2) (ks : List Q0), ks.length = ts.length → (∀ a ∈ ts, a ∈ tys w) → (∀ (j : Nat) (a : Q2) (q : Q0), ts[j]? = some a → ks[j]? = some q → Z3 w d a q ∧ hgt1 q ∧ W7 w d a q = false) →
    ∃ vs : List Q4, vs.length = ts.length ∧ (∀ (j : Nat) (v : Q4) (l : List Q4), vs[j]? = some v → (ts.map (Z0o w))[j]? = some l → v ∈ l) ∧ fitL ks vs = true := by
   intro ts
   induction ts with
   | nil => intro ks hl _ _; exact ⟨[], rfl, fun j v l h => by simp at h, by cases ks with
     | nil => exact Z4w
     | cons k ks => simp at hl⟩
   | cons a ts ih =>
    intro ks hl hat hk
    cases ks with
    | nil => simp at hl
    | cons q ks =>
     obtain ⟨vs, e1, e2, e3⟩ := ih ks (by simpa using hl) (fun x hx => hat x (by simp [hx])) fun j a q h1 h2 => hk (j + 1) a q (by simpa using h1) (by simpa using h2)
     obtain ⟨g1, g2, g3⟩ := hk 0 a q rfl rfl
     obtain ⟨v, hv, hf⟩ := rep1 hw (hat a (by simp)) g1 g2 g3
     refine ⟨v :: vs, by simp [e1], fun j x l h1 h2 => ?_, by rw [Q4m, hf, e3]; rfl⟩
     cases j with
     | zero => simp only [List.getElem?_cons_zero, List.map_cons, Option.some.injEq] at h1 h2; subst h1 h2; exact hv
     | succ j => exact e2 j x l (by simpa using h1) (by simpa using h2)
  obtain ⟨vs, e1, e2, e3⟩ := gen _ ks hl (hT.at_ c hc) hk
  refine ⟨mkV c vs, ?_, by rw [Q0s rfl]; simp [mkV, e3]⟩
  unfold Z7c
  rw [if_neg hd]
  refine List.mem_flatMap.2 ⟨c, hc, List.mem_map_of_mem ?_⟩
  have := Z5p ((Z5 w t c).map (Z0o w)) [[]] [] vs (by simp) (by simpa using e1) e2
  simpa using this
 rcases hp with rfl | ⟨n, m, rfl, hd, g0, g1, g2⟩ | ⟨c, ks, rfl, hd, hc, hl, hk⟩
 ·simp only [W7, if_true, decide_eq_false_iff_not] at he
  by_cases hd : t.data = -1
  ·unfold Z7c
   rw [if_pos hd]
   exact ⟨numV 0, List.mem_map_of_mem (List.mem_range.2 (by omega)), Q5g rfl _⟩
  ·obtain ⟨k, hk, hm⟩ := hT.dm hd he
   obtain ⟨v, hv, _⟩ := ctor 1 k ((Z5 w t k).map fun _ => Q0.mk 1 0 0 0 0 []) hd hk (by simp) fun j a q ha hq => by
    rw [List.getElem?_map, ha] at hq
    simp only [Option.map_some, Option.some.injEq] at hq
    subst hq
    refine ⟨Q8q w 0 a, .inl rfl, ?_⟩
    have := (hT.ma k hk (by omega) a (List.mem_of_getElem? ha)).1
    simp only [W7, if_true, decide_eq_false_iff_not]
    omega
   exact ⟨v, hv, Q5g rfl _⟩
 ·unfold Z7c
  rw [if_pos hd]
  refine ⟨numV n.toNat, List.mem_map_of_mem (List.mem_range.2 (by omega)), ?_⟩
  rw [Q5f rfl, decide_eq_true_eq]
  simp only [numV]
  omega
 ·have hks : ∀ q ∈ ks, hgt1 q := by
   rcases h2 with h | h | h
   ·simp at h
   ·simp at h
   ·exact h.2
  refine ctor d c ks hd hc hl fun j a q ha hq => ⟨hk j a q ha hq, hks q (List.mem_of_getElem? hq), ?_⟩
  cases hem : W7 w d a q with
  | false => rfl
  | true =>
   have : W7 w (d + 1) t (Q0.mk 4 c 0 0 0 ks) = true := Q47.2 ⟨j, a, q, ha, hq, hem⟩
   rw [he] at this
   cases this
theorem Z34 {w : List Q3} (hw : WW w) (hr : WR w) : ∀ (d : Nat) (t : Q2) (p : Q0), t ∈ tys w → Z3 w d t p → W7 w d t p = false → ∃ v, Q0y w (d + 10) t v ∧ fitP p v = true
 | 0, _, _, _, h, _ => h.elim
 | d + 1, t, p, ht, hp, he => by
  rcases hp with rfl | ⟨n, m, rfl, hd, g0, g1, g2⟩ | ⟨c, ks, rfl, hd, hc, hl, hk⟩
  ·simp only [W7, if_true, decide_eq_false_iff_not] at he
   exact ⟨_, Z0f 10 _ t _ (by omega) (hr.least t ht he), Q5g rfl _⟩
  ·refine ⟨numV n.toNat, Z96 hd (by omega), ?_⟩
   rw [Q5f rfl, decide_eq_true_eq]
   simp only [numV]
   omega
  ·have hat := (hw.ty t ht).at_ c hc
   have gen : ∀ (ts : List Q2) (ks : List Q0), ks.length = ts.length → (∀ a ∈ ts, a ∈ tys w) → (∀ (j : Nat) (a : Q2) (q : Q0), ts[j]? = some a → ks[j]? = some q → Z3 w d a q ∧ W7 w d a q = false) →
     ∃ vs : List Q4, vs.length = ts.length ∧ (∀ (j : Nat) (a : Q2) (v : Q4), ts[j]? = some a → vs[j]? = some v → Q0y w (d + 10) a v) ∧ fitL ks vs = true := by
    intro ts
    induction ts with
    | nil => intro ks hl _ _; exact ⟨[], rfl, fun j a v h => by simp at h, by cases ks with
      | nil => exact Z4w
      | cons k ks => simp at hl⟩
    | cons a ts ih =>
     intro ks hl hat hk
     cases ks with
     | nil => simp at hl
     | cons q ks =>
      obtain ⟨vs, e1, e2, e3⟩ := ih ks (by simpa using hl) (fun x hx => hat x (by simp [hx])) fun j a q h1 h2 => hk (j + 1) a q (by simpa using h1) (by simpa using h2)
      obtain ⟨g1, g3⟩ := hk 0 a q rfl rfl
      obtain ⟨v, hv, hf⟩ := Z34 hw hr d a q (hat a (by simp)) g1 g3
      refine ⟨v :: vs, by simp [e1], fun j b x h1 h2 => ?_, by rw [Q4m, hf, e3]; rfl⟩
      cases j with
      | zero => simp only [List.getElem?_cons_zero, Option.some.injEq] at h1 h2; subst h1 h2; exact hv
      | succ j => exact e2 j b x (by simpa using h1) (by simpa using h2)
   obtain ⟨vs, e1, e2, e3⟩ := gen _ ks hl hat fun j a q ha hq => ⟨hk j a q ha hq, by
    cases hem : W7 w d a q with
    | false => rfl
    | true =>
     have : W7 w (d + 1) t (Q0.mk 4 c 0 0 0 ks) = true := Q47.2 ⟨j, a, q, ha, hq, hem⟩
     rw [he] at this
     cases this⟩
   refine ⟨⟨c, 0, vs⟩, ?_, by rw [Q0s rfl]; simp [e3]⟩
   have := Z9h (e := d + 10) hd hc e1 e2
   rw [show d + 1 + 10 = d + 10 + 1 by omega]
   exact this
end Go.Proofs.YtnackipaoepmfaaGreat
namespace Go.Proofs.YtnackipaoepmfaaGreat
open Go Go.RowKit
theorem X64 {d : Nat} {a b m : Q0} (ha : a.op = 1) (h : W3 d a b = some m) : m = b := by
 cases d with
 | zero => simp [W3] at h
 | succ d => rw [W3, if_pos ha] at h; cases h; rfl
theorem X1g {w : List Q3} {d : Nat} {t : Q2} {a b : Q0} (hb : b.op = 1) : X5 w d t a b = [] := by
 cases d with
 | zero => rfl
 | succ d => rw [X5, if_pos hb]
theorem W96 {n m n' m' : Int} : ∀ y ∈ Z0n n m n' m', y.op = 3 := fun y hy => by
 unfold Z0n at hy
 rcases List.mem_append.1 hy with h | h <;> split at h <;> simp at h <;> rw [h]
structure Cl (w : List Q3) (d x : Nat) (t : Q2) (P : Q0 → Prop) : Prop where
 mi : ∀ a b, P a → P b → Z3 w x t a → Z3 w d t b → ∀ y ∈ X5 w d t a b, P y
 me : ∀ a b, P a → P b → Z3 w x t a → Z3 w d t b → ∀ m, W3 d a b = some m → P m
theorem V52 {w : List Q3} {d x : Nat} {ts : List Q2} {as bs : List Q0} {P : Nat → Q0 → Prop} (h1 : as.length = ts.length) (h2 : bs.length = ts.length)
  (h : ∀ (j : Nat) (t : Q2) (a b : Q0), ts[j]? = some t → as[j]? = some a → bs[j]? = some b → P j a ∧ P j b ∧ Z3 w x t a ∧ Z3 w d t b ∧ Cl w d x t (P j)) :
  ∀ ks ∈ kmD (X5 w d) (W3 d) ts as bs, ks.length = ts.length ∧ ∀ (j : Nat) (q : Q0), ks[j]? = some q → P j q := fun ks hks => by
 obtain ⟨g1, i, hi, g2⟩ := X66 ts as bs h1 h2 ks hks
 refine ⟨g1, fun j q hq => ?_⟩
 have hj := (List.getElem?_eq_some_iff.1 hq).1
 have ht : ts[j]? = some (ts[j]'(by omega)) := by simp
 have ha : as[j]? = some (as[j]'(by omega)) := by simp
 have hb : bs[j]? = some (bs[j]'(by omega)) := by simp
 obtain ⟨p1, p2, p3, p4, p5⟩ := h j _ _ _ ht ha hb
 obtain ⟨q1, q2, q3⟩ := g2 j _ _ _ q ht ha hb hq
 rcases Nat.lt_trichotomy j i with hji | hji | hji
 ·exact p5.me _ _ p1 p2 p3 p4 q (q1 hji)
 ·exact p5.mi _ _ p1 p2 p3 p4 q (q2 hji)
 ·rw [q3 hji]; exact p1
theorem W5a {w : List Q3} {d x : Nat} {ts : List Q2} {as bs ms : List Q0} {P : Nat → Q0 → Prop} (h1 : as.length = ts.length) (h2 : bs.length = ts.length)
  (h : ∀ (j : Nat) (t : Q2) (a b : Q0), ts[j]? = some t → as[j]? = some a → bs[j]? = some b → P j a ∧ P j b ∧ Z3 w x t a ∧ Z3 w d t b ∧ Cl w d x t (P j)) (hm : Q1q (W3 d) as bs = some ms) :
  ms.length = ts.length ∧ ∀ (j : Nat) (q : Q0), ms[j]? = some q → P j q := by
 obtain ⟨g1, g2⟩ := Z2b as bs ms (by omega) hm
 refine ⟨by omega, fun j q hq => ?_⟩
 have hj := (List.getElem?_eq_some_iff.1 hq).1
 have ht : ts[j]? = some (ts[j]'(by omega)) := by simp
 have ha : as[j]? = some (as[j]'(by omega)) := by simp
 have hb : bs[j]? = some (bs[j]'(by omega)) := by simp
 obtain ⟨p1, p2, p3, p4, p5⟩ := h j _ _ _ ht ha hb
 obtain ⟨m, e1, e2⟩ := g2 j _ _ ha hb
 rw [hq] at e2
 cases e2
 exact p5.me _ _ p1 p2 p3 p4 q e1
def famP (Q : Q0 → Prop) (p : Q0) : Prop := p.op = 1 ∨ p.op = 3 ∨ (p.op = 4 ∧ ∀ q ∈ p.kids, Q q)
theorem W8g {w : List Q3} (hw : WW w) {d x : Nat} (hx1 : 1 ≤ x) {Q : Q0 → Prop} (hq : ∀ p : Q0, p.op = 1 → Q p) (hQ : ∀ t ∈ tys w, Cl w d x t Q) {t : Q2} (ht : t ∈ tys w) : Cl w (d + 1) (x + 1) t (famP Q) := by
 have hT := hw.ty t ht
 have kids : ∀ (c : Int) (ks ks' : List Q0), c ∈ Z7 w t → (∀ q ∈ ks, Q q) → (∀ q ∈ ks', Q q) → ks.length = (Z5 w t c).length → ks'.length = (Z5 w t c).length →
   (∀ (j : Nat) (a : Q2) (q : Q0), (Z5 w t c)[j]? = some a → ks[j]? = some q → Z3 w x a q) → (∀ (j : Nat) (a : Q2) (q : Q0), (Z5 w t c)[j]? = some a → ks'[j]? = some q → Z3 w d a q) →
   ∀ (j : Nat) (u : Q2) (a b : Q0), (Z5 w t c)[j]? = some u → ks[j]? = some a → ks'[j]? = some b → (fun _ => Q) j a ∧ (fun _ => Q) j b ∧ Z3 w x u a ∧ Z3 w d u b ∧ Cl w d x u ((fun _ => Q) j) :=
  fun c ks ks' hc h1 h2 _ _ h5 h6 j u a b e1 e2 e3 => ⟨h1 a (List.mem_of_getElem? e2), h2 b (List.mem_of_getElem? e3), h5 j u a e1 e2, h6 j u b e1 e3, hQ u (hT.at_ c hc u (List.mem_of_getElem? e1))⟩
 have cm : ∀ (x' : Nat) (c c' : Int) (ks ks' : List Q0), x' ≤ x → c ∈ Z7 w t → (∀ q ∈ ks, Q q) → (∀ q ∈ ks', Q q) → ks.length = (Z5 w t c).length → ks'.length = (Z5 w t c').length →
   (∀ (j : Nat) (a : Q2) (q : Q0), (Z5 w t c)[j]? = some a → ks[j]? = some q → Z3 w x' a q) → (∀ (j : Nat) (a : Q2) (q : Q0), (Z5 w t c')[j]? = some a → ks'[j]? = some q → Z3 w d a q) →
   ∀ y ∈ cmD w (X5 w d) (W3 d) t (Q0.mk 4 c 0 0 0 ks) (Q0.mk 4 c' 0 0 0 ks'), famP Q y := fun x' c c' ks ks' hx' hc h1 h2 h3 h4 h5 h6 y hy => by
  unfold cmD at hy
  by_cases hcc : c = c'
  ·subst hcc
   simp only [if_true] at hy
   obtain ⟨zs, hz, rfl⟩ := List.mem_map.1 hy
   refine .inr (.inr ⟨rfl, fun q hq => ?_⟩)
   obtain ⟨j, hj⟩ := List.mem_iff_getElem?.1 hq
   exact (V52 h3 h4 (kids c ks ks' hc h1 h2 h3 h4 (fun j a q e1 e2 => X3u (h5 j a q e1 e2) hx') h6) zs hz).2 j q hj
  ·simp only [if_neg hcc, List.mem_singleton] at hy
   subst hy
   exact .inr (.inr ⟨rfl, h1⟩)
 refine ⟨fun a b ha hb pa pb y hy => ?_, fun a b ha hb pa pb m hm => ?_⟩
 ·rcases pb with rfl | ⟨n', m', rfl, _⟩ | ⟨c', ks', rfl, hd', hc', hl', hk'⟩
  ·rw [X1g rfl] at hy; cases hy
  ·have e1 : ¬ (3 : Int) = 1 := by decide
   simp only [X5, e1, if_false, if_true] at hy
   refine .inr (.inl ?_)
   split at hy <;> exact W96 y hy
  ·have e1 : ¬ (4 : Int) = 1 := by decide
   have e3 : ¬ (4 : Int) = 3 := by decide
   have hbk : ∀ q ∈ ks', Q q := by
    rcases hb with h | h | h
    ·simp at h
    ·simp at h
    ·exact h.2
   simp only [X5, e1, e3, if_false] at hy
   rcases pa with rfl | ⟨n, m, rfl, hd, _⟩ | ⟨c, ks, rfl, hd, hc, hl, hk⟩
   ·simp only [if_true, List.mem_flatMap] at hy
    obtain ⟨c, hc, hy⟩ := hy
    unfold Q4x at hy
    exact cm 1 c c' _ ks' hx1 hc (fun q hq' => by obtain ⟨_, _, rfl⟩ := List.mem_map.1 hq'; exact hq _ rfl) hbk (by simp) hl' (fun j a q ha hq' => by
      rw [List.getElem?_map, ha] at hq'
      cases hq'
      exact Q8q w 0 a) hk' y hy
   ·exact absurd hd hd'
   ·have hak : ∀ q ∈ ks, Q q := by
     rcases ha with h | h | h
     ·simp at h
     ·simp at h
     ·exact h.2
    simp only [e1, if_false] at hy
    exact cm x c c' ks ks' (Nat.le_refl _) hc hak hbk hl hl' hk hk' y hy
 ·rcases pa with rfl | ⟨n, m, rfl, hd, _⟩ | ⟨c, ks, rfl, hd, hc, hl, hk⟩
  ·rw [X64 rfl hm]; exact hb
  ·rcases pb with rfl | ⟨n', m', rfl, _⟩ | ⟨c', ks', rfl, hd', _⟩
   ·simp [W3] at hm; subst hm; exact .inr (.inl rfl)
   ·simp [W3] at hm; obtain ⟨_, rfl⟩ := hm; exact .inr (.inl rfl)
   ·exact absurd hd hd'
  ·rcases pb with rfl | ⟨n', m', rfl, hd', _⟩ | ⟨c', ks', rfl, hd', hc', hl', hk'⟩
   ·simp [W3] at hm; subst hm; exact ha
   ·exact absurd hd' hd
   ·have hak : ∀ q ∈ ks, Q q := by
     rcases ha with h | h | h
     ·simp at h
     ·simp at h
     ·exact h.2
    have hbk : ∀ q ∈ ks', Q q := by
     rcases hb with h | h | h
     ·simp at h
     ·simp at h
     ·exact h.2
    simp only [W3] at hm
    simp at hm
    obtain ⟨rfl, zs, hz, rfl⟩ := hm
    refine .inr (.inr ⟨rfl, fun q hq' => ?_⟩)
    obtain ⟨j, hj⟩ := List.mem_iff_getElem?.1 hq'
    exact (W5a hl hl' (kids c ks ks' hc hak hbk hl hl' hk hk') hz).2 j q hj
theorem V6d {w : List Q3} (d x : Nat) (t : Q2) : Cl w d x t (fun p => p.op = 1) :=
 ⟨fun a b _ hb _ _ y hy => (by rw [X1g hb] at hy; cases hy), fun a b ha hb _ _ m hm => by rw [X64 ha hm]; exact hb⟩
theorem V0i {w : List Q3} (hw : WW w) {d x : Nat} (hx1 : 1 ≤ x) {t : Q2} (ht : t ∈ tys w) : Cl w (d + 1) (x + 1) t hgt1 := W8g hw hx1 (fun _ h => h) (fun t _ => V6d d x t) ht
theorem V6c {w : List Q3} (hw : WW w) {d x : Nat} (hx1 : 1 ≤ x) {t : Q2} (ht : t ∈ tys w) : Cl w (d + 2) (x + 2) t hgt2 := W8g hw (by omega) (fun _ h => .inl h) (fun t ht => V0i hw hx1 ht) ht
theorem Z8d {f : Q0 → Q0 → Option Q0} : ∀ (as : List Q0), (∀ a ∈ as, f a a = some a) → Q1q f as as = some as
 | [], _ => rfl
 | a :: as, h => by
  simp only [Q1q]
  rw [h a (by simp), Z8d as fun x hx => h x (by simp [hx])]
  rfl
theorem X1i {w : List Q3} : ∀ (d : Nat) (t : Q2) (a : Q0), Z3 w d t a → W3 d a a = some a
 | 0, _, _, h => h.elim
 | d + 1, t, a, h => by
  rcases h with rfl | ⟨n, m, rfl, hd, g0, g1, g2⟩ | ⟨c, ks, rfl, hd, hc, hl, hk⟩
  ·simp [W3]
  ·have e1 : ¬ (3 : Int) = 1 := by decide
   simp only [W3, e1, if_false, if_true]
   rw [if_pos (by omega)]
   congr 2 <;> omega
  ·have e1 : ¬ (4 : Int) = 1 := by decide
   have e3 : ¬ (4 : Int) = 3 := by decide
   simp only [W3, e1, e3, if_false, if_true]
   rw [Z8d ks fun q hq => by
    obtain ⟨j, hj⟩ := List.mem_iff_getElem?.1 hq
    have hjl := (List.getElem?_eq_some_iff.1 hj).1
    have ha : (Z5 w t c)[j]? = some ((Z5 w t c)[j]'(by omega)) := by simp
    exact X1i d _ q (hk j _ q ha hj)]
   rfl
theorem W1o {fm : Q2 → Q0 → Q0 → List Q0} {fj : Q0 → Q0 → Option Q0} : ∀ (ts : List Q2) (as : List Q0), (∀ (j : Nat) (t : Q2) (a : Q0), ts[j]? = some t → as[j]? = some a → fm t a a = []) → kmD fm fj ts as as = []
 | [], _, _ => by simp [kmD]
 | _ :: _, [], _ => by simp [kmD]
 | t :: ts, a :: as, h => by
  simp only [kmD]
  rw [h 0 t a rfl rfl, W1o ts as fun j t a h1 h2 => h (j + 1) t a (by simpa using h1) (by simpa using h2)]
  cases fj a a <;> simp
theorem Z8b {w : List Q3} : ∀ (d : Nat) (t : Q2) (a : Q0), Z3 w d t a → X5 w d t a a = []
 | 0, _, _, h => h.elim
 | d + 1, t, a, h => by
  rcases h with rfl | ⟨n, m, rfl, hd, g0, g1, g2⟩ | ⟨c, ks, rfl, hd, hc, hl, hk⟩
  ·simp [X5]
  ·have e1 : ¬ (3 : Int) = 1 := by decide
   simp only [X5, e1, if_false, if_true]
   unfold Z0n
   rw [if_neg (by omega), if_neg (by omega)]
   rfl
  ·have e1 : ¬ (4 : Int) = 1 := by decide
   have e3 : ¬ (4 : Int) = 3 := by decide
   simp only [X5, e1, e3, if_false]
   unfold cmD
   simp only [if_true]
   rw [W1o _ ks fun j u q h1 h2 => Z8b d u q (hk j u q h1 h2)]
   rfl
theorem V6b {w : List Q3} {d x : Nat} {t : Q2} (α : Q0) : Cl w d x t (fun p => p = α) :=
 ⟨fun a b ha hb _ pb y hy => (by subst ha; subst hb; rw [Z8b d t _ pb] at hy; cases hy), fun a b ha hb _ pb m hm => by subst ha; subst hb; rw [X1i d t _ pb] at hm; cases hm; rfl⟩
structure Fam (w : List Q3) (t : Q2) (P : Q0 → Prop) : Prop where
 mi : ∀ a b, P a → P b → Z3 w 11 t a → Z3 w 10 t b → ∀ y ∈ X5 w 10 t a b, P y
 rep : ∃ (C : List Q4) (e : Nat), C.length ≤ 400 ∧ (∀ v ∈ C, Q0y w e t v) ∧ ∀ p, P p → Z3 w 11 t p → W7 w 11 t p = false → ∃ v ∈ C, fitP p v = true
theorem V5c {w : List Q3} (hw : WW w) (hr : WR w) {t : Q2} (ht : t ∈ tys w) : Fam w t hgt2 :=
 ⟨(V6c hw (d := 8) (x := 9) (by omega) ht).mi, Z7c w t, 12, hr.n2 t ht, fun v hv => X7w hw hr ht hv, fun p h1 h2 h3 => rep2 hw ht h2 h1 h3⟩
def oneP (w : List Q3) (t : Q2) (c : Int) (K : Nat → Option Q0) (p : Q0) : Prop := ∃ ks, p = Q0.mk 4 c 0 0 0 ks ∧ ks.length = (Z5 w t c).length ∧ ∀ (j : Nat) (q : Q0), ks[j]? = some q → match K j with
 | none => hgt1 q
 | some α => q = α
theorem X7z (ns : List Nat) : ∀ a b, a ≤ b → ns.foldl (fun a b => a * max 1 b) a ≤ ns.foldl (fun a b => a * max 1 b) b := by
 induction ns with
 | nil => intro a b h; exact h
 | cons n ns ih => intro a b h; rw [List.foldl_cons, List.foldl_cons]; exact ih _ _ (Nat.mul_le_mul_right _ h)
theorem Z53 : ∀ (ls : List (List Q4)) (ns : List Nat) (out : List (List Q4)), ls.length = ns.length → (∀ (j : Nat) (l : List Q4) (n : Nat), ls[j]? = some l → ns[j]? = some n → l.length ≤ max 1 n) → (ls.foldl tupV out).length ≤ ns.foldl (fun a b => a * max 1 b) out.length
 | [], [], _, _, _ => Nat.le_refl _
 | l :: ls, n :: ns, out, h, hb => by
  rw [List.foldl_cons, List.foldl_cons]
  refine Nat.le_trans (Z53 ls ns (tupV out l) (by simpa using h) fun j l n h1 h2 => hb (j + 1) l n (by simpa using h1) (by simpa using h2)) (X7z ns _ _ ?_)
  rw [Z1o]
  exact Nat.mul_le_mul_left _ (hb 0 l n rfl rfl)
 | [], _ :: _, _, h, _ => by simp at h
 | _ :: _, [], _, h, _ => by simp at h
theorem V07 {w : List Q3} (hw : WW w) (hr : WR w) {t : Q2} (ht : t ∈ tys w) {c : Int} (hd : t.data ≠ -1) (hc : c ∈ Z7 w t) (K : Nat → Option Q0) : Fam w t (oneP w t c K) := by
 have hT := hw.ty t ht
 refine ⟨fun a b ha hb pa pb y hy => ?_, ?_⟩
 ·obtain ⟨ks, rfl, hl, hk⟩ := ha
  obtain ⟨ks', rfl, hl', hk'⟩ := hb
  have e1 : ¬ (4 : Int) = 1 := by decide
  have e3 : ¬ (4 : Int) = 3 := by decide
  simp only [X5, e1, e3, if_false] at hy
  unfold cmD at hy
  simp only [if_true] at hy
  obtain ⟨zs, hz, rfl⟩ := List.mem_map.1 hy
  have pk : ∀ (j : Nat) (u : Q2) (q : Q0), (Z5 w t c)[j]? = some u → ks[j]? = some q → Z3 w 10 u q := by
   rcases pa with h | ⟨_, _, h, _⟩ | ⟨c2, ks2, h, _, _, _, h4⟩
   ·cases h
   ·cases h
   ·cases h; exact h4
  have pk' : ∀ (j : Nat) (u : Q2) (q : Q0), (Z5 w t c)[j]? = some u → ks'[j]? = some q → Z3 w 9 u q := by
   rcases pb with h | ⟨_, _, h, _⟩ | ⟨c2, ks2, h, _, _, _, h4⟩
   ·cases h
   ·cases h
   ·cases h; exact h4
  have := V52 (w := w) (d := 9) (x := 10) (P := fun j q => match K j with
   | none => hgt1 q
   | some α => q = α) hl hl' (fun j u a b e1 e2 e3 => ⟨hk j a e2, hk' j b e3, pk j u a e1 e2, pk' j u b e1 e3, by
    cases K j with
    | none => exact V0i hw (d := 8) (x := 9) (by omega) (hT.at_ c hc u (List.mem_of_getElem? e1))
    | some α => exact V6b α⟩) zs hz
  exact ⟨zs, rfl, this.1, this.2⟩
 ·have gen : ∀ (ts : List Q2) (K : Nat → Option Q0), (∀ a ∈ ts, a ∈ tys w) → ∃ ls : List (List Q4), ls.length = ts.length ∧ (∀ (j : Nat) (u : Q2) (l : List Q4), ts[j]? = some u → ls[j]? = some l → l.length ≤ max 1 (Z0o w u).length ∧ (∀ v ∈ l, Q0y w 20 u v) ∧
    ∀ q, (match K j with | none => hgt1 q | some α => q = α) → Z3 w 10 u q → W7 w 10 u q = false → ∃ v ∈ l, fitP q v = true) := by
   intro ts
   induction ts with
   | nil => intro K _; exact ⟨[], rfl, fun j u l h => by simp at h⟩
   | cons a ts ih =>
    intro K hat
    obtain ⟨ls, e1, e2⟩ := ih (fun j => K (j + 1)) fun x hx => hat x (by simp [hx])
    have hat0 := hat a (by simp)
    have hex : ∃ l : List Q4, l.length ≤ max 1 (Z0o w a).length ∧ (∀ v ∈ l, Q0y w 20 a v) ∧ ∀ q, (match K 0 with | none => hgt1 q | some α => q = α) → Z3 w 10 a q → W7 w 10 a q = false → ∃ v ∈ l, fitP q v = true := by
     cases hK : K 0 with
     | none => exact ⟨Z0o w a, by omega, fun v hv => Z0f 11 20 a v (by omega) (Z84 hw hr hat0 hv), fun q h1 h2 h3 => rep1 hw hat0 h2 h1 h3⟩
     | some α =>
      by_cases hα : Z3 w 10 a α ∧ W7 w 10 a α = false
      ·obtain ⟨v, hv, hf⟩ := Z34 hw hr 10 a α hat0 hα.1 hα.2
       exact ⟨[v], by simp only [List.length_singleton]; omega, fun x hx => by simp only [List.mem_singleton] at hx; rw [hx]; exact hv, fun q h1 _ _ => ⟨v, by simp, by rw [show q = α from h1]; exact hf⟩⟩
      ·exact ⟨[], by simp, fun v hv => by (cases hv), fun q h1 h2 h3 => absurd (by rw [show q = α from h1] at h2 h3; exact ⟨h2, h3⟩) hα⟩
    obtain ⟨l, g1, g2, g3⟩ := hex
    refine ⟨l :: ls, by simp [e1], fun j u m h1 h2 => ?_⟩
    cases j with
    | zero => simp only [List.getElem?_cons_zero, Option.some.injEq] at h1 h2; subst h1 h2; exact ⟨g1, g2, g3⟩
    | succ j => exact e2 j u m (by simpa using h1) (by simpa using h2)
  obtain ⟨ls, e1, e2⟩ := gen (Z5 w t c) K (hT.at_ c hc)
  refine ⟨(ls.foldl tupV [[]]).map (mkV c), 21, ?_, fun v hv => ?_, fun p hp pp hem => ?_⟩
  ·rw [List.length_map]
   refine Nat.le_trans (Z53 ls ((Z5 w t c).map fun a => (Z0o w a).length) [[]] (by simp [e1]) fun j l n h1 h2 => ?_) (hr.n1 t ht c hc)
   rw [List.getElem?_map, Option.map_eq_some_iff] at h2
   obtain ⟨u, hu, rfl⟩ := h2
   exact (e2 j u l hu h1).1
  ·obtain ⟨ks, hks, rfl⟩ := List.mem_map.1 hv
   obtain ⟨a, b, ha, rfl, hl, hb⟩ := Q9h _ _ _ hks
   simp only [List.mem_singleton] at ha
   subst ha
   refine Z9h hd hc (by simp; omega) fun j u x hu hx => ?_
   have hjl := (List.getElem?_eq_some_iff.1 hu).1
   have hlj : ls[j]? = some (ls[j]'(by omega)) := by simp
   exact (e2 j u _ hu hlj).2.1 x (hb j x _ (by simpa using hx) hlj)
  ·obtain ⟨ks, rfl, hl, hk⟩ := hp
   have pk : ∀ (j : Nat) (u : Q2) (q : Q0), (Z5 w t c)[j]? = some u → ks[j]? = some q → Z3 w 10 u q := by
    rcases pp with h | ⟨_, _, h, _⟩ | ⟨c2, ks2, h, _, _, _, h4⟩
    ·cases h
    ·cases h
    ·cases h; exact h4
   have gen2 : ∀ (ts : List Q2) (ls : List (List Q4)) (ks : List Q0), ls.length = ts.length → ks.length = ts.length → (∀ (j : Nat) (u : Q2) (l : List Q4) (q : Q0), ts[j]? = some u → ls[j]? = some l → ks[j]? = some q → ∃ v ∈ l, fitP q v = true) →
     ∃ vs : List Q4, vs.length = ls.length ∧ (∀ (j : Nat) (v : Q4) (l : List Q4), vs[j]? = some v → ls[j]? = some l → v ∈ l) ∧ fitL ks vs = true := by
    intro ts
    induction ts with
    | nil => intro ls ks h1 h2 _; exact ⟨[], by simp at h1; simp [h1], fun j v l h => by simp at h, by
      simp at h2; rw [h2]; exact Z4w⟩
    | cons u ts ih =>
     intro ls ks h1 h2 h
     cases ls with
     | nil => simp at h1
     | cons l ls =>
      cases ks with
      | nil => simp at h2
      | cons q ks =>
       obtain ⟨vs, g1, g2, g3⟩ := ih ls ks (by simpa using h1) (by simpa using h2) fun j u l q a1 a2 a3 => h (j + 1) u l q (by simpa using a1) (by simpa using a2) (by simpa using a3)
       obtain ⟨v, hv, hf⟩ := h 0 u l q rfl rfl rfl
       refine ⟨v :: vs, by simp [g1], fun j x m a1 a2 => ?_, by rw [Q4m, hf, g3]; rfl⟩
       cases j with
       | zero => simp only [List.getElem?_cons_zero, Option.some.injEq] at a1 a2; subst a1 a2; exact hv
       | succ j => exact g2 j x m (by simpa using a1) (by simpa using a2)
   obtain ⟨vs, g1, g2, g3⟩ := gen2 (Z5 w t c) ls ks e1 hl fun j u l q a1 a2 a3 => (e2 j u l a1 a2).2.2 q (hk j q a3) (pk j u q a1 a3) (by
    cases hem2 : W7 w 10 u q with
    | false => rfl
    | true =>
     have : W7 w 11 t (Q0.mk 4 c 0 0 0 ks) = true := Q47.2 ⟨j, u, q, a1, a3, hem2⟩
     rw [hem] at this
     cases this)
   refine ⟨mkV c vs, List.mem_map_of_mem ?_, by rw [Q0s rfl]; simp [mkV, g3]⟩
   have := Z5p ls [[]] [] vs (by simp) g1 g2
   simpa using this
theorem X7j {w : List Q3} {t : Q2} {P : Q0 → Prop} (hF : Fam w t P) : ∀ (bs l r : List Q0), (∀ b ∈ bs, P b ∧ Z3 w 10 t b) → (∀ a ∈ l, P a ∧ Z3 w 11 t a ∧ W7 w 11 t a = false) → Q57 w 10 11 t l bs = some r → ∀ y ∈ r, P y ∧ Z3 w 11 t y ∧ W7 w 11 t y = false
 | [], l, r, _, h, e => by simp only [Q57, Option.some.injEq] at e; subst e; exact h
 | b :: bs, l, r, hb, h, e => by
  simp only [Q57] at e
  split at e
  ·cases e
  ·refine X7j hF bs _ r (fun b hb' => hb b (by simp [hb'])) (fun y hy => ?_) e
   have hp := Q72 (d := 10) (x := 11) (by omega) (hb b (by simp)).2 (fun a ha => (h a ha).2.1) y hy
   unfold Q2k Q62 at hy
   obtain ⟨h1, h2⟩ := List.mem_filter.1 hy
   obtain ⟨a, ha, hya⟩ := List.mem_flatMap.1 h1
   exact ⟨hF.mi a b (h a ha).1 (hb b (by simp)).1 (h a ha).2.1 (hb b (by simp)).2 y hya, hp, by simpa using h2⟩
theorem W0t {w : List Q3} {t : Q2} {P : Q0 → Prop} (hF : Fam w t P) : ∀ (ps bef r : List Q0), (∀ b ∈ bef, P b ∧ Z3 w 10 t b) → (∀ p ∈ ps, P p ∧ Z3 w 10 t p) → sepP w t bef ps = some r → ∀ y ∈ r, P y ∧ Z3 w 11 t y ∧ W7 w 11 t y = false
 | [], _, r, _, _, e => by simp only [sepP, Option.some.injEq] at e; subst e; simp
 | p :: ps, bef, r, hb, hp, e => by
  simp only [sepP] at e
  cases hm : Q3c w 10 11 t [p] bef with
  | none => rw [hm] at e; simp at e
  | some m =>
   rw [hm] at e
   simp only [Option.bind_some, Option.map_eq_some_iff] at e
   obtain ⟨r2, h2, rfl⟩ := e
   intro y hy
   rcases List.mem_append.1 hy with hy | hy
   ·refine X7j hF bef _ m hb (fun a ha => ?_) hm y hy
    obtain ⟨h3, h4⟩ := List.mem_filter.1 ha
    simp only [List.mem_singleton] at h3
    subst h3
    exact ⟨(hp a (by simp)).1, Q50 10 t a (hp a (by simp)).2, by simpa using h4⟩
   ·exact W0t hF ps (bef ++ [p]) r2 (fun b hb' => by
     rcases List.mem_append.1 hb' with h | h
     ·exact hb b h
     ·simp only [List.mem_singleton] at h; rw [h]; exact hp p (by simp)) (fun q hq => hp q (by simp [hq])) h2 y hy
theorem W93 {w : List Q3} (hw : WW w) (he : WE w) {t : Q2} (ht : t ∈ tys w) {P : Q0 → Prop} (hF : Fam w t P) {ps r : List Q0} (hp : ∀ p ∈ ps, P p ∧ Z3 w 10 t p) (h : sepP w t [] ps = some r) : r.length ≤ 400 := by
 obtain ⟨C, e, h1, h2, h3⟩ := hF.rep
 have h4 := W0t hF ps [] r (by simp) hp h
 exact Nat.le_trans (X9d h2 (X5p hw he ht ps [] r (by simp) (fun p hp' => (hp p hp').2) h) fun p hp' => h3 p (h4 p hp').1 (h4 p hp').2.1 (h4 p hp').2.2) h1
end Go.Proofs.YtnackipaoepmfaaGreat
namespace Go.Proofs.YtnackipaoepmfaaGreat
open Go Go.RowKit
theorem W0g : ∀ (ls : List (List Q0)) (out : List (List Q0)) (ks : List Q0), ks ∈ ls.foldl tupD out →
  ∃ a b, a ∈ out ∧ ks = a ++ b ∧ b.length = ls.length ∧ ∀ (i : Nat) (q : Q0) (l : List Q0), b[i]? = some q → ls[i]? = some l → q ∈ l
 | [], out, ks, h => ⟨ks, [], by simpa using h, by simp, rfl, by simp⟩
 | l :: ls, out, ks, h => by
  rw [List.foldl_cons] at h
  obtain ⟨a, b, ha, rfl, hl, hb⟩ := W0g ls (tupD out l) ks h
  simp only [tupD, List.mem_flatMap, List.mem_map] at ha
  obtain ⟨a0, h0, c, hc, rfl⟩ := ha
  refine ⟨a0, c :: b, h0, by simp, by simp [hl], fun i q m h1 h2 => ?_⟩
  cases i with
  | zero => simp at h1 h2; subst h1 h2; exact hc
  | succ i => exact hb i q m (by simpa using h1) (by simpa using h2)
theorem Q73 {d : Nat} {p q : Q0} (h : q ∈ Z0 (d + 1) p) : (p.op = 5 ∧ ∃ x ∈ p.kids, q ∈ Z0 d x) ∨
  (p.op ≠ 5 ∧ ∃ ks, q = Q63 p ks ∧ ks.length = p.kids.length ∧ ∀ (i : Nat) (y x : Q0), ks[i]? = some y → p.kids[i]? = some x → y ∈ Z0 d x) := by
 simp only [Z0] at h
 split at h
 ·rename_i h5
  obtain ⟨x, hx, hq⟩ := List.mem_flatMap.1 h
  exact .inl ⟨h5, x, hx, hq⟩
 ·rename_i h5
  obtain ⟨ks, hks, rfl⟩ := List.mem_map.1 h
  obtain ⟨a, b, ha, rfl, hl, hb⟩ := W0g _ _ ks hks
  simp only [List.mem_singleton] at ha
  subst ha
  refine .inr ⟨h5, b, by simp, by simpa using hl, fun i y x hy hx => ?_⟩
  exact hb i y (Z0 d x) hy (by rw [List.getElem?_map, hx]; rfl)
end Go.Proofs.YtnackipaoepmfaaGreat
namespace Go.Proofs.YtnackipaoepmfaaGreat
open Go Go.RowKit
def Par {α : Type} (x : Option α) (Q : α → Prop) : Prop := ∀ a, x = some a → Q a
theorem Par.some {α : Type} {a : α} {Q : α → Prop} (h : Q a) : Par (some a) Q := fun b e => by cases e; exact h
theorem Par.none {α : Type} {Q : α → Prop} : Par (none : Option α) Q := fun b e => by cases e
theorem Par.bind {α β : Type} {x : Option α} {f : α → Option β} {P : α → Prop} {Q : β → Prop} (hx : Par x P) (hf : ∀ a, P a → Par (f a) Q) : Par (x.bind f) Q := fun b e => by
 cases hx' : x with
 | none => rw [hx'] at e; cases e
 | some a => rw [hx'] at e; exact hf a (hx a hx') b e
theorem Par.any {α β : Type} {x : Option α} {f : α → Option β} {Q : β → Prop} (hf : ∀ a, Par (f a) Q) : Par (x.bind f) Q := Par.bind (P := fun _ => True) (fun _ _ => trivial) fun a _ => hf a
theorem Par.ite {α : Type} {b : Bool} {x y : Option α} {Q : α → Prop} (h1 : b = true → Par x Q) (h2 : b = false → Par y Q) : Par (if b = true then x else y) Q := by
 cases b with
 | true => exact h1 rfl
 | false => exact h2 rfl
theorem Par.mono {α : Type} {x : Option α} {P Q : α → Prop} (h : ∀ a, P a → Q a) (hx : Par x P) : Par x Q := fun a e => h a (hx a e)
theorem Par.ctl {ρ σ τ : Type} {x : Option (Ctl ρ σ)} {g : Ctl ρ σ → Option τ} {R : ρ → Prop} {B : σ → Prop} {Q : τ → Prop} (h : Par x (CtlQ R B)) (hr : ∀ r, R r → Par (g (.ret r)) Q) (hb : ∀ s, B s → Par (g (.brk s)) Q) : Par (x.bind g) Q :=
 Par.bind h fun a ha => by
  cases a with
  | ret r => exact hr r ha
  | brk s => exact hb s ha
  | go s => exact ha.elim
theorem Z2o {α σ ρ : Type} {f : Nat → α → σ → Option (Ctl ρ σ)} (I : Nat → σ → Prop) (R : ρ → Prop) (B : σ → Prop) : ∀ (xs : List α) (i : Nat) (s0 : σ), I i s0 → (∀ k x s, x ∈ xs → I k s → Par (f k x s) (RndQ R B (I (k + 1)))) → (∀ s, I (i + xs.length) s → B s) → Par (forL f i xs s0) (CtlQ R B)
 | [], i, s0, h0, _, hb => by
  unfold forL
  exact .some (hb s0 (by simpa using h0))
 | x :: xs, i, s0, h0, st, hb => by
  unfold forL
  have h1 := st i x s0 (by simp) h0
  intro a e
  cases hf : f i x s0 with
  | none => rw [hf] at e; cases e
  | some o =>
   rw [hf] at e
   have h2 := h1 o hf
   cases o with
   | ret r => cases e; exact h2
   | brk s => cases e; exact h2
   | go s => exact Z2o I R B xs (i + 1) s h2 (fun k y s hy => st k y s (by simp [hy])) (fun s hs => hb s (by simpa [Nat.add_assoc, Nat.add_comm 1] using hs)) a e
theorem Ret.both {α : Type} {x : Option α} {P Q : α → Prop} (h : Ret x P) (k : Par x Q) : Ret x (fun a => P a ∧ Q a) := by
 obtain ⟨a, e, hp⟩ := h
 exact ⟨a, e, hp, k a e⟩
theorem Z9y {α : Type} (xs ys : List α) : Par (app xs ys) (fun z => z = xs ++ ys) := fun z hz => by
 unfold app at hz
 split at hz
 ·cases hz; rfl
 ·cases hz
theorem W1g (r : Z1) (l : List Int) : Par (X6 r l) (fun a => a.1 ∈ l) := by
 unfold X6
 refine Par.any fun a => ?_
 refine Par.bind (P := fun x => x ∈ l) (fun x hx => ?_) (fun x hx => .some hx)
 unfold idx at hx
 split at hx
 ·exact List.mem_of_getElem? hx
 ·cases hx
end Go.Proofs.YtnackipaoepmfaaGreat
namespace Go.Proofs.YtnackipaoepmfaaGreat
open Go Go.RowKit
def lvB : Nat → Q0 → Prop
 | 0, p => p.op = 1
 | m + 1, p => p.op = 1 ∨ p.op = 3 ∨ ((p.op = 4 ∨ p.op = 5) ∧ ∀ q ∈ p.kids, lvB m q)
theorem X1l {m : Nat} {p : Q0} (h : p.op = 1) : lvB m p := by
 cases m with
 | zero => exact h
 | succ m => exact .inl h
theorem W1k : ∀ {m : Nat} {p : Q0}, lvB m p → lvB (m + 1) p
 | 0, _, h => .inl h
 | m + 1, _, h => by
  rcases h with h | h | ⟨h, k⟩
  ·exact .inl h
  ·exact .inr (.inl h)
  ·exact .inr (.inr ⟨h, fun q hq => W1k (k q hq)⟩)
theorem Q98 : ∀ (D : Nat) {m : Nat} {p : Q0}, lvB m p → lvB m (X1 D p)
 | 0, _, _, h => h
 | D + 1, m, p, h => by
  have hop : p.op ≠ 2 ∧ p.op ≠ 6 := by
   cases m with
   | zero => have : p.op = 1 := h; omega
   | succ m => rcases h with h | h | ⟨h | h, _⟩ <;> omega
  rw [X1, if_neg hop.1, if_neg (fun hh => hop.2 hh.1)]
  cases m with
  | zero => exact h
  | succ m =>
   rcases h with h | h | ⟨h, k⟩
   ·exact .inl h
   ·exact .inr (.inl h)
   ·refine .inr (.inr ⟨h, fun q hq => ?_⟩)
    obtain ⟨x, hx, rfl⟩ := List.mem_map.1 hq
    exact Q98 D (k x hx)
theorem Z1t {d : Nat} {q : Q0} (h : q ∈ Z0 d (Q0.mk 1 0 0 0 0 [])) : q = Q0.mk 1 0 0 0 0 [] := by
 cases d with
 | zero => simp [Z0] at h
 | succ d => simpa [Z0, Q63] using h
theorem Z9z {w : List Q3} {d : Nat} {t : Q2} {p : Q0} (h : altD w d t p) (h1 : p.op = 1) : p = Q0.mk 1 0 0 0 0 [] := by
 cases d with
 | zero => exact h.elim
 | succ d =>
  rcases h with h | ⟨n, m, rfl, _⟩ | ⟨c, ks, rfl, _⟩ | ⟨a, b, rfl, _⟩
  ·exact h
  ·simp at h1
  ·simp at h1
  ·simp at h1
def oneS (d : Nat) (p : Q0) : Prop := ∃ α, ∀ q ∈ Z0 d p, q = α
theorem X1e {d : Nat} {p : Q0} (h5 : p.op ≠ 5) (h : ∀ x ∈ p.kids, oneS d x) : oneS (d + 1) p := by
 have gen : ∀ ks : List Q0, (∀ x ∈ ks, oneS d x) → ∃ as : List Q0, as.length = ks.length ∧ ∀ (i : Nat) (x a y : Q0), ks[i]? = some x → as[i]? = some a → y ∈ Z0 d x → y = a := by
  intro ks
  induction ks with
  | nil => intro _; exact ⟨[], rfl, fun i x a y h => by simp at h⟩
  | cons k ks ih =>
   intro h
   obtain ⟨as, e1, e2⟩ := ih fun x hx => h x (by simp [hx])
   obtain ⟨α, hα⟩ := h k (by simp)
   refine ⟨α :: as, by simp [e1], fun i x a y h1 h2 h3 => ?_⟩
   cases i with
   | zero => simp only [List.getElem?_cons_zero, Option.some.injEq] at h1 h2; subst h1 h2; exact hα y h3
   | succ i => exact e2 i x a y (by simpa using h1) (by simpa using h2) h3
 obtain ⟨as, e1, e2⟩ := gen p.kids h
 refine ⟨Q63 p as, fun q hq => ?_⟩
 rcases Q73 hq with ⟨h, _⟩ | ⟨_, ks, rfl, hl, hk⟩
 ·exact absurd h h5
 ·congr 1
  refine List.ext_getElem? fun i => ?_
  by_cases hi : i < ks.length
  ·have h1 : ks[i]? = some (ks[i]) := List.getElem?_eq_getElem hi
   have h2 : p.kids[i]? = some (p.kids[i]'(by omega)) := List.getElem?_eq_getElem (by omega)
   have h3 : as[i]? = some (as[i]'(by omega)) := List.getElem?_eq_getElem (by omega)
   rw [h1, h3, e2 i _ _ _ h2 h3 (hk i _ _ h1 h2)]
  ·rw [List.getElem?_eq_none (by omega), List.getElem?_eq_none (by omega)]
theorem Q6s {w : List Q3} {d : Nat} {t : Q2} {p x : Q0} (h : altD w (d + 1) t p) (hx : x ∈ p.kids) : ∃ u, altD w d u x := by
 rcases h with rfl | ⟨n, m, rfl, _⟩ | ⟨c, ks, rfl, _, _, hl, hk⟩ | ⟨a, b, rfl, h1, h2⟩
 ·cases hx
 ·cases hx
 ·obtain ⟨j, hj⟩ := List.mem_iff_getElem?.1 hx
  have hjl := (List.getElem?_eq_some_iff.1 hj).1
  simp only at hjl hj
  have ha : (Z5 w t c)[j]? = some ((Z5 w t c)[j]'(by omega)) := by simp
  exact ⟨_, hk j _ x ha hj⟩
 ·simp only [List.mem_cons, List.not_mem_nil, or_false] at hx
  rcases hx with rfl | rfl
  ·exact ⟨t, h1⟩
  ·exact ⟨t, h2⟩
theorem Z4y {w : List Q3} {d : Nat} {t : Q2} {p : Q0} (h : altD w d t p) (h4 : p.op ≠ 4) (h5 : p.op ≠ 5) : p.kids = [] := by
 cases d with
 | zero => exact h.elim
 | succ d =>
  rcases h with rfl | ⟨n, m, rfl, _⟩ | ⟨c, ks, rfl, _⟩ | ⟨a, b, rfl, _⟩
  ·rfl
  ·rfl
  ·simp at h4
  ·simp at h5
theorem W1l {w : List Q3} {d : Nat} {t : Q2} {p : Q0} (h : altD w d t p) (l : lvB 1 p) : ∀ q ∈ Z0 d p, hgt1 q := fun q hq => by
 cases d with
 | zero => exact h.elim
 | succ d =>
 rcases Q73 hq with ⟨h5, x, hx, hqx⟩ | ⟨h5, ks, rfl, hl, hk⟩
 ·rcases l with l | l | ⟨_, l⟩
  ·omega
  ·omega
  ·obtain ⟨u, hu⟩ := Q6s h hx
   rw [Z9z hu (l x hx)] at hqx
   rw [Z1t hqx]
   exact .inl rfl
 ·rcases l with l | l | ⟨l | l, k⟩
  ·exact .inl l
  ·exact .inr (.inl l)
  ·refine .inr (.inr ⟨l, fun y hy => ?_⟩)
   obtain ⟨i, hi⟩ := List.mem_iff_getElem?.1 hy
   simp only [Q63] at hi
   have hil := (List.getElem?_eq_some_iff.1 hi).1
   have h2 : p.kids[i]? = some (p.kids[i]'(by omega)) := List.getElem?_eq_getElem (by omega)
   have hxm := List.mem_of_getElem? h2
   obtain ⟨u, hu⟩ := Q6s h hxm
   have := hk i _ _ hi h2
   rw [Z9z hu (k _ hxm)] at this
   rw [Z1t this]
  ·omega
theorem W9o {w : List Q3} {d : Nat} {t : Q2} {p : Q0} (h : altD w d t p) (l : lvB 1 p) : oneS d p := by
 cases d with
 | zero => exact h.elim
 | succ d =>
 by_cases h5 : p.op = 5
 ·refine ⟨Q0.mk 1 0 0 0 0 [], fun q hq => ?_⟩
  rcases Q73 hq with ⟨_, x, hx, hqx⟩ | ⟨h6, _⟩
  ·rcases l with l | l | ⟨_, l⟩
   ·omega
   ·omega
   ·obtain ⟨u, hu⟩ := Q6s h hx
    rw [Z9z hu (l x hx)] at hqx
    exact Z1t hqx
  ·exact absurd h5 h6
 ·refine X1e h5 fun x hx => ?_
  rcases l with l | l | ⟨l | l, k⟩
  ·rw [Z4y h (by omega) h5] at hx; cases hx
  ·rw [Z4y h (by omega) h5] at hx; cases hx
  ·obtain ⟨u, hu⟩ := Q6s h hx
   rw [Z9z hu (k x hx)]
   exact ⟨_, fun q hq => Z1t hq⟩
  ·omega
theorem V4w {w : List Q3} {d : Nat} {t : Q2} {p : Q0} (h : altD w d t p) (l : lvB 2 p) : ∀ q ∈ Z0 d p, hgt2 q := fun q hq => by
 cases d with
 | zero => exact h.elim
 | succ d =>
 rcases Q73 hq with ⟨h5, x, hx, hqx⟩ | ⟨h5, ks, rfl, hl, hk⟩
 ·rcases l with l | l | ⟨_, l⟩
  ·omega
  ·omega
  ·obtain ⟨u, hu⟩ := Q6s h hx
   exact V57 (W1l hu (l x hx) q hqx)
 ·rcases l with l | l | ⟨l | l, k⟩
  ·exact .inl l
  ·exact .inr (.inl l)
  ·refine .inr (.inr ⟨l, fun y hy => ?_⟩)
   obtain ⟨i, hi⟩ := List.mem_iff_getElem?.1 hy
   simp only [Q63] at hi
   have hil := (List.getElem?_eq_some_iff.1 hi).1
   have h2 : p.kids[i]? = some (p.kids[i]'(by omega)) := List.getElem?_eq_getElem (by omega)
   have hxm := List.mem_of_getElem? h2
   obtain ⟨u, hu⟩ := Q6s h hxm
   exact W1l hu (k _ hxm) y (hk i _ _ hi h2)
  ·omega
theorem W9n {w : List Q3} {d : Nat} {t : Q2} {p : Q0} (h : altD w d t p) (l : lvB 2 p) : ∃ k : Option Q0, ∀ q ∈ Z0 d p, match k with
  | none => hgt1 q
  | some α => q = α := by
 cases d with
 | zero => exact h.elim
 | succ d =>
 by_cases h5 : p.op = 5
 ·refine ⟨none, fun q hq => ?_⟩
  rcases Q73 hq with ⟨_, x, hx, hqx⟩ | ⟨h6, _⟩
  ·rcases l with l | l | ⟨_, l⟩
   ·omega
   ·omega
   ·obtain ⟨u, hu⟩ := Q6s h hx
    exact W1l hu (l x hx) q hqx
  ·exact absurd h5 h6
 ·have : oneS (d + 1) p := X1e h5 fun x hx => by
   rcases l with l | l | ⟨l | l, k⟩
   ·rw [Z4y h (by omega) h5] at hx; cases hx
   ·rw [Z4y h (by omega) h5] at hx; cases hx
   ·obtain ⟨u, hu⟩ := Q6s h hx
    exact W9o hu (k x hx)
   ·omega
  obtain ⟨α, hα⟩ := this
  exact ⟨some α, hα⟩
def X5f (w : List Q3) (t : Q2) (l : List Q0) : Prop := (∀ q ∈ l, hgt2 q) ∨ ∃ (c : Int) (K : Nat → Option Q0), t.data ≠ -1 ∧ c ∈ Z7 w t ∧ ∀ q ∈ l, oneP w t c K q
theorem V54 {w : List Q3} (hw : WW w) (hr : WR w) {t : Q2} (ht : t ∈ tys w) {l : List Q0} (h : X5f w t l) : ∃ P, Fam w t P ∧ ∀ q ∈ l, P q := by
 rcases h with h | ⟨c, K, hd, hc, h⟩
 ·exact ⟨hgt2, V5c hw hr ht, h⟩
 ·exact ⟨oneP w t c K, V07 hw hr ht hd hc K, h⟩
theorem W7y {w : List Q3} {t : Q2} {p : Q0} (h : altD w 10 t p) (l : lvB 3 p) : X5f w t (Z0 10 p) := by
 by_cases h4 : p.op = 4
 ·rcases h with rfl | ⟨n, m, rfl, _⟩ | ⟨c, ks, rfl, hd, hc, hl, hk⟩ | ⟨a, b, rfl, _⟩
  ·simp at h4
  ·simp at h4
  ·have lk : ∀ q ∈ ks, lvB 2 q := by
    rcases l with l | l | ⟨_, l⟩
    ·simp at l
    ·simp at l
    ·exact l
   have hex : ∀ j : Nat, ∃ k : Option Q0, ∀ x, ks[j]? = some x → ∀ q ∈ Z0 9 x, match k with
     | none => hgt1 q
     | some α => q = α := fun j => by
    cases hj : ks[j]? with
    | none => exact ⟨none, fun x hx => by cases hx⟩
    | some x =>
     have hjl := (List.getElem?_eq_some_iff.1 hj).1
     have ha : (Z5 w t c)[j]? = some ((Z5 w t c)[j]'(by omega)) := by simp
     obtain ⟨k, hk2⟩ := W9n (hk j _ x ha hj) (lk x (List.mem_of_getElem? hj))
     exact ⟨k, fun y hy => by cases hy; exact hk2⟩
   obtain ⟨K, hK⟩ := Classical.axiomOfChoice hex
   refine .inr ⟨c, K, hd, hc, fun q hq => ?_⟩
   rcases Q73 hq with ⟨h5, _⟩ | ⟨_, zs, rfl, hzl, hz⟩
   ·simp at h5
   ·refine ⟨zs, rfl, by simp only at hzl; omega, fun j y hy => ?_⟩
    have hjl := (List.getElem?_eq_some_iff.1 hy).1
    simp only at hzl
    have h2 : ks[j]? = some (ks[j]'(by omega)) := List.getElem?_eq_getElem (by omega)
    exact hK j _ h2 y (hz j y _ hy h2)
  ·simp at h4
 ·refine .inl fun q hq => ?_
  rcases Q73 hq with ⟨h5, x, hx, hqx⟩ | ⟨h5, ks, rfl, hl, hk⟩
  ·rcases l with l | l | ⟨_, l⟩
   ·omega
   ·omega
   ·obtain ⟨u, hu⟩ := Q6s h hx
    exact V4w hu (l x hx) q hqx
  ·rcases l with l | l | ⟨l | l, _⟩
   ·exact .inl l
   ·exact .inr (.inl l)
   ·exact absurd l h4
   ·exact absurd l h5
theorem W6y : ∀ (m n : Nat) (r : Z1) (w : List Q3) (t : Q2) (depth : Int), depth ≤ m + 1 → -1000 + m ≤ depth → m ≤ 100 → Par (Q0g n r w t depth) (fun a => lvB m a.1) := by
 intro m
 induction m with
 | zero =>
  intro n r w t depth h1 _ _
  cases n with
  | zero => exact .none
  | succ n =>
   unfold Q0g
   rw [if_pos (by rw [W0]; omega)]
   exact .some rfl
 | succ m ih =>
  intro n r w t depth h1 h2 h3
  cases n with
  | zero => exact .none
  | succ n =>
  unfold Q0g
  have hws : wsub .i64 depth 1 = depth - 1 := Q4c (by omega) (by omega)
  rw [hws]
  refine Par.ite (fun _ => .some (.inl rfl)) (fun _ => ?_)
  refine Par.any fun a => Par.ite (fun _ => .some (.inl rfl)) (fun _ => ?_)
  refine Par.any fun b => Par.ite (fun _ => ?_) (fun _ => ?_)
  ·refine Par.bind (ih n b.2 w t (depth - 1) (by omega) (by omega) (by omega)) (fun c hc => ?_)
   refine Par.bind (ih n c.2 w t (depth - 1) (by omega) (by omega) (by omega)) (fun d hd => .some (.inr (.inr ⟨.inr rfl, fun q hq => ?_⟩)))
   simp only [List.mem_cons, List.not_mem_nil, or_false] at hq
   rcases hq with rfl | rfl
   ·exact hc
   ·exact hd
  ·refine Par.ite (fun _ => ?_) (fun _ => ?_)
   ·exact Par.any fun c => Par.any fun d => Par.any fun e => .some (.inr (.inl rfl))
   ·refine Par.any fun c => Par.ite (fun _ => .some (.inl rfl)) (fun _ => ?_)
    refine Par.any fun d => Par.any fun e => Par.any fun f => ?_
    refine Par.ctl (Z2o (fun _ (s : Z1 × List Q0) => ∀ q ∈ s.2, lvB m q) (fun _ => False) (fun s => ∀ q ∈ s.2, lvB m q) f 0 _ (by simp) (fun k x s _ hI => ?_) (fun s hs => hs)) (fun r hr => hr.elim) (fun s hs => .some (.inr (.inr ⟨.inl rfl, hs⟩)))
    refine Par.bind (ih n s.1 w x (depth - 1) (by omega) (by omega) (by omega)) (fun b hb => ?_)
    refine Par.bind (P := fun y => y = s.2 ++ [b.1]) (fun y hy => ?_) (fun y hy => .some ?_)
    ·unfold app at hy
     split at hy
     ·cases hy; rfl
     ·cases hy
    ·subst hy
     simp only [Q33]
     intro q hq
     rcases List.mem_append.1 hq with hq | hq
     ·exact hI q hq
     ·simp only [List.mem_singleton] at hq; rw [hq]; exact hb
theorem X2n {D : Nat} {op c n m v : Int} {ks : List Q0} (h2 : op ≠ 2) (h6 : op ≠ 6) : X1 (D + 1) (Q0.mk op c n m v ks) = Q0.mk op c n m v (ks.map (X1 D)) := by
 rw [X1, if_neg h2, if_neg (fun hh => h6 hh.1)]
theorem W56 : ∀ (m n : Nat) (r : Z1) (p : Q0) (v : Int), lvB m p → Par (Q1z n r p v) (fun a => ∀ D, 2 * (m + 1) ≤ D → lvB m (X1 D a.1)) := by
 intro m
 induction m with
 | zero =>
  intro n r p v h
  have h1 : p.op = 1 := h
  cases n with
  | zero => exact .none
  | succ n =>
  unfold Q1z
  refine Par.ite (fun _ => .some fun D _ => Q98 D h) (fun _ => ?_)
  refine Par.ite (fun _ => .some fun D _ => Q98 D h) (fun _ => ?_)
  refine Par.ite (fun _ => .some fun D _ => Q98 D h) (fun _ => ?_)
  refine Par.ctl (R := fun (a : Q0 × Int × Z1) => ∀ D, 2 * (0 + 1) ≤ D → lvB 0 (X1 D a.1)) (B := fun _ => True) ?_ (fun a ha => .some ha) (fun s _ => ?_)
  ·refine Par.ite (fun _ => ?_) (fun _ => .some trivial)
   refine Par.any fun a => Par.ite (fun _ => .some fun D hD => ?_) (fun _ => .some trivial)
   obtain ⟨D, rfl⟩ : ∃ k, D = k + 1 := ⟨D - 1, by omega⟩
   simp [X1, lvB]
  ·refine Par.ctl (Z2o (fun _ _ => True) (fun _ => False) (fun _ => True) p.kids 0 _ trivial (fun k x s _ _ => Par.any fun a => Par.any fun b => .some trivial) (fun _ _ => trivial)) (fun r hr => hr.elim) (fun u _ => ?_)
   refine Par.ctl (R := fun (a : Q0 × Int × Z1) => ∀ D, 2 * (0 + 1) ≤ D → lvB 0 (X1 D a.1)) (B := fun _ => True) ?_ (fun a ha => .some ha) (fun s _ => .some fun D hD => ?_)
   ·refine Par.ite (fun _ => ?_) (fun _ => .some trivial)
    refine Par.any fun a => Par.ite (fun _ => .some fun D hD => ?_) (fun _ => .some trivial)
    obtain ⟨D, rfl⟩ : ∃ k, D = k + 2 := ⟨D - 2, by omega⟩
    rw [h1]
    simp [X1, lvB]
   ·obtain ⟨D, rfl⟩ : ∃ k, D = k + 1 := ⟨D - 1, by omega⟩
    rw [h1, X2n (by decide) (by decide)]
    exact rfl
 | succ m ih =>
  intro n r p v h
  cases n with
  | zero => exact .none
  | succ n =>
  unfold Q1z
  refine Par.ite (fun _ => .some fun D _ => Q98 D h) (fun _ => ?_)
  refine Par.ite (fun _ => .some fun D _ => Q98 D h) (fun h5 => ?_)
  refine Par.ite (fun _ => .some fun D _ => Q98 D h) (fun h3 => ?_)
  rw [X8] at h5 h3
  refine Par.ctl (R := fun (a : Q0 × Int × Z1) => ∀ D, 2 * (m + 1 + 1) ≤ D → lvB (m + 1) (X1 D a.1)) (B := fun _ => True) ?_ (fun a ha => .some ha) (fun s _ => ?_)
  ·refine Par.ite (fun _ => ?_) (fun _ => .some trivial)
   refine Par.any fun a => Par.ite (fun _ => .some fun D hD => ?_) (fun _ => .some trivial)
   obtain ⟨D, rfl⟩ : ∃ k, D = k + 1 := ⟨D - 1, by omega⟩
   simp [X1, lvB]
  ·refine Par.ctl (Z2o (fun _ (u : Z1 × List Q0 × Int) => p.op = 1 ∨ ∀ q ∈ u.2.1, ∀ D, 2 * (m + 1) ≤ D → lvB m (X1 D q)) (fun _ => False) (fun u => p.op = 1 ∨ ∀ q ∈ u.2.1, ∀ D, 2 * (m + 1) ≤ D → lvB m (X1 D q)) p.kids 0 _ (by simp) (fun k x u hx hI => ?_) (fun _ hI => hI)) (fun r hr => hr.elim) (fun u hu => ?_)
   ·rcases h with h | h | ⟨_, hk⟩
    ·exact Par.any fun a => Par.any fun b => .some (.inl h)
    ·exact absurd h h3
    ·refine Par.bind (ih n u.1 x u.2.2 (hk x hx)) (fun a ha => ?_)
     refine Par.bind (Z9y _ _) (fun b hb => .some ?_)
     subst hb
     simp only [Q33]
     rcases hI with hI | hI
     ·exact .inl hI
     ·refine .inr fun q hq => ?_
      rcases List.mem_append.1 hq with hq | hq
      ·exact hI q hq
      ·simp only [List.mem_singleton] at hq; rw [hq]; exact ha
   ·have hop : p.op = 1 ∨ p.op = 4 := by rcases h with h | h | ⟨h | h, _⟩ <;> omega
    have hnode : ∀ D, 2 * (m + 1) + 1 ≤ D → lvB (m + 1) (X1 D (Q0.mk p.op p.ctor p.n p.m p.var u.2.1)) := fun D hD => by
     obtain ⟨D, rfl⟩ : ∃ k, D = k + 1 := ⟨D - 1, by omega⟩
     rw [X2n (by omega) (by omega)]
     rcases hop with h1 | h4
     ·exact .inl h1
     ·rcases hu with hu | hu
      ·omega
      ·refine .inr (.inr ⟨.inl h4, fun q hq => ?_⟩)
       obtain ⟨x, hx, rfl⟩ := List.mem_map.1 hq
       exact hu x hx D (by omega)
    refine Par.ctl (R := fun (a : Q0 × Int × Z1) => ∀ D, 2 * (m + 1 + 1) ≤ D → lvB (m + 1) (X1 D a.1)) (B := fun _ => True) ?_ (fun a ha => .some ha) (fun s _ => .some fun D hD => hnode D (by omega))
    refine Par.ite (fun _ => ?_) (fun _ => .some trivial)
    refine Par.any fun a => Par.ite (fun _ => .some fun D hD => ?_) (fun _ => .some trivial)
    obtain ⟨D, rfl⟩ : ∃ k, D = k + 1 := ⟨D - 1, by omega⟩
    have := hnode D (by omega)
    rw [X1]
    simpa using this
theorem W4s (r : Z1) (w : List Q3) (t : Q2) : Par (Q3n NN r w t) (fun a => lvB 3 (X1 10 a.1)) := by
 unfold Q3n
 refine Par.bind (W1g r _) (fun a ha => ?_)
 refine Par.bind (W6y 3 NN a.2 w t a.1 (by simp at ha; omega) (by simp at ha; omega) (by omega)) (fun b hb => ?_)
 refine Par.bind (W56 3 NN b.2 b.1 0 hb) (fun c hc => Par.any fun d => Par.ite (fun _ => .some ?_) (fun _ => .some (hc 10 (by omega))))
 exact Q98 10 (X1l rfl)
end Go.Proofs.YtnackipaoepmfaaGreat
namespace Go.Proofs.YtnackipaoepmfaaGreat
open Go Go.RowKit
theorem W5f {w : List Q3} (hw : WW w) {r : Z1} {t : Q2} (ht : t ∈ tys w) (h : ROk r 2600) : Ret (Q3m NN r w t) (fun a => (∀ c ∈ a.1, Y9 w t c.pat = true) ∧ a.1.length ≤ 5 ∧ Nx r a.2 2600) := by
 unfold Q3m
 refine Ret.bind (Q9a (h.le (by omega)) [3, 2, 4, 5, 1, 0] (by simp) (by simp)) (fun a ha => ?_)
 have hr1 : ROk a.2 2599 := ROk.nx (c := 1) h ha.2
 have hd : 0 ≤ a.1 ∧ a.1 ≤ 5 := by
  have := ha.1
  simp at this
  omega
 refine Ret.ctl (Q5b (fun s => 0 ≤ s.2.2 ∧ s.2.2 ≤ 5 ∧ (s.2.1.length : Int) + s.2.2 = a.1 ∧ (∀ c ∈ s.2.1, Y9 w t c.pat = true) ∧ Nx a.2 s.1 (s.2.1.length * 500)) (fun s => s.2.2.toNat) (fun _ => False) (fun s => s.2.1.length ≤ 5 ∧ (∀ c ∈ s.2.1, Y9 w t c.pat = true) ∧ Nx a.2 s.1 2500)
  ⟨hd.1, hd.2, by simp, by simp, by simpa using Nx.refl a.2⟩ (fun s hI => ?_) NN (by have := hd; show (a.1).toNat < 30000000; omega)) (fun r hr => hr.elim) (fun s hs => .some ⟨hs.2.1, hs.1, (ha.2.trans hs.2.2).le' (by omega)⟩)
 obtain ⟨i1, i2, i3, i4, i5⟩ := hI
 refine Ret.ite (fun h => ?_) (fun h => ?_)
 ·rw [W0] at h
  have hr2 : ROk s.1 500 := ROk.nx (c := s.2.1.length * 500) (hr1.le (by omega)) i5
  refine Ret.bind (X9h hw ht hr2) (fun b hb => ?_)
  rw [V4 (by simp only [Q8, List.length_cons, List.length_nil]; omega)]
  have hws : wsub .i64 s.2.2 1 = s.2.2 - 1 := Q4c (by omega) (by omega)
  simp only [Option.bind_some]
  rw [hws]
  refine .some ⟨⟨by simp only; omega, by simp only; omega, by simp; omega, fun c hc => ?_, ?_⟩, by simp only; omega⟩
  ·rcases List.mem_append.1 hc with hc | hc
   ·exact i4 c hc
   ·simp at hc; subst hc; exact hb.1
  ·have := i5.trans hb.2
   simp only [List.length_append, List.length_cons, List.length_nil]
   exact this.le' (by omega)
 ·exact .some ⟨by simp only; omega, i4, i5.le' (by omega)⟩
theorem X0k {r : Z1} (h : ROk r 5000) : Ret (Q35 NN r) (fun a => a.1 ∈ Q15 ∧ a.2.1 ∈ tys a.1 ∧ (∀ c ∈ a.2.2.1, Y9 a.1 a.2.1 c.pat = true) ∧ a.2.2.1.length ≤ 5 ∧ Nx r a.2.2.2.2 4000) := by
 unfold Q35
 refine Ret.bind (W0c (h.le (by omega))) (fun a ha => ?_)
 obtain ⟨h1, h2, h3⟩ := ha
 refine Ret.bind (W5f (ww h1) h2 (ROk.nx (c := 500) (h.le (by omega)) h3)) (fun b hb => ?_)
 exact .some ⟨h1, h2, hb.1, hb.2.1, (h3.trans hb.2.2).le' (by omega)⟩
theorem X84 (code : List Int) (hb : ∀ x ∈ code, 0 ≤ x ∧ x ≤ 255) : Ret (Y4 NN code) (fun a => a.1 ∈ Q15 ∧ a.2.1 ∈ tys a.1 ∧ a.2.2.length ≤ 9) := by
 unfold Y4
 refine Ret.bind (Z95 code hb) (fun r hr => ?_)
 refine Ret.bind (X0k (hr.le (by omega))) (fun a ha => ?_)
 obtain ⟨h1, h2, h3, h4, h5⟩ := ha
 have hr1 : ROk a.2.2.2.2 1000 := ROk.nx (c := 4000) (hr.le (by omega)) h5
 refine Ret.ctl (R := fun _ => False) (B := fun (s : Z1 × List Q5) => ROk s.1 100 ∧ s.2.length ≤ 8 ∧ ∀ c ∈ s.2, c.pat.kids.length ≤ 100) ?_ (fun r hr => hr.elim) (fun s hs => ?_)
 ·have hk : ∀ c ∈ a.2.2.1, c.pat.kids.length ≤ 100 := fun c hc => by have := X7p (ww h1) h2 (h3 c hc); omega
  refine Ret.ite (fun _ => ?_) (fun _ => .some ⟨hr1.le (by omega), by simp only; omega, hk⟩)
  refine Ret.bind (Q34 (hr1.le (by omega)) (by omega) (by omega)) (fun b hb => ?_)
  have hr2 : ROk b.2 999 := ROk.nx (c := 1) hr1 hb.2.2
  refine Ret.ite (fun _ => ?_) (fun _ => .some ⟨hr2.le (by omega), by simp only; omega, hk⟩)
  simp only [Q5i, Option.bind_some]
  rw [V4 (by simp [Q8]; omega)]
  refine .some ⟨hr2.le (by omega), by simp; omega, fun c hc => ?_⟩
  rcases List.mem_append.1 hc with hc | hc
  ·exact hk c hc
  ·simp at hc; subst hc; simp
 ·refine Ret.bind (X82 (hs.1.le (by omega)) s.2 hs.2.1 hs.2.2) (fun b hb => .some ⟨h1, h2, hb.1⟩)
end Go.Proofs.YtnackipaoepmfaaGreat
namespace Go.Proofs.YtnackipaoepmfaaGreat
open Go Go.RowKit
theorem X17 (code : List Int) (hb : ∀ x ∈ code, 0 ≤ x ∧ x ≤ 255) : Ret (V7 NN code) (fun a => a.1 ∈ Q15 ∧ a.2.1 ∈ tys a.1 ∧ a.2.2.length ≤ 10) := by
 unfold V7
 refine Ret.bind (Z95 code hb) (fun r hr => ?_)
 refine Ret.bind (X84 code hb) (fun a ha => ?_)
 obtain ⟨w, t, l⟩ := a
 obtain ⟨h1, h2, h3⟩ := ha
 simp only at h1 h2 h3 ⊢
 refine Ret.ctl (R := fun _ => False) (B := fun s => s.length ≤ 10) ?_ (fun r h => h.elim) (fun s hs => .some ⟨h1, h2, hs⟩)
 refine Ret.ite (fun c1 => ?_) (fun _ => .some (by simp only [Z0j]; omega))
 refine Ret.ite (fun c2 => ?_) (fun _ => .some (by simp only [Z0j]; omega))
 rw [W0] at c1 c2
 simp only [lenZ] at c1 c2
 refine Ret.bind (Q34 (hr.le (by omega)) (by omega) (by omega)) (fun p hp => ?_)
 refine Ret.ite (fun _ => ?_) (fun _ => .some (by simp only [Z0j]; omega))
 refine Ret.bind (Q34 (r := p.2) ((hr.le (by omega : 1 + 1 ≤ 1000000)).nx hp.2.2) (by simp only [lenZ]; omega) (by simp only [lenZ]; omega)) (fun q hq => ?_)
 obtain ⟨x, hx, _⟩ := Q4k hq.1 hq.2.1
 rw [hx]
 simp only [Option.bind_some]
 rw [V4 (by simp only [List.length_cons, List.length_nil, Q8]; omega)]
 exact .some (by simp only [Z0j, List.length_append, List.length_cons, List.length_nil]; omega)
end Go.Proofs.YtnackipaoepmfaaGreat
namespace Go.Proofs.YtnackipaoepmfaaGreat
open Go Go.RowKit
theorem Ret.par {α : Type} {x : Option α} {P : α → Prop} (h : Ret x P) : Par x P := fun a e => by
 obtain ⟨b, e', hp⟩ := h
 rw [e] at e'
 cases e'
 exact hp
theorem Par.both {α : Type} {x : Option α} {P Q : α → Prop} (h : Par x P) (k : Par x Q) : Par x (fun a => P a ∧ Q a) := fun a e => ⟨h a e, k a e⟩
theorem Z2y {σ ρ : Type} {f : σ → Option (Ctl ρ σ)} (I : σ → Prop) (R : ρ → Prop) (B : σ → Prop) (st : ∀ s, I s → Par (f s) (RndQ R B I)) : ∀ (n : Nat) (s0 : σ), I s0 → Par (whileL f n s0) (CtlQ R B)
 | 0, _, _ => .none
 | n + 1, s0, h0 => fun a e => by
  unfold whileL at e
  have h1 := st s0 h0
  cases hf : f s0 with
  | none => rw [hf] at e; cases e
  | some o =>
   rw [hf] at e
   have h2 := h1 o hf
   cases o with
   | ret r => cases e; exact h2
   | brk s => cases e; exact h2
   | go s => exact Z2y I R B st n s h2 a e
def v0P : Q0 := Q0.mk 2 0 0 0 0 []
def Mut (p q : Q0) : Prop := ((q.op = 0 ∨ q.op = 7 ∨ q.op = 1 ∨ q.op = 2 ∨ q.op = 5) ∧ q.kids = p.kids ∧ q.var = p.var) ∨
 (q.op = p.op ∧ (q.kids = p.kids ∨ (q.kids = p.kids ++ [v0P] ∧ q.var = p.var) ∨ q.kids = p.kids.set 0 v0P))
theorem W1h (r : Z1) (p : Q0) : Par (Q1i r p) (fun a => Mut p a.1) := by
 unfold Q1i
 refine Par.any fun x => ?_
 refine Par.ctl (R := fun _ => False) (B := fun (s : Z1 × Int × Int × Int × Int × List Q0) => Mut p (Q0.mk s.2.1 s.2.2.1 s.2.2.2.1 p.m s.2.2.2.2.1 s.2.2.2.2.2)) ?_ (fun r hr => hr.elim) (fun s hs => .some hs)
 have same : ∀ (r : Z1) (c n v : Int), Par (some (Ctl.brk (ρ := Q0 × Z1) (r, p.op, c, n, v, p.kids))) (CtlQ (fun _ => False) (fun (s : Z1 × Int × Int × Int × Int × List Q0) => Mut p (Q0.mk s.2.1 s.2.2.1 s.2.2.2.1 p.m s.2.2.2.2.1 s.2.2.2.2.2))) := fun r c n v => .some (.inr ⟨rfl, .inl rfl⟩)
 refine Par.any fun a => Par.ite (fun _ => ?_) (fun _ => Par.ite (fun _ => Par.any fun b => same _ _ _ _) (fun _ => Par.ite (fun _ => Par.any fun b => same _ _ _ _) (fun _ => Par.ite (fun _ => ?_) (fun _ => Par.ite (fun _ => Par.ite (fun _ => Par.any fun b => ?_) (fun _ => same _ _ _ _)) (fun _ => Par.ite (fun _ => Par.any fun b => same _ _ _ _) (fun _ => same _ _ _ _))))))
 ·refine Par.bind (W1g _ _) (fun b hb => .some (.inl ⟨?_, rfl, rfl⟩))
  simpa using hb
 ·exact Par.any fun b => .some (.inr ⟨rfl, .inr (.inl ⟨rfl, rfl⟩)⟩)
 ·refine Par.bind (P := fun z => z = p.kids.set 0 v0P) (fun z hz => ?_) (fun z hz => .some (.inr ⟨rfl, .inr (.inr hz)⟩))
  unfold setI at hz
  split at hz
  ·cases hz; rfl
  ·cases hz
theorem X61 {p q : Q0} (h : Mut p q) : ∀ k ∈ q.kids, k ∈ p.kids ∨ k = v0P := fun k hk => by
 rcases h with ⟨_, h, _⟩ | ⟨_, h | ⟨h, _⟩ | h⟩
 ·rw [h] at hk; exact .inl hk
 ·rw [h] at hk; exact .inl hk
 ·rw [h] at hk; simpa using hk
 ·rw [h] at hk; exact List.mem_or_eq_of_mem_set hk
theorem W3b (d : Nat) : lvB 2 (X1 (d + 1) v0P) := by
 have : X1 (d + 1) v0P = Q0.mk 1 0 0 0 0 [] := by simp [X1, v0P]
 rw [this]
 exact X1l rfl
theorem W9h {w : List Q3} {t : Q2} {p q1 q : Q0} (hp : Q13 w 10 t p = true) (lp : linD w 10 t p = true) (hq : Q13 w 10 t q = true) (lq : linD w 10 t q = true) (h : lvB 3 (X1 10 p)) (m1 : Mut p q1) (m2 : Mut q1 q) : lvB 3 (X1 10 q) := by
 obtain ⟨po, pl⟩ := Q4p (Q3y hp)
 obtain ⟨qo, ql⟩ := Q4p (Q3y hq)
 have pc := po
 have qc := qo
 simp only [Q9b, Bool.and_eq_true, Bool.or_eq_true, decide_eq_true_eq] at pc qc
 have hk : ∀ k ∈ q.kids, k ∈ p.kids ∨ k = v0P := fun k hk => by
  rcases X61 m2 k hk with h | h
  ·exact X61 m1 k h
  ·exact .inr h
 have hop : q.op = p.op ∨ q.op = 0 ∨ q.op = 7 ∨ q.op = 1 ∨ q.op = 2 ∨ q.op = 5 := by
  rcases m2 with ⟨h, _⟩ | ⟨h, _⟩
  ·exact .inr h
  ·rcases m1 with ⟨h', _⟩ | ⟨h', _⟩
   ·right; rw [h]; exact h'
   ·left; rw [h, h']
 have qcase : q.op = 1 ∨ q.op = 2 ∨ q.op = 5 ∨ q.op = 6 ∨ q.op = 3 ∨ q.op = 4 := by
  rcases qc.2 with (h | h) | h
  ·omega
  ·omega
  ·omega
 have pcase : p.op = 1 ∨ p.op = 2 ∨ p.op = 5 ∨ p.op = 6 ∨ p.op = 3 ∨ p.op = 4 := by
  rcases pc.2 with (h | h) | h
  ·omega
  ·omega
  ·omega
 have bq : q.op ≠ 2 → q.op ≠ 6 → X1 10 q = Q0.mk q.op q.ctor q.n q.m q.var (q.kids.map (X1 9)) := fun h2 h6 => by
  rw [X1, if_neg h2, if_neg (fun h => h6 h.1)]
 have bp : p.op ≠ 2 → p.op ≠ 6 → X1 10 p = Q0.mk p.op p.ctor p.n p.m p.var (p.kids.map (X1 9)) := fun h2 h6 => by
  rw [X1, if_neg h2, if_neg (fun h => h6 h.1)]
 have pk : (p.op = 4 ∨ p.op = 5) → ∀ k ∈ p.kids, lvB 2 (X1 9 k) := fun ho k hk => by
  rw [bp (by omega) (by omega)] at h
  rcases h with h | h | ⟨_, h⟩
  ·simp only at h; omega
  ·simp only at h; omega
  ·exact h _ (List.mem_map_of_mem hk)
 have fin : (q.op = 4 ∨ q.op = 5) → (∀ k ∈ p.kids, k ∈ q.kids → lvB 2 (X1 9 k)) → lvB 3 (X1 10 q) := fun ho hh => by
  rw [bq (by omega) (by omega)]
  refine .inr (.inr ⟨ho, fun k hk' => ?_⟩)
  obtain ⟨k0, hk0, rfl⟩ := List.mem_map.1 hk'
  rcases hk k0 hk0 with h | h
  ·exact hh k0 h hk0
  ·rw [h]; exact W3b 8
 rcases qcase with q1' | q2 | q5 | q6 | q3 | q4
 ·rw [bq (by omega) (by omega)]
  exact X1l q1'
 ·rw [X1, if_pos q2]
  exact X1l rfl
 ·refine fin (.inr q5) fun k hkp hkq => ?_
  rcases pcase with h' | h' | h' | h' | h' | h'
  ·have : p.kids = [] := List.eq_nil_of_length_eq_zero (by rw [pl, Y5, if_neg (by omega), if_neg (by omega), if_neg (by omega)]; rfl)
   rw [this] at hkp; cases hkp
  ·have : p.kids = [] := List.eq_nil_of_length_eq_zero (by rw [pl, Y5, if_neg (by omega), if_neg (by omega), if_neg (by omega)]; rfl)
   rw [this] at hkp; cases hkp
  ·exact pk (.inr h') k hkp
  ·exfalso
   have pl1 : p.kids.length = 1 := by rw [pl, Y5, if_neg (by omega), if_neg (by omega), if_pos h']; rfl
   have ql2 : q.kids.length = 2 := by rw [ql, Y5, if_neg (by omega), if_pos q5]; rfl
   obtain ⟨k0, hk0⟩ : ∃ k0, p.kids = [k0] := by
    match hp' : p.kids, pl1 with
    | [a], _ => exact ⟨a, rfl⟩
   have hqk : q.kids = [k0, v0P] ∧ q.var = p.var := by
    rcases m1 with ⟨_, a1, a2⟩ | ⟨a0, a1⟩
    ·rcases m2 with ⟨_, b1, b2⟩ | ⟨b0, b1 | ⟨b1, b2⟩ | b1⟩
     ·rw [b1, a1, hk0] at ql2; simp at ql2
     ·rw [b1, a1, hk0] at ql2; simp at ql2
     ·exact ⟨by rw [b1, a1, hk0]; rfl, by rw [b2, a2]⟩
     ·rw [b1, a1, hk0] at ql2; simp at ql2
    ·rcases m2 with ⟨_, b1, b2⟩ | ⟨b0, _⟩
     ·rcases a1 with a1 | ⟨a1, a2⟩ | a1
      ·rw [b1, a1, hk0] at ql2; simp at ql2
      ·exact ⟨by rw [b1, a1, hk0]; rfl, by rw [b2, a2]⟩
      ·rw [b1, a1, hk0] at ql2; simp at ql2
     ·omega
   have hv0 : q.var = 0 := by
    have := qc.1.1.1
    rw [if_neg (by omega)] at this
    simpa using this
   have kq : Y5 w t q = [t, t] := by rw [Y5, if_neg (by omega), if_pos q5]
   have kp : Y5 w t p = [t] := by rw [Y5, if_neg (by omega), if_neg (by omega), if_pos h']
   have e1 : kv w 9 t q 0 = Q2n w 9 t k0 := by simp [kv, kq, hqk.1]
   have e2 : kv w 9 t q 1 = [⟨0, t⟩] := by
    simp only [kv, kq, hqk.1]
    simp [Q2n, ownV, v0P]
   have e3 : Q2n w 10 t p = ⟨0, t⟩ :: Q2n w 9 t k0 := by
    rw [Q2n, kp, hk0, if_neg (by omega)]
    simp [ownV, h', ← hqk.2, hv0]
   rw [linD, if_pos q5] at lq
   rw [linD, if_neg (by omega)] at lp
   simp only [Bool.and_eq_true] at lq lp
   have a := lq.2
   have b := lp.2
   rw [e1, e2] at a
   rw [e3] at b
   simp only [Q8b, Bool.and_eq_true, decide_eq_true_eq, List.all_eq_true] at a
   simp only [Q1g, decide_eq_true_eq] at b
   match hx : Q2n w 9 t k0, a with
   | [x], a =>
    have hxx := a.2 x (by simp)
    simp only [List.mem_singleton] at hxx
    rw [hx, hxx] at b
    simp at b
  ·have : p.kids = [] := List.eq_nil_of_length_eq_zero (by rw [pl, Y5, if_neg (by omega), if_neg (by omega), if_neg (by omega)]; rfl)
   rw [this] at hkp; cases hkp
  ·exact pk (.inl h') k hkp
 ·have p6 : p.op = 6 := by omega
  have pl1 : p.kids.length = 1 := by rw [pl, Y5, if_neg (by omega), if_neg (by omega), if_pos p6]; rfl
  have ql1 : q.kids.length = 1 := by rw [ql, Y5, if_neg (by omega), if_neg (by omega), if_pos q6]; rfl
  obtain ⟨k0, hk0⟩ : ∃ k0, p.kids = [k0] := by
   match hp' : p.kids, pl1 with
   | [a], _ => exact ⟨a, rfl⟩
  obtain ⟨k1, hk1⟩ : ∃ k0, q.kids = [k0] := by
   match hp' : q.kids, ql1 with
   | [a], _ => exact ⟨a, rfl⟩
  have eq : X1 10 q = X1 9 k1 := by rw [X1, if_neg (by omega), if_pos ⟨q6, by rw [hk1]; simp⟩, hk1]; rfl
  have ep : X1 10 p = X1 9 k0 := by rw [X1, if_neg (by omega), if_pos ⟨p6, by rw [hk0]; simp⟩, hk0]; rfl
  rw [eq]
  rcases hk k1 (by rw [hk1]; simp) with h1 | h1
  ·rw [hk0, List.mem_singleton] at h1
   rw [h1, ← ep]
   exact h
  ·rw [h1]
   exact W1k (W3b 8)
 ·rw [bq (by omega) (by omega)]
  exact .inr (.inl q3)
 ·exact fin (.inl q4) fun k hkp _ => pk (.inl (by omega)) k hkp
def Q9e (w : List Q3) (t : Q2) (c : Q5) : Prop := Y9 w t c.pat = true → lvB 3 (X1 10 c.pat)
def V0v (w : List Q3) (t : Q2) (c : Q5) : Prop := Y9 w t c.pat = true ∧ lvB 3 (X1 10 c.pat)
theorem X9i (r : Z1) (w : List Q3) (t : Q2) : Par (Q2b NN r w t) (fun a => lvB 3 (X1 10 a.1.pat)) := by
 unfold Q2b
 refine Par.bind (W4s r w t) (fun a ha => Par.any fun b => ?_)
 exact Par.ctl (R := fun _ => False) (B := fun _ => True) (Z2o (fun _ _ => True) (fun _ => False) (fun _ => True) _ 0 _ trivial (fun k x s _ _ => by
  refine Par.ctl (R := fun _ => False) (B := fun _ => True) ?_ (fun r h => h.elim) (fun s _ => .some trivial)
  refine Par.ite (fun _ => Par.any fun c => Par.ite (fun _ => Par.any fun d => Par.any fun e => .some trivial) (fun _ => .some trivial)) (fun _ => .some trivial)) (fun _ _ => trivial)) (fun r h => h.elim) (fun s _ => .some ha)
theorem W5g (r : Z1) (w : List Q3) (t : Q2) : Par (Q3m NN r w t) (fun a => ∀ c ∈ a.1, lvB 3 (X1 10 c.pat)) := by
 unfold Q3m
 refine Par.any fun a => ?_
 refine Par.ctl (Z2y (fun s : Z1 × List Q5 × Int => ∀ c ∈ s.2.1, lvB 3 (X1 10 c.pat)) (fun _ => False) (fun s => ∀ c ∈ s.2.1, lvB 3 (X1 10 c.pat)) (fun s hI => ?_) NN _ (by simp)) (fun r h => h.elim) (fun s hs => .some hs)
 refine Par.ite (fun _ => ?_) (fun _ => .some hI)
 refine Par.bind (X9i s.1 w t) (fun b hb => ?_)
 refine Par.bind (Z9y _ _) (fun z hz => .some ?_)
 subst hz
 intro c hc
 rcases List.mem_append.1 hc with hc | hc
 ·exact hI c hc
 ·simp only [List.mem_singleton] at hc; rw [hc]; exact hb
theorem W0b (r : Z1) : Par (Q35 NN r) (fun a => ∀ c ∈ a.2.2.1, lvB 3 (X1 10 c.pat)) := by
 unfold Q35
 exact Par.any fun a => Par.bind (W5g _ _ _) (fun b hb => .some hb)
theorem W8o (d : Nat) : lvB 3 (X1 d (Q0.mk 1 0 0 0 0 [])) := Q98 d (X1l rfl)
theorem X83 {w : List Q3} {t : Q2} (r : Z1) (l : List Q5) (hl : ∀ c ∈ l, V0v w t c) : Par (Q2a NN r l) (fun a => ∀ c ∈ a.1, Q9e w t c) := by
 have hl' : ∀ c ∈ l, Q9e w t c := fun c hc _ => (hl c hc).2
 unfold Q2a
 refine Par.any fun x => ?_
 refine Par.ctl (R := fun _ => False) (B := fun (s : Z1 × List Q5) => ∀ c ∈ s.2, Q9e w t c) ?_ (fun r h => h.elim) (fun s hs => .some hs)
 have setP : ∀ {i : Int} {c : Q5}, Q9e w t c → Par (setI l i c) (fun z => ∀ c ∈ z, Q9e w t c) := fun {i c} hc z hz => by
  unfold setI at hz
  split at hz
  ·cases hz
   intro y hy
   rcases List.mem_or_eq_of_mem_set hy with hy | rfl
   ·exact hl' y hy
   ·exact hc
  ·cases hz
 have idxP : ∀ i : Int, Par (idx l i) (fun c => c ∈ l) := fun i c hc => by
  unfold idx at hc
  split at hc
  ·exact List.mem_of_getElem? hc
  ·cases hc
 refine Par.any fun a => Par.ite (fun _ => Par.ite (fun _ => ?_) (fun _ => .some hl')) (fun _ => Par.ite (fun _ => Par.ite (fun _ => ?_) (fun _ => .some hl')) (fun _ => Par.ite (fun _ => ?_) (fun _ => .some hl')))
 ·refine Par.any fun b => Par.any fun c => Par.any fun d => Par.bind (idxP 0) (fun e he => ?_)
  exact Par.bind (setP (fun _ => (hl e he).2)) (fun z hz => .some hz)
 ·refine Par.bind (idxP 0) (fun e he => ?_)
  refine Par.bind (W1h _ _) (fun f hf => ?_)
  refine Par.bind (W1h _ _) (fun g hg => ?_)
  refine Par.bind (setP (fun hv => ?_)) (fun z hz => .some hz)
  obtain ⟨g1, _, l1⟩ := J2 (hl e he).1
  obtain ⟨g2, _, l2⟩ := J2 hv
  exact W9h g1 l1 g2 l2 (hl e he).2 hf hg
 ·refine Par.ctl (Z2y (fun s : List Q5 => ∀ c ∈ s, Q9e w t c) (fun _ => False) (fun s => ∀ c ∈ s, Q9e w t c) (fun s hI => ?_) NN _ hl') (fun r h => h.elim) (fun s hs => .some hs)
  refine Par.ite (fun _ => Par.any fun y => .some fun c hc => ?_) (fun _ => .some hI)
  rcases List.mem_append.1 hc with hc | hc
  ·exact hI c hc
  ·simp only [List.mem_singleton] at hc; rw [hc]; exact fun _ => W8o 10
theorem X85 (code : List Int) (hb : ∀ x ∈ code, 0 ≤ x ∧ x ≤ 255) : Par (Y4 NN code) (fun a => ∀ c ∈ a.2.2, Q9e a.1 a.2.1 c) := by
 unfold Y4
 refine Par.bind (Z95 code hb).par (fun r hr => ?_)
 refine Par.bind ((X0k (hr.le (by omega))).par.both (W0b r)) (fun a ha => ?_)
 obtain ⟨⟨h1, h2, h3, h4, h5⟩, h6⟩ := ha
 have hd : ∀ c ∈ a.2.2.1, V0v a.1 a.2.1 c := fun c hc => ⟨h3 c hc, h6 c hc⟩
 refine Par.ctl (R := fun _ => False) (B := fun (s : Z1 × List Q5) => ∀ c ∈ s.2, V0v a.1 a.2.1 c) ?_ (fun r hr => hr.elim) (fun s hs => Par.bind (X83 s.1 s.2 hs) (fun b hb => .some hb))
 refine Par.ite (fun _ => Par.any fun b => Par.ite (fun _ => Par.bind (P := fun p => p = Q0.mk 1 0 0 0 0 []) (.some rfl) (fun p hp => Par.bind (Z9y _ _) (fun z hz => .some ?_))) (fun _ => .some hd)) (fun _ => .some hd)
 subst hz hp
 intro c hc
 rcases List.mem_append.1 hc with hc | hc
 ·exact hd c hc
 ·simp only [List.mem_singleton] at hc
  rw [hc]
  exact ⟨X2t _ _, W8o 10⟩
theorem X18 (code : List Int) (hb : ∀ x ∈ code, 0 ≤ x ∧ x ≤ 255) : Par (V7 NN code) (fun a => ∀ c ∈ a.2.2, Q9e a.1 a.2.1 c) := by
 unfold V7
 refine Par.any fun r => Par.bind (X85 code hb) (fun a ha => ?_)
 refine Par.ctl (R := fun _ => False) (B := fun (s : List Q5) => ∀ c ∈ s, Q9e a.1 a.2.1 c) ?_ (fun r hr => hr.elim) (fun s hs => .some hs)
 refine Par.ite (fun _ => Par.ite (fun _ => Par.any fun b => Par.ite (fun _ => Par.any fun d => Par.bind (P := fun c => c ∈ a.2.2) (fun c hc => ?_) (fun c hc => Par.bind (Z9y _ _) (fun z hz => .some ?_))) (fun _ => .some ha)) (fun _ => .some ha)) (fun _ => .some ha)
 ·unfold idx at hc
  split at hc
  ·exact List.mem_of_getElem? hc
  ·cases hc
 ·subst hz
  intro y hy
  rcases List.mem_append.1 hy with hy | hy
  ·exact ha y hy
  ·simp only [List.mem_singleton] at hy; rw [hy]; exact ha c hc
end Go.Proofs.YtnackipaoepmfaaGreat
namespace Go.Proofs.YtnackipaoepmfaaGreat
open Go Go.RowKit
theorem X0w {w : List Q3} (hw : WW w) (he : WE w) {t : Q2} (ht : t ∈ tys w) {ps : List Q0} (hp : ∀ p ∈ ps, Z3 w 10 t p ∧ cntP p ≤ 130) (hl : ps.length ≤ 1600) (hfew : ∀ r, sepP w t [] ps = some r → r.length ≤ 400) :
  Q40 NN w (tabP w) t ps = some (optR (sepP w t [] ps)) := by
 suffices hs : Ret (Q40 NN w (tabP w) t ps) (fun r => r = optR (sepP w t [] ps)) by
  obtain ⟨a, e, rfl⟩ := hs
  exact e
 unfold Q40
 refine Ret.ctl (Z4 ps (fun k s => s.length ≤ 400 ∧ sepP w t [] ps = (sepP w t (ps.take k) (ps.drop k)).map (s ++ ·)) (fun r => r = ([], false) ∧ sepP w t [] ps = none) (fun s => sepP w t [] ps = some s) ⟨by simp, by simp⟩ (fun k p s hp' hI => ?_) (fun s hI => ?_)) (fun r hr => .some (by rw [hr.1, hr.2]; rfl)) (fun s hs => .some (by rw [hs]; rfl))
 ·obtain ⟨hsl, hI⟩ := hI
  have hk := (List.getElem?_eq_some_iff.1 hp').1
  have hpm := hp p (List.mem_of_getElem? hp')
  have hsub : subI ps (k : Int) (wadd .i64 (k : Int) 1) = some [p] := by
   rw [Q0p (by omega) (by omega)]
   unfold subI
   rw [if_pos ⟨by omega, by omega, by omega⟩]
   have h1 : ((k : Int) + 1).toNat = k + 1 := by omega
   rw [h1, Int.toNat_natCast, List.take_add_one, hp', List.drop_append, List.length_take, Nat.min_eq_left (by omega), Nat.sub_self, List.drop_of_length_le (by rw [List.length_take]; omega)]
   rfl
  rw [hsub]
  simp only [Option.bind_some]
  rw [X5k (by omega)]
  simp only [Option.bind_some]
  rw [Z59 hw he (d := 10) (x := 11) ht (by omega) (by omega) (fun b hb => hp b (List.mem_of_mem_take hb)) (fun a ha => by simp only [List.mem_singleton] at ha; rw [ha]; exact Q50 10 t p hpm.1) (by simp) (by simp only [NN]; omega)]
  simp only [Option.bind_some]
  rw [Z6p hp'] at hI
  simp only [sepP] at hI
  cases hm : Q3c w 10 11 t [p] (ps.take k) with
  | none =>
   rw [hm] at hI
   simp only [Option.bind_none, Option.map_none] at hI
   simp only [optR, Bool.not_false, if_true]
   exact .some ⟨rfl, hI⟩
  | some m =>
   rw [hm] at hI
   have hml := Z3q (m := 400) (Nat.le_refl _) (by simp) hm
   have e1 : wadd .i64 (lenZ s.length) (lenZ m.length) = ((s.length + m.length : Nat) : Int) := by
    rw [Q1m, Q1m, Q0p (by omega) (by omega)]
    omega
   simp only [optR, Bool.not_true, Bool.false_eq_true, if_false, e1]
   refine Ret.ite (fun hgt => ?_) (fun hle => ?_)
   ·rw [W0] at hgt
    refine .some ⟨rfl, ?_⟩
    cases hz : sepP w t (ps.take k ++ [p]) (ps.drop (k + 1)) with
    | none => rw [hI]; simp [hz]
    | some z =>
     rw [hz] at hI
     simp only [Option.bind_some, Option.map_some] at hI
     have := hfew _ hI
     simp only [List.length_append] at this
     omega
   ·rw [Q06] at hle
    rw [V4 (by simp only [Q8]; omega)]
    refine .some ⟨by simp only [List.length_append]; omega, ?_⟩
    rw [hI]
    simp only [Option.bind_some, Option.map_map]
    rw [List.take_add_one, hp']
    simp only [Option.toList_some]
    congr 1
    funext z
    simp
 ·obtain ⟨_, hI⟩ := hI
  rw [List.drop_length, sepP] at hI
  simpa using hI
end Go.Proofs.YtnackipaoepmfaaGreat
namespace Go.Proofs.YtnackipaoepmfaaGreat
open Go Go.RowKit
theorem Z2c {f : Q0 → Q0 → Option Q0} : ∀ {as bs zs : List Q0}, as.length = bs.length → Q1q f as bs = some zs → zs.length = as.length ∧ ∀ (j : Nat) (a b z : Q0), as[j]? = some a → bs[j]? = some b → zs[j]? = some z → f a b = some z
 | [], [], zs, _, h => by simp only [Q1q, Option.some.injEq] at h; subst h; exact ⟨rfl, fun j a b z h => by simp at h⟩
 | [], _ :: _, _, h, _ => by simp at h
 | _ :: _, [], _, h, _ => by simp at h
 | a :: as, b :: bs, zs, hl, h => by
  simp only [Q1q, Option.bind_eq_some_iff, Option.map_eq_some_iff] at h
  obtain ⟨x, hx, ys, hy, rfl⟩ := h
  obtain ⟨h1, h2⟩ := Z2c (by simpa using hl) hy
  refine ⟨by simp [h1], fun j p q z e1 e2 e3 => ?_⟩
  cases j with
  | zero => simp only [List.getElem?_cons_zero, Option.some.injEq] at e1 e2 e3; subst e1 e2 e3; exact hx
  | succ j => exact h2 j p q z (by simpa using e1) (by simpa using e2) (by simpa using e3)
def kidF (k : Option Q0) (q : Q0) : Prop := match k with
 | none => hgt1 q
 | some α => q = α
def X89 : Option Q0 → Option Q0 → Option Q0
 | none, none => none
 | none, some β => some β
 | some α, none => some α
 | some α, some β => W3 9 α β
theorem X5w {w : List Q3} {d : Nat} {t : Q2} {p : Q0} (h : Z3 w d t p) (h1 : p.op = 1) : p = Q0.mk 1 0 0 0 0 [] := by
 cases d with
 | zero => exact h.elim
 | succ d =>
  rcases h with rfl | ⟨n, m, rfl, _⟩ | ⟨c, ks, rfl, _⟩
  ·rfl
  ·simp at h1
  ·simp at h1
theorem W6g {w : List Q3} {u : Q2} {x β m : Q0} (hx : hgt1 x) (hβ : ¬ hgt1 β) (px : Z3 w 9 u x) (pβ : Z3 w 9 u β) (h : W3 9 x β = some m) : m = β := by
 rcases px with rfl | ⟨n, k, rfl, hd, _⟩ | ⟨c, ks, rfl, hd, hc, hl, hk⟩
 ·simpa [W3] using h.symm
 ·rcases pβ with rfl | ⟨_, _, rfl, _⟩ | ⟨_, _, rfl, hd', _⟩
  ·exact absurd (.inl rfl) hβ
  ·exact absurd (.inr (.inl rfl)) hβ
  ·exact absurd hd hd'
 ·rcases pβ with rfl | ⟨_, _, rfl, _⟩ | ⟨c', ks', rfl, hd', hc', hl', hk'⟩
  ·exact absurd (.inl rfl) hβ
  ·exact absurd (.inr (.inl rfl)) hβ
  ·have e1 : ¬ (4 : Int) = 1 := by decide
   have e3 : ¬ (4 : Int) = 3 := by decide
   rw [show (9 : Nat) = 8 + 1 from rfl, W3, if_neg (by exact e1), if_neg (by exact e1), if_neg (by exact e3)] at h
   split at h
   ·rename_i hcc
    simp only at hcc
    subst hcc
    rw [Option.map_eq_some_iff] at h
    obtain ⟨zs, hz, rfl⟩ := h
    have hz : Q1q (W3 8) ks ks' = some zs := hz
    obtain ⟨z1, z2⟩ := Z2c (by omega) hz
    congr 1
    refine List.ext_getElem? fun j => ?_
    by_cases hj : j < zs.length
    ·have g1 : ks[j]? = some (ks[j]'(by omega)) := List.getElem?_eq_getElem (by omega)
     have g2 : ks'[j]? = some (ks'[j]'(by omega)) := List.getElem?_eq_getElem (by omega)
     have g3 : zs[j]? = some (zs[j]) := List.getElem?_eq_getElem hj
     have := z2 j _ _ _ g1 g2 g3
     rw [g3, g2]
     congr 1
     rcases hx with hx | hx | ⟨_, hx⟩
     ·simp at hx
     ·simp at hx
     ·have ho := hx _ (List.mem_of_getElem? g1)
      rw [W3, if_pos ho] at this
      exact (Option.some.inj this).symm
    ·rw [List.getElem?_eq_none (by omega), List.getElem?_eq_none (by omega)]
   ·cases h
theorem W6f {w : List Q3} {u : Q2} {x β m : Q0} (hx : hgt1 x) (hβ : ¬ hgt1 β) (px : Z3 w 9 u x) (pβ : Z3 w 9 u β) (h : W3 9 β x = some m) : m = β := by
 have hb1 : ¬ β.op = 1 := fun h => hβ (.inl h)
 rcases px with rfl | ⟨n, k, rfl, hd, _⟩ | ⟨c, ks, rfl, hd, hc, hl, hk⟩
 ·rw [W3, if_neg hb1, if_pos rfl] at h
  exact (Option.some.inj h).symm
 ·rcases pβ with rfl | ⟨_, _, rfl, _⟩ | ⟨_, _, rfl, hd', _⟩
  ·exact absurd (.inl rfl) hβ
  ·exact absurd (.inr (.inl rfl)) hβ
  ·exact absurd hd hd'
 ·rcases pβ with rfl | ⟨_, _, rfl, _⟩ | ⟨c', ks', rfl, hd', hc', hl', hk'⟩
  ·exact absurd (.inl rfl) hβ
  ·exact absurd (.inr (.inl rfl)) hβ
  ·have e1 : ¬ (4 : Int) = 1 := by decide
   have e3 : ¬ (4 : Int) = 3 := by decide
   rw [show (9 : Nat) = 8 + 1 from rfl, W3, if_neg (by exact e1), if_neg (by exact e1), if_neg (by exact e3)] at h
   split at h
   ·rename_i hcc
    simp only at hcc
    subst hcc
    rw [Option.map_eq_some_iff] at h
    obtain ⟨zs, hz, rfl⟩ := h
    have hz : Q1q (W3 8) ks' ks = some zs := hz
    obtain ⟨z1, z2⟩ := Z2c (by omega) hz
    congr 1
    refine List.ext_getElem? fun j => ?_
    by_cases hj : j < zs.length
    ·have g1 : ks[j]? = some (ks[j]'(by omega)) := List.getElem?_eq_getElem (by omega)
     have g2 : ks'[j]? = some (ks'[j]'(by omega)) := List.getElem?_eq_getElem (by omega)
     have g3 : zs[j]? = some (zs[j]) := List.getElem?_eq_getElem hj
     have := z2 j _ _ _ g2 g1 g3
     rw [g3, g2]
     congr 1
     rcases hx with hx | hx | ⟨_, hx⟩
     ·simp at hx
     ·simp at hx
     ·have ho := hx _ (List.mem_of_getElem? g1)
      have ha : (Z5 w u c')[j]? = some ((Z5 w u c')[j]'(by omega)) := List.getElem?_eq_getElem (by omega)
      have e := X5w (hk j _ _ ha g1) ho
      rw [e] at this
      by_cases hk1 : (ks'[j]'(by omega)).op = 1
      ·rw [W3, if_pos hk1] at this
       rw [X5w (hk' j _ _ ha g2) hk1]
       exact (Option.some.inj this).symm
      ·rw [W3, if_neg hk1, if_pos rfl] at this
       exact (Option.some.inj this).symm
    ·rw [List.getElem?_eq_none (by omega), List.getElem?_eq_none (by omega)]
   ·cases h
theorem W5i {w : List Q3} (hw : WW w) {u : Q2} (hu : u ∈ tys w) {k1 k2 : Option Q0} (n1 : ∀ α, k1 = some α → ¬ hgt1 α) (n2 : ∀ α, k2 = some α → ¬ hgt1 α) {x y m : Q0} (hx : kidF k1 x) (hy : kidF k2 y) (px : Z3 w 9 u x) (py : Z3 w 9 u y) (h : W3 9 x y = some m) : kidF (X89 k1 k2) m := by
 cases k1 with
 | none =>
  cases k2 with
  | none => exact (V0i hw (d := 8) (x := 8) (by omega) hu).me x y hx hy px py m h
  | some β =>
   have hy : y = β := hy
   subst hy
   exact W6g hx (n2 _ rfl) px py h
 | some α =>
  have hx : x = α := hx
  subst hx
  cases k2 with
  | none => exact W6f hy (n1 _ rfl) py px h
  | some β =>
   have hy : y = β := hy
   subst hy
   simp only [X89]
   rw [h]
   exact rfl
open Classical in
noncomputable def Z5l (K : Nat → Option Q0) (j : Nat) : Option Q0 := match K j with
 | none => none
 | some α => if hgt1 α then none else some α
theorem Z27 (K : Nat → Option Q0) (j : Nat) (α : Q0) (h : Z5l K j = some α) : ¬ hgt1 α := by
 unfold Z5l at h
 cases hK : K j with
 | none => rw [hK] at h; cases h
 | some β =>
  rw [hK] at h
  simp only at h
  split at h
  ·cases h
  ·cases h; assumption
theorem W54 {K : Nat → Option Q0} {j : Nat} {q : Q0} (h : kidF (K j) q) : kidF (Z5l K j) q := by
 unfold Z5l
 cases hK : K j with
 | none => rw [hK] at h; exact h
 | some β =>
  rw [hK] at h
  have h : q = β := h
  subst h
  simp only
  split
  ·assumption
  ·exact rfl
theorem Z4q {w : List Q3} {t : Q2} {c : Int} {K : Nat → Option Q0} {p : Q0} (h : oneP w t c K p) : oneP w t c (Z5l K) p := by
 obtain ⟨ks, rfl, hl, hk⟩ := h
 exact ⟨ks, rfl, hl, fun j q hq => W54 (hk j q hq)⟩
def Q2o (as bs : List Q0) : List Q0 := as.flatMap fun a => bs.filterMap (W3 10 a)
theorem Z6r {w : List Q3} (hw : WW w) {t : Q2} (ht : t ∈ tys w) {c : Int} {ks ks' : List Q0} {K K' : Nat → Option Q0} (n1 : ∀ j α, K j = some α → ¬ hgt1 α) (n2 : ∀ j α, K' j = some α → ¬ hgt1 α)
  (hc : c ∈ Z7 w t) (hl : ks.length = (Z5 w t c).length) (hl' : ks'.length = (Z5 w t c).length) (hk : ∀ (j : Nat) (q : Q0), ks[j]? = some q → kidF (K j) q) (hk' : ∀ (j : Nat) (q : Q0), ks'[j]? = some q → kidF (K' j) q)
  (pk : ∀ (j : Nat) (u : Q2) (q : Q0), (Z5 w t c)[j]? = some u → ks[j]? = some q → Z3 w 9 u q) (pk' : ∀ (j : Nat) (u : Q2) (q : Q0), (Z5 w t c)[j]? = some u → ks'[j]? = some q → Z3 w 9 u q)
  {m : Q0} (h : W3 10 (Q0.mk 4 c 0 0 0 ks) (Q0.mk 4 c 0 0 0 ks') = some m) : oneP w t c (fun j => X89 (K j) (K' j)) m := by
 have e1 : ¬ (4 : Int) = 1 := by decide
 have e3 : ¬ (4 : Int) = 3 := by decide
 simp only [W3, e1, e3, if_false, if_true] at h
 rw [Option.map_eq_some_iff] at h
 obtain ⟨zs, hz, rfl⟩ := h
 obtain ⟨z1, z2⟩ := Z2c (by omega) hz
 refine ⟨zs, rfl, by omega, fun j z hzj => ?_⟩
 have hj := (List.getElem?_eq_some_iff.1 hzj).1
 have g1 : ks[j]? = some (ks[j]'(by omega)) := List.getElem?_eq_getElem (by omega)
 have g2 : ks'[j]? = some (ks'[j]'(by omega)) := List.getElem?_eq_getElem (by omega)
 have ha : (Z5 w t c)[j]? = some ((Z5 w t c)[j]'(by omega)) := List.getElem?_eq_getElem (by omega)
 exact W5i hw ((hw.ty t ht).at_ c hc _ (List.mem_of_getElem? ha)) (n1 j) (n2 j) (hk j _ g1) (hk' j _ g2) (pk j _ _ ha g1) (pk' j _ _ ha g2) (z2 j _ _ _ g1 g2 hzj)
theorem W9s (k : Option Q0) : X89 none k = k := by cases k <;> rfl
theorem W9r (k : Option Q0) : X89 k none = k := by cases k <;> rfl
theorem Z0i {w : List Q3} {t : Q2} {c : Int} {ks : List Q0} (h : Z3 w 10 t (Q0.mk 4 c 0 0 0 ks)) : c ∈ Z7 w t ∧ ks.length = (Z5 w t c).length ∧ ∀ (j : Nat) (u : Q2) (q : Q0), (Z5 w t c)[j]? = some u → ks[j]? = some q → Z3 w 9 u q := by
 rcases h with h | ⟨_, _, h, _⟩ | ⟨c2, ks2, h, _, h2, h3, h4⟩
 ·cases h
 ·cases h
 ·cases h; exact ⟨h2, h3, h4⟩
theorem Z36 {d : Nat} {c c' : Int} {ks ks' : List Q0} {m : Q0} (h : W3 (d + 1) (Q0.mk 4 c 0 0 0 ks) (Q0.mk 4 c' 0 0 0 ks') = some m) : c = c' := by
 have e1 : ¬ (4 : Int) = 1 := by decide
 have e3 : ¬ (4 : Int) = 3 := by decide
 simp only [W3, e1, e3, if_false] at h
 split at h
 ·assumption
 ·cases h
theorem W9l {w : List Q3} (hw : WW w) {t : Q2} (ht : t ∈ tys w) {as bs : List Q0} (ha : ∀ a ∈ as, Z3 w 10 t a) (hb : ∀ b ∈ bs, Z3 w 10 t b) (fa : X5f w t as) (fb : X5f w t bs) : X5f w t (Q2o as bs) := by
 have mem : ∀ m ∈ Q2o as bs, ∃ a ∈ as, ∃ b ∈ bs, W3 10 a b = some m := fun m hm => by
  unfold Q2o at hm
  obtain ⟨a, h1, h2⟩ := List.mem_flatMap.1 hm
  obtain ⟨b, h3, h4⟩ := List.mem_filterMap.1 h2
  exact ⟨a, h1, b, h3, h4⟩
 rcases fa with fa | ⟨c, K, hd, hc, fa⟩
 ·rcases fb with fb | ⟨c', K', hd', hc', fb⟩
  ·refine .inl fun m hm => ?_
   obtain ⟨a, h1, b, h2, h3⟩ := mem m hm
   exact (V6c hw (d := 8) (x := 8) (by omega) ht).me a b (fa a h1) (fb b h2) (ha a h1) (hb b h2) m h3
  ·refine .inr ⟨c', Z5l K', hd', hc', fun m hm => ?_⟩
   obtain ⟨a, h1, b, h2, h3⟩ := mem m hm
   have h4 := Z4q (fb b h2)
   have pa := ha a h1
   have pb := hb b h2
   have ka := fa a h1
   rcases pa with rfl | ⟨n, k, rfl, hdd, _⟩ | ⟨c1, ks, rfl, _, hc1, hl, hk⟩
   ·have : m = b := by simpa [W3] using h3.symm
    rw [this]; exact h4
   ·exact absurd hdd hd'
   ·obtain ⟨ks', rfl, hl', hk'⟩ := h4
    have e := Z36 h3
    subst e
    have := Z6r hw ht (K := fun _ => none) (K' := Z5l K') (fun j α h => by cases h) (Z27 K') hc1 hl hl' (fun j q hq => by
     rcases ka with ka | ka | ⟨_, ka⟩
     ·simp at ka
     ·simp at ka
     ·exact ka q (List.mem_of_getElem? hq)) hk' hk (Z0i pb).2.2 h3
    simpa only [W9s] using this
 ·rcases fb with fb | ⟨c', K', hd', hc', fb⟩
  ·refine .inr ⟨c, Z5l K, hd, hc, fun m hm => ?_⟩
   obtain ⟨a, h1, b, h2, h3⟩ := mem m hm
   have h4 := Z4q (fa a h1)
   have pa := ha a h1
   have pb := hb b h2
   have kb := fb b h2
   rcases pb with rfl | ⟨n, k, rfl, hdd, _⟩ | ⟨c1, ks', rfl, _, hc1, hl', hk'⟩
   ·obtain ⟨ks, rfl, hl, hk⟩ := h4
    have e1 : ¬ (4 : Int) = 1 := by decide
    have : m = Q0.mk 4 c 0 0 0 ks := by
     simp only [W3, e1, if_false, if_true] at h3
     exact (Option.some.inj h3).symm
    rw [this]; exact ⟨ks, rfl, hl, hk⟩
   ·exact absurd hdd hd
   ·obtain ⟨ks, rfl, hl, hk⟩ := h4
    have e := Z36 h3
    subst e
    have := Z6r hw ht (K := Z5l K) (K' := fun _ => none) (Z27 K) (fun j α h => by cases h) hc hl hl' hk (fun j q hq => by
     rcases kb with kb | kb | ⟨_, kb⟩
     ·simp at kb
     ·simp at kb
     ·exact kb q (List.mem_of_getElem? hq)) (Z0i pa).2.2 hk' h3
    simpa only [W9r] using this
  ·refine .inr ⟨c, fun j => X89 (Z5l K j) (Z5l K' j), hd, hc, fun m hm => ?_⟩
   obtain ⟨a, h1, b, h2, h3⟩ := mem m hm
   have pa := ha a h1
   have pb := hb b h2
   obtain ⟨ks, rfl, hl, hk⟩ := Z4q (fa a h1)
   obtain ⟨ks', rfl, hl', hk'⟩ := Z4q (fb b h2)
   have e := Z36 h3
   subst e
   exact Z6r hw ht (Z27 K) (Z27 K') hc hl hl' hk hk' (Z0i pa).2.2 (Z0i pb).2.2 h3
end Go.Proofs.YtnackipaoepmfaaGreat
namespace Go.Proofs.YtnackipaoepmfaaGreat
open Go Go.RowKit
theorem W1u {w : List Q3} (hw : WW w) {t : Q2} (ht : t ∈ tys w) (p : Q0) : Q2f NN w t p = some (Y9 w t p) := by
 unfold Q2f
 rw [Z2f hw ht]
 simp only [Option.bind_some, if_true]
 rw [Q8p hw (by decide) ht]
 rfl
theorem ilt0 (n : Nat) : ilt 0 (lenZ n) = decide (0 < n) := by
 rw [Q1m]
 exact decide_eq_decide.2 (by omega)
theorem X0t {w : List Q3} (hw : WW w) {t : Q2} (ht : t ∈ tys w) (p : Q0) : Q18 NN w t p = some (Y9 w t p) := by
 unfold Q18
 rw [Z58 hw ht]
 simp only [Option.bind_some, if_true]
 rw [Z1v hw (n := NN) (by decide) t p ht]
 rfl
theorem Z5q {f : Q0 → Q0 → Option Q0} (hf : ∀ a b m, f a b = some m → cntP m ≤ cntP a + cntP b) : ∀ (as bs zs : List Q0), Q1q f as bs = some zs → cntP.cntPs zs ≤ cntP.cntPs as + cntP.cntPs bs
 | [], bs, zs, h => by simp only [Q1q, Option.some.injEq] at h; subst h; simp [cntP.cntPs]
 | _ :: _, [], zs, h => by simp only [Q1q, Option.some.injEq] at h; subst h; simp [cntP.cntPs]
 | a :: as, b :: bs, zs, h => by
  simp only [Q1q, Option.bind_eq_some_iff, Option.map_eq_some_iff] at h
  obtain ⟨x, hx, ys, hy, rfl⟩ := h
  have h1 := hf a b x hx
  have h2 := Z5q hf as bs ys hy
  simp only [cntP.cntPs]
  omega
theorem X63 : ∀ (d : Nat) (a b m : Q0), W3 d a b = some m → cntP m ≤ cntP a + cntP b
 | 0, _, _, _, h => by simp [W3] at h
 | d + 1, a, b, m, h => by
  have ha := Q2g a
  have hb := Q2g b
  rw [W3] at h
  split at h
  ·cases h; omega
  split at h
  ·cases h; omega
  split at h
  ·split at h
   ·cases h
    rw [Q2g]
    simp only [cntP.cntPs]
    omega
   ·cases h
  split at h
  ·rw [Option.map_eq_some_iff] at h
   obtain ⟨zs, hz, rfl⟩ := h
   have := Z5q (X63 d) _ _ zs hz
   rw [Q2g]
   simp only
   omega
  ·cases h
def mpD (w : List Q3) (t : Q2) (p q : Q0) : Option (List Q0) :=
 if Y9 w t p = true ∧ Y9 w t q = true then (Q3v p).bind fun A => (Q3v q).bind fun B => Z0y w t (sepP w t [] (Q2o A B)) else none
theorem Z2a (as bs : List Q0) : (Q2o as bs).length ≤ as.length * bs.length := by
 induction as with
 | nil => simp [Q2o]
 | cons a as ih =>
  have e : Q2o (a :: as) bs = bs.filterMap (W3 10 a) ++ Q2o as bs := by simp [Q2o]
  have h1 := List.length_filterMap_le (W3 10 a) bs
  rw [e, List.length_append, List.length_cons, Nat.succ_mul]
  omega
theorem Z35 {w : List Q3} {t : Q2} {as bs : List Q0} (ha : ∀ a ∈ as, Z3 w 10 t a ∧ cntP a ≤ 60) (hb : ∀ b ∈ bs, Z3 w 10 t b ∧ cntP b ≤ 60) : ∀ m ∈ Q2o as bs, Z3 w 10 t m ∧ cntP m ≤ 130 := fun m hm => by
 unfold Q2o at hm
 obtain ⟨a, h1, h2⟩ := List.mem_flatMap.1 hm
 obtain ⟨b, h3, h4⟩ := List.mem_filterMap.1 h2
 have h5 := X63 10 a b m h4
 have := (ha a h1).2
 have := (hb b h3).2
 exact ⟨Q86 10 10 t a b m (Nat.le_refl _) (ha a h1).1 (hb b h3).1 h4, by omega⟩
structure Y00 (w : List Q3) (t : Q2) (A B : List Q0) : Prop where
 a : ∀ x ∈ A, Z3 w 10 t x ∧ cntP x ≤ 60
 b : ∀ x ∈ B, Z3 w 10 t x ∧ cntP x ≤ 60
 al : A.length ≤ 40
 bl : B.length ≤ 40
 few : ∀ r, sepP w t [] (Q2o A B) = some r → r.length ≤ 400
theorem W7m {w : List Q3} (hww : w ∈ Q15) {t : Q2} (ht : t ∈ tys w) {p q : Q0} (hp : Y9 w t p = true) (hq : Y9 w t q = true) (lp : lvB 3 (X1 10 p)) (lq : lvB 3 (X1 10 q)) {A B : List Q0} (ha : Q3v p = some A) (hb : Q3v q = some B) : Y00 w t A B := by
 have hw := ww hww
 obtain ⟨gp, cp, _⟩ := J2 hp
 obtain ⟨gq, cq, _⟩ := J2 hq
 have pa : ∀ x ∈ A, Z3 w 10 t x ∧ cntP x ≤ 60 := fun x hx => ⟨Q6x gp ha x hx, by have := X1d ha x hx; omega⟩
 have pb : ∀ x ∈ B, Z3 w 10 t x ∧ cntP x ≤ 60 := fun x hx => ⟨Q6x gq hb x hx, by have := X1d hb x hx; omega⟩
 refine ⟨pa, pb, (Q78 ha).1, (Q78 hb).1, fun r hr => ?_⟩
 have f1 : X5f w t A := by rw [(Q78 ha).2]; exact W7y (Q6c Q89 10 t p gp) lp
 have f2 : X5f w t B := by rw [(Q78 hb).2]; exact W7y (Q6c Q89 10 t q gq) lq
 obtain ⟨P, hP, hPs⟩ := V54 hw (wr hww) ht (W9l hw ht (fun x hx => (pa x hx).1) (fun x hx => (pb x hx).1) f1 f2)
 exact W93 hw (we hww) ht hP (fun m hm => ⟨hPs m hm, (Z35 pa pb m hm).1⟩) hr
theorem W1v {w : List Q3} (hww : w ∈ Q15) {t : Q2} (ht : t ∈ tys w) {p q : Q0} (lp : Y9 w t p = true → lvB 3 (X1 10 p)) (lq : Y9 w t q = true → lvB 3 (X1 10 q)) : Q1c NN w t p q = some (optR (mpD w t p q)) := by
 have hw := ww hww
 have he := we hww
 suffices hs : Ret (Q1c NN w t p q) (fun r => r = optR (mpD w t p q)) by
  obtain ⟨a, e, rfl⟩ := hs
  exact e
 unfold Q1c Q5a mpD
 rw [W1u hw ht]
 simp only [Option.bind_some]
 cases hp : Y9 w t p with
 | false => exact .some (by simp [optR])
 | true =>
 simp only [Bool.not_true, Bool.false_eq_true, if_false]
 rw [Q8p hw (by decide) ht]
 simp only [Option.bind_some]
 cases hq : Y9 w t q with
 | false => exact .some (by simp [optR])
 | true =>
 obtain ⟨gp, cp, _⟩ := J2 hp
 obtain ⟨gq, cq, _⟩ := J2 hq
 simp only [Bool.not_true, Bool.false_eq_true, if_false, and_self, if_true]
 rw [Z3z hw ht gp (by omega) (by decide)]
 simp only [Option.bind_some]
 rw [Z3z hw ht gq (by omega) (by decide)]
 simp only [Option.bind_some]
 cases ha : Q3v p with
 | none => exact .some (by simp [optR])
 | some A =>
 cases hb : Q3v q with
 | none => exact .some (by simp [optR])
 | some B =>
 obtain ⟨ka, kb, al, bl, few⟩ := W7m hww ht hp hq (lp hp) (lq hq) ha hb
 simp only [optR, if_true, Bool.not_true, Bool.false_eq_true, if_false, Option.bind_some]
 rw [(wl hww).dim]
 simp only [Option.bind_some]
 refine Ret.ctl (R := fun _ => False) (B := fun s => s = Q2o A B) ?_ (fun r hr => hr.elim) (fun s hs => ?_)
 ·refine Z4 A (fun k s => s = Q2o (A.take k) B) (fun _ => False) (fun s => s = Q2o A B) (by simp [Q2o]) (fun k a s hak hI => ?_) (fun s hI => by rw [hI, List.take_length])
  have hsl : s.length ≤ 1600 := by
   rw [hI]
   have := Z2a (A.take k) B
   have h2 : (A.take k).length * B.length ≤ 40 * 40 := Nat.mul_le_mul (by rw [List.length_take]; omega) bl
   omega
  refine Ret.ctl (R := fun _ => False) (B := fun u => u = s ++ B.filterMap (W3 10 a)) ?_ (fun r hr => hr.elim) (fun u hu => ?_)
  ·refine Z4 B (fun j u => u = s ++ (B.take j).filterMap (W3 10 a)) (fun _ => False) (fun u => u = s ++ B.filterMap (W3 10 a)) (by simp) (fun j b u hbj hJ => ?_) (fun u hJ => by rw [hJ, List.take_length])
   have hul : u.length ≤ 1700 := by
    rw [hJ, List.length_append]
    have := List.length_filterMap_le (W3 10 a) (B.take j)
    rw [List.length_take] at this
    omega
   rw [Z1e hw (dimP w) 10 NN 10 t a b ht (ka a (List.mem_of_getElem? hak)).1 (kb b (List.mem_of_getElem? hbj)).1 (by decide)]
   simp only [Option.bind_some]
   cases hm : W3 10 a b with
   | none =>
    simp only [Z0q, Bool.false_eq_true, if_false, Option.bind_some]
    refine .some ?_
    simp only [Q33]
    rw [hJ, List.take_add_one, hbj]
    simp [hm]
   | some m =>
    simp only [Z0q, if_true]
    rw [V4 (by simp only [List.length_cons, List.length_nil, Q8]; omega)]
    refine .some ?_
    simp only [Q33]
    rw [hJ, List.take_add_one, hbj]
    simp [hm]
  ·refine .some ?_
   simp only [Q33]
   rw [hu, hI, List.take_add_one, hak]
   simp [Q2o]
 ·subst hs
  dsimp only
  have hml : (Q2o A B).length ≤ 1600 := by
   have := Z2a A B
   have h2 : A.length * B.length ≤ 40 * 40 := Nat.mul_le_mul al bl
   omega
  rw [Z5v hww hw he ht (Z35 ka kb) hml]
  simp only [Option.bind_some]
  rw [Z9b hw (by decide) ht _ (fun r hr => by have := few r hr; omega)]
  exact .some rfl
theorem W0p {w : List Q3} (hww : w ∈ Q15) {t : Q2} (ht : t ∈ tys w) {p q : Q0} (lp : Y9 w t p = true → lvB 3 (X1 10 p)) (lq : Y9 w t q = true → lvB 3 (X1 10 q)) : Q19 NN w t p q = some (optR (mpD w t p q)) := by
 have hw := ww hww
 have he := we hww
 suffices hs : Ret (Q19 NN w t p q) (fun r => r = optR (mpD w t p q)) by
  obtain ⟨a, e, rfl⟩ := hs
  exact e
 unfold Q19 Q7p mpD
 rw [X0t hw ht]
 simp only [Option.bind_some]
 cases hp : Y9 w t p with
 | false => exact .some (by simp [optR])
 | true =>
 simp only [Bool.not_true, Bool.false_eq_true, if_false]
 rw [X0t hw ht]
 simp only [Option.bind_some]
 cases hq : Y9 w t q with
 | false => exact .some (by simp [optR])
 | true =>
 obtain ⟨gp, cp, _⟩ := J2 hp
 obtain ⟨gq, cq, _⟩ := J2 hq
 simp only [Bool.not_true, Bool.false_eq_true, if_false, and_self, if_true]
 rw [Z3s hw ht gp (by omega) (by decide)]
 simp only [Option.bind_some]
 rw [Z3s hw ht gq (by omega) (by decide)]
 simp only [Option.bind_some]
 by_cases h40 : 40 < (Z0 10 (X1 10 p)).length
 ·have hm : Q3v p = none := by unfold Q3v; rw [if_pos h40]
  rw [if_neg (by rw [Q14, Q1m, List.length_take]; omega), hm]
  exact .some rfl
 have ha : Q3v p = some (Z0 10 (X1 10 p)) := by unfold Q3v; rw [if_neg h40]
 rw [if_pos (by rw [Q14, Q1m, List.length_take]; omega), ha]
 by_cases h40' : 40 < (Z0 10 (X1 10 q)).length
 ·have hm : Q3v q = none := by unfold Q3v; rw [if_pos h40']
  have e : ile (lenZ ((Z0 10 (X1 10 q)).take 401).length) 40 = false := by rw [Q4j, Q1m, List.length_take]; omega
  rw [e, hm]
  exact .some rfl
 have hb : Q3v q = some (Z0 10 (X1 10 q)) := by unfold Q3v; rw [if_neg h40']
 have e : ile (lenZ ((Z0 10 (X1 10 q)).take 401).length) 40 = true := by rw [Q14, Q1m, List.length_take]; omega
 rw [e, hb, List.take_of_length_le (by omega), List.take_of_length_le (by omega)]
 obtain ⟨ka, kb, al, bl, few⟩ := W7m hww ht hp hq (lp hp) (lq hq) ha hb
 generalize Z0 10 (X1 10 p) = A at *
 generalize Z0 10 (X1 10 q) = B at *
 simp only [Bool.not_true, Bool.false_eq_true, if_false, Option.bind_some]
 refine Ret.ctl (R := fun _ => False) (B := fun s => s = Q2o A B) ?_ (fun r hr => hr.elim) (fun s hs => ?_)
 ·refine Z4 A (fun k s => s = Q2o (A.take k) B) (fun _ => False) (fun s => s = Q2o A B) (by simp [Q2o]) (fun k a s hak hI => ?_) (fun s hI => by rw [hI, List.take_length])
  have hsl : s.length ≤ 1600 := by
   rw [hI]
   have := Z2a (A.take k) B
   have h2 : (A.take k).length * B.length ≤ 40 * 40 := Nat.mul_le_mul (by rw [List.length_take]; omega) bl
   omega
  refine Ret.ctl (R := fun _ => False) (B := fun u => u = s ++ B.filterMap (W3 10 a)) ?_ (fun r hr => hr.elim) (fun u hu => ?_)
  ·refine Z4 B (fun j u => u = s ++ (B.take j).filterMap (W3 10 a)) (fun _ => False) (fun u => u = s ++ B.filterMap (W3 10 a)) (by simp) (fun j b u hbj hJ => ?_) (fun u hJ => by rw [hJ, List.take_length])
   have hul : u.length ≤ 1700 := by
    rw [hJ, List.length_append]
    have := List.length_filterMap_le (W3 10 a) (B.take j)
    rw [List.length_take] at this
    omega
   obtain ⟨z, hz⟩ := Z18 hw 10 NN 10 t a b ht (ka a (List.mem_of_getElem? hak)).1 (kb b (List.mem_of_getElem? hbj)).1 (by decide)
   rw [hz]
   simp only [Option.bind_some]
   cases hm : W3 10 a b with
   | none =>
    simp only [Bool.false_eq_true, if_false, Option.bind_some]
    refine .some ?_
    simp only [Q33]
    rw [hJ, List.take_add_one, hbj]
    simp [hm]
   | some m =>
    simp only [if_true]
    rw [V4 (by simp only [List.length_cons, List.length_nil, Q8]; omega)]
    refine .some ?_
    simp only [Q33]
    rw [hJ, List.take_add_one, hbj]
    simp [hm]
  ·refine .some ?_
   simp only [Q33]
   rw [hu, hI, List.take_add_one, hak]
   simp [Q2o]
 ·subst hs
  dsimp only
  have hml : (Q2o A B).length ≤ 1600 := by
   have := Z2a A B
   have h2 : A.length * B.length ≤ 40 * 40 := Nat.mul_le_mul al bl
   omega
  rw [hw.tab]
  simp only [Option.bind_some]
  rw [X0w hw he ht (Z35 ka kb) hml few]
  simp only [Option.bind_some]
  rw [X0s hw (by decide) ht _ (fun r hr => by have := few r hr; omega)]
  exact .some rfl
def cmD2 (w : List Q3) (t : Q2) (a b : Q5) : Bool × Bool :=
 if Q49 w t a = true ∧ Q49 w t b = true then (match mpD w t a.pat b.pat with
  | some r => (decide (0 < r.length), true)
  | none => (false, false)) else (false, false)
theorem W1w {w : List Q3} (hww : w ∈ Q15) {t : Q2} (ht : t ∈ tys w) {a b : Q5} (la : Q9e w t a) (lb : Q9e w t b) : Q2z NN w t a b = some (cmD2 w t a b) := by
 have hw := ww hww
 unfold Q2z Q30 cmD2
 rw [Z2f hw ht]
 simp only [Option.bind_some, if_true]
 rw [Q8z hw (by decide) t a ht, Q8z hw (by decide) t b ht]
 simp only [Option.bind_some]
 cases ha : Q49 w t a with
 | false => simp
 | true =>
  cases hb : Q49 w t b with
  | false => simp
  | true =>
   simp only [Bool.not_true, Bool.false_eq_true, if_false, and_self, if_true]
   rw [W1v hww ht la lb]
   simp only [Option.bind_some]
   cases mpD w t a.pat b.pat with
   | none => rfl
   | some r =>
    simp only [optR, if_true, ilt0]
theorem W0q {w : List Q3} (hww : w ∈ Q15) {t : Q2} (ht : t ∈ tys w) {a b : Q5} (la : Q9e w t a) (lb : Q9e w t b) : Q2t NN w t a b = some (cmD2 w t a b) := by
 have hw := ww hww
 unfold Q2t Q2u cmD2
 rw [Z58 hw ht]
 simp only [Option.bind_some, if_true]
 rw [Q8g hw (by decide) t a ht, Q8g hw (by decide) t b ht]
 simp only [Option.bind_some]
 cases ha : Q49 w t a with
 | false => simp
 | true =>
  cases hb : Q49 w t b with
  | false => simp
  | true =>
   simp only [Bool.not_true, Bool.false_eq_true, if_false, and_self, if_true]
   rw [W0p hww ht la lb]
   simp only [Option.bind_some]
   cases mpD w t a.pat b.pat with
   | none => rfl
   | some r =>
    simp only [optR, ilt0]
theorem X7e {w : List Q3} (hww : w ∈ Q15) {t : Q2} (ht : t ∈ tys w) {a b : Q5} (h : cmD2 w t a b = (false, true)) {e : Nat} {v : Q4} (hv : Q0y w e t v) : ¬ ((W6 10 a.pat v).isSome = true ∧ (W6 10 b.pat v).isSome = true) := by
 have hw := ww hww
 rintro ⟨m1, m2⟩
 unfold cmD2 at h
 split at h
 ·cases hm : mpD w t a.pat b.pat with
  | none => rw [hm] at h; cases h
  | some r =>
   rw [hm] at h
   simp only [Prod.mk.injEq, decide_eq_false_iff_not, and_true] at h
   have hr : r = [] := List.eq_nil_of_length_eq_zero (by omega)
   subst hr
   unfold mpD at hm
   split at hm
   ·rename_i hv2
    obtain ⟨gp, cp, _⟩ := J2 hv2.1
    obtain ⟨gq, cq, _⟩ := J2 hv2.2
    cases ha : Q3v a.pat with
    | none => rw [ha] at hm; simp at hm
    | some A =>
     rw [ha] at hm
     cases hb : Q3v b.pat with
     | none => rw [hb] at hm; simp at hm
     | some B =>
      rw [hb] at hm
      simp only [Option.bind_some] at hm
      have hs := X7v hm
      have pa := Q6x gp ha
      have pb := Q6x gq hb
      obtain ⟨x, hx, fx⟩ := (Z26 hv gp ha).2 m1
      obtain ⟨y, hy, fy⟩ := (Z26 hv gq hb).2 m2
      obtain ⟨z, hz, fz⟩ := (Z4r 10 e t x y 10 (pa x hx) (pb y hy) v hv).1 ⟨fx, fy⟩
      have hzm : z ∈ Q2o A B := List.mem_flatMap.2 ⟨x, hx, List.mem_filterMap.2 ⟨y, hy, hz⟩⟩
      have pm : ∀ m ∈ Q2o A B, Z3 w 10 t m := fun m hm => by
       unfold Q2o at hm
       obtain ⟨a, h1, h2⟩ := List.mem_flatMap.1 hm
       obtain ⟨b, h3, h4⟩ := List.mem_filterMap.1 h2
       exact Q86 10 10 t a b m (Nat.le_refl _) (pa a h1) (pb b h3) h4
      obtain ⟨u, hu, _⟩ := (X3k hw (we hww) ht hv _ [] [] (by simp) pm hs).2 ⟨⟨z, hzm, fz⟩, by simp⟩
      cases hu
   ·cases hm
 ·cases h
end Go.Proofs.YtnackipaoepmfaaGreat
namespace Go.Proofs.YtnackipaoepmfaaGreat
open Go Go.RowKit
def hitV (v : Q4) (c : Q5) : Option (List W4) := match W6 10 c.pat v with
 | some b => if Q6g c.guard b = true then some (Q9j b) else none
 | none => none
theorem Q6w (v : Q4) (k : Nat) (c : Q5) (l : List Q5) : runD v k (c :: l) = match hitV v c with
  | some b => some (k, b)
  | none => runD v (k + 1) l := by
 simp only [runD, hitV]
 cases W6 10 c.pat v with
 | none => rfl
 | some b => simp only; cases Q6g c.guard b <;> rfl
theorem W95 {v : Q4} {k : Nat} {l : List Q5} {x : Nat × List W4} (h : runD v k l = some x) : k ≤ x.1 := by
 obtain ⟨i, c, b, _, h2, _⟩ := Z0c h
 omega
theorem W2h {v : Q4} {a b : Q5} (h : ¬ ((W6 10 a.pat v).isSome = true ∧ (W6 10 b.pat v).isSome = true)) : hitV v a = none ∨ hitV v b = none := by
 unfold hitV
 cases ha : W6 10 a.pat v with
 | none => exact .inl rfl
 | some x =>
  cases hb : W6 10 b.pat v with
  | none => exact .inr rfl
  | some y => rw [ha, hb] at h; exact absurd ⟨rfl, rfl⟩ h
def swN (i n : Nat) : Nat := if n = i then i + 1 else if n = i + 1 then i else n
theorem X5l {v : Q4} {a b : Q5} (h : hitV v a = none ∨ hitV v b = none) (l2 : List Q5) : ∀ (l1 : List Q5) (k : Nat), runD v k (l1 ++ b :: a :: l2) = (runD v k (l1 ++ a :: b :: l2)).map fun x => (swN (k + l1.length) x.1, x.2)
 | [], k => by
  simp only [List.nil_append, List.length_nil, Nat.add_zero]
  rw [Q6w, Q6w, Q6w v k a, Q6w v (k + 1) b]
  cases ha : hitV v a with
  | some x =>
   have hb : hitV v b = none := by rcases h with h | h; rw [ha] at h; cases h; exact h
   rw [hb]
   simp [swN]
  | none =>
   cases hb : hitV v b with
   | some y => simp [swN]
   | none =>
    simp only
    cases hr : runD v (k + 1 + 1) l2 with
    | none => rfl
    | some x =>
     have := W95 hr
     simp only [Option.map_some, swN]
     rw [if_neg (by omega), if_neg (by omega)]
 | c :: l1, k => by
  simp only [List.cons_append]
  rw [Q6w, Q6w v k c]
  cases hc : hitV v c with
  | some x =>
   simp only [Option.map_some, swN, List.length_cons]
   rw [if_neg (by omega), if_neg (by omega)]
  | none =>
   simp only
   rw [X5l h l2 l1 (k + 1), List.length_cons, show k + (l1.length + 1) = k + 1 + l1.length by omega]
end Go.Proofs.YtnackipaoepmfaaGreat
namespace Go.Proofs.YtnackipaoepmfaaGreat
open Go Go.RowKit
theorem X54 (l : List Q5) (f : Q5 → Q5 → Option Bool) (h : ∀ c ∈ l, f c c = some true) : J8 l l f = some true := by
 suffices hr : Ret (J8 l l f) (fun r => r = true) by
  obtain ⟨_, e, rfl⟩ := hr
  exact e
 unfold J8
 have e : (!ieq (lenZ l.length) (lenZ l.length)) = false := by simp [ieq]
 simp only [e, Bool.false_eq_true, if_false]
 refine Ret.ctl (Z4 l (fun _ _ => True) (fun _ => False) (fun _ => True) trivial (fun k c u hc _ => ?_) (fun _ _ => trivial)) (fun r hr => hr.elim) (fun _ _ => .some rfl)
 rw [Q12 hc]
 simp only [Option.bind_some]
 rw [h c (List.mem_of_getElem? hc)]
 exact .some trivial
theorem Q6o {l : List Q5} (h : ∀ c ∈ l, Z7r 10 c.pat) : Q03 NN l l = some true := by
 unfold Q03
 rw [X54 l _ fun c hc => by
  unfold Q3d
  obtain ⟨r, e, hr⟩ := X43 10 NN c.pat c.pat (h c hc) (by decide)
  rw [e, hr.2 rfl]
  simp [Q6b, ieq]]
 rfl
theorem Z7t {w : List Q3} {t : Q2} {l : List Q5} (h : ∀ c ∈ l, Y9 w t c.pat = true) : ∀ c ∈ l, Z7r 10 c.pat := fun c hc => Q7f 10 t c.pat (J2 (h c hc)).1
theorem Z93 {w : List Q3} {t : Q2} {l : List Q5} (h : ∀ c ∈ l, Y9 w t c.pat = true) (hl : l.length ≤ 1000) : Q26 NN l = some l := by
 suffices hr : Ret (Q26 NN l) (fun r => r = l) by
  obtain ⟨_, e, rfl⟩ := hr
  exact e
 unfold Q26
 refine Ret.ctl (Z4 l (fun i s => s = l.take i) (fun _ => False) (fun s => s = l) (by simp) (fun i c s hc hI => ?_) (fun s hI => by rw [hI, List.take_length])) (fun r hr => hr.elim) (fun s hs => .some hs)
 obtain ⟨g, c1, _⟩ := J2 (h c (List.mem_of_getElem? hc))
 rw [Z8i 10 NN c.pat (Q7f 10 t c.pat g) (by decide) (by omega)]
 simp only [Option.bind_some]
 rw [V4 (by rw [hI]; simp only [List.length_take, List.length_cons, List.length_nil, Q8]; omega)]
 exact .some (by simp only [Q33]; rw [hI, List.take_add_one, hc]; cases c; rfl)
end Go.Proofs.YtnackipaoepmfaaGreat
namespace Go.Proofs.YtnackipaoepmfaaGreat
open Go Go.RowKit
theorem Z90 {a b : Q5} (l2 : List Q5) : ∀ l1 : List Q5, ((l1 ++ a :: b :: l2).set l1.length b).set (l1.length + 1) a = l1 ++ b :: a :: l2
 | [] => rfl
 | c :: l1 => by
  simp only [List.cons_append, List.length_cons, List.set_cons_succ]
  rw [Z90 l2 l1]
theorem W0d {l : List Q5} {i : Nat} {a b : Q5} (h1 : l[i]? = some a) (h2 : l[i + 1]? = some b) : l = l.take i ++ a :: b :: l.drop (i + 2) ∧ (l.take i).length = i := by
 have hi := (List.getElem?_eq_some_iff.1 h1).1
 refine ⟨?_, by rw [List.length_take]; omega⟩
 conv => lhs; rw [← List.take_append_drop i l, Z6p h1, Z6p h2]
theorem X7h {w : List Q3} {d x : Nat} {t : Q2} : ∀ bs : List Q0, Q57 w d x t [] bs = some []
 | [] => rfl
 | b :: bs => by
  have e : Q2k w d x t [] b = [] := rfl
  simp only [Q57, e, List.length_nil]
  rw [if_neg (by omega)]
  exact X7h bs
theorem W0s {w : List Q3} {t : Q2} : ∀ (ps bef : List Q0), (∀ p ∈ ps, W7 w 11 t p = true) → sepP w t bef ps = some []
 | [], _, _ => rfl
 | p :: ps, bef, h => by
  have e : Q62 w 11 t [p] = [] := by simp [Q62, h p (by simp)]
  simp only [sepP, Q3c, e]
  rw [X7h, W0s ps (bef ++ [p]) fun q hq => h q (by simp [hq])]
  rfl
theorem V0h {w : List Q3} (hww : w ∈ Q15) {t : Q2} (ht : t ∈ tys w) {a b : Q5} (h : cmD2 w t a b = (false, true)) : cmD2 w t b a = (false, true) := by
 have hw := ww hww
 have hap := @X7e w hww t ht a b h
 unfold cmD2 at h ⊢
 split at h
 ·rename_i hc
  rw [if_pos ⟨hc.2, hc.1⟩]
  cases hm : mpD w t a.pat b.pat with
  | none => rw [hm] at h; cases h
  | some r =>
   unfold mpD at hm ⊢
   split at hm
   ·rename_i hv
    rw [if_pos ⟨hv.2, hv.1⟩]
    obtain ⟨gp, cp, _⟩ := J2 hv.1
    obtain ⟨gq, cq, _⟩ := J2 hv.2
    cases ha : Q3v a.pat with
    | none => rw [ha] at hm; simp at hm
    | some A =>
     cases hb : Q3v b.pat with
     | none => rw [ha, hb] at hm; simp at hm
     | some B =>
      simp only [Option.bind_some]
      have pa := Q6x gp ha
      have pb := Q6x gq hb
      rw [W0s (Q2o B A) [] fun m hm => ?_]
      ·rfl
      ·unfold Q2o at hm
       obtain ⟨y, h1, h2⟩ := List.mem_flatMap.1 hm
       obtain ⟨x, h3, h4⟩ := List.mem_filterMap.1 h2
       have pm := Q86 10 10 t y x m (Nat.le_refl _) (pb y h1) (pa x h3) h4
       cases hem : W7 w 11 t m with
       | true => rfl
       | false =>
        obtain ⟨v, gv, fv⟩ := Z34 hw (wr hww) 11 t m ht (Q50 10 t m pm) hem
        obtain ⟨fy, fx⟩ := (Z4r 10 21 t y x 10 (pb y h1) (pa x h3) v gv).2 ⟨m, h4, fv⟩
        exact absurd ⟨(Z26 gv gp ha).1 ⟨x, h3, fx⟩, (Z26 gv gq hb).1 ⟨y, h1, fy⟩⟩ (hap gv)
   ·cases hm
 ·cases h
def swD (w : List Q3) (t : Q2) (cs : List Q5) (i : Int) : List Q5 × Bool :=
 if Q3e w t cs = true ∧ 0 ≤ i then (match cs[i.toNat]?, cs[i.toNat + 1]? with
  | some a, some b => if cmD2 w t a b = (false, true) then ((cs.set i.toNat b).set (i.toNat + 1) a, true) else ([], false)
  | _, _ => ([], false)) else ([], false)
theorem Z87 {x : Bool × Bool} (h : ¬ x = (false, true)) : x.1 = true ∨ x.2 = false := by
 obtain ⟨a, b⟩ := x
 cases a <;> cases b <;> simp at h ⊢
theorem Z5u {w : List Q3} (hww : w ∈ Q15) {t : Q2} (ht : t ∈ tys w) {cs : List Q5} (hf : ∀ c ∈ cs, Q9e w t c) {i : Int} (hi : i ≤ 1000) (hi0 : -1000 ≤ i) : Q1s NN w t cs i = some (swD w t cs i) := by
 have hw := ww hww
 unfold Q1s swD
 rw [Z12 hw ht]
 simp only [Option.bind_some]
 cases hcl : Q3e w t cs with
 | false => simp
 | true =>
  obtain ⟨h8, hv⟩ := Q6i hcl
  simp only [Bool.not_true, Bool.false_eq_true, if_false, true_and]
  rw [Q83]
  simp only [Option.bind_some]
  have e2 : wsub .i64 (lenZ cs.length) 2 = (cs.length : Int) - 2 := by rw [Q1m, Q4c] <;> omega
  rw [e2]
  by_cases h0 : 0 ≤ i
  ·rw [if_pos h0]
   obtain ⟨k, rfl⟩ : ∃ k : Nat, i = (k : Int) := ⟨i.toNat, by omega⟩
   simp only [Int.toNat_natCast]
   by_cases hk : k + 1 < cs.length
   ·have e3 : (decide ((0 : Int) ≤ (k : Int)) && decide ((k : Int) ≤ (cs.length : Int) - 2)) = true := by simp only [Bool.and_eq_true, decide_eq_true_eq]; omega
    have ha : cs[k]? = some (cs[k]'(by omega)) := by simp
    have hb : cs[k + 1]? = some (cs[k + 1]'hk) := by simp
    generalize cs[k]'(by omega) = a at ha
    generalize cs[k + 1]'hk = b at hb
    have e4 : wadd .i64 (k : Int) 1 = ((k + 1 : Nat) : Int) := by rw [Q0p (by omega) (by omega)]; omega
    rw [e3, e4, ha, hb]
    simp only [Bool.not_true, Bool.false_eq_true, if_false]
    rw [Q12 ha]
    simp only [Option.bind_some]
    rw [Q12 hb]
    simp only [Option.bind_some]
    rw [W1w hww ht (hf a (List.mem_of_getElem? ha)) (hf b (List.mem_of_getElem? hb))]
    simp only [Option.bind_some]
    by_cases hcm : cmD2 w t a b = (false, true)
    ·rw [if_pos hcm, hcm]
     simp only [Bool.not_true, Bool.false_eq_true, if_false]
     rw [Z93 hv (by omega)]
     simp only [Option.bind_some]
     rw [Q12 hb]
     simp only [Option.bind_some]
     rw [Q12 ha]
     simp only [Option.bind_some]
     have s1 : setI cs (k : Int) b = some (cs.set k b) := by
      unfold setI
      rw [if_pos ⟨by omega, by simp only [Int.toNat_natCast]; omega⟩]
      simp
     have hb2 : (cs.set k b)[k + 1]? = some b := by rw [List.getElem?_set_ne (by omega), hb]
     have s2 : setI (cs.set k b) ((k + 1 : Nat) : Int) a = some ((cs.set k b).set (k + 1) a) := by
      unfold setI
      rw [if_pos ⟨by omega, by simp only [Int.toNat_natCast, List.length_set]; omega⟩]
      simp only [Int.toNat_natCast]
     rw [s1]
     simp only [Option.bind_some]
     rw [Q12 hb2]
     simp only [Option.bind_some]
     rw [s2]
     rfl
    ·rw [if_neg hcm]
     rcases Z87 hcm with h | h
     ·rw [h]; rfl
     ·rw [h]
      cases (cmD2 w t a b).1 <;> rfl
   ·have e3 : (decide ((0 : Int) ≤ (k : Int)) && decide ((k : Int) ≤ (cs.length : Int) - 2)) = false := by
     rw [Bool.and_eq_false_iff, decide_eq_false_iff_not, decide_eq_false_iff_not]; omega
    have hb : cs[k + 1]? = none := List.getElem?_eq_none (by omega)
    rw [e3, hb]
    cases cs[k]? <;> rfl
  ·have e3 : (decide ((0 : Int) ≤ i) && decide (i ≤ (cs.length : Int) - 2)) = false := by
    rw [Bool.and_eq_false_iff, decide_eq_false_iff_not, decide_eq_false_iff_not]; omega
   rw [if_neg h0, e3]
   rfl
theorem X7r {w : List Q3} {t : Q2} {l : List Q5} (h : ∀ c ∈ l, Y9 w t c.pat = true) (hl : l.length ≤ 1000) : Q4s NN l = some l := by
 suffices hr : Ret (Q4s NN l) (fun r => r = l) by
  obtain ⟨a, e, rfl⟩ := hr
  exact e
 unfold Q4s
 refine Ret.ctl (Z4 l (fun k s => s = l.take k) (fun _ => False) (fun s => s = l) (by simp) (fun k c s hc hI => ?_) (fun s hI => by rw [hI, List.take_length])) (fun r hr => hr.elim) (fun s hs => .some hs)
 obtain ⟨g, cn, _⟩ := J2 (h c (List.mem_of_getElem? hc))
 have hk := (List.getElem?_eq_some_iff.1 hc).1
 rw [Z5b 10 NN c.pat (Q7f 10 t c.pat g) (by decide) (by omega)]
 simp only [Option.bind_some]
 rw [V4 (by rw [hI]; simp only [List.length_take, List.length_cons, List.length_nil, Q8]; omega)]
 refine .some ?_
 simp only [Q33]
 rw [hI, List.take_add_one, hc]
 rfl
theorem X3h {w : List Q3} (hww : w ∈ Q15) {t : Q2} (ht : t ∈ tys w) {cs : List Q5} (hf : ∀ c ∈ cs, Q9e w t c) {i : Int} (hi : i ≤ 1000) (hi0 : -1000 ≤ i) : Q2s NN w t cs i = some (swD w t cs i) := by
 have hw := ww hww
 unfold Q2s swD
 rw [Z7b hw ht]
 simp only [Option.bind_some]
 cases hcl : Q3e w t cs with
 | false => simp
 | true =>
  obtain ⟨h8, hv⟩ := Q6i hcl
  simp only [Bool.not_true, Bool.false_eq_true, if_false, true_and]
  have e2 : wsub .i64 (lenZ cs.length) 1 = (cs.length : Int) - 1 := by rw [Q1m, Q4c] <;> omega
  rw [e2]
  by_cases h0 : 0 ≤ i
  ·rw [if_pos h0, if_neg (by rw [W0]; omega)]
   obtain ⟨k, rfl⟩ : ∃ k : Nat, i = (k : Int) := ⟨i.toNat, by omega⟩
   simp only [Int.toNat_natCast]
   by_cases hk : k + 1 < cs.length
   ·have ha : cs[k]? = some (cs[k]'(by omega)) := by simp
    have hb : cs[k + 1]? = some (cs[k + 1]'hk) := by simp
    generalize cs[k]'(by omega) = a at ha
    generalize cs[k + 1]'hk = b at hb
    have e4 : wadd .i64 (k : Int) 1 = ((k + 1 : Nat) : Int) := by rw [Q0p (by omega) (by omega)]; omega
    rw [if_neg (by rw [Q14]; omega), e4, ha, hb]
    simp only
    rw [Q12 ha]
    simp only [Option.bind_some]
    rw [Q12 hb]
    simp only [Option.bind_some]
    rw [W0q hww ht (hf a (List.mem_of_getElem? ha)) (hf b (List.mem_of_getElem? hb))]
    simp only [Option.bind_some]
    by_cases hcm : cmD2 w t a b = (false, true)
    ·rw [if_pos hcm, hcm]
     simp only [Bool.not_true, Bool.false_eq_true, if_false]
     rw [X7r hv (by omega)]
     simp only [Option.bind_some]
     rw [Q12 ha]
     simp only [Option.bind_some]
     rw [Q12 hb]
     simp only [Option.bind_some]
     have s1 : setI cs (k : Int) b = some (cs.set k b) := by
      unfold setI
      rw [if_pos ⟨by omega, by simp only [Int.toNat_natCast]; omega⟩]
      simp
     have hb2 : (cs.set k b)[k + 1]? = some b := by rw [List.getElem?_set_ne (by omega), hb]
     have s2 : setI (cs.set k b) ((k + 1 : Nat) : Int) a = some ((cs.set k b).set (k + 1) a) := by
      unfold setI
      rw [if_pos ⟨by omega, by simp only [Int.toNat_natCast, List.length_set]; omega⟩]
      simp only [Int.toNat_natCast]
     rw [s1]
     simp only [Option.bind_some]
     rw [Q12 hb2]
     simp only [Option.bind_some]
     rw [s2]
     rfl
    ·rw [if_neg hcm]
     rcases Z87 hcm with h | h
     ·rw [h]; rfl
     ·rw [h]
      cases (cmD2 w t a b).1 <;> rfl
   ·have hb : cs[k + 1]? = none := List.getElem?_eq_none (by omega)
    rw [if_pos (by rw [Q14]; omega), hb]
    cases cs[k]? <;> rfl
  ·rw [if_neg h0, if_pos (by rw [W0]; omega)]
theorem X56 (code : List Int) (hb : ∀ x ∈ code, 0 ≤ x ∧ x ≤ 255) : Ret (Q17 NN code) (fun a => a.1 ∈ Q15 ∧ a.2.1 ∈ tys a.1 ∧ (∀ c ∈ a.2.2.1, Q9e a.1 a.2.1 c) ∧ -1 ≤ a.2.2.2 ∧ a.2.2.2 ≤ 2) := by
 unfold Q17
 refine Ret.bind ((X17 code hb).both (X18 code hb)) (fun a ha => ?_)
 refine Ret.bind (Z95 code hb) (fun r hr => ?_)
 refine Ret.bind (Q9a (hr.le (by omega)) _ (by simp) (by simp)) (fun b hb2 => .some ⟨ha.1.1, ha.1.2.1, ha.2, ?_⟩)
 have := hb2.1
 simp only [List.mem_cons, List.not_mem_nil, or_false] at this
 simp only
 omega
theorem W5h (code more : List Int) (hb : ∀ x ∈ code, 0 ≤ x ∧ x ≤ 255) : Q0v NN code more = some true := by
 suffices hr : Ret (Q0v NN code more) (fun r => r = true) by
  obtain ⟨_, e, rfl⟩ := hr
  exact e
 unfold Q0v
 refine Ret.ite (fun _ => .some rfl) (fun _ => ?_)
 refine Ret.ite (fun _ => .some rfl) (fun _ => ?_)
 refine Ret.bind (X56 code hb) (fun z hz => ?_)
 obtain ⟨w, t, cs, i⟩ := z
 obtain ⟨hww, ht, hf, hi1, hi2⟩ := hz
 simp only at hww ht hf hi1 hi2 ⊢
 have hw := ww hww
 rw [Z5u hww ht hf (by omega) (by omega), X3h hww ht hf (by omega) (by omega)]
 simp only [Option.bind_some, beq_self_eq_true, Bool.not_true, Bool.false_eq_true, if_false, if_true]
 by_cases hall : Q3e w t cs = true ∧ 0 ≤ i ∧ ∃ a b, cs[i.toNat]? = some a ∧ cs[i.toNat + 1]? = some b ∧ cmD2 w t a b = (false, true)
 ·obtain ⟨hcl, h0, a, b, ha, hb', hcm⟩ := hall
  obtain ⟨h8, hv8⟩ := Q6i hcl
  obtain ⟨k, rfl⟩ : ∃ k : Nat, i = (k : Int) := ⟨i.toNat, by omega⟩
  simp only [Int.toNat_natCast] at ha hb'
  obtain ⟨hsp, htk⟩ := W0d ha hb'
  have hset : (cs.set k b).set (k + 1) a = cs.take k ++ b :: a :: cs.drop (k + 2) := by
   have := Z90 (a := a) (b := b) (cs.drop (k + 2)) (cs.take k)
   rw [← hsp, htk] at this
   exact this
  have hsw : swD w t cs (k : Int) = (cs.take k ++ b :: a :: cs.drop (k + 2), true) := by
   unfold swD
   rw [if_pos ⟨hcl, by omega⟩]
   simp only [Int.toNat_natCast, ha, hb']
   rw [if_pos hcm, hset]
  rw [hsw]
  generalize hnew : cs.take k ++ b :: a :: cs.drop (k + 2) = new
  have hmem : ∀ c, c ∈ new ↔ c ∈ cs := fun c => by
   rw [← hnew]
   conv => rhs; rw [hsp]
   simp only [List.mem_append, List.mem_cons]
   constructor
   ·rintro (h | h | h | h)
    ·exact .inl h
    ·exact .inr (.inr (.inl h))
    ·exact .inr (.inl h)
    ·exact .inr (.inr (.inr h))
   ·rintro (h | h | h | h)
    ·exact .inl h
    ·exact .inr (.inr (.inl h))
    ·exact .inr (.inl h)
    ·exact .inr (.inr (.inr h))
  have hlen : new.length = cs.length := by
   rw [← hnew]
   have hk2 := (List.getElem?_eq_some_iff.1 hb').1
   simp only [List.length_append, List.length_cons, List.length_drop, htk]
   omega
  have hncl : Q3e w t new = true := by
   simp only [Q3e, Bool.and_eq_true, decide_eq_true_eq, List.all_eq_true] at hcl ⊢
   exact ⟨by omega, fun c hc => hcl.2 c ((hmem c).1 hc)⟩
  have hndeep : ∀ c ∈ new, Z7r 10 c.pat := Z7t (Q6i hncl).2
  rw [Q6o hndeep]
  simp only [Option.bind_some, Bool.not_true, Bool.false_eq_true, if_false]
  obtain ⟨d, hd, d1, d3⟩ := rem3 more.length
  rw [hd]
  obtain ⟨vs, hvs, _, hvv⟩ := Z7e hw ht d1 d3
  rw [hvs]
  simp only [Option.bind_some]
  refine Ret.ctl (Z4 vs.1 (fun _ _ => True) (fun _ => False) (fun _ => True) trivial (fun j v u hv _ => ?_) (fun _ _ => trivial)) (fun r hr => hr.elim) (fun _ _ => ?_)
  ·obtain ⟨h1, h2⟩ := hvv v (List.mem_of_getElem? hv)
   rw [X67 hw ht cs v, X67 hw ht new v, W0y hcl h1, W0y hncl h1]
   simp only [Option.bind_some]
   have hrun := X5l (W2h (X7e hww ht hcm h2)) (cs.drop (k + 2)) (cs.take k) 0
   rw [hnew, ← hsp, htk, Nat.zero_add] at hrun
   have hdb := V4i hw ht hv8 (Z0f 4 10 t v (by omega) h2)
   have e4 : wadd .i64 (k : Int) 1 = ((k + 1 : Nat) : Int) := by rw [Q0p (by omega) (by omega)]; omega
   rw [hrun, e4]
   have hans : Ret (if ieq (runR (runD v 0 cs)).1 (k : Int) = true then some (Ctl.brk (ρ := Ctl Bool Unit) ((k + 1 : Nat) : Int)) else if ieq (runR (runD v 0 cs)).1 ((k + 1 : Nat) : Int) = true then some (Ctl.brk (k : Int)) else some (Ctl.brk (runR (runD v 0 cs)).1)) (CtlQ (fun _ => False) (fun s => s = (runR ((runD v 0 cs).map fun x => (swN k x.1, x.2))).1)) := by
    cases hr : runD v 0 cs with
    | none =>
     have f1 : ieq (runR none).1 (k : Int) = false := by rw [X8]; simp only [runR]; omega
     have f2 : ieq (runR none).1 ((k + 1 : Nat) : Int) = false := by rw [X8]; simp only [runR]; omega
     simp only [f1, f2, Bool.false_eq_true, if_false, Option.map_none]
     exact .some rfl
    | some x =>
     simp only [Option.map_some, runR, swN]
     by_cases g1 : x.1 = k
     ·have f1 : ieq (x.1 : Int) (k : Int) = true := by rw [W5]; omega
      simp only [f1, if_true, if_pos g1]
      exact .some rfl
     ·have f1 : ieq (x.1 : Int) (k : Int) = false := by rw [X8]; omega
      by_cases g2 : x.1 = k + 1
      ·have f2 : ieq (x.1 : Int) ((k + 1 : Nat) : Int) = true := by rw [W5]; omega
       simp only [f1, f2, Bool.false_eq_true, if_false, if_true, if_neg g1, if_pos g2]
       exact .some rfl
      ·have f2 : ieq (x.1 : Int) ((k + 1 : Nat) : Int) = false := by rw [X8]; omega
       simp only [f1, f2, Bool.false_eq_true, if_false, if_neg g1, if_neg g2]
       exact .some rfl
   refine Ret.ctl hans (fun r h => h.elim) (fun s hs => ?_)
   subst hs
   have f3 : ∀ z : Int, ieq z z = true := fun z => by simp [ieq]
   have hb2 : (runR ((runD v 0 cs).map fun x => (swN k x.1, x.2))).2 = (runR (runD v 0 cs)).2 := by cases runD v 0 cs <;> rfl
   simp only [f3, Bool.not_true, Bool.false_eq_true, if_false, hb2]
   rw [X1b hdb]
   exact .some trivial
  ·dsimp only
   have hfn : ∀ c ∈ new, Q9e w t c := fun c hc => hf c ((hmem c).1 hc)
   rw [Z5u hww ht hfn (by omega) (by omega)]
   have n1 : new[k]? = some b := by
    rw [← hnew, List.getElem?_append_right (by omega), htk]; simp
   have n2 : new[k + 1]? = some a := by
    rw [← hnew, List.getElem?_append_right (by omega), htk, show k + 1 - k = 1 by omega]; rfl
   have hback : swD w t new (k : Int) = (cs, true) := by
    unfold swD
    rw [if_pos ⟨hncl, by omega⟩]
    simp only [Int.toNat_natCast, n1, n2]
    rw [if_pos (V0h hww ht hcm)]
    congr 1
    have := Z90 (a := b) (b := a) (cs.drop (k + 2)) (cs.take k)
    rw [htk, hnew] at this
    rw [this]
    exact hsp.symm
   rw [hback]
   simp only [Option.bind_some, if_true]
   rw [Q6o (Z7t hv8)]
   exact .some rfl
 ·have hsw : swD w t cs i = ([], false) := by
   unfold swD
   split
   ·rename_i hc
    split
    ·rename_i a b ha hb'
     rw [if_neg fun hcm => hall ⟨hc.1, hc.2, a, b, ha, hb', hcm⟩]
    ·rfl
   ·rfl
  rw [hsw]
  rw [Q6o (fun c hc => by cases hc)]
  simp only [Option.bind_some, Bool.not_true, Bool.not_false, Bool.false_eq_true, if_false, if_true]
  exact .some rfl
end Go.Proofs.YtnackipaoepmfaaGreat
