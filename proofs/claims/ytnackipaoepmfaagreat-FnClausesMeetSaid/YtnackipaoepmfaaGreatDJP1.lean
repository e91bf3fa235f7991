import Derived.Test.YtnackipaoepmfaaGreatDJP0
import Derived.Test.YtnackipaoepmfaaGreatDJZ0
set_option linter.unusedSimpArgs false
set_option linter.unusedVariables false
namespace Go.Proofs.YtnackipaoepmfaaGreat
open Go Go.RowKit
structure ROk (r : X0) (m : Nat) : Prop where
 bytes : ∀ x ∈ r.b, 0 ≤ x ∧ x ≤ 255
 len : r.b.length ≤ 2000
 p0 : 0 ≤ r.p
 pm : r.p + m ≤ 40000000
structure Nx (r r' : X0) (c : Nat) : Prop where
 b : r'.b = r.b
 le : r.p ≤ r'.p
 ge : r'.p ≤ r.p + c
theorem ROk.le {r : X0} {m m' : Nat} (h : ROk r m) (hm : m' ≤ m) : ROk r m' := ⟨h.bytes, h.len, h.p0, by have := h.pm; omega⟩
theorem ROk.nx {r r' : X0} {c m : Nat} (h : ROk r (c + m)) (hn : Nx r r' c) : ROk r' m := ⟨by rw [hn.b]; exact h.bytes, by rw [hn.b]; exact h.len, by have := h.p0; have := hn.le; omega, by have := h.pm; have := hn.ge; omega⟩
theorem Nx.refl (r : X0) : Nx r r 0 := ⟨rfl, by omega, by omega⟩
theorem Nx.trans {a b c : X0} {m n : Nat} (h : Nx a b m) (k : Nx b c n) : Nx a c (m + n) := ⟨k.b.trans h.b, by have := h.le; have := k.le; omega, by have := h.ge; have := k.ge; omega⟩
theorem Nx.le' {a b : X0} {m n : Nat} (h : Nx a b m) (hm : m ≤ n) : Nx a b n := ⟨h.b, h.le, by have := h.ge; omega⟩
theorem X93 {x y : Int} (hx : 0 ≤ x) (hx' : x < 1099511627776) (hy : 0 ≤ y) (hy' : y < 1099511627776) : 0 ≤ wxor .i64 x y ∧ wxor .i64 x y < 1099511627776 := by
 obtain ⟨a, rfl⟩ := Int.eq_ofNat_of_zero_le hx
 obtain ⟨b, rfl⟩ := Int.eq_ofNat_of_zero_le hy
 have e : (BitVec.ofInt IntKind.i64.bits (a : Int) ^^^ BitVec.ofInt IntKind.i64.bits (b : Int)).toNat = a ^^^ b := by
  have ha : (BitVec.ofInt IntKind.i64.bits (a : Int)).toNat = a := by
   rw [BitVec.toNat_ofInt]
   show (((a : Int) % ((2 ^ 64 : Nat) : Int))).toNat = a
   omega
  have hb : (BitVec.ofInt IntKind.i64.bits (b : Int)).toNat = b := by
   rw [BitVec.toNat_ofInt]
   show (((b : Int) % ((2 ^ 64 : Nat) : Int))).toNat = b
   omega
  rw [BitVec.toNat_xor, ha, hb]
 have hlt : a ^^^ b < 2 ^ 40 := Nat.xor_lt_two_pow (by omega) (by omega)
 unfold wxor
 rw [e, Z4x (by omega) (by omega)]
 omega
theorem Q5g {r : X0} (h : ROk r 1) {k : Int} (h1 : 1 ≤ k) (h2 : k ≤ 1000000) : Ret (X2 r k) (fun a => 0 ≤ a.1 ∧ a.1 < k ∧ Nx r a.2 1) := by
 have hp0 := h.p0
 have hpm := h.pm
 have hlen := h.len
 have ep : wadd .i64 r.p 1 = r.p + 1 := Q18 (by omega) (by omega)
 have eq : wsub .i64 (r.p + 1) 1 = r.p := by rw [Q4z (by omega) (by omega)]; omega
 have nx : Nx r (X0.mk r.b (r.p + 1)) 1 := ⟨rfl, by simp only; omega, by simp only; omega⟩
 unfold X2
 rw [ep, eq]
 refine Ret.ite (fun c => by rw [V2] at c; omega) (fun _ => ?_)
 refine Ret.ite (fun c => .some ⟨by simp, by simp; omega, nx⟩) (fun c => ?_)
 rw [Y3] at c
 simp only [lenZ] at c
 have hpos : 0 < r.b.length := by omega
 have hk0 : chk (!ieq k 0) = some () := X1z (by simp [ieq]; omega)
 have hb0 : chk (!ieq (lenZ r.b.length) 0) = some () := X1z (by rw [Bool.not_eq_true', Y3]; simp only [lenZ]; omega)
 have rem : ∀ x : Int, 0 ≤ x → 0 ≤ wrem x k ∧ wrem x k < k := fun x hx => by
  unfold wrem
  rw [Int.tmod_eq_emod_of_nonneg hx]
  exact ⟨Int.emod_nonneg _ (by omega), Int.emod_lt_of_pos _ (by omega)⟩
 refine Ret.ite (fun c2 => ?_) (fun c2 => ?_)
 ·rw [V2] at c2
  simp only [lenZ] at c2
  obtain ⟨x, hx, hm⟩ := Q68 hp0 c2
  obtain ⟨b1, b2⟩ := h.bytes x hm
  rw [hx, hk0]
  simp only [Option.bind_some]
  rw [X96 (by omega) (by omega)]
  exact .some ⟨(rem x b1).1, (rem x b1).2, nx⟩
 ·rw [hb0]
  simp only [Option.bind_some]
  have remb : ∀ x : Int, 0 ≤ x → 0 ≤ wrem x (lenZ r.b.length) ∧ wrem x (lenZ r.b.length) < r.b.length := fun x hx => by
   unfold wrem lenZ
   rw [Int.tmod_eq_emod_of_nonneg hx]
   exact ⟨Int.emod_nonneg _ (by omega), Int.emod_lt_of_pos _ (by omega)⟩
  have e7 : wmul .i64 r.p 7 = r.p * 7 := Z0x (by omega) (by omega)
  have e73 : wadd .i64 (r.p * 7) 3 = r.p * 7 + 3 := Q18 (by omega) (by omega)
  rw [e7, e73]
  obtain ⟨x, hx, hm⟩ := Q68 (remb r.p hp0).1 (remb r.p hp0).2
  obtain ⟨y, hy, hn⟩ := Q68 (remb (r.p * 7 + 3) (by omega)).1 (remb (r.p * 7 + 3) (by omega)).2
  obtain ⟨b1, b2⟩ := h.bytes x hm
  obtain ⟨b3, b4⟩ := h.bytes y hn
  rw [hx, hy, hk0]
  simp only [Option.bind_some]
  have f1 : wcv .i64 x = x := X96 (by omega) (by omega)
  have f2 : wcv .i64 y = y := X96 (by omega) (by omega)
  have f3 : wmul .i64 x 131 = x * 131 := Z0x (by omega) (by omega)
  have f4 : wmul .i64 y 1117 = y * 1117 := Z0x (by omega) (by omega)
  have f5 : wmul .i64 r.p 29 = r.p * 29 := Z0x (by omega) (by omega)
  have hq : 0 ≤ r.p.tdiv (lenZ r.b.length) ∧ r.p.tdiv (lenZ r.b.length) ≤ r.p := by
   rw [Int.tdiv_eq_ediv_of_nonneg hp0]
   exact ⟨Int.ediv_nonneg hp0 (by simp [lenZ]), Int.ediv_le_self _ hp0⟩
  have f6 : wquo .i64 r.p (lenZ r.b.length) = r.p.tdiv (lenZ r.b.length) := X94 (by omega) (by omega)
  rw [f1, f2, f3, f4, f5, f6]
  generalize r.p.tdiv (lenZ r.b.length) = q at hq ⊢
  have f7 : wmul .i64 q 53 = q * 53 := Z0x (by omega) (by omega)
  have f8 : wadd .i64 (x * 131) (y * 1117) = x * 131 + y * 1117 := Q18 (by omega) (by omega)
  have f9 : wadd .i64 (x * 131 + y * 1117) (r.p * 29) = x * 131 + y * 1117 + r.p * 29 := Q18 (by omega) (by omega)
  rw [f7, f8, f9, Q18 (by omega) (by omega)]
  have hz : 0 ≤ x * 131 + y * 1117 + r.p * 29 + q * 53 ∧ x * 131 + y * 1117 + r.p * 29 + q * 53 < 1099511627776 := ⟨by omega, by omega⟩
  generalize x * 131 + y * 1117 + r.p * 29 + q * 53 = z at hz ⊢
  have hz64 : z.tdiv 64 = z / 64 := Int.tdiv_eq_ediv_of_nonneg hz.1
  rw [X94 (by rw [hz64]; omega) (by rw [hz64]; omega), hz64]
  have hxr := X93 hz.1 hz.2 (show 0 ≤ z / 64 by omega) (show z / 64 < 1099511627776 by omega)
  exact .some ⟨(rem _ hxr.1).1, (rem _ hxr.1).2, nx⟩
theorem Z5h {r : X0} (h : ROk r 1) (l : List Int) (h1 : 1 ≤ l.length) (h2 : l.length ≤ 1000) : Ret (Y6 r l) (fun a => a.1 ∈ l ∧ Nx r a.2 1) := by
 unfold Y6
 refine Ret.bind (Q5g h (k := lenZ l.length) (by simp [lenZ]; omega) (by simp [lenZ]; omega)) (fun a ha => ?_)
 obtain ⟨x, hx, hm⟩ := Q68 (xs := l) ha.1 (by simpa [lenZ] using ha.2.1)
 rw [hx]
 exact .some ⟨hm, ha.2.2⟩
theorem W83 (code : List Int) (hb : ∀ x ∈ code, 0 ≤ x ∧ x ≤ 255) : Ret (Q4t code) (fun r => ROk r 1000000) := by
 unfold Q4t
 refine Ret.ctl (R := fun _ => False) (B := fun s => (∀ x ∈ s, 0 ≤ x ∧ x ≤ 255) ∧ s.length ≤ 2000) ?_ (fun r hr => hr.elim) (fun s hs => ?_)
 ·refine Ret.ite (fun h => ?_) (fun h => ?_)
  ·rw [V2] at h
   simp only [lenZ] at h
   have : Q7f code 2000 = some (code.take 2000) := by
    unfold Q7f
    rw [if_pos ⟨by omega, by omega⟩]
    rfl
   rw [this]
   exact .some ⟨fun x hx => hb x (List.mem_of_mem_take hx), by simp; omega⟩
  ·rw [Q02] at h
   simp only [lenZ] at h
   exact .some ⟨hb, by omega⟩
 ·exact .some ⟨hs.1, hs.2, by simp, by simp⟩
theorem W39 {r : X0} (h : ROk r 1) : Ret (Q4s NN r) (fun a => a.1 ∈ Q1v ∧ Nx r a.2 1) := by
 unfold Q4s
 obtain ⟨T, hT⟩ : ∃ T, Q3t = some T := ⟨_, rfl⟩
 have hlen : T.length = 8 := by
  have h8 : Q3t.map List.length = some 8 := rfl
  rw [hT] at h8
  simpa using h8
 rw [hT]
 simp only [Option.bind_some]
 have e7 : wsub .i64 (lenZ T.length) 1 = 7 := by rw [hlen]; rfl
 rw [e7]
 refine Ret.bind (Q5g h (by omega) (by omega)) (fun a ha => ?_)
 obtain ⟨i, hi⟩ := Int.eq_ofNat_of_zero_le ha.1
 obtain ⟨w, hw, hm⟩ := W5l (i := i) (by have := ha.2.1; omega)
 unfold Z99 at hw
 rw [hT] at hw
 simp only [Option.bind_some] at hw
 rw [hi]
 obtain ⟨x, hx, hw⟩ := bindE hw
 rw [hx]
 simp only [Option.bind_some]
 rw [hw]
 exact .some ⟨hm, ha.2.2⟩
def Z3i : Nat → Nat
 | 0 => 1
 | m + 1 => 1 + 3 * Z3i m
theorem W26 : ∀ m, 1 ≤ Z3i m
 | 0 => Nat.le_refl _
 | m + 1 => by simp only [Z3i]; omega
theorem W5o {w : List Q3} (hw : WW w) : ∀ (m n : Nat) (r : X0) (t : Q2) (depth : Int), t ∈ tys w → depP w t ≠ 0 → depth ≤ m → depP w t ≤ m → -1000 + m ≤ depth → m ≤ 100 → m + 1 ≤ n → ROk r (Z3i m) →
  Ret (Q4g n r w (tabP w) t depth) (fun a => Nx r a.2 (Z3i m)) := by
 intro m
 induction m with
 | zero =>
  intro n r t depth ht hd h1 h2 h3 hm100 hn hr
  have := (hw.ty t ht).d0
  omega
 | succ m ih =>
  intro n r t depth ht hd h1 h2 h3 hm100 hn hr
  obtain ⟨n, rfl⟩ : ∃ k, n = k + 1 := ⟨n - 1, by omega⟩
  have hT := hw.ty t ht
  have hpos := W26 (m + 1)
  unfold Q4g
  refine Ret.ite (fun h => ?_) (fun h => ?_)
  ·refine Ret.bind (Q5g (hr.le hpos) (by omega) (by omega)) (fun a ha => .some (ha.2.2.le' hpos))
  ·rw [Y3] at h
   rw [hT.c1]
   simp only [Option.bind_some]
   obtain ⟨kb, hkb, hmb⟩ := hT.dm h hd
   have hd0 := hT.d0
   refine Ret.ctl (Z7 (Z9 w t) (fun k s => (∀ x ∈ s, x ∈ Z9 w t ∧ 0 < Q4p w t x ∧ (Q4p w t x ≤ depth ∨ Q4p w t x = depP w t)) ∧ s.length ≤ k ∧ (∀ j, j < k → (Z9 w t)[j]? = some kb → s ≠ [])) (fun _ => False)
    (fun s => (∀ x ∈ s, x ∈ Z9 w t ∧ 0 < Q4p w t x ∧ (Q4p w t x ≤ depth ∨ Q4p w t x = depP w t)) ∧ s ≠ [] ∧ s.length ≤ 4) ⟨by simp, by simp, fun j hj => by omega⟩ (fun k x s hx hI => ?_) (fun s hI => ?_)) (fun r hr => hr.elim) (fun s hs => ?_)
   ·obtain ⟨i1, i2, i3⟩ := hI
    have hxm := List.mem_of_getElem? hx
    have hkl := (List.getElem?_eq_some_iff.1 hx).1
    have hcl := hT.cl
    have take : ∀ (hp : 0 < Q4p w t x ∧ (Q4p w t x ≤ depth ∨ Q4p w t x = depP w t)), Ret ((app s [x]).bind fun x310 => some (Ctl.brk (ρ := Ctl (Q6 × X0) (List Int)) x310)) (CtlQ (fun _ => False) (fun s' => (∀ x ∈ s', x ∈ Z9 w t ∧ 0 < Q4p w t x ∧ (Q4p w t x ≤ depth ∨ Q4p w t x = depP w t)) ∧ s'.length ≤ k + 1 ∧ (∀ j, j < k + 1 → (Z9 w t)[j]? = some kb → s' ≠ []))) := fun hp => by
     rw [Y8 (by simp only [Z0, List.length_cons, List.length_nil]; omega)]
     refine .some ⟨fun y hy => ?_, by simp; omega, fun _ _ _ => by simp⟩
     rcases List.mem_append.1 hy with hy | hy
     ·exact i1 y hy
     ·simp at hy; subst hy; exact ⟨hxm, hp⟩
    have pass : (¬ (0 < Q4p w t x ∧ (Q4p w t x ≤ depth ∨ Q4p w t x = depP w t))) → Ret (some (Ctl.brk (ρ := Ctl (Q6 × X0) (List Int)) s)) (CtlQ (fun _ => False) (fun s' => (∀ x ∈ s', x ∈ Z9 w t ∧ 0 < Q4p w t x ∧ (Q4p w t x ≤ depth ∨ Q4p w t x = depP w t)) ∧ s'.length ≤ k + 1 ∧ (∀ j, j < k + 1 → (Z9 w t)[j]? = some kb → s' ≠ []))) := fun hp => by
     refine .some ⟨i1, by omega, fun j hj hjk => ?_⟩
     by_cases hjk2 : j = k
     ·subst hjk2
      rw [hx] at hjk
      cases hjk
      exact absurd ⟨by omega, .inr hmb⟩ hp
     ·exact i3 j (by omega) hjk
    refine Ret.ctl (R := fun _ => False) (B := fun (s' : List Int) => (∀ x ∈ s', x ∈ Z9 w t ∧ 0 < Q4p w t x ∧ (Q4p w t x ≤ depth ∨ Q4p w t x = depP w t)) ∧ s'.length ≤ k + 1 ∧ (∀ j, j < k + 1 → (Z9 w t)[j]? = some kb → s' ≠ [])) ?_ (fun r hr => hr.elim) (fun s' hs' => ⟨_, rfl, hs'⟩)
    rw [hT.m1 x hxm]
    simp only [Option.bind_some]
    refine Ret.ite (fun c => ?_) (fun c => ?_)
    ·rw [V2] at c
     refine Ret.ite (fun c2 => ?_) (fun c2 => ?_)
     ·rw [Q1r] at c2
      exact take ⟨c, .inl c2⟩
     ·rw [Q48] at c2
      rw [hT.d1]
      simp only [Option.bind_some]
      refine Ret.ite (fun c3 => ?_) (fun c3 => ?_)
      ·rw [V7] at c3
       exact take ⟨c, .inr c3⟩
      ·rw [Y3] at c3
       exact pass (by omega)
    ·rw [Q02] at c
     exact pass (by omega)
   ·obtain ⟨i1, i2, i3⟩ := hI
    obtain ⟨j, hj⟩ := List.mem_iff_getElem?.1 hkb
    have := hT.cl
    exact ⟨i1, i3 j ((List.getElem?_eq_some_iff.1 hj).1) hj, by omega⟩
   ·obtain ⟨i1, i2, i3⟩ := hs
    have hsl : 1 ≤ s.length := by cases s with
     | nil => exact absurd rfl i2
     | cons => simp
    refine Ret.bind (Q5g (hr.le hpos) (k := lenZ s.length) (by simp [lenZ]; omega) (by simp [lenZ]; omega)) (fun a ha => ?_)
    obtain ⟨x, hx, hxm⟩ := Q68 (xs := s) ha.1 (by simpa [lenZ] using ha.2.1)
    obtain ⟨hxc, hx0, hxd⟩ := i1 x hxm
    rw [hx]
    simp only [Option.bind_some]
    rw [hT.a1 x hxc]
    simp only [Option.bind_some]
    have hal := hT.al x hxc
    have hr1 : ROk a.2 (3 * Z3i m) := ROk.nx (c := 1) hr ha.2.2
    refine Ret.ctl (Z7 (Z4 w t x) (fun k s => Nx a.2 s.1 (k * Z3i m) ∧ s.2.length ≤ k) (fun _ => False) (fun s => Nx a.2 s.1 (3 * Z3i m)) ⟨by simpa using Nx.refl a.2, by simp⟩ (fun k y s hy hI => ?_) (fun s hI => ?_)) (fun r hr => hr.elim) (fun s hs => ?_)
    ·obtain ⟨j1, j2⟩ := hI
     have hym := List.mem_of_getElem? hy
     have hkl := (List.getElem?_eq_some_iff.1 hy).1
     obtain ⟨d1, d2⟩ := hT.ma x hxc (by omega) y hym
     have hws : wsub .i64 depth 1 = depth - 1 := Q4z (by omega) (by omega)
     rw [hws]
     have hr2 : ROk s.1 (Z3i m) := by
      have : k * Z3i m + Z3i m ≤ 3 * Z3i m := by
       rw [← Nat.succ_mul]
       exact Nat.mul_le_mul_right _ (by omega)
      exact ROk.nx (c := k * Z3i m) (hr1.le this) j1
     refine Ret.bind (ih n s.1 y (depth - 1) (hT.at_ x hxc y hym) (by omega) (by omega) (by omega) (by omega) (by omega) (by omega) hr2) (fun b hb => ?_)
     rw [Y8 (by simp only [Z0, List.length_cons, List.length_nil]; omega)]
     refine .some ⟨?_, by simp; omega⟩
     have := j1.trans hb
     rw [← Nat.succ_mul] at this
     exact this
    ·obtain ⟨j1, j2⟩ := hI
     exact j1.le' (Nat.mul_le_mul_right _ hal)
    ·exact .some (ha.2.2.trans hs)
theorem X9d {r : X0} (h : ROk r 1000) : Ret (Q4r NN r) (fun a => a.1 ∈ Q1v ∧ a.2.1 ∈ tys a.1 ∧ Nx r a.2.2.2 500) := by
 unfold Q4r
 refine Ret.bind (W39 (h.le (by omega))) (fun a ha => ?_)
 obtain ⟨hw, hn1⟩ := ha
 have hW := ww hw
 rw [hW.tab]
 simp only [Option.bind_some]
 have hr1 : ROk a.2 999 := ROk.nx (c := 1) h hn1
 have hpos := hW.pos
 have hle := hW.le
 refine Ret.bind (Q5g (hr1.le (by omega)) (k := lenZ a.1.length) (by simp only [lenZ]; omega) (by simp only [lenZ]; omega)) (fun b hb => ?_)
 have hr2 : ROk b.2 998 := ROk.nx (c := 1) hr1 hb.2.2
 refine Ret.bind (Z5h (hr2.le (by omega)) [0, 0, 1, 2] (by simp) (by simp)) (fun c hc => ?_)
 have hr3 : ROk c.2 997 := ROk.nx (c := 1) hr2 hc.2
 have hty : (Q2.mk b.1 c.1) ∈ tys a.1 := by
  obtain ⟨i, hi⟩ := Int.eq_ofNat_of_zero_le hb.1
  have hil : i < a.1.length := by have := hb.2.1; simp only [lenZ] at this; omega
  have hci : ∃ j : Nat, j < 4 ∧ c.1 = (j : Int) := by
   have := hc.1
   simp at this
   rcases this with h | h | h
   ·exact ⟨0, by omega, h⟩
   ·exact ⟨1, by omega, h⟩
   ·exact ⟨2, by omega, h⟩
  obtain ⟨j, hj, hcj⟩ := hci
  unfold tys
  refine List.mem_cons_of_mem _ (List.mem_flatMap.2 ⟨i, List.mem_range.2 hil, List.mem_map.2 ⟨j, List.mem_range.2 hj, ?_⟩⟩)
  rw [hi, hcj]
  rfl
 have htI : tI ∈ tys a.1 := by unfold tys; exact List.mem_cons_self
 refine Ret.ctl (R := fun _ => False) (B := fun s => (Q2.mk s.1 s.2) ∈ tys a.1 ∧ depP a.1 (Q2.mk s.1 s.2) ≠ 0) ?_ (fun r hr => hr.elim) (fun s hs => ?_)
 ·rw [(hW.ty _ hty).d1]
  simp only [Option.bind_some]
  refine Ret.ite (fun h => ?_) (fun h => ?_)
  ·refine .some ⟨htI, ?_⟩
   have := (hW.ty tI htI).ti rfl
   show depP a.1 tI ≠ 0
   omega
  ·rw [Y3] at h
   exact .some ⟨hty, h⟩
 ·refine Ret.bind (Z5h (hr3.le (by omega)) [3, 2, 4, 1] (by simp) (by simp)) (fun d hd => ?_)
  have hr4 : ROk d.2 996 := ROk.nx (c := 1) hr3 hd.2
  have hd4 : 1 ≤ d.1 ∧ d.1 ≤ 4 := by
   have := hd.1
   simp at this
   omega
  have hdep := (hW.ty _ hs.1).d4
  refine Ret.bind (W5o hW 4 NN d.2 _ d.1 hs.1 hs.2 (by omega) (by omega) (by omega) (by omega) (by decide) (hr4.le (by decide))) (fun e he => ?_)
  refine .some ⟨hw, hs.1, ?_⟩
  have := (((hn1.trans hb.2.2).trans hc.2).trans hd.2).trans he
  exact this.le' (by decide)
end Go.Proofs.YtnackipaoepmfaaGreat
namespace Go.Proofs.YtnackipaoepmfaaGreat
open Go Go.RowKit
def Z7q : Nat → Q0 → Prop
 | 0, _ => False
 | d + 1, p => p.kids.length ≤ 3 ∧ ∀ q ∈ p.kids, Z7q d q
theorem Z1m (d : Nat) : Z7q (d + 1) (Q0.mk 1 0 0 0 0 []) := ⟨by simp, by simp⟩
def cD3 : Nat → Nat
 | 0 => 0
 | m + 1 => 5 + 3 * cD3 m
def cN3 : Nat → Nat
 | 0 => 0
 | m + 1 => 2 + 3 * cN3 m
theorem W5m {w : List Q3} (hw : WW w) : ∀ (m n : Nat) (r : X0) (t : Q2) (depth : Int), t ∈ tys w → depth ≤ m + 1 → -1000 + m ≤ depth → m ≤ 100 → m + 1 ≤ n → ROk r (cD3 m) →
  Ret (Q0g n r w t depth) (fun a => Z7q (m + 1) a.1 ∧ Nx r a.2 (cD3 m)) := by
 intro m
 induction m with
 | zero =>
  intro n r t depth ht h1 h2 h3 hn hr
  obtain ⟨n, rfl⟩ : ∃ k, n = k + 1 := ⟨n - 1, by omega⟩
  unfold Q0g
  rw [if_pos (by rw [V2]; omega)]
  exact .some ⟨Z1m 0, Nx.refl r⟩
 | succ m ih =>
  intro n r t depth ht h1 h2 h3 hn hr
  obtain ⟨n, rfl⟩ : ∃ k, n = k + 1 := ⟨n - 1, by omega⟩
  have hT := hw.ty t ht
  have ec : cD3 (m + 1) = 5 + 3 * cD3 m := rfl
  rw [ec] at hr ⊢
  have hws : wsub .i64 depth 1 = depth - 1 := Q4z (by omega) (by omega)
  unfold Q0g
  refine Ret.ite (fun h => .some ⟨Z1m _, (Nx.refl r).le' (by omega)⟩) (fun h => ?_)
  refine Ret.bind (Q5g (hr.le (by omega)) (by omega) (by omega)) (fun a ha => ?_)
  have hr1 : ROk a.2 (4 + 3 * cD3 m) := ROk.nx (c := 1) (hr.le (by omega)) ha.2.2
  refine Ret.ite (fun h => .some ⟨Z1m _, ha.2.2.le' (by omega)⟩) (fun h => ?_)
  refine Ret.bind (Q5g (hr1.le (by omega)) (by omega) (by omega)) (fun b hb => ?_)
  have hr2 : ROk b.2 (3 + 3 * cD3 m) := ROk.nx (c := 1) (hr1.le (by omega)) hb.2.2
  have hab := ha.2.2.trans hb.2.2
  rw [hws]
  refine Ret.ite (fun h => ?_) (fun h => ?_)
  ·refine Ret.bind (ih n b.2 t (depth - 1) ht (by omega) (by omega) (by omega) (by omega) (hr2.le (by omega))) (fun c hc => ?_)
   have hr3 : ROk c.2 (cD3 m) := ROk.nx (c := cD3 m) (hr2.le (by omega)) hc.2
   refine Ret.bind (ih n c.2 t (depth - 1) ht (by omega) (by omega) (by omega) (by omega) hr3) (fun d hd => ?_)
   refine .some ⟨⟨by simp, fun q hq => ?_⟩, ((hab.trans hc.2).trans hd.2).le' (by omega)⟩
   simp at hq
   rcases hq with rfl | rfl
   ·exact hc.1
   ·exact hd.1
  ·refine Ret.ite (fun h => ?_) (fun h => ?_)
   ·refine Ret.bind (Q5g (hr2.le (by omega)) (by omega) (by omega)) (fun c hc => ?_)
    have hr3 : ROk c.2 (2 + 3 * cD3 m) := ROk.nx (c := 1) (hr2.le (by omega)) hc.2.2
    have e10 : wsub .i64 10 c.1 = 10 - c.1 := Q4z (by omega) (by omega)
    rw [e10]
    refine Ret.bind (Q5g (hr3.le (by omega)) (by omega) (by omega)) (fun d hd => ?_)
    have hr4 : ROk d.2 (1 + 3 * cD3 m) := ROk.nx (c := 1) (hr3.le (by omega)) hd.2.2
    refine Ret.bind (Q5g (hr4.le (by omega)) (by omega) (by omega)) (fun e he => ?_)
    exact .some ⟨⟨by simp, by simp⟩, (((hab.trans hc.2.2).trans hd.2.2).trans he.2.2).le' (by omega)⟩
   ·rw [hT.c1]
    simp only [Option.bind_some]
    refine Ret.ite (fun h => .some ⟨Z1m _, hab.le' (by omega)⟩) (fun h => ?_)
    rw [Y3] at h
    simp only [lenZ] at h
    have hcl := hT.cl
    refine Ret.bind (Q5g (hr2.le (by omega)) (k := lenZ (Z9 w t).length) (by simp only [lenZ]; omega) (by simp only [lenZ]; omega)) (fun c hc => ?_)
    have hr3 : ROk c.2 (3 * cD3 m) := ROk.nx (c := 1) (hr2.le (by omega)) hc.2.2
    obtain ⟨x, hx, hxm⟩ := Q68 (xs := Z9 w t) hc.1 (by simpa [lenZ] using hc.2.1)
    rw [hx]
    simp only [Option.bind_some]
    rw [hT.a1 x hxm]
    simp only [Option.bind_some]
    have hal := hT.al x hxm
    refine Ret.ctl (Z7 (Z4 w t x) (fun k s => Nx c.2 s.1 (k * cD3 m) ∧ s.2.length = k ∧ ∀ q ∈ s.2, Z7q (m + 1) q) (fun _ => False) (fun s => Nx c.2 s.1 (3 * cD3 m) ∧ s.2.length ≤ 3 ∧ ∀ q ∈ s.2, Z7q (m + 1) q) ⟨by simpa using Nx.refl c.2, by simp, by simp⟩ (fun k y s hy hI => ?_) (fun s hI => ?_)) (fun r hr => hr.elim) (fun s hs => ?_)
    ·obtain ⟨j1, j2, j3⟩ := hI
     have hym := List.mem_of_getElem? hy
     have hkl := (List.getElem?_eq_some_iff.1 hy).1
     have hr4 : ROk s.1 (cD3 m) := by
      have : k * cD3 m + cD3 m ≤ 3 * cD3 m := by
       rw [← Nat.succ_mul]
       exact Nat.mul_le_mul_right _ (by omega)
      exact ROk.nx (c := k * cD3 m) (hr3.le this) j1
     refine Ret.bind (ih n s.1 y (depth - 1) (hT.at_ x hxm y hym) (by omega) (by omega) (by omega) (by omega) hr4) (fun b hb => ?_)
     rw [Y8 (by simp only [Z0, List.length_cons, List.length_nil]; omega)]
     refine .some ⟨?_, by simp; omega, fun q hq => ?_⟩
     ·have := j1.trans hb.2
      rw [← Nat.succ_mul] at this
      exact this
     ·rcases List.mem_append.1 hq with hq | hq
      ·exact j3 q hq
      ·simp at hq; subst hq; exact hb.1
    ·obtain ⟨j1, j2, j3⟩ := hI
     exact ⟨j1.le' (Nat.mul_le_mul_right _ hal), by omega, j3⟩
    ·exact .some ⟨⟨hs.2.1, hs.2.2⟩, ((hab.trans hc.2.2).trans hs.1).le' (by omega)⟩
theorem W3y : ∀ (m n : Nat) (r : X0) (p : Q0) (v : Int), Z7q m p → m + 1 ≤ n → ROk r (cN3 m) → Ret (Q1y n r p v) (fun a => Nx r a.2.2 (cN3 m)) := by
 intro m
 induction m with
 | zero => intro n r p v h; exact h.elim
 | succ m ih =>
  intro n r p v hp hn hr
  obtain ⟨n, rfl⟩ : ∃ k, n = k + 1 := ⟨n - 1, by omega⟩
  obtain ⟨hk, hq⟩ := hp
  have ec : cN3 (m + 1) = 2 + 3 * cN3 m := rfl
  rw [ec] at hr ⊢
  unfold Q1y
  refine Ret.ite (fun h => .some ((Nx.refl r).le' (by omega))) (fun h => ?_)
  refine Ret.ite (fun h => .some ((Nx.refl r).le' (by omega))) (fun h => ?_)
  refine Ret.ite (fun h => .some ((Nx.refl r).le' (by omega))) (fun h => ?_)
  refine Ret.ctl (R := fun (a : Q0 × Int × X0) => Nx r a.2.2 (2 + 3 * cN3 m)) (B := fun (s : X0) => Nx r s 1) ?_ (fun a ha => .some ha) (fun s hs => ?_)
  ·refine Ret.ite (fun h => ?_) (fun h => .some ((Nx.refl r).le' (by omega)))
   refine Ret.bind (Q5g (hr.le (by omega)) (by omega) (by omega)) (fun a ha => ?_)
   exact Ret.ite (fun h => .some (ha.2.2.le' (by omega))) (fun h => .some ha.2.2)
  ·have hr1 : ROk s (1 + 3 * cN3 m) := ROk.nx (c := 1) (hr.le (by omega)) hs
   refine Ret.ctl (Z7 p.kids (fun k u => Nx s u.1 (k * cN3 m) ∧ u.2.1.length = k) (fun _ => False) (fun u => Nx s u.1 (3 * cN3 m) ∧ u.2.1.length ≤ 3) ⟨by simpa using Nx.refl s, by simp⟩ (fun k y u hy hI => ?_) (fun u hI => ?_)) (fun r hr => hr.elim) (fun u hu => ?_)
   ·obtain ⟨j1, j2⟩ := hI
    have hym := List.mem_of_getElem? hy
    have hkl := (List.getElem?_eq_some_iff.1 hy).1
    have hr4 : ROk u.1 (cN3 m) := by
     have : k * cN3 m + cN3 m ≤ 1 + 3 * cN3 m := by
      rw [← Nat.succ_mul]
      have := Nat.mul_le_mul_right (cN3 m) (show k.succ ≤ 3 by omega)
      omega
     exact ROk.nx (c := k * cN3 m) (hr1.le this) j1
    refine Ret.bind (ih n u.1 y _ (hq y hym) (by omega) hr4) (fun b hb => ?_)
    rw [Y8 (by simp only [Z0, List.length_cons, List.length_nil]; omega)]
    refine .some ⟨?_, by simp; omega⟩
    have := j1.trans hb
    rw [← Nat.succ_mul] at this
    exact this
   ·obtain ⟨j1, j2⟩ := hI
    exact ⟨j1.le' (Nat.mul_le_mul_right _ hk), by omega⟩
   ·have hr2 : ROk u.1 1 := ROk.nx (c := 3 * cN3 m) (hr1.le (by omega)) hu.1
    have hsu := hs.trans hu.1
    refine Ret.ctl (R := fun (a : Q0 × Int × X0) => Nx r a.2.2 (2 + 3 * cN3 m)) (B := fun (s : X0) => Nx r s (2 + 3 * cN3 m)) ?_ (fun a ha => .some ha) (fun s hs => .some hs)
    refine Ret.ite (fun h => ?_) (fun h => .some (hsu.le' (by omega)))
    refine Ret.bind (Q5g hr2 (by omega) (by omega)) (fun a ha => ?_)
    have := (hsu.trans ha.2.2).le' (show 1 + 3 * cN3 m + 1 ≤ 2 + 3 * cN3 m by omega)
    exact Ret.ite (fun h => .some this) (fun h => .some this)
def anyP : Q0 := Q0.mk 1 0 0 0 0 []
theorem W29 (w : List Q3) (t : Q2) : Q06 w t anyP = true := by
 simp [Q06, anyP, Q16, Q65, Q94, Y5, linD, Q2z, ownV, Q1g, cntP, cntP.cntPs]
theorem X4z {w : List Q3} (hw : WW w) {r : X0} {t : Q2} (ht : t ∈ tys w) (h : ROk r 200) : Ret (Q2n NN r w t) (fun a => Q06 w t a.1 = true ∧ Nx r a.2 200) := by
 unfold Q2n
 refine Ret.bind (Z5h (h.le (by omega)) [3, 2, 4, 1] (by simp) (by simp)) (fun a ha => ?_)
 have hr1 : ROk a.2 199 := ROk.nx (c := 1) h ha.2
 have hd4 : 1 ≤ a.1 ∧ a.1 ≤ 4 := by
  have := ha.1
  simp at this
  omega
 refine Ret.bind (W5m hw 3 NN a.2 t a.1 ht (by omega) (by omega) (by omega) (by decide) (hr1.le (by decide))) (fun b hb => ?_)
 have hr2 : ROk b.2 80 := ROk.nx (c := cD3 3) (hr1.le (by decide)) hb.2
 refine Ret.bind (W3y 4 NN b.2 b.1 0 hb.1 (by decide) (hr2.le (by decide))) (fun c hc => ?_)
 rw [Z1k hw (by decide) t c.1 ht]
 simp only [Option.bind_some]
 have hnx := ((ha.2.trans hb.2).trans hc).le' (show 1 + cD3 3 + cN3 4 ≤ 200 by decide)
 cases hv : Q06 w t c.1 with
 | false => exact .some ⟨W29 w t, hnx⟩
 | true => exact .some ⟨hv, hnx⟩
theorem X78 {r : X0} (h : ROk r 2) (p : Q0) (hp : p.kids.length ≤ 1000) : Ret (Q27 r p) (fun a => a.1.kids.length ≤ p.kids.length + 1 ∧ Nx r a.2 2) := by
 unfold Q27
 rw [Y8 (by simp [Z0]; omega)]
 simp only [Option.bind_some, List.nil_append]
 refine Ret.ctl (R := fun _ => False) (B := fun (s : X0 × Int × Int × Int × Int × (List Q0)) => Nx r s.1 2 ∧ s.2.2.2.2.2.length ≤ p.kids.length + 1) ?_ (fun r hr => hr.elim) (fun s hs => .some ⟨hs.2, hs.1⟩)
 refine Ret.bind (Q5g (h.le (by omega)) (by omega) (by omega)) (fun a ha => ?_)
 have hr1 : ROk a.2 1 := ROk.nx (c := 1) h ha.2.2
 refine Ret.ite (fun _ => Ret.bind (Z5h hr1 _ (by simp) (by simp)) (fun b hb => .some ⟨(ha.2.2.trans hb.2), by simp⟩)) (fun _ => ?_)
 refine Ret.ite (fun _ => Ret.bind (Z5h hr1 _ (by simp) (by simp)) (fun b hb => .some ⟨(ha.2.2.trans hb.2), by simp⟩)) (fun _ => ?_)
 refine Ret.ite (fun _ => Ret.bind (Z5h hr1 _ (by simp) (by simp)) (fun b hb => .some ⟨(ha.2.2.trans hb.2), by simp⟩)) (fun _ => ?_)
 refine Ret.ite (fun _ => ?_) (fun _ => ?_)
 ·rw [Y8 (by simp [Z0]; omega)]
  exact .some ⟨ha.2.2.le' (by omega), by simp⟩
 refine Ret.ite (fun _ => ?_) (fun _ => ?_)
 ·refine Ret.ite (fun c => ?_) (fun _ => .some ⟨ha.2.2.le' (by omega), by simp⟩)
  rw [V2] at c
  simp only [lenZ] at c
  obtain ⟨x, hx, hm⟩ := Q68 (xs := p.kids) (i := 0) (by omega) (by omega)
  rw [hx]
  simp only [Option.bind_some]
  have : setI p.kids 0 (Q0.mk 2 0 0 0 0 []) = some (p.kids.set 0 (Q0.mk 2 0 0 0 0 [])) := by
   unfold setI
   rw [if_pos ⟨by omega, by show 0 < p.kids.length; omega⟩]
   rfl
  rw [this]
  exact .some ⟨ha.2.2.le' (by omega), by simp⟩
 refine Ret.ite (fun _ => Ret.bind (Z5h hr1 _ (by simp) (by simp)) (fun b hb => .some ⟨(ha.2.2.trans hb.2), by simp⟩)) (fun _ => ?_)
 exact .some ⟨ha.2.2.le' (by omega), by simp⟩
theorem X6w {w : List Q3} (hw : WW w) {t : Q2} (ht : t ∈ tys w) {p : Q0} (h : Q06 w t p = true) : p.kids.length ≤ 3 := by
 obtain ⟨ho, hl⟩ := Q4e (Q3o (Q0x h).1)
 rw [hl]
 exact W0p (hw.ty t ht) ho
end Go.Proofs.YtnackipaoepmfaaGreat
namespace Go.Proofs.YtnackipaoepmfaaGreat
open Go Go.RowKit
def Z4i : Nat → Q6 → Prop
 | 0, _ => False
 | d + 1, v => v.kids.length ≤ 3 ∧ ∀ x ∈ v.kids, Z4i d x
theorem Z31 {w : List Q3} (hw : WW w) : ∀ (d : Nat) (t : Q2) (v : Q6), t ∈ tys w → Q12 w d t v → Z4i d v := by
 intro d
 induction d with
 | zero => intro t v _ h; exact h
 | succ d ih =>
  intro t v ht h
  have hT := hw.ty t ht
  simp only [Q12] at h
  split at h
  ·obtain ⟨_, _, _, h4⟩ := h
   exact ⟨by rw [h4]; simp, fun x hx => by rw [h4] at hx; cases hx⟩
  ·obtain ⟨_, h2, h3, h4⟩ := h
   have hal := hT.al _ h2
   refine ⟨by omega, fun x hx => ?_⟩
   obtain ⟨j, hj⟩ := List.mem_iff_getElem?.1 hx
   have hjl := (List.getElem?_eq_some_iff.1 hj).1
   have ha : (Z4 w t v.ctor)[j]? = some ((Z4 w t v.ctor)[j]'(by omega)) := by simp
   exact ih _ x (hT.at_ _ h2 _ (List.mem_of_getElem? ha)) (h4 j _ x ha hj)
theorem Q6.ext' {a b : Q6} (h1 : a.ctor = b.ctor) (h2 : a.n = b.n) (h3 : a.kids = b.kids) : a = b := by
 cases a; cases b; simp_all
theorem Z5f : ∀ (d n : Nat) (v : Q6), Z4i d v → d ≤ n → Q1j n v = some v := by
 intro d
 induction d with
 | zero => intro n v h; exact h.elim
 | succ d ih =>
  intro n v h hn
  obtain ⟨n, rfl⟩ : ∃ k, n = k + 1 := ⟨n - 1, by omega⟩
  obtain ⟨h1, h2⟩ := h
  have hr : Ret (Q1j (n + 1) v) (fun r => r = v) := by
   unfold Q1j
   refine Ret.ctl (Z7 v.kids (fun k s => s = v.kids.take k) (fun _ => False) (fun s => s = v.kids) (by simp) (fun k q s hq hI => ?_) (fun s hI => ?_)) (fun r hr => hr.elim) (fun s hs => .some (Q6.ext' rfl rfl hs))
   ·rw [ih n q (h2 q (List.mem_of_getElem? hq)) (by omega)]
    simp only [Option.bind_some]
    rw [Y8 (by simp only [Z0, List.length_cons, List.length_nil]; rw [hI, List.length_take]; omega)]
    exact .some (by rw [hI, List.take_add_one, hq]; rfl)
   ·rw [hI, List.take_length]
  obtain ⟨r, e, rfl⟩ := hr
  exact e
theorem X4e (a : List Q6) (f : Q6 → Q6 → Option Bool) (hf : ∀ x ∈ a, f x x = some true) : Q05 a a f = some true := by
 have hr : Ret (Q05 a a f) (fun r => r = true) := by
  unfold Q05
  rw [if_neg (by simp [ieq])]
  refine Ret.ctl (Z7 a (fun _ _ => True) (fun _ => False) (fun _ => True) trivial (fun k x s hx _ => ?_) (fun _ _ => trivial)) (fun r hr => hr.elim) (fun s _ => .some rfl)
  rw [Q3b hx]
  simp only [Option.bind_some]
  rw [hf x (List.mem_of_getElem? hx)]
  exact .some trivial
 obtain ⟨_, e, rfl⟩ := hr
 exact e
theorem Z71 : ∀ (d n : Nat) (v : Q6), Z4i d v → d ≤ n → Q2j n v v = some true := by
 intro d
 induction d with
 | zero => intro n v h; exact h.elim
 | succ d ih =>
  intro n v h hn
  obtain ⟨n, rfl⟩ : ∃ k, n = k + 1 := ⟨n - 1, by omega⟩
  unfold Q2j
  rw [if_pos (by simp [ieq]), if_pos (by simp [ieq]), X4e _ _ fun x hx => ih n x (h.2 x hx) (by omega)]
  rfl
def DB (l : List W6) : Prop := ∀ b ∈ l, Z4i 10 b.value
theorem Z3u {l : List W6} (h : DB l) : Q0s NN l l = some true := by
 have hr : Ret (Q0s NN l l) (fun r => r = true) := by
  unfold Q0s
  rw [if_neg (by simp [ieq])]
  refine Ret.ctl (Z7 l (fun _ _ => True) (fun _ => False) (fun _ => True) trivial (fun k x s hx _ => ?_) (fun _ _ => trivial)) (fun r hr => hr.elim) (fun s _ => .some rfl)
  rw [Q3b hx]
  simp only [Option.bind_some]
  rw [if_neg (by simp [ieq]), Z71 10 NN x.value (h x (List.mem_of_getElem? hx)) (by decide)]
  exact .some trivial
 obtain ⟨_, e, rfl⟩ := hr
 exact e
theorem X2v {α : Type} {xs : List α} {i : Int} {x : α} (h0 : 0 ≤ i) (h : i < xs.length) : setI xs i x = some (xs.set i.toNat x) := by
 unfold setI
 rw [if_pos ⟨h0, by omega⟩]
theorem V3n : (List.range 13).all (fun k => (Q5n (wcv .u64 (lenZ k))).isSome) = true := by kernel_rfl
theorem Z82 : ∀ (d : Nat) (p : Q0) (e : Nat) (v : Q6) (l : List W6), Z4i e v → W7 d p v = some l → ∀ b ∈ l, ∃ e', e' ≤ e ∧ Z4i e' b.value := by
 intro d
 induction d with
 | zero => intro p e v l _ h; cases h
 | succ d ih =>
  intro p e v l hv hm b hb
  rw [W7] at hm
  split at hm
  ·cases hm; cases hb
  split at hm
  ·cases hm
   simp only [List.mem_cons, List.not_mem_nil, or_false] at hb
   subst hb
   exact ⟨e, Nat.le_refl _, hv⟩
  split at hm
  ·split at hm
   ·cases hm; cases hb
   ·cases hm
  split at hm
  ·split at hm
   ·split at hm
    ·rename_i l' hl'
     cases hm
     exact ih _ e v _ hv hl' b hb
    ·exact ih _ e v _ hv hm b hb
   ·cases hm
  split at hm
  ·split at hm
   ·rename_i a _
    cases ha : W7 d a v with
    | none => rw [ha] at hm; cases hm
    | some l' =>
     rw [ha] at hm
     cases hm
     rcases List.mem_cons.1 hb with h | h
     ·subst h
      exact ⟨e, Nat.le_refl _, hv⟩
     ·exact ih _ e v _ hv ha b h
   ·cases hm
  split at hm
  ·cases e with
   | zero => exact hv.elim
   | succ e =>
    have hk := hv.2
    have gen : ∀ (ps : List Q0) (vs : List Q6) (l : List W6), (∀ x ∈ vs, Z4i e x) → Q3y (W7 d) ps vs = some l → ∀ b ∈ l, ∃ e', e' ≤ e ∧ Z4i e' b.value := by
     intro ps
     induction ps with
     | nil => intro vs l _ h b hb; simp only [Q3y] at h; cases h; cases hb
     | cons q ps ihp =>
      intro vs l hvs h b hb
      cases vs with
      | nil => cases h
      | cons u vs =>
       simp only [Q3y] at h
       cases hq : W7 d q u with
       | none => rw [hq] at h; cases h
       | some l1 =>
        rw [hq] at h
        simp only at h
        cases hps : Q3y (W7 d) ps vs with
        | none => rw [hps] at h; cases h
        | some l2 =>
         rw [hps] at h
         cases h
         rcases List.mem_append.1 hb with hb | hb
         ·exact ih q e u l1 (hvs u (by simp)) hq b hb
         ·exact ihp vs l2 (fun x hx => hvs x (by simp [hx])) hps b hb
    obtain ⟨e', h1, h2⟩ := gen _ _ _ hk hm b hb
    exact ⟨e', by omega, h2⟩
  ·cases hm
theorem Z9a : ∀ (d e : Nat) (v : Q6), d ≤ e → Z4i d v → Z4i e v := by
 intro d
 induction d with
 | zero => intro e v _ h; exact h.elim
 | succ d ih =>
  intro e v he h
  obtain ⟨e, rfl⟩ : ∃ k, e = k + 1 := ⟨e - 1, by omega⟩
  exact ⟨h.1, fun x hx => ih e x (by omega) (h.2 x hx)⟩
theorem Z5j : ∀ (m : Nat) (l : List Int), l.Nodup → (∀ x ∈ l, 0 ≤ x ∧ x < m) → l.length ≤ m := by
 intro m
 induction m with
 | zero =>
  intro l _ h
  cases l with
  | nil => simp
  | cons x l => have := h x (by simp); omega
 | succ m ih =>
  intro l hn h
  have h1 := ih (l.erase (m : Int)) (hn.erase _) (fun x hx => by
   have hx2 := (hn.mem_erase_iff).1 hx
   have := h x hx2.2
   have := hx2.1
   omega)
  have h2 := List.length_erase (a := (m : Int)) (l := l)
  split at h2 <;> omega
theorem W3c {w : List Q3} {t : Q2} {p : Q0} {d : Nat} (g : Q16 w d t p = true) (l : linD w d t p = true) : (Q2z w d t p).length ≤ 6 := by
 have h1 := Q5a d t p g l
 simp only [Q1g, decide_eq_true_eq] at h1
 have := Z5j 6 _ h1 (fun x hx => by
  obtain ⟨y, hy, rfl⟩ := List.mem_map.1 hx
  have := Z2t d t p g y hy
  omega)
 simpa using this
end Go.Proofs.YtnackipaoepmfaaGreat
namespace Go.Proofs.YtnackipaoepmfaaGreat
open Go Go.RowKit
def Q9e (l : List W6) : List W6 := (List.range 6).flatMap fun (v : Nat) => l.filter fun b => decide (b.var = (v : Int))
theorem X2u : ∀ (a b : List W6), a.Pairwise (fun x y => x.var < y.var) → b.Pairwise (fun x y => x.var < y.var) → a.Perm b → a = b := by
 intro a
 induction a with
 | nil => intro b _ _ h; exact h.nil_eq
 | cons x a ih =>
  intro b ha hb h
  cases b with
  | nil => exact absurd h.symm.nil_eq (by simp)
  | cons y b =>
   rw [List.pairwise_cons] at ha hb
   have hx : x ∈ y :: b := h.mem_iff.1 (by simp)
   have hy : y ∈ x :: a := h.mem_iff.2 (by simp)
   have hxy : x = y := by
    rcases List.mem_cons.1 hx with rfl | hx
    ·rfl
    ·rcases List.mem_cons.1 hy with h1 | hy
     ·exact h1.symm
     ·have h1 := hb.1 x hx
      have h2 := ha.1 y hy
      omega
   subst hxy
   rw [ih b ha.2 hb.2 ((List.perm_cons x).1 h)]
theorem Z7p {l : List W6} (h : l.Pairwise (fun x y => x.var ≤ y.var)) (hn : (l.map (·.var)).Nodup) : l.Pairwise (fun x y => x.var < y.var) := by
 rw [List.Nodup, List.pairwise_map] at hn
 refine (h.and hn).imp fun ⟨h1, h2⟩ => ?_
 omega
theorem X0e {l : List W6} (hn : (l.map (·.var)).Nodup) : (Q9e l).Pairwise (fun x y => x.var < y.var) := by
 unfold Q9e
 rw [List.pairwise_flatMap]
 refine ⟨fun v _ => ?_, ?_⟩
 ·have h1 : (l.filter fun b => decide (b.var = (v : Int))).Pairwise (fun x y => x.var ≤ y.var) := by
   rw [List.pairwise_filter]
   refine List.pairwise_of_forall fun x y hx hy => ?_
   simp only [decide_eq_true_eq] at hx hy
   omega
  exact Z7p h1 ((List.filter_sublist.map _).nodup hn)
 ·refine List.Pairwise.imp ?_ (List.pairwise_lt_range (n := 6))
  intro a b hab x hx y hy
  have h1 := (List.mem_filter.1 hx).2
  have h2 := (List.mem_filter.1 hy).2
  simp only [decide_eq_true_eq] at h1 h2
  omega
theorem Z3z {α β : Type} (f g h : α → List β) (e : ∀ v, f v = g v ++ h v) : ∀ L : List α, (L.flatMap f).Perm (L.flatMap g ++ L.flatMap h)
 | [] => by simp
 | v :: L => by
  rw [List.flatMap_cons, List.flatMap_cons, List.flatMap_cons, e v, List.append_assoc, List.append_assoc]
  refine List.Perm.append_left _ ?_
  refine ((Z3z f g h e L).append_left (h v)).trans ?_
  rw [← List.append_assoc, ← List.append_assoc]
  exact List.Perm.append_right _ List.perm_append_comm
theorem Q7z {l : List W6} (hv : ∀ b ∈ l, 0 ≤ b.var ∧ b.var ≤ 5) : (Q9e l).Perm l := by
 induction l with
 | nil => simp [Q9e]
 | cons x l ih =>
  have h1 := ih fun b hb => hv b (by simp [hb])
  obtain ⟨x0, x5⟩ := hv x (by simp)
  have h2 := Z3z (fun (v : Nat) => (x :: l).filter fun b => decide (b.var = (v : Int))) (fun (v : Nat) => if x.var = (v : Int) then [x] else []) (fun (v : Nat) => l.filter fun b => decide (b.var = (v : Int))) (fun v => by
   by_cases hc : x.var = (v : Int)
   ·rw [List.filter_cons, if_pos (by simp [hc]), if_pos hc]; rfl
   ·rw [List.filter_cons, if_neg (by simp [hc]), if_neg hc]; rfl) (List.range 6)
  have hx : ((List.range 6).flatMap fun (v : Nat) => if x.var = (v : Int) then [x] else []) = [x] := by
   have h6 : x.var = 0 ∨ x.var = 1 ∨ x.var = 2 ∨ x.var = 3 ∨ x.var = 4 ∨ x.var = 5 := by omega
   rcases h6 with h | h | h | h | h | h <;> simp [h, List.range, List.range.loop]
  rw [hx] at h2
  exact h2.trans (List.Perm.cons _ h1)
theorem X4j (a b : Int) : Q39 a b = some (if a < b then -1 else if b < a then 1 else 0) := by
 unfold Q39 Q47
 have e1 : (!ieq a a) = false := by simp [ieq]
 have e2 : (!ieq b b) = false := by simp [ieq]
 simp only [Option.bind_some, e1, e2, Bool.false_eq_true, if_false]
 by_cases h : a < b
 ·have e : ilt a b = true := by rw [V2]; exact h
  simp only [e, if_true, if_pos h]
 ·have e : ilt a b = false := by rw [Q02]; omega
  simp only [e, Bool.false_eq_true, if_false, if_neg h]
  by_cases h2 : b < a
  ·have e : ilt b a = true := by rw [V2]; exact h2
   simp only [e, if_true, if_pos h2]
  ·have e : ilt b a = false := by rw [Q02]; omega
   simp only [e, Bool.false_eq_true, if_false, if_neg h2]
theorem X38 (a b : W6) : Q13 a b = some (if a.var < b.var then -1 else if b.var < a.var then 1 else 0) := by
 unfold Q13
 rw [X4j]
 rfl
def OrdV (l : List W6) (i j : Nat) : Prop := ∀ a b x y, a < b → b ≤ i → b ≠ j → l[a]? = some x → l[b]? = some y → x.var ≤ y.var
theorem X7e {n : Nat} (hn : 30 ≤ n) (l : List W6) (hl : l.length ≤ 12) :
  Ret (Y2 n l 0 (lenZ l.length) (fun a b => Q13 a b)) (fun r => r.Perm l ∧ r.Pairwise (fun x y => x.var ≤ y.var)) := by
 unfold Y2
 have z1 : wadd .i64 0 1 = 1 := rfl
 rw [z1]
 refine Ret.ctl (Q6v (fun s : List W6 × Int => s.1.Perm l ∧ 1 ≤ s.2 ∧ s.2 ≤ 13 ∧ ∀ a b x y, a < b → b < s.2.toNat → s.1[a]? = some x → s.1[b]? = some y → x.var ≤ y.var) (fun s => (14 - s.2).toNat) (fun _ => False) (fun s => s.1.Perm l ∧ s.1.Pairwise (fun x y => x.var ≤ y.var)) ⟨.rfl, by simp, by simp, fun a b x y h1 h2 => by simp at h2; omega⟩ (fun s hI => ?_) n (by simp; omega)) (fun r hr => hr.elim) (fun s hs => .some hs)
 obtain ⟨i1, i3, i4, i5⟩ := hI
 refine Ret.ite (fun hlt => ?_) (fun hge => ?_)
 ·rw [V2] at hlt
  simp only [lenZ] at hlt
  refine Ret.ctl (Q6v (fun u : List W6 × Int => u.1.Perm l ∧ 0 ≤ u.2 ∧ u.2 ≤ s.2 ∧ OrdV u.1 s.2.toNat u.2.toNat) (fun u => u.2.toNat) (fun _ => False) (fun u => u.1.Perm l ∧ ∀ a b x y, a < b → b ≤ s.2.toNat → u.1[a]? = some x → u.1[b]? = some y → x.var ≤ y.var) ⟨i1, by omega, Int.le_refl _, fun a b x y h1 h2 h3 => i5 a b x y h1 (by omega)⟩ (fun u hJ => ?_) n (by omega)) (fun r hr => hr.elim) (fun u hu => ?_)
  ·obtain ⟨j1, j3, j4, j5⟩ := hJ
   have hlen := j1.length_eq
   refine Ret.ite (fun hp => ?_) (fun hp => ?_)
   ·rw [V2] at hp
    have hs : wsub .i64 u.2 1 = u.2 - 1 := Q4z (by omega) (by omega)
    rw [hs]
    have ex : idx u.1 u.2 = some (u.1[u.2.toNat]'(by omega)) := W0w j3 (List.getElem?_eq_getElem (by omega))
    have ey : idx u.1 (u.2 - 1) = some (u.1[(u.2 - 1).toNat]'(by omega)) := W0w (by omega) (List.getElem?_eq_getElem (by omega))
    have gx : u.1[u.2.toNat]? = some (u.1[u.2.toNat]'(by omega)) := List.getElem?_eq_getElem (by omega)
    have gy : u.1[u.2.toNat - 1]? = some (u.1[(u.2 - 1).toNat]'(by omega)) := by
     rw [show u.2.toNat - 1 = (u.2 - 1).toNat by omega]
     exact List.getElem?_eq_getElem (by omega)
    have hperm := (List.set_set_perm (as := u.1) (i := u.2.toNat) (j := (u.2 - 1).toNat) (by omega) (by omega)).trans j1
    generalize u.1[u.2.toNat]'(by omega) = x at *
    generalize u.1[(u.2 - 1).toNat]'(by omega) = y at *
    rw [ex, ey]
    simp only [Option.bind_some]
    rw [X38]
    simp only [Option.bind_some]
    by_cases hxy : x.var < y.var
    ·rw [if_pos hxy]
     have e : ilt (-1) 0 = true := rfl
     simp only [e, if_true]
     rw [X2v j3 (by omega)]
     simp only [Option.bind_some]
     obtain ⟨z, ez, _⟩ := Q68 (xs := u.1.set u.2.toNat y) (i := u.2 - 1) (by omega) (by simp; omega)
     rw [ez]
     simp only [Option.bind_some]
     rw [X2v (by omega) (by simp; omega)]
     refine .some ⟨⟨hperm, by simp; omega, by simp; omega, ?_⟩, by simp; omega⟩
     simp only
     have hget : ∀ (m : Nat) (v : W6), ((u.1.set u.2.toNat y).set (u.2 - 1).toNat x)[m]? = some v → (m = u.2.toNat - 1 ∧ v = x) ∨ (m = u.2.toNat ∧ v = y) ∨ (m ≠ u.2.toNat - 1 ∧ m ≠ u.2.toNat ∧ u.1[m]? = some v) := fun m v hv => by
      rw [List.getElem?_set] at hv
      split at hv
      ·split at hv
       ·cases hv; exact .inl ⟨by omega, rfl⟩
       ·cases hv
      ·rw [List.getElem?_set] at hv
       split at hv
       ·split at hv
        ·cases hv; exact .inr (.inl ⟨by omega, rfl⟩)
        ·cases hv
       ·exact .inr (.inr ⟨by omega, by omega, hv⟩)
     intro a b p q hab hbi hbj hp' hq'
     rcases hget a p hp' with ⟨ha, rfl⟩ | ⟨ha, rfl⟩ | ⟨ha, ha', hpa⟩
     ·rcases hget b q hq' with ⟨hb, rfl⟩ | ⟨hb, rfl⟩ | ⟨hb, hb', hqb⟩
      ·omega
      ·omega
      ·exact j5 u.2.toNat b _ _ (by omega) hbi hb' gx hqb
     ·rcases hget b q hq' with ⟨hb, rfl⟩ | ⟨hb, rfl⟩ | ⟨hb, hb', hqb⟩
      ·omega
      ·omega
      ·exact j5 (u.2.toNat - 1) b _ _ (by omega) hbi hb' gy hqb
     ·rcases hget b q hq' with ⟨hb, rfl⟩ | ⟨hb, rfl⟩ | ⟨hb, hb', hqb⟩
      ·exact absurd hb (by omega)
      ·exact j5 a (u.2.toNat - 1) _ _ (by omega) (by omega) (by omega) hpa gy
      ·exact j5 a b _ _ hab hbi hb' hpa hqb
    ·rw [if_neg hxy]
     have e : ilt (if y.var < x.var then 1 else 0) 0 = false := by split <;> rfl
     simp only [e, Bool.false_eq_true, if_false]
     refine .some ⟨j1, fun a b p q hab hbi hp' hq' => ?_⟩
     by_cases hbj : b = u.2.toNat
     ·subst hbj
      rw [gx] at hq'
      cases hq'
      by_cases haj : a = u.2.toNat - 1
      ·subst haj
       rw [gy] at hp'
       cases hp'
       omega
      ·have := j5 a (u.2.toNat - 1) p y (by omega) (by omega) (by omega) hp' gy
       omega
     ·exact j5 a b p q hab hbi hbj hp' hq'
   ·rw [Q02] at hp
    refine .some ⟨j1, fun a b p q hab hbi hp' hq' => j5 a b p q hab hbi (by omega) hp' hq'⟩
  ·obtain ⟨u1, u2⟩ := hu
   have hw : wadd .i64 s.2 1 = s.2 + 1 := Q18 (by omega) (by omega)
   refine .some ⟨⟨u1, by simp only [hw]; omega, by simp only [hw]; omega, fun a b x y h1 h2 => u2 a b x y h1 (by simp only [hw] at h2; omega)⟩, by simp only [hw]; omega⟩
 ·rw [Q02] at hge
  simp only [lenZ] at hge
  refine .some ⟨i1, ?_⟩
  rw [List.pairwise_iff_getElem]
  intro a b ha hb hab
  have hlen := i1.length_eq
  have hb' : b < s.1.length := hb
  exact i5 a b _ _ hab (by omega) (List.getElem?_eq_getElem ha) (List.getElem?_eq_getElem hb)
theorem W3l {n : Nat} (hn : 40 ≤ n) {l : List W6} (hl : l.length ≤ 12) (hd : (l.map (·.var)).Nodup) (hv : ∀ b ∈ l, 0 ≤ b.var ∧ b.var ≤ 5) :
  Q0c n l (fun a b => Q13 a b) = some (Q9e l) := by
 suffices hs : Ret (Q0c n l (fun a b => Q13 a b)) (fun r => r = Q9e l) by
  obtain ⟨a, e, rfl⟩ := hs
  exact e
 unfold Q0c
 obtain ⟨b, hb⟩ := Option.isSome_iff_exists.1 (List.all_eq_true.1 V3n l.length (List.mem_range.2 (by omega)))
 rw [hb]
 simp only [Option.bind_some]
 have fin : ∀ r : List W6, r.Perm l → r.Pairwise (fun x y => x.var ≤ y.var) → r = Q9e l := fun r h1 h2 =>
  X2u r (Q9e l) (Z7p h2 ((h1.map _).nodup_iff.2 hd)) (X0e hd) (h1.trans (Q7z hv).symm)
 obtain ⟨n, rfl⟩ : ∃ k, n = k + 1 := ⟨n - 1, by omega⟩
 refine Ret.bind (P := fun r => r.Perm l ∧ r.Pairwise (fun x y => x.var ≤ y.var)) ?_ (fun r hr => ?_)
 ·unfold Q0o
  refine Ret.ctl (Q6v (fun _ => True) (fun _ => 0) (fun r : List W6 => r.Perm l ∧ r.Pairwise (fun x y => x.var ≤ y.var)) (fun _ => False) trivial (fun s _ => ?_) n (by omega)) (fun r hr => .some hr) (fun s hs => hs.elim)
  have h0 : wsub .i64 (lenZ l.length) 0 = lenZ l.length := by rw [Q4z] <;> simp only [lenZ] <;> omega
  rw [if_pos (by rw [Q1r, h0]; simp only [lenZ]; omega)]
  refine Ret.bind (X7e (by omega) l hl) (fun r hr => ?_)
  rw [X1z (by simp [hr.1.length_eq])]
  exact .some hr
 ·rw [X1z (by simp [hr.1.length_eq])]
  exact .some (fin r hr.1 hr.2)
theorem X58 : ∀ {a b : List Int}, a.Nodup → (∀ x ∈ a, x ∈ b) → a.length = b.length → a.Perm b
 | [], b, _, _, h => by have : b = [] := List.eq_nil_of_length_eq_zero (by simpa using h.symm); rw [this]
 | x :: a, b, hn, hs, h => by
  have hx := hs x (by simp)
  have hn' := List.nodup_cons.1 hn
  have hl := List.length_erase_of_mem hx
  refine (List.Perm.cons x (X58 hn'.2 (fun y hy => ?_) (by simp at h; omega))).trans (List.perm_cons_erase hx).symm
  have hne : y ≠ x := fun e => hn'.1 (e ▸ hy)
  exact (List.mem_erase_of_ne hne).2 (hs y (by simp [hy]))
theorem X35 {a b : List Q8} (ha : Q1g a = true) (h : Q87 a b = true) : (a.map (·.var)).Perm (b.map (·.var)) := by
 simp only [Q87, Bool.and_eq_true, decide_eq_true_eq, List.all_eq_true] at h
 have hn : (a.map (·.var)).Nodup := by simpa [Q1g] using ha
 refine X58 hn (fun x hx => ?_) (by simp [h.1])
 obtain ⟨v, hv, rfl⟩ := List.mem_map.1 hx
 exact List.mem_map.2 ⟨v, h.2 v hv, rfl⟩
theorem X7c {w : List Q3} : ∀ (d : Nat) (t : Q2) (p : Q0), Q16 w d t p = true → linD w d t p = true → ∀ v l, W7 d p v = some l → (l.map (·.var)).Perm ((Q2z w d t p).map (·.var)) := by
 intro d
 induction d with
 | zero => intro t p h; cases h
 | succ d ih =>
  intro t p hg hlin v l hm
  obtain ⟨ho, hl⟩ := Q4e (Q3o hg)
  simp only [linD, Bool.and_eq_true, List.all_eq_true] at hlin
  rw [Q2z]
  rw [W7] at hm
  have hnil : p.op ≠ 4 → p.op ≠ 5 → p.op ≠ 6 → Y5 w t p = [] := fun h4 h5 h6 => by simp [Y5, h4, h5, h6]
  by_cases h1 : p.op = 1
  ·rw [if_pos h1] at hm; cases hm
   simp [ownV, h1, hnil]
  rw [if_neg h1] at hm
  by_cases h2 : p.op = 2
  ·rw [if_pos h2] at hm; cases hm
   simp [ownV, h2, hnil]
  rw [if_neg h2] at hm
  by_cases h3 : p.op = 3
  ·rw [if_pos h3] at hm
   split at hm
   ·cases hm
    simp [ownV, h3, hnil]
   ·cases hm
  rw [if_neg h3] at hm
  by_cases h5 : p.op = 5
  ·rw [if_pos h5] at hm
   obtain ⟨a, b, hkids, hkt⟩ := kid0 h5 hl
   have ga := Q2x hg (k := 0) (by rw [hkt]; rfl) (by rw [hkids]; rfl)
   have gb := Q2x hg (k := 1) (by rw [hkt]; rfl) (by rw [hkids]; rfl)
   have g0 := hlin.1 (t, a) (by rw [hkids, hkt]; simp)
   have g1 := hlin.1 (t, b) (by rw [hkids, hkt]; simp)
   have hal := hlin.2
   rw [if_pos h5] at hal
   have k0 : kv w d t p 0 = Q2z w d t a := by simp [kv, hkids, hkt]
   have k1 : kv w d t p 1 = Q2z w d t b := by simp [kv, hkids, hkt]
   rw [k0, k1] at hal
   have hv : ownV t p = [] := by simp [ownV, h5]
   rw [hv, hkids, hkt, if_pos h5]
   simp only [List.zip_cons_cons, List.zip_nil_right, List.take_succ_cons, List.take_zero, List.flatMap_cons, List.flatMap_nil, List.append_nil, List.nil_append]
   rw [hkids] at hm
   simp only at hm
   split at hm
   ·rename_i l' hl'
    cases hm
    exact ih t a ga g0 v _ hl'
   ·exact (ih t b gb g1 v _ hm).trans (X35 (Q5a d t a ga g0) hal).symm
  rw [if_neg h5] at hm
  rw [if_neg h5, List.take_of_length_le (by rw [List.length_zip]; omega)]
  by_cases h6 : p.op = 6
  ·rw [if_pos h6] at hm
   obtain ⟨a, hkids, hk2⟩ := W0q h6 hl
   have ga := Q2x hg (k := 0) (by rw [hk2]; rfl) (by rw [hkids]; rfl)
   have g0 := hlin.1 (t, a) (by rw [hkids, hk2]; simp)
   rw [hkids] at hm
   simp only at hm
   cases ha : W7 d a v with
   | none => rw [ha] at hm; cases hm
   | some l' =>
    rw [ha] at hm
    cases hm
    have := ih t a ga g0 v l' ha
    rw [hkids, hk2]
    simpa [ownV, h6] using this
  rw [if_neg h6] at hm
  have hv : ownV t p = [] := by simp [ownV, h2, h6]
  rw [hv, List.nil_append]
  split at hm
  ·have gen : ∀ (ts : List Q2) (ps : List Q0) (vs : List Q6) (l : List W6), ts.length = ps.length → (∀ x ∈ ts.zip ps, ∀ v l, W7 d x.2 v = some l → (l.map (·.var)).Perm ((Q2z w d x.1 x.2).map (·.var))) → Q3y (W7 d) ps vs = some l → (l.map (·.var)).Perm (((ts.zip ps).flatMap fun x => Q2z w d x.1 x.2).map (·.var)) := by
    intro ts ps
    induction ps generalizing ts with
    | nil => intro vs l _ _ h; simp only [Q3y] at h; cases h; simp
    | cons q ps ihp =>
     intro vs l hl hx h
     cases ts with
     | nil => simp at hl
     | cons a ts =>
      cases vs with
      | nil => cases h
      | cons u vs =>
       simp only [Q3y] at h
       cases hq : W7 d q u with
       | none => rw [hq] at h; cases h
       | some l1 =>
        rw [hq] at h
        simp only at h
        cases hps : Q3y (W7 d) ps vs with
        | none => rw [hps] at h; cases h
        | some l2 =>
         rw [hps] at h
         cases h
         have e1 := hx (a, q) (by simp) u l1 hq
         have e2 := ihp ts vs l2 (by simpa using hl) (fun x hxx => hx x (by simp [hxx])) hps
         simp only [List.zip_cons_cons, List.flatMap_cons, List.map_append]
         exact e1.append e2
   refine gen _ _ _ _ hl.symm (fun x hx v l h => ?_) hm
   obtain ⟨j, hj⟩ := List.mem_iff_getElem?.1 hx
   obtain ⟨e1, e2⟩ := List.getElem?_zip_eq_some.1 hj
   exact ih _ _ (Q2x hg e1 e2) (hlin.1 x hx) v l h
  ·cases hm
structure W2d (l : List W6) : Prop where
 nd : (l.map (·.var)).Nodup
 rg : ∀ b ∈ l, 0 ≤ b.var ∧ b.var ≤ 5
 ln : l.length ≤ 6
theorem Z13 {w : List Q3} {d : Nat} {t : Q2} {p : Q0} (g : Q16 w d t p = true) (l : linD w d t p = true) {v : Q6} {r : List W6} (h : W7 d p v = some r) : W2d r := by
 have hp := X7c d t p g l v r h
 have hd := Q5a d t p g l
 simp only [Q1g, decide_eq_true_eq] at hd
 refine ⟨hp.nodup_iff.2 hd, fun b hb => ?_, ?_⟩
 ·obtain ⟨y, hy, e⟩ := List.mem_map.1 (hp.mem_iff.1 (List.mem_map_of_mem hb))
  have := Z2t d t p g y hy
  omega
 ·have h1 := hp.length_eq
  have h2 := W3c g l
  simp only [List.length_map] at h1
  omega
def Q69 (g : Q40) (l : List W6) : Bool := decide (g.op = 0) || match l.find? fun b => decide (b.var = g.var) with
 | none => false
 | some b => decide (b.value.ctor = -1) && ((decide (g.op = 1) && decide (b.value.n < g.n)) || (decide (g.op = 2) && decide (b.value.n = g.n)))
theorem W1i {a b : List W6} (hn : (a.map (·.var)).Nodup) (h : a.Perm b) (v : Int) : a.find? (fun x => decide (x.var = v)) = b.find? (fun x => decide (x.var = v)) := by
 induction h with
 | nil => rfl
 | cons x h ih =>
  rw [List.find?_cons, List.find?_cons]
  split
  ·rfl
  ·exact ih (List.nodup_cons.1 (by simpa using hn)).2
 | swap x y l =>
  simp only [List.map_cons, List.nodup_cons, List.mem_cons, not_or] at hn
  simp only [List.find?_cons]
  by_cases h1 : x.var = v
  ·have h2 : ¬ y.var = v := fun e => hn.1.1 (by omega)
   simp [h1, h2]
  ·simp [h1]
 | trans h1 h2 ih1 ih2 => rw [ih1 hn, ih2 ((h1.map _).nodup_iff.1 hn)]
theorem X3q {a b : List W6} (hn : (a.map (·.var)).Nodup) (h : a.Perm b) (g : Q40) : Q69 g a = Q69 g b := by
 unfold Q69
 rw [W1i hn h]
theorem X3p {l : List W6} (h : W2d l) (g : Q40) : Q69 g (Q9e l) = Q69 g l := (X3q h.nd (Q7z h.rg).symm g).symm
def runD (v : Q6) : Nat → List Z5 → Option (Nat × List W6)
 | _, [] => none
 | k, c :: cs => match W7 10 c.pat v with
  | none => runD v (k + 1) cs
  | some l => if Q69 c.guard l = true then some (k, Q9e l) else runD v (k + 1) cs
def runR : Option (Nat × List W6) → Int × List W6
 | none => (-1, [])
 | some x => ((x.1 : Int), x.2)
end Go.Proofs.YtnackipaoepmfaaGreat
namespace Go.Proofs.YtnackipaoepmfaaGreat
open Go Go.RowKit
theorem W7i {l : List W6} (hn : (l.map (·.var)).Nodup) {x y : W6} (hx : x ∈ l) (hy : y ∈ l) (h : x.var = y.var) : x = y := by
 induction l with
 | nil => cases hx
 | cons a l ih =>
  simp only [List.map_cons, List.nodup_cons, List.mem_map, not_exists, not_and] at hn
  rcases List.mem_cons.1 hx with h1 | h1
  ·rcases List.mem_cons.1 hy with h2 | h2
   ·rw [h1, h2]
   ·exact absurd (by rw [← h1]; exact h.symm) (hn.1 y h2)
  ·rcases List.mem_cons.1 hy with h2 | h2
   ·exact absurd (by rw [← h2]; exact h) (hn.1 x h1)
   ·exact ih hn.2 h1 h2
theorem W5d {l : List W6} (hn : (l.map (·.var)).Nodup) {x : W6} {v : Int} (hx : x ∈ l) (h : x.var = v) : l.find? (fun b => decide (b.var = v)) = some x := by
 cases hf : l.find? (fun b => decide (b.var = v)) with
 | none =>
  have := List.find?_eq_none.1 hf x hx
  simp [h] at this
 | some y =>
  have h1 := List.find?_some hf
  have h2 := List.mem_of_find?_eq_some hf
  simp only [decide_eq_true_eq] at h1
  rw [W7i hn h2 hx (by omega)]
theorem X15 (g : Q40) {l : List W6} (hn : (l.map (·.var)).Nodup) : Q26 g l = some (Q69 g l) := by
 suffices hs : Ret (Q26 g l) (fun r => r = Q69 g l) by
  obtain ⟨a, e, rfl⟩ := hs
  exact e
 unfold Q26
 refine Ret.ite (fun h0 => .some ?_) (fun h0 => ?_)
 ·rw [V7] at h0
  simp [Q69, h0]
 rw [Y3] at h0
 refine Ret.bind (Q6t l (fun a0 => Q3j a0 g) (fun b => ieq b.var g.var) (fun _ _ => rfl)) (fun i hi => ?_)
 rcases hi with ⟨k, x, rfl, hx, hxv⟩ | ⟨rfl, hall⟩
 ·rw [if_neg (by rw [V2]; omega), Q3b hx]
  simp only [Option.bind_some]
  rw [V7] at hxv
  have hG : Q69 g l = (ieq x.value.ctor (-1) && ((ieq g.op 1 && ilt x.value.n g.n) || (ieq g.op 2 && ieq x.value.n g.n))) := by
   unfold Q69
   rw [W5d hn (List.mem_of_getElem? hx) hxv, decide_eq_false h0]
   rfl
  rw [hG]
  generalize ieq x.value.ctor (-1) = b1
  generalize ieq g.op 1 = b2
  generalize ilt x.value.n g.n = b3
  generalize ieq g.op 2 = b4
  generalize ieq x.value.n g.n = b5
  cases b1 <;> cases b2 <;> cases b3 <;> cases b4 <;> cases b5 <;> exact .some rfl
 ·refine .some ?_
  have hf : l.find? (fun b => decide (b.var = g.var)) = none := List.find?_eq_none.2 fun x hx => by
   have := hall x hx
   rw [Y3] at this
   simpa using this
  simp [Q69, hf, h0]
def matR : Option (List W6) → List W6 × Bool
 | none => ([], false)
 | some l => (Q9e l, true)
theorem Z76 {w : List Q3} (hw : WW w) {t : Q2} (ht : t ∈ tys w) {p : Q0} (g : Q16 w 10 t p = true) (ln : linD w 10 t p = true) (hc : cntP p ≤ 1000) {e : Nat} {v : Q6} (hv : Q12 w e t v) (he : e ≤ 10) :
  Q3v NN p v = some (matR (W7 10 p v)) := by
 suffices hs : Ret (Q3v NN p v) (fun r => r = matR (W7 10 p v)) by
  obtain ⟨a, e, rfl⟩ := hs
  exact e
 have hdv := Z9a e 10 v he (Z31 hw e t v ht hv)
 unfold Q3v
 refine Ret.bind (W44 hw 10 NN t p v e ht g hv (by decide) hc) (fun r hr => ?_)
 obtain ⟨_, h2, h3⟩ := hr
 cases hm : W7 10 p v with
 | none =>
  rw [hm] at h2
  simp only [Option.isSome_none] at h2
  rw [h2]
  exact .some rfl
 | some l =>
  rw [hm] at h2
  simp only [Option.isSome_some] at h2
  have h1 := h3 l hm
  have hb := Z13 g ln hm
  rw [h2, h1]
  simp only [Bool.not_true, Bool.false_eq_true, if_false]
  rw [W3l (by decide) (by have := hb.ln; omega) hb.nd hb.rg]
  have hpm := Q7z hb.rg
  simp only [Option.bind_some]
  rw [X1z (by simp [hpm.length_eq])]
  simp only [Option.bind_some]
  have hdb : ∀ b ∈ Q9e l, Z4i 10 b.value := fun b hb' => by
   obtain ⟨e', h1, h2⟩ := Z82 10 p 10 v l hdv hm b (hpm.mem_iff.1 hb')
   exact Z9a _ _ _ h1 h2
  rw [show matR (some l) = (Q9e l, true) from rfl]
  generalize Q9e l = r at *
  refine Ret.ctl (Z7 r (fun _ s => s = r) (fun _ => False) (fun s => s = r) rfl (fun k b s hb hI => ?_) (fun s hI => hI)) (fun r hr => hr.elim) (fun s hs => .some (by rw [hs]))
  subst hI
  have hk := (List.getElem?_eq_some_iff.1 hb).1
  have hy : s[k]? = some s[k] := by simp
  rw [Q3b hy]
  simp only [Option.bind_some]
  rw [Z5f 10 NN _ (hdb _ (List.mem_of_getElem? hy)) (by decide)]
  simp only [Option.bind_some]
  rw [X2v (by omega) (by omega)]
  refine .some ?_
  exact List.set_getElem_self (as := s) (i := k) hk
theorem X4g {α : Type} {l : List α} {k : Nat} {x : α} (h : l[k]? = some x) : l.drop k = x :: l.drop (k + 1) := by
 obtain ⟨hk, rfl⟩ := List.getElem?_eq_some_iff.1 h
 exact List.drop_eq_getElem_cons hk
theorem X7f {w : List Q3} (hw : WW w) {t : Q2} (ht : t ∈ tys w) {l : List Z5} (hl : ∀ c ∈ l, Q06 w t c.pat = true) {e : Nat} {v : Q6} (hv : Q12 w e t v) (he : e ≤ 10) :
  Q6s NN l v = some (runR (runD v 0 l)) := by
 suffices hs : Ret (Q6s NN l v) (fun r => r = runR (runD v 0 l)) by
  obtain ⟨a, e, rfl⟩ := hs
  exact e
 unfold Q6s
 refine Ret.ctl (Z7 l (fun k _ => runD v 0 l = runD v k (l.drop k)) (fun r : Int × List W6 => r = runR (runD v 0 l)) (fun _ => runD v 0 l = none) rfl (fun k c s hc hI => ?_) (fun s hI => by rw [hI, List.drop_length]; rfl)) (fun r hr => .some hr) (fun s hs => .some (by rw [hs]; rfl))
 obtain ⟨g, c1, ln⟩ := Q0x (hl c (List.mem_of_getElem? hc))
 rw [X4g hc] at hI
 simp only [runD] at hI
 rw [Z76 hw ht g ln (by omega) hv he]
 simp only [Option.bind_some]
 cases hm : W7 10 c.pat v with
 | none =>
  simp only [hm] at hI
  simp only [matR, Bool.false_eq_true, if_false, Option.bind_some]
  exact .some hI
 | some r =>
  simp only [hm] at hI
  have hb := Z13 g ln hm
  have hn : ((Q9e r).map (·.var)).Nodup := ((Q7z hb.rg).map _).nodup_iff.2 hb.nd
  simp only [matR, if_true]
  rw [X15 _ hn, X3p hb]
  simp only [Option.bind_some]
  cases hg : Q69 c.guard r with
  | true =>
   rw [hg] at hI
   simp only [if_true, Option.bind_some] at hI ⊢
   exact .some (by simp only [W3n]; rw [hI]; rfl)
  | false =>
   rw [hg] at hI
   simp only [Bool.false_eq_true, if_false, Option.bind_some] at hI ⊢
   exact .some hI
end Go.Proofs.YtnackipaoepmfaaGreat
namespace Go.Proofs.YtnackipaoepmfaaGreat
open Go Go.RowKit
def cntV : Q6 → Nat
 | ⟨_, _, kids⟩ => 1 + cntVs kids
where cntVs : List Q6 → Nat
 | [] => 0
 | v :: l => cntV v + cntVs l
theorem Z9c (v : Q6) : cntV v = 1 + cntV.cntVs v.kids := by cases v; rw [cntV]
theorem Z3f : ∀ (l : List Q6) (k : Nat) (q : Q6), l[k]? = some q → cntV.cntVs (l.take (k + 1)) = cntV.cntVs (l.take k) + cntV q
 | [], k, q, h => by simp at h
 | p :: l, 0, q, h => by simp at h; subst h; simp [cntV.cntVs]
 | p :: l, k + 1, q, h => by
  have := Z3f l k q (by simpa using h)
  simp only [List.take_succ_cons, cntV.cntVs]
  omega
theorem Z2k : ∀ (l : List Q6) (k : Nat), cntV.cntVs (l.take k) ≤ cntV.cntVs l
 | [], k => by simp
 | p :: l, 0 => by simp [cntV.cntVs]
 | p :: l, k + 1 => by
  have := Z2k l k
  simp only [List.take_succ_cons, cntV.cntVs]
  omega
def Q5p (w : List Q3) : Nat → Q2 → Q6 → Bool
 | 0, _, _ => false
 | d + 1, t, v => if t.data = -1 then decide (v.ctor = -1) && (decide (0 ≤ v.n) && (decide (v.n ≤ 9) && decide (v.kids.length = 0)))
  else decide (v.n = 0) && (decide (v.ctor ∈ Z9 w t) && (decide (v.kids.length = (Z4 w t v.ctor).length) && ((Z4 w t v.ctor).zip v.kids).all fun x => Q5p w d x.1 x.2))
theorem Z32 {w : List Q3} : ∀ (d : Nat) (t : Q2) (v : Q6), Q5p w d t v = true ↔ Q12 w d t v := by
 intro d
 induction d with
 | zero => intro t v; simp [Q5p, Q12]
 | succ d ih =>
  intro t v
  rw [Q5p, Q12]
  split
  ·simp only [Bool.and_eq_true, decide_eq_true_eq, List.length_eq_zero_iff]
  ·simp only [Bool.and_eq_true, decide_eq_true_eq, List.all_eq_true]
   constructor
   ·rintro ⟨h1, h2, h3, h4⟩
    exact ⟨h1, h2, h3, fun j a x ha hx => (ih a x).1 (h4 (a, x) (List.mem_of_getElem? (Q99 ha hx)))⟩
   ·rintro ⟨h1, h2, h3, h4⟩
    refine ⟨h1, h2, h3, fun x hx => ?_⟩
    obtain ⟨j, hj⟩ := List.mem_iff_getElem?.1 hx
    obtain ⟨e1, e2⟩ := List.getElem?_zip_eq_some.1 hj
    exact (ih _ _).2 (h4 j _ _ e1 e2)
def okV (w : List Q3) (d : Nat) (t : Q2) (v : Q6) (c : Nat) : Bool := Q5p w d t v && decide (c + cntV v ≤ 60)
def Q9b (w : List Q3) (t : Q2) (v : Q6) : Bool := Q5p w 10 t v && decide (cntV v ≤ 60)
theorem X2o {w : List Q3} {t : Q2} {v : Q6} (h : Q9b w t v = true) : Q12 w 10 t v := by
 simp only [Q9b, Bool.and_eq_true] at h
 exact (Z32 10 t v).1 h.1
theorem W0d {w : List Q3} {d : Nat} {t : Q2} {v : Q6} {c : Nat} (h : Q5p w d t v = false) : okV w d t v c = false := by simp [okV, h]
theorem V0e {w : List Q3} (hw : WW w) : ∀ (d n : Nat) (t : Q2) (v : Q6) (c : Nat), t ∈ tys w → c ≤ 60 → d + 2 ≤ n → d ≤ 10 →
  Ret (Q1t n w t v (11 - (d : Int)) false (c : Int)) (fun r => r.1 = okV w d t v c ∧ (okV w d t v c = true → r.2 = ((c + cntV v : Nat) : Int))) := by
 intro d
 induction d with
 | zero =>
  intro n t v c ht hc hn hd
  obtain ⟨n, rfl⟩ : ∃ k, n = k + 1 := ⟨n - 1, by omega⟩
  have hb : okV w 0 t v c = false := W0d rfl
  unfold Q1t
  refine Ret.ite (fun _ => .some ⟨hb.symm, fun h => by rw [hb] at h; cases h⟩) (fun _ => ?_)
  rw [if_pos (by rw [V2]; omega)]
  exact .some ⟨hb.symm, fun h => by rw [hb] at h; cases h⟩
 | succ d ih =>
  intro n t v c ht hc hn hd
  obtain ⟨n, rfl⟩ : ∃ k, n = k + 1 := ⟨n - 1, by omega⟩
  have hT := hw.ty t ht
  unfold Q1t
  have hc1 : wadd .i64 (c : Int) 1 = ((c + 1 : Nat) : Int) := by rw [Q18] <;> omega
  rw [hc1]
  have hpos : 1 ≤ cntV v := by rw [Z9c]; omega
  refine Ret.ite (fun hlt => ?_) (fun hle => ?_)
  ·rw [V2] at hlt
   have hb : okV w (d + 1) t v c = false := by simp only [okV, Bool.and_eq_false_iff, decide_eq_false_iff_not]; right; omega
   exact .some ⟨hb.symm, fun h => by rw [hb] at h; cases h⟩
  rw [Q02] at hle
  rw [if_neg (by rw [V2]; omega), if_neg (by simp)]
  have bad : Q5p w (d + 1) t v = false → okV w (d + 1) t v c = false := W0d
  refine Ret.ctl (R := fun r : Bool × Int => r.1 = okV w (d + 1) t v c ∧ (okV w (d + 1) t v c = true → r.2 = ((c + cntV v : Nat) : Int))) (B := fun _ : Unit => t.data ≠ -1 ∧ v.n = 0 ∧ v.ctor ∈ Z9 w t) ?_ (fun r hr => .some hr) (fun s hs => ?_)
  ·refine Ret.ite (fun hi => ?_) (fun hi => ?_)
   ·rw [V7] at hi
    have hg : Q5p w (d + 1) t v = (decide (v.ctor = -1) && (decide (0 ≤ v.n) && (decide (v.n ≤ 9) && decide (v.kids.length = 0)))) := by rw [Q5p, if_pos hi]
    refine Ret.ite (fun h1 => ?_) (fun h1 => ?_)
    ·rw [V7] at h1
     rw [Q9a]
     simp only [Option.bind_some]
     refine Ret.ite (fun h2 => ?_) (fun h2 => ?_)
     ·simp only [Bool.and_eq_true, decide_eq_true_eq] at h2
      have hk : Q5p w (d + 1) t v = decide (v.kids.length = 0) := by rw [hg]; simp [h1, h2.1, h2.2]
      refine .some ?_
      have h0 : v.kids.length = 0 → cntV v = 1 := fun h => by rw [Z9c, List.eq_nil_of_length_eq_zero h]; rfl
      by_cases hz : v.kids.length = 0
      ·have e1 : okV w (d + 1) t v c = true := by simp only [okV, hk, hz, decide_true, Bool.true_and, decide_eq_true_eq]; have := h0 hz; omega
       rw [e1]
       refine ⟨?_, fun _ => ?_⟩
       ·simp only [V7, lenZ]; omega
       ·have := h0 hz; simp only; omega
      ·have e1 : okV w (d + 1) t v c = false := bad (by rw [hk]; simp [hz])
       rw [e1]
       refine ⟨?_, fun h => by cases h⟩
       simp only [Y3, lenZ]; omega
     ·have e1 : okV w (d + 1) t v c = false := bad (by
       rw [hg]
       simp only [Bool.and_eq_false_iff, decide_eq_false_iff_not] at h2 ⊢
       rcases h2 with h2 | h2
       ·exact .inr (.inl h2)
       ·exact .inr (.inr (.inl h2)))
      exact .some ⟨e1.symm, fun h => by rw [e1] at h; cases h⟩
    ·rw [Y3] at h1
     have e1 : okV w (d + 1) t v c = false := bad (by rw [hg]; simp [h1])
     exact .some ⟨e1.symm, fun h => by rw [e1] at h; cases h⟩
   ·rw [Y3] at hi
    have hg : Q5p w (d + 1) t v = (decide (v.n = 0) && (decide (v.ctor ∈ Z9 w t) && (decide (v.kids.length = (Z4 w t v.ctor).length) && ((Z4 w t v.ctor).zip v.kids).all fun x => Q5p w d x.1 x.2))) := by rw [Q5p, if_neg hi]
    refine Ret.ite (fun h1 => ?_) (fun h1 => ?_)
    ·rw [Bool.not_eq_true', Y3] at h1
     have e1 : okV w (d + 1) t v c = false := bad (by rw [hg]; simp [h1])
     exact .some ⟨e1.symm, fun h => by rw [e1] at h; cases h⟩
    rw [Bool.not_eq_false', V7] at h1
    rw [hT.c2]
    simp only [Option.bind_some]
    rw [Z02]
    simp only [Option.bind_some]
    refine Ret.ite (fun h2 => ?_) (fun h2 => ?_)
    ·rw [Bool.not_eq_true', decide_eq_false_iff_not] at h2
     have e1 : okV w (d + 1) t v c = false := bad (by rw [hg]; simp [h2])
     exact .some ⟨e1.symm, fun h => by rw [e1] at h; cases h⟩
    rw [Bool.not_eq_false', decide_eq_true_eq] at h2
    exact .some ⟨hi, h1, h2⟩
  ·obtain ⟨s1, s2, s3⟩ := hs
   have hg : Q5p w (d + 1) t v = (decide (v.kids.length = (Z4 w t v.ctor).length) && ((Z4 w t v.ctor).zip v.kids).all fun x => Q5p w d x.1 x.2) := by rw [Q5p, if_neg s1]; simp [s2, s3]
   rw [hT.a2 _ s3]
   simp only [Option.bind_some]
   refine Ret.ite (fun hl => ?_) (fun hl => ?_)
   ·rw [Bool.not_eq_true', Y3] at hl
    simp only [lenZ] at hl
    have e1 : okV w (d + 1) t v c = false := bad (by rw [hg]; simp only [Bool.and_eq_false_iff, decide_eq_false_iff_not]; left; omega)
    exact .some ⟨e1.symm, fun h => by rw [e1] at h; cases h⟩
   rw [Bool.not_eq_false', V7] at hl
   simp only [lenZ] at hl
   have hcv := Z9c v
   refine Ret.ctl (Z7 v.kids (fun k s => s = ((c + 1 + cntV.cntVs (v.kids.take k) : Nat) : Int) ∧ c + 1 + cntV.cntVs (v.kids.take k) ≤ 60 ∧ ∀ (j : Nat) (a : Q2) (x : Q6), j < k → (Z4 w t v.ctor)[j]? = some a → v.kids[j]? = some x → Q5p w d a x = true) (fun r : Bool × Int => r.1 = okV w (d + 1) t v c ∧ (okV w (d + 1) t v c = true → r.2 = ((c + cntV v : Nat) : Int))) (fun s => s = ((c + cntV v : Nat) : Int) ∧ okV w (d + 1) t v c = true) ⟨by simp [cntV.cntVs], by simp only [List.take_zero, cntV.cntVs]; omega, fun j a x hj => by omega⟩ (fun k x s hx hI => ?_) (fun s hI => ?_)) (fun r hr => .some hr) (fun s hs => .some ⟨hs.2.symm, fun _ => hs.1⟩)
   ·obtain ⟨rfl, i2, i3⟩ := hI
    have hk := (List.getElem?_eq_some_iff.1 hx).1
    have ha : (Z4 w t v.ctor)[k]? = some ((Z4 w t v.ctor)[k]'(by omega)) := by simp
    rw [Q3b ha]
    simp only [Option.bind_some]
    have hdd : wadd .i64 (11 - ((d + 1 : Nat) : Int)) 1 = 11 - (d : Int) := by rw [Q18] <;> omega
    rw [hdd]
    refine Ret.bind (ih n _ x _ (hT.at_ _ s3 _ (List.mem_of_getElem? ha)) i2 (by omega) (by omega)) (fun r hr => ?_)
    obtain ⟨r1, r2⟩ := hr
    have htk := Z3f v.kids k x hx
    refine Ret.ite (fun h => ?_) (fun h => ?_)
    ·rw [Bool.not_eq_true', r1] at h
     have e1 : okV w (d + 1) t v c = false := by
      simp only [okV, Bool.and_eq_false_iff, decide_eq_false_iff_not] at h ⊢
      rcases h with h | h
      ·left
       rw [hg, Bool.and_eq_false_iff]
       right
       rw [List.all_eq_false]
       exact ⟨_, List.mem_of_getElem? (Q99 ha hx), by simp [h]⟩
      ·right
       have := Z2k v.kids (k + 1)
       omega
     exact .some ⟨e1.symm, fun h => by rw [e1] at h; cases h⟩
    ·rw [Bool.not_eq_false', r1] at h
     have r3 := r2 h
     simp only [okV, Bool.and_eq_true, decide_eq_true_eq] at h
     refine .some ⟨?_, by omega, fun j a y hj h1 h2 => ?_⟩
     ·rw [r3]; omega
     ·by_cases hjk : j = k
      ·subst hjk
       rw [ha] at h1
       rw [hx] at h2
       cases h1
       cases h2
       exact h.1
      ·exact i3 j a y (by omega) h1 h2
   ·obtain ⟨rfl, i2, i3⟩ := hI
    rw [List.take_length] at i2 ⊢
    refine ⟨by omega, ?_⟩
    simp only [okV, Bool.and_eq_true, decide_eq_true_eq]
    refine ⟨?_, by omega⟩
    rw [hg]
    simp only [Bool.and_eq_true, decide_eq_true_eq, List.all_eq_true]
    refine ⟨by omega, fun y hy => ?_⟩
    obtain ⟨j, hj⟩ := List.mem_iff_getElem?.1 hy
    obtain ⟨e1, e2⟩ := List.getElem?_zip_eq_some.1 hj
    exact i3 j _ _ (List.getElem?_eq_some_iff.1 e2).1 e1 e2
theorem X12 {w : List Q3} (hw : WW w) {t : Q2} (ht : t ∈ tys w) (v : Q6) : Q3u NN w t v = some (Q9b w t v) := by
 suffices hs : Ret (Q3u NN w t v) (fun r => r = Q9b w t v) by
  obtain ⟨a, e, rfl⟩ := hs
  exact e
 unfold Q3u
 refine Ret.bind (V0e hw 10 NN t v 0 ht (by omega) (by decide) (by omega)) (fun r hr => .some ?_)
 rw [hr.1]
 simp [okV, Q9b]
theorem W5u {w : List Q3} (hw : WW w) : ∀ (d : Nat) (t : Q2) (v : Q6), t ∈ tys w → Q12 w d t v → 2 * cntV v + 1 ≤ 3 ^ d := by
 intro d
 induction d with
 | zero => intro t v _ h; exact h.elim
 | succ d ih =>
  intro t v ht h
  have hT := hw.ty t ht
  have hcv := Z9c v
  have hp : 3 ≤ 3 ^ (d + 1) := by
   have := Nat.one_le_two_pow (n := d)
   have h3 : 1 ≤ 3 ^ d := Nat.one_le_pow _ _ (by omega)
   rw [Nat.pow_succ]; omega
  simp only [Q12] at h
  split at h
  ·obtain ⟨_, _, _, h4⟩ := h
   rw [h4] at hcv
   simp only [cntV.cntVs] at hcv
   omega
  ·obtain ⟨_, h2, h3, h4⟩ := h
   have hal := hT.al _ h2
   have key : ∀ k, k ≤ v.kids.length → 2 * cntV.cntVs (v.kids.take k) + k ≤ k * 3 ^ d := by
    intro k
    induction k with
    | zero => intro _; simp [cntV.cntVs]
    | succ k ihk =>
     intro hk
     have hx : v.kids[k]? = some (v.kids[k]'(by omega)) := by simp
     have ha : (Z4 w t v.ctor)[k]? = some ((Z4 w t v.ctor)[k]'(by omega)) := by simp
     have h5 := ih _ _ (hT.at_ _ h2 _ (List.mem_of_getElem? ha)) (h4 k _ _ ha hx)
     have h6 := ihk (by omega)
     rw [Z3f _ _ _ hx]
     have e : (k + 1) * 3 ^ d = k * 3 ^ d + 3 ^ d := Nat.succ_mul _ _
     omega
   have h7 := key v.kids.length (Nat.le_refl _)
   rw [List.take_length] at h7
   have h8 : v.kids.length * 3 ^ d ≤ 3 * 3 ^ d := Nat.mul_le_mul_right _ (by omega)
   rw [Nat.pow_succ]
   by_cases h0 : v.kids.length = 0
   ·rw [List.eq_nil_of_length_eq_zero h0] at hcv
    simp only [cntV.cntVs] at hcv
    rw [Nat.pow_succ] at hp
    omega
   ·have h9 : v.kids.length = 1 ∨ v.kids.length = 2 ∨ v.kids.length = 3 := by omega
    have h3d : 1 ≤ 3 ^ d := Nat.one_le_pow _ _ (by omega)
    rcases h9 with h9 | h9 | h9 <;> rw [h9] at h7 <;> omega
theorem Z0c {w : List Q3} : ∀ (d e : Nat) (t : Q2) (v : Q6), d ≤ e → Q12 w d t v → Q12 w e t v := by
 intro d
 induction d with
 | zero => intro e t v _ h; exact h.elim
 | succ d ih =>
  intro e t v he h
  obtain ⟨e, rfl⟩ : ∃ k, e = k + 1 := ⟨e - 1, by omega⟩
  rw [Q12] at h ⊢
  split
  ·rename_i hd; rw [if_pos hd] at h; exact h
  ·rename_i hd
   rw [if_neg hd] at h
   exact ⟨h.1, h.2.1, h.2.2.1, fun j a x ha hx => ih e a x (by omega) (h.2.2.2 j a x ha hx)⟩
theorem X0f {w : List Q3} (hw : WW w) {d : Nat} (hd : d ≤ 4) {t : Q2} {v : Q6} (ht : t ∈ tys w) (h : Q12 w d t v) : Q9b w t v = true := by
 have h1 := Z0c d 4 t v hd h
 have h2 := W5u hw 4 t v ht h1
 simp only [Q9b, Bool.and_eq_true, decide_eq_true_eq]
 exact ⟨(Z32 10 t v).2 (Z0c 4 10 t v (by omega) h1), by omega⟩
end Go.Proofs.YtnackipaoepmfaaGreat
namespace Go.Proofs.YtnackipaoepmfaaGreat
open Go Go.RowKit
def tupV (out : List (List Q6)) (l : List Q6) : List (List Q6) := out.flatMap fun q => l.map fun c => q ++ [c]
def mkV (c : Int) (ks : List Q6) : Q6 := Q6.mk c 0 ks
def numV (n : Nat) : Q6 := Q6.mk (-1) (n : Int) []
def Q1x (w : List Q3) : Nat → Q2 → List Q6
 | 0, _ => []
 | d + 1, t => if t.data = -1 then (List.range 10).map numV else (Z9 w t).flatMap fun c => (((Z4 w t c).map (Q1x w d)).foldl tupV [[]]).map (mkV c)
theorem Z1f (out : List (List Q6)) (l : List Q6) : (tupV out l).length = out.length * l.length := by
 induction out with
 | nil => simp [tupV]
 | cons q out ih =>
  have e : tupV (q :: out) l = (l.map fun c => q ++ [c]) ++ tupV out l := by simp [tupV]
  rw [e, List.length_append, ih, List.length_map, List.length_cons, Nat.succ_mul]
  omega
theorem X01 : ∀ (ls : List (List Q6)) (out : List (List Q6)), (out = [] ∨ [] ∈ ls) → ls.foldl tupV out = []
 | [], out, h => by
  rcases h with h | h
  ·exact h
  ·cases h
 | l :: ls, out, h => by
  rw [List.foldl_cons]
  refine X01 ls _ ?_
  rcases h with rfl | h
  ·left; simp [tupV]
  ·rcases List.mem_cons.1 h with rfl | h
   ·left; simp [tupV]
   ·right; exact h
theorem Z8k : ∀ (ls : List (List Q6)) (out : List (List Q6)), (∀ l ∈ ls, l ≠ []) → out.length ≤ (ls.foldl tupV out).length
 | [], _, _ => Nat.le_refl _
 | l :: ls, out, h => by
  rw [List.foldl_cons]
  have h1 := Z8k ls (tupV out l) fun x hx => h x (by simp [hx])
  rw [Z1f] at h1
  have h2 : 1 ≤ l.length := List.length_pos_iff.2 (h l (by simp))
  exact Nat.le_trans (Nat.le_mul_of_pos_right _ h2) h1
theorem Z7j {ls : List (List Q6)} (h : ∀ l ∈ ls, l ≠ []) (k : Nat) : ((ls.take k).foldl tupV [[]]).length ≤ (ls.foldl tupV [[]]).length := by
 rw [← List.take_append_drop k ls, List.foldl_append, List.take_append_drop]
 exact Z8k _ _ fun l hl => h l (List.mem_of_mem_drop hl)
theorem Z2u {ls : List (List Q6)} {k : Nat} {l : List Q6} (h : ls[k]? = some l) : (ls.take (k + 1)).foldl tupV [[]] = tupV ((ls.take k).foldl tupV [[]]) l := by
 rw [List.take_add_one, h]; simp
theorem X9e {ls : List (List Q6)} (h : ∀ l ∈ ls, l ≠ []) : 1 ≤ (ls.foldl tupV [[]]).length := Z8k ls [[]] h
theorem Q9c : ∀ (ls : List (List Q6)) (out : List (List Q6)) (ks : List Q6), ks ∈ ls.foldl tupV out →
  ∃ a b, a ∈ out ∧ ks = a ++ b ∧ b.length = ls.length ∧ ∀ (i : Nat) (q : Q6) (l : List Q6), b[i]? = some q → ls[i]? = some l → q ∈ l
 | [], out, ks, h => ⟨ks, [], by simpa using h, by simp, rfl, by simp⟩
 | l :: ls, out, ks, h => by
  rw [List.foldl_cons] at h
  obtain ⟨a, b, ha, rfl, hl, hb⟩ := Q9c ls (tupV out l) ks h
  simp only [tupV, List.mem_flatMap, List.mem_map] at ha
  obtain ⟨a0, h0, c, hc, rfl⟩ := ha
  refine ⟨a0, c :: b, h0, by simp, by simp [hl], fun i q m h1 h2 => ?_⟩
  cases i with
  | zero => simp at h1 h2; subst h1 h2; exact hc
  | succ i => exact hb i q m (by simpa using h1) (by simpa using h2)
theorem Z9z {w : List Q3} : ∀ (d : Nat) (t : Q2) (v : Q6), v ∈ Q1x w d t → Q12 w d t v := by
 intro d
 induction d with
 | zero => intro t v h; simp [Q1x] at h
 | succ d ih =>
  intro t v h
  rw [Q1x] at h
  rw [Q12]
  split
  ·rename_i hd
   rw [if_pos hd] at h
   obtain ⟨n, hn, rfl⟩ := List.mem_map.1 h
   have := List.mem_range.1 hn
   exact ⟨rfl, by simp only [numV]; omega, by simp only [numV]; omega, rfl⟩
  ·rename_i hd
   rw [if_neg hd] at h
   obtain ⟨c, hc, h⟩ := List.mem_flatMap.1 h
   obtain ⟨ks, hks, rfl⟩ := List.mem_map.1 h
   obtain ⟨a, b, ha, rfl, hl, hb⟩ := Q9c _ _ _ hks
   simp only [List.mem_singleton] at ha
   subst ha
   simp only [List.length_map] at hl
   refine ⟨rfl, hc, by simp [mkV, hl], fun j u x hu hx => ih u x ?_⟩
   simp only [mkV] at hu hx
   exact hb j x (Q1x w d u) (by simpa using hx) (by rw [List.getElem?_map, hu]; rfl)
theorem W42 {a b m : Nat} : min (min a m * min b m) m = min (a * b) m := by
 rcases Nat.eq_zero_or_pos a with rfl | ha
 ·simp
 rcases Nat.eq_zero_or_pos b with rfl | hb
 ·simp
 rcases Nat.le_total a m with h1 | h1 <;> rcases Nat.le_total b m with h2 | h2
 ·rw [Nat.min_eq_left h1, Nat.min_eq_left h2]
 ·rw [Nat.min_eq_left h1, Nat.min_eq_right h2, Nat.min_eq_right, Nat.min_eq_right]
  ·exact Nat.le_trans h2 (Nat.le_mul_of_pos_left _ ha)
  ·exact Nat.le_mul_of_pos_left _ ha
 ·rw [Nat.min_eq_right h1, Nat.min_eq_left h2, Nat.min_eq_right, Nat.min_eq_right]
  ·exact Nat.le_trans h1 (Nat.le_mul_of_pos_right _ hb)
  ·exact Nat.le_mul_of_pos_right _ hb
 ·rw [Nat.min_eq_right h1, Nat.min_eq_right h2]
  rcases Nat.eq_zero_or_pos m with rfl | hm
  ·simp
  ·rw [Nat.min_eq_right (Nat.le_mul_of_pos_left _ hm), Nat.min_eq_right (Nat.le_trans h2 (Nat.le_mul_of_pos_left _ ha))]
theorem X5m (a b : Nat) : imin (a : Int) (b : Int) = ((min a b : Nat) : Int) := by
 unfold imin
 split <;> omega
theorem X1y {w : List Q3} (hw : WW w) : ∀ (d n : Nat) (t : Q2), t ∈ tys w → d + 2 ≤ n → d ≤ 100 → Q01 n w t (d : Int) = some ((min (Q1x w d t).length 401 : Nat) : Int) := by
 intro d
 induction d with
 | zero =>
  intro n t ht hn _
  obtain ⟨n, rfl⟩ : ∃ k, n = k + 1 := ⟨n - 1, by omega⟩
  unfold Q01
  rw [if_pos (by simp [ieq])]
  rfl
 | succ d ih =>
  intro n t ht hn hd
  obtain ⟨n, rfl⟩ : ∃ k, n = k + 1 := ⟨n - 1, by omega⟩
  have hT := hw.ty t ht
  suffices hs : Ret (Q01 (n + 1) w t ((d + 1 : Nat) : Int)) (fun a => a = ((min (Q1x w (d + 1) t).length 401 : Nat) : Int)) by
   obtain ⟨a, e, rfl⟩ := hs
   exact e
  unfold Q01
  rw [if_neg (by rw [V7]; omega)]
  have e1 : wsub .i64 ((d + 1 : Nat) : Int) 1 = (d : Int) := by rw [Q4z] <;> omega
  rw [e1]
  by_cases hi : t.data = -1
  ·rw [if_pos (by rw [V7]; exact hi)]
   refine .some ?_
   simp [Q1x, hi]
  ·rw [if_neg (by rw [V7]; exact hi), hT.c2]
   simp only [Option.bind_some]
   have hv : Q1x w (d + 1) t = (Z9 w t).flatMap fun c => (((Z4 w t c).map (Q1x w d)).foldl tupV [[]]).map (mkV c) := by rw [Q1x, if_neg hi]
   rw [hv]
   generalize hF : (fun c => (((Z4 w t c).map (Q1x w d)).foldl tupV [[]]).map (mkV c)) = F
   refine Ret.ctl (Z7 (Z9 w t) (fun i s => s = ((min (((Z9 w t).take i).flatMap F).length 401 : Nat) : Int)) (fun _ => False) (fun s => s = ((min ((Z9 w t).flatMap F).length 401 : Nat) : Int)) (by simp) (fun i c s hc hI => ?_) (fun s hI => by rw [hI, List.take_length])) (fun r hr => hr.elim) (fun s hs => .some hs)
   have hcm := List.mem_of_getElem? hc
   rw [hT.a2 _ hcm]
   simp only [Option.bind_some]
   refine Ret.ctl (Z7 (Z4 w t c) (fun k s => s = ((min ((((Z4 w t c).map (Q1x w d)).take k).foldl tupV [[]]).length 401 : Nat) : Int)) (fun _ => False) (fun s => s = ((min (F c).length 401 : Nat) : Int)) (by simp) (fun k a u ha hJ => ?_) (fun s hJ => ?_)) (fun r hr => hr.elim) (fun u hu => ?_)
   ·rw [ih n a (hT.at_ _ hcm _ (List.mem_of_getElem? ha)) (by omega) (by omega)]
    simp only [Option.bind_some]
    refine .some ?_
    simp only [Q3d]
    rw [Z2u (l := Q1x w d a) (by rw [List.getElem?_map, ha]; rfl), Z1f, hJ]
    generalize ((((Z4 w t c).map (Q1x w d)).take k).foldl tupV [[]]).length = A
    generalize (Q1x w d a).length = B
    have hm : min A 401 * min B 401 ≤ 401 * 401 := Nat.mul_le_mul (Nat.min_le_right _ _) (Nat.min_le_right _ _)
    have e : ((min A 401 : Nat) : Int) * ((min B 401 : Nat) : Int) = ((min A 401 * min B 401 : Nat) : Int) := by simp
    rw [Z0x (by rw [e]; omega) (by rw [e]; omega), e, show (401 : Int) = ((401 : Nat) : Int) from rfl, X5m, W42]
   ·rw [hJ, List.take_of_length_le (by simp), ← hF, List.length_map]
   ·refine .some ?_
    simp only [Q3d]
    rw [hu, hI, List.take_add_one, hc]
    simp only [Option.toList_some, List.flatMap_append, List.flatMap_cons, List.flatMap_nil, List.append_nil, List.length_append]
    generalize (((Z9 w t).take i).flatMap F).length = A
    generalize (F c).length = B
    rw [Q18 (by omega) (by omega)]
    have e : ((min A 401 : Nat) : Int) + ((min B 401 : Nat) : Int) = ((min A 401 + min B 401 : Nat) : Int) := by omega
    rw [e, show (401 : Int) = ((401 : Nat) : Int) from rfl, X5m]
    congr 1
    omega
theorem X4k (l : List Q6) (h : l.length ≤ Z0) : Q0y l = some l := by
 unfold Q0y
 rw [Y8 (by simpa using h)]
 rfl
theorem Z93 {α β : Type} (l : List α) (F : α → List β) (i : Nat) : ((l.take i).flatMap F).length ≤ (l.flatMap F).length := by
 conv => rhs; rw [← List.take_append_drop i l, List.flatMap_append, List.length_append]
 omega
theorem Z8u {w : List Q3} (hw : WW w) : ∀ (d n : Nat) (t : Q2), t ∈ tys w → d + 20 ≤ n → d ≤ 100 → (Q1x w d t).length ≤ 400 → Q2s n w t (d : Int) = some (Q1x w d t) := by
 intro d
 induction d with
 | zero =>
  intro n t ht hn _ _
  obtain ⟨n, rfl⟩ : ∃ k, n = k + 1 := ⟨n - 1, by omega⟩
  unfold Q2s
  rw [if_pos (by simp [ieq])]
  rfl
 | succ d ih =>
  intro n t ht hn hd hlen
  obtain ⟨n, rfl⟩ : ∃ k, n = k + 1 := ⟨n - 1, by omega⟩
  have hT := hw.ty t ht
  suffices hs : Ret (Q2s (n + 1) w t ((d + 1 : Nat) : Int)) (fun a => a = Q1x w (d + 1) t) by
   obtain ⟨a, e, rfl⟩ := hs
   exact e
  unfold Q2s
  rw [if_neg (by rw [V7]; omega)]
  have e1 : wsub .i64 ((d + 1 : Nat) : Int) 1 = (d : Int) := by rw [Q4z] <;> omega
  rw [e1]
  by_cases hi : t.data = -1
  ·rw [if_pos (by rw [V7]; exact hi)]
   have hv : Q1x w (d + 1) t = (List.range 10).map numV := by rw [Q1x, if_pos hi]
   rw [hv]
   refine Ret.ctl (Q6v (fun s : List Q6 × Int => ∃ k : Nat, k ≤ 10 ∧ s = ((List.range k).map numV, (k : Int))) (fun s => (10 - s.2).toNat) (fun _ => False) (fun s => s.1 = (List.range 10).map numV) ⟨0, by omega, rfl⟩ (fun s hI => ?_) n (by simp; omega)) (fun r hr => hr.elim) (fun s hs => .some hs)
   obtain ⟨k, hk, rfl⟩ := hI
   refine Ret.ite (fun h1 => ?_) (fun h1 => ?_)
   ·rw [V2] at h1
    simp only [Q6k, Option.bind_some]
    rw [Y8 (by simp only [List.length_map, List.length_range, List.length_cons, List.length_nil, Z0]; omega)]
    simp only [Option.bind_some]
    have e2 : wadd .i64 (k : Int) 1 = ((k + 1 : Nat) : Int) := by rw [Q18] <;> omega
    rw [e2]
    refine .some ⟨⟨k + 1, by omega, ?_⟩, by simp only; omega⟩
    rw [List.range_succ, List.map_append]; rfl
   ·rw [Q02] at h1
    refine .some ?_
    simp only at h1
    rw [show k = 10 by omega]
    exact rfl
  ·rw [if_neg (by rw [V7]; exact hi), hT.c2]
   simp only [Option.bind_some]
   have hv : Q1x w (d + 1) t = (Z9 w t).flatMap fun c => (((Z4 w t c).map (Q1x w d)).foldl tupV [[]]).map (mkV c) := by rw [Q1x, if_neg hi]
   rw [hv] at hlen ⊢
   generalize hF : (fun c => (((Z4 w t c).map (Q1x w d)).foldl tupV [[]]).map (mkV c)) = F at *
   refine Ret.ctl (Z7 (Z9 w t) (fun i s => s = ((Z9 w t).take i).flatMap F) (fun _ => False) (fun s => s = (Z9 w t).flatMap F) (by simp) (fun i c s hc hI => ?_) (fun s hI => by rw [hI, List.take_length])) (fun r hr => hr.elim) (fun s hs => .some hs)
   have hcm := List.mem_of_getElem? hc
   have hFc : F c = (((Z4 w t c).map (Q1x w d)).foldl tupV [[]]).map (mkV c) := by rw [← hF]
   have hnext : ((Z9 w t).take (i + 1)).flatMap F = ((Z9 w t).take i).flatMap F ++ F c := by
    rw [List.take_add_one, hc]; simp
   have hle := Z93 (Z9 w t) F (i + 1)
   rw [hnext, List.length_append] at hle
   have hat := hT.at_ _ hcm
   have hal := hT.al _ hcm
   refine Ret.bind (P := CtlQ (fun r : Ctl (List Q6) (List Q6) => RndQ (fun _ => False) (fun s => s = (Z9 w t).flatMap F) (fun s => s = ((Z9 w t).take (i + 1)).flatMap F) r) (fun s => s = ((Z9 w t).take (i + 1)).flatMap F)) ?_ (fun o ho => ?_)
   ·rw [hT.a2 _ hcm]
    simp only [Option.bind_some]
    have hcf : J4 (Z4 w t c) (fun a0 => Q43 n a0 w ((d + 1 : Nat) : Int)) = some ((Z4 w t c).any fun a => decide ((Q1x w d a).length = 0)) := by
     refine Z7i _ _ _ fun a ha => ?_
     unfold Q43
     rw [e1, X1y hw d n a (hat _ ha) (by omega) (by omega)]
     simp only [Option.bind_some, ieq]
     congr 1
     by_cases h0 : (Q1x w d a).length = 0
     ·simp [h0]
     ·rw [decide_eq_false h0, decide_eq_false]; omega
    rw [hcf]
    simp only [Option.bind_some]
    cases hany : (Z4 w t c).any fun a => decide ((Q1x w d a).length = 0) with
    | true =>
     simp only [if_true]
     refine .some ?_
     simp only [X6m]
     rw [hnext, hI]
     obtain ⟨a, ha, h0⟩ := List.any_eq_true.1 hany
     simp only [decide_eq_true_eq] at h0
     have : F c = [] := by
      rw [hFc, X01 _ _ (.inr (List.mem_map.2 ⟨a, ha, List.eq_nil_of_length_eq_zero h0⟩))]; rfl
     rw [this, List.append_nil]
    | false =>
     simp only [Bool.false_eq_true, if_false]
     have hne : ∀ l ∈ (Z4 w t c).map (Q1x w d), l ≠ [] := fun l hl e => by
      obtain ⟨a, ha, rfl⟩ := List.mem_map.1 hl
      have := List.any_eq_false.1 hany a ha
      simp [e] at this
     have hlenF : (F c).length = (((Z4 w t c).map (Q1x w d)).foldl tupV [[]]).length := by rw [hFc, List.length_map]
     refine Ret.ctl (Z7 (Z4 w t c) (fun k s => s = ((((Z4 w t c).map (Q1x w d)).take k).foldl tupV [[]]).map (mkV c)) (fun _ => False) (fun s => s = F c) (by simp [mkV]) (fun k a u ha hJ => ?_) (fun s hJ => by rw [hJ, List.take_of_length_le (by simp), hFc])) (fun r hr => hr.elim) (fun u hu => ?_)
     ·have hk1 := Z7j hne (k + 1)
      have hk0 := Z7j hne k
      have hg : ((Z4 w t c).map (Q1x w d))[k]? = some (Q1x w d a) := by rw [List.getElem?_map, ha]; rfl
      have hp : 1 ≤ ((((Z4 w t c).map (Q1x w d)).take k).foldl tupV [[]]).length := X9e fun l hl => hne l (List.mem_of_mem_take hl)
      have ha1 : 1 ≤ (Q1x w d a).length := List.length_pos_iff.2 (hne _ (List.mem_of_getElem? hg))
      rw [Z2u hg, Z1f] at hk1
      have hva : (Q1x w d a).length ≤ 400 := by
       have := Nat.le_mul_of_pos_left (Q1x w d a).length hp
       omega
      rw [ih n a (hat _ (List.mem_of_getElem? ha)) (by omega) (by omega) hva]
      simp only [Option.bind_some]
      rw [Z2u hg]
      have hkl : ∀ ks ∈ (((Z4 w t c).map (Q1x w d)).take k).foldl tupV [[]], ks.length ≤ 3 := fun ks hks => by
       obtain ⟨x, y, hx, rfl, hl, _⟩ := Q9c _ _ _ hks
       simp only [List.mem_singleton] at hx
       subst hx
       simp only [List.length_take, List.length_map] at hl
       simp only [List.nil_append]
       omega
      generalize ((((Z4 w t c).map (Q1x w d)).take k).foldl tupV [[]]) = T at *
      generalize Q1x w d a = L at *
      refine Ret.ctl (Z7 u (fun j z => z = (tupV (T.take j) L).map (mkV c)) (fun _ => False) (fun z => z = (tupV T L).map (mkV c)) (by simp [tupV]) (fun j x z hx hK => ?_) (fun z hK => by rw [hK, hJ, List.length_map, List.take_length])) (fun r hr => hr.elim) (fun z hz => .some hz)
      rw [hJ, List.getElem?_map] at hx
      obtain ⟨ks, hks, rfl⟩ := Option.map_eq_some_iff.1 hx
      have hjl := (List.getElem?_eq_some_iff.1 hks).1
      have hks3 := hkl ks (List.mem_of_getElem? hks)
      have hnj : tupV (T.take (j + 1)) L = tupV (T.take j) L ++ L.map (fun c => ks ++ [c]) := by
       rw [List.take_add_one, hks]; simp [tupV]
      rw [hnj]
      refine Ret.ctl (Z7 L (fun i v => v = (tupV (T.take j) L ++ (L.take i).map (fun c => ks ++ [c])).map (mkV c)) (fun _ => False) (fun v => v = (tupV (T.take j) L ++ L.map (fun c => ks ++ [c])).map (mkV c)) (by simp [hK]) (fun i y v hy hM => ?_) (fun v hM => by rw [hM, List.take_length])) (fun r hr => hr.elim) (fun v hv => .some hv)
      simp only [mkV]
      rw [X4k _ (by simp only [Z0]; omega)]
      simp only [Option.bind_some]
      rw [Y8 (by simp only [Z0, List.length_cons, List.length_nil]; omega)]
      simp only [Option.bind_some]
      have hil := (List.getElem?_eq_some_iff.1 hy).1
      have hvl : v.length ≤ 1000 * 1000 + 1000 := by
       rw [hM, List.length_map, List.length_append, Z1f, List.length_map, List.length_take, List.length_take]
       have := Nat.mul_le_mul (show min j T.length ≤ 1000 by omega) (show L.length ≤ 1000 by omega)
       omega
      rw [Y8 (by simp only [Z0, List.length_cons, List.length_nil]; omega)]
      refine .some ?_
      simp only [Q3d]
      rw [hM, List.take_add_one, hy]
      simp [mkV]
     ·have hsl : s.length ≤ 400 := by rw [hI]; omega
      dsimp only
      rw [Y8 (by rw [hu]; simp only [Z0]; omega)]
      simp only [Option.bind_some]
      exact .some (by simp only [X6m]; rw [hnext, hI, hu])
   ·cases o with
    | ret r => exact .some ho
    | brk s => exact .some ho
    | go s => exact ho.elim
theorem X3e {w : List Q3} (hw : WW w) {t : Q2} (ht : t ∈ tys w) {d : Nat} (hd : d ≤ 4) : Q0m NN w t (d : Int) = some (if (Q1x w d t).length ≤ 400 then (Q1x w d t, true) else ([], false)) := by
 suffices hs : Ret (Q0m NN w t (d : Int)) (fun r => r = if (Q1x w d t).length ≤ 400 then (Q1x w d t, true) else ([], false)) by
  obtain ⟨a, e, rfl⟩ := hs
  exact e
 unfold Q0m
 rw [Z24 hw ht]
 simp only [Option.bind_some, Bool.not_true, Bool.false_eq_true, if_false]
 rw [Q9a]
 have e0 : (decide ((0 : Int) ≤ (d : Int)) && decide ((d : Int) ≤ 4)) = true := by simp only [Bool.and_eq_true, decide_eq_true_eq]; omega
 rw [e0]
 simp only [Option.bind_some, Bool.not_true, Bool.false_eq_true, if_false]
 rw [X1y hw d NN t ht (by simp only [NN]; omega) (by omega)]
 simp only [Option.bind_some]
 refine Ret.ite (fun h => ?_) (fun h => ?_)
 ·rw [V2] at h
  rw [if_neg (by omega)]
  exact .some rfl
 ·rw [Q02] at h
  have hl : (Q1x w d t).length ≤ 400 := by omega
  rw [if_pos hl, Z8u hw d NN t ht (by simp only [NN]; omega) (by omega) hl]
  simp only [Option.bind_some]
  refine Ret.ctl (Z7 (Q1x w d t) (fun i s => s = (Q1x w d t).take i) (fun _ => False) (fun s => s = Q1x w d t) (by simp) (fun i v s hv hI => ?_) (fun s hI => by rw [hI, List.take_length])) (fun r hr => hr.elim) (fun s hs => .some (by rw [hs]))
  have hg := Z9z d t v (List.mem_of_getElem? hv)
  rw [Z5f d NN v (Z31 hw d t v ht hg) (by simp only [NN]; omega)]
  simp only [Option.bind_some]
  rw [Y8 (by rw [hI]; simp only [List.length_take, List.length_cons, List.length_nil, Z0]; omega)]
  refine .some ?_
  simp only [Q3d]
  rw [hI, List.take_add_one, hv]
  rfl
theorem Z75 {w : List Q3} (hw : WW w) {t : Q2} (ht : t ∈ tys w) {d : Int} (h1 : 1 ≤ d) (h3 : d ≤ 3) : ∃ r, Q0m NN w t d = some r ∧ r.1.length ≤ 400 ∧ ∀ v ∈ r.1, Q9b w t v = true ∧ Q12 w 4 t v := by
 obtain ⟨k, rfl⟩ : ∃ k : Nat, d = (k : Int) := ⟨d.toNat, by omega⟩
 refine ⟨_, X3e hw ht (by omega), ?_, fun v hv => ?_⟩
 ·split
  ·assumption
  ·simp
 ·split at hv
  ·have hg := Z9z k t v hv
   exact ⟨X0f hw (by omega) ht hg, Z0c k 4 t v (by omega) hg⟩
  ·cases hv
end Go.Proofs.YtnackipaoepmfaaGreat
namespace Go.Proofs.YtnackipaoepmfaaGreat
open Go Go.RowKit
theorem rem3 (n : Nat) : ∃ d : Int, wadd .i64 1 (wrem (lenZ n) 3) = d ∧ 1 ≤ d ∧ d ≤ 3 := by
 refine ⟨_, rfl, ?_⟩
 have e : wrem (lenZ n) 3 = ((n % 3 : Nat) : Int) := by
  show Int.tmod _ _ = _
  simp only [lenZ]
  rw [Int.tmod_eq_emod_of_nonneg (by omega)]
  omega
 rw [e, Q18 (by omega) (by omega)]
 omega
theorem Z44 {w : List Q3} {t : Q2} {cs : List Z5} (h : Q5r w t cs = true) : cs.length ≤ 8 ∧ ∀ c ∈ cs, Q06 w t c.pat = true := by
 simp only [Q5r, Bool.and_eq_true, decide_eq_true_eq, List.all_eq_true] at h
 refine ⟨h.1, fun c hc => ?_⟩
 have := h.2 c hc
 simp only [Q4n, Bool.and_eq_true] at this
 exact this.1
def runC (w : List Q3) (t : Q2) (l : List Z5) (v : Q6) : Int × List W6 × Bool :=
 if (Q5r w t l && Q9b w t v) = true then ((runR (runD v 0 l)).1, (runR (runD v 0 l)).2, true) else (-1, [], false)
theorem X5l {w : List Q3} (hw : WW w) {t : Q2} (ht : t ∈ tys w) (l : List Z5) (v : Q6) : Q1b NN w t l v = some (runC w t l v) := by
 unfold Q1b runC
 rw [Z77 hw ht l]
 simp only [Option.bind_some]
 cases hc : Q5r w t l with
 | false => simp
 | true =>
  simp only [Bool.not_true, Bool.false_eq_true, if_false, Bool.true_and]
  rw [X12 hw ht v]
  simp only [Option.bind_some]
  cases hv : Q9b w t v with
  | false => simp
  | true =>
   simp only [Bool.not_true, Bool.false_eq_true, if_false, if_true]
   rw [X7f hw ht (Z44 hc).2 (X2o hv) (by omega)]
   rfl
theorem X9x {w : List Q3} {t : Q2} {l : List Z5} {v : Q6} (hc : Q5r w t l = true) (hv : Q9b w t v = true) : runC w t l v = ((runR (runD v 0 l)).1, (runR (runD v 0 l)).2, true) := by
 unfold runC
 rw [hc, hv]; rfl
theorem Q80 {v : Q6} : ∀ {cs : List Z5} {k : Nat} {x : Nat × List W6}, runD v k cs = some x → ∃ i c b, cs[i]? = some c ∧ x.1 = k + i ∧ W7 10 c.pat v = some b ∧ Q69 c.guard b = true ∧ x.2 = Q9e b ∧ ∀ (j : Nat) (c' : Z5), j < i → cs[j]? = some c' → ∀ b', W7 10 c'.pat v = some b' → Q69 c'.guard b' = false
 | [], _, _, h => by cases h
 | c :: cs, k, x, h => by
  simp only [runD] at h
  cases hm : W7 10 c.pat v with
  | none =>
   rw [hm] at h
   obtain ⟨i, c1, b, h1, h2, h3, h4, h5, h6⟩ := Q80 h
   refine ⟨i + 1, c1, b, by simpa using h1, by omega, h3, h4, h5, fun j c' hj hc' b' hb' => ?_⟩
   cases j with
   | zero => simp only [List.getElem?_cons_zero, Option.some.injEq] at hc'; subst hc'; rw [hm] at hb'; cases hb'
   | succ j => exact h6 j c' (by omega) (by simpa using hc') b' hb'
  | some l =>
   rw [hm] at h
   simp only at h
   split at h
   ·rename_i hg
    cases h
    exact ⟨0, c, l, rfl, rfl, hm, hg, rfl, fun j c' hj => by omega⟩
   ·rename_i hg
    obtain ⟨i, c1, b, h1, h2, h3, h4, h5, h6⟩ := Q80 h
    refine ⟨i + 1, c1, b, by simpa using h1, by omega, h3, h4, h5, fun j c' hj hc' b' hb' => ?_⟩
    cases j with
    | zero => simp only [List.getElem?_cons_zero, Option.some.injEq] at hc'; subst hc'; rw [hm] at hb'; cases hb'; simpa using hg
    | succ j => exact h6 j c' (by omega) (by simpa using hc') b' hb'
theorem V36 {w : List Q3} (hw : WW w) {t : Q2} (ht : t ∈ tys w) {l : List Z5} (hl : ∀ c ∈ l, Q06 w t c.pat = true) {v : Q6} (hv : Q12 w 10 t v) : DB (runR (runD v 0 l)).2 := by
 cases h : runD v 0 l with
 | none => intro b hb; cases hb
 | some x =>
  obtain ⟨i, c, b, h1, _, h3, _, h5, _⟩ := Q80 h
  obtain ⟨g, _, ln⟩ := Q0x (hl c (List.mem_of_getElem? h1))
  have hb := Z13 g ln h3
  intro y hy
  simp only [runR, h5] at hy
  obtain ⟨e', e1, e2⟩ := Z82 10 c.pat 10 v b (Z31 hw 10 t v ht hv) h3 y ((Q7z hb.rg).mem_iff.1 hy)
  exact Z9a _ _ _ e1 e2
end Go.Proofs.YtnackipaoepmfaaGreat
namespace Go.Proofs.YtnackipaoepmfaaGreat
open Go Go.RowKit
theorem X22 {w : List Q3} {d x m : Nat} {t : Q2} (hm : 400 ≤ m) : ∀ (bs l r : List Q0), l.length ≤ m → Q5d w d x t l bs = some r → r.length ≤ m
 | [], l, r, h, e => by simp only [Q5d, Option.some.injEq] at e; subst e; exact h
 | b :: bs, l, r, h, e => by
  simp only [Q5d] at e
  split at e
  ·cases e
  ·exact X22 hm bs _ r (by omega) e
theorem Z3l {w : List Q3} {d x m : Nat} {t : Q2} {l bs r : List Q0} (hm : 400 ≤ m) (h : l.length ≤ m) (e : Q3c w d x t l bs = some r) : r.length ≤ m :=
 X22 hm bs _ r (by have := Z8t w x t l; omega) e
theorem X4v {α : Type} {l : List α} {k : Nat} (h : k ≤ l.length) : Q7f l (k : Int) = some (l.take k) := by
 unfold Q7f
 rw [if_pos ⟨by omega, by omega⟩]
 simp
theorem Z5r {w : List Q3} (hww : w ∈ Q1v) (hw : WW w) (he : WE w) {t : Q2} (ht : t ∈ tys w) {ps : List Q0} (hp : ∀ p ∈ ps, Z3 w 10 t p ∧ cntP p ≤ 130) (hl : ps.length ≤ 1600) :
  Q0d NN ⟨w, dimP w⟩ t ps = some (optR (sepP w t [] ps)) := by
 suffices hs : Ret (Q0d NN ⟨w, dimP w⟩ t ps) (fun r => r = optR (sepP w t [] ps)) by
  obtain ⟨a, e, rfl⟩ := hs
  exact e
 unfold Q0d
 refine Ret.ctl (Z7 ps (fun k s => s.length ≤ 400 * k ∧ sepP w t [] ps = (sepP w t (ps.take k) (ps.drop k)).map (s ++ ·)) (fun r => r = ([], false) ∧ sepP w t [] ps = none) (fun s => sepP w t [] ps = some s) ⟨by simp, by simp⟩ (fun k p s hp' hI => ?_) (fun s hI => ?_)) (fun r hr => .some (by rw [hr.1, hr.2]; rfl)) (fun s hs => .some (by rw [hs]; rfl))
 ·obtain ⟨hsl, hI⟩ := hI
  have hk := (List.getElem?_eq_some_iff.1 hp').1
  have hpm := hp p (List.mem_of_getElem? hp')
  rw [X4v (by omega)]
  simp only [Option.bind_some]
  rw [Z74 hww hw he (d := 10) (x := 11) ht (by omega) (by omega) (fun b hb => hp b (List.mem_of_mem_take hb)) (fun a ha => by simp only [List.mem_singleton] at ha; rw [ha]; exact Q5h 10 t p hpm.1) (by simp) (by simp only [NN]; omega)]
  simp only [Option.bind_some]
  rw [X4g hp'] at hI
  simp only [sepP] at hI
  cases hm : Q3c w 10 11 t [p] (ps.take k) with
  | none =>
   rw [hm] at hI
   simp only [Option.bind_none, Option.map_none] at hI
   simp only [optR, Bool.not_false, if_true]
   exact .some ⟨rfl, hI⟩
  | some m =>
   rw [hm] at hI
   have hml := Z3l (m := 400) (Nat.le_refl _) (by simp) hm
   simp only [optR, Bool.not_true, Bool.false_eq_true, if_false]
   rw [Y8 (by simp only [Z0]; omega)]
   refine .some ⟨by simp only [List.length_append]; omega, ?_⟩
   rw [hI]
   simp only [Option.bind_some, Option.map_map]
   rw [List.take_add_one, hp']
   simp only [Option.toList_some]
   congr 1
   funext z
   simp
 ·obtain ⟨_, hI⟩ := hI
  rw [List.drop_length, sepP] at hI
  simpa using hI
end Go.Proofs.YtnackipaoepmfaaGreat
namespace Go.Proofs.YtnackipaoepmfaaGreat
open Go Go.RowKit
def Disj (w : List Q3) (t : Q2) (x y : Q0) : Prop := ∀ (e : Nat) (v : Q6), Q12 w e t v → fitP x v = true → fitP y v = true → False
def W9k (w : List Q3) (ts : List Q2) (xs ys : List Q0) : Prop := ∀ (e : Nat) (vs : List Q6), vs.length = ts.length → (∀ (j : Nat) (t : Q2) (v : Q6), ts[j]? = some t → vs[j]? = some v → Q12 w e t v) → fitL xs vs = true → fitL ys vs = true → False
theorem W0n {w : List Q3} {fm : Q2 → Q0 → Q0 → List Q0} {fj : Q0 → Q0 → Option Q0} : ∀ (ts : List Q2) (as bs : List Q0), as.length = ts.length → bs.length = ts.length →
  (∀ (j : Nat) (t : Q2) (a b : Q0), ts[j]? = some t → as[j]? = some a → bs[j]? = some b → (fm t a b).Pairwise (Disj w t) ∧ ∀ (e : Nat) (v : Q6), Q12 w e t v → (∀ y ∈ fm t a b, fitP y v = true → fitP b v = false) ∧ ∀ m, fj a b = some m → fitP m v = true → fitP b v = true) →
  (kmD fm fj ts as bs).Pairwise (W9k w ts)
 | [], as, bs, _, _, _ => by simp [kmD]
 | t :: ts, a :: as, b :: bs, h1, h2, h => by
  obtain ⟨g1, g2⟩ := h 0 t a b rfl rfl rfl
  have ih := W0n ts as bs (by simpa using h1) (by simpa using h2) fun j t a b e1 e2 e3 => h (j + 1) t a b (by simpa using e1) (by simpa using e2) (by simpa using e3)
  simp only [kmD]
  rw [List.pairwise_append]
  have split2 : ∀ (x y : Q0) (xs ys : List Q0), (Disj w t x y ∨ W9k w ts xs ys) → W9k w (t :: ts) (x :: xs) (y :: ys) := fun x y xs ys hd e vs hl hg hx hy => by
   cases vs with
   | nil => simp at hl
   | cons v vs =>
    rw [Q4a, Bool.and_eq_true] at hx hy
    rcases hd with hd | hd
    ·exact hd e v (hg 0 t v rfl rfl) hx.1 hy.1
    ·exact hd e vs (by simpa using hl) (fun j t v e1 e2 => hg (j + 1) t v (by simpa using e1) (by simpa using e2)) hx.2 hy.2
  refine ⟨?_, ?_, ?_⟩
  ·rw [List.pairwise_map]
   exact g1.imp fun {x y} hd => split2 x y as as (.inl hd)
  ·cases hm : fj a b with
   | none => exact List.Pairwise.nil
   | some m =>
    simp only
    rw [List.pairwise_map]
    exact ih.imp fun {x y} hd => split2 m m x y (.inr hd)
  ·intro x hx y hy
   obtain ⟨x0, hx0, rfl⟩ := List.mem_map.1 hx
   cases hm : fj a b with
   | none => rw [hm] at hy; cases hy
   | some m =>
    rw [hm] at hy
    simp only at hy
    obtain ⟨y0, _, rfl⟩ := List.mem_map.1 hy
    refine split2 x0 m as y0 (.inl fun e v hv f1 f2 => ?_)
    obtain ⟨q1, q2⟩ := g2 e v hv
    have := q1 x0 hx0 f1
    rw [q2 m hm f2] at this
    cases this
 | _ :: _, [], _, h, _, _ => by simp at h
 | _ :: _, _ :: _, [], _, h, _ => by simp at h
theorem W7b {w : List Q3} {fm : Q2 → Q0 → Q0 → List Q0} {fj : Q0 → Q0 → Option Q0} {t : Q2} {a b y : Q0} (ha : a.op = 4) (hy : y ∈ cmD w fm fj t a b) : y.op = 4 ∧ y.ctor = a.ctor := by
 unfold cmD at hy
 split at hy
 ·obtain ⟨ks, _, rfl⟩ := List.mem_map.1 hy
  exact ⟨rfl, rfl⟩
 ·simp only [List.mem_singleton] at hy
  subst hy
  exact ⟨ha, rfl⟩
theorem W1y {w : List Q3} {d x : Nat} (hM : ∀ (t : Q2) (a b : Q0) (x : Nat), t ∈ tys w → Z3 w x t a → Z3 w d t b → (X8 w d t a b).Pairwise (Disj w t)) {t : Q2} {c c' : Int} {ks ks' : List Q0} (hat : ∀ a ∈ Z4 w t c, a ∈ tys w) (ht : t.data ≠ -1)
  (hl : ks.length = (Z4 w t c).length) (hk : ∀ (j : Nat) (a : Q2) (q : Q0), (Z4 w t c)[j]? = some a → ks[j]? = some q → Z3 w x a q)
  (hl' : ks'.length = (Z4 w t c').length) (hk' : ∀ (j : Nat) (a : Q2) (q : Q0), (Z4 w t c')[j]? = some a → ks'[j]? = some q → Z3 w d a q) :
  (cmD w (X8 w d) (W5 d) t (Q0.mk 4 c 0 0 0 ks) (Q0.mk 4 c' 0 0 0 ks')).Pairwise (Disj w t) := by
 unfold cmD
 by_cases hc : c = c'
 ·subst hc
  simp only [if_true]
  rw [List.pairwise_map]
  refine (W0n (w := w) (Z4 w t c) ks ks' hl hl' fun j u a b e1 e2 e3 => ⟨hM u a b x (hat u (List.mem_of_getElem? e1)) (hk j u a e1 e2) (hk' j u b e1 e3), fun e v hv => ⟨fun y hy hf => ?_, fun m hm hf => ?_⟩⟩).imp fun {xs ys} hd e v hv h1 h2 => ?_
  ·exact ((Q9o d e u a b x (hk j u a e1 e2) (hk' j u b e1 e3) v hv).2 ⟨y, hy, hf⟩).2
  ·exact ((Z8r d e u a b x (hk j u a e1 e2) (hk' j u b e1 e3) v hv).2 ⟨m, hm, hf⟩).2
  ·rw [Q0v rfl, Bool.and_eq_true, decide_eq_true_eq] at h1 h2
   obtain ⟨e', rfl, _, g2, g3⟩ := Q5z hv ht
   have hcv : c = v.ctor := h1.1
   rw [← hcv] at g2 g3
   exact hd e' v.kids g2 (fun j u x e1 e2 => g3 j u x e1 e2) h1.2 h2.2
 ·simp only [if_neg hc, List.pairwise_cons, List.not_mem_nil, false_implies, implies_true, List.Pairwise.nil, and_self]
theorem X0j {w : List Q3} {t : Q2} {n m n' m' : Int} (h : n' ≤ m') : (Z0j n m n' m').Pairwise (Disj w t) := by
 have hd : Disj w t (Q0.mk 3 0 n (min m (n' - 1)) 0 []) (Q0.mk 3 0 (max n (m' + 1)) m 0 []) := fun e v _ h1 h2 => by
  rw [Q53 rfl, decide_eq_true_eq] at h1 h2
  simp only at h1 h2
  omega
 unfold Z0j
 split <;> split <;> simp [hd]
theorem X7a {w : List Q3} (hw : WW w) (he : WE w) : ∀ (d : Nat) (t : Q2) (a b : Q0) (x : Nat), t ∈ tys w → Z3 w x t a → Z3 w d t b → (X8 w d t a b).Pairwise (Disj w t) := by
 intro d
 induction d with
 | zero => intro t a b x _ _ h; exact h.elim
 | succ d ih =>
  intro t a b x ht ha hb
  cases x with
  | zero => exact ha.elim
  | succ x =>
  rcases hb with rfl | ⟨n', m', rfl, ht', g0, g1, g2⟩ | ⟨c', ks', rfl, ht', hc', hl', hk'⟩
  ·simp [X8]
  ·have e1 : ¬ (3 : Int) = 1 := by decide
   simp only [X8, e1, if_false, if_true]
   split
   ·exact X0j g1
   ·exact X0j g1
  ·have e1 : ¬ (4 : Int) = 1 := by decide
   have e3 : ¬ (4 : Int) = 3 := by decide
   simp only [X8, e1, e3, if_false]
   rcases ha with rfl | ⟨n, m, rfl, ht2, _⟩ | ⟨c, ks, rfl, _, hc, hl, hk⟩
   ·simp only [if_true]
    rw [List.pairwise_flatMap]
    refine ⟨fun c hc => ?_, ?_⟩
    ·exact W1y (x := 1) ih ((hw.ty t ht).at_ c hc) ht' (by simp) (fun j a q ha hq => by
      rw [List.getElem?_map, ha] at hq
      cases hq
      exact Q8l w 0 a) hl' hk'
    ·refine (he.nd t ht).imp fun {c1 c2} hne y hy z hz e v hv f1 f2 => ?_
     obtain ⟨a1, a2⟩ := W7b (a := Q4l w t c1) rfl hy
     obtain ⟨b1, b2⟩ := W7b (a := Q4l w t c2) rfl hz
     rw [Q0v a1, Bool.and_eq_true, decide_eq_true_eq] at f1
     rw [Q0v b1, Bool.and_eq_true, decide_eq_true_eq] at f2
     have h1 : y.ctor = c1 := a2
     have h2 : z.ctor = c2 := b2
     exact hne (by rw [← h1, ← h2, f1.1, f2.1])
   ·exact absurd ht2 ht'
   ·simp only [e1, if_false]
    exact W1y ih ((hw.ty t ht).at_ c hc) ht' hl hk hl' hk'
theorem W5p {w : List Q3} {t : Q2} {a b x y : Q0} (h : Disj w t a b) (hx : ∀ e v, Q12 w e t v → fitP x v = true → fitP a v = true) (hy : ∀ e v, Q12 w e t v → fitP y v = true → fitP b v = true) : Disj w t x y :=
 fun e v hv h1 h2 => h e v hv (hx e v hv h1) (hy e v hv h2)
theorem X9i {w : List Q3} (hw : WW w) (he : WE w) {d x : Nat} {t : Q2} (ht : t ∈ tys w) {b : Q0} (hb : Z3 w d t b) {l : List Q0} (h : ∀ a ∈ l, Z3 w x t a) (hd : l.Pairwise (Disj w t)) : (Q2l w d x t l b).Pairwise (Disj w t) := by
 unfold Q2l Q67
 refine List.Pairwise.filter _ ?_
 rw [List.pairwise_flatMap]
 refine ⟨fun a ha => X7a hw he d t a b x ht (h a ha) hb, ?_⟩
 have hall : ∀ l : List Q0, (∀ a ∈ l, Z3 w x t a) → l.Pairwise (Disj w t) → l.Pairwise (fun a₁ a₂ => ∀ y ∈ X8 w d t a₁ b, ∀ z ∈ X8 w d t a₂ b, Disj w t y z) := by
  intro l
  induction l with
  | nil => intro _ _; exact List.Pairwise.nil
  | cons a l ih =>
   intro h hd
   rw [List.pairwise_cons] at hd ⊢
   refine ⟨fun a2 ha2 y hy z hz => W5p (hd.1 a2 ha2) (fun e v hv hf => ?_) (fun e v hv hf => ?_), ih (fun a ha => h a (by simp [ha])) hd.2⟩
   ·exact ((Q9o d e t a b x (h a (by simp)) hb v hv).2 ⟨y, hy, hf⟩).1
   ·exact ((Q9o d e t a2 b x (h a2 (by simp [ha2])) hb v hv).2 ⟨z, hz, hf⟩).1
 exact hall l h hd
theorem X24 {w : List Q3} (hw : WW w) (he : WE w) {d x : Nat} {t : Q2} (ht : t ∈ tys w) (hx : d + 1 ≤ x) : ∀ (bs l r : List Q0), (∀ b ∈ bs, Z3 w d t b) → (∀ a ∈ l, Z3 w x t a) → l.Pairwise (Disj w t) → Q5d w d x t l bs = some r → r.Pairwise (Disj w t)
 | [], l, r, _, _, hd, e => by simp only [Q5d, Option.some.injEq] at e; subst e; exact hd
 | b :: bs, l, r, hb, h, hd, e => by
  simp only [Q5d] at e
  split at e
  ·cases e
  ·exact X24 hw he ht hx bs _ r (fun b hb' => hb b (by simp [hb'])) (Q6w hx (hb b (by simp)) h) (X9i hw he ht (hb b (by simp)) h hd) e
theorem Z9x {w : List Q3} (hw : WW w) (he : WE w) {d x : Nat} {t : Q2} (ht : t ∈ tys w) (hx : d + 1 ≤ x) {l bs r : List Q0} (hb : ∀ b ∈ bs, Z3 w d t b) (h : ∀ a ∈ l, Z3 w x t a) (hd : l.Pairwise (Disj w t)) (e : Q3c w d x t l bs = some r) : r.Pairwise (Disj w t) :=
 X24 hw he ht hx bs _ r hb (fun a ha => h a (List.mem_filter.1 ha).1) (hd.filter _) e
theorem X52 {w : List Q3} (hw : WW w) (he : WE w) {t : Q2} (ht : t ∈ tys w) : ∀ (ps bef r : List Q0), (∀ b ∈ bef, Z3 w 10 t b) → (∀ p ∈ ps, Z3 w 10 t p) → sepP w t bef ps = some r → r.Pairwise (Disj w t)
 | [], _, r, _, _, e => by simp only [sepP, Option.some.injEq] at e; subst e; exact List.Pairwise.nil
 | p :: ps, bef, r, hb, hp, e => by
  simp only [sepP] at e
  cases hm : Q3c w 10 11 t [p] bef with
  | none => rw [hm] at e; simp at e
  | some m =>
   rw [hm] at e
   simp only [Option.bind_some, Option.map_eq_some_iff] at e
   obtain ⟨r2, h2, rfl⟩ := e
   have hp1 : ∀ a ∈ [p], Z3 w 11 t a := fun a ha => by simp only [List.mem_singleton] at ha; rw [ha]; exact Q5h 10 t p (hp p (by simp))
   have hb2 : ∀ b ∈ bef ++ [p], Z3 w 10 t b := fun b hb' => by
    rcases List.mem_append.1 hb' with h | h
    ·exact hb b h
    ·simp only [List.mem_singleton] at h; rw [h]; exact hp p (by simp)
   rw [List.pairwise_append]
   refine ⟨Z9x hw he ht (by omega) hb hp1 (List.pairwise_singleton _ _) hm, X52 hw he ht ps _ r2 hb2 (fun q hq => hp q (by simp [hq])) h2, fun y hy z hz e v hv f1 f2 => ?_⟩
   obtain ⟨⟨a, ha, haf⟩, _⟩ := (Z4y hw he ht (by omega) hv hb hp1 hm).1 ⟨y, hy, f1⟩
   simp only [List.mem_singleton] at ha
   subst ha
   have := ((X2w hw he ht hv ps _ r2 hb2 (fun q hq => hp q (by simp [hq])) h2).1 ⟨z, hz, f2⟩).2 a (by simp)
   rw [haf] at this
   cases this
theorem X8f {w : List Q3} {t : Q2} {e : Nat} {C : List Q6} (hC : ∀ v ∈ C, Q12 w e t v) {l : List Q0} (hd : l.Pairwise (Disj w t)) (h : ∀ p ∈ l, ∃ v ∈ C, fitP p v = true) : l.length ≤ C.length := by
 have key : ∀ (l : List Q0), l.Pairwise (Disj w t) → (∀ p ∈ l, ∃ v ∈ C, fitP p v = true) → ∃ js : List Int, js.length = l.length ∧ js.Nodup ∧ ∀ j ∈ js, ∃ k : Nat, j = (k : Int) ∧ ∃ v, C[k]? = some v ∧ ∃ p ∈ l, fitP p v = true := by
  intro l
  induction l with
  | nil => intro _ _; exact ⟨[], rfl, List.nodup_nil, fun j h => by cases h⟩
  | cons p l ih =>
   intro hd h
   rw [List.pairwise_cons] at hd
   obtain ⟨js, h1, h2, h3⟩ := ih hd.2 fun q hq => h q (by simp [hq])
   obtain ⟨v, hv, hf⟩ := h p (by simp)
   obtain ⟨k, hk⟩ := List.mem_iff_getElem?.1 hv
   refine ⟨(k : Int) :: js, by simp [h1], List.nodup_cons.2 ⟨fun hm => ?_, h2⟩, fun j hj => ?_⟩
   ·obtain ⟨k', e1, v', e2, q, hq, hqf⟩ := h3 _ hm
    have : k = k' := by omega
    subst this
    rw [hk] at e2
    cases e2
    exact hd.1 q hq e v (hC v hv) hf hqf
   ·rcases List.mem_cons.1 hj with rfl | hj
    ·exact ⟨k, rfl, v, hk, p, by simp, hf⟩
    ·obtain ⟨k', e1, v', e2, q, hq, hqf⟩ := h3 j hj
     exact ⟨k', e1, v', e2, q, by simp [hq], hqf⟩
 obtain ⟨js, h1, h2, h3⟩ := key l hd h
 rw [← h1]
 refine Z5j C.length js h2 fun j hj => ?_
 obtain ⟨k, rfl, v, hv, _⟩ := h3 j hj
 have := (List.getElem?_eq_some_iff.1 hv).1
 omega
end Go.Proofs.YtnackipaoepmfaaGreat
namespace Go.Proofs.YtnackipaoepmfaaGreat
open Go Go.RowKit
def X10 (w : List Q3) : Nat → Q2 → Q6
 | 0, _ => ⟨0, 0, []⟩
 | d + 1, t => if t.data = -1 then ⟨-1, 0, []⟩ else match (Z9 w t).find? (fun c => decide (Q4p w t c = depP w t)) with
  | none => ⟨0, 0, []⟩
  | some c => ⟨c, 0, (Z4 w t c).map (X10 w d)⟩
def Z0k (w : List Q3) (t : Q2) : List Q6 := if t.data = -1 then (List.range 10).map numV else
 ((Z9 w t).filter fun c => (Z4 w t c).all fun a => decide (depP w a ≠ 0)).map fun c => ⟨c, 0, (Z4 w t c).map (X10 w 5)⟩
def Z73 (w : List Q3) (t : Q2) : List Q6 := if t.data = -1 then (List.range 10).map numV else
 (Z9 w t).flatMap fun c => (((Z4 w t c).map (Z0k w)).foldl tupV [[]]).map (mkV c)
def V3f (l : List Nat) : Nat := l.foldl (fun a b => a * max 1 b) 1
def chkR (w : List Q3) : Bool := (tys w).all fun t => (decide (depP w t = 0) || Q5p w 10 t (X10 w 5 t)) && (decide ((Z73 w t).length ≤ 400) && (Z9 w t).all fun c => decide (V3f ((Z4 w t c).map fun a => (Z0k w a).length) ≤ 400))
theorem V8k : Q1v.all chkR = true := by kernel_rfl
structure WR (w : List Q3) : Prop where
 least : ∀ t ∈ tys w, depP w t ≠ 0 → Q12 w 10 t (X10 w 5 t)
 n2 : ∀ t ∈ tys w, (Z73 w t).length ≤ 400
 n1 : ∀ t ∈ tys w, ∀ c ∈ Z9 w t, V3f ((Z4 w t c).map fun a => (Z0k w a).length) ≤ 400
theorem wr {w : List Q3} (h : w ∈ Q1v) : WR w := by
 have h1 := List.all_eq_true.1 V8k w h
 simp only [chkR, List.all_eq_true, Bool.and_eq_true, Bool.or_eq_true, decide_eq_true_eq] at h1
 exact ⟨fun t ht h0 => (Z32 10 t _).1 (((h1 t ht).1).resolve_left h0), fun t ht => (h1 t ht).2.1, fun t ht c hc => (h1 t ht).2.2 c hc⟩
def hgt1 (p : Q0) : Prop := p.op = 1 ∨ p.op = 3 ∨ (p.op = 4 ∧ ∀ q ∈ p.kids, q.op = 1)
def hgt2 (p : Q0) : Prop := p.op = 1 ∨ p.op = 3 ∨ (p.op = 4 ∧ ∀ q ∈ p.kids, hgt1 q)
theorem V3v {p : Q0} (h : hgt1 p) : hgt2 p := by
 rcases h with h | h | h
 ·exact .inl h
 ·exact .inr (.inl h)
 ·exact .inr (.inr ⟨h.1, fun q hq => .inl (h.2 q hq)⟩)
theorem Z5m : ∀ (ls : List (List Q6)) (out : List (List Q6)) (o vs : List Q6), o ∈ out → vs.length = ls.length → (∀ (j : Nat) (v : Q6) (l : List Q6), vs[j]? = some v → ls[j]? = some l → v ∈ l) → o ++ vs ∈ ls.foldl tupV out
 | [], out, o, [], ho, _, _ => by simpa using ho
 | l :: ls, out, o, v :: vs, ho, hl, h => by
  rw [List.foldl_cons]
  have := Z5m ls (tupV out l) (o ++ [v]) vs (List.mem_flatMap.2 ⟨o, ho, List.mem_map.2 ⟨v, h 0 v l rfl rfl, rfl⟩⟩) (by simpa using hl) fun j v l h1 h2 => h (j + 1) v l (by simpa using h1) (by simpa using h2)
  simpa using this
 | [], _, _, _ :: _, _, h, _ => by simp at h
 | _ :: _, _, _, [], _, h, _ => by simp at h
theorem W8w {ps : List Q0} : ∀ {vs : List Q6}, ps.length = vs.length → (∀ (j : Nat) (p : Q0) (v : Q6), ps[j]? = some p → vs[j]? = some v → fitP p v = true) → fitL ps vs = true := by
 induction ps with
 | nil => intro vs h _; cases vs with
  | nil => exact Z4u
  | cons v vs => simp at h
 | cons p ps ih =>
  intro vs h hf
  cases vs with
  | nil => simp at h
  | cons v vs =>
   rw [Q4a, Bool.and_eq_true]
   exact ⟨hf 0 p v rfl rfl, ih (by simpa using h) fun j p v h1 h2 => hf (j + 1) p v (by simpa using h1) (by simpa using h2)⟩
theorem Z90 {w : List Q3} {e : Nat} {t : Q2} {c : Int} {vs : List Q6} (hd : t.data ≠ -1) (hc : c ∈ Z9 w t) (hl : vs.length = (Z4 w t c).length) (h : ∀ (j : Nat) (a : Q2) (x : Q6), (Z4 w t c)[j]? = some a → vs[j]? = some x → Q12 w e a x) : Q12 w (e + 1) t ⟨c, 0, vs⟩ := by
 rw [Q12, if_neg hd]
 exact ⟨rfl, hc, hl, h⟩
theorem Z8p {w : List Q3} {e : Nat} {t : Q2} (hd : t.data = -1) {n : Nat} (hn : n < 10) : Q12 w (e + 1) t (numV n) := by
 rw [Q12, if_pos hd]
 exact ⟨rfl, by simp only [numV]; omega, by simp only [numV]; omega, rfl⟩
theorem Z7t {w : List Q3} (hw : WW w) (hr : WR w) {t : Q2} (ht : t ∈ tys w) {v : Q6} (hv : v ∈ Z0k w t) : Q12 w 11 t v := by
 unfold Z0k at hv
 split at hv
 ·rename_i hd
  obtain ⟨n, hn, rfl⟩ := List.mem_map.1 hv
  exact Z8p hd (List.mem_range.1 hn)
 ·rename_i hd
  obtain ⟨c, hc, rfl⟩ := List.mem_map.1 hv
  obtain ⟨h1, h2⟩ := List.mem_filter.1 hc
  refine Z90 hd h1 (by simp) fun j a x ha hx => ?_
  rw [List.getElem?_map, ha] at hx
  simp only [Option.map_some, Option.some.injEq] at hx
  subst hx
  have ham := List.mem_of_getElem? ha
  exact hr.least a ((hw.ty t ht).at_ c h1 a ham) (by simpa using List.all_eq_true.1 h2 a ham)
theorem X72 {w : List Q3} (hw : WW w) (hr : WR w) {t : Q2} (ht : t ∈ tys w) {v : Q6} (hv : v ∈ Z73 w t) : Q12 w 12 t v := by
 unfold Z73 at hv
 split at hv
 ·rename_i hd
  obtain ⟨n, hn, rfl⟩ := List.mem_map.1 hv
  exact Z8p hd (List.mem_range.1 hn)
 ·rename_i hd
  obtain ⟨c, hc, hv⟩ := List.mem_flatMap.1 hv
  obtain ⟨ks, hks, rfl⟩ := List.mem_map.1 hv
  obtain ⟨a, b, ha, rfl, hl, hb⟩ := Q9c _ _ _ hks
  simp only [List.mem_singleton] at ha
  subst ha
  simp only [List.length_map] at hl
  refine Z90 hd hc (by simpa using hl) fun j u x hu hx => ?_
  exact Z7t hw hr ((hw.ty t ht).at_ c hc u (List.mem_of_getElem? hu)) (hb j x (Z0k w u) (by simpa using hx) (by rw [List.getElem?_map, hu]; rfl))
theorem rep1 {w : List Q3} (hw : WW w) {t : Q2} (ht : t ∈ tys w) {d : Nat} {p : Q0} (hp : Z3 w d t p) (h1 : hgt1 p) (he : V1 w d t p = false) : ∃ v ∈ Z0k w t, fitP p v = true := by
 have hT := hw.ty t ht
 cases d with
 | zero => exact hp.elim
 | succ d =>
 rcases hp with rfl | ⟨n, m, rfl, hd, g0, g1, g2⟩ | ⟨c, ks, rfl, hd, hc, hl, hk⟩
 ·simp only [V1, if_true, decide_eq_false_iff_not] at he
  unfold Z0k
  split
  ·exact ⟨numV 0, List.mem_map_of_mem (List.mem_range.2 (by omega)), Q54 rfl _⟩
  ·rename_i hd
   obtain ⟨k, hk, hm⟩ := hT.dm hd he
   exact ⟨_, List.mem_map_of_mem (List.mem_filter.2 ⟨hk, List.all_eq_true.2 fun a ha => by
    have := (hT.ma k hk (by omega) a ha).1
    simp only [ne_eq, decide_not, Bool.not_eq_true', decide_eq_false_iff_not]; omega⟩), Q54 rfl _⟩
 ·unfold Z0k
  rw [if_pos hd]
  refine ⟨numV n.toNat, List.mem_map_of_mem (List.mem_range.2 (by omega)), ?_⟩
  rw [Q53 rfl, decide_eq_true_eq]
  simp only [numV]
  omega
 ·unfold Z0k
  rw [if_neg hd]
  have hks : ∀ q ∈ ks, q.op = 1 := by
   rcases h1 with h | h | h
   ·simp at h
   ·simp at h
   ·exact h.2
  refine ⟨⟨c, 0, (Z4 w t c).map (X10 w 5)⟩, List.mem_map.2 ⟨c, List.mem_filter.2 ⟨hc, List.all_eq_true.2 fun a ha => ?_⟩, rfl⟩, ?_⟩
  ·obtain ⟨j, hj⟩ := List.mem_iff_getElem?.1 ha
   have hjl := (List.getElem?_eq_some_iff.1 hj).1
   have hq : ks[j]? = some (ks[j]'(by omega)) := by simp
   simp only [ne_eq, decide_not, Bool.not_eq_true', decide_eq_false_iff_not]
   intro h0
   have : V1 w (d + 1) t (Q0.mk 4 c 0 0 0 ks) = true := Q3w.2 ⟨j, a, _, hj, hq, by
    cases d with
    | zero => exact (hk j a _ hj hq).elim
    | succ d => rw [V1, if_pos (hks _ (List.mem_of_getElem? hq))]; simpa using h0⟩
   rw [he] at this
   cases this
  ·rw [Q0v rfl, Bool.and_eq_true, decide_eq_true_eq]
   exact ⟨rfl, W8w (by simp only [List.length_map]; exact hl) fun j q v hq _ => Q54 (hks q (List.mem_of_getElem? hq)) v⟩
theorem rep2 {w : List Q3} (hw : WW w) {t : Q2} (ht : t ∈ tys w) {d : Nat} {p : Q0} (hp : Z3 w d t p) (h2 : hgt2 p) (he : V1 w d t p = false) : ∃ v ∈ Z73 w t, fitP p v = true := by
 have hT := hw.ty t ht
 cases d with
 | zero => exact hp.elim
 | succ d =>
 have ctor : ∀ (d : Nat) (c : Int) (ks : List Q0), t.data ≠ -1 → c ∈ Z9 w t → ks.length = (Z4 w t c).length → (∀ (j : Nat) (a : Q2) (q : Q0), (Z4 w t c)[j]? = some a → ks[j]? = some q → Z3 w d a q ∧ hgt1 q ∧ V1 w d a q = false) → ∃ v ∈ Z73 w t, fitP (Q0.mk 4 c 0 0 0 ks) v = true := fun d c ks hd hc hl hk => by
  have gen : ∀ (ts : List Q2) (ks : List Q0), ks.length = ts.length → (∀ a ∈ ts, a ∈ tys w) → (∀ (j : Nat) (a : Q2) (q : Q0), ts[j]? = some a → ks[j]? = some q → Z3 w d a q ∧ hgt1 q ∧ V1 w d a q = false) →
    ∃ vs : List Q6, vs.length = ts.length ∧ (∀ (j : Nat) (v : Q6) (l : List Q6), vs[j]? = some v → (ts.map (Z0k w))[j]? = some l → v ∈ l) ∧ fitL ks vs = true := by
   intro ts
   induction ts with
   | nil => intro ks hl _ _; exact ⟨[], rfl, fun j v l h => by simp at h, by cases ks with
     | nil => exact Z4u
     | cons k ks => simp at hl⟩
   | cons a ts ih =>
    intro ks hl hat hk
    cases ks with
    | nil => simp at hl
    | cons q ks =>
     obtain ⟨vs, e1, e2, e3⟩ := ih ks (by simpa using hl) (fun x hx => hat x (by simp [hx])) fun j a q h1 h2 => hk (j + 1) a q (by simpa using h1) (by simpa using h2)
     obtain ⟨g1, g2, g3⟩ := hk 0 a q rfl rfl
     obtain ⟨v, hv, hf⟩ := rep1 hw (hat a (by simp)) g1 g2 g3
     refine ⟨v :: vs, by simp [e1], fun j x l h1 h2 => ?_, by rw [Q4a, hf, e3]; rfl⟩
     cases j with
     | zero => simp only [List.getElem?_cons_zero, List.map_cons, Option.some.injEq] at h1 h2; subst h1 h2; exact hv
     | succ j => exact e2 j x l (by simpa using h1) (by simpa using h2)
  obtain ⟨vs, e1, e2, e3⟩ := gen _ ks hl (hT.at_ c hc) hk
  refine ⟨mkV c vs, ?_, by rw [Q0v rfl]; simp [mkV, e3]⟩
  unfold Z73
  rw [if_neg hd]
  refine List.mem_flatMap.2 ⟨c, hc, List.mem_map_of_mem ?_⟩
  have := Z5m ((Z4 w t c).map (Z0k w)) [[]] [] vs (by simp) (by simpa using e1) e2
  simpa using this
 rcases hp with rfl | ⟨n, m, rfl, hd, g0, g1, g2⟩ | ⟨c, ks, rfl, hd, hc, hl, hk⟩
 ·simp only [V1, if_true, decide_eq_false_iff_not] at he
  by_cases hd : t.data = -1
  ·unfold Z73
   rw [if_pos hd]
   exact ⟨numV 0, List.mem_map_of_mem (List.mem_range.2 (by omega)), Q54 rfl _⟩
  ·obtain ⟨k, hk, hm⟩ := hT.dm hd he
   obtain ⟨v, hv, _⟩ := ctor 1 k ((Z4 w t k).map fun _ => Q0.mk 1 0 0 0 0 []) hd hk (by simp) fun j a q ha hq => by
    rw [List.getElem?_map, ha] at hq
    simp only [Option.map_some, Option.some.injEq] at hq
    subst hq
    refine ⟨Q8l w 0 a, .inl rfl, ?_⟩
    have := (hT.ma k hk (by omega) a (List.mem_of_getElem? ha)).1
    simp only [V1, if_true, decide_eq_false_iff_not]
    omega
   exact ⟨v, hv, Q54 rfl _⟩
 ·unfold Z73
  rw [if_pos hd]
  refine ⟨numV n.toNat, List.mem_map_of_mem (List.mem_range.2 (by omega)), ?_⟩
  rw [Q53 rfl, decide_eq_true_eq]
  simp only [numV]
  omega
 ·have hks : ∀ q ∈ ks, hgt1 q := by
   rcases h2 with h | h | h
   ·simp at h
   ·simp at h
   ·exact h.2
  refine ctor d c ks hd hc hl fun j a q ha hq => ⟨hk j a q ha hq, hks q (List.mem_of_getElem? hq), ?_⟩
  cases hem : V1 w d a q with
  | false => rfl
  | true =>
   have : V1 w (d + 1) t (Q0.mk 4 c 0 0 0 ks) = true := Q3w.2 ⟨j, a, q, ha, hq, hem⟩
   rw [he] at this
   cases this
theorem Z7w {w : List Q3} (hw : WW w) (hr : WR w) : ∀ (d : Nat) (t : Q2) (p : Q0), t ∈ tys w → Z3 w d t p → V1 w d t p = false → ∃ v, Q12 w (d + 10) t v ∧ fitP p v = true
 | 0, _, _, _, h, _ => h.elim
 | d + 1, t, p, ht, hp, he => by
  rcases hp with rfl | ⟨n, m, rfl, hd, g0, g1, g2⟩ | ⟨c, ks, rfl, hd, hc, hl, hk⟩
  ·simp only [V1, if_true, decide_eq_false_iff_not] at he
   exact ⟨_, Z0c 10 _ t _ (by omega) (hr.least t ht he), Q54 rfl _⟩
  ·refine ⟨numV n.toNat, Z8p hd (by omega), ?_⟩
   rw [Q53 rfl, decide_eq_true_eq]
   simp only [numV]
   omega
  ·have hat := (hw.ty t ht).at_ c hc
   have gen : ∀ (ts : List Q2) (ks : List Q0), ks.length = ts.length → (∀ a ∈ ts, a ∈ tys w) → (∀ (j : Nat) (a : Q2) (q : Q0), ts[j]? = some a → ks[j]? = some q → Z3 w d a q ∧ V1 w d a q = false) →
     ∃ vs : List Q6, vs.length = ts.length ∧ (∀ (j : Nat) (a : Q2) (v : Q6), ts[j]? = some a → vs[j]? = some v → Q12 w (d + 10) a v) ∧ fitL ks vs = true := by
    intro ts
    induction ts with
    | nil => intro ks hl _ _; exact ⟨[], rfl, fun j a v h => by simp at h, by cases ks with
      | nil => exact Z4u
      | cons k ks => simp at hl⟩
    | cons a ts ih =>
     intro ks hl hat hk
     cases ks with
     | nil => simp at hl
     | cons q ks =>
      obtain ⟨vs, e1, e2, e3⟩ := ih ks (by simpa using hl) (fun x hx => hat x (by simp [hx])) fun j a q h1 h2 => hk (j + 1) a q (by simpa using h1) (by simpa using h2)
      obtain ⟨g1, g3⟩ := hk 0 a q rfl rfl
      obtain ⟨v, hv, hf⟩ := Z7w hw hr d a q (hat a (by simp)) g1 g3
      refine ⟨v :: vs, by simp [e1], fun j b x h1 h2 => ?_, by rw [Q4a, hf, e3]; rfl⟩
      cases j with
      | zero => simp only [List.getElem?_cons_zero, Option.some.injEq] at h1 h2; subst h1 h2; exact hv
      | succ j => exact e2 j b x (by simpa using h1) (by simpa using h2)
   obtain ⟨vs, e1, e2, e3⟩ := gen _ ks hl hat fun j a q ha hq => ⟨hk j a q ha hq, by
    cases hem : V1 w d a q with
    | false => rfl
    | true =>
     have : V1 w (d + 1) t (Q0.mk 4 c 0 0 0 ks) = true := Q3w.2 ⟨j, a, q, ha, hq, hem⟩
     rw [he] at this
     cases this⟩
   refine ⟨⟨c, 0, vs⟩, ?_, by rw [Q0v rfl]; simp [e3]⟩
   have := Z90 (e := d + 10) hd hc e1 e2
   rw [show d + 1 + 10 = d + 10 + 1 by omega]
   exact this
end Go.Proofs.YtnackipaoepmfaaGreat
namespace Go.Proofs.YtnackipaoepmfaaGreat
open Go Go.RowKit
theorem X5h {d : Nat} {a b m : Q0} (ha : a.op = 1) (h : W5 d a b = some m) : m = b := by
 cases d with
 | zero => simp [W5] at h
 | succ d => rw [W5, if_pos ha] at h; cases h; rfl
theorem X0u {w : List Q3} {d : Nat} {t : Q2} {a b : Q0} (hb : b.op = 1) : X8 w d t a b = [] := by
 cases d with
 | zero => rfl
 | succ d => rw [X8, if_pos hb]
theorem W7v {n m n' m' : Int} : ∀ y ∈ Z0j n m n' m', y.op = 3 := fun y hy => by
 unfold Z0j at hy
 rcases List.mem_append.1 hy with h | h <;> split at h <;> simp at h <;> rw [h]
structure Cl (w : List Q3) (d x : Nat) (t : Q2) (P : Q0 → Prop) : Prop where
 mi : ∀ a b, P a → P b → Z3 w x t a → Z3 w d t b → ∀ y ∈ X8 w d t a b, P y
 me : ∀ a b, P a → P b → Z3 w x t a → Z3 w d t b → ∀ m, W5 d a b = some m → P m
theorem V3q {w : List Q3} {d x : Nat} {ts : List Q2} {as bs : List Q0} {P : Nat → Q0 → Prop} (h1 : as.length = ts.length) (h2 : bs.length = ts.length)
  (h : ∀ (j : Nat) (t : Q2) (a b : Q0), ts[j]? = some t → as[j]? = some a → bs[j]? = some b → P j a ∧ P j b ∧ Z3 w x t a ∧ Z3 w d t b ∧ Cl w d x t (P j)) :
  ∀ ks ∈ kmD (X8 w d) (W5 d) ts as bs, ks.length = ts.length ∧ ∀ (j : Nat) (q : Q0), ks[j]? = some q → P j q := fun ks hks => by
 obtain ⟨g1, i, hi, g2⟩ := X5k ts as bs h1 h2 ks hks
 refine ⟨g1, fun j q hq => ?_⟩
 have hj := (List.getElem?_eq_some_iff.1 hq).1
 have ht : ts[j]? = some (ts[j]'(by omega)) := by simp
 have ha : as[j]? = some (as[j]'(by omega)) := by simp
 have hb : bs[j]? = some (bs[j]'(by omega)) := by simp
 obtain ⟨p1, p2, p3, p4, p5⟩ := h j _ _ _ ht ha hb
 obtain ⟨q1, q2, q3⟩ := g2 j _ _ _ q ht ha hb hq
 rcases Nat.lt_trichotomy j i with hji | hji | hji
 ·exact p5.me _ _ p1 p2 p3 p4 q (q1 hji)
 ·exact p5.mi _ _ p1 p2 p3 p4 q (q2 hji)
 ·rw [q3 hji]; exact p1
theorem W43 {w : List Q3} {d x : Nat} {ts : List Q2} {as bs ms : List Q0} {P : Nat → Q0 → Prop} (h1 : as.length = ts.length) (h2 : bs.length = ts.length)
  (h : ∀ (j : Nat) (t : Q2) (a b : Q0), ts[j]? = some t → as[j]? = some a → bs[j]? = some b → P j a ∧ P j b ∧ Z3 w x t a ∧ Z3 w d t b ∧ Cl w d x t (P j)) (hm : Q1n (W5 d) as bs = some ms) :
  ms.length = ts.length ∧ ∀ (j : Nat) (q : Q0), ms[j]? = some q → P j q := by
 obtain ⟨g1, g2⟩ := Z20 as bs ms (by omega) hm
 refine ⟨by omega, fun j q hq => ?_⟩
 have hj := (List.getElem?_eq_some_iff.1 hq).1
 have ht : ts[j]? = some (ts[j]'(by omega)) := by simp
 have ha : as[j]? = some (as[j]'(by omega)) := by simp
 have hb : bs[j]? = some (bs[j]'(by omega)) := by simp
 obtain ⟨p1, p2, p3, p4, p5⟩ := h j _ _ _ ht ha hb
 obtain ⟨m, e1, e2⟩ := g2 j _ _ ha hb
 rw [hq] at e2
 cases e2
 exact p5.me _ _ p1 p2 p3 p4 q e1
def famP (Q : Q0 → Prop) (p : Q0) : Prop := p.op = 1 ∨ p.op = 3 ∨ (p.op = 4 ∧ ∀ q ∈ p.kids, Q q)
theorem W76 {w : List Q3} (hw : WW w) {d x : Nat} (hx1 : 1 ≤ x) {Q : Q0 → Prop} (hq : ∀ p : Q0, p.op = 1 → Q p) (hQ : ∀ t ∈ tys w, Cl w d x t Q) {t : Q2} (ht : t ∈ tys w) : Cl w (d + 1) (x + 1) t (famP Q) := by
 have hT := hw.ty t ht
 have kids : ∀ (c : Int) (ks ks' : List Q0), c ∈ Z9 w t → (∀ q ∈ ks, Q q) → (∀ q ∈ ks', Q q) → ks.length = (Z4 w t c).length → ks'.length = (Z4 w t c).length →
   (∀ (j : Nat) (a : Q2) (q : Q0), (Z4 w t c)[j]? = some a → ks[j]? = some q → Z3 w x a q) → (∀ (j : Nat) (a : Q2) (q : Q0), (Z4 w t c)[j]? = some a → ks'[j]? = some q → Z3 w d a q) →
   ∀ (j : Nat) (u : Q2) (a b : Q0), (Z4 w t c)[j]? = some u → ks[j]? = some a → ks'[j]? = some b → (fun _ => Q) j a ∧ (fun _ => Q) j b ∧ Z3 w x u a ∧ Z3 w d u b ∧ Cl w d x u ((fun _ => Q) j) :=
  fun c ks ks' hc h1 h2 _ _ h5 h6 j u a b e1 e2 e3 => ⟨h1 a (List.mem_of_getElem? e2), h2 b (List.mem_of_getElem? e3), h5 j u a e1 e2, h6 j u b e1 e3, hQ u (hT.at_ c hc u (List.mem_of_getElem? e1))⟩
 have cm : ∀ (x' : Nat) (c c' : Int) (ks ks' : List Q0), x' ≤ x → c ∈ Z9 w t → (∀ q ∈ ks, Q q) → (∀ q ∈ ks', Q q) → ks.length = (Z4 w t c).length → ks'.length = (Z4 w t c').length →
   (∀ (j : Nat) (a : Q2) (q : Q0), (Z4 w t c)[j]? = some a → ks[j]? = some q → Z3 w x' a q) → (∀ (j : Nat) (a : Q2) (q : Q0), (Z4 w t c')[j]? = some a → ks'[j]? = some q → Z3 w d a q) →
   ∀ y ∈ cmD w (X8 w d) (W5 d) t (Q0.mk 4 c 0 0 0 ks) (Q0.mk 4 c' 0 0 0 ks'), famP Q y := fun x' c c' ks ks' hx' hc h1 h2 h3 h4 h5 h6 y hy => by
  unfold cmD at hy
  by_cases hcc : c = c'
  ·subst hcc
   simp only [if_true] at hy
   obtain ⟨zs, hz, rfl⟩ := List.mem_map.1 hy
   refine .inr (.inr ⟨rfl, fun q hq => ?_⟩)
   obtain ⟨j, hj⟩ := List.mem_iff_getElem?.1 hq
   exact (V3q h3 h4 (kids c ks ks' hc h1 h2 h3 h4 (fun j a q e1 e2 => X36 (h5 j a q e1 e2) hx') h6) zs hz).2 j q hj
  ·simp only [if_neg hcc, List.mem_singleton] at hy
   subst hy
   exact .inr (.inr ⟨rfl, h1⟩)
 refine ⟨fun a b ha hb pa pb y hy => ?_, fun a b ha hb pa pb m hm => ?_⟩
 ·rcases pb with rfl | ⟨n', m', rfl, _⟩ | ⟨c', ks', rfl, hd', hc', hl', hk'⟩
  ·rw [X0u rfl] at hy; cases hy
  ·have e1 : ¬ (3 : Int) = 1 := by decide
   simp only [X8, e1, if_false, if_true] at hy
   refine .inr (.inl ?_)
   split at hy <;> exact W7v y hy
  ·have e1 : ¬ (4 : Int) = 1 := by decide
   have e3 : ¬ (4 : Int) = 3 := by decide
   have hbk : ∀ q ∈ ks', Q q := by
    rcases hb with h | h | h
    ·simp at h
    ·simp at h
    ·exact h.2
   simp only [X8, e1, e3, if_false] at hy
   rcases pa with rfl | ⟨n, m, rfl, hd, _⟩ | ⟨c, ks, rfl, hd, hc, hl, hk⟩
   ·simp only [if_true, List.mem_flatMap] at hy
    obtain ⟨c, hc, hy⟩ := hy
    unfold Q4l at hy
    exact cm 1 c c' _ ks' hx1 hc (fun q hq' => by obtain ⟨_, _, rfl⟩ := List.mem_map.1 hq'; exact hq _ rfl) hbk (by simp) hl' (fun j a q ha hq' => by
      rw [List.getElem?_map, ha] at hq'
      cases hq'
      exact Q8l w 0 a) hk' y hy
   ·exact absurd hd hd'
   ·have hak : ∀ q ∈ ks, Q q := by
     rcases ha with h | h | h
     ·simp at h
     ·simp at h
     ·exact h.2
    simp only [e1, if_false] at hy
    exact cm x c c' ks ks' (Nat.le_refl _) hc hak hbk hl hl' hk hk' y hy
 ·rcases pa with rfl | ⟨n, m, rfl, hd, _⟩ | ⟨c, ks, rfl, hd, hc, hl, hk⟩
  ·rw [X5h rfl hm]; exact hb
  ·rcases pb with rfl | ⟨n', m', rfl, _⟩ | ⟨c', ks', rfl, hd', _⟩
   ·simp [W5] at hm; subst hm; exact .inr (.inl rfl)
   ·simp [W5] at hm; obtain ⟨_, rfl⟩ := hm; exact .inr (.inl rfl)
   ·exact absurd hd hd'
  ·rcases pb with rfl | ⟨n', m', rfl, hd', _⟩ | ⟨c', ks', rfl, hd', hc', hl', hk'⟩
   ·simp [W5] at hm; subst hm; exact ha
   ·exact absurd hd' hd
   ·have hak : ∀ q ∈ ks, Q q := by
     rcases ha with h | h | h
     ·simp at h
     ·simp at h
     ·exact h.2
    have hbk : ∀ q ∈ ks', Q q := by
     rcases hb with h | h | h
     ·simp at h
     ·simp at h
     ·exact h.2
    simp only [W5] at hm
    simp at hm
    obtain ⟨rfl, zs, hz, rfl⟩ := hm
    refine .inr (.inr ⟨rfl, fun q hq' => ?_⟩)
    obtain ⟨j, hj⟩ := List.mem_iff_getElem?.1 hq'
    exact (W43 hl hl' (kids c ks ks' hc hak hbk hl hl' hk hk') hz).2 j q hj
theorem V50 {w : List Q3} (d x : Nat) (t : Q2) : Cl w d x t (fun p => p.op = 1) :=
 ⟨fun a b _ hb _ _ y hy => (by rw [X0u hb] at hy; cases hy), fun a b ha hb _ _ m hm => by rw [X5h ha hm]; exact hb⟩
theorem W97 {w : List Q3} (hw : WW w) {d x : Nat} (hx1 : 1 ≤ x) {t : Q2} (ht : t ∈ tys w) : Cl w (d + 1) (x + 1) t hgt1 := W76 hw hx1 (fun _ h => h) (fun t _ => V50 d x t) ht
theorem V4z {w : List Q3} (hw : WW w) {d x : Nat} (hx1 : 1 ≤ x) {t : Q2} (ht : t ∈ tys w) : Cl w (d + 2) (x + 2) t hgt2 := W76 hw (by omega) (fun _ h => .inl h) (fun t ht => W97 hw hx1 ht) ht
theorem Z81 {f : Q0 → Q0 → Option Q0} : ∀ (as : List Q0), (∀ a ∈ as, f a a = some a) → Q1n f as as = some as
 | [], _ => rfl
 | a :: as, h => by
  simp only [Q1n]
  rw [h a (by simp), Z81 as fun x hx => h x (by simp [hx])]
  rfl
theorem X0w {w : List Q3} : ∀ (d : Nat) (t : Q2) (a : Q0), Z3 w d t a → W5 d a a = some a
 | 0, _, _, h => h.elim
 | d + 1, t, a, h => by
  rcases h with rfl | ⟨n, m, rfl, hd, g0, g1, g2⟩ | ⟨c, ks, rfl, hd, hc, hl, hk⟩
  ·simp [W5]
  ·have e1 : ¬ (3 : Int) = 1 := by decide
   simp only [W5, e1, if_false, if_true]
   rw [if_pos (by omega)]
   congr 2 <;> omega
  ·have e1 : ¬ (4 : Int) = 1 := by decide
   have e3 : ¬ (4 : Int) = 3 := by decide
   simp only [W5, e1, e3, if_false, if_true]
   rw [Z81 ks fun q hq => by
    obtain ⟨j, hj⟩ := List.mem_iff_getElem?.1 hq
    have hjl := (List.getElem?_eq_some_iff.1 hj).1
    have ha : (Z4 w t c)[j]? = some ((Z4 w t c)[j]'(by omega)) := by simp
    exact X0w d _ q (hk j _ q ha hj)]
   rfl
theorem W0m {fm : Q2 → Q0 → Q0 → List Q0} {fj : Q0 → Q0 → Option Q0} : ∀ (ts : List Q2) (as : List Q0), (∀ (j : Nat) (t : Q2) (a : Q0), ts[j]? = some t → as[j]? = some a → fm t a a = []) → kmD fm fj ts as as = []
 | [], _, _ => by simp [kmD]
 | _ :: _, [], _ => by simp [kmD]
 | t :: ts, a :: as, h => by
  simp only [kmD]
  rw [h 0 t a rfl rfl, W0m ts as fun j t a h1 h2 => h (j + 1) t a (by simpa using h1) (by simpa using h2)]
  cases fj a a <;> simp
theorem Z7z {w : List Q3} : ∀ (d : Nat) (t : Q2) (a : Q0), Z3 w d t a → X8 w d t a a = []
 | 0, _, _, h => h.elim
 | d + 1, t, a, h => by
  rcases h with rfl | ⟨n, m, rfl, hd, g0, g1, g2⟩ | ⟨c, ks, rfl, hd, hc, hl, hk⟩
  ·simp [X8]
  ·have e1 : ¬ (3 : Int) = 1 := by decide
   simp only [X8, e1, if_false, if_true]
   unfold Z0j
   rw [if_neg (by omega), if_neg (by omega)]
   rfl
  ·have e1 : ¬ (4 : Int) = 1 := by decide
   have e3 : ¬ (4 : Int) = 3 := by decide
   simp only [X8, e1, e3, if_false]
   unfold cmD
   simp only [if_true]
   rw [W0m _ ks fun j u q h1 h2 => Z7z d u q (hk j u q h1 h2)]
   rfl
theorem V4y {w : List Q3} {d x : Nat} {t : Q2} (α : Q0) : Cl w d x t (fun p => p = α) :=
 ⟨fun a b ha hb _ pb y hy => (by subst ha; subst hb; rw [Z7z d t _ pb] at hy; cases hy), fun a b ha hb _ pb m hm => by subst ha; subst hb; rw [X0w d t _ pb] at hm; cases hm; rfl⟩
structure Fam (w : List Q3) (t : Q2) (P : Q0 → Prop) : Prop where
 mi : ∀ a b, P a → P b → Z3 w 11 t a → Z3 w 10 t b → ∀ y ∈ X8 w 10 t a b, P y
 rep : ∃ (C : List Q6) (e : Nat), C.length ≤ 400 ∧ (∀ v ∈ C, Q12 w e t v) ∧ ∀ p, P p → Z3 w 11 t p → V1 w 11 t p = false → ∃ v ∈ C, fitP p v = true
theorem V40 {w : List Q3} (hw : WW w) (hr : WR w) {t : Q2} (ht : t ∈ tys w) : Fam w t hgt2 :=
 ⟨(V4z hw (d := 8) (x := 9) (by omega) ht).mi, Z73 w t, 12, hr.n2 t ht, fun v hv => X72 hw hr ht hv, fun p h1 h2 h3 => rep2 hw ht h2 h1 h3⟩
def oneP (w : List Q3) (t : Q2) (c : Int) (K : Nat → Option Q0) (p : Q0) : Prop := ∃ ks, p = Q0.mk 4 c 0 0 0 ks ∧ ks.length = (Z4 w t c).length ∧ ∀ (j : Nat) (q : Q0), ks[j]? = some q → match K j with
 | none => hgt1 q
 | some α => q = α
theorem X75 (ns : List Nat) : ∀ a b, a ≤ b → ns.foldl (fun a b => a * max 1 b) a ≤ ns.foldl (fun a b => a * max 1 b) b := by
 induction ns with
 | nil => intro a b h; exact h
 | cons n ns ih => intro a b h; rw [List.foldl_cons, List.foldl_cons]; exact ih _ _ (Nat.mul_le_mul_right _ h)
theorem Z50 : ∀ (ls : List (List Q6)) (ns : List Nat) (out : List (List Q6)), ls.length = ns.length → (∀ (j : Nat) (l : List Q6) (n : Nat), ls[j]? = some l → ns[j]? = some n → l.length ≤ max 1 n) → (ls.foldl tupV out).length ≤ ns.foldl (fun a b => a * max 1 b) out.length
 | [], [], _, _, _ => Nat.le_refl _
 | l :: ls, n :: ns, out, h, hb => by
  rw [List.foldl_cons, List.foldl_cons]
  refine Nat.le_trans (Z50 ls ns (tupV out l) (by simpa using h) fun j l n h1 h2 => hb (j + 1) l n (by simpa using h1) (by simpa using h2)) (X75 ns _ _ ?_)
  rw [Z1f]
  exact Nat.mul_le_mul_left _ (hb 0 l n rfl rfl)
 | [], _ :: _, _, h, _ => by simp at h
 | _ :: _, [], _, h, _ => by simp at h
theorem W8x {w : List Q3} (hw : WW w) (hr : WR w) {t : Q2} (ht : t ∈ tys w) {c : Int} (hd : t.data ≠ -1) (hc : c ∈ Z9 w t) (K : Nat → Option Q0) : Fam w t (oneP w t c K) := by
 have hT := hw.ty t ht
 refine ⟨fun a b ha hb pa pb y hy => ?_, ?_⟩
 ·obtain ⟨ks, rfl, hl, hk⟩ := ha
  obtain ⟨ks', rfl, hl', hk'⟩ := hb
  have e1 : ¬ (4 : Int) = 1 := by decide
  have e3 : ¬ (4 : Int) = 3 := by decide
  simp only [X8, e1, e3, if_false] at hy
  unfold cmD at hy
  simp only [if_true] at hy
  obtain ⟨zs, hz, rfl⟩ := List.mem_map.1 hy
  have pk : ∀ (j : Nat) (u : Q2) (q : Q0), (Z4 w t c)[j]? = some u → ks[j]? = some q → Z3 w 10 u q := by
   rcases pa with h | ⟨_, _, h, _⟩ | ⟨c2, ks2, h, _, _, _, h4⟩
   ·cases h
   ·cases h
   ·cases h; exact h4
  have pk' : ∀ (j : Nat) (u : Q2) (q : Q0), (Z4 w t c)[j]? = some u → ks'[j]? = some q → Z3 w 9 u q := by
   rcases pb with h | ⟨_, _, h, _⟩ | ⟨c2, ks2, h, _, _, _, h4⟩
   ·cases h
   ·cases h
   ·cases h; exact h4
  have := V3q (w := w) (d := 9) (x := 10) (P := fun j q => match K j with
   | none => hgt1 q
   | some α => q = α) hl hl' (fun j u a b e1 e2 e3 => ⟨hk j a e2, hk' j b e3, pk j u a e1 e2, pk' j u b e1 e3, by
    cases K j with
    | none => exact W97 hw (d := 8) (x := 9) (by omega) (hT.at_ c hc u (List.mem_of_getElem? e1))
    | some α => exact V4y α⟩) zs hz
  exact ⟨zs, rfl, this.1, this.2⟩
 ·have gen : ∀ (ts : List Q2) (K : Nat → Option Q0), (∀ a ∈ ts, a ∈ tys w) → ∃ ls : List (List Q6), ls.length = ts.length ∧ (∀ (j : Nat) (u : Q2) (l : List Q6), ts[j]? = some u → ls[j]? = some l → l.length ≤ max 1 (Z0k w u).length ∧ (∀ v ∈ l, Q12 w 20 u v) ∧
    ∀ q, (match K j with | none => hgt1 q | some α => q = α) → Z3 w 10 u q → V1 w 10 u q = false → ∃ v ∈ l, fitP q v = true) := by
   intro ts
   induction ts with
   | nil => intro K _; exact ⟨[], rfl, fun j u l h => by simp at h⟩
   | cons a ts ih =>
    intro K hat
    obtain ⟨ls, e1, e2⟩ := ih (fun j => K (j + 1)) fun x hx => hat x (by simp [hx])
    have hat0 := hat a (by simp)
    have hex : ∃ l : List Q6, l.length ≤ max 1 (Z0k w a).length ∧ (∀ v ∈ l, Q12 w 20 a v) ∧ ∀ q, (match K 0 with | none => hgt1 q | some α => q = α) → Z3 w 10 a q → V1 w 10 a q = false → ∃ v ∈ l, fitP q v = true := by
     cases hK : K 0 with
     | none => exact ⟨Z0k w a, by omega, fun v hv => Z0c 11 20 a v (by omega) (Z7t hw hr hat0 hv), fun q h1 h2 h3 => rep1 hw hat0 h2 h1 h3⟩
     | some α =>
      by_cases hα : Z3 w 10 a α ∧ V1 w 10 a α = false
      ·obtain ⟨v, hv, hf⟩ := Z7w hw hr 10 a α hat0 hα.1 hα.2
       exact ⟨[v], by simp only [List.length_singleton]; omega, fun x hx => by simp only [List.mem_singleton] at hx; rw [hx]; exact hv, fun q h1 _ _ => ⟨v, by simp, by rw [show q = α from h1]; exact hf⟩⟩
      ·exact ⟨[], by simp, fun v hv => by (cases hv), fun q h1 h2 h3 => absurd (by rw [show q = α from h1] at h2 h3; exact ⟨h2, h3⟩) hα⟩
    obtain ⟨l, g1, g2, g3⟩ := hex
    refine ⟨l :: ls, by simp [e1], fun j u m h1 h2 => ?_⟩
    cases j with
    | zero => simp only [List.getElem?_cons_zero, Option.some.injEq] at h1 h2; subst h1 h2; exact ⟨g1, g2, g3⟩
    | succ j => exact e2 j u m (by simpa using h1) (by simpa using h2)
  obtain ⟨ls, e1, e2⟩ := gen (Z4 w t c) K (hT.at_ c hc)
  refine ⟨(ls.foldl tupV [[]]).map (mkV c), 21, ?_, fun v hv => ?_, fun p hp pp hem => ?_⟩
  ·rw [List.length_map]
   refine Nat.le_trans (Z50 ls ((Z4 w t c).map fun a => (Z0k w a).length) [[]] (by simp [e1]) fun j l n h1 h2 => ?_) (hr.n1 t ht c hc)
   rw [List.getElem?_map, Option.map_eq_some_iff] at h2
   obtain ⟨u, hu, rfl⟩ := h2
   exact (e2 j u l hu h1).1
  ·obtain ⟨ks, hks, rfl⟩ := List.mem_map.1 hv
   obtain ⟨a, b, ha, rfl, hl, hb⟩ := Q9c _ _ _ hks
   simp only [List.mem_singleton] at ha
   subst ha
   refine Z90 hd hc (by simp; omega) fun j u x hu hx => ?_
   have hjl := (List.getElem?_eq_some_iff.1 hu).1
   have hlj : ls[j]? = some (ls[j]'(by omega)) := by simp
   exact (e2 j u _ hu hlj).2.1 x (hb j x _ (by simpa using hx) hlj)
  ·obtain ⟨ks, rfl, hl, hk⟩ := hp
   have pk : ∀ (j : Nat) (u : Q2) (q : Q0), (Z4 w t c)[j]? = some u → ks[j]? = some q → Z3 w 10 u q := by
    rcases pp with h | ⟨_, _, h, _⟩ | ⟨c2, ks2, h, _, _, _, h4⟩
    ·cases h
    ·cases h
    ·cases h; exact h4
   have gen2 : ∀ (ts : List Q2) (ls : List (List Q6)) (ks : List Q0), ls.length = ts.length → ks.length = ts.length → (∀ (j : Nat) (u : Q2) (l : List Q6) (q : Q0), ts[j]? = some u → ls[j]? = some l → ks[j]? = some q → ∃ v ∈ l, fitP q v = true) →
     ∃ vs : List Q6, vs.length = ls.length ∧ (∀ (j : Nat) (v : Q6) (l : List Q6), vs[j]? = some v → ls[j]? = some l → v ∈ l) ∧ fitL ks vs = true := by
    intro ts
    induction ts with
    | nil => intro ls ks h1 h2 _; exact ⟨[], by simp at h1; simp [h1], fun j v l h => by simp at h, by
      simp at h2; rw [h2]; exact Z4u⟩
    | cons u ts ih =>
     intro ls ks h1 h2 h
     cases ls with
     | nil => simp at h1
     | cons l ls =>
      cases ks with
      | nil => simp at h2
      | cons q ks =>
       obtain ⟨vs, g1, g2, g3⟩ := ih ls ks (by simpa using h1) (by simpa using h2) fun j u l q a1 a2 a3 => h (j + 1) u l q (by simpa using a1) (by simpa using a2) (by simpa using a3)
       obtain ⟨v, hv, hf⟩ := h 0 u l q rfl rfl rfl
       refine ⟨v :: vs, by simp [g1], fun j x m a1 a2 => ?_, by rw [Q4a, hf, g3]; rfl⟩
       cases j with
       | zero => simp only [List.getElem?_cons_zero, Option.some.injEq] at a1 a2; subst a1 a2; exact hv
       | succ j => exact g2 j x m (by simpa using a1) (by simpa using a2)
   obtain ⟨vs, g1, g2, g3⟩ := gen2 (Z4 w t c) ls ks e1 hl fun j u l q a1 a2 a3 => (e2 j u l a1 a2).2.2 q (hk j q a3) (pk j u q a1 a3) (by
    cases hem2 : V1 w 10 u q with
    | false => rfl
    | true =>
     have : V1 w 11 t (Q0.mk 4 c 0 0 0 ks) = true := Q3w.2 ⟨j, u, q, a1, a3, hem2⟩
     rw [hem] at this
     cases this)
   refine ⟨mkV c vs, List.mem_map_of_mem ?_, by rw [Q0v rfl]; simp [mkV, g3]⟩
   have := Z5m ls [[]] [] vs (by simp) g1 g2
   simpa using this
theorem X6q {w : List Q3} {t : Q2} {P : Q0 → Prop} (hF : Fam w t P) : ∀ (bs l r : List Q0), (∀ b ∈ bs, P b ∧ Z3 w 10 t b) → (∀ a ∈ l, P a ∧ Z3 w 11 t a ∧ V1 w 11 t a = false) → Q5d w 10 11 t l bs = some r → ∀ y ∈ r, P y ∧ Z3 w 11 t y ∧ V1 w 11 t y = false
 | [], l, r, _, h, e => by simp only [Q5d, Option.some.injEq] at e; subst e; exact h
 | b :: bs, l, r, hb, h, e => by
  simp only [Q5d] at e
  split at e
  ·cases e
  ·refine X6q hF bs _ r (fun b hb' => hb b (by simp [hb'])) (fun y hy => ?_) e
   have hp := Q6w (d := 10) (x := 11) (by omega) (hb b (by simp)).2 (fun a ha => (h a ha).2.1) y hy
   unfold Q2l Q67 at hy
   obtain ⟨h1, h2⟩ := List.mem_filter.1 hy
   obtain ⟨a, ha, hya⟩ := List.mem_flatMap.1 h1
   exact ⟨hF.mi a b (h a ha).1 (hb b (by simp)).1 (h a ha).2.1 (hb b (by simp)).2 y hya, hp, by simpa using h2⟩
theorem X9s {w : List Q3} {t : Q2} {P : Q0 → Prop} (hF : Fam w t P) : ∀ (ps bef r : List Q0), (∀ b ∈ bef, P b ∧ Z3 w 10 t b) → (∀ p ∈ ps, P p ∧ Z3 w 10 t p) → sepP w t bef ps = some r → ∀ y ∈ r, P y ∧ Z3 w 11 t y ∧ V1 w 11 t y = false
 | [], _, r, _, _, e => by simp only [sepP, Option.some.injEq] at e; subst e; simp
 | p :: ps, bef, r, hb, hp, e => by
  simp only [sepP] at e
  cases hm : Q3c w 10 11 t [p] bef with
  | none => rw [hm] at e; simp at e
  | some m =>
   rw [hm] at e
   simp only [Option.bind_some, Option.map_eq_some_iff] at e
   obtain ⟨r2, h2, rfl⟩ := e
   intro y hy
   rcases List.mem_append.1 hy with hy | hy
   ·refine X6q hF bef _ m hb (fun a ha => ?_) hm y hy
    obtain ⟨h3, h4⟩ := List.mem_filter.1 ha
    simp only [List.mem_singleton] at h3
    subst h3
    exact ⟨(hp a (by simp)).1, Q5h 10 t a (hp a (by simp)).2, by simpa using h4⟩
   ·exact X9s hF ps (bef ++ [p]) r2 (fun b hb' => by
     rcases List.mem_append.1 hb' with h | h
     ·exact hb b h
     ·simp only [List.mem_singleton] at h; rw [h]; exact hp p (by simp)) (fun q hq => hp q (by simp [hq])) h2 y hy
theorem W7s {w : List Q3} (hw : WW w) (he : WE w) {t : Q2} (ht : t ∈ tys w) {P : Q0 → Prop} (hF : Fam w t P) {ps r : List Q0} (hp : ∀ p ∈ ps, P p ∧ Z3 w 10 t p) (h : sepP w t [] ps = some r) : r.length ≤ 400 := by
 obtain ⟨C, e, h1, h2, h3⟩ := hF.rep
 have h4 := X9s hF ps [] r (by simp) hp h
 exact Nat.le_trans (X8f h2 (X52 hw he ht ps [] r (by simp) (fun p hp' => (hp p hp').2) h) fun p hp' => h3 p (h4 p hp').1 (h4 p hp').2.1 (h4 p hp').2.2) h1
end Go.Proofs.YtnackipaoepmfaaGreat
namespace Go.Proofs.YtnackipaoepmfaaGreat
open Go Go.RowKit
theorem X9g : ∀ (ls : List (List Q0)) (out : List (List Q0)) (ks : List Q0), ks ∈ ls.foldl tupD out →
  ∃ a b, a ∈ out ∧ ks = a ++ b ∧ b.length = ls.length ∧ ∀ (i : Nat) (q : Q0) (l : List Q0), b[i]? = some q → ls[i]? = some l → q ∈ l
 | [], out, ks, h => ⟨ks, [], by simpa using h, by simp, rfl, by simp⟩
 | l :: ls, out, ks, h => by
  rw [List.foldl_cons] at h
  obtain ⟨a, b, ha, rfl, hl, hb⟩ := X9g ls (tupD out l) ks h
  simp only [tupD, List.mem_flatMap, List.mem_map] at ha
  obtain ⟨a0, h0, c, hc, rfl⟩ := ha
  refine ⟨a0, c :: b, h0, by simp, by simp [hl], fun i q m h1 h2 => ?_⟩
  cases i with
  | zero => simp at h1 h2; subst h1 h2; exact hc
  | succ i => exact hb i q m (by simpa using h1) (by simpa using h2)
theorem Q6x {d : Nat} {p q : Q0} (h : q ∈ Z1 (d + 1) p) : (p.op = 5 ∧ ∃ x ∈ p.kids, q ∈ Z1 d x) ∨
  (p.op ≠ 5 ∧ ∃ ks, q = Q5v p ks ∧ ks.length = p.kids.length ∧ ∀ (i : Nat) (y x : Q0), ks[i]? = some y → p.kids[i]? = some x → y ∈ Z1 d x) := by
 simp only [Z1] at h
 split at h
 ·rename_i h5
  obtain ⟨x, hx, hq⟩ := List.mem_flatMap.1 h
  exact .inl ⟨h5, x, hx, hq⟩
 ·rename_i h5
  obtain ⟨ks, hks, rfl⟩ := List.mem_map.1 h
  obtain ⟨a, b, ha, rfl, hl, hb⟩ := X9g _ _ ks hks
  simp only [List.mem_singleton] at ha
  subst ha
  refine .inr ⟨h5, b, by simp, by simpa using hl, fun i y x hy hx => ?_⟩
  exact hb i y (Z1 d x) hy (by rw [List.getElem?_map, hx]; rfl)
end Go.Proofs.YtnackipaoepmfaaGreat
namespace Go.Proofs.YtnackipaoepmfaaGreat
open Go Go.RowKit
def Par {α : Type} (x : Option α) (Q : α → Prop) : Prop := ∀ a, x = some a → Q a
theorem Par.some {α : Type} {a : α} {Q : α → Prop} (h : Q a) : Par (some a) Q := fun b e => by cases e; exact h
theorem Par.none {α : Type} {Q : α → Prop} : Par (none : Option α) Q := fun b e => by cases e
theorem Par.bind {α β : Type} {x : Option α} {f : α → Option β} {P : α → Prop} {Q : β → Prop} (hx : Par x P) (hf : ∀ a, P a → Par (f a) Q) : Par (x.bind f) Q := fun b e => by
 cases hx' : x with
 | none => rw [hx'] at e; cases e
 | some a => rw [hx'] at e; exact hf a (hx a hx') b e
theorem Par.any {α β : Type} {x : Option α} {f : α → Option β} {Q : β → Prop} (hf : ∀ a, Par (f a) Q) : Par (x.bind f) Q := Par.bind (P := fun _ => True) (fun _ _ => trivial) fun a _ => hf a
theorem Par.ite {α : Type} {b : Bool} {x y : Option α} {Q : α → Prop} (h1 : b = true → Par x Q) (h2 : b = false → Par y Q) : Par (if b = true then x else y) Q := by
 cases b with
 | true => exact h1 rfl
 | false => exact h2 rfl
theorem Par.mono {α : Type} {x : Option α} {P Q : α → Prop} (h : ∀ a, P a → Q a) (hx : Par x P) : Par x Q := fun a e => h a (hx a e)
theorem Par.ctl {ρ σ τ : Type} {x : Option (Ctl ρ σ)} {g : Ctl ρ σ → Option τ} {R : ρ → Prop} {B : σ → Prop} {Q : τ → Prop} (h : Par x (CtlQ R B)) (hr : ∀ r, R r → Par (g (.ret r)) Q) (hb : ∀ s, B s → Par (g (.brk s)) Q) : Par (x.bind g) Q :=
 Par.bind h fun a ha => by
  cases a with
  | ret r => exact hr r ha
  | brk s => exact hb s ha
  | go s => exact ha.elim
theorem Z4s {α σ ρ : Type} {f : Nat → α → σ → Option (Ctl ρ σ)} (I : Nat → σ → Prop) (R : ρ → Prop) (B : σ → Prop) : ∀ (xs : List α) (i : Nat) (s0 : σ), I i s0 → (∀ k x s, x ∈ xs → I k s → Par (f k x s) (RndQ R B (I (k + 1)))) → (∀ s, I (i + xs.length) s → B s) → Par (forL f i xs s0) (CtlQ R B)
 | [], i, s0, h0, _, hb => by
  unfold forL
  exact .some (hb s0 (by simpa using h0))
 | x :: xs, i, s0, h0, st, hb => by
  unfold forL
  have h1 := st i x s0 (by simp) h0
  intro a e
  cases hf : f i x s0 with
  | none => rw [hf] at e; cases e
  | some o =>
   rw [hf] at e
   have h2 := h1 o hf
   cases o with
   | ret r => cases e; exact h2
   | brk s => cases e; exact h2
   | go s => exact Z4s I R B xs (i + 1) s h2 (fun k y s hy => st k y s (by simp [hy])) (fun s hs => hb s (by simpa [Nat.add_assoc, Nat.add_comm 1] using hs)) a e
theorem Ret.both {α : Type} {x : Option α} {P Q : α → Prop} (h : Ret x P) (k : Par x Q) : Ret x (fun a => P a ∧ Q a) := by
 obtain ⟨a, e, hp⟩ := h
 exact ⟨a, e, hp, k a e⟩
theorem W9g {α : Type} (xs ys : List α) : Par (app xs ys) (fun z => z = xs ++ ys) := fun z hz => by
 unfold app at hz
 split at hz
 ·cases hz; rfl
 ·cases hz
theorem W0f (r : X0) (l : List Int) : Par (Y6 r l) (fun a => a.1 ∈ l) := by
 unfold Y6
 refine Par.any fun a => ?_
 refine Par.bind (P := fun x => x ∈ l) (fun x hx => ?_) (fun x hx => .some hx)
 unfold idx at hx
 split at hx
 ·exact List.mem_of_getElem? hx
 ·cases hx
end Go.Proofs.YtnackipaoepmfaaGreat
namespace Go.Proofs.YtnackipaoepmfaaGreat
open Go Go.RowKit
def lvB : Nat → Q0 → Prop
 | 0, p => p.op = 1
 | m + 1, p => p.op = 1 ∨ p.op = 3 ∨ ((p.op = 4 ∨ p.op = 5) ∧ ∀ q ∈ p.kids, lvB m q)
theorem X5i {m : Nat} {p : Q0} (h : p.op = 1) : lvB m p := by
 cases m with
 | zero => exact h
 | succ m => exact .inl h
theorem W0i : ∀ {m : Nat} {p : Q0}, lvB m p → lvB (m + 1) p
 | 0, _, h => .inl h
 | m + 1, _, h => by
  rcases h with h | h | ⟨h, k⟩
  ·exact .inl h
  ·exact .inr (.inl h)
  ·exact .inr (.inr ⟨h, fun q hq => W0i (k q hq)⟩)
theorem Z03 : ∀ (D : Nat) {m : Nat} {p : Q0}, lvB m p → lvB m (X6 D p)
 | 0, _, _, h => h
 | D + 1, m, p, h => by
  have hop : p.op ≠ 2 ∧ p.op ≠ 6 := by
   cases m with
   | zero => have : p.op = 1 := h; omega
   | succ m => rcases h with h | h | ⟨h | h, _⟩ <;> omega
  rw [X6, if_neg hop.1, if_neg (fun hh => hop.2 hh.1)]
  cases m with
  | zero => exact h
  | succ m =>
   rcases h with h | h | ⟨h, k⟩
   ·exact .inl h
   ·exact .inr (.inl h)
   ·refine .inr (.inr ⟨h, fun q hq => ?_⟩)
    obtain ⟨x, hx, rfl⟩ := List.mem_map.1 hq
    exact Z03 D (k x hx)
theorem Z1i {d : Nat} {q : Q0} (h : q ∈ Z1 d (Q0.mk 1 0 0 0 0 [])) : q = Q0.mk 1 0 0 0 0 [] := by
 cases d with
 | zero => simp [Z1] at h
 | succ d => simpa [Z1, Q5v] using h
theorem Z9i {w : List Q3} {d : Nat} {t : Q2} {p : Q0} (h : altD w d t p) (h1 : p.op = 1) : p = Q0.mk 1 0 0 0 0 [] := by
 cases d with
 | zero => exact h.elim
 | succ d =>
  rcases h with h | ⟨n, m, rfl, _⟩ | ⟨c, ks, rfl, _⟩ | ⟨a, b, rfl, _⟩
  ·exact h
  ·simp at h1
  ·simp at h1
  ·simp at h1
def oneS (d : Nat) (p : Q0) : Prop := ∃ α, ∀ q ∈ Z1 d p, q = α
theorem X0s {d : Nat} {p : Q0} (h5 : p.op ≠ 5) (h : ∀ x ∈ p.kids, oneS d x) : oneS (d + 1) p := by
 have gen : ∀ ks : List Q0, (∀ x ∈ ks, oneS d x) → ∃ as : List Q0, as.length = ks.length ∧ ∀ (i : Nat) (x a y : Q0), ks[i]? = some x → as[i]? = some a → y ∈ Z1 d x → y = a := by
  intro ks
  induction ks with
  | nil => intro _; exact ⟨[], rfl, fun i x a y h => by simp at h⟩
  | cons k ks ih =>
   intro h
   obtain ⟨as, e1, e2⟩ := ih fun x hx => h x (by simp [hx])
   obtain ⟨α, hα⟩ := h k (by simp)
   refine ⟨α :: as, by simp [e1], fun i x a y h1 h2 h3 => ?_⟩
   cases i with
   | zero => simp only [List.getElem?_cons_zero, Option.some.injEq] at h1 h2; subst h1 h2; exact hα y h3
   | succ i => exact e2 i x a y (by simpa using h1) (by simpa using h2) h3
 obtain ⟨as, e1, e2⟩ := gen p.kids h
 refine ⟨Q5v p as, fun q hq => ?_⟩
 rcases Q6x hq with ⟨h, _⟩ | ⟨_, ks, rfl, hl, hk⟩
 ·exact absurd h h5
 ·congr 1
  refine List.ext_getElem? fun i => ?_
  by_cases hi : i < ks.length
  ·have h1 : ks[i]? = some (ks[i]) := List.getElem?_eq_getElem hi
   have h2 : p.kids[i]? = some (p.kids[i]'(by omega)) := List.getElem?_eq_getElem (by omega)
   have h3 : as[i]? = some (as[i]'(by omega)) := List.getElem?_eq_getElem (by omega)
   rw [h1, h3, e2 i _ _ _ h2 h3 (hk i _ _ h1 h2)]
  ·rw [List.getElem?_eq_none (by omega), List.getElem?_eq_none (by omega)]
theorem Q6m {w : List Q3} {d : Nat} {t : Q2} {p x : Q0} (h : altD w (d + 1) t p) (hx : x ∈ p.kids) : ∃ u, altD w d u x := by
 rcases h with rfl | ⟨n, m, rfl, _⟩ | ⟨c, ks, rfl, _, _, hl, hk⟩ | ⟨a, b, rfl, h1, h2⟩
 ·cases hx
 ·cases hx
 ·obtain ⟨j, hj⟩ := List.mem_iff_getElem?.1 hx
  have hjl := (List.getElem?_eq_some_iff.1 hj).1
  simp only at hjl hj
  have ha : (Z4 w t c)[j]? = some ((Z4 w t c)[j]'(by omega)) := by simp
  exact ⟨_, hk j _ x ha hj⟩
 ·simp only [List.mem_cons, List.not_mem_nil, or_false] at hx
  rcases hx with rfl | rfl
  ·exact ⟨t, h1⟩
  ·exact ⟨t, h2⟩
theorem Z4w {w : List Q3} {d : Nat} {t : Q2} {p : Q0} (h : altD w d t p) (h4 : p.op ≠ 4) (h5 : p.op ≠ 5) : p.kids = [] := by
 cases d with
 | zero => exact h.elim
 | succ d =>
  rcases h with rfl | ⟨n, m, rfl, _⟩ | ⟨c, ks, rfl, _⟩ | ⟨a, b, rfl, _⟩
  ·rfl
  ·rfl
  ·simp at h4
  ·simp at h5
theorem W0j {w : List Q3} {d : Nat} {t : Q2} {p : Q0} (h : altD w d t p) (l : lvB 1 p) : ∀ q ∈ Z1 d p, hgt1 q := fun q hq => by
 cases d with
 | zero => exact h.elim
 | succ d =>
 rcases Q6x hq with ⟨h5, x, hx, hqx⟩ | ⟨h5, ks, rfl, hl, hk⟩
 ·rcases l with l | l | ⟨_, l⟩
  ·omega
  ·omega
  ·obtain ⟨u, hu⟩ := Q6m h hx
   rw [Z9i hu (l x hx)] at hqx
   rw [Z1i hqx]
   exact .inl rfl
 ·rcases l with l | l | ⟨l | l, k⟩
  ·exact .inl l
  ·exact .inr (.inl l)
  ·refine .inr (.inr ⟨l, fun y hy => ?_⟩)
   obtain ⟨i, hi⟩ := List.mem_iff_getElem?.1 hy
   simp only [Q5v] at hi
   have hil := (List.getElem?_eq_some_iff.1 hi).1
   have h2 : p.kids[i]? = some (p.kids[i]'(by omega)) := List.getElem?_eq_getElem (by omega)
   have hxm := List.mem_of_getElem? h2
   obtain ⟨u, hu⟩ := Q6m h hxm
   have := hk i _ _ hi h2
   rw [Z9i hu (k _ hxm)] at this
   rw [Z1i this]
  ·omega
theorem W8f {w : List Q3} {d : Nat} {t : Q2} {p : Q0} (h : altD w d t p) (l : lvB 1 p) : oneS d p := by
 cases d with
 | zero => exact h.elim
 | succ d =>
 by_cases h5 : p.op = 5
 ·refine ⟨Q0.mk 1 0 0 0 0 [], fun q hq => ?_⟩
  rcases Q6x hq with ⟨_, x, hx, hqx⟩ | ⟨h6, _⟩
  ·rcases l with l | l | ⟨_, l⟩
   ·omega
   ·omega
   ·obtain ⟨u, hu⟩ := Q6m h hx
    rw [Z9i hu (l x hx)] at hqx
    exact Z1i hqx
  ·exact absurd h5 h6
 ·refine X0s h5 fun x hx => ?_
  rcases l with l | l | ⟨l | l, k⟩
  ·rw [Z4w h (by omega) h5] at hx; cases hx
  ·rw [Z4w h (by omega) h5] at hx; cases hx
  ·obtain ⟨u, hu⟩ := Q6m h hx
   rw [Z9i hu (k x hx)]
   exact ⟨_, fun q hq => Z1i hq⟩
  ·omega
theorem V3k {w : List Q3} {d : Nat} {t : Q2} {p : Q0} (h : altD w d t p) (l : lvB 2 p) : ∀ q ∈ Z1 d p, hgt2 q := fun q hq => by
 cases d with
 | zero => exact h.elim
 | succ d =>
 rcases Q6x hq with ⟨h5, x, hx, hqx⟩ | ⟨h5, ks, rfl, hl, hk⟩
 ·rcases l with l | l | ⟨_, l⟩
  ·omega
  ·omega
  ·obtain ⟨u, hu⟩ := Q6m h hx
   exact V3v (W0j hu (l x hx) q hqx)
 ·rcases l with l | l | ⟨l | l, k⟩
  ·exact .inl l
  ·exact .inr (.inl l)
  ·refine .inr (.inr ⟨l, fun y hy => ?_⟩)
   obtain ⟨i, hi⟩ := List.mem_iff_getElem?.1 hy
   simp only [Q5v] at hi
   have hil := (List.getElem?_eq_some_iff.1 hi).1
   have h2 : p.kids[i]? = some (p.kids[i]'(by omega)) := List.getElem?_eq_getElem (by omega)
   have hxm := List.mem_of_getElem? h2
   obtain ⟨u, hu⟩ := Q6m h hxm
   exact W0j hu (k _ hxm) y (hk i _ _ hi h2)
  ·omega
theorem W8e {w : List Q3} {d : Nat} {t : Q2} {p : Q0} (h : altD w d t p) (l : lvB 2 p) : ∃ k : Option Q0, ∀ q ∈ Z1 d p, match k with
  | none => hgt1 q
  | some α => q = α := by
 cases d with
 | zero => exact h.elim
 | succ d =>
 by_cases h5 : p.op = 5
 ·refine ⟨none, fun q hq => ?_⟩
  rcases Q6x hq with ⟨_, x, hx, hqx⟩ | ⟨h6, _⟩
  ·rcases l with l | l | ⟨_, l⟩
   ·omega
   ·omega
   ·obtain ⟨u, hu⟩ := Q6m h hx
    exact W0j hu (l x hx) q hqx
  ·exact absurd h5 h6
 ·have : oneS (d + 1) p := X0s h5 fun x hx => by
   rcases l with l | l | ⟨l | l, k⟩
   ·rw [Z4w h (by omega) h5] at hx; cases hx
   ·rw [Z4w h (by omega) h5] at hx; cases hx
   ·obtain ⟨u, hu⟩ := Q6m h hx
    exact W8f hu (k x hx)
   ·omega
  obtain ⟨α, hα⟩ := this
  exact ⟨some α, hα⟩
def X4q (w : List Q3) (t : Q2) (l : List Q0) : Prop := (∀ q ∈ l, hgt2 q) ∨ ∃ (c : Int) (K : Nat → Option Q0), t.data ≠ -1 ∧ c ∈ Z9 w t ∧ ∀ q ∈ l, oneP w t c K q
theorem V3s {w : List Q3} (hw : WW w) (hr : WR w) {t : Q2} (ht : t ∈ tys w) {l : List Q0} (h : X4q w t l) : ∃ P, Fam w t P ∧ ∀ q ∈ l, P q := by
 rcases h with h | ⟨c, K, hd, hc, h⟩
 ·exact ⟨hgt2, V40 hw hr ht, h⟩
 ·exact ⟨oneP w t c K, W8x hw hr ht hd hc K, h⟩
theorem W6o {w : List Q3} {t : Q2} {p : Q0} (h : altD w 10 t p) (l : lvB 3 p) : X4q w t (Z1 10 p) := by
 by_cases h4 : p.op = 4
 ·rcases h with rfl | ⟨n, m, rfl, _⟩ | ⟨c, ks, rfl, hd, hc, hl, hk⟩ | ⟨a, b, rfl, _⟩
  ·simp at h4
  ·simp at h4
  ·have lk : ∀ q ∈ ks, lvB 2 q := by
    rcases l with l | l | ⟨_, l⟩
    ·simp at l
    ·simp at l
    ·exact l
   have hex : ∀ j : Nat, ∃ k : Option Q0, ∀ x, ks[j]? = some x → ∀ q ∈ Z1 9 x, match k with
     | none => hgt1 q
     | some α => q = α := fun j => by
    cases hj : ks[j]? with
    | none => exact ⟨none, fun x hx => by cases hx⟩
    | some x =>
     have hjl := (List.getElem?_eq_some_iff.1 hj).1
     have ha : (Z4 w t c)[j]? = some ((Z4 w t c)[j]'(by omega)) := by simp
     obtain ⟨k, hk2⟩ := W8e (hk j _ x ha hj) (lk x (List.mem_of_getElem? hj))
     exact ⟨k, fun y hy => by cases hy; exact hk2⟩
   obtain ⟨K, hK⟩ := Classical.axiomOfChoice hex
   refine .inr ⟨c, K, hd, hc, fun q hq => ?_⟩
   rcases Q6x hq with ⟨h5, _⟩ | ⟨_, zs, rfl, hzl, hz⟩
   ·simp at h5
   ·refine ⟨zs, rfl, by simp only at hzl; omega, fun j y hy => ?_⟩
    have hjl := (List.getElem?_eq_some_iff.1 hy).1
    simp only at hzl
    have h2 : ks[j]? = some (ks[j]'(by omega)) := List.getElem?_eq_getElem (by omega)
    exact hK j _ h2 y (hz j y _ hy h2)
  ·simp at h4
 ·refine .inl fun q hq => ?_
  rcases Q6x hq with ⟨h5, x, hx, hqx⟩ | ⟨h5, ks, rfl, hl, hk⟩
  ·rcases l with l | l | ⟨_, l⟩
   ·omega
   ·omega
   ·obtain ⟨u, hu⟩ := Q6m h hx
    exact V3k hu (l x hx) q hqx
  ·rcases l with l | l | ⟨l | l, _⟩
   ·exact .inl l
   ·exact .inr (.inl l)
   ·exact absurd l h4
   ·exact absurd l h5
theorem W5n : ∀ (m n : Nat) (r : X0) (w : List Q3) (t : Q2) (depth : Int), depth ≤ m + 1 → -1000 + m ≤ depth → m ≤ 100 → Par (Q0g n r w t depth) (fun a => lvB m a.1) := by
 intro m
 induction m with
 | zero =>
  intro n r w t depth h1 _ _
  cases n with
  | zero => exact .none
  | succ n =>
   unfold Q0g
   rw [if_pos (by rw [V2]; omega)]
   exact .some rfl
 | succ m ih =>
  intro n r w t depth h1 h2 h3
  cases n with
  | zero => exact .none
  | succ n =>
  unfold Q0g
  have hws : wsub .i64 depth 1 = depth - 1 := Q4z (by omega) (by omega)
  rw [hws]
  refine Par.ite (fun _ => .some (.inl rfl)) (fun _ => ?_)
  refine Par.any fun a => Par.ite (fun _ => .some (.inl rfl)) (fun _ => ?_)
  refine Par.any fun b => Par.ite (fun _ => ?_) (fun _ => ?_)
  ·refine Par.bind (ih n b.2 w t (depth - 1) (by omega) (by omega) (by omega)) (fun c hc => ?_)
   refine Par.bind (ih n c.2 w t (depth - 1) (by omega) (by omega) (by omega)) (fun d hd => .some (.inr (.inr ⟨.inr rfl, fun q hq => ?_⟩)))
   simp only [List.mem_cons, List.not_mem_nil, or_false] at hq
   rcases hq with rfl | rfl
   ·exact hc
   ·exact hd
  ·refine Par.ite (fun _ => ?_) (fun _ => ?_)
   ·exact Par.any fun c => Par.any fun d => Par.any fun e => .some (.inr (.inl rfl))
   ·refine Par.any fun c => Par.ite (fun _ => .some (.inl rfl)) (fun _ => ?_)
    refine Par.any fun d => Par.any fun e => Par.any fun f => ?_
    refine Par.ctl (Z4s (fun _ (s : X0 × List Q0) => ∀ q ∈ s.2, lvB m q) (fun _ => False) (fun s => ∀ q ∈ s.2, lvB m q) f 0 _ (by simp) (fun k x s _ hI => ?_) (fun s hs => hs)) (fun r hr => hr.elim) (fun s hs => .some (.inr (.inr ⟨.inl rfl, hs⟩)))
    refine Par.bind (ih n s.1 w x (depth - 1) (by omega) (by omega) (by omega)) (fun b hb => ?_)
    refine Par.bind (P := fun y => y = s.2 ++ [b.1]) (fun y hy => ?_) (fun y hy => .some ?_)
    ·unfold app at hy
     split at hy
     ·cases hy; rfl
     ·cases hy
    ·subst hy
     simp only [Q3d]
     intro q hq
     rcases List.mem_append.1 hq with hq | hq
     ·exact hI q hq
     ·simp only [List.mem_singleton] at hq; rw [hq]; exact hb
theorem X20 {D : Nat} {op c n m v : Int} {ks : List Q0} (h2 : op ≠ 2) (h6 : op ≠ 6) : X6 (D + 1) (Q0.mk op c n m v ks) = Q0.mk op c n m v (ks.map (X6 D)) := by
 rw [X6, if_neg h2, if_neg (fun hh => h6 hh.1)]
theorem W3z : ∀ (m n : Nat) (r : X0) (p : Q0) (v : Int), lvB m p → Par (Q1y n r p v) (fun a => ∀ D, 2 * (m + 1) ≤ D → lvB m (X6 D a.1)) := by
 intro m
 induction m with
 | zero =>
  intro n r p v h
  have h1 : p.op = 1 := h
  cases n with
  | zero => exact .none
  | succ n =>
  unfold Q1y
  refine Par.ite (fun _ => .some fun D _ => Z03 D h) (fun _ => ?_)
  refine Par.ite (fun _ => .some fun D _ => Z03 D h) (fun _ => ?_)
  refine Par.ite (fun _ => .some fun D _ => Z03 D h) (fun _ => ?_)
  refine Par.ctl (R := fun (a : Q0 × Int × X0) => ∀ D, 2 * (0 + 1) ≤ D → lvB 0 (X6 D a.1)) (B := fun _ => True) ?_ (fun a ha => .some ha) (fun s _ => ?_)
  ·refine Par.ite (fun _ => ?_) (fun _ => .some trivial)
   refine Par.any fun a => Par.ite (fun _ => .some fun D hD => ?_) (fun _ => .some trivial)
   obtain ⟨D, rfl⟩ : ∃ k, D = k + 1 := ⟨D - 1, by omega⟩
   simp [X6, lvB]
  ·refine Par.ctl (Z4s (fun _ _ => True) (fun _ => False) (fun _ => True) p.kids 0 _ trivial (fun k x s _ _ => Par.any fun a => Par.any fun b => .some trivial) (fun _ _ => trivial)) (fun r hr => hr.elim) (fun u _ => ?_)
   refine Par.ctl (R := fun (a : Q0 × Int × X0) => ∀ D, 2 * (0 + 1) ≤ D → lvB 0 (X6 D a.1)) (B := fun _ => True) ?_ (fun a ha => .some ha) (fun s _ => .some fun D hD => ?_)
   ·refine Par.ite (fun _ => ?_) (fun _ => .some trivial)
    refine Par.any fun a => Par.ite (fun _ => .some fun D hD => ?_) (fun _ => .some trivial)
    obtain ⟨D, rfl⟩ : ∃ k, D = k + 2 := ⟨D - 2, by omega⟩
    rw [h1]
    simp [X6, lvB]
   ·obtain ⟨D, rfl⟩ : ∃ k, D = k + 1 := ⟨D - 1, by omega⟩
    rw [h1, X20 (by decide) (by decide)]
    exact rfl
 | succ m ih =>
  intro n r p v h
  cases n with
  | zero => exact .none
  | succ n =>
  unfold Q1y
  refine Par.ite (fun _ => .some fun D _ => Z03 D h) (fun _ => ?_)
  refine Par.ite (fun _ => .some fun D _ => Z03 D h) (fun h5 => ?_)
  refine Par.ite (fun _ => .some fun D _ => Z03 D h) (fun h3 => ?_)
  rw [Y3] at h5 h3
  refine Par.ctl (R := fun (a : Q0 × Int × X0) => ∀ D, 2 * (m + 1 + 1) ≤ D → lvB (m + 1) (X6 D a.1)) (B := fun _ => True) ?_ (fun a ha => .some ha) (fun s _ => ?_)
  ·refine Par.ite (fun _ => ?_) (fun _ => .some trivial)
   refine Par.any fun a => Par.ite (fun _ => .some fun D hD => ?_) (fun _ => .some trivial)
   obtain ⟨D, rfl⟩ : ∃ k, D = k + 1 := ⟨D - 1, by omega⟩
   simp [X6, lvB]
  ·refine Par.ctl (Z4s (fun _ (u : X0 × List Q0 × Int) => p.op = 1 ∨ ∀ q ∈ u.2.1, ∀ D, 2 * (m + 1) ≤ D → lvB m (X6 D q)) (fun _ => False) (fun u => p.op = 1 ∨ ∀ q ∈ u.2.1, ∀ D, 2 * (m + 1) ≤ D → lvB m (X6 D q)) p.kids 0 _ (by simp) (fun k x u hx hI => ?_) (fun _ hI => hI)) (fun r hr => hr.elim) (fun u hu => ?_)
   ·rcases h with h | h | ⟨_, hk⟩
    ·exact Par.any fun a => Par.any fun b => .some (.inl h)
    ·exact absurd h h3
    ·refine Par.bind (ih n u.1 x u.2.2 (hk x hx)) (fun a ha => ?_)
     refine Par.bind (W9g _ _) (fun b hb => .some ?_)
     subst hb
     simp only [Q3d]
     rcases hI with hI | hI
     ·exact .inl hI
     ·refine .inr fun q hq => ?_
      rcases List.mem_append.1 hq with hq | hq
      ·exact hI q hq
      ·simp only [List.mem_singleton] at hq; rw [hq]; exact ha
   ·have hop : p.op = 1 ∨ p.op = 4 := by rcases h with h | h | ⟨h | h, _⟩ <;> omega
    have hnode : ∀ D, 2 * (m + 1) + 1 ≤ D → lvB (m + 1) (X6 D (Q0.mk p.op p.ctor p.n p.m p.var u.2.1)) := fun D hD => by
     obtain ⟨D, rfl⟩ : ∃ k, D = k + 1 := ⟨D - 1, by omega⟩
     rw [X20 (by omega) (by omega)]
     rcases hop with h1 | h4
     ·exact .inl h1
     ·rcases hu with hu | hu
      ·omega
      ·refine .inr (.inr ⟨.inl h4, fun q hq => ?_⟩)
       obtain ⟨x, hx, rfl⟩ := List.mem_map.1 hq
       exact hu x hx D (by omega)
    refine Par.ctl (R := fun (a : Q0 × Int × X0) => ∀ D, 2 * (m + 1 + 1) ≤ D → lvB (m + 1) (X6 D a.1)) (B := fun _ => True) ?_ (fun a ha => .some ha) (fun s _ => .some fun D hD => hnode D (by omega))
    refine Par.ite (fun _ => ?_) (fun _ => .some trivial)
    refine Par.any fun a => Par.ite (fun _ => .some fun D hD => ?_) (fun _ => .some trivial)
    obtain ⟨D, rfl⟩ : ∃ k, D = k + 1 := ⟨D - 1, by omega⟩
    have := hnode D (by omega)
    rw [X6]
    simpa using this
theorem X50 (r : X0) (w : List Q3) (t : Q2) : Par (Q2n NN r w t) (fun a => lvB 3 (X6 10 a.1)) := by
 unfold Q2n
 refine Par.bind (W0f r _) (fun a ha => ?_)
 refine Par.bind (W5n 3 NN a.2 w t a.1 (by simp at ha; omega) (by simp at ha; omega) (by omega)) (fun b hb => ?_)
 refine Par.bind (W3z 3 NN b.2 b.1 0 hb) (fun c hc => Par.any fun d => Par.ite (fun _ => .some ?_) (fun _ => .some (hc 10 (by omega))))
 exact Z03 10 (X5i rfl)
end Go.Proofs.YtnackipaoepmfaaGreat
namespace Go.Proofs.YtnackipaoepmfaaGreat
open Go Go.RowKit
theorem Par.both {α : Type} {x : Option α} {P Q : α → Prop} (h : Par x P) (k : Par x Q) : Par x (fun a => P a ∧ Q a) := fun a e => ⟨h a e, k a e⟩
def v0P : Q0 := Q0.mk 2 0 0 0 0 []
def Mut (p q : Q0) : Prop := ((q.op = 0 ∨ q.op = 7 ∨ q.op = 1 ∨ q.op = 2 ∨ q.op = 5) ∧ q.kids = p.kids ∧ q.var = p.var) ∨
 (q.op = p.op ∧ (q.kids = p.kids ∨ (q.kids = p.kids ++ [v0P] ∧ q.var = p.var) ∨ q.kids = p.kids.set 0 v0P))
theorem W87 (r : X0) (p : Q0) : Par (Q27 r p) (fun a => Mut p a.1) := by
 unfold Q27
 refine Par.any fun x => ?_
 refine Par.ctl (R := fun _ => False) (B := fun (s : X0 × Int × Int × Int × Int × List Q0) => Mut p (Q0.mk s.2.1 s.2.2.1 s.2.2.2.1 p.m s.2.2.2.2.1 s.2.2.2.2.2)) ?_ (fun r hr => hr.elim) (fun s hs => .some hs)
 have same : ∀ (r : X0) (c n v : Int), Par (some (Ctl.brk (ρ := Q0 × X0) (r, p.op, c, n, v, p.kids))) (CtlQ (fun _ => False) (fun (s : X0 × Int × Int × Int × Int × List Q0) => Mut p (Q0.mk s.2.1 s.2.2.1 s.2.2.2.1 p.m s.2.2.2.2.1 s.2.2.2.2.2))) := fun r c n v => .some (.inr ⟨rfl, .inl rfl⟩)
 refine Par.any fun a => Par.ite (fun _ => ?_) (fun _ => Par.ite (fun _ => Par.any fun b => same _ _ _ _) (fun _ => Par.ite (fun _ => Par.any fun b => same _ _ _ _) (fun _ => Par.ite (fun _ => ?_) (fun _ => Par.ite (fun _ => Par.ite (fun _ => Par.any fun b => ?_) (fun _ => same _ _ _ _)) (fun _ => Par.ite (fun _ => Par.any fun b => same _ _ _ _) (fun _ => same _ _ _ _))))))
 ·refine Par.bind (W0f _ _) (fun b hb => .some (.inl ⟨?_, rfl, rfl⟩))
  simpa using hb
 ·exact Par.any fun b => .some (.inr ⟨rfl, .inr (.inl ⟨rfl, rfl⟩)⟩)
 ·refine Par.bind (P := fun z => z = p.kids.set 0 v0P) (fun z hz => ?_) (fun z hz => .some (.inr ⟨rfl, .inr (.inr hz)⟩))
  unfold setI at hz
  split at hz
  ·cases hz; rfl
  ·cases hz
theorem X5e {p q : Q0} (h : Mut p q) : ∀ k ∈ q.kids, k ∈ p.kids ∨ k = v0P := fun k hk => by
 rcases h with ⟨_, h, _⟩ | ⟨_, h | ⟨h, _⟩ | h⟩
 ·rw [h] at hk; exact .inl hk
 ·rw [h] at hk; exact .inl hk
 ·rw [h] at hk; simpa using hk
 ·rw [h] at hk; exact List.mem_or_eq_of_mem_set hk
theorem W27 (d : Nat) : lvB 2 (X6 (d + 1) v0P) := by
 have : X6 (d + 1) v0P = Q0.mk 1 0 0 0 0 [] := by simp [X6, v0P]
 rw [this]
 exact X5i rfl
theorem W88 {w : List Q3} {t : Q2} {p q1 q : Q0} (hp : Q16 w 10 t p = true) (lp : linD w 10 t p = true) (hq : Q16 w 10 t q = true) (lq : linD w 10 t q = true) (h : lvB 3 (X6 10 p)) (m1 : Mut p q1) (m2 : Mut q1 q) : lvB 3 (X6 10 q) := by
 obtain ⟨po, pl⟩ := Q4e (Q3o hp)
 obtain ⟨qo, ql⟩ := Q4e (Q3o hq)
 have pc := po
 have qc := qo
 simp only [Q94, Bool.and_eq_true, Bool.or_eq_true, decide_eq_true_eq] at pc qc
 have hk : ∀ k ∈ q.kids, k ∈ p.kids ∨ k = v0P := fun k hk => by
  rcases X5e m2 k hk with h | h
  ·exact X5e m1 k h
  ·exact .inr h
 have hop : q.op = p.op ∨ q.op = 0 ∨ q.op = 7 ∨ q.op = 1 ∨ q.op = 2 ∨ q.op = 5 := by
  rcases m2 with ⟨h, _⟩ | ⟨h, _⟩
  ·exact .inr h
  ·rcases m1 with ⟨h', _⟩ | ⟨h', _⟩
   ·right; rw [h]; exact h'
   ·left; rw [h, h']
 have qcase : q.op = 1 ∨ q.op = 2 ∨ q.op = 5 ∨ q.op = 6 ∨ q.op = 3 ∨ q.op = 4 := by
  rcases qc.2 with (h | h) | h
  ·omega
  ·omega
  ·omega
 have pcase : p.op = 1 ∨ p.op = 2 ∨ p.op = 5 ∨ p.op = 6 ∨ p.op = 3 ∨ p.op = 4 := by
  rcases pc.2 with (h | h) | h
  ·omega
  ·omega
  ·omega
 have bq : q.op ≠ 2 → q.op ≠ 6 → X6 10 q = Q0.mk q.op q.ctor q.n q.m q.var (q.kids.map (X6 9)) := fun h2 h6 => by
  rw [X6, if_neg h2, if_neg (fun h => h6 h.1)]
 have bp : p.op ≠ 2 → p.op ≠ 6 → X6 10 p = Q0.mk p.op p.ctor p.n p.m p.var (p.kids.map (X6 9)) := fun h2 h6 => by
  rw [X6, if_neg h2, if_neg (fun h => h6 h.1)]
 have pk : (p.op = 4 ∨ p.op = 5) → ∀ k ∈ p.kids, lvB 2 (X6 9 k) := fun ho k hk => by
  rw [bp (by omega) (by omega)] at h
  rcases h with h | h | ⟨_, h⟩
  ·simp only at h; omega
  ·simp only at h; omega
  ·exact h _ (List.mem_map_of_mem hk)
 have fin : (q.op = 4 ∨ q.op = 5) → (∀ k ∈ p.kids, k ∈ q.kids → lvB 2 (X6 9 k)) → lvB 3 (X6 10 q) := fun ho hh => by
  rw [bq (by omega) (by omega)]
  refine .inr (.inr ⟨ho, fun k hk' => ?_⟩)
  obtain ⟨k0, hk0, rfl⟩ := List.mem_map.1 hk'
  rcases hk k0 hk0 with h | h
  ·exact hh k0 h hk0
  ·rw [h]; exact W27 8
 rcases qcase with q1' | q2 | q5 | q6 | q3 | q4
 ·rw [bq (by omega) (by omega)]
  exact X5i q1'
 ·rw [X6, if_pos q2]
  exact X5i rfl
 ·refine fin (.inr q5) fun k hkp hkq => ?_
  rcases pcase with h' | h' | h' | h' | h' | h'
  ·have : p.kids = [] := List.eq_nil_of_length_eq_zero (by rw [pl, Y5, if_neg (by omega), if_neg (by omega), if_neg (by omega)]; rfl)
   rw [this] at hkp; cases hkp
  ·have : p.kids = [] := List.eq_nil_of_length_eq_zero (by rw [pl, Y5, if_neg (by omega), if_neg (by omega), if_neg (by omega)]; rfl)
   rw [this] at hkp; cases hkp
  ·exact pk (.inr h') k hkp
  ·exfalso
   have pl1 : p.kids.length = 1 := by rw [pl, Y5, if_neg (by omega), if_neg (by omega), if_pos h']; rfl
   have ql2 : q.kids.length = 2 := by rw [ql, Y5, if_neg (by omega), if_pos q5]; rfl
   obtain ⟨k0, hk0⟩ : ∃ k0, p.kids = [k0] := by
    match hp' : p.kids, pl1 with
    | [a], _ => exact ⟨a, rfl⟩
   have hqk : q.kids = [k0, v0P] ∧ q.var = p.var := by
    rcases m1 with ⟨_, a1, a2⟩ | ⟨a0, a1⟩
    ·rcases m2 with ⟨_, b1, b2⟩ | ⟨b0, b1 | ⟨b1, b2⟩ | b1⟩
     ·rw [b1, a1, hk0] at ql2; simp at ql2
     ·rw [b1, a1, hk0] at ql2; simp at ql2
     ·exact ⟨by rw [b1, a1, hk0]; rfl, by rw [b2, a2]⟩
     ·rw [b1, a1, hk0] at ql2; simp at ql2
    ·rcases m2 with ⟨_, b1, b2⟩ | ⟨b0, _⟩
     ·rcases a1 with a1 | ⟨a1, a2⟩ | a1
      ·rw [b1, a1, hk0] at ql2; simp at ql2
      ·exact ⟨by rw [b1, a1, hk0]; rfl, by rw [b2, a2]⟩
      ·rw [b1, a1, hk0] at ql2; simp at ql2
     ·omega
   have hv0 : q.var = 0 := by
    have := qc.1.1.1
    rw [if_neg (by omega)] at this
    simpa using this
   have kq : Y5 w t q = [t, t] := by rw [Y5, if_neg (by omega), if_pos q5]
   have kp : Y5 w t p = [t] := by rw [Y5, if_neg (by omega), if_neg (by omega), if_pos h']
   have e1 : kv w 9 t q 0 = Q2z w 9 t k0 := by simp [kv, kq, hqk.1]
   have e2 : kv w 9 t q 1 = [⟨0, t⟩] := by
    simp only [kv, kq, hqk.1]
    simp [Q2z, ownV, v0P]
   have e3 : Q2z w 10 t p = ⟨0, t⟩ :: Q2z w 9 t k0 := by
    rw [Q2z, kp, hk0, if_neg (by omega)]
    simp [ownV, h', ← hqk.2, hv0]
   rw [linD, if_pos q5] at lq
   rw [linD, if_neg (by omega)] at lp
   simp only [Bool.and_eq_true] at lq lp
   have a := lq.2
   have b := lp.2
   rw [e1, e2] at a
   rw [e3] at b
   simp only [Q87, Bool.and_eq_true, decide_eq_true_eq, List.all_eq_true] at a
   simp only [Q1g, decide_eq_true_eq] at b
   match hx : Q2z w 9 t k0, a with
   | [x], a =>
    have hxx := a.2 x (by simp)
    simp only [List.mem_singleton] at hxx
    rw [hx, hxx] at b
    simp at b
  ·have : p.kids = [] := List.eq_nil_of_length_eq_zero (by rw [pl, Y5, if_neg (by omega), if_neg (by omega), if_neg (by omega)]; rfl)
   rw [this] at hkp; cases hkp
  ·exact pk (.inl h') k hkp
 ·have p6 : p.op = 6 := by omega
  have pl1 : p.kids.length = 1 := by rw [pl, Y5, if_neg (by omega), if_neg (by omega), if_pos p6]; rfl
  have ql1 : q.kids.length = 1 := by rw [ql, Y5, if_neg (by omega), if_neg (by omega), if_pos q6]; rfl
  obtain ⟨k0, hk0⟩ : ∃ k0, p.kids = [k0] := by
   match hp' : p.kids, pl1 with
   | [a], _ => exact ⟨a, rfl⟩
  obtain ⟨k1, hk1⟩ : ∃ k0, q.kids = [k0] := by
   match hp' : q.kids, ql1 with
   | [a], _ => exact ⟨a, rfl⟩
  have eq : X6 10 q = X6 9 k1 := by rw [X6, if_neg (by omega), if_pos ⟨q6, by rw [hk1]; simp⟩, hk1]; rfl
  have ep : X6 10 p = X6 9 k0 := by rw [X6, if_neg (by omega), if_pos ⟨p6, by rw [hk0]; simp⟩, hk0]; rfl
  rw [eq]
  rcases hk k1 (by rw [hk1]; simp) with h1 | h1
  ·rw [hk0, List.mem_singleton] at h1
   rw [h1, ← ep]
   exact h
  ·rw [h1]
   exact W0i (W27 8)
 ·rw [bq (by omega) (by omega)]
  exact .inr (.inl q3)
 ·exact fin (.inl q4) fun k hkp _ => pk (.inl (by omega)) k hkp
def X8m (w : List Q3) (t : Q2) (c : Z5) : Prop := Q06 w t c.pat = true → lvB 3 (X6 10 c.pat)
end Go.Proofs.YtnackipaoepmfaaGreat
namespace Go.Proofs.YtnackipaoepmfaaGreat
open Go Go.RowKit
theorem X0d {w : List Q3} (hw : WW w) (he : WE w) {t : Q2} (ht : t ∈ tys w) {ps : List Q0} (hp : ∀ p ∈ ps, Z3 w 10 t p ∧ cntP p ≤ 130) (hl : ps.length ≤ 1600) (hfew : ∀ r, sepP w t [] ps = some r → r.length ≤ 400) :
  Q3q NN w (tabP w) t ps = some (optR (sepP w t [] ps)) := by
 suffices hs : Ret (Q3q NN w (tabP w) t ps) (fun r => r = optR (sepP w t [] ps)) by
  obtain ⟨a, e, rfl⟩ := hs
  exact e
 unfold Q3q
 refine Ret.ctl (Z7 ps (fun k s => s.length ≤ 400 ∧ sepP w t [] ps = (sepP w t (ps.take k) (ps.drop k)).map (s ++ ·)) (fun r => r = ([], false) ∧ sepP w t [] ps = none) (fun s => sepP w t [] ps = some s) ⟨by simp, by simp⟩ (fun k p s hp' hI => ?_) (fun s hI => ?_)) (fun r hr => .some (by rw [hr.1, hr.2]; rfl)) (fun s hs => .some (by rw [hs]; rfl))
 ·obtain ⟨hsl, hI⟩ := hI
  have hk := (List.getElem?_eq_some_iff.1 hp').1
  have hpm := hp p (List.mem_of_getElem? hp')
  have hsub : subI ps (k : Int) (wadd .i64 (k : Int) 1) = some [p] := by
   rw [Q18 (by omega) (by omega)]
   unfold subI
   rw [if_pos ⟨by omega, by omega, by omega⟩]
   have h1 : ((k : Int) + 1).toNat = k + 1 := by omega
   rw [h1, Int.toNat_natCast, List.take_add_one, hp', List.drop_append, List.length_take, Nat.min_eq_left (by omega), Nat.sub_self, List.drop_of_length_le (by rw [List.length_take]; omega)]
   rfl
  rw [hsub]
  simp only [Option.bind_some]
  rw [X4v (by omega)]
  simp only [Option.bind_some]
  rw [Z55 hw he (d := 10) (x := 11) ht (by omega) (by omega) (fun b hb => hp b (List.mem_of_mem_take hb)) (fun a ha => by simp only [List.mem_singleton] at ha; rw [ha]; exact Q5h 10 t p hpm.1) (by simp) (by simp only [NN]; omega)]
  simp only [Option.bind_some]
  rw [X4g hp'] at hI
  simp only [sepP] at hI
  cases hm : Q3c w 10 11 t [p] (ps.take k) with
  | none =>
   rw [hm] at hI
   simp only [Option.bind_none, Option.map_none] at hI
   simp only [optR, Bool.not_false, if_true]
   exact .some ⟨rfl, hI⟩
  | some m =>
   rw [hm] at hI
   have hml := Z3l (m := 400) (Nat.le_refl _) (by simp) hm
   have e1 : wadd .i64 (lenZ s.length) (lenZ m.length) = ((s.length + m.length : Nat) : Int) := by
    rw [Q20, Q20, Q18 (by omega) (by omega)]
    omega
   simp only [optR, Bool.not_true, Bool.false_eq_true, if_false, e1]
   refine Ret.ite (fun hgt => ?_) (fun hle => ?_)
   ·rw [V2] at hgt
    refine .some ⟨rfl, ?_⟩
    cases hz : sepP w t (ps.take k ++ [p]) (ps.drop (k + 1)) with
    | none => rw [hI]; simp [hz]
    | some z =>
     rw [hz] at hI
     simp only [Option.bind_some, Option.map_some] at hI
     have := hfew _ hI
     simp only [List.length_append] at this
     omega
   ·rw [Q02] at hle
    rw [Y8 (by simp only [Z0]; omega)]
    refine .some ⟨by simp only [List.length_append]; omega, ?_⟩
    rw [hI]
    simp only [Option.bind_some, Option.map_map]
    rw [List.take_add_one, hp']
    simp only [Option.toList_some]
    congr 1
    funext z
    simp
 ·obtain ⟨_, hI⟩ := hI
  rw [List.drop_length, sepP] at hI
  simpa using hI
end Go.Proofs.YtnackipaoepmfaaGreat
namespace Go.Proofs.YtnackipaoepmfaaGreat
open Go Go.RowKit
theorem Z21 {f : Q0 → Q0 → Option Q0} : ∀ {as bs zs : List Q0}, as.length = bs.length → Q1n f as bs = some zs → zs.length = as.length ∧ ∀ (j : Nat) (a b z : Q0), as[j]? = some a → bs[j]? = some b → zs[j]? = some z → f a b = some z
 | [], [], zs, _, h => by simp only [Q1n, Option.some.injEq] at h; subst h; exact ⟨rfl, fun j a b z h => by simp at h⟩
 | [], _ :: _, _, h, _ => by simp at h
 | _ :: _, [], _, h, _ => by simp at h
 | a :: as, b :: bs, zs, hl, h => by
  simp only [Q1n, Option.bind_eq_some_iff, Option.map_eq_some_iff] at h
  obtain ⟨x, hx, ys, hy, rfl⟩ := h
  obtain ⟨h1, h2⟩ := Z21 (by simpa using hl) hy
  refine ⟨by simp [h1], fun j p q z e1 e2 e3 => ?_⟩
  cases j with
  | zero => simp only [List.getElem?_cons_zero, Option.some.injEq] at e1 e2 e3; subst e1 e2 e3; exact hx
  | succ j => exact h2 j p q z (by simpa using e1) (by simpa using e2) (by simpa using e3)
def kidF (k : Option Q0) (q : Q0) : Prop := match k with
 | none => hgt1 q
 | some α => q = α
def X7d : Option Q0 → Option Q0 → Option Q0
 | none, none => none
 | none, some β => some β
 | some α, none => some α
 | some α, some β => W5 9 α β
theorem X59 {w : List Q3} {d : Nat} {t : Q2} {p : Q0} (h : Z3 w d t p) (h1 : p.op = 1) : p = Q0.mk 1 0 0 0 0 [] := by
 cases d with
 | zero => exact h.elim
 | succ d =>
  rcases h with rfl | ⟨n, m, rfl, _⟩ | ⟨c, ks, rfl, _⟩
  ·rfl
  ·simp at h1
  ·simp at h1
theorem W55 {w : List Q3} {u : Q2} {x β m : Q0} (hx : hgt1 x) (hβ : ¬ hgt1 β) (px : Z3 w 9 u x) (pβ : Z3 w 9 u β) (h : W5 9 x β = some m) : m = β := by
 rcases px with rfl | ⟨n, k, rfl, hd, _⟩ | ⟨c, ks, rfl, hd, hc, hl, hk⟩
 ·simpa [W5] using h.symm
 ·rcases pβ with rfl | ⟨_, _, rfl, _⟩ | ⟨_, _, rfl, hd', _⟩
  ·exact absurd (.inl rfl) hβ
  ·exact absurd (.inr (.inl rfl)) hβ
  ·exact absurd hd hd'
 ·rcases pβ with rfl | ⟨_, _, rfl, _⟩ | ⟨c', ks', rfl, hd', hc', hl', hk'⟩
  ·exact absurd (.inl rfl) hβ
  ·exact absurd (.inr (.inl rfl)) hβ
  ·have e1 : ¬ (4 : Int) = 1 := by decide
   have e3 : ¬ (4 : Int) = 3 := by decide
   rw [show (9 : Nat) = 8 + 1 from rfl, W5, if_neg (by exact e1), if_neg (by exact e1), if_neg (by exact e3)] at h
   split at h
   ·rename_i hcc
    simp only at hcc
    subst hcc
    rw [Option.map_eq_some_iff] at h
    obtain ⟨zs, hz, rfl⟩ := h
    have hz : Q1n (W5 8) ks ks' = some zs := hz
    obtain ⟨z1, z2⟩ := Z21 (by omega) hz
    congr 1
    refine List.ext_getElem? fun j => ?_
    by_cases hj : j < zs.length
    ·have g1 : ks[j]? = some (ks[j]'(by omega)) := List.getElem?_eq_getElem (by omega)
     have g2 : ks'[j]? = some (ks'[j]'(by omega)) := List.getElem?_eq_getElem (by omega)
     have g3 : zs[j]? = some (zs[j]) := List.getElem?_eq_getElem hj
     have := z2 j _ _ _ g1 g2 g3
     rw [g3, g2]
     congr 1
     rcases hx with hx | hx | ⟨_, hx⟩
     ·simp at hx
     ·simp at hx
     ·have ho := hx _ (List.mem_of_getElem? g1)
      rw [W5, if_pos ho] at this
      exact (Option.some.inj this).symm
    ·rw [List.getElem?_eq_none (by omega), List.getElem?_eq_none (by omega)]
   ·cases h
theorem W54 {w : List Q3} {u : Q2} {x β m : Q0} (hx : hgt1 x) (hβ : ¬ hgt1 β) (px : Z3 w 9 u x) (pβ : Z3 w 9 u β) (h : W5 9 β x = some m) : m = β := by
 have hb1 : ¬ β.op = 1 := fun h => hβ (.inl h)
 rcases px with rfl | ⟨n, k, rfl, hd, _⟩ | ⟨c, ks, rfl, hd, hc, hl, hk⟩
 ·rw [W5, if_neg hb1, if_pos rfl] at h
  exact (Option.some.inj h).symm
 ·rcases pβ with rfl | ⟨_, _, rfl, _⟩ | ⟨_, _, rfl, hd', _⟩
  ·exact absurd (.inl rfl) hβ
  ·exact absurd (.inr (.inl rfl)) hβ
  ·exact absurd hd hd'
 ·rcases pβ with rfl | ⟨_, _, rfl, _⟩ | ⟨c', ks', rfl, hd', hc', hl', hk'⟩
  ·exact absurd (.inl rfl) hβ
  ·exact absurd (.inr (.inl rfl)) hβ
  ·have e1 : ¬ (4 : Int) = 1 := by decide
   have e3 : ¬ (4 : Int) = 3 := by decide
   rw [show (9 : Nat) = 8 + 1 from rfl, W5, if_neg (by exact e1), if_neg (by exact e1), if_neg (by exact e3)] at h
   split at h
   ·rename_i hcc
    simp only at hcc
    subst hcc
    rw [Option.map_eq_some_iff] at h
    obtain ⟨zs, hz, rfl⟩ := h
    have hz : Q1n (W5 8) ks' ks = some zs := hz
    obtain ⟨z1, z2⟩ := Z21 (by omega) hz
    congr 1
    refine List.ext_getElem? fun j => ?_
    by_cases hj : j < zs.length
    ·have g1 : ks[j]? = some (ks[j]'(by omega)) := List.getElem?_eq_getElem (by omega)
     have g2 : ks'[j]? = some (ks'[j]'(by omega)) := List.getElem?_eq_getElem (by omega)
     have g3 : zs[j]? = some (zs[j]) := List.getElem?_eq_getElem hj
     have := z2 j _ _ _ g2 g1 g3
     rw [g3, g2]
     congr 1
     rcases hx with hx | hx | ⟨_, hx⟩
     ·simp at hx
     ·simp at hx
     ·have ho := hx _ (List.mem_of_getElem? g1)
      have ha : (Z4 w u c')[j]? = some ((Z4 w u c')[j]'(by omega)) := List.getElem?_eq_getElem (by omega)
      have e := X59 (hk j _ _ ha g1) ho
      rw [e] at this
      by_cases hk1 : (ks'[j]'(by omega)).op = 1
      ·rw [W5, if_pos hk1] at this
       rw [X59 (hk' j _ _ ha g2) hk1]
       exact (Option.some.inj this).symm
      ·rw [W5, if_neg hk1, if_pos rfl] at this
       exact (Option.some.inj this).symm
    ·rw [List.getElem?_eq_none (by omega), List.getElem?_eq_none (by omega)]
   ·cases h
theorem W48 {w : List Q3} (hw : WW w) {u : Q2} (hu : u ∈ tys w) {k1 k2 : Option Q0} (n1 : ∀ α, k1 = some α → ¬ hgt1 α) (n2 : ∀ α, k2 = some α → ¬ hgt1 α) {x y m : Q0} (hx : kidF k1 x) (hy : kidF k2 y) (px : Z3 w 9 u x) (py : Z3 w 9 u y) (h : W5 9 x y = some m) : kidF (X7d k1 k2) m := by
 cases k1 with
 | none =>
  cases k2 with
  | none => exact (W97 hw (d := 8) (x := 8) (by omega) hu).me x y hx hy px py m h
  | some β =>
   have hy : y = β := hy
   subst hy
   exact W55 hx (n2 _ rfl) px py h
 | some α =>
  have hx : x = α := hx
  subst hx
  cases k2 with
  | none => exact W54 hy (n1 _ rfl) py px h
  | some β =>
   have hy : y = β := hy
   subst hy
   simp only [X7d]
   rw [h]
   exact rfl
open Classical in
noncomputable def Z5i (K : Nat → Option Q0) (j : Nat) : Option Q0 := match K j with
 | none => none
 | some α => if hgt1 α then none else some α
theorem Z1w (K : Nat → Option Q0) (j : Nat) (α : Q0) (h : Z5i K j = some α) : ¬ hgt1 α := by
 unfold Z5i at h
 cases hK : K j with
 | none => rw [hK] at h; cases h
 | some β =>
  rw [hK] at h
  simp only at h
  split at h
  ·cases h
  ·cases h; assumption
theorem W3x {K : Nat → Option Q0} {j : Nat} {q : Q0} (h : kidF (K j) q) : kidF (Z5i K j) q := by
 unfold Z5i
 cases hK : K j with
 | none => rw [hK] at h; exact h
 | some β =>
  rw [hK] at h
  have h : q = β := h
  subst h
  simp only
  split
  ·assumption
  ·exact rfl
theorem Z4o {w : List Q3} {t : Q2} {c : Int} {K : Nat → Option Q0} {p : Q0} (h : oneP w t c K p) : oneP w t c (Z5i K) p := by
 obtain ⟨ks, rfl, hl, hk⟩ := h
 exact ⟨ks, rfl, hl, fun j q hq => W3x (hk j q hq)⟩
def Q35 (as bs : List Q0) : List Q0 := as.flatMap fun a => bs.filterMap (W5 10 a)
theorem Z6l {w : List Q3} (hw : WW w) {t : Q2} (ht : t ∈ tys w) {c : Int} {ks ks' : List Q0} {K K' : Nat → Option Q0} (n1 : ∀ j α, K j = some α → ¬ hgt1 α) (n2 : ∀ j α, K' j = some α → ¬ hgt1 α)
  (hc : c ∈ Z9 w t) (hl : ks.length = (Z4 w t c).length) (hl' : ks'.length = (Z4 w t c).length) (hk : ∀ (j : Nat) (q : Q0), ks[j]? = some q → kidF (K j) q) (hk' : ∀ (j : Nat) (q : Q0), ks'[j]? = some q → kidF (K' j) q)
  (pk : ∀ (j : Nat) (u : Q2) (q : Q0), (Z4 w t c)[j]? = some u → ks[j]? = some q → Z3 w 9 u q) (pk' : ∀ (j : Nat) (u : Q2) (q : Q0), (Z4 w t c)[j]? = some u → ks'[j]? = some q → Z3 w 9 u q)
  {m : Q0} (h : W5 10 (Q0.mk 4 c 0 0 0 ks) (Q0.mk 4 c 0 0 0 ks') = some m) : oneP w t c (fun j => X7d (K j) (K' j)) m := by
 have e1 : ¬ (4 : Int) = 1 := by decide
 have e3 : ¬ (4 : Int) = 3 := by decide
 simp only [W5, e1, e3, if_false, if_true] at h
 rw [Option.map_eq_some_iff] at h
 obtain ⟨zs, hz, rfl⟩ := h
 obtain ⟨z1, z2⟩ := Z21 (by omega) hz
 refine ⟨zs, rfl, by omega, fun j z hzj => ?_⟩
 have hj := (List.getElem?_eq_some_iff.1 hzj).1
 have g1 : ks[j]? = some (ks[j]'(by omega)) := List.getElem?_eq_getElem (by omega)
 have g2 : ks'[j]? = some (ks'[j]'(by omega)) := List.getElem?_eq_getElem (by omega)
 have ha : (Z4 w t c)[j]? = some ((Z4 w t c)[j]'(by omega)) := List.getElem?_eq_getElem (by omega)
 exact W48 hw ((hw.ty t ht).at_ c hc _ (List.mem_of_getElem? ha)) (n1 j) (n2 j) (hk j _ g1) (hk' j _ g2) (pk j _ _ ha g1) (pk' j _ _ ha g2) (z2 j _ _ _ g1 g2 hzj)
theorem W8j (k : Option Q0) : X7d none k = k := by cases k <;> rfl
theorem W8i (k : Option Q0) : X7d k none = k := by cases k <;> rfl
theorem Z0f {w : List Q3} {t : Q2} {c : Int} {ks : List Q0} (h : Z3 w 10 t (Q0.mk 4 c 0 0 0 ks)) : c ∈ Z9 w t ∧ ks.length = (Z4 w t c).length ∧ ∀ (j : Nat) (u : Q2) (q : Q0), (Z4 w t c)[j]? = some u → ks[j]? = some q → Z3 w 9 u q := by
 rcases h with h | ⟨_, _, h, _⟩ | ⟨c2, ks2, h, _, h2, h3, h4⟩
 ·cases h
 ·cases h
 ·cases h; exact ⟨h2, h3, h4⟩
theorem Z2y {d : Nat} {c c' : Int} {ks ks' : List Q0} {m : Q0} (h : W5 (d + 1) (Q0.mk 4 c 0 0 0 ks) (Q0.mk 4 c' 0 0 0 ks') = some m) : c = c' := by
 have e1 : ¬ (4 : Int) = 1 := by decide
 have e3 : ¬ (4 : Int) = 3 := by decide
 simp only [W5, e1, e3, if_false] at h
 split at h
 ·assumption
 ·cases h
theorem W8c {w : List Q3} (hw : WW w) {t : Q2} (ht : t ∈ tys w) {as bs : List Q0} (ha : ∀ a ∈ as, Z3 w 10 t a) (hb : ∀ b ∈ bs, Z3 w 10 t b) (fa : X4q w t as) (fb : X4q w t bs) : X4q w t (Q35 as bs) := by
 have mem : ∀ m ∈ Q35 as bs, ∃ a ∈ as, ∃ b ∈ bs, W5 10 a b = some m := fun m hm => by
  unfold Q35 at hm
  obtain ⟨a, h1, h2⟩ := List.mem_flatMap.1 hm
  obtain ⟨b, h3, h4⟩ := List.mem_filterMap.1 h2
  exact ⟨a, h1, b, h3, h4⟩
 rcases fa with fa | ⟨c, K, hd, hc, fa⟩
 ·rcases fb with fb | ⟨c', K', hd', hc', fb⟩
  ·refine .inl fun m hm => ?_
   obtain ⟨a, h1, b, h2, h3⟩ := mem m hm
   exact (V4z hw (d := 8) (x := 8) (by omega) ht).me a b (fa a h1) (fb b h2) (ha a h1) (hb b h2) m h3
  ·refine .inr ⟨c', Z5i K', hd', hc', fun m hm => ?_⟩
   obtain ⟨a, h1, b, h2, h3⟩ := mem m hm
   have h4 := Z4o (fb b h2)
   have pa := ha a h1
   have pb := hb b h2
   have ka := fa a h1
   rcases pa with rfl | ⟨n, k, rfl, hdd, _⟩ | ⟨c1, ks, rfl, _, hc1, hl, hk⟩
   ·have : m = b := by simpa [W5] using h3.symm
    rw [this]; exact h4
   ·exact absurd hdd hd'
   ·obtain ⟨ks', rfl, hl', hk'⟩ := h4
    have e := Z2y h3
    subst e
    have := Z6l hw ht (K := fun _ => none) (K' := Z5i K') (fun j α h => by cases h) (Z1w K') hc1 hl hl' (fun j q hq => by
     rcases ka with ka | ka | ⟨_, ka⟩
     ·simp at ka
     ·simp at ka
     ·exact ka q (List.mem_of_getElem? hq)) hk' hk (Z0f pb).2.2 h3
    simpa only [W8j] using this
 ·rcases fb with fb | ⟨c', K', hd', hc', fb⟩
  ·refine .inr ⟨c, Z5i K, hd, hc, fun m hm => ?_⟩
   obtain ⟨a, h1, b, h2, h3⟩ := mem m hm
   have h4 := Z4o (fa a h1)
   have pa := ha a h1
   have pb := hb b h2
   have kb := fb b h2
   rcases pb with rfl | ⟨n, k, rfl, hdd, _⟩ | ⟨c1, ks', rfl, _, hc1, hl', hk'⟩
   ·obtain ⟨ks, rfl, hl, hk⟩ := h4
    have e1 : ¬ (4 : Int) = 1 := by decide
    have : m = Q0.mk 4 c 0 0 0 ks := by
     simp only [W5, e1, if_false, if_true] at h3
     exact (Option.some.inj h3).symm
    rw [this]; exact ⟨ks, rfl, hl, hk⟩
   ·exact absurd hdd hd
   ·obtain ⟨ks, rfl, hl, hk⟩ := h4
    have e := Z2y h3
    subst e
    have := Z6l hw ht (K := Z5i K) (K' := fun _ => none) (Z1w K) (fun j α h => by cases h) hc hl hl' hk (fun j q hq => by
     rcases kb with kb | kb | ⟨_, kb⟩
     ·simp at kb
     ·simp at kb
     ·exact kb q (List.mem_of_getElem? hq)) (Z0f pa).2.2 hk' h3
    simpa only [W8i] using this
  ·refine .inr ⟨c, fun j => X7d (Z5i K j) (Z5i K' j), hd, hc, fun m hm => ?_⟩
   obtain ⟨a, h1, b, h2, h3⟩ := mem m hm
   have pa := ha a h1
   have pb := hb b h2
   obtain ⟨ks, rfl, hl, hk⟩ := Z4o (fa a h1)
   obtain ⟨ks', rfl, hl', hk'⟩ := Z4o (fb b h2)
   have e := Z2y h3
   subst e
   exact Z6l hw ht (Z1w K) (Z1w K') hc hl hl' hk hk' (Z0f pa).2.2 (Z0f pb).2.2 h3
end Go.Proofs.YtnackipaoepmfaaGreat
namespace Go.Proofs.YtnackipaoepmfaaGreat
open Go Go.RowKit
theorem W0s {w : List Q3} (hw : WW w) {t : Q2} (ht : t ∈ tys w) (p : Q0) : Q2b NN w t p = some (Q06 w t p) := by
 unfold Q2b
 rw [Z24 hw ht]
 simp only [Option.bind_some, if_true]
 rw [Q8k hw (by decide) ht]
 rfl
theorem ilt0 (n : Nat) : ilt 0 (lenZ n) = decide (0 < n) := by
 rw [Q20]
 exact decide_eq_decide.2 (by omega)
theorem X0a {w : List Q3} (hw : WW w) {t : Q2} (ht : t ∈ tys w) (p : Q0) : Q19 NN w t p = some (Q06 w t p) := by
 unfold Q19
 rw [X06 hw ht]
 simp only [Option.bind_some, if_true]
 rw [Z1k hw (n := NN) (by decide) t p ht]
 rfl
theorem Z5n {f : Q0 → Q0 → Option Q0} (hf : ∀ a b m, f a b = some m → cntP m ≤ cntP a + cntP b) : ∀ (as bs zs : List Q0), Q1n f as bs = some zs → cntP.cntPs zs ≤ cntP.cntPs as + cntP.cntPs bs
 | [], bs, zs, h => by simp only [Q1n, Option.some.injEq] at h; subst h; simp [cntP.cntPs]
 | _ :: _, [], zs, h => by simp only [Q1n, Option.some.injEq] at h; subst h; simp [cntP.cntPs]
 | a :: as, b :: bs, zs, h => by
  simp only [Q1n, Option.bind_eq_some_iff, Option.map_eq_some_iff] at h
  obtain ⟨x, hx, ys, hy, rfl⟩ := h
  have h1 := hf a b x hx
  have h2 := Z5n hf as bs ys hy
  simp only [cntP.cntPs]
  omega
theorem X5g : ∀ (d : Nat) (a b m : Q0), W5 d a b = some m → cntP m ≤ cntP a + cntP b
 | 0, _, _, _, h => by simp [W5] at h
 | d + 1, a, b, m, h => by
  have ha := Q2d a
  have hb := Q2d b
  rw [W5] at h
  split at h
  ·cases h; omega
  split at h
  ·cases h; omega
  split at h
  ·split at h
   ·cases h
    rw [Q2d]
    simp only [cntP.cntPs]
    omega
   ·cases h
  split at h
  ·rw [Option.map_eq_some_iff] at h
   obtain ⟨zs, hz, rfl⟩ := h
   have := Z5n (X5g d) _ _ zs hz
   rw [Q2d]
   simp only
   omega
  ·cases h
def mpD (w : List Q3) (t : Q2) (p q : Q0) : Option (List Q0) :=
 if Q06 w t p = true ∧ Q06 w t q = true then (Q42 p).bind fun A => (Q42 q).bind fun B => Z0r w t (sepP w t [] (Q35 A B)) else none
theorem Z1z (as bs : List Q0) : (Q35 as bs).length ≤ as.length * bs.length := by
 induction as with
 | nil => simp [Q35]
 | cons a as ih =>
  have e : Q35 (a :: as) bs = bs.filterMap (W5 10 a) ++ Q35 as bs := by simp [Q35]
  have h1 := List.length_filterMap_le (W5 10 a) bs
  rw [e, List.length_append, List.length_cons, Nat.succ_mul]
  omega
theorem Z2x {w : List Q3} {t : Q2} {as bs : List Q0} (ha : ∀ a ∈ as, Z3 w 10 t a ∧ cntP a ≤ 60) (hb : ∀ b ∈ bs, Z3 w 10 t b ∧ cntP b ≤ 60) : ∀ m ∈ Q35 as bs, Z3 w 10 t m ∧ cntP m ≤ 130 := fun m hm => by
 unfold Q35 at hm
 obtain ⟨a, h1, h2⟩ := List.mem_flatMap.1 hm
 obtain ⟨b, h3, h4⟩ := List.mem_filterMap.1 h2
 have h5 := X5g 10 a b m h4
 have := (ha a h1).2
 have := (hb b h3).2
 exact ⟨Q9q 10 10 t a b m (Nat.le_refl _) (ha a h1).1 (hb b h3).1 h4, by omega⟩
structure V8m (w : List Q3) (t : Q2) (A B : List Q0) : Prop where
 a : ∀ x ∈ A, Z3 w 10 t x ∧ cntP x ≤ 60
 b : ∀ x ∈ B, Z3 w 10 t x ∧ cntP x ≤ 60
 al : A.length ≤ 40
 bl : B.length ≤ 40
 few : ∀ r, sepP w t [] (Q35 A B) = some r → r.length ≤ 400
theorem W6c {w : List Q3} (hww : w ∈ Q1v) {t : Q2} (ht : t ∈ tys w) {p q : Q0} (hp : Q06 w t p = true) (hq : Q06 w t q = true) (lp : lvB 3 (X6 10 p)) (lq : lvB 3 (X6 10 q)) {A B : List Q0} (ha : Q42 p = some A) (hb : Q42 q = some B) : V8m w t A B := by
 have hw := ww hww
 obtain ⟨gp, cp, _⟩ := Q0x hp
 obtain ⟨gq, cq, _⟩ := Q0x hq
 have pa : ∀ x ∈ A, Z3 w 10 t x ∧ cntP x ≤ 60 := fun x hx => ⟨Z0a gp ha x hx, by have := X0r ha x hx; omega⟩
 have pb : ∀ x ∈ B, Z3 w 10 t x ∧ cntP x ≤ 60 := fun x hx => ⟨Z0a gq hb x hx, by have := X0r hb x hx; omega⟩
 refine ⟨pa, pb, (Q73 ha).1, (Q73 hb).1, fun r hr => ?_⟩
 have f1 : X4q w t A := by rw [(Q73 ha).2]; exact W6o (Q63 Q84 10 t p gp) lp
 have f2 : X4q w t B := by rw [(Q73 hb).2]; exact W6o (Q63 Q84 10 t q gq) lq
 obtain ⟨P, hP, hPs⟩ := V3s hw (wr hww) ht (W8c hw ht (fun x hx => (pa x hx).1) (fun x hx => (pb x hx).1) f1 f2)
 exact W7s hw (we hww) ht hP (fun m hm => ⟨hPs m hm, (Z2x pa pb m hm).1⟩) hr
theorem W0t {w : List Q3} (hww : w ∈ Q1v) {t : Q2} (ht : t ∈ tys w) {p q : Q0} (lp : Q06 w t p = true → lvB 3 (X6 10 p)) (lq : Q06 w t q = true → lvB 3 (X6 10 q)) : Q1c NN w t p q = some (optR (mpD w t p q)) := by
 have hw := ww hww
 have he := we hww
 suffices hs : Ret (Q1c NN w t p q) (fun r => r = optR (mpD w t p q)) by
  obtain ⟨a, e, rfl⟩ := hs
  exact e
 unfold Q1c Q4y mpD
 rw [W0s hw ht]
 simp only [Option.bind_some]
 cases hp : Q06 w t p with
 | false => exact .some (by simp [optR])
 | true =>
 simp only [Bool.not_true, Bool.false_eq_true, if_false]
 rw [Q8k hw (by decide) ht]
 simp only [Option.bind_some]
 cases hq : Q06 w t q with
 | false => exact .some (by simp [optR])
 | true =>
 obtain ⟨gp, cp, _⟩ := Q0x hp
 obtain ⟨gq, cq, _⟩ := Q0x hq
 simp only [Bool.not_true, Bool.false_eq_true, if_false, and_self, if_true]
 rw [Z3v hw ht gp (by omega) (by decide)]
 simp only [Option.bind_some]
 rw [Z3v hw ht gq (by omega) (by decide)]
 simp only [Option.bind_some]
 cases ha : Q42 p with
 | none => exact .some (by simp [optR])
 | some A =>
 cases hb : Q42 q with
 | none => exact .some (by simp [optR])
 | some B =>
 obtain ⟨ka, kb, al, bl, few⟩ := W6c hww ht hp hq (lp hp) (lq hq) ha hb
 simp only [optR, if_true, Bool.not_true, Bool.false_eq_true, if_false, Option.bind_some]
 rw [(wl hww).dim]
 simp only [Option.bind_some]
 refine Ret.ctl (R := fun _ => False) (B := fun s => s = Q35 A B) ?_ (fun r hr => hr.elim) (fun s hs => ?_)
 ·refine Z7 A (fun k s => s = Q35 (A.take k) B) (fun _ => False) (fun s => s = Q35 A B) (by simp [Q35]) (fun k a s hak hI => ?_) (fun s hI => by rw [hI, List.take_length])
  have hsl : s.length ≤ 1600 := by
   rw [hI]
   have := Z1z (A.take k) B
   have h2 : (A.take k).length * B.length ≤ 40 * 40 := Nat.mul_le_mul (by rw [List.length_take]; omega) bl
   omega
  refine Ret.ctl (R := fun _ => False) (B := fun u => u = s ++ B.filterMap (W5 10 a)) ?_ (fun r hr => hr.elim) (fun u hu => ?_)
  ·refine Z7 B (fun j u => u = s ++ (B.take j).filterMap (W5 10 a)) (fun _ => False) (fun u => u = s ++ B.filterMap (W5 10 a)) (by simp) (fun j b u hbj hJ => ?_) (fun u hJ => by rw [hJ, List.take_length])
   have hul : u.length ≤ 1700 := by
    rw [hJ, List.length_append]
    have := List.length_filterMap_le (W5 10 a) (B.take j)
    rw [List.length_take] at this
    omega
   rw [Z14 hw (dimP w) 10 NN 10 t a b ht (ka a (List.mem_of_getElem? hak)).1 (kb b (List.mem_of_getElem? hbj)).1 (by decide)]
   simp only [Option.bind_some]
   cases hm : W5 10 a b with
   | none =>
    simp only [Z0l, Bool.false_eq_true, if_false, Option.bind_some]
    refine .some ?_
    simp only [Q3d]
    rw [hJ, List.take_add_one, hbj]
    simp [hm]
   | some m =>
    simp only [Z0l, if_true]
    rw [Y8 (by simp only [List.length_cons, List.length_nil, Z0]; omega)]
    refine .some ?_
    simp only [Q3d]
    rw [hJ, List.take_add_one, hbj]
    simp [hm]
  ·refine .some ?_
   simp only [Q3d]
   rw [hu, hI, List.take_add_one, hak]
   simp [Q35]
 ·subst hs
  dsimp only
  have hml : (Q35 A B).length ≤ 1600 := by
   have := Z1z A B
   have h2 : A.length * B.length ≤ 40 * 40 := Nat.mul_le_mul al bl
   omega
  rw [Z5r hww hw he ht (Z2x ka kb) hml]
  simp only [Option.bind_some]
  rw [Z8v hw (by decide) ht _ (fun r hr => by have := few r hr; omega)]
  exact .some rfl
theorem X9p {w : List Q3} (hww : w ∈ Q1v) {t : Q2} (ht : t ∈ tys w) {p q : Q0} (lp : Q06 w t p = true → lvB 3 (X6 10 p)) (lq : Q06 w t q = true → lvB 3 (X6 10 q)) : Q1a NN w t p q = some (optR (mpD w t p q)) := by
 have hw := ww hww
 have he := we hww
 suffices hs : Ret (Q1a NN w t p q) (fun r => r = optR (mpD w t p q)) by
  obtain ⟨a, e, rfl⟩ := hs
  exact e
 unfold Q1a Q7k mpD
 rw [X0a hw ht]
 simp only [Option.bind_some]
 cases hp : Q06 w t p with
 | false => exact .some (by simp [optR])
 | true =>
 simp only [Bool.not_true, Bool.false_eq_true, if_false]
 rw [X0a hw ht]
 simp only [Option.bind_some]
 cases hq : Q06 w t q with
 | false => exact .some (by simp [optR])
 | true =>
 obtain ⟨gp, cp, _⟩ := Q0x hp
 obtain ⟨gq, cq, _⟩ := Q0x hq
 simp only [Bool.not_true, Bool.false_eq_true, if_false, and_self, if_true]
 rw [Z3n hw ht gp (by omega) (by decide)]
 simp only [Option.bind_some]
 rw [Z3n hw ht gq (by omega) (by decide)]
 simp only [Option.bind_some]
 by_cases h40 : 40 < (Z1 10 (X6 10 p)).length
 ·have hm : Q42 p = none := by unfold Q42; rw [if_pos h40]
  rw [if_neg (by rw [Q1r, Q20, List.length_take]; omega), hm]
  exact .some rfl
 have ha : Q42 p = some (Z1 10 (X6 10 p)) := by unfold Q42; rw [if_neg h40]
 rw [if_pos (by rw [Q1r, Q20, List.length_take]; omega), ha]
 by_cases h40' : 40 < (Z1 10 (X6 10 q)).length
 ·have hm : Q42 q = none := by unfold Q42; rw [if_pos h40']
  have e : ile (lenZ ((Z1 10 (X6 10 q)).take 401).length) 40 = false := by rw [Q48, Q20, List.length_take]; omega
  rw [e, hm]
  exact .some rfl
 have hb : Q42 q = some (Z1 10 (X6 10 q)) := by unfold Q42; rw [if_neg h40']
 have e : ile (lenZ ((Z1 10 (X6 10 q)).take 401).length) 40 = true := by rw [Q1r, Q20, List.length_take]; omega
 rw [e, hb, List.take_of_length_le (by omega), List.take_of_length_le (by omega)]
 obtain ⟨ka, kb, al, bl, few⟩ := W6c hww ht hp hq (lp hp) (lq hq) ha hb
 generalize Z1 10 (X6 10 p) = A at *
 generalize Z1 10 (X6 10 q) = B at *
 simp only [Bool.not_true, Bool.false_eq_true, if_false, Option.bind_some]
 refine Ret.ctl (R := fun _ => False) (B := fun s => s = Q35 A B) ?_ (fun r hr => hr.elim) (fun s hs => ?_)
 ·refine Z7 A (fun k s => s = Q35 (A.take k) B) (fun _ => False) (fun s => s = Q35 A B) (by simp [Q35]) (fun k a s hak hI => ?_) (fun s hI => by rw [hI, List.take_length])
  have hsl : s.length ≤ 1600 := by
   rw [hI]
   have := Z1z (A.take k) B
   have h2 : (A.take k).length * B.length ≤ 40 * 40 := Nat.mul_le_mul (by rw [List.length_take]; omega) bl
   omega
  refine Ret.ctl (R := fun _ => False) (B := fun u => u = s ++ B.filterMap (W5 10 a)) ?_ (fun r hr => hr.elim) (fun u hu => ?_)
  ·refine Z7 B (fun j u => u = s ++ (B.take j).filterMap (W5 10 a)) (fun _ => False) (fun u => u = s ++ B.filterMap (W5 10 a)) (by simp) (fun j b u hbj hJ => ?_) (fun u hJ => by rw [hJ, List.take_length])
   have hul : u.length ≤ 1700 := by
    rw [hJ, List.length_append]
    have := List.length_filterMap_le (W5 10 a) (B.take j)
    rw [List.length_take] at this
    omega
   obtain ⟨z, hz⟩ := Z0y hw 10 NN 10 t a b ht (ka a (List.mem_of_getElem? hak)).1 (kb b (List.mem_of_getElem? hbj)).1 (by decide)
   rw [hz]
   simp only [Option.bind_some]
   cases hm : W5 10 a b with
   | none =>
    simp only [Bool.false_eq_true, if_false, Option.bind_some]
    refine .some ?_
    simp only [Q3d]
    rw [hJ, List.take_add_one, hbj]
    simp [hm]
   | some m =>
    simp only [if_true]
    rw [Y8 (by simp only [List.length_cons, List.length_nil, Z0]; omega)]
    refine .some ?_
    simp only [Q3d]
    rw [hJ, List.take_add_one, hbj]
    simp [hm]
  ·refine .some ?_
   simp only [Q3d]
   rw [hu, hI, List.take_add_one, hak]
   simp [Q35]
 ·subst hs
  dsimp only
  have hml : (Q35 A B).length ≤ 1600 := by
   have := Z1z A B
   have h2 : A.length * B.length ≤ 40 * 40 := Nat.mul_le_mul al bl
   omega
  rw [hw.tab]
  simp only [Option.bind_some]
  rw [X0d hw he ht (Z2x ka kb) hml few]
  simp only [Option.bind_some]
  rw [X09 hw (by decide) ht _ (fun r hr => by have := few r hr; omega)]
  exact .some rfl
def cmD2 (w : List Q3) (t : Q2) (a b : Z5) : Bool × Bool :=
 if Q4n w t a = true ∧ Q4n w t b = true then (match mpD w t a.pat b.pat with
  | some r => (decide (0 < r.length), true)
  | none => (false, false)) else (false, false)
theorem W0u {w : List Q3} (hww : w ∈ Q1v) {t : Q2} (ht : t ∈ tys w) {a b : Z5} (la : X8m w t a) (lb : X8m w t b) : Q1q NN w t a b = some (cmD2 w t a b) := by
 have hw := ww hww
 unfold Q1q Q2w cmD2
 rw [Z24 hw ht]
 simp only [Option.bind_some, if_true]
 rw [Q8u hw (by decide) t a ht, Q8u hw (by decide) t b ht]
 simp only [Option.bind_some]
 cases ha : Q4n w t a with
 | false => simp
 | true =>
  cases hb : Q4n w t b with
  | false => simp
  | true =>
   simp only [Bool.not_true, Bool.false_eq_true, if_false, and_self, if_true]
   rw [W0t hww ht la lb]
   simp only [Option.bind_some]
   cases mpD w t a.pat b.pat with
   | none => rfl
   | some r =>
    simp only [optR, if_true, ilt0]
theorem X9q {w : List Q3} (hww : w ∈ Q1v) {t : Q2} (ht : t ∈ tys w) {a b : Z5} (la : X8m w t a) (lb : X8m w t b) : Q1o NN w t a b = some (cmD2 w t a b) := by
 have hw := ww hww
 unfold Q1o Q2r cmD2
 rw [X06 hw ht]
 simp only [Option.bind_some, if_true]
 rw [Z1l hw (by decide) t a ht, Z1l hw (by decide) t b ht]
 simp only [Option.bind_some]
 cases ha : Q4n w t a with
 | false => simp
 | true =>
  cases hb : Q4n w t b with
  | false => simp
  | true =>
   simp only [Bool.not_true, Bool.false_eq_true, if_false, and_self, if_true]
   rw [X9p hww ht la lb]
   simp only [Option.bind_some]
   cases mpD w t a.pat b.pat with
   | none => rfl
   | some r =>
    simp only [optR, ilt0]
theorem W5x {w : List Q3} (hww : w ∈ Q1v) {t : Q2} (ht : t ∈ tys w) {a b : Z5} (h : cmD2 w t a b = (false, true)) {e : Nat} {v : Q6} (hv : Q12 w e t v) : ¬ ((W7 10 a.pat v).isSome = true ∧ (W7 10 b.pat v).isSome = true) := by
 have hw := ww hww
 rintro ⟨m1, m2⟩
 unfold cmD2 at h
 split at h
 ·cases hm : mpD w t a.pat b.pat with
  | none => rw [hm] at h; cases h
  | some r =>
   rw [hm] at h
   simp only [Prod.mk.injEq, decide_eq_false_iff_not, and_true] at h
   have hr : r = [] := List.eq_nil_of_length_eq_zero (by omega)
   subst hr
   unfold mpD at hm
   split at hm
   ·rename_i hv2
    obtain ⟨gp, cp, _⟩ := Q0x hv2.1
    obtain ⟨gq, cq, _⟩ := Q0x hv2.2
    cases ha : Q42 a.pat with
    | none => rw [ha] at hm; simp at hm
    | some A =>
     rw [ha] at hm
     cases hb : Q42 b.pat with
     | none => rw [hb] at hm; simp at hm
     | some B =>
      rw [hb] at hm
      simp only [Option.bind_some] at hm
      have hs := X71 hm
      have pa := Z0a gp ha
      have pb := Z0a gq hb
      obtain ⟨x, hx, fx⟩ := (X0q hv gp ha).2 m1
      obtain ⟨y, hy, fy⟩ := (X0q hv gq hb).2 m2
      obtain ⟨z, hz, fz⟩ := (Z8r 10 e t x y 10 (pa x hx) (pb y hy) v hv).1 ⟨fx, fy⟩
      have hzm : z ∈ Q35 A B := List.mem_flatMap.2 ⟨x, hx, List.mem_filterMap.2 ⟨y, hy, hz⟩⟩
      have pm : ∀ m ∈ Q35 A B, Z3 w 10 t m := fun m hm => by
       unfold Q35 at hm
       obtain ⟨a, h1, h2⟩ := List.mem_flatMap.1 hm
       obtain ⟨b, h3, h4⟩ := List.mem_filterMap.1 h2
       exact Q9q 10 10 t a b m (Nat.le_refl _) (pa a h1) (pb b h3) h4
      obtain ⟨u, hu, _⟩ := (X2w hw (we hww) ht hv _ [] [] (by simp) pm hs).2 ⟨⟨z, hzm, fz⟩, by simp⟩
      cases hu
   ·cases hm
 ·cases h
end Go.Proofs.YtnackipaoepmfaaGreat
namespace Go.Proofs.YtnackipaoepmfaaGreat
open Go Go.RowKit
def hitV (v : Q6) (c : Z5) : Option (List W6) := match W7 10 c.pat v with
 | some b => if Q69 c.guard b = true then some (Q9e b) else none
 | none => none
theorem Q6q (v : Q6) (k : Nat) (c : Z5) (l : List Z5) : runD v k (c :: l) = match hitV v c with
  | some b => some (k, b)
  | none => runD v (k + 1) l := by
 simp only [runD, hitV]
 cases W7 10 c.pat v with
 | none => rfl
 | some b => simp only; cases Q69 c.guard b <;> rfl
theorem W7u {v : Q6} {k : Nat} {l : List Z5} {x : Nat × List W6} (h : runD v k l = some x) : k ≤ x.1 := by
 obtain ⟨i, c, b, _, h2, _⟩ := Q80 h
 omega
theorem W1c {v : Q6} {a b : Z5} (h : ¬ ((W7 10 a.pat v).isSome = true ∧ (W7 10 b.pat v).isSome = true)) : hitV v a = none ∨ hitV v b = none := by
 unfold hitV
 cases ha : W7 10 a.pat v with
 | none => exact .inl rfl
 | some x =>
  cases hb : W7 10 b.pat v with
  | none => exact .inr rfl
  | some y => rw [ha, hb] at h; exact absurd ⟨rfl, rfl⟩ h
def swN (i n : Nat) : Nat := if n = i then i + 1 else if n = i + 1 then i else n
theorem X4w {v : Q6} {a b : Z5} (h : hitV v a = none ∨ hitV v b = none) (l2 : List Z5) : ∀ (l1 : List Z5) (k : Nat), runD v k (l1 ++ b :: a :: l2) = (runD v k (l1 ++ a :: b :: l2)).map fun x => (swN (k + l1.length) x.1, x.2)
 | [], k => by
  simp only [List.nil_append, List.length_nil, Nat.add_zero]
  rw [Q6q, Q6q, Q6q v k a, Q6q v (k + 1) b]
  cases ha : hitV v a with
  | some x =>
   have hb : hitV v b = none := by rcases h with h | h; rw [ha] at h; cases h; exact h
   rw [hb]
   simp [swN]
  | none =>
   cases hb : hitV v b with
   | some y => simp [swN]
   | none =>
    simp only
    cases hr : runD v (k + 1 + 1) l2 with
    | none => rfl
    | some x =>
     have := W7u hr
     simp only [Option.map_some, swN]
     rw [if_neg (by omega), if_neg (by omega)]
 | c :: l1, k => by
  simp only [List.cons_append]
  rw [Q6q, Q6q v k c]
  cases hc : hitV v c with
  | some x =>
   simp only [Option.map_some, swN, List.length_cons]
   rw [if_neg (by omega), if_neg (by omega)]
  | none =>
   simp only
   rw [X4w h l2 l1 (k + 1), List.length_cons, show k + (l1.length + 1) = k + 1 + l1.length by omega]
theorem W5v {w : List Q3} {t : Q2} {a b : Z5} (h : (cmD2 w t a b).2 = true) : Q4n w t a = true ∧ Q4n w t b = true := by
 unfold cmD2 at h
 split at h
 ·assumption
 ·cases h
theorem W40 (q : Q0) : Mut q q := .inr ⟨rfl, .inl rfl⟩
theorem X4h (code : List Int) (hb : ∀ x ∈ code, 0 ≤ x ∧ x ≤ 255) : Ret (Q0b NN code) (fun a => a.1 ∈ Q1v ∧ a.2.1 ∈ tys a.1 ∧ X8m a.1 a.2.1 a.2.2.1 ∧ X8m a.1 a.2.1 a.2.2.2) := by
 unfold Q0b
 refine Ret.bind (P := fun a => a.1 ∈ Q1v ∧ a.2.1 ∈ tys a.1 ∧ (Q06 a.1 a.2.1 a.2.2.1 = true → lvB 3 (X6 10 a.2.2.1)) ∧ lvB 3 (X6 10 a.2.2.2)) ?_ (fun a ha => .some ⟨ha.1, ha.2.1, fun hv => ha.2.2.1 hv, fun _ => ha.2.2.2⟩)
 unfold Q6j
 refine Ret.bind (W83 code hb) (fun r hr => ?_)
 refine Ret.bind (P := fun a => a.1 ∈ Q1v ∧ a.2.1 ∈ tys a.1 ∧ Q06 a.1 a.2.1 a.2.2.1 = true ∧ lvB 3 (X6 10 a.2.2.1) ∧ Nx r a.2.2.2.2 700) ?_ (fun a ha => ?_)
 ·unfold Q61
  refine Ret.bind (X9d (hr.le (by omega))) (fun a ha => ?_)
  obtain ⟨h1, h2, h3⟩ := ha
  have hr1 : ROk a.2.2.2 900000 := ROk.nx (c := 500) (hr.le (by omega)) h3
  refine Ret.bind ((X4z (ww h1) h2 (hr1.le (by omega))).both (X50 _ _ _)) (fun b hb => .some ⟨h1, h2, hb.1.1, hb.2, (h3.trans hb.1.2).le' (by omega)⟩)
 ·obtain ⟨h1, h2, h3, h4, h5⟩ := ha
  have hr1 : ROk a.2.2.2.2 900000 := ROk.nx (c := 700) (hr.le (by omega)) h5
  refine Ret.bind ((X78 (hr1.le (by omega)) _ (by have := X6w (ww h1) h2 h3; omega)).both (W87 _ _)) (fun b hb => ?_)
  have hr2 : ROk b.2 800000 := ROk.nx (c := 2) (hr1.le (by omega)) hb.1.2
  refine Ret.bind ((X4z (ww h1) h2 (hr2.le (by omega))).both (X50 _ _ _)) (fun c hc => .some ⟨h1, h2, fun hv => ?_, hc.2⟩)
  obtain ⟨g1, _, l1⟩ := Q0x h3
  obtain ⟨g2, _, l2⟩ := Q0x hv
  exact W88 g1 l1 g2 l2 h4 hb.2 (W40 _)
theorem Z49 (code more : List Int) (hb : ∀ x ∈ code, 0 ≤ x ∧ x ≤ 255) : Q0z NN code more = some true := by
 suffices hr : Ret (Q0z NN code more) (fun r => r = true) by
  obtain ⟨_, e, rfl⟩ := hr
  exact e
 unfold Q0z
 refine Ret.ite (fun _ => .some rfl) (fun _ => ?_)
 refine Ret.ite (fun _ => .some rfl) (fun _ => ?_)
 refine Ret.bind (X4h code hb) (fun z hz => ?_)
 obtain ⟨w, t, a, b⟩ := z
 obtain ⟨hww, ht, fa, fb⟩ := hz
 simp only at hww ht fa fb ⊢
 have hw := ww hww
 rw [W0u hww ht fa fb, X9q hww ht fa fb]
 simp only [Option.bind_some, beq_self_eq_true, Bool.not_true, Bool.false_eq_true, if_false, if_true]
 refine Ret.ite (fun _ => .some rfl) (fun hok => ?_)
 refine Ret.ite (fun _ => .some rfl) (fun hm => ?_)
 rw [Bool.not_eq_false'] at hok
 have hcm : cmD2 w t a b = (false, true) := Prod.ext hm hok
 obtain ⟨va, vb⟩ := W5v hok
 have c1 : Q5r w t [a, b] = true := by simp [Q5r, va, vb]
 have c2 : Q5r w t [b, a] = true := by simp [Q5r, va, vb]
 obtain ⟨d, hd, d1, d3⟩ := rem3 more.length
 rw [hd]
 obtain ⟨vs, hvs, _, hvv⟩ := Z75 hw ht d1 d3
 rw [hvs]
 simp only [Option.bind_some]
 refine Ret.ctl (Z7 vs.1 (fun _ _ => True) (fun _ => False) (fun _ => True) trivial (fun k v u hv _ => ?_) (fun _ _ => trivial)) (fun r hr => hr.elim) (fun _ _ => .some rfl)
 obtain ⟨h1, h2⟩ := hvv v (List.mem_of_getElem? hv)
 refine Ret.ctl (R := fun _ => False) (B := fun _ => True) ?_ (fun r h => h.elim) (fun _ _ => .some trivial)
 rw [X5l hw ht [a, b] v, X5l hw ht [b, a] v, X9x c1 h1, X9x c2 h1]
 simp only [Option.bind_some]
 have hsw := X4w (W1c (W5x hww ht hcm h2)) [] [] 0
 simp only [List.nil_append, List.length_nil, Nat.add_zero] at hsw
 rw [hsw]
 have hdb := V36 hw ht (Z44 c1).2 (Z0c 4 10 t v (by omega) h2)
 cases hr : runD v 0 [a, b] with
 | none =>
  have e1 : ile 0 (runR none).1 = false := rfl
  have e2 : ilt (runR none).1 0 = true := rfl
  simp only [Option.map_none, e1, e2, Bool.false_eq_true, if_false, if_true]
  rw [Z3u (fun b hb => by cases hb)]
  exact .some trivial
 | some x =>
  rw [hr] at hdb
  obtain ⟨i, c, b', q1, q2, _⟩ := Q80 hr
  have hlt := (List.getElem?_eq_some_iff.1 q1).1
  simp only [List.length_cons, List.length_nil] at hlt
  have hx : swN 0 x.1 = 1 - x.1 := by
   unfold swN
   by_cases h0 : x.1 = 0
   ·rw [if_pos h0]; omega
   ·rw [if_neg h0, if_pos (by omega)]; omega
  simp only [Option.map_some, runR, hx] at hdb ⊢
  have e1 : ile 0 (x.1 : Int) = true := by rw [Q1r]; omega
  have e2 : ilt (x.1 : Int) 0 = false := by rw [Q02]; omega
  have e3 : wsub .i64 1 ((1 - x.1 : Nat) : Int) = (x.1 : Int) := by rw [Q4z] <;> omega
  have e4 : ieq (x.1 : Int) (x.1 : Int) = true := by simp [ieq]
  simp only [e1, e2, e3, e4, Bool.not_true, Bool.false_eq_true, if_false, if_true]
  rw [Z3u hdb]
  exact .some trivial
end Go.Proofs.YtnackipaoepmfaaGreat
