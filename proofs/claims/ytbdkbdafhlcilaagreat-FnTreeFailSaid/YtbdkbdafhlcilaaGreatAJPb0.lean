import Derived.Test.YtbdkbdafhlcilaaGreatAJP1
import Derived.Test.YtbdkbdafhlcilaaGreatAJP0
import Derived.Test.YtbdkbdafhlcilaaGreatAJE1
import Derived.Test.YtbdkbdafhlcilaaGreatAJE0
import Derived.Test.YtbdkbdafhlcilaaGreatAJMir
import Derived.Test.YtbdkbdafhlcilaaGreatAJMb0
set_option linter.unusedSimpArgs false
set_option linter.unusedVariables false
namespace Go.Proofs.YtbdkbdafhlcilaaGreat
open Go Go.RowKit
def Z8u (w : List Q3) (t : Q2) (cs : List Q6) : Option (List Q0) :=
 if Q25 w t cs = true then (Q3a cs).bind fun l => Z0n w t (Q2z w 10 11 t [Q0.mk 1 0 0 0 0 []] l) else none
end Go.Proofs.YtbdkbdafhlcilaaGreat
namespace Go.Proofs.YtbdkbdafhlcilaaGreat
open Go Go.RowKit
theorem X8e {w : List Q3} {d x : Nat} {t : Q2} : ∀ (bs l r : List Q0), l.length ≤ 1000 → Q8z w d x t l bs = some r → r.length ≤ 1000
 | [], l, r, h, e => by simp only [Q8z, Option.some.injEq] at e; subst e; exact h
 | b :: bs, l, r, h, e => by
  simp only [Q8z] at e
  split at e
  ·cases e
  ·exact X8e bs _ r (by omega) e
theorem X21 {w : List Q3} {d x : Nat} {t : Q2} {l bs r : List Q0} (h : l.length ≤ 1000) (e : Q2z w d x t l bs = some r) : r.length ≤ 1000 :=
 X8e bs _ r (by have := X0l w x t l; omega) e
theorem Z8x {w : List Q3} (hww : w ∈ J8) (hw : WW w) (he : WE w) {t : Q2} (ht : t ∈ tys w) (cs : List Q6) : Q1l NN w t cs = some (optR (Z8u w t cs)) := by
 unfold Q1l Z8u
 rw [Q6v hw ht]
 simp only [Option.bind_some]
 by_cases h : Q25 w t cs = true
 ·obtain ⟨h8, hc⟩ := Q2h h
  simp only [h, Bool.not_true, Bool.false_eq_true, if_false, if_true]
  rw [Z5d hw ht (by simp only [NN]; omega) cs (fun c m => ⟨(hc c m).2.1, by have := (hc c m).2.2; omega⟩) (by omega)]
  simp only [Option.bind_some]
  cases hl : Q3a cs with
  | none => simp [optR]
  | some l =>
   have hp := Q63 (fun c m => (hc c m).2.1) hl
   have hcnt := Z3v (m := 60) (fun c m => (hc c m).2.2) hl
   simp only [optR, Bool.not_true, Bool.false_eq_true, if_false, Option.bind_some]
   rw [(wl hww).dim]
   have hany : Y5 = some (Q0.mk 1 0 0 0 0 []) := rfl
   simp only [Option.bind_some, hany]
   rw [Q8w hww hw he (d := 10) (x := 11) ht (by omega) (by omega) (fun b hb => ⟨hp b hb, by have := hcnt b hb; omega⟩) (fun a ha => by simp only [List.mem_singleton] at ha; subst ha; exact Z1e w 10 t) (by simp) (by simp only [NN]; omega)]
   simp only [Option.bind_some]
   rw [Q9u hw (by simp only [NN]; omega) ht _ (fun r hr => by have := X21 (by simp) hr; omega)]
   cases Z0n w t (Q2z w 10 11 t [Q0.mk 1 0 0 0 0 []] l) <;> rfl
 ·simp [h, optR]
end Go.Proofs.YtbdkbdafhlcilaaGreat
namespace Go.Proofs.YtbdkbdafhlcilaaGreat
open Go Go.RowKit
theorem W6q {w : List Q3} (hw : WW w) (he : WE w) {e : Nat} {t : Q2} (ht : t ∈ tys w) {v : Z4} (hv : Q1u w e t v) {cs : List Q6} {r : List Q0} (hr : Z8u w t cs = some r) :
  (∃ y ∈ r, fitP y v = true) ↔ ∀ c ∈ cs, c.guard.op = 0 → Z9 10 c.pat v = none := by
 unfold Z8u at hr
 split at hr
 ·rename_i h
  obtain ⟨h8, hc⟩ := Q2h h
  cases hl : Q3a cs with
  | none => rw [hl] at hr; cases hr
  | some l =>
   rw [hl] at hr
   simp only [Option.bind_some] at hr
   have hp := Q63 (fun c m => (hc c m).2.1) hl
   cases hwd : Q2z w 10 11 t [Q0.mk 1 0 0 0 0 []] l with
   | none => rw [hwd] at hr; cases hr
   | some q =>
    rw [hwd] at hr
    simp only [Z0n] at hr
    split at hr
    ·cases hr
     rw [Z1z hw he ht (by omega) hv hp (fun a ha => by simp only [List.mem_singleton] at ha; subst ha; exact Z1e w 10 t) hwd]
     have hf := Z3u hv (fun c m => (hc c m).2.1) hl
     constructor
     ·rintro ⟨_, g⟩ c m g0
      cases hm : Z9 10 c.pat v with
      | none => rfl
      | some b =>
       obtain ⟨b, hb, g'⟩ := hf.2 ⟨c, m, g0, by simp [hm]⟩
       rw [g b hb] at g'
       cases g'
     ·intro g
      refine ⟨⟨_, List.mem_singleton_self _, Q86 rfl v⟩, fun b hb => ?_⟩
      cases hfb : fitP b v with
      | false => rfl
      | true =>
       obtain ⟨c, m, g0, g'⟩ := hf.1 ⟨b, hb, hfb⟩
       rw [g c m g0] at g'
       cases g'
    ·cases hr
 ·cases hr
end Go.Proofs.YtbdkbdafhlcilaaGreat
namespace Go.Proofs.YtbdkbdafhlcilaaGreat
open Go Go.RowKit
def exD (w : List Q3) (t : Q2) (cs : List Q6) : Bool × Bool := match Z8u w t cs with
 | none => (false, false)
 | some r => (decide (r.length = 0), true)
theorem V16 {w : List Q3} (hww : w ∈ J8) {t : Q2} (ht : t ∈ tys w) (cs : List Q6) : Q40 NN w t cs = some (exD w t cs) := by
 unfold Q40 exD
 rw [Z8x hww (ww hww) (we hww) ht cs]
 cases Z8u w t cs with
 | none => rfl
 | some r =>
  simp only [Option.bind_some, optR, if_true, len0]
end Go.Proofs.YtbdkbdafhlcilaaGreat
namespace Go.Proofs.YtbdkbdafhlcilaaGreat
open Go Go.RowKit
theorem X97 {w : List Q3} (hww : w ∈ J8) {t : Q2} (ht : t ∈ tys w) {cs : List Q6} {r : List Q0} (hr : Z8u w t cs = some r) (hne : r ≠ []) : ∃ v, Q1u w 21 t v ∧ ∃ y ∈ r, fitP y v = true := by
 obtain ⟨y, hy⟩ := List.exists_mem_of_ne_nil r hne
 unfold Z8u at hr
 split at hr
 ·rename_i h
  obtain ⟨h8, hc⟩ := Q2h h
  cases hl : Q3a cs with
  | none => rw [hl] at hr; cases hr
  | some l =>
   rw [hl] at hr
   simp only [Option.bind_some] at hr
   have hr := Z4c hr
   have hp := Z0g (by omega) (Q63 (fun c m => (hc c m).2.1) hl) (fun a ha => by simp only [List.mem_singleton] at ha; subst ha; exact Z1e w 10 t) hr y hy
   obtain ⟨v, h1, h2⟩ := Z4f (ww hww) (wr hww) 11 t y ht hp (Z4z hr y hy)
   exact ⟨v, h1, y, hy, h2⟩
 ·cases hr
theorem W1k {w : List Q3} (hww : w ∈ J8) {t : Q2} (ht : t ∈ tys w) (hd : depP w t ≠ 0) {l : List Q6} {pick : Int} {tr : X4} (h : W8 NN w t l pick = some (tr, true)) {r : List Q0} (hr : Z8u w t l = some r) : Z7y 300 tr ↔ r ≠ [] := by
 have hw := ww hww
 obtain ⟨hT, hR, hcl⟩ := Z6g hww ht h
 have hg : ∀ c ∈ l, J2 w 10 t c.pat = true := fun c hc => ((Q2h hcl).2 c hc).2.1
 have key : ∀ (e : Nat) (v : Z4), Q1u w e t v → (Q8x l (hcR (Q1v l l.length) [v]) ↔ ∃ y ∈ r, fitP y v = true) := fun e v hv => by
  rw [(Z7g hw (ws hww) ht hg hv l.length (Nat.le_refl _)).1, W6q hw (we hww) ht hv hr]
  constructor
  ·intro h c hc h0
   obtain ⟨j, hj⟩ := List.mem_iff_getElem?.1 hc
   cases hm : Z9 10 c.pat v with
   | none => rfl
   | some b => exact absurd h0 (h j c (List.getElem?_eq_some_iff.1 hj).1 hj (by rw [hm]; rfl))
  ·intro h j c _ hc hm h0
   rw [h c (List.mem_of_getElem? hc) h0] at hm
   cases hm
 constructor
 ·intro hlf
  obtain ⟨e, us, g1, g2⟩ := (Z9b hww 300 tr _ _ hT hR (Z6k ht) (X2c hd)).2 hlf
  obtain ⟨v, rfl, hv⟩ := W1e g1
  obtain ⟨y, hy, _⟩ := (key e v hv).1 g2
  exact List.ne_nil_of_mem hy
 ·intro hne
  obtain ⟨v, hv, hf⟩ := X97 hww ht hr hne
  exact (Z2q hww 300 tr _ _ [v] hT hR (Z6k ht) (W2l hv)).2 ((key 21 v hv).2 hf)
end Go.Proofs.YtbdkbdafhlcilaaGreat
namespace Go.Proofs.YtbdkbdafhlcilaaGreat
open Go Go.RowKit
theorem W88 : ∀ (d n : Nat) (t : X4), Z0c d t → d ≤ n → Ret (Q3n n t) (fun b => b = true ↔ Z7y d t) := by
 intro d
 induction d with
 | zero => intro n t h; exact h.elim
 | succ d ih =>
  intro n t h hn
  obtain ⟨n, rfl⟩ : ∃ k, n = k + 1 := ⟨n - 1, by omega⟩
  unfold Q3n
  have hsub : ∀ x ∈ Q4s t, Z0c d x := h.2
  refine Ret.ite (fun h1 => .some ?_) (fun h1 => ?_)
  ·rw [Q23] at h1
   exact ⟨fun _ => .inl h1, fun _ => rfl⟩
  rw [Q1m] at h1
  refine Ret.ctl (Z5 t.branches (fun k _ => ∀ b ∈ t.branches.take k, ¬ Z7y d b.tree) (fun r => r = true ∧ Z7y (d + 1) t) (fun _ => ∀ b ∈ t.branches, ¬ Z7y d b.tree) (by simp) (fun k x s hx hI => ?_) (fun s hI => by rwa [List.take_length] at hI)) (fun r hr => .some ⟨fun _ => hr.2, fun _ => hr.1⟩) (fun s hs => ?_)
  ·have hm := List.mem_of_getElem? hx
   have hm2 : x.tree ∈ Q4s t := List.mem_append_left _ (List.mem_map_of_mem hm)
   refine Ret.bind (ih n x.tree (hsub _ hm2) (by omega)) (fun b hb => ?_)
   refine Ret.ite (fun h2 => .some ⟨rfl, .inr ⟨x.tree, hm2, hb.1 h2⟩⟩) (fun h2 => .some ?_)
   simp only [Q07]
   rw [List.take_add_one, hx]
   intro y hy
   rcases List.mem_append.1 hy with hy | hy
   ·exact hI y hy
   ·simp only [Option.toList_some, List.mem_singleton] at hy
    rw [hy]
    exact fun hf => by rw [hb.2 hf] at h2; cases h2
  ·dsimp only
   refine Ret.ctl (Z5 t.else_ (fun k _ => ∀ y ∈ t.else_.take k, ¬ Z7y d y) (fun r => r = true ∧ Z7y (d + 1) t) (fun _ => ∀ y ∈ t.else_, ¬ Z7y d y) (by simp) (fun k x s hx hI => ?_) (fun s hI => by rwa [List.take_length] at hI)) (fun r hr => .some ⟨fun _ => hr.2, fun _ => hr.1⟩) (fun s hs2 => .some ⟨fun h => (by cases h), fun hf => ?_⟩)
   ·have hm := List.mem_of_getElem? hx
    have hm2 : x ∈ Q4s t := List.mem_append_right _ hm
    refine Ret.bind (ih n x (hsub _ hm2) (by omega)) (fun b hb => ?_)
    refine Ret.ite (fun h2 => .some ⟨rfl, .inr ⟨x, hm2, hb.1 h2⟩⟩) (fun h2 => .some ?_)
    simp only [Q07]
    rw [List.take_add_one, hx]
    intro y hy
    rcases List.mem_append.1 hy with hy | hy
    ·exact hI y hy
    ·simp only [Option.toList_some, List.mem_singleton] at hy
     rw [hy]
     exact fun hf => by rw [hb.2 hf] at h2; cases h2
   ·rcases hf with hf | ⟨x, hx, hf⟩
    ·exact absurd hf h1
    ·rcases List.mem_append.1 hx with hx | hx
     ·obtain ⟨b, hb, rfl⟩ := List.mem_map.1 hx
      exact absurd hf (hs b hb)
     ·exact absurd hf (hs2 x hx)
theorem X0j (code : List Int) (hb : ∀ x ∈ code, 0 ≤ x ∧ x ≤ 255) : Q2j NN code = some true := by
 suffices hr : Ret (Q2j NN code) (fun r => r = true) by
  obtain ⟨_, e, rfl⟩ := hr
  exact e
 unfold Q2j
 refine Ret.ite (fun _ => .some rfl) (fun _ => ?_)
 refine Ret.bind (X4i code hb) (fun a ha => ?_)
 obtain ⟨w, t, l, pick⟩ := a
 obtain ⟨hww, ht⟩ := ha
 simp only at hww ht ⊢
 obtain ⟨tr, ok, e1, e2, h1, h2, h3⟩ := (Z4t hww ht l pick).eq
 rw [e1, e2]
 simp only [Option.bind_some]
 rw [Z6x 300 NN tr h2 (by decide)]
 simp only [Option.bind_some, beq_self_eq_true, Bool.not_true, Bool.false_eq_true, if_false, if_true]
 cases ok with
 | false => exact .some rfl
 | true =>
  simp only [Bool.not_true, Bool.false_eq_true, if_false]
  rw [V16 hww ht, W2z hww ht]
  simp only [Option.bind_some]
  unfold exD
  cases hm : Z8u w t l with
  | none => exact .some rfl
  | some r =>
   simp only [Bool.not_true, Bool.false_eq_true, if_false]
   refine Ret.ite (fun _ => .some rfl) (fun hd => ?_)
   have hd0 : depP w t ≠ 0 := by simpa using hd
   refine Ret.bind (W88 300 NN tr h2 (by decide)) (fun b hbf => .some ?_)
   have := W1k hww ht hd0 e1 hm
   rw [this] at hbf
   cases b with
   | true =>
    have hr := hbf.1 rfl
    cases r with
    | nil => exact absurd rfl hr
    | cons x r => rfl
   | false =>
    cases r with
    | nil => rfl
    | cons x r => exact absurd (hbf.2 (by simp)) (by simp)
end Go.Proofs.YtbdkbdafhlcilaaGreat
