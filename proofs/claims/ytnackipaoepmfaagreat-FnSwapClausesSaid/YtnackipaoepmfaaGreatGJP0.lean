import Derived.KernelRfl
import Derived.Test.YtnackipaoepmfaaGreatGJE1
import Derived.Test.YtnackipaoepmfaaGreatGJMir
set_option linter.unusedSimpArgs false
set_option linter.unusedVariables false
namespace Go.Proofs.YtnackipaoepmfaaGreat
open Go Go.RowKit
def Ret {α : Type} (x : Option α) (Q : α → Prop) : Prop := ∃ a, x = some a ∧ Q a
theorem Ret.some {α : Type} {a : α} {Q : α → Prop} (h : Q a) : Ret (some a) Q := ⟨a, rfl, h⟩
theorem Ret.bind {α β : Type} {x : Option α} {f : α → Option β} {P : α → Prop} {Q : β → Prop} (hx : Ret x P) (hf : ∀ a, P a → Ret (f a) Q) : Ret (x.bind f) Q := by
 obtain ⟨a, rfl, ha⟩ := hx
 exact hf a ha
theorem Ret.bindE {α β : Type} {x : Option α} {f : α → Option β} {a : α} {Q : β → Prop} (hx : x = Option.some a) (hf : Ret (f a) Q) : Ret (x.bind f) Q := by
 subst hx
 exact hf
theorem Ret.mono {α : Type} {x : Option α} {P Q : α → Prop} (h : ∀ a, P a → Q a) (hx : Ret x P) : Ret x Q := by
 obtain ⟨a, e, ha⟩ := hx
 exact ⟨a, e, h a ha⟩
theorem Ret.ite {α : Type} {b : Bool} {x y : Option α} {Q : α → Prop} (h1 : b = true → Ret x Q) (h2 : b = false → Ret y Q) : Ret (if b = true then x else y) Q := by
 cases b
 ·exact h2 rfl
 ·exact h1 rfl
theorem Ret.of {α : Type} {x : Option α} {a : α} {Q : α → Prop} (h : x = Option.some a) (hq : Q a) : Ret x Q := ⟨a, h, hq⟩
theorem Ret.get {α : Type} {x : Option α} {Q : α → Prop} {a : α} (h : Ret x Q) (e : x = Option.some a) : Q a := by
 obtain ⟨b, e2, hb⟩ := h
 rw [e] at e2
 cases e2
 exact hb
def CtlQ {ρ σ : Type} (R : ρ → Prop) (B : σ → Prop) : Ctl ρ σ → Prop
 | .ret r => R r
 | .brk s => B s
 | .go _ => False
def RndQ {ρ σ : Type} (R : ρ → Prop) (B G : σ → Prop) : Ctl ρ σ → Prop
 | .ret r => R r
 | .brk s => B s
 | .go s => G s
@[simp] theorem W4u {ρ σ : Type} (R : ρ → Prop) (B G : σ → Prop) (r : ρ) : RndQ R B G (.ret r) = R r := rfl
@[simp] theorem X5t {ρ σ : Type} (R : ρ → Prop) (B G : σ → Prop) (s : σ) : RndQ R B G (.brk s) = B s := rfl
@[simp] theorem Q33 {ρ σ : Type} (R : ρ → Prop) (B G : σ → Prop) (s : σ) : RndQ R B G (.go s) = G s := rfl
@[simp] theorem V70 {ρ σ : Type} (R : ρ → Prop) (B : σ → Prop) (r : ρ) : CtlQ R B (.ret r) = R r := rfl
@[simp] theorem Z0j {ρ σ : Type} (R : ρ → Prop) (B : σ → Prop) (s : σ) : CtlQ R B (.brk s) = B s := rfl
theorem Z4 {α σ ρ : Type} {f : Nat → α → σ → Option (Ctl ρ σ)} (xs : List α) {s0 : σ} (I : Nat → σ → Prop) (R : ρ → Prop) (B : σ → Prop)
  (h0 : I 0 s0) (step : ∀ k x s, xs[k]? = some x → I k s → Ret (f k x s) (RndQ R B (I (k + 1)))) (stop : ∀ s, I xs.length s → B s) :
  Ret (forL f 0 xs s0) (CtlQ R B) := by
 have key : ∀ (ys : List α) (k : Nat) (s : σ), xs.drop k = ys → k ≤ xs.length → I k s → Ret (forL f k ys s) (CtlQ R B) := by
  intro ys
  induction ys with
  | nil =>
   intro k s hd hk hs
   have : k = xs.length := by
    have := congrArg List.length hd
    simp at this
    omega
   subst this
   exact .some (stop s hs)
  | cons y ys ih =>
   intro k s hd hk hs
   have hlt : k < xs.length := by
    have := congrArg List.length hd
    simp at this
    omega
   rw [List.drop_eq_getElem_cons hlt] at hd
   injection hd with h1 h2
   have hx : xs[k]? = some y := by rw [List.getElem?_eq_getElem hlt, h1]
   obtain ⟨o, ho, hq⟩ := step k y s hx hs
   unfold forL
   rw [ho]
   cases o with
   | ret r => exact .some hq
   | brk s' => exact .some hq
   | go s' => exact ih (k + 1) s' h2 hlt hq
 exact key xs 0 s0 rfl (Nat.zero_le _) h0
theorem Q5b {σ ρ : Type} {f : σ → Option (Ctl ρ σ)} {s0 : σ} (I : σ → Prop) (μ : σ → Nat) (R : ρ → Prop) (B : σ → Prop) (h0 : I s0)
  (step : ∀ s, I s → Ret (f s) (RndQ R B (fun s' => I s' ∧ μ s' < μ s))) : ∀ n, μ s0 < n → Ret (whileL f n s0) (CtlQ R B) := by
 have key : ∀ n s, I s → μ s < n → Ret (whileL f n s) (CtlQ R B) := by
  intro n
  induction n with
  | zero => intro s _ h; omega
  | succ n ih =>
   intro s hs hn
   obtain ⟨o, ho, hq⟩ := step s hs
   unfold whileL
   rw [ho]
   cases o with
   | ret r => exact .some hq
   | brk s' => exact .some hq
   | go s' => exact ih s' hq.1 (by have := hq.2; omega)
 exact fun n hn => key n s0 h0 hn
theorem Ret.ctl {ρ σ τ : Type} {x : Option (Ctl ρ σ)} {g : Ctl ρ σ → Option τ} {R : ρ → Prop} {B : σ → Prop} {Q : τ → Prop} (h : Ret x (CtlQ R B)) (hr : ∀ r, R r → Ret (g (.ret r)) Q) (hb : ∀ s, B s → Ret (g (.brk s)) Q) : Ret (x.bind g) Q := by
 obtain ⟨o, rfl, ho⟩ := h
 cases o with
 | ret r => exact hr r ho
 | brk s => exact hb s ho
 | go s => exact ho.elim
theorem V4 {α : Type} {xs ys : List α} (h : xs.length + ys.length ≤ Q8) : app xs ys = some (xs ++ ys) := by simp [app, h]
theorem Q12 {α : Type} {xs : List α} {i : Nat} {x : α} (h : xs[i]? = some x) : idx xs (i : Int) = some x := by simp [idx, h]
theorem W1z {α : Type} {xs : List α} {i : Int} {x : α} (h0 : 0 ≤ i) (h : xs[i.toNat]? = some x) : idx xs i = some x := by simp [idx, h, h0]
theorem Q4k {α : Type} {xs : List α} {i : Int} (h0 : 0 ≤ i) (h : i < xs.length) : ∃ x, idx xs i = some x ∧ x ∈ xs := by
 have hl : i.toNat < xs.length := by omega
 exact ⟨xs[i.toNat], by simp [idx, h0, hl], List.getElem_mem hl⟩
theorem X2m {b : Bool} (h : b = true) : chk b = some () := by simp [chk, h]
theorem W5 {a b : Int} : (ieq a b = true) = (a = b) := by simp [ieq]
theorem X8 {a b : Int} : (ieq a b = false) = (a ≠ b) := by simp [ieq]
theorem W0 {a b : Int} : (ilt a b = true) = (a < b) := by simp [ilt]
theorem Q06 {a b : Int} : (ilt a b = false) = (b ≤ a) := by simp [ilt]
theorem Q14 {a b : Int} : (ile a b = true) = (a ≤ b) := by simp [ile]
theorem Q4j {a b : Int} : (ile a b = false) = (b < a) := by simp [ile]
theorem Q0p {a b : Int} (h1 : -9223372036854775808 ≤ a + b) (h2 : a + b ≤ 9223372036854775807) : wadd .i64 a b = a + b := by unfold wadd; exact Z4z h1 h2
theorem Q4c {a b : Int} (h1 : -9223372036854775808 ≤ a - b) (h2 : a - b ≤ 9223372036854775807) : wsub .i64 a b = a - b := by unfold wsub; exact Z4z h1 h2
theorem Z15 {a b : Int} (h1 : -9223372036854775808 ≤ a * b) (h2 : a * b ≤ 9223372036854775807) : wmul .i64 a b = a * b := by unfold wmul; exact Z4z h1 h2
theorem W04 {a : Int} (h1 : -9223372036854775808 ≤ a) (h2 : a ≤ 9223372036854775807) : wcv .i64 a = a := by unfold wcv; exact Z4z h1 h2
theorem W02 {a b : Int} (h1 : -9223372036854775808 ≤ a.tdiv b) (h2 : a.tdiv b ≤ 9223372036854775807) : wquo .i64 a b = a.tdiv b := by unfold wquo; exact Z4z h1 h2
theorem Q1m (n : Nat) : lenZ n = (n : Int) := rfl
end Go.Proofs.YtnackipaoepmfaaGreat
namespace Go.Proofs.YtnackipaoepmfaaGreat
open Go Go.RowKit
abbrev NN : Nat := 30000000
instance : DecidableEq Q2 := fun a b => decidable_of_iff (a.data = b.data ∧ a.index = b.index) ⟨fun h => by cases a; cases b; simp at h; simp [h], fun h => by subst h; simp⟩
def by_ (l : List Nat) : ByteArray := ⟨(l.map UInt8.ofNat).toArray⟩
def tI : Q2 := ⟨-1, 0⟩
def tD (d i : Int) : Q2 := ⟨d, i⟩
def w0 : List Q3 := [⟨by_ [76], [⟨by_ [78, 105, 108], [], 0⟩, ⟨by_ [67, 111, 110, 115], [tI, tD 0 0], 0⟩]⟩]
def w1 : List Q3 := [⟨by_ [66], [⟨by_ [84, 114, 117], [], 0⟩, ⟨by_ [70, 108, 115], [], 0⟩]⟩, ⟨by_ [84], [⟨by_ [76, 101, 97, 102], [], 0⟩, ⟨by_ [78, 111, 100, 101], [tD 1 0, tD 0 0, tD 1 0], 0⟩]⟩]
def w2 : List Q3 := [⟨by_ [69], [⟨by_ [78, 117, 109], [tI], 1⟩, ⟨by_ [66, 111, 108], [tD 1 0], 2⟩, ⟨by_ [65, 100, 100], [tD 0 1, tD 0 1], 1⟩, ⟨by_ [73, 102], [tD 0 2, tD 0 (-1), tD 0 (-1)], 0⟩]⟩, ⟨by_ [66], [⟨by_ [84, 114, 117], [], 0⟩, ⟨by_ [70, 108, 115], [], 0⟩]⟩]
def w3 : List Q3 := [⟨by_ [79], [⟨by_ [78, 111, 110], [], 0⟩, ⟨by_ [83, 111, 109], [tI], 0⟩]⟩, ⟨by_ [80], [⟨by_ [80, 97, 105, 114], [tD 0 0, tD 0 0], 0⟩]⟩]
def w4 : List Q3 := [⟨by_ [86], [⟨by_ [69, 110, 100], [], 1⟩, ⟨by_ [83, 111, 109, 101], [tI, tD 0 1], 2⟩, ⟨by_ [84, 119, 111], [tD 0 (-1)], 0⟩]⟩]
def w5 : List Q3 := [⟨by_ [78], [⟨by_ [78, 101, 118, 101, 114], [tD 0 0], 0⟩]⟩, ⟨by_ [66], [⟨by_ [84, 114, 117], [], 0⟩, ⟨by_ [70, 108, 115], [], 0⟩, ⟨by_ [77, 97, 121], [tD 0 0], 0⟩]⟩]
def w6 : List Q3 := [⟨by_ [83], [⟨by_ [82, 101, 100], [], 0⟩, ⟨by_ [71, 114, 101, 101, 110], [], 0⟩, ⟨by_ [66, 108, 117, 101], [], 0⟩, ⟨by_ [77, 105, 120], [tD 0 0, tD 0 0], 0⟩]⟩]
def Q15 : List (List Q3) := [w0, w1, w2, w3, w4, w5, w6]
def Z9q (i : Nat) : Option (List Q3 × Bool) := Q43.bind fun r => (idx r (i : Int)).bind fun x => Q4t NN x
theorem V5t : Z9q 0 = some (w0, true) := by kernel_rfl
theorem V5s : Z9q 1 = some (w1, true) := by kernel_rfl
theorem V5r : Z9q 2 = some (w2, true) := by kernel_rfl
theorem V5q : Z9q 3 = some (w3, true) := by kernel_rfl
theorem V5p : Z9q 4 = some (w4, true) := by kernel_rfl
theorem V5o : Z9q 5 = some (w5, true) := by kernel_rfl
theorem V5n : Z9q 6 = some (w6, true) := by kernel_rfl
theorem W6w {i : Nat} (h : i < 7) : ∃ w, Z9q i = some (w, true) ∧ w ∈ Q15 := by
 match i, h with
 | 0, _ => exact ⟨_, V5t, by simp [Q15]⟩
 | 1, _ => exact ⟨_, V5s, by simp [Q15]⟩
 | 2, _ => exact ⟨_, V5r, by simp [Q15]⟩
 | 3, _ => exact ⟨_, V5q, by simp [Q15]⟩
 | 4, _ => exact ⟨_, V5p, by simp [Q15]⟩
 | 5, _ => exact ⟨_, V5o, by simp [Q15]⟩
 | 6, _ => exact ⟨_, V5n, by simp [Q15]⟩
def tys (w : List Q3) : List Q2 := tI :: (List.range w.length).flatMap fun (d : Nat) => (List.range 4).map fun (i : Nat) => tD d i
def Z7 (w : List Q3) (t : Q2) : List Int := (Q0d w t).getD []
def Z5 (w : List Q3) (t : Q2) (k : Int) : List Q2 := (Q0h w t k).getD []
def tabP (w : List Q3) : List Int := (Q38 NN w).getD []
def depP (w : List Q3) (t : Q2) : Int := (Q1f (tabP w) t).getD 0
def Q51 (w : List Q3) (t : Q2) (k : Int) : Int := (Q3p w (tabP w) t k).getD 0
def chkT (w : List Q3) (t : Q2) : Bool :=
 decide (Q0d w t = some (Z7 w t)) && decide (Q0e w t = some (Z7 w t)) &&
 (Z7 w t).all (fun k => decide (Q0h w t k = some (Z5 w t k)) && decide (J7 w t k = some (Z5 w t k)) && (Z5 w t k).all (fun a => decide (a ∈ tys w)) && decide ((Z5 w t k).length ≤ 3) &&
  decide (Q3p w (tabP w) t k = some (Q51 w t k)) && decide (0 ≤ Q51 w t k) && (decide (Q51 w t k = 0) || (Z5 w t k).all (fun a => decide (1 ≤ depP w a) && decide (depP w a < Q51 w t k)))) &&
 decide (Q5y w t = some true) && decide (Q7b w t = some true) && decide (Q1f (tabP w) t = some (depP w t)) && decide (0 ≤ depP w t) && decide (depP w t ≤ 4) && decide ((Z7 w t).length ≤ 4) &&
 (decide (t.data = -1) || decide (depP w t = 0) || (Z7 w t).any (fun k => decide (Q51 w t k = depP w t))) && (decide (t.data ≠ -1) || (decide (t = tI) && decide (depP w t = 1)))
def chkW (w : List Q3) : Bool :=
 (tys w).all (chkT w) && decide (Q38 NN w = some (tabP w)) && decide (Q3h NN w = some true) && decide (Q25 NN w = some true) && decide (0 < w.length) && decide (w.length ≤ 2)
theorem W35 : Q15.all chkW = true := by kernel_rfl
structure WT (w : List Q3) (t : Q2) : Prop where
 c1 : Q0d w t = some (Z7 w t)
 c2 : Q0e w t = some (Z7 w t)
 a1 : ∀ k ∈ Z7 w t, Q0h w t k = some (Z5 w t k)
 a2 : ∀ k ∈ Z7 w t, J7 w t k = some (Z5 w t k)
 at_ : ∀ k ∈ Z7 w t, ∀ a ∈ Z5 w t k, a ∈ tys w
 al : ∀ k ∈ Z7 w t, (Z5 w t k).length ≤ 3
 m1 : ∀ k ∈ Z7 w t, Q3p w (tabP w) t k = some (Q51 w t k)
 m0 : ∀ k ∈ Z7 w t, 0 ≤ Q51 w t k
 ma : ∀ k ∈ Z7 w t, Q51 w t k ≠ 0 → ∀ a ∈ Z5 w t k, 1 ≤ depP w a ∧ depP w a < Q51 w t k
 t1 : Q5y w t = some true
 t2 : Q7b w t = some true
 d1 : Q1f (tabP w) t = some (depP w t)
 d0 : 0 ≤ depP w t
 d4 : depP w t ≤ 4
 cl : (Z7 w t).length ≤ 4
 dm : t.data ≠ -1 → depP w t ≠ 0 → ∃ k ∈ Z7 w t, Q51 w t k = depP w t
 ti : t.data = -1 → t = tI ∧ depP w t = 1
structure WW (w : List Q3) : Prop where
 ty : ∀ t ∈ tys w, WT w t
 tab : Q38 NN w = some (tabP w)
 v1 : Q3h NN w = some true
 v2 : Q25 NN w = some true
 pos : 0 < w.length
 le : w.length ≤ 2
theorem V0j {w : List Q3} {t : Q2} (h : chkT w t = true) : WT w t := by
 simp only [chkT, Bool.and_eq_true, Bool.or_eq_true, decide_eq_true_eq, List.all_eq_true, List.any_eq_true] at h
 obtain ⟨⟨⟨⟨⟨⟨⟨⟨⟨⟨h1, h2⟩, h3⟩, h4⟩, h5⟩, h6⟩, h7⟩, h8⟩, h9⟩, h10⟩, h11⟩ := h
 have hk : ∀ k ∈ Z7 w t, _ := h3
 refine ⟨h1, h2, fun k hk => (h3 k hk).1.1.1.1.1.1, fun k hk => (h3 k hk).1.1.1.1.1.2, fun k hk => (h3 k hk).1.1.1.1.2, fun k hk => (h3 k hk).1.1.1.2, fun k hk => (h3 k hk).1.1.2, fun k hk => (h3 k hk).1.2, fun k hk hm a ha => ?_, h4, h5, h6, h7, h8, h9, fun hd h0 => ?_, fun hd => ?_⟩
 ·rcases (h3 k hk).2 with h | h
  ·exact absurd h hm
  ·exact h a ha
 ·rcases h10 with (h | h) | h
  ·exact absurd h hd
  ·exact absurd h h0
  ·exact h
 ·rcases h11 with h | h
  ·exact absurd hd h
  ·exact h
theorem ww {w : List Q3} (h : w ∈ Q15) : WW w := by
 have h := List.all_eq_true.1 W35 w h
 simp only [chkW, Bool.and_eq_true, decide_eq_true_eq, List.all_eq_true] at h
 obtain ⟨⟨⟨⟨⟨h1, h2⟩, h3⟩, h4⟩, h5⟩, h6⟩ := h
 exact ⟨fun t ht => V0j (h1 t ht), h2, h3, h4, h5, h6⟩
end Go.Proofs.YtnackipaoepmfaaGreat
namespace Go.Proofs.YtnackipaoepmfaaGreat
open Go Go.RowKit
instance : DecidableEq Q7 := fun a b => decidable_of_iff (a.var = b.var ∧ a.typ = b.typ) ⟨fun h => by cases a; cases b; simp at h; simp [h], fun h => by subst h; simp⟩
theorem V58 (l : List Int) (x : Int) : Q5j l x = some (decide (x ∈ l)) := by
 have h : Ret (Q5j l x) (fun b => b = decide (x ∈ l)) := by
  unfold Q5j
  refine Ret.ctl (Z4 l (fun k _ => ∀ j, j < k → l[j]? ≠ some x) (fun r => r = true ∧ x ∈ l) (fun _ => x ∉ l) (fun j hj => by omega) (fun k y s hy hI => ?_) (fun s hI => ?_)) (fun r hr => ?_) (fun s hs => ?_)
  ·refine Ret.ite (fun h => ?_) (fun h => ?_)
   ·rw [W5] at h
    exact .some ⟨rfl, h ▸ List.mem_of_getElem? hy⟩
   ·rw [X8] at h
    refine .some (fun j hj => ?_)
    by_cases hjk : j = k
    ·subst hjk
     rw [hy]
     simpa using h
    ·exact hI j (by omega)
  ·intro hm
   obtain ⟨j, hj⟩ := List.mem_iff_getElem?.1 hm
   exact hI j ((List.getElem?_eq_some_iff.1 hj).1) hj
  ·obtain ⟨rfl, hx⟩ := hr
   exact .some (by simp [hx])
  ·exact .some (by simp [hs])
 obtain ⟨b, hb, rfl⟩ := h
 exact hb
theorem Z06 (l : List Int) (x : Int) : J1 l x = some (decide (x ∈ l)) := by
 have h : Ret (J1 l x) (fun b => b = decide (x ∈ l)) := by
  unfold J1
  refine Ret.bind (P := fun r => (0 ≤ r ∧ x ∈ l) ∨ (r = -1 ∧ x ∉ l)) ?_ (fun a ha => ?_)
  ·unfold Q4b
   refine Ret.ctl (Z4 l (fun k _ => ∀ j, j < k → l[j]? ≠ some x) (fun r => 0 ≤ r ∧ x ∈ l) (fun _ => x ∉ l) (fun j hj => by omega) (fun k y s hy hI => ?_) (fun s hI => ?_)) (fun r hr => ?_) (fun s hs => ?_)
   ·refine Ret.ite (fun h => ?_) (fun h => ?_)
    ·rw [W5] at h
     exact .some ⟨by omega, h ▸ List.mem_of_getElem? hy⟩
    ·rw [X8] at h
     refine .some (fun j hj => ?_)
     by_cases hjk : j = k
     ·subst hjk
      rw [hy]
      simpa using fun e => h e.symm
     ·exact hI j (by omega)
   ·intro hm
    obtain ⟨j, hj⟩ := List.mem_iff_getElem?.1 hm
    exact hI j ((List.getElem?_eq_some_iff.1 hj).1) hj
   ·exact .some (.inl hr)
   ·exact .some (.inr ⟨rfl, hs⟩)
  ·rcases ha with ⟨h1, h2⟩ | ⟨rfl, h2⟩
   ·exact .some (by simp [ile, h1, h2])
   ·exact .some (by simp [ile, h2])
 obtain ⟨b, hb, rfl⟩ := h
 exact hb
theorem Q70 {α : Type} (l : List α) (f : α → Option Bool) (g : α → Bool) (hf : ∀ x ∈ l, f x = some (g x)) :
  Ret ((forL (fun (k : Nat) (x : α) (s : Unit) => ((f x).bind fun r => (if r = true then some (Ctl.ret (k : Int)) else some (Ctl.go ())))) 0 l ()).bind fun (o : Ctl Int Unit) => match o with
   | .ret r => some r
   | .go _ => none
   | .brk _ => some (-1)) (fun i => (∃ k x, i = ((k : Nat) : Int) ∧ l[k]? = some x ∧ g x = true) ∨ (i = -1 ∧ ∀ x ∈ l, g x = false)) := by
 refine Ret.ctl (Z4 l (fun k _ => ∀ j x, j < k → l[j]? = some x → g x = false) (fun i => ∃ k x, i = ((k : Nat) : Int) ∧ l[k]? = some x ∧ g x = true) (fun _ => ∀ x ∈ l, g x = false) (fun j x hj => by omega) (fun k y s hy hI => ?_) (fun s hI => ?_)) (fun r hr => ?_) (fun s hs => ?_)
 ·rw [hf y (List.mem_of_getElem? hy)]
  show Ret (if g y = true then _ else _) _
  refine Ret.ite (fun h => ?_) (fun h => ?_)
  ·exact .some ⟨k, y, rfl, hy, h⟩
  ·refine .some (fun j x hj hx => ?_)
   by_cases hjk : j = k
   ·subst hjk
    rw [hy] at hx
    cases hx
    exact h
   ·exact hI j x (by omega) hx
 ·intro x hm
  obtain ⟨j, hj⟩ := List.mem_iff_getElem?.1 hm
  exact hI j x ((List.getElem?_eq_some_iff.1 hj).1) hj
 ·exact .some (.inl hr)
 ·exact .some (.inr ⟨rfl, hs⟩)
theorem X2u {α : Type} {l : List α} {g : α → Bool} {x : Option Int} (h : Ret x (fun i => (∃ k x, i = ((k : Nat) : Int) ∧ l[k]? = some x ∧ g x = true) ∨ (i = -1 ∧ ∀ x ∈ l, g x = false))) : (x.bind fun r => some (ile 0 r)) = some (l.any g) := by
 obtain ⟨i, rfl, h⟩ := h
 rcases h with ⟨k, x, rfl, h2, h3⟩ | ⟨rfl, h2⟩
 ·have : l.any g = true := List.any_eq_true.2 ⟨x, List.mem_of_getElem? h2, h3⟩
  rw [this]
  simp [ile]
 ·have : l.any g = false := by simpa using h2
  rw [this]
  simp [ile]
theorem Z7s (l : List Q2) (f : Q2 → Option Bool) (g : Q2 → Bool) (hf : ∀ x ∈ l, f x = some (g x)) : J4 l f = some (l.any g) := X2u (Q70 l f g hf)
theorem Z4n (l : List Q5) (f : Q5 → Option Bool) (g : Q5 → Bool) (hf : ∀ x ∈ l, f x = some (g x)) : Q0o l f = some (l.any g) := X2u (Q70 l f g hf)
theorem Z3j (l : List Q7) (f : Q7 → Option Bool) (g : Q7 → Bool) (hf : ∀ x ∈ l, f x = some (g x)) : Q0i l f = some (l.any g) := X2u (Q70 l f g hf)
theorem W6v (a b : Q7) : Q6b [ieq a.var b.var, ieq a.typ.data b.typ.data, ieq a.typ.index b.typ.index] = decide (a = b) := by
 obtain ⟨v, d, i⟩ := a
 obtain ⟨v', d', i'⟩ := b
 simp [Q6b, ieq]
theorem Z6t (l : List Q7) (x : Q7) : J9 l x = some (decide (x ∈ l)) := by
 have := X2u (Q70 l (fun y => some (decide (x = y))) (fun y => decide (x = y)) (fun _ _ => rfl))
 have e : l.any (fun y => decide (x = y)) = decide (x ∈ l) := by
  rw [Bool.eq_iff_iff]
  simp
 rw [e] at this
 unfold J9 Q2h
 simp only [W6v]
 exact this
theorem X3m (a b : List Q7) : Q4f a b = some (decide (a.length = b.length) && a.all fun v => decide (v ∈ b)) := by
 unfold Q4f
 by_cases h : a.length = b.length
 ·have h1 : ieq (lenZ a.length) (lenZ b.length) = true := by rw [W5]; simp [lenZ, h]
  rw [if_pos h1, Z3j a _ (fun v => !decide (v ∈ b)) (fun x _ => by unfold Q4u; rw [Z6t]; rfl)]
  simp only [Option.bind_some, h, decide_true, Bool.true_and, Option.some.injEq]
  rw [Bool.eq_iff_iff]
  simp
 ·have h1 : ¬ ieq (lenZ a.length) (lenZ b.length) = true := by rw [W5]; simp only [lenZ]; omega
  rw [if_neg h1]
  simp [h]
def Q9b (w : List Q3) (t : Q2) (p : Q0) : Bool :=
 (if p.op = 2 ∨ p.op = 6 then decide (0 ≤ p.var) && decide (p.var ≤ 5) else decide (p.var = 0)) && (decide (p.op = 3) || (decide (p.n = 0) && decide (p.m = 0))) && (decide (p.op = 4) || decide (p.ctor = 0)) &&
 (decide (p.op = 1 ∨ p.op = 2 ∨ p.op = 5 ∨ p.op = 6) || (decide (p.op = 3) && decide (t.data = -1) && decide (0 ≤ p.n) && decide (p.n ≤ p.m) && decide (p.m ≤ 9)) || (decide (p.op = 4) && decide (p.ctor ∈ Z7 w t)))
def Y5 (w : List Q3) (t : Q2) (p : Q0) : List Q2 := if p.op = 4 then Z5 w t p.ctor else if p.op = 5 then [t, t] else if p.op = 6 then [t] else []
def Q6e (w : List Q3) (t : Q2) (p : Q0) : Bool := Q9b w t p && decide (p.kids.length = (Y5 w t p).length)
theorem Q83 (a b c : Int) : V1 a b c = some (decide (b ≤ a) && decide (a ≤ c)) := by
 unfold V1
 by_cases h : b ≤ a <;> simp [ile, h]
theorem V4s {w : List Q3} {t : Q2} (hw : WT w t) (p : Q0) : Q6f w t p = some (Q9b w t p) := by
 obtain ⟨op, ctor, n, m, v, kids⟩ := p
 unfold Q6f Q9b
 simp only [hw.c1, Option.bind_some, V58]
 by_cases h1 : op = 1
 ·subst h1; simp [ieq, ilt, ile]; (repeat' split) <;> simp_all
 by_cases h2 : op = 2
 ·subst h2; simp [ieq, ilt, ile]; (repeat' split) <;> simp_all <;> omega
 by_cases h3 : op = 3
 ·subst h3; simp [ieq, ilt, ile]; (repeat' split) <;> simp_all <;> (intros; omega)
 by_cases h4 : op = 4
 ·subst h4; simp [ieq, ilt, ile]; (repeat' split) <;> simp_all
 by_cases h5 : op = 5
 ·subst h5; simp [ieq, ilt, ile]; (repeat' split) <;> simp_all
 by_cases h6 : op = 6
 ·subst h6; simp [ieq, ilt, ile]; (repeat' split) <;> simp_all <;> omega
 simp [ieq, ilt, ile, h1, h2, h3, h4, h5, h6]; (repeat' split) <;> simp_all
theorem W9e (p : Q0) (a b c : Bool) (k : Int) : Q3b p a b c k = some ((a || decide (p.ctor = 0)) && (b || (decide (p.n = 0) && decide (p.m = 0))) && (c || decide (p.var = 0)) && decide ((p.kids.length : Int) = k)) := by
 unfold Q3b
 by_cases h1 : p.ctor = 0 <;> by_cases h2 : p.n = 0 <;> by_cases h3 : p.m = 0 <;> by_cases h4 : p.var = 0 <;> cases a <;> cases b <;> cases c <;> simp [ieq, lenZ, h1, h2, h3, h4] <;> exact decide_eq_decide.2 Iff.rfl
theorem W5j (v : Int) : Q5m v = some (decide (0 ≤ v) && decide (v ≤ 5)) := by
 unfold Q5m
 rw [Q83]
 rfl
theorem X5o {w : List Q3} {t : Q2} (hw : WT w t) (p : Q0) : ∃ ts, Q5k w t p = some (ts, Q6e w t p) ∧ (Q6e w t p = true → ts = Y5 w t p) := by
 obtain ⟨op, ctor, n, m, v, kids⟩ := p
 unfold Q5k Q6e Q9b Y5
 simp only [hw.c2, Option.bind_some, Z06, W9e, W5j]
 by_cases h1 : op = 1
 ·subst h1; exact ⟨[], by simp [ieq]; rw [Bool.eq_iff_iff]; simp; grind, by simp⟩
 by_cases h2 : op = 2
 ·subst h2; exact ⟨[], by simp [ieq]; split <;> simp <;> grind, by simp⟩
 by_cases h3 : op = 3
 ·subst h3; exact ⟨[], by simp [ieq, ile]; (repeat' split) <;> simp <;> grind, by simp⟩
 by_cases h4 : op = 4
 ·subst h4
  by_cases hc : ctor ∈ Z7 w t
  ·refine ⟨Z5 w t ctor, ?_, by simp⟩
   simp [ieq, hc, hw.a2 ctor hc, lenZ]
   grind
  ·exact ⟨[], by simp [ieq, hc], by simp [hc]⟩
 by_cases h5 : op = 5
 ·subst h5; exact ⟨[t, t], by simp [ieq]; grind, by simp⟩
 by_cases h6 : op = 6
 ·subst h6; exact ⟨[t], by simp [ieq]; split <;> simp <;> grind, by simp⟩
 exact ⟨[], by simp [ieq, h1, h2, h3, h4, h5, h6], by simp [h1, h2, h3, h4, h5, h6]⟩
theorem X3z (op : Int) : Q5t op = some (if op = 5 then 2 else if op = 6 then 1 else if op = 4 then -1 else 0) := by
 unfold Q5t
 by_cases h1 : op = 5 <;> by_cases h2 : op = 6 <;> by_cases h3 : op = 4 <;> simp [ieq, h1, h2, h3]
theorem Z8w {w : List Q3} {t : Q2} (hw : WT w t) (p : Q0) (h : p.op = 4 → p.ctor ∈ Z7 w t) {n : Nat} (hn : 4 ≤ n) : Q36 n w t p = some (Y5 w t p) := by
 obtain ⟨m, rfl⟩ : ∃ m, n = m + 4 := ⟨n - 4, by omega⟩
 unfold Q36 Y5
 by_cases h4 : p.op = 4
 ·simp [ieq, h4, hw.a1 p.ctor (h h4)]
 ·have w1 : wadd .i64 0 1 = 1 := rfl
  have w2 : wadd .i64 1 1 = 2 := rfl
  by_cases h5 : p.op = 5
  ·simp [ieq, h5, whileL, X3z, ilt, app, w1, w2, Q8]
  ·by_cases h6 : p.op = 6
   ·simp [ieq, h6, whileL, X3z, ilt, app, w1, w2, Q8]
   ·simp [ieq, h4, h5, h6, whileL, X3z, ilt]
def Q13 (w : List Q3) : Nat → Q2 → Q0 → Bool
 | 0, _, _ => false
 | d + 1, t, p => Q6e w t p && ((Y5 w t p).zip p.kids).all fun x => Q13 w d x.1 x.2
def ownV (t : Q2) (p : Q0) : List Q7 := if p.op = 2 ∨ p.op = 6 then [⟨p.var, t⟩] else []
def Q2n (w : List Q3) : Nat → Q2 → Q0 → List Q7
 | 0, _, _ => []
 | d + 1, t, p => ownV t p ++ (((Y5 w t p).zip p.kids).take (if p.op = 5 then 1 else p.kids.length)).flatMap fun x => Q2n w d x.1 x.2
def Q1g (l : List Q7) : Bool := decide (l.map (·.var)).Nodup
def Q8b (a b : List Q7) : Bool := decide (a.length = b.length) && a.all fun v => decide (v ∈ b)
def kv (w : List Q3) (d : Nat) (t : Q2) (p : Q0) (i : Nat) : List Q7 := ((Y5 w t p).zip p.kids)[i]?.elim [] fun x => Q2n w d x.1 x.2
def linD (w : List Q3) : Nat → Q2 → Q0 → Bool
 | 0, _, _ => true
 | d + 1, t, p => (((Y5 w t p).zip p.kids).all fun x => linD w d x.1 x.2) && if p.op = 5 then Q8b (kv w d t p 0) (kv w d t p 1) else Q1g (Q2n w (d + 1) t p)
theorem Q3y {w : List Q3} {d : Nat} {t : Q2} {p : Q0} (h : Q13 w d t p = true) : Q6e w t p = true := by
 cases d with
 | zero => cases h
 | succ d => simp only [Q13, Bool.and_eq_true] at h; exact h.1
theorem Q4p {w : List Q3} {t : Q2} {p : Q0} (h : Q6e w t p = true) : Q9b w t p = true ∧ p.kids.length = (Y5 w t p).length := by
 simp only [Q6e, Bool.and_eq_true, decide_eq_true_eq] at h
 exact h
theorem Z0e {w : List Q3} {t : Q2} {p : Q0} (h : Q9b w t p = true) : p.op = 4 → p.ctor ∈ Z7 w t := fun h4 => by
 simp [Q9b, h4] at h
 exact h.2
theorem Q7d {w : List Q3} {t : Q2} (hw : WT w t) (ht : t ∈ tys w) {p : Q0} (h : Q9b w t p = true) : ∀ a ∈ Y5 w t p, a ∈ tys w := fun a ha => by
 unfold Y5 at ha
 split at ha
 ·rename_i h4; exact hw.at_ _ (Z0e h h4) a ha
 ·split at ha
  ·simp at ha; rw [ha]; exact ht
  ·split at ha
   ·simp at ha; rw [ha]; exact ht
   ·simp at ha
theorem W1r {w : List Q3} {t : Q2} (hw : WT w t) {p : Q0} (h : Q9b w t p = true) : (Y5 w t p).length ≤ 3 := by
 unfold Y5
 split
 ·rename_i h4; exact hw.al _ (Z0e h h4)
 ·split
  ·simp
  ·split <;> simp
theorem Q9f {α β : Type} {l : List α} {m : List β} {k : Nat} {a : α} {b : β} (h1 : l[k]? = some a) (h2 : m[k]? = some b) : (l.zip m)[k]? = some (a, b) := by
 rw [List.getElem?_zip_eq_some]; exact ⟨h1, h2⟩
theorem Q31 {w : List Q3} {d : Nat} {t : Q2} {p : Q0} (h : Q13 w (d + 1) t p = true) {k : Nat} {a : Q2} {q : Q0} (h1 : (Y5 w t p)[k]? = some a) (h2 : p.kids[k]? = some q) : Q13 w d a q = true := by
 simp only [Q13, Bool.and_eq_true, List.all_eq_true] at h
 exact h.2 (a, q) (List.mem_of_getElem? (Q9f h1 h2))
theorem X0r {w : List Q3} (hw : WW w) : ∀ (d n : Nat) (t : Q2) (p : Q0), t ∈ tys w → d + 4 ≤ n → d ≤ 100 → Q23 n w t p (d : Int) = some (Q13 w d t p) := by
 intro d
 induction d with
 | zero =>
  intro n t p ht hn hd
  obtain ⟨m, rfl⟩ : ∃ m, n = m + 1 := ⟨n - 1, by omega⟩
  simp [Q23, ilt, Q13]
 | succ d ih =>
  intro n t p ht hn hd
  obtain ⟨m, rfl⟩ : ∃ m, n = m + 1 := ⟨n - 1, by omega⟩
  have hT := hw.ty t ht
  unfold Q23 Q13
  have h1 : ¬ ilt ((d + 1 : Nat) : Int) 1 = true := by rw [W0]; omega
  rw [if_neg h1, V4s hT]
  simp only [Option.bind_some]
  cases ho : Q9b w t p with
  | false => simp [Q6e, ho]
  | true =>
   simp only [Bool.not_true, Bool.false_eq_true, if_false]
   rw [Z8w hT p (Z0e ho) (by omega)]
   simp only [Option.bind_some]
   by_cases hl : p.kids.length = (Y5 w t p).length
   ·have h2 : ¬ (!ieq (lenZ p.kids.length) (lenZ (Y5 w t p).length)) = true := by simp [ieq, lenZ, hl]
    rw [if_neg h2]
    have hnode : Q6e w t p = true := by simp [Q6e, ho, hl]
    rw [hnode, Bool.true_and]
    have hws : wsub .i64 ((d + 1 : Nat) : Int) 1 = (d : Int) := by
     rw [Q4c (by omega) (by omega)]; omega
    have key : Ret ((forL (fun k102 x103 (s96 : Unit) =>
      ((idx p.kids (k102 : Int)).bind fun x111 =>
      ((Q23 m w x103 x111 (wsub .i64 ((d + 1 : Nat) : Int) 1)).bind fun r112 =>
      (if (!r112) = true then
      some (Ctl.ret (false))
      else
      some (Ctl.go ()))))) 0 (Y5 w t p) ())) (CtlQ (fun b => b = false ∧ (((Y5 w t p).zip p.kids).all fun x => Q13 w d x.1 x.2) = false) (fun _ => (((Y5 w t p).zip p.kids).all fun x => Q13 w d x.1 x.2) = true)) := by
     refine Z4 (Y5 w t p) (fun k _ => ∀ j a q, j < k → (Y5 w t p)[j]? = some a → p.kids[j]? = some q → Q13 w d a q = true) _ _ (fun j a q hj => by omega) (fun k a s ha hI => ?_) (fun s hI => ?_)
     ·have hlt : k < p.kids.length := by have := (List.getElem?_eq_some_iff.1 ha).1; omega
      have hq : p.kids[k]? = some p.kids[k] := by simp [hlt]
      rw [Q12 hq]
      simp only [Option.bind_some]
      rw [hws, ih m a p.kids[k] (Q7d hT ht ho a (List.mem_of_getElem? ha)) (by omega) (by omega)]
      simp only [Option.bind_some]
      cases hg : Q13 w d a p.kids[k] with
      | false =>
       refine .some ⟨rfl, ?_⟩
       rw [List.all_eq_false]
       exact ⟨(a, p.kids[k]), List.mem_of_getElem? (Q9f ha hq), by simp [hg]⟩
      | true =>
       refine .some (fun j a' q' hj ha' hq' => ?_)
       by_cases hjk : j = k
       ·subst hjk
        rw [ha] at ha'
        rw [hq] at hq'
        cases ha'
        cases hq'
        exact hg
       ·exact hI j a' q' (by omega) ha' hq'
     ·rw [List.all_eq_true]
      intro x hx
      obtain ⟨j, hj⟩ := List.mem_iff_getElem?.1 hx
      obtain ⟨h3, h4⟩ := List.getElem?_zip_eq_some.1 hj
      exact hI j x.1 x.2 ((List.getElem?_eq_some_iff.1 h3).1) h3 h4
    have := Ret.ctl (Q := fun b => b = (((Y5 w t p).zip p.kids).all fun x => Q13 w d x.1 x.2)) key (g := fun (o95 : Ctl Bool Unit) => match o95 with
     | .ret r => some r
     | .go _ => none
     | .brk s106 => some (true)) (fun r hr => .some (by rw [hr.1, hr.2])) (fun s hs => .some (by rw [hs]))
    obtain ⟨b, e, rfl⟩ := this
    exact e
   ·have h2 : (!ieq (lenZ p.kids.length) (lenZ (Y5 w t p).length)) = true := by rw [Bool.not_eq_true', X8]; simp only [lenZ]; omega
    rw [if_pos h2]
    simp [Q6e, hl]
def cntP : Q0 → Nat
 | ⟨_, _, _, _, _, kids⟩ => 1 + cntPs kids
where cntPs : List Q0 → Nat
 | [] => 0
 | p :: l => cntP p + cntPs l
theorem Q2g (p : Q0) : cntP p = 1 + cntP.cntPs p.kids := by cases p; rw [cntP]
theorem Q5p : ∀ (l : List Q0) (k : Nat) (q : Q0), l[k]? = some q → cntP.cntPs (l.take (k + 1)) = cntP.cntPs (l.take k) + cntP q
 | [], k, q, h => by simp at h
 | p :: l, 0, q, h => by simp at h; subst h; simp [cntP.cntPs]
 | p :: l, k + 1, q, h => by
  have := Q5p l k q (by simpa using h)
  simp only [List.take_succ_cons, cntP.cntPs]
  omega
theorem Q22 : ∀ (l : List Q0) (k : Nat), cntP.cntPs (l.take k) ≤ cntP.cntPs l
 | [], k => by simp
 | p :: l, 0 => by simp [cntP.cntPs]
 | p :: l, k + 1 => by
  have := Q22 l k
  simp only [List.take_succ_cons, cntP.cntPs]
  omega
theorem Q7u (p : Q0) : 1 ≤ cntP p := by rw [Q2g]; omega
theorem X0v : ∀ (n : Nat) (p : Q0) (most : Nat), most < n → most ≤ 1000 → Q37 n p (most : Int) = some ((min (cntP p) (most + 1) : Nat) : Int) := by
 intro n
 induction n with
 | zero => intro p most h; omega
 | succ n ih =>
  intro p most hn hm
  unfold Q37
  have key := Z4 (ρ := Int) (f := fun k94 x95 (s88 : Int) =>
   (if (ile s88 (most : Int)) = true then
   ((Q37 n x95 (wsub .i64 (most : Int) s88)).bind fun r103 =>
   some (Ctl.go (wadd .i64 s88 r103)))
   else
   some (Ctl.brk s88))) p.kids (s0 := 1) (fun k s => ∃ m : Nat, s = (m : Int) ∧ m = min (1 + cntP.cntPs (p.kids.take k)) (most + 1)) (fun _ => False) (fun s => s = ((min (cntP p) (most + 1) : Nat) : Int)) ⟨1, rfl, by simp [cntP.cntPs]⟩ (fun k q s hq hI => ?_) (fun s hI => ?_)
  ·have := Ret.ctl (Q := fun b => b = ((min (cntP p) (most + 1) : Nat) : Int)) key (g := fun (o : Ctl Int Int) => match o with
    | .ret r => some r
    | .go _ => none
    | .brk s => some s) (fun r hr => hr.elim) (fun s hs => .some hs)
   obtain ⟨b, e, rfl⟩ := this
   exact e
  ·obtain ⟨m, rfl, hm2⟩ := hI
   refine Ret.ite (fun h => ?_) (fun h => ?_)
   ·rw [Q14] at h
    have hle : m ≤ most := by omega
    have hws : wsub .i64 (most : Int) (m : Int) = ((most - m : Nat) : Int) := by rw [Q4c (by omega) (by omega)]; omega
    rw [hws, ih q (most - m) (by omega) (by omega)]
    simp only [Option.bind_some]
    rw [Q0p (by omega) (by omega)]
    refine .some ⟨m + min (cntP q) (most - m + 1), by push_cast; rfl, ?_⟩
    rw [Q5p p.kids k q hq]
    omega
   ·rw [Q4j] at h
    refine .some ?_
    have h1 := Q22 p.kids k
    have h2 := Q2g p
    show (m : Int) = _
    have : m = min (cntP p) (most + 1) := by omega
    rw [this]
  ·obtain ⟨m, rfl, hm2⟩ := hI
   rw [List.take_length] at hm2
   have h2 := Q2g p
   have : m = min (cntP p) (most + 1) := by omega
   rw [this]
theorem Q64 {w : List Q3} (hw : WW w) : ∀ (d n : Nat) (t : Q2) (p : Q0) (out : List Q7), t ∈ tys w → Q13 w d t p = true → d + 4 ≤ n → out.length + cntP p ≤ 100000 → Q0f n out w t p = some (out ++ Q2n w d t p) ∧ (Q2n w d t p).length ≤ cntP p := by
 intro d
 induction d with
 | zero => intro n t p out ht hg; cases hg
 | succ d ih =>
  intro n t p out ht hg hn hout
  obtain ⟨m, rfl⟩ : ∃ m, n = m + 1 := ⟨n - 1, by omega⟩
  have hT := hw.ty t ht
  obtain ⟨ho, hl⟩ := Q4p (Q3y hg)
  unfold Q0f
  have hfirst : (((if (ieq p.op 2) = true then
    ((app out [(Q7.mk p.var t)]).bind fun x20 => some (Ctl.brk x20))
    else
    (if (ieq p.op 6) = true then
    ((app out [(Q7.mk p.var t)]).bind fun x22 => some (Ctl.brk x22))
    else
    some (Ctl.brk out)))) : Option (Ctl (List Q7) (List Q7))) = some (Ctl.brk (out ++ ownV t p)) := by
   have ha : app out [(Q7.mk p.var t)] = some (out ++ [(Q7.mk p.var t)]) := V4 (by simp [Q8]; omega)
   by_cases h2 : p.op = 2
   ·simp [ieq, h2, ha, ownV]
   ·by_cases h6 : p.op = 6
    ·simp [ieq, h6, ha, ownV]
    ·simp [ieq, h2, h6, ownV]
  rw [hfirst]
  simp only [Option.bind_some]
  rw [Z8w hT p (Z0e ho) (by omega)]
  simp only [Option.bind_some]
  have hcnt := Q2g p
  have hown : (ownV t p).length ≤ 1 := by unfold ownV; split <;> simp
  have key := Z4 (ρ := List Q7) (f := fun k179 x180 (s173 : List Q7) =>
   (((if (ieq (k179 : Int) 0) = true then
   some (Ctl.brk ())
   else
   (if (!ieq p.op 5) = true then
   some (Ctl.brk ())
   else
   some (Ctl.ret (Ctl.brk s173))))).bind fun (o190 : Ctl (Ctl (List Q7) (List Q7)) (Unit)) => match o190 with
   | .ret r => some r
   | .go _ => none
   | .brk s189 =>
   ((idx p.kids (k179 : Int)).bind fun x201 =>
   ((Q0f m s173 w x180 x201).bind fun r202 =>
   some (Ctl.go r202))))) (Y5 w t p) (s0 := out ++ ownV t p)
   (fun k s => s = out ++ (ownV t p ++ (((Y5 w t p).zip p.kids).take k).flatMap fun x => Q2n w d x.1 x.2) ∧ k ≤ (if p.op = 5 then 1 else p.kids.length) ∧ s.length ≤ out.length + 1 + cntP.cntPs (p.kids.take k))
   (fun _ => False) (fun s => s = out ++ Q2n w (d + 1) t p ∧ s.length ≤ out.length + cntP p) ⟨by simp, by split <;> omega, by simp; omega⟩ (fun k a s ha hI => ?_) (fun s hI => ?_)
  ·have := Ret.ctl (Q := fun b => b = out ++ Q2n w (d + 1) t p ∧ b.length ≤ out.length + cntP p) key (g := fun (o : Ctl (List Q7) (List Q7)) => match o with
    | .ret r => some r
    | .go _ => none
    | .brk s => some s) (fun r hr => hr.elim) (fun s hs => .some hs)
   obtain ⟨b, e, rfl, h2⟩ := this
   refine ⟨e, ?_⟩
   rw [List.length_append] at h2
   omega
  ·obtain ⟨hs, hk, hlen⟩ := hI
   have hlt : k < p.kids.length := by have := (List.getElem?_eq_some_iff.1 ha).1; omega
   have hq : p.kids[k]? = some p.kids[k] := by simp [hlt]
   have h1 := Q5p p.kids k _ hq
   have h2 := Q22 p.kids (k + 1)
   have hpos := Q7u p.kids[k]
   have go : ∀ (hk2 : k + 1 ≤ (if p.op = 5 then 1 else p.kids.length)), Ret ((idx p.kids (k : Int)).bind fun x201 =>
     ((Q0f m s w a x201).bind fun r202 =>
     some (Ctl.go (ρ := List Q7) r202))) (RndQ (fun _ => False) (fun s => s = out ++ Q2n w (d + 1) t p ∧ s.length ≤ out.length + cntP p) (fun s => s = out ++ (ownV t p ++ (((Y5 w t p).zip p.kids).take (k + 1)).flatMap fun x => Q2n w d x.1 x.2) ∧ k + 1 ≤ (if p.op = 5 then 1 else p.kids.length) ∧ s.length ≤ out.length + 1 + cntP.cntPs (p.kids.take (k + 1)))) := fun hk2 => by
    rw [Q12 hq]
    simp only [Option.bind_some]
    obtain ⟨e1, e2⟩ := ih m a p.kids[k] s (Q7d hT ht ho a (List.mem_of_getElem? ha)) (Q31 hg ha hq) (by omega) (by omega)
    rw [e1]
    refine .some ⟨?_, hk2, ?_⟩
    ·rw [List.take_add_one, Q9f ha hq, hs]
     simp
    ·rw [List.length_append]
     omega
   by_cases h5 : p.op = 5
   ·by_cases hk0 : k = 0
    ·subst hk0
     have h0 : ieq ((0 : Nat) : Int) 0 = true := rfl
     rw [if_pos h0]
     exact go (by rw [if_pos h5]; omega)
    ·rw [if_pos h5] at hk
     have hk1 : k = 1 := by omega
     subst hk1
     have h0 : ¬ ieq ((1 : Nat) : Int) 0 = true := by decide
     have h50 : ¬ (!ieq p.op 5) = true := by simp [ieq, h5]
     rw [if_neg h0, if_neg h50]
     refine .some ⟨?_, ?_⟩
     ·rw [hs]
      simp only [Q2n, if_pos h5]
     ·have := Q22 p.kids 1
      omega
   ·have h50 : (!ieq p.op 5) = true := by simp [ieq, h5]
    have : (if (ieq (k : Int) 0) = true then some (Ctl.brk (ρ := Ctl (List Q7) (List Q7)) ()) else (if (!ieq p.op 5) = true then some (Ctl.brk ()) else some (Ctl.ret (Ctl.brk s)))) = some (Ctl.brk ()) := by
     rw [if_pos h50]
     split <;> rfl
    rw [this]
    exact go (by rw [if_neg h5]; omega)
  ·obtain ⟨hs, hk, hlen⟩ := hI
   rw [← hl] at hs hk hlen
   by_cases h5 : p.op = 5
   ·rw [if_pos h5] at hk
    have : (Y5 w t p).length = 2 := by simp [Y5, h5]
    omega
   ·refine ⟨?_, ?_⟩
    ·rw [hs]
     simp only [Q2n, if_neg h5]
    ·rw [List.take_length] at hlen
     omega
end Go.Proofs.YtnackipaoepmfaaGreat
namespace Go.Proofs.YtnackipaoepmfaaGreat
open Go Go.RowKit
theorem X4s (l : List Q7) (v : Int) : Ret (Q2q l v) (fun i => (∃ k x, i = ((k : Nat) : Int) ∧ l[k]? = some x ∧ x.var = v ∧ ∀ j y, j < k → l[j]? = some y → y.var ≠ v) ∨ (i = -1 ∧ ∀ x ∈ l, x.var ≠ v)) := by
 unfold Q2q
 refine Ret.ctl (Z4 l (fun k _ => ∀ j x, j < k → l[j]? = some x → x.var ≠ v) (fun i => ∃ k x, i = ((k : Nat) : Int) ∧ l[k]? = some x ∧ x.var = v ∧ ∀ j y, j < k → l[j]? = some y → y.var ≠ v) (fun _ => ∀ x ∈ l, x.var ≠ v) (fun j x hj => by omega) (fun k y s hy hI => ?_) (fun s hI => ?_)) (fun r hr => ?_) (fun s hs => ?_)
 ·refine Ret.ite (fun h => ?_) (fun h => ?_)
  ·rw [W5] at h
   exact .some ⟨k, y, rfl, hy, h, hI⟩
  ·rw [X8] at h
   refine .some (fun j x hj hx => ?_)
   by_cases hjk : j = k
   ·subst hjk
    rw [hy] at hx
    cases hx
    exact h
   ·exact hI j x (by omega) hx
 ·intro x hm
  obtain ⟨j, hj⟩ := List.mem_iff_getElem?.1 hm
  exact hI j x ((List.getElem?_eq_some_iff.1 hj).1) hj
 ·exact .some (.inl hr)
 ·exact .some (.inr ⟨rfl, hs⟩)
theorem Q7t {l : List Q7} (h : Q1g l = true) {i j : Nat} {x y : Q7} (hi : l[i]? = some x) (hj : l[j]? = some y) (he : x.var = y.var) : i = j := by
 unfold Q1g at h
 have h := of_decide_eq_true h
 have hi' : (l.map (·.var))[i]? = some x.var := by simp [hi]
 have hj' : (l.map (·.var))[j]? = some x.var := by simp [hj, he]
 have hil := (List.getElem?_eq_some_iff.1 hi').1
 exact (List.getElem?_inj hil h).1 (hi'.trans hj'.symm)
theorem Z6q {l : List Q7} (h : ∀ (i j : Nat) (x y : Q7), l[i]? = some x → l[j]? = some y → x.var = y.var → i = j) : Q1g l = true := by
 unfold Q1g
 refine decide_eq_true (List.pairwise_iff_getElem.2 fun i j hi hj hij he => ?_)
 simp only [List.length_map] at hi hj
 simp only [List.getElem_map] at he
 have := h i j l[i] l[j] (by simp [hi]) (by simp [hj]) he
 omega
theorem W7d (a b : List Q7) (hb : Q1g b = true) : Q42 a b = some (Q8b a b) := by
 have h : Ret (Q42 a b) (fun r => r = Q8b a b) := by
  unfold Q42
  refine Ret.ctl (Z4 a (fun k _ => ∀ j x, j < k → a[j]? = some x → x ∈ b) (fun r => r = false ∧ ∃ x ∈ a, x ∉ b) (fun _ => ∀ x ∈ a, x ∈ b) (fun j x hj => by omega) (fun k y s hy hI => ?_) (fun s hI => ?_)) (fun r hr => ?_) (fun s hs => ?_)
  ·refine Ret.bind (X4s b y.var) (fun i hi => ?_)
   rcases hi with ⟨q, x, rfl, hx, hv, _⟩ | ⟨rfl, hno⟩
   ·have h1 : ¬ ilt ((q : Nat) : Int) 0 = true := by rw [W0]; omega
    rw [if_neg h1, Q12 hx]
    simp only [Option.bind_some]
    by_cases ht : x.typ = y.typ
    ·have hxy : x = y := by cases x; cases y; simp_all
     have h2 : ¬ (!Q6b [ieq x.typ.data y.typ.data, ieq x.typ.index y.typ.index]) = true := by rw [ht]; simp [Q6b, ieq]
     rw [if_neg h2]
     refine .some (fun j z hj hz => ?_)
     by_cases hjk : j = k
     ·subst hjk
      rw [hy] at hz
      cases hz
      rw [← hxy]
      exact List.mem_of_getElem? hx
     ·exact hI j z (by omega) hz
    ·have h2 : (!Q6b [ieq x.typ.data y.typ.data, ieq x.typ.index y.typ.index]) = true := by
      have : ¬ (x.typ.data = y.typ.data ∧ x.typ.index = y.typ.index) := fun e => ht (by cases hx : x.typ; cases hy : y.typ; rw [hx, hy] at e; simp_all)
      simp only [Q6b, ieq, List.all_cons, List.all_nil, id, Bool.and_true, Bool.not_eq_true', Bool.and_eq_false_iff, decide_eq_false_iff_not]
      exact Decidable.not_and_iff_or_not.1 this
     rw [if_pos h2]
     refine .some ⟨rfl, y, List.mem_of_getElem? hy, fun hm => ?_⟩
     obtain ⟨j, hj⟩ := List.mem_iff_getElem?.1 hm
     have := Q7t hb hx hj hv
     subst this
     rw [hx] at hj
     cases hj
     exact ht rfl
   ·have h1 : ilt (-1) 0 = true := rfl
    rw [if_pos h1]
    exact .some ⟨rfl, y, List.mem_of_getElem? hy, fun hm => hno y hm rfl⟩
  ·intro x hm
   obtain ⟨j, hj⟩ := List.mem_iff_getElem?.1 hm
   exact hI j x ((List.getElem?_eq_some_iff.1 hj).1) hj
  ·obtain ⟨rfl, x, hx, hxb⟩ := hr
   refine .some ?_
   symm
   unfold Q8b
   rw [Bool.and_eq_false_iff]
   right
   rw [List.all_eq_false]
   exact ⟨x, hx, by simpa using hxb⟩
  ·refine .some ?_
   unfold Q8b
   have : a.all (fun v => decide (v ∈ b)) = true := by rw [List.all_eq_true]; intro x hx; simpa using hs x hx
   rw [this, Bool.and_true]
   simp only [ieq, lenZ]
   exact decide_eq_decide.2 (by omega)
 obtain ⟨r, e, rfl⟩ := h
 exact e
theorem Q5n {w : List Q3} : ∀ (d : Nat) (t : Q2) (p : Q0), Q13 w d t p = true → linD w d t p = true → Q1g (Q2n w d t p) = true := by
 intro d
 induction d with
 | zero => intro t p hg; cases hg
 | succ d ih =>
  intro t p hg hl
  simp only [linD, Bool.and_eq_true, List.all_eq_true] at hl
  by_cases h5 : p.op = 5
  ·obtain ⟨ho, hlen⟩ := Q4p (Q3y hg)
   have hk : Y5 w t p = [t, t] := by simp [Y5, h5]
   rw [hk] at hlen
   simp only [Q2n, if_pos h5, hk]
   have hown : ownV t p = [] := by simp [ownV, h5]
   match hkids : p.kids, hlen with
   | [a, b], _ =>
    rw [hkids, hk] at hl
    have h1 := hl.1 (t, a) (by simp)
    have h2 := ih t a (Q31 hg (k := 0) (by rw [hk]; rfl) (by rw [hkids]; rfl)) h1
    simpa [hown] using h2
  ·have := hl.2
   rw [if_neg h5] at this
   exact this
theorem kid0 {w : List Q3} {t : Q2} {p : Q0} (h5 : p.op = 5) (hl : p.kids.length = (Y5 w t p).length) : ∃ a b, p.kids = [a, b] ∧ Y5 w t p = [t, t] := by
 have hk : Y5 w t p = [t, t] := by simp [Y5, h5]
 rw [hk] at hl
 match hkids : p.kids, hl with
 | [a, b], _ => exact ⟨a, b, rfl, hk⟩
theorem Q6n {p : Q0} {k : Nat} {q : Q0} (h : p.kids[k]? = some q) : cntP q < cntP p := by
 have h1 := Q5p p.kids k q h
 have h2 := Q22 p.kids (k + 1)
 have h3 := Q2g p
 omega
theorem X7s {w : List Q3} (hw : WW w) : ∀ (d n : Nat) (t : Q2) (p : Q0), t ∈ tys w → Q13 w d t p = true → d + 5 ≤ n → cntP p ≤ 1000 → Q2c n w t p = some (linD w d t p) := by
 intro d
 induction d with
 | zero => intro n t p ht hg; cases hg
 | succ d ih =>
  intro n t p ht hg hn hc
  obtain ⟨m, rfl⟩ : ∃ m, n = m + 1 := ⟨n - 1, by omega⟩
  have hT := hw.ty t ht
  obtain ⟨ho, hl⟩ := Q4p (Q3y hg)
  unfold Q2c
  rw [Z8w hT p (Z0e ho) (by omega)]
  simp only [Option.bind_some]
  have h : Ret ((forL (fun k79 x80 (s73 : Unit) =>
    ((idx p.kids (k79 : Int)).bind fun x88 =>
    ((Q2c m w x80 x88).bind fun r89 =>
    (if (!r89) = true then
    some (Ctl.ret (false))
    else
    some (Ctl.go ()))))) 0 (Y5 w t p) ())) (CtlQ (fun b => b = false ∧ (((Y5 w t p).zip p.kids).all fun x => linD w d x.1 x.2) = false) (fun _ => (((Y5 w t p).zip p.kids).all fun x => linD w d x.1 x.2) = true)) := by
   refine Z4 (Y5 w t p) (fun k _ => ∀ j a q, j < k → (Y5 w t p)[j]? = some a → p.kids[j]? = some q → linD w d a q = true) _ _ (fun j a q hj => by omega) (fun k a s ha hI => ?_) (fun s hI => ?_)
   ·have hlt : k < p.kids.length := by have := (List.getElem?_eq_some_iff.1 ha).1; omega
    have hq : p.kids[k]? = some p.kids[k] := by simp [hlt]
    rw [Q12 hq]
    simp only [Option.bind_some]
    rw [ih m a p.kids[k] (Q7d hT ht ho a (List.mem_of_getElem? ha)) (Q31 hg ha hq) (by omega) (by have := Q6n hq; omega)]
    simp only [Option.bind_some]
    cases hgl : linD w d a p.kids[k] with
    | false =>
     refine .some ⟨rfl, ?_⟩
     rw [List.all_eq_false]
     exact ⟨(a, p.kids[k]), List.mem_of_getElem? (Q9f ha hq), by simp [hgl]⟩
    | true =>
     refine .some (fun j a' q' hj ha' hq' => ?_)
     by_cases hjk : j = k
     ·subst hjk
      rw [ha] at ha'
      rw [hq] at hq'
      cases ha'
      cases hq'
      exact hgl
     ·exact hI j a' q' (by omega) ha' hq'
   ·rw [List.all_eq_true]
    intro x hx
    obtain ⟨j, hj⟩ := List.mem_iff_getElem?.1 hx
    obtain ⟨h3, h4⟩ := List.getElem?_zip_eq_some.1 hj
    exact hI j x.1 x.2 ((List.getElem?_eq_some_iff.1 h3).1) h3 h4
  obtain ⟨o, e, ho2⟩ := h
  rw [e]
  simp only [Option.bind_some]
  cases o with
  | go s => exact ho2.elim
  | ret r =>
   obtain ⟨rfl, hr⟩ := ho2
   simp only [linD, hr, Bool.false_and]
  | brk s =>
   have hall : (((Y5 w t p).zip p.kids).all fun x => linD w d x.1 x.2) = true := ho2
   simp only [linD, hall, Bool.true_and]
   by_cases h5 : p.op = 5
   ·have h50 : ieq p.op 5 = true := by rw [W5]; exact h5
    rw [if_pos h50, if_pos h5]
    obtain ⟨a, b, hkids, hk⟩ := kid0 h5 hl
    have ga := Q31 hg (k := 0) (by rw [hk]; rfl) (by rw [hkids]; rfl)
    have gb := Q31 hg (k := 1) (by rw [hk]; rfl) (by rw [hkids]; rfl)
    have ca := Q6n (p := p) (k := 0) (by rw [hkids]; rfl)
    have cb := Q6n (p := p) (k := 1) (by rw [hkids]; rfl)
    have k0 : kv w d t p 0 = Q2n w d t a := by simp [kv, hkids, hk]
    have k1 : kv w d t p 1 = Q2n w d t b := by simp [kv, hkids, hk]
    rw [k0, k1]
    rw [hkids, hk] at hall
    rw [hkids]
    have i0 : idx [a, b] 0 = some a := rfl
    have i1 : idx [a, b] 1 = some b := rfl
    rw [i0, i1]
    simp only [Option.bind_some]
    rw [(Q64 hw d m t a [] ht ga (by omega) (by simp; omega)).1, (Q64 hw d m t b [] ht gb (by omega) (by simp; omega)).1]
    simp only [Option.bind_some, List.nil_append]
    simp at hall
    rw [W7d _ _ (Q5n d t b gb hall.2)]
    rfl
   ·have h50 : ¬ ieq p.op 5 = true := by rw [W5]; exact h5
    rw [if_neg h50, if_neg h5]
    rw [(Q64 hw (d + 1) m t p [] ht hg (by omega) (by simp; omega)).1]
    simp only [Option.bind_some, List.nil_append]
    generalize Q2n w (d + 1) t p = l
    have h : Ret ((forL (fun k178 x179 (s172 : Unit) =>
      ((Q2q l x179.var).bind fun r186 =>
      (if (!ieq r186 (k178 : Int)) = true then
      some (Ctl.ret (false))
      else
      some (Ctl.go ())))) 0 l ())) (CtlQ (fun b => b = false ∧ Q1g l = false) (fun _ => Q1g l = true)) := by
     refine Z4 l (fun k _ => ∀ i j x y, i < k → l[i]? = some x → l[j]? = some y → x.var = y.var → i ≤ j) _ _ (fun i j x y hi => by omega) (fun k a s ha hI => ?_) (fun s hI => ?_)
     ·refine Ret.bind (X4s l a.var) (fun i hi => ?_)
      rcases hi with ⟨q, x, rfl, hx, hv, hfirst⟩ | ⟨rfl, hno⟩
      ·by_cases hqk : q = k
       ·subst hqk
        have h1 : ¬ (!ieq ((q : Nat) : Int) (q : Int)) = true := by simp [ieq]
        rw [if_neg h1]
        refine .some (fun i j x' y' hi hx' hy' hv' => ?_)
        by_cases hiq : i = q
        ·subst hiq
         rw [ha] at hx'
         cases hx'
         rcases Nat.lt_or_ge j i with hji | hji
         ·exact absurd hv'.symm (hfirst j y' hji hy')
         ·exact hji
        ·exact hI i j x' y' (by omega) hx' hy' hv'
       ·have h1 : (!ieq ((q : Nat) : Int) (k : Int)) = true := by simp [ieq]; omega
        rw [if_pos h1]
        refine .some ⟨rfl, ?_⟩
        cases hd : Q1g l with
        | false => rfl
        | true => exact absurd (Q7t hd hx ha hv) hqk
      ·exact absurd rfl (hno a (List.mem_of_getElem? ha))
     ·refine Z6q fun i j x y hx hy hv => ?_
      have := hI i j x y ((List.getElem?_eq_some_iff.1 hx).1) hx hy hv
      have := hI j i y x ((List.getElem?_eq_some_iff.1 hy).1) hy hx hv.symm
      omega
    obtain ⟨o, e, ho3⟩ := h
    rw [e]
    simp only [Option.bind_some]
    cases o with
    | go s => exact ho3.elim
    | ret r =>
     obtain ⟨rfl, hr⟩ := ho3
     rw [hr]
    | brk s =>
     have : Q1g l = true := ho3
     rw [this]
end Go.Proofs.YtnackipaoepmfaaGreat
namespace Go.Proofs.YtnackipaoepmfaaGreat
open Go Go.RowKit
def Y9 (w : List Q3) (t : Q2) (p : Q0) : Bool := Q13 w 10 t p && (decide (cntP p ≤ 60) && linD w 10 t p)
theorem Z1v {w : List Q3} (hw : WW w) {n : Nat} (hn : 100 ≤ n) (t : Q2) (p : Q0) (ht : t ∈ tys w) : Q3o n w t p = some (Y9 w t p) := by
 unfold Q3o Y9
 have h1 := X0r hw 10 n t p ht (by omega) (by omega)
 have e10 : ((10 : Nat) : Int) = 10 := rfl
 rw [e10] at h1
 rw [h1]
 simp only [Option.bind_some]
 cases hg : Q13 w 10 t p with
 | false => simp
 | true =>
  have h2 := X0v n p 60 (by omega) (by omega)
  have e60 : ((60 : Nat) : Int) = 60 := rfl
  rw [e60] at h2
  rw [h2]
  simp only [Option.bind_some, if_true, Bool.true_and]
  by_cases hc : cntP p ≤ 60
  ·have : ile ((min (cntP p) (60 + 1) : Nat) : Int) 60 = true := by rw [Q14]; omega
   rw [if_pos this, X7s hw 10 n t p ht hg (by omega) (by omega)]
   simp [hc]
  ·have : ¬ ile ((min (cntP p) (60 + 1) : Nat) : Int) 60 = true := by rw [Q14]; omega
   rw [if_neg this]
   simp [hc]
theorem Z2z {w : List Q3} : ∀ (d : Nat) (t : Q2) (p : Q0), Q13 w d t p = true → ∀ v ∈ Q2n w d t p, 0 ≤ v.var ∧ v.var ≤ 5 := by
 intro d
 induction d with
 | zero => intro t p hg; cases hg
 | succ d ih =>
  intro t p hg v hv
  simp only [Q2n, List.mem_append, List.mem_flatMap] at hv
  rcases hv with hv | ⟨x, hx, hv⟩
  ·obtain ⟨ho, _⟩ := Q4p (Q3y hg)
   unfold ownV at hv
   split at hv
   ·rename_i h
    simp at hv
    subst hv
    simp [Q9b, h] at ho
    exact ho.1.1.1
   ·simp at hv
  ·have hx := List.mem_of_mem_take hx
   obtain ⟨j, hj⟩ := List.mem_iff_getElem?.1 hx
   obtain ⟨h3, h4⟩ := List.getElem?_zip_eq_some.1 hj
   exact ih x.1 x.2 (Q31 hg h3 h4) v hv
theorem V4v (l : List Q7) (hr : ∀ v ∈ l, 0 ≤ v.var ∧ v.var ≤ 5) {R : List Q7 × Bool × Int} :
  Ret (forL (fun k423 (x424 : Q7) (s417 : (List Bool)) =>
   ((aget 6 s417 x424.var).bind fun x435 =>
   (if x435 = true then
   some (Ctl.ret R)
   else
   ((aset 6 s417 x424.var true).bind fun x437 =>
   some (Ctl.go x437))))) 0 l [false, false, false, false, false, false]) (CtlQ (fun r => r = R ∧ Q1g l = false) (fun _ => Q1g l = true)) := by
 refine Z4 l (fun k s => s.length = 6 ∧ (∀ i : Nat, i < 6 → (s[i]? = some true ↔ ∃ (j : Nat) (x : Q7), j < k ∧ l[j]? = some x ∧ x.var = (i : Int))) ∧ ∀ (i j : Nat) (x y : Q7), i < k → j < k → l[i]? = some x → l[j]? = some y → x.var = y.var → i = j) _ _ ⟨rfl, fun i hi => ?_, fun i j x y hi => by omega⟩ (fun k a s ha hI => ?_) (fun s hI => ?_)
 ·constructor
  ·intro h
   match i, hi with
   | 0, _ => simp at h
   | 1, _ => simp at h
   | 2, _ => simp at h
   | 3, _ => simp at h
   | 4, _ => simp at h
   | 5, _ => simp at h
  ·rintro ⟨j, x, hj, _⟩; omega
 ·obtain ⟨hlen, hmet, hdis⟩ := hI
  obtain ⟨r1, r2⟩ := hr a (List.mem_of_getElem? ha)
  obtain ⟨v, hv⟩ : ∃ v : Nat, a.var = (v : Int) := ⟨a.var.toNat, by omega⟩
  have hv6 : v < 6 := by omega
  have hsv : s[v]? = some s[v] := by simp [hlen, hv6]
  have hget : aget 6 s a.var = some s[v] := by simp only [aget, hlen, if_true, hv]; exact Q12 hsv
  rw [hget]
  simp only [Option.bind_some]
  cases hb : s[v] with
  | true =>
   rw [hb] at hsv
   obtain ⟨j, x, hj, hx, hxv⟩ := (hmet v hv6).1 hsv
   refine .some ⟨rfl, ?_⟩
   cases hd : Q1g l with
   | false => rfl
   | true =>
    have := Q7t hd hx ha (by rw [hxv, hv])
    omega
  | false =>
   have hset : aset 6 s a.var true = some (s.set v true) := by
    simp only [aset, hlen, if_true, hv, setI]
    rw [if_pos ⟨by omega, by simpa using by omega⟩]
    simp
   simp only [Bool.false_eq_true, if_false]
   rw [hset]
   refine .some ⟨by simp [hlen], fun i hi => ?_, fun i j x y hi hj hx hy he => ?_⟩
   ·by_cases hiv : i = v
    ·subst hiv
     rw [List.getElem?_set_self (by omega)]
     exact ⟨fun _ => ⟨k, a, by omega, ha, hv⟩, fun _ => rfl⟩
    ·rw [List.getElem?_set_ne (by omega)]
     rw [hmet i hi]
     constructor
     ·rintro ⟨j, x, h1, h2, h3⟩; exact ⟨j, x, by omega, h2, h3⟩
     ·rintro ⟨j, x, h1, h2, h3⟩
      refine ⟨j, x, ?_, h2, h3⟩
      rcases Nat.lt_or_ge j k with h | h
      ·exact h
      ·have : j = k := by omega
       subst this
       rw [ha] at h2
       cases h2
       rw [hv] at h3
       omega
   ·have nomet : ∀ (j : Nat) (x : Q7), j < k → l[j]? = some x → x.var = a.var → False := fun j x h1 h2 h3 => by
     have := (hmet v hv6).2 ⟨j, x, h1, h2, by rw [h3, hv]⟩
     rw [hsv, hb] at this
     cases this
    by_cases hik : i = k
    ·by_cases hjk : j = k
     ·omega
     ·subst hik
      rw [ha] at hx
      cases hx
      exact (nomet j y (by omega) hy he.symm).elim
    ·by_cases hjk : j = k
     ·subst hjk
      rw [ha] at hy
      cases hy
      exact (nomet i x (by omega) hx he).elim
     ·exact hdis i j x y (by omega) (by omega) hx hy he
 ·obtain ⟨_, _, hdis⟩ := hI
  exact Z6q fun i j x y hx hy he => hdis i j x y ((List.getElem?_eq_some_iff.1 hx).1) ((List.getElem?_eq_some_iff.1 hy).1) hx hy he
theorem Z7w {α β : Type} (l : List α) (g : α → List β) : (l.take 1).flatMap g = l[0]?.elim [] g := by
 cases l with
 | nil => rfl
 | cons a l => simp
def okD (w : List Q3) (d : Nat) (t : Q2) (p : Q0) (c : Nat) : Bool := Q13 w d t p && (decide (c + cntP p ≤ 60) && linD w d t p)
theorem W94 {w : List Q3} (hw : WW w) : ∀ (d n : Nat) (t : Q2) (p : Q0) (c : Nat), t ∈ tys w → c ≤ 60 → d + 5 ≤ n → d ≤ 10 →
  Ret (Q0r n w t p (11 - (d : Int)) (c : Int)) (fun r => r.2.1 = okD w d t p c ∧ (okD w d t p c = true → r.1 = Q2n w d t p ∧ r.2.2 = ((c + cntP p : Nat) : Int))) := by
 intro d
 induction d with
 | zero =>
  intro n t p c ht hc hn hd
  obtain ⟨m, rfl⟩ : ∃ m, n = m + 1 := ⟨n - 1, by omega⟩
  unfold Q0r
  refine Ret.ite (fun h => ?_) (fun h => ?_)
  ·exact .some ⟨by simp [okD, Q13], by simp [okD, Q13]⟩
  ·have : ilt 10 (11 - ((0 : Nat) : Int)) = true := rfl
   rw [if_pos this]
   exact .some ⟨by simp [okD, Q13], by simp [okD, Q13]⟩
 | succ d ih =>
  intro n t p c ht hc hn hd
  obtain ⟨m, rfl⟩ : ∃ m, n = m + 1 := ⟨n - 1, by omega⟩
  have hT := hw.ty t ht
  have hcp := Q2g p
  unfold Q0r
  have hc1 : wadd .i64 (c : Int) 1 = ((c + 1 : Nat) : Int) := by rw [Q0p (by omega) (by omega)]; rfl
  rw [hc1]
  refine Ret.ite (fun h => ?_) (fun h => ?_)
  ·rw [W0] at h
   have : ¬ c + cntP p ≤ 60 := by omega
   exact .some ⟨by simp [okD, this], by simp [okD, this]⟩
  ·rw [Q06] at h
   have h2 : ¬ ilt 10 (11 - ((d + 1 : Nat) : Int)) = true := by rw [W0]; omega
   rw [if_neg h2]
   obtain ⟨ts, hs, hts⟩ := X5o hT p
   rw [hs]
   simp only [Option.bind_some]
   cases hnode : Q6e w t p with
   | false => exact .some ⟨by simp [okD, Q13, hnode], by simp [okD, Q13, hnode]⟩
   | true =>
    obtain rfl := hts hnode
    obtain ⟨ho, hl⟩ := Q4p hnode
    simp only [Bool.not_true, Bool.false_eq_true, if_false]
    refine Ret.ctl (R := fun _ => False) (B := fun s => s = ownV t p) ?_ (fun r hr => hr.elim) (fun s hs => ?_)
    ·have ha : app [] [(Q7.mk p.var t)] = some [(Q7.mk p.var t)] := V4 (by simp [Q8])
     by_cases h2 : p.op = 2
     ·exact ⟨_, by simp [ieq, h2, ha]; rfl, by simp [ownV, h2]⟩
     ·by_cases h6 : p.op = 6
      ·exact ⟨_, by simp [ieq, h6, ha]; rfl, by simp [ownV, h6]⟩
      ·exact ⟨_, by simp [ieq, h2, h6]; rfl, by simp [ownV, h2, h6]⟩
    subst hs
    have hown1 : (ownV t p).length ≤ 1 := by unfold ownV; split <;> simp
    have hkn : ∀ k, k < p.kids.length → ∃ a q, (Y5 w t p)[k]? = some a ∧ p.kids[k]? = some q := fun k hk => ⟨(Y5 w t p)[k]'(by omega), p.kids[k], by simp, by simp⟩
    have allgood : ∀ (P : Q2 → Q0 → Bool), (∀ (j : Nat) (a : Q2) (q : Q0), j < p.kids.length → (Y5 w t p)[j]? = some a → p.kids[j]? = some q → P a q = true) → (((Y5 w t p).zip p.kids).all fun x => P x.1 x.2) = true := fun P hP => by
     rw [List.all_eq_true]
     intro x hx
     obtain ⟨j, hj⟩ := List.mem_iff_getElem?.1 hx
     obtain ⟨h3, h4⟩ := List.getElem?_zip_eq_some.1 hj
     exact hP j x.1 x.2 ((List.getElem?_eq_some_iff.1 h4).1) h3 h4
    have notall : ∀ (P : Q2 → Q0 → Bool) (k : Nat) (a : Q2) (q : Q0), (Y5 w t p)[k]? = some a → p.kids[k]? = some q → P a q = false → (((Y5 w t p).zip p.kids).all fun x => P x.1 x.2) = false := fun P k a q h1 h2 h3 => by
     rw [List.all_eq_false]
     exact ⟨(a, q), List.mem_of_getElem? (Q9f h1 h2), by simp [h3]⟩
    refine Ret.ctl (Z4 p.kids
     (fun k s => s.1 = ((c + 1 + cntP.cntPs (p.kids.take k) : Nat) : Int) ∧ c + 1 + cntP.cntPs (p.kids.take k) ≤ 60 ∧ s.2 = ownV t p ++ (((Y5 w t p).zip p.kids).take (min k (if p.op = 5 then 1 else p.kids.length))).flatMap (fun x => Q2n w d x.1 x.2) ∧
      (∀ (j : Nat) (a : Q2) (q : Q0), j < k → (Y5 w t p)[j]? = some a → p.kids[j]? = some q → Q13 w d a q = true ∧ linD w d a q = true) ∧ s.2.length ≤ 1 + cntP.cntPs (p.kids.take k) ∧
      (p.op = 5 → 2 ≤ k → Q8b (kv w d t p 0) (kv w d t p 1) = true))
     (fun r => r.2.1 = false ∧ okD w (d + 1) t p c = false)
     (fun s => s.1 = ((c + cntP p : Nat) : Int) ∧ c + cntP p ≤ 60 ∧ s.2 = Q2n w (d + 1) t p ∧ Q13 w (d + 1) t p = true ∧ (((Y5 w t p).zip p.kids).all fun x => linD w d x.1 x.2) = true ∧
      (p.op = 5 → Q8b (kv w d t p 0) (kv w d t p 1) = true))
     ⟨by simp [cntP.cntPs], by simp [cntP.cntPs]; omega, by simp, fun j a q hj => by omega, by simp; omega, fun _ h => by omega⟩ (fun k q s hq hI => ?_) (fun s hI => ?_)) (fun r hr => ?_) (fun s hs => ?_)
    ·obtain ⟨i1, i2, i3, i4, i5, i6⟩ := hI
     have hlt := (List.getElem?_eq_some_iff.1 hq).1
     obtain ⟨a, q', ha, hq'⟩ := hkn k hlt
     rw [hq] at hq'
     cases hq'
     have hcd := Q5p p.kids k q hq
     have hct := Q22 p.kids (k + 1)
     have hpos := Q7u q
     refine Ret.ctl (R := fun (r : Ctl (List Q7 × Bool × Int) (Int × List Q7)) => ∃ x, r = .ret x ∧ x.2.1 = false ∧ okD w (d + 1) t p c = false)
      (B := fun (s : Int × List Q7) => s.1 = ((c + 1 + cntP.cntPs (p.kids.take (k + 1)) : Nat) : Int) ∧ c + 1 + cntP.cntPs (p.kids.take (k + 1)) ≤ 60 ∧ s.2 = ownV t p ++ (((Y5 w t p).zip p.kids).take (min (k + 1) (if p.op = 5 then 1 else p.kids.length))).flatMap (fun x => Q2n w d x.1 x.2) ∧
      (∀ (j : Nat) (a : Q2) (q : Q0), j < k + 1 → (Y5 w t p)[j]? = some a → p.kids[j]? = some q → Q13 w d a q = true ∧ linD w d a q = true) ∧ s.2.length ≤ 1 + cntP.cntPs (p.kids.take (k + 1)) ∧
      (p.op = 5 → 2 ≤ k + 1 → Q8b (kv w d t p 0) (kv w d t p 1) = true))
      ?_ (fun r hr => ?_) (fun s hs => ⟨_, rfl, hs⟩)
     ·rw [Q12 ha]
      simp only [Option.bind_some]
      have hdeep : wadd .i64 (11 - ((d + 1 : Nat) : Int)) 1 = 11 - (d : Int) := by rw [Q0p (by omega) (by omega)]; omega
      rw [hdeep, i1]
      refine Ret.bind (ih m a q _ (Q7d hT ht ho a (List.mem_of_getElem? ha)) i2 (by omega) (by omega)) (fun r hr => ?_)
      obtain ⟨hr1, hr2⟩ := hr
      rw [hr1]
      cases hok : okD w d a q (c + 1 + cntP.cntPs (p.kids.take k)) with
      | false =>
       refine .some ⟨_, rfl, rfl, ?_⟩
       simp only [okD, Bool.and_eq_false_iff] at hok
       rcases hok with h1 | h1 | h1
       ·simp only [okD, Q13, notall _ k a q ha hq h1, Bool.and_false, Bool.false_and]
       ·have h1 := of_decide_eq_false h1
        have : ¬ c + cntP p ≤ 60 := by omega
        simp [okD, this]
       ·simp only [okD, linD, notall _ k a q ha hq h1, Bool.and_false, Bool.false_and]
      | true =>
       obtain ⟨e1, e2⟩ := hr2 hok
       simp only [okD, Bool.and_eq_true, decide_eq_true_eq] at hok
       obtain ⟨g1, g2, g3⟩ := hok
       have hvl := (Q64 hw d (d + 4) a q [] (Q7d hT ht ho a (List.mem_of_getElem? ha)) g1 (by omega) (by simp; omega)).2
       have hboth : ∀ (j : Nat) (a' : Q2) (q' : Q0), j < k + 1 → (Y5 w t p)[j]? = some a' → p.kids[j]? = some q' → Q13 w d a' q' = true ∧ linD w d a' q' = true := fun j a' q' hj h1 h2 => by
        by_cases hjk : j = k
        ·subst hjk
         rw [ha] at h1
         rw [hq] at h2
         cases h1
         cases h2
         exact ⟨g1, g3⟩
        ·exact i4 j a' q' (by omega) h1 h2
       simp only [Bool.not_true, Bool.false_eq_true, if_false]
       have hcount : r.2.2 = ((c + 1 + cntP.cntPs (p.kids.take (k + 1)) : Nat) : Int) := by rw [e2, hcd]; congr 1; omega
       have happ : app s.2 r.1 = some (s.2 ++ Q2n w d a q) := by rw [e1]; exact V4 (by simp only [Q8]; omega)
       have hzip := Q9f ha hq
       by_cases h5 : p.op = 5
       ·have h50 : ieq p.op 5 = true := by rw [W5]; exact h5
        rw [if_pos h50]
        obtain ⟨x0, x1, hkids, hkt⟩ := kid0 h5 hl
        by_cases hk1 : k = 1
        ·subst hk1
         have h10 : ieq ((1 : Nat) : Int) 1 = true := rfl
         rw [if_pos h10, X3m, e1]
         simp only [Option.bind_some]
         have hs2 : s.2 = kv w d t p 0 := by
          rw [i3, if_pos h5, show ownV t p = [] by simp [ownV, h5]]
          simp only [Nat.min_self, List.nil_append]
          exact Z7w _ _
         have hz1 : (kv w d t p 1) = Q2n w d a q := by unfold kv; rw [hzip]; rfl
         refine Ret.ite (fun h => ?_) (fun h => ?_)
         ·refine .some ⟨_, rfl, rfl, ?_⟩
          have : Q8b (kv w d t p 0) (kv w d t p 1) = false := by
           rw [hz1, ← hs2]
           rw [Bool.not_eq_true'] at h
           exact h
          simp only [okD, linD, if_pos h5, this, Bool.and_false]
         ·refine .some ⟨hcount, by omega, ?_, hboth, by simp only; omega, fun _ _ => ?_⟩
          ·rw [i3, if_pos h5]
           rfl
          ·rw [hz1, ← hs2]
           simpa [Q8b] using h
        ·have hk0 : k = 0 := by rw [hkids] at hlt; simp at hlt; omega
         subst hk0
         have h10 : ¬ ieq ((0 : Nat) : Int) 1 = true := by decide
         rw [if_neg h10, happ]
         refine .some ⟨hcount, by omega, ?_, hboth, by simp only [List.length_append]; omega, fun _ h => by omega⟩
         simp only
         rw [i3, if_pos h5]
         simp only [Nat.zero_min, List.take_zero, List.flatMap_nil, List.append_nil, Nat.min_self]
         rw [show (0 + 1) = 1 from rfl, Z7w, hzip]
         rfl
       ·have h50 : ¬ ieq p.op 5 = true := by rw [W5]; exact h5
        rw [if_neg h50, happ]
        refine .some ⟨hcount, by omega, ?_, hboth, by simp only [List.length_append]; omega, fun h => absurd h h5⟩
        simp only
        rw [i3, if_neg h5, Nat.min_eq_left (by omega), Nat.min_eq_left (by omega), List.take_add_one, hzip]
        simp
     ·obtain ⟨x, rfl, h1, h2⟩ := hr
      exact .some ⟨h1, h2⟩
    ·obtain ⟨i1, i2, i3, i4, i5, i6⟩ := hI
     rw [List.take_length] at i1 i2
     refine ⟨by rw [i1]; congr 1; omega, by omega, ?_, ?_, allgood _ fun j a q hj h1 h2 => (i4 j a q hj h1 h2).2, fun h5 => i6 h5 ?_⟩
     ·rw [i3]
      have : min p.kids.length (if p.op = 5 then 1 else p.kids.length) = (if p.op = 5 then 1 else p.kids.length) := by
       split
       ·rename_i h5
        obtain ⟨x0, x1, hkids, hkt⟩ := kid0 h5 hl
        rw [hkids]
        simp
       ·simp
      rw [this]
      rfl
     ·simp only [Q13, hnode, Bool.true_and]
      exact allgood _ fun j a q hj h1 h2 => (i4 j a q hj h1 h2).1
     ·obtain ⟨x0, x1, hkids, hkt⟩ := kid0 h5 hl
      rw [hkids]
      simp
    ·exact .some ⟨by rw [hr.1, hr.2], fun h => by rw [hr.2] at h; cases h⟩
    ·obtain ⟨b1, b2, b3, b4, b5, b6⟩ := hs
     refine Ret.ctl (V4v s.2 (fun v hv => by rw [b3] at hv; exact Z2z (d + 1) t p b4 v hv)) (fun r hr => ?_) (fun s' hs' => ?_)
     ·obtain ⟨rfl, hd0⟩ := hr
      have : okD w (d + 1) t p c = false := by
       by_cases h5 : p.op = 5
       ·have hlin : linD w (d + 1) t p = true := by simp only [linD, b5, if_pos h5, b6 h5, Bool.and_self]
        have := Q5n (d + 1) t p b4 hlin
        rw [b3, this] at hd0
        cases hd0
       ·rw [b3] at hd0
        simp only [okD, linD, if_neg h5, hd0, Bool.and_false]
      exact .some ⟨by rw [this], fun h => by rw [this] at h; cases h⟩
     ·have hlin : linD w (d + 1) t p = true := by
       by_cases h5 : p.op = 5
       ·simp only [linD, b5, if_pos h5, b6 h5, Bool.and_self]
       ·rw [b3] at hs'
        simp only [linD, b5, if_neg h5, hs', Bool.and_self]
      have : okD w (d + 1) t p c = true := by simp [okD, b4, b2, hlin]
      exact .some ⟨by rw [this], fun _ => ⟨b3, b1⟩⟩
end Go.Proofs.YtnackipaoepmfaaGreat
namespace Go.Proofs.YtnackipaoepmfaaGreat
open Go Go.RowKit
theorem W1f (w : List Q3) (t : Q2) (p : Q0) : okD w 10 t p 0 = Y9 w t p := by simp [okD, Y9]
theorem W4f {w : List Q3} (hw : WW w) : ∀ (d : Nat) (t : Q2) (p : Q0), t ∈ tys w → Q13 w d t p = true → ∀ v ∈ Q2n w d t p, v.typ ∈ tys w := by
 intro d
 induction d with
 | zero => intro t p ht hg; cases hg
 | succ d ih =>
  intro t p ht hg v hv
  obtain ⟨ho, _⟩ := Q4p (Q3y hg)
  simp only [Q2n, List.mem_append, List.mem_flatMap] at hv
  rcases hv with hv | ⟨x, hx, hv⟩
  ·unfold ownV at hv
   split at hv
   ·simp at hv
    subst hv
    exact ht
   ·simp at hv
  ·have hx := List.mem_of_mem_take hx
   obtain ⟨j, hj⟩ := List.mem_iff_getElem?.1 hx
   obtain ⟨h3, h4⟩ := List.getElem?_zip_eq_some.1 hj
   exact ih x.1 x.2 (Q7d (hw.ty t ht) ht ho x.1 (List.mem_of_getElem? h3)) (Q31 hg h3 h4) v hv
def Z8l (g : Q3j) (vars : List Q7) : Bool := if g.op = 0 then decide (g.var = 0) && decide (g.n = 0) else decide (g.op = 1 ∨ g.op = 2) && (decide (0 ≤ g.n) && decide (g.n ≤ 9)) && decide (⟨g.var, tI⟩ ∈ vars)
def Q49 (w : List Q3) (t : Q2) (c : Q5) : Bool := Y9 w t c.pat && Z8l c.guard (Q2n w 10 t c.pat)
def Q3e (w : List Q3) (t : Q2) (l : List Q5) : Bool := decide (l.length ≤ 8) && l.all (Q49 w t)
theorem X1r (g : Q3j) (vars : List Q7) : Q56 g vars = some (Z8l g vars) := by
 unfold Q56 Z8l
 simp only [Q83, Z6t, Option.bind_some]
 by_cases h0 : g.op = 0
 ·simp [ieq, h0, Q6b]
 ·rw [if_neg (by rw [W5]; exact h0), if_neg h0]
  have e : (decide (1 ≤ g.op) && decide (g.op ≤ 2)) = decide (g.op = 1 ∨ g.op = 2) := by
   rw [← Bool.decide_and]
   exact decide_eq_decide.2 (by omega)
  rw [e]
  have et : (Q2.mk (-1) 0) = tI := rfl
  rw [et]
  cases decide (g.op = 1 ∨ g.op = 2) <;> cases (decide (0 ≤ g.n) && decide (g.n ≤ 9)) <;> rfl
theorem X0u {w : List Q3} (hw : WW w) (g : Q3j) (vars : List Q7) (hd : Q1g vars = true) (ht : ∀ v ∈ vars, v.typ ∈ tys w) : Q41 g vars = some (Z8l g vars) := by
 have h : Ret (Q41 g vars) (fun r => r = Z8l g vars) := by
  unfold Q41 Z8l
  by_cases h0 : g.op = 0
  ·rw [if_pos (by rw [W5]; exact h0), if_pos h0]
   by_cases h1 : g.var = 0 <;> simp [ieq, h1, Ret]
  ·rw [if_neg (by rw [W5]; exact h0), if_neg h0]
   refine Ret.ctl (R := fun r => r = false ∧ (decide (g.op = 1 ∨ g.op = 2) && (decide (0 ≤ g.n) && decide (g.n ≤ 9))) = false) (B := fun _ => (decide (g.op = 1 ∨ g.op = 2) && (decide (0 ≤ g.n) && decide (g.n ≤ 9))) = true) ?_ (fun r hr => ?_) (fun s hs => ?_)
   ·by_cases h1 : g.op = 1 <;> by_cases h2 : g.op = 2 <;> by_cases h3 : g.n < 0 <;> by_cases h4 : 9 < g.n <;> simp [ieq, ilt, h1, h2, h3, h4, Ret] <;> omega
   ·obtain ⟨rfl, hr⟩ := hr
    exact .some (by rw [hr]; rfl)
   ·rw [hs, Bool.true_and]
    refine Ret.bind (X4s vars g.var) (fun i hi => ?_)
    rcases hi with ⟨q, x, rfl, hx, hv, _⟩ | ⟨rfl, hno⟩
    ·have h1 : ile 0 ((q : Nat) : Int) = true := by rw [Q14]; omega
     rw [if_pos h1, Q12 hx]
     refine .some ?_
     have hxm := List.mem_of_getElem? hx
     simp only [ieq]
     refine decide_eq_decide.2 ⟨fun hdt => ?_, fun hm => ?_⟩
     ·have := ((hw.ty x.typ (ht x hxm)).ti hdt).1
      have : x = ⟨g.var, tI⟩ := by cases x; simp at hv this; simp [hv, this]
      rw [← this]
      exact hxm
     ·obtain ⟨j, hj⟩ := List.mem_iff_getElem?.1 hm
      have := Q7t hd hx hj hv
      subst this
      rw [hx] at hj
      cases hj
      rfl
    ·have h1 : ¬ ile 0 (-1) = true := by decide
     rw [if_neg h1]
     refine .some ?_
     symm
     exact decide_eq_false fun hm => hno _ hm rfl
 obtain ⟨r, e, rfl⟩ := h
 exact e
theorem Z10 {w : List Q3} (hw : WW w) {n : Nat} (hn : 100 ≤ n) (t : Q2) (p : Q0) (ht : t ∈ tys w) : Ret (Q1r n w t p) (fun r => r.2 = Y9 w t p ∧ (Y9 w t p = true → r.1 = Q2n w 10 t p)) := by
 unfold Q1r
 have h := W94 hw 10 n t p 0 ht (by omega) (by omega) (by omega)
 have e1 : (11 : Int) - ((10 : Nat) : Int) = 1 := rfl
 rw [e1] at h
 refine Ret.bind h (fun r hr => .some ?_)
 rw [W1f] at hr
 exact ⟨hr.1, fun hv => (hr.2 hv).1⟩
theorem Q8z {w : List Q3} (hw : WW w) {n : Nat} (hn : 100 ≤ n) (t : Q2) (c : Q5) (ht : t ∈ tys w) : Q2e n w t c = some (Q49 w t c) := by
 have h : Ret (Q2e n w t c) (fun r => r = Q49 w t c) := by
  unfold Q2e Q49
  refine Ret.bind (Z10 hw hn t c.pat ht) (fun r hr => ?_)
  obtain ⟨h1, h2⟩ := hr
  rw [h1]
  cases hv : Y9 w t c.pat with
  | false => exact .some rfl
  | true =>
   rw [if_pos rfl, X1r, h2 hv]
   exact .some rfl
 obtain ⟨r, e, rfl⟩ := h
 exact e
theorem J2 {w : List Q3} {t : Q2} {p : Q0} (h : Y9 w t p = true) : Q13 w 10 t p = true ∧ cntP p ≤ 60 ∧ linD w 10 t p = true := by
 simpa [Y9] using h
theorem Q8g {w : List Q3} (hw : WW w) {n : Nat} (hn : 100 ≤ n) (t : Q2) (c : Q5) (ht : t ∈ tys w) : Q66 n w t c = some (Q49 w t c) := by
 unfold Q66 Q49
 rw [Z1v hw hn t c.pat ht]
 simp only [Option.bind_some]
 cases hv : Y9 w t c.pat with
 | false => rfl
 | true =>
  obtain ⟨g1, g2, g3⟩ := J2 hv
  rw [if_pos rfl, (Q64 hw 10 n t c.pat [] ht g1 (by omega) (by simp; omega)).1]
  simp only [Option.bind_some, List.nil_append]
  rw [X0u hw c.guard _ (Q5n 10 t c.pat g1 g3) (W4f hw 10 t c.pat ht g1)]
  rfl
theorem Z2f {w : List Q3} (hw : WW w) {t : Q2} (ht : t ∈ tys w) : Q11 NN w t = some true := by
 unfold Q11
 rw [hw.v1]
 simp only [Option.bind_some, if_true]
 rw [(hw.ty t ht).t1]
 rfl
theorem Z58 {w : List Q3} (hw : WW w) {t : Q2} (ht : t ∈ tys w) : Q1u NN w t = some true := by
 unfold Q1u
 rw [hw.v2]
 simp only [Option.bind_some, if_true]
 rw [(hw.ty t ht).t2]
 rfl
theorem Z12 {w : List Q3} (hw : WW w) {t : Q2} (ht : t ∈ tys w) (l : List Q5) : Q1d NN w t l = some (Q3e w t l) := by
 unfold Q1d Q3e
 rw [Z2f hw ht]
 simp only [Option.bind_some, if_true]
 by_cases hl : l.length ≤ 8
 ·rw [if_pos (by rw [Q14]; simp only [lenZ]; omega)]
  rw [Z4n l _ (fun c => !Q49 w t c) (fun c _ => by unfold Q2y; rw [Q8z hw (by decide) t c ht]; rfl)]
  simp only [Option.bind_some, hl, decide_true, Bool.true_and, Option.some.injEq]
  rw [Bool.eq_iff_iff]
  simp
 ·rw [if_neg (by rw [Q14]; simp only [lenZ]; omega)]
  simp [hl]
theorem Z7b {w : List Q3} (hw : WW w) {t : Q2} (ht : t ∈ tys w) (l : List Q5) : Q1a NN w t l = some (Q3e w t l) := by
 have h : Ret (Q1a NN w t l) (fun r => r = Q3e w t l) := by
  unfold Q1a Q3e
  rw [Z58 hw ht]
  simp only [Option.bind_some, Bool.not_true, Bool.false_eq_true, if_false]
  by_cases hl : l.length ≤ 8
  ·rw [if_neg (by rw [W0]; simp only [lenZ]; omega)]
   simp only [hl, decide_true, Bool.true_and]
   refine Ret.ctl (Z4 l (fun k _ => ∀ j c, j < k → l[j]? = some c → Q49 w t c = true) (fun r => r = false ∧ l.all (Q49 w t) = false) (fun _ => l.all (Q49 w t) = true) (fun j c hj => by omega) (fun k c s hc hI => ?_) (fun s hI => ?_)) (fun r hr => ?_) (fun s hs => ?_)
   ·rw [Q8g hw (by decide) t c ht]
    simp only [Option.bind_some]
    cases hb : Q49 w t c with
    | false =>
     refine .some ⟨rfl, ?_⟩
     rw [List.all_eq_false]
     exact ⟨c, List.mem_of_getElem? hc, by simp [hb]⟩
    | true =>
     refine .some (fun j c' hj hc' => ?_)
     by_cases hjk : j = k
     ·subst hjk
      rw [hc] at hc'
      cases hc'
      exact hb
     ·exact hI j c' (by omega) hc'
   ·rw [List.all_eq_true]
    intro c hc
    obtain ⟨j, hj⟩ := List.mem_iff_getElem?.1 hc
    exact hI j c ((List.getElem?_eq_some_iff.1 hj).1) hj
   ·exact .some (by rw [hr.1, hr.2])
   ·exact .some hs.symm
  ·rw [if_pos (by rw [W0]; simp only [lenZ]; omega)]
   exact .some (by simp [hl])
 obtain ⟨r, e, rfl⟩ := h
 exact e
end Go.Proofs.YtnackipaoepmfaaGreat
namespace Go.Proofs.YtnackipaoepmfaaGreat
open Go Go.RowKit
def Q0y (w : List Q3) : Nat → Q2 → Q4 → Prop
 | 0, _, _ => False
 | d + 1, t, v => if t.data = -1 then v.ctor = -1 ∧ 0 ≤ v.n ∧ v.n ≤ 9 ∧ v.kids = [] else v.n = 0 ∧ v.ctor ∈ Z7 w t ∧ v.kids.length = (Z5 w t v.ctor).length ∧ ∀ (j : Nat) (a : Q2) (x : Q4), (Z5 w t v.ctor)[j]? = some a → v.kids[j]? = some x → Q0y w d a x
def Q4a (f : Q0 → Q4 → Option (List W4)) : List Q0 → List Q4 → Option (List W4)
 | [], _ => some []
 | _ :: _, [] => none
 | p :: ps, v :: vs => match f p v with
  | none => none
  | some l => match Q4a f ps vs with
   | none => none
   | some m => some (l ++ m)
def W6 : Nat → Q0 → Q4 → Option (List W4)
 | 0, _, _ => none
 | d + 1, p, v =>
  if p.op = 1 then some []
  else if p.op = 2 then some [⟨p.var, v⟩]
  else if p.op = 3 then (if p.n ≤ v.n ∧ v.n ≤ p.m then some [] else none)
  else if p.op = 5 then (match p.kids with
   | [a, b] => (match W6 d a v with | some l => some l | none => W6 d b v)
   | _ => none)
  else if p.op = 6 then (match p.kids with
   | [a] => (W6 d a v).map (fun l => ⟨p.var, v⟩ :: l)
   | _ => none)
  else if p.ctor = v.ctor then Q4a (W6 d) p.kids v.kids else none
theorem W1s {w : List Q3} {t : Q2} {p : Q0} (h6 : p.op = 6) (hl : p.kids.length = (Y5 w t p).length) : ∃ a, p.kids = [a] ∧ Y5 w t p = [t] := by
 have hk : Y5 w t p = [t] := by simp [Y5, h6]
 rw [hk] at hl
 match hkids : p.kids, hl with
 | [a], _ => exact ⟨a, rfl, hk⟩
theorem W5b {w : List Q3} (hw : WW w) : ∀ (d n : Nat) (t : Q2) (p : Q0) (v : Q4) (e : Nat), t ∈ tys w → Q13 w d t p = true → Q0y w e t v → d + 2 ≤ n → cntP p ≤ 1000 →
  Ret (Q2x n p v) (fun r => r.1.length ≤ cntP p ∧ r.2 = (W6 d p v).isSome ∧ ∀ l, W6 d p v = some l → r.1 = l) := by
 intro d
 induction d with
 | zero => intro n t p v e ht h; cases h
 | succ d ih =>
  intro n t p v e ht hg hv hn hc
  obtain ⟨n, rfl⟩ : ∃ k, n = k + 1 := ⟨n - 1, by omega⟩
  obtain ⟨ho, hl⟩ := Q4p (Q3y hg)
  have hT := hw.ty t ht
  have hpos := Q7u p
  unfold Q2x
  refine Ret.ite (fun h => ?_) (fun h1 => ?_)
  ·rw [W5] at h
   exact .some ⟨by simp, by simp [W6, h], fun l hl => by simp [W6, h] at hl; exact hl.symm⟩
  rw [X8] at h1
  refine Ret.ite (fun h => ?_) (fun h2 => ?_)
  ·rw [W5] at h
   exact .some ⟨by simp; omega, by simp [W6, h], fun l hl => by simp [W6, h] at hl; exact hl⟩
  rw [X8] at h2
  refine Ret.ite (fun h => ?_) (fun h3 => ?_)
  ·rw [W5] at h
   rw [Q83]
   refine .some ⟨by simp, ?_, fun l hl => ?_⟩
   ·by_cases hr : p.n ≤ v.n ∧ v.n ≤ p.m
    ·simp [W6, h, hr]
    ·simp only [W6, h]
     simp [hr]
     simpa using hr
   ·simp only [W6, h] at hl
    simp at hl
    exact hl.2.symm
  rw [X8] at h3
  refine Ret.ite (fun h => ?_) (fun h5 => ?_)
  ·rw [W5] at h
   obtain ⟨a, b, hkids, hk⟩ := kid0 h hl
   have ca := Q6n (p := p) (k := 0) (by rw [hkids]; rfl)
   have cb := Q6n (p := p) (k := 1) (by rw [hkids]; rfl)
   have ga := Q31 hg (k := 0) (by rw [hk]; rfl) (by rw [hkids]; rfl)
   have gb := Q31 hg (k := 1) (by rw [hk]; rfl) (by rw [hkids]; rfl)
   have i0 : idx [a, b] 0 = some a := rfl
   have i1 : idx [a, b] 1 = some b := rfl
   rw [hkids, i0, i1]
   simp only [Option.bind_some]
   have hm : W6 (d + 1) p v = (match W6 d a v with | some l => some l | none => W6 d b v) := by
    simp [W6, h, hkids]
   rw [hm]
   refine Ret.bind (ih n t a v e ht ga hv (by omega) (by omega)) (fun r hr => ?_)
   obtain ⟨r0, r1, r2⟩ := hr
   rw [r1]
   cases hma : W6 d a v with
   | some l => exact .some ⟨by simp only; omega, rfl, fun l' hl' => by cases hl'; exact r2 l hma⟩
   | none =>
    simp only [Option.isSome_none, Bool.false_eq_true, if_false]
    refine Ret.bind (ih n t b v e ht gb hv (by omega) (by omega)) (fun s hs => ?_)
    obtain ⟨s0, s1, s2⟩ := hs
    exact .some ⟨by simp only; omega, s1, fun l' hl' => s2 l' hl'⟩
  rw [X8] at h5
  refine Ret.ite (fun h => ?_) (fun h6 => ?_)
  ·rw [W5] at h
   obtain ⟨a, hkids, hk⟩ := W1s h hl
   have ca := Q6n (p := p) (k := 0) (by rw [hkids]; rfl)
   have ga := Q31 hg (k := 0) (by rw [hk]; rfl) (by rw [hkids]; rfl)
   have i0 : idx [a] 0 = some a := rfl
   rw [hkids, i0]
   simp only [Option.bind_some]
   have hm : W6 (d + 1) p v = (W6 d a v).map (fun l => ⟨p.var, v⟩ :: l) := by
    simp [W6, h, hkids]
   rw [hm]
   refine Ret.bind (ih n t a v e ht ga hv (by omega) (by omega)) (fun r hr => ?_)
   obtain ⟨r0, r1, r2⟩ := hr
   rw [V4 (by simp [Q8]; omega)]
   refine .some ⟨by simp; omega, by rw [r1]; simp, fun l' hl' => ?_⟩
   simp only [Option.map_eq_some_iff] at hl'
   obtain ⟨l, e1, rfl⟩ := hl'
   rw [r2 l e1]
   rfl
  rw [X8] at h6
  have h4 : p.op = 4 := by
   simp [Q9b, h1, h2, h3, h5, h6] at ho
   exact ho.2.1
  have hcm := Z0e ho h4
  have hm : W6 (d + 1) p v = if p.ctor = v.ctor then Q4a (W6 d) p.kids v.kids else none := by
   simp [W6, h4]
  rw [hm]
  refine Ret.ite (fun h => ?_) (fun h => ?_)
  ·rw [Bool.not_eq_true', X8] at h
   rw [if_neg h]
   exact .some ⟨by simp, rfl, fun l hl => by cases hl⟩
  ·rw [Bool.not_eq_false', W5] at h
   rw [if_pos h]
   have hkt : Y5 w t p = Z5 w t p.ctor := by simp [Y5, h4]
   obtain ⟨e, rfl⟩ : ∃ e', e = e' + 1 := by cases e with
    | zero => exact hv.elim
    | succ e => exact ⟨e, rfl⟩
   have hdata : t.data ≠ -1 := fun hd => by
    obtain ⟨rfl, _⟩ := hT.ti hd
    have : Z7 w tI = [] := rfl
    rw [this] at hcm
    cases hcm
   simp only [Q0y, if_neg hdata] at hv
   obtain ⟨v1, v2, v3, v4⟩ := hv
   rw [← h] at v3 v4
   have hlen : p.kids.length = v.kids.length := by rw [v3, hl, hkt]
   refine Ret.ctl (Z4 p.kids (fun k s => Q4a (W6 d) p.kids v.kids = (Q4a (W6 d) (p.kids.drop k) (v.kids.drop k)).map (fun l => s ++ l) ∧ s.length ≤ cntP.cntPs (p.kids.take k)) (fun r => r = ([], false) ∧ Q4a (W6 d) p.kids v.kids = none)
    (fun s => Q4a (W6 d) p.kids v.kids = some s ∧ s.length ≤ cntP.cntPs p.kids) ⟨by simp, by simp⟩ (fun k q s hq hI => ?_) (fun s hI => ?_)) (fun r hr => ?_) (fun s hs => ?_)
   ·obtain ⟨i1, i2⟩ := hI
    have hlt := (List.getElem?_eq_some_iff.1 hq).1
    have hx : v.kids[k]? = some (v.kids[k]'(by omega)) := by simp
    have ha : (Y5 w t p)[k]? = some ((Y5 w t p)[k]'(by omega)) := by simp
    rw [Q12 hx]
    simp only [Option.bind_some]
    have cq := Q6n hq
    have hcd := Q5p p.kids k q hq
    have hct := Q22 p.kids (k + 1)
    have hcp := Q2g p
    refine Ret.bind (ih n _ q _ e (Q7d hT ht ho _ (List.mem_of_getElem? ha)) (Q31 hg ha hq) (v4 k _ _ (by rw [← hkt]; exact ha) hx) (by omega) (by omega)) (fun r hr => ?_)
    obtain ⟨r0, r1, r2⟩ := hr
    have hd1 : p.kids.drop k = q :: p.kids.drop (k + 1) := by
     rw [List.drop_eq_getElem_cons hlt]
     rw [List.getElem?_eq_getElem hlt] at hq
     cases hq
     rfl
    have hd2 : v.kids.drop k = v.kids[k]'(by omega) :: v.kids.drop (k + 1) := List.drop_eq_getElem_cons (by omega)
    rw [hd1, hd2] at i1
    simp only [Q4a] at i1
    cases hmq : W6 d q (v.kids[k]'(by omega)) with
    | none =>
     rw [hmq] at i1 r1
     rw [r1]
     exact .some ⟨rfl, i1⟩
    | some l =>
     rw [hmq] at i1 r1
     have e1 := r2 l hmq
     rw [r1]
     simp only [Option.isSome_some, Bool.not_true, Bool.false_eq_true, if_false]
     rw [V4 (by simp only [Q8]; omega), e1]
     refine .some ⟨?_, by rw [List.length_append, ← e1]; omega⟩
     rw [i1]
     cases Q4a (W6 d) (p.kids.drop (k + 1)) (v.kids.drop (k + 1)) with
     | none => rfl
     | some m => simp
   ·obtain ⟨i1, i2⟩ := hI
    rw [List.take_length] at i2
    refine ⟨?_, i2⟩
    rw [i1, List.drop_length]
    simp [Q4a]
   ·obtain ⟨rfl, hr⟩ := hr
    exact .some ⟨by simp, by rw [hr]; rfl, fun l hl => by rw [hr] at hl; cases hl⟩
   ·have hcp := Q2g p
    exact .some ⟨by simp only; omega, by rw [hs.1]; rfl, fun l hl => by rw [hs.1] at hl; cases hl; rfl⟩
end Go.Proofs.YtnackipaoepmfaaGreat
namespace Go.Proofs.YtnackipaoepmfaaGreat
open Go Go.RowKit
def Z7r : Nat → Q0 → Prop
 | 0, _ => False
 | d + 1, p => ∀ q ∈ p.kids, Z7r d q
theorem Z7q (a b : List Q0) (f : Q0 → Q0 → Option Bool) (P : Q0 → Q0 → Prop) (hf : ∀ x ∈ a, ∀ y ∈ b, Ret (f x y) (fun r => r = true ↔ x = y)) : Ret (Q09 a b f) (fun r => r = true ↔ a = b) := by
 unfold Q09
 refine Ret.ite (fun h => ?_) (fun h => ?_)
 ·rw [Bool.not_eq_true', X8] at h
  simp only [lenZ] at h
  exact .some ⟨fun e => (by cases e), fun e => by rw [e] at h; exact absurd rfl h⟩
 ·rw [Bool.not_eq_false', W5] at h
  simp only [lenZ] at h
  have hl : a.length = b.length := by omega
  refine Ret.ctl (Z4 a (fun k _ => ∀ j : Nat, j < k → a[j]? = b[j]?) (fun r => r = false ∧ a ≠ b) (fun _ => a = b) (fun j hj => by omega) (fun k x s hx hI => ?_) (fun s hI => ?_)) (fun r hr => ?_) (fun s hs => ?_)
  ·have hkl := (List.getElem?_eq_some_iff.1 hx).1
   have hy : b[k]? = some (b[k]'(by omega)) := by simp
   rw [Q12 hy]
   simp only [Option.bind_some]
   refine Ret.bind (hf x (List.mem_of_getElem? hx) _ (List.mem_of_getElem? hy)) (fun r hr => ?_)
   refine Ret.ite (fun h => ?_) (fun h => ?_)
   ·rw [Bool.not_eq_true'] at h
    refine .some ⟨rfl, fun e => ?_⟩
    rw [e] at hx
    rw [hx] at hy
    have := hr.2 (Option.some.inj hy)
    rw [h] at this
    cases this
   ·rw [Bool.not_eq_false'] at h
    refine .some (fun j hj => ?_)
    by_cases hjk : j = k
    ·subst hjk
     rw [hx, hy, hr.1 h]
    ·exact hI j (by omega)
  ·apply List.ext_getElem?
   intro j
   rcases Nat.lt_or_ge j a.length with h | h
   ·exact hI j h
   ·rw [List.getElem?_eq_none h, List.getElem?_eq_none (by omega)]
  ·exact .some ⟨fun e => (by rw [hr.1] at e; cases e), fun e => absurd e hr.2⟩
  ·exact .some ⟨fun _ => hs, fun _ => rfl⟩
theorem Q0.ext' {a b : Q0} (h1 : a.op = b.op) (h2 : a.ctor = b.ctor) (h3 : a.n = b.n) (h4 : a.m = b.m) (h5 : a.var = b.var) (h6 : a.kids = b.kids) : a = b := by
 cases a; cases b; simp_all
theorem X43 : ∀ (d n : Nat) (a b : Q0), Z7r d a → d ≤ n → Ret (Q1t n a b) (fun r => r = true ↔ a = b) := by
 intro d
 induction d with
 | zero => intro n a b h; exact h.elim
 | succ d ih =>
  intro n a b h hn
  obtain ⟨n, rfl⟩ : ∃ k, n = k + 1 := ⟨n - 1, by omega⟩
  unfold Q1t
  refine Ret.ite (fun h1 => ?_) (fun h1 => .some ⟨fun e => (by cases e), fun e => by rw [X8] at h1; exact absurd (by rw [e]) h1⟩)
  refine Ret.ite (fun h2 => ?_) (fun h1 => .some ⟨fun e => (by cases e), fun e => by rw [X8] at h1; exact absurd (by rw [e]) h1⟩)
  refine Ret.ite (fun h3 => ?_) (fun h1 => .some ⟨fun e => (by cases e), fun e => by rw [X8] at h1; exact absurd (by rw [e]) h1⟩)
  refine Ret.ite (fun h4 => ?_) (fun h1 => .some ⟨fun e => (by cases e), fun e => by rw [X8] at h1; exact absurd (by rw [e]) h1⟩)
  refine Ret.ite (fun h5 => ?_) (fun h1 => .some ⟨fun e => (by cases e), fun e => by rw [X8] at h1; exact absurd (by rw [e]) h1⟩)
  rw [W5] at h1 h2 h3 h4 h5
  refine Ret.bind (Z7q a.kids b.kids _ (fun _ _ => True) (fun x hx y hy => ih n x y (h x hx) (by omega))) (fun r hr => .some ?_)
  exact ⟨fun e => Q0.ext' h1 h2 h3 h4 h5 (hr.1 e), fun e => hr.2 (by rw [e])⟩
theorem Q7f {w : List Q3} : ∀ (d : Nat) (t : Q2) (p : Q0), Q13 w d t p = true → Z7r d p := by
 intro d
 induction d with
 | zero => intro t p h; cases h
 | succ d ih =>
  intro t p h q hq
  obtain ⟨ho, hl⟩ := Q4p (Q3y h)
  obtain ⟨j, hj⟩ := List.mem_iff_getElem?.1 hq
  have hjl := (List.getElem?_eq_some_iff.1 hj).1
  exact ih _ q (Q31 h (show (Y5 w t p)[j]? = some ((Y5 w t p)[j]'(by omega)) by simp) hj)
theorem Z8i : ∀ (d n : Nat) (p : Q0), Z7r d p → d ≤ n → cntP p ≤ 1000 → Q08 n p = some p := by
 intro d
 induction d with
 | zero => intro n p h; exact h.elim
 | succ d ih =>
  intro n p h hn hc
  obtain ⟨n, rfl⟩ : ∃ k, n = k + 1 := ⟨n - 1, by omega⟩
  have hcp := Q2g p
  have hr : Ret (Q08 (n + 1) p) (fun r => r = p) := by
   unfold Q08
   refine Ret.ctl (Z4 p.kids (fun k s => s = p.kids.take k ∧ s.length ≤ cntP.cntPs (p.kids.take k)) (fun _ => False) (fun s => s = p.kids) ⟨by simp, by simp⟩ (fun k q s hq hI => ?_) (fun s hI => ?_)) (fun r hr => hr.elim) (fun s hs => .some (Q0.ext' rfl rfl rfl rfl rfl hs))
   ·obtain ⟨i1, i2⟩ := hI
    have hct := Q22 p.kids (k + 1)
    have hcd := Q5p p.kids k q hq
    have hq1 := Q7u q
    rw [ih n q (h q (List.mem_of_getElem? hq)) (by omega) (by omega)]
    simp only [Option.bind_some]
    rw [V4 (by simp only [Q8, List.length_cons, List.length_nil]; omega)]
    exact .some ⟨by rw [i1, List.take_add_one, hq]; rfl, by simp; omega⟩
   ·rw [hI.1, List.take_length]
  obtain ⟨r, e, rfl⟩ := hr
  exact e
theorem Z5b : ∀ (d n : Nat) (p : Q0), Z7r d p → d ≤ n → cntP p ≤ 1000 → Q20 n p = some p := by
 intro d
 induction d with
 | zero => intro n p h; exact h.elim
 | succ d ih =>
  intro n p h hn hc
  obtain ⟨n, rfl⟩ : ∃ k, n = k + 1 := ⟨n - 1, by omega⟩
  have hcp := Q2g p
  have hr : Ret (Q20 (n + 1) p) (fun r => r = p) := by
   unfold Q20
   refine Ret.ctl (Z4 p.kids (fun k s => s = p.kids.take k ∧ s.length ≤ cntP.cntPs (p.kids.take k)) (fun _ => False) (fun s => s = p.kids) ⟨by simp, by simp⟩ (fun k q s hq hI => ?_) (fun s hI => ?_)) (fun r hr => hr.elim) (fun s hs => .some (Q0.ext' rfl rfl rfl rfl rfl hs))
   ·obtain ⟨i1, i2⟩ := hI
    have hct := Q22 p.kids (k + 1)
    have hcd := Q5p p.kids k q hq
    have hq1 := Q7u q
    rw [ih n q (h q (List.mem_of_getElem? hq)) (by omega) (by omega)]
    simp only [Option.bind_some]
    rw [V4 (by simp only [Q8, List.length_cons, List.length_nil]; omega)]
    exact .some ⟨by rw [i1, List.take_add_one, hq]; rfl, by simp; omega⟩
   ·rw [hI.1, List.take_length]
  obtain ⟨r, e, rfl⟩ := hr
  exact e
end Go.Proofs.YtnackipaoepmfaaGreat
namespace Go.Proofs.YtnackipaoepmfaaGreat
open Go Go.RowKit
def tupD (out : List (List Q0)) (l : List Q0) : List (List Q0) := out.flatMap fun q => l.map fun c => q ++ [c]
def Q63 (p : Q0) (ks : List Q0) : Q0 := Q0.mk p.op p.ctor p.n p.m p.var ks
def Z0 : Nat → Q0 → List Q0
 | 0, _ => []
 | d + 1, p => if p.op = 5 then p.kids.flatMap (Z0 d) else ((p.kids.map (Z0 d)).foldl tupD [[]]).map (Q63 p)
def orOk : Nat → Q0 → Prop
 | 0, _ => False
 | d + 1, p => p.kids.length ≤ 3 ∧ (p.op = 5 → p.kids.length = 2) ∧ ∀ x ∈ p.kids, orOk d x
def Q6k (l : List Nat) : Nat := l.foldl (· * ·) 1
theorem Z6e (l : List Nat) : ∀ a, l.foldl (· * ·) a = a * l.foldl (· * ·) 1 := by
 induction l with
 | nil => intro a; simp
 | cons x l ih => intro a; simp only [List.foldl_cons]; rw [ih (a * x), ih (1 * x)]; rw [Nat.one_mul, Nat.mul_assoc]
theorem X80 (l : List Nat) (x : Nat) : Q6k (l ++ [x]) = Q6k l * x := by simp [Q6k]
theorem Z25 {l : List Nat} (h : ∀ x ∈ l, 1 ≤ x) : 1 ≤ Q6k l := by
 induction l with
 | nil => simp [Q6k]
 | cons x l ih =>
  have h1 := h x (by simp)
  have h2 := ih fun y hy => h y (by simp [hy])
  have : Q6k (x :: l) = x * Q6k l := by simp only [Q6k, List.foldl_cons]; rw [Z6e, Nat.one_mul]
  rw [this]; exact Nat.mul_pos h1 h2
theorem Z24 {l : List Nat} (h : ∀ x ∈ l, 1 ≤ x) : ∀ k, Q6k (l.take k) ≤ Q6k l := by
 induction l with
 | nil => intro k; simp
 | cons x l ih =>
  intro k
  have c : ∀ m, Q6k (x :: m) = x * Q6k m := fun m => by simp only [Q6k, List.foldl_cons]; rw [Z6e, Nat.one_mul]
  cases k with
  | zero => simp only [List.take_zero]; show 1 ≤ _; exact Z25 h
  | succ k => simp only [List.take_succ_cons, c]; exact Nat.mul_le_mul_left _ (ih (fun y hy => h y (by simp [hy])) k)
theorem X3d (out : List (List Q0)) (l : List Q0) : (tupD out l).length = out.length * l.length := by
 unfold tupD
 induction out with
 | nil => simp
 | cons q out ih => simp only [List.flatMap_cons, List.length_append, ih, List.length_map, List.length_cons]; rw [Nat.add_mul, Nat.one_mul, Nat.add_comm]
theorem Z8x : ∀ (ls : List (List Q0)) (out : List (List Q0)), (ls.foldl tupD out).length = out.length * Q6k (ls.map List.length)
 | [], out => by simp [Q6k]
 | l :: ls, out => by
  rw [List.foldl_cons, Z8x ls, X3d, List.map_cons]
  have : Q6k (l.length :: ls.map List.length) = l.length * Q6k (ls.map List.length) := by simp only [Q6k, List.foldl_cons]; rw [Z6e, Nat.one_mul]
  rw [this, Nat.mul_assoc]
theorem Z1s (d : Nat) (p : Q0) : (Z0 (d + 1) p).length = if p.op = 5 then (p.kids.map fun x => (Z0 d x).length).sum else Q6k (p.kids.map fun x => (Z0 d x).length) := by
 simp only [Z0]
 split
 ·rw [List.length_flatMap]
 ·rw [List.length_map, Z8x]; simp [List.map_map, Function.comp_def]
theorem Q9i : ∀ (d : Nat) (p : Q0), orOk d p → 1 ≤ (Z0 d p).length := by
 intro d
 induction d with
 | zero => intro p h; exact h.elim
 | succ d ih =>
  intro p h
  obtain ⟨h1, h2, h3⟩ := h
  rw [Z1s]
  split
  ·rename_i h5
   have hl := h2 h5
   match hk : p.kids, hl with
   | [a, b], _ =>
    have ha := ih a (h3 a (by simp [hk]))
    simp
    omega
  ·refine Z25 fun x hx => ?_
   obtain ⟨q, hq, rfl⟩ := List.mem_map.1 hx
   exact ih q (h3 q hq)
theorem W9j {a b m : Nat} (ha : 1 ≤ a) (hb : 1 ≤ b) : min (min a m * min b m) m = min (a * b) m := by
 rcases Nat.le_total a m with h1 | h1 <;> rcases Nat.le_total b m with h2 | h2
 ·rw [Nat.min_eq_left h1, Nat.min_eq_left h2]
 ·rw [Nat.min_eq_left h1, Nat.min_eq_right h2, Nat.min_eq_right, Nat.min_eq_right]
  ·exact Nat.le_trans h2 (Nat.le_mul_of_pos_left _ ha)
  ·exact Nat.le_mul_of_pos_left _ ha
 ·rw [Nat.min_eq_right h1, Nat.min_eq_left h2, Nat.min_eq_right, Nat.min_eq_right]
  ·exact Nat.le_trans h1 (Nat.le_mul_of_pos_right _ hb)
  ·exact Nat.le_mul_of_pos_right _ hb
 ·rw [Nat.min_eq_right h1, Nat.min_eq_right h2]
  rcases Nat.eq_zero_or_pos m with rfl | hm
  ·simp
  ·rw [Nat.min_eq_right (Nat.le_mul_of_pos_left _ hm), Nat.min_eq_right (Nat.le_trans h2 (Nat.le_mul_of_pos_left _ ha))]
theorem W1x (a b : Nat) : imin (a : Int) (b : Int) = ((min a b : Nat) : Int) := by
 unfold imin
 split <;> omega
theorem Z9s : ∀ (d n : Nat) (p : Q0), orOk d p → d ≤ n → Q0l n p = some ((min (Z0 d p).length 401 : Nat) : Int) := by
 intro d
 induction d with
 | zero => intro n p h; exact h.elim
 | succ d ih =>
  intro n p h hn
  obtain ⟨n, rfl⟩ : ∃ k, n = k + 1 := ⟨n - 1, by omega⟩
  obtain ⟨h1, h2, h3⟩ := h
  have hl : ∀ k q, p.kids[k]? = some q → (p.kids.map fun x => (Z0 d x).length).take (k + 1) = (p.kids.map fun x => (Z0 d x).length).take k ++ [(Z0 d q).length] := fun k q hq => by
   rw [List.take_add_one]; simp [hq]
  have hpos : ∀ x ∈ (p.kids.map fun x => (Z0 d x).length), 1 ≤ x := fun x hx => by
   obtain ⟨q, hq, rfl⟩ := List.mem_map.1 hx
   exact Q9i d q (h3 q hq)
  have hr : Ret (Q0l (n + 1) p) (fun r => r = ((min (Z0 (d + 1) p).length 401 : Nat) : Int)) := by
   unfold Q0l
   rw [Z1s]
   by_cases h5 : p.op = 5
   ·have e5 : ieq p.op 5 = true := by simp [ieq, h5]
    simp only [e5, if_true, Option.bind_some]
    rw [if_pos h5]
    refine Ret.ctl (Z4 p.kids (fun k s => s = ((min ((p.kids.map fun x => (Z0 d x).length).take k).sum 401 : Nat) : Int)) (fun _ => False) (fun s => s = ((min (p.kids.map fun x => (Z0 d x).length).sum 401 : Nat) : Int)) (by simp) (fun k q s hq hI => ?_) (fun s hI => ?_)) (fun r hr => hr.elim) (fun s hs => .some hs)
    ·rw [ih n q (h3 q (List.mem_of_getElem? hq)) (by omega)]
     simp only [Option.bind_some]
     refine .some ?_
     simp only [Q33]
     rw [hl k q hq, hI, List.sum_append, Q0p (by omega) (by omega)]
     have e : ((min (List.take k (p.kids.map fun x => (Z0 d x).length)).sum 401 : Nat) : Int) + ((min (Z0 d q).length 401 : Nat) : Int) = ((min (List.take k (p.kids.map fun x => (Z0 d x).length)).sum 401 + min (Z0 d q).length 401 : Nat) : Int) := by omega
     rw [e, show (401 : Int) = ((401 : Nat) : Int) from rfl, W1x]
     congr 1
     simp only [List.sum_cons, List.sum_nil]
     omega
    ·rw [hI, List.take_of_length_le (by simp)]
   ·have e5 : ieq p.op 5 = false := by simp [ieq, h5]
    simp only [e5, Bool.false_eq_true, if_false, Option.bind_some]
    rw [if_neg h5]
    refine Ret.ctl (Z4 p.kids (fun k s => s = ((min (Q6k ((p.kids.map fun x => (Z0 d x).length).take k)) 401 : Nat) : Int)) (fun _ => False) (fun s => s = ((min (Q6k (p.kids.map fun x => (Z0 d x).length)) 401 : Nat) : Int)) (by simp [Q6k]) (fun k q s hq hI => ?_) (fun s hI => ?_)) (fun r hr => hr.elim) (fun s hs => .some hs)
    ·rw [ih n q (h3 q (List.mem_of_getElem? hq)) (by omega)]
     simp only [Option.bind_some]
     refine .some ?_
     simp only [Q33]
     have ha : 1 ≤ Q6k ((p.kids.map fun x => (Z0 d x).length).take k) := Z25 fun x hx => hpos x (List.mem_of_mem_take hx)
     have hb := Q9i d q (h3 q (List.mem_of_getElem? hq))
     rw [hl k q hq, hI, X80]
     generalize Q6k ((p.kids.map fun x => (Z0 d x).length).take k) = a at ha
     generalize (Z0 d q).length = b at hb
     have hm : min a 401 * min b 401 ≤ 401 * 401 := Nat.mul_le_mul (Nat.min_le_right _ _) (Nat.min_le_right _ _)
     have e : ((min a 401 : Nat) : Int) * ((min b 401 : Nat) : Int) = ((min a 401 * min b 401 : Nat) : Int) := by simp
     rw [Z15 (by rw [e]; omega) (by rw [e]; omega), e, show (401 : Int) = ((401 : Nat) : Int) from rfl, W1x, W9j ha hb]
    ·rw [hI, List.take_of_length_le (by simp)]
  obtain ⟨r, e, rfl⟩ := hr
  exact e
theorem Z9u (l : List Q0) (h : l.length ≤ Q8) : Y0 l = some l := by
 unfold Y0
 rw [V4 (by simpa using h)]
 rfl
theorem X1q : ∀ (d n : Nat) (p : Q0), orOk d p → d ≤ n → (Z0 d p).length ≤ 1000 → Q24 n p = some (Z0 d p) := by
 intro d
 induction d with
 | zero => intro n p h; exact h.elim
 | succ d ih =>
  intro n p h hn hc
  obtain ⟨n, rfl⟩ : ∃ k, n = k + 1 := ⟨n - 1, by omega⟩
  obtain ⟨h1, h2, h3⟩ := h
  by_cases h5 : p.op = 5
  ·have e5 : ieq p.op 5 = true := by simp [ieq, h5]
   unfold Q24
   rw [if_pos e5]
   rw [Z1s, if_pos h5] at hc
   match hk : p.kids, h2 h5 with
   | [a, b], _ =>
    rw [hk] at h3 hc
    simp only [List.map_cons, List.map_nil, List.sum_cons, List.sum_nil] at hc
    rw [show idx [a, b] 0 = some a from rfl, show idx [a, b] 1 = some b from rfl]
    simp only [Option.bind_some]
    rw [ih n a (h3 a (by simp)) (by omega) (by omega), ih n b (h3 b (by simp)) (by omega) (by omega)]
    simp only [Option.bind_some]
    rw [V4 (by simp only [Q8]; omega)]
    simp [Z0, h5, hk]
  ·have e5 : ¬ ieq p.op 5 = true := by simp [ieq, h5]
   rw [Z1s, if_neg h5] at hc
   have hpos : ∀ x ∈ (p.kids.map fun x => (Z0 d x).length), 1 ≤ x := fun x hx => by
    obtain ⟨q, hq, rfl⟩ := List.mem_map.1 hx
    exact Q9i d q (h3 q hq)
   have hlen : ∀ k, (((p.kids.map (Z0 d)).take k).foldl tupD [[]]).length = Q6k ((p.kids.map fun x => (Z0 d x).length).take k) := fun k => by
    rw [Z8x]; simp [List.map_take, List.map_map, Function.comp_def]
   suffices hr : Ret (Q24 (n + 1) p) (fun r => r = Z0 (d + 1) p) by
    obtain ⟨r, e, rfl⟩ := hr
    exact e
   unfold Q24
   rw [if_neg e5]
   refine Ret.ctl (Z4 p.kids (fun k s => s = (((p.kids.map (Z0 d)).take k).foldl tupD [[]]).map (Q63 p)) (fun _ => False) (fun s => s = Z0 (d + 1) p) (by simp [Q63]) (fun k q s hq hI => ?_) (fun s hI => ?_)) (fun r hr => hr.elim) (fun s hs => .some hs)
   ·have hqm := List.mem_of_getElem? hq
    have hkl := (List.getElem?_eq_some_iff.1 hq).1
    have hnx : ((p.kids.map (Z0 d)).take (k + 1)).foldl tupD [[]] = tupD (((p.kids.map (Z0 d)).take k).foldl tupD [[]]) (Z0 d q) := by
     rw [List.take_add_one, List.getElem?_map, hq]; simp
    have hb1 : (((p.kids.map (Z0 d)).take (k + 1)).foldl tupD [[]]).length ≤ 1000 := by rw [hlen]; exact Nat.le_trans (Z24 hpos _) hc
    have hb0 : (((p.kids.map (Z0 d)).take k).foldl tupD [[]]).length ≤ 1000 := by rw [hlen]; exact Nat.le_trans (Z24 hpos _) hc
    have hq1 := Q9i d q (h3 q hqm)
    have ho1 : 1 ≤ (((p.kids.map (Z0 d)).take k).foldl tupD [[]]).length := by rw [hlen]; exact Z25 fun x hx => hpos x (List.mem_of_mem_take hx)
    rw [hnx, X3d] at hb1
    have hq2 : (Z0 d q).length ≤ 1000 := Nat.le_trans (Nat.le_mul_of_pos_left _ ho1) hb1
    rw [ih n q (h3 q hqm) (by omega) hq2]
    simp only [Option.bind_some]
    have kl : ∀ ks ∈ ((p.kids.map (Z0 d)).take k).foldl tupD [[]], ks.length ≤ k := by
     have gen : ∀ (ls : List (List Q0)) (out : List (List Q0)) (m : Nat), (∀ ks ∈ out, ks.length ≤ m) → ∀ ks ∈ ls.foldl tupD out, ks.length ≤ m + ls.length := by
      intro ls
      induction ls with
      | nil => intro out m h ks hks; simpa using h ks hks
      | cons l ls ih2 =>
       intro out m h ks hks
       rw [List.foldl_cons] at hks
       have := ih2 (tupD out l) (m + 1) (fun ks hk2 => by
        simp only [tupD, List.mem_flatMap, List.mem_map] at hk2
        obtain ⟨q2, hq2, c, _, rfl⟩ := hk2
        have := h q2 hq2
        simp; omega) ks hks
       simp only [List.length_cons]; omega
     intro ks hks
     have := gen _ [[]] 0 (by simp) ks hks
     rw [List.length_take] at this
     omega
    generalize ho : ((p.kids.map (Z0 d)).take k).foldl tupD [[]] = out at *
    rw [hnx]
    refine Ret.ctl (Z4 s (fun j u => u = (tupD (out.take j) (Z0 d q)).map (Q63 p)) (fun _ => False) (fun u => u = (tupD out (Z0 d q)).map (Q63 p)) (by simp [tupD]) (fun j x u hx hJ => ?_) (fun u hJ => ?_)) (fun r hr => hr.elim) (fun u hu => .some hu)
    ·rw [hI, List.getElem?_map] at hx
     obtain ⟨ks, hks, rfl⟩ := Option.map_eq_some_iff.1 hx
     have hks3 := kl ks (List.mem_of_getElem? hks)
     have hjl := (List.getElem?_eq_some_iff.1 hks).1
     have hnj : tupD (out.take (j + 1)) (Z0 d q) = tupD (out.take j) (Z0 d q) ++ (Z0 d q).map (fun c => ks ++ [c]) := by
      rw [List.take_add_one, hks]; simp [tupD]
     rw [hnj]
     refine Ret.ctl (Z4 (Z0 d q) (fun i v => v = (tupD (out.take j) (Z0 d q) ++ ((Z0 d q).take i).map (fun c => ks ++ [c])).map (Q63 p)) (fun _ => False) (fun v => v = (tupD (out.take j) (Z0 d q) ++ (Z0 d q).map (fun c => ks ++ [c])).map (Q63 p)) (by simp [hJ]) (fun i c v hc2 hK => ?_) (fun v hK => ?_)) (fun r hr => hr.elim) (fun v hv => .some hv)
     ·simp only [Q63]
      rw [Z9u _ (by simp only [Q8]; omega)]
      simp only [Option.bind_some]
      rw [V4 (by simp only [Q8, List.length_cons, List.length_nil]; omega)]
      simp only [Option.bind_some]
      have hil := (List.getElem?_eq_some_iff.1 hc2).1
      have hvl : v.length ≤ 1000 * 1000 + 1000 := by
       rw [hK, List.length_map, List.length_append, X3d, List.length_map, List.length_take, List.length_take]
       have := Nat.mul_le_mul (show min j out.length ≤ 1000 by omega) hq2
       omega
      rw [V4 (by simp only [Q8, List.length_cons, List.length_nil]; omega)]
      refine .some ?_
      simp only [Q33]
      rw [hK, List.take_add_one, hc2]
      simp [Q63]
     ·rw [hK, List.take_length]
    ·rw [hJ, hI, List.length_map, List.take_length]
   ·rw [hI, List.take_of_length_le (by simp)]; simp [Z0, h5]
end Go.Proofs.YtnackipaoepmfaaGreat
namespace Go.Proofs.YtnackipaoepmfaaGreat
open Go Go.RowKit
def fitP : Q0 → Q4 → Bool
 | ⟨op, ctor, n, m, _, kids⟩, v => if op = 1 then true else if op = 3 then decide (n ≤ v.n ∧ v.n ≤ m) else decide (ctor = v.ctor) && fitPs kids v.kids
where fitPs : List Q0 → List Q4 → Bool
 | [], [] => true
 | p :: ps, v :: vs => fitP p v && fitPs ps vs
 | _, _ => false
abbrev fitL := fitP.fitPs
theorem Q5g {p : Q0} (h : p.op = 1) (v : Q4) : fitP p v = true := by
 cases p; simp only at h; subst h; simp [fitP]
theorem Q5f {p : Q0} (h : p.op = 3) (v : Q4) : fitP p v = decide (p.n ≤ v.n ∧ v.n ≤ p.m) := by
 cases p; simp only at h; subst h; simp [fitP]
theorem Q0s {p : Q0} (h : p.op = 4) (v : Q4) : fitP p v = (decide (p.ctor = v.ctor) && fitL p.kids v.kids) := by
 cases p; simp only at h; subst h; simp [fitP]
@[simp] theorem Z4w : fitL [] [] = true := by simp [fitP.fitPs]
@[simp] theorem Q4m (p : Q0) (ps : List Q0) (v : Q4) (vs : List Q4) : fitL (p :: ps) (v :: vs) = (fitP p v && fitL ps vs) := by simp [fitP.fitPs]
def Z3 (w : List Q3) : Nat → Q2 → Q0 → Prop
 | 0, _, _ => False
 | d + 1, t, p => p = Q0.mk 1 0 0 0 0 [] ∨ (∃ n m, p = Q0.mk 3 0 n m 0 [] ∧ t.data = -1 ∧ 0 ≤ n ∧ n ≤ m ∧ m ≤ 9) ∨
  (∃ c ks, p = Q0.mk 4 c 0 0 0 ks ∧ t.data ≠ -1 ∧ c ∈ Z7 w t ∧ ks.length = (Z5 w t c).length ∧ ∀ (j : Nat) (a : Q2) (q : Q0), (Z5 w t c)[j]? = some a → ks[j]? = some q → Z3 w d a q)
theorem Q8q (w : List Q3) (d : Nat) (t : Q2) : Z3 w (d + 1) t (Q0.mk 1 0 0 0 0 []) := .inl rfl
theorem Q50 {w : List Q3} : ∀ (d : Nat) (t : Q2) (p : Q0), Z3 w d t p → Z3 w (d + 1) t p
 | 0, _, _, h => h.elim
 | d + 1, t, p, h => by
  rcases h with h | h | ⟨c, ks, e, h1, h2, h3, h4⟩
  ·exact .inl h
  ·exact .inr (.inl h)
  ·exact .inr (.inr ⟨c, ks, e, h1, h2, h3, fun j a q ha hq => Q50 d a q (h4 j a q ha hq)⟩)
theorem X3u {w : List Q3} {d e : Nat} {t : Q2} {p : Q0} (h : Z3 w d t p) (he : d ≤ e) : Z3 w e t p := by
 induction he with
 | refl => exact h
 | step _ ih => exact Q50 _ t p ih
def Q1q (f : Q0 → Q0 → Option Q0) : List Q0 → List Q0 → Option (List Q0)
 | a :: as, b :: bs => (f a b).bind fun x => (Q1q f as bs).map (x :: ·)
 | _, _ => some []
def W3 : Nat → Q0 → Q0 → Option Q0
 | 0, _, _ => none
 | d + 1, a, b =>
  if a.op = 1 then some b else if b.op = 1 then some a
  else if a.op = 3 then (if max a.n b.n ≤ min a.m b.m then some (Q0.mk 3 0 (max a.n b.n) (min a.m b.m) 0 []) else none)
  else if a.ctor = b.ctor then (Q1q (W3 d) a.kids b.kids).map (fun ks => Q0.mk 4 a.ctor 0 0 0 ks) else none
theorem X1j {f : Q0 → Q0 → Option Q0} : ∀ (as bs : List Q0) (vs : List Q4), as.length = vs.length → bs.length = vs.length →
  (∀ (j : Nat) (a b : Q0) (v : Q4), as[j]? = some a → bs[j]? = some b → vs[j]? = some v → ((fitP a v = true ∧ fitP b v = true) ↔ ∃ m, f a b = some m ∧ fitP m v = true)) →
  ((fitL as vs = true ∧ fitL bs vs = true) ↔ ∃ ms, Q1q f as bs = some ms ∧ fitL ms vs = true)
 | [], [], [], _, _, _ => by simp [Q1q]
 | a :: as, b :: bs, v :: vs, h1, h2, h => by
  have h0 := h 0 a b v rfl rfl rfl
  have ih := X1j as bs vs (by simpa using h1) (by simpa using h2) fun j x y z e1 e2 e3 => h (j + 1) x y z e1 e2 e3
  simp only [Q4m, Bool.and_eq_true, Q1q]
  constructor
  ·rintro ⟨⟨g1, g2⟩, g3, g4⟩
   obtain ⟨m, e1, e2⟩ := h0.1 ⟨g1, g3⟩
   obtain ⟨ms, e3, e4⟩ := ih.1 ⟨g2, g4⟩
   exact ⟨m :: ms, by simp [e1, e3], by simp [e2, e4]⟩
  ·rintro ⟨ms, e1, e2⟩
   cases hm : f a b with
   | none => simp [hm] at e1
   | some m =>
    cases hms : Q1q f as bs with
    | none => simp [hm, hms] at e1
    | some ms' =>
     simp [hm, hms] at e1
     subst e1
     simp only [Q4m, Bool.and_eq_true] at e2
     obtain ⟨g1, g3⟩ := h0.2 ⟨m, hm, e2.1⟩
     obtain ⟨g2, g4⟩ := ih.2 ⟨ms', hms, e2.2⟩
     exact ⟨⟨g1, g2⟩, g3, g4⟩
 | [], [], _ :: _, h, _, _ => by simp at h
 | [], _ :: _, [], _, h, _ => by simp at h
 | [], _ :: _, _ :: _, h, _, _ => by simp at h
 | _ :: _, [], [], h, _, _ => by simp at h
 | _ :: _, [], _ :: _, _, h, _ => by simp at h
 | _ :: _, _ :: _, [], h, _, _ => by simp at h
theorem Q69 {w : List Q3} {e : Nat} {t : Q2} {v : Q4} (h : Q0y w e t v) (hd : t.data ≠ -1) : ∃ e', e = e' + 1 ∧ v.ctor ∈ Z7 w t ∧ v.kids.length = (Z5 w t v.ctor).length ∧ ∀ (j : Nat) (a : Q2) (x : Q4), (Z5 w t v.ctor)[j]? = some a → v.kids[j]? = some x → Q0y w e' a x := by
 cases e with
 | zero => exact h.elim
 | succ e =>
  simp only [Q0y, if_neg hd] at h
  exact ⟨e, rfl, h.2.1, h.2.2.1, h.2.2.2⟩
theorem W2j {w : List Q3} {e : Nat} {t : Q2} {v : Q4} (h : Q0y w e t v) (hd : t.data = -1) : 0 ≤ v.n ∧ v.n ≤ 9 := by
 cases e with
 | zero => exact h.elim
 | succ e =>
  simp only [Q0y, if_pos hd] at h
  exact ⟨h.2.1, h.2.2.1⟩
theorem Q0x {α : Type} {l : List α} {n j : Nat} (h : l.length = n) (hj : j < n) : ∃ x, l[j]? = some x := ⟨l[j]'(by omega), by simp⟩
theorem Z4r {w : List Q3} : ∀ (d e : Nat) (t : Q2) (a b : Q0) (x : Nat), Z3 w x t a → Z3 w d t b → ∀ v, Q0y w e t v → ((fitP a v = true ∧ fitP b v = true) ↔ ∃ m, W3 d a b = some m ∧ fitP m v = true) := by
 intro d
 induction d with
 | zero => intro e t a b x _ h; exact h.elim
 | succ d ih =>
  intro e t a b x ha hb v hv
  cases x with
  | zero => exact ha.elim
  | succ x =>
  rcases ha with rfl | ⟨n, m, rfl, ht, h0, h1, h2⟩ | ⟨c, ks, rfl, ht, hc, hl, hk⟩
  ·simp [W3, Q5g]
  ·rcases hb with rfl | ⟨n', m', rfl, _, h0', h1', h2'⟩ | ⟨c', ks', rfl, ht', _⟩
   ·simp [W3, Q5g]
   ·rw [Q5f rfl, Q5f rfl]
    simp only [W3]
    have e1 : ¬ (3 : Int) = 1 := by decide
    simp only [e1, if_false, if_true, decide_eq_true_eq]
    split
    ·rename_i hle
     constructor
     ·intro h
      exact ⟨_, rfl, by rw [Q5f rfl]; simp only [decide_eq_true_eq]; omega⟩
     ·rintro ⟨m2, e2, h⟩
      cases e2
      rw [Q5f rfl] at h
      simp only [decide_eq_true_eq] at h
      omega
    ·rename_i hle
     constructor
     ·intro h; exfalso; omega
     ·rintro ⟨_, e2, _⟩; cases e2
   ·exact absurd ht ht'
  ·rcases hb with rfl | ⟨n', m', rfl, ht', _⟩ | ⟨c', ks', rfl, _, hc', hl', hk'⟩
   ·simp [W3, Q5g]
   ·exact absurd ht' ht
   ·rw [Q0s rfl, Q0s rfl]
    simp only [W3]
    have e1 : ¬ (4 : Int) = 1 := by decide
    have e3 : ¬ (4 : Int) = 3 := by decide
    simp only [e1, e3, if_false, Bool.and_eq_true, decide_eq_true_eq]
    obtain ⟨e', rfl, gv1, gv2, gv3⟩ := Q69 hv ht
    by_cases hcc : c = c'
    ·subst hcc
     simp only [if_true]
     by_cases hcv : c = v.ctor
     ·subst hcv
      have hL := X1j (f := W3 d) ks ks' v.kids (hl.trans gv2.symm) (hl'.trans gv2.symm) fun j p q u e1 e2 e3 => by
       have hj : j < (Z5 w t v.ctor).length := by rw [← gv2]; exact (List.getElem?_eq_some_iff.1 e3).1
       obtain ⟨y, hy⟩ := Q0x (l := Z5 w t v.ctor) rfl hj
       exact ih e' y p q x (hk j y p hy e1) (hk' j y q hy e2) u (gv3 j y u hy e3)
      constructor
      ·rintro ⟨⟨_, g1⟩, _, g2⟩
       obtain ⟨ms, e1, e2⟩ := hL.1 ⟨g1, g2⟩
       exact ⟨_, by rw [e1]; rfl, by rw [Q0s rfl]; simp [e2]⟩
      ·rintro ⟨m, e1, e2⟩
       cases hm : Q1q (W3 d) ks ks' with
       | none => rw [hm] at e1; cases e1
       | some ms =>
        rw [hm] at e1
        cases e1
        rw [Q0s rfl] at e2
        simp only [Bool.and_eq_true] at e2
        obtain ⟨g1, g2⟩ := hL.2 ⟨ms, hm, e2.2⟩
        exact ⟨⟨rfl, g1⟩, rfl, g2⟩
     ·constructor
      ·rintro ⟨⟨g, _⟩, _⟩; exact absurd g hcv
      ·rintro ⟨m, e1, e2⟩
       cases hm : Q1q (W3 d) ks ks' with
       | none => rw [hm] at e1; cases e1
       | some ms =>
        rw [hm] at e1
        cases e1
        rw [Q0s rfl] at e2
        simp only [Bool.and_eq_true, decide_eq_true_eq] at e2
        exact absurd e2.1 hcv
    ·simp only [if_neg hcc]
     constructor
     ·rintro ⟨⟨g1, _⟩, g2, _⟩; exact absurd (g1.trans g2.symm) hcc
     ·rintro ⟨_, e1, _⟩; cases e1
end Go.Proofs.YtnackipaoepmfaaGreat
namespace Go.Proofs.YtnackipaoepmfaaGreat
open Go Go.RowKit
def kmD (fm : Q2 → Q0 → Q0 → List Q0) (fj : Q0 → Q0 → Option Q0) : List Q2 → List Q0 → List Q0 → List (List Q0)
 | t :: ts, a :: as, b :: bs => (fm t a b).map (fun x => x :: as) ++ (match fj a b with | none => [] | some m => (kmD fm fj ts as bs).map (m :: ·))
 | _, _, _ => []
def Z0n (n m n' m' : Int) : List Q0 :=
 (if n ≤ min m (n' - 1) then [Q0.mk 3 0 n (min m (n' - 1)) 0 []] else []) ++ (if max n (m' + 1) ≤ m then [Q0.mk 3 0 (max n (m' + 1)) m 0 []] else [])
def cmD (w : List Q3) (fm : Q2 → Q0 → Q0 → List Q0) (fj : Q0 → Q0 → Option Q0) (t : Q2) (a b : Q0) : List Q0 :=
 if a.ctor = b.ctor then (kmD fm fj (Z5 w t a.ctor) a.kids b.kids).map (fun ks => Q0.mk 4 a.ctor 0 0 0 ks) else [a]
def Q4x (w : List Q3) (t : Q2) (c : Int) : Q0 := Q0.mk 4 c 0 0 0 ((Z5 w t c).map fun _ => Q0.mk 1 0 0 0 0 [])
def X5 (w : List Q3) : Nat → Q2 → Q0 → Q0 → List Q0
 | 0, _, _, _ => []
 | d + 1, t, a, b => if b.op = 1 then [] else if b.op = 3 then (if a.op = 1 then Z0n 0 9 b.n b.m else Z0n a.n a.m b.n b.m)
  else if a.op = 1 then (Z7 w t).flatMap fun c => cmD w (X5 w d) (W3 d) t (Q4x w t c) b
  else cmD w (X5 w d) (W3 d) t a b
theorem W7z {fm : Q2 → Q0 → Q0 → List Q0} {fj : Q0 → Q0 → Option Q0} : ∀ (ts : List Q2) (as bs : List Q0) (vs : List Q4), as.length = ts.length → bs.length = ts.length → vs.length = ts.length →
  (∀ (j : Nat) (t : Q2) (a b : Q0) (v : Q4), ts[j]? = some t → as[j]? = some a → bs[j]? = some b → vs[j]? = some v →
   ((fitP a v = true ∧ fitP b v = true) ↔ ∃ m, fj a b = some m ∧ fitP m v = true) ∧ ((fitP a v = true ∧ fitP b v = false) ↔ ∃ x ∈ fm t a b, fitP x v = true)) →
  ((fitL as vs = true ∧ fitL bs vs = false) ↔ ∃ ks ∈ kmD fm fj ts as bs, fitL ks vs = true)
 | [], [], [], [], _, _, _, _ => by simp [kmD]
 | t :: ts, a :: as, b :: bs, v :: vs, h1, h2, h3, h => by
  obtain ⟨hj, hm⟩ := h 0 t a b v rfl rfl rfl rfl
  have ih := W7z ts as bs vs (by simpa using h1) (by simpa using h2) (by simpa using h3) fun j x y z u e1 e2 e3 e4 => h (j + 1) x y z u e1 e2 e3 e4
  simp only [Q4m, Bool.and_eq_true, kmD, List.mem_append, List.mem_map]
  constructor
  ·rintro ⟨⟨g1, g2⟩, g3⟩
   cases hb : fitP b v with
   | false =>
    obtain ⟨x, hx, gx⟩ := hm.1 ⟨g1, hb⟩
    exact ⟨x :: as, .inl ⟨x, hx, rfl⟩, by simp [gx, g2]⟩
   | true =>
    rw [hb] at g3
    obtain ⟨m, e1, e2⟩ := hj.1 ⟨g1, hb⟩
    obtain ⟨ks, hk, gk⟩ := ih.1 ⟨g2, by simpa using g3⟩
    refine ⟨m :: ks, .inr ?_, by simp [e2, gk]⟩
    rw [e1]
    exact List.mem_map.2 ⟨ks, hk, rfl⟩
  ·rintro ⟨ks, hk | hk, gk⟩
   ·obtain ⟨x, hx, rfl⟩ := hk
    simp only [Q4m, Bool.and_eq_true] at gk
    obtain ⟨g1, g2⟩ := hm.2 ⟨x, hx, gk.1⟩
    exact ⟨⟨g1, gk.2⟩, by simp [g2]⟩
   ·cases e1 : fj a b with
    | none => rw [e1] at hk; simp at hk
    | some m =>
     rw [e1] at hk
     obtain ⟨ks', hk', rfl⟩ := List.mem_map.1 hk
     simp only [Q4m, Bool.and_eq_true] at gk
     obtain ⟨g1, g2⟩ := hj.2 ⟨m, e1, gk.1⟩
     obtain ⟨g3, g4⟩ := ih.2 ⟨ks', hk', gk.2⟩
     exact ⟨⟨g1, g3⟩, by simp [g4]⟩
 | [], _ :: _, _, _, h, _, _, _ => by simp at h
 | [], [], _ :: _, _, _, h, _, _ => by simp at h
 | [], [], [], _ :: _, _, _, h, _ => by simp at h
 | _ :: _, [], _, _, h, _, _, _ => by simp at h
 | _ :: _, _ :: _, [], _, _, h, _, _ => by simp at h
 | _ :: _, _ :: _, _ :: _, [], _, _, h, _ => by simp at h
theorem X5s {n m n' m' : Int} {v : Q4} : ((n ≤ v.n ∧ v.n ≤ m) ∧ ¬ (n' ≤ v.n ∧ v.n ≤ m')) ↔ ∃ x ∈ Z0n n m n' m', fitP x v = true := by
 simp only [Z0n, List.mem_append]
 constructor
 ·rintro ⟨h1, h2⟩
  by_cases h : n' ≤ v.n
  ·refine ⟨Q0.mk 3 0 (max n (m' + 1)) m 0 [], .inr ?_, ?_⟩
   ·rw [if_pos (by omega)]; simp
   ·rw [Q5f rfl]; simp only [decide_eq_true_eq]; omega
  ·refine ⟨Q0.mk 3 0 n (min m (n' - 1)) 0 [], .inl ?_, ?_⟩
   ·rw [if_pos (by omega)]; simp
   ·rw [Q5f rfl]; simp only [decide_eq_true_eq]; omega
 ·rintro ⟨x, hx, h⟩
  rcases hx with hx | hx <;> split at hx <;> simp at hx <;> subst hx <;> rw [Q5f rfl] at h <;> simp only [decide_eq_true_eq] at h <;> omega
theorem W03 {w : List Q3} {t : Q2} {c : Int} {v : Q4} (hl : v.ctor = c → v.kids.length = (Z5 w t c).length) : fitP (Q4x w t c) v = decide (c = v.ctor) := by
 rw [Q4x, Q0s rfl]
 simp only
 by_cases h : c = v.ctor
 ·have hl := hl h.symm
  have : ∀ (l : List Q2) (vs : List Q4), vs.length = l.length → fitL (l.map fun _ => Q0.mk 1 0 0 0 0 []) vs = true := by
   intro l
   induction l with
   | nil => intro vs h; cases vs <;> simp at h ⊢
   | cons a l ih =>
    intro vs h
    cases vs with
    | nil => simp at h
    | cons v vs => simp [Q5g, ih vs (by simpa using h)]
  simp [h, this _ _ (h ▸ hl)]
 ·simp [h]
theorem W8m {w : List Q3} {d e x : Nat} (hM : ∀ (e : Nat) (t : Q2) (a b : Q0) (x : Nat), Z3 w x t a → Z3 w d t b → ∀ v, Q0y w e t v → ((fitP a v = true ∧ fitP b v = false) ↔ ∃ y ∈ X5 w d t a b, fitP y v = true))
  {t : Q2} {c c' : Int} {ks ks' : List Q0} (ht : t.data ≠ -1) (hl : ks.length = (Z5 w t c).length) (hk : ∀ (j : Nat) (a : Q2) (q : Q0), (Z5 w t c)[j]? = some a → ks[j]? = some q → Z3 w x a q)
  (hl' : ks'.length = (Z5 w t c').length) (hk' : ∀ (j : Nat) (a : Q2) (q : Q0), (Z5 w t c')[j]? = some a → ks'[j]? = some q → Z3 w d a q) {v : Q4} (hv : Q0y w e t v) :
  ((fitP (Q0.mk 4 c 0 0 0 ks) v = true ∧ fitP (Q0.mk 4 c' 0 0 0 ks') v = false) ↔ ∃ y ∈ cmD w (X5 w d) (W3 d) t (Q0.mk 4 c 0 0 0 ks) (Q0.mk 4 c' 0 0 0 ks'), fitP y v = true) := by
 rw [Q0s rfl, Q0s rfl]
 simp only [cmD, Bool.and_eq_true, decide_eq_true_eq, Bool.and_eq_false_iff, decide_eq_false_iff_not]
 obtain ⟨e', rfl, gv1, gv2, gv3⟩ := Q69 hv ht
 by_cases hcc : c = c'
 ·subst hcc
  simp only [if_true, List.mem_map]
  by_cases hcv : c = v.ctor
  ·subst hcv
   have hL := W7z (fm := X5 w d) (fj := W3 d) (Z5 w t v.ctor) ks ks' v.kids hl hl' gv2 fun j y p q u e1 e2 e3 e4 =>
    ⟨Z4r d e' y p q x (hk j y p e1 e2) (hk' j y q e1 e3) u (gv3 j y u e1 e4), hM e' y p q x (hk j y p e1 e2) (hk' j y q e1 e3) u (gv3 j y u e1 e4)⟩
   constructor
   ·rintro ⟨⟨_, g1⟩, g2⟩
    rcases g2 with g2 | g2
    ·exact absurd rfl g2
    ·obtain ⟨k, hk1, hk2⟩ := hL.1 ⟨g1, g2⟩
     exact ⟨_, ⟨k, hk1, rfl⟩, by rw [Q0s rfl]; simp [hk2]⟩
   ·rintro ⟨_, ⟨k, hk1, rfl⟩, h⟩
    rw [Q0s rfl] at h
    simp only [Bool.and_eq_true] at h
    obtain ⟨g1, g2⟩ := hL.2 ⟨k, hk1, h.2⟩
    exact ⟨⟨rfl, g1⟩, .inr g2⟩
  ·constructor
   ·rintro ⟨⟨g, _⟩, _⟩; exact absurd g hcv
   ·rintro ⟨_, ⟨k, hk1, rfl⟩, h⟩
    rw [Q0s rfl] at h
    simp only [Bool.and_eq_true, decide_eq_true_eq] at h
    exact absurd h.1 hcv
 ·simp only [if_neg hcc, List.mem_singleton, exists_eq_left]
  rw [Q0s rfl]
  simp only [Bool.and_eq_true, decide_eq_true_eq]
  constructor
  ·exact fun h => h.1
  ·exact fun h => ⟨h, .inl fun e2 => hcc (h.1.trans e2.symm)⟩
theorem Q9t {w : List Q3} : ∀ (d e : Nat) (t : Q2) (a b : Q0) (x : Nat), Z3 w x t a → Z3 w d t b → ∀ v, Q0y w e t v → ((fitP a v = true ∧ fitP b v = false) ↔ ∃ y ∈ X5 w d t a b, fitP y v = true) := by
 intro d
 induction d with
 | zero => intro e t a b x _ h; exact h.elim
 | succ d ih =>
  intro e t a b x ha hb v hv
  cases x with
  | zero => exact ha.elim
  | succ x =>
  rcases hb with rfl | ⟨n', m', rfl, ht', _⟩ | ⟨c', ks', rfl, ht', hc', hl', hk'⟩
  ·simp [X5, Q5g]
  ·have e1 : ¬ (3 : Int) = 1 := by decide
   simp only [X5, e1, if_false, if_true]
   rcases ha with rfl | ⟨n, m, rfl, _⟩ | ⟨c, ks, rfl, ht, _⟩
   ·simp only [if_true]
    rw [← X5s, Q5g rfl, Q5f rfl]
    have := W2j hv ht'
    simp only [true_and, decide_eq_false_iff_not]
    exact ⟨fun h => ⟨this, h⟩, fun h => h.2⟩
   ·simp only [e1, if_false]
    rw [← X5s, Q5f rfl, Q5f rfl]
    simp only [decide_eq_true_eq, decide_eq_false_iff_not]
   ·exact absurd ht' ht
  ·have e1 : ¬ (4 : Int) = 1 := by decide
   have e3 : ¬ (4 : Int) = 3 := by decide
   simp only [X5, e1, e3, if_false]
   rcases ha with rfl | ⟨n, m, rfl, ht, _⟩ | ⟨c, ks, rfl, _, hc, hl, hk⟩
   ·simp only [if_true, List.mem_flatMap]
    obtain ⟨e', rfl, gv1, gv2, gv3⟩ := Q69 hv ht'
    have hcm : ∀ c ∈ Z7 w t, ((fitP (Q4x w t c) v = true ∧ fitP (Q0.mk 4 c' 0 0 0 ks') v = false) ↔ ∃ y ∈ cmD w (X5 w d) (W3 d) t (Q4x w t c) (Q0.mk 4 c' 0 0 0 ks'), fitP y v = true) := fun c _ =>
     W8m (x := 1) ih ht' (by simp) (fun j a q ha hq => by
      rw [List.getElem?_map, ha] at hq
      cases hq
      exact Q8q w 0 a) hl' hk' hv
    have hw : ∀ c, fitP (Q4x w t c) v = decide (c = v.ctor) := fun c => W03 fun h => h ▸ gv2
    constructor
    ·rintro ⟨_, h⟩
     obtain ⟨y, hy, gy⟩ := (hcm v.ctor gv1).1 ⟨by rw [hw]; simp, h⟩
     exact ⟨y, ⟨v.ctor, gv1, hy⟩, gy⟩
    ·rintro ⟨y, ⟨c, hc, hy⟩, gy⟩
     exact ⟨Q5g rfl v, ((hcm c hc).2 ⟨y, hy, gy⟩).2⟩
   ·exact absurd ht ht'
   ·simp only [e1, if_false]
    exact W8m ih ht' hl hk hl' hk' hv
end Go.Proofs.YtnackipaoepmfaaGreat
namespace Go.Proofs.YtnackipaoepmfaaGreat
open Go Go.RowKit
def V0k (w : List Q3) (t : Q2) : Bool :=
 (decide (depP w t ≠ 0) || (Z7 w t).all (fun k => (Z5 w t k).any (fun a => decide (depP w a = 0)))) && decide ((Z7 w t).Nodup)
def chkE (w : List Q3) : Bool := (tys w).all (V0k w)
theorem X9k : Q15.all chkE = true := by kernel_rfl
structure WE (w : List Q3) : Prop where
 e0 : ∀ t ∈ tys w, depP w t = 0 → ∀ k ∈ Z7 w t, ∃ a ∈ Z5 w t k, depP w a = 0
 nd : ∀ t ∈ tys w, (Z7 w t).Nodup
theorem we {w : List Q3} (h : w ∈ Q15) : WE w := by
 have h := List.all_eq_true.1 X9k w h
 simp only [chkE, List.all_eq_true] at h
 refine ⟨fun t ht h0 k hk => ?_, fun t ht => ?_⟩
 ·have := h t ht
  simp only [V0k, Bool.and_eq_true, Bool.or_eq_true, decide_eq_true_eq, List.all_eq_true, List.any_eq_true] at this
  rcases this.1 with h1 | h1
  ·exact absurd h0 h1
  ·exact h1 k hk
 ·have := h t ht
  simp only [V0k, Bool.and_eq_true, decide_eq_true_eq] at this
  exact this.2
theorem X6s {w : List Q3} (hw : WW w) (he : WE w) : ∀ (e : Nat) (t : Q2) (v : Q4), t ∈ tys w → Q0y w e t v → depP w t ≠ 0
 | 0, _, _, _, h => h.elim
 | e + 1, t, v, ht, h => fun h0 => by
  by_cases hd : t.data = -1
  ·have := ((hw.ty t ht).ti hd).2; omega
  ·obtain ⟨e', e1, g1, g2, g3⟩ := Q69 h hd
   cases e1
   obtain ⟨a, ha, ha0⟩ := he.e0 t ht h0 _ g1
   obtain ⟨j, hj⟩ := List.mem_iff_getElem?.1 ha
   obtain ⟨x, hx⟩ := Q0x g2 (List.getElem?_eq_some_iff.1 hj).1
   exact X6s hw he e a x ((hw.ty t ht).at_ _ g1 a ha) (g3 j a x hj hx) ha0
def W7 (w : List Q3) : Nat → Q2 → Q0 → Bool
 | 0, _, _ => false
 | d + 1, t, p => if p.op = 1 then decide (depP w t = 0) else if p.op = 4 then ((Z5 w t p.ctor).zip p.kids).any fun x => W7 w d x.1 x.2 else false
theorem Q47 {w : List Q3} {d : Nat} {t : Q2} {c : Int} {ks : List Q0} : W7 w (d + 1) t (Q0.mk 4 c 0 0 0 ks) = true ↔ ∃ (j : Nat) (a : Q2) (q : Q0), (Z5 w t c)[j]? = some a ∧ ks[j]? = some q ∧ W7 w d a q = true := by
 have e1 : ¬ (4 : Int) = 1 := by decide
 simp only [W7, e1, if_false, if_true, List.any_eq_true]
 constructor
 ·rintro ⟨x, hx, h⟩
  obtain ⟨j, hj⟩ := List.mem_iff_getElem?.1 hx
  rw [List.getElem?_zip_eq_some] at hj
  exact ⟨j, x.1, x.2, hj.1, hj.2, h⟩
 ·rintro ⟨j, a, q, h1, h2, h3⟩
  exact ⟨(a, q), List.mem_of_getElem? (i := j) (by rw [List.getElem?_zip_eq_some]; exact ⟨h1, h2⟩), h3⟩
theorem X2i {w : List Q3} (hw : WW w) (he : WE w) : ∀ (x e : Nat) (t : Q2) (p : Q0) (v : Q4), t ∈ tys w → Z3 w x t p → W7 w x t p = true → Q0y w e t v → fitP p v = false
 | 0, _, _, _, _, _, h, _, _ => h.elim
 | x + 1, e, t, p, v, ht, hp, hem, hv => by
  rcases hp with rfl | ⟨n, m, rfl, _⟩ | ⟨c, ks, rfl, hd, hc, hl, hk⟩
  ·simp only [W7, if_true, decide_eq_true_eq] at hem
   exact absurd hem (X6s hw he e t v ht hv)
  ·simp [W7] at hem
  ·obtain ⟨j, a, q, h1, h2, h3⟩ := Q47.1 hem
   rw [Q0s rfl]
   simp only
   by_cases hcv : c = v.ctor
   ·subst hcv
    obtain ⟨e', rfl, g1, g2, g3⟩ := Q69 hv hd
    obtain ⟨u, hu⟩ := Q0x g2 (List.getElem?_eq_some_iff.1 h1).1
    have hf := X2i hw he x e' a q u ((hw.ty t ht).at_ _ hc a (List.mem_of_getElem? h1)) (hk j a q h1 h2) h3 (g3 j a u h1 hu)
    have : ∀ (ps : List Q0) (vs : List Q4) (j : Nat), ps[j]? = some q → vs[j]? = some u → fitL ps vs = false := by
     intro ps
     induction ps with
     | nil => intro vs j h; simp at h
     | cons p ps ih =>
      intro vs j h h'
      cases vs with
      | nil => simp at h'
      | cons v vs =>
       cases j with
       | zero => simp at h h'; subst h; subst h'; simp [hf]
       | succ j => simp [ih vs j (by simpa using h) (by simpa using h')]
    simp [this ks v.kids j h2 hu]
   ·simp [hcv]
theorem Z6o {w : List Q3} (hw : WW w) (he : WE w) : ∀ (x : Nat) (t : Q2) (p : Q0), t ∈ tys w → Z3 w x t p → depP w t = 0 → W7 w x t p = true
 | 0, _, _, _, h, _ => h.elim
 | x + 1, t, p, ht, hp, h0 => by
  rcases hp with rfl | ⟨n, m, rfl, hd, _⟩ | ⟨c, ks, rfl, hd, hc, hl, hk⟩
  ·simp [W7, h0]
  ·have := ((hw.ty t ht).ti hd).2; omega
  ·obtain ⟨a, ha, ha0⟩ := he.e0 t ht h0 c hc
   obtain ⟨j, hj⟩ := List.mem_iff_getElem?.1 ha
   obtain ⟨q, hq⟩ := Q0x hl (List.getElem?_eq_some_iff.1 hj).1
   exact Q47.2 ⟨j, a, q, hj, hq, Z6o hw he x a q ((hw.ty t ht).at_ _ hc a ha) (hk j a q hj hq) ha0⟩
theorem Z2b {f : Q0 → Q0 → Option Q0} : ∀ (as bs ms : List Q0), as.length = bs.length → Q1q f as bs = some ms → ms.length = as.length ∧ ∀ (j : Nat) (a b : Q0), as[j]? = some a → bs[j]? = some b → ∃ m, f a b = some m ∧ ms[j]? = some m
 | [], [], ms, _, h => by simp [Q1q] at h; subst h; simp
 | a :: as, b :: bs, ms, hl, h => by
  simp only [Q1q] at h
  cases hm : f a b with
  | none => simp [hm] at h
  | some m =>
   cases hr : Q1q f as bs with
   | none => simp [hm, hr] at h
   | some r =>
    simp [hm, hr] at h
    subst h
    obtain ⟨h1, h2⟩ := Z2b as bs r (by simpa using hl) hr
    refine ⟨by simp [h1], fun j x y e1 e2 => ?_⟩
    cases j with
    | zero => simp at e1 e2; subst e1; subst e2; exact ⟨m, hm, rfl⟩
    | succ j => exact h2 j x y (by simpa using e1) (by simpa using e2)
 | [], _ :: _, _, h, _ => by simp at h
 | _ :: _, [], _, h, _ => by simp at h
theorem Q86 {w : List Q3} : ∀ (d x : Nat) (t : Q2) (a b m : Q0), d ≤ x → Z3 w x t a → Z3 w d t b → W3 d a b = some m → Z3 w x t m
 | 0, _, _, _, _, _, _, _, h, _ => h.elim
 | d + 1, 0, _, _, _, _, h, _, _, _ => by omega
 | d + 1, x + 1, t, a, b, m, hx, ha, hb, hm => by
  rcases ha with rfl | ⟨n, n2, rfl, ht, h0, h1, h2⟩ | ⟨c, ks, rfl, ht, hc, hl, hk⟩
  ·simp [W3] at hm; subst hm; exact X3u hb hx
  ·rcases hb with rfl | ⟨n', m', rfl, _, h0', h1', h2'⟩ | ⟨c', ks', rfl, ht', _⟩
   ·simp [W3] at hm; subst hm; exact .inr (.inl ⟨n, n2, rfl, ht, h0, h1, h2⟩)
   ·have e1 : ¬ (3 : Int) = 1 := by decide
    simp only [W3, e1, if_false, if_true] at hm
    split at hm
    ·cases hm; exact .inr (.inl ⟨_, _, rfl, ht, by omega, by assumption, by omega⟩)
    ·cases hm
   ·exact absurd ht ht'
  ·rcases hb with rfl | ⟨n', m', rfl, ht', _⟩ | ⟨c', ks', rfl, _, hc', hl', hk'⟩
   ·simp [W3] at hm; subst hm; exact .inr (.inr ⟨c, ks, rfl, ht, hc, hl, hk⟩)
   ·exact absurd ht' ht
   ·have e1 : ¬ (4 : Int) = 1 := by decide
    have e3 : ¬ (4 : Int) = 3 := by decide
    simp only [W3, e1, e3, if_false] at hm
    split at hm
    ·rename_i hcc
     subst hcc
     obtain ⟨ms, h1, h2⟩ := Option.map_eq_some_iff.1 hm
     subst h2
     obtain ⟨g1, g2⟩ := Z2b ks ks' ms (hl.trans hl'.symm) h1
     refine .inr (.inr ⟨c, ms, rfl, ht, hc, g1.trans hl, fun j a q ha hq => ?_⟩)
     obtain ⟨p, hp⟩ := Q0x hl (List.getElem?_eq_some_iff.1 ha).1
     obtain ⟨p', hp'⟩ := Q0x hl' (List.getElem?_eq_some_iff.1 ha).1
     obtain ⟨m, k1, k2⟩ := g2 j p p' hp hp'
     rw [hq] at k2
     cases k2
     exact Q86 d x a p p' q (by omega) (hk j a p ha hp) (hk' j a p' ha hp') k1
    ·cases hm
theorem Z8c {w : List Q3} (hw : WW w) (he : WE w) : ∀ (d x : Nat) (t : Q2) (a b m : Q0), t ∈ tys w → d ≤ x → Z3 w x t a → Z3 w d t b → W7 w x t a = true → W3 d a b = some m → W7 w x t m = true
 | 0, _, _, _, _, _, _, _, _, h, _, _ => h.elim
 | d + 1, 0, _, _, _, _, _, h, _, _, _, _ => by omega
 | d + 1, x + 1, t, a, b, m, htw, hx, ha, hb, hem, hm => by
  have hmp := Q86 (d + 1) (x + 1) t a b m hx ha hb hm
  rcases ha with rfl | ⟨n, n2, rfl, ht, h0, h1, h2⟩ | ⟨c, ks, rfl, ht, hc, hl, hk⟩
  ·simp only [W7, if_true, decide_eq_true_eq] at hem
   exact Z6o hw he _ t m htw hmp hem
  ·simp [W7] at hem
  ·rcases hb with rfl | ⟨n', m', rfl, ht', _⟩ | ⟨c', ks', rfl, _, hc', hl', hk'⟩
   ·simp [W3] at hm; subst hm; exact hem
   ·exact absurd ht' ht
   ·have e1 : ¬ (4 : Int) = 1 := by decide
    have e3 : ¬ (4 : Int) = 3 := by decide
    simp only [W3, e1, e3, if_false] at hm
    split at hm
    ·rename_i hcc
     subst hcc
     obtain ⟨ms, h1, h2⟩ := Option.map_eq_some_iff.1 hm
     subst h2
     obtain ⟨g1, g2⟩ := Z2b ks ks' ms (hl.trans hl'.symm) h1
     obtain ⟨j, a, q, k1, k2, k3⟩ := Q47.1 hem
     obtain ⟨p', hp'⟩ := Q0x hl' (List.getElem?_eq_some_iff.1 k1).1
     obtain ⟨m, k4, k5⟩ := g2 j q p' k2 hp'
     exact Q47.2 ⟨j, a, m, k1, k5, Z8c hw he d x a q p' m ((hw.ty t htw).at_ _ hc a (List.mem_of_getElem? k1)) (by omega) (hk j a q k1 k2) (hk' j a p' k1 hp') k3 k4⟩
    ·cases hm
theorem X66 {fm : Q2 → Q0 → Q0 → List Q0} {fj : Q0 → Q0 → Option Q0} : ∀ (ts : List Q2) (as bs : List Q0), as.length = ts.length → bs.length = ts.length → ∀ ks ∈ kmD fm fj ts as bs,
  ks.length = ts.length ∧ ∃ i, i < ts.length ∧ ∀ (j : Nat) (t : Q2) (a b q : Q0), ts[j]? = some t → as[j]? = some a → bs[j]? = some b → ks[j]? = some q → (j < i → fj a b = some q) ∧ (j = i → q ∈ fm t a b) ∧ (i < j → q = a)
 | [], as, bs, _, _, ks, h => by simp [kmD] at h
 | t :: ts, [], _, h, _, _, _ => by simp at h
 | t :: ts, _ :: _, [], _, h, _, _ => by simp at h
 | t :: ts, a :: as, b :: bs, h1, h2, ks, h => by
  simp only [kmD, List.mem_append, List.mem_map] at h
  rcases h with ⟨x, hx, rfl⟩ | h
  ·refine ⟨by simpa using h1, 0, by simp, fun j t' a' b' q e1 e2 e3 e4 => ⟨fun h => by omega, fun h => ?_, fun h => ?_⟩⟩
   ·subst h; simp at e1 e2 e3 e4; subst e1; subst e2; subst e3; subst e4; exact hx
   ·cases j with
    | zero => omega
    | succ j => simp at e2 e4; rw [e2] at e4; cases e4; rfl
  ·cases hm : fj a b with
   | none => rw [hm] at h; simp at h
   | some m =>
    rw [hm] at h
    obtain ⟨ks', hk', rfl⟩ := List.mem_map.1 h
    obtain ⟨g1, i, g2, g3⟩ := X66 ts as bs (by simpa using h1) (by simpa using h2) ks' hk'
    refine ⟨by simp [g1], i + 1, by simpa using g2, fun j t' a' b' q e1 e2 e3 e4 => ?_⟩
    cases j with
    | zero => simp at e2 e3 e4; subst e2; subst e3; subst e4; exact ⟨fun _ => hm, fun h => by omega, fun h => by omega⟩
    | succ j =>
     obtain ⟨k1, k2, k3⟩ := g3 j t' a' b' q (by simpa using e1) (by simpa using e2) (by simpa using e3) (by simpa using e4)
     exact ⟨fun h => k1 (by omega), fun h => k2 (by omega), fun h => k3 (by omega)⟩
theorem W32 {w : List Q3} {d x : Nat} {t : Q2} (hx : d + 1 ≤ x) (hM : ∀ (t : Q2) (a b : Q0), Z3 w x t a → Z3 w d t b → ∀ y ∈ X5 w d t a b, Z3 w x t y) (ht : t.data ≠ -1) {c c' : Int} {ks ks' : List Q0} (hc : c ∈ Z7 w t)
  (hl : ks.length = (Z5 w t c).length) (hk : ∀ (j : Nat) (a : Q2) (q : Q0), (Z5 w t c)[j]? = some a → ks[j]? = some q → Z3 w x a q)
  (hl' : ks'.length = (Z5 w t c').length) (hk' : ∀ (j : Nat) (a : Q2) (q : Q0), (Z5 w t c')[j]? = some a → ks'[j]? = some q → Z3 w d a q) :
  ∀ y ∈ cmD w (X5 w d) (W3 d) t (Q0.mk 4 c 0 0 0 ks) (Q0.mk 4 c' 0 0 0 ks'), Z3 w (x + 1) t y := fun y hy => by
 simp only [cmD] at hy
 split at hy
 ·rename_i hcc
  subst hcc
  obtain ⟨k, hk1, rfl⟩ := List.mem_map.1 hy
  obtain ⟨g1, i, g2, g3⟩ := X66 (Z5 w t c) ks ks' hl hl' k hk1
  refine .inr (.inr ⟨c, k, rfl, ht, hc, g1, fun j a q ha hq => ?_⟩)
  obtain ⟨p, hp⟩ := Q0x hl (List.getElem?_eq_some_iff.1 ha).1
  obtain ⟨p', hp'⟩ := Q0x hl' (List.getElem?_eq_some_iff.1 ha).1
  obtain ⟨k1, k2, k3⟩ := g3 j a p p' q ha hp hp' hq
  rcases Nat.lt_trichotomy j i with h | h | h
  ·exact Q86 d x a p p' q (by omega) (hk j a p ha hp) (hk' j a p' ha hp') (k1 h)
  ·exact hM a p p' (hk j a p ha hp) (hk' j a p' ha hp') q (k2 h)
  ·rw [k3 h]; exact hk j a p ha hp
 ·simp at hy
  subst hy
  exact .inr (.inr ⟨c, ks, rfl, ht, hc, hl, hk⟩)
theorem Q6y {w : List Q3} : ∀ (d x : Nat) (t : Q2) (a b : Q0), d + 1 ≤ x → Z3 w x t a → Z3 w d t b → ∀ y ∈ X5 w d t a b, Z3 w x t y
 | 0, _, _, _, _, _, _, h, _, _ => h.elim
 | d + 1, 0, _, _, _, h, _, _, _, _ => by omega
 | d + 1, x + 1, t, a, b, hx, ha, hb, y, hy => by
  rcases hb with rfl | ⟨n', m', rfl, ht', g0, g1, g2⟩ | ⟨c', ks', rfl, ht', hc', hl', hk'⟩
  ·simp [X5] at hy
  ·have e1 : ¬ (3 : Int) = 1 := by decide
   simp only [X5, e1, if_false, if_true] at hy
   have hr : ∀ n m, 0 ≤ n → m ≤ 9 → ∀ y ∈ Z0n n m n' m', Z3 w (x + 1) t y := fun n m h0 h9 y hy => by
    simp only [Z0n, List.mem_append] at hy
    rcases hy with hy | hy <;> split at hy <;> simp at hy <;> subst hy
    ·exact .inr (.inl ⟨_, _, rfl, ht', h0, by assumption, by omega⟩)
    ·exact .inr (.inl ⟨_, _, rfl, ht', by omega, by assumption, h9⟩)
   rcases ha with rfl | ⟨n, m, rfl, _, h0, _, h9⟩ | ⟨c, ks, rfl, ht, _⟩
   ·simp only [if_true] at hy; exact hr 0 9 (by omega) (by omega) y hy
   ·simp only [e1, if_false] at hy; exact hr n m h0 h9 y hy
   ·exact absurd ht' ht
  ·have e1 : ¬ (4 : Int) = 1 := by decide
   have e3 : ¬ (4 : Int) = 3 := by decide
   simp only [X5, e1, e3, if_false] at hy
   have hM := fun (t : Q2) (a b : Q0) => Q6y (w := w) d x t a b (by omega)
   rcases ha with rfl | ⟨n, m, rfl, ht, _⟩ | ⟨c, ks, rfl, _, hc, hl, hk⟩
   ·simp only [if_true, List.mem_flatMap] at hy
    obtain ⟨c, hc, hy⟩ := hy
    exact W32 (by omega) hM ht' hc (by simp) (fun j a q ha hq => by
     rw [List.getElem?_map, ha] at hq
     cases hq
     exact X3u (Q8q w 0 a) (by omega)) hl' hk' y hy
   ·exact absurd ht ht'
   ·simp only [e1, if_false] at hy
    exact W32 (by omega) hM ht' hc hl hk hl' hk' y hy
end Go.Proofs.YtnackipaoepmfaaGreat
namespace Go.Proofs.YtnackipaoepmfaaGreat
open Go Go.RowKit
theorem W76 {w : List Q3} (hw : WW w) (he : WE w) {d x : Nat} {t : Q2} (htw : t ∈ tys w) (hx : d + 1 ≤ x) (hM : ∀ (t : Q2) (a b : Q0), t ∈ tys w → Z3 w x t a → Z3 w d t b → W7 w x t a = true → ∀ y ∈ X5 w d t a b, W7 w x t y = true) {c c' : Int} {ks ks' : List Q0} (hc : c ∈ Z7 w t)
  (hl : ks.length = (Z5 w t c).length) (hk : ∀ (j : Nat) (a : Q2) (q : Q0), (Z5 w t c)[j]? = some a → ks[j]? = some q → Z3 w x a q)
  (hl' : ks'.length = (Z5 w t c').length) (hk' : ∀ (j : Nat) (a : Q2) (q : Q0), (Z5 w t c')[j]? = some a → ks'[j]? = some q → Z3 w d a q) (hem : W7 w (x + 1) t (Q0.mk 4 c 0 0 0 ks) = true) :
  ∀ y ∈ cmD w (X5 w d) (W3 d) t (Q0.mk 4 c 0 0 0 ks) (Q0.mk 4 c' 0 0 0 ks'), W7 w (x + 1) t y = true := fun y hy => by
 simp only [cmD] at hy
 split at hy
 ·rename_i hcc
  subst hcc
  obtain ⟨k, hk1, rfl⟩ := List.mem_map.1 hy
  obtain ⟨g1, i, g2, g3⟩ := X66 (Z5 w t c) ks ks' hl hl' k hk1
  obtain ⟨j, a, p, k1, k2, k3⟩ := Q47.1 hem
  obtain ⟨p', hp'⟩ := Q0x hl' (List.getElem?_eq_some_iff.1 k1).1
  obtain ⟨q, hq⟩ := Q0x g1 (List.getElem?_eq_some_iff.1 k1).1
  obtain ⟨m1, m2, m3⟩ := g3 j a p p' q k1 k2 hp' hq
  have haw := (hw.ty t htw).at_ _ hc a (List.mem_of_getElem? k1)
  refine Q47.2 ⟨j, a, q, k1, hq, ?_⟩
  rcases Nat.lt_trichotomy j i with h | h | h
  ·exact Z8c hw he d x a p p' q haw (by omega) (hk j a p k1 k2) (hk' j a p' k1 hp') k3 (m1 h)
  ·exact hM a p p' haw (hk j a p k1 k2) (hk' j a p' k1 hp') k3 q (m2 h)
  ·rw [m3 h]; exact k3
 ·simp at hy
  subst hy
  exact hem
theorem Z5o {w : List Q3} (hw : WW w) (he : WE w) : ∀ (d x : Nat) (t : Q2) (a b : Q0), t ∈ tys w → d + 1 ≤ x → Z3 w x t a → Z3 w d t b → W7 w x t a = true → ∀ y ∈ X5 w d t a b, W7 w x t y = true
 | 0, _, _, _, _, _, _, _, h, _, _, _ => h.elim
 | d + 1, 0, _, _, _, _, h, _, _, _, _, _ => by omega
 | d + 1, x + 1, t, a, b, htw, hx, ha, hb, hem, y, hy => by
  have hyp := Q6y (d + 1) (x + 1) t a b hx ha hb y hy
  rcases ha with rfl | ⟨n, m, rfl, ht, _⟩ | ⟨c, ks, rfl, ht, hc, hl, hk⟩
  ·simp only [W7, if_true, decide_eq_true_eq] at hem
   exact Z6o hw he _ t y htw hyp hem
  ·simp [W7] at hem
  ·rcases hb with rfl | ⟨n', m', rfl, ht', _⟩ | ⟨c', ks', rfl, _, hc', hl', hk'⟩
   ·simp [X5] at hy
   ·exact absurd ht' ht
   ·have e1 : ¬ (4 : Int) = 1 := by decide
    have e3 : ¬ (4 : Int) = 3 := by decide
    simp only [X5, e1, e3, if_false] at hy
    exact W76 hw he htw (by omega) (fun t a b h1 h2 h3 h4 => Z5o hw he d x t a b h1 (by omega) h2 h3 h4) hc hl hk hl' hk' hem y hy
def Q62 (w : List Q3) (x : Nat) (t : Q2) (l : List Q0) : List Q0 := l.filter fun p => !W7 w x t p
def Q2k (w : List Q3) (d x : Nat) (t : Q2) (l : List Q0) (b : Q0) : List Q0 := Q62 w x t (l.flatMap fun a => X5 w d t a b)
def Q57 (w : List Q3) (d x : Nat) (t : Q2) : List Q0 → List Q0 → Option (List Q0)
 | l, [] => some l
 | l, b :: bs => if 400 < (Q2k w d x t l b).length then none else Q57 w d x t (Q2k w d x t l b) bs
def Q3c (w : List Q3) (d x : Nat) (t : Q2) (l bs : List Q0) : Option (List Q0) := Q57 w d x t (Q62 w x t l) bs
theorem X0n {w : List Q3} (hw : WW w) (he : WE w) {d x : Nat} {t : Q2} (ht : t ∈ tys w) (hx : d + 1 ≤ x) {b : Q0} (hb : Z3 w d t b) : ∀ {l : List Q0}, (∀ a ∈ l, Z3 w x t a) → Q2k w d x t (Q62 w x t l) b = Q2k w d x t l b
 | [], _ => rfl
 | a :: l, h => by
  have ih := X0n hw he ht hx hb (l := l) fun a ha => h a (by simp [ha])
  simp only [Q2k, Q62, List.filter_cons, List.flatMap_cons, List.filter_append] at ih ⊢
  cases hem : W7 w x t a with
  | false => simp only [Bool.not_false, if_true, List.flatMap_cons, List.filter_append, ih]
  | true =>
   have : (X5 w d t a b).filter (fun p => !W7 w x t p) = [] := by
    rw [List.filter_eq_nil_iff]
    intro y hy
    simp [Z5o hw he d x t a b ht hx (h a (by simp)) hb hem y hy]
   simp [ih, this]
theorem X3g {w : List Q3} {d x : Nat} {t : Q2} {l : List Q0} {b : Q0} : Q62 w x t (Q2k w d x t l b) = Q2k w d x t l b := by
 simp [Q2k, Q62, List.filter_filter]
theorem Q72 {w : List Q3} {d x : Nat} {t : Q2} (hx : d + 1 ≤ x) {b : Q0} (hb : Z3 w d t b) {l : List Q0} (h : ∀ a ∈ l, Z3 w x t a) : ∀ y ∈ Q2k w d x t l b, Z3 w x t y := fun y hy => by
 obtain ⟨a, ha, hy⟩ := List.mem_flatMap.1 (List.mem_filter.1 hy).1
 exact Q6y d x t a b hx (h a ha) hb y hy
theorem X2o {w : List Q3} {d x : Nat} {t : Q2} (hx : d + 1 ≤ x) : ∀ (bs l r : List Q0), (∀ b ∈ bs, Z3 w d t b) → (∀ a ∈ l, Z3 w x t a) → Q57 w d x t l bs = some r → ∀ y ∈ r, Z3 w x t y
 | [], l, r, _, h, e => by simp [Q57] at e; subst e; exact h
 | b :: bs, l, r, hb, h, e => by
  simp only [Q57] at e
  split at e
  ·cases e
  ·exact X2o hx bs _ r (fun b hb' => hb b (by simp [hb'])) (Q72 hx (hb b (by simp)) h) e
theorem X7c {w : List Q3} (hw : WW w) (he : WE w) {x e : Nat} {t : Q2} (ht : t ∈ tys w) {l : List Q0} (h : ∀ a ∈ l, Z3 w x t a) {v : Q4} (hv : Q0y w e t v) : (∃ y ∈ Q62 w x t l, fitP y v = true) ↔ ∃ y ∈ l, fitP y v = true := by
 constructor
 ·rintro ⟨y, hy, g⟩; exact ⟨y, (List.mem_filter.1 hy).1, g⟩
 ·rintro ⟨y, hy, g⟩
  refine ⟨y, List.mem_filter.2 ⟨hy, ?_⟩, g⟩
  cases hem : W7 w x t y with
  | false => rfl
  | true => rw [X2i hw he x e t y v ht (h y hy) hem hv] at g; cases g
theorem X7i {w : List Q3} (hw : WW w) (he : WE w) {d x e : Nat} {t : Q2} (ht : t ∈ tys w) (hx : d + 1 ≤ x) {v : Q4} (hv : Q0y w e t v) : ∀ (bs l r : List Q0), (∀ b ∈ bs, Z3 w d t b) → (∀ a ∈ l, Z3 w x t a) → Q57 w d x t l bs = some r →
  ((∃ y ∈ r, fitP y v = true) ↔ (∃ a ∈ l, fitP a v = true) ∧ ∀ b ∈ bs, fitP b v = false)
 | [], l, r, _, h, e1 => by simp [Q57] at e1; subst e1; simp
 | b :: bs, l, r, hb, h, e1 => by
  simp only [Q57] at e1
  split at e1
  ·cases e1
  ·have hb0 := hb b (by simp)
   rw [X7i hw he ht hx hv bs _ r (fun b hb' => hb b (by simp [hb'])) (Q72 hx hb0 h) e1]
   have hmp : ∀ y ∈ l.flatMap (fun a => X5 w d t a b), Z3 w x t y := fun y hy => by
    obtain ⟨a, ha, hy⟩ := List.mem_flatMap.1 hy
    exact Q6y d x t a b hx (h a ha) hb0 y hy
   have h1 := X7c hw he ht hmp hv
   simp only [Q2k]
   rw [h1]
   constructor
   ·rintro ⟨⟨y, hy, g⟩, h2⟩
    obtain ⟨a, ha, hy⟩ := List.mem_flatMap.1 hy
    obtain ⟨g1, g2⟩ := (Q9t d e t a b x (h a ha) hb0 v hv).2 ⟨y, hy, g⟩
    refine ⟨⟨a, ha, g1⟩, fun b' hb' => ?_⟩
    rcases List.mem_cons.1 hb' with rfl | hb'
    ·exact g2
    ·exact h2 b' hb'
   ·rintro ⟨⟨a, ha, g1⟩, h2⟩
    obtain ⟨y, hy, g⟩ := (Q9t d e t a b x (h a ha) hb0 v hv).1 ⟨g1, h2 b (by simp)⟩
    exact ⟨⟨y, List.mem_flatMap.2 ⟨a, ha, hy⟩, g⟩, fun b' hb' => h2 b' (by simp [hb'])⟩
theorem Z50 {w : List Q3} (hw : WW w) (he : WE w) {d x e : Nat} {t : Q2} (ht : t ∈ tys w) (hx : d + 1 ≤ x) {v : Q4} (hv : Q0y w e t v) {l bs r : List Q0} (hb : ∀ b ∈ bs, Z3 w d t b) (h : ∀ a ∈ l, Z3 w x t a) (e1 : Q3c w d x t l bs = some r) :
  (∃ y ∈ r, fitP y v = true) ↔ (∃ a ∈ l, fitP a v = true) ∧ ∀ b ∈ bs, fitP b v = false := by
 rw [X7i hw he ht hx hv bs (Q62 w x t l) r hb (fun a ha => h a (List.mem_filter.1 ha).1) e1, X7c hw he ht h hv]
theorem X65 {fm : Q2 → Q0 → Q0 → List Q0} {fj : Q0 → Q0 → Option Q0} : ∀ (ts : List Q2) (as bs : List Q0), (∀ (j : Nat) (t : Q2) (a b : Q0), ts[j]? = some t → bs[j]? = some b → (fm t a b).length ≤ 3 * cntP b) → (kmD fm fj ts as bs).length ≤ 3 * cntP.cntPs bs
 | [], as, bs, _ => by simp [kmD]
 | t :: ts, [], bs, _ => by simp [kmD]
 | t :: ts, a :: as, [], _ => by simp [kmD]
 | t :: ts, a :: as, b :: bs, h => by
  have h0 := h 0 t a b rfl rfl
  have ih := X65 (fj := fj) ts as bs fun j t a b h1 h2 => h (j + 1) t a b (by simpa using h1) (by simpa using h2)
  simp only [kmD, List.length_append, List.length_map, cntP.cntPs]
  cases fj a b with
  | none => simp; omega
  | some m => simp only [List.length_map]; omega
theorem X5r (n m n' m' : Int) : (Z0n n m n' m').length ≤ 2 := by
 simp only [Z0n, List.length_append]
 split <;> split <;> simp
theorem X7a {α β : Type} {f : α → List β} : ∀ {l : List α}, (∀ x ∈ l, (f x).length ≤ 1) → (l.flatMap f).length ≤ l.length
 | [], _ => by simp
 | x :: l, h => by
  have h1 := h x (by simp)
  have h2 := X7a (l := l) fun y hy => h y (by simp [hy])
  simp only [List.flatMap_cons, List.length_append, List.length_cons]
  omega
theorem W2m {α β : Type} {f : α → List β} {c : α} {B : Nat} (hc : (f c).length ≤ B) : ∀ {l : List α}, c ∈ l → (∀ x ∈ l, x ≠ c → (f x).length ≤ 1) → l.Nodup → (l.flatMap f).length + 1 ≤ l.length + B
 | [], h, _, _ => by simp at h
 | x :: l, hcl, hn, hd => by
  obtain ⟨h1, h2⟩ := List.nodup_cons.1 hd
  simp only [List.flatMap_cons, List.length_append, List.length_cons]
  by_cases hx : x = c
  ·subst hx
   have := X7a (f := f) (l := l) fun y hy => hn y (by simp [hy]) fun e => h1 (e ▸ hy)
   omega
  ·have h3 := hn x (by simp) hx
   have hcl : c ∈ l := by
    rcases List.mem_cons.1 hcl with rfl | h
    ·exact absurd rfl hx
    ·exact h
   have := W2m hc hcl (fun z hz => hn z (by simp [hz])) h2
   omega
theorem Q79 {w : List Q3} (hw : WW w) (he : WE w) : ∀ (d : Nat) (t : Q2) (a b : Q0), t ∈ tys w → Z3 w d t b → (X5 w d t a b).length ≤ 3 * cntP b
 | 0, _, _, _, _, h => h.elim
 | d + 1, t, a, b, ht, hb => by
  rcases hb with rfl | ⟨n', m', rfl, ht', _⟩ | ⟨c', ks', rfl, ht', hc', hl', hk'⟩
  ·simp [X5]
  ·have e1 : ¬ (3 : Int) = 1 := by decide
   simp only [X5, e1, if_false, if_true]
   have h1 := Q7u (Q0.mk 3 0 n' m' 0 [])
   split
   ·have := X5r 0 9 n' m'; omega
   ·have := X5r a.n a.m n' m'; omega
  ·have e1 : ¬ (4 : Int) = 1 := by decide
   have e3 : ¬ (4 : Int) = 3 := by decide
   simp only [X5, e1, e3, if_false]
   have hkm : ∀ (as : List Q0), (kmD (X5 w d) (W3 d) (Z5 w t c') as ks').length ≤ 3 * cntP.cntPs ks' := fun as =>
    X65 (Z5 w t c') as ks' fun j u p q h1 h2 => Q79 hw he d u p q ((hw.ty t ht).at_ _ hc' u (List.mem_of_getElem? h1)) (hk' j u q h1 h2)
   have hcm : ∀ a' : Q0, (a'.ctor ≠ c' → (cmD w (X5 w d) (W3 d) t a' (Q0.mk 4 c' 0 0 0 ks')).length ≤ 1) ∧ (a'.ctor = c' → (cmD w (X5 w d) (W3 d) t a' (Q0.mk 4 c' 0 0 0 ks')).length ≤ 3 * cntP.cntPs ks') := fun a' => by
    refine ⟨fun h => by simp [cmD, h], fun h => ?_⟩
    simp only [cmD, h, if_true, List.length_map]
    exact hkm a'.kids
   have hcnt : cntP (Q0.mk 4 c' 0 0 0 ks') = 1 + cntP.cntPs ks' := Q2g _
   split
   ·have := W2m (f := fun c => cmD w (X5 w d) (W3 d) t (Q4x w t c) (Q0.mk 4 c' 0 0 0 ks')) (c := c') ((hcm (Q4x w t c')).2 rfl) hc' (fun x _ hx => (hcm (Q4x w t x)).1 hx) (he.nd t ht)
    have := (hw.ty t ht).cl
    omega
   ·by_cases h : a.ctor = c'
    ·have := (hcm a).2 h; omega
    ·have := (hcm a).1 h; omega
theorem X0o {w : List Q3} (hw : WW w) (he : WE w) {d : Nat} {t : Q2} (ht : t ∈ tys w) {b : Q0} (hb : Z3 w d t b) : ∀ (l : List Q0), (l.flatMap fun a => X5 w d t a b).length ≤ l.length * (3 * cntP b)
 | [] => by simp
 | a :: l => by
  have h1 := Q79 hw he d t a b ht hb
  have h2 := X0o hw he ht hb l
  simp only [List.flatMap_cons, List.length_append, List.length_cons, Nat.add_mul, Nat.one_mul]
  omega
end Go.Proofs.YtnackipaoepmfaaGreat
namespace Go.Proofs.YtnackipaoepmfaaGreat
open Go Go.RowKit
def X1 : Nat → Q0 → Q0
 | 0, p => p
 | d + 1, p => if p.op = 2 then Q0.mk 1 0 0 0 0 [] else if p.op = 6 ∧ p.kids ≠ [] then X1 d (p.kids.headD p) else Q0.mk p.op p.ctor p.n p.m p.var (p.kids.map (X1 d))
def altD (w : List Q3) : Nat → Q2 → Q0 → Prop
 | 0, _, _ => False
 | d + 1, t, p => p = Q0.mk 1 0 0 0 0 [] ∨ (∃ n m, p = Q0.mk 3 0 n m 0 [] ∧ t.data = -1 ∧ 0 ≤ n ∧ n ≤ m ∧ m ≤ 9) ∨
  (∃ c ks, p = Q0.mk 4 c 0 0 0 ks ∧ t.data ≠ -1 ∧ c ∈ Z7 w t ∧ ks.length = (Z5 w t c).length ∧ ∀ (j : Nat) (a : Q2) (q : Q0), (Z5 w t c)[j]? = some a → ks[j]? = some q → altD w d a q) ∨
  (∃ a b, p = Q0.mk 5 0 0 0 0 [a, b] ∧ altD w d t a ∧ altD w d t b)
theorem Z4x {w : List Q3} : ∀ (d : Nat) (t : Q2) (p : Q0), altD w d t p → altD w (d + 1) t p
 | 0, _, _, h => h.elim
 | d + 1, t, p, h => by
  rcases h with h | h | ⟨c, ks, e, h1, h2, h3, h4⟩ | ⟨a, b, e, h1, h2⟩
  ·exact .inl h
  ·exact .inr (.inl h)
  ·exact .inr (.inr (.inl ⟨c, ks, e, h1, h2, h3, fun j a q ha hq => Z4x d a q (h4 j a q ha hq)⟩))
  ·exact .inr (.inr (.inr ⟨a, b, e, Z4x d t a h1, Z4x d t b h2⟩))
theorem Z8m {w : List Q3} {d : Nat} {t : Q2} {p : Q0} (h0 : t.data = -1 → Z7 w t = []) (g : Q13 w (d + 1) t p = true) :
  p = Q0.mk 1 0 0 0 0 [] ∨ (∃ v, p = Q0.mk 2 0 0 0 v []) ∨ (∃ n m, p = Q0.mk 3 0 n m 0 [] ∧ t.data = -1 ∧ 0 ≤ n ∧ n ≤ m ∧ m ≤ 9) ∨
  (∃ c ks, p = Q0.mk 4 c 0 0 0 ks ∧ t.data ≠ -1 ∧ c ∈ Z7 w t ∧ ks.length = (Z5 w t c).length ∧ ∀ (j : Nat) (a : Q2) (q : Q0), (Z5 w t c)[j]? = some a → ks[j]? = some q → Q13 w d a q = true) ∨
  (∃ a b, p = Q0.mk 5 0 0 0 0 [a, b] ∧ Q13 w d t a = true ∧ Q13 w d t b = true) ∨ (∃ v a, p = Q0.mk 6 0 0 0 v [a] ∧ Q13 w d t a = true) := by
 have hn := Q4p (Q3y g)
 have hkid := fun (j : Nat) (a : Q2) (q : Q0) => Q31 (k := j) (a := a) (q := q) g
 obtain ⟨op, ctor, n, m, var, kids⟩ := p
 have ho := hn.1
 simp only [Q9b, Bool.and_eq_true, Bool.or_eq_true, decide_eq_true_eq] at ho
 obtain ⟨⟨⟨k1, k2⟩, k3⟩, k4⟩ := ho
 have hop : op = 1 ∨ op = 2 ∨ op = 3 ∨ op = 4 ∨ op = 5 ∨ op = 6 := by
  rcases k4 with (h | h) | h
  ·rcases h with h | h | h | h <;> simp [h]
  ·simp [h.1.1.1.1]
  ·simp [h.1]
 rcases hop with rfl | rfl | rfl | rfl | rfl | rfl
 ·have hl := hn.2
  simp [Y5] at hl k1 k2 k3
  subst hl; obtain ⟨rfl, rfl⟩ := k2; subst k1; subst k3
  exact .inl rfl
 ·have hl := hn.2
  simp [Y5] at hl k2 k3
  subst hl; obtain ⟨rfl, rfl⟩ := k2; subst k3
  exact .inr (.inl ⟨var, rfl⟩)
 ·have hl := hn.2
  simp [Y5] at hl k1 k3 k4
  subst hl; subst k1; subst k3
  exact .inr (.inr (.inl ⟨n, m, rfl, k4.1.1.1, k4.1.1.2, k4.1.2, k4.2⟩))
 ·have hl := hn.2
  simp [Y5] at hl k1 k2 k4
  obtain ⟨rfl, rfl⟩ := k2; subst k1
  refine .inr (.inr (.inr (.inl ⟨ctor, kids, rfl, fun hd => ?_, k4, hl, fun j a q ha hq => hkid j a q (by simpa [Y5] using ha) hq⟩)))
  rw [h0 hd] at k4
  simp at k4
 ·have hl := hn.2
  simp [Y5] at hl k1 k2 k3
  obtain ⟨rfl, rfl⟩ := k2; subst k1; subst k3
  match kids, hl with
  | [a, b], _ => exact .inr (.inr (.inr (.inr (.inl ⟨a, b, rfl, hkid 0 t a (by simp [Y5]) rfl, hkid 1 t b (by simp [Y5]) rfl⟩))))
 ·have hl := hn.2
  simp [Y5] at hl k2 k3
  obtain ⟨rfl, rfl⟩ := k2; subst k3
  match kids, hl with
  | [a], _ => exact .inr (.inr (.inr (.inr (.inr ⟨var, a, rfl, hkid 0 t a (by simp [Y5]) rfl⟩))))
theorem Q6c {w : List Q3} (h0 : ∀ t, t.data = -1 → Z7 w t = []) : ∀ (d : Nat) (t : Q2) (p : Q0), Q13 w d t p = true → altD w d t (X1 d p)
 | 0, _, _, h => by simp [Q13] at h
 | d + 1, t, p, g => by
  rcases Z8m (h0 t) g with rfl | ⟨v, rfl⟩ | ⟨n, m, rfl, h⟩ | ⟨c, ks, rfl, h1, h2, h3, h4⟩ | ⟨a, b, rfl, h1, h2⟩ | ⟨v, a, rfl, h1⟩
  ·exact .inl (by simp [X1])
  ·exact .inl (by simp [X1])
  ·exact .inr (.inl ⟨n, m, by simp [X1], h⟩)
  ·refine .inr (.inr (.inl ⟨c, ks.map (X1 d), by simp [X1], h1, h2, by simpa using h3, fun j a q ha hq => ?_⟩))
   rw [List.getElem?_map] at hq
   obtain ⟨q', e1, e2⟩ := Option.map_eq_some_iff.1 hq
   subst e2
   exact Q6c h0 d a q' (h4 j a q' ha e1)
  ·exact .inr (.inr (.inr ⟨X1 d a, X1 d b, by simp [X1], Q6c h0 d t a h1, Q6c h0 d t b h2⟩))
  ·have : X1 (d + 1) (Q0.mk 6 0 0 0 v [a]) = X1 d a := by simp [X1]
   rw [this]
   exact Z4x d t _ (Q6c h0 d t a h1)
def MemL (cs : List Q0) (ls : List (List Q0)) : Prop := cs.length = ls.length ∧ ∀ (j : Nat) (c : Q0) (l : List Q0), cs[j]? = some c → ls[j]? = some l → c ∈ l
theorem Q9u {c : Q0} {cs : List Q0} {l : List Q0} {ls : List (List Q0)} : MemL (c :: cs) (l :: ls) ↔ c ∈ l ∧ MemL cs ls := by
 constructor
 ·rintro ⟨h1, h2⟩
  exact ⟨h2 0 c l rfl rfl, by simpa using h1, fun j x y e1 e2 => h2 (j + 1) x y (by simpa using e1) (by simpa using e2)⟩
 ·rintro ⟨h0, h1, h2⟩
  refine ⟨by simp [h1], fun j x y e1 e2 => ?_⟩
  cases j with
  | zero => simp at e1 e2; subst e1; subst e2; exact h0
  | succ j => exact h2 j x y (by simpa using e1) (by simpa using e2)
theorem X62 : ∀ (ls out : List (List Q0)) (ks : List Q0), ks ∈ ls.foldl tupD out ↔ ∃ o ∈ out, ∃ cs, MemL cs ls ∧ ks = o ++ cs
 | [], out, ks => by
  simp only [List.foldl_nil]
  constructor
  ·exact fun h => ⟨ks, h, [], ⟨rfl, fun j c l h => by simp at h⟩, by simp⟩
  ·rintro ⟨o, ho, cs, h, rfl⟩
   have : cs = [] := List.eq_nil_of_length_eq_zero (by simpa using h.1)
   subst this
   simpa using ho
 | l :: ls, out, ks => by
  simp only [List.foldl_cons]
  rw [X62 ls (tupD out l) ks]
  constructor
  ·rintro ⟨o, ho, cs, h, rfl⟩
   obtain ⟨q, hq, ho⟩ := List.mem_flatMap.1 ho
   obtain ⟨c, hc, rfl⟩ := List.mem_map.1 ho
   exact ⟨q, hq, c :: cs, Q9u.2 ⟨hc, h⟩, by simp⟩
  ·rintro ⟨o, ho, cs, h, rfl⟩
   cases cs with
   | nil => have := h.1; simp at this
   | cons c cs =>
    obtain ⟨hc, h⟩ := Q9u.1 h
    exact ⟨o ++ [c], List.mem_flatMap.2 ⟨o, ho, List.mem_map.2 ⟨c, hc, rfl⟩⟩, cs, h, by simp⟩
theorem Z29 {ls : List (List Q0)} {ks : List Q0} : ks ∈ ls.foldl tupD [[]] ↔ MemL ks ls := by
 rw [X62]
 constructor
 ·rintro ⟨o, ho, cs, h, rfl⟩
  simp at ho
  subst ho
  simpa using h
 ·exact fun h => ⟨[], by simp, ks, h, by simp⟩
theorem Z0a {w : List Q3} : ∀ (d : Nat) (t : Q2) (p : Q0), altD w d t p → ∀ q ∈ Z0 d p, Z3 w d t q
 | 0, _, _, h, _, _ => h.elim
 | d + 1, t, p, h, q, hq => by
  rcases h with rfl | ⟨n, m, rfl, h⟩ | ⟨c, ks, rfl, h1, h2, h3, h4⟩ | ⟨a, b, rfl, h1, h2⟩
  ·simp [Z0, Q63] at hq; subst hq; exact .inl rfl
  ·simp [Z0, Q63] at hq; subst hq; exact .inr (.inl ⟨n, m, rfl, h⟩)
  ·have e5 : ¬ (4 : Int) = 5 := by decide
   simp only [Z0, e5, if_false, List.mem_map] at hq
   obtain ⟨cs, hcs, rfl⟩ := hq
   obtain ⟨g1, g2⟩ := Z29.1 hcs
   refine .inr (.inr ⟨c, cs, rfl, h1, h2, by simpa [h3] using g1, fun j a q ha hq => ?_⟩)
   obtain ⟨k, hk⟩ := Q0x h3 (List.getElem?_eq_some_iff.1 ha).1
   exact Z0a d a k (h4 j a k ha hk) q (g2 j q (Z0 d k) hq (by rw [List.getElem?_map, hk]; rfl))
  ·simp only [Z0, if_true, List.flatMap_cons, List.flatMap_nil, List.append_nil, List.mem_append] at hq
   rcases hq with hq | hq
   ·exact Q50 d t q (Z0a d t a h1 q hq)
   ·exact Q50 d t q (Z0a d t b h2 q hq)
theorem Z0b {w : List Q3} : ∀ (d : Nat) (t : Q2) (p : Q0), altD w d t p → Z0 (d + 1) p = Z0 d p
 | 0, _, _, h => h.elim
 | d + 1, t, p, h => by
  rcases h with rfl | ⟨n, m, rfl, h⟩ | ⟨c, ks, rfl, h1, h2, h3, h4⟩ | ⟨a, b, rfl, h1, h2⟩
  ·simp [Z0]
  ·simp [Z0]
  ·have e5 : ¬ (4 : Int) = 5 := by decide
   have : ks.map (Z0 (d + 1)) = ks.map (Z0 d) := by
    refine List.map_congr_left fun k hk => ?_
    obtain ⟨j, hj⟩ := List.mem_iff_getElem?.1 hk
    obtain ⟨a, ha⟩ := Q0x h3.symm (List.getElem?_eq_some_iff.1 hj).1
    exact Z0b d a k (h4 j a k ha hj)
   rw [Z0, Z0]
   simp only [e5, if_false, this]
  ·rw [Z0, Z0]
   simp only [if_true, List.flatMap_cons, List.flatMap_nil, Z0b d t a h1, Z0b d t b h2]
theorem Z8f {f : Q0 → Q4 → Option (List W4)} {S : Q0 → List Q0} : ∀ (ps : List Q0) (vs : List Q4), ps.length = vs.length →
  (∀ (j : Nat) (p : Q0) (v : Q4), ps[j]? = some p → vs[j]? = some v → ((f p v).isSome = true ↔ ∃ q ∈ S p, fitP q v = true)) → ((Q4a f ps vs).isSome = true ↔ ∃ cs, MemL cs (ps.map S) ∧ fitL cs vs = true)
 | [], [], _, _ => by
  simp only [Q4a, Option.isSome_some, true_iff]
  exact ⟨[], ⟨rfl, fun j c l h => by simp at h⟩, by simp⟩
 | p :: ps, v :: vs, hl, h => by
  have h0 := h 0 p v rfl rfl
  have ih := Z8f (f := f) (S := S) ps vs (by simpa using hl) fun j x y e1 e2 => h (j + 1) x y (by simpa using e1) (by simpa using e2)
  have hm : (Q4a f (p :: ps) (v :: vs)).isSome = ((f p v).isSome && (Q4a f ps vs).isSome) := by
   simp only [Q4a]
   cases f p v with
   | none => rfl
   | some l => cases Q4a f ps vs <;> rfl
  rw [hm, Bool.and_eq_true, h0, ih]
  constructor
  ·rintro ⟨⟨q, hq, g1⟩, cs, hcs, g2⟩
   exact ⟨q :: cs, Q9u.2 ⟨hq, hcs⟩, by simp [g1, g2]⟩
  ·rintro ⟨cs, hcs, g⟩
   cases cs with
   | nil => have := hcs.1; simp at this
   | cons c cs =>
    obtain ⟨hc, hcs⟩ := Q9u.1 hcs
    simp only [Q4m, Bool.and_eq_true] at g
    exact ⟨⟨c, hc, g.1⟩, cs, hcs, g.2⟩
 | [], _ :: _, h, _ => by simp at h
 | _ :: _, [], h, _ => by simp at h
theorem Q9w {w : List Q3} (h0 : ∀ t, t.data = -1 → Z7 w t = []) : ∀ (d e : Nat) (t : Q2) (p : Q0) (v : Q4), Q13 w d t p = true → Q0y w e t v → ((W6 d p v).isSome = true ↔ ∃ q ∈ Z0 d (X1 d p), fitP q v = true)
 | 0, _, _, _, _, h, _ => by simp [Q13] at h
 | d + 1, e, t, p, v, g, hv => by
  rcases Z8m (h0 t) g with rfl | ⟨x, rfl⟩ | ⟨n, m, rfl, h⟩ | ⟨c, ks, rfl, h1, h2, h3, h4⟩ | ⟨a, b, rfl, h1, h2⟩ | ⟨x, a, rfl, h1⟩
  ·simp [W6, X1, Z0, Q63, Q5g]
  ·simp [W6, X1, Z0, Q63, Q5g]
  ·have hb : X1 (d + 1) (Q0.mk 3 0 n m 0 []) = Q0.mk 3 0 n m 0 [] := by simp [X1]
   have hs : Z0 (d + 1) (Q0.mk 3 0 n m 0 []) = [Q0.mk 3 0 n m 0 []] := by simp [Z0, Q63]
   rw [hb, hs]
   simp only [List.mem_singleton, exists_eq_left]
   rw [Q5f rfl]
   have e1 : ¬ (3 : Int) = 1 := by decide
   have e2 : ¬ (3 : Int) = 2 := by decide
   simp only [W6, e1, e2, if_false, if_true, decide_eq_true_eq]
   split <;> simp [*]
  ·have e1 : ¬ (4 : Int) = 1 := by decide
   have e2 : ¬ (4 : Int) = 2 := by decide
   have e3 : ¬ (4 : Int) = 3 := by decide
   have e5 : ¬ (4 : Int) = 5 := by decide
   have e6 : ¬ (4 : Int) = 6 := by decide
   have hb : X1 (d + 1) (Q0.mk 4 c 0 0 0 ks) = Q0.mk 4 c 0 0 0 (ks.map (X1 d)) := by simp [X1]
   rw [hb]
   simp only [Z0, e5, if_false, List.mem_map, W6, e1, e2, e3, e6]
   obtain ⟨e', rfl, gv1, gv2, gv3⟩ := Q69 hv h1
   by_cases hc : c = v.ctor
   ·subst hc
    simp only [if_true]
    rw [Z8f (f := W6 d) (S := fun p => Z0 d (X1 d p)) ks v.kids (h3.trans gv2.symm) fun j p u hp hu => by
     obtain ⟨a, ha⟩ := Q0x h3.symm (List.getElem?_eq_some_iff.1 hp).1
     exact Q9w h0 d e' a p u (h4 j a p ha hp) (gv3 j a u ha hu)]
    have hmm : (ks.map (X1 d)).map (Z0 d) = ks.map (fun p => Z0 d (X1 d p)) := by simp
    constructor
    ·rintro ⟨cs, hcs, g⟩
     refine ⟨_, ⟨cs, ?_, rfl⟩, ?_⟩
     ·rw [hmm]; exact Z29.2 hcs
     ·rw [Q63, Q0s rfl]; simp [g]
    ·rintro ⟨_, ⟨cs, hcs, rfl⟩, g⟩
     rw [hmm] at hcs
     rw [Q63, Q0s rfl] at g
     simp only [Bool.and_eq_true] at g
     exact ⟨cs, Z29.1 hcs, g.2⟩
   ·simp only [if_neg hc, Option.isSome_none, Bool.false_eq_true, false_iff]
    rintro ⟨_, ⟨cs, hcs, rfl⟩, g⟩
    rw [Q63, Q0s rfl] at g
    simp only [Bool.and_eq_true, decide_eq_true_eq] at g
    exact hc g.1
  ·have ia := Q9w h0 d e t a v h1 hv
   have ib := Q9w h0 d e t b v h2 hv
   have hb : X1 (d + 1) (Q0.mk 5 0 0 0 0 [a, b]) = Q0.mk 5 0 0 0 0 [X1 d a, X1 d b] := by simp [X1]
   have e1 : ¬ (5 : Int) = 1 := by decide
   have e2 : ¬ (5 : Int) = 2 := by decide
   have e3 : ¬ (5 : Int) = 3 := by decide
   rw [hb]
   simp only [Z0, if_true, List.flatMap_cons, List.flatMap_nil, List.append_nil, List.mem_append, W6, e1, e2, e3, if_false]
   cases hm : W6 d a v with
   | some l =>
    rw [hm] at ia
    obtain ⟨q, hq, g⟩ := ia.1 rfl
    simp only [Option.isSome_some, true_iff]
    exact ⟨q, .inl hq, g⟩
   | none =>
    rw [hm] at ia
    simp only
    rw [ib]
    constructor
    ·rintro ⟨q, hq, g⟩; exact ⟨q, .inr hq, g⟩
    ·rintro ⟨q, hq | hq, g⟩
     ·have := ia.2 ⟨q, hq, g⟩; simp at this
     ·exact ⟨q, hq, g⟩
  ·have ia := Q9w h0 d e t a v h1 hv
   have hb : X1 (d + 1) (Q0.mk 6 0 0 0 x [a]) = X1 d a := by simp [X1]
   have e1 : ¬ (6 : Int) = 1 := by decide
   have e2 : ¬ (6 : Int) = 2 := by decide
   have e3 : ¬ (6 : Int) = 3 := by decide
   have e5 : ¬ (6 : Int) = 5 := by decide
   rw [hb, Z0b d t _ (Q6c h0 d t a h1)]
   simp only [W6, e1, e2, e3, e5, if_false, if_true, Option.isSome_map]
   exact ia
end Go.Proofs.YtnackipaoepmfaaGreat
namespace Go.Proofs.YtnackipaoepmfaaGreat
open Go Go.RowKit
def dimP (w : List Q3) : List Int := (Q4h NN w).getD []
def W5e (w : List Q3) (t : Q2) (k : Int) : Bool := decide (0 < (Q0w (dimP w) w t k).getD 0)
def W7k (w : List Q3) (t : Q2) (k : Int) : Bool := match Q3l w t k with
 | some p => decide (Q07 NN w (tabP w) t p = some (W5e w t k))
 | none => false
def chkL (w : List Q3) : Bool := decide (Q4h NN w = some (dimP w)) &&
 (tys w).all fun t => decide (t.data = -1) || (Z7 w t).all fun k => (Q0w (dimP w) w t k).isSome && (W7k w t k && decide (k ≠ -1))
theorem V9y : Q15.all chkL = true := by kernel_rfl
structure WL (w : List Q3) : Prop where
 dim : Q3w NN w = some ⟨w, dimP w⟩
 ctor : ∀ t ∈ tys w, t.data ≠ -1 → ∀ k ∈ Z7 w t, ∃ r, Q0w (dimP w) w t k = some r ∧ W5e w t k = decide (0 < r)
 wide : ∀ t ∈ tys w, t.data ≠ -1 → ∀ k ∈ Z7 w t, ∃ p, Q3l w t k = some p ∧ Q07 NN w (tabP w) t p = some (W5e w t k)
 pos : ∀ t ∈ tys w, t.data ≠ -1 → ∀ k ∈ Z7 w t, k ≠ -1
theorem wl {w : List Q3} (h : w ∈ Q15) : WL w := by
 have h := List.all_eq_true.1 V9y w h
 simp only [chkL, Bool.and_eq_true, Bool.or_eq_true, decide_eq_true_eq, List.all_eq_true, Option.isSome_iff_exists] at h
 obtain ⟨h1, h2⟩ := h
 have h3 : ∀ t ∈ tys w, t.data ≠ -1 → ∀ k ∈ Z7 w t, _ := fun t ht hd k hk => ((h2 t ht).resolve_left hd) k hk
 refine ⟨by unfold Q3w; rw [h1]; rfl, fun t ht hd k hk => ?_, fun t ht hd k hk => ?_, fun t ht hd k hk => (h3 t ht hd k hk).2.2⟩
 ·obtain ⟨⟨r, hr⟩, _⟩ := h3 t ht hd k hk
  exact ⟨r, hr, by rw [W5e, hr]; rfl⟩
 ·obtain ⟨_, hw, _⟩ := h3 t ht hd k hk
  unfold W7k at hw
  split at hw
  ·rename_i p hp
   exact ⟨p, hp, by simpa using hw⟩
  ·cases hw
end Go.Proofs.YtnackipaoepmfaaGreat
namespace Go.Proofs.YtnackipaoepmfaaGreat
open Go Go.RowKit
theorem Q3x {α β ρ : Type} {f : Nat → α → List β → Option (Ctl ρ (List β))} (g : α → List β) (M : Nat) : ∀ (xs : List α) (k : Nat) (s : List β), (∀ k, ∀ x ∈ xs, ∀ s : List β, s.length + (g x).length ≤ M → f k x s = some (.go (s ++ g x))) → s.length + (xs.flatMap g).length ≤ M → forL f k xs s = some (.brk (s ++ xs.flatMap g))
 | [], k, s, _, _ => by simp [forL]
 | x :: xs, k, s, h, hM => by
  simp only [List.flatMap_cons, List.length_append] at hM
  unfold forL
  rw [h k x (by simp) s (by omega)]
  simp only
  rw [Q3x g M xs (k + 1) (s ++ g x) (fun k y hy => h k y (by simp [hy])) (by simp only [List.length_append]; omega)]
  simp
theorem Q3u {α : Type} {l l' : List α} {k : Nat} {a : α} (h : l.drop k = a :: l') : l[k]? = some a ∧ l.drop (k + 1) = l' := by
 constructor
 ·have := congrArg (fun m => m[0]?) h
  simpa [List.getElem?_drop] using this
 ·have := congrArg (fun m => m.drop 1) h
  simpa [List.drop_drop, Nat.add_comm] using this
theorem W6h {n : Int} (h0 : 0 ≤ n) (h : n ≤ 100000) : Q1j n = some [] := by
 unfold Q1j
 have e : ilt n 0 = false := by rw [Q06]; exact h0
 have e0 : wsub .i64 0 (lenZ 0) = 0 := rfl
 have e1 : wsub .i64 n 0 = n := by rw [Q4c] <;> omega
 simp only [e, Bool.false_eq_true, if_false, e0, e1]
 by_cases hn : 0 < n
 ·have e2 : ilt 0 n = true := by rw [W0]; exact hn
  have e3 : mkS n (Q0.mk 0 0 0 0 0 []) = some (List.replicate n.toNat (Q0.mk 0 0 0 0 0 [])) := by
   unfold mkS; rw [if_pos ⟨h0, by simp [Q8]; omega⟩]
  rw [if_pos e2, e3]
  rfl
 ·have e2 : ilt 0 n = false := by rw [Q06]; omega
  rw [if_neg (by rw [e2]; simp)]
  rfl
theorem X9g {a b c : List Q0} (h : a.length + b.length + c.length ≤ 100000) : J5 [a, b, c] = some (a ++ b ++ c) := by
 unfold J5
 have hA : wadd .i64 0 (lenZ a.length) = (a.length : Int) := by rw [Q0p] <;> simp only [lenZ] <;> omega
 have hB : wadd .i64 (a.length : Int) (lenZ b.length) = (a.length : Int) + b.length := by rw [Q0p] <;> simp only [lenZ] <;> omega
 have hC : wadd .i64 ((a.length : Int) + b.length) (lenZ c.length) = (a.length : Int) + b.length + c.length := by rw [Q0p] <;> simp only [lenZ] <;> omega
 have l1 : ilt (a.length : Int) 0 = false := by rw [Q06]; omega
 have l2 : ilt ((a.length : Int) + b.length) 0 = false := by rw [Q06]; omega
 have l3 : ilt ((a.length : Int) + b.length + c.length) 0 = false := by rw [Q06]; omega
 simp only [forL, hA, hB, hC, l1, l2, l3, Bool.false_eq_true, if_false, Option.bind_some]
 rw [W6h (by omega) (by omega)]
 simp only [Option.bind_some]
 rw [V4 (by simp [Q8]; omega)]
 simp only [Option.bind_some, List.nil_append]
 rw [V4 (by simp only [Q8]; omega)]
 simp only [Option.bind_some]
 rw [V4 (by simp only [List.length_append, Q8]; omega)]
 rfl
theorem W81 (a b : Int) : imax a b = max a b := by unfold imax; omega
theorem W80 (a b : Int) : imin a b = min a b := by unfold imin; omega
def i3 (a b : Int) : List Q0 := if a ≤ b then [Q0.mk 3 0 a b 0 []] else []
theorem W98 {n : Nat} (hn : 2 ≤ n) (a b : Int) : Q21 n [a, b] = some (i3 a b) := by
 obtain ⟨m, rfl⟩ : ∃ m, n = m + 2 := ⟨n - 2, by omega⟩
 have w1 : wadd .i64 0 1 = 1 := rfl
 have w2 : wadd .i64 0 2 = 2 := rfl
 unfold Q21 i3
 by_cases h : a ≤ b <;> simp [whileL, idx, ilt, ile, app, w1, w2, h, lenZ, Q8]
theorem W97 {n : Nat} (hn : 3 ≤ n) (a b c e : Int) : Q21 n [a, b, c, e] = some (i3 a b ++ i3 c e) := by
 obtain ⟨m, rfl⟩ : ∃ m, n = m + 3 := ⟨n - 3, by omega⟩
 have w1 : wadd .i64 0 1 = 1 := rfl
 have w2 : wadd .i64 0 2 = 2 := rfl
 have w3 : wadd .i64 2 1 = 3 := rfl
 have w4 : wadd .i64 2 2 = 4 := rfl
 unfold Q21 i3
 by_cases h : a ≤ b <;> by_cases h' : c ≤ e <;> simp [whileL, idx, ilt, ile, app, w1, w2, w3, w4, h, h', lenZ, Q8]
def zP : Q0 := Q0.mk 0 0 0 0 0 []
def Z0q : Option Q0 → Q0 × Bool
 | some m => (m, true)
 | none => (zP, false)
end Go.Proofs.YtnackipaoepmfaaGreat
namespace Go.Proofs.YtnackipaoepmfaaGreat
open Go Go.RowKit
theorem Q9p {w : List Q3} {d : Nat} {t : Q2} {p : Q0} (h : Z3 w d t p) : ∃ e, d = e + 1 ∧ (p = Q0.mk 1 0 0 0 0 [] ∨ (∃ n m, p = Q0.mk 3 0 n m 0 [] ∧ t.data = -1 ∧ 0 ≤ n ∧ n ≤ m ∧ m ≤ 9) ∨
  (∃ c ks, p = Q0.mk 4 c 0 0 0 ks ∧ t.data ≠ -1 ∧ c ∈ Z7 w t ∧ ks.length = (Z5 w t c).length ∧ ∀ (j : Nat) (a : Q2) (q : Q0), (Z5 w t c)[j]? = some a → ks[j]? = some q → Z3 w e a q)) := by
 cases d with
 | zero => exact h.elim
 | succ e => exact ⟨e, rfl, h⟩
theorem Z1e {w : List Q3} (hw : WW w) (S : List Int) : ∀ (d n x : Nat) (t : Q2) (a b : Q0), t ∈ tys w → Z3 w x t a → Z3 w d t b → d + 3 ≤ n → W2 n ⟨w, S⟩ t a b = some (Z0q (W3 d a b))
 | 0, _, _, _, _, _, _, _, h, _ => h.elim
 | d + 1, n, x, t, a, b, ht, ha, hb, hn => by
  obtain ⟨n, rfl⟩ : ∃ m, n = m + 1 := ⟨n - 1, by omega⟩
  obtain ⟨x, rfl, ha⟩ := Q9p ha
  have i11 : ieq 1 1 = true := rfl
  have i31 : ieq 3 1 = false := rfl
  have i33 : ieq 3 3 = true := rfl
  have i41 : ieq 4 1 = false := rfl
  have i43 : ieq 4 3 = false := rfl
  have e31 : ¬ (3 : Int) = 1 := by decide
  have e41 : ¬ (4 : Int) = 1 := by decide
  have e43 : ¬ (4 : Int) = 3 := by decide
  rcases ha with rfl | ⟨n1, m1, rfl, hd, _⟩ | ⟨c, ks, rfl, hd, hc, hl, hk⟩
  ·simp [W2, W3, Z0q, i11]
  ·rcases hb with rfl | ⟨n2, m2, rfl, _⟩ | ⟨c', ks', rfl, hd', _⟩
   ·simp [W2, W3, Z0q, i11, i31]
   ·simp only [W2, W3, i31, i33, e31, Bool.false_eq_true, if_false, if_true]
    rw [W98 (by omega), W81, W80]
    by_cases h : max n1 n2 ≤ min m1 m2
    ·simp [i3, h, idx, ieq, lenZ, Z0q]
    ·simp [i3, h, ieq, lenZ, Z0q, zP]
   ·exact absurd hd hd'
  ·rcases hb with rfl | ⟨n2, m2, rfl, hd', _⟩ | ⟨c', ks', rfl, _, hc', hl', hk'⟩
   ·simp [W2, W3, Z0q, i11, i41]
   ·exact absurd hd' hd
   ·simp only [W2, W3, i41, i43, e41, e43, Bool.false_eq_true, if_false]
    by_cases hcc : c = c'
    ·subst hcc
     have ec : (!ieq c c) = false := by simp [ieq]
     simp only [ec, Bool.false_eq_true, if_false, if_true]
     rw [(hw.ty t ht).a2 c hc]
     simp only [Option.bind_some]
     have hal := (hw.ty t ht).al c hc
     have hlp : ∀ (ts : List Q2) (k : Nat) (s : List Q0) (as' bs' : List Q0), (Z5 w t c).drop k = ts → ks.drop k = as' → ks'.drop k = bs' → s.length + ts.length ≤ 100 →
       forL (fun k131 x132 (s125 : (List Q0)) =>
        ((idx ks (k131 : Int)).bind fun x143 =>
        ((idx ks' (k131 : Int)).bind fun x144 =>
        ((W2 n ⟨w, S⟩ x132 x143 x144).bind fun r145 =>
        (if (!r145.2) = true then
        some (Ctl.ret (((Q0.mk 0 0 0 0 0 []), false)))
        else
        ((app s125 [r145.1]).bind fun x148 =>
        some (Ctl.go x148))))))) k ts s = some (match Q1q (W3 d) as' bs' with | some ms => .brk (s ++ ms) | none => .ret (zP, false)) := by
      intro ts
      induction ts with
      | nil =>
       intro k s as' bs' h0 h1 h2 _
       have hge : (Z5 w t c).length ≤ k := by have := congrArg List.length h0; simp at this; omega
       have e1 : as' = [] := by rw [← h1]; exact List.drop_eq_nil_of_le (by omega)
       have e2 : bs' = [] := by rw [← h2]; exact List.drop_eq_nil_of_le (by omega)
       subst e1; subst e2
       simp [forL, Q1q]
      | cons u ts ih =>
       intro k s as' bs' h0 h1 h2 hs
       obtain ⟨u1, u2⟩ := Q3u h0
       have hkl := (List.getElem?_eq_some_iff.1 u1).1
       cases as' with
       | nil => have := congrArg List.length h1; simp at this; omega
       | cons a as' =>
       cases bs' with
       | nil => have := congrArg List.length h2; simp at this; omega
       | cons b bs' =>
       obtain ⟨a1, a2⟩ := Q3u h1
       obtain ⟨b1, b2⟩ := Q3u h2
       simp only [List.length_cons] at hs
       unfold forL
       rw [Q12 a1, Q12 b1]
       simp only [Option.bind_some]
       rw [Z1e hw S d n x u a b ((hw.ty t ht).at_ _ hc u (List.mem_of_getElem? u1)) (hk k u a u1 a1) (hk' k u b u1 b1) (by omega)]
       simp only [Option.bind_some, Q1q]
       cases hm : W3 d a b with
       | none => simp [Z0q, zP]
       | some m =>
        simp only [Z0q, Bool.not_true, Bool.false_eq_true, if_false, Option.bind_some]
        rw [V4 (by simp only [List.length_cons, List.length_nil, Q8]; omega)]
        simp only [Option.bind_some]
        rw [ih (k + 1) (s ++ [m]) as' bs' u2 a2 b2 (by simp; omega)]
        cases Q1q (W3 d) as' bs' with
        | none => simp
        | some ms => simp
     have := hlp (Z5 w t c) 0 [] ks ks' rfl rfl rfl (by simp; omega)
     rw [this]
     cases Q1q (W3 d) ks ks' with
     | none => simp [Z0q]
     | some ms => simp [Z0q]
    ·have ec : (!ieq c c') = true := by simp [ieq, hcc]
     simp [ec, hcc, Z0q, zP]
theorem W4e {w : List Q3} (hw : WW w) (S : List Int) {t : Q2} (ht : t ∈ tys w) {c : Int} (hc : c ∈ Z7 w t) : Q2d ⟨w, S⟩ t c = some (Q4x w t c) := by
 unfold Q2d
 simp only
 rw [(hw.ty t ht).a2 c hc]
 simp only [Option.bind_some]
 have hal := (hw.ty t ht).al c hc
 rw [Q3x (fun _ => [Q0.mk 1 0 0 0 0 []]) 100 (Z5 w t c) 0 [] (fun k x _ s hs => by
  have : Q27 = some (Q0.mk 1 0 0 0 0 []) := rfl
  rw [this]
  simp only [Option.bind_some]
  simp only [List.length_cons, List.length_nil] at hs
  rw [V4 (by simp only [List.length_cons, List.length_nil, Q8]; omega)]
  rfl) (by
   have : ∀ l : List Q2, (l.flatMap fun _ => [Q0.mk 1 0 0 0 0 []]).length = l.length := fun l => by induction l with | nil => rfl | cons a l ih => simp [ih]
   rw [this]; simp; omega)]
 simp only [Option.bind_some, List.nil_append, Q4x]
 congr 2
 induction Z5 w t c with
 | nil => rfl
 | cons a l ih => simp [ih]
theorem Z88 (p : Q0) : Q55 p = some (if p.op = 1 then (0, 9) else (p.n, p.m)) := by
 unfold Q55
 by_cases h : p.op = 1
 ·have : ieq p.op 1 = true := by rw [W5]; exact h
  rw [if_pos this, if_pos h]
 ·have : ieq p.op 1 = false := by rw [X8]; exact h
  rw [if_neg (by rw [this]; simp), if_neg h]
theorem W1q {w : List Q3} {S : List Int} {n c0 : Nat} {c : Int} {ks ks' : List Q0} {fm : Q2 → Q0 → Q0 → List Q0} {fj : Q0 → Q0 → Option Q0} {args : List Q2}
  (hl : ks.length = args.length) (hl' : ks'.length = args.length) (ha3 : args.length ≤ 3)
  (hmin : ∀ (k : Nat) (u : Q2) (a b : Q0), args[k]? = some u → ks[k]? = some a → ks'[k]? = some b → X3 n ⟨w, S⟩ u a b = some (fm u a b) ∧ W2 n ⟨w, S⟩ u a b = some (Z0q (fj a b))) :
  ∀ (ts : List Q2) (k : Nat) (out front as' bs' : List Q0), args.drop k = ts → ks.drop k = as' → ks'.drop k = bs' → front.length = k → out.length + (kmD fm fj ts as' bs').length ≤ 50000 → c0 = c0 →
  ∃ fr, forL (fun k1426 x1427 (s1422 : (List Q0) × (List Q0)) =>
   ((idx ks (k1426 : Int)).bind fun x1558 =>
   ((idx ks' (k1426 : Int)).bind fun x1559 =>
   ((X3 n ⟨w, S⟩ x1427 x1558 x1559).bind fun r1560 =>
   ((forL (fun k1588 x1589 (s1584 : (List Q0)) =>
   ((Z4l ks (wadd .i64 (k1426 : Int) 1)).bind fun x1596 =>
   ((J5 [s1422.2, [x1589], x1596]).bind fun r1597 =>
   ((app s1584 [(Q0.mk 4 c 0 0 0 r1597)]).bind fun x1598 =>
   some (Ctl.go x1598))))) 0 r1560 s1422.1).bind fun (o1583 : Ctl (Ctl (List Q0) ((List Q0) × (List Q0))) ((List Q0))) => match o1583 with
   | .ret r => some r
   | .go _ => none
   | .brk s1592 =>
   ((W2 n ⟨w, S⟩ x1427 x1558 x1559).bind fun r1599 =>
   (if (!r1599.2) = true then
   some (Ctl.brk (s1592, s1422.2))
   else
   ((app s1422.2 [r1599.1]).bind fun x1602 =>
   some (Ctl.go (s1592, x1602)))))))))) k ts (out, front) = some (.brk (out ++ (kmD fm fj ts as' bs').map (fun q => Q0.mk 4 c 0 0 0 (front ++ q)), fr)) := by
 intro ts
 induction ts with
 | nil =>
  intro k out front as' bs' h0 h1 h2 hf hs _
  exact ⟨front, by simp [forL, kmD]⟩
 | cons u ts ih =>
  intro k out front as' bs' h0 h1 h2 hf hs _
  obtain ⟨u1, u2⟩ := Q3u h0
  have hkl := (List.getElem?_eq_some_iff.1 u1).1
  cases as' with
  | nil => have := congrArg List.length h1; simp at this; omega
  | cons a as' =>
  cases bs' with
  | nil => have := congrArg List.length h2; simp at this; omega
  | cons b bs' =>
  obtain ⟨a1, a2⟩ := Q3u h1
  obtain ⟨b1, b2⟩ := Q3u h2
  obtain ⟨m1, m2⟩ := hmin k u a b u1 a1 b1
  simp only [kmD, List.length_append, List.length_map] at hs
  have hw1 : wadd .i64 (k : Int) 1 = ((k + 1 : Nat) : Int) := by rw [Q0p] <;> omega
  have hdrop : Z4l ks ((k + 1 : Nat) : Int) = some as' := by
   unfold Z4l
   rw [if_pos ⟨by omega, by omega⟩]
   simp [← a2]
  have has : as'.length ≤ 3 := by rw [← a2]; simp; omega
  unfold forL
  simp only [Q12 a1, Q12 b1, Option.bind_some, m1, hw1, hdrop]
  have hin := Q3x (ρ := Ctl (List Q0) ((List Q0) × (List Q0))) (f := fun (k1588 : Nat) x1589 (s1584 : (List Q0)) =>
    ((J5 [front, [x1589], as']).bind fun r1597 =>
    ((app s1584 [(Q0.mk 4 c 0 0 0 r1597)]).bind fun x1598 =>
    some (Ctl.go x1598)))) (fun x => [Q0.mk 4 c 0 0 0 (front ++ x :: as')]) 100000 (fm u a b) 0 out (fun k x _ s hs => by
   simp only [List.length_cons, List.length_nil] at hs
   rw [X9g (by simp only [List.length_cons, List.length_nil]; omega)]
   simp only [Option.bind_some]
   rw [V4 (by simp only [List.length_cons, List.length_nil, Q8]; omega)]
   simp) (by
    have : ∀ l : List Q0, (l.flatMap fun x => [Q0.mk 4 c 0 0 0 (front ++ x :: as')]).length = l.length := fun l => by induction l with | nil => rfl | cons a l ih => simp [ih]
    rw [this]; omega)
  have hfl : ∀ l : List Q0, (l.flatMap fun x => [Q0.mk 4 c 0 0 0 (front ++ x :: as')]) = l.map fun x => Q0.mk 4 c 0 0 0 (front ++ x :: as') := fun l => by induction l with | nil => rfl | cons a l ih => simp [ih]
  rw [hfl] at hin
  rw [hin]
  simp only [Option.bind_some, m2]
  cases hm : fj a b with
  | none =>
   simp only [Z0q, Bool.not_false, if_true]
   refine ⟨front, ?_⟩
   simp only [kmD, hm, List.append_nil, List.map_map]
   rfl
  | some m =>
   simp only [Z0q, Bool.not_true, Bool.false_eq_true, if_false]
   rw [V4 (by simp only [List.length_cons, List.length_nil, Q8]; omega)]
   simp only [Option.bind_some]
   rw [hm] at hs
   simp only [List.length_map] at hs
   obtain ⟨fr, e⟩ := ih (k + 1) (out ++ (fm u a b).map fun x => Q0.mk 4 c 0 0 0 (front ++ x :: as')) (front ++ [m]) as' bs' u2 a2 b2 (by simp; omega) (by simp only [List.length_append, List.length_map]; omega) rfl
   refine ⟨fr, ?_⟩
   rw [e]
   simp only [kmD, hm, List.map_append, List.map_map, List.append_assoc]
   congr 5
theorem Z40 {w : List Q3} (hw : WW w) (he : WE w) (S : List Int) : ∀ (d n x : Nat) (t : Q2) (a b : Q0), t ∈ tys w → Z3 w x t a → Z3 w d t b → cntP b ≤ 10000 → 2 * d + 5 ≤ n → X3 n ⟨w, S⟩ t a b = some (X5 w d t a b)
 | 0, _, _, _, _, _, _, _, h, _, _ => h.elim
 | d + 1, n, x, t, a, b, ht, ha, hb, hcnt, hn => by
  obtain ⟨n, rfl⟩ : ∃ m, n = m + 1 := ⟨n - 1, by omega⟩
  have i11 : ieq 1 1 = true := rfl
  have i31 : ieq 3 1 = false := rfl
  have i33 : ieq 3 3 = true := rfl
  have i41 : ieq 4 1 = false := rfl
  have i43 : ieq 4 3 = false := rfl
  have e31 : ¬ (3 : Int) = 1 := by decide
  have e41 : ¬ (4 : Int) = 1 := by decide
  have e43 : ¬ (4 : Int) = 3 := by decide
  obtain ⟨x, rfl, ha'⟩ := Q9p ha
  have hb0 := hb
  rcases hb with rfl | ⟨n2, m2, rfl, hd', g0, g1, g2⟩ | ⟨c', ks', rfl, hd', hc', hl', hk'⟩
  ·simp [X3, X5, i11]
  ·have hrg : ∀ n1 m1 : Int, 0 ≤ n1 → m1 ≤ 9 → Q21 n [n1, imin m1 (wsub .i64 n2 1), imax n1 (wadd .i64 m2 1), m1] = some (Z0n n1 m1 n2 m2) := fun n1 m1 h0 h9 => by
    rw [W97 (by omega), W80, W81, Q4c (by omega) (by omega), Q0p (by omega) (by omega)]
    rfl
   rcases ha' with rfl | ⟨n1, m1, rfl, hd, h0, _, h9⟩ | ⟨c, ks, rfl, hd, _⟩
   ·simp only [X3, X5, i31, i33, e31, Bool.false_eq_true, if_false, if_true, Z88, Option.bind_some]
    rw [hrg 0 9 (by omega) (by omega)]
    rfl
   ·simp only [X3, X5, i31, i33, e31, Bool.false_eq_true, if_false, if_true, Z88, Option.bind_some]
    rw [hrg n1 m1 h0 h9]
    rfl
   ·exact absurd hd' hd
  ·have hcn : cntP (Q0.mk 4 c' 0 0 0 ks') = 1 + cntP.cntPs ks' := Q2g _
   have hkc : ∀ q ∈ ks', cntP q ≤ 10000 := fun q hq => by
    have := Q6n (p := Q0.mk 4 c' 0 0 0 ks') (List.mem_iff_getElem?.1 hq).choose_spec
    omega
   have hA : ∀ (N : Nat) (c : Int) (ks : List Q0) (y : Nat), 2 * d + 5 ≤ N → c ∈ Z7 w t → ks.length = (Z5 w t c).length → (∀ (j : Nat) (a : Q2) (q : Q0), (Z5 w t c)[j]? = some a → ks[j]? = some q → Z3 w y a q) →
     X3 (N + 1) ⟨w, S⟩ t (Q0.mk 4 c 0 0 0 ks) (Q0.mk 4 c' 0 0 0 ks') = some (cmD w (X5 w d) (W3 d) t (Q0.mk 4 c 0 0 0 ks) (Q0.mk 4 c' 0 0 0 ks')) := fun N c ks y hN hc hl hk => by
    simp only [X3, i41, i43, Bool.false_eq_true, if_false, cmD]
    by_cases hcc : c = c'
    ·subst hcc
     have ec : (!ieq c c) = false := by simp [ieq]
     simp only [ec, Bool.false_eq_true, if_false, if_true]
     rw [(hw.ty t ht).a2 c hc]
     simp only [Option.bind_some]
     have hlen : (kmD (X5 w d) (W3 d) (Z5 w t c) ks ks').length ≤ 3 * cntP.cntPs ks' :=
      X65 (Z5 w t c) ks ks' fun j u p q h1 h2 => Q79 hw he d u p q ((hw.ty t ht).at_ _ hc u (List.mem_of_getElem? h1)) (hk' j u q h1 h2)
     obtain ⟨fr, e⟩ := W1q (w := w) (S := S) (n := N) (c0 := 0) (c := c) (fm := X5 w d) (fj := W3 d) hl hl' ((hw.ty t ht).al c hc) (fun k u p q h1 h2 h3 =>
      have hu := (hw.ty t ht).at_ _ hc u (List.mem_of_getElem? h1)
      ⟨Z40 hw he S d N y u p q hu (hk k u p h1 h2) (hk' k u q h1 h3) (hkc q (List.mem_of_getElem? h3)) (by omega), Z1e hw S d N y u p q hu (hk k u p h1 h2) (hk' k u q h1 h3) (by omega)⟩)
      (Z5 w t c) 0 [] [] ks ks' rfl rfl rfl rfl (by simp only [List.length_nil]; omega) rfl
     have e' := congrArg (fun z : Option (Ctl (List Q0) ((List Q0) × (List Q0))) => z.bind fun o => match o with | .ret r => some r | .go _ => none | .brk s => some s.1) e
     exact e'.trans (by simp)
    ·have ec : (!ieq c c') = true := by simp [ieq, hcc]
     simp [ec, hcc]
   rcases ha' with rfl | ⟨n1, m1, rfl, hd, _⟩ | ⟨c, ks, rfl, hd, hc, hl, hk⟩
   ·simp only [X3, X5, i11, i41, i43, e41, e43, Bool.false_eq_true, if_false, if_true]
    rw [(hw.ty t ht).c2]
    simp only [Option.bind_some]
    obtain ⟨N, rfl⟩ : ∃ m, n = m + 1 := ⟨n - 1, by omega⟩
    have hlen := Q79 hw he (d + 1) t (Q0.mk 1 0 0 0 0 []) (Q0.mk 4 c' 0 0 0 ks') ht hb0
    simp only [X5, e41, e43, if_false, if_true] at hlen
    rw [Q3x (fun c => cmD w (X5 w d) (W3 d) t (Q4x w t c) (Q0.mk 4 c' 0 0 0 ks')) 1000000 (Z7 w t) 0 [] (fun k c hc s hs => by
     rw [W4e hw S ht hc]
     simp only [Option.bind_some]
     rw [Q4x, hA N c _ 1 (by omega) hc (by simp) (fun j a q ha hq => by
      rw [List.getElem?_map, ha] at hq
      cases hq
      exact Q8q w 0 a)]
     simp only [Option.bind_some]
     rw [V4 (by simp only [Q8]; simp only [Q4x] at hs; omega)]
     rfl) (by simp only [List.length_nil]; omega)]
    simp
   ·exact absurd hd hd'
   ·rw [hA n c ks x (by omega) hc hl hk]
    simp [X5]
end Go.Proofs.YtnackipaoepmfaaGreat
namespace Go.Proofs.YtnackipaoepmfaaGreat
open Go Go.RowKit
theorem V4g {α : Type} {xs : List α} {i : Int} {x : α} (h0 : 0 ≤ i) (h : i < xs.length) : setI xs i x = some (xs.set i.toNat x) := by
 unfold setI
 rw [if_pos ⟨h0, by omega⟩]
theorem W8v {α : Type} {xs : List α} {i : Nat} (h : i ≤ xs.length) : Q7k xs (i : Int) = some (xs.take i) := by
 unfold Q7k
 rw [if_pos ⟨by omega, by omega⟩]
 rfl
theorem X1o (f : Q0 → Option Bool) (g : Q0 → Bool) : ∀ (l : List Q0) (k : Nat), (∀ x ∈ l, f x = some (g x)) → ∃ i : Nat,
  (forL (ρ := Int) (fun k70 x71 (_ : Unit) => ((f x71).bind fun r78 => (if r78 = true then some (Ctl.ret ((k70 : Int))) else some (Ctl.go ())))) k l () = some (.ret ((k + i : Nat) : Int)) ∧ (∃ x, l[i]? = some x ∧ g x = true) ∧ ∀ x ∈ l.take i, g x = false) ∨
  (forL (ρ := Int) (fun k70 x71 (_ : Unit) => ((f x71).bind fun r78 => (if r78 = true then some (Ctl.ret ((k70 : Int))) else some (Ctl.go ())))) k l () = some (.brk ()) ∧ ∀ x ∈ l, g x = false)
 | [], k, _ => ⟨0, .inr ⟨rfl, fun x hx => by simp at hx⟩⟩
 | x :: l, k, h => by
  unfold forL
  rw [h x (by simp)]
  simp only [Option.bind_some]
  cases hg : g x with
  | true => exact ⟨0, .inl ⟨by simp, ⟨x, rfl, hg⟩, by simp⟩⟩
  | false =>
   simp only [Bool.false_eq_true, if_false]
   obtain ⟨i, hi⟩ := X1o f g l (k + 1) fun y hy => h y (by simp [hy])
   rcases hi with ⟨e, ⟨y, hy, gy⟩, hn⟩ | ⟨e, hn⟩
   ·refine ⟨i + 1, .inl ⟨by rw [e]; congr 3; omega, ⟨y, by simpa using hy, gy⟩, fun z hz => ?_⟩⟩
    simp only [List.take_succ_cons, List.mem_cons] at hz
    rcases hz with rfl | hz
    ·exact hg
    ·exact hn z hz
   ·exact ⟨0, .inr ⟨e, fun z hz => by
     rcases List.mem_cons.1 hz with rfl | hz
     ·exact hg
     ·exact hn z hz⟩⟩
theorem X9e {n : Nat} {l : List Q0} (f : Q0 → Option Bool) (g : Q0 → Bool) (hf : ∀ x ∈ l, f x = some (g x)) (hl : l.length ≤ 10000000) (hn : l.length + 5 ≤ n) : Y8 n l f = some (l.filter fun x => !g x) := by
 suffices hs : Ret (Y8 n l f) (fun r => r = l.filter fun x => !g x) by
  obtain ⟨a, e, rfl⟩ := hs
  exact e
 unfold Y8
 have hix : ∃ r, J3 l f = some r ∧ ((∃ i : Nat, r = (i : Int) ∧ (∃ x, l[i]? = some x ∧ g x = true) ∧ ∀ x ∈ l.take i, g x = false) ∨ (r = -1 ∧ ∀ x ∈ l, g x = false)) := by
  obtain ⟨i, h⟩ := X1o f g l 0 hf
  unfold J3
  rcases h with ⟨e, h1, h2⟩ | ⟨e, h1⟩
  ·have e' := congrArg (fun z : Option (Ctl Int Unit) => z.bind fun o => match o with | .ret r => some r | .go _ => none | .brk _ => some (-1)) e
   exact ⟨_, e', .inl ⟨i, by simp, h1, h2⟩⟩
  ·have e' := congrArg (fun z : Option (Ctl Int Unit) => z.bind fun o => match o with | .ret r => some r | .go _ => none | .brk _ => some (-1)) e
   exact ⟨_, e', .inr ⟨rfl, h1⟩⟩
 obtain ⟨r, e, hr⟩ := hix
 rw [e]
 simp only [Option.bind_some]
 rcases hr with ⟨i0, rfl, ⟨x0, hx0, g0⟩, hn0⟩ | ⟨rfl, hno⟩
 ·have e1 : ieq (i0 : Int) (-1) = false := by rw [X8]; omega
  have hi0 := (List.getElem?_eq_some_iff.1 hx0).1
  simp only [e1, Bool.false_eq_true, if_false]
  rw [Q0p (by omega) (by omega)]
  refine Ret.ctl (Q5b (fun s => ∃ i j : Nat, s.2.1 = (i : Int) ∧ s.2.2 = (j : Int) ∧ i ≤ j ∧ j ≤ l.length ∧ s.1.length = l.length ∧ s.1.take i = (l.take j).filter (fun x => !g x) ∧ (∀ m, j ≤ m → s.1[m]? = l[m]?) ∧ i < l.length) (fun s => l.length - s.2.2.toNat) (fun _ => False) (fun s => ∃ i : Nat, s.2.1 = (i : Int) ∧ i ≤ s.1.length ∧ s.1.take i = l.filter (fun x => !g x)) ?_ (fun s hI => ?_) n (by simp; omega)) (fun r hr => hr.elim) (fun s hs => ?_)
  ·refine ⟨i0, i0 + 1, rfl, by simp, by omega, by omega, rfl, ?_, fun m _ => rfl, hi0⟩
   have h1 : (l.take i0).filter (fun x => !g x) = l.take i0 := List.filter_eq_self.2 fun x hx => by simp [hn0 x hx]
   rw [List.take_add_one, hx0, List.filter_append, h1]
   simp [g0]
  ·obtain ⟨i, j, e1, e2, h1, h2, h4, h5, h6, h7⟩ := hI
   obtain ⟨m, wi, rj⟩ := s
   simp only at e1 e2 h4 h5 h6
   subst e1 e2
   dsimp only
   rw [h4]
   by_cases hj : j < l.length
   ·have e : ilt (j : Int) (lenZ l.length) = true := by rw [W0, Q1m]; omega
    simp only [e, if_true]
    obtain ⟨x, hx⟩ : ∃ x, l[j]? = some x := ⟨_, List.getElem?_eq_getElem hj⟩
    rw [Q12 (by rw [h6 j (Nat.le_refl _)]; exact hx)]
    simp only [Option.bind_some]
    rw [hf x (List.mem_of_getElem? hx)]
    simp only [Option.bind_some]
    have hstep : (l.take (j + 1)).filter (fun x => !g x) = (l.take j).filter (fun x => !g x) ++ (if g x = true then [] else [x]) := by
     rw [List.take_add_one, hx, List.filter_append]
     cases hc : g x <;> simp [hc]
    rw [Q0p (a := (j : Int)) (by omega) (by omega)]
    cases hc : g x with
    | true =>
     simp only [Bool.not_true, Bool.false_eq_true, if_false, Option.bind_some]
     refine .some ⟨⟨i, j + 1, rfl, by simp, by omega, by omega, h4, ?_, fun m hm => h6 m (by omega), h7⟩, by simp only; omega⟩
     rw [hstep, if_pos hc, h5]; simp
    | false =>
     simp only [Bool.not_false, if_true]
     obtain ⟨y, hy⟩ : ∃ y, m[i]? = some y := ⟨_, List.getElem?_eq_getElem (by omega)⟩
     rw [Q12 hy]
     simp only [Option.bind_some]
     rw [V4g (by omega) (by omega), Q0p (by omega) (by omega)]
     simp only [Option.bind_some]
     have hfl := List.length_filter_le (fun x => !g x) (l.take j)
     have hil : i + 1 ≤ l.length := by omega
     by_cases hi1 : i + 1 < l.length
     ·refine .some ⟨⟨i + 1, j + 1, by simp, by simp, by omega, by omega, by simp [h4], ?_, fun m' hm => ?_, hi1⟩, by simp only; omega⟩
      ·simp only
       rw [hstep, if_neg (by rw [hc]; simp), ← h5, List.take_add_one, List.take_set_of_le (by simp)]
       simp [show i < m.length by omega]
      ·simp only
       rw [List.getElem?_set_ne (by simp; omega)]
       exact h6 m' (by omega)
     ·exfalso
      have hij : i = j := by omega
      have hk : ((l.take j).filter fun x => !g x).length = i := by rw [← h5]; simp; omega
      have hall : (l.take j).filter (fun x => !g x) = l.take j := (List.filter_sublist).eq_of_length (by rw [hk]; simp; omega)
      have hj0 : i0 < j ∨ i0 = j := by omega
      rcases hj0 with hj0 | hj0
      ·have hm : x0 ∈ l.take j := List.mem_of_getElem? (i := i0) (by rw [List.getElem?_take_of_lt hj0]; exact hx0)
       rw [← hall] at hm
       have := (List.mem_filter.1 hm).2
       simp [g0] at this
      ·subst hj0
       rw [hx] at hx0
       cases hx0
       rw [hc] at g0
       cases g0
   ·have e : ilt (j : Int) (lenZ l.length) = false := by rw [Q06, Q1m]; omega
    simp only [e, Bool.false_eq_true, if_false]
    refine .some ⟨i, rfl, by simp only; omega, ?_⟩
    simp only
    rw [h5, show j = l.length by omega, List.take_length]
  ·obtain ⟨i, e1, h1, h2⟩ := hs
   dsimp only
   rw [e1, W8v h1]
   exact .some h2
 ·have e1 : ieq (-1) (-1) = true := rfl
  simp only [e1, if_true]
  exact .some (List.filter_eq_self.2 fun x hx => by simp [hno x hx]).symm
theorem W34 {l : List Q0} (h : l.length ≤ 10000000) : Y0 l = some l := by
 unfold Y0
 rw [V4 (by simp [Q8]; omega)]
 rfl
def chkF (w : List Q3) : Bool := (tys w).all fun t => decide (Q10 (dimP w) t = some (depP w t))
theorem X9j : Q15.all chkF = true := by kernel_rfl
theorem V0a {w : List Q3} (h : w ∈ Q15) {t : Q2} (ht : t ∈ tys w) : Q10 (dimP w) t = some (depP w t) := by
 have := List.all_eq_true.1 X9j w h
 simp only [chkF, List.all_eq_true, decide_eq_true_eq] at this
 exact this t ht
theorem W1b {w : List Q3} {d : Nat} {t : Q2} {p : Q0} (h : Z3 w d t p) : Q6e w t p = true ∧ Y5 w t p = (if p.op = 4 then Z5 w t p.ctor else []) := by
 obtain ⟨e, rfl, h⟩ := Q9p h
 rcases h with rfl | ⟨n, m, rfl, hd, h0, h1, h2⟩ | ⟨c, ks, rfl, hd, hc, hl, hk⟩
 ·simp [Q6e, Q9b, Y5]
 ·simp [Q6e, Q9b, Y5, hd, h0, h1, h2]
 ·simp [Q6e, Q9b, Y5, hc, hl]
theorem Z98 {w : List Q3} (hw : WW w) {d : Nat} {t : Q2} {p : Q0} (ht : t ∈ tys w) (h : Z3 w d t p) : Q4g w t p = some (if p.op = 4 then Z5 w t p.ctor else []) := by
 obtain ⟨h1, h2⟩ := W1b h
 obtain ⟨ts, e1, e2⟩ := X5o (hw.ty t ht) p
 unfold Q4g
 rw [e1]
 simp only [Option.bind_some]
 rw [e2 h1, h2]
theorem Z41 {w : List Q3} (hww : w ∈ Q15) (hw : WW w) : ∀ (d n : Nat) (t : Q2) (p : Q0), t ∈ tys w → Z3 w d t p → d + 1 ≤ n → V8 n ⟨w, dimP w⟩ t p = some (W7 w d t p)
 | 0, _, _, _, _, h, _ => h.elim
 | d + 1, n, t, p, ht, hp, hn => by
  obtain ⟨n, rfl⟩ : ∃ m, n = m + 1 := ⟨n - 1, by omega⟩
  have hkt := Z98 hw ht hp
  have i11 : ieq 1 1 = true := rfl
  have i31 : ieq 3 1 = false := rfl
  have i32 : ieq 3 2 = false := rfl
  have i35 : ieq 3 5 = false := rfl
  have i41 : ieq 4 1 = false := rfl
  have i42 : ieq 4 2 = false := rfl
  have i45 : ieq 4 5 = false := rfl
  have e31 : ¬ (3 : Int) = 1 := by decide
  have e34 : ¬ (3 : Int) = 4 := by decide
  have e41 : ¬ (4 : Int) = 1 := by decide
  rcases hp with rfl | ⟨n1, m1, rfl, hd, _⟩ | ⟨c, ks, rfl, hd, hc, hl, hk⟩
  ·simp only [V8, i11, if_true, Option.bind_some, V0a hww ht, W7]
   rfl
  ·simp only [V8, i31, i32, i35, Bool.false_eq_true, if_false, Option.bind_some, W7, e31, e34]
   rw [hkt]
   simp [e34, forL]
  ·simp only [V8, i41, i42, i45, Bool.false_eq_true, if_false, Option.bind_some, W7, e41, if_true]
   rw [hkt]
   simp only [if_true, Option.bind_some]
   have hlp : ∀ (ts : List Q2) (k : Nat) (ks' : List Q0), (Z5 w t c).drop k = ts → ks.drop k = ks' →
     forL (ρ := Bool) (fun k133 x134 (_ : Unit) => ((idx ks (k133 : Int)).bind fun x142 => ((V8 n ⟨w, dimP w⟩ x134 x142).bind fun r143 => (if r143 = true then some (Ctl.ret (true)) else some (Ctl.go ()))))) k ts () = some (if ((ts.zip ks').any fun x => W7 w d x.1 x.2) = true then .ret true else .brk ()) := by
    intro ts
    induction ts with
    | nil => intro k ks' _ _; simp [forL]
    | cons u ts ih =>
     intro k ks' h0 h1
     obtain ⟨u1, u2⟩ := Q3u h0
     have hkl := (List.getElem?_eq_some_iff.1 u1).1
     cases ks' with
     | nil => have := congrArg List.length h1; simp at this; omega
     | cons q ks' =>
     obtain ⟨q1, q2⟩ := Q3u h1
     unfold forL
     simp only [Q12 q1, Option.bind_some]
     rw [Z41 hww hw d n u q ((hw.ty t ht).at_ _ hc u (List.mem_of_getElem? u1)) (hk k u q u1 q1) (by omega)]
     simp only [Option.bind_some, List.zip_cons_cons, List.any_cons]
     rcases Bool.eq_false_or_eq_true (W7 w d u q) with hem | hem
     ·simp [hem]
     ·simp only [hem, Bool.false_eq_true, if_false, Bool.false_or]
      exact ih (k + 1) ks' u2 q2
   have e := hlp (Z5 w t c) 0 ks rfl rfl
   have e' := congrArg (fun z : Option (Ctl Bool Unit) => z.bind fun o => match o with | .ret r => some r | .go _ => none | .brk _ => some false) e
   refine e'.trans ?_
   cases ((Z5 w t c).zip ks).any fun x => W7 w d x.1 x.2 <;> simp
theorem Z2g {w : List Q3} (hww : w ∈ Q15) (hw : WW w) {d n : Nat} {t : Q2} (ht : t ∈ tys w) {l : List Q0} (h : ∀ a ∈ l, Z3 w d t a) (hl : l.length ≤ 10000000) (hn : l.length + d + 5 ≤ n) : Q0a n ⟨w, dimP w⟩ t l = some (Q62 w d t l) := by
 unfold Q0a
 rw [W34 hl]
 simp only [Option.bind_some]
 rw [X9e _ (fun p => W7 w d t p) (fun x hx => by
  unfold Q2j
  rw [Z41 hww hw d n t x ht (h x hx) (by omega)]
  rfl) hl (by omega)]
 rfl
end Go.Proofs.YtnackipaoepmfaaGreat
namespace Go.Proofs.YtnackipaoepmfaaGreat
open Go Go.RowKit
def optR : Option (List Q0) → List Q0 × Bool
 | some r => (r, true)
 | none => ([], false)
theorem Z99 (w : List Q3) (x : Nat) (t : Q2) (l : List Q0) : (Q62 w x t l).length ≤ l.length := List.length_filter_le _ _
theorem Z7d {w : List Q3} (hww : w ∈ Q15) (hw : WW w) (he : WE w) {d x n : Nat} {t : Q2} (ht : t ∈ tys w) (hx : d + 1 ≤ x) (hx2 : x ≤ 100) {l bs : List Q0} (hb : ∀ b ∈ bs, Z3 w d t b ∧ cntP b ≤ 130) (h : ∀ a ∈ l, Z3 w x t a) (hl : l.length ≤ 20000) (hn : 20000000 ≤ n) :
  Q1k n ⟨w, dimP w⟩ t l bs = some (optR (Q3c w d x t l bs)) := by
 unfold Q1k Q3c
 rw [Z2g hww hw ht h (by omega) (by omega)]
 simp only [Option.bind_some]
 have hk := Z99 w x t l
 have hkp : ∀ a ∈ Q62 w x t l, Z3 w x t a := fun a ha => h a (List.mem_filter.1 ha).1
 generalize Q62 w x t l = s at hk hkp
 have hs : s.length ≤ 20000 := by omega
 clear hk h hl
 have hlp : ∀ (bs : List Q0) (k : Nat) (s : List Q0), (∀ b ∈ bs, Z3 w d t b ∧ cntP b ≤ 130) → (∀ a ∈ s, Z3 w x t a) → s.length ≤ 20000 →
   forL (fun k871 x872 (s865 : (List Q0)) =>
   ((forL (fun k1028 x1029 (s1022 : (List Q0)) =>
   ((X3 n ⟨w, dimP w⟩ t x1029 x872).bind fun r1036 =>
   ((app s1022 r1036).bind fun x1037 =>
   some (Ctl.go x1037)))) 0 s865 []).bind fun (o1021 : Ctl (Ctl ((List Q0) × Bool) ((List Q0))) ((List Q0))) => match o1021 with
   | .ret r => some r
   | .go _ => none
   | .brk s1032 =>
   ((Q0a n ⟨w, dimP w⟩ t s1032).bind fun r1039 =>
   (if (ilt 400 (lenZ r1039.length)) = true then
   some (Ctl.ret (([], false)))
   else
   some (Ctl.go r1039))))) k bs s = some (match Q57 w d x t s bs with | some r => .brk r | none => .ret ([], false)) := by
  intro bs
  induction bs with
  | nil => intro k s _ _ _; simp [forL, Q57]
  | cons b bs ih =>
   intro k s hb hs hl
   obtain ⟨hb1, hb2⟩ := hb b (by simp)
   have hfl := X0o hw he ht hb1 s
   have hfl2 : (s.flatMap fun a => X5 w d t a b).length ≤ 7800000 := by
    have : s.length * (3 * cntP b) ≤ 20000 * 390 := Nat.mul_le_mul (by omega) (by omega)
    omega
   unfold forL
   rw [Q3x (fun a => X5 w d t a b) 10000000 s 0 [] (fun k a ha s' hs' => by
    rw [Z40 hw he (dimP w) d n x t a b ht (hs a ha) hb1 (by omega) (by omega)]
    simp only [Option.bind_some]
    rw [V4 (by simp only [Q8]; omega)]
    rfl) (by simp only [List.length_nil]; omega)]
   simp only [Option.bind_some, List.nil_append]
   have hmp : ∀ y ∈ s.flatMap (fun a => X5 w d t a b), Z3 w x t y := fun y hy => by
    obtain ⟨a, ha, hy⟩ := List.mem_flatMap.1 hy
    exact Q6y d x t a b hx (hs a ha) hb1 y hy
   rw [Z2g hww hw ht hmp (by omega) (by omega)]
   simp only [Option.bind_some, Q57]
   have hst : Q62 w x t (s.flatMap fun a => X5 w d t a b) = Q2k w d x t s b := rfl
   rw [hst]
   by_cases hc : 400 < (Q2k w d x t s b).length
   ·have e : ilt 400 (lenZ (Q2k w d x t s b).length) = true := by rw [W0, Q1m]; omega
    simp only [e, if_true, if_pos hc]
   ·have e : ilt 400 (lenZ (Q2k w d x t s b).length) = false := by rw [Q06, Q1m]; omega
    simp only [e, Bool.false_eq_true, if_false, if_neg hc]
    exact ih (k + 1) _ (fun b hb' => hb b (by simp [hb'])) (Q72 hx hb1 hs) (by omega)
 have e := hlp bs 0 s hb hkp hs
 have e' := congrArg (fun z : Option (Ctl ((List Q0) × Bool) (List Q0)) => z.bind fun o => match o with | .ret r => some r | .go _ => none | .brk s => some (s, true)) e
 refine e'.trans ?_
 cases Q57 w d x t s bs <;> simp [optR]
theorem W3c : ∀ (d n : Nat) (p : Q0), Z7r d p → d ≤ n → cntP p ≤ 1000 → V6 n p = some (X1 d p)
 | 0, _, _, h, _, _ => h.elim
 | d + 1, n, p, h, hn, hc => by
  obtain ⟨n, rfl⟩ : ∃ m, n = m + 1 := ⟨n - 1, by omega⟩
  have hcp := Q2g p
  have hkid : ∀ q ∈ p.kids, V6 n q = some (X1 d q) := fun q hq => by
   obtain ⟨j, hj⟩ := List.mem_iff_getElem?.1 hq
   have := Q6n hj
   exact W3c d n q (h q hq) (by omega) (by omega)
  have hlen : p.kids.length ≤ 1000 := by
   have : ∀ l : List Q0, l.length ≤ cntP.cntPs l := fun l => by
    induction l with
    | nil => simp
    | cons a l ih => have := Q7u a; simp only [List.length_cons, cntP.cntPs]; omega
   have := this p.kids
   omega
  have hloop := Q3x (ρ := Q0) (f := fun (k102 : Nat) x103 (s96 : (List Q0)) => ((V6 n x103).bind fun r110 => ((app s96 [r110]).bind fun x111 => some (Ctl.go x111)))) (fun q => [X1 d q]) 100000 p.kids 0 [] (fun k q hq s hs => by
   rw [hkid q hq]
   simp only [Option.bind_some]
   simp only [List.length_cons, List.length_nil] at hs
   rw [V4 (by simp only [List.length_cons, List.length_nil, Q8]; omega)]
   rfl) (by
    have : ∀ l : List Q0, (l.flatMap fun q => [X1 d q]).length = l.length := fun l => by induction l with | nil => rfl | cons a l ih => simp [ih]
    rw [this]; simp only [List.length_nil]; omega)
  have hfl : ∀ l : List Q0, (l.flatMap fun q => [X1 d q]) = l.map (X1 d) := fun l => by induction l with | nil => rfl | cons a l ih => simp [ih]
  rw [hfl] at hloop
  have hany : Q27 = some (Q0.mk 1 0 0 0 0 []) := rfl
  by_cases h2 : p.op = 2
  ·have e : ieq p.op 2 = true := by rw [W5]; exact h2
   have hb : X1 (d + 1) p = Q0.mk 1 0 0 0 0 [] := by simp [X1, h2]
   rw [hb]
   simp only [V6, e, if_true, hany, Option.bind_some]
  ·have e : ieq p.op 2 = false := by rw [X8]; exact h2
   by_cases h6 : p.op = 6
   ·have e6 : ieq p.op 6 = true := by rw [W5]; exact h6
    cases hk : p.kids with
    | nil =>
     have e0 : ilt 0 (lenZ p.kids.length) = false := by rw [Q06, hk, Q1m]; simp
     rw [hk] at hloop
     simp only [V6, e, e6, e0, Bool.false_eq_true, if_false, if_true, Option.bind_some, X1, h2, hk]
     have e' := congrArg (fun z : Option (Ctl Q0 (List Q0)) => z.bind fun o => match o with | .ret r => some r | .go _ => none | .brk s => some (Q0.mk p.op p.ctor p.n p.m p.var s)) hloop
     refine e'.trans ?_
     simp
    | cons q ks =>
     have e0 : ilt 0 (lenZ p.kids.length) = true := by rw [W0, hk, Q1m]; simp
     have hq := hkid q (by simp [hk])
     have hix : idx p.kids 0 = some q := Q12 (i := 0) (by simp [hk])
     have hb : X1 (d + 1) p = X1 d q := by simp [X1, h6, hk]
     rw [hb]
     simp only [V6, e, e6, e0, Bool.false_eq_true, if_false, if_true, hix, Option.bind_some, hq]
   ·have e6 : ieq p.op 6 = false := by rw [X8]; exact h6
    simp only [V6, e, e6, Bool.false_eq_true, if_false, Option.bind_some, X1, h2, h6, false_and]
    have e' := congrArg (fun z : Option (Ctl Q0 (List Q0)) => z.bind fun o => match o with | .ret r => some r | .go _ => none | .brk s => some (Q0.mk p.op p.ctor p.n p.m p.var s)) hloop
    refine e'.trans ?_
    simp
theorem Z2u {w : List Q3} (hw : WW w) : ∀ (d : Nat) (t : Q2) (p : Q0), t ∈ tys w → altD w d t p → orOk d p
 | 0, _, _, _, h => h.elim
 | d + 1, t, p, ht, h => by
  rcases h with rfl | ⟨n, m, rfl, h⟩ | ⟨c, ks, rfl, h1, h2, h3, h4⟩ | ⟨a, b, rfl, h1, h2⟩
  ·exact ⟨by simp, by simp, by simp⟩
  ·exact ⟨by simp, by simp, by simp⟩
  ·refine ⟨by simp only; rw [h3]; exact (hw.ty t ht).al c h2, by simp, fun q hq => ?_⟩
   obtain ⟨j, hj⟩ := List.mem_iff_getElem?.1 hq
   obtain ⟨a, ha⟩ := Q0x h3.symm (List.getElem?_eq_some_iff.1 hj).1
   exact Z2u hw d a q ((hw.ty t ht).at_ _ h2 a (List.mem_of_getElem? ha)) (h4 j a q ha hj)
  ·refine ⟨by simp, by simp, fun q hq => ?_⟩
   simp at hq
   rcases hq with rfl | rfl
   ·exact Z2u hw d t _ ht h1
   ·exact Z2u hw d t _ ht h2
theorem Q89 {w : List Q3} (t : Q2) (h : t.data = -1) : Z7 w t = [] := by
 unfold Z7 Q0d
 have : ieq t.data (-1) = true := by rw [W5]; exact h
 rw [if_pos this]
 rfl
def Q3v (p : Q0) : Option (List Q0) := if 40 < (Z0 10 (X1 10 p)).length then none else some (Z0 10 (X1 10 p))
theorem Z3z {w : List Q3} (hw : WW w) {n : Nat} {t : Q2} {p : Q0} (ht : t ∈ tys w) (g : Q13 w 10 t p = true) (hc : cntP p ≤ 1000) (hn : 100 ≤ n) : Q5l n p = some (optR (Q3v p)) := by
 have ha := Q6c Q89 10 t p g
 have ho := Z2u hw 10 t _ ht ha
 unfold Q5l Q3v
 rw [W3c 10 n p (Q7f 10 t p g) (by omega) hc]
 simp only [Option.bind_some]
 rw [Z9s 10 n _ ho (by omega)]
 simp only [Option.bind_some]
 by_cases h : 40 < (Z0 10 (X1 10 p)).length
 ·have e : ilt 40 ((min (Z0 10 (X1 10 p)).length 401 : Nat) : Int) = true := by rw [W0]; omega
  simp only [e, if_true, if_pos h]
  rfl
 ·have e : ilt 40 ((min (Z0 10 (X1 10 p)).length 401 : Nat) : Int) = false := by rw [Q06]; omega
  simp only [e, Bool.false_eq_true, if_false, if_neg h]
  rw [X1q 10 n _ ho (by omega) (by omega)]
  rfl
end Go.Proofs.YtnackipaoepmfaaGreat
namespace Go.Proofs.YtnackipaoepmfaaGreat
open Go Go.RowKit
theorem Z3k (l : List Q0) (f : Q0 → Option Bool) (g : Q0 → Bool) (hf : ∀ x ∈ l, f x = some (g x)) : Q0j l f = some (l.any g) := X2u (Q70 l f g hf)
end Go.Proofs.YtnackipaoepmfaaGreat
namespace Go.Proofs.YtnackipaoepmfaaGreat
open Go Go.RowKit
theorem Q78 {p : Q0} {l : List Q0} (h : Q3v p = some l) : l.length ≤ 40 ∧ l = Z0 10 (X1 10 p) := by
 unfold Q3v at h
 split at h
 ·cases h
 ·cases h; exact ⟨by omega, rfl⟩
theorem Q8p {w : List Q3} (hw : WW w) {n : Nat} (hn : 100 ≤ n) {t : Q2} (ht : t ∈ tys w) (p : Q0) : Q1w n w t p = some (Y9 w t p) := by
 unfold Q1w
 obtain ⟨r, e, h1, _⟩ := Z10 hw hn t p ht
 rw [e]
 simp only [Option.bind_some, h1]
theorem X81 {w : List Q3} {t : Q2} {n : Nat} (hn : 10 ≤ n) : ∀ {l : List Q0}, (∀ p ∈ l, Y9 w t p = true) → l.length ≤ 100000 → Q2w n l = some l := fun {l} h hl => by
 unfold Q2w
 have hloop := Q3x (ρ := List Q0) (f := fun (k70 : Nat) x71 (s64 : (List Q0)) => ((Q08 n x71).bind fun r78 => ((app s64 [r78]).bind fun x79 => some (Ctl.go x79)))) (fun q => [q]) 1000000 l 0 [] (fun k q hq s hs => by
  obtain ⟨g, hc, _⟩ := J2 (h q hq)
  rw [Z8i 10 n q (Q7f 10 t q g) hn (by omega)]
  simp only [Option.bind_some]
  simp only [List.length_cons, List.length_nil] at hs
  rw [V4 (by simp only [List.length_cons, List.length_nil, Q8]; omega)]
  rfl) (by
   have : ∀ l : List Q0, (l.flatMap fun q => [q]).length = l.length := fun l => by induction l with | nil => rfl | cons a l ih => simp [ih]
   rw [this]; simp only [List.length_nil]; omega)
 have hfl : ∀ l : List Q0, (l.flatMap fun q => [q]) = l := fun l => by induction l with | nil => rfl | cons a l ih => simp [ih]
 rw [hfl] at hloop
 have e' := congrArg (fun z : Option (Ctl (List Q0) (List Q0)) => z.bind fun o => match o with | .ret r => some r | .go _ => none | .brk s => some s) hloop
 exact e'.trans (by simp)
def Z0y (w : List Q3) (t : Q2) : Option (List Q0) → Option (List Q0)
 | none => none
 | some l => if l.all (Y9 w t) = true then some l else none
theorem Z9b {w : List Q3} (hw : WW w) {S : List Int} {n : Nat} (hn : 100 ≤ n) {t : Q2} (ht : t ∈ tys w) (o : Option (List Q0)) (ho : ∀ l, o = some l → l.length ≤ 100000) :
  Q1x n ⟨w, S⟩ t (optR o).1 (optR o).2 = some (optR (Z0y w t o)) := by
 unfold Q1x
 cases o with
 | none => simp [optR, Z0y]
 | some l =>
  simp only [optR, Bool.not_true, Bool.false_eq_true, if_false]
  rw [Z3k l _ (fun p => !Y9 w t p) (fun p _ => by
   unfold Q2i
   rw [Q8p hw hn ht p]
   rfl)]
  simp only [Option.bind_some, Z0y]
  by_cases h : l.all (Y9 w t) = true
  ·have e : (l.any fun p => !Y9 w t p) = false := by
    rw [List.any_eq_false]
    intro p hp
    simp [List.all_eq_true.1 h p hp]
   simp only [e, Bool.false_eq_true, if_false, if_pos h]
   rw [X81 (by omega) (fun p hp => List.all_eq_true.1 h p hp) (ho l rfl)]
   rfl
  ·have e : (l.any fun p => !Y9 w t p) = true := by
    rw [List.any_eq_true]
    simp only [List.all_eq_true, Classical.not_forall] at h
    obtain ⟨p, hp, h⟩ := h
    exact ⟨p, hp, by simpa using h⟩
   simp only [e, if_true, if_neg h]
end Go.Proofs.YtnackipaoepmfaaGreat
namespace Go.Proofs.YtnackipaoepmfaaGreat
open Go Go.RowKit
theorem Z3u {w : List Q3} (hw : WW w) : ∀ (d n : Nat) (t : Q2) (p : Q0), t ∈ tys w → Z3 w d t p → d + 1 ≤ n → Q07 n w (tabP w) t p = some (!W7 w d t p)
 | 0, _, _, _, _, h, _ => h.elim
 | d + 1, n, t, p, ht, hp, hn => by
  obtain ⟨n, rfl⟩ : ∃ m, n = m + 1 := ⟨n - 1, by omega⟩
  have i11 : ieq 1 1 = true := rfl
  have i31 : ieq 3 1 = false := rfl
  have i33 : ieq 3 3 = true := rfl
  have i41 : ieq 4 1 = false := rfl
  have i43 : ieq 4 3 = false := rfl
  have e31 : ¬ (3 : Int) = 1 := by decide
  have e34 : ¬ (3 : Int) = 4 := by decide
  have e41 : ¬ (4 : Int) = 1 := by decide
  rcases hp with rfl | ⟨n1, m1, rfl, hd, _⟩ | ⟨c, ks, rfl, hd, hc, hl, hk⟩
  ·simp only [Q07, i11, if_true, Option.bind_some, (hw.ty t ht).d1, W7]
   have := (hw.ty t ht).d0
   by_cases h : depP w t = 0
   ·simp [h, ilt]
   ·have e : ilt 0 (depP w t) = true := by rw [W0]; omega
    simp [h, e]
  ·simp [Q07, i31, i33, W7, e34]
  ·simp only [Q07, i41, i43, Bool.false_eq_true, if_false, W7, e41, if_true]
   rw [(hw.ty t ht).a1 c hc]
   simp only [Option.bind_some]
   have hlp : ∀ (ts : List Q2) (k : Nat) (ks' : List Q0), (Z5 w t c).drop k = ts → ks.drop k = ks' →
     forL (ρ := Bool) (fun k87 x88 (s81 : Unit) => ((idx ks (k87 : Int)).bind fun x96 => ((Q07 n w (tabP w) x88 x96).bind fun r97 => (if (!r97) = true then some (Ctl.ret (false)) else some (Ctl.go ()))))) k ts () = some (if ((ts.zip ks').any fun x => W7 w d x.1 x.2) = true then .ret false else .brk ()) := by
    intro ts
    induction ts with
    | nil => intro k ks' _ _; simp [forL]
    | cons u ts ih =>
     intro k ks' h0 h1
     obtain ⟨u1, u2⟩ := Q3u h0
     have hkl := (List.getElem?_eq_some_iff.1 u1).1
     cases ks' with
     | nil => have := congrArg List.length h1; simp at this; omega
     | cons q ks' =>
     obtain ⟨q1, q2⟩ := Q3u h1
     unfold forL
     simp only [Q12 q1, Option.bind_some]
     rw [Z3u hw d n u q ((hw.ty t ht).at_ _ hc u (List.mem_of_getElem? u1)) (hk k u q u1 q1) (by omega)]
     simp only [Option.bind_some, List.zip_cons_cons, List.any_cons]
     rcases Bool.eq_false_or_eq_true (W7 w d u q) with hem | hem
     ·simp [hem]
     ·simp only [hem, Bool.not_false, Bool.not_true, Bool.false_eq_true, if_false, Bool.false_or]
      exact ih (k + 1) ks' u2 q2
   have e := hlp (Z5 w t c) 0 ks rfl rfl
   have e' := congrArg (fun z : Option (Ctl Bool Unit) => z.bind fun o => match o with | .ret r => some r | .go _ => none | .brk _ => some true) e
   refine e'.trans ?_
   cases ((Z5 w t c).zip ks).any fun x => W7 w d x.1 x.2 <;> simp
theorem Z5a {w : List Q3} (hw : WW w) {d n : Nat} {t : Q2} (ht : t ∈ tys w) {l : List Q0} (h : ∀ a ∈ l, Z3 w d t a) (hl : l.length ≤ 1000000) (hn : d + 1 ≤ n) : Q2p n w (tabP w) t l = some (Q62 w d t l) := by
 have hlp : ∀ (l : List Q0) (k : Nat) (s : List Q0), (∀ a ∈ l, Z3 w d t a) → s.length + l.length ≤ 1000000 →
   forL (ρ := List Q0) (fun k100 x101 (s94 : (List Q0)) =>
   ((((Q07 n w (tabP w) t x101).bind fun r113 =>
   (if r113 = true then
   ((app s94 [x101]).bind fun x115 =>
   some (Ctl.brk x115))
   else
   some (Ctl.brk s94)))).bind fun (o110 : Ctl (Ctl (List Q0) (List Q0)) ((List Q0))) => match o110 with
   | .ret r => some r
   | .go _ => none
   | .brk s109 =>
   some (Ctl.go s109))) k l s = some (.brk (s ++ Q62 w d t l)) := by
  intro l
  induction l with
  | nil => intro k s _ _; simp [forL, Q62]
  | cons a l ih =>
   intro k s h hs
   simp only [List.length_cons] at hs
   unfold forL
   rw [Z3u hw d n t a ht (h a (by simp)) hn]
   simp only [Option.bind_some]
   rcases Bool.eq_false_or_eq_true (W7 w d t a) with hem | hem
   ·simp only [hem, Bool.not_true, Bool.false_eq_true, if_false, Option.bind_some]
    rw [ih (k + 1) s (fun a ha => h a (by simp [ha])) (by omega)]
    simp [Q62, hem]
   ·simp only [hem, Bool.not_false, if_true]
    rw [V4 (by simp only [List.length_cons, List.length_nil, Q8]; omega)]
    simp only [Option.bind_some]
    rw [ih (k + 1) (s ++ [a]) (fun a ha => h a (by simp [ha])) (by simp only [List.length_append, List.length_cons, List.length_nil]; omega)]
    simp [Q62, hem]
 have e := hlp l 0 [] h (by simp only [List.length_nil]; omega)
 have e' := congrArg (fun z : Option (Ctl (List Q0) (List Q0)) => z.bind fun o => match o with | .ret r => some r | .go _ => none | .brk s => some s) e
 exact e'.trans (by simp)
theorem Z18 {w : List Q3} (hw : WW w) : ∀ (d n x : Nat) (t : Q2) (a b : Q0), t ∈ tys w → Z3 w x t a → Z3 w d t b → d + 3 ≤ n → ∃ q, Q01 n a b = some (match W3 d a b with | some m => (m, true) | none => (q, false))
 | 0, _, _, _, _, _, _, _, h, _ => h.elim
 | d + 1, n, x, t, a, b, ht, ha, hb, hn => by
  obtain ⟨n, rfl⟩ : ∃ m, n = m + 1 := ⟨n - 1, by omega⟩
  obtain ⟨x, rfl, ha⟩ := Q9p ha
  have i11 : ieq 1 1 = true := rfl
  have i31 : ieq 3 1 = false := rfl
  have i33 : ieq 3 3 = true := rfl
  have i41 : ieq 4 1 = false := rfl
  have i43 : ieq 4 3 = false := rfl
  have e31 : ¬ (3 : Int) = 1 := by decide
  have e41 : ¬ (4 : Int) = 1 := by decide
  have e43 : ¬ (4 : Int) = 3 := by decide
  rcases ha with rfl | ⟨n1, m1, rfl, hd, _⟩ | ⟨c, ks, rfl, hd, hc, hl, hk⟩
  ·exact ⟨zP, by simp [Q01, W3, i11]⟩
  ·rcases hb with rfl | ⟨n2, m2, rfl, _⟩ | ⟨c', ks', rfl, hd', _⟩
   ·exact ⟨zP, by simp [Q01, W3, i11, i31]⟩
   ·refine ⟨Q0.mk 3 0 (max n1 n2) (min m1 m2) 0 [], ?_⟩
    simp only [Q01, W3, i31, i33, e31, Bool.false_eq_true, if_false, if_true]
    have h1 : (if ilt n1 n2 = true then some (Ctl.brk n2) else some (Ctl.brk n1) : Option (Ctl (Q0 × Bool) Int)) = some (Ctl.brk (max n1 n2)) := by
     by_cases h : n1 < n2
     ·rw [if_pos (by rw [W0]; exact h)]; congr 2; omega
     ·rw [if_neg (by rw [W0]; exact h)]; congr 2; omega
    have h2 : (if ilt m2 m1 = true then some (Ctl.brk m2) else some (Ctl.brk m1) : Option (Ctl (Q0 × Bool) Int)) = some (Ctl.brk (min m1 m2)) := by
     by_cases h : m2 < m1
     ·rw [if_pos (by rw [W0]; exact h)]; congr 2; omega
     ·rw [if_neg (by rw [W0]; exact h)]; congr 2; omega
    rw [h1, h2]
    simp only [Option.bind_some]
    by_cases h : max n1 n2 ≤ min m1 m2
    ·have : ile (max n1 n2) (min m1 m2) = true := by rw [Q14]; exact h
     simp [h, this]
    ·have : ile (max n1 n2) (min m1 m2) = false := by rw [Q4j]; omega
     simp [h, this]
   ·exact absurd hd hd'
  ·rcases hb with rfl | ⟨n2, m2, rfl, hd', _⟩ | ⟨c', ks', rfl, _, hc', hl', hk'⟩
   ·exact ⟨zP, by simp [Q01, W3, i11, i41]⟩
   ·exact absurd hd' hd
   ·refine ⟨zP, ?_⟩
    simp only [Q01, W3, i41, i43, e41, e43, Bool.false_eq_true, if_false]
    by_cases hcc : c = c'
    ·subst hcc
     have ec : (!ieq c c) = false := by simp [ieq]
     simp only [ec, Bool.false_eq_true, if_false, if_true]
     have hal := (hw.ty t ht).al c hc
     have hlp : ∀ (as' : List Q0) (k : Nat) (s : List Q0) (bs' : List Q0), ks.drop k = as' → ks'.drop k = bs' → s.length + as'.length ≤ 100 →
       forL (fun k132 x133 (s126 : (List Q0)) =>
        ((idx ks' (k132 : Int)).bind fun x143 =>
        ((Q01 n x133 x143).bind fun r144 =>
        (if (!r144.2) = true then
        some (Ctl.ret (((Q0.mk 0 0 0 0 0 []), false)))
        else
        ((app s126 [r144.1]).bind fun x147 =>
        some (Ctl.go x147)))))) k as' s = some (match Q1q (W3 d) as' bs' with | some ms => .brk (s ++ ms) | none => .ret (zP, false)) := by
      intro as'
      induction as' with
      | nil =>
       intro k s bs' h1 h2 _
       simp [forL, Q1q]
      | cons a as' ih =>
       intro k s bs' h1 h2 hs
       obtain ⟨a1, a2⟩ := Q3u h1
       have hkl := (List.getElem?_eq_some_iff.1 a1).1
       cases bs' with
       | nil => have := congrArg List.length h2; simp at this; omega
       | cons b bs' =>
       obtain ⟨b1, b2⟩ := Q3u h2
       obtain ⟨u, u1⟩ := Q0x (l := Z5 w t c) (j := k) rfl (by omega)
       simp only [List.length_cons] at hs
       unfold forL
       rw [Q12 b1]
       simp only [Option.bind_some]
       obtain ⟨q, e⟩ := Z18 hw d n x u a b ((hw.ty t ht).at_ _ hc u (List.mem_of_getElem? u1)) (hk k u a u1 a1) (hk' k u b u1 b1) (by omega)
       rw [e]
       simp only [Option.bind_some, Q1q]
       cases hm : W3 d a b with
       | none => simp [zP]
       | some m =>
        simp only [Bool.not_true, Bool.false_eq_true, if_false, Option.bind_some]
        rw [V4 (by simp only [List.length_cons, List.length_nil, Q8]; omega)]
        simp only [Option.bind_some]
        rw [ih (k + 1) (s ++ [m]) bs' a2 b2 (by simp; omega)]
        cases Q1q (W3 d) as' bs' with
        | none => simp
        | some ms => simp
     have := hlp ks 0 [] ks' rfl rfl (by simp; omega)
     rw [this]
     cases Q1q (W3 d) ks ks' with
     | none => simp
     | some ms => simp
    ·have ec : (!ieq c c') = true := by simp [ieq, hcc]
     simp [ec, hcc, zP]
theorem Z1u {n1 m1 n2 m2 : Int} {a b : Q0} (ha : a.n = n1 ∧ a.m = m1) (hb : b.n = n2 ∧ b.m = m2) (h1 : 0 ≤ n2) (h2 : n2 ≤ 9) (h3 : 0 ≤ m2) (h4 : m2 ≤ 9) : Q3f a b = some (Z0n n1 m1 n2 m2) := by
 obtain ⟨rfl, rfl⟩ := ha
 obtain ⟨rfl, rfl⟩ := hb
 unfold Q3f Z0n
 have w1 : wsub .i64 b.n 1 = b.n - 1 := Q4c (by omega) (by omega)
 have w2 : wadd .i64 b.m 1 = b.m + 1 := Q0p (by omega) (by omega)
 simp only [w1, w2]
 have g1 : (if ilt (b.n - 1) a.m = true then some (Ctl.brk (b.n - 1)) else some (Ctl.brk a.m) : Option (Ctl (List Q0) Int)) = some (Ctl.brk (min a.m (b.n - 1))) := by
  by_cases h : b.n - 1 < a.m
  ·rw [if_pos (by rw [W0]; exact h)]; congr 2; omega
  ·rw [if_neg (by rw [W0]; exact h)]; congr 2; omega
 have g2 : (if ilt a.n (b.m + 1) = true then some (Ctl.brk (b.m + 1)) else some (Ctl.brk a.n) : Option (Ctl (List Q0) Int)) = some (Ctl.brk (max a.n (b.m + 1))) := by
  by_cases h : a.n < b.m + 1
  ·rw [if_pos (by rw [W0]; exact h)]; congr 2; omega
  ·rw [if_neg (by rw [W0]; exact h)]; congr 2; omega
 rw [g1, g2]
 simp only [Option.bind_some]
 by_cases c1 : a.n ≤ min a.m (b.n - 1)
 ·by_cases c2 : max a.n (b.m + 1) ≤ a.m
  ·have e1 : ile a.n (min a.m (b.n - 1)) = true := by rw [Q14]; exact c1
   have e2 : ile (max a.n (b.m + 1)) a.m = true := by rw [Q14]; exact c2
   simp [e1, e2, c1, c2, app, Q8]
  ·have e1 : ile a.n (min a.m (b.n - 1)) = true := by rw [Q14]; exact c1
   have e2 : ile (max a.n (b.m + 1)) a.m = false := by rw [Q4j]; omega
   simp [e1, e2, c1, c2, app, Q8]
 ·by_cases c2 : max a.n (b.m + 1) ≤ a.m
  ·have e1 : ile a.n (min a.m (b.n - 1)) = false := by rw [Q4j]; omega
   have e2 : ile (max a.n (b.m + 1)) a.m = true := by rw [Q14]; exact c2
   simp [e1, e2, c1, c2, app, Q8]
  ·have e1 : ile a.n (min a.m (b.n - 1)) = false := by rw [Q4j]; omega
   have e2 : ile (max a.n (b.m + 1)) a.m = false := by rw [Q4j]; omega
   simp [e1, e2, c1, c2, app, Q8]
theorem W8s {w : List Q3} (hw : WW w) {t : Q2} (ht : t ∈ tys w) {c : Int} (hc : c ∈ Z7 w t) : Q3l w t c = some (Q4x w t c) := by
 unfold Q3l
 rw [(hw.ty t ht).a1 c hc]
 simp only [Option.bind_some]
 have hal := (hw.ty t ht).al c hc
 rw [Q3x (fun _ => [Q0.mk 1 0 0 0 0 []]) 100 (Z5 w t c) 0 [] (fun k x _ s hs => by
  have : Q5i = some (Q0.mk 1 0 0 0 0 []) := rfl
  rw [this]
  simp only [Option.bind_some]
  simp only [List.length_cons, List.length_nil] at hs
  rw [V4 (by simp only [List.length_cons, List.length_nil, Q8]; omega)]
  rfl) (by
   have : ∀ l : List Q2, (l.flatMap fun _ => [Q0.mk 1 0 0 0 0 []]).length = l.length := fun l => by induction l with | nil => rfl | cons a l ih => simp [ih]
   rw [this]; simp; omega)]
 simp only [Option.bind_some, List.nil_append, Q4x]
 congr 2
 induction Z5 w t c with
 | nil => rfl
 | cons a l ih => simp [ih]
end Go.Proofs.YtnackipaoepmfaaGreat
namespace Go.Proofs.YtnackipaoepmfaaGreat
open Go Go.RowKit
theorem Z7a {n : Nat} {c : Int} {ks ks' : List Q0} {fm : Q2 → Q0 → Q0 → List Q0} {fj : Q0 → Q0 → Option Q0} {args : List Q2} {w : List Q3}
  (hl : ks.length = args.length) (hl' : ks'.length = args.length) (ha3 : args.length ≤ 3)
  (hmin : ∀ (k : Nat) (u : Q2) (a b : Q0), args[k]? = some u → ks[k]? = some a → ks'[k]? = some b → V3 n w u a b = some (fm u a b) ∧ ∃ q, Q01 n a b = some (match fj a b with | some m => (m, true) | none => (q, false))) :
  ∀ (ts : List Q2) (k : Nat) (out front as' bs' : List Q0), args.drop k = ts → ks.drop k = as' → ks'.drop k = bs' → front.length = k → out.length + (kmD fm fj ts as' bs').length ≤ 50000 →
  ∃ o : Ctl (List Q0) ((List Q0) × (List Q0)), (match o with | .ret r => some r | .go _ => none | .brk s => some s.1) = some (out ++ (kmD fm fj ts as' bs').map (fun q => Q0.mk 4 c 0 0 0 (front ++ q))) ∧
  forL (fun k1173 x1174 (s1167 : (List Q0) × (List Q0)) =>
  ((idx ks (k1173 : Int)).bind fun x1291 =>
  ((idx ks' (k1173 : Int)).bind fun x1292 =>
  ((V3 n w x1174 x1291 x1292).bind fun r1293 =>
  ((forL (fun k1383 x1384 (s1377 : (List Q0)) =>
  ((app [] s1167.2).bind fun x1393 =>
  ((app s1167.2 [x1384]).bind fun x1394 =>
  ((Z4l ks (wadd .i64 (k1173 : Int) 1)).bind fun x1395 =>
  ((app x1394 x1395).bind fun x1396 =>
  ((app s1377 [(Q0.mk 4 c 0 0 0 x1396)]).bind fun x1397 =>
  some (Ctl.go (s1377 ++ [(Q0.mk 4 c 0 0 0 x1396)])))))))) 0 r1293 s1167.1).bind fun (o1376 : Ctl (Ctl (List Q0) ((List Q0) × (List Q0))) ((List Q0))) => match o1376 with
  | .ret r => some r
  | .go _ => none
  | .brk s1387 =>
  ((Q01 n x1291 x1292).bind fun r1398 =>
  (if (!r1398.2) = true then
  some (Ctl.ret (s1387))
  else
  ((app s1167.2 [r1398.1]).bind fun x1401 =>
  some (Ctl.go (s1387, x1401)))))))))) k ts (out, front) = some o := by
 intro ts
 induction ts with
 | nil =>
  intro k out front as' bs' h0 h1 h2 hf hs
  exact ⟨.brk (out, front), by simp [kmD], by simp [forL]⟩
 | cons u ts ih =>
  intro k out front as' bs' h0 h1 h2 hf hs
  obtain ⟨u1, u2⟩ := Q3u h0
  have hkl := (List.getElem?_eq_some_iff.1 u1).1
  cases as' with
  | nil => have := congrArg List.length h1; simp at this; omega
  | cons a as' =>
  cases bs' with
  | nil => have := congrArg List.length h2; simp at this; omega
  | cons b bs' =>
  obtain ⟨a1, a2⟩ := Q3u h1
  obtain ⟨b1, b2⟩ := Q3u h2
  obtain ⟨m1, q, m2⟩ := hmin k u a b u1 a1 b1
  simp only [kmD, List.length_append, List.length_map] at hs
  have hw1 : wadd .i64 (k : Int) 1 = ((k + 1 : Nat) : Int) := by rw [Q0p] <;> omega
  have hdrop : Z4l ks ((k + 1 : Nat) : Int) = some as' := by
   unfold Z4l
   rw [if_pos ⟨by omega, by omega⟩]
   simp [← a2]
  have has : as'.length ≤ 3 := by rw [← a2]; simp; omega
  unfold forL
  simp only [Q12 a1, Q12 b1, Option.bind_some, m1, hw1, hdrop]
  have hin := Q3x (ρ := Ctl (List Q0) ((List Q0) × (List Q0))) (f := fun (k1383 : Nat) x1384 (s1377 : (List Q0)) =>
    ((app [] front).bind fun x1393 =>
    ((app front [x1384]).bind fun x1394 =>
    ((app x1394 as').bind fun x1396 =>
    ((app s1377 [(Q0.mk 4 c 0 0 0 x1396)]).bind fun x1397 =>
    some (Ctl.go (s1377 ++ [(Q0.mk 4 c 0 0 0 x1396)]))))))) (fun x => [Q0.mk 4 c 0 0 0 (front ++ x :: as')]) 100000 (fm u a b) 0 out (fun k x _ s hs => by
   simp only [List.length_cons, List.length_nil] at hs
   rw [V4 (by simp only [List.length_nil, Q8]; omega), V4 (by simp only [List.length_cons, List.length_nil, Q8]; omega)]
   simp only [Option.bind_some]
   rw [V4 (by simp only [List.length_append, List.length_cons, List.length_nil, Q8]; omega)]
   simp only [Option.bind_some]
   rw [V4 (by simp only [List.length_cons, List.length_nil, Q8]; omega)]
   simp) (by
    have : ∀ l : List Q0, (l.flatMap fun x => [Q0.mk 4 c 0 0 0 (front ++ x :: as')]).length = l.length := fun l => by induction l with | nil => rfl | cons a l ih => simp [ih]
    rw [this]; omega)
  have hfl : ∀ l : List Q0, (l.flatMap fun x => [Q0.mk 4 c 0 0 0 (front ++ x :: as')]) = l.map fun x => Q0.mk 4 c 0 0 0 (front ++ x :: as') := fun l => by induction l with | nil => rfl | cons a l ih => simp [ih]
  rw [hfl] at hin
  rw [hin]
  simp only [Option.bind_some, m2]
  cases hm : fj a b with
  | none =>
   simp only [Bool.not_false, if_true]
   refine ⟨_, ?_, rfl⟩
   simp only [kmD, hm, List.append_nil, List.map_map]
   rfl
  | some m =>
   simp only [Bool.not_true, Bool.false_eq_true, if_false]
   rw [V4 (by simp only [List.length_cons, List.length_nil, Q8]; omega)]
   simp only [Option.bind_some]
   rw [hm] at hs
   simp only [List.length_map] at hs
   obtain ⟨o, e1, e⟩ := ih (k + 1) (out ++ (fm u a b).map fun x => Q0.mk 4 c 0 0 0 (front ++ x :: as')) (front ++ [m]) as' bs' u2 a2 b2 (by simp; omega) (by simp only [List.length_append, List.length_map]; omega)
   refine ⟨o, ?_, e⟩
   rw [e1]
   simp only [kmD, hm, List.map_append, List.map_map, List.append_assoc]
   congr 5
theorem Z3t {w : List Q3} (hw : WW w) (he : WE w) : ∀ (d n x : Nat) (t : Q2) (a b : Q0), t ∈ tys w → Z3 w x t a → Z3 w d t b → cntP b ≤ 10000 → 3 * d + 6 ≤ n → V3 n w t a b = some (X5 w d t a b)
 | 0, _, _, _, _, _, _, _, h, _, _ => h.elim
 | d + 1, n, x, t, a, b, ht, ha, hb, hcnt, hn => by
  obtain ⟨n, rfl⟩ : ∃ m, n = m + 1 := ⟨n - 1, by omega⟩
  have i11 : ieq 1 1 = true := rfl
  have i14 : ieq 1 4 = false := rfl
  have i31 : ieq 3 1 = false := rfl
  have i33 : ieq 3 3 = true := rfl
  have i41 : ieq 4 1 = false := rfl
  have i43 : ieq 4 3 = false := rfl
  have i44 : ieq 4 4 = true := rfl
  have e31 : ¬ (3 : Int) = 1 := by decide
  have e41 : ¬ (4 : Int) = 1 := by decide
  have e43 : ¬ (4 : Int) = 3 := by decide
  obtain ⟨x, rfl, ha'⟩ := Q9p ha
  have hb0 := hb
  rcases hb with rfl | ⟨n2, m2, rfl, hd', g0, g1, g2⟩ | ⟨c', ks', rfl, hd', hc', hl', hk'⟩
  ·simp [V3, X5, i11]
  ·rcases ha' with rfl | ⟨n1, m1, rfl, hd, h0, _, h9⟩ | ⟨c, ks, rfl, hd, _⟩
   ·simp only [V3, X5, i31, i33, i11, e31, Bool.false_eq_true, if_false, if_true, Option.bind_some]
    rw [Z1u (n1 := 0) (m1 := 9) (n2 := n2) (m2 := m2) ⟨rfl, rfl⟩ ⟨rfl, rfl⟩ (by omega) (by omega) (by omega) (by omega)]
    rfl
   ·simp only [V3, X5, i31, i33, e31, Bool.false_eq_true, if_false, if_true, Option.bind_some]
    rw [Z1u (n1 := n1) (m1 := m1) (n2 := n2) (m2 := m2) ⟨rfl, rfl⟩ ⟨rfl, rfl⟩ (by omega) (by omega) (by omega) (by omega)]
    rfl
   ·exact absurd hd' hd
  ·have hcn : cntP (Q0.mk 4 c' 0 0 0 ks') = 1 + cntP.cntPs ks' := Q2g _
   have hkc : ∀ q ∈ ks', cntP q ≤ 10000 := fun q hq => by
    have := Q6n (p := Q0.mk 4 c' 0 0 0 ks') (List.mem_iff_getElem?.1 hq).choose_spec
    omega
   have hA : ∀ (N : Nat) (c : Int) (ks : List Q0) (y : Nat), 3 * d + 7 ≤ N → c ∈ Z7 w t → ks.length = (Z5 w t c).length → (∀ (j : Nat) (a : Q2) (q : Q0), (Z5 w t c)[j]? = some a → ks[j]? = some q → Z3 w y a q) →
     V3 (N + 1) w t (Q0.mk 4 c 0 0 0 ks) (Q0.mk 4 c' 0 0 0 ks') = some (cmD w (X5 w d) (W3 d) t (Q0.mk 4 c 0 0 0 ks) (Q0.mk 4 c' 0 0 0 ks')) := fun N c ks y hN hc hl hk => by
    obtain ⟨N, rfl⟩ : ∃ m, N = m + 1 := ⟨N - 1, by omega⟩
    simp only [V3, i41, i43, i44, Bool.false_eq_true, if_false, if_true, cmD]
    by_cases hcc : c = c'
    ·subst hcc
     have ec : (!ieq c c) = false := by simp [ieq]
     simp only [ec, Bool.false_eq_true, if_false, if_true, Q5s]
     rw [(hw.ty t ht).a1 c hc]
     simp only [Option.bind_some]
     have hlen : (kmD (X5 w d) (W3 d) (Z5 w t c) ks ks').length ≤ 3 * cntP.cntPs ks' :=
      X65 (Z5 w t c) ks ks' fun j u p q h1 h2 => Q79 hw he d u p q ((hw.ty t ht).at_ _ hc u (List.mem_of_getElem? h1)) (hk' j u q h1 h2)
     obtain ⟨o, e1, e⟩ := Z7a (w := w) (n := N) (c := c) (fm := X5 w d) (fj := W3 d) hl hl' ((hw.ty t ht).al c hc) (fun k u p q h1 h2 h3 =>
      have hu := (hw.ty t ht).at_ _ hc u (List.mem_of_getElem? h1)
      ⟨Z3t hw he d N y u p q hu (hk k u p h1 h2) (hk' k u q h1 h3) (hkc q (List.mem_of_getElem? h3)) (by omega), Z18 hw d N y u p q hu (hk k u p h1 h2) (hk' k u q h1 h3) (by omega)⟩)
      (Z5 w t c) 0 [] [] ks ks' rfl rfl rfl rfl (by simp only [List.length_nil]; omega)
     have e' := congrArg (fun z : Option (Ctl (List Q0) ((List Q0) × (List Q0))) => (z.bind fun o => match o with | .ret r => some r | .go _ => none | .brk s => some s.1).bind fun r => some r) e
     refine e'.trans ?_
     simp only [Option.bind_some, e1]
     simp
    ·have ec : (!ieq c c') = true := by simp [ieq, hcc]
     simp [ec, hcc]
   rcases ha' with rfl | ⟨n1, m1, rfl, hd, _⟩ | ⟨c, ks, rfl, hd, hc, hl, hk⟩
   ·simp only [V3, X5, i11, i14, i41, i43, e41, e43, Bool.false_eq_true, if_false, if_true]
    rw [(hw.ty t ht).c1]
    simp only [Option.bind_some]
    obtain ⟨N, rfl⟩ : ∃ m, n = m + 1 := ⟨n - 1, by omega⟩
    have hlen := Q79 hw he (d + 1) t (Q0.mk 1 0 0 0 0 []) (Q0.mk 4 c' 0 0 0 ks') ht hb0
    simp only [X5, e41, e43, if_false, if_true] at hlen
    rw [Q3x (fun c => cmD w (X5 w d) (W3 d) t (Q4x w t c) (Q0.mk 4 c' 0 0 0 ks')) 1000000 (Z7 w t) 0 [] (fun k c hc s hs => by
     rw [W8s hw ht hc]
     simp only [Option.bind_some]
     rw [Q4x, hA N c _ 1 (by omega) hc (by simp) (fun j a q ha hq => by
      rw [List.getElem?_map, ha] at hq
      cases hq
      exact Q8q w 0 a)]
     simp only [Option.bind_some]
     rw [V4 (by simp only [Q8]; simp only [Q4x] at hs; omega)]
     rfl) (by simp only [List.length_nil]; omega)]
    simp
   ·exact absurd hd hd'
   ·rw [hA n c ks x (by omega) hc hl hk]
    simp [X5]
end Go.Proofs.YtnackipaoepmfaaGreat
namespace Go.Proofs.YtnackipaoepmfaaGreat
open Go Go.RowKit
theorem X2q {w : List Q3} (hw : WW w) (he : WE w) {d x : Nat} {t : Q2} (ht : t ∈ tys w) (hx : d + 1 ≤ x) : ∀ (bs l : List Q0), (∀ b ∈ bs, Z3 w d t b) → (∀ a ∈ l, Z3 w x t a) → (Q57 w d x t l bs).map (Q62 w x t) = Q3c w d x t l bs
 | [], l, _, _ => rfl
 | b :: bs, l, hb, hl => by
  have e := X0n hw he ht hx (hb b (by simp)) hl
  simp only [Q3c, Q57, e]
  by_cases hc : 400 < (Q2k w d x t l b).length
  ·simp [hc]
  ·simp only [if_neg hc]
   rw [X2q hw he ht hx bs (Q2k w d x t l b) (fun b hb' => hb b (by simp [hb'])) (Q72 hx (hb b (by simp)) hl)]
   simp only [Q3c, X3g]
theorem Z59 {w : List Q3} (hw : WW w) (he : WE w) {d x n : Nat} {t : Q2} (ht : t ∈ tys w) (hx : d + 1 ≤ x) (hx2 : x ≤ 100) {l bs : List Q0} (hb : ∀ b ∈ bs, Z3 w d t b ∧ cntP b ≤ 130) (h : ∀ a ∈ l, Z3 w x t a) (hl : l.length ≤ 1000) (hn : 2000 ≤ n) :
  Q4q n w (tabP w) t l bs = some (optR (Q3c w d x t l bs)) := by
 have hin : ∀ (b : Q0), Z3 w d t b → cntP b ≤ 130 → ∀ (s : List Q0) (k : Nat) (acc : List Q0), (∀ a ∈ s, Z3 w x t a) → acc.length ≤ 1000 →
   ∃ r, forL (ρ := Ctl (List Q0 × Bool) (List Q0)) (fun k1807 x1808 (s1801 : (List Q0)) =>
   (if (ile (lenZ s1801.length) 400) = true then
   ((V3 n w t x1808 b).bind fun r1819 =>
   ((Q2p n w (tabP w) t r1819).bind fun r1820 =>
   ((app s1801 r1820).bind fun x1821 =>
   some (Ctl.go x1821))))
   else
   some (Ctl.brk s1801))) k s acc = some (.brk r) ∧ ((acc ++ Q2k w d x t s b).length ≤ 400 → r = acc ++ Q2k w d x t s b) ∧ (400 < (acc ++ Q2k w d x t s b).length → 400 < r.length) := by
  intro b hb hcb s
  induction s with
  | nil => intro k acc _ _; exact ⟨acc, by simp [forL], by simp [Q2k, Q62], by simp [Q2k, Q62]⟩
  | cons a s ih =>
   intro k acc hs hacc
   have hstep : Q2k w d x t (a :: s) b = Q62 w x t (X5 w d t a b) ++ Q2k w d x t s b := by simp [Q2k, Q62]
   rw [hstep]
   have hlen := Q79 hw he d t a b ht hb
   have hkl := Z99 w x t (X5 w d t a b)
   unfold forL
   by_cases hc : acc.length ≤ 400
   ·have e : ile (lenZ acc.length) 400 = true := by rw [Q14, Q1m]; omega
    simp only [e, if_true]
    rw [Z3t hw he d n x t a b ht (hs a (by simp)) hb (by omega) (by omega)]
    simp only [Option.bind_some]
    rw [Z5a hw ht (fun y hy => Q6y d x t a b hx (hs a (by simp)) hb y hy) (by omega) (by omega)]
    simp only [Option.bind_some]
    rw [V4 (by simp only [Q8]; omega)]
    simp only [Option.bind_some]
    obtain ⟨r, e1, e2, e3⟩ := ih (k + 1) (acc ++ Q62 w x t (X5 w d t a b)) (fun a ha => hs a (by simp [ha])) (by simp only [List.length_append]; omega)
    rw [List.append_assoc] at e2 e3
    exact ⟨r, e1, e2, e3⟩
   ·have e : ile (lenZ acc.length) 400 = false := by rw [Q4j, Q1m]; omega
    simp only [e, Bool.false_eq_true, if_false]
    refine ⟨acc, rfl, fun h => ?_, fun _ => by omega⟩
    simp only [List.length_append] at h
    omega
 have hlp : ∀ (bs : List Q0) (k : Nat) (s : List Q0), (∀ b ∈ bs, Z3 w d t b ∧ cntP b ≤ 130) → (∀ a ∈ s, Z3 w x t a) →
   forL (fun k1538 x1539 (s1532 : (List Q0)) =>
   ((forL (fun k1807 x1808 (s1801 : (List Q0)) =>
   (if (ile (lenZ s1801.length) 400) = true then
   ((V3 n w t x1808 x1539).bind fun r1819 =>
   ((Q2p n w (tabP w) t r1819).bind fun r1820 =>
   ((app s1801 r1820).bind fun x1821 =>
   some (Ctl.go x1821))))
   else
   some (Ctl.brk s1801))) 0 s1532 []).bind fun (o1800 : Ctl (Ctl (List Q0 × Bool) (List Q0)) ((List Q0))) => match o1800 with
   | .ret r => some r
   | .go _ => none
   | .brk s1811 =>
   (if (ilt 400 (lenZ s1811.length)) = true then
   some (Ctl.ret (([], false)))
   else
   some (Ctl.go s1811)))) k bs s = some (match Q57 w d x t s bs with | some r => .brk r | none => .ret ([], false)) := by
  intro bs
  induction bs with
  | nil => intro k s _ _; simp [forL, Q57]
  | cons b bs ih =>
   intro k s hb hs
   obtain ⟨hb1, hb2⟩ := hb b (by simp)
   unfold forL
   obtain ⟨r, e1, e2, e3⟩ := hin b hb1 hb2 s 0 [] hs (by simp)
   rw [e1]
   simp only [List.nil_append] at e2 e3
   simp only [Option.bind_some, Q57]
   by_cases hc : 400 < (Q2k w d x t s b).length
   ·have hr := e3 hc
    have e : ilt 400 (lenZ r.length) = true := by rw [W0, Q1m]; omega
    simp only [e, if_true, if_pos hc]
   ·have hr := e2 (by omega)
    subst hr
    have e : ilt 400 (lenZ (Q2k w d x t s b).length) = false := by rw [Q06, Q1m]; omega
    simp only [e, Bool.false_eq_true, if_false, if_neg hc]
    exact ih (k + 1) _ (fun b hb' => hb b (by simp [hb'])) (Q72 hx hb1 hs)
 have e := hlp bs 0 l hb h
 have hk := X2q hw he ht hx bs l (fun b hb' => (hb b hb').1) h
 have hln : ∀ (bs l r : List Q0), l.length ≤ 1000 → Q57 w d x t l bs = some r → r.length ≤ 1000 := by
  intro bs
  induction bs with
  | nil => intro l r h e; simp only [Q57, Option.some.injEq] at e; subst e; exact h
  | cons b bs ih =>
   intro l r h e
   simp only [Q57] at e
   split at e
   ·cases e
   ·exact ih _ r (by omega) e
 have e' := congrArg (fun z : Option (Ctl ((List Q0) × Bool) (List Q0)) => z.bind fun o => match o with | .ret r => some r | .go _ => none | .brk s => (Q2p n w (tabP w) t s).bind fun r => some (r, true)) e
 refine e'.trans ?_
 rw [← hk]
 cases hr : Q57 w d x t l bs with
 | none => simp [optR]
 | some r =>
  have hl' := hln bs l r hl hr
  have hp := X2o hx bs l r (fun b hb' => (hb b hb').1) h hr
  simp only [Option.bind_some, Option.map_some, optR]
  rw [Z5a hw ht hp (by omega) (by omega)]
  rfl
end Go.Proofs.YtnackipaoepmfaaGreat
namespace Go.Proofs.YtnackipaoepmfaaGreat
open Go Go.RowKit
theorem Z3r {α β : Type} (f : α → List β) : ∀ (X : List α) (m M : Nat), m ≤ M → (X.flatMap fun q => (f q).take M).take m = (X.flatMap f).take m
 | [], m, M, _ => by simp
 | q :: X, m, M, h => by
  simp only [List.flatMap_cons, List.take_append, List.take_take, List.length_take]
  rw [Nat.min_eq_left h]
  congr 1
  rcases Nat.le_total (f q).length M with h1 | h1
  ·rw [Nat.min_eq_right h1]; exact Z3r f X _ M (by omega)
  ·rw [Nat.min_eq_left h1, show m - M = 0 by omega, show m - (f q).length = 0 by omega]; simp
theorem Z1p {α β : Type} (f : α → List β) : ∀ (X : List α) (m j : Nat), (∀ q ∈ X, 1 ≤ (f q).length) → j ≤ m → ((X.take m).flatMap f).take j = (X.flatMap f).take j
 | [], m, j, _, _ => by simp
 | q :: X, 0, j, _, h => by rw [show j = 0 by omega]; simp
 | q :: X, m + 1, j, hq, h => by
  simp only [List.take_succ_cons, List.flatMap_cons, List.take_append]
  congr 1
  have := hq q (by simp)
  exact Z1p f X m _ (fun x hx => hq x (by simp [hx])) (by omega)
theorem W4k {α : Type} {a b : List α} (m : Nat) (h : m ≤ a.length) : (a ++ b).take m = a.take m := by rw [List.take_append_of_le_length h]
theorem W4j {l : List Q0} (hl : l ≠ []) (X : List (List Q0)) (m : Nat) (hm : 1 ≤ m) : (tupD (X.take m) (l.take m)).take m = (tupD X l).take m := by
 have hlen : 1 ≤ l.length := by cases l <;> simp_all
 unfold tupD
 rw [Z1p _ X m m (fun q _ => by rw [List.length_map, List.length_take]; omega) (Nat.le_refl m)]
 have e : (fun q : List Q0 => (l.take m).map fun c => q ++ [c]) = fun q => (l.map fun c => q ++ [c]).take m := by funext q; rw [List.map_take]
 rw [e]
 exact Z3r _ X m m (Nat.le_refl m)
theorem W2i {α : Type} {X : List α} {v : List α} {y : α} (hv : v = X.take 401) (h : v.length ≤ 400) : v ++ [y] = (X ++ [y]).take 401 := by
 have hX : X.length ≤ 400 := by rw [hv, List.length_take] at h; omega
 rw [hv, List.take_of_length_le (show X.length ≤ 401 by omega), List.take_of_length_le (by simp; omega)]
theorem X1y {α : Type} {X Y : List α} {v : List α} (hv : v = X.take 401) (h : ¬ v.length ≤ 400) : v = (X ++ Y).take 401 := by
 have hX : 401 ≤ X.length := by rw [hv, List.length_take] at h; omega
 rw [W4k 401 hX, hv]
theorem W0f (ls : List (List Q0)) (hp : ∀ l ∈ ls, l ≠ []) (hk : ls.length ≤ 3) : Q3g (ls.map (·.take 401)) = some ((ls.foldl tupD [[]]).take 401) := by
 suffices hr : Ret (Q3g (ls.map (·.take 401))) (fun r => r = (ls.foldl tupD [[]]).take 401) by
  obtain ⟨r, e, rfl⟩ := hr
  exact e
 have kl : ∀ k, ∀ ks ∈ (ls.take k).foldl tupD [[]], ks.length ≤ k := by
  have gen : ∀ (ls : List (List Q0)) (out : List (List Q0)) (m : Nat), (∀ ks ∈ out, ks.length ≤ m) → ∀ ks ∈ ls.foldl tupD out, ks.length ≤ m + ls.length := by
   intro ls
   induction ls with
   | nil => intro out m h ks hks; simpa using h ks hks
   | cons l ls ih2 =>
    intro out m h ks hks
    rw [List.foldl_cons] at hks
    have := ih2 (tupD out l) (m + 1) (fun ks hk2 => by
     simp only [tupD, List.mem_flatMap, List.mem_map] at hk2
     obtain ⟨q2, hq2, c, _, rfl⟩ := hk2
     have := h q2 hq2
     simp; omega) ks hks
    simp only [List.length_cons]; omega
  intro k ks hks
  have := gen _ [[]] 0 (by simp) ks hks
  rw [List.length_take] at this
  omega
 unfold Q3g
 refine Ret.ctl (Z4 (ls.map (·.take 401)) (fun k s => s = ((ls.take k).foldl tupD [[]]).take 401) (fun _ => False) (fun s => s = (ls.foldl tupD [[]]).take 401) (by simp) (fun k l0 s hl0 hI => ?_) (fun s hI => ?_)) (fun r hr => hr.elim) (fun s hs => .some hs)
 ·rw [List.getElem?_map] at hl0
  obtain ⟨l, hl, rfl⟩ := Option.map_eq_some_iff.1 hl0
  have hne := hp l (List.mem_of_getElem? hl)
  have hnx : (ls.take (k + 1)).foldl tupD [[]] = tupD ((ls.take k).foldl tupD [[]]) l := by rw [List.take_add_one, hl]; simp
  have hkl := (List.getElem?_eq_some_iff.1 hl).1
  rw [hnx]
  have kk := kl k
  generalize (ls.take k).foldl tupD [[]] = X at *
  have hs : s.length ≤ 401 := by rw [hI, List.length_take]; omega
  have hsk : ∀ q ∈ s, q.length ≤ 3 := fun q hq => by
   rw [hI] at hq
   have := kk q (List.mem_of_mem_take hq)
   omega
  have hl4 : (l.take 401).length ≤ 401 := by rw [List.length_take]; omega
  refine Ret.ctl (Z4 s (fun j v => v = (tupD (s.take j) (l.take 401)).take 401) (fun _ => False) (fun v => v = (tupD s (l.take 401)).take 401) (by simp [tupD]) (fun j q v hq hJ => ?_) (fun v hJ => ?_)) (fun r hr => hr.elim) (fun v hv => .some ?_)
  ·have hnj : tupD (s.take (j + 1)) (l.take 401) = tupD (s.take j) (l.take 401) ++ (l.take 401).map (fun c => q ++ [c]) := by rw [List.take_add_one, hq]; simp [tupD]
   refine Ret.ite (fun hle => ?_) (fun hgt => .some ?_)
   ·rw [Q14] at hle
    refine Ret.ctl (Z4 (l.take 401) (fun i u => u = (tupD (s.take j) (l.take 401) ++ ((l.take 401).take i).map (fun c => q ++ [c])).take 401) (fun _ => False) (fun u => u = (tupD (s.take (j + 1)) (l.take 401)).take 401) (by simpa using hJ) (fun i c u hc hK => ?_) (fun u hK => ?_)) (fun r hr => hr.elim) (fun u hu => .some hu)
    ·have hci : (l.take 401).take (i + 1) = (l.take 401).take i ++ [c] := by rw [List.take_add_one, hc]; simp
     refine Ret.ite (fun hl2 => ?_) (fun hg2 => .some ?_)
     ·rw [Q14, Q1m] at hl2
      have hq3 := hsk q (List.mem_of_getElem? hq)
      rw [V4 (by simp only [Q8, List.length_nil]; omega)]
      simp only [Option.bind_some]
      rw [V4 (by simp only [Q8, List.length_cons, List.length_nil]; omega)]
      simp only [Option.bind_some]
      rw [V4 (by simp only [Q8, List.length_cons, List.length_nil]; omega)]
      refine .some ?_
      simp only [Q33]
      rw [hci, List.map_append, ← List.append_assoc]
      exact W2i hK (by omega)
     ·rw [Q4j, Q1m] at hg2
      simp only [X5t]
      rw [hnj]
      have e : (l.take 401).map (fun c => q ++ [c]) = ((l.take 401).take i).map (fun c => q ++ [c]) ++ ((l.take 401).drop i).map (fun c => q ++ [c]) := by rw [← List.map_append, List.take_append_drop]
      rw [e, ← List.append_assoc]
      exact X1y hK (by omega)
    ·rw [hK, hnj, List.take_of_length_le (Nat.le_refl _)]
   ·rw [Q4j, Q1m] at hgt
    simp only [X5t]
    have e : tupD s (l.take 401) = tupD (s.take j) (l.take 401) ++ tupD (s.drop j) (l.take 401) := by
     unfold tupD; rw [← List.flatMap_append, List.take_append_drop]
    rw [e]
    exact X1y hJ (by omega)
  ·rw [hJ, List.take_length]
  ·simp only [Q33]
   rw [hv, hI]
   exact W4j hne X 401 (by omega)
 ·rw [hI, List.length_map, List.take_length]
theorem X0q : ∀ (d n : Nat) (p : Q0), orOk d p → d ≤ n → Q0q n p = some ((Z0 d p).take 401) := by
 intro d
 induction d with
 | zero => intro n p h; exact h.elim
 | succ d ih =>
  intro n p h hn
  obtain ⟨n, rfl⟩ : ∃ k, n = k + 1 := ⟨n - 1, by omega⟩
  obtain ⟨h1, h2, h3⟩ := h
  have hl4 : ∀ x, ((Z0 d x).take 401).length ≤ 401 := fun x => by rw [List.length_take]; omega
  by_cases h5 : p.op = 5
  ·have e5 : ieq p.op 5 = true := by simp [ieq, h5]
   unfold Q0q
   rw [if_pos e5]
   match hk : p.kids, h2 h5 with
   | [a, b], _ =>
    rw [hk] at h3
    rw [show idx [a, b] 0 = some a from rfl, show idx [a, b] 1 = some b from rfl]
    simp only [Option.bind_some]
    rw [ih n a (h3 a (by simp)) (by omega), ih n b (h3 b (by simp)) (by omega)]
    simp only [Option.bind_some]
    have ha := hl4 a
    have hb := hl4 b
    rw [V4 (by simp only [Q8]; omega)]
    have hs : Z0 (d + 1) p = Z0 d a ++ Z0 d b := by simp [Z0, h5, hk]
    have key : ((Z0 d a).take 401 ++ (Z0 d b).take 401).take 401 = (Z0 (d + 1) p).take 401 := by
     rw [hs, List.take_append, List.take_append, List.take_take, List.length_take]
     simp only [Nat.min_self]
     congr 1
     rcases Nat.le_total (Z0 d a).length 401 with q | q
     ·rw [Nat.min_eq_right q, List.take_take, Nat.min_eq_left (by omega)]
     ·rw [Nat.min_eq_left q, show 401 - 401 = 0 from rfl, show 401 - (Z0 d a).length = 0 by omega]; simp
    simp only [Option.bind_some]
    by_cases hgt : ilt 401 (lenZ ((Z0 d a).take 401 ++ (Z0 d b).take 401).length) = true
    ·rw [if_pos hgt]
     rw [W0, Q1m] at hgt
     have ht : Q7k ((Z0 d a).take 401 ++ (Z0 d b).take 401) 401 = some (((Z0 d a).take 401 ++ (Z0 d b).take 401).take 401) := by
      unfold Q7k; rw [if_pos ⟨by omega, by omega⟩]; rfl
     rw [ht, key]; rfl
    ·rw [if_neg hgt, ← key]
     simp only [Bool.not_eq_true] at hgt
     rw [Q06, Q1m] at hgt
     rw [List.take_of_length_le (i := 401) (l := (Z0 d a).take 401 ++ (Z0 d b).take 401) (by omega)]
  ·have e5 : ¬ ieq p.op 5 = true := by simp [ieq, h5]
   suffices hr : Ret (Q0q (n + 1) p) (fun r => r = (Z0 (d + 1) p).take 401) by
    obtain ⟨r, e, rfl⟩ := hr
    exact e
   unfold Q0q
   rw [if_neg e5]
   refine Ret.ctl (Z4 p.kids (fun k s => s = ((p.kids.take k).map (Z0 d)).map (·.take 401)) (fun _ => False) (fun s => s = (p.kids.map (Z0 d)).map (·.take 401)) (by simp) (fun k q s hq hI => ?_) (fun s hI => ?_)) (fun r hr => hr.elim) (fun s hs => ?_)
   ·rw [ih n q (h3 q (List.mem_of_getElem? hq)) (by omega)]
    simp only [Option.bind_some]
    have hkl := (List.getElem?_eq_some_iff.1 hq).1
    rw [V4 (by rw [hI]; simp only [Q8, List.length_cons, List.length_nil, List.length_map, List.length_take]; omega)]
    have hk1 : p.kids.take (k + 1) = p.kids.take k ++ [q] := by rw [List.take_add_one, hq]; rfl
    exact .some (by simp only [Q33]; rw [hI, hk1]; simp)
   ·rw [hI, List.take_length]
   ·subst hs
    dsimp only
    rw [W0f _ (fun l hl => by
     obtain ⟨q, hq, rfl⟩ := List.mem_map.1 hl
     have := Q9i d q (h3 q hq)
     intro e; rw [e] at this; simp at this) (by simpa using h1)]
    simp only [Option.bind_some]
    have hlen : (((p.kids.map (Z0 d)).foldl tupD [[]]).take 401).length ≤ 401 := by rw [List.length_take]; omega
    have hB : (Z0 (d + 1) p).take 401 = (((p.kids.map (Z0 d)).foldl tupD [[]]).take 401).map (Q63 p) := by simp only [Z0, if_neg h5, List.map_take]
    rw [hB]
    generalize ((p.kids.map (Z0 d)).foldl tupD [[]]).take 401 = X at hlen
    refine Ret.ctl (Z4 X (fun k u => u = (X.take k).map (Q63 p)) (fun _ => False) (fun u => u = X.map (Q63 p)) (by simp) (fun k q u hq hJ => ?_) (fun u hJ => ?_)) (fun r hr => hr.elim) (fun u hu => .some hu)
    ·have hkl := (List.getElem?_eq_some_iff.1 hq).1
     rw [V4 (by rw [hJ]; simp only [Q8, List.length_cons, List.length_nil, List.length_map, List.length_take]; omega)]
     have hk1 : X.take (k + 1) = X.take k ++ [q] := by rw [List.take_add_one, hq]; rfl
     exact .some (by simp only [Q33]; rw [hJ, hk1]; simp [Q63])
    ·rw [hJ, List.take_length]
end Go.Proofs.YtnackipaoepmfaaGreat
namespace Go.Proofs.YtnackipaoepmfaaGreat
open Go Go.RowKit
theorem Z5c : ∀ (d n : Nat) (p : Q0), Z7r d p → d ≤ n → cntP p ≤ 1000 → V5 n p = some (X1 d p)
 | 0, _, _, h, _, _ => h.elim
 | d + 1, n, p, h, hn, hc => by
  obtain ⟨n, rfl⟩ : ∃ m, n = m + 1 := ⟨n - 1, by omega⟩
  have hcp := Q2g p
  have hkid : ∀ q ∈ p.kids, V5 n q = some (X1 d q) := fun q hq => by
   obtain ⟨j, hj⟩ := List.mem_iff_getElem?.1 hq
   have := Q6n hj
   exact Z5c d n q (h q hq) (by omega) (by omega)
  have hlen : p.kids.length ≤ 1000 := by
   have : ∀ l : List Q0, l.length ≤ cntP.cntPs l := fun l => by
    induction l with
    | nil => simp
    | cons a l ih => have := Q7u a; simp only [List.length_cons, cntP.cntPs]; omega
   have := this p.kids
   omega
  have hloop := Q3x (ρ := Q0) (f := fun (k102 : Nat) x103 (s96 : (List Q0)) => ((V5 n x103).bind fun r110 => ((app s96 [r110]).bind fun x111 => some (Ctl.go x111)))) (fun q => [X1 d q]) 100000 p.kids 0 [] (fun k q hq s hs => by
   rw [hkid q hq]
   simp only [Option.bind_some]
   simp only [List.length_cons, List.length_nil] at hs
   rw [V4 (by simp only [List.length_cons, List.length_nil, Q8]; omega)]
   rfl) (by
    have : ∀ l : List Q0, (l.flatMap fun q => [X1 d q]).length = l.length := fun l => by induction l with | nil => rfl | cons a l ih => simp [ih]
    rw [this]; simp only [List.length_nil]; omega)
  have hfl : ∀ l : List Q0, (l.flatMap fun q => [X1 d q]) = l.map (X1 d) := fun l => by induction l with | nil => rfl | cons a l ih => simp [ih]
  rw [hfl] at hloop
  by_cases h2 : p.op = 2
  ·have e : ieq p.op 2 = true := by rw [W5]; exact h2
   have hb : X1 (d + 1) p = Q0.mk 1 0 0 0 0 [] := by simp [X1, h2]
   rw [hb]
   simp only [V5, e, if_true, Option.bind_some]
  ·have e : ieq p.op 2 = false := by rw [X8]; exact h2
   by_cases h6 : p.op = 6
   ·have e6 : ieq p.op 6 = true := by rw [W5]; exact h6
    cases hk : p.kids with
    | nil =>
     have e0 : ilt 0 (lenZ p.kids.length) = false := by rw [Q06, hk, Q1m]; simp
     rw [hk] at hloop
     simp only [V5, e, e6, e0, Bool.false_eq_true, if_false, if_true, Option.bind_some, X1, h2, hk]
     have e' := congrArg (fun z : Option (Ctl Q0 (List Q0)) => z.bind fun o => match o with | .ret r => some r | .go _ => none | .brk s => some (Q0.mk p.op p.ctor p.n p.m p.var s)) hloop
     refine e'.trans ?_
     simp
    | cons q ks =>
     have e0 : ilt 0 (lenZ p.kids.length) = true := by rw [W0, hk, Q1m]; simp
     have hq := hkid q (by simp [hk])
     have hix : idx p.kids 0 = some q := Q12 (i := 0) (by simp [hk])
     have hb : X1 (d + 1) p = X1 d q := by simp [X1, h6, hk]
     rw [hb]
     simp only [V5, e, e6, e0, Bool.false_eq_true, if_false, if_true, hix, Option.bind_some, hq]
   ·have e6 : ieq p.op 6 = false := by rw [X8]; exact h6
    simp only [V5, e, e6, Bool.false_eq_true, if_false, Option.bind_some, X1, h2, h6, false_and]
    have e' := congrArg (fun z : Option (Ctl Q0 (List Q0)) => z.bind fun o => match o with | .ret r => some r | .go _ => none | .brk s => some (Q0.mk p.op p.ctor p.n p.m p.var s)) hloop
    refine e'.trans ?_
    simp
theorem Z3s {w : List Q3} (hw : WW w) {n : Nat} {t : Q2} {p : Q0} (ht : t ∈ tys w) (g : Q13 w 10 t p = true) (hc : cntP p ≤ 1000) (hn : 100 ≤ n) : Q3z n p = some ((Z0 10 (X1 10 p)).take 401) := by
 have ha := Q6c Q89 10 t p g
 have ho := Z2u hw 10 t _ ht ha
 unfold Q3z
 rw [Z5c 10 n p (Q7f 10 t p g) (by omega) hc]
 simp only [Option.bind_some]
 rw [X0q 10 n _ ho (by omega)]
 rfl
end Go.Proofs.YtnackipaoepmfaaGreat
namespace Go.Proofs.YtnackipaoepmfaaGreat
open Go Go.RowKit
theorem X7t {w : List Q3} {t : Q2} {n : Nat} (hn : 10 ≤ n) : ∀ {l : List Q0}, (∀ p ∈ l, Y9 w t p = true) → l.length ≤ 100000 → Q3k n l = some l := fun {l} h hl => by
 unfold Q3k
 have hloop := Q3x (ρ := List Q0) (f := fun (k70 : Nat) x71 (s64 : (List Q0)) => ((Q20 n x71).bind fun r78 => ((app s64 [r78]).bind fun x79 => some (Ctl.go x79)))) (fun q => [q]) 1000000 l 0 [] (fun k q hq s hs => by
  obtain ⟨g, hc, _⟩ := J2 (h q hq)
  rw [Z5b 10 n q (Q7f 10 t q g) hn (by omega)]
  simp only [Option.bind_some]
  simp only [List.length_cons, List.length_nil] at hs
  rw [V4 (by simp only [List.length_cons, List.length_nil, Q8]; omega)]
  rfl) (by
   have : ∀ l : List Q0, (l.flatMap fun q => [q]).length = l.length := fun l => by induction l with | nil => rfl | cons a l ih => simp [ih]
   rw [this]; simp only [List.length_nil]; omega)
 have hfl : ∀ l : List Q0, (l.flatMap fun q => [q]) = l := fun l => by induction l with | nil => rfl | cons a l ih => simp [ih]
 rw [hfl] at hloop
 have e' := congrArg (fun z : Option (Ctl (List Q0) (List Q0)) => z.bind fun o => match o with | .ret r => some r | .go _ => none | .brk s => some s) hloop
 exact e'.trans (by simp)
theorem X0s {w : List Q3} (hw : WW w) {n : Nat} (hn : 100 ≤ n) {t : Q2} (ht : t ∈ tys w) (o : Option (List Q0)) (ho : ∀ l, o = some l → l.length ≤ 100000) :
  Q52 n w t (optR o).1 (optR o).2 = some (optR (Z0y w t o)) := by
 have hlp : ∀ (l : List Q0) (k : Nat), forL (ρ := (List Q0) × Bool) (fun k68 x69 (s62 : Unit) =>
   ((Q3o n w t x69).bind fun r76 =>
   (if (!r76) = true then
   some (Ctl.ret (([], false)))
   else
   some (Ctl.go ())))) k l () = some (if l.all (Y9 w t) = true then .brk () else .ret ([], false)) := by
  intro l
  induction l with
  | nil => intro k; simp [forL]
  | cons a l ih =>
   intro k
   unfold forL
   rw [Z1v hw hn t a ht]
   simp only [Option.bind_some, List.all_cons]
   rcases Bool.eq_false_or_eq_true (Y9 w t a) with hv | hv
   ·simp only [hv, Bool.not_true, Bool.false_eq_true, if_false, Bool.true_and]
    exact ih (k + 1)
   ·simp [hv]
 unfold Q52
 cases o with
 | none =>
  have hnil : Q3k n [] = some [] := by simp [Q3k, forL]
  simp [optR, Z0y, forL, hnil]
 | some l =>
  simp only [optR, Z0y]
  have e' := congrArg (fun z : Option (Ctl (List Q0 × Bool) Unit) => z.bind fun o => match o with | .ret r => some r | .go _ => none | .brk _ => (Q3k n l).bind fun r => some (r, true)) (hlp l 0)
  refine e'.trans ?_
  by_cases h : l.all (Y9 w t) = true
  ·simp only [if_pos h, Option.bind_some]
   rw [X7t (by omega) (fun p hp => List.all_eq_true.1 h p hp) (ho l rfl)]
   rfl
  ·simp only [if_neg h, Option.bind_some, optR]
end Go.Proofs.YtnackipaoepmfaaGreat
namespace Go.Proofs.YtnackipaoepmfaaGreat
open Go Go.RowKit
theorem Z9w : ∀ (d : Nat) (p : Q0), cntP (X1 d p) ≤ cntP p
 | 0, p => by simp [X1]
 | d + 1, p => by
  have hp := Q2g p
  simp only [X1]
  split
  ·simp only [cntP, cntP.cntPs]; omega
  ·split
   ·rename_i h
    cases hk : p.kids with
    | nil => exact absurd hk h.2
    | cons q ks =>
     have := Z9w d q
     rw [hk] at hp
     simp only [cntP.cntPs] at hp
     simp only [List.headD_cons]
     omega
   ·have : ∀ l : List Q0, cntP.cntPs (l.map (X1 d)) ≤ cntP.cntPs l := fun l => by
     induction l with
     | nil => simp
     | cons a l ih => have := Z9w d a; simp only [List.map_cons, cntP.cntPs]; omega
    have := this p.kids
    rw [Q2g]
    simp only
    omega
theorem Z56 : ∀ (d : Nat) (p : Q0), ∀ q ∈ Z0 d p, cntP q ≤ cntP p
 | 0, _, _, h => by simp [Z0] at h
 | d + 1, p, q, h => by
  have hp := Q2g p
  simp only [Z0] at h
  split at h
  ·obtain ⟨k, hk, hq⟩ := List.mem_flatMap.1 h
   have h1 := Z56 d k q hq
   obtain ⟨j, hj⟩ := List.mem_iff_getElem?.1 hk
   have := Q6n hj
   omega
  ·obtain ⟨cs, hcs, rfl⟩ := List.mem_map.1 h
   have hm := Z29.1 hcs
   have : ∀ (ks cs : List Q0), MemL cs (ks.map (Z0 d)) → cntP.cntPs cs ≤ cntP.cntPs ks := fun ks => by
    induction ks with
    | nil => intro cs h; have := h.1; simp at this; subst this; simp
    | cons k ks ih =>
     intro cs h
     cases cs with
     | nil => have := h.1; simp at this
     | cons c cs =>
      rw [List.map_cons, Q9u] at h
      have h1 := Z56 d k c h.1
      have h2 := ih cs h.2
      simp only [cntP.cntPs]
      omega
   have := this p.kids cs hm
   rw [Q2g]
   simp only [Q63]
   omega
theorem X1d {p : Q0} {l : List Q0} (h : Q3v p = some l) : ∀ q ∈ l, cntP q ≤ cntP p := fun q hq => by
 rw [(Q78 h).2] at hq
 exact Nat.le_trans (Z56 10 _ q hq) (Z9w 10 p)
end Go.Proofs.YtnackipaoepmfaaGreat
namespace Go.Proofs.YtnackipaoepmfaaGreat
open Go Go.RowKit
def sepP (w : List Q3) (t : Q2) : List Q0 → List Q0 → Option (List Q0)
 | _, [] => some []
 | bef, p :: ps => (Q3c w 10 11 t [p] bef).bind fun m => (sepP w t (bef ++ [p]) ps).map (m ++ ·)
theorem X3k {w : List Q3} (hw : WW w) (he : WE w) {t : Q2} (ht : t ∈ tys w) {e : Nat} {v : Q4} (hv : Q0y w e t v) : ∀ (ps bef r : List Q0), (∀ b ∈ bef, Z3 w 10 t b) → (∀ p ∈ ps, Z3 w 10 t p) → sepP w t bef ps = some r →
  ((∃ y ∈ r, fitP y v = true) ↔ (∃ p ∈ ps, fitP p v = true) ∧ ∀ b ∈ bef, fitP b v = false)
 | [], _, r, _, _, e => by simp only [sepP, Option.some.injEq] at e; subst e; simp
 | p :: ps, bef, r, hb, hp, e => by
  simp only [sepP] at e
  cases hm : Q3c w 10 11 t [p] bef with
  | none => rw [hm] at e; simp at e
  | some m =>
   rw [hm] at e
   simp only [Option.bind_some, Option.map_eq_some_iff] at e
   obtain ⟨r2, h2, rfl⟩ := e
   have h3 := Z50 hw he ht (by omega) hv hb (fun a ha => by simp only [List.mem_singleton] at ha; rw [ha]; exact Q50 10 t p (hp p (by simp))) hm
   have h4 := X3k hw he ht hv ps (bef ++ [p]) r2 (fun b hb' => by
     rcases List.mem_append.1 hb' with h | h
     ·exact hb b h
     ·simp only [List.mem_singleton] at h; rw [h]; exact hp p (by simp)) (fun q hq => hp q (by simp [hq])) h2
   constructor
   ·rintro ⟨y, hy, hf⟩
    rcases List.mem_append.1 hy with hy | hy
    ·obtain ⟨⟨a, ha, haf⟩, hbf⟩ := h3.1 ⟨y, hy, hf⟩
     simp only [List.mem_singleton] at ha
     subst ha
     exact ⟨⟨a, by simp, haf⟩, hbf⟩
    ·obtain ⟨⟨a, ha, haf⟩, hbf⟩ := h4.1 ⟨y, hy, hf⟩
     exact ⟨⟨a, by simp [ha], haf⟩, fun b hb' => hbf b (by simp [hb'])⟩
   ·rintro ⟨⟨a, ha, haf⟩, hbf⟩
    cases hpf : fitP p v with
    | true =>
     obtain ⟨y, hy, hf⟩ := h3.2 ⟨⟨p, by simp, hpf⟩, hbf⟩
     exact ⟨y, by simp [hy], hf⟩
    | false =>
     rcases List.mem_cons.1 ha with rfl | ha
     ·rw [hpf] at haf; cases haf
     ·obtain ⟨y, hy, hf⟩ := h4.2 ⟨⟨a, ha, haf⟩, fun b hb' => by
       rcases List.mem_append.1 hb' with h | h
       ·exact hbf b h
       ·simp only [List.mem_singleton] at h; rw [h]; exact hpf⟩
      exact ⟨y, by simp [hy], hf⟩
theorem Z26 {w : List Q3} {t : Q2} {e : Nat} {v : Q4} (hv : Q0y w e t v) {p : Q0} (g : Q13 w 10 t p = true) {l : List Q0} (h : Q3v p = some l) : (∃ q ∈ l, fitP q v = true) ↔ (W6 10 p v).isSome = true := by
 obtain ⟨_, rfl⟩ := Q78 h
 exact (Q9w (fun t h => Q89 t h) 10 e t p v g hv).symm
theorem Q6x {w : List Q3} {t : Q2} {p : Q0} (g : Q13 w 10 t p = true) {l : List Q0} (h : Q3v p = some l) : ∀ q ∈ l, Z3 w 10 t q := by
 obtain ⟨_, rfl⟩ := Q78 h
 exact Z0a 10 t _ (Q6c (fun t h => Q89 t h) 10 t p g)
theorem X7v {w : List Q3} {t : Q2} {o : Option (List Q0)} {r : List Q0} (h : Z0y w t o = some r) : o = some r := by
 cases o with
 | none => simp [Z0y] at h
 | some l =>
  simp only [Z0y] at h
  split at h
  ·exact h
  ·cases h
end Go.Proofs.YtnackipaoepmfaaGreat
