import Derived.KernelRfl
import Derived.Test.YtbdkbdafhlcilaaGreatCJE1
import Derived.Test.YtbdkbdafhlcilaaGreatCJMir
set_option linter.unusedSimpArgs false
set_option linter.unusedVariables false
namespace Go.Proofs.YtbdkbdafhlcilaaGreat
open Go Go.RowKit
def Ret {α : Type} (x : Option α) (Q : α → Prop) : Prop := ∃ a, x = some a ∧ Q a
theorem Ret.some {α : Type} {a : α} {Q : α → Prop} (h : Q a) : Ret (some a) Q := ⟨a, rfl, h⟩
theorem Ret.bind {α β : Type} {x : Option α} {f : α → Option β} {P : α → Prop} {Q : β → Prop} (hx : Ret x P) (hf : ∀ a, P a → Ret (f a) Q) : Ret (x.bind f) Q := by
 obtain ⟨a, rfl, ha⟩ := hx
 exact hf a ha
theorem Ret.bindE {α β : Type} {x : Option α} {f : α → Option β} {a : α} {Q : β → Prop} (hx : x = Option.some a) (hf : Ret (f a) Q) : Ret (x.bind f) Q := by
 subst hx
 exact hf
theorem Ret.mono {α : Type} {x : Option α} {P Q : α → Prop} (h : ∀ a, P a → Q a) (hx : Ret x P) : Ret x Q := by
 obtain ⟨a, e, ha⟩ := hx
 exact ⟨a, e, h a ha⟩
theorem Ret.ite {α : Type} {b : Bool} {x y : Option α} {Q : α → Prop} (h1 : b = true → Ret x Q) (h2 : b = false → Ret y Q) : Ret (if b = true then x else y) Q := by
 cases b
 ·exact h2 rfl
 ·exact h1 rfl
theorem Ret.of {α : Type} {x : Option α} {a : α} {Q : α → Prop} (h : x = Option.some a) (hq : Q a) : Ret x Q := ⟨a, h, hq⟩
theorem Ret.get {α : Type} {x : Option α} {Q : α → Prop} {a : α} (h : Ret x Q) (e : x = Option.some a) : Q a := by
 obtain ⟨b, e2, hb⟩ := h
 rw [e] at e2
 cases e2
 exact hb
def CtlQ {ρ σ : Type} (R : ρ → Prop) (B : σ → Prop) : Ctl ρ σ → Prop
 | .ret r => R r
 | .brk s => B s
 | .go _ => False
def RndQ {ρ σ : Type} (R : ρ → Prop) (B G : σ → Prop) : Ctl ρ σ → Prop
 | .ret r => R r
 | .brk s => B s
 | .go s => G s
@[simp] theorem X72 {ρ σ : Type} (R : ρ → Prop) (B G : σ → Prop) (r : ρ) : RndQ R B G (.ret r) = R r := rfl
@[simp] theorem Z5u {ρ σ : Type} (R : ρ → Prop) (B G : σ → Prop) (s : σ) : RndQ R B G (.brk s) = B s := rfl
@[simp] theorem Q4z {ρ σ : Type} (R : ρ → Prop) (B G : σ → Prop) (s : σ) : RndQ R B G (.go s) = G s := rfl
@[simp] theorem V91 {ρ σ : Type} (R : ρ → Prop) (B : σ → Prop) (r : ρ) : CtlQ R B (.ret r) = R r := rfl
@[simp] theorem X8d {ρ σ : Type} (R : ρ → Prop) (B : σ → Prop) (s : σ) : CtlQ R B (.brk s) = B s := rfl
theorem Z1 {α σ ρ : Type} {f : Nat → α → σ → Option (Ctl ρ σ)} (xs : List α) {s0 : σ} (I : Nat → σ → Prop) (R : ρ → Prop) (B : σ → Prop)
  (h0 : I 0 s0) (step : ∀ k x s, xs[k]? = some x → I k s → Ret (f k x s) (RndQ R B (I (k + 1)))) (stop : ∀ s, I xs.length s → B s) :
  Ret (forL f 0 xs s0) (CtlQ R B) := by
 have key : ∀ (ys : List α) (k : Nat) (s : σ), xs.drop k = ys → k ≤ xs.length → I k s → Ret (forL f k ys s) (CtlQ R B) := by
  intro ys
  induction ys with
  | nil =>
   intro k s hd hk hs
   have : k = xs.length := by
    have := congrArg List.length hd
    simp at this
    omega
   subst this
   exact .some (stop s hs)
  | cons y ys ih =>
   intro k s hd hk hs
   have hlt : k < xs.length := by
    have := congrArg List.length hd
    simp at this
    omega
   rw [List.drop_eq_getElem_cons hlt] at hd
   injection hd with h1 h2
   have hx : xs[k]? = some y := by rw [List.getElem?_eq_getElem hlt, h1]
   obtain ⟨o, ho, hq⟩ := step k y s hx hs
   unfold forL
   rw [ho]
   cases o with
   | ret r => exact .some hq
   | brk s' => exact .some hq
   | go s' => exact ih (k + 1) s' h2 hlt hq
 exact key xs 0 s0 rfl (Nat.zero_le _) h0
theorem Q3l {σ ρ : Type} {f : σ → Option (Ctl ρ σ)} {s0 : σ} (I : σ → Prop) (μ : σ → Nat) (R : ρ → Prop) (B : σ → Prop) (h0 : I s0)
  (step : ∀ s, I s → Ret (f s) (RndQ R B (fun s' => I s' ∧ μ s' < μ s))) : ∀ n, μ s0 < n → Ret (whileL f n s0) (CtlQ R B) := by
 have key : ∀ n s, I s → μ s < n → Ret (whileL f n s) (CtlQ R B) := by
  intro n
  induction n with
  | zero => intro s _ h; omega
  | succ n ih =>
   intro s hs hn
   obtain ⟨o, ho, hq⟩ := step s hs
   unfold whileL
   rw [ho]
   cases o with
   | ret r => exact .some hq
   | brk s' => exact .some hq
   | go s' => exact ih s' hq.1 (by have := hq.2; omega)
 exact fun n hn => key n s0 h0 hn
theorem Ret.ctl {ρ σ τ : Type} {x : Option (Ctl ρ σ)} {g : Ctl ρ σ → Option τ} {R : ρ → Prop} {B : σ → Prop} {Q : τ → Prop} (h : Ret x (CtlQ R B)) (hr : ∀ r, R r → Ret (g (.ret r)) Q) (hb : ∀ s, B s → Ret (g (.brk s)) Q) : Ret (x.bind g) Q := by
 obtain ⟨o, rfl, ho⟩ := h
 cases o with
 | ret r => exact hr r ho
 | brk s => exact hb s ho
 | go s => exact ho.elim
theorem W6 {α : Type} {xs ys : List α} (h : xs.length + ys.length ≤ Q6) : app xs ys = some (xs ++ ys) := by simp [app, h]
theorem Q2a {α : Type} {xs : List α} {i : Nat} {x : α} (h : xs[i]? = some x) : idx xs (i : Int) = some x := by simp [idx, h]
theorem W39 {α : Type} {xs : List α} {i : Int} {x : α} (h0 : 0 ≤ i) (h : xs[i.toNat]? = some x) : idx xs i = some x := by simp [idx, h, h0]
theorem Q4a {α : Type} {xs : List α} {i : Int} (h0 : 0 ≤ i) (h : i < xs.length) : ∃ x, idx xs i = some x ∧ x ∈ xs := by
 have hl : i.toNat < xs.length := by omega
 exact ⟨xs[i.toNat], by simp [idx, h0, hl], List.getElem_mem hl⟩
theorem Z7u {b : Bool} (h : b = true) : chk b = some () := by simp [chk, h]
theorem Z4 {a b : Int} : (ieq a b = true) = (a = b) := by simp [ieq]
theorem Z8 {a b : Int} : (ieq a b = false) = (a ≠ b) := by simp [ieq]
theorem X0 {a b : Int} : (ilt a b = true) = (a < b) := by simp [ilt]
theorem J8 {a b : Int} : (ilt a b = false) = (b ≤ a) := by simp [ilt]
theorem Q03 {a b : Int} : (ile a b = true) = (a ≤ b) := by simp [ile]
theorem Q25 {a b : Int} : (ile a b = false) = (b < a) := by simp [ile]
theorem Q09 {a b : Int} (h1 : -9223372036854775808 ≤ a + b) (h2 : a + b ≤ 9223372036854775807) : wadd .i64 a b = a + b := by unfold wadd; exact Z4o h1 h2
theorem Q3k {a b : Int} (h1 : -9223372036854775808 ≤ a - b) (h2 : a - b ≤ 9223372036854775807) : wsub .i64 a b = a - b := by unfold wsub; exact Z4o h1 h2
theorem Q7f {a b : Int} (h1 : -9223372036854775808 ≤ a * b) (h2 : a * b ≤ 9223372036854775807) : wmul .i64 a b = a * b := by unfold wmul; exact Z4o h1 h2
theorem Z8t {a : Int} (h1 : -9223372036854775808 ≤ a) (h2 : a ≤ 9223372036854775807) : wcv .i64 a = a := by unfold wcv; exact Z4o h1 h2
theorem Z9w {a b : Int} (h1 : -9223372036854775808 ≤ a.tdiv b) (h2 : a.tdiv b ≤ 9223372036854775807) : wquo .i64 a b = a.tdiv b := by unfold wquo; exact Z4o h1 h2
theorem Q0k (n : Nat) : lenZ n = (n : Int) := rfl
end Go.Proofs.YtbdkbdafhlcilaaGreat
namespace Go.Proofs.YtbdkbdafhlcilaaGreat
open Go Go.RowKit
abbrev NN : Nat := 30000000
instance : DecidableEq Q2 := fun a b => decidable_of_iff (a.data = b.data ∧ a.index = b.index) ⟨fun h => by cases a; cases b; simp at h; simp [h], fun h => by subst h; simp⟩
def by_ (l : List Nat) : ByteArray := ⟨(l.map UInt8.ofNat).toArray⟩
def tI : Q2 := ⟨-1, 0⟩
def tD (d i : Int) : Q2 := ⟨d, i⟩
def w0 : List Q3 := [⟨by_ [76], [⟨by_ [78, 105, 108], [], 0⟩, ⟨by_ [67, 111, 110, 115], [tI, tD 0 0], 0⟩]⟩]
def w1 : List Q3 := [⟨by_ [66], [⟨by_ [84, 114, 117], [], 0⟩, ⟨by_ [70, 108, 115], [], 0⟩]⟩, ⟨by_ [84], [⟨by_ [76, 101, 97, 102], [], 0⟩, ⟨by_ [78, 111, 100, 101], [tD 1 0, tD 0 0, tD 1 0], 0⟩]⟩]
def w2 : List Q3 := [⟨by_ [69], [⟨by_ [78, 117, 109], [tI], 1⟩, ⟨by_ [66, 111, 108], [tD 1 0], 2⟩, ⟨by_ [65, 100, 100], [tD 0 1, tD 0 1], 1⟩, ⟨by_ [73, 102], [tD 0 2, tD 0 (-1), tD 0 (-1)], 0⟩]⟩, ⟨by_ [66], [⟨by_ [84, 114, 117], [], 0⟩, ⟨by_ [70, 108, 115], [], 0⟩]⟩]
def w3 : List Q3 := [⟨by_ [79], [⟨by_ [78, 111, 110], [], 0⟩, ⟨by_ [83, 111, 109], [tI], 0⟩]⟩, ⟨by_ [80], [⟨by_ [80, 97, 105, 114], [tD 0 0, tD 0 0], 0⟩]⟩]
def w4 : List Q3 := [⟨by_ [86], [⟨by_ [69, 110, 100], [], 1⟩, ⟨by_ [83, 111, 109, 101], [tI, tD 0 1], 2⟩, ⟨by_ [84, 119, 111], [tD 0 (-1)], 0⟩]⟩]
def w5 : List Q3 := [⟨by_ [78], [⟨by_ [78, 101, 118, 101, 114], [tD 0 0], 0⟩]⟩, ⟨by_ [66], [⟨by_ [84, 114, 117], [], 0⟩, ⟨by_ [70, 108, 115], [], 0⟩, ⟨by_ [77, 97, 121], [tD 0 0], 0⟩]⟩]
def w6 : List Q3 := [⟨by_ [83], [⟨by_ [82, 101, 100], [], 0⟩, ⟨by_ [71, 114, 101, 101, 110], [], 0⟩, ⟨by_ [66, 108, 117, 101], [], 0⟩, ⟨by_ [77, 105, 120], [tD 0 0, tD 0 0], 0⟩]⟩]
def Q0g : List (List Q3) := [w0, w1, w2, w3, w4, w5, w6]
def X0x (i : Nat) : Option (List Q3 × Bool) := Q4u.bind fun r => (idx r (i : Int)).bind fun x => Q5h NN x
theorem V7e : X0x 0 = some (w0, true) := by kernel_rfl
theorem V7d : X0x 1 = some (w1, true) := by kernel_rfl
theorem V7c : X0x 2 = some (w2, true) := by kernel_rfl
theorem V7b : X0x 3 = some (w3, true) := by kernel_rfl
theorem V7a : X0x 4 = some (w4, true) := by kernel_rfl
theorem V79 : X0x 5 = some (w5, true) := by kernel_rfl
theorem V78 : X0x 6 = some (w6, true) := by kernel_rfl
theorem W8l {i : Nat} (h : i < 7) : ∃ w, X0x i = some (w, true) ∧ w ∈ Q0g := by
 match i, h with
 | 0, _ => exact ⟨_, V7e, by simp [Q0g]⟩
 | 1, _ => exact ⟨_, V7d, by simp [Q0g]⟩
 | 2, _ => exact ⟨_, V7c, by simp [Q0g]⟩
 | 3, _ => exact ⟨_, V7b, by simp [Q0g]⟩
 | 4, _ => exact ⟨_, V7a, by simp [Q0g]⟩
 | 5, _ => exact ⟨_, V79, by simp [Q0g]⟩
 | 6, _ => exact ⟨_, V78, by simp [Q0g]⟩
def tys (w : List Q3) : List Q2 := tI :: (List.range w.length).flatMap fun (d : Nat) => (List.range 4).map fun (i : Nat) => tD d i
def Z9 (w : List Q3) (t : Q2) : List Int := (W0 w t).getD []
def Z5 (w : List Q3) (t : Q2) (k : Int) : List Q2 := (Q0d w t k).getD []
def tabP (w : List Q3) : List Int := (Q1c NN w).getD []
def depP (w : List Q3) (t : Q2) : Int := (Q1x (tabP w) t).getD 0
def Q5w (w : List Q3) (t : Q2) (k : Int) : Int := (Q4h w (tabP w) t k).getD 0
def chkT (w : List Q3) (t : Q2) : Bool :=
 decide (W0 w t = some (Z9 w t)) && decide (Q0y w t = some (Z9 w t)) &&
 (Z9 w t).all (fun k => decide (Q0d w t k = some (Z5 w t k)) && decide (Q06 w t k = some (Z5 w t k)) && (Z5 w t k).all (fun a => decide (a ∈ tys w)) && decide ((Z5 w t k).length ≤ 3) &&
  decide (Q4h w (tabP w) t k = some (Q5w w t k)) && decide (0 ≤ Q5w w t k) && (decide (Q5w w t k = 0) || (Z5 w t k).all (fun a => decide (1 ≤ depP w a) && decide (depP w a < Q5w w t k)))) &&
 decide (Q6q w t = some true) && decide (Q88 w t = some true) && decide (Q1x (tabP w) t = some (depP w t)) && decide (0 ≤ depP w t) && decide (depP w t ≤ 4) && decide ((Z9 w t).length ≤ 4) &&
 (decide (t.data = -1) || decide (depP w t = 0) || (Z9 w t).any (fun k => decide (Q5w w t k = depP w t))) && (decide (t.data ≠ -1) || (decide (t = tI) && decide (depP w t = 1)))
def chkW (w : List Q3) : Bool :=
 (tys w).all (chkT w) && decide (Q1c NN w = some (tabP w)) && decide (Q48 NN w = some true) && decide (Q2k NN w = some true) && decide (0 < w.length) && decide (w.length ≤ 2)
theorem W4k : Q0g.all chkW = true := by kernel_rfl
structure WT (w : List Q3) (t : Q2) : Prop where
 c1 : W0 w t = some (Z9 w t)
 c2 : Q0y w t = some (Z9 w t)
 a1 : ∀ k ∈ Z9 w t, Q0d w t k = some (Z5 w t k)
 a2 : ∀ k ∈ Z9 w t, Q06 w t k = some (Z5 w t k)
 at_ : ∀ k ∈ Z9 w t, ∀ a ∈ Z5 w t k, a ∈ tys w
 al : ∀ k ∈ Z9 w t, (Z5 w t k).length ≤ 3
 m1 : ∀ k ∈ Z9 w t, Q4h w (tabP w) t k = some (Q5w w t k)
 m0 : ∀ k ∈ Z9 w t, 0 ≤ Q5w w t k
 ma : ∀ k ∈ Z9 w t, Q5w w t k ≠ 0 → ∀ a ∈ Z5 w t k, 1 ≤ depP w a ∧ depP w a < Q5w w t k
 t1 : Q6q w t = some true
 t2 : Q88 w t = some true
 d1 : Q1x (tabP w) t = some (depP w t)
 d0 : 0 ≤ depP w t
 d4 : depP w t ≤ 4
 cl : (Z9 w t).length ≤ 4
 dm : t.data ≠ -1 → depP w t ≠ 0 → ∃ k ∈ Z9 w t, Q5w w t k = depP w t
 ti : t.data = -1 → t = tI ∧ depP w t = 1
structure WW (w : List Q3) : Prop where
 ty : ∀ t ∈ tys w, WT w t
 tab : Q1c NN w = some (tabP w)
 v1 : Q48 NN w = some true
 v2 : Q2k NN w = some true
 pos : 0 < w.length
 le : w.length ≤ 2
theorem V2d {w : List Q3} {t : Q2} (h : chkT w t = true) : WT w t := by
 simp only [chkT, Bool.and_eq_true, Bool.or_eq_true, decide_eq_true_eq, List.all_eq_true, List.any_eq_true] at h
 obtain ⟨⟨⟨⟨⟨⟨⟨⟨⟨⟨h1, h2⟩, h3⟩, h4⟩, h5⟩, h6⟩, h7⟩, h8⟩, h9⟩, h10⟩, h11⟩ := h
 have hk : ∀ k ∈ Z9 w t, _ := h3
 refine ⟨h1, h2, fun k hk => (h3 k hk).1.1.1.1.1.1, fun k hk => (h3 k hk).1.1.1.1.1.2, fun k hk => (h3 k hk).1.1.1.1.2, fun k hk => (h3 k hk).1.1.1.2, fun k hk => (h3 k hk).1.1.2, fun k hk => (h3 k hk).1.2, fun k hk hm a ha => ?_, h4, h5, h6, h7, h8, h9, fun hd h0 => ?_, fun hd => ?_⟩
 ·rcases (h3 k hk).2 with h | h
  ·exact absurd h hm
  ·exact h a ha
 ·rcases h10 with (h | h) | h
  ·exact absurd h hd
  ·exact absurd h h0
  ·exact h
 ·rcases h11 with h | h
  ·exact absurd hd h
  ·exact h
theorem ww {w : List Q3} (h : w ∈ Q0g) : WW w := by
 have h := List.all_eq_true.1 W4k w h
 simp only [chkW, Bool.and_eq_true, decide_eq_true_eq, List.all_eq_true] at h
 obtain ⟨⟨⟨⟨⟨h1, h2⟩, h3⟩, h4⟩, h5⟩, h6⟩ := h
 exact ⟨fun t ht => V2d (h1 t ht), h2, h3, h4, h5, h6⟩
end Go.Proofs.YtbdkbdafhlcilaaGreat
namespace Go.Proofs.YtbdkbdafhlcilaaGreat
open Go Go.RowKit
instance : DecidableEq Q8 := fun a b => decidable_of_iff (a.var = b.var ∧ a.typ = b.typ) ⟨fun h => by cases a; cases b; simp at h; simp [h], fun h => by subst h; simp⟩
theorem V04 (l : List Int) (x : Int) : Q53 l x = some (decide (x ∈ l)) := by
 have h : Ret (Q53 l x) (fun b => b = decide (x ∈ l)) := by
  unfold Q53
  refine Ret.ctl (Z1 l (fun k _ => ∀ j, j < k → l[j]? ≠ some x) (fun r => r = true ∧ x ∈ l) (fun _ => x ∉ l) (fun j hj => by omega) (fun k y s hy hI => ?_) (fun s hI => ?_)) (fun r hr => ?_) (fun s hs => ?_)
  ·refine Ret.ite (fun h => ?_) (fun h => ?_)
   ·rw [Z4] at h
    exact .some ⟨rfl, h ▸ List.mem_of_getElem? hy⟩
   ·rw [Z8] at h
    refine .some (fun j hj => ?_)
    by_cases hjk : j = k
    ·subst hjk
     rw [hy]
     simpa using h
    ·exact hI j (by omega)
  ·intro hm
   obtain ⟨j, hj⟩ := List.mem_iff_getElem?.1 hm
   exact hI j ((List.getElem?_eq_some_iff.1 hj).1) hj
  ·obtain ⟨rfl, hx⟩ := hr
   exact .some (by simp [hx])
  ·exact .some (by simp [hs])
 obtain ⟨b, hb, rfl⟩ := h
 exact hb
theorem Z16 (l : List Int) (x : Int) : J7 l x = some (decide (x ∈ l)) := by
 have h : Ret (J7 l x) (fun b => b = decide (x ∈ l)) := by
  unfold J7
  refine Ret.bind (P := fun r => (0 ≤ r ∧ x ∈ l) ∨ (r = -1 ∧ x ∉ l)) ?_ (fun a ha => ?_)
  ·unfold Q50
   refine Ret.ctl (Z1 l (fun k _ => ∀ j, j < k → l[j]? ≠ some x) (fun r => 0 ≤ r ∧ x ∈ l) (fun _ => x ∉ l) (fun j hj => by omega) (fun k y s hy hI => ?_) (fun s hI => ?_)) (fun r hr => ?_) (fun s hs => ?_)
   ·refine Ret.ite (fun h => ?_) (fun h => ?_)
    ·rw [Z4] at h
     exact .some ⟨by omega, h ▸ List.mem_of_getElem? hy⟩
    ·rw [Z8] at h
     refine .some (fun j hj => ?_)
     by_cases hjk : j = k
     ·subst hjk
      rw [hy]
      simpa using fun e => h e.symm
     ·exact hI j (by omega)
   ·intro hm
    obtain ⟨j, hj⟩ := List.mem_iff_getElem?.1 hm
    exact hI j ((List.getElem?_eq_some_iff.1 hj).1) hj
   ·exact .some (.inl hr)
   ·exact .some (.inr ⟨rfl, hs⟩)
  ·rcases ha with ⟨h1, h2⟩ | ⟨rfl, h2⟩
   ·exact .some (by simp [ile, h1, h2])
   ·exact .some (by simp [ile, h2])
 obtain ⟨b, hb, rfl⟩ := h
 exact hb
theorem Q7w {α : Type} (l : List α) (f : α → Option Bool) (g : α → Bool) (hf : ∀ x ∈ l, f x = some (g x)) :
  Ret ((forL (fun (k : Nat) (x : α) (s : Unit) => ((f x).bind fun r => (if r = true then some (Ctl.ret (k : Int)) else some (Ctl.go ())))) 0 l ()).bind fun (o : Ctl Int Unit) => match o with
   | .ret r => some r
   | .go _ => none
   | .brk _ => some (-1)) (fun i => (∃ k x, i = ((k : Nat) : Int) ∧ l[k]? = some x ∧ g x = true) ∨ (i = -1 ∧ ∀ x ∈ l, g x = false)) := by
 refine Ret.ctl (Z1 l (fun k _ => ∀ j x, j < k → l[j]? = some x → g x = false) (fun i => ∃ k x, i = ((k : Nat) : Int) ∧ l[k]? = some x ∧ g x = true) (fun _ => ∀ x ∈ l, g x = false) (fun j x hj => by omega) (fun k y s hy hI => ?_) (fun s hI => ?_)) (fun r hr => ?_) (fun s hs => ?_)
 ·rw [hf y (List.mem_of_getElem? hy)]
  show Ret (if g y = true then _ else _) _
  refine Ret.ite (fun h => ?_) (fun h => ?_)
  ·exact .some ⟨k, y, rfl, hy, h⟩
  ·refine .some (fun j x hj hx => ?_)
   by_cases hjk : j = k
   ·subst hjk
    rw [hy] at hx
    cases hx
    exact h
   ·exact hI j x (by omega) hx
 ·intro x hm
  obtain ⟨j, hj⟩ := List.mem_iff_getElem?.1 hm
  exact hI j x ((List.getElem?_eq_some_iff.1 hj).1) hj
 ·exact .some (.inl hr)
 ·exact .some (.inr ⟨rfl, hs⟩)
theorem X44 {α : Type} {l : List α} {g : α → Bool} {x : Option Int} (h : Ret x (fun i => (∃ k x, i = ((k : Nat) : Int) ∧ l[k]? = some x ∧ g x = true) ∨ (i = -1 ∧ ∀ x ∈ l, g x = false))) : (x.bind fun r => some (ile 0 r)) = some (l.any g) := by
 obtain ⟨i, rfl, h⟩ := h
 rcases h with ⟨k, x, rfl, h2, h3⟩ | ⟨rfl, h2⟩
 ·have : l.any g = true := List.any_eq_true.2 ⟨x, List.mem_of_getElem? h2, h3⟩
  rw [this]
  simp [ile]
 ·have : l.any g = false := by simpa using h2
  rw [this]
  simp [ile]
theorem Z09 (l : List Q5) (f : Q5 → Option Bool) (g : Q5 → Bool) (hf : ∀ x ∈ l, f x = some (g x)) : V7 l f = some (l.any g) := X44 (Q7w l f g hf)
theorem Z4i (l : List Q8) (f : Q8 → Option Bool) (g : Q8 → Bool) (hf : ∀ x ∈ l, f x = some (g x)) : Q10 l f = some (l.any g) := X44 (Q7w l f g hf)
theorem W8k (a b : Q8) : Q7l [ieq a.var b.var, ieq a.typ.data b.typ.data, ieq a.typ.index b.typ.index] = decide (a = b) := by
 obtain ⟨v, d, i⟩ := a
 obtain ⟨v', d', i'⟩ := b
 simp [Q7l, ieq]
theorem Z7t (l : List Q8) (x : Q8) : Q08 l x = some (decide (x ∈ l)) := by
 have := X44 (Q7w l (fun y => some (decide (x = y))) (fun y => decide (x = y)) (fun _ _ => rfl))
 have e : l.any (fun y => decide (x = y)) = decide (x ∈ l) := by
  rw [Bool.eq_iff_iff]
  simp
 rw [e] at this
 unfold Q08 Q30
 simp only [W8k]
 exact this
theorem X4x (a b : List Q8) : Q55 a b = some (decide (a.length = b.length) && a.all fun v => decide (v ∈ b)) := by
 unfold Q55
 by_cases h : a.length = b.length
 ·have h1 : ieq (lenZ a.length) (lenZ b.length) = true := by rw [Z4]; simp [lenZ, h]
  rw [if_pos h1, Z4i a _ (fun v => !decide (v ∈ b)) (fun x _ => by unfold Q5i; rw [Z7t]; rfl)]
  simp only [Option.bind_some, h, decide_true, Bool.true_and, Option.some.injEq]
  rw [Bool.eq_iff_iff]
  simp
 ·have h1 : ¬ ieq (lenZ a.length) (lenZ b.length) = true := by rw [Z4]; simp only [lenZ]; omega
  rw [if_neg h1]
  simp [h]
def Q7i (w : List Q3) (t : Q2) (p : Q0) : Bool :=
 (if p.op = 2 ∨ p.op = 6 then decide (0 ≤ p.var) && decide (p.var ≤ 5) else decide (p.var = 0)) && (decide (p.op = 3) || (decide (p.n = 0) && decide (p.m = 0))) && (decide (p.op = 4) || decide (p.ctor = 0)) &&
 (decide (p.op = 1 ∨ p.op = 2 ∨ p.op = 5 ∨ p.op = 6) || (decide (p.op = 3) && decide (t.data = -1) && decide (0 ≤ p.n) && decide (p.n ≤ p.m) && decide (p.m ≤ 9)) || (decide (p.op = 4) && decide (p.ctor ∈ Z9 w t)))
def V6 (w : List Q3) (t : Q2) (p : Q0) : List Q2 := if p.op = 4 then Z5 w t p.ctor else if p.op = 5 then [t, t] else if p.op = 6 then [t] else []
def Q5v (w : List Q3) (t : Q2) (p : Q0) : Bool := Q7i w t p && decide (p.kids.length = (V6 w t p).length)
theorem Q8y (a b c : Int) : V8 a b c = some (decide (b ≤ a) && decide (a ≤ c)) := by
 unfold V8
 by_cases h : b ≤ a <;> simp [ile, h]
theorem V6a {w : List Q3} {t : Q2} (hw : WT w t) (p : Q0) : Q76 w t p = some (Q7i w t p) := by
 obtain ⟨op, ctor, n, m, v, kids⟩ := p
 unfold Q76 Q7i
 simp only [hw.c1, Option.bind_some, V04]
 by_cases h1 : op = 1
 ·subst h1; simp [ieq, ilt, ile]; (repeat' split) <;> simp_all
 by_cases h2 : op = 2
 ·subst h2; simp [ieq, ilt, ile]; (repeat' split) <;> simp_all <;> omega
 by_cases h3 : op = 3
 ·subst h3; simp [ieq, ilt, ile]; (repeat' split) <;> simp_all <;> (intros; omega)
 by_cases h4 : op = 4
 ·subst h4; simp [ieq, ilt, ile]; (repeat' split) <;> simp_all
 by_cases h5 : op = 5
 ·subst h5; simp [ieq, ilt, ile]; (repeat' split) <;> simp_all
 by_cases h6 : op = 6
 ·subst h6; simp [ieq, ilt, ile]; (repeat' split) <;> simp_all <;> omega
 simp [ieq, ilt, ile, h1, h2, h3, h4, h5, h6]; (repeat' split) <;> simp_all
theorem V17 (p : Q0) (a b c : Bool) (k : Int) : Q3v p a b c k = some ((a || decide (p.ctor = 0)) && (b || (decide (p.n = 0) && decide (p.m = 0))) && (c || decide (p.var = 0)) && decide ((p.kids.length : Int) = k)) := by
 unfold Q3v
 by_cases h1 : p.ctor = 0 <;> by_cases h2 : p.n = 0 <;> by_cases h3 : p.m = 0 <;> by_cases h4 : p.var = 0 <;> cases a <;> cases b <;> cases c <;> simp [ieq, lenZ, h1, h2, h3, h4] <;> exact decide_eq_decide.2 Iff.rfl
theorem W73 (v : Int) : Q6c v = some (decide (0 ≤ v) && decide (v ≤ 5)) := by
 unfold Q6c
 rw [Q8y]
 rfl
theorem X6u {w : List Q3} {t : Q2} (hw : WT w t) (p : Q0) : ∃ ts, Q6b w t p = some (ts, Q5v w t p) ∧ (Q5v w t p = true → ts = V6 w t p) := by
 obtain ⟨op, ctor, n, m, v, kids⟩ := p
 unfold Q6b Q5v Q7i V6
 simp only [hw.c2, Option.bind_some, Z16, V17, W73]
 by_cases h1 : op = 1
 ·subst h1; exact ⟨[], by simp [ieq]; rw [Bool.eq_iff_iff]; simp; grind, by simp⟩
 by_cases h2 : op = 2
 ·subst h2; exact ⟨[], by simp [ieq]; split <;> simp <;> grind, by simp⟩
 by_cases h3 : op = 3
 ·subst h3; exact ⟨[], by simp [ieq, ile]; (repeat' split) <;> simp <;> grind, by simp⟩
 by_cases h4 : op = 4
 ·subst h4
  by_cases hc : ctor ∈ Z9 w t
  ·refine ⟨Z5 w t ctor, ?_, by simp⟩
   simp [ieq, hc, hw.a2 ctor hc, lenZ]
   grind
  ·exact ⟨[], by simp [ieq, hc], by simp [hc]⟩
 by_cases h5 : op = 5
 ·subst h5; exact ⟨[t, t], by simp [ieq]; grind, by simp⟩
 by_cases h6 : op = 6
 ·subst h6; exact ⟨[t], by simp [ieq]; split <;> simp <;> grind, by simp⟩
 exact ⟨[], by simp [ieq, h1, h2, h3, h4, h5, h6], by simp [h1, h2, h3, h4, h5, h6]⟩
theorem X58 (op : Int) : Q6l op = some (if op = 5 then 2 else if op = 6 then 1 else if op = 4 then -1 else 0) := by
 unfold Q6l
 by_cases h1 : op = 5 <;> by_cases h2 : op = 6 <;> by_cases h3 : op = 4 <;> simp [ieq, h1, h2, h3]
theorem Z9x {w : List Q3} {t : Q2} (hw : WT w t) (p : Q0) (h : p.op = 4 → p.ctor ∈ Z9 w t) {n : Nat} (hn : 4 ≤ n) : Q3o n w t p = some (V6 w t p) := by
 obtain ⟨m, rfl⟩ : ∃ m, n = m + 4 := ⟨n - 4, by omega⟩
 unfold Q3o V6
 by_cases h4 : p.op = 4
 ·simp [ieq, h4, hw.a1 p.ctor (h h4)]
 ·have w1 : wadd .i64 0 1 = 1 := rfl
  have w2 : wadd .i64 1 1 = 2 := rfl
  by_cases h5 : p.op = 5
  ·simp [ieq, h5, whileL, X58, ilt, app, w1, w2, Q6]
  ·by_cases h6 : p.op = 6
   ·simp [ieq, h6, whileL, X58, ilt, app, w1, w2, Q6]
   ·simp [ieq, h4, h5, h6, whileL, X58, ilt]
def Q0a (w : List Q3) : Nat → Q2 → Q0 → Bool
 | 0, _, _ => false
 | d + 1, t, p => Q5v w t p && ((V6 w t p).zip p.kids).all fun x => Q0a w d x.1 x.2
def ownV (t : Q2) (p : Q0) : List Q8 := if p.op = 2 ∨ p.op = 6 then [⟨p.var, t⟩] else []
def Q26 (w : List Q3) : Nat → Q2 → Q0 → List Q8
 | 0, _, _ => []
 | d + 1, t, p => ownV t p ++ (((V6 w t p).zip p.kids).take (if p.op = 5 then 1 else p.kids.length)).flatMap fun x => Q26 w d x.1 x.2
def Q19 (l : List Q8) : Bool := decide (l.map (·.var)).Nodup
def Q8q (a b : List Q8) : Bool := decide (a.length = b.length) && a.all fun v => decide (v ∈ b)
def kv (w : List Q3) (d : Nat) (t : Q2) (p : Q0) (i : Nat) : List Q8 := ((V6 w t p).zip p.kids)[i]?.elim [] fun x => Q26 w d x.1 x.2
def linD (w : List Q3) : Nat → Q2 → Q0 → Bool
 | 0, _, _ => true
 | d + 1, t, p => (((V6 w t p).zip p.kids).all fun x => linD w d x.1 x.2) && if p.op = 5 then Q8q (kv w d t p 0) (kv w d t p 1) else Q19 (Q26 w (d + 1) t p)
theorem Q2x {w : List Q3} {d : Nat} {t : Q2} {p : Q0} (h : Q0a w d t p = true) : Q5v w t p = true := by
 cases d with
 | zero => cases h
 | succ d => simp only [Q0a, Bool.and_eq_true] at h; exact h.1
theorem Q3x {w : List Q3} {t : Q2} {p : Q0} (h : Q5v w t p = true) : Q7i w t p = true ∧ p.kids.length = (V6 w t p).length := by
 simp only [Q5v, Bool.and_eq_true, decide_eq_true_eq] at h
 exact h
theorem Q9l {w : List Q3} {t : Q2} {p : Q0} (h : Q7i w t p = true) : p.op = 4 → p.ctor ∈ Z9 w t := fun h4 => by
 simp [Q7i, h4] at h
 exact h.2
theorem Q78 {w : List Q3} {t : Q2} (hw : WT w t) (ht : t ∈ tys w) {p : Q0} (h : Q7i w t p = true) : ∀ a ∈ V6 w t p, a ∈ tys w := fun a ha => by
 unfold V6 at ha
 split at ha
 ·rename_i h4; exact hw.at_ _ (Q9l h h4) a ha
 ·split at ha
  ·simp at ha; rw [ha]; exact ht
  ·split at ha
   ·simp at ha; rw [ha]; exact ht
   ·simp at ha
theorem Q9c {α β : Type} {l : List α} {m : List β} {k : Nat} {a : α} {b : β} (h1 : l[k]? = some a) (h2 : m[k]? = some b) : (l.zip m)[k]? = some (a, b) := by
 rw [List.getElem?_zip_eq_some]; exact ⟨h1, h2⟩
theorem Q1y {w : List Q3} {d : Nat} {t : Q2} {p : Q0} (h : Q0a w (d + 1) t p = true) {k : Nat} {a : Q2} {q : Q0} (h1 : (V6 w t p)[k]? = some a) (h2 : p.kids[k]? = some q) : Q0a w d a q = true := by
 simp only [Q0a, Bool.and_eq_true, List.all_eq_true] at h
 exact h.2 (a, q) (List.mem_of_getElem? (Q9c h1 h2))
theorem X23 {w : List Q3} (hw : WW w) : ∀ (d n : Nat) (t : Q2) (p : Q0), t ∈ tys w → d + 4 ≤ n → d ≤ 100 → Q2h n w t p (d : Int) = some (Q0a w d t p) := by
 intro d
 induction d with
 | zero =>
  intro n t p ht hn hd
  obtain ⟨m, rfl⟩ : ∃ m, n = m + 1 := ⟨n - 1, by omega⟩
  simp [Q2h, ilt, Q0a]
 | succ d ih =>
  intro n t p ht hn hd
  obtain ⟨m, rfl⟩ : ∃ m, n = m + 1 := ⟨n - 1, by omega⟩
  have hT := hw.ty t ht
  unfold Q2h Q0a
  have h1 : ¬ ilt ((d + 1 : Nat) : Int) 1 = true := by rw [X0]; omega
  rw [if_neg h1, V6a hT]
  simp only [Option.bind_some]
  cases ho : Q7i w t p with
  | false => simp [Q5v, ho]
  | true =>
   simp only [Bool.not_true, Bool.false_eq_true, if_false]
   rw [Z9x hT p (Q9l ho) (by omega)]
   simp only [Option.bind_some]
   by_cases hl : p.kids.length = (V6 w t p).length
   ·have h2 : ¬ (!ieq (lenZ p.kids.length) (lenZ (V6 w t p).length)) = true := by simp [ieq, lenZ, hl]
    rw [if_neg h2]
    have hnode : Q5v w t p = true := by simp [Q5v, ho, hl]
    rw [hnode, Bool.true_and]
    have hws : wsub .i64 ((d + 1 : Nat) : Int) 1 = (d : Int) := by
     rw [Q3k (by omega) (by omega)]; omega
    have key : Ret ((forL (fun k102 x103 (s96 : Unit) =>
      ((idx p.kids (k102 : Int)).bind fun x111 =>
      ((Q2h m w x103 x111 (wsub .i64 ((d + 1 : Nat) : Int) 1)).bind fun r112 =>
      (if (!r112) = true then
      some (Ctl.ret (false))
      else
      some (Ctl.go ()))))) 0 (V6 w t p) ())) (CtlQ (fun b => b = false ∧ (((V6 w t p).zip p.kids).all fun x => Q0a w d x.1 x.2) = false) (fun _ => (((V6 w t p).zip p.kids).all fun x => Q0a w d x.1 x.2) = true)) := by
     refine Z1 (V6 w t p) (fun k _ => ∀ j a q, j < k → (V6 w t p)[j]? = some a → p.kids[j]? = some q → Q0a w d a q = true) _ _ (fun j a q hj => by omega) (fun k a s ha hI => ?_) (fun s hI => ?_)
     ·have hlt : k < p.kids.length := by have := (List.getElem?_eq_some_iff.1 ha).1; omega
      have hq : p.kids[k]? = some p.kids[k] := by simp [hlt]
      rw [Q2a hq]
      simp only [Option.bind_some]
      rw [hws, ih m a p.kids[k] (Q78 hT ht ho a (List.mem_of_getElem? ha)) (by omega) (by omega)]
      simp only [Option.bind_some]
      cases hg : Q0a w d a p.kids[k] with
      | false =>
       refine .some ⟨rfl, ?_⟩
       rw [List.all_eq_false]
       exact ⟨(a, p.kids[k]), List.mem_of_getElem? (Q9c ha hq), by simp [hg]⟩
      | true =>
       refine .some (fun j a' q' hj ha' hq' => ?_)
       by_cases hjk : j = k
       ·subst hjk
        rw [ha] at ha'
        rw [hq] at hq'
        cases ha'
        cases hq'
        exact hg
       ·exact hI j a' q' (by omega) ha' hq'
     ·rw [List.all_eq_true]
      intro x hx
      obtain ⟨j, hj⟩ := List.mem_iff_getElem?.1 hx
      obtain ⟨h3, h4⟩ := List.getElem?_zip_eq_some.1 hj
      exact hI j x.1 x.2 ((List.getElem?_eq_some_iff.1 h3).1) h3 h4
    have := Ret.ctl (Q := fun b => b = (((V6 w t p).zip p.kids).all fun x => Q0a w d x.1 x.2)) key (g := fun (o95 : Ctl Bool Unit) => match o95 with
     | .ret r => some r
     | .go _ => none
     | .brk s106 => some (true)) (fun r hr => .some (by rw [hr.1, hr.2])) (fun s hs => .some (by rw [hs]))
    obtain ⟨b, e, rfl⟩ := this
    exact e
   ·have h2 : (!ieq (lenZ p.kids.length) (lenZ (V6 w t p).length)) = true := by rw [Bool.not_eq_true', Z8]; simp only [lenZ]; omega
    rw [if_pos h2]
    simp [Q5v, hl]
def cntP : Q0 → Nat
 | ⟨_, _, _, _, _, kids⟩ => 1 + cntPs kids
where cntPs : List Q0 → Nat
 | [] => 0
 | p :: l => cntP p + cntPs l
theorem Q1u (p : Q0) : cntP p = 1 + cntP.cntPs p.kids := by cases p; rw [cntP]
theorem Q5k : ∀ (l : List Q0) (k : Nat) (q : Q0), l[k]? = some q → cntP.cntPs (l.take (k + 1)) = cntP.cntPs (l.take k) + cntP q
 | [], k, q, h => by simp at h
 | p :: l, 0, q, h => by simp at h; subst h; simp [cntP.cntPs]
 | p :: l, k + 1, q, h => by
  have := Q5k l k q (by simpa using h)
  simp only [List.take_succ_cons, cntP.cntPs]
  omega
theorem Q1z : ∀ (l : List Q0) (k : Nat), cntP.cntPs (l.take k) ≤ cntP.cntPs l
 | [], k => by simp
 | p :: l, 0 => by simp [cntP.cntPs]
 | p :: l, k + 1 => by
  have := Q1z l k
  simp only [List.take_succ_cons, cntP.cntPs]
  omega
theorem Q5l (p : Q0) : 1 ≤ cntP p := by rw [Q1u]; omega
theorem X27 : ∀ (n : Nat) (p : Q0) (most : Nat), most < n → most ≤ 1000 → Q3p n p (most : Int) = some ((min (cntP p) (most + 1) : Nat) : Int) := by
 intro n
 induction n with
 | zero => intro p most h; omega
 | succ n ih =>
  intro p most hn hm
  unfold Q3p
  have key := Z1 (ρ := Int) (f := fun k94 x95 (s88 : Int) =>
   (if (ile s88 (most : Int)) = true then
   ((Q3p n x95 (wsub .i64 (most : Int) s88)).bind fun r103 =>
   some (Ctl.go (wadd .i64 s88 r103)))
   else
   some (Ctl.brk s88))) p.kids (s0 := 1) (fun k s => ∃ m : Nat, s = (m : Int) ∧ m = min (1 + cntP.cntPs (p.kids.take k)) (most + 1)) (fun _ => False) (fun s => s = ((min (cntP p) (most + 1) : Nat) : Int)) ⟨1, rfl, by simp [cntP.cntPs]⟩ (fun k q s hq hI => ?_) (fun s hI => ?_)
  ·have := Ret.ctl (Q := fun b => b = ((min (cntP p) (most + 1) : Nat) : Int)) key (g := fun (o : Ctl Int Int) => match o with
    | .ret r => some r
    | .go _ => none
    | .brk s => some s) (fun r hr => hr.elim) (fun s hs => .some hs)
   obtain ⟨b, e, rfl⟩ := this
   exact e
  ·obtain ⟨m, rfl, hm2⟩ := hI
   refine Ret.ite (fun h => ?_) (fun h => ?_)
   ·rw [Q03] at h
    have hle : m ≤ most := by omega
    have hws : wsub .i64 (most : Int) (m : Int) = ((most - m : Nat) : Int) := by rw [Q3k (by omega) (by omega)]; omega
    rw [hws, ih q (most - m) (by omega) (by omega)]
    simp only [Option.bind_some]
    rw [Q09 (by omega) (by omega)]
    refine .some ⟨m + min (cntP q) (most - m + 1), by push_cast; rfl, ?_⟩
    rw [Q5k p.kids k q hq]
    omega
   ·rw [Q25] at h
    refine .some ?_
    have h1 := Q1z p.kids k
    have h2 := Q1u p
    show (m : Int) = _
    have : m = min (cntP p) (most + 1) := by omega
    rw [this]
  ·obtain ⟨m, rfl, hm2⟩ := hI
   rw [List.take_length] at hm2
   have h2 := Q1u p
   have : m = min (cntP p) (most + 1) := by omega
   rw [this]
theorem Q63 {w : List Q3} (hw : WW w) : ∀ (d n : Nat) (t : Q2) (p : Q0) (out : List Q8), t ∈ tys w → Q0a w d t p = true → d + 4 ≤ n → out.length + cntP p ≤ 100000 → Y8 n out w t p = some (out ++ Q26 w d t p) ∧ (Q26 w d t p).length ≤ cntP p := by
 intro d
 induction d with
 | zero => intro n t p out ht hg; cases hg
 | succ d ih =>
  intro n t p out ht hg hn hout
  obtain ⟨m, rfl⟩ : ∃ m, n = m + 1 := ⟨n - 1, by omega⟩
  have hT := hw.ty t ht
  obtain ⟨ho, hl⟩ := Q3x (Q2x hg)
  unfold Y8
  have hfirst : (((if (ieq p.op 2) = true then
    ((app out [(Q8.mk p.var t)]).bind fun x20 => some (Ctl.brk x20))
    else
    (if (ieq p.op 6) = true then
    ((app out [(Q8.mk p.var t)]).bind fun x22 => some (Ctl.brk x22))
    else
    some (Ctl.brk out)))) : Option (Ctl (List Q8) (List Q8))) = some (Ctl.brk (out ++ ownV t p)) := by
   have ha : app out [(Q8.mk p.var t)] = some (out ++ [(Q8.mk p.var t)]) := W6 (by simp [Q6]; omega)
   by_cases h2 : p.op = 2
   ·simp [ieq, h2, ha, ownV]
   ·by_cases h6 : p.op = 6
    ·simp [ieq, h6, ha, ownV]
    ·simp [ieq, h2, h6, ownV]
  rw [hfirst]
  simp only [Option.bind_some]
  rw [Z9x hT p (Q9l ho) (by omega)]
  simp only [Option.bind_some]
  have hcnt := Q1u p
  have hown : (ownV t p).length ≤ 1 := by unfold ownV; split <;> simp
  have key := Z1 (ρ := List Q8) (f := fun k179 x180 (s173 : List Q8) =>
   (((if (ieq (k179 : Int) 0) = true then
   some (Ctl.brk ())
   else
   (if (!ieq p.op 5) = true then
   some (Ctl.brk ())
   else
   some (Ctl.ret (Ctl.brk s173))))).bind fun (o190 : Ctl (Ctl (List Q8) (List Q8)) (Unit)) => match o190 with
   | .ret r => some r
   | .go _ => none
   | .brk s189 =>
   ((idx p.kids (k179 : Int)).bind fun x201 =>
   ((Y8 m s173 w x180 x201).bind fun r202 =>
   some (Ctl.go r202))))) (V6 w t p) (s0 := out ++ ownV t p)
   (fun k s => s = out ++ (ownV t p ++ (((V6 w t p).zip p.kids).take k).flatMap fun x => Q26 w d x.1 x.2) ∧ k ≤ (if p.op = 5 then 1 else p.kids.length) ∧ s.length ≤ out.length + 1 + cntP.cntPs (p.kids.take k))
   (fun _ => False) (fun s => s = out ++ Q26 w (d + 1) t p ∧ s.length ≤ out.length + cntP p) ⟨by simp, by split <;> omega, by simp; omega⟩ (fun k a s ha hI => ?_) (fun s hI => ?_)
  ·have := Ret.ctl (Q := fun b => b = out ++ Q26 w (d + 1) t p ∧ b.length ≤ out.length + cntP p) key (g := fun (o : Ctl (List Q8) (List Q8)) => match o with
    | .ret r => some r
    | .go _ => none
    | .brk s => some s) (fun r hr => hr.elim) (fun s hs => .some hs)
   obtain ⟨b, e, rfl, h2⟩ := this
   refine ⟨e, ?_⟩
   rw [List.length_append] at h2
   omega
  ·obtain ⟨hs, hk, hlen⟩ := hI
   have hlt : k < p.kids.length := by have := (List.getElem?_eq_some_iff.1 ha).1; omega
   have hq : p.kids[k]? = some p.kids[k] := by simp [hlt]
   have h1 := Q5k p.kids k _ hq
   have h2 := Q1z p.kids (k + 1)
   have hpos := Q5l p.kids[k]
   have go : ∀ (hk2 : k + 1 ≤ (if p.op = 5 then 1 else p.kids.length)), Ret ((idx p.kids (k : Int)).bind fun x201 =>
     ((Y8 m s w a x201).bind fun r202 =>
     some (Ctl.go (ρ := List Q8) r202))) (RndQ (fun _ => False) (fun s => s = out ++ Q26 w (d + 1) t p ∧ s.length ≤ out.length + cntP p) (fun s => s = out ++ (ownV t p ++ (((V6 w t p).zip p.kids).take (k + 1)).flatMap fun x => Q26 w d x.1 x.2) ∧ k + 1 ≤ (if p.op = 5 then 1 else p.kids.length) ∧ s.length ≤ out.length + 1 + cntP.cntPs (p.kids.take (k + 1)))) := fun hk2 => by
    rw [Q2a hq]
    simp only [Option.bind_some]
    obtain ⟨e1, e2⟩ := ih m a p.kids[k] s (Q78 hT ht ho a (List.mem_of_getElem? ha)) (Q1y hg ha hq) (by omega) (by omega)
    rw [e1]
    refine .some ⟨?_, hk2, ?_⟩
    ·rw [List.take_add_one, Q9c ha hq, hs]
     simp
    ·rw [List.length_append]
     omega
   by_cases h5 : p.op = 5
   ·by_cases hk0 : k = 0
    ·subst hk0
     have h0 : ieq ((0 : Nat) : Int) 0 = true := rfl
     rw [if_pos h0]
     exact go (by rw [if_pos h5]; omega)
    ·rw [if_pos h5] at hk
     have hk1 : k = 1 := by omega
     subst hk1
     have h0 : ¬ ieq ((1 : Nat) : Int) 0 = true := by decide
     have h50 : ¬ (!ieq p.op 5) = true := by simp [ieq, h5]
     rw [if_neg h0, if_neg h50]
     refine .some ⟨?_, ?_⟩
     ·rw [hs]
      simp only [Q26, if_pos h5]
     ·have := Q1z p.kids 1
      omega
   ·have h50 : (!ieq p.op 5) = true := by simp [ieq, h5]
    have : (if (ieq (k : Int) 0) = true then some (Ctl.brk (ρ := Ctl (List Q8) (List Q8)) ()) else (if (!ieq p.op 5) = true then some (Ctl.brk ()) else some (Ctl.ret (Ctl.brk s)))) = some (Ctl.brk ()) := by
     rw [if_pos h50]
     split <;> rfl
    rw [this]
    exact go (by rw [if_neg h5]; omega)
  ·obtain ⟨hs, hk, hlen⟩ := hI
   rw [← hl] at hs hk hlen
   by_cases h5 : p.op = 5
   ·rw [if_pos h5] at hk
    have : (V6 w t p).length = 2 := by simp [V6, h5]
    omega
   ·refine ⟨?_, ?_⟩
    ·rw [hs]
     simp only [Q26, if_neg h5]
    ·rw [List.take_length] at hlen
     omega
end Go.Proofs.YtbdkbdafhlcilaaGreat
namespace Go.Proofs.YtbdkbdafhlcilaaGreat
open Go Go.RowKit
theorem X5w (l : List Q8) (v : Int) : Ret (Q39 l v) (fun i => (∃ k x, i = ((k : Nat) : Int) ∧ l[k]? = some x ∧ x.var = v ∧ ∀ j y, j < k → l[j]? = some y → y.var ≠ v) ∨ (i = -1 ∧ ∀ x ∈ l, x.var ≠ v)) := by
 unfold Q39
 refine Ret.ctl (Z1 l (fun k _ => ∀ j x, j < k → l[j]? = some x → x.var ≠ v) (fun i => ∃ k x, i = ((k : Nat) : Int) ∧ l[k]? = some x ∧ x.var = v ∧ ∀ j y, j < k → l[j]? = some y → y.var ≠ v) (fun _ => ∀ x ∈ l, x.var ≠ v) (fun j x hj => by omega) (fun k y s hy hI => ?_) (fun s hI => ?_)) (fun r hr => ?_) (fun s hs => ?_)
 ·refine Ret.ite (fun h => ?_) (fun h => ?_)
  ·rw [Z4] at h
   exact .some ⟨k, y, rfl, hy, h, hI⟩
  ·rw [Z8] at h
   refine .some (fun j x hj hx => ?_)
   by_cases hjk : j = k
   ·subst hjk
    rw [hy] at hx
    cases hx
    exact h
   ·exact hI j x (by omega) hx
 ·intro x hm
  obtain ⟨j, hj⟩ := List.mem_iff_getElem?.1 hm
  exact hI j x ((List.getElem?_eq_some_iff.1 hj).1) hj
 ·exact .some (.inl hr)
 ·exact .some (.inr ⟨rfl, hs⟩)
theorem Q8o {l : List Q8} (h : Q19 l = true) {i j : Nat} {x y : Q8} (hi : l[i]? = some x) (hj : l[j]? = some y) (he : x.var = y.var) : i = j := by
 unfold Q19 at h
 have h := of_decide_eq_true h
 have hi' : (l.map (·.var))[i]? = some x.var := by simp [hi]
 have hj' : (l.map (·.var))[j]? = some x.var := by simp [hj, he]
 have hil := (List.getElem?_eq_some_iff.1 hi').1
 exact (List.getElem?_inj hil h).1 (hi'.trans hj'.symm)
theorem Z7r {l : List Q8} (h : ∀ (i j : Nat) (x y : Q8), l[i]? = some x → l[j]? = some y → x.var = y.var → i = j) : Q19 l = true := by
 unfold Q19
 refine decide_eq_true (List.pairwise_iff_getElem.2 fun i j hi hj hij he => ?_)
 simp only [List.length_map] at hi hj
 simp only [List.getElem_map] at he
 have := h i j l[i] l[j] (by simp [hi]) (by simp [hj]) he
 omega
theorem W93 (a b : List Q8) (hb : Q19 b = true) : Q4t a b = some (Q8q a b) := by
 have h : Ret (Q4t a b) (fun r => r = Q8q a b) := by
  unfold Q4t
  refine Ret.ctl (Z1 a (fun k _ => ∀ j x, j < k → a[j]? = some x → x ∈ b) (fun r => r = false ∧ ∃ x ∈ a, x ∉ b) (fun _ => ∀ x ∈ a, x ∈ b) (fun j x hj => by omega) (fun k y s hy hI => ?_) (fun s hI => ?_)) (fun r hr => ?_) (fun s hs => ?_)
  ·refine Ret.bind (X5w b y.var) (fun i hi => ?_)
   rcases hi with ⟨q, x, rfl, hx, hv, _⟩ | ⟨rfl, hno⟩
   ·have h1 : ¬ ilt ((q : Nat) : Int) 0 = true := by rw [X0]; omega
    rw [if_neg h1, Q2a hx]
    simp only [Option.bind_some]
    by_cases ht : x.typ = y.typ
    ·have hxy : x = y := by cases x; cases y; simp_all
     have h2 : ¬ (!Q7l [ieq x.typ.data y.typ.data, ieq x.typ.index y.typ.index]) = true := by rw [ht]; simp [Q7l, ieq]
     rw [if_neg h2]
     refine .some (fun j z hj hz => ?_)
     by_cases hjk : j = k
     ·subst hjk
      rw [hy] at hz
      cases hz
      rw [← hxy]
      exact List.mem_of_getElem? hx
     ·exact hI j z (by omega) hz
    ·have h2 : (!Q7l [ieq x.typ.data y.typ.data, ieq x.typ.index y.typ.index]) = true := by
      have : ¬ (x.typ.data = y.typ.data ∧ x.typ.index = y.typ.index) := fun e => ht (by cases hx : x.typ; cases hy : y.typ; rw [hx, hy] at e; simp_all)
      simp only [Q7l, ieq, List.all_cons, List.all_nil, id, Bool.and_true, Bool.not_eq_true', Bool.and_eq_false_iff, decide_eq_false_iff_not]
      exact Decidable.not_and_iff_or_not.1 this
     rw [if_pos h2]
     refine .some ⟨rfl, y, List.mem_of_getElem? hy, fun hm => ?_⟩
     obtain ⟨j, hj⟩ := List.mem_iff_getElem?.1 hm
     have := Q8o hb hx hj hv
     subst this
     rw [hx] at hj
     cases hj
     exact ht rfl
   ·have h1 : ilt (-1) 0 = true := rfl
    rw [if_pos h1]
    exact .some ⟨rfl, y, List.mem_of_getElem? hy, fun hm => hno y hm rfl⟩
  ·intro x hm
   obtain ⟨j, hj⟩ := List.mem_iff_getElem?.1 hm
   exact hI j x ((List.getElem?_eq_some_iff.1 hj).1) hj
  ·obtain ⟨rfl, x, hx, hxb⟩ := hr
   refine .some ?_
   symm
   unfold Q8q
   rw [Bool.and_eq_false_iff]
   right
   rw [List.all_eq_false]
   exact ⟨x, hx, by simpa using hxb⟩
  ·refine .some ?_
   unfold Q8q
   have : a.all (fun v => decide (v ∈ b)) = true := by rw [List.all_eq_true]; intro x hx; simpa using hs x hx
   rw [this, Bool.and_true]
   simp only [ieq, lenZ]
   exact decide_eq_decide.2 (by omega)
 obtain ⟨r, e, rfl⟩ := h
 exact e
theorem Q6d {w : List Q3} : ∀ (d : Nat) (t : Q2) (p : Q0), Q0a w d t p = true → linD w d t p = true → Q19 (Q26 w d t p) = true := by
 intro d
 induction d with
 | zero => intro t p hg; cases hg
 | succ d ih =>
  intro t p hg hl
  simp only [linD, Bool.and_eq_true, List.all_eq_true] at hl
  by_cases h5 : p.op = 5
  ·obtain ⟨ho, hlen⟩ := Q3x (Q2x hg)
   have hk : V6 w t p = [t, t] := by simp [V6, h5]
   rw [hk] at hlen
   simp only [Q26, if_pos h5, hk]
   have hown : ownV t p = [] := by simp [ownV, h5]
   match hkids : p.kids, hlen with
   | [a, b], _ =>
    rw [hkids, hk] at hl
    have h1 := hl.1 (t, a) (by simp)
    have h2 := ih t a (Q1y hg (k := 0) (by rw [hk]; rfl) (by rw [hkids]; rfl)) h1
    simpa [hown] using h2
  ·have := hl.2
   rw [if_neg h5] at this
   exact this
theorem kid0 {w : List Q3} {t : Q2} {p : Q0} (h5 : p.op = 5) (hl : p.kids.length = (V6 w t p).length) : ∃ a b, p.kids = [a, b] ∧ V6 w t p = [t, t] := by
 have hk : V6 w t p = [t, t] := by simp [V6, h5]
 rw [hk] at hl
 match hkids : p.kids, hl with
 | [a, b], _ => exact ⟨a, b, rfl, hk⟩
theorem Q70 {p : Q0} {k : Nat} {q : Q0} (h : p.kids[k]? = some q) : cntP q < cntP p := by
 have h1 := Q5k p.kids k q h
 have h2 := Q1z p.kids (k + 1)
 have h3 := Q1u p
 omega
theorem X8t {w : List Q3} (hw : WW w) : ∀ (d n : Nat) (t : Q2) (p : Q0), t ∈ tys w → Q0a w d t p = true → d + 5 ≤ n → cntP p ≤ 1000 → Q2s n w t p = some (linD w d t p) := by
 intro d
 induction d with
 | zero => intro n t p ht hg; cases hg
 | succ d ih =>
  intro n t p ht hg hn hc
  obtain ⟨m, rfl⟩ : ∃ m, n = m + 1 := ⟨n - 1, by omega⟩
  have hT := hw.ty t ht
  obtain ⟨ho, hl⟩ := Q3x (Q2x hg)
  unfold Q2s
  rw [Z9x hT p (Q9l ho) (by omega)]
  simp only [Option.bind_some]
  have h : Ret ((forL (fun k79 x80 (s73 : Unit) =>
    ((idx p.kids (k79 : Int)).bind fun x88 =>
    ((Q2s m w x80 x88).bind fun r89 =>
    (if (!r89) = true then
    some (Ctl.ret (false))
    else
    some (Ctl.go ()))))) 0 (V6 w t p) ())) (CtlQ (fun b => b = false ∧ (((V6 w t p).zip p.kids).all fun x => linD w d x.1 x.2) = false) (fun _ => (((V6 w t p).zip p.kids).all fun x => linD w d x.1 x.2) = true)) := by
   refine Z1 (V6 w t p) (fun k _ => ∀ j a q, j < k → (V6 w t p)[j]? = some a → p.kids[j]? = some q → linD w d a q = true) _ _ (fun j a q hj => by omega) (fun k a s ha hI => ?_) (fun s hI => ?_)
   ·have hlt : k < p.kids.length := by have := (List.getElem?_eq_some_iff.1 ha).1; omega
    have hq : p.kids[k]? = some p.kids[k] := by simp [hlt]
    rw [Q2a hq]
    simp only [Option.bind_some]
    rw [ih m a p.kids[k] (Q78 hT ht ho a (List.mem_of_getElem? ha)) (Q1y hg ha hq) (by omega) (by have := Q70 hq; omega)]
    simp only [Option.bind_some]
    cases hgl : linD w d a p.kids[k] with
    | false =>
     refine .some ⟨rfl, ?_⟩
     rw [List.all_eq_false]
     exact ⟨(a, p.kids[k]), List.mem_of_getElem? (Q9c ha hq), by simp [hgl]⟩
    | true =>
     refine .some (fun j a' q' hj ha' hq' => ?_)
     by_cases hjk : j = k
     ·subst hjk
      rw [ha] at ha'
      rw [hq] at hq'
      cases ha'
      cases hq'
      exact hgl
     ·exact hI j a' q' (by omega) ha' hq'
   ·rw [List.all_eq_true]
    intro x hx
    obtain ⟨j, hj⟩ := List.mem_iff_getElem?.1 hx
    obtain ⟨h3, h4⟩ := List.getElem?_zip_eq_some.1 hj
    exact hI j x.1 x.2 ((List.getElem?_eq_some_iff.1 h3).1) h3 h4
  obtain ⟨o, e, ho2⟩ := h
  rw [e]
  simp only [Option.bind_some]
  cases o with
  | go s => exact ho2.elim
  | ret r =>
   obtain ⟨rfl, hr⟩ := ho2
   simp only [linD, hr, Bool.false_and]
  | brk s =>
   have hall : (((V6 w t p).zip p.kids).all fun x => linD w d x.1 x.2) = true := ho2
   simp only [linD, hall, Bool.true_and]
   by_cases h5 : p.op = 5
   ·have h50 : ieq p.op 5 = true := by rw [Z4]; exact h5
    rw [if_pos h50, if_pos h5]
    obtain ⟨a, b, hkids, hk⟩ := kid0 h5 hl
    have ga := Q1y hg (k := 0) (by rw [hk]; rfl) (by rw [hkids]; rfl)
    have gb := Q1y hg (k := 1) (by rw [hk]; rfl) (by rw [hkids]; rfl)
    have ca := Q70 (p := p) (k := 0) (by rw [hkids]; rfl)
    have cb := Q70 (p := p) (k := 1) (by rw [hkids]; rfl)
    have k0 : kv w d t p 0 = Q26 w d t a := by simp [kv, hkids, hk]
    have k1 : kv w d t p 1 = Q26 w d t b := by simp [kv, hkids, hk]
    rw [k0, k1]
    rw [hkids, hk] at hall
    rw [hkids]
    have i0 : idx [a, b] 0 = some a := rfl
    have i1 : idx [a, b] 1 = some b := rfl
    rw [i0, i1]
    simp only [Option.bind_some]
    rw [(Q63 hw d m t a [] ht ga (by omega) (by simp; omega)).1, (Q63 hw d m t b [] ht gb (by omega) (by simp; omega)).1]
    simp only [Option.bind_some, List.nil_append]
    simp at hall
    rw [W93 _ _ (Q6d d t b gb hall.2)]
    rfl
   ·have h50 : ¬ ieq p.op 5 = true := by rw [Z4]; exact h5
    rw [if_neg h50, if_neg h5]
    rw [(Q63 hw (d + 1) m t p [] ht hg (by omega) (by simp; omega)).1]
    simp only [Option.bind_some, List.nil_append]
    generalize Q26 w (d + 1) t p = l
    have h : Ret ((forL (fun k178 x179 (s172 : Unit) =>
      ((Q39 l x179.var).bind fun r186 =>
      (if (!ieq r186 (k178 : Int)) = true then
      some (Ctl.ret (false))
      else
      some (Ctl.go ())))) 0 l ())) (CtlQ (fun b => b = false ∧ Q19 l = false) (fun _ => Q19 l = true)) := by
     refine Z1 l (fun k _ => ∀ i j x y, i < k → l[i]? = some x → l[j]? = some y → x.var = y.var → i ≤ j) _ _ (fun i j x y hi => by omega) (fun k a s ha hI => ?_) (fun s hI => ?_)
     ·refine Ret.bind (X5w l a.var) (fun i hi => ?_)
      rcases hi with ⟨q, x, rfl, hx, hv, hfirst⟩ | ⟨rfl, hno⟩
      ·by_cases hqk : q = k
       ·subst hqk
        have h1 : ¬ (!ieq ((q : Nat) : Int) (q : Int)) = true := by simp [ieq]
        rw [if_neg h1]
        refine .some (fun i j x' y' hi hx' hy' hv' => ?_)
        by_cases hiq : i = q
        ·subst hiq
         rw [ha] at hx'
         cases hx'
         rcases Nat.lt_or_ge j i with hji | hji
         ·exact absurd hv'.symm (hfirst j y' hji hy')
         ·exact hji
        ·exact hI i j x' y' (by omega) hx' hy' hv'
       ·have h1 : (!ieq ((q : Nat) : Int) (k : Int)) = true := by simp [ieq]; omega
        rw [if_pos h1]
        refine .some ⟨rfl, ?_⟩
        cases hd : Q19 l with
        | false => rfl
        | true => exact absurd (Q8o hd hx ha hv) hqk
      ·exact absurd rfl (hno a (List.mem_of_getElem? ha))
     ·refine Z7r fun i j x y hx hy hv => ?_
      have := hI i j x y ((List.getElem?_eq_some_iff.1 hx).1) hx hy hv
      have := hI j i y x ((List.getElem?_eq_some_iff.1 hy).1) hy hx hv.symm
      omega
    obtain ⟨o, e, ho3⟩ := h
    rw [e]
    simp only [Option.bind_some]
    cases o with
    | go s => exact ho3.elim
    | ret r =>
     obtain ⟨rfl, hr⟩ := ho3
     rw [hr]
    | brk s =>
     have : Q19 l = true := ho3
     rw [this]
end Go.Proofs.YtbdkbdafhlcilaaGreat
namespace Go.Proofs.YtbdkbdafhlcilaaGreat
open Go Go.RowKit
def Q12 (w : List Q3) (t : Q2) (p : Q0) : Bool := Q0a w 10 t p && (decide (cntP p ≤ 60) && linD w 10 t p)
theorem Z6e {w : List Q3} (hw : WW w) {n : Nat} (hn : 100 ≤ n) (t : Q2) (p : Q0) (ht : t ∈ tys w) : Q52 n w t p = some (Q12 w t p) := by
 unfold Q52 Q12
 have h1 := X23 hw 10 n t p ht (by omega) (by omega)
 have e10 : ((10 : Nat) : Int) = 10 := rfl
 rw [e10] at h1
 rw [h1]
 simp only [Option.bind_some]
 cases hg : Q0a w 10 t p with
 | false => simp
 | true =>
  have h2 := X27 n p 60 (by omega) (by omega)
  have e60 : ((60 : Nat) : Int) = 60 := rfl
  rw [e60] at h2
  rw [h2]
  simp only [Option.bind_some, if_true, Bool.true_and]
  by_cases hc : cntP p ≤ 60
  ·have : ile ((min (cntP p) (60 + 1) : Nat) : Int) 60 = true := by rw [Q03]; omega
   rw [if_pos this, X8t hw 10 n t p ht hg (by omega) (by omega)]
   simp [hc]
  ·have : ¬ ile ((min (cntP p) (60 + 1) : Nat) : Int) 60 = true := by rw [Q03]; omega
   rw [if_neg this]
   simp [hc]
theorem Z40 {w : List Q3} : ∀ (d : Nat) (t : Q2) (p : Q0), Q0a w d t p = true → ∀ v ∈ Q26 w d t p, 0 ≤ v.var ∧ v.var ≤ 5 := by
 intro d
 induction d with
 | zero => intro t p hg; cases hg
 | succ d ih =>
  intro t p hg v hv
  simp only [Q26, List.mem_append, List.mem_flatMap] at hv
  rcases hv with hv | ⟨x, hx, hv⟩
  ·obtain ⟨ho, _⟩ := Q3x (Q2x hg)
   unfold ownV at hv
   split at hv
   ·rename_i h
    simp at hv
    subst hv
    simp [Q7i, h] at ho
    exact ho.1.1.1
   ·simp at hv
  ·have hx := List.mem_of_mem_take hx
   obtain ⟨j, hj⟩ := List.mem_iff_getElem?.1 hx
   obtain ⟨h3, h4⟩ := List.getElem?_zip_eq_some.1 hj
   exact ih x.1 x.2 (Q1y hg h3 h4) v hv
theorem V6e (l : List Q8) (hr : ∀ v ∈ l, 0 ≤ v.var ∧ v.var ≤ 5) {R : List Q8 × Bool × Int} :
  Ret (forL (fun k423 (x424 : Q8) (s417 : (List Bool)) =>
   ((aget 6 s417 x424.var).bind fun x435 =>
   (if x435 = true then
   some (Ctl.ret R)
   else
   ((aset 6 s417 x424.var true).bind fun x437 =>
   some (Ctl.go x437))))) 0 l [false, false, false, false, false, false]) (CtlQ (fun r => r = R ∧ Q19 l = false) (fun _ => Q19 l = true)) := by
 refine Z1 l (fun k s => s.length = 6 ∧ (∀ i : Nat, i < 6 → (s[i]? = some true ↔ ∃ (j : Nat) (x : Q8), j < k ∧ l[j]? = some x ∧ x.var = (i : Int))) ∧ ∀ (i j : Nat) (x y : Q8), i < k → j < k → l[i]? = some x → l[j]? = some y → x.var = y.var → i = j) _ _ ⟨rfl, fun i hi => ?_, fun i j x y hi => by omega⟩ (fun k a s ha hI => ?_) (fun s hI => ?_)
 ·constructor
  ·intro h
   match i, hi with
   | 0, _ => simp at h
   | 1, _ => simp at h
   | 2, _ => simp at h
   | 3, _ => simp at h
   | 4, _ => simp at h
   | 5, _ => simp at h
  ·rintro ⟨j, x, hj, _⟩; omega
 ·obtain ⟨hlen, hmet, hdis⟩ := hI
  obtain ⟨r1, r2⟩ := hr a (List.mem_of_getElem? ha)
  obtain ⟨v, hv⟩ : ∃ v : Nat, a.var = (v : Int) := ⟨a.var.toNat, by omega⟩
  have hv6 : v < 6 := by omega
  have hsv : s[v]? = some s[v] := by simp [hlen, hv6]
  have hget : aget 6 s a.var = some s[v] := by simp only [aget, hlen, if_true, hv]; exact Q2a hsv
  rw [hget]
  simp only [Option.bind_some]
  cases hb : s[v] with
  | true =>
   rw [hb] at hsv
   obtain ⟨j, x, hj, hx, hxv⟩ := (hmet v hv6).1 hsv
   refine .some ⟨rfl, ?_⟩
   cases hd : Q19 l with
   | false => rfl
   | true =>
    have := Q8o hd hx ha (by rw [hxv, hv])
    omega
  | false =>
   have hset : aset 6 s a.var true = some (s.set v true) := by
    simp only [aset, hlen, if_true, hv, setI]
    rw [if_pos ⟨by omega, by simpa using by omega⟩]
    simp
   simp only [Bool.false_eq_true, if_false]
   rw [hset]
   refine .some ⟨by simp [hlen], fun i hi => ?_, fun i j x y hi hj hx hy he => ?_⟩
   ·by_cases hiv : i = v
    ·subst hiv
     rw [List.getElem?_set_self (by omega)]
     exact ⟨fun _ => ⟨k, a, by omega, ha, hv⟩, fun _ => rfl⟩
    ·rw [List.getElem?_set_ne (by omega)]
     rw [hmet i hi]
     constructor
     ·rintro ⟨j, x, h1, h2, h3⟩; exact ⟨j, x, by omega, h2, h3⟩
     ·rintro ⟨j, x, h1, h2, h3⟩
      refine ⟨j, x, ?_, h2, h3⟩
      rcases Nat.lt_or_ge j k with h | h
      ·exact h
      ·have : j = k := by omega
       subst this
       rw [ha] at h2
       cases h2
       rw [hv] at h3
       omega
   ·have nomet : ∀ (j : Nat) (x : Q8), j < k → l[j]? = some x → x.var = a.var → False := fun j x h1 h2 h3 => by
     have := (hmet v hv6).2 ⟨j, x, h1, h2, by rw [h3, hv]⟩
     rw [hsv, hb] at this
     cases this
    by_cases hik : i = k
    ·by_cases hjk : j = k
     ·omega
     ·subst hik
      rw [ha] at hx
      cases hx
      exact (nomet j y (by omega) hy he.symm).elim
    ·by_cases hjk : j = k
     ·subst hjk
      rw [ha] at hy
      cases hy
      exact (nomet i x (by omega) hx he).elim
     ·exact hdis i j x y (by omega) (by omega) hx hy he
 ·obtain ⟨_, _, hdis⟩ := hI
  exact Z7r fun i j x y hx hy he => hdis i j x y ((List.getElem?_eq_some_iff.1 hx).1) ((List.getElem?_eq_some_iff.1 hy).1) hx hy he
theorem Z8w {α β : Type} (l : List α) (g : α → List β) : (l.take 1).flatMap g = l[0]?.elim [] g := by
 cases l with
 | nil => rfl
 | cons a l => simp
def okD (w : List Q3) (d : Nat) (t : Q2) (p : Q0) (c : Nat) : Bool := Q0a w d t p && (decide (c + cntP p ≤ 60) && linD w d t p)
theorem V0x {w : List Q3} (hw : WW w) : ∀ (d n : Nat) (t : Q2) (p : Q0) (c : Nat), t ∈ tys w → c ≤ 60 → d + 5 ≤ n → d ≤ 10 →
  Ret (Q1d n w t p (11 - (d : Int)) (c : Int)) (fun r => r.2.1 = okD w d t p c ∧ (okD w d t p c = true → r.1 = Q26 w d t p ∧ r.2.2 = ((c + cntP p : Nat) : Int))) := by
 intro d
 induction d with
 | zero =>
  intro n t p c ht hc hn hd
  obtain ⟨m, rfl⟩ : ∃ m, n = m + 1 := ⟨n - 1, by omega⟩
  unfold Q1d
  refine Ret.ite (fun h => ?_) (fun h => ?_)
  ·exact .some ⟨by simp [okD, Q0a], by simp [okD, Q0a]⟩
  ·have : ilt 10 (11 - ((0 : Nat) : Int)) = true := rfl
   rw [if_pos this]
   exact .some ⟨by simp [okD, Q0a], by simp [okD, Q0a]⟩
 | succ d ih =>
  intro n t p c ht hc hn hd
  obtain ⟨m, rfl⟩ : ∃ m, n = m + 1 := ⟨n - 1, by omega⟩
  have hT := hw.ty t ht
  have hcp := Q1u p
  unfold Q1d
  have hc1 : wadd .i64 (c : Int) 1 = ((c + 1 : Nat) : Int) := by rw [Q09 (by omega) (by omega)]; rfl
  rw [hc1]
  refine Ret.ite (fun h => ?_) (fun h => ?_)
  ·rw [X0] at h
   have : ¬ c + cntP p ≤ 60 := by omega
   exact .some ⟨by simp [okD, this], by simp [okD, this]⟩
  ·rw [J8] at h
   have h2 : ¬ ilt 10 (11 - ((d + 1 : Nat) : Int)) = true := by rw [X0]; omega
   rw [if_neg h2]
   obtain ⟨ts, hs, hts⟩ := X6u hT p
   rw [hs]
   simp only [Option.bind_some]
   cases hnode : Q5v w t p with
   | false => exact .some ⟨by simp [okD, Q0a, hnode], by simp [okD, Q0a, hnode]⟩
   | true =>
    obtain rfl := hts hnode
    obtain ⟨ho, hl⟩ := Q3x hnode
    simp only [Bool.not_true, Bool.false_eq_true, if_false]
    refine Ret.ctl (R := fun _ => False) (B := fun s => s = ownV t p) ?_ (fun r hr => hr.elim) (fun s hs => ?_)
    ·have ha : app [] [(Q8.mk p.var t)] = some [(Q8.mk p.var t)] := W6 (by simp [Q6])
     by_cases h2 : p.op = 2
     ·exact ⟨_, by simp [ieq, h2, ha]; rfl, by simp [ownV, h2]⟩
     ·by_cases h6 : p.op = 6
      ·exact ⟨_, by simp [ieq, h6, ha]; rfl, by simp [ownV, h6]⟩
      ·exact ⟨_, by simp [ieq, h2, h6]; rfl, by simp [ownV, h2, h6]⟩
    subst hs
    have hown1 : (ownV t p).length ≤ 1 := by unfold ownV; split <;> simp
    have hkn : ∀ k, k < p.kids.length → ∃ a q, (V6 w t p)[k]? = some a ∧ p.kids[k]? = some q := fun k hk => ⟨(V6 w t p)[k]'(by omega), p.kids[k], by simp, by simp⟩
    have allgood : ∀ (P : Q2 → Q0 → Bool), (∀ (j : Nat) (a : Q2) (q : Q0), j < p.kids.length → (V6 w t p)[j]? = some a → p.kids[j]? = some q → P a q = true) → (((V6 w t p).zip p.kids).all fun x => P x.1 x.2) = true := fun P hP => by
     rw [List.all_eq_true]
     intro x hx
     obtain ⟨j, hj⟩ := List.mem_iff_getElem?.1 hx
     obtain ⟨h3, h4⟩ := List.getElem?_zip_eq_some.1 hj
     exact hP j x.1 x.2 ((List.getElem?_eq_some_iff.1 h4).1) h3 h4
    have notall : ∀ (P : Q2 → Q0 → Bool) (k : Nat) (a : Q2) (q : Q0), (V6 w t p)[k]? = some a → p.kids[k]? = some q → P a q = false → (((V6 w t p).zip p.kids).all fun x => P x.1 x.2) = false := fun P k a q h1 h2 h3 => by
     rw [List.all_eq_false]
     exact ⟨(a, q), List.mem_of_getElem? (Q9c h1 h2), by simp [h3]⟩
    refine Ret.ctl (Z1 p.kids
     (fun k s => s.1 = ((c + 1 + cntP.cntPs (p.kids.take k) : Nat) : Int) ∧ c + 1 + cntP.cntPs (p.kids.take k) ≤ 60 ∧ s.2 = ownV t p ++ (((V6 w t p).zip p.kids).take (min k (if p.op = 5 then 1 else p.kids.length))).flatMap (fun x => Q26 w d x.1 x.2) ∧
      (∀ (j : Nat) (a : Q2) (q : Q0), j < k → (V6 w t p)[j]? = some a → p.kids[j]? = some q → Q0a w d a q = true ∧ linD w d a q = true) ∧ s.2.length ≤ 1 + cntP.cntPs (p.kids.take k) ∧
      (p.op = 5 → 2 ≤ k → Q8q (kv w d t p 0) (kv w d t p 1) = true))
     (fun r => r.2.1 = false ∧ okD w (d + 1) t p c = false)
     (fun s => s.1 = ((c + cntP p : Nat) : Int) ∧ c + cntP p ≤ 60 ∧ s.2 = Q26 w (d + 1) t p ∧ Q0a w (d + 1) t p = true ∧ (((V6 w t p).zip p.kids).all fun x => linD w d x.1 x.2) = true ∧
      (p.op = 5 → Q8q (kv w d t p 0) (kv w d t p 1) = true))
     ⟨by simp [cntP.cntPs], by simp [cntP.cntPs]; omega, by simp, fun j a q hj => by omega, by simp; omega, fun _ h => by omega⟩ (fun k q s hq hI => ?_) (fun s hI => ?_)) (fun r hr => ?_) (fun s hs => ?_)
    ·obtain ⟨i1, i2, i3, i4, i5, i6⟩ := hI
     have hlt := (List.getElem?_eq_some_iff.1 hq).1
     obtain ⟨a, q', ha, hq'⟩ := hkn k hlt
     rw [hq] at hq'
     cases hq'
     have hcd := Q5k p.kids k q hq
     have hct := Q1z p.kids (k + 1)
     have hpos := Q5l q
     refine Ret.ctl (R := fun (r : Ctl (List Q8 × Bool × Int) (Int × List Q8)) => ∃ x, r = .ret x ∧ x.2.1 = false ∧ okD w (d + 1) t p c = false)
      (B := fun (s : Int × List Q8) => s.1 = ((c + 1 + cntP.cntPs (p.kids.take (k + 1)) : Nat) : Int) ∧ c + 1 + cntP.cntPs (p.kids.take (k + 1)) ≤ 60 ∧ s.2 = ownV t p ++ (((V6 w t p).zip p.kids).take (min (k + 1) (if p.op = 5 then 1 else p.kids.length))).flatMap (fun x => Q26 w d x.1 x.2) ∧
      (∀ (j : Nat) (a : Q2) (q : Q0), j < k + 1 → (V6 w t p)[j]? = some a → p.kids[j]? = some q → Q0a w d a q = true ∧ linD w d a q = true) ∧ s.2.length ≤ 1 + cntP.cntPs (p.kids.take (k + 1)) ∧
      (p.op = 5 → 2 ≤ k + 1 → Q8q (kv w d t p 0) (kv w d t p 1) = true))
      ?_ (fun r hr => ?_) (fun s hs => ⟨_, rfl, hs⟩)
     ·rw [Q2a ha]
      simp only [Option.bind_some]
      have hdeep : wadd .i64 (11 - ((d + 1 : Nat) : Int)) 1 = 11 - (d : Int) := by rw [Q09 (by omega) (by omega)]; omega
      rw [hdeep, i1]
      refine Ret.bind (ih m a q _ (Q78 hT ht ho a (List.mem_of_getElem? ha)) i2 (by omega) (by omega)) (fun r hr => ?_)
      obtain ⟨hr1, hr2⟩ := hr
      rw [hr1]
      cases hok : okD w d a q (c + 1 + cntP.cntPs (p.kids.take k)) with
      | false =>
       refine .some ⟨_, rfl, rfl, ?_⟩
       simp only [okD, Bool.and_eq_false_iff] at hok
       rcases hok with h1 | h1 | h1
       ·simp only [okD, Q0a, notall _ k a q ha hq h1, Bool.and_false, Bool.false_and]
       ·have h1 := of_decide_eq_false h1
        have : ¬ c + cntP p ≤ 60 := by omega
        simp [okD, this]
       ·simp only [okD, linD, notall _ k a q ha hq h1, Bool.and_false, Bool.false_and]
      | true =>
       obtain ⟨e1, e2⟩ := hr2 hok
       simp only [okD, Bool.and_eq_true, decide_eq_true_eq] at hok
       obtain ⟨g1, g2, g3⟩ := hok
       have hvl := (Q63 hw d (d + 4) a q [] (Q78 hT ht ho a (List.mem_of_getElem? ha)) g1 (by omega) (by simp; omega)).2
       have hboth : ∀ (j : Nat) (a' : Q2) (q' : Q0), j < k + 1 → (V6 w t p)[j]? = some a' → p.kids[j]? = some q' → Q0a w d a' q' = true ∧ linD w d a' q' = true := fun j a' q' hj h1 h2 => by
        by_cases hjk : j = k
        ·subst hjk
         rw [ha] at h1
         rw [hq] at h2
         cases h1
         cases h2
         exact ⟨g1, g3⟩
        ·exact i4 j a' q' (by omega) h1 h2
       simp only [Bool.not_true, Bool.false_eq_true, if_false]
       have hcount : r.2.2 = ((c + 1 + cntP.cntPs (p.kids.take (k + 1)) : Nat) : Int) := by rw [e2, hcd]; congr 1; omega
       have happ : app s.2 r.1 = some (s.2 ++ Q26 w d a q) := by rw [e1]; exact W6 (by simp only [Q6]; omega)
       have hzip := Q9c ha hq
       by_cases h5 : p.op = 5
       ·have h50 : ieq p.op 5 = true := by rw [Z4]; exact h5
        rw [if_pos h50]
        obtain ⟨x0, x1, hkids, hkt⟩ := kid0 h5 hl
        by_cases hk1 : k = 1
        ·subst hk1
         have h10 : ieq ((1 : Nat) : Int) 1 = true := rfl
         rw [if_pos h10, X4x, e1]
         simp only [Option.bind_some]
         have hs2 : s.2 = kv w d t p 0 := by
          rw [i3, if_pos h5, show ownV t p = [] by simp [ownV, h5]]
          simp only [Nat.min_self, List.nil_append]
          exact Z8w _ _
         have hz1 : (kv w d t p 1) = Q26 w d a q := by unfold kv; rw [hzip]; rfl
         refine Ret.ite (fun h => ?_) (fun h => ?_)
         ·refine .some ⟨_, rfl, rfl, ?_⟩
          have : Q8q (kv w d t p 0) (kv w d t p 1) = false := by
           rw [hz1, ← hs2]
           rw [Bool.not_eq_true'] at h
           exact h
          simp only [okD, linD, if_pos h5, this, Bool.and_false]
         ·refine .some ⟨hcount, by omega, ?_, hboth, by simp only; omega, fun _ _ => ?_⟩
          ·rw [i3, if_pos h5]
           rfl
          ·rw [hz1, ← hs2]
           simpa [Q8q] using h
        ·have hk0 : k = 0 := by rw [hkids] at hlt; simp at hlt; omega
         subst hk0
         have h10 : ¬ ieq ((0 : Nat) : Int) 1 = true := by decide
         rw [if_neg h10, happ]
         refine .some ⟨hcount, by omega, ?_, hboth, by simp only [List.length_append]; omega, fun _ h => by omega⟩
         simp only
         rw [i3, if_pos h5]
         simp only [Nat.zero_min, List.take_zero, List.flatMap_nil, List.append_nil, Nat.min_self]
         rw [show (0 + 1) = 1 from rfl, Z8w, hzip]
         rfl
       ·have h50 : ¬ ieq p.op 5 = true := by rw [Z4]; exact h5
        rw [if_neg h50, happ]
        refine .some ⟨hcount, by omega, ?_, hboth, by simp only [List.length_append]; omega, fun h => absurd h h5⟩
        simp only
        rw [i3, if_neg h5, Nat.min_eq_left (by omega), Nat.min_eq_left (by omega), List.take_add_one, hzip]
        simp
     ·obtain ⟨x, rfl, h1, h2⟩ := hr
      exact .some ⟨h1, h2⟩
    ·obtain ⟨i1, i2, i3, i4, i5, i6⟩ := hI
     rw [List.take_length] at i1 i2
     refine ⟨by rw [i1]; congr 1; omega, by omega, ?_, ?_, allgood _ fun j a q hj h1 h2 => (i4 j a q hj h1 h2).2, fun h5 => i6 h5 ?_⟩
     ·rw [i3]
      have : min p.kids.length (if p.op = 5 then 1 else p.kids.length) = (if p.op = 5 then 1 else p.kids.length) := by
       split
       ·rename_i h5
        obtain ⟨x0, x1, hkids, hkt⟩ := kid0 h5 hl
        rw [hkids]
        simp
       ·simp
      rw [this]
      rfl
     ·simp only [Q0a, hnode, Bool.true_and]
      exact allgood _ fun j a q hj h1 h2 => (i4 j a q hj h1 h2).1
     ·obtain ⟨x0, x1, hkids, hkt⟩ := kid0 h5 hl
      rw [hkids]
      simp
    ·exact .some ⟨by rw [hr.1, hr.2], fun h => by rw [hr.2] at h; cases h⟩
    ·obtain ⟨b1, b2, b3, b4, b5, b6⟩ := hs
     refine Ret.ctl (V6e s.2 (fun v hv => by rw [b3] at hv; exact Z40 (d + 1) t p b4 v hv)) (fun r hr => ?_) (fun s' hs' => ?_)
     ·obtain ⟨rfl, hd0⟩ := hr
      have : okD w (d + 1) t p c = false := by
       by_cases h5 : p.op = 5
       ·have hlin : linD w (d + 1) t p = true := by simp only [linD, b5, if_pos h5, b6 h5, Bool.and_self]
        have := Q6d (d + 1) t p b4 hlin
        rw [b3, this] at hd0
        cases hd0
       ·rw [b3] at hd0
        simp only [okD, linD, if_neg h5, hd0, Bool.and_false]
      exact .some ⟨by rw [this], fun h => by rw [this] at h; cases h⟩
     ·have hlin : linD w (d + 1) t p = true := by
       by_cases h5 : p.op = 5
       ·simp only [linD, b5, if_pos h5, b6 h5, Bool.and_self]
       ·rw [b3] at hs'
        simp only [linD, b5, if_neg h5, hs', Bool.and_self]
      have : okD w (d + 1) t p c = true := by simp [okD, b4, b2, hlin]
      exact .some ⟨by rw [this], fun _ => ⟨b3, b1⟩⟩
end Go.Proofs.YtbdkbdafhlcilaaGreat
namespace Go.Proofs.YtbdkbdafhlcilaaGreat
open Go Go.RowKit
theorem W2r (w : List Q3) (t : Q2) (p : Q0) : okD w 10 t p 0 = Q12 w t p := by simp [okD, Q12]
theorem W61 {w : List Q3} (hw : WW w) : ∀ (d : Nat) (t : Q2) (p : Q0), t ∈ tys w → Q0a w d t p = true → ∀ v ∈ Q26 w d t p, v.typ ∈ tys w := by
 intro d
 induction d with
 | zero => intro t p ht hg; cases hg
 | succ d ih =>
  intro t p ht hg v hv
  obtain ⟨ho, _⟩ := Q3x (Q2x hg)
  simp only [Q26, List.mem_append, List.mem_flatMap] at hv
  rcases hv with hv | ⟨x, hx, hv⟩
  ·unfold ownV at hv
   split at hv
   ·simp at hv
    subst hv
    exact ht
   ·simp at hv
  ·have hx := List.mem_of_mem_take hx
   obtain ⟨j, hj⟩ := List.mem_iff_getElem?.1 hx
   obtain ⟨h3, h4⟩ := List.getElem?_zip_eq_some.1 hj
   exact ih x.1 x.2 (Q78 (hw.ty t ht) ht ho x.1 (List.mem_of_getElem? h3)) (Q1y hg h3 h4) v hv
def Z9k (g : Q2z) (vars : List Q8) : Bool := if g.op = 0 then decide (g.var = 0) && decide (g.n = 0) else decide (g.op = 1 ∨ g.op = 2) && (decide (0 ≤ g.n) && decide (g.n ≤ 9)) && decide (⟨g.var, tI⟩ ∈ vars)
def Q71 (w : List Q3) (t : Q2) (c : Q5) : Bool := Q12 w t c.pat && Z9k c.guard (Q26 w 10 t c.pat)
def J5 (w : List Q3) (t : Q2) (l : List Q5) : Bool := decide (l.length ≤ 8) && l.all (Q71 w t)
theorem X31 (g : Q2z) (vars : List Q8) : Q61 g vars = some (Z9k g vars) := by
 unfold Q61 Z9k
 simp only [Q8y, Z7t, Option.bind_some]
 by_cases h0 : g.op = 0
 ·simp [ieq, h0, Q7l]
 ·rw [if_neg (by rw [Z4]; exact h0), if_neg h0]
  have e : (decide (1 ≤ g.op) && decide (g.op ≤ 2)) = decide (g.op = 1 ∨ g.op = 2) := by
   rw [← Bool.decide_and]
   exact decide_eq_decide.2 (by omega)
  rw [e]
  have et : (Q2.mk (-1) 0) = tI := rfl
  rw [et]
  cases decide (g.op = 1 ∨ g.op = 2) <;> cases (decide (0 ≤ g.n) && decide (g.n ≤ 9)) <;> rfl
theorem X25 {w : List Q3} (hw : WW w) (g : Q2z) (vars : List Q8) (hd : Q19 vars = true) (ht : ∀ v ∈ vars, v.typ ∈ tys w) : Q4s g vars = some (Z9k g vars) := by
 have h : Ret (Q4s g vars) (fun r => r = Z9k g vars) := by
  unfold Q4s Z9k
  by_cases h0 : g.op = 0
  ·rw [if_pos (by rw [Z4]; exact h0), if_pos h0]
   by_cases h1 : g.var = 0 <;> simp [ieq, h1, Ret]
  ·rw [if_neg (by rw [Z4]; exact h0), if_neg h0]
   refine Ret.ctl (R := fun r => r = false ∧ (decide (g.op = 1 ∨ g.op = 2) && (decide (0 ≤ g.n) && decide (g.n ≤ 9))) = false) (B := fun _ => (decide (g.op = 1 ∨ g.op = 2) && (decide (0 ≤ g.n) && decide (g.n ≤ 9))) = true) ?_ (fun r hr => ?_) (fun s hs => ?_)
   ·by_cases h1 : g.op = 1 <;> by_cases h2 : g.op = 2 <;> by_cases h3 : g.n < 0 <;> by_cases h4 : 9 < g.n <;> simp [ieq, ilt, h1, h2, h3, h4, Ret] <;> omega
   ·obtain ⟨rfl, hr⟩ := hr
    exact .some (by rw [hr]; rfl)
   ·rw [hs, Bool.true_and]
    refine Ret.bind (X5w vars g.var) (fun i hi => ?_)
    rcases hi with ⟨q, x, rfl, hx, hv, _⟩ | ⟨rfl, hno⟩
    ·have h1 : ile 0 ((q : Nat) : Int) = true := by rw [Q03]; omega
     rw [if_pos h1, Q2a hx]
     refine .some ?_
     have hxm := List.mem_of_getElem? hx
     simp only [ieq]
     refine decide_eq_decide.2 ⟨fun hdt => ?_, fun hm => ?_⟩
     ·have := ((hw.ty x.typ (ht x hxm)).ti hdt).1
      have : x = ⟨g.var, tI⟩ := by cases x; simp at hv this; simp [hv, this]
      rw [← this]
      exact hxm
     ·obtain ⟨j, hj⟩ := List.mem_iff_getElem?.1 hm
      have := Q8o hd hx hj hv
      subst this
      rw [hx] at hj
      cases hj
      rfl
    ·have h1 : ¬ ile 0 (-1) = true := by decide
     rw [if_neg h1]
     refine .some ?_
     symm
     exact decide_eq_false fun hm => hno _ hm rfl
 obtain ⟨r, e, rfl⟩ := h
 exact e
theorem Z20 {w : List Q3} (hw : WW w) {n : Nat} (hn : 100 ≤ n) (t : Q2) (p : Q0) (ht : t ∈ tys w) : Ret (Q29 n w t p) (fun r => r.2 = Q12 w t p ∧ (Q12 w t p = true → r.1 = Q26 w 10 t p)) := by
 unfold Q29
 have h := V0x hw 10 n t p 0 ht (by omega) (by omega) (by omega)
 have e1 : (11 : Int) - ((10 : Nat) : Int) = 1 := rfl
 rw [e1] at h
 refine Ret.bind h (fun r hr => .some ?_)
 rw [W2r] at hr
 exact ⟨hr.1, fun hv => (hr.2 hv).1⟩
theorem X0g {w : List Q3} (hw : WW w) {n : Nat} (hn : 100 ≤ n) (t : Q2) (c : Q5) (ht : t ∈ tys w) : Q47 n w t c = some (Q71 w t c) := by
 have h : Ret (Q47 n w t c) (fun r => r = Q71 w t c) := by
  unfold Q47 Q71
  refine Ret.bind (Z20 hw hn t c.pat ht) (fun r hr => ?_)
  obtain ⟨h1, h2⟩ := hr
  rw [h1]
  cases hv : Q12 w t c.pat with
  | false => exact .some rfl
  | true =>
   rw [if_pos rfl, X31, h2 hv]
   exact .some rfl
 obtain ⟨r, e, rfl⟩ := h
 exact e
theorem Q3z {w : List Q3} {t : Q2} {p : Q0} (h : Q12 w t p = true) : Q0a w 10 t p = true ∧ cntP p ≤ 60 ∧ linD w 10 t p = true := by
 simpa [Q12] using h
theorem X01 {w : List Q3} (hw : WW w) {n : Nat} (hn : 100 ≤ n) (t : Q2) (c : Q5) (ht : t ∈ tys w) : Q85 n w t c = some (Q71 w t c) := by
 unfold Q85 Q71
 rw [Z6e hw hn t c.pat ht]
 simp only [Option.bind_some]
 cases hv : Q12 w t c.pat with
 | false => rfl
 | true =>
  obtain ⟨g1, g2, g3⟩ := Q3z hv
  rw [if_pos rfl, (Q63 hw 10 n t c.pat [] ht g1 (by omega) (by simp; omega)).1]
  simp only [Option.bind_some, List.nil_append]
  rw [X25 hw c.guard _ (Q6d 10 t c.pat g1 g3) (W61 hw 10 t c.pat ht g1)]
  rfl
theorem X2z {w : List Q3} (hw : WW w) {t : Q2} (ht : t ∈ tys w) : Q35 NN w t = some true := by
 unfold Q35
 rw [hw.v1]
 simp only [Option.bind_some, if_true]
 rw [(hw.ty t ht).t1]
 rfl
theorem W1u {w : List Q3} (hw : WW w) {t : Q2} (ht : t ∈ tys w) : Q4o NN w t = some true := by
 unfold Q4o
 rw [hw.v2]
 simp only [Option.bind_some, if_true]
 rw [(hw.ty t ht).t2]
 rfl
theorem Q3w {w : List Q3} (hw : WW w) {t : Q2} (ht : t ∈ tys w) (l : List Q5) : Y2 NN w t l = some (J5 w t l) := by
 unfold Y2 J5
 rw [X2z hw ht]
 simp only [Option.bind_some, if_true]
 by_cases hl : l.length ≤ 8
 ·rw [if_pos (by rw [Q03]; simp only [lenZ]; omega)]
  rw [Z09 l _ (fun c => !Q71 w t c) (fun c _ => by unfold Q3h; rw [X0g hw (by decide) t c ht]; rfl)]
  simp only [Option.bind_some, hl, decide_true, Bool.true_and, Option.some.injEq]
  rw [Bool.eq_iff_iff]
  simp
 ·rw [if_neg (by rw [Q03]; simp only [lenZ]; omega)]
  simp [hl]
theorem Q5s {w : List Q3} (hw : WW w) {t : Q2} (ht : t ∈ tys w) (l : List Q5) : Y9 NN w t l = some (J5 w t l) := by
 have h : Ret (Y9 NN w t l) (fun r => r = J5 w t l) := by
  unfold Y9 J5
  rw [W1u hw ht]
  simp only [Option.bind_some, Bool.not_true, Bool.false_eq_true, if_false]
  by_cases hl : l.length ≤ 8
  ·rw [if_neg (by rw [X0]; simp only [lenZ]; omega)]
   simp only [hl, decide_true, Bool.true_and]
   refine Ret.ctl (Z1 l (fun k _ => ∀ j c, j < k → l[j]? = some c → Q71 w t c = true) (fun r => r = false ∧ l.all (Q71 w t) = false) (fun _ => l.all (Q71 w t) = true) (fun j c hj => by omega) (fun k c s hc hI => ?_) (fun s hI => ?_)) (fun r hr => ?_) (fun s hs => ?_)
   ·rw [X01 hw (by decide) t c ht]
    simp only [Option.bind_some]
    cases hb : Q71 w t c with
    | false =>
     refine .some ⟨rfl, ?_⟩
     rw [List.all_eq_false]
     exact ⟨c, List.mem_of_getElem? hc, by simp [hb]⟩
    | true =>
     refine .some (fun j c' hj hc' => ?_)
     by_cases hjk : j = k
     ·subst hjk
      rw [hc] at hc'
      cases hc'
      exact hb
     ·exact hI j c' (by omega) hc'
   ·rw [List.all_eq_true]
    intro c hc
    obtain ⟨j, hj⟩ := List.mem_iff_getElem?.1 hc
    exact hI j c ((List.getElem?_eq_some_iff.1 hj).1) hj
   ·exact .some (by rw [hr.1, hr.2])
   ·exact .some hs.symm
  ·rw [if_pos (by rw [X0]; simp only [lenZ]; omega)]
   exact .some (by simp [hl])
 obtain ⟨r, e, rfl⟩ := h
 exact e
end Go.Proofs.YtbdkbdafhlcilaaGreat
namespace Go.Proofs.YtbdkbdafhlcilaaGreat
open Go Go.RowKit
def Q0s (w : List Q3) : Nat → Q2 → Q4 → Prop
 | 0, _, _ => False
 | d + 1, t, v => if t.data = -1 then v.ctor = -1 ∧ 0 ≤ v.n ∧ v.n ≤ 9 ∧ v.kids = [] else v.n = 0 ∧ v.ctor ∈ Z9 w t ∧ v.kids.length = (Z5 w t v.ctor).length ∧ ∀ (j : Nat) (a : Q2) (x : Q4), (Z5 w t v.ctor)[j]? = some a → v.kids[j]? = some x → Q0s w d a x
def Q2p (f : Q0 → Q4 → Option (List X3)) : List Q0 → List Q4 → Option (List X3)
 | [], _ => some []
 | _ :: _, [] => none
 | p :: ps, v :: vs => match f p v with
  | none => none
  | some l => match Q2p f ps vs with
   | none => none
   | some m => some (l ++ m)
def X6 : Nat → Q0 → Q4 → Option (List X3)
 | 0, _, _ => none
 | d + 1, p, v =>
  if p.op = 1 then some []
  else if p.op = 2 then some [⟨p.var, v⟩]
  else if p.op = 3 then (if p.n ≤ v.n ∧ v.n ≤ p.m then some [] else none)
  else if p.op = 5 then (match p.kids with
   | [a, b] => (match X6 d a v with | some l => some l | none => X6 d b v)
   | _ => none)
  else if p.op = 6 then (match p.kids with
   | [a] => (X6 d a v).map (fun l => ⟨p.var, v⟩ :: l)
   | _ => none)
  else if p.ctor = v.ctor then Q2p (X6 d) p.kids v.kids else none
theorem X59 {w : List Q3} {t : Q2} {p : Q0} (h6 : p.op = 6) (hl : p.kids.length = (V6 w t p).length) : ∃ a, p.kids = [a] ∧ V6 w t p = [t] := by
 have hk : V6 w t p = [t] := by simp [V6, h6]
 rw [hk] at hl
 match hkids : p.kids, hl with
 | [a], _ => exact ⟨a, rfl, hk⟩
theorem W6w {w : List Q3} (hw : WW w) : ∀ (d n : Nat) (t : Q2) (p : Q0) (v : Q4) (e : Nat), t ∈ tys w → Q0a w d t p = true → Q0s w e t v → d + 2 ≤ n → cntP p ≤ 1000 →
  Ret (Q3g n p v) (fun r => r.1.length ≤ cntP p ∧ r.2 = (X6 d p v).isSome ∧ ∀ l, X6 d p v = some l → r.1 = l) := by
 intro d
 induction d with
 | zero => intro n t p v e ht h; cases h
 | succ d ih =>
  intro n t p v e ht hg hv hn hc
  obtain ⟨n, rfl⟩ : ∃ k, n = k + 1 := ⟨n - 1, by omega⟩
  obtain ⟨ho, hl⟩ := Q3x (Q2x hg)
  have hT := hw.ty t ht
  have hpos := Q5l p
  unfold Q3g
  refine Ret.ite (fun h => ?_) (fun h1 => ?_)
  ·rw [Z4] at h
   exact .some ⟨by simp, by simp [X6, h], fun l hl => by simp [X6, h] at hl; exact hl.symm⟩
  rw [Z8] at h1
  refine Ret.ite (fun h => ?_) (fun h2 => ?_)
  ·rw [Z4] at h
   exact .some ⟨by simp; omega, by simp [X6, h], fun l hl => by simp [X6, h] at hl; exact hl⟩
  rw [Z8] at h2
  refine Ret.ite (fun h => ?_) (fun h3 => ?_)
  ·rw [Z4] at h
   rw [Q8y]
   refine .some ⟨by simp, ?_, fun l hl => ?_⟩
   ·by_cases hr : p.n ≤ v.n ∧ v.n ≤ p.m
    ·simp [X6, h, hr]
    ·simp only [X6, h]
     simp [hr]
     simpa using hr
   ·simp only [X6, h] at hl
    simp at hl
    exact hl.2.symm
  rw [Z8] at h3
  refine Ret.ite (fun h => ?_) (fun h5 => ?_)
  ·rw [Z4] at h
   obtain ⟨a, b, hkids, hk⟩ := kid0 h hl
   have ca := Q70 (p := p) (k := 0) (by rw [hkids]; rfl)
   have cb := Q70 (p := p) (k := 1) (by rw [hkids]; rfl)
   have ga := Q1y hg (k := 0) (by rw [hk]; rfl) (by rw [hkids]; rfl)
   have gb := Q1y hg (k := 1) (by rw [hk]; rfl) (by rw [hkids]; rfl)
   have i0 : idx [a, b] 0 = some a := rfl
   have i1 : idx [a, b] 1 = some b := rfl
   rw [hkids, i0, i1]
   simp only [Option.bind_some]
   have hm : X6 (d + 1) p v = (match X6 d a v with | some l => some l | none => X6 d b v) := by
    simp [X6, h, hkids]
   rw [hm]
   refine Ret.bind (ih n t a v e ht ga hv (by omega) (by omega)) (fun r hr => ?_)
   obtain ⟨r0, r1, r2⟩ := hr
   rw [r1]
   cases hma : X6 d a v with
   | some l => exact .some ⟨by simp only; omega, rfl, fun l' hl' => by cases hl'; exact r2 l hma⟩
   | none =>
    simp only [Option.isSome_none, Bool.false_eq_true, if_false]
    refine Ret.bind (ih n t b v e ht gb hv (by omega) (by omega)) (fun s hs => ?_)
    obtain ⟨s0, s1, s2⟩ := hs
    exact .some ⟨by simp only; omega, s1, fun l' hl' => s2 l' hl'⟩
  rw [Z8] at h5
  refine Ret.ite (fun h => ?_) (fun h6 => ?_)
  ·rw [Z4] at h
   obtain ⟨a, hkids, hk⟩ := X59 h hl
   have ca := Q70 (p := p) (k := 0) (by rw [hkids]; rfl)
   have ga := Q1y hg (k := 0) (by rw [hk]; rfl) (by rw [hkids]; rfl)
   have i0 : idx [a] 0 = some a := rfl
   rw [hkids, i0]
   simp only [Option.bind_some]
   have hm : X6 (d + 1) p v = (X6 d a v).map (fun l => ⟨p.var, v⟩ :: l) := by
    simp [X6, h, hkids]
   rw [hm]
   refine Ret.bind (ih n t a v e ht ga hv (by omega) (by omega)) (fun r hr => ?_)
   obtain ⟨r0, r1, r2⟩ := hr
   rw [W6 (by simp [Q6]; omega)]
   refine .some ⟨by simp; omega, by rw [r1]; simp, fun l' hl' => ?_⟩
   simp only [Option.map_eq_some_iff] at hl'
   obtain ⟨l, e1, rfl⟩ := hl'
   rw [r2 l e1]
   rfl
  rw [Z8] at h6
  have h4 : p.op = 4 := by
   simp [Q7i, h1, h2, h3, h5, h6] at ho
   exact ho.2.1
  have hcm := Q9l ho h4
  have hm : X6 (d + 1) p v = if p.ctor = v.ctor then Q2p (X6 d) p.kids v.kids else none := by
   simp [X6, h4]
  rw [hm]
  refine Ret.ite (fun h => ?_) (fun h => ?_)
  ·rw [Bool.not_eq_true', Z8] at h
   rw [if_neg h]
   exact .some ⟨by simp, rfl, fun l hl => by cases hl⟩
  ·rw [Bool.not_eq_false', Z4] at h
   rw [if_pos h]
   have hkt : V6 w t p = Z5 w t p.ctor := by simp [V6, h4]
   obtain ⟨e, rfl⟩ : ∃ e', e = e' + 1 := by cases e with
    | zero => exact hv.elim
    | succ e => exact ⟨e, rfl⟩
   have hdata : t.data ≠ -1 := fun hd => by
    obtain ⟨rfl, _⟩ := hT.ti hd
    have : Z9 w tI = [] := rfl
    rw [this] at hcm
    cases hcm
   simp only [Q0s, if_neg hdata] at hv
   obtain ⟨v1, v2, v3, v4⟩ := hv
   rw [← h] at v3 v4
   have hlen : p.kids.length = v.kids.length := by rw [v3, hl, hkt]
   refine Ret.ctl (Z1 p.kids (fun k s => Q2p (X6 d) p.kids v.kids = (Q2p (X6 d) (p.kids.drop k) (v.kids.drop k)).map (fun l => s ++ l) ∧ s.length ≤ cntP.cntPs (p.kids.take k)) (fun r => r = ([], false) ∧ Q2p (X6 d) p.kids v.kids = none)
    (fun s => Q2p (X6 d) p.kids v.kids = some s ∧ s.length ≤ cntP.cntPs p.kids) ⟨by simp, by simp⟩ (fun k q s hq hI => ?_) (fun s hI => ?_)) (fun r hr => ?_) (fun s hs => ?_)
   ·obtain ⟨i1, i2⟩ := hI
    have hlt := (List.getElem?_eq_some_iff.1 hq).1
    have hx : v.kids[k]? = some (v.kids[k]'(by omega)) := by simp
    have ha : (V6 w t p)[k]? = some ((V6 w t p)[k]'(by omega)) := by simp
    rw [Q2a hx]
    simp only [Option.bind_some]
    have cq := Q70 hq
    have hcd := Q5k p.kids k q hq
    have hct := Q1z p.kids (k + 1)
    have hcp := Q1u p
    refine Ret.bind (ih n _ q _ e (Q78 hT ht ho _ (List.mem_of_getElem? ha)) (Q1y hg ha hq) (v4 k _ _ (by rw [← hkt]; exact ha) hx) (by omega) (by omega)) (fun r hr => ?_)
    obtain ⟨r0, r1, r2⟩ := hr
    have hd1 : p.kids.drop k = q :: p.kids.drop (k + 1) := by
     rw [List.drop_eq_getElem_cons hlt]
     rw [List.getElem?_eq_getElem hlt] at hq
     cases hq
     rfl
    have hd2 : v.kids.drop k = v.kids[k]'(by omega) :: v.kids.drop (k + 1) := List.drop_eq_getElem_cons (by omega)
    rw [hd1, hd2] at i1
    simp only [Q2p] at i1
    cases hmq : X6 d q (v.kids[k]'(by omega)) with
    | none =>
     rw [hmq] at i1 r1
     rw [r1]
     exact .some ⟨rfl, i1⟩
    | some l =>
     rw [hmq] at i1 r1
     have e1 := r2 l hmq
     rw [r1]
     simp only [Option.isSome_some, Bool.not_true, Bool.false_eq_true, if_false]
     rw [W6 (by simp only [Q6]; omega), e1]
     refine .some ⟨?_, by rw [List.length_append, ← e1]; omega⟩
     rw [i1]
     cases Q2p (X6 d) (p.kids.drop (k + 1)) (v.kids.drop (k + 1)) with
     | none => rfl
     | some m => simp
   ·obtain ⟨i1, i2⟩ := hI
    rw [List.take_length] at i2
    refine ⟨?_, i2⟩
    rw [i1, List.drop_length]
    simp [Q2p]
   ·obtain ⟨rfl, hr⟩ := hr
    exact .some ⟨by simp, by rw [hr]; rfl, fun l hl => by rw [hr] at hl; cases hl⟩
   ·have hcp := Q1u p
    exact .some ⟨by simp only; omega, by rw [hs.1]; rfl, fun l hl => by rw [hs.1] at hl; cases hl; rfl⟩
end Go.Proofs.YtbdkbdafhlcilaaGreat
namespace Go.Proofs.YtbdkbdafhlcilaaGreat
open Go Go.RowKit
def X69 : Nat → Q0 → Prop
 | 0, _ => False
 | d + 1, p => ∀ q ∈ p.kids, X69 d q
theorem Q0.ext' {a b : Q0} (h1 : a.op = b.op) (h2 : a.ctor = b.ctor) (h3 : a.n = b.n) (h4 : a.m = b.m) (h5 : a.var = b.var) (h6 : a.kids = b.kids) : a = b := by
 cases a; cases b; simp_all
theorem Q93 {w : List Q3} : ∀ (d : Nat) (t : Q2) (p : Q0), Q0a w d t p = true → X69 d p := by
 intro d
 induction d with
 | zero => intro t p h; cases h
 | succ d ih =>
  intro t p h q hq
  obtain ⟨ho, hl⟩ := Q3x (Q2x h)
  obtain ⟨j, hj⟩ := List.mem_iff_getElem?.1 hq
  have hjl := (List.getElem?_eq_some_iff.1 hj).1
  exact ih _ q (Q1y h (show (V6 w t p)[j]? = some ((V6 w t p)[j]'(by omega)) by simp) hj)
theorem X9d : ∀ (d n : Nat) (p : Q0), X69 d p → d ≤ n → cntP p ≤ 1000 → Q14 n p = some p := by
 intro d
 induction d with
 | zero => intro n p h; exact h.elim
 | succ d ih =>
  intro n p h hn hc
  obtain ⟨n, rfl⟩ : ∃ k, n = k + 1 := ⟨n - 1, by omega⟩
  have hcp := Q1u p
  have hr : Ret (Q14 (n + 1) p) (fun r => r = p) := by
   unfold Q14
   refine Ret.ctl (Z1 p.kids (fun k s => s = p.kids.take k ∧ s.length ≤ cntP.cntPs (p.kids.take k)) (fun _ => False) (fun s => s = p.kids) ⟨by simp, by simp⟩ (fun k q s hq hI => ?_) (fun s hI => ?_)) (fun r hr => hr.elim) (fun s hs => .some (Q0.ext' rfl rfl rfl rfl rfl hs))
   ·obtain ⟨i1, i2⟩ := hI
    have hct := Q1z p.kids (k + 1)
    have hcd := Q5k p.kids k q hq
    have hq1 := Q5l q
    rw [ih n q (h q (List.mem_of_getElem? hq)) (by omega) (by omega)]
    simp only [Option.bind_some]
    rw [W6 (by simp only [Q6, List.length_cons, List.length_nil]; omega)]
    exact .some ⟨by rw [i1, List.take_add_one, hq]; rfl, by simp; omega⟩
   ·rw [hI.1, List.take_length]
  obtain ⟨r, e, rfl⟩ := hr
  exact e
end Go.Proofs.YtbdkbdafhlcilaaGreat
namespace Go.Proofs.YtbdkbdafhlcilaaGreat
open Go Go.RowKit
def tupD (out : List (List Q0)) (l : List Q0) : List (List Q0) := out.flatMap fun q => l.map fun c => q ++ [c]
def Q6t (p : Q0) (ks : List Q0) : Q0 := Q0.mk p.op p.ctor p.n p.m p.var ks
def Z3 : Nat → Q0 → List Q0
 | 0, _ => []
 | d + 1, p => if p.op = 5 then p.kids.flatMap (Z3 d) else ((p.kids.map (Z3 d)).foldl tupD [[]]).map (Q6t p)
def orOk : Nat → Q0 → Prop
 | 0, _ => False
 | d + 1, p => p.kids.length ≤ 3 ∧ (p.op = 5 → p.kids.length = 2) ∧ ∀ x ∈ p.kids, orOk d x
def Q7h (l : List Nat) : Nat := l.foldl (· * ·) 1
theorem Z7f (l : List Nat) : ∀ a, l.foldl (· * ·) a = a * l.foldl (· * ·) 1 := by
 induction l with
 | nil => intro a; simp
 | cons x l ih => intro a; simp only [List.foldl_cons]; rw [ih (a * x), ih (1 * x)]; rw [Nat.one_mul, Nat.mul_assoc]
theorem X92 (l : List Nat) (x : Nat) : Q7h (l ++ [x]) = Q7h l * x := by simp [Q7h]
theorem Z3a {l : List Nat} (h : ∀ x ∈ l, 1 ≤ x) : 1 ≤ Q7h l := by
 induction l with
 | nil => simp [Q7h]
 | cons x l ih =>
  have h1 := h x (by simp)
  have h2 := ih fun y hy => h y (by simp [hy])
  have : Q7h (x :: l) = x * Q7h l := by simp only [Q7h, List.foldl_cons]; rw [Z7f, Nat.one_mul]
  rw [this]; exact Nat.mul_pos h1 h2
theorem Z39 {l : List Nat} (h : ∀ x ∈ l, 1 ≤ x) : ∀ k, Q7h (l.take k) ≤ Q7h l := by
 induction l with
 | nil => intro k; simp
 | cons x l ih =>
  intro k
  have c : ∀ m, Q7h (x :: m) = x * Q7h m := fun m => by simp only [Q7h, List.foldl_cons]; rw [Z7f, Nat.one_mul]
  cases k with
  | zero => simp only [List.take_zero]; show 1 ≤ _; exact Z3a h
  | succ k => simp only [List.take_succ_cons, c]; exact Nat.mul_le_mul_left _ (ih (fun y hy => h y (by simp [hy])) k)
theorem X4k (out : List (List Q0)) (l : List Q0) : (tupD out l).length = out.length * l.length := by
 unfold tupD
 induction out with
 | nil => simp
 | cons q out ih => simp only [List.flatMap_cons, List.length_append, ih, List.length_map, List.length_cons]; rw [Nat.add_mul, Nat.one_mul, Nat.add_comm]
theorem Z9y : ∀ (ls : List (List Q0)) (out : List (List Q0)), (ls.foldl tupD out).length = out.length * Q7h (ls.map List.length)
 | [], out => by simp [Q7h]
 | l :: ls, out => by
  rw [List.foldl_cons, Z9y ls, X4k, List.map_cons]
  have : Q7h (l.length :: ls.map List.length) = l.length * Q7h (ls.map List.length) := by simp only [Q7h, List.foldl_cons]; rw [Z7f, Nat.one_mul]
  rw [this, Nat.mul_assoc]
theorem Z2v (d : Nat) (p : Q0) : (Z3 (d + 1) p).length = if p.op = 5 then (p.kids.map fun x => (Z3 d x).length).sum else Q7h (p.kids.map fun x => (Z3 d x).length) := by
 simp only [Z3]
 split
 ·rw [List.length_flatMap]
 ·rw [List.length_map, Z9y]; simp [List.map_map, Function.comp_def]
theorem Z0g : ∀ (d : Nat) (p : Q0), orOk d p → 1 ≤ (Z3 d p).length := by
 intro d
 induction d with
 | zero => intro p h; exact h.elim
 | succ d ih =>
  intro p h
  obtain ⟨h1, h2, h3⟩ := h
  rw [Z2v]
  split
  ·rename_i h5
   have hl := h2 h5
   match hk : p.kids, hl with
   | [a, b], _ =>
    have ha := ih a (h3 a (by simp [hk]))
    simp
    omega
  ·refine Z3a fun x hx => ?_
   obtain ⟨q, hq, rfl⟩ := List.mem_map.1 hx
   exact ih q (h3 q hq)
theorem V1c {a b m : Nat} (ha : 1 ≤ a) (hb : 1 ≤ b) : min (min a m * min b m) m = min (a * b) m := by
 rcases Nat.le_total a m with h1 | h1 <;> rcases Nat.le_total b m with h2 | h2
 ·rw [Nat.min_eq_left h1, Nat.min_eq_left h2]
 ·rw [Nat.min_eq_left h1, Nat.min_eq_right h2, Nat.min_eq_right, Nat.min_eq_right]
  ·exact Nat.le_trans h2 (Nat.le_mul_of_pos_left _ ha)
  ·exact Nat.le_mul_of_pos_left _ ha
 ·rw [Nat.min_eq_right h1, Nat.min_eq_left h2, Nat.min_eq_right, Nat.min_eq_right]
  ·exact Nat.le_trans h1 (Nat.le_mul_of_pos_right _ hb)
  ·exact Nat.le_mul_of_pos_right _ hb
 ·rw [Nat.min_eq_right h1, Nat.min_eq_right h2]
  rcases Nat.eq_zero_or_pos m with rfl | hm
  ·simp
  ·rw [Nat.min_eq_right (Nat.le_mul_of_pos_left _ hm), Nat.min_eq_right (Nat.le_trans h2 (Nat.le_mul_of_pos_left _ ha))]
theorem W37 (a b : Nat) : imin (a : Int) (b : Int) = ((min a b : Nat) : Int) := by
 unfold imin
 split <;> omega
theorem X0z : ∀ (d n : Nat) (p : Q0), orOk d p → d ≤ n → Q15 n p = some ((min (Z3 d p).length 401 : Nat) : Int) := by
 intro d
 induction d with
 | zero => intro n p h; exact h.elim
 | succ d ih =>
  intro n p h hn
  obtain ⟨n, rfl⟩ : ∃ k, n = k + 1 := ⟨n - 1, by omega⟩
  obtain ⟨h1, h2, h3⟩ := h
  have hl : ∀ k q, p.kids[k]? = some q → (p.kids.map fun x => (Z3 d x).length).take (k + 1) = (p.kids.map fun x => (Z3 d x).length).take k ++ [(Z3 d q).length] := fun k q hq => by
   rw [List.take_add_one]; simp [hq]
  have hpos : ∀ x ∈ (p.kids.map fun x => (Z3 d x).length), 1 ≤ x := fun x hx => by
   obtain ⟨q, hq, rfl⟩ := List.mem_map.1 hx
   exact Z0g d q (h3 q hq)
  have hr : Ret (Q15 (n + 1) p) (fun r => r = ((min (Z3 (d + 1) p).length 401 : Nat) : Int)) := by
   unfold Q15
   rw [Z2v]
   by_cases h5 : p.op = 5
   ·have e5 : ieq p.op 5 = true := by simp [ieq, h5]
    simp only [e5, if_true, Option.bind_some]
    rw [if_pos h5]
    refine Ret.ctl (Z1 p.kids (fun k s => s = ((min ((p.kids.map fun x => (Z3 d x).length).take k).sum 401 : Nat) : Int)) (fun _ => False) (fun s => s = ((min (p.kids.map fun x => (Z3 d x).length).sum 401 : Nat) : Int)) (by simp) (fun k q s hq hI => ?_) (fun s hI => ?_)) (fun r hr => hr.elim) (fun s hs => .some hs)
    ·rw [ih n q (h3 q (List.mem_of_getElem? hq)) (by omega)]
     simp only [Option.bind_some]
     refine .some ?_
     simp only [Q4z]
     rw [hl k q hq, hI, List.sum_append, Q09 (by omega) (by omega)]
     have e : ((min (List.take k (p.kids.map fun x => (Z3 d x).length)).sum 401 : Nat) : Int) + ((min (Z3 d q).length 401 : Nat) : Int) = ((min (List.take k (p.kids.map fun x => (Z3 d x).length)).sum 401 + min (Z3 d q).length 401 : Nat) : Int) := by omega
     rw [e, show (401 : Int) = ((401 : Nat) : Int) from rfl, W37]
     congr 1
     simp only [List.sum_cons, List.sum_nil]
     omega
    ·rw [hI, List.take_of_length_le (by simp)]
   ·have e5 : ieq p.op 5 = false := by simp [ieq, h5]
    simp only [e5, Bool.false_eq_true, if_false, Option.bind_some]
    rw [if_neg h5]
    refine Ret.ctl (Z1 p.kids (fun k s => s = ((min (Q7h ((p.kids.map fun x => (Z3 d x).length).take k)) 401 : Nat) : Int)) (fun _ => False) (fun s => s = ((min (Q7h (p.kids.map fun x => (Z3 d x).length)) 401 : Nat) : Int)) (by simp [Q7h]) (fun k q s hq hI => ?_) (fun s hI => ?_)) (fun r hr => hr.elim) (fun s hs => .some hs)
    ·rw [ih n q (h3 q (List.mem_of_getElem? hq)) (by omega)]
     simp only [Option.bind_some]
     refine .some ?_
     simp only [Q4z]
     have ha : 1 ≤ Q7h ((p.kids.map fun x => (Z3 d x).length).take k) := Z3a fun x hx => hpos x (List.mem_of_mem_take hx)
     have hb := Z0g d q (h3 q (List.mem_of_getElem? hq))
     rw [hl k q hq, hI, X92]
     generalize Q7h ((p.kids.map fun x => (Z3 d x).length).take k) = a at ha
     generalize (Z3 d q).length = b at hb
     have hm : min a 401 * min b 401 ≤ 401 * 401 := Nat.mul_le_mul (Nat.min_le_right _ _) (Nat.min_le_right _ _)
     have e : ((min a 401 : Nat) : Int) * ((min b 401 : Nat) : Int) = ((min a 401 * min b 401 : Nat) : Int) := by simp
     rw [Q7f (by rw [e]; omega) (by rw [e]; omega), e, show (401 : Int) = ((401 : Nat) : Int) from rfl, W37, V1c ha hb]
    ·rw [hI, List.take_of_length_le (by simp)]
  obtain ⟨r, e, rfl⟩ := hr
  exact e
theorem X11 (l : List Q0) (h : l.length ≤ Q6) : Y4 l = some l := by
 unfold Y4
 rw [W6 (by simpa using h)]
 rfl
theorem X30 : ∀ (d n : Nat) (p : Q0), orOk d p → d ≤ n → (Z3 d p).length ≤ 1000 → Q2j n p = some (Z3 d p) := by
 intro d
 induction d with
 | zero => intro n p h; exact h.elim
 | succ d ih =>
  intro n p h hn hc
  obtain ⟨n, rfl⟩ : ∃ k, n = k + 1 := ⟨n - 1, by omega⟩
  obtain ⟨h1, h2, h3⟩ := h
  by_cases h5 : p.op = 5
  ·have e5 : ieq p.op 5 = true := by simp [ieq, h5]
   unfold Q2j
   rw [if_pos e5]
   rw [Z2v, if_pos h5] at hc
   match hk : p.kids, h2 h5 with
   | [a, b], _ =>
    rw [hk] at h3 hc
    simp only [List.map_cons, List.map_nil, List.sum_cons, List.sum_nil] at hc
    rw [show idx [a, b] 0 = some a from rfl, show idx [a, b] 1 = some b from rfl]
    simp only [Option.bind_some]
    rw [ih n a (h3 a (by simp)) (by omega) (by omega), ih n b (h3 b (by simp)) (by omega) (by omega)]
    simp only [Option.bind_some]
    rw [W6 (by simp only [Q6]; omega)]
    simp [Z3, h5, hk]
  ·have e5 : ¬ ieq p.op 5 = true := by simp [ieq, h5]
   rw [Z2v, if_neg h5] at hc
   have hpos : ∀ x ∈ (p.kids.map fun x => (Z3 d x).length), 1 ≤ x := fun x hx => by
    obtain ⟨q, hq, rfl⟩ := List.mem_map.1 hx
    exact Z0g d q (h3 q hq)
   have hlen : ∀ k, (((p.kids.map (Z3 d)).take k).foldl tupD [[]]).length = Q7h ((p.kids.map fun x => (Z3 d x).length).take k) := fun k => by
    rw [Z9y]; simp [List.map_take, List.map_map, Function.comp_def]
   suffices hr : Ret (Q2j (n + 1) p) (fun r => r = Z3 (d + 1) p) by
    obtain ⟨r, e, rfl⟩ := hr
    exact e
   unfold Q2j
   rw [if_neg e5]
   refine Ret.ctl (Z1 p.kids (fun k s => s = (((p.kids.map (Z3 d)).take k).foldl tupD [[]]).map (Q6t p)) (fun _ => False) (fun s => s = Z3 (d + 1) p) (by simp [Q6t]) (fun k q s hq hI => ?_) (fun s hI => ?_)) (fun r hr => hr.elim) (fun s hs => .some hs)
   ·have hqm := List.mem_of_getElem? hq
    have hkl := (List.getElem?_eq_some_iff.1 hq).1
    have hnx : ((p.kids.map (Z3 d)).take (k + 1)).foldl tupD [[]] = tupD (((p.kids.map (Z3 d)).take k).foldl tupD [[]]) (Z3 d q) := by
     rw [List.take_add_one, List.getElem?_map, hq]; simp
    have hb1 : (((p.kids.map (Z3 d)).take (k + 1)).foldl tupD [[]]).length ≤ 1000 := by rw [hlen]; exact Nat.le_trans (Z39 hpos _) hc
    have hb0 : (((p.kids.map (Z3 d)).take k).foldl tupD [[]]).length ≤ 1000 := by rw [hlen]; exact Nat.le_trans (Z39 hpos _) hc
    have hq1 := Z0g d q (h3 q hqm)
    have ho1 : 1 ≤ (((p.kids.map (Z3 d)).take k).foldl tupD [[]]).length := by rw [hlen]; exact Z3a fun x hx => hpos x (List.mem_of_mem_take hx)
    rw [hnx, X4k] at hb1
    have hq2 : (Z3 d q).length ≤ 1000 := Nat.le_trans (Nat.le_mul_of_pos_left _ ho1) hb1
    rw [ih n q (h3 q hqm) (by omega) hq2]
    simp only [Option.bind_some]
    have kl : ∀ ks ∈ ((p.kids.map (Z3 d)).take k).foldl tupD [[]], ks.length ≤ k := by
     have gen : ∀ (ls : List (List Q0)) (out : List (List Q0)) (m : Nat), (∀ ks ∈ out, ks.length ≤ m) → ∀ ks ∈ ls.foldl tupD out, ks.length ≤ m + ls.length := by
      intro ls
      induction ls with
      | nil => intro out m h ks hks; simpa using h ks hks
      | cons l ls ih2 =>
       intro out m h ks hks
       rw [List.foldl_cons] at hks
       have := ih2 (tupD out l) (m + 1) (fun ks hk2 => by
        simp only [tupD, List.mem_flatMap, List.mem_map] at hk2
        obtain ⟨q2, hq2, c, _, rfl⟩ := hk2
        have := h q2 hq2
        simp; omega) ks hks
       simp only [List.length_cons]; omega
     intro ks hks
     have := gen _ [[]] 0 (by simp) ks hks
     rw [List.length_take] at this
     omega
    generalize ho : ((p.kids.map (Z3 d)).take k).foldl tupD [[]] = out at *
    rw [hnx]
    refine Ret.ctl (Z1 s (fun j u => u = (tupD (out.take j) (Z3 d q)).map (Q6t p)) (fun _ => False) (fun u => u = (tupD out (Z3 d q)).map (Q6t p)) (by simp [tupD]) (fun j x u hx hJ => ?_) (fun u hJ => ?_)) (fun r hr => hr.elim) (fun u hu => .some hu)
    ·rw [hI, List.getElem?_map] at hx
     obtain ⟨ks, hks, rfl⟩ := Option.map_eq_some_iff.1 hx
     have hks3 := kl ks (List.mem_of_getElem? hks)
     have hjl := (List.getElem?_eq_some_iff.1 hks).1
     have hnj : tupD (out.take (j + 1)) (Z3 d q) = tupD (out.take j) (Z3 d q) ++ (Z3 d q).map (fun c => ks ++ [c]) := by
      rw [List.take_add_one, hks]; simp [tupD]
     rw [hnj]
     refine Ret.ctl (Z1 (Z3 d q) (fun i v => v = (tupD (out.take j) (Z3 d q) ++ ((Z3 d q).take i).map (fun c => ks ++ [c])).map (Q6t p)) (fun _ => False) (fun v => v = (tupD (out.take j) (Z3 d q) ++ (Z3 d q).map (fun c => ks ++ [c])).map (Q6t p)) (by simp [hJ]) (fun i c v hc2 hK => ?_) (fun v hK => ?_)) (fun r hr => hr.elim) (fun v hv => .some hv)
     ·simp only [Q6t]
      rw [X11 _ (by simp only [Q6]; omega)]
      simp only [Option.bind_some]
      rw [W6 (by simp only [Q6, List.length_cons, List.length_nil]; omega)]
      simp only [Option.bind_some]
      have hil := (List.getElem?_eq_some_iff.1 hc2).1
      have hvl : v.length ≤ 1000 * 1000 + 1000 := by
       rw [hK, List.length_map, List.length_append, X4k, List.length_map, List.length_take, List.length_take]
       have := Nat.mul_le_mul (show min j out.length ≤ 1000 by omega) hq2
       omega
      rw [W6 (by simp only [Q6, List.length_cons, List.length_nil]; omega)]
      refine .some ?_
      simp only [Q4z]
      rw [hK, List.take_add_one, hc2]
      simp [Q6t]
     ·rw [hK, List.take_length]
    ·rw [hJ, hI, List.length_map, List.take_length]
   ·rw [hI, List.take_of_length_le (by simp)]; simp [Z3, h5]
end Go.Proofs.YtbdkbdafhlcilaaGreat
namespace Go.Proofs.YtbdkbdafhlcilaaGreat
open Go Go.RowKit
def fitP : Q0 → Q4 → Bool
 | ⟨op, ctor, n, m, _, kids⟩, v => if op = 1 then true else if op = 3 then decide (n ≤ v.n ∧ v.n ≤ m) else decide (ctor = v.ctor) && fitPs kids v.kids
where fitPs : List Q0 → List Q4 → Bool
 | [], [] => true
 | p :: ps, v :: vs => fitP p v && fitPs ps vs
 | _, _ => false
abbrev fitL := fitP.fitPs
theorem Q5p {p : Q0} (h : p.op = 1) (v : Q4) : fitP p v = true := by
 cases p; simp only at h; subst h; simp [fitP]
theorem Q67 {p : Q0} (h : p.op = 3) (v : Q4) : fitP p v = decide (p.n ≤ v.n ∧ v.n ≤ p.m) := by
 cases p; simp only at h; subst h; simp [fitP]
theorem Q1e {p : Q0} (h : p.op = 4) (v : Q4) : fitP p v = (decide (p.ctor = v.ctor) && fitL p.kids v.kids) := by
 cases p; simp only at h; subst h; simp [fitP]
@[simp] theorem Z62 : fitL [] [] = true := by simp [fitP.fitPs]
@[simp] theorem Q5b (p : Q0) (ps : List Q0) (v : Q4) (vs : List Q4) : fitL (p :: ps) (v :: vs) = (fitP p v && fitL ps vs) := by simp [fitP.fitPs]
def Z7 (w : List Q3) : Nat → Q2 → Q0 → Prop
 | 0, _, _ => False
 | d + 1, t, p => p = Q0.mk 1 0 0 0 0 [] ∨ (∃ n m, p = Q0.mk 3 0 n m 0 [] ∧ t.data = -1 ∧ 0 ≤ n ∧ n ≤ m ∧ m ≤ 9) ∨
  (∃ c ks, p = Q0.mk 4 c 0 0 0 ks ∧ t.data ≠ -1 ∧ c ∈ Z9 w t ∧ ks.length = (Z5 w t c).length ∧ ∀ (j : Nat) (a : Q2) (q : Q0), (Z5 w t c)[j]? = some a → ks[j]? = some q → Z7 w d a q)
theorem Q6j (w : List Q3) (d : Nat) (t : Q2) : Z7 w (d + 1) t (Q0.mk 1 0 0 0 0 []) := .inl rfl
theorem Q5u {w : List Q3} : ∀ (d : Nat) (t : Q2) (p : Q0), Z7 w d t p → Z7 w (d + 1) t p
 | 0, _, _, h => h.elim
 | d + 1, t, p, h => by
  rcases h with h | h | ⟨c, ks, e, h1, h2, h3, h4⟩
  ·exact .inl h
  ·exact .inr (.inl h)
  ·exact .inr (.inr ⟨c, ks, e, h1, h2, h3, fun j a q ha hq => Q5u d a q (h4 j a q ha hq)⟩)
theorem X53 {w : List Q3} {d e : Nat} {t : Q2} {p : Q0} (h : Z7 w d t p) (he : d ≤ e) : Z7 w e t p := by
 induction he with
 | refl => exact h
 | step _ ih => exact Q5u _ t p ih
def Q4n (f : Q0 → Q0 → Option Q0) : List Q0 → List Q0 → Option (List Q0)
 | a :: as, b :: bs => (f a b).bind fun x => (Q4n f as bs).map (x :: ·)
 | _, _ => some []
def Q05 : Nat → Q0 → Q0 → Option Q0
 | 0, _, _ => none
 | d + 1, a, b =>
  if a.op = 1 then some b else if b.op = 1 then some a
  else if a.op = 3 then (if max a.n b.n ≤ min a.m b.m then some (Q0.mk 3 0 (max a.n b.n) (min a.m b.m) 0 []) else none)
  else if a.ctor = b.ctor then (Q4n (Q05 d) a.kids b.kids).map (fun ks => Q0.mk 4 a.ctor 0 0 0 ks) else none
theorem X2t {f : Q0 → Q0 → Option Q0} : ∀ (as bs : List Q0) (vs : List Q4), as.length = vs.length → bs.length = vs.length →
  (∀ (j : Nat) (a b : Q0) (v : Q4), as[j]? = some a → bs[j]? = some b → vs[j]? = some v → ((fitP a v = true ∧ fitP b v = true) ↔ ∃ m, f a b = some m ∧ fitP m v = true)) →
  ((fitL as vs = true ∧ fitL bs vs = true) ↔ ∃ ms, Q4n f as bs = some ms ∧ fitL ms vs = true)
 | [], [], [], _, _, _ => by simp [Q4n]
 | a :: as, b :: bs, v :: vs, h1, h2, h => by
  have h0 := h 0 a b v rfl rfl rfl
  have ih := X2t as bs vs (by simpa using h1) (by simpa using h2) fun j x y z e1 e2 e3 => h (j + 1) x y z e1 e2 e3
  simp only [Q5b, Bool.and_eq_true, Q4n]
  constructor
  ·rintro ⟨⟨g1, g2⟩, g3, g4⟩
   obtain ⟨m, e1, e2⟩ := h0.1 ⟨g1, g3⟩
   obtain ⟨ms, e3, e4⟩ := ih.1 ⟨g2, g4⟩
   exact ⟨m :: ms, by simp [e1, e3], by simp [e2, e4]⟩
  ·rintro ⟨ms, e1, e2⟩
   cases hm : f a b with
   | none => simp [hm] at e1
   | some m =>
    cases hms : Q4n f as bs with
    | none => simp [hm, hms] at e1
    | some ms' =>
     simp [hm, hms] at e1
     subst e1
     simp only [Q5b, Bool.and_eq_true] at e2
     obtain ⟨g1, g3⟩ := h0.2 ⟨m, hm, e2.1⟩
     obtain ⟨g2, g4⟩ := ih.2 ⟨ms', hms, e2.2⟩
     exact ⟨⟨g1, g2⟩, g3, g4⟩
 | [], [], _ :: _, h, _, _ => by simp at h
 | [], _ :: _, [], _, h, _ => by simp at h
 | [], _ :: _, _ :: _, h, _, _ => by simp at h
 | _ :: _, [], [], h, _, _ => by simp at h
 | _ :: _, [], _ :: _, _, h, _ => by simp at h
 | _ :: _, _ :: _, [], h, _, _ => by simp at h
theorem Q6y {w : List Q3} {e : Nat} {t : Q2} {v : Q4} (h : Q0s w e t v) (hd : t.data ≠ -1) : ∃ e', e = e' + 1 ∧ v.ctor ∈ Z9 w t ∧ v.kids.length = (Z5 w t v.ctor).length ∧ ∀ (j : Nat) (a : Q2) (x : Q4), (Z5 w t v.ctor)[j]? = some a → v.kids[j]? = some x → Q0s w e' a x := by
 cases e with
 | zero => exact h.elim
 | succ e =>
  simp only [Q0s, if_neg hd] at h
  exact ⟨e, rfl, h.2.1, h.2.2.1, h.2.2.2⟩
theorem W3x {w : List Q3} {e : Nat} {t : Q2} {v : Q4} (h : Q0s w e t v) (hd : t.data = -1) : 0 ≤ v.n ∧ v.n ≤ 9 := by
 cases e with
 | zero => exact h.elim
 | succ e =>
  simp only [Q0s, if_pos hd] at h
  exact ⟨h.2.1, h.2.2.1⟩
theorem Q1j {α : Type} {l : List α} {n j : Nat} (h : l.length = n) (hj : j < n) : ∃ x, l[j]? = some x := ⟨l[j]'(by omega), by simp⟩
theorem Z5w {w : List Q3} : ∀ (d e : Nat) (t : Q2) (a b : Q0) (x : Nat), Z7 w x t a → Z7 w d t b → ∀ v, Q0s w e t v → ((fitP a v = true ∧ fitP b v = true) ↔ ∃ m, Q05 d a b = some m ∧ fitP m v = true) := by
 intro d
 induction d with
 | zero => intro e t a b x _ h; exact h.elim
 | succ d ih =>
  intro e t a b x ha hb v hv
  cases x with
  | zero => exact ha.elim
  | succ x =>
  rcases ha with rfl | ⟨n, m, rfl, ht, h0, h1, h2⟩ | ⟨c, ks, rfl, ht, hc, hl, hk⟩
  ·simp [Q05, Q5p]
  ·rcases hb with rfl | ⟨n', m', rfl, _, h0', h1', h2'⟩ | ⟨c', ks', rfl, ht', _⟩
   ·simp [Q05, Q5p]
   ·rw [Q67 rfl, Q67 rfl]
    simp only [Q05]
    have e1 : ¬ (3 : Int) = 1 := by decide
    simp only [e1, if_false, if_true, decide_eq_true_eq]
    split
    ·rename_i hle
     constructor
     ·intro h
      exact ⟨_, rfl, by rw [Q67 rfl]; simp only [decide_eq_true_eq]; omega⟩
     ·rintro ⟨m2, e2, h⟩
      cases e2
      rw [Q67 rfl] at h
      simp only [decide_eq_true_eq] at h
      omega
    ·rename_i hle
     constructor
     ·intro h; exfalso; omega
     ·rintro ⟨_, e2, _⟩; cases e2
   ·exact absurd ht ht'
  ·rcases hb with rfl | ⟨n', m', rfl, ht', _⟩ | ⟨c', ks', rfl, _, hc', hl', hk'⟩
   ·simp [Q05, Q5p]
   ·exact absurd ht' ht
   ·rw [Q1e rfl, Q1e rfl]
    simp only [Q05]
    have e1 : ¬ (4 : Int) = 1 := by decide
    have e3 : ¬ (4 : Int) = 3 := by decide
    simp only [e1, e3, if_false, Bool.and_eq_true, decide_eq_true_eq]
    obtain ⟨e', rfl, gv1, gv2, gv3⟩ := Q6y hv ht
    by_cases hcc : c = c'
    ·subst hcc
     simp only [if_true]
     by_cases hcv : c = v.ctor
     ·subst hcv
      have hL := X2t (f := Q05 d) ks ks' v.kids (hl.trans gv2.symm) (hl'.trans gv2.symm) fun j p q u e1 e2 e3 => by
       have hj : j < (Z5 w t v.ctor).length := by rw [← gv2]; exact (List.getElem?_eq_some_iff.1 e3).1
       obtain ⟨y, hy⟩ := Q1j (l := Z5 w t v.ctor) rfl hj
       exact ih e' y p q x (hk j y p hy e1) (hk' j y q hy e2) u (gv3 j y u hy e3)
      constructor
      ·rintro ⟨⟨_, g1⟩, _, g2⟩
       obtain ⟨ms, e1, e2⟩ := hL.1 ⟨g1, g2⟩
       exact ⟨_, by rw [e1]; rfl, by rw [Q1e rfl]; simp [e2]⟩
      ·rintro ⟨m, e1, e2⟩
       cases hm : Q4n (Q05 d) ks ks' with
       | none => rw [hm] at e1; cases e1
       | some ms =>
        rw [hm] at e1
        cases e1
        rw [Q1e rfl] at e2
        simp only [Bool.and_eq_true] at e2
        obtain ⟨g1, g2⟩ := hL.2 ⟨ms, hm, e2.2⟩
        exact ⟨⟨rfl, g1⟩, rfl, g2⟩
     ·constructor
      ·rintro ⟨⟨g, _⟩, _⟩; exact absurd g hcv
      ·rintro ⟨m, e1, e2⟩
       cases hm : Q4n (Q05 d) ks ks' with
       | none => rw [hm] at e1; cases e1
       | some ms =>
        rw [hm] at e1
        cases e1
        rw [Q1e rfl] at e2
        simp only [Bool.and_eq_true, decide_eq_true_eq] at e2
        exact absurd e2.1 hcv
    ·simp only [if_neg hcc]
     constructor
     ·rintro ⟨⟨g1, _⟩, g2, _⟩; exact absurd (g1.trans g2.symm) hcc
     ·rintro ⟨_, e1, _⟩; cases e1
end Go.Proofs.YtbdkbdafhlcilaaGreat
namespace Go.Proofs.YtbdkbdafhlcilaaGreat
open Go Go.RowKit
def kmD (fm : Q2 → Q0 → Q0 → List Q0) (fj : Q0 → Q0 → Option Q0) : List Q2 → List Q0 → List Q0 → List (List Q0)
 | t :: ts, a :: as, b :: bs => (fm t a b).map (fun x => x :: as) ++ (match fj a b with | none => [] | some m => (kmD fm fj ts as bs).map (m :: ·))
 | _, _, _ => []
def Z1o (n m n' m' : Int) : List Q0 :=
 (if n ≤ min m (n' - 1) then [Q0.mk 3 0 n (min m (n' - 1)) 0 []] else []) ++ (if max n (m' + 1) ≤ m then [Q0.mk 3 0 (max n (m' + 1)) m 0 []] else [])
def cmD (w : List Q3) (fm : Q2 → Q0 → Q0 → List Q0) (fj : Q0 → Q0 → Option Q0) (t : Q2) (a b : Q0) : List Q0 :=
 if a.ctor = b.ctor then (kmD fm fj (Z5 w t a.ctor) a.kids b.kids).map (fun ks => Q0.mk 4 a.ctor 0 0 0 ks) else [a]
def Q5n (w : List Q3) (t : Q2) (c : Int) : Q0 := Q0.mk 4 c 0 0 0 ((Z5 w t c).map fun _ => Q0.mk 1 0 0 0 0 [])
def W2 (w : List Q3) : Nat → Q2 → Q0 → Q0 → List Q0
 | 0, _, _, _ => []
 | d + 1, t, a, b => if b.op = 1 then [] else if b.op = 3 then (if a.op = 1 then Z1o 0 9 b.n b.m else Z1o a.n a.m b.n b.m)
  else if a.op = 1 then (Z9 w t).flatMap fun c => cmD w (W2 w d) (Q05 d) t (Q5n w t c) b
  else cmD w (W2 w d) (Q05 d) t a b
theorem W9n {fm : Q2 → Q0 → Q0 → List Q0} {fj : Q0 → Q0 → Option Q0} : ∀ (ts : List Q2) (as bs : List Q0) (vs : List Q4), as.length = ts.length → bs.length = ts.length → vs.length = ts.length →
  (∀ (j : Nat) (t : Q2) (a b : Q0) (v : Q4), ts[j]? = some t → as[j]? = some a → bs[j]? = some b → vs[j]? = some v →
   ((fitP a v = true ∧ fitP b v = true) ↔ ∃ m, fj a b = some m ∧ fitP m v = true) ∧ ((fitP a v = true ∧ fitP b v = false) ↔ ∃ x ∈ fm t a b, fitP x v = true)) →
  ((fitL as vs = true ∧ fitL bs vs = false) ↔ ∃ ks ∈ kmD fm fj ts as bs, fitL ks vs = true)
 | [], [], [], [], _, _, _, _ => by simp [kmD]
 | t :: ts, a :: as, b :: bs, v :: vs, h1, h2, h3, h => by
  obtain ⟨hj, hm⟩ := h 0 t a b v rfl rfl rfl rfl
  have ih := W9n ts as bs vs (by simpa using h1) (by simpa using h2) (by simpa using h3) fun j x y z u e1 e2 e3 e4 => h (j + 1) x y z u e1 e2 e3 e4
  simp only [Q5b, Bool.and_eq_true, kmD, List.mem_append, List.mem_map]
  constructor
  ·rintro ⟨⟨g1, g2⟩, g3⟩
   cases hb : fitP b v with
   | false =>
    obtain ⟨x, hx, gx⟩ := hm.1 ⟨g1, hb⟩
    exact ⟨x :: as, .inl ⟨x, hx, rfl⟩, by simp [gx, g2]⟩
   | true =>
    rw [hb] at g3
    obtain ⟨m, e1, e2⟩ := hj.1 ⟨g1, hb⟩
    obtain ⟨ks, hk, gk⟩ := ih.1 ⟨g2, by simpa using g3⟩
    refine ⟨m :: ks, .inr ?_, by simp [e2, gk]⟩
    rw [e1]
    exact List.mem_map.2 ⟨ks, hk, rfl⟩
  ·rintro ⟨ks, hk | hk, gk⟩
   ·obtain ⟨x, hx, rfl⟩ := hk
    simp only [Q5b, Bool.and_eq_true] at gk
    obtain ⟨g1, g2⟩ := hm.2 ⟨x, hx, gk.1⟩
    exact ⟨⟨g1, gk.2⟩, by simp [g2]⟩
   ·cases e1 : fj a b with
    | none => rw [e1] at hk; simp at hk
    | some m =>
     rw [e1] at hk
     obtain ⟨ks', hk', rfl⟩ := List.mem_map.1 hk
     simp only [Q5b, Bool.and_eq_true] at gk
     obtain ⟨g1, g2⟩ := hj.2 ⟨m, e1, gk.1⟩
     obtain ⟨g3, g4⟩ := ih.2 ⟨ks', hk', gk.2⟩
     exact ⟨⟨g1, g3⟩, by simp [g4]⟩
 | [], _ :: _, _, _, h, _, _, _ => by simp at h
 | [], [], _ :: _, _, _, h, _, _ => by simp at h
 | [], [], [], _ :: _, _, _, h, _ => by simp at h
 | _ :: _, [], _, _, h, _, _, _ => by simp at h
 | _ :: _, _ :: _, [], _, _, h, _, _ => by simp at h
 | _ :: _, _ :: _, _ :: _, [], _, _, h, _ => by simp at h
theorem X71 {n m n' m' : Int} {v : Q4} : ((n ≤ v.n ∧ v.n ≤ m) ∧ ¬ (n' ≤ v.n ∧ v.n ≤ m')) ↔ ∃ x ∈ Z1o n m n' m', fitP x v = true := by
 simp only [Z1o, List.mem_append]
 constructor
 ·rintro ⟨h1, h2⟩
  by_cases h : n' ≤ v.n
  ·refine ⟨Q0.mk 3 0 (max n (m' + 1)) m 0 [], .inr ?_, ?_⟩
   ·rw [if_pos (by omega)]; simp
   ·rw [Q67 rfl]; simp only [decide_eq_true_eq]; omega
  ·refine ⟨Q0.mk 3 0 n (min m (n' - 1)) 0 [], .inl ?_, ?_⟩
   ·rw [if_pos (by omega)]; simp
   ·rw [Q67 rfl]; simp only [decide_eq_true_eq]; omega
 ·rintro ⟨x, hx, h⟩
  rcases hx with hx | hx <;> split at hx <;> simp at hx <;> subst hx <;> rw [Q67 rfl] at h <;> simp only [decide_eq_true_eq] at h <;> omega
theorem W18 {w : List Q3} {t : Q2} {c : Int} {v : Q4} (hl : v.ctor = c → v.kids.length = (Z5 w t c).length) : fitP (Q5n w t c) v = decide (c = v.ctor) := by
 rw [Q5n, Q1e rfl]
 simp only
 by_cases h : c = v.ctor
 ·have hl := hl h.symm
  have : ∀ (l : List Q2) (vs : List Q4), vs.length = l.length → fitL (l.map fun _ => Q0.mk 1 0 0 0 0 []) vs = true := by
   intro l
   induction l with
   | nil => intro vs h; cases vs <;> simp at h ⊢
   | cons a l ih =>
    intro vs h
    cases vs with
    | nil => simp at h
    | cons v vs => simp [Q5p, ih vs (by simpa using h)]
  simp [h, this _ _ (h ▸ hl)]
 ·simp [h]
theorem V0c {w : List Q3} {d e x : Nat} (hM : ∀ (e : Nat) (t : Q2) (a b : Q0) (x : Nat), Z7 w x t a → Z7 w d t b → ∀ v, Q0s w e t v → ((fitP a v = true ∧ fitP b v = false) ↔ ∃ y ∈ W2 w d t a b, fitP y v = true))
  {t : Q2} {c c' : Int} {ks ks' : List Q0} (ht : t.data ≠ -1) (hl : ks.length = (Z5 w t c).length) (hk : ∀ (j : Nat) (a : Q2) (q : Q0), (Z5 w t c)[j]? = some a → ks[j]? = some q → Z7 w x a q)
  (hl' : ks'.length = (Z5 w t c').length) (hk' : ∀ (j : Nat) (a : Q2) (q : Q0), (Z5 w t c')[j]? = some a → ks'[j]? = some q → Z7 w d a q) {v : Q4} (hv : Q0s w e t v) :
  ((fitP (Q0.mk 4 c 0 0 0 ks) v = true ∧ fitP (Q0.mk 4 c' 0 0 0 ks') v = false) ↔ ∃ y ∈ cmD w (W2 w d) (Q05 d) t (Q0.mk 4 c 0 0 0 ks) (Q0.mk 4 c' 0 0 0 ks'), fitP y v = true) := by
 rw [Q1e rfl, Q1e rfl]
 simp only [cmD, Bool.and_eq_true, decide_eq_true_eq, Bool.and_eq_false_iff, decide_eq_false_iff_not]
 obtain ⟨e', rfl, gv1, gv2, gv3⟩ := Q6y hv ht
 by_cases hcc : c = c'
 ·subst hcc
  simp only [if_true, List.mem_map]
  by_cases hcv : c = v.ctor
  ·subst hcv
   have hL := W9n (fm := W2 w d) (fj := Q05 d) (Z5 w t v.ctor) ks ks' v.kids hl hl' gv2 fun j y p q u e1 e2 e3 e4 =>
    ⟨Z5w d e' y p q x (hk j y p e1 e2) (hk' j y q e1 e3) u (gv3 j y u e1 e4), hM e' y p q x (hk j y p e1 e2) (hk' j y q e1 e3) u (gv3 j y u e1 e4)⟩
   constructor
   ·rintro ⟨⟨_, g1⟩, g2⟩
    rcases g2 with g2 | g2
    ·exact absurd rfl g2
    ·obtain ⟨k, hk1, hk2⟩ := hL.1 ⟨g1, g2⟩
     exact ⟨_, ⟨k, hk1, rfl⟩, by rw [Q1e rfl]; simp [hk2]⟩
   ·rintro ⟨_, ⟨k, hk1, rfl⟩, h⟩
    rw [Q1e rfl] at h
    simp only [Bool.and_eq_true] at h
    obtain ⟨g1, g2⟩ := hL.2 ⟨k, hk1, h.2⟩
    exact ⟨⟨rfl, g1⟩, .inr g2⟩
  ·constructor
   ·rintro ⟨⟨g, _⟩, _⟩; exact absurd g hcv
   ·rintro ⟨_, ⟨k, hk1, rfl⟩, h⟩
    rw [Q1e rfl] at h
    simp only [Bool.and_eq_true, decide_eq_true_eq] at h
    exact absurd h.1 hcv
 ·simp only [if_neg hcc, List.mem_singleton, exists_eq_left]
  rw [Q1e rfl]
  simp only [Bool.and_eq_true, decide_eq_true_eq]
  constructor
  ·exact fun h => h.1
  ·exact fun h => ⟨h, .inl fun e2 => hcc (h.1.trans e2.symm)⟩
theorem Z0r {w : List Q3} : ∀ (d e : Nat) (t : Q2) (a b : Q0) (x : Nat), Z7 w x t a → Z7 w d t b → ∀ v, Q0s w e t v → ((fitP a v = true ∧ fitP b v = false) ↔ ∃ y ∈ W2 w d t a b, fitP y v = true) := by
 intro d
 induction d with
 | zero => intro e t a b x _ h; exact h.elim
 | succ d ih =>
  intro e t a b x ha hb v hv
  cases x with
  | zero => exact ha.elim
  | succ x =>
  rcases hb with rfl | ⟨n', m', rfl, ht', _⟩ | ⟨c', ks', rfl, ht', hc', hl', hk'⟩
  ·simp [W2, Q5p]
  ·have e1 : ¬ (3 : Int) = 1 := by decide
   simp only [W2, e1, if_false, if_true]
   rcases ha with rfl | ⟨n, m, rfl, _⟩ | ⟨c, ks, rfl, ht, _⟩
   ·simp only [if_true]
    rw [← X71, Q5p rfl, Q67 rfl]
    have := W3x hv ht'
    simp only [true_and, decide_eq_false_iff_not]
    exact ⟨fun h => ⟨this, h⟩, fun h => h.2⟩
   ·simp only [e1, if_false]
    rw [← X71, Q67 rfl, Q67 rfl]
    simp only [decide_eq_true_eq, decide_eq_false_iff_not]
   ·exact absurd ht' ht
  ·have e1 : ¬ (4 : Int) = 1 := by decide
   have e3 : ¬ (4 : Int) = 3 := by decide
   simp only [W2, e1, e3, if_false]
   rcases ha with rfl | ⟨n, m, rfl, ht, _⟩ | ⟨c, ks, rfl, _, hc, hl, hk⟩
   ·simp only [if_true, List.mem_flatMap]
    obtain ⟨e', rfl, gv1, gv2, gv3⟩ := Q6y hv ht'
    have hcm : ∀ c ∈ Z9 w t, ((fitP (Q5n w t c) v = true ∧ fitP (Q0.mk 4 c' 0 0 0 ks') v = false) ↔ ∃ y ∈ cmD w (W2 w d) (Q05 d) t (Q5n w t c) (Q0.mk 4 c' 0 0 0 ks'), fitP y v = true) := fun c _ =>
     V0c (x := 1) ih ht' (by simp) (fun j a q ha hq => by
      rw [List.getElem?_map, ha] at hq
      cases hq
      exact Q6j w 0 a) hl' hk' hv
    have hw : ∀ c, fitP (Q5n w t c) v = decide (c = v.ctor) := fun c => W18 fun h => h ▸ gv2
    constructor
    ·rintro ⟨_, h⟩
     obtain ⟨y, hy, gy⟩ := (hcm v.ctor gv1).1 ⟨by rw [hw]; simp, h⟩
     exact ⟨y, ⟨v.ctor, gv1, hy⟩, gy⟩
    ·rintro ⟨y, ⟨c, hc, hy⟩, gy⟩
     exact ⟨Q5p rfl v, ((hcm c hc).2 ⟨y, hy, gy⟩).2⟩
   ·exact absurd ht ht'
   ·simp only [e1, if_false]
    exact V0c ih ht' hl hk hl' hk' hv
end Go.Proofs.YtbdkbdafhlcilaaGreat
namespace Go.Proofs.YtbdkbdafhlcilaaGreat
open Go Go.RowKit
def V2e (w : List Q3) (t : Q2) : Bool :=
 (decide (depP w t ≠ 0) || (Z9 w t).all (fun k => (Z5 w t k).any (fun a => decide (depP w a = 0)))) && decide ((Z9 w t).Nodup)
def chkE (w : List Q3) : Bool := (tys w).all (V2e w)
theorem W0q : Q0g.all chkE = true := by kernel_rfl
structure WE (w : List Q3) : Prop where
 e0 : ∀ t ∈ tys w, depP w t = 0 → ∀ k ∈ Z9 w t, ∃ a ∈ Z5 w t k, depP w a = 0
 nd : ∀ t ∈ tys w, (Z9 w t).Nodup
theorem we {w : List Q3} (h : w ∈ Q0g) : WE w := by
 have h := List.all_eq_true.1 W0q w h
 simp only [chkE, List.all_eq_true] at h
 refine ⟨fun t ht h0 k hk => ?_, fun t ht => ?_⟩
 ·have := h t ht
  simp only [V2e, Bool.and_eq_true, Bool.or_eq_true, decide_eq_true_eq, List.all_eq_true, List.any_eq_true] at this
  rcases this.1 with h1 | h1
  ·exact absurd h0 h1
  ·exact h1 k hk
 ·have := h t ht
  simp only [V2e, Bool.and_eq_true, decide_eq_true_eq] at this
  exact this.2
theorem X7x {w : List Q3} (hw : WW w) (he : WE w) : ∀ (e : Nat) (t : Q2) (v : Q4), t ∈ tys w → Q0s w e t v → depP w t ≠ 0
 | 0, _, _, _, h => h.elim
 | e + 1, t, v, ht, h => fun h0 => by
  by_cases hd : t.data = -1
  ·have := ((hw.ty t ht).ti hd).2; omega
  ·obtain ⟨e', e1, g1, g2, g3⟩ := Q6y h hd
   cases e1
   obtain ⟨a, ha, ha0⟩ := he.e0 t ht h0 _ g1
   obtain ⟨j, hj⟩ := List.mem_iff_getElem?.1 ha
   obtain ⟨x, hx⟩ := Q1j g2 (List.getElem?_eq_some_iff.1 hj).1
   exact X7x hw he e a x ((hw.ty t ht).at_ _ g1 a ha) (g3 j a x hj hx) ha0
def V2 (w : List Q3) : Nat → Q2 → Q0 → Bool
 | 0, _, _ => false
 | d + 1, t, p => if p.op = 1 then decide (depP w t = 0) else if p.op = 4 then ((Z5 w t p.ctor).zip p.kids).any fun x => V2 w d x.1 x.2 else false
theorem Q4x {w : List Q3} {d : Nat} {t : Q2} {c : Int} {ks : List Q0} : V2 w (d + 1) t (Q0.mk 4 c 0 0 0 ks) = true ↔ ∃ (j : Nat) (a : Q2) (q : Q0), (Z5 w t c)[j]? = some a ∧ ks[j]? = some q ∧ V2 w d a q = true := by
 have e1 : ¬ (4 : Int) = 1 := by decide
 simp only [V2, e1, if_false, if_true, List.any_eq_true]
 constructor
 ·rintro ⟨x, hx, h⟩
  obtain ⟨j, hj⟩ := List.mem_iff_getElem?.1 hx
  rw [List.getElem?_zip_eq_some] at hj
  exact ⟨j, x.1, x.2, hj.1, hj.2, h⟩
 ·rintro ⟨j, a, q, h1, h2, h3⟩
  exact ⟨(a, q), List.mem_of_getElem? (i := j) (by rw [List.getElem?_zip_eq_some]; exact ⟨h1, h2⟩), h3⟩
theorem Z7p {w : List Q3} (hw : WW w) (he : WE w) : ∀ (x e : Nat) (t : Q2) (p : Q0) (v : Q4), t ∈ tys w → Z7 w x t p → V2 w x t p = true → Q0s w e t v → fitP p v = false
 | 0, _, _, _, _, _, h, _, _ => h.elim
 | x + 1, e, t, p, v, ht, hp, hem, hv => by
  rcases hp with rfl | ⟨n, m, rfl, _⟩ | ⟨c, ks, rfl, hd, hc, hl, hk⟩
  ·simp only [V2, if_true, decide_eq_true_eq] at hem
   exact absurd hem (X7x hw he e t v ht hv)
  ·simp [V2] at hem
  ·obtain ⟨j, a, q, h1, h2, h3⟩ := Q4x.1 hem
   rw [Q1e rfl]
   simp only
   by_cases hcv : c = v.ctor
   ·subst hcv
    obtain ⟨e', rfl, g1, g2, g3⟩ := Q6y hv hd
    obtain ⟨u, hu⟩ := Q1j g2 (List.getElem?_eq_some_iff.1 h1).1
    have hf := Z7p hw he x e' a q u ((hw.ty t ht).at_ _ hc a (List.mem_of_getElem? h1)) (hk j a q h1 h2) h3 (g3 j a u h1 hu)
    have : ∀ (ps : List Q0) (vs : List Q4) (j : Nat), ps[j]? = some q → vs[j]? = some u → fitL ps vs = false := by
     intro ps
     induction ps with
     | nil => intro vs j h; simp at h
     | cons p ps ih =>
      intro vs j h h'
      cases vs with
      | nil => simp at h'
      | cons v vs =>
       cases j with
       | zero => simp at h h'; subst h; subst h'; simp [hf]
       | succ j => simp [ih vs j (by simpa using h) (by simpa using h')]
    simp [this ks v.kids j h2 hu]
   ·simp [hcv]
theorem Z3e {f : Q0 → Q0 → Option Q0} : ∀ (as bs ms : List Q0), as.length = bs.length → Q4n f as bs = some ms → ms.length = as.length ∧ ∀ (j : Nat) (a b : Q0), as[j]? = some a → bs[j]? = some b → ∃ m, f a b = some m ∧ ms[j]? = some m
 | [], [], ms, _, h => by simp [Q4n] at h; subst h; simp
 | a :: as, b :: bs, ms, hl, h => by
  simp only [Q4n] at h
  cases hm : f a b with
  | none => simp [hm] at h
  | some m =>
   cases hr : Q4n f as bs with
   | none => simp [hm, hr] at h
   | some r =>
    simp [hm, hr] at h
    subst h
    obtain ⟨h1, h2⟩ := Z3e as bs r (by simpa using hl) hr
    refine ⟨by simp [h1], fun j x y e1 e2 => ?_⟩
    cases j with
    | zero => simp at e1 e2; subst e1; subst e2; exact ⟨m, hm, rfl⟩
    | succ j => exact h2 j x y (by simpa using e1) (by simpa using e2)
 | [], _ :: _, _, h, _ => by simp at h
 | _ :: _, [], _, h, _ => by simp at h
theorem Q84 {w : List Q3} : ∀ (d x : Nat) (t : Q2) (a b m : Q0), d ≤ x → Z7 w x t a → Z7 w d t b → Q05 d a b = some m → Z7 w x t m
 | 0, _, _, _, _, _, _, _, h, _ => h.elim
 | d + 1, 0, _, _, _, _, h, _, _, _ => by omega
 | d + 1, x + 1, t, a, b, m, hx, ha, hb, hm => by
  rcases ha with rfl | ⟨n, n2, rfl, ht, h0, h1, h2⟩ | ⟨c, ks, rfl, ht, hc, hl, hk⟩
  ·simp [Q05] at hm; subst hm; exact X53 hb hx
  ·rcases hb with rfl | ⟨n', m', rfl, _, h0', h1', h2'⟩ | ⟨c', ks', rfl, ht', _⟩
   ·simp [Q05] at hm; subst hm; exact .inr (.inl ⟨n, n2, rfl, ht, h0, h1, h2⟩)
   ·have e1 : ¬ (3 : Int) = 1 := by decide
    simp only [Q05, e1, if_false, if_true] at hm
    split at hm
    ·cases hm; exact .inr (.inl ⟨_, _, rfl, ht, by omega, by assumption, by omega⟩)
    ·cases hm
   ·exact absurd ht ht'
  ·rcases hb with rfl | ⟨n', m', rfl, ht', _⟩ | ⟨c', ks', rfl, _, hc', hl', hk'⟩
   ·simp [Q05] at hm; subst hm; exact .inr (.inr ⟨c, ks, rfl, ht, hc, hl, hk⟩)
   ·exact absurd ht' ht
   ·have e1 : ¬ (4 : Int) = 1 := by decide
    have e3 : ¬ (4 : Int) = 3 := by decide
    simp only [Q05, e1, e3, if_false] at hm
    split at hm
    ·rename_i hcc
     subst hcc
     obtain ⟨ms, h1, h2⟩ := Option.map_eq_some_iff.1 hm
     subst h2
     obtain ⟨g1, g2⟩ := Z3e ks ks' ms (hl.trans hl'.symm) h1
     refine .inr (.inr ⟨c, ms, rfl, ht, hc, g1.trans hl, fun j a q ha hq => ?_⟩)
     obtain ⟨p, hp⟩ := Q1j hl (List.getElem?_eq_some_iff.1 ha).1
     obtain ⟨p', hp'⟩ := Q1j hl' (List.getElem?_eq_some_iff.1 ha).1
     obtain ⟨m, k1, k2⟩ := g2 j p p' hp hp'
     rw [hq] at k2
     cases k2
     exact Q84 d x a p p' q (by omega) (hk j a p ha hp) (hk' j a p' ha hp') k1
    ·cases hm
theorem X7g {fm : Q2 → Q0 → Q0 → List Q0} {fj : Q0 → Q0 → Option Q0} : ∀ (ts : List Q2) (as bs : List Q0), as.length = ts.length → bs.length = ts.length → ∀ ks ∈ kmD fm fj ts as bs,
  ks.length = ts.length ∧ ∃ i, i < ts.length ∧ ∀ (j : Nat) (t : Q2) (a b q : Q0), ts[j]? = some t → as[j]? = some a → bs[j]? = some b → ks[j]? = some q → (j < i → fj a b = some q) ∧ (j = i → q ∈ fm t a b) ∧ (i < j → q = a)
 | [], as, bs, _, _, ks, h => by simp [kmD] at h
 | t :: ts, [], _, h, _, _, _ => by simp at h
 | t :: ts, _ :: _, [], _, h, _, _ => by simp at h
 | t :: ts, a :: as, b :: bs, h1, h2, ks, h => by
  simp only [kmD, List.mem_append, List.mem_map] at h
  rcases h with ⟨x, hx, rfl⟩ | h
  ·refine ⟨by simpa using h1, 0, by simp, fun j t' a' b' q e1 e2 e3 e4 => ⟨fun h => by omega, fun h => ?_, fun h => ?_⟩⟩
   ·subst h; simp at e1 e2 e3 e4; subst e1; subst e2; subst e3; subst e4; exact hx
   ·cases j with
    | zero => omega
    | succ j => simp at e2 e4; rw [e2] at e4; cases e4; rfl
  ·cases hm : fj a b with
   | none => rw [hm] at h; simp at h
   | some m =>
    rw [hm] at h
    obtain ⟨ks', hk', rfl⟩ := List.mem_map.1 h
    obtain ⟨g1, i, g2, g3⟩ := X7g ts as bs (by simpa using h1) (by simpa using h2) ks' hk'
    refine ⟨by simp [g1], i + 1, by simpa using g2, fun j t' a' b' q e1 e2 e3 e4 => ?_⟩
    cases j with
    | zero => simp at e2 e3 e4; subst e2; subst e3; subst e4; exact ⟨fun _ => hm, fun h => by omega, fun h => by omega⟩
    | succ j =>
     obtain ⟨k1, k2, k3⟩ := g3 j t' a' b' q (by simpa using e1) (by simpa using e2) (by simpa using e3) (by simpa using e4)
     exact ⟨fun h => k1 (by omega), fun h => k2 (by omega), fun h => k3 (by omega)⟩
theorem W4h {w : List Q3} {d x : Nat} {t : Q2} (hx : d + 1 ≤ x) (hM : ∀ (t : Q2) (a b : Q0), Z7 w x t a → Z7 w d t b → ∀ y ∈ W2 w d t a b, Z7 w x t y) (ht : t.data ≠ -1) {c c' : Int} {ks ks' : List Q0} (hc : c ∈ Z9 w t)
  (hl : ks.length = (Z5 w t c).length) (hk : ∀ (j : Nat) (a : Q2) (q : Q0), (Z5 w t c)[j]? = some a → ks[j]? = some q → Z7 w x a q)
  (hl' : ks'.length = (Z5 w t c').length) (hk' : ∀ (j : Nat) (a : Q2) (q : Q0), (Z5 w t c')[j]? = some a → ks'[j]? = some q → Z7 w d a q) :
  ∀ y ∈ cmD w (W2 w d) (Q05 d) t (Q0.mk 4 c 0 0 0 ks) (Q0.mk 4 c' 0 0 0 ks'), Z7 w (x + 1) t y := fun y hy => by
 simp only [cmD] at hy
 split at hy
 ·rename_i hcc
  subst hcc
  obtain ⟨k, hk1, rfl⟩ := List.mem_map.1 hy
  obtain ⟨g1, i, g2, g3⟩ := X7g (Z5 w t c) ks ks' hl hl' k hk1
  refine .inr (.inr ⟨c, k, rfl, ht, hc, g1, fun j a q ha hq => ?_⟩)
  obtain ⟨p, hp⟩ := Q1j hl (List.getElem?_eq_some_iff.1 ha).1
  obtain ⟨p', hp'⟩ := Q1j hl' (List.getElem?_eq_some_iff.1 ha).1
  obtain ⟨k1, k2, k3⟩ := g3 j a p p' q ha hp hp' hq
  rcases Nat.lt_trichotomy j i with h | h | h
  ·exact Q84 d x a p p' q (by omega) (hk j a p ha hp) (hk' j a p' ha hp') (k1 h)
  ·exact hM a p p' (hk j a p ha hp) (hk' j a p' ha hp') q (k2 h)
  ·rw [k3 h]; exact hk j a p ha hp
 ·simp at hy
  subst hy
  exact .inr (.inr ⟨c, ks, rfl, ht, hc, hl, hk⟩)
theorem Q7v {w : List Q3} : ∀ (d x : Nat) (t : Q2) (a b : Q0), d + 1 ≤ x → Z7 w x t a → Z7 w d t b → ∀ y ∈ W2 w d t a b, Z7 w x t y
 | 0, _, _, _, _, _, _, h, _, _ => h.elim
 | d + 1, 0, _, _, _, h, _, _, _, _ => by omega
 | d + 1, x + 1, t, a, b, hx, ha, hb, y, hy => by
  rcases hb with rfl | ⟨n', m', rfl, ht', g0, g1, g2⟩ | ⟨c', ks', rfl, ht', hc', hl', hk'⟩
  ·simp [W2] at hy
  ·have e1 : ¬ (3 : Int) = 1 := by decide
   simp only [W2, e1, if_false, if_true] at hy
   have hr : ∀ n m, 0 ≤ n → m ≤ 9 → ∀ y ∈ Z1o n m n' m', Z7 w (x + 1) t y := fun n m h0 h9 y hy => by
    simp only [Z1o, List.mem_append] at hy
    rcases hy with hy | hy <;> split at hy <;> simp at hy <;> subst hy
    ·exact .inr (.inl ⟨_, _, rfl, ht', h0, by assumption, by omega⟩)
    ·exact .inr (.inl ⟨_, _, rfl, ht', by omega, by assumption, h9⟩)
   rcases ha with rfl | ⟨n, m, rfl, _, h0, _, h9⟩ | ⟨c, ks, rfl, ht, _⟩
   ·simp only [if_true] at hy; exact hr 0 9 (by omega) (by omega) y hy
   ·simp only [e1, if_false] at hy; exact hr n m h0 h9 y hy
   ·exact absurd ht' ht
  ·have e1 : ¬ (4 : Int) = 1 := by decide
   have e3 : ¬ (4 : Int) = 3 := by decide
   simp only [W2, e1, e3, if_false] at hy
   have hM := fun (t : Q2) (a b : Q0) => Q7v (w := w) d x t a b (by omega)
   rcases ha with rfl | ⟨n, m, rfl, ht, _⟩ | ⟨c, ks, rfl, _, hc, hl, hk⟩
   ·simp only [if_true, List.mem_flatMap] at hy
    obtain ⟨c, hc, hy⟩ := hy
    exact W4h (by omega) hM ht' hc (by simp) (fun j a q ha hq => by
     rw [List.getElem?_map, ha] at hq
     cases hq
     exact X53 (Q6j w 0 a) (by omega)) hl' hk' y hy
   ·exact absurd ht ht'
   ·simp only [e1, if_false] at hy
    exact W4h (by omega) hM ht' hc hl hk hl' hk' y hy
end Go.Proofs.YtbdkbdafhlcilaaGreat
namespace Go.Proofs.YtbdkbdafhlcilaaGreat
open Go Go.RowKit
def Q79 (w : List Q3) (x : Nat) (t : Q2) (l : List Q0) : List Q0 := l.filter fun p => !V2 w x t p
def Q36 (w : List Q3) (d x : Nat) (t : Q2) (l : List Q0) (b : Q0) : List Q0 := Q79 w x t (l.flatMap fun a => W2 w d t a b)
def Q5q (w : List Q3) (d x : Nat) (t : Q2) : List Q0 → List Q0 → Option (List Q0)
 | l, [] => some l
 | l, b :: bs => if 400 < (Q36 w d x t l b).length then none else Q5q w d x t (Q36 w d x t l b) bs
def Q0q (w : List Q3) (d x : Nat) (t : Q2) (l bs : List Q0) : Option (List Q0) := Q5q w d x t (Q79 w x t l) bs
theorem Q7y {w : List Q3} {d x : Nat} {t : Q2} (hx : d + 1 ≤ x) {b : Q0} (hb : Z7 w d t b) {l : List Q0} (h : ∀ a ∈ l, Z7 w x t a) : ∀ y ∈ Q36 w d x t l b, Z7 w x t y := fun y hy => by
 obtain ⟨a, ha, hy⟩ := List.mem_flatMap.1 (List.mem_filter.1 hy).1
 exact Q7v d x t a b hx (h a ha) hb y hy
theorem Z80 {w : List Q3} {d x : Nat} {t : Q2} (hx : d + 1 ≤ x) : ∀ (bs l r : List Q0), (∀ b ∈ bs, Z7 w d t b) → (∀ a ∈ l, Z7 w x t a) → Q5q w d x t l bs = some r → ∀ y ∈ r, Z7 w x t y
 | [], l, r, _, h, e => by simp [Q5q] at e; subst e; exact h
 | b :: bs, l, r, hb, h, e => by
  simp only [Q5q] at e
  split at e
  ·cases e
  ·exact Z80 hx bs _ r (fun b hb' => hb b (by simp [hb'])) (Q7y hx (hb b (by simp)) h) e
theorem Z0e {w : List Q3} {d x : Nat} {t : Q2} (hx : d + 1 ≤ x) {l bs r : List Q0} (hb : ∀ b ∈ bs, Z7 w d t b) (h : ∀ a ∈ l, Z7 w x t a) (e : Q0q w d x t l bs = some r) : ∀ y ∈ r, Z7 w x t y :=
 Z80 hx bs _ r hb (fun a ha => h a (List.mem_filter.1 ha).1) e
theorem X8b {w : List Q3} (hw : WW w) (he : WE w) {x e : Nat} {t : Q2} (ht : t ∈ tys w) {l : List Q0} (h : ∀ a ∈ l, Z7 w x t a) {v : Q4} (hv : Q0s w e t v) : (∃ y ∈ Q79 w x t l, fitP y v = true) ↔ ∃ y ∈ l, fitP y v = true := by
 constructor
 ·rintro ⟨y, hy, g⟩; exact ⟨y, (List.mem_filter.1 hy).1, g⟩
 ·rintro ⟨y, hy, g⟩
  refine ⟨y, List.mem_filter.2 ⟨hy, ?_⟩, g⟩
  cases hem : V2 w x t y with
  | false => rfl
  | true => rw [Z7p hw he x e t y v ht (h y hy) hem hv] at g; cases g
theorem X8h {w : List Q3} (hw : WW w) (he : WE w) {d x e : Nat} {t : Q2} (ht : t ∈ tys w) (hx : d + 1 ≤ x) {v : Q4} (hv : Q0s w e t v) : ∀ (bs l r : List Q0), (∀ b ∈ bs, Z7 w d t b) → (∀ a ∈ l, Z7 w x t a) → Q5q w d x t l bs = some r →
  ((∃ y ∈ r, fitP y v = true) ↔ (∃ a ∈ l, fitP a v = true) ∧ ∀ b ∈ bs, fitP b v = false)
 | [], l, r, _, h, e1 => by simp [Q5q] at e1; subst e1; simp
 | b :: bs, l, r, hb, h, e1 => by
  simp only [Q5q] at e1
  split at e1
  ·cases e1
  ·have hb0 := hb b (by simp)
   rw [X8h hw he ht hx hv bs _ r (fun b hb' => hb b (by simp [hb'])) (Q7y hx hb0 h) e1]
   have hmp : ∀ y ∈ l.flatMap (fun a => W2 w d t a b), Z7 w x t y := fun y hy => by
    obtain ⟨a, ha, hy⟩ := List.mem_flatMap.1 hy
    exact Q7v d x t a b hx (h a ha) hb0 y hy
   have h1 := X8b hw he ht hmp hv
   simp only [Q36]
   rw [h1]
   constructor
   ·rintro ⟨⟨y, hy, g⟩, h2⟩
    obtain ⟨a, ha, hy⟩ := List.mem_flatMap.1 hy
    obtain ⟨g1, g2⟩ := (Z0r d e t a b x (h a ha) hb0 v hv).2 ⟨y, hy, g⟩
    refine ⟨⟨a, ha, g1⟩, fun b' hb' => ?_⟩
    rcases List.mem_cons.1 hb' with rfl | hb'
    ·exact g2
    ·exact h2 b' hb'
   ·rintro ⟨⟨a, ha, g1⟩, h2⟩
    obtain ⟨y, hy, g⟩ := (Z0r d e t a b x (h a ha) hb0 v hv).1 ⟨g1, h2 b (by simp)⟩
    exact ⟨⟨y, List.mem_flatMap.2 ⟨a, ha, hy⟩, g⟩, fun b' hb' => h2 b' (by simp [hb'])⟩
theorem Q9d {w : List Q3} (hw : WW w) (he : WE w) {d x e : Nat} {t : Q2} (ht : t ∈ tys w) (hx : d + 1 ≤ x) {v : Q4} (hv : Q0s w e t v) {l bs r : List Q0} (hb : ∀ b ∈ bs, Z7 w d t b) (h : ∀ a ∈ l, Z7 w x t a) (e1 : Q0q w d x t l bs = some r) :
  (∃ y ∈ r, fitP y v = true) ↔ (∃ a ∈ l, fitP a v = true) ∧ ∀ b ∈ bs, fitP b v = false := by
 rw [X8h hw he ht hx hv bs (Q79 w x t l) r hb (fun a ha => h a (List.mem_filter.1 ha).1) e1, X8b hw he ht h hv]
theorem X7f {fm : Q2 → Q0 → Q0 → List Q0} {fj : Q0 → Q0 → Option Q0} : ∀ (ts : List Q2) (as bs : List Q0), (∀ (j : Nat) (t : Q2) (a b : Q0), ts[j]? = some t → bs[j]? = some b → (fm t a b).length ≤ 3 * cntP b) → (kmD fm fj ts as bs).length ≤ 3 * cntP.cntPs bs
 | [], as, bs, _ => by simp [kmD]
 | t :: ts, [], bs, _ => by simp [kmD]
 | t :: ts, a :: as, [], _ => by simp [kmD]
 | t :: ts, a :: as, b :: bs, h => by
  have h0 := h 0 t a b rfl rfl
  have ih := X7f (fj := fj) ts as bs fun j t a b h1 h2 => h (j + 1) t a b (by simpa using h1) (by simpa using h2)
  simp only [kmD, List.length_append, List.length_map, cntP.cntPs]
  cases fj a b with
  | none => simp; omega
  | some m => simp only [List.length_map]; omega
theorem X70 (n m n' m' : Int) : (Z1o n m n' m').length ≤ 2 := by
 simp only [Z1o, List.length_append]
 split <;> split <;> simp
theorem X89 {α β : Type} {f : α → List β} : ∀ {l : List α}, (∀ x ∈ l, (f x).length ≤ 1) → (l.flatMap f).length ≤ l.length
 | [], _ => by simp
 | x :: l, h => by
  have h1 := h x (by simp)
  have h2 := X89 (l := l) fun y hy => h y (by simp [hy])
  simp only [List.flatMap_cons, List.length_append, List.length_cons]
  omega
theorem W40 {α β : Type} {f : α → List β} {c : α} {B : Nat} (hc : (f c).length ≤ B) : ∀ {l : List α}, c ∈ l → (∀ x ∈ l, x ≠ c → (f x).length ≤ 1) → l.Nodup → (l.flatMap f).length + 1 ≤ l.length + B
 | [], h, _, _ => by simp at h
 | x :: l, hcl, hn, hd => by
  obtain ⟨h1, h2⟩ := List.nodup_cons.1 hd
  simp only [List.flatMap_cons, List.length_append, List.length_cons]
  by_cases hx : x = c
  ·subst hx
   have := X89 (f := f) (l := l) fun y hy => hn y (by simp [hy]) fun e => h1 (e ▸ hy)
   omega
  ·have h3 := hn x (by simp) hx
   have hcl : c ∈ l := by
    rcases List.mem_cons.1 hcl with rfl | h
    ·exact absurd rfl hx
    ·exact h
   have := W40 hc hcl (fun z hz => hn z (by simp [hz])) h2
   omega
theorem Q83 {w : List Q3} (hw : WW w) (he : WE w) : ∀ (d : Nat) (t : Q2) (a b : Q0), t ∈ tys w → Z7 w d t b → (W2 w d t a b).length ≤ 3 * cntP b
 | 0, _, _, _, _, h => h.elim
 | d + 1, t, a, b, ht, hb => by
  rcases hb with rfl | ⟨n', m', rfl, ht', _⟩ | ⟨c', ks', rfl, ht', hc', hl', hk'⟩
  ·simp [W2]
  ·have e1 : ¬ (3 : Int) = 1 := by decide
   simp only [W2, e1, if_false, if_true]
   have h1 := Q5l (Q0.mk 3 0 n' m' 0 [])
   split
   ·have := X70 0 9 n' m'; omega
   ·have := X70 a.n a.m n' m'; omega
  ·have e1 : ¬ (4 : Int) = 1 := by decide
   have e3 : ¬ (4 : Int) = 3 := by decide
   simp only [W2, e1, e3, if_false]
   have hkm : ∀ (as : List Q0), (kmD (W2 w d) (Q05 d) (Z5 w t c') as ks').length ≤ 3 * cntP.cntPs ks' := fun as =>
    X7f (Z5 w t c') as ks' fun j u p q h1 h2 => Q83 hw he d u p q ((hw.ty t ht).at_ _ hc' u (List.mem_of_getElem? h1)) (hk' j u q h1 h2)
   have hcm : ∀ a' : Q0, (a'.ctor ≠ c' → (cmD w (W2 w d) (Q05 d) t a' (Q0.mk 4 c' 0 0 0 ks')).length ≤ 1) ∧ (a'.ctor = c' → (cmD w (W2 w d) (Q05 d) t a' (Q0.mk 4 c' 0 0 0 ks')).length ≤ 3 * cntP.cntPs ks') := fun a' => by
    refine ⟨fun h => by simp [cmD, h], fun h => ?_⟩
    simp only [cmD, h, if_true, List.length_map]
    exact hkm a'.kids
   have hcnt : cntP (Q0.mk 4 c' 0 0 0 ks') = 1 + cntP.cntPs ks' := Q1u _
   split
   ·have := W40 (f := fun c => cmD w (W2 w d) (Q05 d) t (Q5n w t c) (Q0.mk 4 c' 0 0 0 ks')) (c := c') ((hcm (Q5n w t c')).2 rfl) hc' (fun x _ hx => (hcm (Q5n w t x)).1 hx) (he.nd t ht)
    have := (hw.ty t ht).cl
    omega
   ·by_cases h : a.ctor = c'
    ·have := (hcm a).2 h; omega
    ·have := (hcm a).1 h; omega
theorem X1z {w : List Q3} (hw : WW w) (he : WE w) {d : Nat} {t : Q2} (ht : t ∈ tys w) {b : Q0} (hb : Z7 w d t b) : ∀ (l : List Q0), (l.flatMap fun a => W2 w d t a b).length ≤ l.length * (3 * cntP b)
 | [] => by simp
 | a :: l => by
  have h1 := Q83 hw he d t a b ht hb
  have h2 := X1z hw he ht hb l
  simp only [List.flatMap_cons, List.length_append, List.length_cons, Nat.add_mul, Nat.one_mul]
  omega
end Go.Proofs.YtbdkbdafhlcilaaGreat
namespace Go.Proofs.YtbdkbdafhlcilaaGreat
open Go Go.RowKit
def X7 : Nat → Q0 → Q0
 | 0, p => p
 | d + 1, p => if p.op = 2 then Q0.mk 1 0 0 0 0 [] else if p.op = 6 ∧ p.kids ≠ [] then X7 d (p.kids.headD p) else Q0.mk p.op p.ctor p.n p.m p.var (p.kids.map (X7 d))
def altD (w : List Q3) : Nat → Q2 → Q0 → Prop
 | 0, _, _ => False
 | d + 1, t, p => p = Q0.mk 1 0 0 0 0 [] ∨ (∃ n m, p = Q0.mk 3 0 n m 0 [] ∧ t.data = -1 ∧ 0 ≤ n ∧ n ≤ m ∧ m ≤ 9) ∨
  (∃ c ks, p = Q0.mk 4 c 0 0 0 ks ∧ t.data ≠ -1 ∧ c ∈ Z9 w t ∧ ks.length = (Z5 w t c).length ∧ ∀ (j : Nat) (a : Q2) (q : Q0), (Z5 w t c)[j]? = some a → ks[j]? = some q → altD w d a q) ∨
  (∃ a b, p = Q0.mk 5 0 0 0 0 [a, b] ∧ altD w d t a ∧ altD w d t b)
theorem Z1l {w : List Q3} : ∀ (d : Nat) (t : Q2) (p : Q0), altD w d t p → altD w (d + 1) t p
 | 0, _, _, h => h.elim
 | d + 1, t, p, h => by
  rcases h with h | h | ⟨c, ks, e, h1, h2, h3, h4⟩ | ⟨a, b, e, h1, h2⟩
  ·exact .inl h
  ·exact .inr (.inl h)
  ·exact .inr (.inr (.inl ⟨c, ks, e, h1, h2, h3, fun j a q ha hq => Z1l d a q (h4 j a q ha hq)⟩))
  ·exact .inr (.inr (.inr ⟨a, b, e, Z1l d t a h1, Z1l d t b h2⟩))
theorem Z9l {w : List Q3} {d : Nat} {t : Q2} {p : Q0} (h0 : t.data = -1 → Z9 w t = []) (g : Q0a w (d + 1) t p = true) :
  p = Q0.mk 1 0 0 0 0 [] ∨ (∃ v, p = Q0.mk 2 0 0 0 v []) ∨ (∃ n m, p = Q0.mk 3 0 n m 0 [] ∧ t.data = -1 ∧ 0 ≤ n ∧ n ≤ m ∧ m ≤ 9) ∨
  (∃ c ks, p = Q0.mk 4 c 0 0 0 ks ∧ t.data ≠ -1 ∧ c ∈ Z9 w t ∧ ks.length = (Z5 w t c).length ∧ ∀ (j : Nat) (a : Q2) (q : Q0), (Z5 w t c)[j]? = some a → ks[j]? = some q → Q0a w d a q = true) ∨
  (∃ a b, p = Q0.mk 5 0 0 0 0 [a, b] ∧ Q0a w d t a = true ∧ Q0a w d t b = true) ∨ (∃ v a, p = Q0.mk 6 0 0 0 v [a] ∧ Q0a w d t a = true) := by
 have hn := Q3x (Q2x g)
 have hkid := fun (j : Nat) (a : Q2) (q : Q0) => Q1y (k := j) (a := a) (q := q) g
 obtain ⟨op, ctor, n, m, var, kids⟩ := p
 have ho := hn.1
 simp only [Q7i, Bool.and_eq_true, Bool.or_eq_true, decide_eq_true_eq] at ho
 obtain ⟨⟨⟨k1, k2⟩, k3⟩, k4⟩ := ho
 have hop : op = 1 ∨ op = 2 ∨ op = 3 ∨ op = 4 ∨ op = 5 ∨ op = 6 := by
  rcases k4 with (h | h) | h
  ·rcases h with h | h | h | h <;> simp [h]
  ·simp [h.1.1.1.1]
  ·simp [h.1]
 rcases hop with rfl | rfl | rfl | rfl | rfl | rfl
 ·have hl := hn.2
  simp [V6] at hl k1 k2 k3
  subst hl; obtain ⟨rfl, rfl⟩ := k2; subst k1; subst k3
  exact .inl rfl
 ·have hl := hn.2
  simp [V6] at hl k2 k3
  subst hl; obtain ⟨rfl, rfl⟩ := k2; subst k3
  exact .inr (.inl ⟨var, rfl⟩)
 ·have hl := hn.2
  simp [V6] at hl k1 k3 k4
  subst hl; subst k1; subst k3
  exact .inr (.inr (.inl ⟨n, m, rfl, k4.1.1.1, k4.1.1.2, k4.1.2, k4.2⟩))
 ·have hl := hn.2
  simp [V6] at hl k1 k2 k4
  obtain ⟨rfl, rfl⟩ := k2; subst k1
  refine .inr (.inr (.inr (.inl ⟨ctor, kids, rfl, fun hd => ?_, k4, hl, fun j a q ha hq => hkid j a q (by simpa [V6] using ha) hq⟩)))
  rw [h0 hd] at k4
  simp at k4
 ·have hl := hn.2
  simp [V6] at hl k1 k2 k3
  obtain ⟨rfl, rfl⟩ := k2; subst k1; subst k3
  match kids, hl with
  | [a, b], _ => exact .inr (.inr (.inr (.inr (.inl ⟨a, b, rfl, hkid 0 t a (by simp [V6]) rfl, hkid 1 t b (by simp [V6]) rfl⟩))))
 ·have hl := hn.2
  simp [V6] at hl k2 k3
  obtain ⟨rfl, rfl⟩ := k2; subst k3
  match kids, hl with
  | [a], _ => exact .inr (.inr (.inr (.inr (.inr ⟨var, a, rfl, hkid 0 t a (by simp [V6]) rfl⟩))))
theorem Q6r {w : List Q3} (h0 : ∀ t, t.data = -1 → Z9 w t = []) : ∀ (d : Nat) (t : Q2) (p : Q0), Q0a w d t p = true → altD w d t (X7 d p)
 | 0, _, _, h => by simp [Q0a] at h
 | d + 1, t, p, g => by
  rcases Z9l (h0 t) g with rfl | ⟨v, rfl⟩ | ⟨n, m, rfl, h⟩ | ⟨c, ks, rfl, h1, h2, h3, h4⟩ | ⟨a, b, rfl, h1, h2⟩ | ⟨v, a, rfl, h1⟩
  ·exact .inl (by simp [X7])
  ·exact .inl (by simp [X7])
  ·exact .inr (.inl ⟨n, m, by simp [X7], h⟩)
  ·refine .inr (.inr (.inl ⟨c, ks.map (X7 d), by simp [X7], h1, h2, by simpa using h3, fun j a q ha hq => ?_⟩))
   rw [List.getElem?_map] at hq
   obtain ⟨q', e1, e2⟩ := Option.map_eq_some_iff.1 hq
   subst e2
   exact Q6r h0 d a q' (h4 j a q' ha e1)
  ·exact .inr (.inr (.inr ⟨X7 d a, X7 d b, by simp [X7], Q6r h0 d t a h1, Q6r h0 d t b h2⟩))
  ·have : X7 (d + 1) (Q0.mk 6 0 0 0 v [a]) = X7 d a := by simp [X7]
   rw [this]
   exact Z1l d t _ (Q6r h0 d t a h1)
def MemL (cs : List Q0) (ls : List (List Q0)) : Prop := cs.length = ls.length ∧ ∀ (j : Nat) (c : Q0) (l : List Q0), cs[j]? = some c → ls[j]? = some l → c ∈ l
theorem Z0s {c : Q0} {cs : List Q0} {l : List Q0} {ls : List (List Q0)} : MemL (c :: cs) (l :: ls) ↔ c ∈ l ∧ MemL cs ls := by
 constructor
 ·rintro ⟨h1, h2⟩
  exact ⟨h2 0 c l rfl rfl, by simpa using h1, fun j x y e1 e2 => h2 (j + 1) x y (by simpa using e1) (by simpa using e2)⟩
 ·rintro ⟨h0, h1, h2⟩
  refine ⟨by simp [h1], fun j x y e1 e2 => ?_⟩
  cases j with
  | zero => simp at e1 e2; subst e1; subst e2; exact h0
  | succ j => exact h2 j x y (by simpa using e1) (by simpa using e2)
theorem X7c : ∀ (ls out : List (List Q0)) (ks : List Q0), ks ∈ ls.foldl tupD out ↔ ∃ o ∈ out, ∃ cs, MemL cs ls ∧ ks = o ++ cs
 | [], out, ks => by
  simp only [List.foldl_nil]
  constructor
  ·exact fun h => ⟨ks, h, [], ⟨rfl, fun j c l h => by simp at h⟩, by simp⟩
  ·rintro ⟨o, ho, cs, h, rfl⟩
   have : cs = [] := List.eq_nil_of_length_eq_zero (by simpa using h.1)
   subst this
   simpa using ho
 | l :: ls, out, ks => by
  simp only [List.foldl_cons]
  rw [X7c ls (tupD out l) ks]
  constructor
  ·rintro ⟨o, ho, cs, h, rfl⟩
   obtain ⟨q, hq, ho⟩ := List.mem_flatMap.1 ho
   obtain ⟨c, hc, rfl⟩ := List.mem_map.1 ho
   exact ⟨q, hq, c :: cs, Z0s.2 ⟨hc, h⟩, by simp⟩
  ·rintro ⟨o, ho, cs, h, rfl⟩
   cases cs with
   | nil => have := h.1; simp at this
   | cons c cs =>
    obtain ⟨hc, h⟩ := Z0s.1 h
    exact ⟨o ++ [c], List.mem_flatMap.2 ⟨o, ho, List.mem_map.2 ⟨c, hc, rfl⟩⟩, cs, h, by simp⟩
theorem Z3d {ls : List (List Q0)} {ks : List Q0} : ks ∈ ls.foldl tupD [[]] ↔ MemL ks ls := by
 rw [X7c]
 constructor
 ·rintro ⟨o, ho, cs, h, rfl⟩
  simp at ho
  subst ho
  simpa using h
 ·exact fun h => ⟨[], by simp, ks, h, by simp⟩
theorem Q90 {w : List Q3} : ∀ (d : Nat) (t : Q2) (p : Q0), altD w d t p → ∀ q ∈ Z3 d p, Z7 w d t q
 | 0, _, _, h, _, _ => h.elim
 | d + 1, t, p, h, q, hq => by
  rcases h with rfl | ⟨n, m, rfl, h⟩ | ⟨c, ks, rfl, h1, h2, h3, h4⟩ | ⟨a, b, rfl, h1, h2⟩
  ·simp [Z3, Q6t] at hq; subst hq; exact .inl rfl
  ·simp [Z3, Q6t] at hq; subst hq; exact .inr (.inl ⟨n, m, rfl, h⟩)
  ·have e5 : ¬ (4 : Int) = 5 := by decide
   simp only [Z3, e5, if_false, List.mem_map] at hq
   obtain ⟨cs, hcs, rfl⟩ := hq
   obtain ⟨g1, g2⟩ := Z3d.1 hcs
   refine .inr (.inr ⟨c, cs, rfl, h1, h2, by simpa [h3] using g1, fun j a q ha hq => ?_⟩)
   obtain ⟨k, hk⟩ := Q1j h3 (List.getElem?_eq_some_iff.1 ha).1
   exact Q90 d a k (h4 j a k ha hk) q (g2 j q (Z3 d k) hq (by rw [List.getElem?_map, hk]; rfl))
  ·simp only [Z3, if_true, List.flatMap_cons, List.flatMap_nil, List.append_nil, List.mem_append] at hq
   rcases hq with hq | hq
   ·exact Q5u d t q (Q90 d t a h1 q hq)
   ·exact Q5u d t q (Q90 d t b h2 q hq)
theorem Z1b {w : List Q3} : ∀ (d : Nat) (t : Q2) (p : Q0), altD w d t p → Z3 (d + 1) p = Z3 d p
 | 0, _, _, h => h.elim
 | d + 1, t, p, h => by
  rcases h with rfl | ⟨n, m, rfl, h⟩ | ⟨c, ks, rfl, h1, h2, h3, h4⟩ | ⟨a, b, rfl, h1, h2⟩
  ·simp [Z3]
  ·simp [Z3]
  ·have e5 : ¬ (4 : Int) = 5 := by decide
   have : ks.map (Z3 (d + 1)) = ks.map (Z3 d) := by
    refine List.map_congr_left fun k hk => ?_
    obtain ⟨j, hj⟩ := List.mem_iff_getElem?.1 hk
    obtain ⟨a, ha⟩ := Q1j h3.symm (List.getElem?_eq_some_iff.1 hj).1
    exact Z1b d a k (h4 j a k ha hj)
   rw [Z3, Z3]
   simp only [e5, if_false, this]
  ·rw [Z3, Z3]
   simp only [if_true, List.flatMap_cons, List.flatMap_nil, Z1b d t a h1, Z1b d t b h2]
theorem Z9c {f : Q0 → Q4 → Option (List X3)} {S : Q0 → List Q0} : ∀ (ps : List Q0) (vs : List Q4), ps.length = vs.length →
  (∀ (j : Nat) (p : Q0) (v : Q4), ps[j]? = some p → vs[j]? = some v → ((f p v).isSome = true ↔ ∃ q ∈ S p, fitP q v = true)) → ((Q2p f ps vs).isSome = true ↔ ∃ cs, MemL cs (ps.map S) ∧ fitL cs vs = true)
 | [], [], _, _ => by
  simp only [Q2p, Option.isSome_some, true_iff]
  exact ⟨[], ⟨rfl, fun j c l h => by simp at h⟩, by simp⟩
 | p :: ps, v :: vs, hl, h => by
  have h0 := h 0 p v rfl rfl
  have ih := Z9c (f := f) (S := S) ps vs (by simpa using hl) fun j x y e1 e2 => h (j + 1) x y (by simpa using e1) (by simpa using e2)
  have hm : (Q2p f (p :: ps) (v :: vs)).isSome = ((f p v).isSome && (Q2p f ps vs).isSome) := by
   simp only [Q2p]
   cases f p v with
   | none => rfl
   | some l => cases Q2p f ps vs <;> rfl
  rw [hm, Bool.and_eq_true, h0, ih]
  constructor
  ·rintro ⟨⟨q, hq, g1⟩, cs, hcs, g2⟩
   exact ⟨q :: cs, Z0s.2 ⟨hq, hcs⟩, by simp [g1, g2]⟩
  ·rintro ⟨cs, hcs, g⟩
   cases cs with
   | nil => have := hcs.1; simp at this
   | cons c cs =>
    obtain ⟨hc, hcs⟩ := Z0s.1 hcs
    simp only [Q5b, Bool.and_eq_true] at g
    exact ⟨⟨c, hc, g.1⟩, cs, hcs, g.2⟩
 | [], _ :: _, h, _ => by simp at h
 | _ :: _, [], h, _ => by simp at h
theorem Q92 {w : List Q3} (h0 : ∀ t, t.data = -1 → Z9 w t = []) : ∀ (d e : Nat) (t : Q2) (p : Q0) (v : Q4), Q0a w d t p = true → Q0s w e t v → ((X6 d p v).isSome = true ↔ ∃ q ∈ Z3 d (X7 d p), fitP q v = true)
 | 0, _, _, _, _, h, _ => by simp [Q0a] at h
 | d + 1, e, t, p, v, g, hv => by
  rcases Z9l (h0 t) g with rfl | ⟨x, rfl⟩ | ⟨n, m, rfl, h⟩ | ⟨c, ks, rfl, h1, h2, h3, h4⟩ | ⟨a, b, rfl, h1, h2⟩ | ⟨x, a, rfl, h1⟩
  ·simp [X6, X7, Z3, Q6t, Q5p]
  ·simp [X6, X7, Z3, Q6t, Q5p]
  ·have hb : X7 (d + 1) (Q0.mk 3 0 n m 0 []) = Q0.mk 3 0 n m 0 [] := by simp [X7]
   have hs : Z3 (d + 1) (Q0.mk 3 0 n m 0 []) = [Q0.mk 3 0 n m 0 []] := by simp [Z3, Q6t]
   rw [hb, hs]
   simp only [List.mem_singleton, exists_eq_left]
   rw [Q67 rfl]
   have e1 : ¬ (3 : Int) = 1 := by decide
   have e2 : ¬ (3 : Int) = 2 := by decide
   simp only [X6, e1, e2, if_false, if_true, decide_eq_true_eq]
   split <;> simp [*]
  ·have e1 : ¬ (4 : Int) = 1 := by decide
   have e2 : ¬ (4 : Int) = 2 := by decide
   have e3 : ¬ (4 : Int) = 3 := by decide
   have e5 : ¬ (4 : Int) = 5 := by decide
   have e6 : ¬ (4 : Int) = 6 := by decide
   have hb : X7 (d + 1) (Q0.mk 4 c 0 0 0 ks) = Q0.mk 4 c 0 0 0 (ks.map (X7 d)) := by simp [X7]
   rw [hb]
   simp only [Z3, e5, if_false, List.mem_map, X6, e1, e2, e3, e6]
   obtain ⟨e', rfl, gv1, gv2, gv3⟩ := Q6y hv h1
   by_cases hc : c = v.ctor
   ·subst hc
    simp only [if_true]
    rw [Z9c (f := X6 d) (S := fun p => Z3 d (X7 d p)) ks v.kids (h3.trans gv2.symm) fun j p u hp hu => by
     obtain ⟨a, ha⟩ := Q1j h3.symm (List.getElem?_eq_some_iff.1 hp).1
     exact Q92 h0 d e' a p u (h4 j a p ha hp) (gv3 j a u ha hu)]
    have hmm : (ks.map (X7 d)).map (Z3 d) = ks.map (fun p => Z3 d (X7 d p)) := by simp
    constructor
    ·rintro ⟨cs, hcs, g⟩
     refine ⟨_, ⟨cs, ?_, rfl⟩, ?_⟩
     ·rw [hmm]; exact Z3d.2 hcs
     ·rw [Q6t, Q1e rfl]; simp [g]
    ·rintro ⟨_, ⟨cs, hcs, rfl⟩, g⟩
     rw [hmm] at hcs
     rw [Q6t, Q1e rfl] at g
     simp only [Bool.and_eq_true] at g
     exact ⟨cs, Z3d.1 hcs, g.2⟩
   ·simp only [if_neg hc, Option.isSome_none, Bool.false_eq_true, false_iff]
    rintro ⟨_, ⟨cs, hcs, rfl⟩, g⟩
    rw [Q6t, Q1e rfl] at g
    simp only [Bool.and_eq_true, decide_eq_true_eq] at g
    exact hc g.1
  ·have ia := Q92 h0 d e t a v h1 hv
   have ib := Q92 h0 d e t b v h2 hv
   have hb : X7 (d + 1) (Q0.mk 5 0 0 0 0 [a, b]) = Q0.mk 5 0 0 0 0 [X7 d a, X7 d b] := by simp [X7]
   have e1 : ¬ (5 : Int) = 1 := by decide
   have e2 : ¬ (5 : Int) = 2 := by decide
   have e3 : ¬ (5 : Int) = 3 := by decide
   rw [hb]
   simp only [Z3, if_true, List.flatMap_cons, List.flatMap_nil, List.append_nil, List.mem_append, X6, e1, e2, e3, if_false]
   cases hm : X6 d a v with
   | some l =>
    rw [hm] at ia
    obtain ⟨q, hq, g⟩ := ia.1 rfl
    simp only [Option.isSome_some, true_iff]
    exact ⟨q, .inl hq, g⟩
   | none =>
    rw [hm] at ia
    simp only
    rw [ib]
    constructor
    ·rintro ⟨q, hq, g⟩; exact ⟨q, .inr hq, g⟩
    ·rintro ⟨q, hq | hq, g⟩
     ·have := ia.2 ⟨q, hq, g⟩; simp at this
     ·exact ⟨q, hq, g⟩
  ·have ia := Q92 h0 d e t a v h1 hv
   have hb : X7 (d + 1) (Q0.mk 6 0 0 0 x [a]) = X7 d a := by simp [X7]
   have e1 : ¬ (6 : Int) = 1 := by decide
   have e2 : ¬ (6 : Int) = 2 := by decide
   have e3 : ¬ (6 : Int) = 3 := by decide
   have e5 : ¬ (6 : Int) = 5 := by decide
   rw [hb, Z1b d t _ (Q6r h0 d t a h1)]
   simp only [X6, e1, e2, e3, e5, if_false, if_true, Option.isSome_map]
   exact ia
end Go.Proofs.YtbdkbdafhlcilaaGreat
namespace Go.Proofs.YtbdkbdafhlcilaaGreat
open Go Go.RowKit
def dimP (w : List Q3) : List Int := (Q58 NN w).getD []
def W6z (w : List Q3) (t : Q2) (k : Int) : Bool := decide (0 < (Q1i (dimP w) w t k).getD 0)
def W9a (w : List Q3) (t : Q2) (k : Int) : Bool := match Q4e w t k with
 | some p => decide (Q07 NN w (tabP w) t p = some (W6z w t k))
 | none => false
def chkL (w : List Q3) : Bool := decide (Q58 NN w = some (dimP w)) &&
 (tys w).all fun t => decide (t.data = -1) || (Z9 w t).all fun k => (Q1i (dimP w) w t k).isSome && (W9a w t k && decide (k ≠ -1))
theorem Y1r : Q0g.all chkL = true := by kernel_rfl
structure WL (w : List Q3) : Prop where
 dim : Q2c NN w = some ⟨w, dimP w⟩
 ctor : ∀ t ∈ tys w, t.data ≠ -1 → ∀ k ∈ Z9 w t, ∃ r, Q1i (dimP w) w t k = some r ∧ W6z w t k = decide (0 < r)
 wide : ∀ t ∈ tys w, t.data ≠ -1 → ∀ k ∈ Z9 w t, ∃ p, Q4e w t k = some p ∧ Q07 NN w (tabP w) t p = some (W6z w t k)
 pos : ∀ t ∈ tys w, t.data ≠ -1 → ∀ k ∈ Z9 w t, k ≠ -1
theorem wl {w : List Q3} (h : w ∈ Q0g) : WL w := by
 have h := List.all_eq_true.1 Y1r w h
 simp only [chkL, Bool.and_eq_true, Bool.or_eq_true, decide_eq_true_eq, List.all_eq_true, Option.isSome_iff_exists] at h
 obtain ⟨h1, h2⟩ := h
 have h3 : ∀ t ∈ tys w, t.data ≠ -1 → ∀ k ∈ Z9 w t, _ := fun t ht hd k hk => ((h2 t ht).resolve_left hd) k hk
 refine ⟨by unfold Q2c; rw [h1]; rfl, fun t ht hd k hk => ?_, fun t ht hd k hk => ?_, fun t ht hd k hk => (h3 t ht hd k hk).2.2⟩
 ·obtain ⟨⟨r, hr⟩, _⟩ := h3 t ht hd k hk
  exact ⟨r, hr, by rw [W6z, hr]; rfl⟩
 ·obtain ⟨_, hw, _⟩ := h3 t ht hd k hk
  unfold W9a at hw
  split at hw
  ·rename_i p hp
   exact ⟨p, hp, by simpa using hw⟩
  ·cases hw
end Go.Proofs.YtbdkbdafhlcilaaGreat
namespace Go.Proofs.YtbdkbdafhlcilaaGreat
open Go Go.RowKit
theorem Q4q {α β ρ : Type} {f : Nat → α → List β → Option (Ctl ρ (List β))} (g : α → List β) (M : Nat) : ∀ (xs : List α) (k : Nat) (s : List β), (∀ k, ∀ x ∈ xs, ∀ s : List β, s.length + (g x).length ≤ M → f k x s = some (.go (s ++ g x))) → s.length + (xs.flatMap g).length ≤ M → forL f k xs s = some (.brk (s ++ xs.flatMap g))
 | [], k, s, _, _ => by simp [forL]
 | x :: xs, k, s, h, hM => by
  simp only [List.flatMap_cons, List.length_append] at hM
  unfold forL
  rw [h k x (by simp) s (by omega)]
  simp only
  rw [Q4q g M xs (k + 1) (s ++ g x) (fun k y hy => h k y (by simp [hy])) (by simp only [List.length_append]; omega)]
  simp
theorem Q3y {α : Type} {l l' : List α} {k : Nat} {a : α} (h : l.drop k = a :: l') : l[k]? = some a ∧ l.drop (k + 1) = l' := by
 constructor
 ·have := congrArg (fun m => m[0]?) h
  simpa [List.getElem?_drop] using this
 ·have := congrArg (fun m => m.drop 1) h
  simpa [List.drop_drop, Nat.add_comm] using this
theorem W85 {n : Int} (h0 : 0 ≤ n) (h : n ≤ 100000) : Q23 n = some [] := by
 unfold Q23
 have e : ilt n 0 = false := by rw [J8]; exact h0
 have e0 : wsub .i64 0 (lenZ 0) = 0 := rfl
 have e1 : wsub .i64 n 0 = n := by rw [Q3k] <;> omega
 simp only [e, Bool.false_eq_true, if_false, e0, e1]
 by_cases hn : 0 < n
 ·have e2 : ilt 0 n = true := by rw [X0]; exact hn
  have e3 : mkS n (Q0.mk 0 0 0 0 0 []) = some (List.replicate n.toNat (Q0.mk 0 0 0 0 0 [])) := by
   unfold mkS; rw [if_pos ⟨h0, by simp [Q6]; omega⟩]
  rw [if_pos e2, e3]
  rfl
 ·have e2 : ilt 0 n = false := by rw [J8]; omega
  rw [if_neg (by rw [e2]; simp)]
  rfl
theorem W0m {a b c : List Q0} (h : a.length + b.length + c.length ≤ 100000) : Q02 [a, b, c] = some (a ++ b ++ c) := by
 unfold Q02
 have hA : wadd .i64 0 (lenZ a.length) = (a.length : Int) := by rw [Q09] <;> simp only [lenZ] <;> omega
 have hB : wadd .i64 (a.length : Int) (lenZ b.length) = (a.length : Int) + b.length := by rw [Q09] <;> simp only [lenZ] <;> omega
 have hC : wadd .i64 ((a.length : Int) + b.length) (lenZ c.length) = (a.length : Int) + b.length + c.length := by rw [Q09] <;> simp only [lenZ] <;> omega
 have l1 : ilt (a.length : Int) 0 = false := by rw [J8]; omega
 have l2 : ilt ((a.length : Int) + b.length) 0 = false := by rw [J8]; omega
 have l3 : ilt ((a.length : Int) + b.length + c.length) 0 = false := by rw [J8]; omega
 simp only [forL, hA, hB, hC, l1, l2, l3, Bool.false_eq_true, if_false, Option.bind_some]
 rw [W85 (by omega) (by omega)]
 simp only [Option.bind_some]
 rw [W6 (by simp [Q6]; omega)]
 simp only [Option.bind_some, List.nil_append]
 rw [W6 (by simp only [Q6]; omega)]
 simp only [Option.bind_some]
 rw [W6 (by simp only [List.length_append, Q6]; omega)]
 rfl
theorem W9p (a b : Int) : imax a b = max a b := by unfold imax; omega
theorem W9o (a b : Int) : imin a b = min a b := by unfold imin; omega
def i3 (a b : Int) : List Q0 := if a ≤ b then [Q0.mk 3 0 a b 0 []] else []
theorem V10 {n : Nat} (hn : 2 ≤ n) (a b : Int) : Q2g n [a, b] = some (i3 a b) := by
 obtain ⟨m, rfl⟩ : ∃ m, n = m + 2 := ⟨n - 2, by omega⟩
 have w1 : wadd .i64 0 1 = 1 := rfl
 have w2 : wadd .i64 0 2 = 2 := rfl
 unfold Q2g i3
 by_cases h : a ≤ b <;> simp [whileL, idx, ilt, ile, app, w1, w2, h, lenZ, Q6]
theorem V0z {n : Nat} (hn : 3 ≤ n) (a b c e : Int) : Q2g n [a, b, c, e] = some (i3 a b ++ i3 c e) := by
 obtain ⟨m, rfl⟩ : ∃ m, n = m + 3 := ⟨n - 3, by omega⟩
 have w1 : wadd .i64 0 1 = 1 := rfl
 have w2 : wadd .i64 0 2 = 2 := rfl
 have w3 : wadd .i64 2 1 = 3 := rfl
 have w4 : wadd .i64 2 2 = 4 := rfl
 unfold Q2g i3
 by_cases h : a ≤ b <;> by_cases h' : c ≤ e <;> simp [whileL, idx, ilt, ile, app, w1, w2, w3, w4, h, h', lenZ, Q6]
def zP : Q0 := Q0.mk 0 0 0 0 0 []
def Z1r : Option Q0 → Q0 × Bool
 | some m => (m, true)
 | none => (zP, false)
end Go.Proofs.YtbdkbdafhlcilaaGreat
namespace Go.Proofs.YtbdkbdafhlcilaaGreat
open Go Go.RowKit
theorem Z0n {w : List Q3} {d : Nat} {t : Q2} {p : Q0} (h : Z7 w d t p) : ∃ e, d = e + 1 ∧ (p = Q0.mk 1 0 0 0 0 [] ∨ (∃ n m, p = Q0.mk 3 0 n m 0 [] ∧ t.data = -1 ∧ 0 ≤ n ∧ n ≤ m ∧ m ≤ 9) ∨
  (∃ c ks, p = Q0.mk 4 c 0 0 0 ks ∧ t.data ≠ -1 ∧ c ∈ Z9 w t ∧ ks.length = (Z5 w t c).length ∧ ∀ (j : Nat) (a : Q2) (q : Q0), (Z5 w t c)[j]? = some a → ks[j]? = some q → Z7 w e a q)) := by
 cases d with
 | zero => exact h.elim
 | succ e => exact ⟨e, rfl, h⟩
theorem Z2c {w : List Q3} (hw : WW w) (S : List Int) : ∀ (d n x : Nat) (t : Q2) (a b : Q0), t ∈ tys w → Z7 w x t a → Z7 w d t b → d + 3 ≤ n → V1 n ⟨w, S⟩ t a b = some (Z1r (Q05 d a b))
 | 0, _, _, _, _, _, _, _, h, _ => h.elim
 | d + 1, n, x, t, a, b, ht, ha, hb, hn => by
  obtain ⟨n, rfl⟩ : ∃ m, n = m + 1 := ⟨n - 1, by omega⟩
  obtain ⟨x, rfl, ha⟩ := Z0n ha
  have i11 : ieq 1 1 = true := rfl
  have i31 : ieq 3 1 = false := rfl
  have i33 : ieq 3 3 = true := rfl
  have i41 : ieq 4 1 = false := rfl
  have i43 : ieq 4 3 = false := rfl
  have e31 : ¬ (3 : Int) = 1 := by decide
  have e41 : ¬ (4 : Int) = 1 := by decide
  have e43 : ¬ (4 : Int) = 3 := by decide
  rcases ha with rfl | ⟨n1, m1, rfl, hd, _⟩ | ⟨c, ks, rfl, hd, hc, hl, hk⟩
  ·simp [V1, Q05, Z1r, i11]
  ·rcases hb with rfl | ⟨n2, m2, rfl, _⟩ | ⟨c', ks', rfl, hd', _⟩
   ·simp [V1, Q05, Z1r, i11, i31]
   ·simp only [V1, Q05, i31, i33, e31, Bool.false_eq_true, if_false, if_true]
    rw [V10 (by omega), W9p, W9o]
    by_cases h : max n1 n2 ≤ min m1 m2
    ·simp [i3, h, idx, ieq, lenZ, Z1r]
    ·simp [i3, h, ieq, lenZ, Z1r, zP]
   ·exact absurd hd hd'
  ·rcases hb with rfl | ⟨n2, m2, rfl, hd', _⟩ | ⟨c', ks', rfl, _, hc', hl', hk'⟩
   ·simp [V1, Q05, Z1r, i11, i41]
   ·exact absurd hd' hd
   ·simp only [V1, Q05, i41, i43, e41, e43, Bool.false_eq_true, if_false]
    by_cases hcc : c = c'
    ·subst hcc
     have ec : (!ieq c c) = false := by simp [ieq]
     simp only [ec, Bool.false_eq_true, if_false, if_true]
     rw [(hw.ty t ht).a2 c hc]
     simp only [Option.bind_some]
     have hal := (hw.ty t ht).al c hc
     have hlp : ∀ (ts : List Q2) (k : Nat) (s : List Q0) (as' bs' : List Q0), (Z5 w t c).drop k = ts → ks.drop k = as' → ks'.drop k = bs' → s.length + ts.length ≤ 100 →
       forL (fun k131 x132 (s125 : (List Q0)) =>
        ((idx ks (k131 : Int)).bind fun x143 =>
        ((idx ks' (k131 : Int)).bind fun x144 =>
        ((V1 n ⟨w, S⟩ x132 x143 x144).bind fun r145 =>
        (if (!r145.2) = true then
        some (Ctl.ret (((Q0.mk 0 0 0 0 0 []), false)))
        else
        ((app s125 [r145.1]).bind fun x148 =>
        some (Ctl.go x148))))))) k ts s = some (match Q4n (Q05 d) as' bs' with | some ms => .brk (s ++ ms) | none => .ret (zP, false)) := by
      intro ts
      induction ts with
      | nil =>
       intro k s as' bs' h0 h1 h2 _
       have hge : (Z5 w t c).length ≤ k := by have := congrArg List.length h0; simp at this; omega
       have e1 : as' = [] := by rw [← h1]; exact List.drop_eq_nil_of_le (by omega)
       have e2 : bs' = [] := by rw [← h2]; exact List.drop_eq_nil_of_le (by omega)
       subst e1; subst e2
       simp [forL, Q4n]
      | cons u ts ih =>
       intro k s as' bs' h0 h1 h2 hs
       obtain ⟨u1, u2⟩ := Q3y h0
       have hkl := (List.getElem?_eq_some_iff.1 u1).1
       cases as' with
       | nil => have := congrArg List.length h1; simp at this; omega
       | cons a as' =>
       cases bs' with
       | nil => have := congrArg List.length h2; simp at this; omega
       | cons b bs' =>
       obtain ⟨a1, a2⟩ := Q3y h1
       obtain ⟨b1, b2⟩ := Q3y h2
       simp only [List.length_cons] at hs
       unfold forL
       rw [Q2a a1, Q2a b1]
       simp only [Option.bind_some]
       rw [Z2c hw S d n x u a b ((hw.ty t ht).at_ _ hc u (List.mem_of_getElem? u1)) (hk k u a u1 a1) (hk' k u b u1 b1) (by omega)]
       simp only [Option.bind_some, Q4n]
       cases hm : Q05 d a b with
       | none => simp [Z1r, zP]
       | some m =>
        simp only [Z1r, Bool.not_true, Bool.false_eq_true, if_false, Option.bind_some]
        rw [W6 (by simp only [List.length_cons, List.length_nil, Q6]; omega)]
        simp only [Option.bind_some]
        rw [ih (k + 1) (s ++ [m]) as' bs' u2 a2 b2 (by simp; omega)]
        cases Q4n (Q05 d) as' bs' with
        | none => simp
        | some ms => simp
     have := hlp (Z5 w t c) 0 [] ks ks' rfl rfl rfl (by simp; omega)
     rw [this]
     cases Q4n (Q05 d) ks ks' with
     | none => simp [Z1r]
     | some ms => simp [Z1r]
    ·have ec : (!ieq c c') = true := by simp [ieq, hcc]
     simp [ec, hcc, Z1r, zP]
theorem W60 {w : List Q3} (hw : WW w) (S : List Int) {t : Q2} (ht : t ∈ tys w) {c : Int} (hc : c ∈ Z9 w t) : Q2v ⟨w, S⟩ t c = some (Q5n w t c) := by
 unfold Q2v
 simp only
 rw [(hw.ty t ht).a2 c hc]
 simp only [Option.bind_some]
 have hal := (hw.ty t ht).al c hc
 rw [Q4q (fun _ => [Q0.mk 1 0 0 0 0 []]) 100 (Z5 w t c) 0 [] (fun k x _ s hs => by
  have : Q16 = some (Q0.mk 1 0 0 0 0 []) := rfl
  rw [this]
  simp only [Option.bind_some]
  simp only [List.length_cons, List.length_nil] at hs
  rw [W6 (by simp only [List.length_cons, List.length_nil, Q6]; omega)]
  rfl) (by
   have : ∀ l : List Q2, (l.flatMap fun _ => [Q0.mk 1 0 0 0 0 []]).length = l.length := fun l => by induction l with | nil => rfl | cons a l ih => simp [ih]
   rw [this]; simp; omega)]
 simp only [Option.bind_some, List.nil_append, Q5n]
 congr 2
 induction Z5 w t c with
 | nil => rfl
 | cons a l ih => simp [ih]
theorem Z95 (p : Q0) : Q60 p = some (if p.op = 1 then (0, 9) else (p.n, p.m)) := by
 unfold Q60
 by_cases h : p.op = 1
 ·have : ieq p.op 1 = true := by rw [Z4]; exact h
  rw [if_pos this, if_pos h]
 ·have : ieq p.op 1 = false := by rw [Z8]; exact h
  rw [if_neg (by rw [this]; simp), if_neg h]
theorem W34 {w : List Q3} {S : List Int} {n c0 : Nat} {c : Int} {ks ks' : List Q0} {fm : Q2 → Q0 → Q0 → List Q0} {fj : Q0 → Q0 → Option Q0} {args : List Q2}
  (hl : ks.length = args.length) (hl' : ks'.length = args.length) (ha3 : args.length ≤ 3)
  (hmin : ∀ (k : Nat) (u : Q2) (a b : Q0), args[k]? = some u → ks[k]? = some a → ks'[k]? = some b → X9 n ⟨w, S⟩ u a b = some (fm u a b) ∧ V1 n ⟨w, S⟩ u a b = some (Z1r (fj a b))) :
  ∀ (ts : List Q2) (k : Nat) (out front as' bs' : List Q0), args.drop k = ts → ks.drop k = as' → ks'.drop k = bs' → front.length = k → out.length + (kmD fm fj ts as' bs').length ≤ 50000 → c0 = c0 →
  ∃ fr, forL (fun k1426 x1427 (s1422 : (List Q0) × (List Q0)) =>
   ((idx ks (k1426 : Int)).bind fun x1558 =>
   ((idx ks' (k1426 : Int)).bind fun x1559 =>
   ((X9 n ⟨w, S⟩ x1427 x1558 x1559).bind fun r1560 =>
   ((forL (fun k1588 x1589 (s1584 : (List Q0)) =>
   ((Z5o ks (wadd .i64 (k1426 : Int) 1)).bind fun x1596 =>
   ((Q02 [s1422.2, [x1589], x1596]).bind fun r1597 =>
   ((app s1584 [(Q0.mk 4 c 0 0 0 r1597)]).bind fun x1598 =>
   some (Ctl.go x1598))))) 0 r1560 s1422.1).bind fun (o1583 : Ctl (Ctl (List Q0) ((List Q0) × (List Q0))) ((List Q0))) => match o1583 with
   | .ret r => some r
   | .go _ => none
   | .brk s1592 =>
   ((V1 n ⟨w, S⟩ x1427 x1558 x1559).bind fun r1599 =>
   (if (!r1599.2) = true then
   some (Ctl.brk (s1592, s1422.2))
   else
   ((app s1422.2 [r1599.1]).bind fun x1602 =>
   some (Ctl.go (s1592, x1602)))))))))) k ts (out, front) = some (.brk (out ++ (kmD fm fj ts as' bs').map (fun q => Q0.mk 4 c 0 0 0 (front ++ q)), fr)) := by
 intro ts
 induction ts with
 | nil =>
  intro k out front as' bs' h0 h1 h2 hf hs _
  exact ⟨front, by simp [forL, kmD]⟩
 | cons u ts ih =>
  intro k out front as' bs' h0 h1 h2 hf hs _
  obtain ⟨u1, u2⟩ := Q3y h0
  have hkl := (List.getElem?_eq_some_iff.1 u1).1
  cases as' with
  | nil => have := congrArg List.length h1; simp at this; omega
  | cons a as' =>
  cases bs' with
  | nil => have := congrArg List.length h2; simp at this; omega
  | cons b bs' =>
  obtain ⟨a1, a2⟩ := Q3y h1
  obtain ⟨b1, b2⟩ := Q3y h2
  obtain ⟨m1, m2⟩ := hmin k u a b u1 a1 b1
  simp only [kmD, List.length_append, List.length_map] at hs
  have hw1 : wadd .i64 (k : Int) 1 = ((k + 1 : Nat) : Int) := by rw [Q09] <;> omega
  have hdrop : Z5o ks ((k + 1 : Nat) : Int) = some as' := by
   unfold Z5o
   rw [if_pos ⟨by omega, by omega⟩]
   simp [← a2]
  have has : as'.length ≤ 3 := by rw [← a2]; simp; omega
  unfold forL
  simp only [Q2a a1, Q2a b1, Option.bind_some, m1, hw1, hdrop]
  have hin := Q4q (ρ := Ctl (List Q0) ((List Q0) × (List Q0))) (f := fun (k1588 : Nat) x1589 (s1584 : (List Q0)) =>
    ((Q02 [front, [x1589], as']).bind fun r1597 =>
    ((app s1584 [(Q0.mk 4 c 0 0 0 r1597)]).bind fun x1598 =>
    some (Ctl.go x1598)))) (fun x => [Q0.mk 4 c 0 0 0 (front ++ x :: as')]) 100000 (fm u a b) 0 out (fun k x _ s hs => by
   simp only [List.length_cons, List.length_nil] at hs
   rw [W0m (by simp only [List.length_cons, List.length_nil]; omega)]
   simp only [Option.bind_some]
   rw [W6 (by simp only [List.length_cons, List.length_nil, Q6]; omega)]
   simp) (by
    have : ∀ l : List Q0, (l.flatMap fun x => [Q0.mk 4 c 0 0 0 (front ++ x :: as')]).length = l.length := fun l => by induction l with | nil => rfl | cons a l ih => simp [ih]
    rw [this]; omega)
  have hfl : ∀ l : List Q0, (l.flatMap fun x => [Q0.mk 4 c 0 0 0 (front ++ x :: as')]) = l.map fun x => Q0.mk 4 c 0 0 0 (front ++ x :: as') := fun l => by induction l with | nil => rfl | cons a l ih => simp [ih]
  rw [hfl] at hin
  rw [hin]
  simp only [Option.bind_some, m2]
  cases hm : fj a b with
  | none =>
   simp only [Z1r, Bool.not_false, if_true]
   refine ⟨front, ?_⟩
   simp only [kmD, hm, List.append_nil, List.map_map]
   rfl
  | some m =>
   simp only [Z1r, Bool.not_true, Bool.false_eq_true, if_false]
   rw [W6 (by simp only [List.length_cons, List.length_nil, Q6]; omega)]
   simp only [Option.bind_some]
   rw [hm] at hs
   simp only [List.length_map] at hs
   obtain ⟨fr, e⟩ := ih (k + 1) (out ++ (fm u a b).map fun x => Q0.mk 4 c 0 0 0 (front ++ x :: as')) (front ++ [m]) as' bs' u2 a2 b2 (by simp; omega) (by simp only [List.length_append, List.length_map]; omega) rfl
   refine ⟨fr, ?_⟩
   rw [e]
   simp only [kmD, hm, List.map_append, List.map_map, List.append_assoc]
   congr 5
theorem Z53 {w : List Q3} (hw : WW w) (he : WE w) (S : List Int) : ∀ (d n x : Nat) (t : Q2) (a b : Q0), t ∈ tys w → Z7 w x t a → Z7 w d t b → cntP b ≤ 10000 → 2 * d + 5 ≤ n → X9 n ⟨w, S⟩ t a b = some (W2 w d t a b)
 | 0, _, _, _, _, _, _, _, h, _, _ => h.elim
 | d + 1, n, x, t, a, b, ht, ha, hb, hcnt, hn => by
  obtain ⟨n, rfl⟩ : ∃ m, n = m + 1 := ⟨n - 1, by omega⟩
  have i11 : ieq 1 1 = true := rfl
  have i31 : ieq 3 1 = false := rfl
  have i33 : ieq 3 3 = true := rfl
  have i41 : ieq 4 1 = false := rfl
  have i43 : ieq 4 3 = false := rfl
  have e31 : ¬ (3 : Int) = 1 := by decide
  have e41 : ¬ (4 : Int) = 1 := by decide
  have e43 : ¬ (4 : Int) = 3 := by decide
  obtain ⟨x, rfl, ha'⟩ := Z0n ha
  have hb0 := hb
  rcases hb with rfl | ⟨n2, m2, rfl, hd', g0, g1, g2⟩ | ⟨c', ks', rfl, hd', hc', hl', hk'⟩
  ·simp [X9, W2, i11]
  ·have hrg : ∀ n1 m1 : Int, 0 ≤ n1 → m1 ≤ 9 → Q2g n [n1, imin m1 (wsub .i64 n2 1), imax n1 (wadd .i64 m2 1), m1] = some (Z1o n1 m1 n2 m2) := fun n1 m1 h0 h9 => by
    rw [V0z (by omega), W9o, W9p, Q3k (by omega) (by omega), Q09 (by omega) (by omega)]
    rfl
   rcases ha' with rfl | ⟨n1, m1, rfl, hd, h0, _, h9⟩ | ⟨c, ks, rfl, hd, _⟩
   ·simp only [X9, W2, i31, i33, e31, Bool.false_eq_true, if_false, if_true, Z95, Option.bind_some]
    rw [hrg 0 9 (by omega) (by omega)]
    rfl
   ·simp only [X9, W2, i31, i33, e31, Bool.false_eq_true, if_false, if_true, Z95, Option.bind_some]
    rw [hrg n1 m1 h0 h9]
    rfl
   ·exact absurd hd' hd
  ·have hcn : cntP (Q0.mk 4 c' 0 0 0 ks') = 1 + cntP.cntPs ks' := Q1u _
   have hkc : ∀ q ∈ ks', cntP q ≤ 10000 := fun q hq => by
    have := Q70 (p := Q0.mk 4 c' 0 0 0 ks') (List.mem_iff_getElem?.1 hq).choose_spec
    omega
   have hA : ∀ (N : Nat) (c : Int) (ks : List Q0) (y : Nat), 2 * d + 5 ≤ N → c ∈ Z9 w t → ks.length = (Z5 w t c).length → (∀ (j : Nat) (a : Q2) (q : Q0), (Z5 w t c)[j]? = some a → ks[j]? = some q → Z7 w y a q) →
     X9 (N + 1) ⟨w, S⟩ t (Q0.mk 4 c 0 0 0 ks) (Q0.mk 4 c' 0 0 0 ks') = some (cmD w (W2 w d) (Q05 d) t (Q0.mk 4 c 0 0 0 ks) (Q0.mk 4 c' 0 0 0 ks')) := fun N c ks y hN hc hl hk => by
    simp only [X9, i41, i43, Bool.false_eq_true, if_false, cmD]
    by_cases hcc : c = c'
    ·subst hcc
     have ec : (!ieq c c) = false := by simp [ieq]
     simp only [ec, Bool.false_eq_true, if_false, if_true]
     rw [(hw.ty t ht).a2 c hc]
     simp only [Option.bind_some]
     have hlen : (kmD (W2 w d) (Q05 d) (Z5 w t c) ks ks').length ≤ 3 * cntP.cntPs ks' :=
      X7f (Z5 w t c) ks ks' fun j u p q h1 h2 => Q83 hw he d u p q ((hw.ty t ht).at_ _ hc u (List.mem_of_getElem? h1)) (hk' j u q h1 h2)
     obtain ⟨fr, e⟩ := W34 (w := w) (S := S) (n := N) (c0 := 0) (c := c) (fm := W2 w d) (fj := Q05 d) hl hl' ((hw.ty t ht).al c hc) (fun k u p q h1 h2 h3 =>
      have hu := (hw.ty t ht).at_ _ hc u (List.mem_of_getElem? h1)
      ⟨Z53 hw he S d N y u p q hu (hk k u p h1 h2) (hk' k u q h1 h3) (hkc q (List.mem_of_getElem? h3)) (by omega), Z2c hw S d N y u p q hu (hk k u p h1 h2) (hk' k u q h1 h3) (by omega)⟩)
      (Z5 w t c) 0 [] [] ks ks' rfl rfl rfl rfl (by simp only [List.length_nil]; omega) rfl
     have e' := congrArg (fun z : Option (Ctl (List Q0) ((List Q0) × (List Q0))) => z.bind fun o => match o with | .ret r => some r | .go _ => none | .brk s => some s.1) e
     exact e'.trans (by simp)
    ·have ec : (!ieq c c') = true := by simp [ieq, hcc]
     simp [ec, hcc]
   rcases ha' with rfl | ⟨n1, m1, rfl, hd, _⟩ | ⟨c, ks, rfl, hd, hc, hl, hk⟩
   ·simp only [X9, W2, i11, i41, i43, e41, e43, Bool.false_eq_true, if_false, if_true]
    rw [(hw.ty t ht).c2]
    simp only [Option.bind_some]
    obtain ⟨N, rfl⟩ : ∃ m, n = m + 1 := ⟨n - 1, by omega⟩
    have hlen := Q83 hw he (d + 1) t (Q0.mk 1 0 0 0 0 []) (Q0.mk 4 c' 0 0 0 ks') ht hb0
    simp only [W2, e41, e43, if_false, if_true] at hlen
    rw [Q4q (fun c => cmD w (W2 w d) (Q05 d) t (Q5n w t c) (Q0.mk 4 c' 0 0 0 ks')) 1000000 (Z9 w t) 0 [] (fun k c hc s hs => by
     rw [W60 hw S ht hc]
     simp only [Option.bind_some]
     rw [Q5n, hA N c _ 1 (by omega) hc (by simp) (fun j a q ha hq => by
      rw [List.getElem?_map, ha] at hq
      cases hq
      exact Q6j w 0 a)]
     simp only [Option.bind_some]
     rw [W6 (by simp only [Q6]; simp only [Q5n] at hs; omega)]
     rfl) (by simp only [List.length_nil]; omega)]
    simp
   ·exact absurd hd hd'
   ·rw [hA n c ks x (by omega) hc hl hk]
    simp [W2]
end Go.Proofs.YtbdkbdafhlcilaaGreat
namespace Go.Proofs.YtbdkbdafhlcilaaGreat
open Go Go.RowKit
theorem V5y {α : Type} {xs : List α} {i : Int} {x : α} (h0 : 0 ≤ i) (h : i < xs.length) : setI xs i x = some (xs.set i.toNat x) := by
 unfold setI
 rw [if_pos ⟨h0, by omega⟩]
theorem V0m {α : Type} {xs : List α} {i : Nat} (h : i ≤ xs.length) : Q73 xs (i : Int) = some (xs.take i) := by
 unfold Q73
 rw [if_pos ⟨by omega, by omega⟩]
 rfl
theorem X2y (f : Q0 → Option Bool) (g : Q0 → Bool) : ∀ (l : List Q0) (k : Nat), (∀ x ∈ l, f x = some (g x)) → ∃ i : Nat,
  (forL (ρ := Int) (fun k70 x71 (_ : Unit) => ((f x71).bind fun r78 => (if r78 = true then some (Ctl.ret ((k70 : Int))) else some (Ctl.go ())))) k l () = some (.ret ((k + i : Nat) : Int)) ∧ (∃ x, l[i]? = some x ∧ g x = true) ∧ ∀ x ∈ l.take i, g x = false) ∨
  (forL (ρ := Int) (fun k70 x71 (_ : Unit) => ((f x71).bind fun r78 => (if r78 = true then some (Ctl.ret ((k70 : Int))) else some (Ctl.go ())))) k l () = some (.brk ()) ∧ ∀ x ∈ l, g x = false)
 | [], k, _ => ⟨0, .inr ⟨rfl, fun x hx => by simp at hx⟩⟩
 | x :: l, k, h => by
  unfold forL
  rw [h x (by simp)]
  simp only [Option.bind_some]
  cases hg : g x with
  | true => exact ⟨0, .inl ⟨by simp, ⟨x, rfl, hg⟩, by simp⟩⟩
  | false =>
   simp only [Bool.false_eq_true, if_false]
   obtain ⟨i, hi⟩ := X2y f g l (k + 1) fun y hy => h y (by simp [hy])
   rcases hi with ⟨e, ⟨y, hy, gy⟩, hn⟩ | ⟨e, hn⟩
   ·refine ⟨i + 1, .inl ⟨by rw [e]; congr 3; omega, ⟨y, by simpa using hy, gy⟩, fun z hz => ?_⟩⟩
    simp only [List.take_succ_cons, List.mem_cons] at hz
    rcases hz with rfl | hz
    ·exact hg
    ·exact hn z hz
   ·exact ⟨0, .inr ⟨e, fun z hz => by
     rcases List.mem_cons.1 hz with rfl | hz
     ·exact hg
     ·exact hn z hz⟩⟩
theorem W0k {n : Nat} {l : List Q0} (f : Q0 → Option Bool) (g : Q0 → Bool) (hf : ∀ x ∈ l, f x = some (g x)) (hl : l.length ≤ 10000000) (hn : l.length + 5 ≤ n) : J3 n l f = some (l.filter fun x => !g x) := by
 suffices hs : Ret (J3 n l f) (fun r => r = l.filter fun x => !g x) by
  obtain ⟨a, e, rfl⟩ := hs
  exact e
 unfold J3
 have hix : ∃ r, J9 l f = some r ∧ ((∃ i : Nat, r = (i : Int) ∧ (∃ x, l[i]? = some x ∧ g x = true) ∧ ∀ x ∈ l.take i, g x = false) ∨ (r = -1 ∧ ∀ x ∈ l, g x = false)) := by
  obtain ⟨i, h⟩ := X2y f g l 0 hf
  unfold J9
  rcases h with ⟨e, h1, h2⟩ | ⟨e, h1⟩
  ·have e' := congrArg (fun z : Option (Ctl Int Unit) => z.bind fun o => match o with | .ret r => some r | .go _ => none | .brk _ => some (-1)) e
   exact ⟨_, e', .inl ⟨i, by simp, h1, h2⟩⟩
  ·have e' := congrArg (fun z : Option (Ctl Int Unit) => z.bind fun o => match o with | .ret r => some r | .go _ => none | .brk _ => some (-1)) e
   exact ⟨_, e', .inr ⟨rfl, h1⟩⟩
 obtain ⟨r, e, hr⟩ := hix
 rw [e]
 simp only [Option.bind_some]
 rcases hr with ⟨i0, rfl, ⟨x0, hx0, g0⟩, hn0⟩ | ⟨rfl, hno⟩
 ·have e1 : ieq (i0 : Int) (-1) = false := by rw [Z8]; omega
  have hi0 := (List.getElem?_eq_some_iff.1 hx0).1
  simp only [e1, Bool.false_eq_true, if_false]
  rw [Q09 (by omega) (by omega)]
  refine Ret.ctl (Q3l (fun s => ∃ i j : Nat, s.2.1 = (i : Int) ∧ s.2.2 = (j : Int) ∧ i ≤ j ∧ j ≤ l.length ∧ s.1.length = l.length ∧ s.1.take i = (l.take j).filter (fun x => !g x) ∧ (∀ m, j ≤ m → s.1[m]? = l[m]?) ∧ i < l.length) (fun s => l.length - s.2.2.toNat) (fun _ => False) (fun s => ∃ i : Nat, s.2.1 = (i : Int) ∧ i ≤ s.1.length ∧ s.1.take i = l.filter (fun x => !g x)) ?_ (fun s hI => ?_) n (by simp; omega)) (fun r hr => hr.elim) (fun s hs => ?_)
  ·refine ⟨i0, i0 + 1, rfl, by simp, by omega, by omega, rfl, ?_, fun m _ => rfl, hi0⟩
   have h1 : (l.take i0).filter (fun x => !g x) = l.take i0 := List.filter_eq_self.2 fun x hx => by simp [hn0 x hx]
   rw [List.take_add_one, hx0, List.filter_append, h1]
   simp [g0]
  ·obtain ⟨i, j, e1, e2, h1, h2, h4, h5, h6, h7⟩ := hI
   obtain ⟨m, wi, rj⟩ := s
   simp only at e1 e2 h4 h5 h6
   subst e1 e2
   dsimp only
   rw [h4]
   by_cases hj : j < l.length
   ·have e : ilt (j : Int) (lenZ l.length) = true := by rw [X0, Q0k]; omega
    simp only [e, if_true]
    obtain ⟨x, hx⟩ : ∃ x, l[j]? = some x := ⟨_, List.getElem?_eq_getElem hj⟩
    rw [Q2a (by rw [h6 j (Nat.le_refl _)]; exact hx)]
    simp only [Option.bind_some]
    rw [hf x (List.mem_of_getElem? hx)]
    simp only [Option.bind_some]
    have hstep : (l.take (j + 1)).filter (fun x => !g x) = (l.take j).filter (fun x => !g x) ++ (if g x = true then [] else [x]) := by
     rw [List.take_add_one, hx, List.filter_append]
     cases hc : g x <;> simp [hc]
    rw [Q09 (a := (j : Int)) (by omega) (by omega)]
    cases hc : g x with
    | true =>
     simp only [Bool.not_true, Bool.false_eq_true, if_false, Option.bind_some]
     refine .some ⟨⟨i, j + 1, rfl, by simp, by omega, by omega, h4, ?_, fun m hm => h6 m (by omega), h7⟩, by simp only; omega⟩
     rw [hstep, if_pos hc, h5]; simp
    | false =>
     simp only [Bool.not_false, if_true]
     obtain ⟨y, hy⟩ : ∃ y, m[i]? = some y := ⟨_, List.getElem?_eq_getElem (by omega)⟩
     rw [Q2a hy]
     simp only [Option.bind_some]
     rw [V5y (by omega) (by omega), Q09 (by omega) (by omega)]
     simp only [Option.bind_some]
     have hfl := List.length_filter_le (fun x => !g x) (l.take j)
     have hil : i + 1 ≤ l.length := by omega
     by_cases hi1 : i + 1 < l.length
     ·refine .some ⟨⟨i + 1, j + 1, by simp, by simp, by omega, by omega, by simp [h4], ?_, fun m' hm => ?_, hi1⟩, by simp only; omega⟩
      ·simp only
       rw [hstep, if_neg (by rw [hc]; simp), ← h5, List.take_add_one, List.take_set_of_le (by simp)]
       simp [show i < m.length by omega]
      ·simp only
       rw [List.getElem?_set_ne (by simp; omega)]
       exact h6 m' (by omega)
     ·exfalso
      have hij : i = j := by omega
      have hk : ((l.take j).filter fun x => !g x).length = i := by rw [← h5]; simp; omega
      have hall : (l.take j).filter (fun x => !g x) = l.take j := (List.filter_sublist).eq_of_length (by rw [hk]; simp; omega)
      have hj0 : i0 < j ∨ i0 = j := by omega
      rcases hj0 with hj0 | hj0
      ·have hm : x0 ∈ l.take j := List.mem_of_getElem? (i := i0) (by rw [List.getElem?_take_of_lt hj0]; exact hx0)
       rw [← hall] at hm
       have := (List.mem_filter.1 hm).2
       simp [g0] at this
      ·subst hj0
       rw [hx] at hx0
       cases hx0
       rw [hc] at g0
       cases g0
   ·have e : ilt (j : Int) (lenZ l.length) = false := by rw [J8, Q0k]; omega
    simp only [e, Bool.false_eq_true, if_false]
    refine .some ⟨i, rfl, by simp only; omega, ?_⟩
    simp only
    rw [h5, show j = l.length by omega, List.take_length]
  ·obtain ⟨i, e1, h1, h2⟩ := hs
   dsimp only
   rw [e1, V0m h1]
   exact .some h2
 ·have e1 : ieq (-1) (-1) = true := rfl
  simp only [e1, if_true]
  exact .some (List.filter_eq_self.2 fun x hx => by simp [hno x hx]).symm
theorem W4j {l : List Q0} (h : l.length ≤ 10000000) : Y4 l = some l := by
 unfold Y4
 rw [W6 (by simp [Q6]; omega)]
 rfl
def chkF (w : List Q3) : Bool := (tys w).all fun t => decide (Q1l (dimP w) t = some (depP w t))
theorem W0p : Q0g.all chkF = true := by kernel_rfl
theorem V26 {w : List Q3} (h : w ∈ Q0g) {t : Q2} (ht : t ∈ tys w) : Q1l (dimP w) t = some (depP w t) := by
 have := List.all_eq_true.1 W0p w h
 simp only [chkF, List.all_eq_true, decide_eq_true_eq] at this
 exact this t ht
theorem W2l {w : List Q3} {d : Nat} {t : Q2} {p : Q0} (h : Z7 w d t p) : Q5v w t p = true ∧ V6 w t p = (if p.op = 4 then Z5 w t p.ctor else []) := by
 obtain ⟨e, rfl, h⟩ := Z0n h
 rcases h with rfl | ⟨n, m, rfl, hd, h0, h1, h2⟩ | ⟨c, ks, rfl, hd, hc, hl, hk⟩
 ·simp [Q5v, Q7i, V6]
 ·simp [Q5v, Q7i, V6, hd, h0, h1, h2]
 ·simp [Q5v, Q7i, V6, hc, hl]
theorem X0d {w : List Q3} (hw : WW w) {d : Nat} {t : Q2} {p : Q0} (ht : t ∈ tys w) (h : Z7 w d t p) : Q57 w t p = some (if p.op = 4 then Z5 w t p.ctor else []) := by
 obtain ⟨h1, h2⟩ := W2l h
 obtain ⟨ts, e1, e2⟩ := X6u (hw.ty t ht) p
 unfold Q57
 rw [e1]
 simp only [Option.bind_some]
 rw [e2 h1, h2]
theorem Z0v {w : List Q3} (hww : w ∈ Q0g) (hw : WW w) : ∀ (d n : Nat) (t : Q2) (p : Q0), t ∈ tys w → Z7 w d t p → d + 1 ≤ n → V3 n ⟨w, dimP w⟩ t p = some (V2 w d t p)
 | 0, _, _, _, _, h, _ => h.elim
 | d + 1, n, t, p, ht, hp, hn => by
  obtain ⟨n, rfl⟩ : ∃ m, n = m + 1 := ⟨n - 1, by omega⟩
  have hkt := X0d hw ht hp
  have i11 : ieq 1 1 = true := rfl
  have i31 : ieq 3 1 = false := rfl
  have i32 : ieq 3 2 = false := rfl
  have i35 : ieq 3 5 = false := rfl
  have i41 : ieq 4 1 = false := rfl
  have i42 : ieq 4 2 = false := rfl
  have i45 : ieq 4 5 = false := rfl
  have e31 : ¬ (3 : Int) = 1 := by decide
  have e34 : ¬ (3 : Int) = 4 := by decide
  have e41 : ¬ (4 : Int) = 1 := by decide
  rcases hp with rfl | ⟨n1, m1, rfl, hd, _⟩ | ⟨c, ks, rfl, hd, hc, hl, hk⟩
  ·simp only [V3, i11, if_true, Option.bind_some, V26 hww ht, V2]
   rfl
  ·simp only [V3, i31, i32, i35, Bool.false_eq_true, if_false, Option.bind_some, V2, e31, e34]
   rw [hkt]
   simp [e34, forL]
  ·simp only [V3, i41, i42, i45, Bool.false_eq_true, if_false, Option.bind_some, V2, e41, if_true]
   rw [hkt]
   simp only [if_true, Option.bind_some]
   have hlp : ∀ (ts : List Q2) (k : Nat) (ks' : List Q0), (Z5 w t c).drop k = ts → ks.drop k = ks' →
     forL (ρ := Bool) (fun k133 x134 (_ : Unit) => ((idx ks (k133 : Int)).bind fun x142 => ((V3 n ⟨w, dimP w⟩ x134 x142).bind fun r143 => (if r143 = true then some (Ctl.ret (true)) else some (Ctl.go ()))))) k ts () = some (if ((ts.zip ks').any fun x => V2 w d x.1 x.2) = true then .ret true else .brk ()) := by
    intro ts
    induction ts with
    | nil => intro k ks' _ _; simp [forL]
    | cons u ts ih =>
     intro k ks' h0 h1
     obtain ⟨u1, u2⟩ := Q3y h0
     have hkl := (List.getElem?_eq_some_iff.1 u1).1
     cases ks' with
     | nil => have := congrArg List.length h1; simp at this; omega
     | cons q ks' =>
     obtain ⟨q1, q2⟩ := Q3y h1
     unfold forL
     simp only [Q2a q1, Option.bind_some]
     rw [Z0v hww hw d n u q ((hw.ty t ht).at_ _ hc u (List.mem_of_getElem? u1)) (hk k u q u1 q1) (by omega)]
     simp only [Option.bind_some, List.zip_cons_cons, List.any_cons]
     rcases Bool.eq_false_or_eq_true (V2 w d u q) with hem | hem
     ·simp [hem]
     ·simp only [hem, Bool.false_eq_true, if_false, Bool.false_or]
      exact ih (k + 1) ks' u2 q2
   have e := hlp (Z5 w t c) 0 ks rfl rfl
   have e' := congrArg (fun z : Option (Ctl Bool Unit) => z.bind fun o => match o with | .ret r => some r | .go _ => none | .brk _ => some false) e
   refine e'.trans ?_
   cases ((Z5 w t c).zip ks).any fun x => V2 w d x.1 x.2 <;> simp
theorem Z3h {w : List Q3} (hww : w ∈ Q0g) (hw : WW w) {d n : Nat} {t : Q2} (ht : t ∈ tys w) {l : List Q0} (h : ∀ a ∈ l, Z7 w d t a) (hl : l.length ≤ 10000000) (hn : l.length + d + 5 ≤ n) : Q0p n ⟨w, dimP w⟩ t l = some (Q79 w d t l) := by
 unfold Q0p
 rw [W4j hl]
 simp only [Option.bind_some]
 rw [W0k _ (fun p => V2 w d t p) (fun x hx => by
  unfold Q32
  rw [Z0v hww hw d n t x ht (h x hx) (by omega)]
  rfl) hl (by omega)]
 rfl
end Go.Proofs.YtbdkbdafhlcilaaGreat
namespace Go.Proofs.YtbdkbdafhlcilaaGreat
open Go Go.RowKit
def optR : Option (List Q0) → List Q0 × Bool
 | some r => (r, true)
 | none => ([], false)
theorem Z5x (w : List Q3) (x : Nat) (t : Q2) (l : List Q0) : (Q79 w x t l).length ≤ l.length := List.length_filter_le _ _
theorem Q8w {w : List Q3} (hww : w ∈ Q0g) (hw : WW w) (he : WE w) {d x n : Nat} {t : Q2} (ht : t ∈ tys w) (hx : d + 1 ≤ x) (hx2 : x ≤ 100) {l bs : List Q0} (hb : ∀ b ∈ bs, Z7 w d t b ∧ cntP b ≤ 130) (h : ∀ a ∈ l, Z7 w x t a) (hl : l.length ≤ 20000) (hn : 20000000 ≤ n) :
  Q0i n ⟨w, dimP w⟩ t l bs = some (optR (Q0q w d x t l bs)) := by
 unfold Q0i Q0q
 rw [Z3h hww hw ht h (by omega) (by omega)]
 simp only [Option.bind_some]
 have hk := Z5x w x t l
 have hkp : ∀ a ∈ Q79 w x t l, Z7 w x t a := fun a ha => h a (List.mem_filter.1 ha).1
 generalize Q79 w x t l = s at hk hkp
 have hs : s.length ≤ 20000 := by omega
 clear hk h hl
 have hlp : ∀ (bs : List Q0) (k : Nat) (s : List Q0), (∀ b ∈ bs, Z7 w d t b ∧ cntP b ≤ 130) → (∀ a ∈ s, Z7 w x t a) → s.length ≤ 20000 →
   forL (fun k871 x872 (s865 : (List Q0)) =>
   ((forL (fun k1028 x1029 (s1022 : (List Q0)) =>
   ((X9 n ⟨w, dimP w⟩ t x1029 x872).bind fun r1036 =>
   ((app s1022 r1036).bind fun x1037 =>
   some (Ctl.go x1037)))) 0 s865 []).bind fun (o1021 : Ctl (Ctl ((List Q0) × Bool) ((List Q0))) ((List Q0))) => match o1021 with
   | .ret r => some r
   | .go _ => none
   | .brk s1032 =>
   ((Q0p n ⟨w, dimP w⟩ t s1032).bind fun r1039 =>
   (if (ilt 400 (lenZ r1039.length)) = true then
   some (Ctl.ret (([], false)))
   else
   some (Ctl.go r1039))))) k bs s = some (match Q5q w d x t s bs with | some r => .brk r | none => .ret ([], false)) := by
  intro bs
  induction bs with
  | nil => intro k s _ _ _; simp [forL, Q5q]
  | cons b bs ih =>
   intro k s hb hs hl
   obtain ⟨hb1, hb2⟩ := hb b (by simp)
   have hfl := X1z hw he ht hb1 s
   have hfl2 : (s.flatMap fun a => W2 w d t a b).length ≤ 7800000 := by
    have : s.length * (3 * cntP b) ≤ 20000 * 390 := Nat.mul_le_mul (by omega) (by omega)
    omega
   unfold forL
   rw [Q4q (fun a => W2 w d t a b) 10000000 s 0 [] (fun k a ha s' hs' => by
    rw [Z53 hw he (dimP w) d n x t a b ht (hs a ha) hb1 (by omega) (by omega)]
    simp only [Option.bind_some]
    rw [W6 (by simp only [Q6]; omega)]
    rfl) (by simp only [List.length_nil]; omega)]
   simp only [Option.bind_some, List.nil_append]
   have hmp : ∀ y ∈ s.flatMap (fun a => W2 w d t a b), Z7 w x t y := fun y hy => by
    obtain ⟨a, ha, hy⟩ := List.mem_flatMap.1 hy
    exact Q7v d x t a b hx (hs a ha) hb1 y hy
   rw [Z3h hww hw ht hmp (by omega) (by omega)]
   simp only [Option.bind_some, Q5q]
   have hst : Q79 w x t (s.flatMap fun a => W2 w d t a b) = Q36 w d x t s b := rfl
   rw [hst]
   by_cases hc : 400 < (Q36 w d x t s b).length
   ·have e : ilt 400 (lenZ (Q36 w d x t s b).length) = true := by rw [X0, Q0k]; omega
    simp only [e, if_true, if_pos hc]
   ·have e : ilt 400 (lenZ (Q36 w d x t s b).length) = false := by rw [J8, Q0k]; omega
    simp only [e, Bool.false_eq_true, if_false, if_neg hc]
    exact ih (k + 1) _ (fun b hb' => hb b (by simp [hb'])) (Q7y hx hb1 hs) (by omega)
 have e := hlp bs 0 s hb hkp hs
 have e' := congrArg (fun z : Option (Ctl ((List Q0) × Bool) (List Q0)) => z.bind fun o => match o with | .ret r => some r | .go _ => none | .brk s => some (s, true)) e
 refine e'.trans ?_
 cases Q5q w d x t s bs <;> simp [optR]
theorem W4q : ∀ (d n : Nat) (p : Q0), X69 d p → d ≤ n → cntP p ≤ 1000 → Y1 n p = some (X7 d p)
 | 0, _, _, h, _, _ => h.elim
 | d + 1, n, p, h, hn, hc => by
  obtain ⟨n, rfl⟩ : ∃ m, n = m + 1 := ⟨n - 1, by omega⟩
  have hcp := Q1u p
  have hkid : ∀ q ∈ p.kids, Y1 n q = some (X7 d q) := fun q hq => by
   obtain ⟨j, hj⟩ := List.mem_iff_getElem?.1 hq
   have := Q70 hj
   exact W4q d n q (h q hq) (by omega) (by omega)
  have hlen : p.kids.length ≤ 1000 := by
   have : ∀ l : List Q0, l.length ≤ cntP.cntPs l := fun l => by
    induction l with
    | nil => simp
    | cons a l ih => have := Q5l a; simp only [List.length_cons, cntP.cntPs]; omega
   have := this p.kids
   omega
  have hloop := Q4q (ρ := Q0) (f := fun (k102 : Nat) x103 (s96 : (List Q0)) => ((Y1 n x103).bind fun r110 => ((app s96 [r110]).bind fun x111 => some (Ctl.go x111)))) (fun q => [X7 d q]) 100000 p.kids 0 [] (fun k q hq s hs => by
   rw [hkid q hq]
   simp only [Option.bind_some]
   simp only [List.length_cons, List.length_nil] at hs
   rw [W6 (by simp only [List.length_cons, List.length_nil, Q6]; omega)]
   rfl) (by
    have : ∀ l : List Q0, (l.flatMap fun q => [X7 d q]).length = l.length := fun l => by induction l with | nil => rfl | cons a l ih => simp [ih]
    rw [this]; simp only [List.length_nil]; omega)
  have hfl : ∀ l : List Q0, (l.flatMap fun q => [X7 d q]) = l.map (X7 d) := fun l => by induction l with | nil => rfl | cons a l ih => simp [ih]
  rw [hfl] at hloop
  have hany : Q16 = some (Q0.mk 1 0 0 0 0 []) := rfl
  by_cases h2 : p.op = 2
  ·have e : ieq p.op 2 = true := by rw [Z4]; exact h2
   have hb : X7 (d + 1) p = Q0.mk 1 0 0 0 0 [] := by simp [X7, h2]
   rw [hb]
   simp only [Y1, e, if_true, hany, Option.bind_some]
  ·have e : ieq p.op 2 = false := by rw [Z8]; exact h2
   by_cases h6 : p.op = 6
   ·have e6 : ieq p.op 6 = true := by rw [Z4]; exact h6
    cases hk : p.kids with
    | nil =>
     have e0 : ilt 0 (lenZ p.kids.length) = false := by rw [J8, hk, Q0k]; simp
     rw [hk] at hloop
     simp only [Y1, e, e6, e0, Bool.false_eq_true, if_false, if_true, Option.bind_some, X7, h2, hk]
     have e' := congrArg (fun z : Option (Ctl Q0 (List Q0)) => z.bind fun o => match o with | .ret r => some r | .go _ => none | .brk s => some (Q0.mk p.op p.ctor p.n p.m p.var s)) hloop
     refine e'.trans ?_
     simp
    | cons q ks =>
     have e0 : ilt 0 (lenZ p.kids.length) = true := by rw [X0, hk, Q0k]; simp
     have hq := hkid q (by simp [hk])
     have hix : idx p.kids 0 = some q := Q2a (i := 0) (by simp [hk])
     have hb : X7 (d + 1) p = X7 d q := by simp [X7, h6, hk]
     rw [hb]
     simp only [Y1, e, e6, e0, Bool.false_eq_true, if_false, if_true, hix, Option.bind_some, hq]
   ·have e6 : ieq p.op 6 = false := by rw [Z8]; exact h6
    simp only [Y1, e, e6, Bool.false_eq_true, if_false, Option.bind_some, X7, h2, h6, false_and]
    have e' := congrArg (fun z : Option (Ctl Q0 (List Q0)) => z.bind fun o => match o with | .ret r => some r | .go _ => none | .brk s => some (Q0.mk p.op p.ctor p.n p.m p.var s)) hloop
    refine e'.trans ?_
    simp
theorem Z3u {w : List Q3} (hw : WW w) : ∀ (d : Nat) (t : Q2) (p : Q0), t ∈ tys w → altD w d t p → orOk d p
 | 0, _, _, _, h => h.elim
 | d + 1, t, p, ht, h => by
  rcases h with rfl | ⟨n, m, rfl, h⟩ | ⟨c, ks, rfl, h1, h2, h3, h4⟩ | ⟨a, b, rfl, h1, h2⟩
  ·exact ⟨by simp, by simp, by simp⟩
  ·exact ⟨by simp, by simp, by simp⟩
  ·refine ⟨by simp only; rw [h3]; exact (hw.ty t ht).al c h2, by simp, fun q hq => ?_⟩
   obtain ⟨j, hj⟩ := List.mem_iff_getElem?.1 hq
   obtain ⟨a, ha⟩ := Q1j h3.symm (List.getElem?_eq_some_iff.1 hj).1
   exact Z3u hw d a q ((hw.ty t ht).at_ _ h2 a (List.mem_of_getElem? ha)) (h4 j a q ha hj)
  ·refine ⟨by simp, by simp, fun q hq => ?_⟩
   simp at hq
   rcases hq with rfl | rfl
   ·exact Z3u hw d t _ ht h1
   ·exact Z3u hw d t _ ht h2
theorem Q7b {w : List Q3} (t : Q2) (h : t.data = -1) : Z9 w t = [] := by
 unfold Z9 W0
 have : ieq t.data (-1) = true := by rw [Z4]; exact h
 rw [if_pos this]
 rfl
def Q5t (p : Q0) : Option (List Q0) := if 40 < (Z3 10 (X7 10 p)).length then none else some (Z3 10 (X7 10 p))
theorem Z52 {w : List Q3} (hw : WW w) {n : Nat} {t : Q2} {p : Q0} (ht : t ∈ tys w) (g : Q0a w 10 t p = true) (hc : cntP p ≤ 1000) (hn : 100 ≤ n) : Q56 n p = some (optR (Q5t p)) := by
 have ha := Q6r Q7b 10 t p g
 have ho := Z3u hw 10 t _ ht ha
 unfold Q56 Q5t
 rw [W4q 10 n p (Q93 10 t p g) (by omega) hc]
 simp only [Option.bind_some]
 rw [X0z 10 n _ ho (by omega)]
 simp only [Option.bind_some]
 by_cases h : 40 < (Z3 10 (X7 10 p)).length
 ·have e : ilt 40 ((min (Z3 10 (X7 10 p)).length 401 : Nat) : Int) = true := by rw [X0]; omega
  simp only [e, if_true, if_pos h]
  rfl
 ·have e : ilt 40 ((min (Z3 10 (X7 10 p)).length 401 : Nat) : Int) = false := by rw [J8]; omega
  simp only [e, Bool.false_eq_true, if_false, if_neg h]
  rw [X30 10 n _ ho (by omega) (by omega)]
  rfl
end Go.Proofs.YtbdkbdafhlcilaaGreat
namespace Go.Proofs.YtbdkbdafhlcilaaGreat
open Go Go.RowKit
theorem Z4j (l : List Q0) (f : Q0 → Option Bool) (g : Q0 → Bool) (hf : ∀ x ∈ l, f x = some (g x)) : Q11 l f = some (l.any g) := X44 (Q7w l f g hf)
end Go.Proofs.YtbdkbdafhlcilaaGreat
namespace Go.Proofs.YtbdkbdafhlcilaaGreat
open Go Go.RowKit
def Q1f : List Q5 → Option (List Q0)
 | [] => some []
 | c :: cs => if c.guard.op = 0 then (Q5t c.pat).bind fun l => (Q1f cs).map (l ++ ·) else Q1f cs
theorem Q75 {p : Q0} {l : List Q0} (h : Q5t p = some l) : l.length ≤ 40 ∧ l = Z3 10 (X7 10 p) := by
 unfold Q5t at h
 split at h
 ·cases h
 ·cases h; exact ⟨by omega, rfl⟩
theorem Z54 {w : List Q3} (hw : WW w) {n : Nat} {t : Q2} (ht : t ∈ tys w) (hn : 100 ≤ n) : ∀ (cs : List Q5), (∀ c ∈ cs, Q0a w 10 t c.pat = true ∧ cntP c.pat ≤ 1000) → cs.length ≤ 1000 → Q46 n cs = some (optR (Q1f cs)) := fun cs h hl => by
 have hlp : ∀ (cs : List Q5) (k : Nat) (s : List Q0), (∀ c ∈ cs, Q0a w 10 t c.pat = true ∧ cntP c.pat ≤ 1000) → s.length + 40 * cs.length ≤ 100000 →
   forL (fun k130 x131 (s124 : (List Q0)) =>
   (((if (!ieq x131.guard.op 0) = true then
   some (Ctl.brk s124)
   else
   ((Q56 n x131.pat).bind fun r148 =>
   (if (!r148.2) = true then
   some (Ctl.ret (Ctl.ret (([], false))))
   else
   ((app s124 r148.1).bind fun x151 =>
   some (Ctl.brk x151)))))).bind fun (o143 : Ctl (Ctl ((List Q0) × Bool) ((List Q0))) ((List Q0))) => match o143 with
   | .ret r => some r
   | .go _ => none
   | .brk s142 =>
   some (Ctl.go s142))) k cs s = some (match Q1f cs with | some r => .brk (s ++ r) | none => .ret ([], false)) := by
  intro cs
  induction cs with
  | nil => intro k s _ _; simp [forL, Q1f]
  | cons c cs ih =>
   intro k s h hs
   obtain ⟨g, hc⟩ := h c (by simp)
   simp only [List.length_cons] at hs
   unfold forL
   by_cases hg : c.guard.op = 0
   ·have e : (!ieq c.guard.op 0) = false := by simp [ieq, hg]
    simp only [e, Bool.false_eq_true, if_false]
    rw [Z52 hw ht g hc hn]
    simp only [Option.bind_some, Q1f, if_pos hg]
    cases hp : Q5t c.pat with
    | none => simp [optR]
    | some l =>
     have hl := (Q75 hp).1
     simp only [optR, Bool.not_true, Bool.false_eq_true, if_false, Option.bind_some]
     rw [W6 (by simp only [Q6]; omega)]
     simp only [Option.bind_some]
     rw [ih (k + 1) (s ++ l) (fun c hc => h c (by simp [hc])) (by simp only [List.length_append]; omega)]
     cases Q1f cs with
     | none => simp
     | some r => simp
   ·have e : (!ieq c.guard.op 0) = true := by simp [ieq, hg]
    simp only [e, if_true, Option.bind_some, Q1f, if_neg hg]
    exact ih (k + 1) s (fun c hc => h c (by simp [hc])) (by omega)
 have e := hlp cs 0 [] h (by simp only [List.length_nil]; omega)
 unfold Q46
 have e' := congrArg (fun z : Option (Ctl ((List Q0) × Bool) (List Q0)) => z.bind fun o => match o with | .ret r => some r | .go _ => none | .brk s => some (s, true)) e
 refine e'.trans ?_
 cases Q1f cs <;> simp [optR]
theorem X08 {w : List Q3} (hw : WW w) {n : Nat} (hn : 100 ≤ n) {t : Q2} (ht : t ∈ tys w) (p : Q0) : Q4p n w t p = some (Q12 w t p) := by
 unfold Q4p
 obtain ⟨r, e, h1, _⟩ := Z20 hw hn t p ht
 rw [e]
 simp only [Option.bind_some, h1]
theorem X93 {w : List Q3} {t : Q2} {n : Nat} (hn : 10 ≤ n) : ∀ {l : List Q0}, (∀ p ∈ l, Q12 w t p = true) → l.length ≤ 100000 → Q3f n l = some l := fun {l} h hl => by
 unfold Q3f
 have hloop := Q4q (ρ := List Q0) (f := fun (k70 : Nat) x71 (s64 : (List Q0)) => ((Q14 n x71).bind fun r78 => ((app s64 [r78]).bind fun x79 => some (Ctl.go x79)))) (fun q => [q]) 1000000 l 0 [] (fun k q hq s hs => by
  obtain ⟨g, hc, _⟩ := Q3z (h q hq)
  rw [X9d 10 n q (Q93 10 t q g) hn (by omega)]
  simp only [Option.bind_some]
  simp only [List.length_cons, List.length_nil] at hs
  rw [W6 (by simp only [List.length_cons, List.length_nil, Q6]; omega)]
  rfl) (by
   have : ∀ l : List Q0, (l.flatMap fun q => [q]).length = l.length := fun l => by induction l with | nil => rfl | cons a l ih => simp [ih]
   rw [this]; simp only [List.length_nil]; omega)
 have hfl : ∀ l : List Q0, (l.flatMap fun q => [q]) = l := fun l => by induction l with | nil => rfl | cons a l ih => simp [ih]
 rw [hfl] at hloop
 have e' := congrArg (fun z : Option (Ctl (List Q0) (List Q0)) => z.bind fun o => match o with | .ret r => some r | .go _ => none | .brk s => some s) hloop
 exact e'.trans (by simp)
def Q7n (w : List Q3) (t : Q2) : Option (List Q0) → Option (List Q0)
 | none => none
 | some l => if l.all (Q12 w t) = true then some l else none
theorem Q9u {w : List Q3} (hw : WW w) {S : List Int} {n : Nat} (hn : 100 ≤ n) {t : Q2} (ht : t ∈ tys w) (o : Option (List Q0)) (ho : ∀ l, o = some l → l.length ≤ 100000) :
  Q1h n ⟨w, S⟩ t (optR o).1 (optR o).2 = some (optR (Q7n w t o)) := by
 unfold Q1h
 cases o with
 | none => simp [optR, Q7n]
 | some l =>
  simp only [optR, Bool.not_true, Bool.false_eq_true, if_false]
  rw [Z4j l _ (fun p => !Q12 w t p) (fun p _ => by
   unfold Q31
   rw [X08 hw hn ht p]
   rfl)]
  simp only [Option.bind_some, Q7n]
  by_cases h : l.all (Q12 w t) = true
  ·have e : (l.any fun p => !Q12 w t p) = false := by
    rw [List.any_eq_false]
    intro p hp
    simp [List.all_eq_true.1 h p hp]
   simp only [e, Bool.false_eq_true, if_false, if_pos h]
   rw [X93 (by omega) (fun p hp => List.all_eq_true.1 h p hp) (ho l rfl)]
   rfl
  ·have e : (l.any fun p => !Q12 w t p) = true := by
    rw [List.any_eq_true]
    simp only [List.all_eq_true, Classical.not_forall] at h
    obtain ⟨p, hp, h⟩ := h
    exact ⟨p, hp, by simpa using h⟩
   simp only [e, if_true, if_neg h]
end Go.Proofs.YtbdkbdafhlcilaaGreat
namespace Go.Proofs.YtbdkbdafhlcilaaGreat
open Go Go.RowKit
theorem Q4y {w : List Q3} {t : Q2} : ∀ {cs : List Q5} {l : List Q0}, (∀ c ∈ cs, Q0a w 10 t c.pat = true) → Q1f cs = some l → ∀ b ∈ l, Z7 w 10 t b
 | [], l, _, e => by simp only [Q1f, Option.some.injEq] at e; subst e; simp
 | c :: cs, l, h, e => by
  simp only [Q1f] at e
  split at e
  ·cases hp : Q5t c.pat with
   | none => rw [hp] at e; simp at e
   | some m =>
    rw [hp] at e
    cases hc : Q1f cs with
    | none => rw [hc] at e; simp at e
    | some r =>
     rw [hc] at e
     simp only [Option.bind_some, Option.map_some, Option.some.injEq] at e
     subst e
     intro b hb
     rcases List.mem_append.1 hb with hb | hb
     ·rw [(Q75 hp).2] at hb
      exact Q90 10 t _ (Q6r Q7b 10 t c.pat (h c (by simp))) b hb
     ·exact Q4y (fun c hc => h c (by simp [hc])) hc b hb
  ·exact Q4y (fun c hc => h c (by simp [hc])) e
end Go.Proofs.YtbdkbdafhlcilaaGreat
namespace Go.Proofs.YtbdkbdafhlcilaaGreat
open Go Go.RowKit
theorem Z64 : ∀ (d : Nat) (p : Q0), cntP (X7 d p) ≤ cntP p
 | 0, p => by simp [X7]
 | d + 1, p => by
  have hp := Q1u p
  simp only [X7]
  split
  ·simp only [cntP, cntP.cntPs]; omega
  ·split
   ·rename_i h
    cases hk : p.kids with
    | nil => exact absurd hk h.2
    | cons q ks =>
     have := Z64 d q
     rw [hk] at hp
     simp only [cntP.cntPs] at hp
     simp only [List.headD_cons]
     omega
   ·have : ∀ l : List Q0, cntP.cntPs (l.map (X7 d)) ≤ cntP.cntPs l := fun l => by
     induction l with
     | nil => simp
     | cons a l ih => have := Z64 d a; simp only [List.map_cons, cntP.cntPs]; omega
    have := this p.kids
    rw [Q1u]
    simp only
    omega
theorem Z6b : ∀ (d : Nat) (p : Q0), ∀ q ∈ Z3 d p, cntP q ≤ cntP p
 | 0, _, _, h => by simp [Z3] at h
 | d + 1, p, q, h => by
  have hp := Q1u p
  simp only [Z3] at h
  split at h
  ·obtain ⟨k, hk, hq⟩ := List.mem_flatMap.1 h
   have h1 := Z6b d k q hq
   obtain ⟨j, hj⟩ := List.mem_iff_getElem?.1 hk
   have := Q70 hj
   omega
  ·obtain ⟨cs, hcs, rfl⟩ := List.mem_map.1 h
   have hm := Z3d.1 hcs
   have : ∀ (ks cs : List Q0), MemL cs (ks.map (Z3 d)) → cntP.cntPs cs ≤ cntP.cntPs ks := fun ks => by
    induction ks with
    | nil => intro cs h; have := h.1; simp at this; subst this; simp
    | cons k ks ih =>
     intro cs h
     cases cs with
     | nil => have := h.1; simp at this
     | cons c cs =>
      rw [List.map_cons, Z0s] at h
      have h1 := Z6b d k c h.1
      have h2 := ih cs h.2
      simp only [cntP.cntPs]
      omega
   have := this p.kids cs hm
   rw [Q1u]
   simp only [Q6t]
   omega
theorem Z6p {p : Q0} {l : List Q0} (h : Q5t p = some l) : ∀ q ∈ l, cntP q ≤ cntP p := fun q hq => by
 rw [(Q75 h).2] at hq
 exact Nat.le_trans (Z6b 10 _ q hq) (Z64 10 p)
theorem Q96 {m : Nat} : ∀ {cs : List Q5} {l : List Q0}, (∀ c ∈ cs, cntP c.pat ≤ m) → Q1f cs = some l → ∀ b ∈ l, cntP b ≤ m
 | [], l, _, e => by simp only [Q1f, Option.some.injEq] at e; subst e; simp
 | c :: cs, l, h, e => by
  simp only [Q1f] at e
  split at e
  ·cases hp : Q5t c.pat with
   | none => rw [hp] at e; simp at e
   | some m =>
    rw [hp] at e
    cases hc : Q1f cs with
    | none => rw [hc] at e; simp at e
    | some r =>
     rw [hc] at e
     simp only [Option.bind_some, Option.map_some, Option.some.injEq] at e
     subst e
     intro b hb
     rcases List.mem_append.1 hb with hb | hb
     ·exact Nat.le_trans (Z6p hp b hb) (h c (by simp))
     ·exact Q96 (fun c hc => h c (by simp [hc])) hc b hb
  ·exact Q96 (fun c hc => h c (by simp [hc])) e
end Go.Proofs.YtbdkbdafhlcilaaGreat
namespace Go.Proofs.YtbdkbdafhlcilaaGreat
open Go Go.RowKit
theorem Q3i {w : List Q3} {t : Q2} {cs : List Q5} (h : J5 w t cs = true) : cs.length ≤ 8 ∧ ∀ c ∈ cs, Q12 w t c.pat = true ∧ Q0a w 10 t c.pat = true ∧ cntP c.pat ≤ 60 := by
 simp only [J5, Bool.and_eq_true, decide_eq_true_eq, List.all_eq_true] at h
 refine ⟨h.1, fun c hc => ?_⟩
 have := h.2 c hc
 simp only [Q71, Bool.and_eq_true] at this
 obtain ⟨g1, g2, _⟩ := Q3z this.1
 exact ⟨this.1, g1, g2⟩
end Go.Proofs.YtbdkbdafhlcilaaGreat
namespace Go.Proofs.YtbdkbdafhlcilaaGreat
open Go Go.RowKit
theorem Z3r {w : List Q3} {e : Nat} {t : Q2} {v : Q4} (hv : Q0s w e t v) : ∀ {cs : List Q5} {l : List Q0}, (∀ c ∈ cs, Q0a w 10 t c.pat = true) → Q1f cs = some l →
  ((∃ b ∈ l, fitP b v = true) ↔ ∃ c ∈ cs, c.guard.op = 0 ∧ (X6 10 c.pat v).isSome = true)
 | [], l, _, e1 => by simp only [Q1f, Option.some.injEq] at e1; subst e1; simp
 | c :: cs, l, h, e1 => by
  simp only [Q1f] at e1
  split at e1
  ·rename_i h0
   cases hp : Q5t c.pat with
   | none => rw [hp] at e1; simp at e1
   | some m =>
    rw [hp] at e1
    cases hc : Q1f cs with
    | none => rw [hc] at e1; simp at e1
    | some r =>
     rw [hc] at e1
     simp only [Option.bind_some, Option.map_some, Option.some.injEq] at e1
     subst e1
     have ih := Z3r hv (fun c hc => h c (by simp [hc])) hc
     have h1 := Q92 Q7b 10 e t c.pat v (h c (by simp)) hv
     rw [← (Q75 hp).2] at h1
     constructor
     ·rintro ⟨b, hb, g⟩
      rcases List.mem_append.1 hb with hb | hb
      ·exact ⟨c, by simp, h0, h1.2 ⟨b, hb, g⟩⟩
      ·obtain ⟨c', m1, m2⟩ := ih.1 ⟨b, hb, g⟩
       exact ⟨c', by simp [m1], m2⟩
     ·rintro ⟨c', hc', g0, g⟩
      rcases List.mem_cons.1 hc' with rfl | hc'
      ·obtain ⟨b, hb, g⟩ := h1.1 g
       exact ⟨b, by simp [hb], g⟩
      ·obtain ⟨b, hb, g⟩ := ih.2 ⟨c', hc', g0, g⟩
       exact ⟨b, by simp [hb], g⟩
  ·rename_i h0
   have ih := Z3r hv (fun c hc => h c (by simp [hc])) e1
   rw [ih]
   constructor
   ·rintro ⟨c', m1, m2⟩; exact ⟨c', by simp [m1], m2⟩
   ·rintro ⟨c', hc', g0, g⟩
    rcases List.mem_cons.1 hc' with rfl | hc'
    ·exact absurd g0 h0
    ·exact ⟨c', hc', g0, g⟩
end Go.Proofs.YtbdkbdafhlcilaaGreat
namespace Go.Proofs.YtbdkbdafhlcilaaGreat
open Go Go.RowKit
def sepP (w : List Q3) (t : Q2) : List Q0 → List Q0 → Option (List Q0)
 | _, [] => some []
 | bef, p :: ps => (Q0q w 10 11 t [p] bef).bind fun m => (sepP w t (bef ++ [p]) ps).map (m ++ ·)
theorem Z30 {w : List Q3} {t : Q2} : ∀ (ps bef r : List Q0), (∀ b ∈ bef, Z7 w 10 t b) → (∀ p ∈ ps, Z7 w 10 t p) → sepP w t bef ps = some r → ∀ y ∈ r, Z7 w 11 t y
 | [], _, r, _, _, e => by simp only [sepP, Option.some.injEq] at e; subst e; simp
 | p :: ps, bef, r, hb, hp, e => by
  simp only [sepP] at e
  cases hm : Q0q w 10 11 t [p] bef with
  | none => rw [hm] at e; simp at e
  | some m =>
   rw [hm] at e
   simp only [Option.bind_some, Option.map_eq_some_iff] at e
   obtain ⟨r2, h2, rfl⟩ := e
   intro y hy
   rcases List.mem_append.1 hy with hy | hy
   ·exact Z0e (by omega) hb (fun a ha => by simp only [List.mem_singleton] at ha; rw [ha]; exact Q5u 10 t p (hp p (by simp))) hm y hy
   ·exact Z30 ps (bef ++ [p]) r2 (fun b hb' => by
     rcases List.mem_append.1 hb' with h | h
     ·exact hb b h
     ·simp only [List.mem_singleton] at h; rw [h]; exact hp p (by simp)) (fun q hq => hp q (by simp [hq])) h2 y hy
theorem X4v {w : List Q3} (hw : WW w) (he : WE w) {t : Q2} (ht : t ∈ tys w) {e : Nat} {v : Q4} (hv : Q0s w e t v) : ∀ (ps bef r : List Q0), (∀ b ∈ bef, Z7 w 10 t b) → (∀ p ∈ ps, Z7 w 10 t p) → sepP w t bef ps = some r →
  ((∃ y ∈ r, fitP y v = true) ↔ (∃ p ∈ ps, fitP p v = true) ∧ ∀ b ∈ bef, fitP b v = false)
 | [], _, r, _, _, e => by simp only [sepP, Option.some.injEq] at e; subst e; simp
 | p :: ps, bef, r, hb, hp, e => by
  simp only [sepP] at e
  cases hm : Q0q w 10 11 t [p] bef with
  | none => rw [hm] at e; simp at e
  | some m =>
   rw [hm] at e
   simp only [Option.bind_some, Option.map_eq_some_iff] at e
   obtain ⟨r2, h2, rfl⟩ := e
   have h3 := Q9d hw he ht (by omega) hv hb (fun a ha => by simp only [List.mem_singleton] at ha; rw [ha]; exact Q5u 10 t p (hp p (by simp))) hm
   have h4 := X4v hw he ht hv ps (bef ++ [p]) r2 (fun b hb' => by
     rcases List.mem_append.1 hb' with h | h
     ·exact hb b h
     ·simp only [List.mem_singleton] at h; rw [h]; exact hp p (by simp)) (fun q hq => hp q (by simp [hq])) h2
   constructor
   ·rintro ⟨y, hy, hf⟩
    rcases List.mem_append.1 hy with hy | hy
    ·obtain ⟨⟨a, ha, haf⟩, hbf⟩ := h3.1 ⟨y, hy, hf⟩
     simp only [List.mem_singleton] at ha
     subst ha
     exact ⟨⟨a, by simp, haf⟩, hbf⟩
    ·obtain ⟨⟨a, ha, haf⟩, hbf⟩ := h4.1 ⟨y, hy, hf⟩
     exact ⟨⟨a, by simp [ha], haf⟩, fun b hb' => hbf b (by simp [hb'])⟩
   ·rintro ⟨⟨a, ha, haf⟩, hbf⟩
    cases hpf : fitP p v with
    | true =>
     obtain ⟨y, hy, hf⟩ := h3.2 ⟨⟨p, by simp, hpf⟩, hbf⟩
     exact ⟨y, by simp [hy], hf⟩
    | false =>
     rcases List.mem_cons.1 ha with rfl | ha
     ·rw [hpf] at haf; cases haf
     ·obtain ⟨y, hy, hf⟩ := h4.2 ⟨⟨a, ha, haf⟩, fun b hb' => by
       rcases List.mem_append.1 hb' with h | h
       ·exact hbf b h
       ·simp only [List.mem_singleton] at h; rw [h]; exact hpf⟩
      exact ⟨y, by simp [hy], hf⟩
def Q27 (w : List Q3) (t : Q2) (cs : List Q5) (i : Nat) : Option (List Q0) :=
 if J5 w t cs = true then (match cs[i]? with
  | none => none
  | some c => (Q5t c.pat).bind fun mine => (Q1f (cs.take i)).bind fun away => Q7n w t ((sepP w t [] mine).bind fun out => Q0q w 10 11 t out away)) else none
theorem W2j {w : List Q3} {t : Q2} {e : Nat} {v : Q4} (hv : Q0s w e t v) {p : Q0} (g : Q0a w 10 t p = true) {l : List Q0} (h : Q5t p = some l) : (∃ q ∈ l, fitP q v = true) ↔ (X6 10 p v).isSome = true := by
 obtain ⟨_, rfl⟩ := Q75 h
 exact (Q92 (fun t h => Q7b t h) 10 e t p v g hv).symm
theorem Z1e {w : List Q3} {t : Q2} {p : Q0} (g : Q0a w 10 t p = true) {l : List Q0} (h : Q5t p = some l) : ∀ q ∈ l, Z7 w 10 t q := by
 obtain ⟨_, rfl⟩ := Q75 h
 exact Q90 10 t _ (Q6r (fun t h => Q7b t h) 10 t p g)
theorem Z45 {w : List Q3} {t : Q2} {o : Option (List Q0)} {r : List Q0} (h : Q7n w t o = some r) : o = some r := by
 cases o with
 | none => simp [Q7n] at h
 | some l =>
  simp only [Q7n] at h
  split at h
  ·exact h
  ·cases h
theorem X2k {w : List Q3} (hw : WW w) (he : WE w) {e : Nat} {t : Q2} (ht : t ∈ tys w) {v : Q4} (hv : Q0s w e t v) {cs : List Q5} {i : Nat} {r : List Q0} (hr : Q27 w t cs i = some r) :
  ∃ c, cs[i]? = some c ∧ ((∃ y ∈ r, fitP y v = true) ↔ (X6 10 c.pat v).isSome = true ∧ ∀ c' ∈ cs.take i, c'.guard.op = 0 → X6 10 c'.pat v = none) := by
 unfold Q27 at hr
 split at hr
 ·rename_i hcl
  obtain ⟨_, hcs⟩ := Q3i hcl
  cases hc : cs[i]? with
  | none => rw [hc] at hr; cases hr
  | some c =>
   rw [hc] at hr
   simp only at hr
   refine ⟨c, rfl, ?_⟩
   have hcg := (hcs c (List.mem_of_getElem? hc)).2.1
   cases hm : Q5t c.pat with
   | none => rw [hm] at hr; simp at hr
   | some mine =>
    rw [hm] at hr
    simp only [Option.bind_some] at hr
    cases ha : Q1f (cs.take i) with
    | none => rw [ha] at hr; simp at hr
    | some away =>
     rw [ha] at hr
     simp only [Option.bind_some] at hr
     have hr := Z45 hr
     cases hs : sepP w t [] mine with
     | none => rw [hs] at hr; simp at hr
     | some out =>
      rw [hs] at hr
      simp only [Option.bind_some] at hr
      have gt : ∀ c' ∈ cs.take i, Q0a w 10 t c'.pat = true := fun c' h => (hcs c' (List.mem_of_mem_take h)).2.1
      have hcp := Q4y gt ha
      have hmp := Z1e hcg hm
      have h1 := Q9d hw he ht (by omega) hv hcp (Z30 mine [] out (by simp) hmp hs) hr
      have h2 := X4v hw he ht hv mine [] out (by simp) hmp hs
      have h3 := W2j hv hcg hm
      have h4 := Z3r hv gt ha
      rw [h1, h2, h3]
      constructor
      ·rintro ⟨⟨h5, _⟩, h6⟩
       refine ⟨h5, fun c' hc' h0 => ?_⟩
       cases hmm : X6 10 c'.pat v with
       | none => rfl
       | some x =>
        obtain ⟨b, hb, hbf⟩ := h4.2 ⟨c', hc', h0, by rw [hmm]; rfl⟩
        rw [h6 b hb] at hbf
        cases hbf
      ·rintro ⟨h5, h6⟩
       refine ⟨⟨h5, by simp⟩, fun b hb => ?_⟩
       cases hbf : fitP b v with
       | false => rfl
       | true =>
        obtain ⟨c', hc', h0, h7⟩ := h4.1 ⟨b, hb, hbf⟩
        rw [h6 c' hc' h0] at h7
        cases h7
 ·cases hr
end Go.Proofs.YtbdkbdafhlcilaaGreat
namespace Go.Proofs.YtbdkbdafhlcilaaGreat
open Go Go.RowKit
structure ROk (r : Z0) (m : Nat) : Prop where
 bytes : ∀ x ∈ r.b, 0 ≤ x ∧ x ≤ 255
 len : r.b.length ≤ 2000
 p0 : 0 ≤ r.p
 pm : r.p + m ≤ 40000000
structure Nx (r r' : Z0) (c : Nat) : Prop where
 b : r'.b = r.b
 le : r.p ≤ r'.p
 ge : r'.p ≤ r.p + c
theorem ROk.le {r : Z0} {m m' : Nat} (h : ROk r m) (hm : m' ≤ m) : ROk r m' := ⟨h.bytes, h.len, h.p0, by have := h.pm; omega⟩
theorem ROk.nx {r r' : Z0} {c m : Nat} (h : ROk r (c + m)) (hn : Nx r r' c) : ROk r' m := ⟨by rw [hn.b]; exact h.bytes, by rw [hn.b]; exact h.len, by have := h.p0; have := hn.le; omega, by have := h.pm; have := hn.ge; omega⟩
theorem Nx.refl (r : Z0) : Nx r r 0 := ⟨rfl, by omega, by omega⟩
theorem Nx.trans {a b c : Z0} {m n : Nat} (h : Nx a b m) (k : Nx b c n) : Nx a c (m + n) := ⟨k.b.trans h.b, by have := h.le; have := k.le; omega, by have := h.ge; have := k.ge; omega⟩
theorem Nx.le' {a b : Z0} {m n : Nat} (h : Nx a b m) (hm : m ≤ n) : Nx a b n := ⟨h.b, h.le, by have := h.ge; omega⟩
theorem W17 {x y : Int} (hx : 0 ≤ x) (hx' : x < 1099511627776) (hy : 0 ≤ y) (hy' : y < 1099511627776) : 0 ≤ wxor .i64 x y ∧ wxor .i64 x y < 1099511627776 := by
 obtain ⟨a, rfl⟩ := Int.eq_ofNat_of_zero_le hx
 obtain ⟨b, rfl⟩ := Int.eq_ofNat_of_zero_le hy
 have e : (BitVec.ofInt IntKind.i64.bits (a : Int) ^^^ BitVec.ofInt IntKind.i64.bits (b : Int)).toNat = a ^^^ b := by
  have ha : (BitVec.ofInt IntKind.i64.bits (a : Int)).toNat = a := by
   rw [BitVec.toNat_ofInt]
   show (((a : Int) % ((2 ^ 64 : Nat) : Int))).toNat = a
   omega
  have hb : (BitVec.ofInt IntKind.i64.bits (b : Int)).toNat = b := by
   rw [BitVec.toNat_ofInt]
   show (((b : Int) % ((2 ^ 64 : Nat) : Int))).toNat = b
   omega
  rw [BitVec.toNat_xor, ha, hb]
 have hlt : a ^^^ b < 2 ^ 40 := Nat.xor_lt_two_pow (by omega) (by omega)
 unfold wxor
 rw [e, Z4o (by omega) (by omega)]
 omega
theorem Q3m {r : Z0} (h : ROk r 1) {k : Int} (h1 : 1 ≤ k) (h2 : k ≤ 1000000) : Ret (Z2 r k) (fun a => 0 ≤ a.1 ∧ a.1 < k ∧ Nx r a.2 1) := by
 have hp0 := h.p0
 have hpm := h.pm
 have hlen := h.len
 have ep : wadd .i64 r.p 1 = r.p + 1 := Q09 (by omega) (by omega)
 have eq : wsub .i64 (r.p + 1) 1 = r.p := by rw [Q3k (by omega) (by omega)]; omega
 have nx : Nx r (Z0.mk r.b (r.p + 1)) 1 := ⟨rfl, by simp only; omega, by simp only; omega⟩
 unfold Z2
 rw [ep, eq]
 refine Ret.ite (fun c => by rw [X0] at c; omega) (fun _ => ?_)
 refine Ret.ite (fun c => .some ⟨by simp, by simp; omega, nx⟩) (fun c => ?_)
 rw [Z8] at c
 simp only [lenZ] at c
 have hpos : 0 < r.b.length := by omega
 have hk0 : chk (!ieq k 0) = some () := Z7u (by simp [ieq]; omega)
 have hb0 : chk (!ieq (lenZ r.b.length) 0) = some () := Z7u (by rw [Bool.not_eq_true', Z8]; simp only [lenZ]; omega)
 have rem : ∀ x : Int, 0 ≤ x → 0 ≤ wrem x k ∧ wrem x k < k := fun x hx => by
  unfold wrem
  rw [Int.tmod_eq_emod_of_nonneg hx]
  exact ⟨Int.emod_nonneg _ (by omega), Int.emod_lt_of_pos _ (by omega)⟩
 refine Ret.ite (fun c2 => ?_) (fun c2 => ?_)
 ·rw [X0] at c2
  simp only [lenZ] at c2
  obtain ⟨x, hx, hm⟩ := Q4a hp0 c2
  obtain ⟨b1, b2⟩ := h.bytes x hm
  rw [hx, hk0]
  simp only [Option.bind_some]
  rw [Z8t (by omega) (by omega)]
  exact .some ⟨(rem x b1).1, (rem x b1).2, nx⟩
 ·rw [hb0]
  simp only [Option.bind_some]
  have remb : ∀ x : Int, 0 ≤ x → 0 ≤ wrem x (lenZ r.b.length) ∧ wrem x (lenZ r.b.length) < r.b.length := fun x hx => by
   unfold wrem lenZ
   rw [Int.tmod_eq_emod_of_nonneg hx]
   exact ⟨Int.emod_nonneg _ (by omega), Int.emod_lt_of_pos _ (by omega)⟩
  have e7 : wmul .i64 r.p 7 = r.p * 7 := Q7f (by omega) (by omega)
  have e73 : wadd .i64 (r.p * 7) 3 = r.p * 7 + 3 := Q09 (by omega) (by omega)
  rw [e7, e73]
  obtain ⟨x, hx, hm⟩ := Q4a (remb r.p hp0).1 (remb r.p hp0).2
  obtain ⟨y, hy, hn⟩ := Q4a (remb (r.p * 7 + 3) (by omega)).1 (remb (r.p * 7 + 3) (by omega)).2
  obtain ⟨b1, b2⟩ := h.bytes x hm
  obtain ⟨b3, b4⟩ := h.bytes y hn
  rw [hx, hy, hk0]
  simp only [Option.bind_some]
  have f1 : wcv .i64 x = x := Z8t (by omega) (by omega)
  have f2 : wcv .i64 y = y := Z8t (by omega) (by omega)
  have f3 : wmul .i64 x 131 = x * 131 := Q7f (by omega) (by omega)
  have f4 : wmul .i64 y 1117 = y * 1117 := Q7f (by omega) (by omega)
  have f5 : wmul .i64 r.p 29 = r.p * 29 := Q7f (by omega) (by omega)
  have hq : 0 ≤ r.p.tdiv (lenZ r.b.length) ∧ r.p.tdiv (lenZ r.b.length) ≤ r.p := by
   rw [Int.tdiv_eq_ediv_of_nonneg hp0]
   exact ⟨Int.ediv_nonneg hp0 (by simp [lenZ]), Int.ediv_le_self _ hp0⟩
  have f6 : wquo .i64 r.p (lenZ r.b.length) = r.p.tdiv (lenZ r.b.length) := Z9w (by omega) (by omega)
  rw [f1, f2, f3, f4, f5, f6]
  generalize r.p.tdiv (lenZ r.b.length) = q at hq ⊢
  have f7 : wmul .i64 q 53 = q * 53 := Q7f (by omega) (by omega)
  have f8 : wadd .i64 (x * 131) (y * 1117) = x * 131 + y * 1117 := Q09 (by omega) (by omega)
  have f9 : wadd .i64 (x * 131 + y * 1117) (r.p * 29) = x * 131 + y * 1117 + r.p * 29 := Q09 (by omega) (by omega)
  rw [f7, f8, f9, Q09 (by omega) (by omega)]
  have hz : 0 ≤ x * 131 + y * 1117 + r.p * 29 + q * 53 ∧ x * 131 + y * 1117 + r.p * 29 + q * 53 < 1099511627776 := ⟨by omega, by omega⟩
  generalize x * 131 + y * 1117 + r.p * 29 + q * 53 = z at hz ⊢
  have hz64 : z.tdiv 64 = z / 64 := Int.tdiv_eq_ediv_of_nonneg hz.1
  rw [Z9w (by rw [hz64]; omega) (by rw [hz64]; omega), hz64]
  have hxr := W17 hz.1 hz.2 (show 0 ≤ z / 64 by omega) (show z / 64 < 1099511627776 by omega)
  exact .some ⟨(rem _ hxr.1).1, (rem _ hxr.1).2, nx⟩
theorem Q8k {r : Z0} (h : ROk r 1) (l : List Int) (h1 : 1 ≤ l.length) (h2 : l.length ≤ 1000) : Ret (X1 r l) (fun a => a.1 ∈ l ∧ Nx r a.2 1) := by
 unfold X1
 refine Ret.bind (Q3m h (k := lenZ l.length) (by simp [lenZ]; omega) (by simp [lenZ]; omega)) (fun a ha => ?_)
 obtain ⟨x, hx, hm⟩ := Q4a (xs := l) ha.1 (by simpa [lenZ] using ha.2.1)
 rw [hx]
 exact .some ⟨hm, ha.2.2⟩
theorem W2m (code : List Int) (hb : ∀ x ∈ code, 0 ≤ x ∧ x ≤ 255) : Ret (Q2i code) (fun r => ROk r 1000000) := by
 unfold Q2i
 refine Ret.ctl (R := fun _ => False) (B := fun s => (∀ x ∈ s, 0 ≤ x ∧ x ≤ 255) ∧ s.length ≤ 2000) ?_ (fun r hr => hr.elim) (fun s hs => ?_)
 ·refine Ret.ite (fun h => ?_) (fun h => ?_)
  ·rw [X0] at h
   simp only [lenZ] at h
   have : Q73 code 2000 = some (code.take 2000) := by
    unfold Q73
    rw [if_pos ⟨by omega, by omega⟩]
    rfl
   rw [this]
   exact .some ⟨fun x hx => hb x (List.mem_of_mem_take hx), by simp; omega⟩
  ·rw [J8] at h
   simp only [lenZ] at h
   exact .some ⟨hb, by omega⟩
 ·exact .some ⟨hs.1, hs.2, by simp, by simp⟩
theorem X6l {r : Z0} (h : ROk r 1) : Ret (Q5z NN r) (fun a => a.1 ∈ Q0g ∧ Nx r a.2 1) := by
 unfold Q5z
 obtain ⟨T, hT⟩ : ∃ T, Q4u = some T := ⟨_, rfl⟩
 have hlen : T.length = 8 := by
  have h8 : Q4u.map List.length = some 8 := rfl
  rw [hT] at h8
  simpa using h8
 rw [hT]
 simp only [Option.bind_some]
 have e7 : wsub .i64 (lenZ T.length) 1 = 7 := by rw [hlen]; rfl
 rw [e7]
 refine Ret.bind (Q3m h (by omega) (by omega)) (fun a ha => ?_)
 obtain ⟨i, hi⟩ := Int.eq_ofNat_of_zero_le ha.1
 obtain ⟨w, hw, hm⟩ := W8l (i := i) (by have := ha.2.1; omega)
 unfold X0x at hw
 rw [hT] at hw
 simp only [Option.bind_some] at hw
 rw [hi]
 obtain ⟨x, hx, hw⟩ := bindE hw
 rw [hx]
 simp only [Option.bind_some]
 rw [hw]
 exact .some ⟨hm, ha.2.2⟩
def Z3s : Nat → Nat
 | 0 => 1
 | m + 1 => 1 + 3 * Z3s m
theorem W4o : ∀ m, 1 ≤ Z3s m
 | 0 => Nat.le_refl _
 | m + 1 => by simp only [Z3s]; omega
theorem X0y {w : List Q3} (hw : WW w) : ∀ (m n : Nat) (r : Z0) (t : Q2) (depth : Int), t ∈ tys w → depP w t ≠ 0 → depth ≤ m → depP w t ≤ m → -1000 + m ≤ depth → m ≤ 100 → m + 1 ≤ n → ROk r (Z3s m) →
  Ret (Q2f n r w (tabP w) t depth) (fun a => Nx r a.2 (Z3s m)) := by
 intro m
 induction m with
 | zero =>
  intro n r t depth ht hd h1 h2 h3 hm100 hn hr
  have := (hw.ty t ht).d0
  omega
 | succ m ih =>
  intro n r t depth ht hd h1 h2 h3 hm100 hn hr
  obtain ⟨n, rfl⟩ : ∃ k, n = k + 1 := ⟨n - 1, by omega⟩
  have hT := hw.ty t ht
  have hpos := W4o (m + 1)
  unfold Q2f
  refine Ret.ite (fun h => ?_) (fun h => ?_)
  ·refine Ret.bind (Q3m (hr.le hpos) (by omega) (by omega)) (fun a ha => .some (ha.2.2.le' hpos))
  ·rw [Z8] at h
   rw [hT.c1]
   simp only [Option.bind_some]
   obtain ⟨kb, hkb, hmb⟩ := hT.dm h hd
   have hd0 := hT.d0
   refine Ret.ctl (Z1 (Z9 w t) (fun k s => (∀ x ∈ s, x ∈ Z9 w t ∧ 0 < Q5w w t x ∧ (Q5w w t x ≤ depth ∨ Q5w w t x = depP w t)) ∧ s.length ≤ k ∧ (∀ j, j < k → (Z9 w t)[j]? = some kb → s ≠ [])) (fun _ => False)
    (fun s => (∀ x ∈ s, x ∈ Z9 w t ∧ 0 < Q5w w t x ∧ (Q5w w t x ≤ depth ∨ Q5w w t x = depP w t)) ∧ s ≠ [] ∧ s.length ≤ 4) ⟨by simp, by simp, fun j hj => by omega⟩ (fun k x s hx hI => ?_) (fun s hI => ?_)) (fun r hr => hr.elim) (fun s hs => ?_)
   ·obtain ⟨i1, i2, i3⟩ := hI
    have hxm := List.mem_of_getElem? hx
    have hkl := (List.getElem?_eq_some_iff.1 hx).1
    have hcl := hT.cl
    have take : ∀ (hp : 0 < Q5w w t x ∧ (Q5w w t x ≤ depth ∨ Q5w w t x = depP w t)), Ret ((app s [x]).bind fun x310 => some (Ctl.brk (ρ := Ctl (Q4 × Z0) (List Int)) x310)) (CtlQ (fun _ => False) (fun s' => (∀ x ∈ s', x ∈ Z9 w t ∧ 0 < Q5w w t x ∧ (Q5w w t x ≤ depth ∨ Q5w w t x = depP w t)) ∧ s'.length ≤ k + 1 ∧ (∀ j, j < k + 1 → (Z9 w t)[j]? = some kb → s' ≠ []))) := fun hp => by
     rw [W6 (by simp only [Q6, List.length_cons, List.length_nil]; omega)]
     refine .some ⟨fun y hy => ?_, by simp; omega, fun _ _ _ => by simp⟩
     rcases List.mem_append.1 hy with hy | hy
     ·exact i1 y hy
     ·simp at hy; subst hy; exact ⟨hxm, hp⟩
    have pass : (¬ (0 < Q5w w t x ∧ (Q5w w t x ≤ depth ∨ Q5w w t x = depP w t))) → Ret (some (Ctl.brk (ρ := Ctl (Q4 × Z0) (List Int)) s)) (CtlQ (fun _ => False) (fun s' => (∀ x ∈ s', x ∈ Z9 w t ∧ 0 < Q5w w t x ∧ (Q5w w t x ≤ depth ∨ Q5w w t x = depP w t)) ∧ s'.length ≤ k + 1 ∧ (∀ j, j < k + 1 → (Z9 w t)[j]? = some kb → s' ≠ []))) := fun hp => by
     refine .some ⟨i1, by omega, fun j hj hjk => ?_⟩
     by_cases hjk2 : j = k
     ·subst hjk2
      rw [hx] at hjk
      cases hjk
      exact absurd ⟨by omega, .inr hmb⟩ hp
     ·exact i3 j (by omega) hjk
    refine Ret.ctl (R := fun _ => False) (B := fun (s' : List Int) => (∀ x ∈ s', x ∈ Z9 w t ∧ 0 < Q5w w t x ∧ (Q5w w t x ≤ depth ∨ Q5w w t x = depP w t)) ∧ s'.length ≤ k + 1 ∧ (∀ j, j < k + 1 → (Z9 w t)[j]? = some kb → s' ≠ [])) ?_ (fun r hr => hr.elim) (fun s' hs' => ⟨_, rfl, hs'⟩)
    rw [hT.m1 x hxm]
    simp only [Option.bind_some]
    refine Ret.ite (fun c => ?_) (fun c => ?_)
    ·rw [X0] at c
     refine Ret.ite (fun c2 => ?_) (fun c2 => ?_)
     ·rw [Q03] at c2
      exact take ⟨c, .inl c2⟩
     ·rw [Q25] at c2
      rw [hT.d1]
      simp only [Option.bind_some]
      refine Ret.ite (fun c3 => ?_) (fun c3 => ?_)
      ·rw [Z4] at c3
       exact take ⟨c, .inr c3⟩
      ·rw [Z8] at c3
       exact pass (by omega)
    ·rw [J8] at c
     exact pass (by omega)
   ·obtain ⟨i1, i2, i3⟩ := hI
    obtain ⟨j, hj⟩ := List.mem_iff_getElem?.1 hkb
    have := hT.cl
    exact ⟨i1, i3 j ((List.getElem?_eq_some_iff.1 hj).1) hj, by omega⟩
   ·obtain ⟨i1, i2, i3⟩ := hs
    have hsl : 1 ≤ s.length := by cases s with
     | nil => exact absurd rfl i2
     | cons => simp
    refine Ret.bind (Q3m (hr.le hpos) (k := lenZ s.length) (by simp [lenZ]; omega) (by simp [lenZ]; omega)) (fun a ha => ?_)
    obtain ⟨x, hx, hxm⟩ := Q4a (xs := s) ha.1 (by simpa [lenZ] using ha.2.1)
    obtain ⟨hxc, hx0, hxd⟩ := i1 x hxm
    rw [hx]
    simp only [Option.bind_some]
    rw [hT.a1 x hxc]
    simp only [Option.bind_some]
    have hal := hT.al x hxc
    have hr1 : ROk a.2 (3 * Z3s m) := ROk.nx (c := 1) hr ha.2.2
    refine Ret.ctl (Z1 (Z5 w t x) (fun k s => Nx a.2 s.1 (k * Z3s m) ∧ s.2.length ≤ k) (fun _ => False) (fun s => Nx a.2 s.1 (3 * Z3s m)) ⟨by simpa using Nx.refl a.2, by simp⟩ (fun k y s hy hI => ?_) (fun s hI => ?_)) (fun r hr => hr.elim) (fun s hs => ?_)
    ·obtain ⟨j1, j2⟩ := hI
     have hym := List.mem_of_getElem? hy
     have hkl := (List.getElem?_eq_some_iff.1 hy).1
     obtain ⟨d1, d2⟩ := hT.ma x hxc (by omega) y hym
     have hws : wsub .i64 depth 1 = depth - 1 := Q3k (by omega) (by omega)
     rw [hws]
     have hr2 : ROk s.1 (Z3s m) := by
      have : k * Z3s m + Z3s m ≤ 3 * Z3s m := by
       rw [← Nat.succ_mul]
       exact Nat.mul_le_mul_right _ (by omega)
      exact ROk.nx (c := k * Z3s m) (hr1.le this) j1
     refine Ret.bind (ih n s.1 y (depth - 1) (hT.at_ x hxc y hym) (by omega) (by omega) (by omega) (by omega) (by omega) (by omega) hr2) (fun b hb => ?_)
     rw [W6 (by simp only [Q6, List.length_cons, List.length_nil]; omega)]
     refine .some ⟨?_, by simp; omega⟩
     have := j1.trans hb
     rw [← Nat.succ_mul] at this
     exact this
    ·obtain ⟨j1, j2⟩ := hI
     exact j1.le' (Nat.mul_le_mul_right _ hal)
    ·exact .some (ha.2.2.trans hs)
end Go.Proofs.YtbdkbdafhlcilaaGreat
namespace Go.Proofs.YtbdkbdafhlcilaaGreat
open Go Go.RowKit
def Z91 : Nat → Q0 → Prop
 | 0, _ => False
 | d + 1, p => p.kids.length ≤ 3 ∧ ∀ q ∈ p.kids, Z91 d q
theorem Z2y (d : Nat) : Z91 (d + 1) (Q0.mk 1 0 0 0 0 []) := ⟨by simp, by simp⟩
def cD3 : Nat → Nat
 | 0 => 0
 | m + 1 => 5 + 3 * cD3 m
def cN3 : Nat → Nat
 | 0 => 0
 | m + 1 => 2 + 3 * cN3 m
theorem W8m {w : List Q3} (hw : WW w) : ∀ (m n : Nat) (r : Z0) (t : Q2) (depth : Int), t ∈ tys w → depth ≤ m + 1 → -1000 + m ≤ depth → m ≤ 100 → m + 1 ≤ n → ROk r (cD3 m) →
  Ret (Q0z n r w t depth) (fun a => Z91 (m + 1) a.1 ∧ Nx r a.2 (cD3 m)) := by
 intro m
 induction m with
 | zero =>
  intro n r t depth ht h1 h2 h3 hn hr
  obtain ⟨n, rfl⟩ : ∃ k, n = k + 1 := ⟨n - 1, by omega⟩
  unfold Q0z
  rw [if_pos (by rw [X0]; omega)]
  exact .some ⟨Z2y 0, Nx.refl r⟩
 | succ m ih =>
  intro n r t depth ht h1 h2 h3 hn hr
  obtain ⟨n, rfl⟩ : ∃ k, n = k + 1 := ⟨n - 1, by omega⟩
  have hT := hw.ty t ht
  have ec : cD3 (m + 1) = 5 + 3 * cD3 m := rfl
  rw [ec] at hr ⊢
  have hws : wsub .i64 depth 1 = depth - 1 := Q3k (by omega) (by omega)
  unfold Q0z
  refine Ret.ite (fun h => .some ⟨Z2y _, (Nx.refl r).le' (by omega)⟩) (fun h => ?_)
  refine Ret.bind (Q3m (hr.le (by omega)) (by omega) (by omega)) (fun a ha => ?_)
  have hr1 : ROk a.2 (4 + 3 * cD3 m) := ROk.nx (c := 1) (hr.le (by omega)) ha.2.2
  refine Ret.ite (fun h => .some ⟨Z2y _, ha.2.2.le' (by omega)⟩) (fun h => ?_)
  refine Ret.bind (Q3m (hr1.le (by omega)) (by omega) (by omega)) (fun b hb => ?_)
  have hr2 : ROk b.2 (3 + 3 * cD3 m) := ROk.nx (c := 1) (hr1.le (by omega)) hb.2.2
  have hab := ha.2.2.trans hb.2.2
  rw [hws]
  refine Ret.ite (fun h => ?_) (fun h => ?_)
  ·refine Ret.bind (ih n b.2 t (depth - 1) ht (by omega) (by omega) (by omega) (by omega) (hr2.le (by omega))) (fun c hc => ?_)
   have hr3 : ROk c.2 (cD3 m) := ROk.nx (c := cD3 m) (hr2.le (by omega)) hc.2
   refine Ret.bind (ih n c.2 t (depth - 1) ht (by omega) (by omega) (by omega) (by omega) hr3) (fun d hd => ?_)
   refine .some ⟨⟨by simp, fun q hq => ?_⟩, ((hab.trans hc.2).trans hd.2).le' (by omega)⟩
   simp at hq
   rcases hq with rfl | rfl
   ·exact hc.1
   ·exact hd.1
  ·refine Ret.ite (fun h => ?_) (fun h => ?_)
   ·refine Ret.bind (Q3m (hr2.le (by omega)) (by omega) (by omega)) (fun c hc => ?_)
    have hr3 : ROk c.2 (2 + 3 * cD3 m) := ROk.nx (c := 1) (hr2.le (by omega)) hc.2.2
    have e10 : wsub .i64 10 c.1 = 10 - c.1 := Q3k (by omega) (by omega)
    rw [e10]
    refine Ret.bind (Q3m (hr3.le (by omega)) (by omega) (by omega)) (fun d hd => ?_)
    have hr4 : ROk d.2 (1 + 3 * cD3 m) := ROk.nx (c := 1) (hr3.le (by omega)) hd.2.2
    refine Ret.bind (Q3m (hr4.le (by omega)) (by omega) (by omega)) (fun e he => ?_)
    exact .some ⟨⟨by simp, by simp⟩, (((hab.trans hc.2.2).trans hd.2.2).trans he.2.2).le' (by omega)⟩
   ·rw [hT.c1]
    simp only [Option.bind_some]
    refine Ret.ite (fun h => .some ⟨Z2y _, hab.le' (by omega)⟩) (fun h => ?_)
    rw [Z8] at h
    simp only [lenZ] at h
    have hcl := hT.cl
    refine Ret.bind (Q3m (hr2.le (by omega)) (k := lenZ (Z9 w t).length) (by simp only [lenZ]; omega) (by simp only [lenZ]; omega)) (fun c hc => ?_)
    have hr3 : ROk c.2 (3 * cD3 m) := ROk.nx (c := 1) (hr2.le (by omega)) hc.2.2
    obtain ⟨x, hx, hxm⟩ := Q4a (xs := Z9 w t) hc.1 (by simpa [lenZ] using hc.2.1)
    rw [hx]
    simp only [Option.bind_some]
    rw [hT.a1 x hxm]
    simp only [Option.bind_some]
    have hal := hT.al x hxm
    refine Ret.ctl (Z1 (Z5 w t x) (fun k s => Nx c.2 s.1 (k * cD3 m) ∧ s.2.length = k ∧ ∀ q ∈ s.2, Z91 (m + 1) q) (fun _ => False) (fun s => Nx c.2 s.1 (3 * cD3 m) ∧ s.2.length ≤ 3 ∧ ∀ q ∈ s.2, Z91 (m + 1) q) ⟨by simpa using Nx.refl c.2, by simp, by simp⟩ (fun k y s hy hI => ?_) (fun s hI => ?_)) (fun r hr => hr.elim) (fun s hs => ?_)
    ·obtain ⟨j1, j2, j3⟩ := hI
     have hym := List.mem_of_getElem? hy
     have hkl := (List.getElem?_eq_some_iff.1 hy).1
     have hr4 : ROk s.1 (cD3 m) := by
      have : k * cD3 m + cD3 m ≤ 3 * cD3 m := by
       rw [← Nat.succ_mul]
       exact Nat.mul_le_mul_right _ (by omega)
      exact ROk.nx (c := k * cD3 m) (hr3.le this) j1
     refine Ret.bind (ih n s.1 y (depth - 1) (hT.at_ x hxm y hym) (by omega) (by omega) (by omega) (by omega) hr4) (fun b hb => ?_)
     rw [W6 (by simp only [Q6, List.length_cons, List.length_nil]; omega)]
     refine .some ⟨?_, by simp; omega, fun q hq => ?_⟩
     ·have := j1.trans hb.2
      rw [← Nat.succ_mul] at this
      exact this
     ·rcases List.mem_append.1 hq with hq | hq
      ·exact j3 q hq
      ·simp at hq; subst hq; exact hb.1
    ·obtain ⟨j1, j2, j3⟩ := hI
     exact ⟨j1.le' (Nat.mul_le_mul_right _ hal), by omega, j3⟩
    ·exact .some ⟨⟨hs.2.1, hs.2.2⟩, ((hab.trans hc.2.2).trans hs.1).le' (by omega)⟩
theorem W6p : ∀ (m n : Nat) (r : Z0) (p : Q0) (v : Int), Z91 m p → m + 1 ≤ n → ROk r (cN3 m) → Ret (Q2e n r p v) (fun a => Nx r a.2.2 (cN3 m)) := by
 intro m
 induction m with
 | zero => intro n r p v h; exact h.elim
 | succ m ih =>
  intro n r p v hp hn hr
  obtain ⟨n, rfl⟩ : ∃ k, n = k + 1 := ⟨n - 1, by omega⟩
  obtain ⟨hk, hq⟩ := hp
  have ec : cN3 (m + 1) = 2 + 3 * cN3 m := rfl
  rw [ec] at hr ⊢
  unfold Q2e
  refine Ret.ite (fun h => .some ((Nx.refl r).le' (by omega))) (fun h => ?_)
  refine Ret.ite (fun h => .some ((Nx.refl r).le' (by omega))) (fun h => ?_)
  refine Ret.ite (fun h => .some ((Nx.refl r).le' (by omega))) (fun h => ?_)
  refine Ret.ctl (R := fun (a : Q0 × Int × Z0) => Nx r a.2.2 (2 + 3 * cN3 m)) (B := fun (s : Z0) => Nx r s 1) ?_ (fun a ha => .some ha) (fun s hs => ?_)
  ·refine Ret.ite (fun h => ?_) (fun h => .some ((Nx.refl r).le' (by omega)))
   refine Ret.bind (Q3m (hr.le (by omega)) (by omega) (by omega)) (fun a ha => ?_)
   exact Ret.ite (fun h => .some (ha.2.2.le' (by omega))) (fun h => .some ha.2.2)
  ·have hr1 : ROk s (1 + 3 * cN3 m) := ROk.nx (c := 1) (hr.le (by omega)) hs
   refine Ret.ctl (Z1 p.kids (fun k u => Nx s u.1 (k * cN3 m) ∧ u.2.1.length = k) (fun _ => False) (fun u => Nx s u.1 (3 * cN3 m) ∧ u.2.1.length ≤ 3) ⟨by simpa using Nx.refl s, by simp⟩ (fun k y u hy hI => ?_) (fun u hI => ?_)) (fun r hr => hr.elim) (fun u hu => ?_)
   ·obtain ⟨j1, j2⟩ := hI
    have hym := List.mem_of_getElem? hy
    have hkl := (List.getElem?_eq_some_iff.1 hy).1
    have hr4 : ROk u.1 (cN3 m) := by
     have : k * cN3 m + cN3 m ≤ 1 + 3 * cN3 m := by
      rw [← Nat.succ_mul]
      have := Nat.mul_le_mul_right (cN3 m) (show k.succ ≤ 3 by omega)
      omega
     exact ROk.nx (c := k * cN3 m) (hr1.le this) j1
    refine Ret.bind (ih n u.1 y _ (hq y hym) (by omega) hr4) (fun b hb => ?_)
    rw [W6 (by simp only [Q6, List.length_cons, List.length_nil]; omega)]
    refine .some ⟨?_, by simp; omega⟩
    have := j1.trans hb
    rw [← Nat.succ_mul] at this
    exact this
   ·obtain ⟨j1, j2⟩ := hI
    exact ⟨j1.le' (Nat.mul_le_mul_right _ hk), by omega⟩
   ·have hr2 : ROk u.1 1 := ROk.nx (c := 3 * cN3 m) (hr1.le (by omega)) hu.1
    have hsu := hs.trans hu.1
    refine Ret.ctl (R := fun (a : Q0 × Int × Z0) => Nx r a.2.2 (2 + 3 * cN3 m)) (B := fun (s : Z0) => Nx r s (2 + 3 * cN3 m)) ?_ (fun a ha => .some ha) (fun s hs => .some hs)
    refine Ret.ite (fun h => ?_) (fun h => .some (hsu.le' (by omega)))
    refine Ret.bind (Q3m hr2 (by omega) (by omega)) (fun a ha => ?_)
    have := (hsu.trans ha.2.2).le' (show 1 + 3 * cN3 m + 1 ≤ 2 + 3 * cN3 m by omega)
    exact Ret.ite (fun h => .some this) (fun h => .some this)
def anyP : Q0 := Q0.mk 1 0 0 0 0 []
theorem W4r (w : List Q3) (t : Q2) : Q12 w t anyP = true := by
 simp [Q12, anyP, Q0a, Q5v, Q7i, V6, linD, Q26, ownV, Q19, cntP, cntP.cntPs]
theorem X6s {w : List Q3} (hw : WW w) {r : Z0} {t : Q2} (ht : t ∈ tys w) (h : ROk r 200) : Ret (Q38 NN r w t) (fun a => Q12 w t a.1 = true ∧ Nx r a.2 200) := by
 unfold Q38
 refine Ret.bind (Q8k (h.le (by omega)) [3, 2, 4, 1] (by simp) (by simp)) (fun a ha => ?_)
 have hr1 : ROk a.2 199 := ROk.nx (c := 1) h ha.2
 have hd4 : 1 ≤ a.1 ∧ a.1 ≤ 4 := by
  have := ha.1
  simp at this
  omega
 refine Ret.bind (W8m hw 3 NN a.2 t a.1 ht (by omega) (by omega) (by omega) (by decide) (hr1.le (by decide))) (fun b hb => ?_)
 have hr2 : ROk b.2 80 := ROk.nx (c := cD3 3) (hr1.le (by decide)) hb.2
 refine Ret.bind (W6p 4 NN b.2 b.1 0 hb.1 (by decide) (hr2.le (by decide))) (fun c hc => ?_)
 rw [Z6e hw (by decide) t c.1 ht]
 simp only [Option.bind_some]
 have hnx := ((ha.2.trans hb.2).trans hc).le' (show 1 + cD3 3 + cN3 4 ≤ 200 by decide)
 cases hv : Q12 w t c.1 with
 | false => exact .some ⟨W4r w t, hnx⟩
 | true => exact .some ⟨hv, hnx⟩
theorem W0n {w : List Q3} (hw : WW w) {r : Z0} {t : Q2} (ht : t ∈ tys w) (h : ROk r 500) : Ret (Q2r NN r w t) (fun a => Q12 w t a.1.pat = true ∧ Nx r a.2 500) := by
 unfold Q2r
 refine Ret.bind (X6s hw ht (h.le (by omega))) (fun a ha => ?_)
 have hr1 : ROk a.2 300 := ROk.nx (c := 200) h ha.2
 obtain ⟨g1, g2, g3⟩ := Q3z ha.1
 obtain ⟨v1, v2⟩ := Q63 hw 10 NN t a.1 [] ht g1 (by decide) (by simp; omega)
 rw [v1]
 simp only [Option.bind_some, List.nil_append]
 refine Ret.ctl (Z1 (Q26 w 10 t a.1) (fun k s => Nx a.2 s.1 (k * 3)) (fun _ => False) (fun s => Nx a.2 s.1 300) (by simpa using Nx.refl a.2) (fun k y s hy hI => ?_) (fun s hI => hI.le' (by omega))) (fun r hr => hr.elim) (fun s hs => .some ⟨ha.1, (ha.2.trans hs).le' (by omega)⟩)
 have hkl := (List.getElem?_eq_some_iff.1 hy).1
 have hr2 : ROk s.1 3 := ROk.nx (c := k * 3) (hr1.le (by omega)) hI
 refine Ret.ctl (R := fun _ => False) (B := fun (u : Z0 × Int × Int × Int) => Nx a.2 u.1 ((k + 1) * 3)) ?_ (fun r hr => hr.elim) (fun u hu => .some hu)
 refine Ret.ite (fun h => ?_) (fun h => .some (hI.le' (by omega)))
 refine Ret.bind (Q3m (hr2.le (by omega)) (by omega) (by omega)) (fun b hb => ?_)
 have hr3 : ROk b.2 2 := ROk.nx (c := 1) hr2 hb.2.2
 refine Ret.ite (fun h => ?_) (fun h => .some ((hI.trans hb.2.2).le' (by omega)))
 refine Ret.bind (Q3m (hr3.le (by omega)) (by omega) (by omega)) (fun c hc => ?_)
 have hr4 : ROk c.2 1 := ROk.nx (c := 1) hr3 hc.2.2
 refine Ret.bind (Q3m hr4 (by omega) (by omega)) (fun d hd => ?_)
 exact .some ((((hI.trans hb.2.2).trans hc.2.2).trans hd.2.2).le' (by omega))
end Go.Proofs.YtbdkbdafhlcilaaGreat
namespace Go.Proofs.YtbdkbdafhlcilaaGreat
open Go Go.RowKit
def Z5p : Nat → Q4 → Prop
 | 0, _ => False
 | d + 1, v => v.kids.length ≤ 3 ∧ ∀ x ∈ v.kids, Z5p d x
theorem Z48 {w : List Q3} (hw : WW w) : ∀ (d : Nat) (t : Q2) (v : Q4), t ∈ tys w → Q0s w d t v → Z5p d v := by
 intro d
 induction d with
 | zero => intro t v _ h; exact h
 | succ d ih =>
  intro t v ht h
  have hT := hw.ty t ht
  simp only [Q0s] at h
  split at h
  ·obtain ⟨_, _, _, h4⟩ := h
   exact ⟨by rw [h4]; simp, fun x hx => by rw [h4] at hx; cases hx⟩
  ·obtain ⟨_, h2, h3, h4⟩ := h
   have hal := hT.al _ h2
   refine ⟨by omega, fun x hx => ?_⟩
   obtain ⟨j, hj⟩ := List.mem_iff_getElem?.1 hx
   have hjl := (List.getElem?_eq_some_iff.1 hj).1
   have ha : (Z5 w t v.ctor)[j]? = some ((Z5 w t v.ctor)[j]'(by omega)) := by simp
   exact ih _ x (hT.at_ _ h2 _ (List.mem_of_getElem? ha)) (h4 j _ x ha hj)
theorem Q4.ext' {a b : Q4} (h1 : a.ctor = b.ctor) (h2 : a.n = b.n) (h3 : a.kids = b.kids) : a = b := by
 cases a; cases b; simp_all
theorem Z6q : ∀ (d n : Nat) (v : Q4), Z5p d v → d ≤ n → Q24 n v = some v := by
 intro d
 induction d with
 | zero => intro n v h; exact h.elim
 | succ d ih =>
  intro n v h hn
  obtain ⟨n, rfl⟩ : ∃ k, n = k + 1 := ⟨n - 1, by omega⟩
  obtain ⟨h1, h2⟩ := h
  have hr : Ret (Q24 (n + 1) v) (fun r => r = v) := by
   unfold Q24
   refine Ret.ctl (Z1 v.kids (fun k s => s = v.kids.take k) (fun _ => False) (fun s => s = v.kids) (by simp) (fun k q s hq hI => ?_) (fun s hI => ?_)) (fun r hr => hr.elim) (fun s hs => .some (Q4.ext' rfl rfl hs))
   ·rw [ih n q (h2 q (List.mem_of_getElem? hq)) (by omega)]
    simp only [Option.bind_some]
    rw [W6 (by simp only [Q6, List.length_cons, List.length_nil]; rw [hI, List.length_take]; omega)]
    exact .some (by rw [hI, List.take_add_one, hq]; rfl)
   ·rw [hI, List.take_length]
  obtain ⟨r, e, rfl⟩ := hr
  exact e
theorem X4u {α : Type} {xs : List α} {i : Int} {x : α} (h0 : 0 ≤ i) (h : i < xs.length) : setI xs i x = some (xs.set i.toNat x) := by
 unfold setI
 rw [if_pos ⟨h0, by omega⟩]
theorem V6k : (List.range 13).all (fun k => (Q6p (wcv .u64 (lenZ k))).isSome) = true := by kernel_rfl
theorem Z9b : ∀ (d : Nat) (p : Q0) (e : Nat) (v : Q4) (l : List X3), Z5p e v → X6 d p v = some l → ∀ b ∈ l, ∃ e', e' ≤ e ∧ Z5p e' b.value := by
 intro d
 induction d with
 | zero => intro p e v l _ h; cases h
 | succ d ih =>
  intro p e v l hv hm b hb
  rw [X6] at hm
  split at hm
  ·cases hm; cases hb
  split at hm
  ·cases hm
   simp only [List.mem_cons, List.not_mem_nil, or_false] at hb
   subst hb
   exact ⟨e, Nat.le_refl _, hv⟩
  split at hm
  ·split at hm
   ·cases hm; cases hb
   ·cases hm
  split at hm
  ·split at hm
   ·split at hm
    ·rename_i l' hl'
     cases hm
     exact ih _ e v _ hv hl' b hb
    ·exact ih _ e v _ hv hm b hb
   ·cases hm
  split at hm
  ·split at hm
   ·rename_i a _
    cases ha : X6 d a v with
    | none => rw [ha] at hm; cases hm
    | some l' =>
     rw [ha] at hm
     cases hm
     rcases List.mem_cons.1 hb with h | h
     ·subst h
      exact ⟨e, Nat.le_refl _, hv⟩
     ·exact ih _ e v _ hv ha b h
   ·cases hm
  split at hm
  ·cases e with
   | zero => exact hv.elim
   | succ e =>
    have hk := hv.2
    have gen : ∀ (ps : List Q0) (vs : List Q4) (l : List X3), (∀ x ∈ vs, Z5p e x) → Q2p (X6 d) ps vs = some l → ∀ b ∈ l, ∃ e', e' ≤ e ∧ Z5p e' b.value := by
     intro ps
     induction ps with
     | nil => intro vs l _ h b hb; simp only [Q2p] at h; cases h; cases hb
     | cons q ps ihp =>
      intro vs l hvs h b hb
      cases vs with
      | nil => cases h
      | cons u vs =>
       simp only [Q2p] at h
       cases hq : X6 d q u with
       | none => rw [hq] at h; cases h
       | some l1 =>
        rw [hq] at h
        simp only at h
        cases hps : Q2p (X6 d) ps vs with
        | none => rw [hps] at h; cases h
        | some l2 =>
         rw [hps] at h
         cases h
         rcases List.mem_append.1 hb with hb | hb
         ·exact ih q e u l1 (hvs u (by simp)) hq b hb
         ·exact ihp vs l2 (fun x hx => hvs x (by simp [hx])) hps b hb
    obtain ⟨e', h1, h2⟩ := gen _ _ _ hk hm b hb
    exact ⟨e', by omega, h2⟩
  ·cases hm
theorem Z63 : ∀ (d e : Nat) (v : Q4), d ≤ e → Z5p d v → Z5p e v := by
 intro d
 induction d with
 | zero => intro e v _ h; exact h.elim
 | succ d ih =>
  intro e v he h
  obtain ⟨e, rfl⟩ : ∃ k, e = k + 1 := ⟨e - 1, by omega⟩
  exact ⟨h.1, fun x hx => ih e x (by omega) (h.2 x hx)⟩
theorem nodup_range : ∀ (m : Nat) (l : List Int), l.Nodup → (∀ x ∈ l, 0 ≤ x ∧ x < m) → l.length ≤ m := by
 intro m
 induction m with
 | zero =>
  intro l _ h
  cases l with
  | nil => simp
  | cons x l => have := h x (by simp); omega
 | succ m ih =>
  intro l hn h
  have h1 := ih (l.erase (m : Int)) (hn.erase _) (fun x hx => by
   have hx2 := (hn.mem_erase_iff).1 hx
   have := h x hx2.2
   have := hx2.1
   omega)
  have h2 := List.length_erase (a := (m : Int)) (l := l)
  split at h2 <;> omega
theorem W62 {w : List Q3} {t : Q2} {p : Q0} {d : Nat} (g : Q0a w d t p = true) (l : linD w d t p = true) : (Q26 w d t p).length ≤ 6 := by
 have h1 := Q6d d t p g l
 simp only [Q19, decide_eq_true_eq] at h1
 have := nodup_range 6 _ h1 (fun x hx => by
  obtain ⟨y, hy, rfl⟩ := List.mem_map.1 hx
  have := Z40 d t p g y hy
  omega)
 simpa using this
end Go.Proofs.YtbdkbdafhlcilaaGreat
