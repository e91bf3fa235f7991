import Derived.KernelRfl
import Derived.Test.YtmkamncbkkahjaaGreatJE1
import Derived.Test.YtmkamncbkkahjaaGreatJMir
set_option linter.unusedSimpArgs false
set_option linter.unusedVariables false
namespace Go.Proofs.YtmkamncbkkahjaaGreat
open Go Go.RowKit
def Ret {α : Type} (x : Option α) (Q : α → Prop) : Prop := ∃ a, x = some a ∧ Q a
theorem Ret.some {α : Type} {a : α} {Q : α → Prop} (h : Q a) : Ret (some a) Q := ⟨a, rfl, h⟩
theorem Ret.bind {α β : Type} {x : Option α} {f : α → Option β} {P : α → Prop} {Q : β → Prop} (hx : Ret x P) (hf : ∀ a, P a → Ret (f a) Q) : Ret (x.bind f) Q := by
  obtain ⟨a, rfl, ha⟩ := hx
  exact hf a ha
theorem Ret.bindE {α β : Type} {x : Option α} {f : α → Option β} {a : α} {Q : β → Prop} (hx : x = Option.some a) (hf : Ret (f a) Q) : Ret (x.bind f) Q := by
  subst hx
  exact hf
theorem Ret.mono {α : Type} {x : Option α} {P Q : α → Prop} (h : ∀ a, P a → Q a) (hx : Ret x P) : Ret x Q := by
  obtain ⟨a, e, ha⟩ := hx
  exact ⟨a, e, h a ha⟩
theorem Ret.ite {α : Type} {b : Bool} {x y : Option α} {Q : α → Prop} (h1 : b = true → Ret x Q) (h2 : b = false → Ret y Q) : Ret (if b = true then x else y) Q := by
  cases b
  · exact h2 rfl
  · exact h1 rfl
theorem Ret.of {α : Type} {x : Option α} {a : α} {Q : α → Prop} (h : x = Option.some a) (hq : Q a) : Ret x Q := ⟨a, h, hq⟩
theorem Ret.get {α : Type} {x : Option α} {Q : α → Prop} {a : α} (h : Ret x Q) (e : x = Option.some a) : Q a := by
  obtain ⟨b, e2, hb⟩ := h
  rw [e] at e2
  cases e2
  exact hb
def CtlQ {ρ σ : Type} (R : ρ → Prop) (B : σ → Prop) : Ctl ρ σ → Prop
  | .ret r => R r
  | .brk s => B s
  | .go _ => False
def RndQ {ρ σ : Type} (R : ρ → Prop) (B G : σ → Prop) : Ctl ρ σ → Prop
  | .ret r => R r
  | .brk s => B s
  | .go s => G s
@[simp] theorem rndQ_ret {ρ σ : Type} (R : ρ → Prop) (B G : σ → Prop) (r : ρ) : RndQ R B G (.ret r) = R r := rfl
@[simp] theorem rndQ_brk {ρ σ : Type} (R : ρ → Prop) (B G : σ → Prop) (s : σ) : RndQ R B G (.brk s) = B s := rfl
@[simp] theorem rndQ_go {ρ σ : Type} (R : ρ → Prop) (B G : σ → Prop) (s : σ) : RndQ R B G (.go s) = G s := rfl
@[simp] theorem ctlQ_ret {ρ σ : Type} (R : ρ → Prop) (B : σ → Prop) (r : ρ) : CtlQ R B (.ret r) = R r := rfl
@[simp] theorem ctlQ_brk {ρ σ : Type} (R : ρ → Prop) (B : σ → Prop) (s : σ) : CtlQ R B (.brk s) = B s := rfl
theorem forL_rule {α σ ρ : Type} {f : Nat → α → σ → Option (Ctl ρ σ)} (xs : List α) {s0 : σ} (I : Nat → σ → Prop) (R : ρ → Prop) (B : σ → Prop)
    (h0 : I 0 s0) (step : ∀ k x s, xs[k]? = some x → I k s → Ret (f k x s) (RndQ R B (I (k + 1)))) (stop : ∀ s, I xs.length s → B s) :
    Ret (forL f 0 xs s0) (CtlQ R B) := by
  have key : ∀ (ys : List α) (k : Nat) (s : σ), xs.drop k = ys → k ≤ xs.length → I k s → Ret (forL f k ys s) (CtlQ R B) := by
    intro ys
    induction ys with
    | nil =>
      intro k s hd hk hs
      have : k = xs.length := by
        have := congrArg List.length hd
        simp at this
        omega
      subst this
      exact .some (stop s hs)
    | cons y ys ih =>
      intro k s hd hk hs
      have hlt : k < xs.length := by
        have := congrArg List.length hd
        simp at this
        omega
      rw [List.drop_eq_getElem_cons hlt] at hd
      injection hd with h1 h2
      have hx : xs[k]? = some y := by rw [List.getElem?_eq_getElem hlt, h1]
      obtain ⟨o, ho, hq⟩ := step k y s hx hs
      unfold forL
      rw [ho]
      cases o with
      | ret r => exact .some hq
      | brk s' => exact .some hq
      | go s' => exact ih (k + 1) s' h2 hlt hq
  exact key xs 0 s0 rfl (Nat.zero_le _) h0
theorem whileL_rule {σ ρ : Type} {f : σ → Option (Ctl ρ σ)} {s0 : σ} (I : σ → Prop) (μ : σ → Nat) (R : ρ → Prop) (B : σ → Prop) (h0 : I s0)
    (step : ∀ s, I s → Ret (f s) (RndQ R B (fun s' => I s' ∧ μ s' < μ s))) : ∀ n, μ s0 < n → Ret (whileL f n s0) (CtlQ R B) := by
  have key : ∀ n s, I s → μ s < n → Ret (whileL f n s) (CtlQ R B) := by
    intro n
    induction n with
    | zero => intro s _ h; omega
    | succ n ih =>
      intro s hs hn
      obtain ⟨o, ho, hq⟩ := step s hs
      unfold whileL
      rw [ho]
      cases o with
      | ret r => exact .some hq
      | brk s' => exact .some hq
      | go s' => exact ih s' hq.1 (by have := hq.2; omega)
  exact fun n hn => key n s0 h0 hn
theorem Ret.ctl {ρ σ τ : Type} {x : Option (Ctl ρ σ)} {g : Ctl ρ σ → Option τ} {R : ρ → Prop} {B : σ → Prop} {Q : τ → Prop} (h : Ret x (CtlQ R B)) (hr : ∀ r, R r → Ret (g (.ret r)) Q) (hb : ∀ s, B s → Ret (g (.brk s)) Q) : Ret (x.bind g) Q := by
  obtain ⟨o, rfl, ho⟩ := h
  cases o with
  | ret r => exact hr r ho
  | brk s => exact hb s ho
  | go s => exact ho.elim
theorem app_ok {α : Type} {xs ys : List α} (h : xs.length + ys.length ≤ rowLimit) : app xs ys = some (xs ++ ys) := by simp [app, h]
theorem idx_ok {α : Type} {xs : List α} {i : Nat} {x : α} (h : xs[i]? = some x) : idx xs (i : Int) = some x := by simp [idx, h]
theorem idx_okI {α : Type} {xs : List α} {i : Int} {x : α} (h0 : 0 ≤ i) (h : xs[i.toNat]? = some x) : idx xs i = some x := by simp [idx, h, h0]
theorem idx_lt_ok {α : Type} {xs : List α} {i : Int} (h0 : 0 ≤ i) (h : i < xs.length) : ∃ x, idx xs i = some x ∧ x ∈ xs := by
  have hl : i.toNat < xs.length := by omega
  exact ⟨xs[i.toNat], by simp [idx, h0, hl], List.getElem_mem hl⟩
theorem chk_ok {b : Bool} (h : b = true) : chk b = some () := by simp [chk, h]
theorem ieq_true {a b : Int} : (ieq a b = true) = (a = b) := by simp [ieq]
theorem ieq_false {a b : Int} : (ieq a b = false) = (a ≠ b) := by simp [ieq]
theorem ilt_true {a b : Int} : (ilt a b = true) = (a < b) := by simp [ilt]
theorem ilt_false {a b : Int} : (ilt a b = false) = (b ≤ a) := by simp [ilt]
theorem ile_true {a b : Int} : (ile a b = true) = (a ≤ b) := by simp [ile]
theorem ile_false {a b : Int} : (ile a b = false) = (b < a) := by simp [ile]
theorem wadd_ok {a b : Int} (h1 : -9223372036854775808 ≤ a + b) (h2 : a + b ≤ 9223372036854775807) : wadd .i64 a b = a + b := by unfold wadd; exact wrap64 h1 h2
theorem wsub_ok {a b : Int} (h1 : -9223372036854775808 ≤ a - b) (h2 : a - b ≤ 9223372036854775807) : wsub .i64 a b = a - b := by unfold wsub; exact wrap64 h1 h2
theorem wmul_ok {a b : Int} (h1 : -9223372036854775808 ≤ a * b) (h2 : a * b ≤ 9223372036854775807) : wmul .i64 a b = a * b := by unfold wmul; exact wrap64 h1 h2
theorem wcv_ok {a : Int} (h1 : -9223372036854775808 ≤ a) (h2 : a ≤ 9223372036854775807) : wcv .i64 a = a := by unfold wcv; exact wrap64 h1 h2
theorem wquo_ok {a b : Int} (h1 : -9223372036854775808 ≤ a.tdiv b) (h2 : a.tdiv b ≤ 9223372036854775807) : wquo .i64 a b = a.tdiv b := by unfold wquo; exact wrap64 h1 h2
end Go.Proofs.YtmkamncbkkahjaaGreat
namespace Go.Proofs.YtmkamncbkkahjaaGreat
open Go Go.RowKit
abbrev NN : Nat := 30000000
instance : DecidableEq GType := fun a b => decidable_of_iff (a.data = b.data ∧ a.index = b.index) ⟨fun h => by cases a; cases b; simp at h; simp [h], fun h => by subst h; simp⟩
def by_ (l : List Nat) : ByteArray := ⟨(l.map UInt8.ofNat).toArray⟩
def tI : GType := ⟨-1, 0⟩
def tD (d i : Int) : GType := ⟨d, i⟩
def w0 : List GData := [⟨by_ [76], [⟨by_ [78, 105, 108], [], 0⟩, ⟨by_ [67, 111, 110, 115], [tI, tD 0 0], 0⟩]⟩]
def w1 : List GData := [⟨by_ [66], [⟨by_ [84, 114, 117], [], 0⟩, ⟨by_ [70, 108, 115], [], 0⟩]⟩, ⟨by_ [84], [⟨by_ [76, 101, 97, 102], [], 0⟩, ⟨by_ [78, 111, 100, 101], [tD 1 0, tD 0 0, tD 1 0], 0⟩]⟩]
def w2 : List GData := [⟨by_ [69], [⟨by_ [78, 117, 109], [tI], 1⟩, ⟨by_ [66, 111, 108], [tD 1 0], 2⟩, ⟨by_ [65, 100, 100], [tD 0 1, tD 0 1], 1⟩, ⟨by_ [73, 102], [tD 0 2, tD 0 (-1), tD 0 (-1)], 0⟩]⟩, ⟨by_ [66], [⟨by_ [84, 114, 117], [], 0⟩, ⟨by_ [70, 108, 115], [], 0⟩]⟩]
def w3 : List GData := [⟨by_ [79], [⟨by_ [78, 111, 110], [], 0⟩, ⟨by_ [83, 111, 109], [tI], 0⟩]⟩, ⟨by_ [80], [⟨by_ [80, 97, 105, 114], [tD 0 0, tD 0 0], 0⟩]⟩]
def w4 : List GData := [⟨by_ [86], [⟨by_ [69, 110, 100], [], 1⟩, ⟨by_ [83, 111, 109, 101], [tI, tD 0 1], 2⟩, ⟨by_ [84, 119, 111], [tD 0 (-1)], 0⟩]⟩]
def w5 : List GData := [⟨by_ [78], [⟨by_ [78, 101, 118, 101, 114], [tD 0 0], 0⟩]⟩, ⟨by_ [66], [⟨by_ [84, 114, 117], [], 0⟩, ⟨by_ [70, 108, 115], [], 0⟩, ⟨by_ [77, 97, 121], [tD 0 0], 0⟩]⟩]
def w6 : List GData := [⟨by_ [83], [⟨by_ [82, 101, 100], [], 0⟩, ⟨by_ [71, 114, 101, 101, 110], [], 0⟩, ⟨by_ [66, 108, 117, 101], [], 0⟩, ⟨by_ [77, 105, 120], [tD 0 0, tD 0 0], 0⟩]⟩]
def worlds : List (List GData) := [w0, w1, w2, w3, w4, w5, w6]
def drawW (i : Nat) : Option (List GData × Bool) := m_spec_l1Texts.bind fun r => (idx r (i : Int)).bind fun x => m_spec_ParseWorld NN x
theorem drawW0 : drawW 0 = some (w0, true) := by kernel_rfl
theorem drawW1 : drawW 1 = some (w1, true) := by kernel_rfl
theorem drawW2 : drawW 2 = some (w2, true) := by kernel_rfl
theorem drawW3 : drawW 3 = some (w3, true) := by kernel_rfl
theorem drawW4 : drawW 4 = some (w4, true) := by kernel_rfl
theorem drawW5 : drawW 5 = some (w5, true) := by kernel_rfl
theorem drawW6 : drawW 6 = some (w6, true) := by kernel_rfl
theorem drawW_ok {i : Nat} (h : i < 7) : ∃ w, drawW i = some (w, true) ∧ w ∈ worlds := by
  match i, h with
  | 0, _ => exact ⟨_, drawW0, by simp [worlds]⟩
  | 1, _ => exact ⟨_, drawW1, by simp [worlds]⟩
  | 2, _ => exact ⟨_, drawW2, by simp [worlds]⟩
  | 3, _ => exact ⟨_, drawW3, by simp [worlds]⟩
  | 4, _ => exact ⟨_, drawW4, by simp [worlds]⟩
  | 5, _ => exact ⟨_, drawW5, by simp [worlds]⟩
  | 6, _ => exact ⟨_, drawW6, by simp [worlds]⟩
def tys (w : List GData) : List GType := tI :: (List.range w.length).flatMap fun (d : Nat) => (List.range 4).map fun (i : Nat) => tD d i
def ctorsP (w : List GData) (t : GType) : List Int := (m_spec_l1Ctors w t).getD []
def argsP (w : List GData) (t : GType) (k : Int) : List GType := (m_spec_l1Args w t k).getD []
def tabP (w : List GData) : List Int := (m_spec_l1Table NN w).getD []
def depP (w : List GData) (t : GType) : Int := (m_spec_l1Depth (tabP w) t).getD 0
def mostP (w : List GData) (t : GType) (k : Int) : Int := (m_spec_l1Most w (tabP w) t k).getD 0
def chkT (w : List GData) (t : GType) : Bool :=
  decide (m_spec_l1Ctors w t = some (ctorsP w t)) && decide (m_impl_ctorsOf w t = some (ctorsP w t)) &&
  (ctorsP w t).all (fun k => decide (m_spec_l1Args w t k = some (argsP w t k)) && decide (m_impl_argTypes w t k = some (argsP w t k)) && (argsP w t k).all (fun a => decide (a ∈ tys w)) && decide ((argsP w t k).length ≤ 3) &&
    decide (m_spec_l1Most w (tabP w) t k = some (mostP w t k)) && decide (0 ≤ mostP w t k) && (decide (mostP w t k = 0) || (argsP w t k).all (fun a => decide (1 ≤ depP w a) && decide (depP w a < mostP w t k)))) &&
  decide (m_impl_typeOk w t = some true) && decide (m_spec_l1Is w t = some true) && decide (m_spec_l1Depth (tabP w) t = some (depP w t)) && decide (0 ≤ depP w t) && decide (depP w t ≤ 4) && decide ((ctorsP w t).length ≤ 4) &&
  (decide (t.data = -1) || decide (depP w t = 0) || (ctorsP w t).any (fun k => decide (mostP w t k = depP w t))) && (decide (t.data ≠ -1) || (decide (t = tI) && decide (depP w t = 1)))
def chkW (w : List GData) : Bool :=
  (tys w).all (chkT w) && decide (m_spec_l1Table NN w = some (tabP w)) && decide (m_impl_WorldValid NN w = some true) && decide (m_spec_WorldValid NN w = some true) && decide (0 < w.length) && decide (w.length ≤ 2)
theorem chkWorlds : worlds.all chkW = true := by kernel_rfl
structure WT (w : List GData) (t : GType) : Prop where
  c1 : m_spec_l1Ctors w t = some (ctorsP w t)
  c2 : m_impl_ctorsOf w t = some (ctorsP w t)
  a1 : ∀ k ∈ ctorsP w t, m_spec_l1Args w t k = some (argsP w t k)
  a2 : ∀ k ∈ ctorsP w t, m_impl_argTypes w t k = some (argsP w t k)
  at_ : ∀ k ∈ ctorsP w t, ∀ a ∈ argsP w t k, a ∈ tys w
  al : ∀ k ∈ ctorsP w t, (argsP w t k).length ≤ 3
  m1 : ∀ k ∈ ctorsP w t, m_spec_l1Most w (tabP w) t k = some (mostP w t k)
  m0 : ∀ k ∈ ctorsP w t, 0 ≤ mostP w t k
  ma : ∀ k ∈ ctorsP w t, mostP w t k ≠ 0 → ∀ a ∈ argsP w t k, 1 ≤ depP w a ∧ depP w a < mostP w t k
  t1 : m_impl_typeOk w t = some true
  t2 : m_spec_l1Is w t = some true
  d1 : m_spec_l1Depth (tabP w) t = some (depP w t)
  d0 : 0 ≤ depP w t
  d4 : depP w t ≤ 4
  cl : (ctorsP w t).length ≤ 4
  dm : t.data ≠ -1 → depP w t ≠ 0 → ∃ k ∈ ctorsP w t, mostP w t k = depP w t
  ti : t.data = -1 → t = tI ∧ depP w t = 1
structure WW (w : List GData) : Prop where
  ty : ∀ t ∈ tys w, WT w t
  tab : m_spec_l1Table NN w = some (tabP w)
  v1 : m_impl_WorldValid NN w = some true
  v2 : m_spec_WorldValid NN w = some true
  pos : 0 < w.length
  le : w.length ≤ 2
theorem chkT_wt {w : List GData} {t : GType} (h : chkT w t = true) : WT w t := by
  simp only [chkT, Bool.and_eq_true, Bool.or_eq_true, decide_eq_true_eq, List.all_eq_true, List.any_eq_true] at h
  obtain ⟨⟨⟨⟨⟨⟨⟨⟨⟨⟨h1, h2⟩, h3⟩, h4⟩, h5⟩, h6⟩, h7⟩, h8⟩, h9⟩, h10⟩, h11⟩ := h
  have hk : ∀ k ∈ ctorsP w t, _ := h3
  refine ⟨h1, h2, fun k hk => (h3 k hk).1.1.1.1.1.1, fun k hk => (h3 k hk).1.1.1.1.1.2, fun k hk => (h3 k hk).1.1.1.1.2, fun k hk => (h3 k hk).1.1.1.2, fun k hk => (h3 k hk).1.1.2, fun k hk => (h3 k hk).1.2, fun k hk hm a ha => ?_, h4, h5, h6, h7, h8, h9, fun hd h0 => ?_, fun hd => ?_⟩
  · rcases (h3 k hk).2 with h | h
    · exact absurd h hm
    · exact h a ha
  · rcases h10 with (h | h) | h
    · exact absurd h hd
    · exact absurd h h0
    · exact h
  · rcases h11 with h | h
    · exact absurd hd h
    · exact h
theorem ww {w : List GData} (h : w ∈ worlds) : WW w := by
  have h := List.all_eq_true.1 chkWorlds w h
  simp only [chkW, Bool.and_eq_true, decide_eq_true_eq, List.all_eq_true] at h
  obtain ⟨⟨⟨⟨⟨h1, h2⟩, h3⟩, h4⟩, h5⟩, h6⟩ := h
  exact ⟨fun t ht => chkT_wt (h1 t ht), h2, h3, h4, h5, h6⟩
end Go.Proofs.YtmkamncbkkahjaaGreat
namespace Go.Proofs.YtmkamncbkkahjaaGreat
open Go Go.RowKit
instance : DecidableEq GVarType := fun a b => decidable_of_iff (a.var = b.var ∧ a.typ = b.typ) ⟨fun h => by cases a; cases b; simp at h; simp [h], fun h => by subst h; simp⟩
theorem has_ok (l : List Int) (x : Int) : m_spec_l1Has l x = some (decide (x ∈ l)) := by
  have h : Ret (m_spec_l1Has l x) (fun b => b = decide (x ∈ l)) := by
    unfold m_spec_l1Has
    refine Ret.ctl (forL_rule l (fun k _ => ∀ j, j < k → l[j]? ≠ some x) (fun r => r = true ∧ x ∈ l) (fun _ => x ∉ l) (fun j hj => by omega) (fun k y s hy hI => ?_) (fun s hI => ?_)) (fun r hr => ?_) (fun s hs => ?_)
    · refine Ret.ite (fun h => ?_) (fun h => ?_)
      · rw [ieq_true] at h
        exact .some ⟨rfl, h ▸ List.mem_of_getElem? hy⟩
      · rw [ieq_false] at h
        refine .some (fun j hj => ?_)
        by_cases hjk : j = k
        · subst hjk
          rw [hy]
          simpa using h
        · exact hI j (by omega)
    · intro hm
      obtain ⟨j, hj⟩ := List.mem_iff_getElem?.1 hm
      exact hI j ((List.getElem?_eq_some_iff.1 hj).1) hj
    · obtain ⟨rfl, hx⟩ := hr
      exact .some (by simp [hx])
    · exact .some (by simp [hs])
  obtain ⟨b, hb, rfl⟩ := h
  exact hb
theorem contains_int_ok (l : List Int) (x : Int) : m_slices_Contains_int l x = some (decide (x ∈ l)) := by
  have h : Ret (m_slices_Contains_int l x) (fun b => b = decide (x ∈ l)) := by
    unfold m_slices_Contains_int
    refine Ret.bind (P := fun r => (0 ≤ r ∧ x ∈ l) ∨ (r = -1 ∧ x ∉ l)) ?_ (fun a ha => ?_)
    · unfold m_slices_Index_int
      refine Ret.ctl (forL_rule l (fun k _ => ∀ j, j < k → l[j]? ≠ some x) (fun r => 0 ≤ r ∧ x ∈ l) (fun _ => x ∉ l) (fun j hj => by omega) (fun k y s hy hI => ?_) (fun s hI => ?_)) (fun r hr => ?_) (fun s hs => ?_)
      · refine Ret.ite (fun h => ?_) (fun h => ?_)
        · rw [ieq_true] at h
          exact .some ⟨by omega, h ▸ List.mem_of_getElem? hy⟩
        · rw [ieq_false] at h
          refine .some (fun j hj => ?_)
          by_cases hjk : j = k
          · subst hjk
            rw [hy]
            simpa using fun e => h e.symm
          · exact hI j (by omega)
      · intro hm
        obtain ⟨j, hj⟩ := List.mem_iff_getElem?.1 hm
        exact hI j ((List.getElem?_eq_some_iff.1 hj).1) hj
      · exact .some (.inl hr)
      · exact .some (.inr ⟨rfl, hs⟩)
    · rcases ha with ⟨h1, h2⟩ | ⟨rfl, h2⟩
      · exact .some (by simp [ile, h1, h2])
      · exact .some (by simp [ile, h2])
  obtain ⟨b, hb, rfl⟩ := h
  exact hb
theorem index_func {α : Type} (l : List α) (f : α → Option Bool) (g : α → Bool) (hf : ∀ x ∈ l, f x = some (g x)) :
    Ret ((forL (fun (k : Nat) (x : α) (s : Unit) => ((f x).bind fun r => (if r = true then some (Ctl.ret (k : Int)) else some (Ctl.go ())))) 0 l ()).bind fun (o : Ctl Int Unit) => match o with
      | .ret r => some r
      | .go _ => none
      | .brk _ => some (-1)) (fun i => (∃ k x, i = ((k : Nat) : Int) ∧ l[k]? = some x ∧ g x = true) ∨ (i = -1 ∧ ∀ x ∈ l, g x = false)) := by
  refine Ret.ctl (forL_rule l (fun k _ => ∀ j x, j < k → l[j]? = some x → g x = false) (fun i => ∃ k x, i = ((k : Nat) : Int) ∧ l[k]? = some x ∧ g x = true) (fun _ => ∀ x ∈ l, g x = false) (fun j x hj => by omega) (fun k y s hy hI => ?_) (fun s hI => ?_)) (fun r hr => ?_) (fun s hs => ?_)
  · rw [hf y (List.mem_of_getElem? hy)]
    show Ret (if g y = true then _ else _) _
    refine Ret.ite (fun h => ?_) (fun h => ?_)
    · exact .some ⟨k, y, rfl, hy, h⟩
    · refine .some (fun j x hj hx => ?_)
      by_cases hjk : j = k
      · subst hjk
        rw [hy] at hx
        cases hx
        exact h
      · exact hI j x (by omega) hx
  · intro x hm
    obtain ⟨j, hj⟩ := List.mem_iff_getElem?.1 hm
    exact hI j x ((List.getElem?_eq_some_iff.1 hj).1) hj
  · exact .some (.inl hr)
  · exact .some (.inr ⟨rfl, hs⟩)
theorem any_of {α : Type} {l : List α} {g : α → Bool} {x : Option Int} (h : Ret x (fun i => (∃ k x, i = ((k : Nat) : Int) ∧ l[k]? = some x ∧ g x = true) ∨ (i = -1 ∧ ∀ x ∈ l, g x = false))) : (x.bind fun r => some (ile 0 r)) = some (l.any g) := by
  obtain ⟨i, rfl, h⟩ := h
  rcases h with ⟨k, x, rfl, h2, h3⟩ | ⟨rfl, h2⟩
  · have : l.any g = true := List.any_eq_true.2 ⟨x, List.mem_of_getElem? h2, h3⟩
    rw [this]
    simp [ile]
  · have : l.any g = false := by simpa using h2
    rw [this]
    simp [ile]
theorem containsF_Clause (l : List GClause) (f : GClause → Option Bool) (g : GClause → Bool) (hf : ∀ x ∈ l, f x = some (g x)) : m_slices_ContainsFunc_Clause l f = some (l.any g) := any_of (index_func l f g hf)
theorem containsF_VarType (l : List GVarType) (f : GVarType → Option Bool) (g : GVarType → Bool) (hf : ∀ x ∈ l, f x = some (g x)) : m_slices_ContainsFunc_VarType l f = some (l.any g) := any_of (index_func l f g hf)
theorem eqAll_vt (a b : GVarType) : eqAll [ieq a.var b.var, ieq a.typ.data b.typ.data, ieq a.typ.index b.typ.index] = decide (a = b) := by
  obtain ⟨v, d, i⟩ := a
  obtain ⟨v', d', i'⟩ := b
  simp [eqAll, ieq]
theorem contains_vt (l : List GVarType) (x : GVarType) : m_slices_Contains_VarType l x = some (decide (x ∈ l)) := by
  have := any_of (index_func l (fun y => some (decide (x = y))) (fun y => decide (x = y)) (fun _ _ => rfl))
  have e : l.any (fun y => decide (x = y)) = decide (x ∈ l) := by
    rw [Bool.eq_iff_iff]
    simp
  rw [e] at this
  unfold m_slices_Contains_VarType m_slices_Index_VarType
  simp only [eqAll_vt]
  exact this
theorem sameVars_ok (a b : List GVarType) : m_impl_sameVars a b = some (decide (a.length = b.length) && a.all fun v => decide (v ∈ b)) := by
  unfold m_impl_sameVars
  by_cases h : a.length = b.length
  · have h1 : ieq (lenZ a.length) (lenZ b.length) = true := by rw [ieq_true]; simp [lenZ, h]
    rw [if_pos h1, containsF_VarType a _ (fun v => !decide (v ∈ b)) (fun x _ => by unfold m_impl_sameVars_1; rw [contains_vt]; rfl)]
    simp only [Option.bind_some, h, decide_true, Bool.true_and, Option.some.injEq]
    rw [Bool.eq_iff_iff]
    simp
  · have h1 : ¬ ieq (lenZ a.length) (lenZ b.length) = true := by rw [ieq_true]; simp only [lenZ]; omega
    rw [if_neg h1]
    simp [h]
def ownOk (w : List GData) (t : GType) (p : GPattern) : Bool :=
  (if p.op = 2 ∨ p.op = 6 then decide (0 ≤ p.var) && decide (p.var ≤ 5) else decide (p.var = 0)) && (decide (p.op = 3) || (decide (p.n = 0) && decide (p.m = 0))) && (decide (p.op = 4) || decide (p.ctor = 0)) &&
  (decide (p.op = 1 ∨ p.op = 2 ∨ p.op = 5 ∨ p.op = 6) || (decide (p.op = 3) && decide (t.data = -1) && decide (0 ≤ p.n) && decide (p.n ≤ p.m) && decide (p.m ≤ 9)) || (decide (p.op = 4) && decide (p.ctor ∈ ctorsP w t)))
def kidsT (w : List GData) (t : GType) (p : GPattern) : List GType := if p.op = 4 then argsP w t p.ctor else if p.op = 5 then [t, t] else if p.op = 6 then [t] else []
def nodeOk (w : List GData) (t : GType) (p : GPattern) : Bool := ownOk w t p && decide (p.kids.length = (kidsT w t p).length)
theorem within_ok (a b c : Int) : m_impl_within a b c = some (decide (b ≤ a) && decide (a ≤ c)) := by
  unfold m_impl_within
  by_cases h : b ≤ a <;> simp [ile, h]
theorem own_ok {w : List GData} {t : GType} (hw : WT w t) (p : GPattern) : m_spec_l3Own w t p = some (ownOk w t p) := by
  obtain ⟨op, ctor, n, m, v, kids⟩ := p
  unfold m_spec_l3Own ownOk
  simp only [hw.c1, Option.bind_some, has_ok]
  by_cases h1 : op = 1
  · subst h1; simp [ieq, ilt, ile]; (repeat' split) <;> simp_all
  by_cases h2 : op = 2
  · subst h2; simp [ieq, ilt, ile]; (repeat' split) <;> simp_all <;> omega
  by_cases h3 : op = 3
  · subst h3; simp [ieq, ilt, ile]; (repeat' split) <;> simp_all <;> (intros; omega)
  by_cases h4 : op = 4
  · subst h4; simp [ieq, ilt, ile]; (repeat' split) <;> simp_all
  by_cases h5 : op = 5
  · subst h5; simp [ieq, ilt, ile]; (repeat' split) <;> simp_all
  by_cases h6 : op = 6
  · subst h6; simp [ieq, ilt, ile]; (repeat' split) <;> simp_all <;> omega
  simp [ieq, ilt, ile, h1, h2, h3, h4, h5, h6]; (repeat' split) <;> simp_all
theorem only_ok (p : GPattern) (a b c : Bool) (k : Int) : m_impl_only p a b c k = some ((a || decide (p.ctor = 0)) && (b || (decide (p.n = 0) && decide (p.m = 0))) && (c || decide (p.var = 0)) && decide ((p.kids.length : Int) = k)) := by
  unfold m_impl_only
  by_cases h1 : p.ctor = 0 <;> by_cases h2 : p.n = 0 <;> by_cases h3 : p.m = 0 <;> by_cases h4 : p.var = 0 <;> cases a <;> cases b <;> cases c <;> simp [ieq, lenZ, h1, h2, h3, h4] <;> exact decide_eq_decide.2 Iff.rfl
theorem isVar_ok (v : Int) : m_impl_isVar v = some (decide (0 ≤ v) && decide (v ≤ 5)) := by
  unfold m_impl_isVar
  rw [within_ok]
  rfl
theorem shape_ok {w : List GData} {t : GType} (hw : WT w t) (p : GPattern) : ∃ ts, m_impl_shape w t p = some (ts, nodeOk w t p) ∧ (nodeOk w t p = true → ts = kidsT w t p) := by
  obtain ⟨op, ctor, n, m, v, kids⟩ := p
  unfold m_impl_shape nodeOk ownOk kidsT
  simp only [hw.c2, Option.bind_some, contains_int_ok, only_ok, isVar_ok]
  by_cases h1 : op = 1
  · subst h1; exact ⟨[], by simp [ieq]; rw [Bool.eq_iff_iff]; simp; grind, by simp⟩
  by_cases h2 : op = 2
  · subst h2; exact ⟨[], by simp [ieq]; split <;> simp <;> grind, by simp⟩
  by_cases h3 : op = 3
  · subst h3; exact ⟨[], by simp [ieq, ile]; (repeat' split) <;> simp <;> grind, by simp⟩
  by_cases h4 : op = 4
  · subst h4
    by_cases hc : ctor ∈ ctorsP w t
    · refine ⟨argsP w t ctor, ?_, by simp⟩
      simp [ieq, hc, hw.a2 ctor hc, lenZ]
      grind
    · exact ⟨[], by simp [ieq, hc], by simp [hc]⟩
  by_cases h5 : op = 5
  · subst h5; exact ⟨[t, t], by simp [ieq]; grind, by simp⟩
  by_cases h6 : op = 6
  · subst h6; exact ⟨[t], by simp [ieq]; split <;> simp <;> grind, by simp⟩
  exact ⟨[], by simp [ieq, h1, h2, h3, h4, h5, h6], by simp [h1, h2, h3, h4, h5, h6]⟩
theorem kids_ok (op : Int) : m_spec_l3Kids op = some (if op = 5 then 2 else if op = 6 then 1 else if op = 4 then -1 else 0) := by
  unfold m_spec_l3Kids
  by_cases h1 : op = 5 <;> by_cases h2 : op = 6 <;> by_cases h3 : op = 4 <;> simp [ieq, h1, h2, h3]
theorem types_ok {w : List GData} {t : GType} (hw : WT w t) (p : GPattern) (h : p.op = 4 → p.ctor ∈ ctorsP w t) {n : Nat} (hn : 4 ≤ n) : m_spec_l3Types n w t p = some (kidsT w t p) := by
  obtain ⟨m, rfl⟩ : ∃ m, n = m + 4 := ⟨n - 4, by omega⟩
  unfold m_spec_l3Types kidsT
  by_cases h4 : p.op = 4
  · simp [ieq, h4, hw.a1 p.ctor (h h4)]
  · have w1 : wadd .i64 0 1 = 1 := rfl
    have w2 : wadd .i64 1 1 = 2 := rfl
    by_cases h5 : p.op = 5
    · simp [ieq, h5, whileL, kids_ok, ilt, app, w1, w2, rowLimit]
    · by_cases h6 : p.op = 6
      · simp [ieq, h6, whileL, kids_ok, ilt, app, w1, w2, rowLimit]
      · simp [ieq, h4, h5, h6, whileL, kids_ok, ilt]
def goodB (w : List GData) : Nat → GType → GPattern → Bool
  | 0, _, _ => false
  | d + 1, t, p => nodeOk w t p && ((kidsT w t p).zip p.kids).all fun x => goodB w d x.1 x.2
def ownV (t : GType) (p : GPattern) : List GVarType := if p.op = 2 ∨ p.op = 6 then [⟨p.var, t⟩] else []
def varsD (w : List GData) : Nat → GType → GPattern → List GVarType
  | 0, _, _ => []
  | d + 1, t, p => ownV t p ++ (((kidsT w t p).zip p.kids).take (if p.op = 5 then 1 else p.kids.length)).flatMap fun x => varsD w d x.1 x.2
def distinct (l : List GVarType) : Bool := decide (l.map (·.var)).Nodup
def alikeB (a b : List GVarType) : Bool := decide (a.length = b.length) && a.all fun v => decide (v ∈ b)
def kv (w : List GData) (d : Nat) (t : GType) (p : GPattern) (i : Nat) : List GVarType := ((kidsT w t p).zip p.kids)[i]?.elim [] fun x => varsD w d x.1 x.2
def linD (w : List GData) : Nat → GType → GPattern → Bool
  | 0, _, _ => true
  | d + 1, t, p => (((kidsT w t p).zip p.kids).all fun x => linD w d x.1 x.2) && if p.op = 5 then alikeB (kv w d t p 0) (kv w d t p 1) else distinct (varsD w (d + 1) t p)
theorem good_node {w : List GData} {d : Nat} {t : GType} {p : GPattern} (h : goodB w d t p = true) : nodeOk w t p = true := by
  cases d with
  | zero => cases h
  | succ d => simp only [goodB, Bool.and_eq_true] at h; exact h.1
theorem node_own {w : List GData} {t : GType} {p : GPattern} (h : nodeOk w t p = true) : ownOk w t p = true ∧ p.kids.length = (kidsT w t p).length := by
  simp only [nodeOk, Bool.and_eq_true, decide_eq_true_eq] at h
  exact h
theorem own_ctor {w : List GData} {t : GType} {p : GPattern} (h : ownOk w t p = true) : p.op = 4 → p.ctor ∈ ctorsP w t := fun h4 => by
  simp [ownOk, h4] at h
  exact h.2
theorem kidsT_tys {w : List GData} {t : GType} (hw : WT w t) (ht : t ∈ tys w) {p : GPattern} (h : ownOk w t p = true) : ∀ a ∈ kidsT w t p, a ∈ tys w := fun a ha => by
  unfold kidsT at ha
  split at ha
  · rename_i h4; exact hw.at_ _ (own_ctor h h4) a ha
  · split at ha
    · simp at ha; rw [ha]; exact ht
    · split at ha
      · simp at ha; rw [ha]; exact ht
      · simp at ha
theorem kidsT_len {w : List GData} {t : GType} (hw : WT w t) {p : GPattern} (h : ownOk w t p = true) : (kidsT w t p).length ≤ 3 := by
  unfold kidsT
  split
  · rename_i h4; exact hw.al _ (own_ctor h h4)
  · split
    · simp
    · split <;> simp
theorem zip_get {α β : Type} {l : List α} {m : List β} {k : Nat} {a : α} {b : β} (h1 : l[k]? = some a) (h2 : m[k]? = some b) : (l.zip m)[k]? = some (a, b) := by
  rw [List.getElem?_zip_eq_some]; exact ⟨h1, h2⟩
theorem good_kid {w : List GData} {d : Nat} {t : GType} {p : GPattern} (h : goodB w (d + 1) t p = true) {k : Nat} {a : GType} {q : GPattern} (h1 : (kidsT w t p)[k]? = some a) (h2 : p.kids[k]? = some q) : goodB w d a q = true := by
  simp only [goodB, Bool.and_eq_true, List.all_eq_true] at h
  exact h.2 (a, q) (List.mem_of_getElem? (zip_get h1 h2))
theorem specShape_ok {w : List GData} (hw : WW w) : ∀ (d n : Nat) (t : GType) (p : GPattern), t ∈ tys w → d + 4 ≤ n → d ≤ 100 → m_spec_l3Shape n w t p (d : Int) = some (goodB w d t p) := by
  intro d
  induction d with
  | zero =>
    intro n t p ht hn hd
    obtain ⟨m, rfl⟩ : ∃ m, n = m + 1 := ⟨n - 1, by omega⟩
    simp [m_spec_l3Shape, ilt, goodB]
  | succ d ih =>
    intro n t p ht hn hd
    obtain ⟨m, rfl⟩ : ∃ m, n = m + 1 := ⟨n - 1, by omega⟩
    have hT := hw.ty t ht
    unfold m_spec_l3Shape goodB
    have h1 : ¬ ilt ((d + 1 : Nat) : Int) 1 = true := by rw [ilt_true]; omega
    rw [if_neg h1, own_ok hT]
    simp only [Option.bind_some]
    cases ho : ownOk w t p with
    | false => simp [nodeOk, ho]
    | true =>
      simp only [Bool.not_true, Bool.false_eq_true, if_false]
      rw [types_ok hT p (own_ctor ho) (by omega)]
      simp only [Option.bind_some]
      by_cases hl : p.kids.length = (kidsT w t p).length
      · have h2 : ¬ (!ieq (lenZ p.kids.length) (lenZ (kidsT w t p).length)) = true := by simp [ieq, lenZ, hl]
        rw [if_neg h2]
        have hnode : nodeOk w t p = true := by simp [nodeOk, ho, hl]
        rw [hnode, Bool.true_and]
        have hws : wsub .i64 ((d + 1 : Nat) : Int) 1 = (d : Int) := by
          rw [wsub_ok (by omega) (by omega)]; omega
        have key : Ret ((forL (fun k102 x103 (s96 : Unit) =>
            ((idx p.kids (k102 : Int)).bind fun x111 =>
            ((m_spec_l3Shape m w x103 x111 (wsub .i64 ((d + 1 : Nat) : Int) 1)).bind fun r112 =>
            (if (!r112) = true then
            some (Ctl.ret (false))
            else
            some (Ctl.go ()))))) 0 (kidsT w t p) ())) (CtlQ (fun b => b = false ∧ (((kidsT w t p).zip p.kids).all fun x => goodB w d x.1 x.2) = false) (fun _ => (((kidsT w t p).zip p.kids).all fun x => goodB w d x.1 x.2) = true)) := by
          refine forL_rule (kidsT w t p) (fun k _ => ∀ j a q, j < k → (kidsT w t p)[j]? = some a → p.kids[j]? = some q → goodB w d a q = true) _ _ (fun j a q hj => by omega) (fun k a s ha hI => ?_) (fun s hI => ?_)
          · have hlt : k < p.kids.length := by have := (List.getElem?_eq_some_iff.1 ha).1; omega
            have hq : p.kids[k]? = some p.kids[k] := by simp [hlt]
            rw [idx_ok hq]
            simp only [Option.bind_some]
            rw [hws, ih m a p.kids[k] (kidsT_tys hT ht ho a (List.mem_of_getElem? ha)) (by omega) (by omega)]
            simp only [Option.bind_some]
            cases hg : goodB w d a p.kids[k] with
            | false =>
              refine .some ⟨rfl, ?_⟩
              rw [List.all_eq_false]
              exact ⟨(a, p.kids[k]), List.mem_of_getElem? (zip_get ha hq), by simp [hg]⟩
            | true =>
              refine .some (fun j a' q' hj ha' hq' => ?_)
              by_cases hjk : j = k
              · subst hjk
                rw [ha] at ha'
                rw [hq] at hq'
                cases ha'
                cases hq'
                exact hg
              · exact hI j a' q' (by omega) ha' hq'
          · rw [List.all_eq_true]
            intro x hx
            obtain ⟨j, hj⟩ := List.mem_iff_getElem?.1 hx
            obtain ⟨h3, h4⟩ := List.getElem?_zip_eq_some.1 hj
            exact hI j x.1 x.2 ((List.getElem?_eq_some_iff.1 h3).1) h3 h4
        have := Ret.ctl (Q := fun b => b = (((kidsT w t p).zip p.kids).all fun x => goodB w d x.1 x.2)) key (g := fun (o95 : Ctl Bool Unit) => match o95 with
          | .ret r => some r
          | .go _ => none
          | .brk s106 => some (true)) (fun r hr => .some (by rw [hr.1, hr.2])) (fun s hs => .some (by rw [hs]))
        obtain ⟨b, e, rfl⟩ := this
        exact e
      · have h2 : (!ieq (lenZ p.kids.length) (lenZ (kidsT w t p).length)) = true := by rw [Bool.not_eq_true', ieq_false]; simp only [lenZ]; omega
        rw [if_pos h2]
        simp [nodeOk, hl]
def cntP : GPattern → Nat
  | ⟨_, _, _, _, _, kids⟩ => 1 + cntPs kids
where cntPs : List GPattern → Nat
  | [] => 0
  | p :: l => cntP p + cntPs l
theorem cntP_eq (p : GPattern) : cntP p = 1 + cntP.cntPs p.kids := by cases p; rw [cntP]
theorem cntPs_drop : ∀ (l : List GPattern) (k : Nat) (q : GPattern), l[k]? = some q → cntP.cntPs (l.take (k + 1)) = cntP.cntPs (l.take k) + cntP q
  | [], k, q, h => by simp at h
  | p :: l, 0, q, h => by simp at h; subst h; simp [cntP.cntPs]
  | p :: l, k + 1, q, h => by
    have := cntPs_drop l k q (by simpa using h)
    simp only [List.take_succ_cons, cntP.cntPs]
    omega
theorem cntPs_take_le : ∀ (l : List GPattern) (k : Nat), cntP.cntPs (l.take k) ≤ cntP.cntPs l
  | [], k => by simp
  | p :: l, 0 => by simp [cntP.cntPs]
  | p :: l, k + 1 => by
    have := cntPs_take_le l k
    simp only [List.take_succ_cons, cntP.cntPs]
    omega
theorem cntP_pos (p : GPattern) : 1 ≤ cntP p := by rw [cntP_eq]; omega
theorem specCount_ok : ∀ (n : Nat) (p : GPattern) (most : Nat), most < n → most ≤ 1000 → m_spec_l3Count n p (most : Int) = some ((min (cntP p) (most + 1) : Nat) : Int) := by
  intro n
  induction n with
  | zero => intro p most h; omega
  | succ n ih =>
    intro p most hn hm
    unfold m_spec_l3Count
    have key := forL_rule (ρ := Int) (f := fun k94 x95 (s88 : Int) =>
      (if (ile s88 (most : Int)) = true then
      ((m_spec_l3Count n x95 (wsub .i64 (most : Int) s88)).bind fun r103 =>
      some (Ctl.go (wadd .i64 s88 r103)))
      else
      some (Ctl.brk s88))) p.kids (s0 := 1) (fun k s => ∃ m : Nat, s = (m : Int) ∧ m = min (1 + cntP.cntPs (p.kids.take k)) (most + 1)) (fun _ => False) (fun s => s = ((min (cntP p) (most + 1) : Nat) : Int)) ⟨1, rfl, by simp [cntP.cntPs]⟩ (fun k q s hq hI => ?_) (fun s hI => ?_)
    · have := Ret.ctl (Q := fun b => b = ((min (cntP p) (most + 1) : Nat) : Int)) key (g := fun (o : Ctl Int Int) => match o with
        | .ret r => some r
        | .go _ => none
        | .brk s => some s) (fun r hr => hr.elim) (fun s hs => .some hs)
      obtain ⟨b, e, rfl⟩ := this
      exact e
    · obtain ⟨m, rfl, hm2⟩ := hI
      refine Ret.ite (fun h => ?_) (fun h => ?_)
      · rw [ile_true] at h
        have hle : m ≤ most := by omega
        have hws : wsub .i64 (most : Int) (m : Int) = ((most - m : Nat) : Int) := by rw [wsub_ok (by omega) (by omega)]; omega
        rw [hws, ih q (most - m) (by omega) (by omega)]
        simp only [Option.bind_some]
        rw [wadd_ok (by omega) (by omega)]
        refine .some ⟨m + min (cntP q) (most - m + 1), by push_cast; rfl, ?_⟩
        rw [cntPs_drop p.kids k q hq]
        omega
      · rw [ile_false] at h
        refine .some ?_
        have h1 := cntPs_take_le p.kids k
        have h2 := cntP_eq p
        show (m : Int) = _
        have : m = min (cntP p) (most + 1) := by omega
        rw [this]
    · obtain ⟨m, rfl, hm2⟩ := hI
      rw [List.take_length] at hm2
      have h2 := cntP_eq p
      have : m = min (cntP p) (most + 1) := by omega
      rw [this]
theorem specVars_ok {w : List GData} (hw : WW w) : ∀ (d n : Nat) (t : GType) (p : GPattern) (out : List GVarType), t ∈ tys w → goodB w d t p = true → d + 4 ≤ n → out.length + cntP p ≤ 100000 → m_spec_l3Vars n out w t p = some (out ++ varsD w d t p) ∧ (varsD w d t p).length ≤ cntP p := by
  intro d
  induction d with
  | zero => intro n t p out ht hg; cases hg
  | succ d ih =>
    intro n t p out ht hg hn hout
    obtain ⟨m, rfl⟩ : ∃ m, n = m + 1 := ⟨n - 1, by omega⟩
    have hT := hw.ty t ht
    obtain ⟨ho, hl⟩ := node_own (good_node hg)
    unfold m_spec_l3Vars
    have hfirst : (((if (ieq p.op 2) = true then
        ((app out [(GVarType.mk p.var t)]).bind fun x20 => some (Ctl.brk x20))
        else
        (if (ieq p.op 6) = true then
        ((app out [(GVarType.mk p.var t)]).bind fun x22 => some (Ctl.brk x22))
        else
        some (Ctl.brk out)))) : Option (Ctl (List GVarType) (List GVarType))) = some (Ctl.brk (out ++ ownV t p)) := by
      have ha : app out [(GVarType.mk p.var t)] = some (out ++ [(GVarType.mk p.var t)]) := app_ok (by simp [rowLimit]; omega)
      by_cases h2 : p.op = 2
      · simp [ieq, h2, ha, ownV]
      · by_cases h6 : p.op = 6
        · simp [ieq, h6, ha, ownV]
        · simp [ieq, h2, h6, ownV]
    rw [hfirst]
    simp only [Option.bind_some]
    rw [types_ok hT p (own_ctor ho) (by omega)]
    simp only [Option.bind_some]
    have hcnt := cntP_eq p
    have hown : (ownV t p).length ≤ 1 := by unfold ownV; split <;> simp
    have key := forL_rule (ρ := List GVarType) (f := fun k179 x180 (s173 : List GVarType) =>
      (((if (ieq (k179 : Int) 0) = true then
      some (Ctl.brk ())
      else
      (if (!ieq p.op 5) = true then
      some (Ctl.brk ())
      else
      some (Ctl.ret (Ctl.brk s173))))).bind fun (o190 : Ctl (Ctl (List GVarType) (List GVarType)) (Unit)) => match o190 with
      | .ret r => some r
      | .go _ => none
      | .brk s189 =>
      ((idx p.kids (k179 : Int)).bind fun x201 =>
      ((m_spec_l3Vars m s173 w x180 x201).bind fun r202 =>
      some (Ctl.go r202))))) (kidsT w t p) (s0 := out ++ ownV t p)
      (fun k s => s = out ++ (ownV t p ++ (((kidsT w t p).zip p.kids).take k).flatMap fun x => varsD w d x.1 x.2) ∧ k ≤ (if p.op = 5 then 1 else p.kids.length) ∧ s.length ≤ out.length + 1 + cntP.cntPs (p.kids.take k))
      (fun _ => False) (fun s => s = out ++ varsD w (d + 1) t p ∧ s.length ≤ out.length + cntP p) ⟨by simp, by split <;> omega, by simp; omega⟩ (fun k a s ha hI => ?_) (fun s hI => ?_)
    · have := Ret.ctl (Q := fun b => b = out ++ varsD w (d + 1) t p ∧ b.length ≤ out.length + cntP p) key (g := fun (o : Ctl (List GVarType) (List GVarType)) => match o with
        | .ret r => some r
        | .go _ => none
        | .brk s => some s) (fun r hr => hr.elim) (fun s hs => .some hs)
      obtain ⟨b, e, rfl, h2⟩ := this
      refine ⟨e, ?_⟩
      rw [List.length_append] at h2
      omega
    · obtain ⟨hs, hk, hlen⟩ := hI
      have hlt : k < p.kids.length := by have := (List.getElem?_eq_some_iff.1 ha).1; omega
      have hq : p.kids[k]? = some p.kids[k] := by simp [hlt]
      have h1 := cntPs_drop p.kids k _ hq
      have h2 := cntPs_take_le p.kids (k + 1)
      have hpos := cntP_pos p.kids[k]
      have go : ∀ (hk2 : k + 1 ≤ (if p.op = 5 then 1 else p.kids.length)), Ret ((idx p.kids (k : Int)).bind fun x201 =>
          ((m_spec_l3Vars m s w a x201).bind fun r202 =>
          some (Ctl.go (ρ := List GVarType) r202))) (RndQ (fun _ => False) (fun s => s = out ++ varsD w (d + 1) t p ∧ s.length ≤ out.length + cntP p) (fun s => s = out ++ (ownV t p ++ (((kidsT w t p).zip p.kids).take (k + 1)).flatMap fun x => varsD w d x.1 x.2) ∧ k + 1 ≤ (if p.op = 5 then 1 else p.kids.length) ∧ s.length ≤ out.length + 1 + cntP.cntPs (p.kids.take (k + 1)))) := fun hk2 => by
        rw [idx_ok hq]
        simp only [Option.bind_some]
        obtain ⟨e1, e2⟩ := ih m a p.kids[k] s (kidsT_tys hT ht ho a (List.mem_of_getElem? ha)) (good_kid hg ha hq) (by omega) (by omega)
        rw [e1]
        refine .some ⟨?_, hk2, ?_⟩
        · rw [List.take_add_one, zip_get ha hq, hs]
          simp
        · rw [List.length_append]
          omega
      by_cases h5 : p.op = 5
      · by_cases hk0 : k = 0
        · subst hk0
          have h0 : ieq ((0 : Nat) : Int) 0 = true := rfl
          rw [if_pos h0]
          exact go (by rw [if_pos h5]; omega)
        · rw [if_pos h5] at hk
          have hk1 : k = 1 := by omega
          subst hk1
          have h0 : ¬ ieq ((1 : Nat) : Int) 0 = true := by decide
          have h50 : ¬ (!ieq p.op 5) = true := by simp [ieq, h5]
          rw [if_neg h0, if_neg h50]
          refine .some ⟨?_, ?_⟩
          · rw [hs]
            simp only [varsD, if_pos h5]
          · have := cntPs_take_le p.kids 1
            omega
      · have h50 : (!ieq p.op 5) = true := by simp [ieq, h5]
        have : (if (ieq (k : Int) 0) = true then some (Ctl.brk (ρ := Ctl (List GVarType) (List GVarType)) ()) else (if (!ieq p.op 5) = true then some (Ctl.brk ()) else some (Ctl.ret (Ctl.brk s)))) = some (Ctl.brk ()) := by
          rw [if_pos h50]
          split <;> rfl
        rw [this]
        exact go (by rw [if_neg h5]; omega)
    · obtain ⟨hs, hk, hlen⟩ := hI
      rw [← hl] at hs hk hlen
      by_cases h5 : p.op = 5
      · rw [if_pos h5] at hk
        have : (kidsT w t p).length = 2 := by simp [kidsT, h5]
        omega
      · refine ⟨?_, ?_⟩
        · rw [hs]
          simp only [varsD, if_neg h5]
        · rw [List.take_length] at hlen
          omega
end Go.Proofs.YtmkamncbkkahjaaGreat
namespace Go.Proofs.YtmkamncbkkahjaaGreat
open Go Go.RowKit
theorem find_ok (l : List GVarType) (v : Int) : Ret (m_spec_l3Find l v) (fun i => (∃ k x, i = ((k : Nat) : Int) ∧ l[k]? = some x ∧ x.var = v ∧ ∀ j y, j < k → l[j]? = some y → y.var ≠ v) ∨ (i = -1 ∧ ∀ x ∈ l, x.var ≠ v)) := by
  unfold m_spec_l3Find
  refine Ret.ctl (forL_rule l (fun k _ => ∀ j x, j < k → l[j]? = some x → x.var ≠ v) (fun i => ∃ k x, i = ((k : Nat) : Int) ∧ l[k]? = some x ∧ x.var = v ∧ ∀ j y, j < k → l[j]? = some y → y.var ≠ v) (fun _ => ∀ x ∈ l, x.var ≠ v) (fun j x hj => by omega) (fun k y s hy hI => ?_) (fun s hI => ?_)) (fun r hr => ?_) (fun s hs => ?_)
  · refine Ret.ite (fun h => ?_) (fun h => ?_)
    · rw [ieq_true] at h
      exact .some ⟨k, y, rfl, hy, h, hI⟩
    · rw [ieq_false] at h
      refine .some (fun j x hj hx => ?_)
      by_cases hjk : j = k
      · subst hjk
        rw [hy] at hx
        cases hx
        exact h
      · exact hI j x (by omega) hx
  · intro x hm
    obtain ⟨j, hj⟩ := List.mem_iff_getElem?.1 hm
    exact hI j x ((List.getElem?_eq_some_iff.1 hj).1) hj
  · exact .some (.inl hr)
  · exact .some (.inr ⟨rfl, hs⟩)
theorem distinct_get {l : List GVarType} (h : distinct l = true) {i j : Nat} {x y : GVarType} (hi : l[i]? = some x) (hj : l[j]? = some y) (he : x.var = y.var) : i = j := by
  unfold distinct at h
  have h := of_decide_eq_true h
  have hi' : (l.map (·.var))[i]? = some x.var := by simp [hi]
  have hj' : (l.map (·.var))[j]? = some x.var := by simp [hj, he]
  have hil := (List.getElem?_eq_some_iff.1 hi').1
  exact (List.getElem?_inj hil h).1 (hi'.trans hj'.symm)
theorem distinct_of {l : List GVarType} (h : ∀ (i j : Nat) (x y : GVarType), l[i]? = some x → l[j]? = some y → x.var = y.var → i = j) : distinct l = true := by
  unfold distinct
  refine decide_eq_true (List.pairwise_iff_getElem.2 fun i j hi hj hij he => ?_)
  simp only [List.length_map] at hi hj
  simp only [List.getElem_map] at he
  have := h i j l[i] l[j] (by simp [hi]) (by simp [hj]) he
  omega
theorem alike_ok (a b : List GVarType) (hb : distinct b = true) : m_spec_l3Alike a b = some (alikeB a b) := by
  have h : Ret (m_spec_l3Alike a b) (fun r => r = alikeB a b) := by
    unfold m_spec_l3Alike
    refine Ret.ctl (forL_rule a (fun k _ => ∀ j x, j < k → a[j]? = some x → x ∈ b) (fun r => r = false ∧ ∃ x ∈ a, x ∉ b) (fun _ => ∀ x ∈ a, x ∈ b) (fun j x hj => by omega) (fun k y s hy hI => ?_) (fun s hI => ?_)) (fun r hr => ?_) (fun s hs => ?_)
    · refine Ret.bind (find_ok b y.var) (fun i hi => ?_)
      rcases hi with ⟨q, x, rfl, hx, hv, _⟩ | ⟨rfl, hno⟩
      · have h1 : ¬ ilt ((q : Nat) : Int) 0 = true := by rw [ilt_true]; omega
        rw [if_neg h1, idx_ok hx]
        simp only [Option.bind_some]
        by_cases ht : x.typ = y.typ
        · have hxy : x = y := by cases x; cases y; simp_all
          have h2 : ¬ (!eqAll [ieq x.typ.data y.typ.data, ieq x.typ.index y.typ.index]) = true := by rw [ht]; simp [eqAll, ieq]
          rw [if_neg h2]
          refine .some (fun j z hj hz => ?_)
          by_cases hjk : j = k
          · subst hjk
            rw [hy] at hz
            cases hz
            rw [← hxy]
            exact List.mem_of_getElem? hx
          · exact hI j z (by omega) hz
        · have h2 : (!eqAll [ieq x.typ.data y.typ.data, ieq x.typ.index y.typ.index]) = true := by
            have : ¬ (x.typ.data = y.typ.data ∧ x.typ.index = y.typ.index) := fun e => ht (by cases hx : x.typ; cases hy : y.typ; rw [hx, hy] at e; simp_all)
            simp only [eqAll, ieq, List.all_cons, List.all_nil, id, Bool.and_true, Bool.not_eq_true', Bool.and_eq_false_iff, decide_eq_false_iff_not]
            exact Decidable.not_and_iff_or_not.1 this
          rw [if_pos h2]
          refine .some ⟨rfl, y, List.mem_of_getElem? hy, fun hm => ?_⟩
          obtain ⟨j, hj⟩ := List.mem_iff_getElem?.1 hm
          have := distinct_get hb hx hj hv
          subst this
          rw [hx] at hj
          cases hj
          exact ht rfl
      · have h1 : ilt (-1) 0 = true := rfl
        rw [if_pos h1]
        exact .some ⟨rfl, y, List.mem_of_getElem? hy, fun hm => hno y hm rfl⟩
    · intro x hm
      obtain ⟨j, hj⟩ := List.mem_iff_getElem?.1 hm
      exact hI j x ((List.getElem?_eq_some_iff.1 hj).1) hj
    · obtain ⟨rfl, x, hx, hxb⟩ := hr
      refine .some ?_
      symm
      unfold alikeB
      rw [Bool.and_eq_false_iff]
      right
      rw [List.all_eq_false]
      exact ⟨x, hx, by simpa using hxb⟩
    · refine .some ?_
      unfold alikeB
      have : a.all (fun v => decide (v ∈ b)) = true := by rw [List.all_eq_true]; intro x hx; simpa using hs x hx
      rw [this, Bool.and_true]
      simp only [ieq, lenZ]
      exact decide_eq_decide.2 (by omega)
  obtain ⟨r, e, rfl⟩ := h
  exact e
theorem lin_distinct {w : List GData} : ∀ (d : Nat) (t : GType) (p : GPattern), goodB w d t p = true → linD w d t p = true → distinct (varsD w d t p) = true := by
  intro d
  induction d with
  | zero => intro t p hg; cases hg
  | succ d ih =>
    intro t p hg hl
    simp only [linD, Bool.and_eq_true, List.all_eq_true] at hl
    by_cases h5 : p.op = 5
    · obtain ⟨ho, hlen⟩ := node_own (good_node hg)
      have hk : kidsT w t p = [t, t] := by simp [kidsT, h5]
      rw [hk] at hlen
      simp only [varsD, if_pos h5, hk]
      have hown : ownV t p = [] := by simp [ownV, h5]
      match hkids : p.kids, hlen with
      | [a, b], _ =>
        rw [hkids, hk] at hl
        have h1 := hl.1 (t, a) (by simp)
        have h2 := ih t a (good_kid hg (k := 0) (by rw [hk]; rfl) (by rw [hkids]; rfl)) h1
        simpa [hown] using h2
    · have := hl.2
      rw [if_neg h5] at this
      exact this
theorem kid0 {w : List GData} {t : GType} {p : GPattern} (h5 : p.op = 5) (hl : p.kids.length = (kidsT w t p).length) : ∃ a b, p.kids = [a, b] ∧ kidsT w t p = [t, t] := by
  have hk : kidsT w t p = [t, t] := by simp [kidsT, h5]
  rw [hk] at hl
  match hkids : p.kids, hl with
  | [a, b], _ => exact ⟨a, b, rfl, hk⟩
theorem cnt_kid {p : GPattern} {k : Nat} {q : GPattern} (h : p.kids[k]? = some q) : cntP q < cntP p := by
  have h1 := cntPs_drop p.kids k q h
  have h2 := cntPs_take_le p.kids (k + 1)
  have h3 := cntP_eq p
  omega
theorem specLin_ok {w : List GData} (hw : WW w) : ∀ (d n : Nat) (t : GType) (p : GPattern), t ∈ tys w → goodB w d t p = true → d + 5 ≤ n → cntP p ≤ 1000 → m_spec_l3Linear n w t p = some (linD w d t p) := by
  intro d
  induction d with
  | zero => intro n t p ht hg; cases hg
  | succ d ih =>
    intro n t p ht hg hn hc
    obtain ⟨m, rfl⟩ : ∃ m, n = m + 1 := ⟨n - 1, by omega⟩
    have hT := hw.ty t ht
    obtain ⟨ho, hl⟩ := node_own (good_node hg)
    unfold m_spec_l3Linear
    rw [types_ok hT p (own_ctor ho) (by omega)]
    simp only [Option.bind_some]
    have h : Ret ((forL (fun k79 x80 (s73 : Unit) =>
        ((idx p.kids (k79 : Int)).bind fun x88 =>
        ((m_spec_l3Linear m w x80 x88).bind fun r89 =>
        (if (!r89) = true then
        some (Ctl.ret (false))
        else
        some (Ctl.go ()))))) 0 (kidsT w t p) ())) (CtlQ (fun b => b = false ∧ (((kidsT w t p).zip p.kids).all fun x => linD w d x.1 x.2) = false) (fun _ => (((kidsT w t p).zip p.kids).all fun x => linD w d x.1 x.2) = true)) := by
      refine forL_rule (kidsT w t p) (fun k _ => ∀ j a q, j < k → (kidsT w t p)[j]? = some a → p.kids[j]? = some q → linD w d a q = true) _ _ (fun j a q hj => by omega) (fun k a s ha hI => ?_) (fun s hI => ?_)
      · have hlt : k < p.kids.length := by have := (List.getElem?_eq_some_iff.1 ha).1; omega
        have hq : p.kids[k]? = some p.kids[k] := by simp [hlt]
        rw [idx_ok hq]
        simp only [Option.bind_some]
        rw [ih m a p.kids[k] (kidsT_tys hT ht ho a (List.mem_of_getElem? ha)) (good_kid hg ha hq) (by omega) (by have := cnt_kid hq; omega)]
        simp only [Option.bind_some]
        cases hgl : linD w d a p.kids[k] with
        | false =>
          refine .some ⟨rfl, ?_⟩
          rw [List.all_eq_false]
          exact ⟨(a, p.kids[k]), List.mem_of_getElem? (zip_get ha hq), by simp [hgl]⟩
        | true =>
          refine .some (fun j a' q' hj ha' hq' => ?_)
          by_cases hjk : j = k
          · subst hjk
            rw [ha] at ha'
            rw [hq] at hq'
            cases ha'
            cases hq'
            exact hgl
          · exact hI j a' q' (by omega) ha' hq'
      · rw [List.all_eq_true]
        intro x hx
        obtain ⟨j, hj⟩ := List.mem_iff_getElem?.1 hx
        obtain ⟨h3, h4⟩ := List.getElem?_zip_eq_some.1 hj
        exact hI j x.1 x.2 ((List.getElem?_eq_some_iff.1 h3).1) h3 h4
    obtain ⟨o, e, ho2⟩ := h
    rw [e]
    simp only [Option.bind_some]
    cases o with
    | go s => exact ho2.elim
    | ret r =>
      obtain ⟨rfl, hr⟩ := ho2
      simp only [linD, hr, Bool.false_and]
    | brk s =>
      have hall : (((kidsT w t p).zip p.kids).all fun x => linD w d x.1 x.2) = true := ho2
      simp only [linD, hall, Bool.true_and]
      by_cases h5 : p.op = 5
      · have h50 : ieq p.op 5 = true := by rw [ieq_true]; exact h5
        rw [if_pos h50, if_pos h5]
        obtain ⟨a, b, hkids, hk⟩ := kid0 h5 hl
        have ga := good_kid hg (k := 0) (by rw [hk]; rfl) (by rw [hkids]; rfl)
        have gb := good_kid hg (k := 1) (by rw [hk]; rfl) (by rw [hkids]; rfl)
        have ca := cnt_kid (p := p) (k := 0) (by rw [hkids]; rfl)
        have cb := cnt_kid (p := p) (k := 1) (by rw [hkids]; rfl)
        have k0 : kv w d t p 0 = varsD w d t a := by simp [kv, hkids, hk]
        have k1 : kv w d t p 1 = varsD w d t b := by simp [kv, hkids, hk]
        rw [k0, k1]
        rw [hkids, hk] at hall
        rw [hkids]
        have i0 : idx [a, b] 0 = some a := rfl
        have i1 : idx [a, b] 1 = some b := rfl
        rw [i0, i1]
        simp only [Option.bind_some]
        rw [(specVars_ok hw d m t a [] ht ga (by omega) (by simp; omega)).1, (specVars_ok hw d m t b [] ht gb (by omega) (by simp; omega)).1]
        simp only [Option.bind_some, List.nil_append]
        simp at hall
        rw [alike_ok _ _ (lin_distinct d t b gb hall.2)]
        rfl
      · have h50 : ¬ ieq p.op 5 = true := by rw [ieq_true]; exact h5
        rw [if_neg h50, if_neg h5]
        rw [(specVars_ok hw (d + 1) m t p [] ht hg (by omega) (by simp; omega)).1]
        simp only [Option.bind_some, List.nil_append]
        generalize varsD w (d + 1) t p = l
        have h : Ret ((forL (fun k178 x179 (s172 : Unit) =>
            ((m_spec_l3Find l x179.var).bind fun r186 =>
            (if (!ieq r186 (k178 : Int)) = true then
            some (Ctl.ret (false))
            else
            some (Ctl.go ())))) 0 l ())) (CtlQ (fun b => b = false ∧ distinct l = false) (fun _ => distinct l = true)) := by
          refine forL_rule l (fun k _ => ∀ i j x y, i < k → l[i]? = some x → l[j]? = some y → x.var = y.var → i ≤ j) _ _ (fun i j x y hi => by omega) (fun k a s ha hI => ?_) (fun s hI => ?_)
          · refine Ret.bind (find_ok l a.var) (fun i hi => ?_)
            rcases hi with ⟨q, x, rfl, hx, hv, hfirst⟩ | ⟨rfl, hno⟩
            · by_cases hqk : q = k
              · subst hqk
                have h1 : ¬ (!ieq ((q : Nat) : Int) (q : Int)) = true := by simp [ieq]
                rw [if_neg h1]
                refine .some (fun i j x' y' hi hx' hy' hv' => ?_)
                by_cases hiq : i = q
                · subst hiq
                  rw [ha] at hx'
                  cases hx'
                  rcases Nat.lt_or_ge j i with hji | hji
                  · exact absurd hv'.symm (hfirst j y' hji hy')
                  · exact hji
                · exact hI i j x' y' (by omega) hx' hy' hv'
              · have h1 : (!ieq ((q : Nat) : Int) (k : Int)) = true := by simp [ieq]; omega
                rw [if_pos h1]
                refine .some ⟨rfl, ?_⟩
                cases hd : distinct l with
                | false => rfl
                | true => exact absurd (distinct_get hd hx ha hv) hqk
            · exact absurd rfl (hno a (List.mem_of_getElem? ha))
          · refine distinct_of fun i j x y hx hy hv => ?_
            have := hI i j x y ((List.getElem?_eq_some_iff.1 hx).1) hx hy hv
            have := hI j i y x ((List.getElem?_eq_some_iff.1 hy).1) hy hx hv.symm
            omega
        obtain ⟨o, e, ho3⟩ := h
        rw [e]
        simp only [Option.bind_some]
        cases o with
        | go s => exact ho3.elim
        | ret r =>
          obtain ⟨rfl, hr⟩ := ho3
          rw [hr]
        | brk s =>
          have : distinct l = true := ho3
          rw [this]
end Go.Proofs.YtmkamncbkkahjaaGreat
namespace Go.Proofs.YtmkamncbkkahjaaGreat
open Go Go.RowKit
def validP (w : List GData) (t : GType) (p : GPattern) : Bool := goodB w 10 t p && (decide (cntP p ≤ 60) && linD w 10 t p)
theorem specIs_ok {w : List GData} (hw : WW w) {n : Nat} (hn : 100 ≤ n) (t : GType) (p : GPattern) (ht : t ∈ tys w) : m_spec_l3Is n w t p = some (validP w t p) := by
  unfold m_spec_l3Is validP
  have h1 := specShape_ok hw 10 n t p ht (by omega) (by omega)
  have e10 : ((10 : Nat) : Int) = 10 := rfl
  rw [e10] at h1
  rw [h1]
  simp only [Option.bind_some]
  cases hg : goodB w 10 t p with
  | false => simp
  | true =>
    have h2 := specCount_ok n p 60 (by omega) (by omega)
    have e60 : ((60 : Nat) : Int) = 60 := rfl
    rw [e60] at h2
    rw [h2]
    simp only [Option.bind_some, if_true, Bool.true_and]
    by_cases hc : cntP p ≤ 60
    · have : ile ((min (cntP p) (60 + 1) : Nat) : Int) 60 = true := by rw [ile_true]; omega
      rw [if_pos this, specLin_ok hw 10 n t p ht hg (by omega) (by omega)]
      simp [hc]
    · have : ¬ ile ((min (cntP p) (60 + 1) : Nat) : Int) 60 = true := by rw [ile_true]; omega
      rw [if_neg this]
      simp [hc]
theorem vars_range {w : List GData} : ∀ (d : Nat) (t : GType) (p : GPattern), goodB w d t p = true → ∀ v ∈ varsD w d t p, 0 ≤ v.var ∧ v.var ≤ 5 := by
  intro d
  induction d with
  | zero => intro t p hg; cases hg
  | succ d ih =>
    intro t p hg v hv
    simp only [varsD, List.mem_append, List.mem_flatMap] at hv
    rcases hv with hv | ⟨x, hx, hv⟩
    · obtain ⟨ho, _⟩ := node_own (good_node hg)
      unfold ownV at hv
      split at hv
      · rename_i h
        simp at hv
        subst hv
        simp [ownOk, h] at ho
        exact ho.1.1.1
      · simp at hv
    · have hx := List.mem_of_mem_take hx
      obtain ⟨j, hj⟩ := List.mem_iff_getElem?.1 hx
      obtain ⟨h3, h4⟩ := List.getElem?_zip_eq_some.1 hj
      exact ih x.1 x.2 (good_kid hg h3 h4) v hv
theorem met_ok (l : List GVarType) (hr : ∀ v ∈ l, 0 ≤ v.var ∧ v.var ≤ 5) {R : List GVarType × Bool × Int} :
    Ret (forL (fun k423 (x424 : GVarType) (s417 : (List Bool)) =>
      ((aget 6 s417 x424.var).bind fun x435 =>
      (if x435 = true then
      some (Ctl.ret R)
      else
      ((aset 6 s417 x424.var true).bind fun x437 =>
      some (Ctl.go x437))))) 0 l [false, false, false, false, false, false]) (CtlQ (fun r => r = R ∧ distinct l = false) (fun _ => distinct l = true)) := by
  refine forL_rule l (fun k s => s.length = 6 ∧ (∀ i : Nat, i < 6 → (s[i]? = some true ↔ ∃ (j : Nat) (x : GVarType), j < k ∧ l[j]? = some x ∧ x.var = (i : Int))) ∧ ∀ (i j : Nat) (x y : GVarType), i < k → j < k → l[i]? = some x → l[j]? = some y → x.var = y.var → i = j) _ _ ⟨rfl, fun i hi => ?_, fun i j x y hi => by omega⟩ (fun k a s ha hI => ?_) (fun s hI => ?_)
  · constructor
    · intro h
      match i, hi with
      | 0, _ => simp at h
      | 1, _ => simp at h
      | 2, _ => simp at h
      | 3, _ => simp at h
      | 4, _ => simp at h
      | 5, _ => simp at h
    · rintro ⟨j, x, hj, _⟩; omega
  · obtain ⟨hlen, hmet, hdis⟩ := hI
    obtain ⟨r1, r2⟩ := hr a (List.mem_of_getElem? ha)
    obtain ⟨v, hv⟩ : ∃ v : Nat, a.var = (v : Int) := ⟨a.var.toNat, by omega⟩
    have hv6 : v < 6 := by omega
    have hsv : s[v]? = some s[v] := by simp [hlen, hv6]
    have hget : aget 6 s a.var = some s[v] := by simp only [aget, hlen, if_true, hv]; exact idx_ok hsv
    rw [hget]
    simp only [Option.bind_some]
    cases hb : s[v] with
    | true =>
      rw [hb] at hsv
      obtain ⟨j, x, hj, hx, hxv⟩ := (hmet v hv6).1 hsv
      refine .some ⟨rfl, ?_⟩
      cases hd : distinct l with
      | false => rfl
      | true =>
        have := distinct_get hd hx ha (by rw [hxv, hv])
        omega
    | false =>
      have hset : aset 6 s a.var true = some (s.set v true) := by
        simp only [aset, hlen, if_true, hv, setI]
        rw [if_pos ⟨by omega, by simpa using by omega⟩]
        simp
      simp only [Bool.false_eq_true, if_false]
      rw [hset]
      refine .some ⟨by simp [hlen], fun i hi => ?_, fun i j x y hi hj hx hy he => ?_⟩
      · by_cases hiv : i = v
        · subst hiv
          rw [List.getElem?_set_self (by omega)]
          exact ⟨fun _ => ⟨k, a, by omega, ha, hv⟩, fun _ => rfl⟩
        · rw [List.getElem?_set_ne (by omega)]
          rw [hmet i hi]
          constructor
          · rintro ⟨j, x, h1, h2, h3⟩; exact ⟨j, x, by omega, h2, h3⟩
          · rintro ⟨j, x, h1, h2, h3⟩
            refine ⟨j, x, ?_, h2, h3⟩
            rcases Nat.lt_or_ge j k with h | h
            · exact h
            · have : j = k := by omega
              subst this
              rw [ha] at h2
              cases h2
              rw [hv] at h3
              omega
      · have nomet : ∀ (j : Nat) (x : GVarType), j < k → l[j]? = some x → x.var = a.var → False := fun j x h1 h2 h3 => by
          have := (hmet v hv6).2 ⟨j, x, h1, h2, by rw [h3, hv]⟩
          rw [hsv, hb] at this
          cases this
        by_cases hik : i = k
        · by_cases hjk : j = k
          · omega
          · subst hik
            rw [ha] at hx
            cases hx
            exact (nomet j y (by omega) hy he.symm).elim
        · by_cases hjk : j = k
          · subst hjk
            rw [ha] at hy
            cases hy
            exact (nomet i x (by omega) hx he).elim
          · exact hdis i j x y (by omega) (by omega) hx hy he
  · obtain ⟨_, _, hdis⟩ := hI
    exact distinct_of fun i j x y hx hy he => hdis i j x y ((List.getElem?_eq_some_iff.1 hx).1) ((List.getElem?_eq_some_iff.1 hy).1) hx hy he
theorem take1_flat {α β : Type} (l : List α) (g : α → List β) : (l.take 1).flatMap g = l[0]?.elim [] g := by
  cases l with
  | nil => rfl
  | cons a l => simp
def okD (w : List GData) (d : Nat) (t : GType) (p : GPattern) (c : Nat) : Bool := goodB w d t p && (decide (c + cntP p ≤ 60) && linD w d t p)
theorem scan_ok {w : List GData} (hw : WW w) : ∀ (d n : Nat) (t : GType) (p : GPattern) (c : Nat), t ∈ tys w → c ≤ 60 → d + 5 ≤ n → d ≤ 10 →
    Ret (m_impl_patternScan n w t p (11 - (d : Int)) (c : Int)) (fun r => r.2.1 = okD w d t p c ∧ (okD w d t p c = true → r.1 = varsD w d t p ∧ r.2.2 = ((c + cntP p : Nat) : Int))) := by
  intro d
  induction d with
  | zero =>
    intro n t p c ht hc hn hd
    obtain ⟨m, rfl⟩ : ∃ m, n = m + 1 := ⟨n - 1, by omega⟩
    unfold m_impl_patternScan
    refine Ret.ite (fun h => ?_) (fun h => ?_)
    · exact .some ⟨by simp [okD, goodB], by simp [okD, goodB]⟩
    · have : ilt 10 (11 - ((0 : Nat) : Int)) = true := rfl
      rw [if_pos this]
      exact .some ⟨by simp [okD, goodB], by simp [okD, goodB]⟩
  | succ d ih =>
    intro n t p c ht hc hn hd
    obtain ⟨m, rfl⟩ : ∃ m, n = m + 1 := ⟨n - 1, by omega⟩
    have hT := hw.ty t ht
    have hcp := cntP_eq p
    unfold m_impl_patternScan
    have hc1 : wadd .i64 (c : Int) 1 = ((c + 1 : Nat) : Int) := by rw [wadd_ok (by omega) (by omega)]; rfl
    rw [hc1]
    refine Ret.ite (fun h => ?_) (fun h => ?_)
    · rw [ilt_true] at h
      have : ¬ c + cntP p ≤ 60 := by omega
      exact .some ⟨by simp [okD, this], by simp [okD, this]⟩
    · rw [ilt_false] at h
      have h2 : ¬ ilt 10 (11 - ((d + 1 : Nat) : Int)) = true := by rw [ilt_true]; omega
      rw [if_neg h2]
      obtain ⟨ts, hs, hts⟩ := shape_ok hT p
      rw [hs]
      simp only [Option.bind_some]
      cases hnode : nodeOk w t p with
      | false => exact .some ⟨by simp [okD, goodB, hnode], by simp [okD, goodB, hnode]⟩
      | true =>
        obtain rfl := hts hnode
        obtain ⟨ho, hl⟩ := node_own hnode
        simp only [Bool.not_true, Bool.false_eq_true, if_false]
        refine Ret.ctl (R := fun _ => False) (B := fun s => s = ownV t p) ?_ (fun r hr => hr.elim) (fun s hs => ?_)
        · have ha : app [] [(GVarType.mk p.var t)] = some [(GVarType.mk p.var t)] := app_ok (by simp [rowLimit])
          by_cases h2 : p.op = 2
          · exact ⟨_, by simp [ieq, h2, ha]; rfl, by simp [ownV, h2]⟩
          · by_cases h6 : p.op = 6
            · exact ⟨_, by simp [ieq, h6, ha]; rfl, by simp [ownV, h6]⟩
            · exact ⟨_, by simp [ieq, h2, h6]; rfl, by simp [ownV, h2, h6]⟩
        subst hs
        have hown1 : (ownV t p).length ≤ 1 := by unfold ownV; split <;> simp
        have hkn : ∀ k, k < p.kids.length → ∃ a q, (kidsT w t p)[k]? = some a ∧ p.kids[k]? = some q := fun k hk => ⟨(kidsT w t p)[k]'(by omega), p.kids[k], by simp, by simp⟩
        have allgood : ∀ (P : GType → GPattern → Bool), (∀ (j : Nat) (a : GType) (q : GPattern), j < p.kids.length → (kidsT w t p)[j]? = some a → p.kids[j]? = some q → P a q = true) → (((kidsT w t p).zip p.kids).all fun x => P x.1 x.2) = true := fun P hP => by
          rw [List.all_eq_true]
          intro x hx
          obtain ⟨j, hj⟩ := List.mem_iff_getElem?.1 hx
          obtain ⟨h3, h4⟩ := List.getElem?_zip_eq_some.1 hj
          exact hP j x.1 x.2 ((List.getElem?_eq_some_iff.1 h4).1) h3 h4
        have notall : ∀ (P : GType → GPattern → Bool) (k : Nat) (a : GType) (q : GPattern), (kidsT w t p)[k]? = some a → p.kids[k]? = some q → P a q = false → (((kidsT w t p).zip p.kids).all fun x => P x.1 x.2) = false := fun P k a q h1 h2 h3 => by
          rw [List.all_eq_false]
          exact ⟨(a, q), List.mem_of_getElem? (zip_get h1 h2), by simp [h3]⟩
        refine Ret.ctl (forL_rule p.kids
          (fun k s => s.1 = ((c + 1 + cntP.cntPs (p.kids.take k) : Nat) : Int) ∧ c + 1 + cntP.cntPs (p.kids.take k) ≤ 60 ∧ s.2 = ownV t p ++ (((kidsT w t p).zip p.kids).take (min k (if p.op = 5 then 1 else p.kids.length))).flatMap (fun x => varsD w d x.1 x.2) ∧
            (∀ (j : Nat) (a : GType) (q : GPattern), j < k → (kidsT w t p)[j]? = some a → p.kids[j]? = some q → goodB w d a q = true ∧ linD w d a q = true) ∧ s.2.length ≤ 1 + cntP.cntPs (p.kids.take k) ∧
            (p.op = 5 → 2 ≤ k → alikeB (kv w d t p 0) (kv w d t p 1) = true))
          (fun r => r.2.1 = false ∧ okD w (d + 1) t p c = false)
          (fun s => s.1 = ((c + cntP p : Nat) : Int) ∧ c + cntP p ≤ 60 ∧ s.2 = varsD w (d + 1) t p ∧ goodB w (d + 1) t p = true ∧ (((kidsT w t p).zip p.kids).all fun x => linD w d x.1 x.2) = true ∧
            (p.op = 5 → alikeB (kv w d t p 0) (kv w d t p 1) = true))
          ⟨by simp [cntP.cntPs], by simp [cntP.cntPs]; omega, by simp, fun j a q hj => by omega, by simp; omega, fun _ h => by omega⟩ (fun k q s hq hI => ?_) (fun s hI => ?_)) (fun r hr => ?_) (fun s hs => ?_)
        · obtain ⟨i1, i2, i3, i4, i5, i6⟩ := hI
          have hlt := (List.getElem?_eq_some_iff.1 hq).1
          obtain ⟨a, q', ha, hq'⟩ := hkn k hlt
          rw [hq] at hq'
          cases hq'
          have hcd := cntPs_drop p.kids k q hq
          have hct := cntPs_take_le p.kids (k + 1)
          have hpos := cntP_pos q
          refine Ret.ctl (R := fun (r : Ctl (List GVarType × Bool × Int) (Int × List GVarType)) => ∃ x, r = .ret x ∧ x.2.1 = false ∧ okD w (d + 1) t p c = false)
            (B := fun (s : Int × List GVarType) => s.1 = ((c + 1 + cntP.cntPs (p.kids.take (k + 1)) : Nat) : Int) ∧ c + 1 + cntP.cntPs (p.kids.take (k + 1)) ≤ 60 ∧ s.2 = ownV t p ++ (((kidsT w t p).zip p.kids).take (min (k + 1) (if p.op = 5 then 1 else p.kids.length))).flatMap (fun x => varsD w d x.1 x.2) ∧
            (∀ (j : Nat) (a : GType) (q : GPattern), j < k + 1 → (kidsT w t p)[j]? = some a → p.kids[j]? = some q → goodB w d a q = true ∧ linD w d a q = true) ∧ s.2.length ≤ 1 + cntP.cntPs (p.kids.take (k + 1)) ∧
            (p.op = 5 → 2 ≤ k + 1 → alikeB (kv w d t p 0) (kv w d t p 1) = true))
            ?_ (fun r hr => ?_) (fun s hs => ⟨_, rfl, hs⟩)
          · rw [idx_ok ha]
            simp only [Option.bind_some]
            have hdeep : wadd .i64 (11 - ((d + 1 : Nat) : Int)) 1 = 11 - (d : Int) := by rw [wadd_ok (by omega) (by omega)]; omega
            rw [hdeep, i1]
            refine Ret.bind (ih m a q _ (kidsT_tys hT ht ho a (List.mem_of_getElem? ha)) i2 (by omega) (by omega)) (fun r hr => ?_)
            obtain ⟨hr1, hr2⟩ := hr
            rw [hr1]
            cases hok : okD w d a q (c + 1 + cntP.cntPs (p.kids.take k)) with
            | false =>
              refine .some ⟨_, rfl, rfl, ?_⟩
              simp only [okD, Bool.and_eq_false_iff] at hok
              rcases hok with h1 | h1 | h1
              · simp only [okD, goodB, notall _ k a q ha hq h1, Bool.and_false, Bool.false_and]
              · have h1 := of_decide_eq_false h1
                have : ¬ c + cntP p ≤ 60 := by omega
                simp [okD, this]
              · simp only [okD, linD, notall _ k a q ha hq h1, Bool.and_false, Bool.false_and]
            | true =>
              obtain ⟨e1, e2⟩ := hr2 hok
              simp only [okD, Bool.and_eq_true, decide_eq_true_eq] at hok
              obtain ⟨g1, g2, g3⟩ := hok
              have hvl := (specVars_ok hw d (d + 4) a q [] (kidsT_tys hT ht ho a (List.mem_of_getElem? ha)) g1 (by omega) (by simp; omega)).2
              have hboth : ∀ (j : Nat) (a' : GType) (q' : GPattern), j < k + 1 → (kidsT w t p)[j]? = some a' → p.kids[j]? = some q' → goodB w d a' q' = true ∧ linD w d a' q' = true := fun j a' q' hj h1 h2 => by
                by_cases hjk : j = k
                · subst hjk
                  rw [ha] at h1
                  rw [hq] at h2
                  cases h1
                  cases h2
                  exact ⟨g1, g3⟩
                · exact i4 j a' q' (by omega) h1 h2
              simp only [Bool.not_true, Bool.false_eq_true, if_false]
              have hcount : r.2.2 = ((c + 1 + cntP.cntPs (p.kids.take (k + 1)) : Nat) : Int) := by rw [e2, hcd]; congr 1; omega
              have happ : app s.2 r.1 = some (s.2 ++ varsD w d a q) := by rw [e1]; exact app_ok (by simp only [rowLimit]; omega)
              have hzip := zip_get ha hq
              by_cases h5 : p.op = 5
              · have h50 : ieq p.op 5 = true := by rw [ieq_true]; exact h5
                rw [if_pos h50]
                obtain ⟨x0, x1, hkids, hkt⟩ := kid0 h5 hl
                by_cases hk1 : k = 1
                · subst hk1
                  have h10 : ieq ((1 : Nat) : Int) 1 = true := rfl
                  rw [if_pos h10, sameVars_ok, e1]
                  simp only [Option.bind_some]
                  have hs2 : s.2 = kv w d t p 0 := by
                    rw [i3, if_pos h5, show ownV t p = [] by simp [ownV, h5]]
                    simp only [Nat.min_self, List.nil_append]
                    exact take1_flat _ _
                  have hz1 : (kv w d t p 1) = varsD w d a q := by unfold kv; rw [hzip]; rfl
                  refine Ret.ite (fun h => ?_) (fun h => ?_)
                  · refine .some ⟨_, rfl, rfl, ?_⟩
                    have : alikeB (kv w d t p 0) (kv w d t p 1) = false := by
                      rw [hz1, ← hs2]
                      rw [Bool.not_eq_true'] at h
                      exact h
                    simp only [okD, linD, if_pos h5, this, Bool.and_false]
                  · refine .some ⟨hcount, by omega, ?_, hboth, by simp only; omega, fun _ _ => ?_⟩
                    · rw [i3, if_pos h5]
                      rfl
                    · rw [hz1, ← hs2]
                      simpa [alikeB] using h
                · have hk0 : k = 0 := by rw [hkids] at hlt; simp at hlt; omega
                  subst hk0
                  have h10 : ¬ ieq ((0 : Nat) : Int) 1 = true := by decide
                  rw [if_neg h10, happ]
                  refine .some ⟨hcount, by omega, ?_, hboth, by simp only [List.length_append]; omega, fun _ h => by omega⟩
                  simp only
                  rw [i3, if_pos h5]
                  simp only [Nat.zero_min, List.take_zero, List.flatMap_nil, List.append_nil, Nat.min_self]
                  rw [show (0 + 1) = 1 from rfl, take1_flat, hzip]
                  rfl
              · have h50 : ¬ ieq p.op 5 = true := by rw [ieq_true]; exact h5
                rw [if_neg h50, happ]
                refine .some ⟨hcount, by omega, ?_, hboth, by simp only [List.length_append]; omega, fun h => absurd h h5⟩
                simp only
                rw [i3, if_neg h5, Nat.min_eq_left (by omega), Nat.min_eq_left (by omega), List.take_add_one, hzip]
                simp
          · obtain ⟨x, rfl, h1, h2⟩ := hr
            exact .some ⟨h1, h2⟩
        · obtain ⟨i1, i2, i3, i4, i5, i6⟩ := hI
          rw [List.take_length] at i1 i2
          refine ⟨by rw [i1]; congr 1; omega, by omega, ?_, ?_, allgood _ fun j a q hj h1 h2 => (i4 j a q hj h1 h2).2, fun h5 => i6 h5 ?_⟩
          · rw [i3]
            have : min p.kids.length (if p.op = 5 then 1 else p.kids.length) = (if p.op = 5 then 1 else p.kids.length) := by
              split
              · rename_i h5
                obtain ⟨x0, x1, hkids, hkt⟩ := kid0 h5 hl
                rw [hkids]
                simp
              · simp
            rw [this]
            rfl
          · simp only [goodB, hnode, Bool.true_and]
            exact allgood _ fun j a q hj h1 h2 => (i4 j a q hj h1 h2).1
          · obtain ⟨x0, x1, hkids, hkt⟩ := kid0 h5 hl
            rw [hkids]
            simp
        · exact .some ⟨by rw [hr.1, hr.2], fun h => by rw [hr.2] at h; cases h⟩
        · obtain ⟨b1, b2, b3, b4, b5, b6⟩ := hs
          refine Ret.ctl (met_ok s.2 (fun v hv => by rw [b3] at hv; exact vars_range (d + 1) t p b4 v hv)) (fun r hr => ?_) (fun s' hs' => ?_)
          · obtain ⟨rfl, hd0⟩ := hr
            have : okD w (d + 1) t p c = false := by
              by_cases h5 : p.op = 5
              · have hlin : linD w (d + 1) t p = true := by simp only [linD, b5, if_pos h5, b6 h5, Bool.and_self]
                have := lin_distinct (d + 1) t p b4 hlin
                rw [b3, this] at hd0
                cases hd0
              · rw [b3] at hd0
                simp only [okD, linD, if_neg h5, hd0, Bool.and_false]
            exact .some ⟨by rw [this], fun h => by rw [this] at h; cases h⟩
          · have hlin : linD w (d + 1) t p = true := by
              by_cases h5 : p.op = 5
              · simp only [linD, b5, if_pos h5, b6 h5, Bool.and_self]
              · rw [b3] at hs'
                simp only [linD, b5, if_neg h5, hs', Bool.and_self]
            have : okD w (d + 1) t p c = true := by simp [okD, b4, b2, hlin]
            exact .some ⟨by rw [this], fun _ => ⟨b3, b1⟩⟩
end Go.Proofs.YtmkamncbkkahjaaGreat
namespace Go.Proofs.YtmkamncbkkahjaaGreat
open Go Go.RowKit
theorem okD_valid (w : List GData) (t : GType) (p : GPattern) : okD w 10 t p 0 = validP w t p := by simp [okD, validP]
theorem vars_tys {w : List GData} (hw : WW w) : ∀ (d : Nat) (t : GType) (p : GPattern), t ∈ tys w → goodB w d t p = true → ∀ v ∈ varsD w d t p, v.typ ∈ tys w := by
  intro d
  induction d with
  | zero => intro t p ht hg; cases hg
  | succ d ih =>
    intro t p ht hg v hv
    obtain ⟨ho, _⟩ := node_own (good_node hg)
    simp only [varsD, List.mem_append, List.mem_flatMap] at hv
    rcases hv with hv | ⟨x, hx, hv⟩
    · unfold ownV at hv
      split at hv
      · simp at hv
        subst hv
        exact ht
      · simp at hv
    · have hx := List.mem_of_mem_take hx
      obtain ⟨j, hj⟩ := List.mem_iff_getElem?.1 hx
      obtain ⟨h3, h4⟩ := List.getElem?_zip_eq_some.1 hj
      exact ih x.1 x.2 (kidsT_tys (hw.ty t ht) ht ho x.1 (List.mem_of_getElem? h3)) (good_kid hg h3 h4) v hv
def guardB (g : GGuard) (vars : List GVarType) : Bool := if g.op = 0 then decide (g.var = 0) && decide (g.n = 0) else decide (g.op = 1 ∨ g.op = 2) && (decide (0 ≤ g.n) && decide (g.n ≤ 9)) && decide (⟨g.var, tI⟩ ∈ vars)
def clauseB (w : List GData) (t : GType) (c : GClause) : Bool := validP w t c.pat && guardB c.guard (varsD w 10 t c.pat)
def clausesB (w : List GData) (t : GType) (l : List GClause) : Bool := decide (l.length ≤ 8) && l.all (clauseB w t)
theorem implGuard_ok (g : GGuard) (vars : List GVarType) : m_impl_guardOk g vars = some (guardB g vars) := by
  unfold m_impl_guardOk guardB
  simp only [within_ok, contains_vt, Option.bind_some]
  by_cases h0 : g.op = 0
  · simp [ieq, h0, eqAll]
  · rw [if_neg (by rw [ieq_true]; exact h0), if_neg h0]
    have e : (decide (1 ≤ g.op) && decide (g.op ≤ 2)) = decide (g.op = 1 ∨ g.op = 2) := by
      rw [← Bool.decide_and]
      exact decide_eq_decide.2 (by omega)
    rw [e]
    have et : (GType.mk (-1) 0) = tI := rfl
    rw [et]
    cases decide (g.op = 1 ∨ g.op = 2) <;> cases (decide (0 ≤ g.n) && decide (g.n ≤ 9)) <;> rfl
theorem specGuard_ok {w : List GData} (hw : WW w) (g : GGuard) (vars : List GVarType) (hd : distinct vars = true) (ht : ∀ v ∈ vars, v.typ ∈ tys w) : m_spec_l4Guard g vars = some (guardB g vars) := by
  have h : Ret (m_spec_l4Guard g vars) (fun r => r = guardB g vars) := by
    unfold m_spec_l4Guard guardB
    by_cases h0 : g.op = 0
    · rw [if_pos (by rw [ieq_true]; exact h0), if_pos h0]
      by_cases h1 : g.var = 0 <;> simp [ieq, h1, Ret]
    · rw [if_neg (by rw [ieq_true]; exact h0), if_neg h0]
      refine Ret.ctl (R := fun r => r = false ∧ (decide (g.op = 1 ∨ g.op = 2) && (decide (0 ≤ g.n) && decide (g.n ≤ 9))) = false) (B := fun _ => (decide (g.op = 1 ∨ g.op = 2) && (decide (0 ≤ g.n) && decide (g.n ≤ 9))) = true) ?_ (fun r hr => ?_) (fun s hs => ?_)
      · by_cases h1 : g.op = 1 <;> by_cases h2 : g.op = 2 <;> by_cases h3 : g.n < 0 <;> by_cases h4 : 9 < g.n <;> simp [ieq, ilt, h1, h2, h3, h4, Ret] <;> omega
      · obtain ⟨rfl, hr⟩ := hr
        exact .some (by rw [hr]; rfl)
      · rw [hs, Bool.true_and]
        refine Ret.bind (find_ok vars g.var) (fun i hi => ?_)
        rcases hi with ⟨q, x, rfl, hx, hv, _⟩ | ⟨rfl, hno⟩
        · have h1 : ile 0 ((q : Nat) : Int) = true := by rw [ile_true]; omega
          rw [if_pos h1, idx_ok hx]
          refine .some ?_
          have hxm := List.mem_of_getElem? hx
          simp only [ieq]
          refine decide_eq_decide.2 ⟨fun hdt => ?_, fun hm => ?_⟩
          · have := ((hw.ty x.typ (ht x hxm)).ti hdt).1
            have : x = ⟨g.var, tI⟩ := by cases x; simp at hv this; simp [hv, this]
            rw [← this]
            exact hxm
          · obtain ⟨j, hj⟩ := List.mem_iff_getElem?.1 hm
            have := distinct_get hd hx hj hv
            subst this
            rw [hx] at hj
            cases hj
            rfl
        · have h1 : ¬ ile 0 (-1) = true := by decide
          rw [if_neg h1]
          refine .some ?_
          symm
          exact decide_eq_false fun hm => hno _ hm rfl
  obtain ⟨r, e, rfl⟩ := h
  exact e
theorem patternVars_ok {w : List GData} (hw : WW w) {n : Nat} (hn : 100 ≤ n) (t : GType) (p : GPattern) (ht : t ∈ tys w) : Ret (m_impl_patternVars n w t p) (fun r => r.2 = validP w t p ∧ (validP w t p = true → r.1 = varsD w 10 t p)) := by
  unfold m_impl_patternVars
  have h := scan_ok hw 10 n t p 0 ht (by omega) (by omega) (by omega)
  have e1 : (11 : Int) - ((10 : Nat) : Int) = 1 := rfl
  rw [e1] at h
  refine Ret.bind h (fun r hr => .some ?_)
  rw [okD_valid] at hr
  exact ⟨hr.1, fun hv => (hr.2 hv).1⟩
theorem implClause_ok {w : List GData} (hw : WW w) {n : Nat} (hn : 100 ≤ n) (t : GType) (c : GClause) (ht : t ∈ tys w) : m_impl_clauseOk n w t c = some (clauseB w t c) := by
  have h : Ret (m_impl_clauseOk n w t c) (fun r => r = clauseB w t c) := by
    unfold m_impl_clauseOk clauseB
    refine Ret.bind (patternVars_ok hw hn t c.pat ht) (fun r hr => ?_)
    obtain ⟨h1, h2⟩ := hr
    rw [h1]
    cases hv : validP w t c.pat with
    | false => exact .some rfl
    | true =>
      rw [if_pos rfl, implGuard_ok, h2 hv]
      exact .some rfl
  obtain ⟨r, e, rfl⟩ := h
  exact e
theorem valid_good {w : List GData} {t : GType} {p : GPattern} (h : validP w t p = true) : goodB w 10 t p = true ∧ cntP p ≤ 60 ∧ linD w 10 t p = true := by
  simpa [validP] using h
theorem specClause_ok {w : List GData} (hw : WW w) {n : Nat} (hn : 100 ≤ n) (t : GType) (c : GClause) (ht : t ∈ tys w) : m_spec_l4Is n w t c = some (clauseB w t c) := by
  unfold m_spec_l4Is clauseB
  rw [specIs_ok hw hn t c.pat ht]
  simp only [Option.bind_some]
  cases hv : validP w t c.pat with
  | false => rfl
  | true =>
    obtain ⟨g1, g2, g3⟩ := valid_good hv
    rw [if_pos rfl, (specVars_ok hw 10 n t c.pat [] ht g1 (by omega) (by simp; omega)).1]
    simp only [Option.bind_some, List.nil_append]
    rw [specGuard_ok hw c.guard _ (lin_distinct 10 t c.pat g1 g3) (vars_tys hw 10 t c.pat ht g1)]
    rfl
theorem implTV_ok {w : List GData} (hw : WW w) {t : GType} (ht : t ∈ tys w) : m_impl_TypeValid NN w t = some true := by
  unfold m_impl_TypeValid
  rw [hw.v1]
  simp only [Option.bind_some, if_true]
  rw [(hw.ty t ht).t1]
  rfl
theorem specTV_ok {w : List GData} (hw : WW w) {t : GType} (ht : t ∈ tys w) : m_spec_TypeValid NN w t = some true := by
  unfold m_spec_TypeValid
  rw [hw.v2]
  simp only [Option.bind_some, if_true]
  rw [(hw.ty t ht).t2]
  rfl
theorem implClauses_ok {w : List GData} (hw : WW w) {t : GType} (ht : t ∈ tys w) (l : List GClause) : m_impl_ClausesValid NN w t l = some (clausesB w t l) := by
  unfold m_impl_ClausesValid clausesB
  rw [implTV_ok hw ht]
  simp only [Option.bind_some, if_true]
  by_cases hl : l.length ≤ 8
  · rw [if_pos (by rw [ile_true]; simp only [lenZ]; omega)]
    rw [containsF_Clause l _ (fun c => !clauseB w t c) (fun c _ => by unfold m_impl_ClausesValid_1; rw [implClause_ok hw (by decide) t c ht]; rfl)]
    simp only [Option.bind_some, hl, decide_true, Bool.true_and, Option.some.injEq]
    rw [Bool.eq_iff_iff]
    simp
  · rw [if_neg (by rw [ile_true]; simp only [lenZ]; omega)]
    simp [hl]
end Go.Proofs.YtmkamncbkkahjaaGreat
namespace Go.Proofs.YtmkamncbkkahjaaGreat
open Go Go.RowKit
def goodV (w : List GData) : Nat → GType → GValue → Prop
  | 0, _, _ => False
  | d + 1, t, v => if t.data = -1 then v.ctor = -1 ∧ 0 ≤ v.n ∧ v.n ≤ 9 ∧ v.kids = [] else v.n = 0 ∧ v.ctor ∈ ctorsP w t ∧ v.kids.length = (argsP w t v.ctor).length ∧ ∀ (j : Nat) (a : GType) (x : GValue), (argsP w t v.ctor)[j]? = some a → v.kids[j]? = some x → goodV w d a x
def matchL (f : GPattern → GValue → Option (List GBind)) : List GPattern → List GValue → Option (List GBind)
  | [], _ => some []
  | _ :: _, [] => none
  | p :: ps, v :: vs => match f p v with
    | none => none
    | some l => match matchL f ps vs with
      | none => none
      | some m => some (l ++ m)
def matchD : Nat → GPattern → GValue → Option (List GBind)
  | 0, _, _ => none
  | d + 1, p, v =>
    if p.op = 1 then some []
    else if p.op = 2 then some [⟨p.var, v⟩]
    else if p.op = 3 then (if p.n ≤ v.n ∧ v.n ≤ p.m then some [] else none)
    else if p.op = 5 then (match p.kids with
      | [a, b] => (match matchD d a v with | some l => some l | none => matchD d b v)
      | _ => none)
    else if p.op = 6 then (match p.kids with
      | [a] => (matchD d a v).map (fun l => ⟨p.var, v⟩ :: l)
      | _ => none)
    else if p.ctor = v.ctor then matchL (matchD d) p.kids v.kids else none
theorem matchL_congr {f g : GPattern → GValue → Option (List GBind)} : ∀ (ps : List GPattern) (vs : List GValue), (∀ (j : Nat) (p : GPattern) (v : GValue), ps[j]? = some p → vs[j]? = some v → f p v = g p v) → matchL f ps vs = matchL g ps vs
  | [], _, _ => rfl
  | _ :: _, [], _ => rfl
  | p :: ps, v :: vs, h => by
    simp only [matchL]
    rw [h 0 p v rfl rfl, matchL_congr ps vs fun j p' v' h1 h2 => h (j + 1) p' v' (by simpa using h1) (by simpa using h2)]
theorem kid_of6 {w : List GData} {t : GType} {p : GPattern} (h6 : p.op = 6) (hl : p.kids.length = (kidsT w t p).length) : ∃ a, p.kids = [a] ∧ kidsT w t p = [t] := by
  have hk : kidsT w t p = [t] := by simp [kidsT, h6]
  rw [hk] at hl
  match hkids : p.kids, hl with
  | [a], _ => exact ⟨a, rfl, hk⟩
theorem flatMap_congr_mem {α β : Type} {l : List α} {f g : α → List β} (h : ∀ x ∈ l, f x = g x) : l.flatMap f = l.flatMap g := by
  induction l with
  | nil => rfl
  | cons x l ih => simp only [List.flatMap_cons]; rw [h x (by simp), ih fun y hy => h y (by simp [hy])]
theorem all_congr_mem {α : Type} {l : List α} {f g : α → Bool} (h : ∀ x ∈ l, f x = g x) : l.all f = l.all g := by
  induction l with
  | nil => rfl
  | cons x l ih => simp only [List.all_cons]; rw [h x (by simp), ih fun y hy => h y (by simp [hy])]
theorem mono_all {w : List GData} : ∀ (d : Nat) (t : GType) (p : GPattern), goodB w d t p = true →
    goodB w (d + 1) t p = true ∧ varsD w (d + 1) t p = varsD w d t p ∧ linD w (d + 1) t p = linD w d t p ∧ ∀ v, matchD (d + 1) p v = matchD d p v := by
  intro d
  induction d with
  | zero => intro t p h; cases h
  | succ d ih =>
    intro t p h
    obtain ⟨ho, hl⟩ := node_own (good_node h)
    have hz : ∀ x ∈ (kidsT w t p).zip p.kids, goodB w d x.1 x.2 = true := fun x hx => by
      obtain ⟨j, hj⟩ := List.mem_iff_getElem?.1 hx
      obtain ⟨h3, h4⟩ := List.getElem?_zip_eq_some.1 hj
      exact good_kid h h3 h4
    have g1 : goodB w (d + 1 + 1) t p = true := by
      rw [goodB, good_node h, Bool.true_and, List.all_eq_true]
      exact fun x hx => (ih x.1 x.2 (hz x hx)).1
    have g2 : varsD w (d + 1 + 1) t p = varsD w (d + 1) t p := by
      rw [varsD, varsD]
      congr 1
      exact flatMap_congr_mem fun x hx => (ih x.1 x.2 (hz x (List.mem_of_mem_take hx))).2.1
    have gk : ∀ i, kv w (d + 1) t p i = kv w d t p i := fun i => by
      unfold kv
      cases hx : ((kidsT w t p).zip p.kids)[i]? with
      | none => rfl
      | some x => exact (ih x.1 x.2 (hz x (List.mem_of_getElem? hx))).2.1
    have g3 : linD w (d + 1 + 1) t p = linD w (d + 1) t p := by
      rw [linD, linD, g2, gk, gk]
      congr 1
      exact all_congr_mem fun x hx => (ih x.1 x.2 (hz x hx)).2.2.1
    refine ⟨g1, g2, g3, fun v => ?_⟩
    have hm : ∀ q ∈ p.kids, ∀ v, matchD (d + 1) q v = matchD d q v := fun q hq v => by
      obtain ⟨j, hj⟩ := List.mem_iff_getElem?.1 hq
      have hjl := (List.getElem?_eq_some_iff.1 hj).1
      have ha : (kidsT w t p)[j]? = some ((kidsT w t p)[j]'(by omega)) := by simp
      exact (ih _ q (good_kid h ha hj)).2.2.2 v
    rw [matchD, matchD]
    split
    · rfl
    · split
      · rfl
      · split
        · rfl
        · split
          · split
            · rename_i a b hk
              rw [hm a (by rw [hk]; simp) v, hm b (by rw [hk]; simp) v]
            · rfl
          · split
            · split
              · rename_i a hk
                rw [hm a (by rw [hk]; simp) v]
              · rfl
            · split
              · exact matchL_congr _ _ fun j q u h1 _ => hm q (List.mem_of_getElem? h1) u
              · rfl
theorem match_ok {w : List GData} (hw : WW w) : ∀ (d n : Nat) (t : GType) (p : GPattern) (v : GValue) (e : Nat), t ∈ tys w → goodB w d t p = true → goodV w e t v → d + 2 ≤ n → cntP p ≤ 1000 →
    Ret (m_impl_match n p v) (fun r => r.1.length ≤ cntP p ∧ r.2 = (matchD d p v).isSome ∧ ∀ l, matchD d p v = some l → r.1 = l) := by
  intro d
  induction d with
  | zero => intro n t p v e ht h; cases h
  | succ d ih =>
    intro n t p v e ht hg hv hn hc
    obtain ⟨n, rfl⟩ : ∃ k, n = k + 1 := ⟨n - 1, by omega⟩
    obtain ⟨ho, hl⟩ := node_own (good_node hg)
    have hT := hw.ty t ht
    have hpos := cntP_pos p
    unfold m_impl_match
    refine Ret.ite (fun h => ?_) (fun h1 => ?_)
    · rw [ieq_true] at h
      exact .some ⟨by simp, by simp [matchD, h], fun l hl => by simp [matchD, h] at hl; exact hl.symm⟩
    rw [ieq_false] at h1
    refine Ret.ite (fun h => ?_) (fun h2 => ?_)
    · rw [ieq_true] at h
      exact .some ⟨by simp; omega, by simp [matchD, h], fun l hl => by simp [matchD, h] at hl; exact hl⟩
    rw [ieq_false] at h2
    refine Ret.ite (fun h => ?_) (fun h3 => ?_)
    · rw [ieq_true] at h
      rw [within_ok]
      refine .some ⟨by simp, ?_, fun l hl => ?_⟩
      · by_cases hr : p.n ≤ v.n ∧ v.n ≤ p.m
        · simp [matchD, h, hr]
        · simp only [matchD, h]
          simp [hr]
          simpa using hr
      · simp only [matchD, h] at hl
        simp at hl
        exact hl.2.symm
    rw [ieq_false] at h3
    refine Ret.ite (fun h => ?_) (fun h5 => ?_)
    · rw [ieq_true] at h
      obtain ⟨a, b, hkids, hk⟩ := kid0 h hl
      have ca := cnt_kid (p := p) (k := 0) (by rw [hkids]; rfl)
      have cb := cnt_kid (p := p) (k := 1) (by rw [hkids]; rfl)
      have ga := good_kid hg (k := 0) (by rw [hk]; rfl) (by rw [hkids]; rfl)
      have gb := good_kid hg (k := 1) (by rw [hk]; rfl) (by rw [hkids]; rfl)
      have i0 : idx [a, b] 0 = some a := rfl
      have i1 : idx [a, b] 1 = some b := rfl
      rw [hkids, i0, i1]
      simp only [Option.bind_some]
      have hm : matchD (d + 1) p v = (match matchD d a v with | some l => some l | none => matchD d b v) := by
        simp [matchD, h, hkids]
      rw [hm]
      refine Ret.bind (ih n t a v e ht ga hv (by omega) (by omega)) (fun r hr => ?_)
      obtain ⟨r0, r1, r2⟩ := hr
      rw [r1]
      cases hma : matchD d a v with
      | some l => exact .some ⟨by simp only; omega, rfl, fun l' hl' => by cases hl'; exact r2 l hma⟩
      | none =>
        simp only [Option.isSome_none, Bool.false_eq_true, if_false]
        refine Ret.bind (ih n t b v e ht gb hv (by omega) (by omega)) (fun s hs => ?_)
        obtain ⟨s0, s1, s2⟩ := hs
        exact .some ⟨by simp only; omega, s1, fun l' hl' => s2 l' hl'⟩
    rw [ieq_false] at h5
    refine Ret.ite (fun h => ?_) (fun h6 => ?_)
    · rw [ieq_true] at h
      obtain ⟨a, hkids, hk⟩ := kid_of6 h hl
      have ca := cnt_kid (p := p) (k := 0) (by rw [hkids]; rfl)
      have ga := good_kid hg (k := 0) (by rw [hk]; rfl) (by rw [hkids]; rfl)
      have i0 : idx [a] 0 = some a := rfl
      rw [hkids, i0]
      simp only [Option.bind_some]
      have hm : matchD (d + 1) p v = (matchD d a v).map (fun l => ⟨p.var, v⟩ :: l) := by
        simp [matchD, h, hkids]
      rw [hm]
      refine Ret.bind (ih n t a v e ht ga hv (by omega) (by omega)) (fun r hr => ?_)
      obtain ⟨r0, r1, r2⟩ := hr
      rw [app_ok (by simp [rowLimit]; omega)]
      refine .some ⟨by simp; omega, by rw [r1]; simp, fun l' hl' => ?_⟩
      simp only [Option.map_eq_some_iff] at hl'
      obtain ⟨l, e1, rfl⟩ := hl'
      rw [r2 l e1]
      rfl
    rw [ieq_false] at h6
    have h4 : p.op = 4 := by
      simp [ownOk, h1, h2, h3, h5, h6] at ho
      exact ho.2.1
    have hcm := own_ctor ho h4
    have hm : matchD (d + 1) p v = if p.ctor = v.ctor then matchL (matchD d) p.kids v.kids else none := by
      simp [matchD, h4]
    rw [hm]
    refine Ret.ite (fun h => ?_) (fun h => ?_)
    · rw [Bool.not_eq_true', ieq_false] at h
      rw [if_neg h]
      exact .some ⟨by simp, rfl, fun l hl => by cases hl⟩
    · rw [Bool.not_eq_false', ieq_true] at h
      rw [if_pos h]
      have hkt : kidsT w t p = argsP w t p.ctor := by simp [kidsT, h4]
      obtain ⟨e, rfl⟩ : ∃ e', e = e' + 1 := by cases e with
        | zero => exact hv.elim
        | succ e => exact ⟨e, rfl⟩
      have hdata : t.data ≠ -1 := fun hd => by
        obtain ⟨rfl, _⟩ := hT.ti hd
        have : ctorsP w tI = [] := rfl
        rw [this] at hcm
        cases hcm
      simp only [goodV, if_neg hdata] at hv
      obtain ⟨v1, v2, v3, v4⟩ := hv
      rw [← h] at v3 v4
      have hlen : p.kids.length = v.kids.length := by rw [v3, hl, hkt]
      refine Ret.ctl (forL_rule p.kids (fun k s => matchL (matchD d) p.kids v.kids = (matchL (matchD d) (p.kids.drop k) (v.kids.drop k)).map (fun l => s ++ l) ∧ s.length ≤ cntP.cntPs (p.kids.take k)) (fun r => r = ([], false) ∧ matchL (matchD d) p.kids v.kids = none)
        (fun s => matchL (matchD d) p.kids v.kids = some s ∧ s.length ≤ cntP.cntPs p.kids) ⟨by simp, by simp⟩ (fun k q s hq hI => ?_) (fun s hI => ?_)) (fun r hr => ?_) (fun s hs => ?_)
      · obtain ⟨i1, i2⟩ := hI
        have hlt := (List.getElem?_eq_some_iff.1 hq).1
        have hx : v.kids[k]? = some (v.kids[k]'(by omega)) := by simp
        have ha : (kidsT w t p)[k]? = some ((kidsT w t p)[k]'(by omega)) := by simp
        rw [idx_ok hx]
        simp only [Option.bind_some]
        have cq := cnt_kid hq
        have hcd := cntPs_drop p.kids k q hq
        have hct := cntPs_take_le p.kids (k + 1)
        have hcp := cntP_eq p
        refine Ret.bind (ih n _ q _ e (kidsT_tys hT ht ho _ (List.mem_of_getElem? ha)) (good_kid hg ha hq) (v4 k _ _ (by rw [← hkt]; exact ha) hx) (by omega) (by omega)) (fun r hr => ?_)
        obtain ⟨r0, r1, r2⟩ := hr
        have hd1 : p.kids.drop k = q :: p.kids.drop (k + 1) := by
          rw [List.drop_eq_getElem_cons hlt]
          rw [List.getElem?_eq_getElem hlt] at hq
          cases hq
          rfl
        have hd2 : v.kids.drop k = v.kids[k]'(by omega) :: v.kids.drop (k + 1) := List.drop_eq_getElem_cons (by omega)
        rw [hd1, hd2] at i1
        simp only [matchL] at i1
        cases hmq : matchD d q (v.kids[k]'(by omega)) with
        | none =>
          rw [hmq] at i1 r1
          rw [r1]
          exact .some ⟨rfl, i1⟩
        | some l =>
          rw [hmq] at i1 r1
          have e1 := r2 l hmq
          rw [r1]
          simp only [Option.isSome_some, Bool.not_true, Bool.false_eq_true, if_false]
          rw [app_ok (by simp only [rowLimit]; omega), e1]
          refine .some ⟨?_, by rw [List.length_append, ← e1]; omega⟩
          rw [i1]
          cases matchL (matchD d) (p.kids.drop (k + 1)) (v.kids.drop (k + 1)) with
          | none => rfl
          | some m => simp
      · obtain ⟨i1, i2⟩ := hI
        rw [List.take_length] at i2
        refine ⟨?_, i2⟩
        rw [i1, List.drop_length]
        simp [matchL]
      · obtain ⟨rfl, hr⟩ := hr
        exact .some ⟨by simp, by rw [hr]; rfl, fun l hl => by rw [hr] at hl; cases hl⟩
      · have hcp := cntP_eq p
        exact .some ⟨by simp only; omega, by rw [hs.1]; rfl, fun l hl => by rw [hs.1] at hl; cases hl; rfl⟩
end Go.Proofs.YtmkamncbkkahjaaGreat
namespace Go.Proofs.YtmkamncbkkahjaaGreat
open Go Go.RowKit
def deepP : Nat → GPattern → Prop
  | 0, _ => False
  | d + 1, p => ∀ q ∈ p.kids, deepP d q
theorem equalF_Pattern (a b : List GPattern) (f : GPattern → GPattern → Option Bool) (P : GPattern → GPattern → Prop) (hf : ∀ x ∈ a, ∀ y ∈ b, Ret (f x y) (fun r => r = true ↔ x = y)) : Ret (m_slices_EqualFunc_Pattern a b f) (fun r => r = true ↔ a = b) := by
  unfold m_slices_EqualFunc_Pattern
  refine Ret.ite (fun h => ?_) (fun h => ?_)
  · rw [Bool.not_eq_true', ieq_false] at h
    simp only [lenZ] at h
    exact .some ⟨fun e => (by cases e), fun e => by rw [e] at h; exact absurd rfl h⟩
  · rw [Bool.not_eq_false', ieq_true] at h
    simp only [lenZ] at h
    have hl : a.length = b.length := by omega
    refine Ret.ctl (forL_rule a (fun k _ => ∀ j : Nat, j < k → a[j]? = b[j]?) (fun r => r = false ∧ a ≠ b) (fun _ => a = b) (fun j hj => by omega) (fun k x s hx hI => ?_) (fun s hI => ?_)) (fun r hr => ?_) (fun s hs => ?_)
    · have hkl := (List.getElem?_eq_some_iff.1 hx).1
      have hy : b[k]? = some (b[k]'(by omega)) := by simp
      rw [idx_ok hy]
      simp only [Option.bind_some]
      refine Ret.bind (hf x (List.mem_of_getElem? hx) _ (List.mem_of_getElem? hy)) (fun r hr => ?_)
      refine Ret.ite (fun h => ?_) (fun h => ?_)
      · rw [Bool.not_eq_true'] at h
        refine .some ⟨rfl, fun e => ?_⟩
        rw [e] at hx
        rw [hx] at hy
        have := hr.2 (Option.some.inj hy)
        rw [h] at this
        cases this
      · rw [Bool.not_eq_false'] at h
        refine .some (fun j hj => ?_)
        by_cases hjk : j = k
        · subst hjk
          rw [hx, hy, hr.1 h]
        · exact hI j (by omega)
    · apply List.ext_getElem?
      intro j
      rcases Nat.lt_or_ge j a.length with h | h
      · exact hI j h
      · rw [List.getElem?_eq_none h, List.getElem?_eq_none (by omega)]
    · exact .some ⟨fun e => (by rw [hr.1] at e; cases e), fun e => absurd e hr.2⟩
    · exact .some ⟨fun _ => hs, fun _ => rfl⟩
theorem GPattern.ext' {a b : GPattern} (h1 : a.op = b.op) (h2 : a.ctor = b.ctor) (h3 : a.n = b.n) (h4 : a.m = b.m) (h5 : a.var = b.var) (h6 : a.kids = b.kids) : a = b := by
  cases a; cases b; simp_all
theorem implSame_ok : ∀ (d n : Nat) (a b : GPattern), deepP d a → d ≤ n → Ret (m_impl_PatternSame n a b) (fun r => r = true ↔ a = b) := by
  intro d
  induction d with
  | zero => intro n a b h; exact h.elim
  | succ d ih =>
    intro n a b h hn
    obtain ⟨n, rfl⟩ : ∃ k, n = k + 1 := ⟨n - 1, by omega⟩
    unfold m_impl_PatternSame
    refine Ret.ite (fun h1 => ?_) (fun h1 => .some ⟨fun e => (by cases e), fun e => by rw [ieq_false] at h1; exact absurd (by rw [e]) h1⟩)
    refine Ret.ite (fun h2 => ?_) (fun h1 => .some ⟨fun e => (by cases e), fun e => by rw [ieq_false] at h1; exact absurd (by rw [e]) h1⟩)
    refine Ret.ite (fun h3 => ?_) (fun h1 => .some ⟨fun e => (by cases e), fun e => by rw [ieq_false] at h1; exact absurd (by rw [e]) h1⟩)
    refine Ret.ite (fun h4 => ?_) (fun h1 => .some ⟨fun e => (by cases e), fun e => by rw [ieq_false] at h1; exact absurd (by rw [e]) h1⟩)
    refine Ret.ite (fun h5 => ?_) (fun h1 => .some ⟨fun e => (by cases e), fun e => by rw [ieq_false] at h1; exact absurd (by rw [e]) h1⟩)
    rw [ieq_true] at h1 h2 h3 h4 h5
    refine Ret.bind (equalF_Pattern a.kids b.kids _ (fun _ _ => True) (fun x hx y hy => ih n x y (h x hx) (by omega))) (fun r hr => .some ?_)
    exact ⟨fun e => GPattern.ext' h1 h2 h3 h4 h5 (hr.1 e), fun e => hr.2 (by rw [e])⟩
theorem good_deep {w : List GData} : ∀ (d : Nat) (t : GType) (p : GPattern), goodB w d t p = true → deepP d p := by
  intro d
  induction d with
  | zero => intro t p h; cases h
  | succ d ih =>
    intro t p h q hq
    obtain ⟨ho, hl⟩ := node_own (good_node h)
    obtain ⟨j, hj⟩ := List.mem_iff_getElem?.1 hq
    have hjl := (List.getElem?_eq_some_iff.1 hj).1
    exact ih _ q (good_kid h (show (kidsT w t p)[j]? = some ((kidsT w t p)[j]'(by omega)) by simp) hj)
theorem implOwn_ok : ∀ (d n : Nat) (p : GPattern), deepP d p → d ≤ n → cntP p ≤ 1000 → m_impl_ownPattern n p = some p := by
  intro d
  induction d with
  | zero => intro n p h; exact h.elim
  | succ d ih =>
    intro n p h hn hc
    obtain ⟨n, rfl⟩ : ∃ k, n = k + 1 := ⟨n - 1, by omega⟩
    have hcp := cntP_eq p
    have hr : Ret (m_impl_ownPattern (n + 1) p) (fun r => r = p) := by
      unfold m_impl_ownPattern
      refine Ret.ctl (forL_rule p.kids (fun k s => s = p.kids.take k ∧ s.length ≤ cntP.cntPs (p.kids.take k)) (fun _ => False) (fun s => s = p.kids) ⟨by simp, by simp⟩ (fun k q s hq hI => ?_) (fun s hI => ?_)) (fun r hr => hr.elim) (fun s hs => .some (GPattern.ext' rfl rfl rfl rfl rfl hs))
      · obtain ⟨i1, i2⟩ := hI
        have hct := cntPs_take_le p.kids (k + 1)
        have hcd := cntPs_drop p.kids k q hq
        have hq1 := cntP_pos q
        rw [ih n q (h q (List.mem_of_getElem? hq)) (by omega) (by omega)]
        simp only [Option.bind_some]
        rw [app_ok (by simp only [rowLimit, List.length_cons, List.length_nil]; omega)]
        exact .some ⟨by rw [i1, List.take_add_one, hq]; rfl, by simp; omega⟩
      · rw [hI.1, List.take_length]
    obtain ⟨r, e, rfl⟩ := hr
    exact e
theorem specCopy_ok : ∀ (d n : Nat) (p : GPattern), deepP d p → d ≤ n → cntP p ≤ 1000 → m_spec_l3Copy n p = some p := by
  intro d
  induction d with
  | zero => intro n p h; exact h.elim
  | succ d ih =>
    intro n p h hn hc
    obtain ⟨n, rfl⟩ : ∃ k, n = k + 1 := ⟨n - 1, by omega⟩
    have hcp := cntP_eq p
    have hr : Ret (m_spec_l3Copy (n + 1) p) (fun r => r = p) := by
      unfold m_spec_l3Copy
      refine Ret.ctl (forL_rule p.kids (fun k s => s = p.kids.take k ∧ s.length ≤ cntP.cntPs (p.kids.take k)) (fun _ => False) (fun s => s = p.kids) ⟨by simp, by simp⟩ (fun k q s hq hI => ?_) (fun s hI => ?_)) (fun r hr => hr.elim) (fun s hs => .some (GPattern.ext' rfl rfl rfl rfl rfl hs))
      · obtain ⟨i1, i2⟩ := hI
        have hct := cntPs_take_le p.kids (k + 1)
        have hcd := cntPs_drop p.kids k q hq
        have hq1 := cntP_pos q
        rw [ih n q (h q (List.mem_of_getElem? hq)) (by omega) (by omega)]
        simp only [Option.bind_some]
        rw [app_ok (by simp only [rowLimit, List.length_cons, List.length_nil]; omega)]
        exact .some ⟨by rw [i1, List.take_add_one, hq]; rfl, by simp; omega⟩
      · rw [hI.1, List.take_length]
    obtain ⟨r, e, rfl⟩ := hr
    exact e
end Go.Proofs.YtmkamncbkkahjaaGreat
namespace Go.Proofs.YtmkamncbkkahjaaGreat
open Go Go.RowKit
structure ROk (r : Gl17Rd) (m : Nat) : Prop where
  bytes : ∀ x ∈ r.b, 0 ≤ x ∧ x ≤ 255
  len : r.b.length ≤ 2000
  p0 : 0 ≤ r.p
  pm : r.p + m ≤ 1000000
structure Nx (r r' : Gl17Rd) (c : Nat) : Prop where
  b : r'.b = r.b
  le : r.p ≤ r'.p
  ge : r'.p ≤ r.p + c
theorem ROk.le {r : Gl17Rd} {m m' : Nat} (h : ROk r m) (hm : m' ≤ m) : ROk r m' := ⟨h.bytes, h.len, h.p0, by have := h.pm; omega⟩
theorem ROk.nx {r r' : Gl17Rd} {c m : Nat} (h : ROk r (c + m)) (hn : Nx r r' c) : ROk r' m := ⟨by rw [hn.b]; exact h.bytes, by rw [hn.b]; exact h.len, by have := h.p0; have := hn.le; omega, by have := h.pm; have := hn.ge; omega⟩
theorem Nx.refl (r : Gl17Rd) : Nx r r 0 := ⟨rfl, by omega, by omega⟩
theorem Nx.trans {a b c : Gl17Rd} {m n : Nat} (h : Nx a b m) (k : Nx b c n) : Nx a c (m + n) := ⟨k.b.trans h.b, by have := h.le; have := k.le; omega, by have := h.ge; have := k.ge; omega⟩
theorem Nx.le' {a b : Gl17Rd} {m n : Nat} (h : Nx a b m) (hm : m ≤ n) : Nx a b n := ⟨h.b, h.le, by have := h.ge; omega⟩
theorem xor_range {x y : Int} (hx : 0 ≤ x) (hx' : x < 1099511627776) (hy : 0 ≤ y) (hy' : y < 1099511627776) : 0 ≤ wxor .i64 x y ∧ wxor .i64 x y < 1099511627776 := by
  obtain ⟨a, rfl⟩ := Int.eq_ofNat_of_zero_le hx
  obtain ⟨b, rfl⟩ := Int.eq_ofNat_of_zero_le hy
  have e : (BitVec.ofInt IntKind.i64.bits (a : Int) ^^^ BitVec.ofInt IntKind.i64.bits (b : Int)).toNat = a ^^^ b := by
    have ha : (BitVec.ofInt IntKind.i64.bits (a : Int)).toNat = a := by
      rw [BitVec.toNat_ofInt]
      show (((a : Int) % ((2 ^ 64 : Nat) : Int))).toNat = a
      omega
    have hb : (BitVec.ofInt IntKind.i64.bits (b : Int)).toNat = b := by
      rw [BitVec.toNat_ofInt]
      show (((b : Int) % ((2 ^ 64 : Nat) : Int))).toNat = b
      omega
    rw [BitVec.toNat_xor, ha, hb]
  have hlt : a ^^^ b < 2 ^ 40 := Nat.xor_lt_two_pow (by omega) (by omega)
  unfold wxor
  rw [e, wrap64 (by omega) (by omega)]
  omega
theorem pick_ok {r : Gl17Rd} (h : ROk r 1) {k : Int} (h1 : 1 ≤ k) (h2 : k ≤ 1000000) : Ret (m_spec_l17Rd_pick r k) (fun a => 0 ≤ a.1 ∧ a.1 < k ∧ Nx r a.2 1) := by
  have hp0 := h.p0
  have hpm := h.pm
  have hlen := h.len
  have ep : wadd .i64 r.p 1 = r.p + 1 := wadd_ok (by omega) (by omega)
  have eq : wsub .i64 (r.p + 1) 1 = r.p := by rw [wsub_ok (by omega) (by omega)]; omega
  have nx : Nx r (Gl17Rd.mk r.b (r.p + 1)) 1 := ⟨rfl, by simp only; omega, by simp only; omega⟩
  unfold m_spec_l17Rd_pick
  rw [ep, eq]
  refine Ret.ite (fun c => by rw [ilt_true] at c; omega) (fun _ => ?_)
  refine Ret.ite (fun c => .some ⟨by simp, by simp; omega, nx⟩) (fun c => ?_)
  rw [ieq_false] at c
  simp only [lenZ] at c
  have hpos : 0 < r.b.length := by omega
  have hk0 : chk (!ieq k 0) = some () := chk_ok (by simp [ieq]; omega)
  have hb0 : chk (!ieq (lenZ r.b.length) 0) = some () := chk_ok (by rw [Bool.not_eq_true', ieq_false]; simp only [lenZ]; omega)
  have rem : ∀ x : Int, 0 ≤ x → 0 ≤ wrem x k ∧ wrem x k < k := fun x hx => by
    unfold wrem
    rw [Int.tmod_eq_emod_of_nonneg hx]
    exact ⟨Int.emod_nonneg _ (by omega), Int.emod_lt_of_pos _ (by omega)⟩
  refine Ret.ite (fun c2 => ?_) (fun c2 => ?_)
  · rw [ilt_true] at c2
    simp only [lenZ] at c2
    obtain ⟨x, hx, hm⟩ := idx_lt_ok hp0 c2
    obtain ⟨b1, b2⟩ := h.bytes x hm
    rw [hx, hk0]
    simp only [Option.bind_some]
    rw [wcv_ok (by omega) (by omega)]
    exact .some ⟨(rem x b1).1, (rem x b1).2, nx⟩
  · rw [hb0]
    simp only [Option.bind_some]
    have remb : ∀ x : Int, 0 ≤ x → 0 ≤ wrem x (lenZ r.b.length) ∧ wrem x (lenZ r.b.length) < r.b.length := fun x hx => by
      unfold wrem lenZ
      rw [Int.tmod_eq_emod_of_nonneg hx]
      exact ⟨Int.emod_nonneg _ (by omega), Int.emod_lt_of_pos _ (by omega)⟩
    have e7 : wmul .i64 r.p 7 = r.p * 7 := wmul_ok (by omega) (by omega)
    have e73 : wadd .i64 (r.p * 7) 3 = r.p * 7 + 3 := wadd_ok (by omega) (by omega)
    rw [e7, e73]
    obtain ⟨x, hx, hm⟩ := idx_lt_ok (remb r.p hp0).1 (remb r.p hp0).2
    obtain ⟨y, hy, hn⟩ := idx_lt_ok (remb (r.p * 7 + 3) (by omega)).1 (remb (r.p * 7 + 3) (by omega)).2
    obtain ⟨b1, b2⟩ := h.bytes x hm
    obtain ⟨b3, b4⟩ := h.bytes y hn
    rw [hx, hy, hk0]
    simp only [Option.bind_some]
    have f1 : wcv .i64 x = x := wcv_ok (by omega) (by omega)
    have f2 : wcv .i64 y = y := wcv_ok (by omega) (by omega)
    have f3 : wmul .i64 x 131 = x * 131 := wmul_ok (by omega) (by omega)
    have f4 : wmul .i64 y 1117 = y * 1117 := wmul_ok (by omega) (by omega)
    have f5 : wmul .i64 r.p 29 = r.p * 29 := wmul_ok (by omega) (by omega)
    have hq : 0 ≤ r.p.tdiv (lenZ r.b.length) ∧ r.p.tdiv (lenZ r.b.length) ≤ r.p := by
      rw [Int.tdiv_eq_ediv_of_nonneg hp0]
      exact ⟨Int.ediv_nonneg hp0 (by simp [lenZ]), Int.ediv_le_self _ hp0⟩
    have f6 : wquo .i64 r.p (lenZ r.b.length) = r.p.tdiv (lenZ r.b.length) := wquo_ok (by omega) (by omega)
    rw [f1, f2, f3, f4, f5, f6]
    generalize r.p.tdiv (lenZ r.b.length) = q at hq ⊢
    have f7 : wmul .i64 q 53 = q * 53 := wmul_ok (by omega) (by omega)
    have f8 : wadd .i64 (x * 131) (y * 1117) = x * 131 + y * 1117 := wadd_ok (by omega) (by omega)
    have f9 : wadd .i64 (x * 131 + y * 1117) (r.p * 29) = x * 131 + y * 1117 + r.p * 29 := wadd_ok (by omega) (by omega)
    rw [f7, f8, f9, wadd_ok (by omega) (by omega)]
    have hz : 0 ≤ x * 131 + y * 1117 + r.p * 29 + q * 53 ∧ x * 131 + y * 1117 + r.p * 29 + q * 53 < 1099511627776 := ⟨by omega, by omega⟩
    generalize x * 131 + y * 1117 + r.p * 29 + q * 53 = z at hz ⊢
    have hz64 : z.tdiv 64 = z / 64 := Int.tdiv_eq_ediv_of_nonneg hz.1
    rw [wquo_ok (by rw [hz64]; omega) (by rw [hz64]; omega), hz64]
    have hxr := xor_range hz.1 hz.2 (show 0 ≤ z / 64 by omega) (show z / 64 < 1099511627776 by omega)
    exact .some ⟨(rem _ hxr.1).1, (rem _ hxr.1).2, nx⟩
theorem num_ok {r : Gl17Rd} (h : ROk r 1) (l : List Int) (h1 : 1 ≤ l.length) (h2 : l.length ≤ 1000) : Ret (m_spec_l17Rd_num r l) (fun a => a.1 ∈ l ∧ Nx r a.2 1) := by
  unfold m_spec_l17Rd_num
  refine Ret.bind (pick_ok h (k := lenZ l.length) (by simp [lenZ]; omega) (by simp [lenZ]; omega)) (fun a ha => ?_)
  obtain ⟨x, hx, hm⟩ := idx_lt_ok (xs := l) ha.1 (by simpa [lenZ] using ha.2.1)
  rw [hx]
  exact .some ⟨hm, ha.2.2⟩
theorem open_ok (code : List Int) (hb : ∀ x ∈ code, 0 ≤ x ∧ x ≤ 255) : Ret (m_spec_l17Open code) (fun r => ROk r 1000000) := by
  unfold m_spec_l17Open
  refine Ret.ctl (R := fun _ => False) (B := fun s => (∀ x ∈ s, 0 ≤ x ∧ x ≤ 255) ∧ s.length ≤ 2000) ?_ (fun r hr => hr.elim) (fun s hs => ?_)
  · refine Ret.ite (fun h => ?_) (fun h => ?_)
    · rw [ilt_true] at h
      simp only [lenZ] at h
      have : takeI code 2000 = some (code.take 2000) := by
        unfold takeI
        rw [if_pos ⟨by omega, by omega⟩]
        rfl
      rw [this]
      exact .some ⟨fun x hx => hb x (List.mem_of_mem_take hx), by simp; omega⟩
    · rw [ilt_false] at h
      simp only [lenZ] at h
      exact .some ⟨hb, by omega⟩
  · exact .some ⟨hs.1, hs.2, by simp, by simp⟩
theorem world_ok {r : Gl17Rd} (h : ROk r 1) : Ret (m_spec_l1World NN r) (fun a => a.1 ∈ worlds ∧ Nx r a.2 1) := by
  unfold m_spec_l1World
  obtain ⟨T, hT⟩ : ∃ T, m_spec_l1Texts = some T := ⟨_, rfl⟩
  have hlen : T.length = 8 := by
    have h8 : m_spec_l1Texts.map List.length = some 8 := rfl
    rw [hT] at h8
    simpa using h8
  rw [hT]
  simp only [Option.bind_some]
  have e7 : wsub .i64 (lenZ T.length) 1 = 7 := by rw [hlen]; rfl
  rw [e7]
  refine Ret.bind (pick_ok h (by omega) (by omega)) (fun a ha => ?_)
  obtain ⟨i, hi⟩ := Int.eq_ofNat_of_zero_le ha.1
  obtain ⟨w, hw, hm⟩ := drawW_ok (i := i) (by have := ha.2.1; omega)
  unfold drawW at hw
  rw [hT] at hw
  simp only [Option.bind_some] at hw
  rw [hi]
  obtain ⟨x, hx, hw⟩ := bindE hw
  rw [hx]
  simp only [Option.bind_some]
  rw [hw]
  exact .some ⟨hm, ha.2.2⟩
def cDraw : Nat → Nat
  | 0 => 1
  | m + 1 => 1 + 3 * cDraw m
theorem cDraw_pos : ∀ m, 1 ≤ cDraw m
  | 0 => Nat.le_refl _
  | m + 1 => by simp only [cDraw]; omega
theorem draw2_ok {w : List GData} (hw : WW w) : ∀ (m n : Nat) (r : Gl17Rd) (t : GType) (depth : Int), t ∈ tys w → depP w t ≠ 0 → depth ≤ m → depP w t ≤ m → -1000 + m ≤ depth → m ≤ 100 → m + 1 ≤ n → ROk r (cDraw m) →
    Ret (m_spec_l2Draw n r w (tabP w) t depth) (fun a => Nx r a.2 (cDraw m)) := by
  intro m
  induction m with
  | zero =>
    intro n r t depth ht hd h1 h2 h3 hm100 hn hr
    have := (hw.ty t ht).d0
    omega
  | succ m ih =>
    intro n r t depth ht hd h1 h2 h3 hm100 hn hr
    obtain ⟨n, rfl⟩ : ∃ k, n = k + 1 := ⟨n - 1, by omega⟩
    have hT := hw.ty t ht
    have hpos := cDraw_pos (m + 1)
    unfold m_spec_l2Draw
    refine Ret.ite (fun h => ?_) (fun h => ?_)
    · refine Ret.bind (pick_ok (hr.le hpos) (by omega) (by omega)) (fun a ha => .some (ha.2.2.le' hpos))
    · rw [ieq_false] at h
      rw [hT.c1]
      simp only [Option.bind_some]
      obtain ⟨kb, hkb, hmb⟩ := hT.dm h hd
      have hd0 := hT.d0
      refine Ret.ctl (forL_rule (ctorsP w t) (fun k s => (∀ x ∈ s, x ∈ ctorsP w t ∧ 0 < mostP w t x ∧ (mostP w t x ≤ depth ∨ mostP w t x = depP w t)) ∧ s.length ≤ k ∧ (∀ j, j < k → (ctorsP w t)[j]? = some kb → s ≠ [])) (fun _ => False)
        (fun s => (∀ x ∈ s, x ∈ ctorsP w t ∧ 0 < mostP w t x ∧ (mostP w t x ≤ depth ∨ mostP w t x = depP w t)) ∧ s ≠ [] ∧ s.length ≤ 4) ⟨by simp, by simp, fun j hj => by omega⟩ (fun k x s hx hI => ?_) (fun s hI => ?_)) (fun r hr => hr.elim) (fun s hs => ?_)
      · obtain ⟨i1, i2, i3⟩ := hI
        have hxm := List.mem_of_getElem? hx
        have hkl := (List.getElem?_eq_some_iff.1 hx).1
        have hcl := hT.cl
        have take : ∀ (hp : 0 < mostP w t x ∧ (mostP w t x ≤ depth ∨ mostP w t x = depP w t)), Ret ((app s [x]).bind fun x310 => some (Ctl.brk (ρ := Ctl (GValue × Gl17Rd) (List Int)) x310)) (CtlQ (fun _ => False) (fun s' => (∀ x ∈ s', x ∈ ctorsP w t ∧ 0 < mostP w t x ∧ (mostP w t x ≤ depth ∨ mostP w t x = depP w t)) ∧ s'.length ≤ k + 1 ∧ (∀ j, j < k + 1 → (ctorsP w t)[j]? = some kb → s' ≠ []))) := fun hp => by
          rw [app_ok (by simp only [rowLimit, List.length_cons, List.length_nil]; omega)]
          refine .some ⟨fun y hy => ?_, by simp; omega, fun _ _ _ => by simp⟩
          rcases List.mem_append.1 hy with hy | hy
          · exact i1 y hy
          · simp at hy; subst hy; exact ⟨hxm, hp⟩
        have pass : (¬ (0 < mostP w t x ∧ (mostP w t x ≤ depth ∨ mostP w t x = depP w t))) → Ret (some (Ctl.brk (ρ := Ctl (GValue × Gl17Rd) (List Int)) s)) (CtlQ (fun _ => False) (fun s' => (∀ x ∈ s', x ∈ ctorsP w t ∧ 0 < mostP w t x ∧ (mostP w t x ≤ depth ∨ mostP w t x = depP w t)) ∧ s'.length ≤ k + 1 ∧ (∀ j, j < k + 1 → (ctorsP w t)[j]? = some kb → s' ≠ []))) := fun hp => by
          refine .some ⟨i1, by omega, fun j hj hjk => ?_⟩
          by_cases hjk2 : j = k
          · subst hjk2
            rw [hx] at hjk
            cases hjk
            exact absurd ⟨by omega, .inr hmb⟩ hp
          · exact i3 j (by omega) hjk
        refine Ret.ctl (R := fun _ => False) (B := fun (s' : List Int) => (∀ x ∈ s', x ∈ ctorsP w t ∧ 0 < mostP w t x ∧ (mostP w t x ≤ depth ∨ mostP w t x = depP w t)) ∧ s'.length ≤ k + 1 ∧ (∀ j, j < k + 1 → (ctorsP w t)[j]? = some kb → s' ≠ [])) ?_ (fun r hr => hr.elim) (fun s' hs' => ⟨_, rfl, hs'⟩)
        rw [hT.m1 x hxm]
        simp only [Option.bind_some]
        refine Ret.ite (fun c => ?_) (fun c => ?_)
        · rw [ilt_true] at c
          refine Ret.ite (fun c2 => ?_) (fun c2 => ?_)
          · rw [ile_true] at c2
            exact take ⟨c, .inl c2⟩
          · rw [ile_false] at c2
            rw [hT.d1]
            simp only [Option.bind_some]
            refine Ret.ite (fun c3 => ?_) (fun c3 => ?_)
            · rw [ieq_true] at c3
              exact take ⟨c, .inr c3⟩
            · rw [ieq_false] at c3
              exact pass (by omega)
        · rw [ilt_false] at c
          exact pass (by omega)
      · obtain ⟨i1, i2, i3⟩ := hI
        obtain ⟨j, hj⟩ := List.mem_iff_getElem?.1 hkb
        have := hT.cl
        exact ⟨i1, i3 j ((List.getElem?_eq_some_iff.1 hj).1) hj, by omega⟩
      · obtain ⟨i1, i2, i3⟩ := hs
        have hsl : 1 ≤ s.length := by cases s with
          | nil => exact absurd rfl i2
          | cons => simp
        refine Ret.bind (pick_ok (hr.le hpos) (k := lenZ s.length) (by simp [lenZ]; omega) (by simp [lenZ]; omega)) (fun a ha => ?_)
        obtain ⟨x, hx, hxm⟩ := idx_lt_ok (xs := s) ha.1 (by simpa [lenZ] using ha.2.1)
        obtain ⟨hxc, hx0, hxd⟩ := i1 x hxm
        rw [hx]
        simp only [Option.bind_some]
        rw [hT.a1 x hxc]
        simp only [Option.bind_some]
        have hal := hT.al x hxc
        have hr1 : ROk a.2 (3 * cDraw m) := ROk.nx (c := 1) hr ha.2.2
        refine Ret.ctl (forL_rule (argsP w t x) (fun k s => Nx a.2 s.1 (k * cDraw m) ∧ s.2.length ≤ k) (fun _ => False) (fun s => Nx a.2 s.1 (3 * cDraw m)) ⟨by simpa using Nx.refl a.2, by simp⟩ (fun k y s hy hI => ?_) (fun s hI => ?_)) (fun r hr => hr.elim) (fun s hs => ?_)
        · obtain ⟨j1, j2⟩ := hI
          have hym := List.mem_of_getElem? hy
          have hkl := (List.getElem?_eq_some_iff.1 hy).1
          obtain ⟨d1, d2⟩ := hT.ma x hxc (by omega) y hym
          have hws : wsub .i64 depth 1 = depth - 1 := wsub_ok (by omega) (by omega)
          rw [hws]
          have hr2 : ROk s.1 (cDraw m) := by
            have : k * cDraw m + cDraw m ≤ 3 * cDraw m := by
              rw [← Nat.succ_mul]
              exact Nat.mul_le_mul_right _ (by omega)
            exact ROk.nx (c := k * cDraw m) (hr1.le this) j1
          refine Ret.bind (ih n s.1 y (depth - 1) (hT.at_ x hxc y hym) (by omega) (by omega) (by omega) (by omega) (by omega) (by omega) hr2) (fun b hb => ?_)
          rw [app_ok (by simp only [rowLimit, List.length_cons, List.length_nil]; omega)]
          refine .some ⟨?_, by simp; omega⟩
          have := j1.trans hb
          rw [← Nat.succ_mul] at this
          exact this
        · obtain ⟨j1, j2⟩ := hI
          exact j1.le' (Nat.mul_le_mul_right _ hal)
        · exact .some (ha.2.2.trans hs)
theorem typed2_ok {r : Gl17Rd} (h : ROk r 1000) : Ret (m_spec_l2Typed NN r) (fun a => a.1 ∈ worlds ∧ a.2.1 ∈ tys a.1 ∧ Nx r a.2.2.2 500) := by
  unfold m_spec_l2Typed
  refine Ret.bind (world_ok (h.le (by omega))) (fun a ha => ?_)
  obtain ⟨hw, hn1⟩ := ha
  have hW := ww hw
  rw [hW.tab]
  simp only [Option.bind_some]
  have hr1 : ROk a.2 999 := ROk.nx (c := 1) h hn1
  have hpos := hW.pos
  have hle := hW.le
  refine Ret.bind (pick_ok (hr1.le (by omega)) (k := lenZ a.1.length) (by simp only [lenZ]; omega) (by simp only [lenZ]; omega)) (fun b hb => ?_)
  have hr2 : ROk b.2 998 := ROk.nx (c := 1) hr1 hb.2.2
  refine Ret.bind (num_ok (hr2.le (by omega)) [0, 0, 1, 2] (by simp) (by simp)) (fun c hc => ?_)
  have hr3 : ROk c.2 997 := ROk.nx (c := 1) hr2 hc.2
  have hty : (GType.mk b.1 c.1) ∈ tys a.1 := by
    obtain ⟨i, hi⟩ := Int.eq_ofNat_of_zero_le hb.1
    have hil : i < a.1.length := by have := hb.2.1; simp only [lenZ] at this; omega
    have hci : ∃ j : Nat, j < 4 ∧ c.1 = (j : Int) := by
      have := hc.1
      simp at this
      rcases this with h | h | h
      · exact ⟨0, by omega, h⟩
      · exact ⟨1, by omega, h⟩
      · exact ⟨2, by omega, h⟩
    obtain ⟨j, hj, hcj⟩ := hci
    unfold tys
    refine List.mem_cons_of_mem _ (List.mem_flatMap.2 ⟨i, List.mem_range.2 hil, List.mem_map.2 ⟨j, List.mem_range.2 hj, ?_⟩⟩)
    rw [hi, hcj]
    rfl
  have htI : tI ∈ tys a.1 := by unfold tys; exact List.mem_cons_self
  refine Ret.ctl (R := fun _ => False) (B := fun s => (GType.mk s.1 s.2) ∈ tys a.1 ∧ depP a.1 (GType.mk s.1 s.2) ≠ 0) ?_ (fun r hr => hr.elim) (fun s hs => ?_)
  · rw [(hW.ty _ hty).d1]
    simp only [Option.bind_some]
    refine Ret.ite (fun h => ?_) (fun h => ?_)
    · refine .some ⟨htI, ?_⟩
      have := (hW.ty tI htI).ti rfl
      show depP a.1 tI ≠ 0
      omega
    · rw [ieq_false] at h
      exact .some ⟨hty, h⟩
  · refine Ret.bind (num_ok (hr3.le (by omega)) [3, 2, 4, 1] (by simp) (by simp)) (fun d hd => ?_)
    have hr4 : ROk d.2 996 := ROk.nx (c := 1) hr3 hd.2
    have hd4 : 1 ≤ d.1 ∧ d.1 ≤ 4 := by
      have := hd.1
      simp at this
      omega
    have hdep := (hW.ty _ hs.1).d4
    refine Ret.bind (draw2_ok hW 4 NN d.2 _ d.1 hs.1 hs.2 (by omega) (by omega) (by omega) (by omega) (by decide) (hr4.le (by decide))) (fun e he => ?_)
    refine .some ⟨hw, hs.1, ?_⟩
    have := (((hn1.trans hb.2.2).trans hc.2).trans hd.2).trans he
    exact this.le' (by decide)
end Go.Proofs.YtmkamncbkkahjaaGreat
namespace Go.Proofs.YtmkamncbkkahjaaGreat
open Go Go.RowKit
def smallD : Nat → GPattern → Prop
  | 0, _ => False
  | d + 1, p => p.kids.length ≤ 3 ∧ ∀ q ∈ p.kids, smallD d q
theorem small_any (d : Nat) : smallD (d + 1) (GPattern.mk 1 0 0 0 0 []) := ⟨by simp, by simp⟩
def cD3 : Nat → Nat
  | 0 => 0
  | m + 1 => 5 + 3 * cD3 m
def cN3 : Nat → Nat
  | 0 => 0
  | m + 1 => 2 + 3 * cN3 m
theorem draw3_ok {w : List GData} (hw : WW w) : ∀ (m n : Nat) (r : Gl17Rd) (t : GType) (depth : Int), t ∈ tys w → depth ≤ m + 1 → -1000 + m ≤ depth → m ≤ 100 → m + 1 ≤ n → ROk r (cD3 m) →
    Ret (m_spec_l3Draw n r w t depth) (fun a => smallD (m + 1) a.1 ∧ Nx r a.2 (cD3 m)) := by
  intro m
  induction m with
  | zero =>
    intro n r t depth ht h1 h2 h3 hn hr
    obtain ⟨n, rfl⟩ : ∃ k, n = k + 1 := ⟨n - 1, by omega⟩
    unfold m_spec_l3Draw
    rw [if_pos (by rw [ilt_true]; omega)]
    exact .some ⟨small_any 0, Nx.refl r⟩
  | succ m ih =>
    intro n r t depth ht h1 h2 h3 hn hr
    obtain ⟨n, rfl⟩ : ∃ k, n = k + 1 := ⟨n - 1, by omega⟩
    have hT := hw.ty t ht
    have ec : cD3 (m + 1) = 5 + 3 * cD3 m := rfl
    rw [ec] at hr ⊢
    have hws : wsub .i64 depth 1 = depth - 1 := wsub_ok (by omega) (by omega)
    unfold m_spec_l3Draw
    refine Ret.ite (fun h => .some ⟨small_any _, (Nx.refl r).le' (by omega)⟩) (fun h => ?_)
    refine Ret.bind (pick_ok (hr.le (by omega)) (by omega) (by omega)) (fun a ha => ?_)
    have hr1 : ROk a.2 (4 + 3 * cD3 m) := ROk.nx (c := 1) (hr.le (by omega)) ha.2.2
    refine Ret.ite (fun h => .some ⟨small_any _, ha.2.2.le' (by omega)⟩) (fun h => ?_)
    refine Ret.bind (pick_ok (hr1.le (by omega)) (by omega) (by omega)) (fun b hb => ?_)
    have hr2 : ROk b.2 (3 + 3 * cD3 m) := ROk.nx (c := 1) (hr1.le (by omega)) hb.2.2
    have hab := ha.2.2.trans hb.2.2
    rw [hws]
    refine Ret.ite (fun h => ?_) (fun h => ?_)
    · refine Ret.bind (ih n b.2 t (depth - 1) ht (by omega) (by omega) (by omega) (by omega) (hr2.le (by omega))) (fun c hc => ?_)
      have hr3 : ROk c.2 (cD3 m) := ROk.nx (c := cD3 m) (hr2.le (by omega)) hc.2
      refine Ret.bind (ih n c.2 t (depth - 1) ht (by omega) (by omega) (by omega) (by omega) hr3) (fun d hd => ?_)
      refine .some ⟨⟨by simp, fun q hq => ?_⟩, ((hab.trans hc.2).trans hd.2).le' (by omega)⟩
      simp at hq
      rcases hq with rfl | rfl
      · exact hc.1
      · exact hd.1
    · refine Ret.ite (fun h => ?_) (fun h => ?_)
      · refine Ret.bind (pick_ok (hr2.le (by omega)) (by omega) (by omega)) (fun c hc => ?_)
        have hr3 : ROk c.2 (2 + 3 * cD3 m) := ROk.nx (c := 1) (hr2.le (by omega)) hc.2.2
        have e10 : wsub .i64 10 c.1 = 10 - c.1 := wsub_ok (by omega) (by omega)
        rw [e10]
        refine Ret.bind (pick_ok (hr3.le (by omega)) (by omega) (by omega)) (fun d hd => ?_)
        have hr4 : ROk d.2 (1 + 3 * cD3 m) := ROk.nx (c := 1) (hr3.le (by omega)) hd.2.2
        refine Ret.bind (pick_ok (hr4.le (by omega)) (by omega) (by omega)) (fun e he => ?_)
        exact .some ⟨⟨by simp, by simp⟩, (((hab.trans hc.2.2).trans hd.2.2).trans he.2.2).le' (by omega)⟩
      · rw [hT.c1]
        simp only [Option.bind_some]
        refine Ret.ite (fun h => .some ⟨small_any _, hab.le' (by omega)⟩) (fun h => ?_)
        rw [ieq_false] at h
        simp only [lenZ] at h
        have hcl := hT.cl
        refine Ret.bind (pick_ok (hr2.le (by omega)) (k := lenZ (ctorsP w t).length) (by simp only [lenZ]; omega) (by simp only [lenZ]; omega)) (fun c hc => ?_)
        have hr3 : ROk c.2 (3 * cD3 m) := ROk.nx (c := 1) (hr2.le (by omega)) hc.2.2
        obtain ⟨x, hx, hxm⟩ := idx_lt_ok (xs := ctorsP w t) hc.1 (by simpa [lenZ] using hc.2.1)
        rw [hx]
        simp only [Option.bind_some]
        rw [hT.a1 x hxm]
        simp only [Option.bind_some]
        have hal := hT.al x hxm
        refine Ret.ctl (forL_rule (argsP w t x) (fun k s => Nx c.2 s.1 (k * cD3 m) ∧ s.2.length = k ∧ ∀ q ∈ s.2, smallD (m + 1) q) (fun _ => False) (fun s => Nx c.2 s.1 (3 * cD3 m) ∧ s.2.length ≤ 3 ∧ ∀ q ∈ s.2, smallD (m + 1) q) ⟨by simpa using Nx.refl c.2, by simp, by simp⟩ (fun k y s hy hI => ?_) (fun s hI => ?_)) (fun r hr => hr.elim) (fun s hs => ?_)
        · obtain ⟨j1, j2, j3⟩ := hI
          have hym := List.mem_of_getElem? hy
          have hkl := (List.getElem?_eq_some_iff.1 hy).1
          have hr4 : ROk s.1 (cD3 m) := by
            have : k * cD3 m + cD3 m ≤ 3 * cD3 m := by
              rw [← Nat.succ_mul]
              exact Nat.mul_le_mul_right _ (by omega)
            exact ROk.nx (c := k * cD3 m) (hr3.le this) j1
          refine Ret.bind (ih n s.1 y (depth - 1) (hT.at_ x hxm y hym) (by omega) (by omega) (by omega) (by omega) hr4) (fun b hb => ?_)
          rw [app_ok (by simp only [rowLimit, List.length_cons, List.length_nil]; omega)]
          refine .some ⟨?_, by simp; omega, fun q hq => ?_⟩
          · have := j1.trans hb.2
            rw [← Nat.succ_mul] at this
            exact this
          · rcases List.mem_append.1 hq with hq | hq
            · exact j3 q hq
            · simp at hq; subst hq; exact hb.1
        · obtain ⟨j1, j2, j3⟩ := hI
          exact ⟨j1.le' (Nat.mul_le_mul_right _ hal), by omega, j3⟩
        · exact .some ⟨⟨hs.2.1, hs.2.2⟩, ((hab.trans hc.2.2).trans hs.1).le' (by omega)⟩
theorem name3_ok : ∀ (m n : Nat) (r : Gl17Rd) (p : GPattern) (v : Int), smallD m p → m + 1 ≤ n → ROk r (cN3 m) → Ret (m_spec_l3Name n r p v) (fun a => Nx r a.2.2 (cN3 m)) := by
  intro m
  induction m with
  | zero => intro n r p v h; exact h.elim
  | succ m ih =>
    intro n r p v hp hn hr
    obtain ⟨n, rfl⟩ : ∃ k, n = k + 1 := ⟨n - 1, by omega⟩
    obtain ⟨hk, hq⟩ := hp
    have ec : cN3 (m + 1) = 2 + 3 * cN3 m := rfl
    rw [ec] at hr ⊢
    unfold m_spec_l3Name
    refine Ret.ite (fun h => .some ((Nx.refl r).le' (by omega))) (fun h => ?_)
    refine Ret.ite (fun h => .some ((Nx.refl r).le' (by omega))) (fun h => ?_)
    refine Ret.ite (fun h => .some ((Nx.refl r).le' (by omega))) (fun h => ?_)
    refine Ret.ctl (R := fun (a : GPattern × Int × Gl17Rd) => Nx r a.2.2 (2 + 3 * cN3 m)) (B := fun (s : Gl17Rd) => Nx r s 1) ?_ (fun a ha => .some ha) (fun s hs => ?_)
    · refine Ret.ite (fun h => ?_) (fun h => .some ((Nx.refl r).le' (by omega)))
      refine Ret.bind (pick_ok (hr.le (by omega)) (by omega) (by omega)) (fun a ha => ?_)
      exact Ret.ite (fun h => .some (ha.2.2.le' (by omega))) (fun h => .some ha.2.2)
    · have hr1 : ROk s (1 + 3 * cN3 m) := ROk.nx (c := 1) (hr.le (by omega)) hs
      refine Ret.ctl (forL_rule p.kids (fun k u => Nx s u.1 (k * cN3 m) ∧ u.2.1.length = k) (fun _ => False) (fun u => Nx s u.1 (3 * cN3 m) ∧ u.2.1.length ≤ 3) ⟨by simpa using Nx.refl s, by simp⟩ (fun k y u hy hI => ?_) (fun u hI => ?_)) (fun r hr => hr.elim) (fun u hu => ?_)
      · obtain ⟨j1, j2⟩ := hI
        have hym := List.mem_of_getElem? hy
        have hkl := (List.getElem?_eq_some_iff.1 hy).1
        have hr4 : ROk u.1 (cN3 m) := by
          have : k * cN3 m + cN3 m ≤ 1 + 3 * cN3 m := by
            rw [← Nat.succ_mul]
            have := Nat.mul_le_mul_right (cN3 m) (show k.succ ≤ 3 by omega)
            omega
          exact ROk.nx (c := k * cN3 m) (hr1.le this) j1
        refine Ret.bind (ih n u.1 y _ (hq y hym) (by omega) hr4) (fun b hb => ?_)
        rw [app_ok (by simp only [rowLimit, List.length_cons, List.length_nil]; omega)]
        refine .some ⟨?_, by simp; omega⟩
        have := j1.trans hb
        rw [← Nat.succ_mul] at this
        exact this
      · obtain ⟨j1, j2⟩ := hI
        exact ⟨j1.le' (Nat.mul_le_mul_right _ hk), by omega⟩
      · have hr2 : ROk u.1 1 := ROk.nx (c := 3 * cN3 m) (hr1.le (by omega)) hu.1
        have hsu := hs.trans hu.1
        refine Ret.ctl (R := fun (a : GPattern × Int × Gl17Rd) => Nx r a.2.2 (2 + 3 * cN3 m)) (B := fun (s : Gl17Rd) => Nx r s (2 + 3 * cN3 m)) ?_ (fun a ha => .some ha) (fun s hs => .some hs)
        refine Ret.ite (fun h => ?_) (fun h => .some (hsu.le' (by omega)))
        refine Ret.bind (pick_ok hr2 (by omega) (by omega)) (fun a ha => ?_)
        have := (hsu.trans ha.2.2).le' (show 1 + 3 * cN3 m + 1 ≤ 2 + 3 * cN3 m by omega)
        exact Ret.ite (fun h => .some this) (fun h => .some this)
def anyP : GPattern := GPattern.mk 1 0 0 0 0 []
theorem any_valid (w : List GData) (t : GType) : validP w t anyP = true := by
  simp [validP, anyP, goodB, nodeOk, ownOk, kidsT, linD, varsD, ownV, distinct, cntP, cntP.cntPs]
theorem some3_ok {w : List GData} (hw : WW w) {r : Gl17Rd} {t : GType} (ht : t ∈ tys w) (h : ROk r 200) : Ret (m_spec_l3Some NN r w t) (fun a => validP w t a.1 = true ∧ Nx r a.2 200) := by
  unfold m_spec_l3Some
  refine Ret.bind (num_ok (h.le (by omega)) [3, 2, 4, 1] (by simp) (by simp)) (fun a ha => ?_)
  have hr1 : ROk a.2 199 := ROk.nx (c := 1) h ha.2
  have hd4 : 1 ≤ a.1 ∧ a.1 ≤ 4 := by
    have := ha.1
    simp at this
    omega
  refine Ret.bind (draw3_ok hw 3 NN a.2 t a.1 ht (by omega) (by omega) (by omega) (by decide) (hr1.le (by decide))) (fun b hb => ?_)
  have hr2 : ROk b.2 80 := ROk.nx (c := cD3 3) (hr1.le (by decide)) hb.2
  refine Ret.bind (name3_ok 4 NN b.2 b.1 0 hb.1 (by decide) (hr2.le (by decide))) (fun c hc => ?_)
  rw [specIs_ok hw (by decide) t c.1 ht]
  simp only [Option.bind_some]
  have hnx := ((ha.2.trans hb.2).trans hc).le' (show 1 + cD3 3 + cN3 4 ≤ 200 by decide)
  cases hv : validP w t c.1 with
  | false => exact .some ⟨any_valid w t, hnx⟩
  | true => exact .some ⟨hv, hnx⟩
theorem clause4_ok {w : List GData} (hw : WW w) {r : Gl17Rd} {t : GType} (ht : t ∈ tys w) (h : ROk r 500) : Ret (m_spec_l4Clause NN r w t) (fun a => validP w t a.1.pat = true ∧ Nx r a.2 500) := by
  unfold m_spec_l4Clause
  refine Ret.bind (some3_ok hw ht (h.le (by omega))) (fun a ha => ?_)
  have hr1 : ROk a.2 300 := ROk.nx (c := 200) h ha.2
  obtain ⟨g1, g2, g3⟩ := valid_good ha.1
  obtain ⟨v1, v2⟩ := specVars_ok hw 10 NN t a.1 [] ht g1 (by decide) (by simp; omega)
  rw [v1]
  simp only [Option.bind_some, List.nil_append]
  refine Ret.ctl (forL_rule (varsD w 10 t a.1) (fun k s => Nx a.2 s.1 (k * 3)) (fun _ => False) (fun s => Nx a.2 s.1 300) (by simpa using Nx.refl a.2) (fun k y s hy hI => ?_) (fun s hI => hI.le' (by omega))) (fun r hr => hr.elim) (fun s hs => .some ⟨ha.1, (ha.2.trans hs).le' (by omega)⟩)
  have hkl := (List.getElem?_eq_some_iff.1 hy).1
  have hr2 : ROk s.1 3 := ROk.nx (c := k * 3) (hr1.le (by omega)) hI
  refine Ret.ctl (R := fun _ => False) (B := fun (u : Gl17Rd × Int × Int × Int) => Nx a.2 u.1 ((k + 1) * 3)) ?_ (fun r hr => hr.elim) (fun u hu => .some hu)
  refine Ret.ite (fun h => ?_) (fun h => .some (hI.le' (by omega)))
  refine Ret.bind (pick_ok (hr2.le (by omega)) (by omega) (by omega)) (fun b hb => ?_)
  have hr3 : ROk b.2 2 := ROk.nx (c := 1) hr2 hb.2.2
  refine Ret.ite (fun h => ?_) (fun h => .some ((hI.trans hb.2.2).le' (by omega)))
  refine Ret.bind (pick_ok (hr3.le (by omega)) (by omega) (by omega)) (fun c hc => ?_)
  have hr4 : ROk c.2 1 := ROk.nx (c := 1) hr3 hc.2.2
  refine Ret.bind (pick_ok hr4 (by omega) (by omega)) (fun d hd => ?_)
  exact .some ((((hI.trans hb.2.2).trans hc.2.2).trans hd.2.2).le' (by omega))
theorem mutate3_ok {r : Gl17Rd} (h : ROk r 2) (p : GPattern) (hp : p.kids.length ≤ 1000) : Ret (m_spec_l3Mutate r p) (fun a => a.1.kids.length ≤ p.kids.length + 1 ∧ Nx r a.2 2) := by
  unfold m_spec_l3Mutate
  rw [app_ok (by simp [rowLimit]; omega)]
  simp only [Option.bind_some, List.nil_append]
  refine Ret.ctl (R := fun _ => False) (B := fun (s : Gl17Rd × Int × Int × Int × Int × (List GPattern)) => Nx r s.1 2 ∧ s.2.2.2.2.2.length ≤ p.kids.length + 1) ?_ (fun r hr => hr.elim) (fun s hs => .some ⟨hs.2, hs.1⟩)
  refine Ret.bind (pick_ok (h.le (by omega)) (by omega) (by omega)) (fun a ha => ?_)
  have hr1 : ROk a.2 1 := ROk.nx (c := 1) h ha.2.2
  refine Ret.ite (fun _ => Ret.bind (num_ok hr1 _ (by simp) (by simp)) (fun b hb => .some ⟨(ha.2.2.trans hb.2), by simp⟩)) (fun _ => ?_)
  refine Ret.ite (fun _ => Ret.bind (num_ok hr1 _ (by simp) (by simp)) (fun b hb => .some ⟨(ha.2.2.trans hb.2), by simp⟩)) (fun _ => ?_)
  refine Ret.ite (fun _ => Ret.bind (num_ok hr1 _ (by simp) (by simp)) (fun b hb => .some ⟨(ha.2.2.trans hb.2), by simp⟩)) (fun _ => ?_)
  refine Ret.ite (fun _ => ?_) (fun _ => ?_)
  · rw [app_ok (by simp [rowLimit]; omega)]
    exact .some ⟨ha.2.2.le' (by omega), by simp⟩
  refine Ret.ite (fun _ => ?_) (fun _ => ?_)
  · refine Ret.ite (fun c => ?_) (fun _ => .some ⟨ha.2.2.le' (by omega), by simp⟩)
    rw [ilt_true] at c
    simp only [lenZ] at c
    obtain ⟨x, hx, hm⟩ := idx_lt_ok (xs := p.kids) (i := 0) (by omega) (by omega)
    rw [hx]
    simp only [Option.bind_some]
    have : setI p.kids 0 (GPattern.mk 2 0 0 0 0 []) = some (p.kids.set 0 (GPattern.mk 2 0 0 0 0 [])) := by
      unfold setI
      rw [if_pos ⟨by omega, by show 0 < p.kids.length; omega⟩]
      rfl
    rw [this]
    exact .some ⟨ha.2.2.le' (by omega), by simp⟩
  refine Ret.ite (fun _ => Ret.bind (num_ok hr1 _ (by simp) (by simp)) (fun b hb => .some ⟨(ha.2.2.trans hb.2), by simp⟩)) (fun _ => ?_)
  exact .some ⟨ha.2.2.le' (by omega), by simp⟩
theorem valid_kids {w : List GData} (hw : WW w) {t : GType} (ht : t ∈ tys w) {p : GPattern} (h : validP w t p = true) : p.kids.length ≤ 3 := by
  obtain ⟨ho, hl⟩ := node_own (good_node (valid_good h).1)
  rw [hl]
  exact kidsT_len (hw.ty t ht) ho
end Go.Proofs.YtmkamncbkkahjaaGreat
namespace Go.Proofs.YtmkamncbkkahjaaGreat
open Go Go.RowKit
def orP (a b : GPattern) : GPattern := GPattern.mk 5 0 0 0 0 [a, b]
theorem or_cnt (a b : GPattern) : cntP (orP a b) = 1 + (cntP a + cntP b) := by simp [orP, cntP, cntP.cntPs]
theorem or_match (d : Nat) (a b : GPattern) (u : GValue) : matchD (d + 1) (orP a b) u = match matchD d a u with | some l => some l | none => matchD d b u := by simp [matchD, orP] <;> (cases matchD d a u <;> rfl)
theorem as_match {p a : GPattern} {u : GValue} (d : Nat) (h6 : p.op = 6) (hk : p.kids = [a]) : matchD (d + 1) p u = (matchD d a u).map (fun l => ⟨p.var, u⟩ :: l) := by
  rw [matchD]
  simp [h6, hk]
end Go.Proofs.YtmkamncbkkahjaaGreat
namespace Go.Proofs.YtmkamncbkkahjaaGreat
open Go Go.RowKit
def chkU (w : List GData) (d : Int) : Bool := (tys w).all fun t => (m_impl_ValuesUpTo NN w t d).isSome
theorem values1 : worlds.all (fun w => chkU w 1) = true := by kernel_rfl
theorem values2 : worlds.all (fun w => chkU w 2) = true := by kernel_rfl
theorem values3 : worlds.all (fun w => chkU w 3) = true := by kernel_rfl
theorem upto_ok {w : List GData} (hw : w ∈ worlds) {t : GType} (ht : t ∈ tys w) {d : Int} (h1 : 1 ≤ d) (h3 : d ≤ 3) : ∃ r, m_impl_ValuesUpTo NN w t d = some r := by
  have key : chkU w d = true := by
    rcases (by omega : d = 1 ∨ d = 2 ∨ d = 3) with rfl | rfl | rfl
    · exact List.all_eq_true.1 values1 w hw
    · exact List.all_eq_true.1 values2 w hw
    · exact List.all_eq_true.1 values3 w hw
  exact Option.isSome_iff_exists.1 (List.all_eq_true.1 key t ht)
end Go.Proofs.YtmkamncbkkahjaaGreat
namespace Go.Proofs.YtmkamncbkkahjaaGreat
open Go Go.RowKit
def deepV : Nat → GValue → Prop
  | 0, _ => False
  | d + 1, v => v.kids.length ≤ 3 ∧ ∀ x ∈ v.kids, deepV d x
theorem good_deepV {w : List GData} (hw : WW w) : ∀ (d : Nat) (t : GType) (v : GValue), t ∈ tys w → goodV w d t v → deepV d v := by
  intro d
  induction d with
  | zero => intro t v _ h; exact h
  | succ d ih =>
    intro t v ht h
    have hT := hw.ty t ht
    simp only [goodV] at h
    split at h
    · obtain ⟨_, _, _, h4⟩ := h
      exact ⟨by rw [h4]; simp, fun x hx => by rw [h4] at hx; cases hx⟩
    · obtain ⟨_, h2, h3, h4⟩ := h
      have hal := hT.al _ h2
      refine ⟨by omega, fun x hx => ?_⟩
      obtain ⟨j, hj⟩ := List.mem_iff_getElem?.1 hx
      have hjl := (List.getElem?_eq_some_iff.1 hj).1
      have ha : (argsP w t v.ctor)[j]? = some ((argsP w t v.ctor)[j]'(by omega)) := by simp
      exact ih _ x (hT.at_ _ h2 _ (List.mem_of_getElem? ha)) (h4 j _ x ha hj)
theorem GValue.ext' {a b : GValue} (h1 : a.ctor = b.ctor) (h2 : a.n = b.n) (h3 : a.kids = b.kids) : a = b := by
  cases a; cases b; simp_all
theorem ownValue_ok : ∀ (d n : Nat) (v : GValue), deepV d v → d ≤ n → m_impl_ownValue n v = some v := by
  intro d
  induction d with
  | zero => intro n v h; exact h.elim
  | succ d ih =>
    intro n v h hn
    obtain ⟨n, rfl⟩ : ∃ k, n = k + 1 := ⟨n - 1, by omega⟩
    obtain ⟨h1, h2⟩ := h
    have hr : Ret (m_impl_ownValue (n + 1) v) (fun r => r = v) := by
      unfold m_impl_ownValue
      refine Ret.ctl (forL_rule v.kids (fun k s => s = v.kids.take k) (fun _ => False) (fun s => s = v.kids) (by simp) (fun k q s hq hI => ?_) (fun s hI => ?_)) (fun r hr => hr.elim) (fun s hs => .some (GValue.ext' rfl rfl hs))
      · rw [ih n q (h2 q (List.mem_of_getElem? hq)) (by omega)]
        simp only [Option.bind_some]
        rw [app_ok (by simp only [rowLimit, List.length_cons, List.length_nil]; rw [hI, List.length_take]; omega)]
        exact .some (by rw [hI, List.take_add_one, hq]; rfl)
      · rw [hI, List.take_length]
    obtain ⟨r, e, rfl⟩ := hr
    exact e
theorem equalV_refl (a : List GValue) (f : GValue → GValue → Option Bool) (hf : ∀ x ∈ a, f x x = some true) : m_slices_EqualFunc_Value a a f = some true := by
  have hr : Ret (m_slices_EqualFunc_Value a a f) (fun r => r = true) := by
    unfold m_slices_EqualFunc_Value
    rw [if_neg (by simp [ieq])]
    refine Ret.ctl (forL_rule a (fun _ _ => True) (fun _ => False) (fun _ => True) trivial (fun k x s hx _ => ?_) (fun _ _ => trivial)) (fun r hr => hr.elim) (fun s _ => .some rfl)
    rw [idx_ok hx]
    simp only [Option.bind_some]
    rw [hf x (List.mem_of_getElem? hx)]
    exact .some trivial
  obtain ⟨_, e, rfl⟩ := hr
  exact e
theorem valueSame_refl : ∀ (d n : Nat) (v : GValue), deepV d v → d ≤ n → m_impl_ValueSame n v v = some true := by
  intro d
  induction d with
  | zero => intro n v h; exact h.elim
  | succ d ih =>
    intro n v h hn
    obtain ⟨n, rfl⟩ : ∃ k, n = k + 1 := ⟨n - 1, by omega⟩
    unfold m_impl_ValueSame
    rw [if_pos (by simp [ieq]), if_pos (by simp [ieq]), equalV_refl _ _ fun x hx => ih n x (h.2 x hx) (by omega)]
    rfl
def DB (l : List GBind) : Prop := ∀ b ∈ l, deepV 10 b.value
theorem ptBinds_refl {l : List GBind} (h : DB l) : m_laws_ptBinds NN l l = some true := by
  have hr : Ret (m_laws_ptBinds NN l l) (fun r => r = true) := by
    unfold m_laws_ptBinds
    rw [if_neg (by simp [ieq])]
    refine Ret.ctl (forL_rule l (fun _ _ => True) (fun _ => False) (fun _ => True) trivial (fun k x s hx _ => ?_) (fun _ _ => trivial)) (fun r hr => hr.elim) (fun s _ => .some rfl)
    rw [idx_ok hx]
    simp only [Option.bind_some]
    rw [if_neg (by simp [ieq]), valueSame_refl 10 NN x.value (h x (List.mem_of_getElem? hx)) (by decide)]
    exact .some trivial
  obtain ⟨_, e, rfl⟩ := hr
  exact e
theorem compare_ok (a b : Int) : ∃ r, m_cmp_Compare_int a b = some r := by
  have : Ret (m_cmp_Compare_int a b) (fun _ => True) := by
    unfold m_cmp_Compare_int m_cmp_isNaN_int
    simp only [Option.bind_some]
    repeat' first | exact .some trivial | refine Ret.ite (fun _ => ?_) (fun _ => ?_)
  obtain ⟨r, e, _⟩ := this
  exact ⟨r, e⟩
theorem setI_ok {α : Type} {xs : List α} {i : Int} {x : α} (h0 : 0 ≤ i) (h : i < xs.length) : setI xs i x = some (xs.set i.toNat x) := by
  unfold setI
  rw [if_pos ⟨h0, by omega⟩]
theorem insertion_ok {n : Nat} (hn : 30 ≤ n) (l : List GBind) (hl : l.length ≤ 12) (c : GBind → GBind → Option Int) (hc : ∀ a b, ∃ r, c a b = some r) :
    Ret (m_slices_insertionSortCmpFunc_Bind n l 0 (lenZ l.length) c) (fun r => r.Perm l) := by
  unfold m_slices_insertionSortCmpFunc_Bind
  have z1 : wadd .i64 0 1 = 1 := rfl
  rw [z1]
  refine Ret.ctl (whileL_rule (fun s : List GBind × Int => s.1.Perm l ∧ 1 ≤ s.2 ∧ s.2 ≤ 13) (fun s => (14 - s.2).toNat) (fun _ => False) (fun s => s.1.Perm l) ⟨.rfl, by simp, by simp⟩ (fun s hI => ?_) n (by simp; omega)) (fun r hr => hr.elim) (fun s hs => .some hs)
  obtain ⟨i1, i3, i4⟩ := hI
  refine Ret.ite (fun hlt => ?_) (fun _ => .some i1)
  rw [ilt_true] at hlt
  simp only [lenZ] at hlt
  refine Ret.ctl (whileL_rule (fun u : List GBind × Int => u.1.Perm l ∧ 0 ≤ u.2 ∧ u.2 < l.length) (fun u => u.2.toNat) (fun _ => False) (fun u => u.1.Perm l) ⟨i1, by omega, hlt⟩ (fun u hJ => ?_) n (by omega)) (fun r hr => hr.elim) (fun u hu => ?_)
  · obtain ⟨j1, j3, j4⟩ := hJ
    refine Ret.ite (fun hp => ?_) (fun _ => .some j1)
    rw [ilt_true] at hp
    have hs : wsub .i64 u.2 1 = u.2 - 1 := wsub_ok (by omega) (by omega)
    rw [hs]
    have hlen := j1.length_eq
    have ex : idx u.1 u.2 = some (u.1[u.2.toNat]'(by omega)) := idx_okI j3 (List.getElem?_eq_getElem (by omega))
    have ey : idx u.1 (u.2 - 1) = some (u.1[(u.2 - 1).toNat]'(by omega)) := idx_okI (by omega) (List.getElem?_eq_getElem (by omega))
    rw [ex, ey]
    simp only [Option.bind_some]
    obtain ⟨r, er⟩ := hc (u.1[u.2.toNat]'(by omega)) (u.1[(u.2 - 1).toNat]'(by omega))
    rw [er]
    simp only [Option.bind_some]
    refine Ret.ite (fun _ => ?_) (fun _ => .some j1)
    rw [setI_ok j3 (by omega)]
    simp only [Option.bind_some]
    obtain ⟨z, ez, _⟩ := idx_lt_ok (xs := u.1.set u.2.toNat (u.1[(u.2 - 1).toNat]'(by omega))) (i := u.2 - 1) (by omega) (by simp; omega)
    rw [ez]
    simp only [Option.bind_some]
    rw [setI_ok (by omega) (by simp; omega)]
    exact .some ⟨⟨(List.set_set_perm (by omega) (by omega)).trans j1, by simp; omega, by simp; omega⟩, by simp; omega⟩
  · have hw : wadd .i64 s.2 1 = s.2 + 1 := wadd_ok (by omega) (by omega)
    exact .some ⟨⟨hu, by simp only [hw]; omega, by simp only [hw]; omega⟩, by simp only [hw]; omega⟩
theorem len_ok : (List.range 13).all (fun k => (m_math_bits_Len (wcv .u64 (lenZ k))).isSome) = true := by kernel_rfl
theorem sort_ok (l : List GBind) (hl : l.length ≤ 12) (c : GBind → GBind → Option Int) (hc : ∀ a b, ∃ r, c a b = some r) :
    Ret (m_slices_SortFunc_Bind NN l c) (fun r => r.Perm l) := by
  unfold m_slices_SortFunc_Bind
  obtain ⟨b, hb⟩ := Option.isSome_iff_exists.1 (List.all_eq_true.1 len_ok l.length (List.mem_range.2 (by omega)))
  rw [hb]
  simp only [Option.bind_some]
  refine Ret.bind (P := fun r => r.Perm l) ?_ (fun r hr => ?_)
  · show Ret (m_slices_pdqsortCmpFunc_Bind (29999999 + 1) l 0 (lenZ l.length) b c) _
    unfold m_slices_pdqsortCmpFunc_Bind
    refine Ret.ctl (whileL_rule (fun _ => True) (fun _ => 0) (fun r : List GBind => r.Perm l) (fun _ => False) trivial (fun s _ => ?_) 29999999 (by omega)) (fun r hr => .some hr) (fun s hs => hs.elim)
    have h0 : wsub .i64 (lenZ l.length) 0 = lenZ l.length := by rw [wsub_ok] <;> simp only [lenZ] <;> omega
    rw [if_pos (by rw [ile_true, h0]; simp only [lenZ]; omega)]
    refine Ret.bind (insertion_ok (by decide) l hl c hc) (fun r hr => ?_)
    rw [chk_ok (by simp [hr.length_eq])]
    exact .some hr
  · rw [chk_ok (by simp [hr.length_eq])]
    exact .some hr
theorem match_deep : ∀ (d : Nat) (p : GPattern) (e : Nat) (v : GValue) (l : List GBind), deepV e v → matchD d p v = some l → ∀ b ∈ l, ∃ e', e' ≤ e ∧ deepV e' b.value := by
  intro d
  induction d with
  | zero => intro p e v l _ h; cases h
  | succ d ih =>
    intro p e v l hv hm b hb
    rw [matchD] at hm
    split at hm
    · cases hm; cases hb
    split at hm
    · cases hm
      simp only [List.mem_cons, List.not_mem_nil, or_false] at hb
      subst hb
      exact ⟨e, Nat.le_refl _, hv⟩
    split at hm
    · split at hm
      · cases hm; cases hb
      · cases hm
    split at hm
    · split at hm
      · split at hm
        · rename_i l' hl'
          cases hm
          exact ih _ e v _ hv hl' b hb
        · exact ih _ e v _ hv hm b hb
      · cases hm
    split at hm
    · split at hm
      · rename_i a _
        cases ha : matchD d a v with
        | none => rw [ha] at hm; cases hm
        | some l' =>
          rw [ha] at hm
          cases hm
          rcases List.mem_cons.1 hb with h | h
          · subst h
            exact ⟨e, Nat.le_refl _, hv⟩
          · exact ih _ e v _ hv ha b h
      · cases hm
    split at hm
    · cases e with
      | zero => exact hv.elim
      | succ e =>
        have hk := hv.2
        have gen : ∀ (ps : List GPattern) (vs : List GValue) (l : List GBind), (∀ x ∈ vs, deepV e x) → matchL (matchD d) ps vs = some l → ∀ b ∈ l, ∃ e', e' ≤ e ∧ deepV e' b.value := by
          intro ps
          induction ps with
          | nil => intro vs l _ h b hb; simp only [matchL] at h; cases h; cases hb
          | cons q ps ihp =>
            intro vs l hvs h b hb
            cases vs with
            | nil => cases h
            | cons u vs =>
              simp only [matchL] at h
              cases hq : matchD d q u with
              | none => rw [hq] at h; cases h
              | some l1 =>
                rw [hq] at h
                simp only at h
                cases hps : matchL (matchD d) ps vs with
                | none => rw [hps] at h; cases h
                | some l2 =>
                  rw [hps] at h
                  cases h
                  rcases List.mem_append.1 hb with hb | hb
                  · exact ih q e u l1 (hvs u (by simp)) hq b hb
                  · exact ihp vs l2 (fun x hx => hvs x (by simp [hx])) hps b hb
        obtain ⟨e', h1, h2⟩ := gen _ _ _ hk hm b hb
        exact ⟨e', by omega, h2⟩
    · cases hm
theorem deepV_le : ∀ (d e : Nat) (v : GValue), d ≤ e → deepV d v → deepV e v := by
  intro d
  induction d with
  | zero => intro e v _ h; exact h.elim
  | succ d ih =>
    intro e v he h
    obtain ⟨e, rfl⟩ : ∃ k, e = k + 1 := ⟨e - 1, by omega⟩
    exact ⟨h.1, fun x hx => ih e x (by omega) (h.2 x hx)⟩
theorem match_len {w : List GData} : ∀ (d : Nat) (t : GType) (p : GPattern), goodB w d t p = true → linD w d t p = true → ∀ v l, matchD d p v = some l → l.length = (varsD w d t p).length := by
  intro d
  induction d with
  | zero => intro t p h; cases h
  | succ d ih =>
    intro t p hg hlin v l hm
    obtain ⟨ho, hl⟩ := node_own (good_node hg)
    simp only [linD, Bool.and_eq_true, List.all_eq_true] at hlin
    rw [varsD]
    rw [matchD] at hm
    have hnil : p.op ≠ 4 → p.op ≠ 5 → p.op ≠ 6 → kidsT w t p = [] := fun h4 h5 h6 => by simp [kidsT, h4, h5, h6]
    by_cases h1 : p.op = 1
    · rw [if_pos h1] at hm; cases hm
      simp [ownV, h1, hnil]
    rw [if_neg h1] at hm
    by_cases h2 : p.op = 2
    · rw [if_pos h2] at hm; cases hm
      simp [ownV, h2, hnil]
    rw [if_neg h2] at hm
    by_cases h3 : p.op = 3
    · rw [if_pos h3] at hm
      split at hm
      · cases hm
        simp [ownV, h3, hnil]
      · cases hm
    rw [if_neg h3] at hm
    by_cases h5 : p.op = 5
    · rw [if_pos h5] at hm
      obtain ⟨a, b, hkids, hkt⟩ := kid0 h5 hl
      have ga := good_kid hg (k := 0) (by rw [hkt]; rfl) (by rw [hkids]; rfl)
      have gb := good_kid hg (k := 1) (by rw [hkt]; rfl) (by rw [hkids]; rfl)
      have g0 := hlin.1 (t, a) (by rw [hkids, hkt]; simp)
      have g1 := hlin.1 (t, b) (by rw [hkids, hkt]; simp)
      have hal := hlin.2
      rw [if_pos h5] at hal
      have k0 : kv w d t p 0 = varsD w d t a := by simp [kv, hkids, hkt]
      have k1 : kv w d t p 1 = varsD w d t b := by simp [kv, hkids, hkt]
      rw [k0, k1] at hal
      simp only [alikeB, Bool.and_eq_true, decide_eq_true_eq] at hal
      have hv : ownV t p = [] := by simp [ownV, h5]
      rw [hv, hkids, hkt, if_pos h5]
      simp only [List.zip_cons_cons, List.zip_nil_right, List.take_succ_cons, List.take_zero, List.flatMap_cons, List.flatMap_nil, List.append_nil, List.nil_append]
      rw [hkids] at hm
      simp only at hm
      split at hm
      · rename_i l' hl'
        cases hm
        exact ih t a ga g0 v _ hl'
      · rw [ih t b gb g1 v _ hm, hal.1]
    rw [if_neg h5] at hm
    rw [if_neg h5, List.take_of_length_le (by rw [List.length_zip]; omega)]
    by_cases h6 : p.op = 6
    · rw [if_pos h6] at hm
      obtain ⟨a, hkids, hk2⟩ := kid_of6 h6 hl
      have ga := good_kid hg (k := 0) (by rw [hk2]; rfl) (by rw [hkids]; rfl)
      have g0 := hlin.1 (t, a) (by rw [hkids, hk2]; simp)
      rw [hkids] at hm
      simp only at hm
      cases ha : matchD d a v with
      | none => rw [ha] at hm; cases hm
      | some l' =>
        rw [ha] at hm
        cases hm
        have := ih t a ga g0 v l' ha
        rw [hkids, hk2]
        simp [ownV, h6, this]
        try omega
    rw [if_neg h6] at hm
    have hv : ownV t p = [] := by simp [ownV, h2, h6]
    rw [hv, List.nil_append]
    split at hm
    · have gen : ∀ (ts : List GType) (ps : List GPattern) (vs : List GValue) (l : List GBind), ts.length = ps.length → (∀ x ∈ ts.zip ps, ∀ v l, matchD d x.2 v = some l → l.length = (varsD w d x.1 x.2).length) → matchL (matchD d) ps vs = some l → l.length = ((ts.zip ps).flatMap fun x => varsD w d x.1 x.2).length := by
        intro ts ps
        induction ps generalizing ts with
        | nil => intro vs l _ _ h; simp only [matchL] at h; cases h; simp
        | cons q ps ihp =>
          intro vs l hl hx h
          cases ts with
          | nil => simp at hl
          | cons a ts =>
            cases vs with
            | nil => cases h
            | cons u vs =>
              simp only [matchL] at h
              cases hq : matchD d q u with
              | none => rw [hq] at h; cases h
              | some l1 =>
                rw [hq] at h
                simp only at h
                cases hps : matchL (matchD d) ps vs with
                | none => rw [hps] at h; cases h
                | some l2 =>
                  rw [hps] at h
                  cases h
                  have e1 := hx (a, q) (by simp) u l1 hq
                  have e2 := ihp ts vs l2 (by simpa using hl) (fun x hxx => hx x (by simp [hxx])) hps
                  simp [e1, e2]
      refine gen _ _ _ _ hl.symm (fun x hx v l h => ?_) hm
      obtain ⟨j, hj⟩ := List.mem_iff_getElem?.1 hx
      obtain ⟨e1, e2⟩ := List.getElem?_zip_eq_some.1 hj
      exact ih _ _ (good_kid hg e1 e2) (hlin.1 x hx) v l h
    · cases hm
theorem nodup_range : ∀ (m : Nat) (l : List Int), l.Nodup → (∀ x ∈ l, 0 ≤ x ∧ x < m) → l.length ≤ m := by
  intro m
  induction m with
  | zero =>
    intro l _ h
    cases l with
    | nil => simp
    | cons x l => have := h x (by simp); omega
  | succ m ih =>
    intro l hn h
    have h1 := ih (l.erase (m : Int)) (hn.erase _) (fun x hx => by
      have hx2 := (hn.mem_erase_iff).1 hx
      have := h x hx2.2
      have := hx2.1
      omega)
    have h2 := List.length_erase (a := (m : Int)) (l := l)
    split at h2 <;> omega
theorem vars_len {w : List GData} {t : GType} {p : GPattern} {d : Nat} (g : goodB w d t p = true) (l : linD w d t p = true) : (varsD w d t p).length ≤ 6 := by
  have h1 := lin_distinct d t p g l
  simp only [distinct, decide_eq_true_eq] at h1
  have := nodup_range 6 _ h1 (fun x hx => by
    obtain ⟨y, hy, rfl⟩ := List.mem_map.1 hx
    have := vars_range d t p g y hy
    omega)
  simpa using this
theorem matched_eq {n : Nat} {p q : GPattern} {v : GValue} {x : Option (List GBind)} (hp : Ret (m_impl_match n p v) (fun r => r.2 = x.isSome ∧ ∀ l, x = some l → r.1 = l)) (hq : Ret (m_impl_match n q v) (fun r => r.2 = x.isSome ∧ ∀ l, x = some l → r.1 = l)) :
    m_impl_matched n p v = m_impl_matched n q v := by
  obtain ⟨⟨a1, a2⟩, e1, f1, g1⟩ := hp
  obtain ⟨⟨b1, b2⟩, e2, f2, g2⟩ := hq
  unfold m_impl_matched
  rw [e1, e2]
  simp only [Option.bind_some]
  cases x with
  | none =>
    simp only [Option.isSome_none] at f1 f2
    rw [f1, f2]
    rfl
  | some l =>
    simp only [Option.isSome_some] at f1 f2
    have h1 := g1 l rfl
    have h2 := g2 l rfl
    simp only at h1 h2
    rw [f1, f2, h1, h2]
theorem matched_ok {p : GPattern} {v : GValue} {x : Option (List GBind)} (hp : Ret (m_impl_match NN p v) (fun r => r.2 = x.isSome ∧ ∀ l, x = some l → r.1 = l)) (hx : ∀ l, x = some l → l.length ≤ 12 ∧ DB l) :
    Ret (m_impl_matched NN p v) (fun r => r.1.length ≤ 12 ∧ DB r.1 ∧ r.2 = x.isSome ∧ ∀ l, x = some l → r.1.Perm l) := by
  obtain ⟨⟨a1, a2⟩, e1, f1, g1⟩ := hp
  unfold m_impl_matched
  rw [e1]
  simp only [Option.bind_some]
  cases x with
  | none =>
    simp only [Option.isSome_none] at f1
    rw [f1]
    exact .some ⟨by simp, fun b hb => (by cases hb), rfl, fun l h => by cases h⟩
  | some l =>
    simp only [Option.isSome_some] at f1
    have h1 := g1 l rfl
    simp only at h1
    obtain ⟨hl, hd⟩ := hx l rfl
    rw [f1, h1]
    simp only [Bool.not_true, Bool.false_eq_true, if_false]
    refine Ret.bind (sort_ok l hl _ (fun a b => by
      obtain ⟨r, e⟩ := compare_ok a.var b.var
      exact ⟨r, by simp [m_impl_matched_1, e]⟩)) (fun r hr => ?_)
    have r1 := hr.length_eq
    have r2 : DB r := fun b hb => hd b (hr.subset hb)
    rw [chk_ok (by simp [r1])]
    simp only [Option.bind_some]
    refine Ret.ctl (forL_rule r (fun _ s => s = r) (fun _ => False) (fun s => s = r) rfl (fun k b s hb hI => ?_) (fun s hI => hI)) (fun r hr => hr.elim) (fun s hs => .some ⟨by rw [hs]; simp only; omega, by rw [hs]; exact r2, rfl, fun l' h' => by cases h'; rw [hs]; exact hr⟩)
    subst hI
    have hk := (List.getElem?_eq_some_iff.1 hb).1
    have hy : s[k]? = some s[k] := by simp
    have hyd := r2 _ (List.mem_of_getElem? hy)
    rw [idx_ok hy]
    simp only [Option.bind_some]
    rw [ownValue_ok 10 NN _ hyd (by decide)]
    simp only [Option.bind_some]
    rw [setI_ok (by omega) (by omega)]
    refine .some ?_
    exact List.set_getElem_self (as := s) (i := k) hk
theorem vscan_ok {w : List GData} (hw : WW w) : ∀ (d n : Nat) (t : GType) (v : GValue) (c : Int), t ∈ tys w → 0 ≤ c → c ≤ 60 → d + 2 ≤ n → d ≤ 10 →
    Ret (m_impl_valueScan n w t v (11 - (d : Int)) false c) (fun r => r.1 = true → goodV w d t v ∧ 0 ≤ r.2 ∧ r.2 ≤ 60) := by
  intro d
  induction d with
  | zero =>
    intro n t v c ht h0 hc hn hd
    obtain ⟨n, rfl⟩ : ∃ k, n = k + 1 := ⟨n - 1, by omega⟩
    unfold m_impl_valueScan
    refine Ret.ite (fun _ => .some (fun h => by cases h)) (fun _ => ?_)
    rw [if_pos (by rw [ilt_true]; omega)]
    exact .some (fun h => by cases h)
  | succ d ih =>
    intro n t v c ht h0 hc hn hd
    obtain ⟨n, rfl⟩ : ∃ k, n = k + 1 := ⟨n - 1, by omega⟩
    have hT := hw.ty t ht
    unfold m_impl_valueScan
    have hc1 : wadd .i64 c 1 = c + 1 := wadd_ok (by omega) (by omega)
    rw [hc1]
    refine Ret.ite (fun _ => .some (fun h => by cases h)) (fun hle => ?_)
    rw [ilt_false] at hle
    rw [if_neg (by rw [ilt_true]; omega), if_neg (by simp)]
    refine Ret.ctl (R := fun r : Bool × Int => r.1 = true → goodV w (d + 1) t v ∧ 0 ≤ r.2 ∧ r.2 ≤ 60) (B := fun _ : Unit => t.data ≠ -1 ∧ v.n = 0 ∧ v.ctor ∈ ctorsP w t) ?_ (fun r hr => .some hr) (fun s hs => ?_)
    · refine Ret.ite (fun hi => ?_) (fun hi => ?_)
      · rw [ieq_true] at hi
        refine Ret.ite (fun h1 => ?_) (fun _ => .some (fun h => by cases h))
        rw [ieq_true] at h1
        rw [within_ok]
        simp only [Option.bind_some]
        refine Ret.ite (fun h2 => ?_) (fun _ => .some (fun h => by cases h))
        simp only [Bool.and_eq_true, decide_eq_true_eq] at h2
        refine .some (fun h3 => ?_)
        simp only [ieq_true, lenZ] at h3
        refine ⟨?_, by simp only; omega, by simp only; omega⟩
        simp only [goodV, if_pos hi]
        exact ⟨h1, h2.1, h2.2, List.eq_nil_of_length_eq_zero (by omega)⟩
      · rw [ieq_false] at hi
        refine Ret.ite (fun _ => .some (fun h => by cases h)) (fun h1 => ?_)
        rw [Bool.not_eq_false', ieq_true] at h1
        rw [hT.c2]
        simp only [Option.bind_some]
        rw [contains_int_ok]
        simp only [Option.bind_some]
        refine Ret.ite (fun _ => .some (fun h => by cases h)) (fun h2 => ?_)
        rw [Bool.not_eq_false', decide_eq_true_eq] at h2
        exact .some ⟨hi, h1, h2⟩
    · obtain ⟨s1, s2, s3⟩ := hs
      rw [hT.a2 _ s3]
      simp only [Option.bind_some]
      refine Ret.ite (fun _ => .some (fun h => by cases h)) (fun hl => ?_)
      rw [Bool.not_eq_false', ieq_true] at hl
      simp only [lenZ] at hl
      refine Ret.ctl (forL_rule v.kids (fun k s => 0 ≤ s ∧ s ≤ 60 ∧ ∀ (j : Nat) (a : GType) (x : GValue), j < k → (argsP w t v.ctor)[j]? = some a → v.kids[j]? = some x → goodV w d a x) (fun r : Bool × Int => r.1 = true → goodV w (d + 1) t v ∧ 0 ≤ r.2 ∧ r.2 ≤ 60) (fun s => 0 ≤ s ∧ s ≤ 60 ∧ goodV w (d + 1) t v) ⟨by omega, by omega, fun j a x hj => by omega⟩ (fun k x s hx hI => ?_) (fun s hI => ?_)) (fun r hr => .some hr) (fun s hs => .some (fun _ => ⟨hs.2.2, hs.1, hs.2.1⟩))
      · obtain ⟨i1, i2, i3⟩ := hI
        have hk := (List.getElem?_eq_some_iff.1 hx).1
        have ha : (argsP w t v.ctor)[k]? = some ((argsP w t v.ctor)[k]'(by omega)) := by simp
        rw [idx_ok ha]
        simp only [Option.bind_some]
        have hdd : wadd .i64 (11 - ((d + 1 : Nat) : Int)) 1 = 11 - (d : Int) := by rw [wadd_ok] <;> omega
        rw [hdd]
        refine Ret.bind (ih n _ x s (hT.at_ _ s3 _ (List.mem_of_getElem? ha)) i1 i2 (by omega) (by omega)) (fun r hr => ?_)
        refine Ret.ite (fun _ => .some (fun h => by cases h)) (fun h => ?_)
        rw [Bool.not_eq_false'] at h
        obtain ⟨g1, g2, g3⟩ := hr h
        refine .some ⟨g2, g3, fun j a y hj h1 h2 => ?_⟩
        by_cases hjk : j = k
        · subst hjk
          rw [ha] at h1
          rw [hx] at h2
          cases h1
          cases h2
          exact g1
        · exact i3 j a y (by omega) h1 h2
      · refine ⟨hI.1, hI.2.1, ?_⟩
        simp only [goodV, if_neg s1]
        exact ⟨s2, s3, by omega, fun j a x h1 h2 => hI.2.2 j a x (List.getElem?_eq_some_iff.1 h2).1 h1 h2⟩
theorem valueOk_ok {w : List GData} (hw : WW w) {t : GType} (ht : t ∈ tys w) (v : GValue) : Ret (m_impl_valueOk NN w t v) (fun r => r = true → goodV w 10 t v) := by
  unfold m_impl_valueOk
  refine Ret.bind (vscan_ok hw 10 NN t v 0 ht (by omega) (by omega) (by decide) (by omega)) (fun r hr => .some fun h => (hr h).1)
end Go.Proofs.YtmkamncbkkahjaaGreat
namespace Go.Proofs.YtmkamncbkkahjaaGreat
open Go Go.RowKit
def intP (n m : Int) : GPattern := GPattern.mk 3 0 n m 0 []
def asP (v : Int) (k : GPattern) : GPattern := GPattern.mk 6 0 0 0 v [k]
def narD (g : Bool) (lo hi : Int) : Nat → GPattern → GPattern × Bool
  | 0, p => (p, false)
  | d + 1, p =>
    if p.op = 1 then (intP lo hi, g)
    else if p.op = 2 then (asP p.var (intP lo hi), g)
    else if p.op = 3 then (intP (max p.n lo) (min p.m hi), decide (max p.n lo ≤ min p.m hi))
    else match p.kids with
      | [a] => (asP p.var (narD g lo hi d a).1, (narD g lo hi d a).2)
      | [a, b] => if ((narD g lo hi d a).2 && (narD g lo hi d b).2) = true then (orP (narD g lo hi d a).1 (narD g lo hi d b).1, true) else if (narD g lo hi d a).2 = true then ((narD g lo hi d a).1, true) else narD g lo hi d b
      | _ => (p, false)
theorem ctors_int0 : worlds.all (fun w => decide (ctorsP w tI = [])) = true := by kernel_rfl
theorem ctors_int {w : List GData} (h : w ∈ worlds) : ctorsP w tI = [] := by
  have := List.all_eq_true.1 ctors_int0 w h
  simpa using this
theorem int_cases {w : List GData} (h0 : ctorsP w tI = []) {d : Nat} {p : GPattern} (g : goodB w (d + 1) tI p = true) :
    (p.op = 1 ∧ p.kids = []) ∨ (p.op = 2 ∧ p.kids = []) ∨ (p.op = 3 ∧ p.kids = []) ∨ (p.op = 5 ∧ ∃ a b, p.kids = [a, b] ∧ goodB w d tI a = true ∧ goodB w d tI b = true) ∨ (p.op = 6 ∧ ∃ a, p.kids = [a] ∧ goodB w d tI a = true) := by
  obtain ⟨ho, hl⟩ := node_own (good_node g)
  have ho' := ho
  simp only [ownOk, Bool.and_eq_true, Bool.or_eq_true, decide_eq_true_eq] at ho'
  rcases ho'.2 with (h | h) | h
  · rcases h with h | h | h | h
    · refine .inl ⟨h, ?_⟩
      rw [show kidsT w tI p = [] by simp [kidsT, h]] at hl
      exact List.eq_nil_of_length_eq_zero hl
    · refine .inr (.inl ⟨h, ?_⟩)
      rw [show kidsT w tI p = [] by simp [kidsT, h]] at hl
      exact List.eq_nil_of_length_eq_zero hl
    · obtain ⟨a, b, e1, e2⟩ := kid0 h hl
      exact .inr (.inr (.inr (.inl ⟨h, a, b, e1, good_kid g (k := 0) (by rw [e2]; rfl) (by rw [e1]; rfl), good_kid g (k := 1) (by rw [e2]; rfl) (by rw [e1]; rfl)⟩)))
    · obtain ⟨a, e1, e2⟩ := kid_of6 h hl
      exact .inr (.inr (.inr (.inr ⟨h, a, e1, good_kid g (k := 0) (by rw [e2]; rfl) (by rw [e1]; rfl)⟩)))
  · refine .inr (.inr (.inl ⟨h.1.1.1.1, ?_⟩))
    rw [show kidsT w tI p = [] by simp [kidsT, h.1.1.1.1]] at hl
    exact List.eq_nil_of_length_eq_zero hl
  · rw [h0] at h
    cases h.2
theorem int_match (d : Nat) (n m : Int) (u : GValue) : matchD (d + 1) (intP n m) u = if n ≤ u.n ∧ u.n ≤ m then some [] else none := by
  by_cases h : n ≤ u.n ∧ u.n ≤ m
  · rw [if_pos h]; simp only [matchD, intP]; simp only [show ¬ ((3 : Int) = 1) by decide, show ¬ ((3 : Int) = 2) by decide, if_false, if_true]; exact if_pos h
  · rw [if_neg h]; simp only [matchD, intP]; simp only [show ¬ ((3 : Int) = 1) by decide, show ¬ ((3 : Int) = 2) by decide, if_false, if_true]; exact if_neg h
theorem asP_match (d : Nat) (v : Int) (k : GPattern) (u : GValue) : matchD (d + 1) (asP v k) u = (matchD d k u).map (fun l => ⟨v, u⟩ :: l) := by simp [matchD, asP]
theorem int_cnt (n m : Int) : cntP (intP n m) = 1 := by simp [intP, cntP, cntP.cntPs]
theorem asP_cnt (v : Int) (k : GPattern) : cntP (asP v k) = 1 + cntP k := by simp [asP, cntP, cntP.cntPs]
theorem int_deep (d : Nat) (n m : Int) : deepP (d + 1) (intP n m) := fun q hq => by cases hq
theorem asP_deep {d : Nat} {v : Int} {k : GPattern} (h : deepP d k) : deepP (d + 1) (asP v k) := fun q hq => by
  simp [asP] at hq
  rw [hq]; exact h
theorem orP_deep {d : Nat} {a b : GPattern} (h : deepP d a) (k : deepP d b) : deepP (d + 1) (orP a b) := fun q hq => by
  simp [orP] at hq
  rcases hq with rfl | rfl
  · exact h
  · exact k
theorem deepP_succ : ∀ (d : Nat) (p : GPattern), deepP d p → deepP (d + 1) p := by
  intro d
  induction d with
  | zero => intro p h; exact h.elim
  | succ d ih => intro p h q hq; exact ih q (h q hq)
theorem cnt_two {p a b : GPattern} (h : p.kids = [a, b]) : cntP p = 1 + (cntP a + cntP b) := by rw [cntP_eq, h]; simp [cntP.cntPs]
theorem cnt_one {p a : GPattern} (h : p.kids = [a]) : cntP p = 1 + cntP a := by rw [cntP_eq, h]; simp [cntP.cntPs]
theorem nar_size {w : List GData} (h0 : ctorsP w tI = []) (g : Bool) (lo hi : Int) : ∀ (d : Nat) (p : GPattern), goodB w d tI p = true → deepP (d + 1) (narD g lo hi d p).1 ∧ cntP (narD g lo hi d p).1 ≤ 2 * cntP p := by
  intro d
  induction d with
  | zero => intro p h; cases h
  | succ d ih =>
    intro p h
    have hp := cntP_pos p
    rcases int_cases h0 h with ⟨h1, _⟩ | ⟨h1, _⟩ | ⟨h1, _⟩ | ⟨h1, a, b, hk, ga, gb⟩ | ⟨h1, a, hk, ga⟩
    · simp only [narD, h1, if_true]
      exact ⟨int_deep _ _ _, by rw [int_cnt]; omega⟩
    · simp only [narD, h1, if_true]
      exact ⟨asP_deep (int_deep _ _ _), by show cntP (asP _ _) ≤ _; rw [asP_cnt, int_cnt]; omega⟩
    · simp only [narD, h1, if_true]
      exact ⟨int_deep _ _ _, by show cntP (intP _ _) ≤ _; rw [int_cnt]; omega⟩
    · obtain ⟨a1, a2⟩ := ih a ga
      obtain ⟨b1, b2⟩ := ih b gb
      have hc := cnt_two hk
      simp only [narD, h1, hk]
      simp only [show ¬ ((5 : Int) = 1) by decide, show ¬ ((5 : Int) = 2) by decide, show ¬ ((5 : Int) = 3) by decide, if_false]
      split
      · exact ⟨orP_deep a1 b1, by show cntP (orP _ _) ≤ _; rw [or_cnt]; omega⟩
      · split
        · exact ⟨deepP_succ _ _ a1, by simp only; omega⟩
        · exact ⟨deepP_succ _ _ b1, by omega⟩
    · obtain ⟨a1, a2⟩ := ih a ga
      have hc := cnt_one hk
      simp only [narD, h1, hk]
      simp only [show ¬ ((6 : Int) = 1) by decide, show ¬ ((6 : Int) = 2) by decide, show ¬ ((6 : Int) = 3) by decide, if_false]
      exact ⟨asP_deep a1, by show cntP (asP _ _) ≤ _; rw [asP_cnt]; omega⟩
theorem nar_none {w : List GData} (h0 : ctorsP w tI = []) {lo hi : Int} (hlt : hi < lo) : ∀ (d : Nat) (p : GPattern), goodB w d tI p = true → (narD false lo hi d p).2 = false := by
  intro d
  induction d with
  | zero => intro p h; cases h
  | succ d ih =>
    intro p h
    rcases int_cases h0 h with ⟨h1, _⟩ | ⟨h1, _⟩ | ⟨h1, _⟩ | ⟨h1, a, b, hk, ga, gb⟩ | ⟨h1, a, hk, ga⟩
    · simp only [narD, h1, if_true]
    · simp only [narD, h1, if_true]; rfl
    · simp only [narD, h1, if_true]
      simp only [show ¬ ((3 : Int) = 1) by decide, show ¬ ((3 : Int) = 2) by decide, if_false, decide_eq_false_iff_not]
      omega
    · simp only [narD, h1, hk]
      simp only [show ¬ ((5 : Int) = 1) by decide, show ¬ ((5 : Int) = 2) by decide, show ¬ ((5 : Int) = 3) by decide, if_false, ih a ga, ih b gb]
      simp [ih b gb]
    · simp only [narD, h1, hk]
      simp only [show ¬ ((6 : Int) = 1) by decide, show ¬ ((6 : Int) = 2) by decide, show ¬ ((6 : Int) = 3) by decide, if_false, ih a ga]
theorem nar_up {w : List GData} (h0 : ctorsP w tI = []) (g : Bool) (lo hi : Int) (u : GValue) : ∀ (d : Nat) (p : GPattern), goodB w d tI p = true → ∀ k, d + 1 ≤ k → matchD k (narD g lo hi d p).1 u = matchD (d + 1) (narD g lo hi d p).1 u := by
  intro d
  induction d with
  | zero => intro p h; cases h
  | succ d ih =>
    intro p h k hk'
    obtain ⟨k, rfl⟩ : ∃ j, k = j + 2 := ⟨k - 2, by omega⟩
    rcases int_cases h0 h with ⟨h1, hk⟩ | ⟨h1, hk⟩ | ⟨h1, hk⟩ | ⟨h1, a, b, hk, ga, gb⟩ | ⟨h1, a, hk, ga⟩
    · have e : narD g lo hi (d + 1) p = (intP lo hi, g) := by simp [narD, h1]
      rw [e]
      simp only [int_match]
    · have e : narD g lo hi (d + 1) p = (asP p.var (intP lo hi), g) := by simp [narD, h1]
      rw [e]
      simp only [asP_match, int_match]
    · have e : narD g lo hi (d + 1) p = (intP (max p.n lo) (min p.m hi), decide (max p.n lo ≤ min p.m hi)) := by simp [narD, h1]
      rw [e]
      simp only [int_match]
    · have e : narD g lo hi (d + 1) p = if ((narD g lo hi d a).2 && (narD g lo hi d b).2) = true then (orP (narD g lo hi d a).1 (narD g lo hi d b).1, true) else if (narD g lo hi d a).2 = true then ((narD g lo hi d a).1, true) else narD g lo hi d b := by
        simp [narD, h1, hk]
      rw [e]
      split
      · simp only [or_match]
        rw [ih a ga (k + 1) (by omega), ih b gb (k + 1) (by omega)]
      · split
        · simp only
          rw [ih a ga (k + 2) (by omega), ih a ga (d + 1 + 1) (by omega)]
        · rw [ih b gb (k + 2) (by omega), ih b gb (d + 1 + 1) (by omega)]
    · have e : narD g lo hi (d + 1) p = (asP p.var (narD g lo hi d a).1, (narD g lo hi d a).2) := by simp [narD, h1, hk]
      rw [e]
      simp only [asP_match]
      rw [ih a ga (k + 1) (by omega)]
theorem nar_match {w : List GData} (h0 : ctorsP w tI = []) (lo hi : Int) (u : GValue) : ∀ (d : Nat) (p : GPattern), goodB w d tI p = true →
    ((narD true lo hi d p).2 = true → matchD (d + 1) (narD true lo hi d p).1 u = if lo ≤ u.n ∧ u.n ≤ hi then matchD d p u else none) ∧
    ((narD true lo hi d p).2 = false → lo ≤ u.n ∧ u.n ≤ hi → matchD d p u = none) := by
  intro d
  induction d with
  | zero => intro p h; cases h
  | succ d ih =>
    intro p h
    rcases int_cases h0 h with ⟨h1, hk⟩ | ⟨h1, hk⟩ | ⟨h1, hk⟩ | ⟨h1, a, b, hk, ga, gb⟩ | ⟨h1, a, hk, ga⟩
    · have e : narD true lo hi (d + 1) p = (intP lo hi, true) := by simp [narD, h1]
      have m : matchD (d + 1) p u = some [] := by simp [matchD, h1]
      rw [e, m]
      exact ⟨fun _ => int_match _ _ _ _, fun h => by cases h⟩
    · have e : narD true lo hi (d + 1) p = (asP p.var (intP lo hi), true) := by simp [narD, h1]
      have m : matchD (d + 1) p u = some [⟨p.var, u⟩] := by simp [matchD, h1]
      rw [e, m]
      refine ⟨fun _ => ?_, fun h => by cases h⟩
      rw [asP_match, int_match]
      split <;> rfl
    · have e : narD true lo hi (d + 1) p = (intP (max p.n lo) (min p.m hi), decide (max p.n lo ≤ min p.m hi)) := by simp [narD, h1]
      have m : matchD (d + 1) p u = if p.n ≤ u.n ∧ u.n ≤ p.m then some [] else none := by simp [matchD, h1]
      rw [e, m]
      refine ⟨fun _ => ?_, fun h hr => ?_⟩
      · rw [int_match]
        by_cases hr : lo ≤ u.n ∧ u.n ≤ hi
        · by_cases hp : p.n ≤ u.n ∧ u.n ≤ p.m
          · rw [if_pos hr, if_pos hp, if_pos (by omega)]
          · rw [if_pos hr, if_neg hp, if_neg (by omega)]
        · rw [if_neg hr, if_neg (by omega)]
      · simp only [decide_eq_false_iff_not] at h
        rw [if_neg (by omega)]
    · obtain ⟨a1, a2⟩ := ih a ga
      obtain ⟨b1, b2⟩ := ih b gb
      have m : matchD (d + 1) p u = match matchD d a u with | some l => some l | none => matchD d b u := by
        simp [matchD, h1, hk] <;> (cases matchD d a u <;> rfl)
      have e : narD true lo hi (d + 1) p = if ((narD true lo hi d a).2 && (narD true lo hi d b).2) = true then (orP (narD true lo hi d a).1 (narD true lo hi d b).1, true) else if (narD true lo hi d a).2 = true then ((narD true lo hi d a).1, true) else narD true lo hi d b := by
        simp [narD, h1, hk]
      cases ea : (narD true lo hi d a).2 with
      | true =>
        cases eb : (narD true lo hi d b).2 with
        | true =>
          rw [e, ea, eb, m]
          simp only [Bool.and_self, if_true]
          refine ⟨fun _ => ?_, fun h => by cases h⟩
          rw [or_match, a1 ea, b1 eb]
          by_cases hr : lo ≤ u.n ∧ u.n ≤ hi
          · rw [if_pos hr, if_pos hr, if_pos hr]
            all_goals (cases matchD d a u <;> rfl)
          · rw [if_neg hr, if_neg hr, if_neg hr]
        | false =>
          rw [e, ea, eb, m]
          simp only [Bool.and_false, Bool.false_eq_true, if_false, if_true]
          refine ⟨fun _ => ?_, fun h => by cases h⟩
          rw [nar_up h0 true lo hi u d a ga _ (by omega), a1 ea]
          by_cases hr : lo ≤ u.n ∧ u.n ≤ hi
          · rw [if_pos hr, if_pos hr, b2 eb hr]
            all_goals (cases matchD d a u <;> rfl)
          · rw [if_neg hr, if_neg hr]
      | false =>
        rw [e, ea, m]
        simp only [Bool.false_and, Bool.false_eq_true, if_false]
        refine ⟨fun hb => ?_, fun hb hr => ?_⟩
        · rw [nar_up h0 true lo hi u d b gb _ (by omega), b1 hb]
          by_cases hr : lo ≤ u.n ∧ u.n ≤ hi
          · rw [if_pos hr, if_pos hr, a2 ea hr]
          · rw [if_neg hr, if_neg hr]
        · rw [a2 ea hr, b2 hb hr]
    · obtain ⟨a1, a2⟩ := ih a ga
      have m : matchD (d + 1) p u = (matchD d a u).map (fun l => ⟨p.var, u⟩ :: l) := by simp [matchD, h1, hk]
      have e : narD true lo hi (d + 1) p = (asP p.var (narD true lo hi d a).1, (narD true lo hi d a).2) := by simp [narD, h1, hk]
      rw [e, m]
      refine ⟨fun hb => ?_, fun hb hr => ?_⟩
      · rw [asP_match, a1 hb]
        split <;> rfl
      · rw [a2 hb hr]; rfl
end Go.Proofs.YtmkamncbkkahjaaGreat
namespace Go.Proofs.YtmkamncbkkahjaaGreat
open Go Go.RowKit
def hasB (v : Int) : Nat → GPattern → Bool
  | 0, _ => false
  | d + 1, p => p.kids.any (hasB v d) || (decide (p.op = 2 ∨ p.op = 6) && decide (p.var = v))
def undB (v : Int) : Nat → GPattern → Bool
  | 0, _ => false
  | d + 1, p => p.kids.any fun q => (decide (p.op = 5) && hasB v d q) || undB v d q
theorem op_cases {w : List GData} {d : Nat} {t : GType} {p : GPattern} (g : goodB w (d + 1) t p = true) :
    (p.op = 1 ∧ p.kids = []) ∨ (p.op = 2 ∧ p.kids = []) ∨ (p.op = 3 ∧ p.kids = []) ∨ (p.op = 5 ∧ ∃ a b, p.kids = [a, b] ∧ kidsT w t p = [t, t]) ∨ (p.op = 6 ∧ ∃ a, p.kids = [a] ∧ kidsT w t p = [t]) ∨ p.op = 4 := by
  obtain ⟨ho, hl⟩ := node_own (good_node g)
  have ho' := ho
  simp only [ownOk, Bool.and_eq_true, Bool.or_eq_true, decide_eq_true_eq] at ho'
  have nil : kidsT w t p = [] → p.kids = [] := fun h => by rw [h] at hl; exact List.eq_nil_of_length_eq_zero hl
  rcases ho'.2 with (h | h) | h
  · rcases h with h | h | h | h
    · exact .inl ⟨h, nil (by simp [kidsT, h])⟩
    · exact .inr (.inl ⟨h, nil (by simp [kidsT, h])⟩)
    · exact .inr (.inr (.inr (.inl ⟨h, kid0 h hl⟩)))
    · exact .inr (.inr (.inr (.inr (.inl ⟨h, kid_of6 h hl⟩))))
  · exact .inr (.inr (.inl ⟨h.1.1.1.1, nil (by simp [kidsT, h.1.1.1.1])⟩))
  · exact .inr (.inr (.inr (.inr (.inr h.1))))
theorem kid_at {w : List GData} {d : Nat} {t : GType} {p : GPattern} (g : goodB w (d + 1) t p = true) (l : linD w (d + 1) t p = true) {j : Nat} {q : GPattern} (h : p.kids[j]? = some q) : ∃ a, (kidsT w t p)[j]? = some a ∧ goodB w d a q = true ∧ linD w d a q = true := by
  obtain ⟨ho, hl⟩ := node_own (good_node g)
  have hj := (List.getElem?_eq_some_iff.1 h).1
  have ha : (kidsT w t p)[j]? = some ((kidsT w t p)[j]'(by omega)) := by simp
  refine ⟨_, ha, good_kid g ha h, ?_⟩
  simp only [linD, Bool.and_eq_true, List.all_eq_true] at l
  exact l.1 _ (List.mem_of_getElem? (zip_get ha h))
theorem sub_of_len {α : Type} [DecidableEq α] : ∀ (a b : List α), a.Nodup → (∀ x ∈ a, x ∈ b) → b.length ≤ a.length → ∀ x ∈ b, x ∈ a
  | [], b, _, _, h, x, hx => by
    have : b = [] := List.eq_nil_of_length_eq_zero (by simpa using h)
    rw [this] at hx; cases hx
  | y :: a, b, hn, hs, h, x, hx => by
    have hy := hs y (by simp)
    have hlen := List.length_erase_of_mem hy
    have hpos : 0 < b.length := List.length_pos_of_mem hy
    rw [List.nodup_cons] at hn
    by_cases e : x = y
    · simp [e]
    · refine List.mem_cons_of_mem _ (sub_of_len a (b.erase y) hn.2 (fun z hz => ?_) (by simp at h; omega) x ((List.mem_erase_of_ne e).2 hx))
      refine (List.mem_erase_of_ne fun e' => ?_).2 (hs z (by simp [hz]))
      rw [e'] at hz; exact hn.1 hz
theorem alike_back {w : List GData} {d : Nat} {t : GType} {a b : GPattern} (ga : goodB w d t a = true) (la : linD w d t a = true) (h : alikeB (varsD w d t a) (varsD w d t b) = true) : ∀ x, x ∈ varsD w d t a ↔ x ∈ varsD w d t b := by
  simp only [alikeB, Bool.and_eq_true, decide_eq_true_eq, List.all_eq_true] at h
  have hn := lin_distinct d t a ga la
  simp only [distinct, decide_eq_true_eq] at hn
  have hn2 : (varsD w d t a).Nodup := (List.pairwise_map.1 hn).imp fun h e => h (by rw [e])
  exact fun x => ⟨h.2 x, sub_of_len _ _ hn2 h.2 (by omega) x⟩
theorem lin5 {w : List GData} {d : Nat} {t : GType} {p a b : GPattern} (l : linD w (d + 1) t p = true) (h5 : p.op = 5) (hk : p.kids = [a, b]) (ht : kidsT w t p = [t, t]) : linD w d t a = true ∧ linD w d t b = true ∧ alikeB (varsD w d t a) (varsD w d t b) = true := by
  simp only [linD, h5, if_true, Bool.and_eq_true, List.all_eq_true, hk, ht, kv] at l
  exact ⟨l.1 (t, a) (by simp), l.1 (t, b) (by simp), by simpa using l.2⟩
theorem vars_all {w : List GData} {d : Nat} {t : GType} {p : GPattern} (g : goodB w (d + 1) t p = true) (h5 : p.op ≠ 5) : varsD w (d + 1) t p = ownV t p ++ ((kidsT w t p).zip p.kids).flatMap fun x => varsD w d x.1 x.2 := by
  obtain ⟨ho, hl⟩ := node_own (good_node g)
  simp only [varsD, h5, if_false]
  rw [List.take_of_length_le (by rw [List.length_zip]; omega)]
theorem has_vars {w : List GData} (v : Int) : ∀ (d : Nat) (t : GType) (p : GPattern), goodB w d t p = true → linD w d t p = true → (hasB v d p = true ↔ ∃ x ∈ varsD w d t p, x.var = v) := by
  intro d
  induction d with
  | zero => intro t p h; cases h
  | succ d ih =>
    intro t p g l
    by_cases h5 : p.op = 5
    · obtain ⟨ho, hl⟩ := node_own (good_node g)
      obtain ⟨a, b, hk, ht⟩ := kid0 h5 hl
      obtain ⟨la, lb, hal⟩ := lin5 l h5 hk ht
      have ga := good_kid g (k := 0) (q := a) (a := t) (by rw [ht]; rfl) (by rw [hk]; rfl)
      have gb := good_kid g (k := 1) (q := b) (a := t) (by rw [ht]; rfl) (by rw [hk]; rfl)
      have e : varsD w (d + 1) t p = varsD w d t a := by simp [varsD, h5, hk, ht, ownV]
      have hb := alike_back ga la hal
      simp only [hasB, hk, h5, List.any_cons, List.any_nil, Bool.or_false, show ¬ ((5 : Int) = 2 ∨ (5 : Int) = 6) by decide, decide_false, Bool.false_and, Bool.or_eq_true]
      rw [e, ih t a ga la, ih t b gb lb]
      exact ⟨fun h => h.elim id fun ⟨x, hx, e⟩ => ⟨x, (hb x).2 hx, e⟩, .inl⟩
    · rw [vars_all g h5]
      simp only [hasB, Bool.or_eq_true, List.any_eq_true, Bool.and_eq_true, decide_eq_true_eq, List.mem_append]
      constructor
      · rintro (⟨q, hq, hh⟩ | ⟨h1, h2⟩)
        · obtain ⟨j, hj⟩ := List.mem_iff_getElem?.1 hq
          obtain ⟨a, ha, ga, la⟩ := kid_at g l hj
          obtain ⟨x, hx, e⟩ := (ih a q ga la).1 hh
          exact ⟨x, .inr (List.mem_flatMap.2 ⟨(a, q), List.mem_of_getElem? (zip_get ha hj), hx⟩), e⟩
        · exact ⟨⟨p.var, t⟩, .inl (by simp [ownV, h1]), h2⟩
      · rintro ⟨x, hx | hx, e⟩
        · unfold ownV at hx
          split at hx
          · rename_i h
            simp at hx
            exact .inr ⟨h, by rw [← e, hx]⟩
          · cases hx
        · obtain ⟨⟨a, q⟩, hz, hx⟩ := List.mem_flatMap.1 hx
          obtain ⟨j, hj⟩ := List.mem_iff_getElem?.1 hz
          obtain ⟨h1, h2⟩ := List.getElem?_zip_eq_some.1 hj
          obtain ⟨a', ha, ga, la⟩ := kid_at g l h2
          rw [h1] at ha
          cases ha
          exact .inl ⟨q, List.mem_of_getElem? h2, (ih a q ga la).2 ⟨x, hx, e⟩⟩
theorem und_has (v : Int) : ∀ (d : Nat) (p : GPattern), undB v d p = true → hasB v d p = true := by
  intro d
  induction d with
  | zero => intro p h; cases h
  | succ d ih =>
    intro p h
    simp only [undB, List.any_eq_true, Bool.or_eq_true, Bool.and_eq_true] at h
    obtain ⟨q, hq, h⟩ := h
    simp only [hasB, Bool.or_eq_true, List.any_eq_true]
    exact .inl ⟨q, hq, h.elim (·.2) (ih q)⟩
theorem vars_pair {w : List GData} {d : Nat} {t : GType} {p : GPattern} (g : goodB w (d + 1) t p = true) (l : linD w (d + 1) t p = true) (h5 : p.op ≠ 5) :
    ((kidsT w t p).zip p.kids).Pairwise (fun a b => ∀ x ∈ varsD w d a.1 a.2, ∀ y ∈ varsD w d b.1 b.2, x.var ≠ y.var) ∧ ∀ o ∈ ownV t p, ∀ a ∈ (kidsT w t p).zip p.kids, ∀ x ∈ varsD w d a.1 a.2, o.var ≠ x.var := by
  have hd := l
  simp only [linD, h5, if_false, Bool.and_eq_true] at hd
  have hn := hd.2
  simp only [distinct, decide_eq_true_eq] at hn
  rw [vars_all g h5, List.Nodup, List.pairwise_map, List.pairwise_append] at hn
  refine ⟨?_, fun o ho a ha x hx => hn.2.2 o ho x (List.mem_flatMap.2 ⟨a, ha, hx⟩)⟩
  have := hn.2.1
  rw [List.pairwise_flatMap] at this
  exact this.2
theorem kids_apart {w : List GData} {d : Nat} {t : GType} {p : GPattern} {v : Int} (g : goodB w (d + 1) t p = true) (l : linD w (d + 1) t p = true) (h5 : p.op ≠ 5) {i j : Nat} {q r : GPattern} (hi : p.kids[i]? = some q) (hj : p.kids[j]? = some r) (hq : hasB v d q = true) (hr : hasB v d r = true) : i = j := by
  have key : ∀ (i j : Nat) (q r : GPattern), p.kids[i]? = some q → p.kids[j]? = some r → hasB v d q = true → hasB v d r = true → ¬ i < j := fun i j q r hi hj hq hr hlt => by
    obtain ⟨a, ha, ga, la⟩ := kid_at g l hi
    obtain ⟨b, hb, gb, lb⟩ := kid_at g l hj
    obtain ⟨x, hx, ex⟩ := (has_vars v d a q ga la).1 hq
    obtain ⟨y, hy, ey⟩ := (has_vars v d b r gb lb).1 hr
    obtain ⟨i1, i2⟩ := List.getElem?_eq_some_iff.1 (zip_get ha hi)
    obtain ⟨j1, j2⟩ := List.getElem?_eq_some_iff.1 (zip_get hb hj)
    have := List.pairwise_iff_getElem.1 (vars_pair g l h5).1 i j i1 j1 hlt
    rw [i2, j2] at this
    exact this x hx y hy (ex.trans ey.symm)
  have h1 := key i j q r hi hj hq hr
  have h2 := key j i r q hj hi hr hq
  omega
theorem kids_own {w : List GData} {d : Nat} {t : GType} {p : GPattern} {v : Int} (g : goodB w (d + 1) t p = true) (l : linD w (d + 1) t p = true) (ho : p.op = 2 ∨ p.op = 6) (hv : p.var = v) : ∀ q ∈ p.kids, hasB v d q = false := fun q hq => by
  obtain ⟨j, hj⟩ := List.mem_iff_getElem?.1 hq
  obtain ⟨a, ha, ga, la⟩ := kid_at g l hj
  cases h : hasB v d q with
  | false => rfl
  | true =>
    obtain ⟨x, hx, ex⟩ := (has_vars v d a q ga la).1 h
    exact absurd (hv.trans ex.symm) ((vars_pair g l (by omega)).2 ⟨p.var, t⟩ (by simp [ownV, ho]) (a, q) (List.mem_of_getElem? (zip_get ha hj)) x hx)
def UV (v : Int) (l : List GBind) (x : GValue) : Prop := (∃ b ∈ l, b.var = v) ∧ ∀ b ∈ l, b.var = v → b.value = x
theorem UV.left {v : Int} {l m : List GBind} {x : GValue} (h : UV v l x) (hm : ∀ b ∈ m, b.var ≠ v) : UV v (l ++ m) x :=
  ⟨let ⟨b, hb, e⟩ := h.1; ⟨b, by simp [hb], e⟩, fun b hb e => (List.mem_append.1 hb).elim (fun hb => h.2 b hb e) (fun hb => absurd e (hm b hb))⟩
theorem UV.right {v : Int} {l m : List GBind} {x : GValue} (h : UV v m x) (hl : ∀ b ∈ l, b.var ≠ v) : UV v (l ++ m) x :=
  ⟨let ⟨b, hb, e⟩ := h.1; ⟨b, by simp [hb], e⟩, fun b hb e => (List.mem_append.1 hb).elim (fun hb => absurd e (hl b hb)) (fun hb => h.2 b hb e)⟩
theorem matchL_v {f : GPattern → GValue → Option (List GBind)} {has : GPattern → Bool} {v : Int} : ∀ (ks : List GPattern) (vs : List GValue) (l : List GBind),
    (∀ k ∈ ks, ∀ u l, f k u = some l → (has k = false → ∀ b ∈ l, b.var ≠ v) ∧ (has k = true → ∃ x, UV v l x)) → ks.Pairwise (fun a b => ¬ (has a = true ∧ has b = true)) → matchL f ks vs = some l →
    (ks.any has = false → ∀ b ∈ l, b.var ≠ v) ∧ (ks.any has = true → ∃ x, UV v l x)
  | [], _, l, _, _, h => by
    simp only [matchL, Option.some.injEq] at h
    subst h
    exact ⟨fun _ b hb => (by cases hb), fun h => by simp at h⟩
  | _ :: _, [], l, _, _, h => by simp [matchL] at h
  | k :: ks, u :: us, l, hf, hp, h => by
    simp only [matchL] at h
    cases e1 : f k u with
    | none => rw [e1] at h; cases h
    | some l1 =>
      rw [e1] at h
      simp only at h
      cases e2 : matchL f ks us with
      | none => rw [e2] at h; cases h
      | some l2 =>
        rw [e2] at h
        simp only [Option.some.injEq] at h
        subst h
        rw [List.pairwise_cons] at hp
        obtain ⟨a1, a2⟩ := hf k (by simp) u l1 e1
        obtain ⟨b1, b2⟩ := matchL_v ks us l2 (fun k' hk' => hf k' (by simp [hk'])) hp.2 e2
        simp only [List.any_cons, Bool.or_eq_false_iff, Bool.or_eq_true]
        refine ⟨fun h b hb => (List.mem_append.1 hb).elim (a1 h.1 b) (b1 h.2 b), fun h => ?_⟩
        cases hk : has k with
        | true =>
          obtain ⟨x, hx⟩ := a2 hk
          refine ⟨x, hx.left (b1 ?_)⟩
          cases hr : ks.any has with
          | false => rfl
          | true =>
            obtain ⟨q, hq, hh⟩ := List.any_eq_true.1 hr
            exact absurd ⟨hk, hh⟩ (hp.1 q hq)
        | false =>
          obtain ⟨x, hx⟩ := b2 (h.resolve_left (by simp [hk]))
          exact ⟨x, hx.right (a1 hk)⟩
theorem match_v {w : List GData} (v : Int) (u0 : Unit) : ∀ (d : Nat) (t : GType) (p : GPattern), goodB w d t p = true → linD w d t p = true → ∀ (u : GValue) (l : List GBind), matchD d p u = some l →
    (hasB v d p = false → ∀ b ∈ l, b.var ≠ v) ∧ (hasB v d p = true → ∃ x, UV v l x) := by
  intro d
  induction d with
  | zero => intro t p h; cases h
  | succ d ih =>
    intro t p g l u b hm
    rcases op_cases g with ⟨h1, hk⟩ | ⟨h1, hk⟩ | ⟨h1, hk⟩ | ⟨h1, x, y, hk, ht⟩ | ⟨h1, x, hk, ht⟩ | h1
    · simp only [matchD, h1, if_true, Option.some.injEq] at hm
      subst hm
      exact ⟨fun _ b hb => (by cases hb), fun h => by simp [hasB, hk, h1] at h⟩
    · simp [matchD, h1] at hm
      subst hm
      simp only [hasB, hk, h1, List.any_nil, Bool.false_or, true_or, decide_true, Bool.true_and, decide_eq_true_eq, decide_eq_false_iff_not]
      refine ⟨fun h b hb => by simp at hb; rw [hb]; exact h, fun h => ⟨u, ⟨_, List.mem_cons_self .., h⟩, fun b hb _ => by simp at hb; rw [hb]⟩⟩
    · have : b = [] := by
        simp [matchD, h1] at hm
        exact hm.2
      subst this
      exact ⟨fun _ b hb => (by cases hb), fun h => by simp [hasB, hk, h1] at h⟩
    · obtain ⟨lx, ly, hal⟩ := lin5 l h1 hk ht
      have gx := good_kid g (k := 0) (q := x) (a := t) (by rw [ht]; rfl) (by rw [hk]; rfl)
      have gy := good_kid g (k := 1) (q := y) (a := t) (by rw [ht]; rfl) (by rw [hk]; rfl)
      have hb := alike_back gx lx hal
      have eh : hasB v d x = hasB v d y := by
        rw [Bool.eq_iff_iff, has_vars v d t x gx lx, has_vars v d t y gy ly]
        exact ⟨fun ⟨z, hz, e⟩ => ⟨z, (hb z).1 hz, e⟩, fun ⟨z, hz, e⟩ => ⟨z, (hb z).2 hz, e⟩⟩
      have e : hasB v (d + 1) p = hasB v d x := by simp [hasB, hk, h1, eh]
      rw [e]
      have m : matchD (d + 1) p u = match matchD d x u with | some l => some l | none => matchD d y u := by
        simp [matchD, h1, hk] <;> (cases matchD d x u <;> rfl)
      rw [m] at hm
      cases ex : matchD d x u with
      | some l1 =>
        rw [ex] at hm
        simp only [Option.some.injEq] at hm
        subst hm
        exact ih t x gx lx u _ ex
      | none =>
        rw [ex] at hm
        rw [eh]
        exact ih t y gy ly u _ hm
    · have gx := good_kid g (k := 0) (q := x) (a := t) (by rw [ht]; rfl) (by rw [hk]; rfl)
      obtain ⟨a', ha', _, lx⟩ := kid_at g l (j := 0) (q := x) (by rw [hk]; rfl)
      rw [ht] at ha'
      cases ha'
      rw [as_match d h1 hk] at hm
      obtain ⟨l1, e1, rfl⟩ := Option.map_eq_some_iff.1 hm
      obtain ⟨i1, i2⟩ := ih t x gx lx u l1 e1
      have e : hasB v (d + 1) p = (hasB v d x || decide (p.var = v)) := by simp [hasB, hk, h1]
      rw [e]
      by_cases hv : p.var = v
      · have hx := kids_own g l (.inr h1) hv x (by rw [hk]; simp)
        simp only [hv, decide_true, Bool.or_true]
        refine ⟨fun h => (by cases h), fun _ => ⟨u, ⟨_, List.mem_cons_self .., rfl⟩, fun b hb e => ?_⟩⟩
        rcases List.mem_cons.1 hb with h | h
        · rw [h]
        · exact absurd e (i1 hx b h)
      · simp only [hv, decide_false, Bool.or_false]
        refine ⟨fun h b hb => ?_, fun h => ?_⟩
        · rcases List.mem_cons.1 hb with h' | h'
          · rw [h']; exact hv
          · exact i1 h b h'
        · obtain ⟨z, hz⟩ := i2 h
          exact ⟨z, hz.right (l := [⟨p.var, u⟩]) fun b hb => by simp at hb; rw [hb]; exact hv⟩
    · have e : hasB v (d + 1) p = p.kids.any (hasB v d) := by simp [hasB, h1]
      rw [e]
      have m : matchD (d + 1) p u = if p.ctor = u.ctor then matchL (matchD d) p.kids u.kids else none := by simp [matchD, h1]
      rw [m] at hm
      split at hm
      · refine matchL_v p.kids u.kids b (fun k hk u' l' hl => ?_) ?_ hm
        · obtain ⟨j, hj⟩ := List.mem_iff_getElem?.1 hk
          obtain ⟨a, _, ga, la⟩ := kid_at g l hj
          exact ih a k ga la u' _ hl
        · rw [List.pairwise_iff_getElem]
          intro i j hi hj hlt ⟨a1, a2⟩
          have := kids_apart g l (by omega) (i := i) (j := j) (by simp [hi]) (by simp [hj]) a1 a2
          omega
      · cases hm
def inR (v lo hi : Int) (l : List GBind) : Bool := l.all fun b => decide (b.var ≠ v ∨ (lo ≤ b.value.n ∧ b.value.n ≤ hi))
def filt (v lo hi : Int) (x : Option (List GBind)) : Option (List GBind) := x.bind fun l => if inR v lo hi l = true then some l else none
theorem inR_app {v lo hi : Int} {l m : List GBind} : inR v lo hi (l ++ m) = (inR v lo hi l && inR v lo hi m) := by simp [inR]
theorem inR_no {v lo hi : Int} {l : List GBind} (h : ∀ b ∈ l, b.var ≠ v) : inR v lo hi l = true := by
  simp only [inR, List.all_eq_true, decide_eq_true_eq]
  exact fun b hb => .inl (h b hb)
theorem inR_uv {v lo hi : Int} {l : List GBind} {x : GValue} (h : UV v l x) : inR v lo hi l = decide (lo ≤ x.n ∧ x.n ≤ hi) := by
  rw [Bool.eq_iff_iff]
  simp only [inR, List.all_eq_true, decide_eq_true_eq]
  refine ⟨fun k => ?_, fun k b hb => ?_⟩
  · obtain ⟨b, hb, e⟩ := h.1
    have := (k b hb).resolve_left (by simp [e])
    rw [h.2 b hb e] at this
    exact this
  · by_cases e : b.var = v
    · rw [h.2 b hb e]; exact .inr k
    · exact .inl e
theorem matchL_no {f : GPattern → GValue → Option (List GBind)} {v : Int} : ∀ (ks : List GPattern) (vs : List GValue) (l : List GBind), (∀ (j : Nat) (k : GPattern) (u : GValue) (l : List GBind), ks[j]? = some k → vs[j]? = some u → f k u = some l → ∀ b ∈ l, b.var ≠ v) → matchL f ks vs = some l → ∀ b ∈ l, b.var ≠ v
  | [], _, l, _, h => by
    simp only [matchL, Option.some.injEq] at h
    subst h
    exact fun b hb => by cases hb
  | _ :: _, [], l, _, h => by simp [matchL] at h
  | k :: ks, u :: us, l, hf, h => by
    simp only [matchL] at h
    cases e1 : f k u with
    | none => rw [e1] at h; cases h
    | some l1 =>
      rw [e1] at h
      simp only at h
      cases e2 : matchL f ks us with
      | none => rw [e2] at h; cases h
      | some l2 =>
        rw [e2] at h
        simp only [Option.some.injEq] at h
        subst h
        have h1 := hf 0 k u l1 rfl rfl e1
        have h2 := matchL_no ks us l2 (fun j k' u' l' a b => hf (j + 1) k' u' l' (by simpa using a) (by simpa using b)) e2
        exact fun b hb => (List.mem_append.1 hb).elim (h1 b) (h2 b)
theorem matchL_put {f f' : GPattern → GValue → Option (List GBind)} {v lo hi : Int} {q q' : GPattern} : ∀ (ks : List GPattern) (vs : List GValue) (i : Nat), ks[i]? = some q → (∀ u, f' q' u = filt v lo hi (f q u)) →
    (∀ (j : Nat) (k : GPattern) (u : GValue), j ≠ i → ks[j]? = some k → f' k u = f k u ∧ ∀ l, f k u = some l → ∀ b ∈ l, b.var ≠ v) → matchL f' (ks.set i q') vs = filt v lo hi (matchL f ks vs)
  | [], _, _, h, _, _ => by simp at h
  | k :: ks, [], i, _, _, _ => by cases i <;> simp [matchL, filt]
  | k :: ks, u :: us, 0, hi', hq, ho => by
    simp only [List.getElem?_cons_zero, Option.some.injEq] at hi'
    subst hi'
    simp only [List.set_cons_zero, matchL]
    rw [hq u, matchL_congr (f := f') (g := f) ks us fun j p' v' h1 _ => (ho (j + 1) p' v' (by omega) (by simpa using h1)).1]
    cases e1 : f k u with
    | none => rfl
    | some l1 =>
      cases e2 : matchL f ks us with
      | none =>
        simp only [filt, Option.bind_some, Option.bind_none]
        split <;> simp_all
      | some l2 =>
        have h2 := matchL_no ks us l2 (fun j k' u' l' a b c => (ho (j + 1) k' u' (by omega) (by simpa using a)).2 l' c) e2
        simp only [filt, Option.bind_some, inR_app, inR_no h2, Bool.and_true]
        cases inR v lo hi l1 <;> simp
  | k :: ks, u :: us, i + 1, hi', hq, ho => by
    simp only [List.set_cons_succ, matchL]
    obtain ⟨a1, a2⟩ := ho 0 k u (by omega) rfl
    rw [a1, matchL_put ks us i (by simpa using hi') hq fun j k' u' hj h1 => ho (j + 1) k' u' (by omega) (by simpa using h1)]
    cases e1 : f k u with
    | none => rfl
    | some l1 =>
      have h1 := a2 l1 e1
      cases e2 : matchL f ks us with
      | none => rfl
      | some l2 =>
        simp only [filt, Option.bind_some, inR_app, inR_no h1, Bool.true_and]
        cases inR v lo hi l2 <;> simp
theorem matchL_out {f : GPattern → GValue → Option (List GBind)} {v lo hi : Int} {q : GPattern} : ∀ (ks : List GPattern) (vs : List GValue) (i : Nat) (l : List GBind), ks[i]? = some q → (∀ u l, f q u = some l → inR v lo hi l = false) → matchL f ks vs = some l → inR v lo hi l = false
  | [], _, _, _, h, _, _ => by simp at h
  | k :: ks, [], i, _, _, _, h => by simp [matchL] at h
  | k :: ks, u :: us, i, l, hi', hq, h => by
    simp only [matchL] at h
    cases e1 : f k u with
    | none => rw [e1] at h; cases h
    | some l1 =>
      rw [e1] at h
      simp only at h
      cases e2 : matchL f ks us with
      | none => rw [e2] at h; cases h
      | some l2 =>
        rw [e2] at h
        simp only [Option.some.injEq] at h
        subst h
        rw [inR_app]
        cases i with
        | zero =>
          simp only [List.getElem?_cons_zero, Option.some.injEq] at hi'
          subst hi'
          rw [hq u l1 e1]; rfl
        | succ i => rw [matchL_out ks us i l2 (by simpa using hi') hq e2, Bool.and_false]
def putD (g : Bool) (v lo hi : Int) : Nat → GPattern → GPattern × Bool
  | 0, p => (p, false)
  | d + 1, p => if (p.op = 2 ∨ p.op = 6) ∧ p.var = v then narD g lo hi (d + 1) p else
    match p.kids.findIdx? (hasB v d) with
    | none => (p, true)
    | some i => match p.kids[i]? with
      | none => (p, true)
      | some q => (GPattern.mk p.op p.ctor p.n p.m p.var (p.kids.set i (putD g v lo hi d q).1), (putD g v lo hi d q).2)
theorem has_at {v : Int} {d : Nat} {p : GPattern} (h : hasB v (d + 1) p = true) (hn : ¬ ((p.op = 2 ∨ p.op = 6) ∧ p.var = v)) : ∃ i q, p.kids.findIdx? (hasB v d) = some i ∧ p.kids[i]? = some q ∧ hasB v d q = true := by
  simp only [hasB, Bool.or_eq_true, Bool.and_eq_true, decide_eq_true_eq] at h
  have h := h.resolve_right hn
  obtain ⟨q, hq, hh⟩ := List.any_eq_true.1 h
  cases e : p.kids.findIdx? (hasB v d) with
  | none => rw [List.findIdx?_eq_none_iff] at e; rw [e q hq] at hh; cases hh
  | some i =>
    obtain ⟨h1, h2, _⟩ := List.findIdx?_eq_some_iff_getElem.1 e
    exact ⟨i, p.kids[i], rfl, by simp, h2⟩
theorem put_own {g : Bool} {v lo hi : Int} {d : Nat} {p : GPattern} (h : (p.op = 2 ∨ p.op = 6) ∧ p.var = v) : putD g v lo hi (d + 1) p = narD g lo hi (d + 1) p := by simp only [putD, h, and_self, if_true]
theorem put_at {g : Bool} {v lo hi : Int} {d i : Nat} {p q : GPattern} (hn : ¬ ((p.op = 2 ∨ p.op = 6) ∧ p.var = v)) (h1 : p.kids.findIdx? (hasB v d) = some i) (h2 : p.kids[i]? = some q) :
    putD g v lo hi (d + 1) p = (GPattern.mk p.op p.ctor p.n p.m p.var (p.kids.set i (putD g v lo hi d q).1), (putD g v lo hi d q).2) := by
  simp only [putD]
  rw [if_neg hn]
  simp only [h1, h2]
theorem cntPs_set : ∀ (l : List GPattern) (i : Nat) (q q' : GPattern), l[i]? = some q → cntP.cntPs (l.set i q') + cntP q = cntP.cntPs l + cntP q'
  | [], _, _, _, h => by simp at h
  | p :: l, 0, q, q', h => by
    simp only [List.getElem?_cons_zero, Option.some.injEq] at h
    subst h
    simp only [List.set_cons_zero, cntP.cntPs]; omega
  | p :: l, i + 1, q, q', h => by
    have := cntPs_set l i q q' (by simpa using h)
    simp only [List.set_cons_succ, cntP.cntPs]; omega
def IntV (w : List GData) (d : Nat) (t : GType) (p : GPattern) (v : Int) : Prop := ∀ x ∈ varsD w d t p, x.var = v → x.typ = tI
theorem IntV.own {w : List GData} {d : Nat} {t : GType} {p : GPattern} {v : Int} (h : IntV w (d + 1) t p v) (hp : (p.op = 2 ∨ p.op = 6) ∧ p.var = v) : t = tI :=
  h ⟨p.var, t⟩ (by simp [varsD, ownV, hp.1]) hp.2
theorem IntV.kid {w : List GData} {d : Nat} {t : GType} {p : GPattern} {v : Int} (g : goodB w (d + 1) t p = true) (h : IntV w (d + 1) t p v) (h5 : p.op ≠ 5) {i : Nat} {a : GType} {q : GPattern} (h1 : (kidsT w t p)[i]? = some a) (h2 : p.kids[i]? = some q) : IntV w d a q v := fun x hx e =>
  h x (by rw [vars_all g h5]; exact List.mem_append.2 (.inr (List.mem_flatMap.2 ⟨(a, q), List.mem_of_getElem? (zip_get h1 h2), hx⟩))) e
theorem has5_und {v : Int} {d : Nat} {p : GPattern} (h5 : p.op = 5) (h : hasB v (d + 1) p = true) : undB v (d + 1) p = true := by
  simp only [hasB, h5, show ¬ ((5 : Int) = 2 ∨ (5 : Int) = 6) by decide, decide_false, Bool.false_and, Bool.or_false, List.any_eq_true] at h
  obtain ⟨q, hq, h⟩ := h
  simp only [undB, h5, decide_true, Bool.true_and, List.any_eq_true, Bool.or_eq_true]
  exact ⟨q, hq, .inl h⟩
theorem und_kid {v : Int} {d : Nat} {p q : GPattern} (hu : undB v (d + 1) p = false) (hq : q ∈ p.kids) : undB v d q = false := by
  simp only [undB, List.any_eq_false, Bool.or_eq_true, not_or] at hu
  have := (hu q hq).2
  simpa using this
theorem put_size {w : List GData} (h0 : ctorsP w tI = []) (g : Bool) (v lo hi : Int) : ∀ (d : Nat) (t : GType) (p : GPattern), goodB w d t p = true → linD w d t p = true → IntV w d t p v → hasB v d p = true → undB v d p = false →
    deepP (d + 1) (putD g v lo hi d p).1 ∧ cntP (putD g v lo hi d p).1 ≤ 2 * cntP p ∧ (g = false → hi < lo → (putD g v lo hi d p).2 = false) := by
  intro d
  induction d with
  | zero => intro t p h; cases h
  | succ d ih =>
    intro t p gp lp ht hh hu
    by_cases hn : (p.op = 2 ∨ p.op = 6) ∧ p.var = v
    · rw [put_own hn]
      have := ht.own hn
      subst this
      obtain ⟨a1, a2⟩ := nar_size h0 g lo hi (d + 1) p gp
      exact ⟨a1, a2, fun hg hlt => by subst hg; exact nar_none h0 hlt (d + 1) p gp⟩
    · obtain ⟨i, q, e1, e2, e3⟩ := has_at hh hn
      have h5 : p.op ≠ 5 := fun h5 => by rw [has5_und h5 hh] at hu; cases hu
      obtain ⟨a, ha, ga, la⟩ := kid_at gp lp e2
      have hqm := List.mem_of_getElem? e2
      obtain ⟨a1, a2, a3⟩ := ih a q ga la (ht.kid gp h5 ha e2) e3 (und_kid hu hqm)
      rw [put_at hn e1 e2]
      refine ⟨fun r hr => ?_, ?_, a3⟩
      · rcases List.mem_or_eq_of_mem_set hr with h | h
        · exact deepP_succ _ _ (good_deep (d + 1) t p gp r h)
        · rw [h]; exact a1
      · have h1 := cntPs_set p.kids i q (putD g v lo hi d q).1 e2
        have h2 := cntP_eq p
        show cntP (GPattern.mk p.op p.ctor p.n p.m p.var (p.kids.set i (putD g v lo hi d q).1)) ≤ _
        rw [cntP_eq]
        have h3 := cnt_kid e2
        show 1 + cntP.cntPs (p.kids.set i (putD g v lo hi d q).1) ≤ _
        omega
theorem put_match {w : List GData} (h0 : ctorsP w tI = []) (v lo hi : Int) : ∀ (d : Nat) (t : GType) (p : GPattern), goodB w d t p = true → linD w d t p = true → IntV w d t p v → hasB v d p = true → undB v d p = false →
    ((putD true v lo hi d p).2 = true → ∀ u, matchD (d + 1) (putD true v lo hi d p).1 u = filt v lo hi (matchD d p u)) ∧
    ((putD true v lo hi d p).2 = false → ∀ u l, matchD d p u = some l → inR v lo hi l = false) := by
  intro d
  induction d with
  | zero => intro t p h; cases h
  | succ d ih =>
    intro t p gp lp ht hh hu
    by_cases hn : (p.op = 2 ∨ p.op = 6) ∧ p.var = v
    · rw [put_own hn]
      have := ht.own hn
      subst this
      have key : ∀ u l, matchD (d + 1) p u = some l → inR v lo hi l = decide (lo ≤ u.n ∧ u.n ≤ hi) := fun u l hl => by
        obtain ⟨x, hx⟩ := (match_v v () (d + 1) tI p gp lp u l hl).2 hh
        rw [inR_uv hx]
        have : x = u := by
          have hb : (⟨p.var, u⟩ : GBind) ∈ l := by
            rcases hn.1 with h2 | h6
            · simp [matchD, h2] at hl
              rw [← hl]; simp
            · obtain ⟨a, hk, _⟩ := kid_of6 h6 (node_own (good_node gp)).2
              rw [as_match d h6 hk] at hl
              obtain ⟨l1, _, rfl⟩ := Option.map_eq_some_iff.1 hl
              simp
          exact (hx.2 _ hb hn.2).symm
        rw [this]
      refine ⟨fun h u => ?_, fun h u l hl => ?_⟩
      · rw [(nar_match h0 lo hi u (d + 1) p gp).1 h]
        cases e : matchD (d + 1) p u with
        | none => simp [filt]
        | some l =>
          simp only [filt, Option.bind_some, key u l e, decide_eq_true_eq]
      · rw [key u l hl, decide_eq_false_iff_not]
        intro hr
        rw [(nar_match h0 lo hi u (d + 1) p gp).2 h hr] at hl
        cases hl
    · obtain ⟨i, q, e1, e2, e3⟩ := has_at hh hn
      have h5 : p.op ≠ 5 := fun h5 => by rw [has5_und h5 hh] at hu; cases hu
      obtain ⟨a, ha, ga, la⟩ := kid_at gp lp e2
      have hqm := List.mem_of_getElem? e2
      obtain ⟨a1, a2⟩ := ih a q ga la (ht.kid gp h5 ha e2) e3 (und_kid hu hqm)
      rw [put_at hn e1 e2]
      have hoth : ∀ (j : Nat) (k : GPattern) (u : GValue), j ≠ i → p.kids[j]? = some k → matchD (d + 1) k u = matchD d k u ∧ ∀ l, matchD d k u = some l → ∀ b ∈ l, b.var ≠ v := fun j k u hj hk => by
        obtain ⟨b, hb, gb, lb⟩ := kid_at gp lp hk
        refine ⟨(mono_all d b k gb).2.2.2 u, fun l hl => (match_v v () d b k gb lb u l hl).1 ?_⟩
        cases hx : hasB v d k with
        | false => rfl
        | true => exact absurd (kids_apart gp lp h5 hk e2 hx e3) hj
      rcases op_cases gp with ⟨h1, hk⟩ | ⟨h1, hk⟩ | ⟨h1, hk⟩ | ⟨h1, _⟩ | ⟨h1, x, hk, htt⟩ | h1
      · rw [hk] at hqm; cases hqm
      · rw [hk] at hqm; cases hqm
      · rw [hk] at hqm; cases hqm
      · exact absurd h1 h5
      · have hi0 : i = 0 := by
          rw [hk] at e2
          have := (List.getElem?_eq_some_iff.1 e2).1
          simp at this
          exact this
        subst hi0
        rw [hk] at e2
        simp only [List.getElem?_cons_zero, Option.some.injEq] at e2
        subst e2
        have hpv : p.var ≠ v := fun e => hn ⟨.inr h1, e⟩
        refine ⟨fun h u => ?_, fun h u l hl => ?_⟩
        · rw [as_match d h1 hk, hk, List.set_cons_zero]
          rw [as_match (d + 1) (p := GPattern.mk p.op p.ctor p.n p.m p.var [(putD true v lo hi d x).1]) h1 rfl, a1 h u]
          cases e : matchD d x u with
          | none => rfl
          | some l =>
            have : inR v lo hi (⟨p.var, u⟩ :: l) = inR v lo hi l := by simp [inR, hpv]
            simp only [filt, Option.bind_some, Option.map_some, this]
            cases inR v lo hi l <;> simp
        · rw [as_match d h1 hk] at hl
          obtain ⟨l1, e1', rfl⟩ := Option.map_eq_some_iff.1 hl
          have := a2 h u l1 e1'
          simp [inR, hpv] at this ⊢
          exact this
      · refine ⟨fun h u => ?_, fun h u l hl => ?_⟩
        · have m : matchD (d + 1) p u = if p.ctor = u.ctor then matchL (matchD d) p.kids u.kids else none := by simp [matchD, h1]
          have m' : matchD (d + 1 + 1) (GPattern.mk p.op p.ctor p.n p.m p.var (p.kids.set i (putD true v lo hi d q).1)) u = if p.ctor = u.ctor then matchL (matchD (d + 1)) (p.kids.set i (putD true v lo hi d q).1) u.kids else none := by
            rw [matchD]; simp [h1]
          rw [m, m']
          split
          · exact matchL_put p.kids u.kids i e2 (a1 h) hoth
          · rfl
        · have m : matchD (d + 1) p u = if p.ctor = u.ctor then matchL (matchD d) p.kids u.kids else none := by simp [matchD, h1]
          rw [m] at hl
          split at hl
          · exact matchL_out p.kids u.kids i l e2 (a2 h) hl
          · cases hl
end Go.Proofs.YtmkamncbkkahjaaGreat
namespace Go.Proofs.YtmkamncbkkahjaaGreat
open Go Go.RowKit
theorem matchL_mem {f : GPattern → GValue → Option (List GBind)} : ∀ (ks : List GPattern) (vs : List GValue) (l : List GBind), matchL f ks vs = some l → ∀ b ∈ l, ∃ (j : Nat) (k : GPattern) (u : GValue) (l' : List GBind), ks[j]? = some k ∧ vs[j]? = some u ∧ f k u = some l' ∧ b ∈ l'
  | [], _, l, h, b, hb => by
    simp only [matchL, Option.some.injEq] at h
    subst h
    cases hb
  | _ :: _, [], l, h, _, _ => by simp [matchL] at h
  | k :: ks, u :: us, l, h, b, hb => by
    simp only [matchL] at h
    cases e1 : f k u with
    | none => rw [e1] at h; cases h
    | some l1 =>
      rw [e1] at h
      simp only at h
      cases e2 : matchL f ks us with
      | none => rw [e2] at h; cases h
      | some l2 =>
        rw [e2] at h
        simp only [Option.some.injEq] at h
        subst h
        rcases List.mem_append.1 hb with hb | hb
        · exact ⟨0, k, u, l1, rfl, rfl, e1, hb⟩
        · obtain ⟨j, k', u', l', h1, h2, h3, h4⟩ := matchL_mem ks us l2 e2 b hb
          exact ⟨j + 1, k', u', l', by simpa using h1, by simpa using h2, h3, h4⟩
theorem goodV_int {w : List GData} : ∀ (e : Nat) (u : GValue), goodV w e tI u → u.ctor = -1 ∧ 0 ≤ u.n
  | 0, _, h => h.elim
  | e + 1, u, h => by
    simp only [goodV, tI, if_true] at h
    exact ⟨h.1, h.2.1⟩
theorem match_int {w : List GData} {v : Int} : ∀ (d e : Nat) (t : GType) (p : GPattern), goodB w d t p = true → linD w d t p = true → IntV w d t p v → ∀ (u : GValue) (l : List GBind), goodV w e t u → matchD d p u = some l → ∀ b ∈ l, b.var = v → b.value.ctor = -1 ∧ 0 ≤ b.value.n := by
  intro d
  induction d with
  | zero => intro e t p h; cases h
  | succ d ih =>
    intro e t p g l hi u m hv hm b hb hbv
    rcases op_cases g with ⟨h1, hk⟩ | ⟨h1, hk⟩ | ⟨h1, hk⟩ | ⟨h1, x, y, hk, ht⟩ | ⟨h1, x, hk, ht⟩ | h1
    · simp only [matchD, h1, if_true, Option.some.injEq] at hm
      subst hm
      cases hb
    · simp [matchD, h1] at hm
      subst hm
      simp at hb
      subst hb
      have := hi.own ⟨.inl h1, hbv⟩
      subst this
      exact goodV_int e u hv
    · have : m = [] := by
        simp [matchD, h1] at hm
        exact hm.2
      subst this
      cases hb
    · obtain ⟨lx, ly, hal⟩ := lin5 l h1 hk ht
      have gx := good_kid g (k := 0) (q := x) (a := t) (by rw [ht]; rfl) (by rw [hk]; rfl)
      have gy := good_kid g (k := 1) (q := y) (a := t) (by rw [ht]; rfl) (by rw [hk]; rfl)
      have hback := alike_back gx lx hal
      have ev : varsD w (d + 1) t p = varsD w d t x := by simp [varsD, h1, hk, ht, ownV]
      have ix : IntV w d t x v := fun z hz e => hi z (by rw [ev]; exact hz) e
      have iy : IntV w d t y v := fun z hz e => hi z (by rw [ev]; exact (hback z).2 hz) e
      have mm : matchD (d + 1) p u = match matchD d x u with | some l => some l | none => matchD d y u := by
        simp [matchD, h1, hk] <;> (cases matchD d x u <;> rfl)
      rw [mm] at hm
      cases ex : matchD d x u with
      | some l1 =>
        rw [ex] at hm
        simp only [Option.some.injEq] at hm
        subst hm
        exact ih e t x gx lx ix u _ hv ex b hb hbv
      | none =>
        rw [ex] at hm
        exact ih e t y gy ly iy u _ hv hm b hb hbv
    · have gx := good_kid g (k := 0) (q := x) (a := t) (by rw [ht]; rfl) (by rw [hk]; rfl)
      obtain ⟨a', ha', _, lx⟩ := kid_at g l (j := 0) (q := x) (by rw [hk]; rfl)
      rw [ht] at ha'
      cases ha'
      rw [as_match d h1 hk] at hm
      obtain ⟨l1, e1, rfl⟩ := Option.map_eq_some_iff.1 hm
      rcases List.mem_cons.1 hb with h | h
      · subst h
        have := hi.own ⟨.inr h1, hbv⟩
        subst this
        exact goodV_int e u hv
      · exact ih e t x gx lx (hi.kid g (by omega) (i := 0) (by rw [ht]; rfl) (by rw [hk]; rfl)) u l1 hv e1 b h hbv
    · have mm : matchD (d + 1) p u = if p.ctor = u.ctor then matchL (matchD d) p.kids u.kids else none := by simp [matchD, h1]
      rw [mm] at hm
      split at hm
      · rename_i hcu
        obtain ⟨j, k, u', l', g1, g2, g3, g4⟩ := matchL_mem p.kids u.kids m hm b hb
        obtain ⟨a, ha, ga, la⟩ := kid_at g l g1
        cases e with
        | zero => exact hv.elim
        | succ e =>
          simp only [goodV] at hv
          have hka : kidsT w t p = argsP w t p.ctor := by simp [kidsT, h1]
          split at hv
          · rw [hv.2.2.2] at g2
            simp at g2
          · exact ih e a k ga la (hi.kid g (by omega) ha g1) u' l' (hv.2.2.2 j a u' (by rw [← hcu, ← hka]; exact ha) g2) g3 b g4 hbv
      · cases hm
def loG (g : GGuard) : Int := if g.op = 1 then 0 else g.n
def hiG (g : GGuard) : Int := if g.op = 1 then g.n - 1 else g.n
theorem guardHolds_uv {g : GGuard} {l s : List GBind} {x : GValue} (ho : g.op = 1 ∨ g.op = 2) (h : UV g.var l x) (hc : x.ctor = -1) (h0 : 0 ≤ x.n) (hs : s.Perm l) : m_impl_GuardHolds g s = some (decide (loG g ≤ x.n ∧ x.n ≤ hiG g)) := by
  have hr : Ret (m_impl_GuardHolds g s) (fun r => r = decide (loG g ≤ x.n ∧ x.n ≤ hiG g)) := by
    unfold m_impl_GuardHolds
    rw [if_neg (by rw [ieq_true]; omega)]
    refine Ret.bind (index_func s (fun a0 => m_impl_GuardHolds_1 a0 g) (fun b => ieq b.var g.var) (fun _ _ => rfl)) (fun i hi => ?_)
    rcases hi with ⟨k, b, rfl, hb, hv⟩ | ⟨rfl, hno⟩
    · rw [if_neg (by rw [ilt_true]; omega), idx_ok hb]
      simp only [Option.bind_some]
      rw [ieq_true] at hv
      have hx : b.value = x := h.2 b (hs.subset (List.mem_of_getElem? hb)) hv
      rw [hx, hc]
      rw [if_neg (by simp [ieq])]
      rcases ho with ho | ho
      · rw [if_pos (by rw [ieq_true]; exact ho)]
        refine Ret.ite (fun hl => ?_) (fun hl => ?_)
        · rw [ilt_true] at hl
          refine .some ?_
          rw [eq_comm, decide_eq_true_eq]
          simp only [loG, hiG, ho, if_true]
          omega
        · rw [ilt_false] at hl
          rw [if_neg (by rw [ieq_true]; omega)]
          refine .some ?_
          rw [eq_comm, decide_eq_false_iff_not]
          simp only [loG, hiG, ho, if_true]
          omega
      · rw [if_neg (by rw [ieq_true]; omega), if_pos (by rw [ieq_true]; exact ho)]
        refine .some ?_
        have h1 : ¬ g.op = 1 := by omega
        simp only [ieq, loG, hiG, h1, if_false]
        rw [Bool.eq_iff_iff]
        simp
        omega
    · obtain ⟨b, hb, e⟩ := h.1
      have := hno b (hs.symm.subset hb)
      rw [ieq_false] at this
      exact absurd e this
  obtain ⟨r, e, rfl⟩ := hr
  exact e
end Go.Proofs.YtmkamncbkkahjaaGreat
namespace Go.Proofs.YtmkamncbkkahjaaGreat
open Go Go.RowKit
theorem imax_eq (a b : Int) : imax a b = max a b := by unfold imax; omega
theorem imin_eq (a b : Int) : imin a b = min a b := by unfold imin; omega
theorem implNar_ok {w : List GData} (h0 : ctorsP w tI = []) (lo hi : Int) : ∀ (d n : Nat) (p : GPattern), goodB w d tI p = true → d ≤ n → m_impl_narrow n p lo hi = some (narD true lo hi d p) := by
  intro d
  induction d with
  | zero => intro n p h; cases h
  | succ d ih =>
    intro n p h hn
    obtain ⟨n, rfl⟩ : ∃ k, n = k + 1 := ⟨n - 1, by omega⟩
    unfold m_impl_narrow
    rcases int_cases h0 h with ⟨h1, _⟩ | ⟨h1, _⟩ | ⟨h1, _⟩ | ⟨h1, a, b, hk, ga, gb⟩ | ⟨h1, a, hk, ga⟩
    · rw [if_pos (by rw [ieq_true]; exact h1)]
      simp [narD, h1, intP]
    · rw [if_neg (by rw [ieq_true]; omega), if_pos (by rw [ieq_true]; exact h1)]
      simp [narD, h1, intP, asP]
    · rw [if_neg (by rw [ieq_true]; omega), if_neg (by rw [ieq_true]; omega), if_pos (by rw [ieq_true]; exact h1)]
      simp [narD, h1, intP, imax_eq, imin_eq, ile]
    · rw [if_neg (by rw [ieq_true]; omega), if_neg (by rw [ieq_true]; omega), if_neg (by rw [ieq_true]; omega), if_neg (by rw [ieq_true]; omega)]
      have i0 : idx p.kids 0 = some a := by rw [hk]; rfl
      have i1 : idx p.kids 1 = some b := by rw [hk]; rfl
      have e : narD true lo hi (d + 1) p = if ((narD true lo hi d a).2 && (narD true lo hi d b).2) = true then (orP (narD true lo hi d a).1 (narD true lo hi d b).1, true) else if (narD true lo hi d a).2 = true then ((narD true lo hi d a).1, true) else narD true lo hi d b := by
        simp [narD, h1, hk]
      rw [i0, i1, e]
      simp only [Option.bind_some]
      rw [ih n a ga (by omega), ih n b gb (by omega)]
      simp only [Option.bind_some]
      generalize narD true lo hi d a = x
      generalize narD true lo hi d b = y
      obtain ⟨x1, x2⟩ := x
      obtain ⟨y1, y2⟩ := y
      cases x2 <;> cases y2 <;> rfl
    · rw [if_neg (by rw [ieq_true]; omega), if_neg (by rw [ieq_true]; omega), if_neg (by rw [ieq_true]; omega), if_pos (by rw [ieq_true]; exact h1)]
      have i0 : idx p.kids 0 = some a := by rw [hk]; rfl
      rw [i0]
      simp only [Option.bind_some]
      rw [ih n a ga (by omega)]
      simp [narD, h1, hk, asP]
theorem specNar_ok {w : List GData} (h0 : ctorsP w tI = []) (lo hi : Int) : ∀ (d n : Nat) (p : GPattern), goodB w d tI p = true → d + 1 ≤ n → m_spec_l11Narrow n p lo hi = some (narD (decide (lo ≤ hi)) lo hi d p) := by
  intro d
  induction d with
  | zero => intro n p h; cases h
  | succ d ih =>
    intro n p h hn
    obtain ⟨n, rfl⟩ : ∃ k, n = k + 2 := ⟨n - 2, by omega⟩
    unfold m_spec_l11Narrow
    rcases int_cases h0 h with ⟨h1, _⟩ | ⟨h1, _⟩ | ⟨h1, _⟩ | ⟨h1, a, b, hk, ga, gb⟩ | ⟨h1, a, hk, ga⟩
    · rw [if_pos (by rw [ieq_true]; exact h1)]
      simp [narD, h1, intP, ile]
    · rw [if_neg (by rw [ieq_true]; omega), if_pos (by rw [ieq_true]; exact h1)]
      simp [narD, h1, intP, asP, ile]
    · rw [if_neg (by rw [ieq_true]; omega), if_neg (by rw [ieq_true]; omega), if_neg (by rw [ieq_true]; omega), if_neg (by rw [ieq_true]; omega)]
      unfold m_spec_l5Meet
      rw [if_neg (by rw [ieq_true]; omega), if_neg (by rw [ieq_true]; exact (by decide : ¬ (3 : Int) = 1)), if_pos (by rw [ieq_true]; exact h1)]
      have e : narD (decide (lo ≤ hi)) lo hi (d + 1) p = (intP (max p.n lo) (min p.m hi), decide (max p.n lo ≤ min p.m hi)) := by simp [narD, h1]
      rw [e]
      have a1 : max p.n lo = if ilt p.n lo = true then lo else p.n := by
        by_cases h : p.n < lo
        · rw [if_pos (by rw [ilt_true]; exact h)]; omega
        · rw [if_neg (by rw [ilt_true]; exact h)]; omega
      have a2 : min p.m hi = if ilt hi p.m = true then hi else p.m := by
        by_cases h : hi < p.m
        · rw [if_pos (by rw [ilt_true]; exact h)]; omega
        · rw [if_neg (by rw [ilt_true]; exact h)]; omega
      rw [a1, a2]
      dsimp only
      cases ilt p.n lo <;> cases ilt hi p.m <;> rfl
    · rw [if_neg (by rw [ieq_true]; omega), if_neg (by rw [ieq_true]; omega), if_neg (by rw [ieq_true]; omega), if_pos (by rw [ieq_true]; exact h1)]
      have i0 : idx p.kids 0 = some a := by rw [hk]; rfl
      have i1 : idx p.kids 1 = some b := by rw [hk]; rfl
      have e : narD (decide (lo ≤ hi)) lo hi (d + 1) p = if ((narD (decide (lo ≤ hi)) lo hi d a).2 && (narD (decide (lo ≤ hi)) lo hi d b).2) = true then (orP (narD (decide (lo ≤ hi)) lo hi d a).1 (narD (decide (lo ≤ hi)) lo hi d b).1, true) else if (narD (decide (lo ≤ hi)) lo hi d a).2 = true then ((narD (decide (lo ≤ hi)) lo hi d a).1, true) else narD (decide (lo ≤ hi)) lo hi d b := by
        simp [narD, h1, hk]
      rw [i0, i1, e]
      simp only [Option.bind_some]
      rw [ih (n + 1) a ga (by omega), ih (n + 1) b gb (by omega)]
      simp only [Option.bind_some]
      generalize narD (decide (lo ≤ hi)) lo hi d a = x
      generalize narD (decide (lo ≤ hi)) lo hi d b = y
      obtain ⟨x1, x2⟩ := x
      obtain ⟨y1, y2⟩ := y
      cases x2 <;> cases y2 <;> rfl
    · rw [if_neg (by rw [ieq_true]; omega), if_neg (by rw [ieq_true]; omega), if_pos (by rw [ieq_true]; exact h1)]
      have i0 : idx p.kids 0 = some a := by rw [hk]; rfl
      rw [i0]
      simp only [Option.bind_some]
      rw [ih (n + 1) a ga (by omega)]
      simp [narD, h1, hk, asP]
theorem any_loop {α ρ : Type} (f : Nat → α → Unit → Option (Ctl ρ Unit)) (g : α → Bool) (r : ρ) : ∀ (l : List α) (k : Nat), (∀ k, ∀ x ∈ l, f k x () = some (if g x = true then Ctl.ret r else Ctl.go ())) → forL f k l () = some (if l.any g = true then Ctl.ret r else Ctl.brk ())
  | [], k, _ => rfl
  | x :: l, k, h => by
    rw [forL, h k x (List.mem_cons_self ..)]
    cases hg : g x with
    | true => simp [hg]
    | false =>
      simp only [Bool.false_eq_true, if_false]
      rw [any_loop f g r l (k + 1) fun k y hy => h k y (List.mem_cons_of_mem _ hy)]
      simp [hg]
theorem specHas_ok (v : Int) : ∀ (d n : Nat) (p : GPattern), deepP d p → d ≤ n → m_spec_l11Has n p v = some (hasB v d p) := by
  intro d
  induction d with
  | zero => intro n p h; exact h.elim
  | succ d ih =>
    intro n p h hn
    obtain ⟨n, rfl⟩ : ∃ k, n = k + 1 := ⟨n - 1, by omega⟩
    unfold m_spec_l11Has
    rw [any_loop _ (hasB v d) true p.kids 0 fun k x hx => by
      rw [ih n x (h x hx) (by omega)]
      cases hasB v d x <;> rfl]
    simp only [hasB, Option.bind_some]
    cases p.kids.any (hasB v d) with
    | true => rfl
    | false =>
      simp only [Bool.false_eq_true, if_false, Bool.false_or]
      by_cases h2 : p.op = 2
      · rw [if_pos (by rw [ieq_true]; exact h2)]; simp [h2, ieq]
      · rw [if_neg (by rw [ieq_true]; exact h2)]
        by_cases h6 : p.op = 6
        · rw [if_pos (by rw [ieq_true]; exact h6)]; simp [h6, ieq]
        · rw [if_neg (by rw [ieq_true]; exact h6)]; simp [h2, h6]
theorem specUnd_ok (v : Int) : ∀ (d n : Nat) (p : GPattern), deepP d p → d ≤ n → m_spec_l11Under n p v = some (undB v d p) := by
  intro d
  induction d with
  | zero => intro n p h; exact h.elim
  | succ d ih =>
    intro n p h hn
    obtain ⟨n, rfl⟩ : ∃ k, n = k + 1 := ⟨n - 1, by omega⟩
    unfold m_spec_l11Under
    rw [any_loop _ (fun q => (decide (p.op = 5) && hasB v d q) || undB v d q) true p.kids 0 fun k x hx => by
      rw [ih n x (h x hx) (by omega)]
      simp only [Option.bind_some]
      by_cases h5 : p.op = 5
      · rw [if_pos (by rw [ieq_true]; exact h5), specHas_ok v d n x (h x hx) (by omega)]
        simp only [Option.bind_some, h5, decide_true, Bool.true_and]
        cases hasB v d x <;> cases undB v d x <;> rfl
      · rw [if_neg (by rw [ieq_true]; exact h5)]
        simp only [h5, decide_false, Bool.false_and, Bool.false_or]
        cases undB v d x <;> rfl]
    simp only [undB, Option.bind_some]
    cases p.kids.any (fun q => (decide (p.op = 5) && hasB v d q) || undB v d q) <;> rfl
theorem own_no {ρ : Type} {p : GPattern} {v : Int} {x y : Option (Ctl ρ Unit)} (h : ¬ ((p.op = 2 ∨ p.op = 6) ∧ p.var = v)) : (if (ieq p.op 2) = true then (if (ieq p.var v) = true then x else some (Ctl.brk ())) else (if (ieq p.op 6) = true then (if (ieq p.var v) = true then y else some (Ctl.brk ())) else some (Ctl.brk ()))) = some (Ctl.brk ()) := by
  simp only [ieq_true]
  by_cases h2 : p.op = 2
  · rw [if_pos h2, if_neg (fun e => h ⟨.inl h2, e⟩)]
  · rw [if_neg h2]
    by_cases h6 : p.op = 6
    · rw [if_pos h6, if_neg (fun e => h ⟨.inr h6, e⟩)]
    · rw [if_neg h6]
theorem own_yes {ρ : Type} {p : GPattern} {v : Int} {x : Option (Ctl ρ Unit)} (h : (p.op = 2 ∨ p.op = 6) ∧ p.var = v) : (if (ieq p.op 2) = true then (if (ieq p.var v) = true then x else some (Ctl.brk ())) else (if (ieq p.op 6) = true then (if (ieq p.var v) = true then x else some (Ctl.brk ())) else some (Ctl.brk ()))) = x := by
  simp only [ieq_true]
  rw [if_pos h.2]
  by_cases h2 : p.op = 2
  · rw [if_pos h2]
  · rw [if_neg h2, if_pos (h.1.resolve_left h2)]
theorem no_own {v : Int} {d : Nat} {p : GPattern} (h : hasB v (d + 1) p = false) : ¬ ((p.op = 2 ∨ p.op = 6) ∧ p.var = v) := fun hn => by
  simp only [hasB, Bool.or_eq_false_iff, Bool.and_eq_false_iff, decide_eq_false_iff_not] at h
  rcases h.2 with h | h
  · exact h hn.1
  · exact h hn.2
theorem no_kid {v : Int} {d : Nat} {p q : GPattern} (h : hasB v (d + 1) p = false) (hq : q ∈ p.kids) : hasB v d q = false := by
  simp only [hasB, Bool.or_eq_false_iff, List.any_eq_false] at h
  simpa using h.1 q hq
theorem kids3 {w : List GData} (hw : WW w) {d : Nat} {t : GType} {p : GPattern} (ht : t ∈ tys w) (g : goodB w (d + 1) t p = true) : p.kids.length ≤ 3 := by
  obtain ⟨ho, hl⟩ := node_own (good_node g)
  rw [hl]
  exact kidsT_len (hw.ty t ht) ho
theorem specPut_none {w : List GData} (hw : WW w) (v lo hi : Int) : ∀ (d n : Nat) (t : GType) (p : GPattern), t ∈ tys w → goodB w d t p = true → linD w d t p = true → hasB v d p = false → d ≤ n → m_spec_l11Put n p v lo hi = some (p, true) := by
  intro d
  induction d with
  | zero => intro n t p _ h; cases h
  | succ d ih =>
    intro n t p ht g l hh hn
    obtain ⟨n, rfl⟩ : ∃ k, n = k + 1 := ⟨n - 1, by omega⟩
    have h3 := kids3 hw ht g
    have hr : Ret (m_spec_l11Put (n + 1) p v lo hi) (fun r => r = (p, true)) := by
      unfold m_spec_l11Put
      rw [own_no (no_own hh)]
      simp only [Option.bind_some]
      refine Ret.ctl (forL_rule p.kids (fun k s => s = p.kids.take k) (fun _ => False) (fun s => s = p.kids) (by simp) (fun k x s hx hI => ?_) (fun s hs => by rw [hs]; simp)) (fun r hr => hr.elim) (fun s hs => ?_)
      · obtain ⟨a, ha, ga, la⟩ := kid_at g l hx
        have hxm := List.mem_of_getElem? hx
        have hta := kidsT_tys (hw.ty t ht) ht (node_own (good_node g)).1 a (List.mem_of_getElem? ha)
        have hk := (List.getElem?_eq_some_iff.1 hx).1
        rw [ih n a x hta ga la (no_kid hh hxm) (by omega)]
        simp only [Option.bind_some, Bool.not_true, Bool.false_eq_true, if_false]
        rw [app_ok (by rw [hI]; simp [rowLimit]; omega)]
        refine .some ?_
        show s ++ [x] = p.kids.take (k + 1)
        rw [hI, List.take_add_one, hx]
        rfl
      · refine .some ?_
        rw [hs]
        exact congrArg (·, true) (by cases p; rfl)
    obtain ⟨_, e, rfl⟩ := hr
    exact e
theorem specPut_ok {w : List GData} (hw : WW w) (h0 : ctorsP w tI = []) (v lo hi : Int) : ∀ (d n : Nat) (t : GType) (p : GPattern), t ∈ tys w → goodB w d t p = true → linD w d t p = true → IntV w d t p v → hasB v d p = true → undB v d p = false → d + 3 ≤ n →
    Ret (m_spec_l11Put n p v lo hi) (fun r => r.2 = (putD (decide (lo ≤ hi)) v lo hi d p).2 ∧ (r.1 = (putD (decide (lo ≤ hi)) v lo hi d p).1 ∨ (r.2 = false ∧ r.1 = GPattern.mk 0 0 0 0 0 []))) := by
  intro d
  induction d with
  | zero => intro n t p _ h; cases h
  | succ d ih =>
    intro n t p ht g l hi' hh hu hn
    obtain ⟨n, rfl⟩ : ∃ k, n = k + 1 := ⟨n - 1, by omega⟩
    unfold m_spec_l11Put
    by_cases hown : (p.op = 2 ∨ p.op = 6) ∧ p.var = v
    · rw [own_yes hown, put_own hown]
      have := hi'.own hown
      subst this
      rw [specNar_ok h0 lo hi (d + 1) n p g (by omega)]
      exact .some ⟨rfl, .inl rfl⟩
    · rw [own_no hown]
      simp only [Option.bind_some]
      obtain ⟨i, q, e1, e2, e3⟩ := has_at hh hown
      have h5 : p.op ≠ 5 := fun h5 => by rw [has5_und h5 hh] at hu; cases hu
      have h3 := kids3 hw ht g
      have hqm := List.mem_of_getElem? e2
      have hil := (List.getElem?_eq_some_iff.1 e2).1
      rw [put_at hown e1 e2]
      generalize hz : putD (decide (lo ≤ hi)) v lo hi d q = z
      refine Ret.ctl (forL_rule p.kids (fun k s => s = (p.kids.set i z.1).take k ∧ (i < k → z.2 = true)) (fun r => (r.2 = false ∧ r.1 = GPattern.mk 0 0 0 0 0 []) ∧ z.2 = false) (fun s => s = p.kids.set i z.1 ∧ z.2 = true) ⟨by simp, fun h => by omega⟩ (fun k x s hx hI => ?_) (fun s hs => ⟨by rw [hs.1, List.take_of_length_le (by simp)], hs.2 hil⟩)) (fun r hr => ?_) (fun s hs => ?_)
      · obtain ⟨a, ha, ga, la⟩ := kid_at g l hx
        have hxm := List.mem_of_getElem? hx
        have hta := kidsT_tys (hw.ty t ht) ht (node_own (good_node g)).1 a (List.mem_of_getElem? ha)
        have hk := (List.getElem?_eq_some_iff.1 hx).1
        have hlen : s.length ≤ 3 := by rw [hI.1]; simp; omega
        by_cases hki : k = i
        · subst hki
          rw [e2] at hx
          cases hx
          refine Ret.bind (ih n a q hta ga la (hi'.kid g h5 ha e2) e3 (und_kid hu hqm) (by omega)) (fun r hr => ?_)
          rw [hz] at hr
          refine Ret.ite (fun hf => ?_) (fun hf => ?_)
          · refine .some ⟨⟨rfl, rfl⟩, ?_⟩
            rw [← hr.1]; simpa using hf
          · have hr2 : r.2 = true := by simpa using hf
            rw [app_ok (by simp [rowLimit]; omega)]
            refine .some ⟨?_, fun _ => by rw [← hr.1]; exact hr2⟩
            show s ++ [r.1] = _
            rw [hI.1, hr.2.resolve_right (fun h => by rw [hr2] at h; exact absurd h.1 (by decide)), List.take_add_one]
            simp [hil]
        · have hno : hasB v d x = false := by
            cases hb : hasB v d x with
            | false => rfl
            | true => exact absurd (kids_apart g l h5 hx e2 hb e3) hki
          rw [specPut_none hw v lo hi d n a x hta ga la hno (by omega)]
          simp only [Option.bind_some, Bool.not_true, Bool.false_eq_true, if_false]
          rw [app_ok (by simp [rowLimit]; omega)]
          refine .some ⟨?_, fun h => hI.2 (by omega)⟩
          show s ++ [x] = _
          rw [hI.1, List.take_add_one, List.getElem?_set_ne (fun h => hki h.symm), hx]
          rfl
      · exact .some ⟨by rw [hr.1.1, hr.2], .inr hr.1⟩
      · refine .some ⟨hs.2.symm, .inl ?_⟩
        rw [hs.1]
theorem implPut_none {w : List GData} (v lo hi : Int) : ∀ (d n : Nat) (t : GType) (p : GPattern), goodB w d t p = true → linD w d t p = true → hasB v d p = false → d ≤ n → m_impl_narrowed n p v lo hi = some (p, false, false) := by
  intro d
  induction d with
  | zero => intro n t p h; cases h
  | succ d ih =>
    intro n t p g l hh hn
    obtain ⟨n, rfl⟩ : ∃ k, n = k + 1 := ⟨n - 1, by omega⟩
    have hr : Ret (m_impl_narrowed (n + 1) p v lo hi) (fun r => r = (p, false, false)) := by
      unfold m_impl_narrowed
      rw [own_no (no_own hh)]
      simp only [Option.bind_some]
      refine Ret.ite (fun _ => .some rfl) (fun _ => ?_)
      refine Ret.ctl (forL_rule p.kids (fun _ _ => True) (fun _ => False) (fun _ => True) trivial (fun k x s hx hI => ?_) (fun s hs => trivial)) (fun r hr => hr.elim) (fun s hs => .some rfl)
      obtain ⟨a, ha, ga, la⟩ := kid_at g l hx
      rw [ih n a x ga la (no_kid hh (List.mem_of_getElem? hx)) (by omega)]
      exact .some trivial
    obtain ⟨_, e, rfl⟩ := hr
    exact e
theorem implPut_ok {w : List GData} (hw : WW w) (h0 : ctorsP w tI = []) (v lo hi : Int) : ∀ (d n : Nat) (t : GType) (p : GPattern), t ∈ tys w → goodB w d t p = true → linD w d t p = true → IntV w d t p v → hasB v d p = true → d + 3 ≤ n →
    m_impl_narrowed n p v lo hi = some (if undB v d p = true then (p, false, false) else ((putD true v lo hi d p).1, true, (putD true v lo hi d p).2)) := by
  intro d
  induction d with
  | zero => intro n t p _ h; cases h
  | succ d ih =>
    intro n t p ht g l hi' hh hn
    obtain ⟨n, rfl⟩ : ∃ k, n = k + 1 := ⟨n - 1, by omega⟩
    have hr : Ret (m_impl_narrowed (n + 1) p v lo hi) (fun r => r = (if undB v (d + 1) p = true then (p, false, false) else ((putD true v lo hi (d + 1) p).1, true, (putD true v lo hi (d + 1) p).2))) := by
      unfold m_impl_narrowed
      by_cases hown : (p.op = 2 ∨ p.op = 6) ∧ p.var = v
      · have hu : undB v (d + 1) p = false := by
          simp only [undB, List.any_eq_false, Bool.or_eq_true, not_or]
          intro q hq
          have hno := kids_own g l hown.1 hown.2 q hq
          refine ⟨by simp [hno], fun h => ?_⟩
          rw [und_has v d q h] at hno
          cases hno
        rw [own_yes hown, put_own hown, hu]
        have := hi'.own hown
        subst this
        rw [implNar_ok h0 lo hi (d + 1) n p g (by omega)]
        exact .some rfl
      · rw [own_no hown]
        simp only [Option.bind_some]
        by_cases h5 : p.op = 5
        · rw [if_pos (by rw [ieq_true]; exact h5), has5_und h5 hh]
          exact .some rfl
        · rw [if_neg (by rw [ieq_true]; exact h5)]
          obtain ⟨i, q, e1, e2, e3⟩ := has_at hh hown
          have h3 := kids3 hw ht g
          have hqm := List.mem_of_getElem? e2
          have hil := (List.getElem?_eq_some_iff.1 e2).1
          have hue : undB v (d + 1) p = undB v d q := by
            rw [Bool.eq_iff_iff]
            simp only [undB, h5, decide_false, Bool.false_and, Bool.false_or, List.any_eq_true]
            constructor
            · rintro ⟨x, hx, hux⟩
              obtain ⟨j, hj⟩ := List.mem_iff_getElem?.1 hx
              have := kids_apart g l h5 hj e2 (und_has v d x hux) e3
              subst this
              rw [e2] at hj
              cases hj
              exact hux
            · exact fun h => ⟨q, hqm, h⟩
          rw [hue, put_at hown e1 e2]
          generalize hz : putD true v lo hi d q = z
          refine Ret.ctl (forL_rule p.kids (fun k _ => undB v d q = false → k ≤ i) (fun r => undB v d q = false ∧ r = (GPattern.mk p.op p.ctor p.n p.m p.var (p.kids.set i z.1), true, z.2)) (fun _ => undB v d q = true) (fun _ => by omega) (fun k x s hx hI => ?_) (fun s hs => ?_)) (fun r hr => ?_) (fun s hs => ?_)
          · obtain ⟨a, ha, ga, la⟩ := kid_at g l hx
            have hxm := List.mem_of_getElem? hx
            have hta := kidsT_tys (hw.ty t ht) ht (node_own (good_node g)).1 a (List.mem_of_getElem? ha)
            by_cases hki : k = i
            · subst hki
              rw [e2] at hx
              cases hx
              rw [ih n a q hta ga la (hi'.kid g h5 ha e2) e3 (by omega), hz]
              cases hu : undB v d q with
              | true =>
                simp only [if_true, Option.bind_some, Bool.false_eq_true, if_false]
                exact .some (fun h => by cases h)
              | false =>
                simp only [Bool.false_eq_true, if_false, Option.bind_some, if_true]
                have hc : m_slices_Clone_Pattern p.kids = some p.kids := by
                  unfold m_slices_Clone_Pattern
                  rw [app_ok (by simp [rowLimit]; omega)]
                  rfl
                rw [hc]
                simp only [Option.bind_some]
                rw [idx_ok e2]
                simp only [Option.bind_some]
                rw [setI_ok (by omega) (by omega)]
                exact .some ⟨trivial, by simp⟩
            · have hno : hasB v d x = false := by
                cases hb : hasB v d x with
                | false => rfl
                | true => exact absurd (kids_apart g l h5 hx e2 hb e3) hki
              rw [implPut_none v lo hi d n a x ga la hno (by omega)]
              exact .some (fun h => by have := hI h; omega)
          · cases hu : undB v d q with
            | true => rfl
            | false => have := hs hu; omega
          · rw [hr.1]
            exact .some hr.2
          · rw [hs]
            exact .some rfl
    obtain ⟨_, e, rfl⟩ := hr
    exact e
end Go.Proofs.YtmkamncbkkahjaaGreat
namespace Go.Proofs.YtmkamncbkkahjaaGreat
open Go Go.RowKit
theorem mutate4_ge {r : Gl17Rd} (h : ROk r 10) (l : List GClause) (hl : l.length ≤ 8) (hk : ∀ c ∈ l, c.pat.kids.length ≤ 100) : Ret (m_spec_l4Mutate NN r l) (fun a => l.length ≤ a.1.length) := by
  unfold m_spec_l4Mutate
  rw [app_ok (by simp [rowLimit]; omega)]
  simp only [Option.bind_some, List.nil_append]
  refine Ret.ctl (R := fun _ => False) (B := fun (s : Gl17Rd × (List GClause)) => l.length ≤ s.2.length) ?_ (fun r hr => hr.elim) (fun s hs => .some hs)
  refine Ret.bind (pick_ok (h.le (by omega)) (by omega) (by omega)) (fun a ha => ?_)
  have hr1 : ROk a.2 9 := ROk.nx (c := 1) h ha.2.2
  have hset : ∀ c : GClause, 0 < l.length → setI l 0 c = some (l.set 0 c) := fun c h0 => by
    unfold setI
    rw [if_pos ⟨by omega, by show 0 < l.length; omega⟩]
    rfl
  have pass : Ret (some (Ctl.brk (ρ := List GClause × Gl17Rd) (a.2, l))) (CtlQ (fun _ => False) (fun (s : Gl17Rd × (List GClause)) => l.length ≤ s.2.length)) := .some (Nat.le_refl l.length)
  refine Ret.ite (fun _ => ?_) (fun _ => ?_)
  · refine Ret.ite (fun c => ?_) (fun _ => pass)
    rw [ilt_true] at c
    simp only [lenZ] at c
    refine Ret.bind (num_ok (hr1.le (by omega)) _ (by simp) (by simp)) (fun b hb => ?_)
    have hr2 : ROk b.2 8 := ROk.nx (c := 1) hr1 hb.2
    refine Ret.bind (num_ok (hr2.le (by omega)) _ (by simp) (by simp)) (fun d hd => ?_)
    have hr3 : ROk d.2 7 := ROk.nx (c := 1) hr2 hd.2
    refine Ret.bind (num_ok (hr3.le (by omega)) _ (by simp) (by simp)) (fun e he => ?_)
    obtain ⟨x, hx, hm⟩ := idx_lt_ok (xs := l) (i := 0) (by omega) (by omega)
    rw [hx]
    simp only [Option.bind_some]
    rw [hset _ (by omega)]
    exact .some (by simp)
  refine Ret.ite (fun _ => ?_) (fun _ => ?_)
  · refine Ret.ite (fun c => ?_) (fun _ => pass)
    rw [ilt_true] at c
    simp only [lenZ] at c
    obtain ⟨x, hx, hm⟩ := idx_lt_ok (xs := l) (i := 0) (by omega) (by omega)
    have hxk := hk x hm
    rw [hx]
    simp only [Option.bind_some]
    refine Ret.bind (mutate3_ok (hr1.le (by omega)) x.pat (by omega)) (fun b hb => ?_)
    have hr2 : ROk b.2 7 := ROk.nx (c := 2) hr1 hb.2
    refine Ret.bind (mutate3_ok (hr2.le (by omega)) b.1 (by have := hb.1; omega)) (fun d hd => ?_)
    rw [hset _ (by omega)]
    exact .some (by simp)
  refine Ret.ite (fun _ => ?_) (fun _ => pass)
  refine Ret.ctl (whileL_rule (fun (s : List GClause) => l.length ≤ s.length ∧ s.length ≤ 9) (fun s => 9 - s.length) (fun _ => False) (fun s => l.length ≤ s.length) ⟨by omega, by omega⟩ (fun s hI => ?_) NN (by show 9 - l.length < 30000000; omega)) (fun r hr => hr.elim) (fun s hs => .some hs)
  refine Ret.ite (fun c => ?_) (fun _ => .some hI.1)
  rw [ile_true] at c
  simp only [lenZ] at c
  rw [app_ok (by simp [rowLimit]; omega)]
  exact .some ⟨⟨by simp; omega, by simp; omega⟩, by simp; omega⟩
def gTexts : List ByteArray := [(ByteArray.mk #[67, 111, 110, 115, 40, 97, 44, 95, 41, 32, 97, 60, 51]), (ByteArray.mk #[67, 111, 110, 115, 40, 97, 64, 50, 45, 53, 44, 98, 41, 32, 97, 61, 52]), (ByteArray.mk #[67, 111, 110, 115, 40, 97, 64, 40, 49, 124, 55, 41, 44, 95, 41, 32, 97, 60, 53]), (ByteArray.mk #[67, 111, 110, 115, 40, 97, 44, 67, 111, 110, 115, 40, 98, 44, 95, 41, 41, 32, 98, 60, 48]), (ByteArray.mk #[40, 67, 111, 110, 115, 40, 97, 44, 78, 105, 108, 41, 124, 67, 111, 110, 115, 40, 95, 44, 67, 111, 110, 115, 40, 97, 44, 95, 41, 41, 41, 32, 97, 61, 50]), (ByteArray.mk #[67, 111, 110, 115, 40, 97, 64, 51, 44, 95, 41, 32, 97, 61, 52])]
def chkG : Bool := gTexts.all fun s => match m_spec_ParseClauses NN w0 (GType.mk 0 0) s with | some r => (idx r.1 0).isSome | none => false
theorem chkG_ok : chkG = true := by kernel_rfl
theorem worldG : m_spec_ParseWorld NN (ByteArray.mk #[76, 61, 78, 105, 108, 124, 67, 111, 110, 115, 40, 73, 44, 76, 41]) = some (w0, true) := by kernel_rfl
theorem w0_mem : w0 ∈ worlds := by simp [worlds]
theorem t0_mem : GType.mk 0 0 ∈ tys w0 := by
  have : (tys w0).contains (GType.mk 0 0) = true ∨ GType.mk 0 0 ∈ tys w0 := .inr (by simp [tys, w0, tD, List.range, List.range.loop])
  exact this.elim (fun h => by simp [tys, w0, tD, List.range, List.range.loop]) id
theorem drawG_ok (code : List Int) (hb : ∀ x ∈ code, 0 ≤ x ∧ x ≤ 255) : Ret (m_spec_DrawGuardPattern NN code) (fun a => a.1 ∈ worlds ∧ a.2.1 ∈ tys a.1) := by
  unfold m_spec_DrawGuardPattern
  refine Ret.bind (open_ok code hb) (fun r hr => ?_)
  refine Ret.bind (pick_ok (hr.le (by omega)) (by omega) (by omega)) (fun a ha => ?_)
  have hr1 : ROk a.2 999999 := ROk.nx (c := 1) hr ha.2.2
  refine Ret.ite (fun _ => ?_) (fun _ => ?_)
  · rw [worldG]
    simp only [Option.bind_some]
    refine Ret.bind (pick_ok (hr1.le (by omega)) (by simp [lenZ]) (by simp [lenZ])) (fun b hb' => ?_)
    obtain ⟨x, hx, hm⟩ := idx_lt_ok (xs := gTexts) (i := b.1) hb'.1 (by have := hb'.2.1; simp [lenZ] at this; show b.1 < (6 : Nat); omega)
    have hx' := hx
    unfold gTexts at hx'
    rw [hx']
    simp only [Option.bind_some]
    have hc := List.all_eq_true.1 chkG_ok x hm
    cases e : m_spec_ParseClauses NN w0 (GType.mk 0 0) x with
    | none => rw [e] at hc; cases hc
    | some r =>
      rw [e] at hc
      replace hc : (idx r.1 0).isSome = true := hc
      simp only [Option.bind_some]
      cases e2 : idx r.1 0 with
      | none => rw [e2] at hc; cases hc
      | some c => exact .some ⟨w0_mem, t0_mem⟩
  · unfold m_spec_DrawClauseValid
    have h : Ret ((m_spec_l17Open code).bind fun r1 => ((m_spec_l2Typed NN r1).bind fun r2 => ((m_spec_l4Clause NN r2.2.2.2 r2.1 r2.2.1).bind fun r3 => ((m_spec_l4Mutate NN r3.2 [r3.1]).bind fun r4 => ((idx r4.1 0).bind fun x5 => some ((r2.1, r2.2.1, x5))))))) (fun a => a.1 ∈ worlds ∧ a.2.1 ∈ tys a.1) := by
      refine Ret.bind (open_ok code hb) (fun r1 hr => ?_)
      refine Ret.bind (typed2_ok (hr.le (by omega))) (fun r2 h2 => ?_)
      obtain ⟨hw, ht, hn⟩ := h2
      have hr2 : ROk r2.2.2.2 999500 := ROk.nx (c := 500) hr hn
      refine Ret.bind (clause4_ok (ww hw) ht (hr2.le (by omega))) (fun r3 h3 => ?_)
      have hr3 : ROk r3.2 999000 := ROk.nx (c := 500) hr2 h3.2
      refine Ret.bind (mutate4_ge (hr3.le (by omega)) [r3.1] (by simp) (fun c hc => by
        simp at hc
        subst hc
        have := valid_kids (ww hw) ht h3.1
        omega)) (fun r4 h4 => ?_)
      obtain ⟨x, hx, _⟩ := idx_lt_ok (xs := r4.1) (i := 0) (by omega) (by simp at h4; omega)
      rw [hx]
      exact .some ⟨hw, ht⟩
    exact Ret.bind h fun a ha => .some ha
theorem implClauseV_ok {w : List GData} (hw : WW w) {t : GType} (ht : t ∈ tys w) (c : GClause) : m_impl_ClauseValid NN w t c = some (clauseB w t c) := by
  unfold m_impl_ClauseValid
  rw [implTV_ok hw ht]
  simp only [Option.bind_some, if_true]
  rw [implClause_ok hw (n := NN) (by decide) t c ht]
  rfl
theorem specClauseV_ok {w : List GData} (hw : WW w) {t : GType} (ht : t ∈ tys w) (c : GClause) : m_spec_ClauseValid NN w t c = some (clauseB w t c) := by
  unfold m_spec_ClauseValid
  rw [specTV_ok hw ht]
  simp only [Option.bind_some, if_true]
  rw [specClause_ok hw (n := NN) (by decide) t c ht]
  rfl
structure GV (w : List GData) (t : GType) (c : GClause) : Prop where
  g : goodB w 10 t c.pat = true
  n : cntP c.pat ≤ 60
  l : linD w 10 t c.pat = true
  o : c.guard.op = 1 ∨ c.guard.op = 2
  lo : 0 ≤ c.guard.n
  hi : c.guard.n ≤ 9
  i : IntV w 10 t c.pat c.guard.var
  h : hasB c.guard.var 10 c.pat = true
theorem gv_of {w : List GData} {t : GType} {c : GClause} (h : clauseB w t c = true) (h0 : c.guard.op ≠ 0) : GV w t c := by
  simp only [clauseB, Bool.and_eq_true] at h
  obtain ⟨g, n, l⟩ := valid_good h.1
  have h2 := h.2
  unfold guardB at h2
  rw [if_neg h0] at h2
  simp only [Bool.and_eq_true, decide_eq_true_eq] at h2
  have hd := lin_distinct 10 t c.pat g l
  refine ⟨g, n, l, h2.1.1, h2.1.2.1, h2.1.2.2, fun x hx e => ?_, (has_vars c.guard.var 10 t c.pat g l).2 ⟨_, h2.2, rfl⟩⟩
  obtain ⟨i, hi⟩ := List.mem_iff_getElem?.1 hx
  obtain ⟨j, hj⟩ := List.mem_iff_getElem?.1 h2.2
  have := distinct_get hd hi hj e
  subst this
  rw [hi] at hj
  cases hj
  rfl
def leftG (d : Nat) (c : GClause) : Bool := (putD true c.guard.var (loG c.guard) (hiG c.guard) d c.pat).2 && decide (loG c.guard ≤ hiG c.guard)
theorem guarded_ok {w : List GData} (hw : WW w) (h0 : ctorsP w tI = []) {t : GType} (ht : t ∈ tys w) {c : GClause} (h : GV w t c) :
    m_impl_guarded NN c = some (if undB c.guard.var 10 c.pat = true then (c.pat, false, false) else ((putD true c.guard.var (loG c.guard) (hiG c.guard) 10 c.pat).1, true, leftG 10 c)) := by
  have h1 := h.lo
  have h2 := h.hi
  have e : (if (ieq c.guard.op 2) = true then some (Ctl.brk (ρ := GPattern × Bool × Bool) (c.guard.n, c.guard.n)) else some (Ctl.brk (0, wsub .i64 c.guard.n 1))) = some (Ctl.brk (loG c.guard, hiG c.guard)) := by
    rcases h.o with ho | ho
    · rw [if_neg (by rw [ieq_true]; omega), wsub_ok (by omega) (by omega)]
      simp [loG, hiG, ho]
    · rw [if_pos (by rw [ieq_true]; exact ho)]
      simp [loG, hiG, ho]
  unfold m_impl_guarded
  rw [e]
  simp only [Option.bind_some]
  rw [implPut_ok hw h0 c.guard.var (loG c.guard) (hiG c.guard) 10 NN t c.pat ht h.g h.l h.i h.h (by decide)]
  simp only [Option.bind_some]
  cases undB c.guard.var 10 c.pat with
  | true => rfl
  | false =>
    simp only [Bool.false_eq_true, if_false, leftG, ile]
    cases (putD true c.guard.var (loG c.guard) (hiG c.guard) 10 c.pat).2 <;> simp
theorem guard11_ok {w : List GData} (hw : WW w) (h0 : ctorsP w tI = []) {t : GType} (ht : t ∈ tys w) {c : GClause} (h : GV w t c) (hu : undB c.guard.var 10 c.pat = false) :
    Ret (m_spec_l11Guard NN c) (fun r => r.2 = leftG 10 c ∧ (r.2 = true → r.1 = ⟨(putD true c.guard.var (loG c.guard) (hiG c.guard) 10 c.pat).1, ⟨0, 0, 0⟩⟩)) := by
  have h1 := h.lo
  have h2 := h.hi
  have e : m_spec_l11Range c.guard = some (loG c.guard, hiG c.guard) := by
    unfold m_spec_l11Range
    rcases h.o with ho | ho
    · rw [if_pos (by rw [ieq_true]; exact ho), wsub_ok (by omega) (by omega)]
      simp [loG, hiG, ho]
    · rw [if_neg (by rw [ieq_true]; omega)]
      simp [loG, hiG, ho]
  unfold m_spec_l11Guard
  rw [if_neg (by rw [ieq_true]; have := h.o; omega), e]
  simp only [Option.bind_some]
  refine Ret.bind (specPut_ok hw h0 c.guard.var (loG c.guard) (hiG c.guard) 10 NN t c.pat ht h.g h.l h.i h.h hu (by decide)) (fun r hr => ?_)
  obtain ⟨d1, d2, d3⟩ := put_size h0 (decide (loG c.guard ≤ hiG c.guard)) c.guard.var (loG c.guard) (hiG c.guard) 10 t c.pat h.g h.l h.i h.h hu
  have hn := h.n
  have hcopy : m_spec_l3Copy NN r.1 = some r.1 := by
    rcases hr.2 with e | ⟨_, e⟩
    · rw [e]
      exact specCopy_ok 11 NN _ d1 (by decide) (by omega)
    · rw [e]
      exact specCopy_ok 1 NN _ (fun q hq => by cases hq) (by decide) (by simp [cntP, cntP.cntPs])
  rw [hcopy]
  have hleft : r.2 = leftG 10 c := by
    rw [hr.1]
    unfold leftG
    by_cases hlt : loG c.guard ≤ hiG c.guard
    · simp [hlt]
    · rw [d3 (by simp [hlt]) (by omega)]
      simp [hlt]
  refine .some ⟨hleft, fun ht => ?_⟩
  have e := hr.2.resolve_right (fun h => by rw [show r.2 = true from ht] at h; exact absurd h.1 (by decide))
  have hlt : loG c.guard ≤ hiG c.guard := by
    have : leftG 10 c = true := by rw [← hleft]; exact ht
    simp only [leftG, Bool.and_eq_true, decide_eq_true_eq] at this
    exact this.2
  simp only [hlt, decide_true] at e
  rw [e]
end Go.Proofs.YtmkamncbkkahjaaGreat
namespace Go.Proofs.YtmkamncbkkahjaaGreat
open Go Go.RowKit
theorem run_one {c : GClause} {u : GValue} {b : List GBind} {ok g : Bool} (hm : m_impl_matched NN c.pat u = some (b, ok)) (hg : ok = true → m_impl_GuardHolds c.guard b = some g) : m_impl_run NN [c] u = some (if (ok && g) = true then (0, b) else (-1, [])) := by
  unfold m_impl_run
  simp only [forL]
  rw [hm]
  simp only [Option.bind_some]
  cases ok with
  | false => rfl
  | true =>
    rw [if_pos rfl, hg rfl]
    cases g <;> rfl
theorem matched_of {w : List GData} (hw : WW w) {t : GType} (ht : t ∈ tys w) {p : GPattern} (g : goodB w 10 t p = true) (n : cntP p ≤ 1000) (l : linD w 10 t p = true) {u : GValue} (hu : goodV w 10 t u) :
    Ret (m_impl_matched NN p u) (fun r => DB r.1 ∧ r.2 = (matchD 10 p u).isSome ∧ ∀ l, matchD 10 p u = some l → r.1.Perm l) := by
  have hm := (match_ok hw 10 NN t p u 10 ht g hu (by decide) n).mono fun r hr => hr.2
  refine (matched_ok hm fun x hx => ⟨?_, fun b hb => ?_⟩).mono fun r hr => hr.2
  · rw [match_len 10 t p g l u x hx]
    have := vars_len g l
    omega
  · obtain ⟨e', h1, h2⟩ := match_deep 10 p 10 u x (good_deepV hw 10 t u ht hu) hx b hb
    exact deepV_le _ _ _ h1 h2
theorem runC {w : List GData} (hw : WW w) {t : GType} (ht : t ∈ tys w) {c : GClause} (h : GV w t c) {u : GValue} (hu : goodV w 10 t u) :
    ∃ b, DB b ∧ m_impl_matched NN c.pat u = some (b, (matchD 10 c.pat u).isSome) ∧ m_impl_run NN [c] u = some (if ((matchD 10 c.pat u).isSome && (matchD 10 c.pat u).elim false (inR c.guard.var (loG c.guard) (hiG c.guard))) = true then (0, b) else (-1, [])) := by
  have hn := h.n
  obtain ⟨⟨b, ok⟩, e, h1, h2, h3⟩ := matched_of hw ht h.g (by omega) h.l hu
  simp only at h1 h2 h3
  subst h2
  refine ⟨b, h1, e, run_one e fun hs => ?_⟩
  cases em : matchD 10 c.pat u with
  | none => rw [em] at hs; cases hs
  | some l =>
    obtain ⟨x, hx⟩ := (match_v c.guard.var () 10 t c.pat h.g h.l u l em).2 h.h
    obtain ⟨y, hy, ey⟩ := hx.1
    have hv := match_int 10 10 t c.pat h.g h.l h.i u l hu em y hy ey
    rw [hx.2 y hy ey] at hv
    rw [guardHolds_uv h.o hx hv.1 hv.2 (h3 l em)]
    show _ = some (inR _ _ _ l)
    rw [inR_uv hx]
theorem clauses1 {w : List GData} {t : GType} {c : GClause} (h : clauseB w t c = true) : clausesB w t [c] = true := by simp [clausesB, h]
theorem values_ok {w : List GData} (hww : w ∈ worlds) {t : GType} (ht : t ∈ tys w) (more : List Int) (hm : more.length ≤ 1048576) : ∃ r, m_impl_ValuesUpTo NN w t (wadd .i64 1 (wrem (lenZ more.length) 3)) = some r := by
  have hrem : 1 ≤ wadd .i64 1 (wrem (lenZ more.length) 3) ∧ wadd .i64 1 (wrem (lenZ more.length) 3) ≤ 3 := by
    have e : wrem (lenZ more.length) 3 = ((more.length % 3 : Nat) : Int) := by
      show Int.tmod _ _ = _
      simp only [lenZ]
      rw [Int.tmod_eq_emod_of_nonneg (by omega)]
      omega
    rw [e, wadd_ok (by omega) (by omega)]
    omega
  exact upto_ok hww ht hrem.1 hrem.2
theorem runV {w : List GData} (hw : WW w) {t : GType} (ht : t ∈ tys w) {c : GClause} (h : clauseB w t c = true) (u : GValue) {Q : Int × List GBind × Bool → Prop} (h0 : Q (-1, [], false)) (h1 : goodV w 10 t u → Ret (m_impl_run NN [c] u) (fun r => Q (r.1, r.2, true))) : Ret (m_impl_RunClauses NN w t [c] u) Q := by
  unfold m_impl_RunClauses
  rw [implClauses_ok hw ht [c], clauses1 h]
  simp only [Option.bind_some, Bool.not_true, Bool.false_eq_true, if_false]
  refine Ret.bind (valueOk_ok hw ht u) (fun ok hok => ?_)
  refine Ret.ite (fun _ => .some h0) (fun hk => ?_)
  rw [Bool.not_eq_false'] at hk
  exact Ret.bind (h1 (hok hk)) fun r hr => .some hr
theorem equalF_one (a b : GClause) (f : GClause → GClause → Option Bool) (h : f a b = some true) : m_slices_EqualFunc_Clause [a] [b] f = some true := by
  unfold m_slices_EqualFunc_Clause
  simp only [forL, idx, lenZ]
  simp [ieq, h]
theorem same_clause {d : Nat} (hd : d ≤ NN) {c : GClause} (h : deepP d c.pat) : m_impl_ClausesSame NN [c] [c] = some true := by
  have hs : m_impl_PatternSame NN c.pat c.pat = some true := by
    obtain ⟨r, e, hr⟩ := implSame_ok d NN c.pat c.pat h hd
    rw [hr.2 rfl] at e
    exact e
  unfold m_impl_ClausesSame
  rw [equalF_one _ _ _ (by
    unfold m_impl_ClausesSame_1
    rw [hs]
    simp [eqAll, ieq])]
  rfl
theorem guardP_ok {w : List GData} (hw : WW w) (h0 : ctorsP w tI = []) {t : GType} (ht : t ∈ tys w) (c : GClause) :
    ∃ d ok, m_impl_GuardPattern NN w t c = some (d, ok) ∧ m_spec_GuardPattern NN w t c = some (d, ok) ∧ deepP 11 d.pat ∧
      (ok = true → clauseB w t c = true ∧ clauseB w t d = true ∧ d.guard = ⟨0, 0, 0⟩ ∧
        ((c.guard.op = 0 ∧ d = c) ∨ (GV w t c ∧ undB c.guard.var 10 c.pat = false ∧ leftG 10 c = true ∧ d.pat = (putD true c.guard.var (loG c.guard) (hiG c.guard) 10 c.pat).1))) := by
  have zd : deepP 11 (GPattern.mk 0 0 0 0 0 []) := fun q hq => by cases hq
  unfold m_impl_GuardPattern m_spec_GuardPattern
  rw [implClauseV_ok hw ht, specClauseV_ok hw ht]
  simp only [Option.bind_some]
  cases hc : clauseB w t c with
  | false => exact ⟨_, false, rfl, rfl, zd, fun h => by cases h⟩
  | true =>
    simp only [Bool.not_true, Bool.false_eq_true, if_false]
    by_cases ho : c.guard.op = 0
    · have hcb := hc
      simp only [clauseB, Bool.and_eq_true] at hcb
      obtain ⟨g, n, l⟩ := valid_good hcb.1
      have hd := good_deep 10 t c.pat g
      have hg : c.guard = ⟨0, 0, 0⟩ := by
        have := hcb.2
        unfold guardB at this
        rw [if_pos ho] at this
        simp only [Bool.and_eq_true, decide_eq_true_eq] at this
        cases hgg : c.guard
        rw [hgg] at ho this
        simp only at ho this
        simp [ho, this]
      have hcc : (GClause.mk c.pat ⟨0, 0, 0⟩) = c := by rw [← hg]
      rw [if_pos (by rw [ieq_true]; exact ho), if_neg (by simp [ieq, ho]), implOwn_ok 10 NN c.pat hd (by decide) (by omega)]
      simp only [Option.bind_some]
      unfold m_spec_l11Guard
      rw [if_pos (by rw [ieq_true]; exact ho), specCopy_ok 10 NN c.pat hd (by decide) (by omega)]
      simp only [Option.bind_some, Bool.not_true, Bool.false_eq_true, if_false, hcc]
      rw [specClause_ok hw (n := NN) (by decide) t c ht, hc]
      exact ⟨c, true, rfl, rfl, deepP_succ _ _ hd, fun _ => ⟨trivial, hc, hg, .inl ⟨ho, rfl⟩⟩⟩
    · rw [if_neg (by rw [ieq_true]; exact ho), if_pos (by simp [ieq, ho])]
      have hv := gv_of hc ho
      rw [guarded_ok hw h0 ht hv, specUnd_ok c.guard.var 10 NN c.pat (good_deep 10 t c.pat hv.g) (by decide)]
      simp only [Option.bind_some]
      cases hu : undB c.guard.var 10 c.pat with
      | true => exact ⟨_, false, rfl, rfl, zd, fun h => by cases h⟩
      | false =>
        simp only [Bool.false_eq_true, if_false, Option.bind_some, Bool.not_true]
        obtain ⟨r, e, hr1, hr2⟩ := guard11_ok hw h0 ht hv hu
        rw [e]
        simp only [Option.bind_some]
        rw [hr1]
        cases hl : leftG 10 c with
        | false => exact ⟨_, false, rfl, rfl, zd, fun h => by cases h⟩
        | true =>
          rw [hr2 (by rw [hr1, hl])]
          simp only [Bool.not_true, Bool.false_eq_true, if_false]
          obtain ⟨d1, d2, _⟩ := put_size h0 true c.guard.var (loG c.guard) (hiG c.guard) 10 t c.pat hv.g hv.l hv.i hv.h hu
          have hn := hv.n
          generalize hq : (putD true c.guard.var (loG c.guard) (hiG c.guard) 10 c.pat).1 = q at *
          obtain ⟨pr, pe, ph⟩ := patternVars_ok hw (n := NN) (by decide) t q ht
          have hpo : m_impl_patternOk NN w t q = some (validP w t q) := by
            simp only [m_impl_patternOk, pe, Option.bind_some, ph.1]
          rw [hpo, specClause_ok hw (n := NN) (by decide) t _ ht]
          simp only [Option.bind_some]
          have hcb : clauseB w t ⟨q, ⟨0, 0, 0⟩⟩ = validP w t q := by simp [clauseB, guardB]
          rw [hcb]
          cases hvq : validP w t q with
          | false => exact ⟨_, false, rfl, rfl, zd, fun h => by cases h⟩
          | true =>
            simp only [Bool.not_true, Bool.false_eq_true, if_false]
            rw [implOwn_ok 11 NN q d1 (by decide) (by omega)]
            exact ⟨⟨q, ⟨0, 0, 0⟩⟩, true, rfl, rfl, d1, fun _ => ⟨trivial, by rw [hcb, hvq], rfl, .inr ⟨hv, trivial, trivial, rfl⟩⟩⟩
theorem runD {w : List GData} (hw : WW w) {t : GType} (ht : t ∈ tys w) {c : GClause} (h : clauseB w t c = true) (hg : c.guard = ⟨0, 0, 0⟩) {u : GValue} (hu : goodV w 10 t u) :
    ∃ b, DB b ∧ m_impl_matched NN c.pat u = some (b, (matchD 10 c.pat u).isSome) ∧ m_impl_run NN [c] u = some (if (matchD 10 c.pat u).isSome = true then (0, b) else (-1, [])) := by
  simp only [clauseB, Bool.and_eq_true] at h
  obtain ⟨g, n, l⟩ := valid_good h.1
  obtain ⟨⟨b, ok⟩, e, h1, h2, h3⟩ := matched_of hw ht g (by omega) l hu
  simp only at h1 h2 h3
  subst h2
  refine ⟨b, h1, e, ?_⟩
  rw [run_one (g := true) e fun _ => by rw [hg]; rfl]
  rw [Bool.and_true]
theorem law_guard_pattern (code more : List Int) (hb : ∀ x ∈ code, 0 ≤ x ∧ x ≤ 255) : m_laws_FnGuardPattern NN code more = some true := by
  have hr : Ret (m_laws_FnGuardPattern NN code more) (fun r => r = true) := by
    unfold m_laws_FnGuardPattern
    refine Ret.ite (fun _ => .some rfl) (fun _ => ?_)
    refine Ret.ite (fun _ => .some rfl) (fun hm => ?_)
    rw [ilt_false] at hm
    simp only [lenZ] at hm
    refine Ret.bind (drawG_ok code hb) (fun a ha => ?_)
    obtain ⟨w, t, c⟩ := a
    obtain ⟨hww, ht⟩ := ha
    simp only at hww ht ⊢
    have hw := ww hww
    have h0 := ctors_int hww
    obtain ⟨d, ok, e1, e2, hd, hok⟩ := guardP_ok hw h0 ht c
    rw [e1, e2]
    simp only [Option.bind_some, BEq.rfl, Bool.not_true, Bool.false_eq_true, if_false, if_true]
    rw [same_clause (d := 11) (by decide) hd]
    simp only [Option.bind_some, Bool.not_true, Bool.false_eq_true, if_false]
    refine Ret.ite (fun _ => .some rfl) (fun hk => ?_)
    rw [Bool.not_eq_false'] at hk
    obtain ⟨hc, hdc, hdg, hcase⟩ := hok hk
    obtain ⟨vs, hvs⟩ := values_ok hww ht more (by omega)
    rw [hvs]
    simp only [Option.bind_some]
    refine Ret.ctl (forL_rule vs.1 (fun _ _ => True) (fun _ => False) (fun _ => True) trivial (fun k u s _ _ => ?_) (fun _ _ => trivial)) (fun r hr => hr.elim) (fun _ _ => ?_)
    · have hsame : Ret (m_impl_RunClauses NN w t [c] u) (fun r => DB r.2.1 ∧ m_impl_RunClauses NN w t [d] u = some r) := by
        rcases hcase with ⟨_, rfl⟩ | ⟨hv, hu, hl, hp⟩
        · have : Ret (m_impl_RunClauses NN w t [d] u) (fun r => DB r.2.1) := runV (Q := fun r => DB r.2.1) hw ht hc u (fun b hb => by cases hb) fun hg => by
            obtain ⟨b, h1, _, e⟩ := runD hw ht hc hdg hg
            rw [e]
            refine .some ?_
            split
            · exact h1
            · exact fun b hb => by cases hb
          obtain ⟨r, e, h⟩ := this
          exact ⟨r, e, h, e⟩
        · unfold m_impl_RunClauses
          rw [implClauses_ok hw ht [c], clauses1 hc, implClauses_ok hw ht [d], clauses1 hdc]
          simp only [Option.bind_some, Bool.not_true, Bool.false_eq_true, if_false]
          obtain ⟨vok, ev, hvok⟩ := valueOk_ok hw ht u
          rw [ev]
          simp only [Option.bind_some]
          cases vok with
          | false => exact .some ⟨fun b hb => (by cases hb), rfl⟩
          | true =>
            have hg := hvok rfl
            simp only [Bool.not_true, Bool.false_eq_true, if_false]
            obtain ⟨b, b1, b2, b3⟩ := runC hw ht hv hg
            obtain ⟨b', c1, c2, c3⟩ := runD hw ht hdc hdg hg
            have hgd : goodB w 10 t d.pat = true := by
              simp only [clauseB, Bool.and_eq_true] at hdc
              exact (valid_good hdc.1).1
            have hld : leftG 10 c = true := hl
            simp only [leftG, Bool.and_eq_true, decide_eq_true_eq] at hld
            have hmd : matchD 10 d.pat u = filt c.guard.var (loG c.guard) (hiG c.guard) (matchD 10 c.pat u) := by
              rw [← (mono_all 10 t d.pat hgd).2.2.2 u, hp]
              exact (put_match h0 c.guard.var (loG c.guard) (hiG c.guard) 10 t c.pat hv.g hv.l hv.i hv.h hu).1 hld.1 u
            rw [b3, c3, hmd]
            simp only [Option.bind_some]
            cases em : matchD 10 c.pat u with
            | none =>
              refine .some ⟨fun b hb => ?_, rfl⟩
              cases hb
            | some l =>
              simp only [filt, Option.bind_some, Option.isSome_some, Bool.true_and, Option.elim_some]
              by_cases hin : inR c.guard.var (loG c.guard) (hiG c.guard) l = true
              case neg =>
                have hin' : inR c.guard.var (loG c.guard) (hiG c.guard) l = false := by simpa using hin
                simp only [hin', Bool.false_eq_true, if_false, Option.isSome_none]
                refine .some ⟨fun b hb => ?_, rfl⟩
                cases hb
              case pos =>
                simp only [hin, if_true, Option.isSome_some]
                have hbb : b' = b := by
                  have hmc := (match_ok hw 10 NN t c.pat u 10 ht hv.g hg (by decide) (by have := hv.n; omega)).mono fun r hr => hr.2
                  have hdn : cntP d.pat ≤ 1000 := by
                    simp only [clauseB, Bool.and_eq_true] at hdc
                    have := (valid_good hdc.1).2.1
                    omega
                  have hmd' := (match_ok hw 10 NN t d.pat u 10 ht hgd hg (by decide) hdn).mono fun r hr => hr.2
                  have hx : matchD 10 d.pat u = matchD 10 c.pat u := by
                    rw [hmd, em]
                    simp [filt, hin]
                  rw [hx] at hmd'
                  have := matched_eq hmd' hmc
                  rw [c2, b2] at this
                  simpa [hx] using this
                subst hbb
                exact .some ⟨b1, rfl⟩
      obtain ⟨r, f1, f2, f3⟩ := hsame
      rw [f1, f3]
      simp only [Option.bind_some]
      rw [if_neg (by simp [ieq]), ptBinds_refl f2]
      exact .some trivial
    · rw [if_pos (by rw [hdg]; rfl), implClauseV_ok hw ht, hdc]
      exact .some rfl
  obtain ⟨_, e, rfl⟩ := hr
  exact e
end Go.Proofs.YtmkamncbkkahjaaGreat
