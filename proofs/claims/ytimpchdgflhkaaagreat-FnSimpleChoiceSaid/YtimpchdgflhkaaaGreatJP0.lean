import Derived.KernelRfl
import Derived.Test.YtimpchdgflhkaaaGreatJE1
import Derived.Test.YtimpchdgflhkaaaGreatJMir
set_option linter.unusedSimpArgs false
set_option linter.unusedVariables false
namespace Go.Proofs.YtimpchdgflhkaaaGreat
open Go Go.RowKit
def Ret {α : Type} (x : Option α) (Q : α → Prop) : Prop := ∃ a, x = some a ∧ Q a
theorem Ret.some {α : Type} {a : α} {Q : α → Prop} (h : Q a) : Ret (some a) Q := ⟨a, rfl, h⟩
theorem Ret.bind {α β : Type} {x : Option α} {f : α → Option β} {P : α → Prop} {Q : β → Prop} (hx : Ret x P) (hf : ∀ a, P a → Ret (f a) Q) : Ret (x.bind f) Q := by
  obtain ⟨a, rfl, ha⟩ := hx
  exact hf a ha
theorem Ret.bindE {α β : Type} {x : Option α} {f : α → Option β} {a : α} {Q : β → Prop} (hx : x = Option.some a) (hf : Ret (f a) Q) : Ret (x.bind f) Q := by
  subst hx
  exact hf
theorem Ret.mono {α : Type} {x : Option α} {P Q : α → Prop} (h : ∀ a, P a → Q a) (hx : Ret x P) : Ret x Q := by
  obtain ⟨a, e, ha⟩ := hx
  exact ⟨a, e, h a ha⟩
theorem Ret.ite {α : Type} {b : Bool} {x y : Option α} {Q : α → Prop} (h1 : b = true → Ret x Q) (h2 : b = false → Ret y Q) : Ret (if b = true then x else y) Q := by
  cases b
  · exact h2 rfl
  · exact h1 rfl
theorem Ret.of {α : Type} {x : Option α} {a : α} {Q : α → Prop} (h : x = Option.some a) (hq : Q a) : Ret x Q := ⟨a, h, hq⟩
theorem Ret.get {α : Type} {x : Option α} {Q : α → Prop} {a : α} (h : Ret x Q) (e : x = Option.some a) : Q a := by
  obtain ⟨b, e2, hb⟩ := h
  rw [e] at e2
  cases e2
  exact hb
def CtlQ {ρ σ : Type} (R : ρ → Prop) (B : σ → Prop) : Ctl ρ σ → Prop
  | .ret r => R r
  | .brk s => B s
  | .go _ => False
def RndQ {ρ σ : Type} (R : ρ → Prop) (B G : σ → Prop) : Ctl ρ σ → Prop
  | .ret r => R r
  | .brk s => B s
  | .go s => G s
@[simp] theorem rndQ_ret {ρ σ : Type} (R : ρ → Prop) (B G : σ → Prop) (r : ρ) : RndQ R B G (.ret r) = R r := rfl
@[simp] theorem rndQ_brk {ρ σ : Type} (R : ρ → Prop) (B G : σ → Prop) (s : σ) : RndQ R B G (.brk s) = B s := rfl
@[simp] theorem rndQ_go {ρ σ : Type} (R : ρ → Prop) (B G : σ → Prop) (s : σ) : RndQ R B G (.go s) = G s := rfl
@[simp] theorem ctlQ_ret {ρ σ : Type} (R : ρ → Prop) (B : σ → Prop) (r : ρ) : CtlQ R B (.ret r) = R r := rfl
@[simp] theorem ctlQ_brk {ρ σ : Type} (R : ρ → Prop) (B : σ → Prop) (s : σ) : CtlQ R B (.brk s) = B s := rfl
theorem forL_rule {α σ ρ : Type} {f : Nat → α → σ → Option (Ctl ρ σ)} (xs : List α) {s0 : σ} (I : Nat → σ → Prop) (R : ρ → Prop) (B : σ → Prop)
    (h0 : I 0 s0) (step : ∀ k x s, xs[k]? = some x → I k s → Ret (f k x s) (RndQ R B (I (k + 1)))) (stop : ∀ s, I xs.length s → B s) :
    Ret (forL f 0 xs s0) (CtlQ R B) := by
  have key : ∀ (ys : List α) (k : Nat) (s : σ), xs.drop k = ys → k ≤ xs.length → I k s → Ret (forL f k ys s) (CtlQ R B) := by
    intro ys
    induction ys with
    | nil =>
      intro k s hd hk hs
      have : k = xs.length := by
        have := congrArg List.length hd
        simp at this
        omega
      subst this
      exact .some (stop s hs)
    | cons y ys ih =>
      intro k s hd hk hs
      have hlt : k < xs.length := by
        have := congrArg List.length hd
        simp at this
        omega
      rw [List.drop_eq_getElem_cons hlt] at hd
      injection hd with h1 h2
      have hx : xs[k]? = some y := by rw [List.getElem?_eq_getElem hlt, h1]
      obtain ⟨o, ho, hq⟩ := step k y s hx hs
      unfold forL
      rw [ho]
      cases o with
      | ret r => exact .some hq
      | brk s' => exact .some hq
      | go s' => exact ih (k + 1) s' h2 hlt hq
  exact key xs 0 s0 rfl (Nat.zero_le _) h0
theorem whileL_rule {σ ρ : Type} {f : σ → Option (Ctl ρ σ)} {s0 : σ} (I : σ → Prop) (μ : σ → Nat) (R : ρ → Prop) (B : σ → Prop) (h0 : I s0)
    (step : ∀ s, I s → Ret (f s) (RndQ R B (fun s' => I s' ∧ μ s' < μ s))) : ∀ n, μ s0 < n → Ret (whileL f n s0) (CtlQ R B) := by
  have key : ∀ n s, I s → μ s < n → Ret (whileL f n s) (CtlQ R B) := by
    intro n
    induction n with
    | zero => intro s _ h; omega
    | succ n ih =>
      intro s hs hn
      obtain ⟨o, ho, hq⟩ := step s hs
      unfold whileL
      rw [ho]
      cases o with
      | ret r => exact .some hq
      | brk s' => exact .some hq
      | go s' => exact ih s' hq.1 (by have := hq.2; omega)
  exact fun n hn => key n s0 h0 hn
theorem Ret.ctl {ρ σ τ : Type} {x : Option (Ctl ρ σ)} {g : Ctl ρ σ → Option τ} {R : ρ → Prop} {B : σ → Prop} {Q : τ → Prop} (h : Ret x (CtlQ R B)) (hr : ∀ r, R r → Ret (g (.ret r)) Q) (hb : ∀ s, B s → Ret (g (.brk s)) Q) : Ret (x.bind g) Q := by
  obtain ⟨o, rfl, ho⟩ := h
  cases o with
  | ret r => exact hr r ho
  | brk s => exact hb s ho
  | go s => exact ho.elim
theorem app_ok {α : Type} {xs ys : List α} (h : xs.length + ys.length ≤ rowLimit) : app xs ys = some (xs ++ ys) := by simp [app, h]
theorem idx_ok {α : Type} {xs : List α} {i : Nat} {x : α} (h : xs[i]? = some x) : idx xs (i : Int) = some x := by simp [idx, h]
theorem idx_okI {α : Type} {xs : List α} {i : Int} {x : α} (h0 : 0 ≤ i) (h : xs[i.toNat]? = some x) : idx xs i = some x := by simp [idx, h, h0]
theorem idx_lt_ok {α : Type} {xs : List α} {i : Int} (h0 : 0 ≤ i) (h : i < xs.length) : ∃ x, idx xs i = some x ∧ x ∈ xs := by
  have hl : i.toNat < xs.length := by omega
  exact ⟨xs[i.toNat], by simp [idx, h0, hl], List.getElem_mem hl⟩
theorem chk_ok {b : Bool} (h : b = true) : chk b = some () := by simp [chk, h]
theorem ieq_true {a b : Int} : (ieq a b = true) = (a = b) := by simp [ieq]
theorem ieq_false {a b : Int} : (ieq a b = false) = (a ≠ b) := by simp [ieq]
theorem ilt_true {a b : Int} : (ilt a b = true) = (a < b) := by simp [ilt]
theorem ilt_false {a b : Int} : (ilt a b = false) = (b ≤ a) := by simp [ilt]
theorem ile_true {a b : Int} : (ile a b = true) = (a ≤ b) := by simp [ile]
theorem ile_false {a b : Int} : (ile a b = false) = (b < a) := by simp [ile]
theorem wadd_ok {a b : Int} (h1 : -9223372036854775808 ≤ a + b) (h2 : a + b ≤ 9223372036854775807) : wadd .i64 a b = a + b := by unfold wadd; exact wrap64 h1 h2
theorem wsub_ok {a b : Int} (h1 : -9223372036854775808 ≤ a - b) (h2 : a - b ≤ 9223372036854775807) : wsub .i64 a b = a - b := by unfold wsub; exact wrap64 h1 h2
theorem wmul_ok {a b : Int} (h1 : -9223372036854775808 ≤ a * b) (h2 : a * b ≤ 9223372036854775807) : wmul .i64 a b = a * b := by unfold wmul; exact wrap64 h1 h2
theorem wcv_ok {a : Int} (h1 : -9223372036854775808 ≤ a) (h2 : a ≤ 9223372036854775807) : wcv .i64 a = a := by unfold wcv; exact wrap64 h1 h2
theorem wquo_ok {a b : Int} (h1 : -9223372036854775808 ≤ a.tdiv b) (h2 : a.tdiv b ≤ 9223372036854775807) : wquo .i64 a b = a.tdiv b := by unfold wquo; exact wrap64 h1 h2
end Go.Proofs.YtimpchdgflhkaaaGreat
namespace Go.Proofs.YtimpchdgflhkaaaGreat
open Go Go.RowKit
abbrev NN : Nat := 400
instance : DecidableEq GType := fun a b => decidable_of_iff (a.data = b.data ∧ a.index = b.index) ⟨fun h => by cases a; cases b; simp at h; simp [h], fun h => by subst h; simp⟩
def by_ (l : List Nat) : ByteArray := ⟨(l.map UInt8.ofNat).toArray⟩
def tI : GType := ⟨-1, 0⟩
def tD (d i : Int) : GType := ⟨d, i⟩
def w0 : List GData := [⟨by_ [76], [⟨by_ [78, 105, 108], [], 0⟩, ⟨by_ [67, 111, 110, 115], [tI, tD 0 0], 0⟩]⟩]
def w1 : List GData := [⟨by_ [66], [⟨by_ [84, 114, 117], [], 0⟩, ⟨by_ [70, 108, 115], [], 0⟩]⟩, ⟨by_ [84], [⟨by_ [76, 101, 97, 102], [], 0⟩, ⟨by_ [78, 111, 100, 101], [tD 1 0, tD 0 0, tD 1 0], 0⟩]⟩]
def w2 : List GData := [⟨by_ [69], [⟨by_ [78, 117, 109], [tI], 1⟩, ⟨by_ [66, 111, 108], [tD 1 0], 2⟩, ⟨by_ [65, 100, 100], [tD 0 1, tD 0 1], 1⟩, ⟨by_ [73, 102], [tD 0 2, tD 0 (-1), tD 0 (-1)], 0⟩]⟩, ⟨by_ [66], [⟨by_ [84, 114, 117], [], 0⟩, ⟨by_ [70, 108, 115], [], 0⟩]⟩]
def w3 : List GData := [⟨by_ [79], [⟨by_ [78, 111, 110], [], 0⟩, ⟨by_ [83, 111, 109], [tI], 0⟩]⟩, ⟨by_ [80], [⟨by_ [80, 97, 105, 114], [tD 0 0, tD 0 0], 0⟩]⟩]
def w4 : List GData := [⟨by_ [86], [⟨by_ [69, 110, 100], [], 1⟩, ⟨by_ [83, 111, 109, 101], [tI, tD 0 1], 2⟩, ⟨by_ [84, 119, 111], [tD 0 (-1)], 0⟩]⟩]
def w5 : List GData := [⟨by_ [78], [⟨by_ [78, 101, 118, 101, 114], [tD 0 0], 0⟩]⟩, ⟨by_ [66], [⟨by_ [84, 114, 117], [], 0⟩, ⟨by_ [70, 108, 115], [], 0⟩, ⟨by_ [77, 97, 121], [tD 0 0], 0⟩]⟩]
def w6 : List GData := [⟨by_ [83], [⟨by_ [82, 101, 100], [], 0⟩, ⟨by_ [71, 114, 101, 101, 110], [], 0⟩, ⟨by_ [66, 108, 117, 101], [], 0⟩, ⟨by_ [77, 105, 120], [tD 0 0, tD 0 0], 0⟩]⟩]
def worlds : List (List GData) := [w0, w1, w2, w3, w4, w5, w6]
def drawW (i : Nat) : Option (List GData × Bool) := m_spec_l1Texts.bind fun r => (idx r (i : Int)).bind fun x => m_spec_ParseWorld NN x
theorem drawW0 : drawW 0 = some (w0, true) := by kernel_rfl
theorem drawW1 : drawW 1 = some (w1, true) := by kernel_rfl
theorem drawW2 : drawW 2 = some (w2, true) := by kernel_rfl
theorem drawW3 : drawW 3 = some (w3, true) := by kernel_rfl
theorem drawW4 : drawW 4 = some (w4, true) := by kernel_rfl
theorem drawW5 : drawW 5 = some (w5, true) := by kernel_rfl
theorem drawW6 : drawW 6 = some (w6, true) := by kernel_rfl
theorem drawW_ok {i : Nat} (h : i < 7) : ∃ w, drawW i = some (w, true) ∧ w ∈ worlds := by
  match i, h with
  | 0, _ => exact ⟨_, drawW0, by simp [worlds]⟩
  | 1, _ => exact ⟨_, drawW1, by simp [worlds]⟩
  | 2, _ => exact ⟨_, drawW2, by simp [worlds]⟩
  | 3, _ => exact ⟨_, drawW3, by simp [worlds]⟩
  | 4, _ => exact ⟨_, drawW4, by simp [worlds]⟩
  | 5, _ => exact ⟨_, drawW5, by simp [worlds]⟩
  | 6, _ => exact ⟨_, drawW6, by simp [worlds]⟩
def tys (w : List GData) : List GType := tI :: (List.range w.length).flatMap fun (d : Nat) => (List.range 4).map fun (i : Nat) => tD d i
def ctorsP (w : List GData) (t : GType) : List Int := (m_spec_l1Ctors w t).getD []
def argsP (w : List GData) (t : GType) (k : Int) : List GType := (m_spec_l1Args w t k).getD []
def tabP (w : List GData) : List Int := (m_spec_l1Table NN w).getD []
def depP (w : List GData) (t : GType) : Int := (m_spec_l1Depth (tabP w) t).getD 0
def mostP (w : List GData) (t : GType) (k : Int) : Int := (m_spec_l1Most w (tabP w) t k).getD 0
def chkT (w : List GData) (t : GType) : Bool :=
  decide (m_spec_l1Ctors w t = some (ctorsP w t)) && decide (m_impl_ctorsOf w t = some (ctorsP w t)) &&
  (ctorsP w t).all (fun k => decide (m_spec_l1Args w t k = some (argsP w t k)) && decide (m_impl_argTypes w t k = some (argsP w t k)) && (argsP w t k).all (fun a => decide (a ∈ tys w)) && decide ((argsP w t k).length ≤ 3) &&
    decide (m_spec_l1Most w (tabP w) t k = some (mostP w t k)) && decide (0 ≤ mostP w t k) && (decide (mostP w t k = 0) || (argsP w t k).all (fun a => decide (1 ≤ depP w a) && decide (depP w a < mostP w t k)))) &&
  decide (m_impl_typeOk w t = some true) && decide (m_spec_l1Is w t = some true) && decide (m_spec_l1Depth (tabP w) t = some (depP w t)) && decide (0 ≤ depP w t) && decide (depP w t ≤ 4) && decide ((ctorsP w t).length ≤ 4) &&
  (decide (t.data = -1) || decide (depP w t = 0) || (ctorsP w t).any (fun k => decide (mostP w t k = depP w t))) && (decide (t.data ≠ -1) || (decide (t = tI) && decide (depP w t = 1)))
def chkW (w : List GData) : Bool :=
  (tys w).all (chkT w) && decide (m_spec_l1Table NN w = some (tabP w)) && decide (m_impl_WorldValid NN w = some true) && decide (m_spec_WorldValid NN w = some true) && decide (0 < w.length) && decide (w.length ≤ 2)
theorem chkWorlds : worlds.all chkW = true := by kernel_rfl
structure WT (w : List GData) (t : GType) : Prop where
  c1 : m_spec_l1Ctors w t = some (ctorsP w t)
  c2 : m_impl_ctorsOf w t = some (ctorsP w t)
  a1 : ∀ k ∈ ctorsP w t, m_spec_l1Args w t k = some (argsP w t k)
  a2 : ∀ k ∈ ctorsP w t, m_impl_argTypes w t k = some (argsP w t k)
  at_ : ∀ k ∈ ctorsP w t, ∀ a ∈ argsP w t k, a ∈ tys w
  al : ∀ k ∈ ctorsP w t, (argsP w t k).length ≤ 3
  m1 : ∀ k ∈ ctorsP w t, m_spec_l1Most w (tabP w) t k = some (mostP w t k)
  m0 : ∀ k ∈ ctorsP w t, 0 ≤ mostP w t k
  ma : ∀ k ∈ ctorsP w t, mostP w t k ≠ 0 → ∀ a ∈ argsP w t k, 1 ≤ depP w a ∧ depP w a < mostP w t k
  t1 : m_impl_typeOk w t = some true
  t2 : m_spec_l1Is w t = some true
  d1 : m_spec_l1Depth (tabP w) t = some (depP w t)
  d0 : 0 ≤ depP w t
  d4 : depP w t ≤ 4
  cl : (ctorsP w t).length ≤ 4
  dm : t.data ≠ -1 → depP w t ≠ 0 → ∃ k ∈ ctorsP w t, mostP w t k = depP w t
  ti : t.data = -1 → t = tI ∧ depP w t = 1
structure WW (w : List GData) : Prop where
  ty : ∀ t ∈ tys w, WT w t
  tab : m_spec_l1Table NN w = some (tabP w)
  v1 : m_impl_WorldValid NN w = some true
  v2 : m_spec_WorldValid NN w = some true
  pos : 0 < w.length
  le : w.length ≤ 2
theorem chkT_wt {w : List GData} {t : GType} (h : chkT w t = true) : WT w t := by
  simp only [chkT, Bool.and_eq_true, Bool.or_eq_true, decide_eq_true_eq, List.all_eq_true, List.any_eq_true] at h
  obtain ⟨⟨⟨⟨⟨⟨⟨⟨⟨⟨h1, h2⟩, h3⟩, h4⟩, h5⟩, h6⟩, h7⟩, h8⟩, h9⟩, h10⟩, h11⟩ := h
  have hk : ∀ k ∈ ctorsP w t, _ := h3
  refine ⟨h1, h2, fun k hk => (h3 k hk).1.1.1.1.1.1, fun k hk => (h3 k hk).1.1.1.1.1.2, fun k hk => (h3 k hk).1.1.1.1.2, fun k hk => (h3 k hk).1.1.1.2, fun k hk => (h3 k hk).1.1.2, fun k hk => (h3 k hk).1.2, fun k hk hm a ha => ?_, h4, h5, h6, h7, h8, h9, fun hd h0 => ?_, fun hd => ?_⟩
  · rcases (h3 k hk).2 with h | h
    · exact absurd h hm
    · exact h a ha
  · rcases h10 with (h | h) | h
    · exact absurd h hd
    · exact absurd h h0
    · exact h
  · rcases h11 with h | h
    · exact absurd hd h
    · exact h
theorem ww {w : List GData} (h : w ∈ worlds) : WW w := by
  have h := List.all_eq_true.1 chkWorlds w h
  simp only [chkW, Bool.and_eq_true, decide_eq_true_eq, List.all_eq_true] at h
  obtain ⟨⟨⟨⟨⟨h1, h2⟩, h3⟩, h4⟩, h5⟩, h6⟩ := h
  exact ⟨fun t ht => chkT_wt (h1 t ht), h2, h3, h4, h5, h6⟩
end Go.Proofs.YtimpchdgflhkaaaGreat
namespace Go.Proofs.YtimpchdgflhkaaaGreat
open Go Go.RowKit
instance : DecidableEq GVarType := fun a b => decidable_of_iff (a.var = b.var ∧ a.typ = b.typ) ⟨fun h => by cases a; cases b; simp at h; simp [h], fun h => by subst h; simp⟩
theorem has_ok (l : List Int) (x : Int) : m_spec_l1Has l x = some (decide (x ∈ l)) := by
  have h : Ret (m_spec_l1Has l x) (fun b => b = decide (x ∈ l)) := by
    unfold m_spec_l1Has
    refine Ret.ctl (forL_rule l (fun k _ => ∀ j, j < k → l[j]? ≠ some x) (fun r => r = true ∧ x ∈ l) (fun _ => x ∉ l) (fun j hj => by omega) (fun k y s hy hI => ?_) (fun s hI => ?_)) (fun r hr => ?_) (fun s hs => ?_)
    · refine Ret.ite (fun h => ?_) (fun h => ?_)
      · rw [ieq_true] at h
        exact .some ⟨rfl, h ▸ List.mem_of_getElem? hy⟩
      · rw [ieq_false] at h
        refine .some (fun j hj => ?_)
        by_cases hjk : j = k
        · subst hjk
          rw [hy]
          simpa using h
        · exact hI j (by omega)
    · intro hm
      obtain ⟨j, hj⟩ := List.mem_iff_getElem?.1 hm
      exact hI j ((List.getElem?_eq_some_iff.1 hj).1) hj
    · obtain ⟨rfl, hx⟩ := hr
      exact .some (by simp [hx])
    · exact .some (by simp [hs])
  obtain ⟨b, hb, rfl⟩ := h
  exact hb
theorem contains_int_ok (l : List Int) (x : Int) : m_slices_Contains_int l x = some (decide (x ∈ l)) := by
  have h : Ret (m_slices_Contains_int l x) (fun b => b = decide (x ∈ l)) := by
    unfold m_slices_Contains_int
    refine Ret.bind (P := fun r => (0 ≤ r ∧ x ∈ l) ∨ (r = -1 ∧ x ∉ l)) ?_ (fun a ha => ?_)
    · unfold m_slices_Index_int
      refine Ret.ctl (forL_rule l (fun k _ => ∀ j, j < k → l[j]? ≠ some x) (fun r => 0 ≤ r ∧ x ∈ l) (fun _ => x ∉ l) (fun j hj => by omega) (fun k y s hy hI => ?_) (fun s hI => ?_)) (fun r hr => ?_) (fun s hs => ?_)
      · refine Ret.ite (fun h => ?_) (fun h => ?_)
        · rw [ieq_true] at h
          exact .some ⟨by omega, h ▸ List.mem_of_getElem? hy⟩
        · rw [ieq_false] at h
          refine .some (fun j hj => ?_)
          by_cases hjk : j = k
          · subst hjk
            rw [hy]
            simpa using fun e => h e.symm
          · exact hI j (by omega)
      · intro hm
        obtain ⟨j, hj⟩ := List.mem_iff_getElem?.1 hm
        exact hI j ((List.getElem?_eq_some_iff.1 hj).1) hj
      · exact .some (.inl hr)
      · exact .some (.inr ⟨rfl, hs⟩)
    · rcases ha with ⟨h1, h2⟩ | ⟨rfl, h2⟩
      · exact .some (by simp [ile, h1, h2])
      · exact .some (by simp [ile, h2])
  obtain ⟨b, hb, rfl⟩ := h
  exact hb
theorem index_func {α : Type} (l : List α) (f : α → Option Bool) (g : α → Bool) (hf : ∀ x ∈ l, f x = some (g x)) :
    Ret ((forL (fun (k : Nat) (x : α) (s : Unit) => ((f x).bind fun r => (if r = true then some (Ctl.ret (k : Int)) else some (Ctl.go ())))) 0 l ()).bind fun (o : Ctl Int Unit) => match o with
      | .ret r => some r
      | .go _ => none
      | .brk _ => some (-1)) (fun i => (∃ k x, i = ((k : Nat) : Int) ∧ l[k]? = some x ∧ g x = true) ∨ (i = -1 ∧ ∀ x ∈ l, g x = false)) := by
  refine Ret.ctl (forL_rule l (fun k _ => ∀ j x, j < k → l[j]? = some x → g x = false) (fun i => ∃ k x, i = ((k : Nat) : Int) ∧ l[k]? = some x ∧ g x = true) (fun _ => ∀ x ∈ l, g x = false) (fun j x hj => by omega) (fun k y s hy hI => ?_) (fun s hI => ?_)) (fun r hr => ?_) (fun s hs => ?_)
  · rw [hf y (List.mem_of_getElem? hy)]
    show Ret (if g y = true then _ else _) _
    refine Ret.ite (fun h => ?_) (fun h => ?_)
    · exact .some ⟨k, y, rfl, hy, h⟩
    · refine .some (fun j x hj hx => ?_)
      by_cases hjk : j = k
      · subst hjk
        rw [hy] at hx
        cases hx
        exact h
      · exact hI j x (by omega) hx
  · intro x hm
    obtain ⟨j, hj⟩ := List.mem_iff_getElem?.1 hm
    exact hI j x ((List.getElem?_eq_some_iff.1 hj).1) hj
  · exact .some (.inl hr)
  · exact .some (.inr ⟨rfl, hs⟩)
theorem any_of {α : Type} {l : List α} {g : α → Bool} {x : Option Int} (h : Ret x (fun i => (∃ k x, i = ((k : Nat) : Int) ∧ l[k]? = some x ∧ g x = true) ∨ (i = -1 ∧ ∀ x ∈ l, g x = false))) : (x.bind fun r => some (ile 0 r)) = some (l.any g) := by
  obtain ⟨i, rfl, h⟩ := h
  rcases h with ⟨k, x, rfl, h2, h3⟩ | ⟨rfl, h2⟩
  · have : l.any g = true := List.any_eq_true.2 ⟨x, List.mem_of_getElem? h2, h3⟩
    rw [this]
    simp [ile]
  · have : l.any g = false := by simpa using h2
    rw [this]
    simp [ile]
theorem containsF_Clause (l : List GClause) (f : GClause → Option Bool) (g : GClause → Bool) (hf : ∀ x ∈ l, f x = some (g x)) : m_slices_ContainsFunc_Clause l f = some (l.any g) := any_of (index_func l f g hf)
theorem containsF_Pattern (l : List GPattern) (f : GPattern → Option Bool) (g : GPattern → Bool) (hf : ∀ x ∈ l, f x = some (g x)) : m_slices_ContainsFunc_Pattern l f = some (l.any g) := any_of (index_func l f g hf)
theorem containsF_VarType (l : List GVarType) (f : GVarType → Option Bool) (g : GVarType → Bool) (hf : ∀ x ∈ l, f x = some (g x)) : m_slices_ContainsFunc_VarType l f = some (l.any g) := any_of (index_func l f g hf)
theorem eqAll_vt (a b : GVarType) : eqAll [ieq a.var b.var, ieq a.typ.data b.typ.data, ieq a.typ.index b.typ.index] = decide (a = b) := by
  obtain ⟨v, d, i⟩ := a
  obtain ⟨v', d', i'⟩ := b
  simp [eqAll, ieq]
theorem contains_vt (l : List GVarType) (x : GVarType) : m_slices_Contains_VarType l x = some (decide (x ∈ l)) := by
  have := any_of (index_func l (fun y => some (decide (x = y))) (fun y => decide (x = y)) (fun _ _ => rfl))
  have e : l.any (fun y => decide (x = y)) = decide (x ∈ l) := by
    rw [Bool.eq_iff_iff]
    simp
  rw [e] at this
  unfold m_slices_Contains_VarType m_slices_Index_VarType
  simp only [eqAll_vt]
  exact this
theorem sameVars_ok (a b : List GVarType) : m_impl_sameVars a b = some (decide (a.length = b.length) && a.all fun v => decide (v ∈ b)) := by
  unfold m_impl_sameVars
  by_cases h : a.length = b.length
  · have h1 : ieq (lenZ a.length) (lenZ b.length) = true := by rw [ieq_true]; simp [lenZ, h]
    rw [if_pos h1, containsF_VarType a _ (fun v => !decide (v ∈ b)) (fun x _ => by unfold m_impl_sameVars_1; rw [contains_vt]; rfl)]
    simp only [Option.bind_some, h, decide_true, Bool.true_and, Option.some.injEq]
    rw [Bool.eq_iff_iff]
    simp
  · have h1 : ¬ ieq (lenZ a.length) (lenZ b.length) = true := by rw [ieq_true]; simp only [lenZ]; omega
    rw [if_neg h1]
    simp [h]
def ownOk (w : List GData) (t : GType) (p : GPattern) : Bool :=
  (if p.op = 2 ∨ p.op = 6 then decide (0 ≤ p.var) && decide (p.var ≤ 5) else decide (p.var = 0)) && (decide (p.op = 3) || (decide (p.n = 0) && decide (p.m = 0))) && (decide (p.op = 4) || decide (p.ctor = 0)) &&
  (decide (p.op = 1 ∨ p.op = 2 ∨ p.op = 5 ∨ p.op = 6) || (decide (p.op = 3) && decide (t.data = -1) && decide (0 ≤ p.n) && decide (p.n ≤ p.m) && decide (p.m ≤ 9)) || (decide (p.op = 4) && decide (p.ctor ∈ ctorsP w t)))
def kidsT (w : List GData) (t : GType) (p : GPattern) : List GType := if p.op = 4 then argsP w t p.ctor else if p.op = 5 then [t, t] else if p.op = 6 then [t] else []
def nodeOk (w : List GData) (t : GType) (p : GPattern) : Bool := ownOk w t p && decide (p.kids.length = (kidsT w t p).length)
theorem within_ok (a b c : Int) : m_impl_within a b c = some (decide (b ≤ a) && decide (a ≤ c)) := by
  unfold m_impl_within
  by_cases h : b ≤ a <;> simp [ile, h]
theorem own_ok {w : List GData} {t : GType} (hw : WT w t) (p : GPattern) : m_spec_l3Own w t p = some (ownOk w t p) := by
  obtain ⟨op, ctor, n, m, v, kids⟩ := p
  unfold m_spec_l3Own ownOk
  simp only [hw.c1, Option.bind_some, has_ok]
  by_cases h1 : op = 1
  · subst h1; simp [ieq, ilt, ile]; (repeat' split) <;> simp_all
  by_cases h2 : op = 2
  · subst h2; simp [ieq, ilt, ile]; (repeat' split) <;> simp_all <;> omega
  by_cases h3 : op = 3
  · subst h3; simp [ieq, ilt, ile]; (repeat' split) <;> simp_all <;> (intros; omega)
  by_cases h4 : op = 4
  · subst h4; simp [ieq, ilt, ile]; (repeat' split) <;> simp_all
  by_cases h5 : op = 5
  · subst h5; simp [ieq, ilt, ile]; (repeat' split) <;> simp_all
  by_cases h6 : op = 6
  · subst h6; simp [ieq, ilt, ile]; (repeat' split) <;> simp_all <;> omega
  simp [ieq, ilt, ile, h1, h2, h3, h4, h5, h6]; (repeat' split) <;> simp_all
theorem only_ok (p : GPattern) (a b c : Bool) (k : Int) : m_impl_only p a b c k = some ((a || decide (p.ctor = 0)) && (b || (decide (p.n = 0) && decide (p.m = 0))) && (c || decide (p.var = 0)) && decide ((p.kids.length : Int) = k)) := by
  unfold m_impl_only
  by_cases h1 : p.ctor = 0 <;> by_cases h2 : p.n = 0 <;> by_cases h3 : p.m = 0 <;> by_cases h4 : p.var = 0 <;> cases a <;> cases b <;> cases c <;> simp [ieq, lenZ, h1, h2, h3, h4] <;> exact decide_eq_decide.2 Iff.rfl
theorem isVar_ok (v : Int) : m_impl_isVar v = some (decide (0 ≤ v) && decide (v ≤ 5)) := by
  unfold m_impl_isVar
  rw [within_ok]
  rfl
theorem shape_ok {w : List GData} {t : GType} (hw : WT w t) (p : GPattern) : ∃ ts, m_impl_shape w t p = some (ts, nodeOk w t p) ∧ (nodeOk w t p = true → ts = kidsT w t p) := by
  obtain ⟨op, ctor, n, m, v, kids⟩ := p
  unfold m_impl_shape nodeOk ownOk kidsT
  simp only [hw.c2, Option.bind_some, contains_int_ok, only_ok, isVar_ok]
  by_cases h1 : op = 1
  · subst h1; exact ⟨[], by simp [ieq]; rw [Bool.eq_iff_iff]; simp; grind, by simp⟩
  by_cases h2 : op = 2
  · subst h2; exact ⟨[], by simp [ieq]; split <;> simp <;> grind, by simp⟩
  by_cases h3 : op = 3
  · subst h3; exact ⟨[], by simp [ieq, ile]; (repeat' split) <;> simp <;> grind, by simp⟩
  by_cases h4 : op = 4
  · subst h4
    by_cases hc : ctor ∈ ctorsP w t
    · refine ⟨argsP w t ctor, ?_, by simp⟩
      simp [ieq, hc, hw.a2 ctor hc, lenZ]
      grind
    · exact ⟨[], by simp [ieq, hc], by simp [hc]⟩
  by_cases h5 : op = 5
  · subst h5; exact ⟨[t, t], by simp [ieq]; grind, by simp⟩
  by_cases h6 : op = 6
  · subst h6; exact ⟨[t], by simp [ieq]; split <;> simp <;> grind, by simp⟩
  exact ⟨[], by simp [ieq, h1, h2, h3, h4, h5, h6], by simp [h1, h2, h3, h4, h5, h6]⟩
theorem kids_ok (op : Int) : m_spec_l3Kids op = some (if op = 5 then 2 else if op = 6 then 1 else if op = 4 then -1 else 0) := by
  unfold m_spec_l3Kids
  by_cases h1 : op = 5 <;> by_cases h2 : op = 6 <;> by_cases h3 : op = 4 <;> simp [ieq, h1, h2, h3]
theorem types_ok {w : List GData} {t : GType} (hw : WT w t) (p : GPattern) (h : p.op = 4 → p.ctor ∈ ctorsP w t) {n : Nat} (hn : 4 ≤ n) : m_spec_l3Types n w t p = some (kidsT w t p) := by
  obtain ⟨m, rfl⟩ : ∃ m, n = m + 4 := ⟨n - 4, by omega⟩
  unfold m_spec_l3Types kidsT
  by_cases h4 : p.op = 4
  · simp [ieq, h4, hw.a1 p.ctor (h h4)]
  · have w1 : wadd .i64 0 1 = 1 := rfl
    have w2 : wadd .i64 1 1 = 2 := rfl
    by_cases h5 : p.op = 5
    · simp [ieq, h5, whileL, kids_ok, ilt, app, w1, w2, rowLimit]
    · by_cases h6 : p.op = 6
      · simp [ieq, h6, whileL, kids_ok, ilt, app, w1, w2, rowLimit]
      · simp [ieq, h4, h5, h6, whileL, kids_ok, ilt]
def goodB (w : List GData) : Nat → GType → GPattern → Bool
  | 0, _, _ => false
  | d + 1, t, p => nodeOk w t p && ((kidsT w t p).zip p.kids).all fun x => goodB w d x.1 x.2
def ownV (t : GType) (p : GPattern) : List GVarType := if p.op = 2 ∨ p.op = 6 then [⟨p.var, t⟩] else []
def varsD (w : List GData) : Nat → GType → GPattern → List GVarType
  | 0, _, _ => []
  | d + 1, t, p => ownV t p ++ (((kidsT w t p).zip p.kids).take (if p.op = 5 then 1 else p.kids.length)).flatMap fun x => varsD w d x.1 x.2
def distinct (l : List GVarType) : Bool := decide (l.map (·.var)).Nodup
def alikeB (a b : List GVarType) : Bool := decide (a.length = b.length) && a.all fun v => decide (v ∈ b)
def kv (w : List GData) (d : Nat) (t : GType) (p : GPattern) (i : Nat) : List GVarType := ((kidsT w t p).zip p.kids)[i]?.elim [] fun x => varsD w d x.1 x.2
def linD (w : List GData) : Nat → GType → GPattern → Bool
  | 0, _, _ => true
  | d + 1, t, p => (((kidsT w t p).zip p.kids).all fun x => linD w d x.1 x.2) && if p.op = 5 then alikeB (kv w d t p 0) (kv w d t p 1) else distinct (varsD w (d + 1) t p)
theorem good_node {w : List GData} {d : Nat} {t : GType} {p : GPattern} (h : goodB w d t p = true) : nodeOk w t p = true := by
  cases d with
  | zero => cases h
  | succ d => simp only [goodB, Bool.and_eq_true] at h; exact h.1
theorem node_own {w : List GData} {t : GType} {p : GPattern} (h : nodeOk w t p = true) : ownOk w t p = true ∧ p.kids.length = (kidsT w t p).length := by
  simp only [nodeOk, Bool.and_eq_true, decide_eq_true_eq] at h
  exact h
theorem own_ctor {w : List GData} {t : GType} {p : GPattern} (h : ownOk w t p = true) : p.op = 4 → p.ctor ∈ ctorsP w t := fun h4 => by
  simp [ownOk, h4] at h
  exact h.2
theorem kidsT_tys {w : List GData} {t : GType} (hw : WT w t) (ht : t ∈ tys w) {p : GPattern} (h : ownOk w t p = true) : ∀ a ∈ kidsT w t p, a ∈ tys w := fun a ha => by
  unfold kidsT at ha
  split at ha
  · rename_i h4; exact hw.at_ _ (own_ctor h h4) a ha
  · split at ha
    · simp at ha; rw [ha]; exact ht
    · split at ha
      · simp at ha; rw [ha]; exact ht
      · simp at ha
theorem kidsT_len {w : List GData} {t : GType} (hw : WT w t) {p : GPattern} (h : ownOk w t p = true) : (kidsT w t p).length ≤ 3 := by
  unfold kidsT
  split
  · rename_i h4; exact hw.al _ (own_ctor h h4)
  · split
    · simp
    · split <;> simp
theorem zip_get {α β : Type} {l : List α} {m : List β} {k : Nat} {a : α} {b : β} (h1 : l[k]? = some a) (h2 : m[k]? = some b) : (l.zip m)[k]? = some (a, b) := by
  rw [List.getElem?_zip_eq_some]; exact ⟨h1, h2⟩
theorem good_kid {w : List GData} {d : Nat} {t : GType} {p : GPattern} (h : goodB w (d + 1) t p = true) {k : Nat} {a : GType} {q : GPattern} (h1 : (kidsT w t p)[k]? = some a) (h2 : p.kids[k]? = some q) : goodB w d a q = true := by
  simp only [goodB, Bool.and_eq_true, List.all_eq_true] at h
  exact h.2 (a, q) (List.mem_of_getElem? (zip_get h1 h2))
theorem specShape_ok {w : List GData} (hw : WW w) : ∀ (d n : Nat) (t : GType) (p : GPattern), t ∈ tys w → d + 4 ≤ n → d ≤ 100 → m_spec_l3Shape n w t p (d : Int) = some (goodB w d t p) := by
  intro d
  induction d with
  | zero =>
    intro n t p ht hn hd
    obtain ⟨m, rfl⟩ : ∃ m, n = m + 1 := ⟨n - 1, by omega⟩
    simp [m_spec_l3Shape, ilt, goodB]
  | succ d ih =>
    intro n t p ht hn hd
    obtain ⟨m, rfl⟩ : ∃ m, n = m + 1 := ⟨n - 1, by omega⟩
    have hT := hw.ty t ht
    unfold m_spec_l3Shape goodB
    have h1 : ¬ ilt ((d + 1 : Nat) : Int) 1 = true := by rw [ilt_true]; omega
    rw [if_neg h1, own_ok hT]
    simp only [Option.bind_some]
    cases ho : ownOk w t p with
    | false => simp [nodeOk, ho]
    | true =>
      simp only [Bool.not_true, Bool.false_eq_true, if_false]
      rw [types_ok hT p (own_ctor ho) (by omega)]
      simp only [Option.bind_some]
      by_cases hl : p.kids.length = (kidsT w t p).length
      · have h2 : ¬ (!ieq (lenZ p.kids.length) (lenZ (kidsT w t p).length)) = true := by simp [ieq, lenZ, hl]
        rw [if_neg h2]
        have hnode : nodeOk w t p = true := by simp [nodeOk, ho, hl]
        rw [hnode, Bool.true_and]
        have hws : wsub .i64 ((d + 1 : Nat) : Int) 1 = (d : Int) := by
          rw [wsub_ok (by omega) (by omega)]; omega
        have key : Ret ((forL (fun k102 x103 (s96 : Unit) =>
            ((idx p.kids (k102 : Int)).bind fun x111 =>
            ((m_spec_l3Shape m w x103 x111 (wsub .i64 ((d + 1 : Nat) : Int) 1)).bind fun r112 =>
            (if (!r112) = true then
            some (Ctl.ret (false))
            else
            some (Ctl.go ()))))) 0 (kidsT w t p) ())) (CtlQ (fun b => b = false ∧ (((kidsT w t p).zip p.kids).all fun x => goodB w d x.1 x.2) = false) (fun _ => (((kidsT w t p).zip p.kids).all fun x => goodB w d x.1 x.2) = true)) := by
          refine forL_rule (kidsT w t p) (fun k _ => ∀ j a q, j < k → (kidsT w t p)[j]? = some a → p.kids[j]? = some q → goodB w d a q = true) _ _ (fun j a q hj => by omega) (fun k a s ha hI => ?_) (fun s hI => ?_)
          · have hlt : k < p.kids.length := by have := (List.getElem?_eq_some_iff.1 ha).1; omega
            have hq : p.kids[k]? = some p.kids[k] := by simp [hlt]
            rw [idx_ok hq]
            simp only [Option.bind_some]
            rw [hws, ih m a p.kids[k] (kidsT_tys hT ht ho a (List.mem_of_getElem? ha)) (by omega) (by omega)]
            simp only [Option.bind_some]
            cases hg : goodB w d a p.kids[k] with
            | false =>
              refine .some ⟨rfl, ?_⟩
              rw [List.all_eq_false]
              exact ⟨(a, p.kids[k]), List.mem_of_getElem? (zip_get ha hq), by simp [hg]⟩
            | true =>
              refine .some (fun j a' q' hj ha' hq' => ?_)
              by_cases hjk : j = k
              · subst hjk
                rw [ha] at ha'
                rw [hq] at hq'
                cases ha'
                cases hq'
                exact hg
              · exact hI j a' q' (by omega) ha' hq'
          · rw [List.all_eq_true]
            intro x hx
            obtain ⟨j, hj⟩ := List.mem_iff_getElem?.1 hx
            obtain ⟨h3, h4⟩ := List.getElem?_zip_eq_some.1 hj
            exact hI j x.1 x.2 ((List.getElem?_eq_some_iff.1 h3).1) h3 h4
        have := Ret.ctl (Q := fun b => b = (((kidsT w t p).zip p.kids).all fun x => goodB w d x.1 x.2)) key (g := fun (o95 : Ctl Bool Unit) => match o95 with
          | .ret r => some r
          | .go _ => none
          | .brk s106 => some (true)) (fun r hr => .some (by rw [hr.1, hr.2])) (fun s hs => .some (by rw [hs]))
        obtain ⟨b, e, rfl⟩ := this
        exact e
      · have h2 : (!ieq (lenZ p.kids.length) (lenZ (kidsT w t p).length)) = true := by rw [Bool.not_eq_true', ieq_false]; simp only [lenZ]; omega
        rw [if_pos h2]
        simp [nodeOk, hl]
def cntP : GPattern → Nat
  | ⟨_, _, _, _, _, kids⟩ => 1 + cntPs kids
where cntPs : List GPattern → Nat
  | [] => 0
  | p :: l => cntP p + cntPs l
theorem cntP_eq (p : GPattern) : cntP p = 1 + cntP.cntPs p.kids := by cases p; rw [cntP]
theorem cntPs_drop : ∀ (l : List GPattern) (k : Nat) (q : GPattern), l[k]? = some q → cntP.cntPs (l.take (k + 1)) = cntP.cntPs (l.take k) + cntP q
  | [], k, q, h => by simp at h
  | p :: l, 0, q, h => by simp at h; subst h; simp [cntP.cntPs]
  | p :: l, k + 1, q, h => by
    have := cntPs_drop l k q (by simpa using h)
    simp only [List.take_succ_cons, cntP.cntPs]
    omega
theorem cntPs_take_le : ∀ (l : List GPattern) (k : Nat), cntP.cntPs (l.take k) ≤ cntP.cntPs l
  | [], k => by simp
  | p :: l, 0 => by simp [cntP.cntPs]
  | p :: l, k + 1 => by
    have := cntPs_take_le l k
    simp only [List.take_succ_cons, cntP.cntPs]
    omega
theorem cntP_pos (p : GPattern) : 1 ≤ cntP p := by rw [cntP_eq]; omega
theorem specCount_ok : ∀ (n : Nat) (p : GPattern) (most : Nat), most < n → most ≤ 1000 → m_spec_l3Count n p (most : Int) = some ((min (cntP p) (most + 1) : Nat) : Int) := by
  intro n
  induction n with
  | zero => intro p most h; omega
  | succ n ih =>
    intro p most hn hm
    unfold m_spec_l3Count
    have key := forL_rule (ρ := Int) (f := fun k94 x95 (s88 : Int) =>
      (if (ile s88 (most : Int)) = true then
      ((m_spec_l3Count n x95 (wsub .i64 (most : Int) s88)).bind fun r103 =>
      some (Ctl.go (wadd .i64 s88 r103)))
      else
      some (Ctl.brk s88))) p.kids (s0 := 1) (fun k s => ∃ m : Nat, s = (m : Int) ∧ m = min (1 + cntP.cntPs (p.kids.take k)) (most + 1)) (fun _ => False) (fun s => s = ((min (cntP p) (most + 1) : Nat) : Int)) ⟨1, rfl, by simp [cntP.cntPs]⟩ (fun k q s hq hI => ?_) (fun s hI => ?_)
    · have := Ret.ctl (Q := fun b => b = ((min (cntP p) (most + 1) : Nat) : Int)) key (g := fun (o : Ctl Int Int) => match o with
        | .ret r => some r
        | .go _ => none
        | .brk s => some s) (fun r hr => hr.elim) (fun s hs => .some hs)
      obtain ⟨b, e, rfl⟩ := this
      exact e
    · obtain ⟨m, rfl, hm2⟩ := hI
      refine Ret.ite (fun h => ?_) (fun h => ?_)
      · rw [ile_true] at h
        have hle : m ≤ most := by omega
        have hws : wsub .i64 (most : Int) (m : Int) = ((most - m : Nat) : Int) := by rw [wsub_ok (by omega) (by omega)]; omega
        rw [hws, ih q (most - m) (by omega) (by omega)]
        simp only [Option.bind_some]
        rw [wadd_ok (by omega) (by omega)]
        refine .some ⟨m + min (cntP q) (most - m + 1), by push_cast; rfl, ?_⟩
        rw [cntPs_drop p.kids k q hq]
        omega
      · rw [ile_false] at h
        refine .some ?_
        have h1 := cntPs_take_le p.kids k
        have h2 := cntP_eq p
        show (m : Int) = _
        have : m = min (cntP p) (most + 1) := by omega
        rw [this]
    · obtain ⟨m, rfl, hm2⟩ := hI
      rw [List.take_length] at hm2
      have h2 := cntP_eq p
      have : m = min (cntP p) (most + 1) := by omega
      rw [this]
theorem specVars_ok {w : List GData} (hw : WW w) : ∀ (d n : Nat) (t : GType) (p : GPattern) (out : List GVarType), t ∈ tys w → goodB w d t p = true → d + 4 ≤ n → out.length + cntP p ≤ 100000 → m_spec_l3Vars n out w t p = some (out ++ varsD w d t p) ∧ (varsD w d t p).length ≤ cntP p := by
  intro d
  induction d with
  | zero => intro n t p out ht hg; cases hg
  | succ d ih =>
    intro n t p out ht hg hn hout
    obtain ⟨m, rfl⟩ : ∃ m, n = m + 1 := ⟨n - 1, by omega⟩
    have hT := hw.ty t ht
    obtain ⟨ho, hl⟩ := node_own (good_node hg)
    unfold m_spec_l3Vars
    have hfirst : (((if (ieq p.op 2) = true then
        ((app out [(GVarType.mk p.var t)]).bind fun x20 => some (Ctl.brk x20))
        else
        (if (ieq p.op 6) = true then
        ((app out [(GVarType.mk p.var t)]).bind fun x22 => some (Ctl.brk x22))
        else
        some (Ctl.brk out)))) : Option (Ctl (List GVarType) (List GVarType))) = some (Ctl.brk (out ++ ownV t p)) := by
      have ha : app out [(GVarType.mk p.var t)] = some (out ++ [(GVarType.mk p.var t)]) := app_ok (by simp [rowLimit]; omega)
      by_cases h2 : p.op = 2
      · simp [ieq, h2, ha, ownV]
      · by_cases h6 : p.op = 6
        · simp [ieq, h6, ha, ownV]
        · simp [ieq, h2, h6, ownV]
    rw [hfirst]
    simp only [Option.bind_some]
    rw [types_ok hT p (own_ctor ho) (by omega)]
    simp only [Option.bind_some]
    have hcnt := cntP_eq p
    have hown : (ownV t p).length ≤ 1 := by unfold ownV; split <;> simp
    have key := forL_rule (ρ := List GVarType) (f := fun k179 x180 (s173 : List GVarType) =>
      (((if (ieq (k179 : Int) 0) = true then
      some (Ctl.brk ())
      else
      (if (!ieq p.op 5) = true then
      some (Ctl.brk ())
      else
      some (Ctl.ret (Ctl.brk s173))))).bind fun (o190 : Ctl (Ctl (List GVarType) (List GVarType)) (Unit)) => match o190 with
      | .ret r => some r
      | .go _ => none
      | .brk s189 =>
      ((idx p.kids (k179 : Int)).bind fun x201 =>
      ((m_spec_l3Vars m s173 w x180 x201).bind fun r202 =>
      some (Ctl.go r202))))) (kidsT w t p) (s0 := out ++ ownV t p)
      (fun k s => s = out ++ (ownV t p ++ (((kidsT w t p).zip p.kids).take k).flatMap fun x => varsD w d x.1 x.2) ∧ k ≤ (if p.op = 5 then 1 else p.kids.length) ∧ s.length ≤ out.length + 1 + cntP.cntPs (p.kids.take k))
      (fun _ => False) (fun s => s = out ++ varsD w (d + 1) t p ∧ s.length ≤ out.length + cntP p) ⟨by simp, by split <;> omega, by simp; omega⟩ (fun k a s ha hI => ?_) (fun s hI => ?_)
    · have := Ret.ctl (Q := fun b => b = out ++ varsD w (d + 1) t p ∧ b.length ≤ out.length + cntP p) key (g := fun (o : Ctl (List GVarType) (List GVarType)) => match o with
        | .ret r => some r
        | .go _ => none
        | .brk s => some s) (fun r hr => hr.elim) (fun s hs => .some hs)
      obtain ⟨b, e, rfl, h2⟩ := this
      refine ⟨e, ?_⟩
      rw [List.length_append] at h2
      omega
    · obtain ⟨hs, hk, hlen⟩ := hI
      have hlt : k < p.kids.length := by have := (List.getElem?_eq_some_iff.1 ha).1; omega
      have hq : p.kids[k]? = some p.kids[k] := by simp [hlt]
      have h1 := cntPs_drop p.kids k _ hq
      have h2 := cntPs_take_le p.kids (k + 1)
      have hpos := cntP_pos p.kids[k]
      have go : ∀ (hk2 : k + 1 ≤ (if p.op = 5 then 1 else p.kids.length)), Ret ((idx p.kids (k : Int)).bind fun x201 =>
          ((m_spec_l3Vars m s w a x201).bind fun r202 =>
          some (Ctl.go (ρ := List GVarType) r202))) (RndQ (fun _ => False) (fun s => s = out ++ varsD w (d + 1) t p ∧ s.length ≤ out.length + cntP p) (fun s => s = out ++ (ownV t p ++ (((kidsT w t p).zip p.kids).take (k + 1)).flatMap fun x => varsD w d x.1 x.2) ∧ k + 1 ≤ (if p.op = 5 then 1 else p.kids.length) ∧ s.length ≤ out.length + 1 + cntP.cntPs (p.kids.take (k + 1)))) := fun hk2 => by
        rw [idx_ok hq]
        simp only [Option.bind_some]
        obtain ⟨e1, e2⟩ := ih m a p.kids[k] s (kidsT_tys hT ht ho a (List.mem_of_getElem? ha)) (good_kid hg ha hq) (by omega) (by omega)
        rw [e1]
        refine .some ⟨?_, hk2, ?_⟩
        · rw [List.take_add_one, zip_get ha hq, hs]
          simp
        · rw [List.length_append]
          omega
      by_cases h5 : p.op = 5
      · by_cases hk0 : k = 0
        · subst hk0
          have h0 : ieq ((0 : Nat) : Int) 0 = true := rfl
          rw [if_pos h0]
          exact go (by rw [if_pos h5]; omega)
        · rw [if_pos h5] at hk
          have hk1 : k = 1 := by omega
          subst hk1
          have h0 : ¬ ieq ((1 : Nat) : Int) 0 = true := by decide
          have h50 : ¬ (!ieq p.op 5) = true := by simp [ieq, h5]
          rw [if_neg h0, if_neg h50]
          refine .some ⟨?_, ?_⟩
          · rw [hs]
            simp only [varsD, if_pos h5]
          · have := cntPs_take_le p.kids 1
            omega
      · have h50 : (!ieq p.op 5) = true := by simp [ieq, h5]
        have : (if (ieq (k : Int) 0) = true then some (Ctl.brk (ρ := Ctl (List GVarType) (List GVarType)) ()) else (if (!ieq p.op 5) = true then some (Ctl.brk ()) else some (Ctl.ret (Ctl.brk s)))) = some (Ctl.brk ()) := by
          rw [if_pos h50]
          split <;> rfl
        rw [this]
        exact go (by rw [if_neg h5]; omega)
    · obtain ⟨hs, hk, hlen⟩ := hI
      rw [← hl] at hs hk hlen
      by_cases h5 : p.op = 5
      · rw [if_pos h5] at hk
        have : (kidsT w t p).length = 2 := by simp [kidsT, h5]
        omega
      · refine ⟨?_, ?_⟩
        · rw [hs]
          simp only [varsD, if_neg h5]
        · rw [List.take_length] at hlen
          omega
end Go.Proofs.YtimpchdgflhkaaaGreat
namespace Go.Proofs.YtimpchdgflhkaaaGreat
open Go Go.RowKit
theorem find_ok (l : List GVarType) (v : Int) : Ret (m_spec_l3Find l v) (fun i => (∃ k x, i = ((k : Nat) : Int) ∧ l[k]? = some x ∧ x.var = v ∧ ∀ j y, j < k → l[j]? = some y → y.var ≠ v) ∨ (i = -1 ∧ ∀ x ∈ l, x.var ≠ v)) := by
  unfold m_spec_l3Find
  refine Ret.ctl (forL_rule l (fun k _ => ∀ j x, j < k → l[j]? = some x → x.var ≠ v) (fun i => ∃ k x, i = ((k : Nat) : Int) ∧ l[k]? = some x ∧ x.var = v ∧ ∀ j y, j < k → l[j]? = some y → y.var ≠ v) (fun _ => ∀ x ∈ l, x.var ≠ v) (fun j x hj => by omega) (fun k y s hy hI => ?_) (fun s hI => ?_)) (fun r hr => ?_) (fun s hs => ?_)
  · refine Ret.ite (fun h => ?_) (fun h => ?_)
    · rw [ieq_true] at h
      exact .some ⟨k, y, rfl, hy, h, hI⟩
    · rw [ieq_false] at h
      refine .some (fun j x hj hx => ?_)
      by_cases hjk : j = k
      · subst hjk
        rw [hy] at hx
        cases hx
        exact h
      · exact hI j x (by omega) hx
  · intro x hm
    obtain ⟨j, hj⟩ := List.mem_iff_getElem?.1 hm
    exact hI j x ((List.getElem?_eq_some_iff.1 hj).1) hj
  · exact .some (.inl hr)
  · exact .some (.inr ⟨rfl, hs⟩)
theorem distinct_get {l : List GVarType} (h : distinct l = true) {i j : Nat} {x y : GVarType} (hi : l[i]? = some x) (hj : l[j]? = some y) (he : x.var = y.var) : i = j := by
  unfold distinct at h
  have h := of_decide_eq_true h
  have hi' : (l.map (·.var))[i]? = some x.var := by simp [hi]
  have hj' : (l.map (·.var))[j]? = some x.var := by simp [hj, he]
  have hil := (List.getElem?_eq_some_iff.1 hi').1
  exact (List.getElem?_inj hil h).1 (hi'.trans hj'.symm)
theorem distinct_of {l : List GVarType} (h : ∀ (i j : Nat) (x y : GVarType), l[i]? = some x → l[j]? = some y → x.var = y.var → i = j) : distinct l = true := by
  unfold distinct
  refine decide_eq_true (List.pairwise_iff_getElem.2 fun i j hi hj hij he => ?_)
  simp only [List.length_map] at hi hj
  simp only [List.getElem_map] at he
  have := h i j l[i] l[j] (by simp [hi]) (by simp [hj]) he
  omega
theorem alike_ok (a b : List GVarType) (hb : distinct b = true) : m_spec_l3Alike a b = some (alikeB a b) := by
  have h : Ret (m_spec_l3Alike a b) (fun r => r = alikeB a b) := by
    unfold m_spec_l3Alike
    refine Ret.ctl (forL_rule a (fun k _ => ∀ j x, j < k → a[j]? = some x → x ∈ b) (fun r => r = false ∧ ∃ x ∈ a, x ∉ b) (fun _ => ∀ x ∈ a, x ∈ b) (fun j x hj => by omega) (fun k y s hy hI => ?_) (fun s hI => ?_)) (fun r hr => ?_) (fun s hs => ?_)
    · refine Ret.bind (find_ok b y.var) (fun i hi => ?_)
      rcases hi with ⟨q, x, rfl, hx, hv, _⟩ | ⟨rfl, hno⟩
      · have h1 : ¬ ilt ((q : Nat) : Int) 0 = true := by rw [ilt_true]; omega
        rw [if_neg h1, idx_ok hx]
        simp only [Option.bind_some]
        by_cases ht : x.typ = y.typ
        · have hxy : x = y := by cases x; cases y; simp_all
          have h2 : ¬ (!eqAll [ieq x.typ.data y.typ.data, ieq x.typ.index y.typ.index]) = true := by rw [ht]; simp [eqAll, ieq]
          rw [if_neg h2]
          refine .some (fun j z hj hz => ?_)
          by_cases hjk : j = k
          · subst hjk
            rw [hy] at hz
            cases hz
            rw [← hxy]
            exact List.mem_of_getElem? hx
          · exact hI j z (by omega) hz
        · have h2 : (!eqAll [ieq x.typ.data y.typ.data, ieq x.typ.index y.typ.index]) = true := by
            have : ¬ (x.typ.data = y.typ.data ∧ x.typ.index = y.typ.index) := fun e => ht (by cases hx : x.typ; cases hy : y.typ; rw [hx, hy] at e; simp_all)
            simp only [eqAll, ieq, List.all_cons, List.all_nil, id, Bool.and_true, Bool.not_eq_true', Bool.and_eq_false_iff, decide_eq_false_iff_not]
            exact Decidable.not_and_iff_or_not.1 this
          rw [if_pos h2]
          refine .some ⟨rfl, y, List.mem_of_getElem? hy, fun hm => ?_⟩
          obtain ⟨j, hj⟩ := List.mem_iff_getElem?.1 hm
          have := distinct_get hb hx hj hv
          subst this
          rw [hx] at hj
          cases hj
          exact ht rfl
      · have h1 : ilt (-1) 0 = true := rfl
        rw [if_pos h1]
        exact .some ⟨rfl, y, List.mem_of_getElem? hy, fun hm => hno y hm rfl⟩
    · intro x hm
      obtain ⟨j, hj⟩ := List.mem_iff_getElem?.1 hm
      exact hI j x ((List.getElem?_eq_some_iff.1 hj).1) hj
    · obtain ⟨rfl, x, hx, hxb⟩ := hr
      refine .some ?_
      symm
      unfold alikeB
      rw [Bool.and_eq_false_iff]
      right
      rw [List.all_eq_false]
      exact ⟨x, hx, by simpa using hxb⟩
    · refine .some ?_
      unfold alikeB
      have : a.all (fun v => decide (v ∈ b)) = true := by rw [List.all_eq_true]; intro x hx; simpa using hs x hx
      rw [this, Bool.and_true]
      simp only [ieq, lenZ]
      exact decide_eq_decide.2 (by omega)
  obtain ⟨r, e, rfl⟩ := h
  exact e
theorem lin_distinct {w : List GData} : ∀ (d : Nat) (t : GType) (p : GPattern), goodB w d t p = true → linD w d t p = true → distinct (varsD w d t p) = true := by
  intro d
  induction d with
  | zero => intro t p hg; cases hg
  | succ d ih =>
    intro t p hg hl
    simp only [linD, Bool.and_eq_true, List.all_eq_true] at hl
    by_cases h5 : p.op = 5
    · obtain ⟨ho, hlen⟩ := node_own (good_node hg)
      have hk : kidsT w t p = [t, t] := by simp [kidsT, h5]
      rw [hk] at hlen
      simp only [varsD, if_pos h5, hk]
      have hown : ownV t p = [] := by simp [ownV, h5]
      match hkids : p.kids, hlen with
      | [a, b], _ =>
        rw [hkids, hk] at hl
        have h1 := hl.1 (t, a) (by simp)
        have h2 := ih t a (good_kid hg (k := 0) (by rw [hk]; rfl) (by rw [hkids]; rfl)) h1
        simpa [hown] using h2
    · have := hl.2
      rw [if_neg h5] at this
      exact this
theorem kid0 {w : List GData} {t : GType} {p : GPattern} (h5 : p.op = 5) (hl : p.kids.length = (kidsT w t p).length) : ∃ a b, p.kids = [a, b] ∧ kidsT w t p = [t, t] := by
  have hk : kidsT w t p = [t, t] := by simp [kidsT, h5]
  rw [hk] at hl
  match hkids : p.kids, hl with
  | [a, b], _ => exact ⟨a, b, rfl, hk⟩
theorem cnt_kid {p : GPattern} {k : Nat} {q : GPattern} (h : p.kids[k]? = some q) : cntP q < cntP p := by
  have h1 := cntPs_drop p.kids k q h
  have h2 := cntPs_take_le p.kids (k + 1)
  have h3 := cntP_eq p
  omega
theorem specLin_ok {w : List GData} (hw : WW w) : ∀ (d n : Nat) (t : GType) (p : GPattern), t ∈ tys w → goodB w d t p = true → d + 5 ≤ n → cntP p ≤ 1000 → m_spec_l3Linear n w t p = some (linD w d t p) := by
  intro d
  induction d with
  | zero => intro n t p ht hg; cases hg
  | succ d ih =>
    intro n t p ht hg hn hc
    obtain ⟨m, rfl⟩ : ∃ m, n = m + 1 := ⟨n - 1, by omega⟩
    have hT := hw.ty t ht
    obtain ⟨ho, hl⟩ := node_own (good_node hg)
    unfold m_spec_l3Linear
    rw [types_ok hT p (own_ctor ho) (by omega)]
    simp only [Option.bind_some]
    have h : Ret ((forL (fun k79 x80 (s73 : Unit) =>
        ((idx p.kids (k79 : Int)).bind fun x88 =>
        ((m_spec_l3Linear m w x80 x88).bind fun r89 =>
        (if (!r89) = true then
        some (Ctl.ret (false))
        else
        some (Ctl.go ()))))) 0 (kidsT w t p) ())) (CtlQ (fun b => b = false ∧ (((kidsT w t p).zip p.kids).all fun x => linD w d x.1 x.2) = false) (fun _ => (((kidsT w t p).zip p.kids).all fun x => linD w d x.1 x.2) = true)) := by
      refine forL_rule (kidsT w t p) (fun k _ => ∀ j a q, j < k → (kidsT w t p)[j]? = some a → p.kids[j]? = some q → linD w d a q = true) _ _ (fun j a q hj => by omega) (fun k a s ha hI => ?_) (fun s hI => ?_)
      · have hlt : k < p.kids.length := by have := (List.getElem?_eq_some_iff.1 ha).1; omega
        have hq : p.kids[k]? = some p.kids[k] := by simp [hlt]
        rw [idx_ok hq]
        simp only [Option.bind_some]
        rw [ih m a p.kids[k] (kidsT_tys hT ht ho a (List.mem_of_getElem? ha)) (good_kid hg ha hq) (by omega) (by have := cnt_kid hq; omega)]
        simp only [Option.bind_some]
        cases hgl : linD w d a p.kids[k] with
        | false =>
          refine .some ⟨rfl, ?_⟩
          rw [List.all_eq_false]
          exact ⟨(a, p.kids[k]), List.mem_of_getElem? (zip_get ha hq), by simp [hgl]⟩
        | true =>
          refine .some (fun j a' q' hj ha' hq' => ?_)
          by_cases hjk : j = k
          · subst hjk
            rw [ha] at ha'
            rw [hq] at hq'
            cases ha'
            cases hq'
            exact hgl
          · exact hI j a' q' (by omega) ha' hq'
      · rw [List.all_eq_true]
        intro x hx
        obtain ⟨j, hj⟩ := List.mem_iff_getElem?.1 hx
        obtain ⟨h3, h4⟩ := List.getElem?_zip_eq_some.1 hj
        exact hI j x.1 x.2 ((List.getElem?_eq_some_iff.1 h3).1) h3 h4
    obtain ⟨o, e, ho2⟩ := h
    rw [e]
    simp only [Option.bind_some]
    cases o with
    | go s => exact ho2.elim
    | ret r =>
      obtain ⟨rfl, hr⟩ := ho2
      simp only [linD, hr, Bool.false_and]
    | brk s =>
      have hall : (((kidsT w t p).zip p.kids).all fun x => linD w d x.1 x.2) = true := ho2
      simp only [linD, hall, Bool.true_and]
      by_cases h5 : p.op = 5
      · have h50 : ieq p.op 5 = true := by rw [ieq_true]; exact h5
        rw [if_pos h50, if_pos h5]
        obtain ⟨a, b, hkids, hk⟩ := kid0 h5 hl
        have ga := good_kid hg (k := 0) (by rw [hk]; rfl) (by rw [hkids]; rfl)
        have gb := good_kid hg (k := 1) (by rw [hk]; rfl) (by rw [hkids]; rfl)
        have ca := cnt_kid (p := p) (k := 0) (by rw [hkids]; rfl)
        have cb := cnt_kid (p := p) (k := 1) (by rw [hkids]; rfl)
        have k0 : kv w d t p 0 = varsD w d t a := by simp [kv, hkids, hk]
        have k1 : kv w d t p 1 = varsD w d t b := by simp [kv, hkids, hk]
        rw [k0, k1]
        rw [hkids, hk] at hall
        rw [hkids]
        have i0 : idx [a, b] 0 = some a := rfl
        have i1 : idx [a, b] 1 = some b := rfl
        rw [i0, i1]
        simp only [Option.bind_some]
        rw [(specVars_ok hw d m t a [] ht ga (by omega) (by simp; omega)).1, (specVars_ok hw d m t b [] ht gb (by omega) (by simp; omega)).1]
        simp only [Option.bind_some, List.nil_append]
        simp at hall
        rw [alike_ok _ _ (lin_distinct d t b gb hall.2)]
        rfl
      · have h50 : ¬ ieq p.op 5 = true := by rw [ieq_true]; exact h5
        rw [if_neg h50, if_neg h5]
        rw [(specVars_ok hw (d + 1) m t p [] ht hg (by omega) (by simp; omega)).1]
        simp only [Option.bind_some, List.nil_append]
        generalize varsD w (d + 1) t p = l
        have h : Ret ((forL (fun k178 x179 (s172 : Unit) =>
            ((m_spec_l3Find l x179.var).bind fun r186 =>
            (if (!ieq r186 (k178 : Int)) = true then
            some (Ctl.ret (false))
            else
            some (Ctl.go ())))) 0 l ())) (CtlQ (fun b => b = false ∧ distinct l = false) (fun _ => distinct l = true)) := by
          refine forL_rule l (fun k _ => ∀ i j x y, i < k → l[i]? = some x → l[j]? = some y → x.var = y.var → i ≤ j) _ _ (fun i j x y hi => by omega) (fun k a s ha hI => ?_) (fun s hI => ?_)
          · refine Ret.bind (find_ok l a.var) (fun i hi => ?_)
            rcases hi with ⟨q, x, rfl, hx, hv, hfirst⟩ | ⟨rfl, hno⟩
            · by_cases hqk : q = k
              · subst hqk
                have h1 : ¬ (!ieq ((q : Nat) : Int) (q : Int)) = true := by simp [ieq]
                rw [if_neg h1]
                refine .some (fun i j x' y' hi hx' hy' hv' => ?_)
                by_cases hiq : i = q
                · subst hiq
                  rw [ha] at hx'
                  cases hx'
                  rcases Nat.lt_or_ge j i with hji | hji
                  · exact absurd hv'.symm (hfirst j y' hji hy')
                  · exact hji
                · exact hI i j x' y' (by omega) hx' hy' hv'
              · have h1 : (!ieq ((q : Nat) : Int) (k : Int)) = true := by simp [ieq]; omega
                rw [if_pos h1]
                refine .some ⟨rfl, ?_⟩
                cases hd : distinct l with
                | false => rfl
                | true => exact absurd (distinct_get hd hx ha hv) hqk
            · exact absurd rfl (hno a (List.mem_of_getElem? ha))
          · refine distinct_of fun i j x y hx hy hv => ?_
            have := hI i j x y ((List.getElem?_eq_some_iff.1 hx).1) hx hy hv
            have := hI j i y x ((List.getElem?_eq_some_iff.1 hy).1) hy hx hv.symm
            omega
        obtain ⟨o, e, ho3⟩ := h
        rw [e]
        simp only [Option.bind_some]
        cases o with
        | go s => exact ho3.elim
        | ret r =>
          obtain ⟨rfl, hr⟩ := ho3
          rw [hr]
        | brk s =>
          have : distinct l = true := ho3
          rw [this]
end Go.Proofs.YtimpchdgflhkaaaGreat
namespace Go.Proofs.YtimpchdgflhkaaaGreat
open Go Go.RowKit
def validP (w : List GData) (t : GType) (p : GPattern) : Bool := goodB w 10 t p && (decide (cntP p ≤ 60) && linD w 10 t p)
theorem specIs_ok {w : List GData} (hw : WW w) {n : Nat} (hn : 100 ≤ n) (t : GType) (p : GPattern) (ht : t ∈ tys w) : m_spec_l3Is n w t p = some (validP w t p) := by
  unfold m_spec_l3Is validP
  have h1 := specShape_ok hw 10 n t p ht (by omega) (by omega)
  have e10 : ((10 : Nat) : Int) = 10 := rfl
  rw [e10] at h1
  rw [h1]
  simp only [Option.bind_some]
  cases hg : goodB w 10 t p with
  | false => simp
  | true =>
    have h2 := specCount_ok n p 60 (by omega) (by omega)
    have e60 : ((60 : Nat) : Int) = 60 := rfl
    rw [e60] at h2
    rw [h2]
    simp only [Option.bind_some, if_true, Bool.true_and]
    by_cases hc : cntP p ≤ 60
    · have : ile ((min (cntP p) (60 + 1) : Nat) : Int) 60 = true := by rw [ile_true]; omega
      rw [if_pos this, specLin_ok hw 10 n t p ht hg (by omega) (by omega)]
      simp [hc]
    · have : ¬ ile ((min (cntP p) (60 + 1) : Nat) : Int) 60 = true := by rw [ile_true]; omega
      rw [if_neg this]
      simp [hc]
theorem vars_range {w : List GData} : ∀ (d : Nat) (t : GType) (p : GPattern), goodB w d t p = true → ∀ v ∈ varsD w d t p, 0 ≤ v.var ∧ v.var ≤ 5 := by
  intro d
  induction d with
  | zero => intro t p hg; cases hg
  | succ d ih =>
    intro t p hg v hv
    simp only [varsD, List.mem_append, List.mem_flatMap] at hv
    rcases hv with hv | ⟨x, hx, hv⟩
    · obtain ⟨ho, _⟩ := node_own (good_node hg)
      unfold ownV at hv
      split at hv
      · rename_i h
        simp at hv
        subst hv
        simp [ownOk, h] at ho
        exact ho.1.1.1
      · simp at hv
    · have hx := List.mem_of_mem_take hx
      obtain ⟨j, hj⟩ := List.mem_iff_getElem?.1 hx
      obtain ⟨h3, h4⟩ := List.getElem?_zip_eq_some.1 hj
      exact ih x.1 x.2 (good_kid hg h3 h4) v hv
theorem met_ok (l : List GVarType) (hr : ∀ v ∈ l, 0 ≤ v.var ∧ v.var ≤ 5) {R : List GVarType × Bool × Int} :
    Ret (forL (fun k423 (x424 : GVarType) (s417 : (List Bool)) =>
      ((aget 6 s417 x424.var).bind fun x435 =>
      (if x435 = true then
      some (Ctl.ret R)
      else
      ((aset 6 s417 x424.var true).bind fun x437 =>
      some (Ctl.go x437))))) 0 l [false, false, false, false, false, false]) (CtlQ (fun r => r = R ∧ distinct l = false) (fun _ => distinct l = true)) := by
  refine forL_rule l (fun k s => s.length = 6 ∧ (∀ i : Nat, i < 6 → (s[i]? = some true ↔ ∃ (j : Nat) (x : GVarType), j < k ∧ l[j]? = some x ∧ x.var = (i : Int))) ∧ ∀ (i j : Nat) (x y : GVarType), i < k → j < k → l[i]? = some x → l[j]? = some y → x.var = y.var → i = j) _ _ ⟨rfl, fun i hi => ?_, fun i j x y hi => by omega⟩ (fun k a s ha hI => ?_) (fun s hI => ?_)
  · constructor
    · intro h
      match i, hi with
      | 0, _ => simp at h
      | 1, _ => simp at h
      | 2, _ => simp at h
      | 3, _ => simp at h
      | 4, _ => simp at h
      | 5, _ => simp at h
    · rintro ⟨j, x, hj, _⟩; omega
  · obtain ⟨hlen, hmet, hdis⟩ := hI
    obtain ⟨r1, r2⟩ := hr a (List.mem_of_getElem? ha)
    obtain ⟨v, hv⟩ : ∃ v : Nat, a.var = (v : Int) := ⟨a.var.toNat, by omega⟩
    have hv6 : v < 6 := by omega
    have hsv : s[v]? = some s[v] := by simp [hlen, hv6]
    have hget : aget 6 s a.var = some s[v] := by simp only [aget, hlen, if_true, hv]; exact idx_ok hsv
    rw [hget]
    simp only [Option.bind_some]
    cases hb : s[v] with
    | true =>
      rw [hb] at hsv
      obtain ⟨j, x, hj, hx, hxv⟩ := (hmet v hv6).1 hsv
      refine .some ⟨rfl, ?_⟩
      cases hd : distinct l with
      | false => rfl
      | true =>
        have := distinct_get hd hx ha (by rw [hxv, hv])
        omega
    | false =>
      have hset : aset 6 s a.var true = some (s.set v true) := by
        simp only [aset, hlen, if_true, hv, setI]
        rw [if_pos ⟨by omega, by simpa using by omega⟩]
        simp
      simp only [Bool.false_eq_true, if_false]
      rw [hset]
      refine .some ⟨by simp [hlen], fun i hi => ?_, fun i j x y hi hj hx hy he => ?_⟩
      · by_cases hiv : i = v
        · subst hiv
          rw [List.getElem?_set_self (by omega)]
          exact ⟨fun _ => ⟨k, a, by omega, ha, hv⟩, fun _ => rfl⟩
        · rw [List.getElem?_set_ne (by omega)]
          rw [hmet i hi]
          constructor
          · rintro ⟨j, x, h1, h2, h3⟩; exact ⟨j, x, by omega, h2, h3⟩
          · rintro ⟨j, x, h1, h2, h3⟩
            refine ⟨j, x, ?_, h2, h3⟩
            rcases Nat.lt_or_ge j k with h | h
            · exact h
            · have : j = k := by omega
              subst this
              rw [ha] at h2
              cases h2
              rw [hv] at h3
              omega
      · have nomet : ∀ (j : Nat) (x : GVarType), j < k → l[j]? = some x → x.var = a.var → False := fun j x h1 h2 h3 => by
          have := (hmet v hv6).2 ⟨j, x, h1, h2, by rw [h3, hv]⟩
          rw [hsv, hb] at this
          cases this
        by_cases hik : i = k
        · by_cases hjk : j = k
          · omega
          · subst hik
            rw [ha] at hx
            cases hx
            exact (nomet j y (by omega) hy he.symm).elim
        · by_cases hjk : j = k
          · subst hjk
            rw [ha] at hy
            cases hy
            exact (nomet i x (by omega) hx he).elim
          · exact hdis i j x y (by omega) (by omega) hx hy he
  · obtain ⟨_, _, hdis⟩ := hI
    exact distinct_of fun i j x y hx hy he => hdis i j x y ((List.getElem?_eq_some_iff.1 hx).1) ((List.getElem?_eq_some_iff.1 hy).1) hx hy he
theorem take1_flat {α β : Type} (l : List α) (g : α → List β) : (l.take 1).flatMap g = l[0]?.elim [] g := by
  cases l with
  | nil => rfl
  | cons a l => simp
def okD (w : List GData) (d : Nat) (t : GType) (p : GPattern) (c : Nat) : Bool := goodB w d t p && (decide (c + cntP p ≤ 60) && linD w d t p)
theorem scan_ok {w : List GData} (hw : WW w) : ∀ (d n : Nat) (t : GType) (p : GPattern) (c : Nat), t ∈ tys w → c ≤ 60 → d + 5 ≤ n → d ≤ 10 →
    Ret (m_impl_patternScan n w t p (11 - (d : Int)) (c : Int)) (fun r => r.2.1 = okD w d t p c ∧ (okD w d t p c = true → r.1 = varsD w d t p ∧ r.2.2 = ((c + cntP p : Nat) : Int))) := by
  intro d
  induction d with
  | zero =>
    intro n t p c ht hc hn hd
    obtain ⟨m, rfl⟩ : ∃ m, n = m + 1 := ⟨n - 1, by omega⟩
    unfold m_impl_patternScan
    refine Ret.ite (fun h => ?_) (fun h => ?_)
    · exact .some ⟨by simp [okD, goodB], by simp [okD, goodB]⟩
    · have : ilt 10 (11 - ((0 : Nat) : Int)) = true := rfl
      rw [if_pos this]
      exact .some ⟨by simp [okD, goodB], by simp [okD, goodB]⟩
  | succ d ih =>
    intro n t p c ht hc hn hd
    obtain ⟨m, rfl⟩ : ∃ m, n = m + 1 := ⟨n - 1, by omega⟩
    have hT := hw.ty t ht
    have hcp := cntP_eq p
    unfold m_impl_patternScan
    have hc1 : wadd .i64 (c : Int) 1 = ((c + 1 : Nat) : Int) := by rw [wadd_ok (by omega) (by omega)]; rfl
    rw [hc1]
    refine Ret.ite (fun h => ?_) (fun h => ?_)
    · rw [ilt_true] at h
      have : ¬ c + cntP p ≤ 60 := by omega
      exact .some ⟨by simp [okD, this], by simp [okD, this]⟩
    · rw [ilt_false] at h
      have h2 : ¬ ilt 10 (11 - ((d + 1 : Nat) : Int)) = true := by rw [ilt_true]; omega
      rw [if_neg h2]
      obtain ⟨ts, hs, hts⟩ := shape_ok hT p
      rw [hs]
      simp only [Option.bind_some]
      cases hnode : nodeOk w t p with
      | false => exact .some ⟨by simp [okD, goodB, hnode], by simp [okD, goodB, hnode]⟩
      | true =>
        obtain rfl := hts hnode
        obtain ⟨ho, hl⟩ := node_own hnode
        simp only [Bool.not_true, Bool.false_eq_true, if_false]
        refine Ret.ctl (R := fun _ => False) (B := fun s => s = ownV t p) ?_ (fun r hr => hr.elim) (fun s hs => ?_)
        · have ha : app [] [(GVarType.mk p.var t)] = some [(GVarType.mk p.var t)] := app_ok (by simp [rowLimit])
          by_cases h2 : p.op = 2
          · exact ⟨_, by simp [ieq, h2, ha]; rfl, by simp [ownV, h2]⟩
          · by_cases h6 : p.op = 6
            · exact ⟨_, by simp [ieq, h6, ha]; rfl, by simp [ownV, h6]⟩
            · exact ⟨_, by simp [ieq, h2, h6]; rfl, by simp [ownV, h2, h6]⟩
        subst hs
        have hown1 : (ownV t p).length ≤ 1 := by unfold ownV; split <;> simp
        have hkn : ∀ k, k < p.kids.length → ∃ a q, (kidsT w t p)[k]? = some a ∧ p.kids[k]? = some q := fun k hk => ⟨(kidsT w t p)[k]'(by omega), p.kids[k], by simp, by simp⟩
        have allgood : ∀ (P : GType → GPattern → Bool), (∀ (j : Nat) (a : GType) (q : GPattern), j < p.kids.length → (kidsT w t p)[j]? = some a → p.kids[j]? = some q → P a q = true) → (((kidsT w t p).zip p.kids).all fun x => P x.1 x.2) = true := fun P hP => by
          rw [List.all_eq_true]
          intro x hx
          obtain ⟨j, hj⟩ := List.mem_iff_getElem?.1 hx
          obtain ⟨h3, h4⟩ := List.getElem?_zip_eq_some.1 hj
          exact hP j x.1 x.2 ((List.getElem?_eq_some_iff.1 h4).1) h3 h4
        have notall : ∀ (P : GType → GPattern → Bool) (k : Nat) (a : GType) (q : GPattern), (kidsT w t p)[k]? = some a → p.kids[k]? = some q → P a q = false → (((kidsT w t p).zip p.kids).all fun x => P x.1 x.2) = false := fun P k a q h1 h2 h3 => by
          rw [List.all_eq_false]
          exact ⟨(a, q), List.mem_of_getElem? (zip_get h1 h2), by simp [h3]⟩
        refine Ret.ctl (forL_rule p.kids
          (fun k s => s.1 = ((c + 1 + cntP.cntPs (p.kids.take k) : Nat) : Int) ∧ c + 1 + cntP.cntPs (p.kids.take k) ≤ 60 ∧ s.2 = ownV t p ++ (((kidsT w t p).zip p.kids).take (min k (if p.op = 5 then 1 else p.kids.length))).flatMap (fun x => varsD w d x.1 x.2) ∧
            (∀ (j : Nat) (a : GType) (q : GPattern), j < k → (kidsT w t p)[j]? = some a → p.kids[j]? = some q → goodB w d a q = true ∧ linD w d a q = true) ∧ s.2.length ≤ 1 + cntP.cntPs (p.kids.take k) ∧
            (p.op = 5 → 2 ≤ k → alikeB (kv w d t p 0) (kv w d t p 1) = true))
          (fun r => r.2.1 = false ∧ okD w (d + 1) t p c = false)
          (fun s => s.1 = ((c + cntP p : Nat) : Int) ∧ c + cntP p ≤ 60 ∧ s.2 = varsD w (d + 1) t p ∧ goodB w (d + 1) t p = true ∧ (((kidsT w t p).zip p.kids).all fun x => linD w d x.1 x.2) = true ∧
            (p.op = 5 → alikeB (kv w d t p 0) (kv w d t p 1) = true))
          ⟨by simp [cntP.cntPs], by simp [cntP.cntPs]; omega, by simp, fun j a q hj => by omega, by simp; omega, fun _ h => by omega⟩ (fun k q s hq hI => ?_) (fun s hI => ?_)) (fun r hr => ?_) (fun s hs => ?_)
        · obtain ⟨i1, i2, i3, i4, i5, i6⟩ := hI
          have hlt := (List.getElem?_eq_some_iff.1 hq).1
          obtain ⟨a, q', ha, hq'⟩ := hkn k hlt
          rw [hq] at hq'
          cases hq'
          have hcd := cntPs_drop p.kids k q hq
          have hct := cntPs_take_le p.kids (k + 1)
          have hpos := cntP_pos q
          refine Ret.ctl (R := fun (r : Ctl (List GVarType × Bool × Int) (Int × List GVarType)) => ∃ x, r = .ret x ∧ x.2.1 = false ∧ okD w (d + 1) t p c = false)
            (B := fun (s : Int × List GVarType) => s.1 = ((c + 1 + cntP.cntPs (p.kids.take (k + 1)) : Nat) : Int) ∧ c + 1 + cntP.cntPs (p.kids.take (k + 1)) ≤ 60 ∧ s.2 = ownV t p ++ (((kidsT w t p).zip p.kids).take (min (k + 1) (if p.op = 5 then 1 else p.kids.length))).flatMap (fun x => varsD w d x.1 x.2) ∧
            (∀ (j : Nat) (a : GType) (q : GPattern), j < k + 1 → (kidsT w t p)[j]? = some a → p.kids[j]? = some q → goodB w d a q = true ∧ linD w d a q = true) ∧ s.2.length ≤ 1 + cntP.cntPs (p.kids.take (k + 1)) ∧
            (p.op = 5 → 2 ≤ k + 1 → alikeB (kv w d t p 0) (kv w d t p 1) = true))
            ?_ (fun r hr => ?_) (fun s hs => ⟨_, rfl, hs⟩)
          · rw [idx_ok ha]
            simp only [Option.bind_some]
            have hdeep : wadd .i64 (11 - ((d + 1 : Nat) : Int)) 1 = 11 - (d : Int) := by rw [wadd_ok (by omega) (by omega)]; omega
            rw [hdeep, i1]
            refine Ret.bind (ih m a q _ (kidsT_tys hT ht ho a (List.mem_of_getElem? ha)) i2 (by omega) (by omega)) (fun r hr => ?_)
            obtain ⟨hr1, hr2⟩ := hr
            rw [hr1]
            cases hok : okD w d a q (c + 1 + cntP.cntPs (p.kids.take k)) with
            | false =>
              refine .some ⟨_, rfl, rfl, ?_⟩
              simp only [okD, Bool.and_eq_false_iff] at hok
              rcases hok with h1 | h1 | h1
              · simp only [okD, goodB, notall _ k a q ha hq h1, Bool.and_false, Bool.false_and]
              · have h1 := of_decide_eq_false h1
                have : ¬ c + cntP p ≤ 60 := by omega
                simp [okD, this]
              · simp only [okD, linD, notall _ k a q ha hq h1, Bool.and_false, Bool.false_and]
            | true =>
              obtain ⟨e1, e2⟩ := hr2 hok
              simp only [okD, Bool.and_eq_true, decide_eq_true_eq] at hok
              obtain ⟨g1, g2, g3⟩ := hok
              have hvl := (specVars_ok hw d (d + 4) a q [] (kidsT_tys hT ht ho a (List.mem_of_getElem? ha)) g1 (by omega) (by simp; omega)).2
              have hboth : ∀ (j : Nat) (a' : GType) (q' : GPattern), j < k + 1 → (kidsT w t p)[j]? = some a' → p.kids[j]? = some q' → goodB w d a' q' = true ∧ linD w d a' q' = true := fun j a' q' hj h1 h2 => by
                by_cases hjk : j = k
                · subst hjk
                  rw [ha] at h1
                  rw [hq] at h2
                  cases h1
                  cases h2
                  exact ⟨g1, g3⟩
                · exact i4 j a' q' (by omega) h1 h2
              simp only [Bool.not_true, Bool.false_eq_true, if_false]
              have hcount : r.2.2 = ((c + 1 + cntP.cntPs (p.kids.take (k + 1)) : Nat) : Int) := by rw [e2, hcd]; congr 1; omega
              have happ : app s.2 r.1 = some (s.2 ++ varsD w d a q) := by rw [e1]; exact app_ok (by simp only [rowLimit]; omega)
              have hzip := zip_get ha hq
              by_cases h5 : p.op = 5
              · have h50 : ieq p.op 5 = true := by rw [ieq_true]; exact h5
                rw [if_pos h50]
                obtain ⟨x0, x1, hkids, hkt⟩ := kid0 h5 hl
                by_cases hk1 : k = 1
                · subst hk1
                  have h10 : ieq ((1 : Nat) : Int) 1 = true := rfl
                  rw [if_pos h10, sameVars_ok, e1]
                  simp only [Option.bind_some]
                  have hs2 : s.2 = kv w d t p 0 := by
                    rw [i3, if_pos h5, show ownV t p = [] by simp [ownV, h5]]
                    simp only [Nat.min_self, List.nil_append]
                    exact take1_flat _ _
                  have hz1 : (kv w d t p 1) = varsD w d a q := by unfold kv; rw [hzip]; rfl
                  refine Ret.ite (fun h => ?_) (fun h => ?_)
                  · refine .some ⟨_, rfl, rfl, ?_⟩
                    have : alikeB (kv w d t p 0) (kv w d t p 1) = false := by
                      rw [hz1, ← hs2]
                      rw [Bool.not_eq_true'] at h
                      exact h
                    simp only [okD, linD, if_pos h5, this, Bool.and_false]
                  · refine .some ⟨hcount, by omega, ?_, hboth, by simp only; omega, fun _ _ => ?_⟩
                    · rw [i3, if_pos h5]
                      rfl
                    · rw [hz1, ← hs2]
                      simpa [alikeB] using h
                · have hk0 : k = 0 := by rw [hkids] at hlt; simp at hlt; omega
                  subst hk0
                  have h10 : ¬ ieq ((0 : Nat) : Int) 1 = true := by decide
                  rw [if_neg h10, happ]
                  refine .some ⟨hcount, by omega, ?_, hboth, by simp only [List.length_append]; omega, fun _ h => by omega⟩
                  simp only
                  rw [i3, if_pos h5]
                  simp only [Nat.zero_min, List.take_zero, List.flatMap_nil, List.append_nil, Nat.min_self]
                  rw [show (0 + 1) = 1 from rfl, take1_flat, hzip]
                  rfl
              · have h50 : ¬ ieq p.op 5 = true := by rw [ieq_true]; exact h5
                rw [if_neg h50, happ]
                refine .some ⟨hcount, by omega, ?_, hboth, by simp only [List.length_append]; omega, fun h => absurd h h5⟩
                simp only
                rw [i3, if_neg h5, Nat.min_eq_left (by omega), Nat.min_eq_left (by omega), List.take_add_one, hzip]
                simp
          · obtain ⟨x, rfl, h1, h2⟩ := hr
            exact .some ⟨h1, h2⟩
        · obtain ⟨i1, i2, i3, i4, i5, i6⟩ := hI
          rw [List.take_length] at i1 i2
          refine ⟨by rw [i1]; congr 1; omega, by omega, ?_, ?_, allgood _ fun j a q hj h1 h2 => (i4 j a q hj h1 h2).2, fun h5 => i6 h5 ?_⟩
          · rw [i3]
            have : min p.kids.length (if p.op = 5 then 1 else p.kids.length) = (if p.op = 5 then 1 else p.kids.length) := by
              split
              · rename_i h5
                obtain ⟨x0, x1, hkids, hkt⟩ := kid0 h5 hl
                rw [hkids]
                simp
              · simp
            rw [this]
            rfl
          · simp only [goodB, hnode, Bool.true_and]
            exact allgood _ fun j a q hj h1 h2 => (i4 j a q hj h1 h2).1
          · obtain ⟨x0, x1, hkids, hkt⟩ := kid0 h5 hl
            rw [hkids]
            simp
        · exact .some ⟨by rw [hr.1, hr.2], fun h => by rw [hr.2] at h; cases h⟩
        · obtain ⟨b1, b2, b3, b4, b5, b6⟩ := hs
          refine Ret.ctl (met_ok s.2 (fun v hv => by rw [b3] at hv; exact vars_range (d + 1) t p b4 v hv)) (fun r hr => ?_) (fun s' hs' => ?_)
          · obtain ⟨rfl, hd0⟩ := hr
            have : okD w (d + 1) t p c = false := by
              by_cases h5 : p.op = 5
              · have hlin : linD w (d + 1) t p = true := by simp only [linD, b5, if_pos h5, b6 h5, Bool.and_self]
                have := lin_distinct (d + 1) t p b4 hlin
                rw [b3, this] at hd0
                cases hd0
              · rw [b3] at hd0
                simp only [okD, linD, if_neg h5, hd0, Bool.and_false]
            exact .some ⟨by rw [this], fun h => by rw [this] at h; cases h⟩
          · have hlin : linD w (d + 1) t p = true := by
              by_cases h5 : p.op = 5
              · simp only [linD, b5, if_pos h5, b6 h5, Bool.and_self]
              · rw [b3] at hs'
                simp only [linD, b5, if_neg h5, hs', Bool.and_self]
            have : okD w (d + 1) t p c = true := by simp [okD, b4, b2, hlin]
            exact .some ⟨by rw [this], fun _ => ⟨b3, b1⟩⟩
end Go.Proofs.YtimpchdgflhkaaaGreat
namespace Go.Proofs.YtimpchdgflhkaaaGreat
open Go Go.RowKit
theorem okD_valid (w : List GData) (t : GType) (p : GPattern) : okD w 10 t p 0 = validP w t p := by simp [okD, validP]
theorem vars_tys {w : List GData} (hw : WW w) : ∀ (d : Nat) (t : GType) (p : GPattern), t ∈ tys w → goodB w d t p = true → ∀ v ∈ varsD w d t p, v.typ ∈ tys w := by
  intro d
  induction d with
  | zero => intro t p ht hg; cases hg
  | succ d ih =>
    intro t p ht hg v hv
    obtain ⟨ho, _⟩ := node_own (good_node hg)
    simp only [varsD, List.mem_append, List.mem_flatMap] at hv
    rcases hv with hv | ⟨x, hx, hv⟩
    · unfold ownV at hv
      split at hv
      · simp at hv
        subst hv
        exact ht
      · simp at hv
    · have hx := List.mem_of_mem_take hx
      obtain ⟨j, hj⟩ := List.mem_iff_getElem?.1 hx
      obtain ⟨h3, h4⟩ := List.getElem?_zip_eq_some.1 hj
      exact ih x.1 x.2 (kidsT_tys (hw.ty t ht) ht ho x.1 (List.mem_of_getElem? h3)) (good_kid hg h3 h4) v hv
def guardB (g : GGuard) (vars : List GVarType) : Bool := if g.op = 0 then decide (g.var = 0) && decide (g.n = 0) else decide (g.op = 1 ∨ g.op = 2) && (decide (0 ≤ g.n) && decide (g.n ≤ 9)) && decide (⟨g.var, tI⟩ ∈ vars)
def clauseB (w : List GData) (t : GType) (c : GClause) : Bool := validP w t c.pat && guardB c.guard (varsD w 10 t c.pat)
def clausesB (w : List GData) (t : GType) (l : List GClause) : Bool := decide (l.length ≤ 8) && l.all (clauseB w t)
theorem implGuard_ok (g : GGuard) (vars : List GVarType) : m_impl_guardOk g vars = some (guardB g vars) := by
  unfold m_impl_guardOk guardB
  simp only [within_ok, contains_vt, Option.bind_some]
  by_cases h0 : g.op = 0
  · simp [ieq, h0, eqAll]
  · rw [if_neg (by rw [ieq_true]; exact h0), if_neg h0]
    have e : (decide (1 ≤ g.op) && decide (g.op ≤ 2)) = decide (g.op = 1 ∨ g.op = 2) := by
      rw [← Bool.decide_and]
      exact decide_eq_decide.2 (by omega)
    rw [e]
    have et : (GType.mk (-1) 0) = tI := rfl
    rw [et]
    cases decide (g.op = 1 ∨ g.op = 2) <;> cases (decide (0 ≤ g.n) && decide (g.n ≤ 9)) <;> rfl
theorem specGuard_ok {w : List GData} (hw : WW w) (g : GGuard) (vars : List GVarType) (hd : distinct vars = true) (ht : ∀ v ∈ vars, v.typ ∈ tys w) : m_spec_l4Guard g vars = some (guardB g vars) := by
  have h : Ret (m_spec_l4Guard g vars) (fun r => r = guardB g vars) := by
    unfold m_spec_l4Guard guardB
    by_cases h0 : g.op = 0
    · rw [if_pos (by rw [ieq_true]; exact h0), if_pos h0]
      by_cases h1 : g.var = 0 <;> simp [ieq, h1, Ret]
    · rw [if_neg (by rw [ieq_true]; exact h0), if_neg h0]
      refine Ret.ctl (R := fun r => r = false ∧ (decide (g.op = 1 ∨ g.op = 2) && (decide (0 ≤ g.n) && decide (g.n ≤ 9))) = false) (B := fun _ => (decide (g.op = 1 ∨ g.op = 2) && (decide (0 ≤ g.n) && decide (g.n ≤ 9))) = true) ?_ (fun r hr => ?_) (fun s hs => ?_)
      · by_cases h1 : g.op = 1 <;> by_cases h2 : g.op = 2 <;> by_cases h3 : g.n < 0 <;> by_cases h4 : 9 < g.n <;> simp [ieq, ilt, h1, h2, h3, h4, Ret] <;> omega
      · obtain ⟨rfl, hr⟩ := hr
        exact .some (by rw [hr]; rfl)
      · rw [hs, Bool.true_and]
        refine Ret.bind (find_ok vars g.var) (fun i hi => ?_)
        rcases hi with ⟨q, x, rfl, hx, hv, _⟩ | ⟨rfl, hno⟩
        · have h1 : ile 0 ((q : Nat) : Int) = true := by rw [ile_true]; omega
          rw [if_pos h1, idx_ok hx]
          refine .some ?_
          have hxm := List.mem_of_getElem? hx
          simp only [ieq]
          refine decide_eq_decide.2 ⟨fun hdt => ?_, fun hm => ?_⟩
          · have := ((hw.ty x.typ (ht x hxm)).ti hdt).1
            have : x = ⟨g.var, tI⟩ := by cases x; simp at hv this; simp [hv, this]
            rw [← this]
            exact hxm
          · obtain ⟨j, hj⟩ := List.mem_iff_getElem?.1 hm
            have := distinct_get hd hx hj hv
            subst this
            rw [hx] at hj
            cases hj
            rfl
        · have h1 : ¬ ile 0 (-1) = true := by decide
          rw [if_neg h1]
          refine .some ?_
          symm
          exact decide_eq_false fun hm => hno _ hm rfl
  obtain ⟨r, e, rfl⟩ := h
  exact e
theorem patternVars_ok {w : List GData} (hw : WW w) {n : Nat} (hn : 100 ≤ n) (t : GType) (p : GPattern) (ht : t ∈ tys w) : Ret (m_impl_patternVars n w t p) (fun r => r.2 = validP w t p ∧ (validP w t p = true → r.1 = varsD w 10 t p)) := by
  unfold m_impl_patternVars
  have h := scan_ok hw 10 n t p 0 ht (by omega) (by omega) (by omega)
  have e1 : (11 : Int) - ((10 : Nat) : Int) = 1 := rfl
  rw [e1] at h
  refine Ret.bind h (fun r hr => .some ?_)
  rw [okD_valid] at hr
  exact ⟨hr.1, fun hv => (hr.2 hv).1⟩
theorem implClause_ok {w : List GData} (hw : WW w) {n : Nat} (hn : 100 ≤ n) (t : GType) (c : GClause) (ht : t ∈ tys w) : m_impl_clauseOk n w t c = some (clauseB w t c) := by
  have h : Ret (m_impl_clauseOk n w t c) (fun r => r = clauseB w t c) := by
    unfold m_impl_clauseOk clauseB
    refine Ret.bind (patternVars_ok hw hn t c.pat ht) (fun r hr => ?_)
    obtain ⟨h1, h2⟩ := hr
    rw [h1]
    cases hv : validP w t c.pat with
    | false => exact .some rfl
    | true =>
      rw [if_pos rfl, implGuard_ok, h2 hv]
      exact .some rfl
  obtain ⟨r, e, rfl⟩ := h
  exact e
theorem valid_good {w : List GData} {t : GType} {p : GPattern} (h : validP w t p = true) : goodB w 10 t p = true ∧ cntP p ≤ 60 ∧ linD w 10 t p = true := by
  simpa [validP] using h
theorem specClause_ok {w : List GData} (hw : WW w) {n : Nat} (hn : 100 ≤ n) (t : GType) (c : GClause) (ht : t ∈ tys w) : m_spec_l4Is n w t c = some (clauseB w t c) := by
  unfold m_spec_l4Is clauseB
  rw [specIs_ok hw hn t c.pat ht]
  simp only [Option.bind_some]
  cases hv : validP w t c.pat with
  | false => rfl
  | true =>
    obtain ⟨g1, g2, g3⟩ := valid_good hv
    rw [if_pos rfl, (specVars_ok hw 10 n t c.pat [] ht g1 (by omega) (by simp; omega)).1]
    simp only [Option.bind_some, List.nil_append]
    rw [specGuard_ok hw c.guard _ (lin_distinct 10 t c.pat g1 g3) (vars_tys hw 10 t c.pat ht g1)]
    rfl
theorem implTV_ok {w : List GData} (hw : WW w) {t : GType} (ht : t ∈ tys w) : m_impl_TypeValid NN w t = some true := by
  unfold m_impl_TypeValid
  rw [hw.v1]
  simp only [Option.bind_some, if_true]
  rw [(hw.ty t ht).t1]
  rfl
theorem specTV_ok {w : List GData} (hw : WW w) {t : GType} (ht : t ∈ tys w) : m_spec_TypeValid NN w t = some true := by
  unfold m_spec_TypeValid
  rw [hw.v2]
  simp only [Option.bind_some, if_true]
  rw [(hw.ty t ht).t2]
  rfl
theorem implClauses_ok {w : List GData} (hw : WW w) {t : GType} (ht : t ∈ tys w) (l : List GClause) : m_impl_ClausesValid NN w t l = some (clausesB w t l) := by
  unfold m_impl_ClausesValid clausesB
  rw [implTV_ok hw ht]
  simp only [Option.bind_some, if_true]
  by_cases hl : l.length ≤ 8
  · rw [if_pos (by rw [ile_true]; simp only [lenZ]; omega)]
    rw [containsF_Clause l _ (fun c => !clauseB w t c) (fun c _ => by unfold m_impl_ClausesValid_1; rw [implClause_ok hw (by decide) t c ht]; rfl)]
    simp only [Option.bind_some, hl, decide_true, Bool.true_and, Option.some.injEq]
    rw [Bool.eq_iff_iff]
    simp
  · rw [if_neg (by rw [ile_true]; simp only [lenZ]; omega)]
    simp [hl]
theorem specClauses_ok {w : List GData} (hw : WW w) {t : GType} (ht : t ∈ tys w) (l : List GClause) : m_spec_ClausesValid NN w t l = some (clausesB w t l) := by
  have h : Ret (m_spec_ClausesValid NN w t l) (fun r => r = clausesB w t l) := by
    unfold m_spec_ClausesValid clausesB
    rw [specTV_ok hw ht]
    simp only [Option.bind_some, Bool.not_true, Bool.false_eq_true, if_false]
    by_cases hl : l.length ≤ 8
    · rw [if_neg (by rw [ilt_true]; simp only [lenZ]; omega)]
      simp only [hl, decide_true, Bool.true_and]
      refine Ret.ctl (forL_rule l (fun k _ => ∀ j c, j < k → l[j]? = some c → clauseB w t c = true) (fun r => r = false ∧ l.all (clauseB w t) = false) (fun _ => l.all (clauseB w t) = true) (fun j c hj => by omega) (fun k c s hc hI => ?_) (fun s hI => ?_)) (fun r hr => ?_) (fun s hs => ?_)
      · rw [specClause_ok hw (by decide) t c ht]
        simp only [Option.bind_some]
        cases hb : clauseB w t c with
        | false =>
          refine .some ⟨rfl, ?_⟩
          rw [List.all_eq_false]
          exact ⟨c, List.mem_of_getElem? hc, by simp [hb]⟩
        | true =>
          refine .some (fun j c' hj hc' => ?_)
          by_cases hjk : j = k
          · subst hjk
            rw [hc] at hc'
            cases hc'
            exact hb
          · exact hI j c' (by omega) hc'
      · rw [List.all_eq_true]
        intro c hc
        obtain ⟨j, hj⟩ := List.mem_iff_getElem?.1 hc
        exact hI j c ((List.getElem?_eq_some_iff.1 hj).1) hj
      · exact .some (by rw [hr.1, hr.2])
      · exact .some hs.symm
    · rw [if_pos (by rw [ilt_true]; simp only [lenZ]; omega)]
      exact .some (by simp [hl])
  obtain ⟨r, e, rfl⟩ := h
  exact e
end Go.Proofs.YtimpchdgflhkaaaGreat
namespace Go.Proofs.YtimpchdgflhkaaaGreat
open Go Go.RowKit
def goodV (w : List GData) : Nat → GType → GValue → Prop
  | 0, _, _ => False
  | d + 1, t, v => if t.data = -1 then v.ctor = -1 ∧ 0 ≤ v.n ∧ v.n ≤ 9 ∧ v.kids = [] else v.n = 0 ∧ v.ctor ∈ ctorsP w t ∧ v.kids.length = (argsP w t v.ctor).length ∧ ∀ (j : Nat) (a : GType) (x : GValue), (argsP w t v.ctor)[j]? = some a → v.kids[j]? = some x → goodV w d a x
def matchL (f : GPattern → GValue → Option (List GBind)) : List GPattern → List GValue → Option (List GBind)
  | [], _ => some []
  | _ :: _, [] => none
  | p :: ps, v :: vs => match f p v with
    | none => none
    | some l => match matchL f ps vs with
      | none => none
      | some m => some (l ++ m)
def matchD : Nat → GPattern → GValue → Option (List GBind)
  | 0, _, _ => none
  | d + 1, p, v =>
    if p.op = 1 then some []
    else if p.op = 2 then some [⟨p.var, v⟩]
    else if p.op = 3 then (if p.n ≤ v.n ∧ v.n ≤ p.m then some [] else none)
    else if p.op = 5 then (match p.kids with
      | [a, b] => (match matchD d a v with | some l => some l | none => matchD d b v)
      | _ => none)
    else if p.op = 6 then (match p.kids with
      | [a] => (matchD d a v).map (fun l => ⟨p.var, v⟩ :: l)
      | _ => none)
    else if p.ctor = v.ctor then matchL (matchD d) p.kids v.kids else none
theorem matchL_congr {f g : GPattern → GValue → Option (List GBind)} : ∀ (ps : List GPattern) (vs : List GValue), (∀ (j : Nat) (p : GPattern) (v : GValue), ps[j]? = some p → vs[j]? = some v → f p v = g p v) → matchL f ps vs = matchL g ps vs
  | [], _, _ => rfl
  | _ :: _, [], _ => rfl
  | p :: ps, v :: vs, h => by
    simp only [matchL]
    rw [h 0 p v rfl rfl, matchL_congr ps vs fun j p' v' h1 h2 => h (j + 1) p' v' (by simpa using h1) (by simpa using h2)]
theorem kid_of6 {w : List GData} {t : GType} {p : GPattern} (h6 : p.op = 6) (hl : p.kids.length = (kidsT w t p).length) : ∃ a, p.kids = [a] ∧ kidsT w t p = [t] := by
  have hk : kidsT w t p = [t] := by simp [kidsT, h6]
  rw [hk] at hl
  match hkids : p.kids, hl with
  | [a], _ => exact ⟨a, rfl, hk⟩
theorem flatMap_congr_mem {α β : Type} {l : List α} {f g : α → List β} (h : ∀ x ∈ l, f x = g x) : l.flatMap f = l.flatMap g := by
  induction l with
  | nil => rfl
  | cons x l ih => simp only [List.flatMap_cons]; rw [h x (by simp), ih fun y hy => h y (by simp [hy])]
theorem all_congr_mem {α : Type} {l : List α} {f g : α → Bool} (h : ∀ x ∈ l, f x = g x) : l.all f = l.all g := by
  induction l with
  | nil => rfl
  | cons x l ih => simp only [List.all_cons]; rw [h x (by simp), ih fun y hy => h y (by simp [hy])]
theorem mono_all {w : List GData} : ∀ (d : Nat) (t : GType) (p : GPattern), goodB w d t p = true →
    goodB w (d + 1) t p = true ∧ varsD w (d + 1) t p = varsD w d t p ∧ linD w (d + 1) t p = linD w d t p ∧ ∀ v, matchD (d + 1) p v = matchD d p v := by
  intro d
  induction d with
  | zero => intro t p h; cases h
  | succ d ih =>
    intro t p h
    obtain ⟨ho, hl⟩ := node_own (good_node h)
    have hz : ∀ x ∈ (kidsT w t p).zip p.kids, goodB w d x.1 x.2 = true := fun x hx => by
      obtain ⟨j, hj⟩ := List.mem_iff_getElem?.1 hx
      obtain ⟨h3, h4⟩ := List.getElem?_zip_eq_some.1 hj
      exact good_kid h h3 h4
    have g1 : goodB w (d + 1 + 1) t p = true := by
      rw [goodB, good_node h, Bool.true_and, List.all_eq_true]
      exact fun x hx => (ih x.1 x.2 (hz x hx)).1
    have g2 : varsD w (d + 1 + 1) t p = varsD w (d + 1) t p := by
      rw [varsD, varsD]
      congr 1
      exact flatMap_congr_mem fun x hx => (ih x.1 x.2 (hz x (List.mem_of_mem_take hx))).2.1
    have gk : ∀ i, kv w (d + 1) t p i = kv w d t p i := fun i => by
      unfold kv
      cases hx : ((kidsT w t p).zip p.kids)[i]? with
      | none => rfl
      | some x => exact (ih x.1 x.2 (hz x (List.mem_of_getElem? hx))).2.1
    have g3 : linD w (d + 1 + 1) t p = linD w (d + 1) t p := by
      rw [linD, linD, g2, gk, gk]
      congr 1
      exact all_congr_mem fun x hx => (ih x.1 x.2 (hz x hx)).2.2.1
    refine ⟨g1, g2, g3, fun v => ?_⟩
    have hm : ∀ q ∈ p.kids, ∀ v, matchD (d + 1) q v = matchD d q v := fun q hq v => by
      obtain ⟨j, hj⟩ := List.mem_iff_getElem?.1 hq
      have hjl := (List.getElem?_eq_some_iff.1 hj).1
      have ha : (kidsT w t p)[j]? = some ((kidsT w t p)[j]'(by omega)) := by simp
      exact (ih _ q (good_kid h ha hj)).2.2.2 v
    rw [matchD, matchD]
    split
    · rfl
    · split
      · rfl
      · split
        · rfl
        · split
          · split
            · rename_i a b hk
              rw [hm a (by rw [hk]; simp) v, hm b (by rw [hk]; simp) v]
            · rfl
          · split
            · split
              · rename_i a hk
                rw [hm a (by rw [hk]; simp) v]
              · rfl
            · split
              · exact matchL_congr _ _ fun j q u h1 _ => hm q (List.mem_of_getElem? h1) u
              · rfl
theorem match_ok {w : List GData} (hw : WW w) : ∀ (d n : Nat) (t : GType) (p : GPattern) (v : GValue) (e : Nat), t ∈ tys w → goodB w d t p = true → goodV w e t v → d + 2 ≤ n → cntP p ≤ 1000 →
    Ret (m_impl_match n p v) (fun r => r.1.length ≤ cntP p ∧ r.2 = (matchD d p v).isSome ∧ ∀ l, matchD d p v = some l → r.1 = l) := by
  intro d
  induction d with
  | zero => intro n t p v e ht h; cases h
  | succ d ih =>
    intro n t p v e ht hg hv hn hc
    obtain ⟨n, rfl⟩ : ∃ k, n = k + 1 := ⟨n - 1, by omega⟩
    obtain ⟨ho, hl⟩ := node_own (good_node hg)
    have hT := hw.ty t ht
    have hpos := cntP_pos p
    unfold m_impl_match
    refine Ret.ite (fun h => ?_) (fun h1 => ?_)
    · rw [ieq_true] at h
      exact .some ⟨by simp, by simp [matchD, h], fun l hl => by simp [matchD, h] at hl; exact hl.symm⟩
    rw [ieq_false] at h1
    refine Ret.ite (fun h => ?_) (fun h2 => ?_)
    · rw [ieq_true] at h
      exact .some ⟨by simp; omega, by simp [matchD, h], fun l hl => by simp [matchD, h] at hl; exact hl⟩
    rw [ieq_false] at h2
    refine Ret.ite (fun h => ?_) (fun h3 => ?_)
    · rw [ieq_true] at h
      rw [within_ok]
      refine .some ⟨by simp, ?_, fun l hl => ?_⟩
      · by_cases hr : p.n ≤ v.n ∧ v.n ≤ p.m
        · simp [matchD, h, hr]
        · simp only [matchD, h]
          simp [hr]
          simpa using hr
      · simp only [matchD, h] at hl
        simp at hl
        exact hl.2.symm
    rw [ieq_false] at h3
    refine Ret.ite (fun h => ?_) (fun h5 => ?_)
    · rw [ieq_true] at h
      obtain ⟨a, b, hkids, hk⟩ := kid0 h hl
      have ca := cnt_kid (p := p) (k := 0) (by rw [hkids]; rfl)
      have cb := cnt_kid (p := p) (k := 1) (by rw [hkids]; rfl)
      have ga := good_kid hg (k := 0) (by rw [hk]; rfl) (by rw [hkids]; rfl)
      have gb := good_kid hg (k := 1) (by rw [hk]; rfl) (by rw [hkids]; rfl)
      have i0 : idx [a, b] 0 = some a := rfl
      have i1 : idx [a, b] 1 = some b := rfl
      rw [hkids, i0, i1]
      simp only [Option.bind_some]
      have hm : matchD (d + 1) p v = (match matchD d a v with | some l => some l | none => matchD d b v) := by
        simp [matchD, h, hkids]
      rw [hm]
      refine Ret.bind (ih n t a v e ht ga hv (by omega) (by omega)) (fun r hr => ?_)
      obtain ⟨r0, r1, r2⟩ := hr
      rw [r1]
      cases hma : matchD d a v with
      | some l => exact .some ⟨by simp only; omega, rfl, fun l' hl' => by cases hl'; exact r2 l hma⟩
      | none =>
        simp only [Option.isSome_none, Bool.false_eq_true, if_false]
        refine Ret.bind (ih n t b v e ht gb hv (by omega) (by omega)) (fun s hs => ?_)
        obtain ⟨s0, s1, s2⟩ := hs
        exact .some ⟨by simp only; omega, s1, fun l' hl' => s2 l' hl'⟩
    rw [ieq_false] at h5
    refine Ret.ite (fun h => ?_) (fun h6 => ?_)
    · rw [ieq_true] at h
      obtain ⟨a, hkids, hk⟩ := kid_of6 h hl
      have ca := cnt_kid (p := p) (k := 0) (by rw [hkids]; rfl)
      have ga := good_kid hg (k := 0) (by rw [hk]; rfl) (by rw [hkids]; rfl)
      have i0 : idx [a] 0 = some a := rfl
      rw [hkids, i0]
      simp only [Option.bind_some]
      have hm : matchD (d + 1) p v = (matchD d a v).map (fun l => ⟨p.var, v⟩ :: l) := by
        simp [matchD, h, hkids]
      rw [hm]
      refine Ret.bind (ih n t a v e ht ga hv (by omega) (by omega)) (fun r hr => ?_)
      obtain ⟨r0, r1, r2⟩ := hr
      rw [app_ok (by simp [rowLimit]; omega)]
      refine .some ⟨by simp; omega, by rw [r1]; simp, fun l' hl' => ?_⟩
      simp only [Option.map_eq_some_iff] at hl'
      obtain ⟨l, e1, rfl⟩ := hl'
      rw [r2 l e1]
      rfl
    rw [ieq_false] at h6
    have h4 : p.op = 4 := by
      simp [ownOk, h1, h2, h3, h5, h6] at ho
      exact ho.2.1
    have hcm := own_ctor ho h4
    have hm : matchD (d + 1) p v = if p.ctor = v.ctor then matchL (matchD d) p.kids v.kids else none := by
      simp [matchD, h4]
    rw [hm]
    refine Ret.ite (fun h => ?_) (fun h => ?_)
    · rw [Bool.not_eq_true', ieq_false] at h
      rw [if_neg h]
      exact .some ⟨by simp, rfl, fun l hl => by cases hl⟩
    · rw [Bool.not_eq_false', ieq_true] at h
      rw [if_pos h]
      have hkt : kidsT w t p = argsP w t p.ctor := by simp [kidsT, h4]
      obtain ⟨e, rfl⟩ : ∃ e', e = e' + 1 := by cases e with
        | zero => exact hv.elim
        | succ e => exact ⟨e, rfl⟩
      have hdata : t.data ≠ -1 := fun hd => by
        obtain ⟨rfl, _⟩ := hT.ti hd
        have : ctorsP w tI = [] := rfl
        rw [this] at hcm
        cases hcm
      simp only [goodV, if_neg hdata] at hv
      obtain ⟨v1, v2, v3, v4⟩ := hv
      rw [← h] at v3 v4
      have hlen : p.kids.length = v.kids.length := by rw [v3, hl, hkt]
      refine Ret.ctl (forL_rule p.kids (fun k s => matchL (matchD d) p.kids v.kids = (matchL (matchD d) (p.kids.drop k) (v.kids.drop k)).map (fun l => s ++ l) ∧ s.length ≤ cntP.cntPs (p.kids.take k)) (fun r => r = ([], false) ∧ matchL (matchD d) p.kids v.kids = none)
        (fun s => matchL (matchD d) p.kids v.kids = some s ∧ s.length ≤ cntP.cntPs p.kids) ⟨by simp, by simp⟩ (fun k q s hq hI => ?_) (fun s hI => ?_)) (fun r hr => ?_) (fun s hs => ?_)
      · obtain ⟨i1, i2⟩ := hI
        have hlt := (List.getElem?_eq_some_iff.1 hq).1
        have hx : v.kids[k]? = some (v.kids[k]'(by omega)) := by simp
        have ha : (kidsT w t p)[k]? = some ((kidsT w t p)[k]'(by omega)) := by simp
        rw [idx_ok hx]
        simp only [Option.bind_some]
        have cq := cnt_kid hq
        have hcd := cntPs_drop p.kids k q hq
        have hct := cntPs_take_le p.kids (k + 1)
        have hcp := cntP_eq p
        refine Ret.bind (ih n _ q _ e (kidsT_tys hT ht ho _ (List.mem_of_getElem? ha)) (good_kid hg ha hq) (v4 k _ _ (by rw [← hkt]; exact ha) hx) (by omega) (by omega)) (fun r hr => ?_)
        obtain ⟨r0, r1, r2⟩ := hr
        have hd1 : p.kids.drop k = q :: p.kids.drop (k + 1) := by
          rw [List.drop_eq_getElem_cons hlt]
          rw [List.getElem?_eq_getElem hlt] at hq
          cases hq
          rfl
        have hd2 : v.kids.drop k = v.kids[k]'(by omega) :: v.kids.drop (k + 1) := List.drop_eq_getElem_cons (by omega)
        rw [hd1, hd2] at i1
        simp only [matchL] at i1
        cases hmq : matchD d q (v.kids[k]'(by omega)) with
        | none =>
          rw [hmq] at i1 r1
          rw [r1]
          exact .some ⟨rfl, i1⟩
        | some l =>
          rw [hmq] at i1 r1
          have e1 := r2 l hmq
          rw [r1]
          simp only [Option.isSome_some, Bool.not_true, Bool.false_eq_true, if_false]
          rw [app_ok (by simp only [rowLimit]; omega), e1]
          refine .some ⟨?_, by rw [List.length_append, ← e1]; omega⟩
          rw [i1]
          cases matchL (matchD d) (p.kids.drop (k + 1)) (v.kids.drop (k + 1)) with
          | none => rfl
          | some m => simp
      · obtain ⟨i1, i2⟩ := hI
        rw [List.take_length] at i2
        refine ⟨?_, i2⟩
        rw [i1, List.drop_length]
        simp [matchL]
      · obtain ⟨rfl, hr⟩ := hr
        exact .some ⟨by simp, by rw [hr]; rfl, fun l hl => by rw [hr] at hl; cases hl⟩
      · have hcp := cntP_eq p
        exact .some ⟨by simp only; omega, by rw [hs.1]; rfl, fun l hl => by rw [hs.1] at hl; cases hl; rfl⟩
end Go.Proofs.YtimpchdgflhkaaaGreat
namespace Go.Proofs.YtimpchdgflhkaaaGreat
open Go Go.RowKit
def deepP : Nat → GPattern → Prop
  | 0, _ => False
  | d + 1, p => ∀ q ∈ p.kids, deepP d q
theorem equalF_Pattern (a b : List GPattern) (f : GPattern → GPattern → Option Bool) (P : GPattern → GPattern → Prop) (hf : ∀ x ∈ a, ∀ y ∈ b, Ret (f x y) (fun r => r = true ↔ x = y)) : Ret (m_slices_EqualFunc_Pattern a b f) (fun r => r = true ↔ a = b) := by
  unfold m_slices_EqualFunc_Pattern
  refine Ret.ite (fun h => ?_) (fun h => ?_)
  · rw [Bool.not_eq_true', ieq_false] at h
    simp only [lenZ] at h
    exact .some ⟨fun e => (by cases e), fun e => by rw [e] at h; exact absurd rfl h⟩
  · rw [Bool.not_eq_false', ieq_true] at h
    simp only [lenZ] at h
    have hl : a.length = b.length := by omega
    refine Ret.ctl (forL_rule a (fun k _ => ∀ j : Nat, j < k → a[j]? = b[j]?) (fun r => r = false ∧ a ≠ b) (fun _ => a = b) (fun j hj => by omega) (fun k x s hx hI => ?_) (fun s hI => ?_)) (fun r hr => ?_) (fun s hs => ?_)
    · have hkl := (List.getElem?_eq_some_iff.1 hx).1
      have hy : b[k]? = some (b[k]'(by omega)) := by simp
      rw [idx_ok hy]
      simp only [Option.bind_some]
      refine Ret.bind (hf x (List.mem_of_getElem? hx) _ (List.mem_of_getElem? hy)) (fun r hr => ?_)
      refine Ret.ite (fun h => ?_) (fun h => ?_)
      · rw [Bool.not_eq_true'] at h
        refine .some ⟨rfl, fun e => ?_⟩
        rw [e] at hx
        rw [hx] at hy
        have := hr.2 (Option.some.inj hy)
        rw [h] at this
        cases this
      · rw [Bool.not_eq_false'] at h
        refine .some (fun j hj => ?_)
        by_cases hjk : j = k
        · subst hjk
          rw [hx, hy, hr.1 h]
        · exact hI j (by omega)
    · apply List.ext_getElem?
      intro j
      rcases Nat.lt_or_ge j a.length with h | h
      · exact hI j h
      · rw [List.getElem?_eq_none h, List.getElem?_eq_none (by omega)]
    · exact .some ⟨fun e => (by rw [hr.1] at e; cases e), fun e => absurd e hr.2⟩
    · exact .some ⟨fun _ => hs, fun _ => rfl⟩
theorem GPattern.ext' {a b : GPattern} (h1 : a.op = b.op) (h2 : a.ctor = b.ctor) (h3 : a.n = b.n) (h4 : a.m = b.m) (h5 : a.var = b.var) (h6 : a.kids = b.kids) : a = b := by
  cases a; cases b; simp_all
theorem implSame_ok : ∀ (d n : Nat) (a b : GPattern), deepP d a → d ≤ n → Ret (m_impl_PatternSame n a b) (fun r => r = true ↔ a = b) := by
  intro d
  induction d with
  | zero => intro n a b h; exact h.elim
  | succ d ih =>
    intro n a b h hn
    obtain ⟨n, rfl⟩ : ∃ k, n = k + 1 := ⟨n - 1, by omega⟩
    unfold m_impl_PatternSame
    refine Ret.ite (fun h1 => ?_) (fun h1 => .some ⟨fun e => (by cases e), fun e => by rw [ieq_false] at h1; exact absurd (by rw [e]) h1⟩)
    refine Ret.ite (fun h2 => ?_) (fun h1 => .some ⟨fun e => (by cases e), fun e => by rw [ieq_false] at h1; exact absurd (by rw [e]) h1⟩)
    refine Ret.ite (fun h3 => ?_) (fun h1 => .some ⟨fun e => (by cases e), fun e => by rw [ieq_false] at h1; exact absurd (by rw [e]) h1⟩)
    refine Ret.ite (fun h4 => ?_) (fun h1 => .some ⟨fun e => (by cases e), fun e => by rw [ieq_false] at h1; exact absurd (by rw [e]) h1⟩)
    refine Ret.ite (fun h5 => ?_) (fun h1 => .some ⟨fun e => (by cases e), fun e => by rw [ieq_false] at h1; exact absurd (by rw [e]) h1⟩)
    rw [ieq_true] at h1 h2 h3 h4 h5
    refine Ret.bind (equalF_Pattern a.kids b.kids _ (fun _ _ => True) (fun x hx y hy => ih n x y (h x hx) (by omega))) (fun r hr => .some ?_)
    exact ⟨fun e => GPattern.ext' h1 h2 h3 h4 h5 (hr.1 e), fun e => hr.2 (by rw [e])⟩
theorem specSame_ok : ∀ (d n : Nat) (a b : GPattern), deepP d a → d ≤ n → Ret (m_spec_PatternSame n a b) (fun r => r = true ↔ a = b) := by
  intro d
  induction d with
  | zero => intro n a b h; exact h.elim
  | succ d ih =>
    intro n a b h hn
    obtain ⟨n, rfl⟩ : ∃ k, n = k + 1 := ⟨n - 1, by omega⟩
    have neq : ∀ {x y : Int}, (!ieq x y) = true → x ≠ y := fun h => by rw [Bool.not_eq_true', ieq_false] at h; exact h
    have eq : ∀ {x y : Int}, (!ieq x y) = false → x = y := fun h => by rw [Bool.not_eq_false', ieq_true] at h; exact h
    unfold m_spec_PatternSame
    refine Ret.ite (fun h1 => .some ⟨fun e => (by cases e), fun e => absurd (by rw [e]) (neq h1)⟩) (fun h1 => ?_)
    refine Ret.ite (fun h1 => .some ⟨fun e => (by cases e), fun e => absurd (by rw [e]) (neq h1)⟩) (fun h2 => ?_)
    refine Ret.ite (fun h1 => .some ⟨fun e => (by cases e), fun e => absurd (by rw [e]) (neq h1)⟩) (fun h3 => ?_)
    refine Ret.ite (fun h1 => .some ⟨fun e => (by cases e), fun e => absurd (by rw [e]) (neq h1)⟩) (fun h4 => ?_)
    refine Ret.ite (fun h1 => .some ⟨fun e => (by cases e), fun e => absurd (by rw [e]) (neq h1)⟩) (fun h5 => ?_)
    have key : Ret (m_slices_EqualFunc_Pattern a.kids b.kids (fun x y => m_spec_PatternSame n x y)) (fun r => r = true ↔ a.kids = b.kids) := equalF_Pattern a.kids b.kids _ (fun _ _ => True) (fun x hx y hy => ih n x y (h x hx) (by omega))
    refine Ret.mono (fun r hr => ?_) key
    exact ⟨fun e => GPattern.ext' (eq h1) (eq h2) (eq h3) (eq h4) (eq h5) (hr.1 e), fun e => hr.2 (by rw [e])⟩
theorem good_deep {w : List GData} : ∀ (d : Nat) (t : GType) (p : GPattern), goodB w d t p = true → deepP d p := by
  intro d
  induction d with
  | zero => intro t p h; cases h
  | succ d ih =>
    intro t p h q hq
    obtain ⟨ho, hl⟩ := node_own (good_node h)
    obtain ⟨j, hj⟩ := List.mem_iff_getElem?.1 hq
    have hjl := (List.getElem?_eq_some_iff.1 hj).1
    exact ih _ q (good_kid h (show (kidsT w t p)[j]? = some ((kidsT w t p)[j]'(by omega)) by simp) hj)
theorem implOwn_ok : ∀ (d n : Nat) (p : GPattern), deepP d p → d ≤ n → cntP p ≤ 1000 → m_impl_ownPattern n p = some p := by
  intro d
  induction d with
  | zero => intro n p h; exact h.elim
  | succ d ih =>
    intro n p h hn hc
    obtain ⟨n, rfl⟩ : ∃ k, n = k + 1 := ⟨n - 1, by omega⟩
    have hcp := cntP_eq p
    have hr : Ret (m_impl_ownPattern (n + 1) p) (fun r => r = p) := by
      unfold m_impl_ownPattern
      refine Ret.ctl (forL_rule p.kids (fun k s => s = p.kids.take k ∧ s.length ≤ cntP.cntPs (p.kids.take k)) (fun _ => False) (fun s => s = p.kids) ⟨by simp, by simp⟩ (fun k q s hq hI => ?_) (fun s hI => ?_)) (fun r hr => hr.elim) (fun s hs => .some (GPattern.ext' rfl rfl rfl rfl rfl hs))
      · obtain ⟨i1, i2⟩ := hI
        have hct := cntPs_take_le p.kids (k + 1)
        have hcd := cntPs_drop p.kids k q hq
        have hq1 := cntP_pos q
        rw [ih n q (h q (List.mem_of_getElem? hq)) (by omega) (by omega)]
        simp only [Option.bind_some]
        rw [app_ok (by simp only [rowLimit, List.length_cons, List.length_nil]; omega)]
        exact .some ⟨by rw [i1, List.take_add_one, hq]; rfl, by simp; omega⟩
      · rw [hI.1, List.take_length]
    obtain ⟨r, e, rfl⟩ := hr
    exact e
theorem specCopy_ok : ∀ (d n : Nat) (p : GPattern), deepP d p → d ≤ n → cntP p ≤ 1000 → m_spec_l3Copy n p = some p := by
  intro d
  induction d with
  | zero => intro n p h; exact h.elim
  | succ d ih =>
    intro n p h hn hc
    obtain ⟨n, rfl⟩ : ∃ k, n = k + 1 := ⟨n - 1, by omega⟩
    have hcp := cntP_eq p
    have hr : Ret (m_spec_l3Copy (n + 1) p) (fun r => r = p) := by
      unfold m_spec_l3Copy
      refine Ret.ctl (forL_rule p.kids (fun k s => s = p.kids.take k ∧ s.length ≤ cntP.cntPs (p.kids.take k)) (fun _ => False) (fun s => s = p.kids) ⟨by simp, by simp⟩ (fun k q s hq hI => ?_) (fun s hI => ?_)) (fun r hr => hr.elim) (fun s hs => .some (GPattern.ext' rfl rfl rfl rfl rfl hs))
      · obtain ⟨i1, i2⟩ := hI
        have hct := cntPs_take_le p.kids (k + 1)
        have hcd := cntPs_drop p.kids k q hq
        have hq1 := cntP_pos q
        rw [ih n q (h q (List.mem_of_getElem? hq)) (by omega) (by omega)]
        simp only [Option.bind_some]
        rw [app_ok (by simp only [rowLimit, List.length_cons, List.length_nil]; omega)]
        exact .some ⟨by rw [i1, List.take_add_one, hq]; rfl, by simp; omega⟩
      · rw [hI.1, List.take_length]
    obtain ⟨r, e, rfl⟩ := hr
    exact e
theorem allAny_ok (l : List GPattern) : m_impl_allAny l = some (l.all fun q => decide (q.op = 1)) := by
  unfold m_impl_allAny
  rw [containsF_Pattern l _ (fun q => !decide (q.op = 1)) (fun x _ => by simp [m_impl_allAny_1, ieq])]
  simp only [Option.bind_some, Option.some.injEq]
  rw [Bool.eq_iff_iff]
  simp
theorem wide_ok (p : GPattern) : m_spec_l11Wide p = some (p.kids.all fun q => decide (q.op = 1)) := by
  have h : Ret (m_spec_l11Wide p) (fun r => r = (p.kids.all fun q => decide (q.op = 1))) := by
    unfold m_spec_l11Wide
    refine Ret.ctl (forL_rule p.kids (fun k _ => ∀ (j : Nat) (q : GPattern), j < k → p.kids[j]? = some q → q.op = 1) (fun r => r = false ∧ (p.kids.all fun q => decide (q.op = 1)) = false) (fun _ => (p.kids.all fun q => decide (q.op = 1)) = true) (fun j q hj => by omega) (fun k x s hx hI => ?_) (fun s hI => ?_)) (fun r hr => .some (by rw [hr.1, hr.2])) (fun s hs => .some hs.symm)
    · simp only [m_spec_l11Whole, Option.bind_some]
      refine Ret.ite (fun h => ?_) (fun h => ?_)
      · rw [Bool.not_eq_true', ieq_false] at h
        refine .some ⟨rfl, ?_⟩
        rw [List.all_eq_false]
        exact ⟨x, List.mem_of_getElem? hx, by simpa using h⟩
      · rw [Bool.not_eq_false', ieq_true] at h
        refine .some (fun j q hj hq => ?_)
        by_cases hjk : j = k
        · subst hjk
          rw [hx] at hq
          cases hq
          exact h
        · exact hI j q (by omega) hq
    · rw [List.all_eq_true]
      intro q hq
      obtain ⟨j, hj⟩ := List.mem_iff_getElem?.1 hq
      simpa using hI j q ((List.getElem?_eq_some_iff.1 hj).1) hj
  obtain ⟨r, e, rfl⟩ := h
  exact e
theorem flat_nil {α β : Type} {l : List α} {g : α → List β} : l.flatMap g = [] ↔ ∀ x ∈ l, g x = [] := by
  induction l with
  | nil => simp
  | cons x l ih => simp [List.flatMap_cons, ih]
theorem hasVars_ok {w : List GData} : ∀ (d n : Nat) (t : GType) (p : GPattern), goodB w d t p = true → linD w d t p = true → d ≤ n → m_impl_hasVars n p = some (decide (varsD w d t p ≠ [])) := by
  intro d
  induction d with
  | zero => intro n t p h; cases h
  | succ d ih =>
    intro n t p hg hlin hn
    obtain ⟨n, rfl⟩ : ∃ k, n = k + 1 := ⟨n - 1, by omega⟩
    obtain ⟨ho, hl⟩ := node_own (good_node hg)
    simp only [linD, Bool.and_eq_true, List.all_eq_true] at hlin
    unfold m_impl_hasVars
    by_cases h2 : p.op = 2
    · rw [if_pos (by rw [ieq_true]; exact h2)]
      simp [varsD, ownV, h2]
    · rw [if_neg (by rw [ieq_true]; exact h2)]
      by_cases h6 : p.op = 6
      · rw [if_pos (by rw [ieq_true]; exact h6)]
        simp [varsD, ownV, h6]
      · rw [if_neg (by rw [ieq_true]; exact h6)]
        have hk : ∀ q ∈ p.kids, ∃ a, (a, q) ∈ (kidsT w t p).zip p.kids ∧ goodB w d a q = true ∧ linD w d a q = true := fun q hq => by
          obtain ⟨j, hj⟩ := List.mem_iff_getElem?.1 hq
          have hjl := (List.getElem?_eq_some_iff.1 hj).1
          have ha : (kidsT w t p)[j]? = some ((kidsT w t p)[j]'(by omega)) := by simp
          have hz := zip_get ha hj
          exact ⟨_, List.mem_of_getElem? hz, good_kid hg ha hj, hlin.1 _ (List.mem_of_getElem? hz)⟩
        have hf : ∀ q ∈ p.kids, ∃ b, m_impl_hasVars n q = some b := fun q hq => by
          obtain ⟨a, _, g1, g2⟩ := hk q hq
          exact ⟨_, ih n a q g1 g2 (by omega)⟩
        rw [containsF_Pattern p.kids _ (fun q => (m_impl_hasVars n q).getD false) (fun q hq => by obtain ⟨b, hb⟩ := hf q hq; rw [hb]; rfl)]
        simp only [Option.bind_some, Option.some.injEq]
        have hown : ownV t p = [] := by simp [ownV, h2, h6]
        rw [Bool.eq_iff_iff]
        simp only [List.any_eq_true, decide_eq_true_eq, varsD, hown, List.nil_append]
        by_cases h5 : p.op = 5
        · obtain ⟨a, b, hkids, hkt⟩ := kid0 h5 hl
          have g0 := hlin.1 (t, a) (by rw [hkids, hkt]; simp)
          have g1 := hlin.1 (t, b) (by rw [hkids, hkt]; simp)
          have ga := good_kid hg (k := 0) (a := t) (q := a) (by rw [hkt]; rfl) (by rw [hkids]; rfl)
          have gb := good_kid hg (k := 1) (a := t) (q := b) (by rw [hkt]; rfl) (by rw [hkids]; rfl)
          have hal := hlin.2
          rw [if_pos h5] at hal
          have k0 : kv w d t p 0 = varsD w d t a := by simp [kv, hkids, hkt]
          have k1 : kv w d t p 1 = varsD w d t b := by simp [kv, hkids, hkt]
          rw [k0, k1] at hal
          simp only [alikeB, Bool.and_eq_true, decide_eq_true_eq] at hal
          rw [hkids, hkt, if_pos h5]
          have e0 : m_impl_hasVars n a = some (decide (varsD w d t a ≠ [])) := ih n t a ga g0 (by omega)
          have e1 : m_impl_hasVars n b = some (decide (varsD w d t b ≠ [])) := ih n t b gb g1 (by omega)
          have hlen : varsD w d t a = [] ↔ varsD w d t b = [] := by rw [← List.length_eq_zero_iff, ← List.length_eq_zero_iff, hal.1]
          simp [e0, e1, hlen]
        · rw [if_neg h5, List.take_of_length_le (by rw [List.length_zip]; omega)]
          constructor
          · rintro ⟨q, hq, hb⟩ hnil
            obtain ⟨a, hz, g1, g2⟩ := hk q hq
            rw [ih n a q g1 g2 (by omega)] at hb
            simp at hb
            exact hb (flat_nil.1 hnil (a, q) hz)
          · intro hne
            have : ∃ x ∈ (kidsT w t p).zip p.kids, varsD w d x.1 x.2 ≠ [] := Classical.byContradiction fun hno => hne (flat_nil.2 fun x hx => Classical.byContradiction fun h => hno ⟨x, hx, h⟩)
            obtain ⟨x, hx, hne⟩ := this
            obtain ⟨j, hj⟩ := List.mem_iff_getElem?.1 hx
            obtain ⟨h3, h4⟩ := List.getElem?_zip_eq_some.1 hj
            refine ⟨x.2, List.mem_of_getElem? h4, ?_⟩
            rw [ih n x.1 x.2 (good_kid hg h3 h4) (hlin.1 x hx) (by omega)]
            simpa using hne
theorem noVars_match {w : List GData} : ∀ (d : Nat) (t : GType) (p : GPattern), goodB w d t p = true → linD w d t p = true → varsD w d t p = [] → ∀ v l, matchD d p v = some l → l = [] := by
  intro d
  induction d with
  | zero => intro t p h; cases h
  | succ d ih =>
    intro t p hg hlin hno v l hm
    obtain ⟨ho, hl⟩ := node_own (good_node hg)
    simp only [linD, Bool.and_eq_true, List.all_eq_true] at hlin
    simp only [varsD, List.append_eq_nil_iff] at hno
    rw [matchD] at hm
    by_cases h1 : p.op = 1
    · rw [if_pos h1] at hm; cases hm; rfl
    rw [if_neg h1] at hm
    by_cases h2 : p.op = 2
    · have := hno.1; simp [ownV, h2] at this
    rw [if_neg h2] at hm
    by_cases h3 : p.op = 3
    · rw [if_pos h3] at hm
      split at hm
      · cases hm; rfl
      · cases hm
    rw [if_neg h3] at hm
    by_cases h5 : p.op = 5
    · rw [if_pos h5] at hm
      obtain ⟨a, b, hkids, hkt⟩ := kid0 h5 hl
      have ga := good_kid hg (k := 0) (by rw [hkt]; rfl) (by rw [hkids]; rfl)
      have gb := good_kid hg (k := 1) (by rw [hkt]; rfl) (by rw [hkids]; rfl)
      have g0 := hlin.1 (t, a) (by rw [hkids, hkt]; simp)
      have g1 := hlin.1 (t, b) (by rw [hkids, hkt]; simp)
      have hal := hlin.2
      rw [if_pos h5] at hal
      have k0 : kv w d t p 0 = varsD w d t a := by simp [kv, hkids, hkt]
      have k1 : kv w d t p 1 = varsD w d t b := by simp [kv, hkids, hkt]
      rw [k0, k1] at hal
      simp only [alikeB, Bool.and_eq_true, decide_eq_true_eq] at hal
      have na : varsD w d t a = [] := by
        have := hno.2
        rw [hkids, hkt, if_pos h5] at this
        simpa using this
      have nb : varsD w d t b = [] := by rw [← List.length_eq_zero_iff, ← hal.1, na]; rfl
      rw [hkids] at hm
      simp only at hm
      split at hm
      · rename_i l' hl'
        cases hm
        exact ih t a ga g0 na v _ hl'
      · exact ih t b gb g1 nb v _ hm
    rw [if_neg h5] at hm
    by_cases h6 : p.op = 6
    · have := hno.1; simp [ownV, h6] at this
    rw [if_neg h6] at hm
    split at hm
    · have hall := hno.2
      rw [if_neg h5, List.take_of_length_le (by rw [List.length_zip]; omega)] at hall
      have hk : ∀ q ∈ p.kids, ∀ v l, matchD d q v = some l → l = [] := fun q hq v l h => by
        obtain ⟨j, hj⟩ := List.mem_iff_getElem?.1 hq
        have hjl := (List.getElem?_eq_some_iff.1 hj).1
        have ha : (kidsT w t p)[j]? = some ((kidsT w t p)[j]'(by omega)) := by simp
        have hz := List.mem_of_getElem? (zip_get ha hj)
        exact ih _ q (good_kid hg ha hj) (hlin.1 _ hz) (flat_nil.1 hall _ hz) v l h
      revert hm
      generalize v.kids = vs
      generalize p.kids = ps at hk
      intro hm
      induction ps generalizing vs l with
      | nil => cases hm; rfl
      | cons q ps ihp =>
        cases vs with
        | nil => cases hm
        | cons u vs =>
          simp only [matchL] at hm
          cases hq : matchD d q u with
          | none => rw [hq] at hm; cases hm
          | some l1 =>
            rw [hq] at hm
            simp only at hm
            cases hps : matchL (matchD d) ps vs with
            | none => rw [hps] at hm; cases hm
            | some l2 =>
              rw [hps] at hm
              cases hm
              rw [hk q (by simp) u l1 hq, ihp l2 vs (fun x hx => hk x (by simp [hx])) hps]
              rfl
    · cases hm
end Go.Proofs.YtimpchdgflhkaaaGreat
namespace Go.Proofs.YtimpchdgflhkaaaGreat
open Go Go.RowKit
structure ROk (r : Gl17Rd) (m : Nat) : Prop where
  bytes : ∀ x ∈ r.b, 0 ≤ x ∧ x ≤ 255
  len : r.b.length ≤ 2000
  p0 : 0 ≤ r.p
  pm : r.p + m ≤ 1000000
structure Nx (r r' : Gl17Rd) (c : Nat) : Prop where
  b : r'.b = r.b
  le : r.p ≤ r'.p
  ge : r'.p ≤ r.p + c
theorem ROk.le {r : Gl17Rd} {m m' : Nat} (h : ROk r m) (hm : m' ≤ m) : ROk r m' := ⟨h.bytes, h.len, h.p0, by have := h.pm; omega⟩
theorem ROk.nx {r r' : Gl17Rd} {c m : Nat} (h : ROk r (c + m)) (hn : Nx r r' c) : ROk r' m := ⟨by rw [hn.b]; exact h.bytes, by rw [hn.b]; exact h.len, by have := h.p0; have := hn.le; omega, by have := h.pm; have := hn.ge; omega⟩
theorem Nx.refl (r : Gl17Rd) : Nx r r 0 := ⟨rfl, by omega, by omega⟩
theorem Nx.trans {a b c : Gl17Rd} {m n : Nat} (h : Nx a b m) (k : Nx b c n) : Nx a c (m + n) := ⟨k.b.trans h.b, by have := h.le; have := k.le; omega, by have := h.ge; have := k.ge; omega⟩
theorem Nx.le' {a b : Gl17Rd} {m n : Nat} (h : Nx a b m) (hm : m ≤ n) : Nx a b n := ⟨h.b, h.le, by have := h.ge; omega⟩
theorem xor_range {x y : Int} (hx : 0 ≤ x) (hx' : x < 1099511627776) (hy : 0 ≤ y) (hy' : y < 1099511627776) : 0 ≤ wxor .i64 x y ∧ wxor .i64 x y < 1099511627776 := by
  obtain ⟨a, rfl⟩ := Int.eq_ofNat_of_zero_le hx
  obtain ⟨b, rfl⟩ := Int.eq_ofNat_of_zero_le hy
  have e : (BitVec.ofInt IntKind.i64.bits (a : Int) ^^^ BitVec.ofInt IntKind.i64.bits (b : Int)).toNat = a ^^^ b := by
    have ha : (BitVec.ofInt IntKind.i64.bits (a : Int)).toNat = a := by
      rw [BitVec.toNat_ofInt]
      show (((a : Int) % ((2 ^ 64 : Nat) : Int))).toNat = a
      omega
    have hb : (BitVec.ofInt IntKind.i64.bits (b : Int)).toNat = b := by
      rw [BitVec.toNat_ofInt]
      show (((b : Int) % ((2 ^ 64 : Nat) : Int))).toNat = b
      omega
    rw [BitVec.toNat_xor, ha, hb]
  have hlt : a ^^^ b < 2 ^ 40 := Nat.xor_lt_two_pow (by omega) (by omega)
  unfold wxor
  rw [e, wrap64 (by omega) (by omega)]
  omega
theorem pick_ok {r : Gl17Rd} (h : ROk r 1) {k : Int} (h1 : 1 ≤ k) (h2 : k ≤ 1000000) : Ret (m_spec_l17Rd_pick r k) (fun a => 0 ≤ a.1 ∧ a.1 < k ∧ Nx r a.2 1) := by
  have hp0 := h.p0
  have hpm := h.pm
  have hlen := h.len
  have ep : wadd .i64 r.p 1 = r.p + 1 := wadd_ok (by omega) (by omega)
  have eq : wsub .i64 (r.p + 1) 1 = r.p := by rw [wsub_ok (by omega) (by omega)]; omega
  have nx : Nx r (Gl17Rd.mk r.b (r.p + 1)) 1 := ⟨rfl, by simp only; omega, by simp only; omega⟩
  unfold m_spec_l17Rd_pick
  rw [ep, eq]
  refine Ret.ite (fun c => by rw [ilt_true] at c; omega) (fun _ => ?_)
  refine Ret.ite (fun c => .some ⟨by simp, by simp; omega, nx⟩) (fun c => ?_)
  rw [ieq_false] at c
  simp only [lenZ] at c
  have hpos : 0 < r.b.length := by omega
  have hk0 : chk (!ieq k 0) = some () := chk_ok (by simp [ieq]; omega)
  have hb0 : chk (!ieq (lenZ r.b.length) 0) = some () := chk_ok (by rw [Bool.not_eq_true', ieq_false]; simp only [lenZ]; omega)
  have rem : ∀ x : Int, 0 ≤ x → 0 ≤ wrem x k ∧ wrem x k < k := fun x hx => by
    unfold wrem
    rw [Int.tmod_eq_emod_of_nonneg hx]
    exact ⟨Int.emod_nonneg _ (by omega), Int.emod_lt_of_pos _ (by omega)⟩
  refine Ret.ite (fun c2 => ?_) (fun c2 => ?_)
  · rw [ilt_true] at c2
    simp only [lenZ] at c2
    obtain ⟨x, hx, hm⟩ := idx_lt_ok hp0 c2
    obtain ⟨b1, b2⟩ := h.bytes x hm
    rw [hx, hk0]
    simp only [Option.bind_some]
    rw [wcv_ok (by omega) (by omega)]
    exact .some ⟨(rem x b1).1, (rem x b1).2, nx⟩
  · rw [hb0]
    simp only [Option.bind_some]
    have remb : ∀ x : Int, 0 ≤ x → 0 ≤ wrem x (lenZ r.b.length) ∧ wrem x (lenZ r.b.length) < r.b.length := fun x hx => by
      unfold wrem lenZ
      rw [Int.tmod_eq_emod_of_nonneg hx]
      exact ⟨Int.emod_nonneg _ (by omega), Int.emod_lt_of_pos _ (by omega)⟩
    have e7 : wmul .i64 r.p 7 = r.p * 7 := wmul_ok (by omega) (by omega)
    have e73 : wadd .i64 (r.p * 7) 3 = r.p * 7 + 3 := wadd_ok (by omega) (by omega)
    rw [e7, e73]
    obtain ⟨x, hx, hm⟩ := idx_lt_ok (remb r.p hp0).1 (remb r.p hp0).2
    obtain ⟨y, hy, hn⟩ := idx_lt_ok (remb (r.p * 7 + 3) (by omega)).1 (remb (r.p * 7 + 3) (by omega)).2
    obtain ⟨b1, b2⟩ := h.bytes x hm
    obtain ⟨b3, b4⟩ := h.bytes y hn
    rw [hx, hy, hk0]
    simp only [Option.bind_some]
    have f1 : wcv .i64 x = x := wcv_ok (by omega) (by omega)
    have f2 : wcv .i64 y = y := wcv_ok (by omega) (by omega)
    have f3 : wmul .i64 x 131 = x * 131 := wmul_ok (by omega) (by omega)
    have f4 : wmul .i64 y 1117 = y * 1117 := wmul_ok (by omega) (by omega)
    have f5 : wmul .i64 r.p 29 = r.p * 29 := wmul_ok (by omega) (by omega)
    have hq : 0 ≤ r.p.tdiv (lenZ r.b.length) ∧ r.p.tdiv (lenZ r.b.length) ≤ r.p := by
      rw [Int.tdiv_eq_ediv_of_nonneg hp0]
      exact ⟨Int.ediv_nonneg hp0 (by simp [lenZ]), Int.ediv_le_self _ hp0⟩
    have f6 : wquo .i64 r.p (lenZ r.b.length) = r.p.tdiv (lenZ r.b.length) := wquo_ok (by omega) (by omega)
    rw [f1, f2, f3, f4, f5, f6]
    generalize r.p.tdiv (lenZ r.b.length) = q at hq ⊢
    have f7 : wmul .i64 q 53 = q * 53 := wmul_ok (by omega) (by omega)
    have f8 : wadd .i64 (x * 131) (y * 1117) = x * 131 + y * 1117 := wadd_ok (by omega) (by omega)
    have f9 : wadd .i64 (x * 131 + y * 1117) (r.p * 29) = x * 131 + y * 1117 + r.p * 29 := wadd_ok (by omega) (by omega)
    rw [f7, f8, f9, wadd_ok (by omega) (by omega)]
    have hz : 0 ≤ x * 131 + y * 1117 + r.p * 29 + q * 53 ∧ x * 131 + y * 1117 + r.p * 29 + q * 53 < 1099511627776 := ⟨by omega, by omega⟩
    generalize x * 131 + y * 1117 + r.p * 29 + q * 53 = z at hz ⊢
    have hz64 : z.tdiv 64 = z / 64 := Int.tdiv_eq_ediv_of_nonneg hz.1
    rw [wquo_ok (by rw [hz64]; omega) (by rw [hz64]; omega), hz64]
    have hxr := xor_range hz.1 hz.2 (show 0 ≤ z / 64 by omega) (show z / 64 < 1099511627776 by omega)
    exact .some ⟨(rem _ hxr.1).1, (rem _ hxr.1).2, nx⟩
theorem num_ok {r : Gl17Rd} (h : ROk r 1) (l : List Int) (h1 : 1 ≤ l.length) (h2 : l.length ≤ 1000) : Ret (m_spec_l17Rd_num r l) (fun a => a.1 ∈ l ∧ Nx r a.2 1) := by
  unfold m_spec_l17Rd_num
  refine Ret.bind (pick_ok h (k := lenZ l.length) (by simp [lenZ]; omega) (by simp [lenZ]; omega)) (fun a ha => ?_)
  obtain ⟨x, hx, hm⟩ := idx_lt_ok (xs := l) ha.1 (by simpa [lenZ] using ha.2.1)
  rw [hx]
  exact .some ⟨hm, ha.2.2⟩
theorem open_ok (code : List Int) (hb : ∀ x ∈ code, 0 ≤ x ∧ x ≤ 255) : Ret (m_spec_l17Open code) (fun r => ROk r 1000000) := by
  unfold m_spec_l17Open
  refine Ret.ctl (R := fun _ => False) (B := fun s => (∀ x ∈ s, 0 ≤ x ∧ x ≤ 255) ∧ s.length ≤ 2000) ?_ (fun r hr => hr.elim) (fun s hs => ?_)
  · refine Ret.ite (fun h => ?_) (fun h => ?_)
    · rw [ilt_true] at h
      simp only [lenZ] at h
      have : takeI code 2000 = some (code.take 2000) := by
        unfold takeI
        rw [if_pos ⟨by omega, by omega⟩]
        rfl
      rw [this]
      exact .some ⟨fun x hx => hb x (List.mem_of_mem_take hx), by simp; omega⟩
    · rw [ilt_false] at h
      simp only [lenZ] at h
      exact .some ⟨hb, by omega⟩
  · exact .some ⟨hs.1, hs.2, by simp, by simp⟩
theorem world_ok {r : Gl17Rd} (h : ROk r 1) : Ret (m_spec_l1World NN r) (fun a => a.1 ∈ worlds ∧ Nx r a.2 1) := by
  unfold m_spec_l1World
  obtain ⟨T, hT⟩ : ∃ T, m_spec_l1Texts = some T := ⟨_, rfl⟩
  have hlen : T.length = 8 := by
    have h8 : m_spec_l1Texts.map List.length = some 8 := rfl
    rw [hT] at h8
    simpa using h8
  rw [hT]
  simp only [Option.bind_some]
  have e7 : wsub .i64 (lenZ T.length) 1 = 7 := by rw [hlen]; rfl
  rw [e7]
  refine Ret.bind (pick_ok h (by omega) (by omega)) (fun a ha => ?_)
  obtain ⟨i, hi⟩ := Int.eq_ofNat_of_zero_le ha.1
  obtain ⟨w, hw, hm⟩ := drawW_ok (i := i) (by have := ha.2.1; omega)
  unfold drawW at hw
  rw [hT] at hw
  simp only [Option.bind_some] at hw
  rw [hi]
  obtain ⟨x, hx, hw⟩ := bindE hw
  rw [hx]
  simp only [Option.bind_some]
  rw [hw]
  exact .some ⟨hm, ha.2.2⟩
def cDraw : Nat → Nat
  | 0 => 1
  | m + 1 => 1 + 3 * cDraw m
theorem cDraw_pos : ∀ m, 1 ≤ cDraw m
  | 0 => Nat.le_refl _
  | m + 1 => by simp only [cDraw]; omega
theorem draw2_ok {w : List GData} (hw : WW w) : ∀ (m n : Nat) (r : Gl17Rd) (t : GType) (depth : Int), t ∈ tys w → depP w t ≠ 0 → depth ≤ m → depP w t ≤ m → -1000 + m ≤ depth → m ≤ 100 → m + 1 ≤ n → ROk r (cDraw m) →
    Ret (m_spec_l2Draw n r w (tabP w) t depth) (fun a => Nx r a.2 (cDraw m)) := by
  intro m
  induction m with
  | zero =>
    intro n r t depth ht hd h1 h2 h3 hm100 hn hr
    have := (hw.ty t ht).d0
    omega
  | succ m ih =>
    intro n r t depth ht hd h1 h2 h3 hm100 hn hr
    obtain ⟨n, rfl⟩ : ∃ k, n = k + 1 := ⟨n - 1, by omega⟩
    have hT := hw.ty t ht
    have hpos := cDraw_pos (m + 1)
    unfold m_spec_l2Draw
    refine Ret.ite (fun h => ?_) (fun h => ?_)
    · refine Ret.bind (pick_ok (hr.le hpos) (by omega) (by omega)) (fun a ha => .some (ha.2.2.le' hpos))
    · rw [ieq_false] at h
      rw [hT.c1]
      simp only [Option.bind_some]
      obtain ⟨kb, hkb, hmb⟩ := hT.dm h hd
      have hd0 := hT.d0
      refine Ret.ctl (forL_rule (ctorsP w t) (fun k s => (∀ x ∈ s, x ∈ ctorsP w t ∧ 0 < mostP w t x ∧ (mostP w t x ≤ depth ∨ mostP w t x = depP w t)) ∧ s.length ≤ k ∧ (∀ j, j < k → (ctorsP w t)[j]? = some kb → s ≠ [])) (fun _ => False)
        (fun s => (∀ x ∈ s, x ∈ ctorsP w t ∧ 0 < mostP w t x ∧ (mostP w t x ≤ depth ∨ mostP w t x = depP w t)) ∧ s ≠ [] ∧ s.length ≤ 4) ⟨by simp, by simp, fun j hj => by omega⟩ (fun k x s hx hI => ?_) (fun s hI => ?_)) (fun r hr => hr.elim) (fun s hs => ?_)
      · obtain ⟨i1, i2, i3⟩ := hI
        have hxm := List.mem_of_getElem? hx
        have hkl := (List.getElem?_eq_some_iff.1 hx).1
        have hcl := hT.cl
        have take : ∀ (hp : 0 < mostP w t x ∧ (mostP w t x ≤ depth ∨ mostP w t x = depP w t)), Ret ((app s [x]).bind fun x310 => some (Ctl.brk (ρ := Ctl (GValue × Gl17Rd) (List Int)) x310)) (CtlQ (fun _ => False) (fun s' => (∀ x ∈ s', x ∈ ctorsP w t ∧ 0 < mostP w t x ∧ (mostP w t x ≤ depth ∨ mostP w t x = depP w t)) ∧ s'.length ≤ k + 1 ∧ (∀ j, j < k + 1 → (ctorsP w t)[j]? = some kb → s' ≠ []))) := fun hp => by
          rw [app_ok (by simp only [rowLimit, List.length_cons, List.length_nil]; omega)]
          refine .some ⟨fun y hy => ?_, by simp; omega, fun _ _ _ => by simp⟩
          rcases List.mem_append.1 hy with hy | hy
          · exact i1 y hy
          · simp at hy; subst hy; exact ⟨hxm, hp⟩
        have pass : (¬ (0 < mostP w t x ∧ (mostP w t x ≤ depth ∨ mostP w t x = depP w t))) → Ret (some (Ctl.brk (ρ := Ctl (GValue × Gl17Rd) (List Int)) s)) (CtlQ (fun _ => False) (fun s' => (∀ x ∈ s', x ∈ ctorsP w t ∧ 0 < mostP w t x ∧ (mostP w t x ≤ depth ∨ mostP w t x = depP w t)) ∧ s'.length ≤ k + 1 ∧ (∀ j, j < k + 1 → (ctorsP w t)[j]? = some kb → s' ≠ []))) := fun hp => by
          refine .some ⟨i1, by omega, fun j hj hjk => ?_⟩
          by_cases hjk2 : j = k
          · subst hjk2
            rw [hx] at hjk
            cases hjk
            exact absurd ⟨by omega, .inr hmb⟩ hp
          · exact i3 j (by omega) hjk
        refine Ret.ctl (R := fun _ => False) (B := fun (s' : List Int) => (∀ x ∈ s', x ∈ ctorsP w t ∧ 0 < mostP w t x ∧ (mostP w t x ≤ depth ∨ mostP w t x = depP w t)) ∧ s'.length ≤ k + 1 ∧ (∀ j, j < k + 1 → (ctorsP w t)[j]? = some kb → s' ≠ [])) ?_ (fun r hr => hr.elim) (fun s' hs' => ⟨_, rfl, hs'⟩)
        rw [hT.m1 x hxm]
        simp only [Option.bind_some]
        refine Ret.ite (fun c => ?_) (fun c => ?_)
        · rw [ilt_true] at c
          refine Ret.ite (fun c2 => ?_) (fun c2 => ?_)
          · rw [ile_true] at c2
            exact take ⟨c, .inl c2⟩
          · rw [ile_false] at c2
            rw [hT.d1]
            simp only [Option.bind_some]
            refine Ret.ite (fun c3 => ?_) (fun c3 => ?_)
            · rw [ieq_true] at c3
              exact take ⟨c, .inr c3⟩
            · rw [ieq_false] at c3
              exact pass (by omega)
        · rw [ilt_false] at c
          exact pass (by omega)
      · obtain ⟨i1, i2, i3⟩ := hI
        obtain ⟨j, hj⟩ := List.mem_iff_getElem?.1 hkb
        have := hT.cl
        exact ⟨i1, i3 j ((List.getElem?_eq_some_iff.1 hj).1) hj, by omega⟩
      · obtain ⟨i1, i2, i3⟩ := hs
        have hsl : 1 ≤ s.length := by cases s with
          | nil => exact absurd rfl i2
          | cons => simp
        refine Ret.bind (pick_ok (hr.le hpos) (k := lenZ s.length) (by simp [lenZ]; omega) (by simp [lenZ]; omega)) (fun a ha => ?_)
        obtain ⟨x, hx, hxm⟩ := idx_lt_ok (xs := s) ha.1 (by simpa [lenZ] using ha.2.1)
        obtain ⟨hxc, hx0, hxd⟩ := i1 x hxm
        rw [hx]
        simp only [Option.bind_some]
        rw [hT.a1 x hxc]
        simp only [Option.bind_some]
        have hal := hT.al x hxc
        have hr1 : ROk a.2 (3 * cDraw m) := ROk.nx (c := 1) hr ha.2.2
        refine Ret.ctl (forL_rule (argsP w t x) (fun k s => Nx a.2 s.1 (k * cDraw m) ∧ s.2.length ≤ k) (fun _ => False) (fun s => Nx a.2 s.1 (3 * cDraw m)) ⟨by simpa using Nx.refl a.2, by simp⟩ (fun k y s hy hI => ?_) (fun s hI => ?_)) (fun r hr => hr.elim) (fun s hs => ?_)
        · obtain ⟨j1, j2⟩ := hI
          have hym := List.mem_of_getElem? hy
          have hkl := (List.getElem?_eq_some_iff.1 hy).1
          obtain ⟨d1, d2⟩ := hT.ma x hxc (by omega) y hym
          have hws : wsub .i64 depth 1 = depth - 1 := wsub_ok (by omega) (by omega)
          rw [hws]
          have hr2 : ROk s.1 (cDraw m) := by
            have : k * cDraw m + cDraw m ≤ 3 * cDraw m := by
              rw [← Nat.succ_mul]
              exact Nat.mul_le_mul_right _ (by omega)
            exact ROk.nx (c := k * cDraw m) (hr1.le this) j1
          refine Ret.bind (ih n s.1 y (depth - 1) (hT.at_ x hxc y hym) (by omega) (by omega) (by omega) (by omega) (by omega) (by omega) hr2) (fun b hb => ?_)
          rw [app_ok (by simp only [rowLimit, List.length_cons, List.length_nil]; omega)]
          refine .some ⟨?_, by simp; omega⟩
          have := j1.trans hb
          rw [← Nat.succ_mul] at this
          exact this
        · obtain ⟨j1, j2⟩ := hI
          exact j1.le' (Nat.mul_le_mul_right _ hal)
        · exact .some (ha.2.2.trans hs)
theorem typed2_ok {r : Gl17Rd} (h : ROk r 1000) : Ret (m_spec_l2Typed NN r) (fun a => a.1 ∈ worlds ∧ a.2.1 ∈ tys a.1 ∧ Nx r a.2.2.2 500) := by
  unfold m_spec_l2Typed
  refine Ret.bind (world_ok (h.le (by omega))) (fun a ha => ?_)
  obtain ⟨hw, hn1⟩ := ha
  have hW := ww hw
  rw [hW.tab]
  simp only [Option.bind_some]
  have hr1 : ROk a.2 999 := ROk.nx (c := 1) h hn1
  have hpos := hW.pos
  have hle := hW.le
  refine Ret.bind (pick_ok (hr1.le (by omega)) (k := lenZ a.1.length) (by simp only [lenZ]; omega) (by simp only [lenZ]; omega)) (fun b hb => ?_)
  have hr2 : ROk b.2 998 := ROk.nx (c := 1) hr1 hb.2.2
  refine Ret.bind (num_ok (hr2.le (by omega)) [0, 0, 1, 2] (by simp) (by simp)) (fun c hc => ?_)
  have hr3 : ROk c.2 997 := ROk.nx (c := 1) hr2 hc.2
  have hty : (GType.mk b.1 c.1) ∈ tys a.1 := by
    obtain ⟨i, hi⟩ := Int.eq_ofNat_of_zero_le hb.1
    have hil : i < a.1.length := by have := hb.2.1; simp only [lenZ] at this; omega
    have hci : ∃ j : Nat, j < 4 ∧ c.1 = (j : Int) := by
      have := hc.1
      simp at this
      rcases this with h | h | h
      · exact ⟨0, by omega, h⟩
      · exact ⟨1, by omega, h⟩
      · exact ⟨2, by omega, h⟩
    obtain ⟨j, hj, hcj⟩ := hci
    unfold tys
    refine List.mem_cons_of_mem _ (List.mem_flatMap.2 ⟨i, List.mem_range.2 hil, List.mem_map.2 ⟨j, List.mem_range.2 hj, ?_⟩⟩)
    rw [hi, hcj]
    rfl
  have htI : tI ∈ tys a.1 := by unfold tys; exact List.mem_cons_self
  refine Ret.ctl (R := fun _ => False) (B := fun s => (GType.mk s.1 s.2) ∈ tys a.1 ∧ depP a.1 (GType.mk s.1 s.2) ≠ 0) ?_ (fun r hr => hr.elim) (fun s hs => ?_)
  · rw [(hW.ty _ hty).d1]
    simp only [Option.bind_some]
    refine Ret.ite (fun h => ?_) (fun h => ?_)
    · refine .some ⟨htI, ?_⟩
      have := (hW.ty tI htI).ti rfl
      show depP a.1 tI ≠ 0
      omega
    · rw [ieq_false] at h
      exact .some ⟨hty, h⟩
  · refine Ret.bind (num_ok (hr3.le (by omega)) [3, 2, 4, 1] (by simp) (by simp)) (fun d hd => ?_)
    have hr4 : ROk d.2 996 := ROk.nx (c := 1) hr3 hd.2
    have hd4 : 1 ≤ d.1 ∧ d.1 ≤ 4 := by
      have := hd.1
      simp at this
      omega
    have hdep := (hW.ty _ hs.1).d4
    refine Ret.bind (draw2_ok hW 4 NN d.2 _ d.1 hs.1 hs.2 (by omega) (by omega) (by omega) (by omega) (by decide) (hr4.le (by decide))) (fun e he => ?_)
    refine .some ⟨hw, hs.1, ?_⟩
    have := (((hn1.trans hb.2.2).trans hc.2).trans hd.2).trans he
    exact this.le' (by decide)
end Go.Proofs.YtimpchdgflhkaaaGreat
namespace Go.Proofs.YtimpchdgflhkaaaGreat
open Go Go.RowKit
def smallD : Nat → GPattern → Prop
  | 0, _ => False
  | d + 1, p => p.kids.length ≤ 3 ∧ ∀ q ∈ p.kids, smallD d q
theorem small_any (d : Nat) : smallD (d + 1) (GPattern.mk 1 0 0 0 0 []) := ⟨by simp, by simp⟩
def cD3 : Nat → Nat
  | 0 => 0
  | m + 1 => 5 + 3 * cD3 m
def cN3 : Nat → Nat
  | 0 => 0
  | m + 1 => 2 + 3 * cN3 m
theorem draw3_ok {w : List GData} (hw : WW w) : ∀ (m n : Nat) (r : Gl17Rd) (t : GType) (depth : Int), t ∈ tys w → depth ≤ m + 1 → -1000 + m ≤ depth → m ≤ 100 → m + 1 ≤ n → ROk r (cD3 m) →
    Ret (m_spec_l3Draw n r w t depth) (fun a => smallD (m + 1) a.1 ∧ Nx r a.2 (cD3 m)) := by
  intro m
  induction m with
  | zero =>
    intro n r t depth ht h1 h2 h3 hn hr
    obtain ⟨n, rfl⟩ : ∃ k, n = k + 1 := ⟨n - 1, by omega⟩
    unfold m_spec_l3Draw
    rw [if_pos (by rw [ilt_true]; omega)]
    exact .some ⟨small_any 0, Nx.refl r⟩
  | succ m ih =>
    intro n r t depth ht h1 h2 h3 hn hr
    obtain ⟨n, rfl⟩ : ∃ k, n = k + 1 := ⟨n - 1, by omega⟩
    have hT := hw.ty t ht
    have ec : cD3 (m + 1) = 5 + 3 * cD3 m := rfl
    rw [ec] at hr ⊢
    have hws : wsub .i64 depth 1 = depth - 1 := wsub_ok (by omega) (by omega)
    unfold m_spec_l3Draw
    refine Ret.ite (fun h => .some ⟨small_any _, (Nx.refl r).le' (by omega)⟩) (fun h => ?_)
    refine Ret.bind (pick_ok (hr.le (by omega)) (by omega) (by omega)) (fun a ha => ?_)
    have hr1 : ROk a.2 (4 + 3 * cD3 m) := ROk.nx (c := 1) (hr.le (by omega)) ha.2.2
    refine Ret.ite (fun h => .some ⟨small_any _, ha.2.2.le' (by omega)⟩) (fun h => ?_)
    refine Ret.bind (pick_ok (hr1.le (by omega)) (by omega) (by omega)) (fun b hb => ?_)
    have hr2 : ROk b.2 (3 + 3 * cD3 m) := ROk.nx (c := 1) (hr1.le (by omega)) hb.2.2
    have hab := ha.2.2.trans hb.2.2
    rw [hws]
    refine Ret.ite (fun h => ?_) (fun h => ?_)
    · refine Ret.bind (ih n b.2 t (depth - 1) ht (by omega) (by omega) (by omega) (by omega) (hr2.le (by omega))) (fun c hc => ?_)
      have hr3 : ROk c.2 (cD3 m) := ROk.nx (c := cD3 m) (hr2.le (by omega)) hc.2
      refine Ret.bind (ih n c.2 t (depth - 1) ht (by omega) (by omega) (by omega) (by omega) hr3) (fun d hd => ?_)
      refine .some ⟨⟨by simp, fun q hq => ?_⟩, ((hab.trans hc.2).trans hd.2).le' (by omega)⟩
      simp at hq
      rcases hq with rfl | rfl
      · exact hc.1
      · exact hd.1
    · refine Ret.ite (fun h => ?_) (fun h => ?_)
      · refine Ret.bind (pick_ok (hr2.le (by omega)) (by omega) (by omega)) (fun c hc => ?_)
        have hr3 : ROk c.2 (2 + 3 * cD3 m) := ROk.nx (c := 1) (hr2.le (by omega)) hc.2.2
        have e10 : wsub .i64 10 c.1 = 10 - c.1 := wsub_ok (by omega) (by omega)
        rw [e10]
        refine Ret.bind (pick_ok (hr3.le (by omega)) (by omega) (by omega)) (fun d hd => ?_)
        have hr4 : ROk d.2 (1 + 3 * cD3 m) := ROk.nx (c := 1) (hr3.le (by omega)) hd.2.2
        refine Ret.bind (pick_ok (hr4.le (by omega)) (by omega) (by omega)) (fun e he => ?_)
        exact .some ⟨⟨by simp, by simp⟩, (((hab.trans hc.2.2).trans hd.2.2).trans he.2.2).le' (by omega)⟩
      · rw [hT.c1]
        simp only [Option.bind_some]
        refine Ret.ite (fun h => .some ⟨small_any _, hab.le' (by omega)⟩) (fun h => ?_)
        rw [ieq_false] at h
        simp only [lenZ] at h
        have hcl := hT.cl
        refine Ret.bind (pick_ok (hr2.le (by omega)) (k := lenZ (ctorsP w t).length) (by simp only [lenZ]; omega) (by simp only [lenZ]; omega)) (fun c hc => ?_)
        have hr3 : ROk c.2 (3 * cD3 m) := ROk.nx (c := 1) (hr2.le (by omega)) hc.2.2
        obtain ⟨x, hx, hxm⟩ := idx_lt_ok (xs := ctorsP w t) hc.1 (by simpa [lenZ] using hc.2.1)
        rw [hx]
        simp only [Option.bind_some]
        rw [hT.a1 x hxm]
        simp only [Option.bind_some]
        have hal := hT.al x hxm
        refine Ret.ctl (forL_rule (argsP w t x) (fun k s => Nx c.2 s.1 (k * cD3 m) ∧ s.2.length = k ∧ ∀ q ∈ s.2, smallD (m + 1) q) (fun _ => False) (fun s => Nx c.2 s.1 (3 * cD3 m) ∧ s.2.length ≤ 3 ∧ ∀ q ∈ s.2, smallD (m + 1) q) ⟨by simpa using Nx.refl c.2, by simp, by simp⟩ (fun k y s hy hI => ?_) (fun s hI => ?_)) (fun r hr => hr.elim) (fun s hs => ?_)
        · obtain ⟨j1, j2, j3⟩ := hI
          have hym := List.mem_of_getElem? hy
          have hkl := (List.getElem?_eq_some_iff.1 hy).1
          have hr4 : ROk s.1 (cD3 m) := by
            have : k * cD3 m + cD3 m ≤ 3 * cD3 m := by
              rw [← Nat.succ_mul]
              exact Nat.mul_le_mul_right _ (by omega)
            exact ROk.nx (c := k * cD3 m) (hr3.le this) j1
          refine Ret.bind (ih n s.1 y (depth - 1) (hT.at_ x hxm y hym) (by omega) (by omega) (by omega) (by omega) hr4) (fun b hb => ?_)
          rw [app_ok (by simp only [rowLimit, List.length_cons, List.length_nil]; omega)]
          refine .some ⟨?_, by simp; omega, fun q hq => ?_⟩
          · have := j1.trans hb.2
            rw [← Nat.succ_mul] at this
            exact this
          · rcases List.mem_append.1 hq with hq | hq
            · exact j3 q hq
            · simp at hq; subst hq; exact hb.1
        · obtain ⟨j1, j2, j3⟩ := hI
          exact ⟨j1.le' (Nat.mul_le_mul_right _ hal), by omega, j3⟩
        · exact .some ⟨⟨hs.2.1, hs.2.2⟩, ((hab.trans hc.2.2).trans hs.1).le' (by omega)⟩
theorem name3_ok : ∀ (m n : Nat) (r : Gl17Rd) (p : GPattern) (v : Int), smallD m p → m + 1 ≤ n → ROk r (cN3 m) → Ret (m_spec_l3Name n r p v) (fun a => Nx r a.2.2 (cN3 m)) := by
  intro m
  induction m with
  | zero => intro n r p v h; exact h.elim
  | succ m ih =>
    intro n r p v hp hn hr
    obtain ⟨n, rfl⟩ : ∃ k, n = k + 1 := ⟨n - 1, by omega⟩
    obtain ⟨hk, hq⟩ := hp
    have ec : cN3 (m + 1) = 2 + 3 * cN3 m := rfl
    rw [ec] at hr ⊢
    unfold m_spec_l3Name
    refine Ret.ite (fun h => .some ((Nx.refl r).le' (by omega))) (fun h => ?_)
    refine Ret.ite (fun h => .some ((Nx.refl r).le' (by omega))) (fun h => ?_)
    refine Ret.ite (fun h => .some ((Nx.refl r).le' (by omega))) (fun h => ?_)
    refine Ret.ctl (R := fun (a : GPattern × Int × Gl17Rd) => Nx r a.2.2 (2 + 3 * cN3 m)) (B := fun (s : Gl17Rd) => Nx r s 1) ?_ (fun a ha => .some ha) (fun s hs => ?_)
    · refine Ret.ite (fun h => ?_) (fun h => .some ((Nx.refl r).le' (by omega)))
      refine Ret.bind (pick_ok (hr.le (by omega)) (by omega) (by omega)) (fun a ha => ?_)
      exact Ret.ite (fun h => .some (ha.2.2.le' (by omega))) (fun h => .some ha.2.2)
    · have hr1 : ROk s (1 + 3 * cN3 m) := ROk.nx (c := 1) (hr.le (by omega)) hs
      refine Ret.ctl (forL_rule p.kids (fun k u => Nx s u.1 (k * cN3 m) ∧ u.2.1.length = k) (fun _ => False) (fun u => Nx s u.1 (3 * cN3 m) ∧ u.2.1.length ≤ 3) ⟨by simpa using Nx.refl s, by simp⟩ (fun k y u hy hI => ?_) (fun u hI => ?_)) (fun r hr => hr.elim) (fun u hu => ?_)
      · obtain ⟨j1, j2⟩ := hI
        have hym := List.mem_of_getElem? hy
        have hkl := (List.getElem?_eq_some_iff.1 hy).1
        have hr4 : ROk u.1 (cN3 m) := by
          have : k * cN3 m + cN3 m ≤ 1 + 3 * cN3 m := by
            rw [← Nat.succ_mul]
            have := Nat.mul_le_mul_right (cN3 m) (show k.succ ≤ 3 by omega)
            omega
          exact ROk.nx (c := k * cN3 m) (hr1.le this) j1
        refine Ret.bind (ih n u.1 y _ (hq y hym) (by omega) hr4) (fun b hb => ?_)
        rw [app_ok (by simp only [rowLimit, List.length_cons, List.length_nil]; omega)]
        refine .some ⟨?_, by simp; omega⟩
        have := j1.trans hb
        rw [← Nat.succ_mul] at this
        exact this
      · obtain ⟨j1, j2⟩ := hI
        exact ⟨j1.le' (Nat.mul_le_mul_right _ hk), by omega⟩
      · have hr2 : ROk u.1 1 := ROk.nx (c := 3 * cN3 m) (hr1.le (by omega)) hu.1
        have hsu := hs.trans hu.1
        refine Ret.ctl (R := fun (a : GPattern × Int × Gl17Rd) => Nx r a.2.2 (2 + 3 * cN3 m)) (B := fun (s : Gl17Rd) => Nx r s (2 + 3 * cN3 m)) ?_ (fun a ha => .some ha) (fun s hs => .some hs)
        refine Ret.ite (fun h => ?_) (fun h => .some (hsu.le' (by omega)))
        refine Ret.bind (pick_ok hr2 (by omega) (by omega)) (fun a ha => ?_)
        have := (hsu.trans ha.2.2).le' (show 1 + 3 * cN3 m + 1 ≤ 2 + 3 * cN3 m by omega)
        exact Ret.ite (fun h => .some this) (fun h => .some this)
def anyP : GPattern := GPattern.mk 1 0 0 0 0 []
theorem any_valid (w : List GData) (t : GType) : validP w t anyP = true := by
  simp [validP, anyP, goodB, nodeOk, ownOk, kidsT, linD, varsD, ownV, distinct, cntP, cntP.cntPs]
theorem some3_ok {w : List GData} (hw : WW w) {r : Gl17Rd} {t : GType} (ht : t ∈ tys w) (h : ROk r 200) : Ret (m_spec_l3Some NN r w t) (fun a => validP w t a.1 = true ∧ Nx r a.2 200) := by
  unfold m_spec_l3Some
  refine Ret.bind (num_ok (h.le (by omega)) [3, 2, 4, 1] (by simp) (by simp)) (fun a ha => ?_)
  have hr1 : ROk a.2 199 := ROk.nx (c := 1) h ha.2
  have hd4 : 1 ≤ a.1 ∧ a.1 ≤ 4 := by
    have := ha.1
    simp at this
    omega
  refine Ret.bind (draw3_ok hw 3 NN a.2 t a.1 ht (by omega) (by omega) (by omega) (by decide) (hr1.le (by decide))) (fun b hb => ?_)
  have hr2 : ROk b.2 80 := ROk.nx (c := cD3 3) (hr1.le (by decide)) hb.2
  refine Ret.bind (name3_ok 4 NN b.2 b.1 0 hb.1 (by decide) (hr2.le (by decide))) (fun c hc => ?_)
  rw [specIs_ok hw (by decide) t c.1 ht]
  simp only [Option.bind_some]
  have hnx := ((ha.2.trans hb.2).trans hc).le' (show 1 + cD3 3 + cN3 4 ≤ 200 by decide)
  cases hv : validP w t c.1 with
  | false => exact .some ⟨any_valid w t, hnx⟩
  | true => exact .some ⟨hv, hnx⟩
theorem clause4_ok {w : List GData} (hw : WW w) {r : Gl17Rd} {t : GType} (ht : t ∈ tys w) (h : ROk r 500) : Ret (m_spec_l4Clause NN r w t) (fun a => validP w t a.1.pat = true ∧ Nx r a.2 500) := by
  unfold m_spec_l4Clause
  refine Ret.bind (some3_ok hw ht (h.le (by omega))) (fun a ha => ?_)
  have hr1 : ROk a.2 300 := ROk.nx (c := 200) h ha.2
  obtain ⟨g1, g2, g3⟩ := valid_good ha.1
  obtain ⟨v1, v2⟩ := specVars_ok hw 10 NN t a.1 [] ht g1 (by decide) (by simp; omega)
  rw [v1]
  simp only [Option.bind_some, List.nil_append]
  refine Ret.ctl (forL_rule (varsD w 10 t a.1) (fun k s => Nx a.2 s.1 (k * 3)) (fun _ => False) (fun s => Nx a.2 s.1 300) (by simpa using Nx.refl a.2) (fun k y s hy hI => ?_) (fun s hI => hI.le' (by omega))) (fun r hr => hr.elim) (fun s hs => .some ⟨ha.1, (ha.2.trans hs).le' (by omega)⟩)
  have hkl := (List.getElem?_eq_some_iff.1 hy).1
  have hr2 : ROk s.1 3 := ROk.nx (c := k * 3) (hr1.le (by omega)) hI
  refine Ret.ctl (R := fun _ => False) (B := fun (u : Gl17Rd × Int × Int × Int) => Nx a.2 u.1 ((k + 1) * 3)) ?_ (fun r hr => hr.elim) (fun u hu => .some hu)
  refine Ret.ite (fun h => ?_) (fun h => .some (hI.le' (by omega)))
  refine Ret.bind (pick_ok (hr2.le (by omega)) (by omega) (by omega)) (fun b hb => ?_)
  have hr3 : ROk b.2 2 := ROk.nx (c := 1) hr2 hb.2.2
  refine Ret.ite (fun h => ?_) (fun h => .some ((hI.trans hb.2.2).le' (by omega)))
  refine Ret.bind (pick_ok (hr3.le (by omega)) (by omega) (by omega)) (fun c hc => ?_)
  have hr4 : ROk c.2 1 := ROk.nx (c := 1) hr3 hc.2.2
  refine Ret.bind (pick_ok hr4 (by omega) (by omega)) (fun d hd => ?_)
  exact .some ((((hI.trans hb.2.2).trans hc.2.2).trans hd.2.2).le' (by omega))
theorem list4_ok {w : List GData} (hw : WW w) {r : Gl17Rd} {t : GType} (ht : t ∈ tys w) (h : ROk r 2600) : Ret (m_spec_l4List NN r w t) (fun a => (∀ c ∈ a.1, validP w t c.pat = true) ∧ a.1.length ≤ 5 ∧ Nx r a.2 2600) := by
  unfold m_spec_l4List
  refine Ret.bind (num_ok (h.le (by omega)) [3, 2, 4, 5, 1, 0] (by simp) (by simp)) (fun a ha => ?_)
  have hr1 : ROk a.2 2599 := ROk.nx (c := 1) h ha.2
  have hd : 0 ≤ a.1 ∧ a.1 ≤ 5 := by
    have := ha.1
    simp at this
    omega
  refine Ret.ctl (whileL_rule (fun s => 0 ≤ s.2.2 ∧ s.2.2 ≤ 5 ∧ (s.2.1.length : Int) + s.2.2 = a.1 ∧ (∀ c ∈ s.2.1, validP w t c.pat = true) ∧ Nx a.2 s.1 (s.2.1.length * 500)) (fun s => s.2.2.toNat) (fun _ => False) (fun s => s.2.1.length ≤ 5 ∧ (∀ c ∈ s.2.1, validP w t c.pat = true) ∧ Nx a.2 s.1 2500)
    ⟨hd.1, hd.2, by simp, by simp, by simpa using Nx.refl a.2⟩ (fun s hI => ?_) NN (by have := hd; show (a.1).toNat < 400; omega)) (fun r hr => hr.elim) (fun s hs => .some ⟨hs.2.1, hs.1, (ha.2.trans hs.2.2).le' (by omega)⟩)
  obtain ⟨i1, i2, i3, i4, i5⟩ := hI
  refine Ret.ite (fun h => ?_) (fun h => ?_)
  · rw [ilt_true] at h
    have hr2 : ROk s.1 500 := ROk.nx (c := s.2.1.length * 500) (hr1.le (by omega)) i5
    refine Ret.bind (clause4_ok hw ht hr2) (fun b hb => ?_)
    rw [app_ok (by simp only [rowLimit, List.length_cons, List.length_nil]; omega)]
    have hws : wsub .i64 s.2.2 1 = s.2.2 - 1 := wsub_ok (by omega) (by omega)
    simp only [Option.bind_some]
    rw [hws]
    refine .some ⟨⟨by simp only; omega, by simp only; omega, by simp; omega, fun c hc => ?_, ?_⟩, by simp only; omega⟩
    · rcases List.mem_append.1 hc with hc | hc
      · exact i4 c hc
      · simp at hc; subst hc; exact hb.1
    · have := i5.trans hb.2
      simp only [List.length_append, List.length_cons, List.length_nil]
      exact this.le' (by omega)
  · exact .some ⟨by simp only; omega, i4, i5.le' (by omega)⟩
theorem typed4_ok {r : Gl17Rd} (h : ROk r 5000) : Ret (m_spec_l4Typed NN r) (fun a => a.1 ∈ worlds ∧ a.2.1 ∈ tys a.1 ∧ (∀ c ∈ a.2.2.1, validP a.1 a.2.1 c.pat = true) ∧ a.2.2.1.length ≤ 5 ∧ Nx r a.2.2.2.2 4000) := by
  unfold m_spec_l4Typed
  refine Ret.bind (typed2_ok (h.le (by omega))) (fun a ha => ?_)
  obtain ⟨h1, h2, h3⟩ := ha
  refine Ret.bind (list4_ok (ww h1) h2 (ROk.nx (c := 500) (h.le (by omega)) h3)) (fun b hb => ?_)
  exact .some ⟨h1, h2, hb.1, hb.2.1, (h3.trans hb.2.2).le' (by omega)⟩
theorem mutate3_ok {r : Gl17Rd} (h : ROk r 2) (p : GPattern) (hp : p.kids.length ≤ 1000) : Ret (m_spec_l3Mutate r p) (fun a => a.1.kids.length ≤ p.kids.length + 1 ∧ Nx r a.2 2) := by
  unfold m_spec_l3Mutate
  rw [app_ok (by simp [rowLimit]; omega)]
  simp only [Option.bind_some, List.nil_append]
  refine Ret.ctl (R := fun _ => False) (B := fun (s : Gl17Rd × Int × Int × Int × Int × (List GPattern)) => Nx r s.1 2 ∧ s.2.2.2.2.2.length ≤ p.kids.length + 1) ?_ (fun r hr => hr.elim) (fun s hs => .some ⟨hs.2, hs.1⟩)
  refine Ret.bind (pick_ok (h.le (by omega)) (by omega) (by omega)) (fun a ha => ?_)
  have hr1 : ROk a.2 1 := ROk.nx (c := 1) h ha.2.2
  refine Ret.ite (fun _ => Ret.bind (num_ok hr1 _ (by simp) (by simp)) (fun b hb => .some ⟨(ha.2.2.trans hb.2), by simp⟩)) (fun _ => ?_)
  refine Ret.ite (fun _ => Ret.bind (num_ok hr1 _ (by simp) (by simp)) (fun b hb => .some ⟨(ha.2.2.trans hb.2), by simp⟩)) (fun _ => ?_)
  refine Ret.ite (fun _ => Ret.bind (num_ok hr1 _ (by simp) (by simp)) (fun b hb => .some ⟨(ha.2.2.trans hb.2), by simp⟩)) (fun _ => ?_)
  refine Ret.ite (fun _ => ?_) (fun _ => ?_)
  · rw [app_ok (by simp [rowLimit]; omega)]
    exact .some ⟨ha.2.2.le' (by omega), by simp⟩
  refine Ret.ite (fun _ => ?_) (fun _ => ?_)
  · refine Ret.ite (fun c => ?_) (fun _ => .some ⟨ha.2.2.le' (by omega), by simp⟩)
    rw [ilt_true] at c
    simp only [lenZ] at c
    obtain ⟨x, hx, hm⟩ := idx_lt_ok (xs := p.kids) (i := 0) (by omega) (by omega)
    rw [hx]
    simp only [Option.bind_some]
    have : setI p.kids 0 (GPattern.mk 2 0 0 0 0 []) = some (p.kids.set 0 (GPattern.mk 2 0 0 0 0 [])) := by
      unfold setI
      rw [if_pos ⟨by omega, by show 0 < p.kids.length; omega⟩]
      rfl
    rw [this]
    exact .some ⟨ha.2.2.le' (by omega), by simp⟩
  refine Ret.ite (fun _ => Ret.bind (num_ok hr1 _ (by simp) (by simp)) (fun b hb => .some ⟨(ha.2.2.trans hb.2), by simp⟩)) (fun _ => ?_)
  exact .some ⟨ha.2.2.le' (by omega), by simp⟩
theorem mutate4_ok {r : Gl17Rd} (h : ROk r 10) (l : List GClause) (hl : l.length ≤ 8) (hk : ∀ c ∈ l, c.pat.kids.length ≤ 100) : Ret (m_spec_l4Mutate NN r l) (fun a => a.1.length ≤ 9 ∧ Nx r a.2 10) := by
  unfold m_spec_l4Mutate
  rw [app_ok (by simp [rowLimit]; omega)]
  simp only [Option.bind_some, List.nil_append]
  refine Ret.ctl (R := fun _ => False) (B := fun (s : Gl17Rd × (List GClause)) => Nx r s.1 10 ∧ s.2.length ≤ 9) ?_ (fun r hr => hr.elim) (fun s hs => .some ⟨hs.2, hs.1⟩)
  refine Ret.bind (pick_ok (h.le (by omega)) (by omega) (by omega)) (fun a ha => ?_)
  have hr1 : ROk a.2 9 := ROk.nx (c := 1) h ha.2.2
  have hset : ∀ c : GClause, 0 < l.length → setI l 0 c = some (l.set 0 c) := fun c h0 => by
    unfold setI
    rw [if_pos ⟨by omega, by show 0 < l.length; omega⟩]
    rfl
  have pass : Ret (some (Ctl.brk (ρ := List GClause × Gl17Rd) (a.2, l))) (CtlQ (fun _ => False) (fun (s : Gl17Rd × (List GClause)) => Nx r s.1 10 ∧ s.2.length ≤ 9)) := .some ⟨ha.2.2.le' (by omega), by simp only; omega⟩
  refine Ret.ite (fun _ => ?_) (fun _ => ?_)
  · refine Ret.ite (fun c => ?_) (fun _ => pass)
    rw [ilt_true] at c
    simp only [lenZ] at c
    refine Ret.bind (num_ok (hr1.le (by omega)) _ (by simp) (by simp)) (fun b hb => ?_)
    have hr2 : ROk b.2 8 := ROk.nx (c := 1) hr1 hb.2
    refine Ret.bind (num_ok (hr2.le (by omega)) _ (by simp) (by simp)) (fun d hd => ?_)
    have hr3 : ROk d.2 7 := ROk.nx (c := 1) hr2 hd.2
    refine Ret.bind (num_ok (hr3.le (by omega)) _ (by simp) (by simp)) (fun e he => ?_)
    obtain ⟨x, hx, hm⟩ := idx_lt_ok (xs := l) (i := 0) (by omega) (by omega)
    rw [hx]
    simp only [Option.bind_some]
    rw [hset _ (by omega)]
    exact .some ⟨(((ha.2.2.trans hb.2).trans hd.2).trans he.2).le' (by omega), by simp; omega⟩
  refine Ret.ite (fun _ => ?_) (fun _ => ?_)
  · refine Ret.ite (fun c => ?_) (fun _ => pass)
    rw [ilt_true] at c
    simp only [lenZ] at c
    obtain ⟨x, hx, hm⟩ := idx_lt_ok (xs := l) (i := 0) (by omega) (by omega)
    have hxk := hk x hm
    rw [hx]
    simp only [Option.bind_some]
    refine Ret.bind (mutate3_ok (hr1.le (by omega)) x.pat (by omega)) (fun b hb => ?_)
    have hr2 : ROk b.2 7 := ROk.nx (c := 2) hr1 hb.2
    refine Ret.bind (mutate3_ok (hr2.le (by omega)) b.1 (by have := hb.1; omega)) (fun d hd => ?_)
    rw [hset _ (by omega)]
    exact .some ⟨((ha.2.2.trans hb.2).trans hd.2).le' (by omega), by simp; omega⟩
  refine Ret.ite (fun _ => ?_) (fun _ => pass)
  refine Ret.ctl (whileL_rule (fun (s : List GClause) => s.length ≤ 9) (fun s => 9 - s.length) (fun _ => False) (fun s => s.length ≤ 9) (by omega) (fun s hI => ?_) NN (by show 9 - l.length < 400; omega)) (fun r hr => hr.elim) (fun s hs => .some ⟨ha.2.2.le' (by omega), hs⟩)
  refine Ret.ite (fun c => ?_) (fun _ => .some hI)
  rw [ile_true] at c
  simp only [lenZ] at c
  rw [app_ok (by simp [rowLimit]; omega)]
  exact .some ⟨by simp; omega, by simp; omega⟩
theorem valid_kids {w : List GData} (hw : WW w) {t : GType} (ht : t ∈ tys w) {p : GPattern} (h : validP w t p = true) : p.kids.length ≤ 3 := by
  obtain ⟨ho, hl⟩ := node_own (good_node (valid_good h).1)
  rw [hl]
  exact kidsT_len (hw.ty t ht) ho
theorem missing_ok (code : List Int) (hb : ∀ x ∈ code, 0 ≤ x ∧ x ≤ 255) : Ret (m_spec_DrawMissingPatterns NN code) (fun a => a.1 ∈ worlds ∧ a.2.1 ∈ tys a.1 ∧ a.2.2.length ≤ 9) := by
  unfold m_spec_DrawMissingPatterns
  refine Ret.bind (open_ok code hb) (fun r hr => ?_)
  refine Ret.bind (typed4_ok (hr.le (by omega))) (fun a ha => ?_)
  obtain ⟨h1, h2, h3, h4, h5⟩ := ha
  have hr1 : ROk a.2.2.2.2 1000 := ROk.nx (c := 4000) (hr.le (by omega)) h5
  refine Ret.ctl (R := fun _ => False) (B := fun (s : Gl17Rd × List GClause) => ROk s.1 100 ∧ s.2.length ≤ 8 ∧ ∀ c ∈ s.2, c.pat.kids.length ≤ 100) ?_ (fun r hr => hr.elim) (fun s hs => ?_)
  · have hk : ∀ c ∈ a.2.2.1, c.pat.kids.length ≤ 100 := fun c hc => by have := valid_kids (ww h1) h2 (h3 c hc); omega
    refine Ret.ite (fun _ => ?_) (fun _ => .some ⟨hr1.le (by omega), by simp only; omega, hk⟩)
    refine Ret.bind (pick_ok (hr1.le (by omega)) (by omega) (by omega)) (fun b hb => ?_)
    have hr2 : ROk b.2 999 := ROk.nx (c := 1) hr1 hb.2.2
    refine Ret.ite (fun _ => ?_) (fun _ => .some ⟨hr2.le (by omega), by simp only; omega, hk⟩)
    simp only [m_spec_l5Any, Option.bind_some]
    rw [app_ok (by simp [rowLimit]; omega)]
    refine .some ⟨hr2.le (by omega), by simp; omega, fun c hc => ?_⟩
    rcases List.mem_append.1 hc with hc | hc
    · exact hk c hc
    · simp at hc; subst hc; simp
  · refine Ret.bind (mutate4_ok (hs.1.le (by omega)) s.2 hs.2.1 hs.2.2) (fun b hb => .some ⟨h1, h2, hb.1⟩)
theorem closed_ok (code : List Int) (hb : ∀ x ∈ code, 0 ≤ x ∧ x ≤ 255) : Ret (m_spec_DrawClosedClauses NN code) (fun a => a.1 ∈ worlds ∧ a.2.1 ∈ tys a.1 ∧ a.2.2.length ≤ 9) := by
  unfold m_spec_DrawClosedClauses
  exact Ret.bind (missing_ok code hb) (fun a ha => .some ha)
end Go.Proofs.YtimpchdgflhkaaaGreat
namespace Go.Proofs.YtimpchdgflhkaaaGreat
open Go Go.RowKit
theorem ite_and2 {α : Type} (p q : Bool) (x y : α) : (if p = true then (if q = true then x else y) else y) = if (p && q) = true then x else y := by cases p <;> cases q <;> rfl
def rng (n m : Int) : GPattern := if (ieq n 0 && ieq m 9) = true then anyP else GPattern.mk 3 0 n m 0 []
theorem ranged_ok (n m : Int) : m_impl_ranged n m = some (rng n m) := by
  unfold m_impl_ranged rng m_impl_anyPattern
  cases ieq n 0 <;> cases ieq m 9 <;> rfl
theorem int11_ok (n m : Int) : m_spec_l11Int n m = some (rng n m) := by
  unfold m_spec_l11Int rng m_spec_l5Any
  cases ieq n 0 <;> cases ieq m 9 <;> rfl
theorem implOr_eq {n : Nat} {w : List GData} {t : GType} {p a b : GPattern} {E V AA AB : Bool} {cs : List Int} (hk : p.kids = [a, b]) (hE : m_impl_PatternSame n a b = some E) (hV : m_impl_hasVars n a = some V)
    (hAA : m_impl_allAny a.kids = some AA) (hAB : m_impl_allAny b.kids = some AB) (hc : m_impl_ctorsOf w t = some cs) :
    m_impl_simplifyOr n w t p = some (if E = true then a else if ieq a.op 1 = true then a else if (ieq a.op 3 && (ieq b.op 3 && (ile a.n (wadd .i64 b.m 1) && ile b.n (wadd .i64 a.m 1)))) = true then rng (imin a.n b.n) (imax a.m b.m)
      else if (ieq b.op 1 && !V) = true then anyP else if (ieq a.op 4 && (ieq b.op 4 && (!ieq a.ctor b.ctor && (AA && (AB && ieq (lenZ cs.length) 2))))) = true then anyP else p) := by
  have i0 : idx p.kids 0 = some a := by rw [hk]; rfl
  have i1 : idx p.kids 1 = some b := by rw [hk]; rfl
  unfold m_impl_simplifyOr
  simp only [i0, i1, Option.bind_some, hE, hV, hAA, hAB, hc, ranged_ok, m_impl_anyPattern, ite_and2, Bool.and_assoc]
  generalize (ieq a.op 3 && (ieq b.op 3 && (ile a.n (wadd .i64 b.m 1) && ile b.n (wadd .i64 a.m 1)))) = x1
  generalize (ieq b.op 1 && !V) = x2
  generalize (ieq a.op 4 && (ieq b.op 4 && (!ieq a.ctor b.ctor && (AA && (AB && ieq (lenZ cs.length) 2))))) = x3
  generalize ieq a.op 1 = x4
  cases E <;> cases x4 <;> cases x1 <;> cases x2 <;> cases x3 <;> rfl
theorem specOr_eq {n : Nat} {w : List GData} {t : GType} {a b : GPattern} {E AA AB : Bool} {vs : List GVarType} {cs : List Int} (hE : m_spec_PatternSame n a b = some E) (hV : m_spec_l3Vars n [] w t a = some vs)
    (hAA : m_spec_l11Wide a = some AA) (hAB : m_spec_l11Wide b = some AB) (hc : m_spec_l1Ctors w t = some cs) :
    m_spec_l11Or n w t a b = some (if E = true then a else if ieq a.op 1 = true then a else if (ieq a.op 3 && (ieq b.op 3 && (ile a.n (wadd .i64 b.m 1) && ile b.n (wadd .i64 a.m 1)))) = true then rng (if ilt b.n a.n = true then b.n else a.n) (if ilt a.m b.m = true then b.m else a.m)
      else if (ieq b.op 1 && ieq (lenZ vs.length) 0) = true then b else if (ieq a.op 4 && (ieq b.op 4 && (AA && (AB && (!ieq a.ctor b.ctor && ieq (lenZ cs.length) 2))))) = true then anyP else GPattern.mk 5 0 0 0 0 [a, b]) := by
  unfold m_spec_l11Or
  simp only [Option.bind_some, hE, hV, hAA, hAB, hc, int11_ok, m_spec_l5Any, m_spec_l11Whole, ite_and2, Bool.and_assoc]
  generalize (ieq a.op 3 && (ieq b.op 3 && (ile a.n (wadd .i64 b.m 1) && ile b.n (wadd .i64 a.m 1)))) = x1
  generalize (ieq b.op 1 && ieq (lenZ vs.length) 0) = x2
  generalize (ieq a.op 4 && (ieq b.op 4 && (AA && (AB && (!ieq a.ctor b.ctor && ieq (lenZ cs.length) 2))))) = x3
  generalize ieq a.op 1 = x4
  cases E <;> cases x4 <;> cases x1 <;> cases x2 <;> cases x3 <;> first | rfl | (cases ilt b.n a.n <;> cases ilt a.m b.m <;> rfl)
structure Keep (w : List GData) (d : Nat) (t : GType) (q p : GPattern) : Prop where
  g : goodB w d t q = true
  l : linD w d t q = true
  v : varsD w d t q = varsD w d t p
  c : cntP q ≤ cntP p
  m : ∀ (e : Nat) (u : GValue), goodV w e t u → matchD d q u = matchD d p u
theorem any_good (w : List GData) (d : Nat) (t : GType) : goodB w (d + 1) t anyP = true := by simp [goodB, nodeOk, ownOk, kidsT, anyP]
theorem any_lin (w : List GData) (d : Nat) (t : GType) : linD w (d + 1) t anyP = true := by simp [linD, varsD, kidsT, anyP, ownV, distinct]
theorem any_vars (w : List GData) (d : Nat) (t : GType) : varsD w (d + 1) t anyP = [] := by simp [varsD, kidsT, anyP, ownV]
theorem any_cnt : cntP anyP = 1 := by simp [anyP, cntP, cntP.cntPs]
theorem any_match (d : Nat) (u : GValue) : matchD (d + 1) anyP u = some [] := by simp [matchD, anyP]
theorem any_of_good {w : List GData} {t : GType} {p : GPattern} (h : nodeOk w t p = true) (h1 : p.op = 1) : p = anyP := by
  obtain ⟨ho, hl⟩ := node_own h
  simp [ownOk, h1] at ho
  simp [kidsT, h1] at hl
  exact GPattern.ext' h1 ho.2 ho.1.2.1 ho.1.2.2 ho.1.1 hl
theorem rng_keep {w : List GData} {t : GType} {n m : Int} (d : Nat) (ht : t.data = -1) (h0 : 0 ≤ n) (hnm : n ≤ m) (hm : m ≤ 9) : goodB w (d + 1) t (rng n m) = true ∧ linD w (d + 1) t (rng n m) = true ∧ varsD w (d + 1) t (rng n m) = [] ∧ cntP (rng n m) = 1 ∧
    ∀ (e : Nat) (u : GValue), goodV w e t u → matchD (d + 1) (rng n m) u = if n ≤ u.n ∧ u.n ≤ m then some [] else none := by
  unfold rng
  by_cases h : (ieq n 0 && ieq m 9) = true
  · rw [if_pos h]
    rw [Bool.and_eq_true, ieq_true, ieq_true] at h
    refine ⟨any_good w d t, any_lin w d t, any_vars w d t, any_cnt, fun e u hu => ?_⟩
    rw [any_match]
    cases e with
    | zero => exact hu.elim
    | succ e =>
      simp only [goodV, if_pos ht] at hu
      rw [if_pos ⟨by omega, by omega⟩]
  · rw [if_neg h]
    refine ⟨by simp [goodB, nodeOk, ownOk, kidsT, ht, h0, hnm, hm], by simp [linD, varsD, kidsT, ownV, distinct], by simp [varsD, kidsT, ownV], by simp [cntP, cntP.cntPs], fun e u hu => by simp [matchD]⟩
def orP (a b : GPattern) : GPattern := GPattern.mk 5 0 0 0 0 [a, b]
theorem or_good {w : List GData} {d : Nat} {t : GType} {a b : GPattern} (ga : goodB w d t a = true) (gb : goodB w d t b = true) : goodB w (d + 1) t (orP a b) = true := by simp [goodB, nodeOk, ownOk, kidsT, orP, ga, gb]
theorem or_lin {w : List GData} {d : Nat} {t : GType} {a b : GPattern} (la : linD w d t a = true) (lb : linD w d t b = true) (hal : alikeB (varsD w d t a) (varsD w d t b) = true) : linD w (d + 1) t (orP a b) = true := by simp [linD, kidsT, orP, kv, la, lb, hal]
theorem or_vars (w : List GData) (d : Nat) (t : GType) (a b : GPattern) : varsD w (d + 1) t (orP a b) = varsD w d t a := by simp [varsD, kidsT, orP, ownV]
theorem or_cnt (a b : GPattern) : cntP (orP a b) = 1 + (cntP a + cntP b) := by simp [orP, cntP, cntP.cntPs]
theorem or_match (d : Nat) (a b : GPattern) (u : GValue) : matchD (d + 1) (orP a b) u = match matchD d a u with | some l => some l | none => matchD d b u := by simp [matchD, orP] <;> (cases matchD d a u <;> rfl)
theorem matchL_any {d : Nat} : ∀ {ps : List GPattern} {vs : List GValue}, (∀ q ∈ ps, q = anyP) → ps.length = vs.length → matchL (matchD (d + 1)) ps vs = some []
  | [], _, _, _ => rfl
  | q :: ps, [], _, h => by simp at h
  | q :: ps, v :: vs, hq, h => by
    simp only [matchL]
    rw [hq q (by simp), any_match, matchL_any (fun x hx => hq x (by simp [hx])) (by simpa using h)]
    rfl
theorem or_ok {w : List GData} (hw : WW w) {d n : Nat} {t : GType} {a b : GPattern} (ht : t ∈ tys w) (ga : goodB w d t a = true) (gb : goodB w d t b = true) (la : linD w d t a = true) (lb : linD w d t b = true)
    (hal : alikeB (varsD w d t a) (varsD w d t b) = true) (hc : cntP a + cntP b ≤ 1000) (hn : d + 10 ≤ n) :
    ∃ q, m_impl_simplifyOr n w t (orP a b) = some q ∧ m_spec_l11Or n w t a b = some q ∧ Keep w (d + 1) t q (orP a b) := by
  have hT := hw.ty t ht
  obtain ⟨E, hE, hEq⟩ := implSame_ok d n a b (good_deep d t a ga) (by omega)
  obtain ⟨E', hE', hEq'⟩ := specSame_ok d n a b (good_deep d t a ga) (by omega)
  have hEE : E' = E := by rw [Bool.eq_iff_iff, hEq, hEq']
  subst hEE
  have hV := hasVars_ok d n t a ga la (by omega)
  have hV' := (specVars_ok hw d n t a [] ht ga (by omega) (by simp; omega)).1
  rw [List.nil_append] at hV'
  rw [implOr_eq (p := orP a b) rfl hE hV (allAny_ok _) (allAny_ok _) hT.c2, specOr_eq hE' hV' (wide_ok a) (wide_ok b) hT.c1]
  obtain ⟨ma1, ma2, ma3, ma4⟩ := mono_all d t a ga
  obtain ⟨oa, hla⟩ := node_own (good_node ga)
  obtain ⟨ob, hlb⟩ := node_own (good_node gb)
  have hoc := or_cnt a b
  have hov := or_vars w d t a b
  obtain ⟨d, rfl⟩ : ∃ d', d = d' + 1 := by cases d with
    | zero => cases ga
    | succ d => exact ⟨d, rfl⟩
  have keepA : (∀ (e : Nat) (u : GValue), goodV w e t u → (match matchD (d + 1) a u with | some l => some l | none => matchD (d + 1) b u) = matchD (d + 1) a u) → Keep w (d + 1 + 1) t a (orP a b) := fun h =>
    ⟨ma1, by rw [ma3]; exact la, by rw [ma2, hov], by omega, fun e u hu => by rw [ma4, or_match]; exact (h e u hu).symm⟩
  have keepAny : varsD w (d + 1) t a = [] → (∀ (e : Nat) (u : GValue), goodV w e t u → (match matchD (d + 1) a u with | some l => some l | none => matchD (d + 1) b u) = some []) → Keep w (d + 1 + 1) t anyP (orP a b) := fun hv h =>
    ⟨any_good w _ t, any_lin w _ t, by rw [any_vars, hov, hv], by rw [any_cnt]; omega, fun e u hu => by rw [any_match, or_match]; exact (h e u hu).symm⟩
  cases hEb : E' with
  | true =>
    have : a = b := hEq.1 hEb
    refine ⟨a, rfl, rfl, keepA fun e u hu => ?_⟩
    rw [← this]
    cases matchD (d + 1) a u <;> rfl
  | false =>
    simp only [Bool.false_eq_true, if_false]
    by_cases hA : a.op = 1
    · have yA : ieq a.op 1 = true := by rw [ieq_true]; exact hA
      rw [if_pos yA, if_pos yA]
      have := any_of_good (good_node ga) hA
      refine ⟨a, rfl, rfl, keepA fun e u hu => ?_⟩
      rw [this, any_match]
    · have nA : ¬ ieq a.op 1 = true := by rw [ieq_true]; exact hA
      rw [if_neg nA, if_neg nA]
      by_cases hR : (ieq a.op 3 && (ieq b.op 3 && (ile a.n (wadd .i64 b.m 1) && ile b.n (wadd .i64 a.m 1)))) = true
      · rw [if_pos hR, if_pos hR]
        simp only [Bool.and_eq_true, ieq_true, ile_true] at hR
        obtain ⟨a3, b3, r1, r2⟩ := hR
        simp [ownOk, a3] at oa
        simp [ownOk, b3] at ob
        rw [wadd_ok (by omega) (by omega)] at r1 r2
        have e1 : (if ilt b.n a.n = true then b.n else a.n) = imin a.n b.n := by simp [imin, ilt]
        have e2 : (if ilt a.m b.m = true then b.m else a.m) = imax a.m b.m := by simp [imax, ilt]
        rw [e1, e2]
        have hmn : imin a.n b.n = min a.n b.n := by unfold imin; omega
        have hmx : imax a.m b.m = max a.m b.m := by unfold imax; omega
        rw [hmn, hmx]
        obtain ⟨k1, k2, k3, k4, k5⟩ := rng_keep (w := w) (n := min a.n b.n) (m := max a.m b.m) (d + 1) oa.2.1.1.1 (by omega) (by omega) (by omega)
        refine ⟨_, rfl, rfl, k1, k2, ?_, by omega, fun e u hu => ?_⟩
        · rw [k3, hov]
          simp [varsD, ownV, a3, kidsT]
        · rw [k5 e u hu, or_match]
          have m1 : matchD (d + 1) a u = if a.n ≤ u.n ∧ u.n ≤ a.m then some [] else none := by simp [matchD, a3]
          have m2 : matchD (d + 1) b u = if b.n ≤ u.n ∧ u.n ≤ b.m then some [] else none := by simp [matchD, b3]
          rw [m1, m2]
          by_cases c1 : a.n ≤ u.n ∧ u.n ≤ a.m
          · rw [if_pos c1, if_pos (by omega)]
          · rw [if_neg c1]
            by_cases c2 : b.n ≤ u.n ∧ u.n ≤ b.m
            · simp only [if_pos c2]
              rw [if_pos (by omega)]
            · simp only [if_neg c2]
              rw [if_neg (by omega)]
      · rw [if_neg hR, if_neg hR]
        have hvv : (!decide (varsD w (d + 1) t a ≠ [])) = ieq (lenZ (varsD w (d + 1) t a).length) 0 := by
          rw [Bool.eq_iff_iff]
          simp [ieq, lenZ]
        rw [hvv]
        by_cases hB : (ieq b.op 1 && ieq (lenZ (varsD w (d + 1) t a).length) 0) = true
        · rw [if_pos hB, if_pos hB]
          simp only [Bool.and_eq_true, ieq_true, lenZ] at hB
          have hb := any_of_good (good_node gb) hB.1
          have hv : varsD w (d + 1) t a = [] := List.eq_nil_of_length_eq_zero (by omega)
          refine ⟨anyP, rfl, by rw [hb], keepAny hv fun e u hu => ?_⟩
          cases hm : matchD (d + 1) a u with
          | some l => rw [noVars_match (d + 1) t a ga la hv u l hm]
          | none => rw [hb]; exact any_match d u
        · rw [if_neg hB, if_neg hB]
          have hcc : (ieq a.op 4 && (ieq b.op 4 && ((a.kids.all fun q => decide (q.op = 1)) && ((b.kids.all fun q => decide (q.op = 1)) && (!ieq a.ctor b.ctor && ieq (lenZ (ctorsP w t).length) 2))))) =
              (ieq a.op 4 && (ieq b.op 4 && (!ieq a.ctor b.ctor && ((a.kids.all fun q => decide (q.op = 1)) && ((b.kids.all fun q => decide (q.op = 1)) && ieq (lenZ (ctorsP w t).length) 2))))) := by
            cases (a.kids.all fun q => decide (q.op = 1)) <;> cases (b.kids.all fun q => decide (q.op = 1)) <;> cases ieq a.ctor b.ctor <;> rfl
          rw [hcc]
          by_cases hC : (ieq a.op 4 && (ieq b.op 4 && (!ieq a.ctor b.ctor && ((a.kids.all fun q => decide (q.op = 1)) && ((b.kids.all fun q => decide (q.op = 1)) && ieq (lenZ (ctorsP w t).length) 2))))) = true
          · rw [if_pos hC, if_pos hC]
            simp only [Bool.and_eq_true, ieq_true, lenZ, Bool.not_eq_true', ieq_false, List.all_eq_true, decide_eq_true_eq] at hC
            obtain ⟨a4, b4, hne, aa, ab, h2⟩ := hC
            have allA : ∀ (p : GPattern), p.op = 4 → goodB w (d + 1) t p = true → (∀ q ∈ p.kids, q.op = 1) → (∀ q ∈ p.kids, q = anyP) ∧ ∃ d', d = d' + 1 ∨ p.kids = [] := fun p h4 gp hp => by
              obtain ⟨op, hlp⟩ := node_own (good_node gp)
              have hk : ∀ q ∈ p.kids, q = anyP := fun q hq => by
                obtain ⟨j, hj⟩ := List.mem_iff_getElem?.1 hq
                have hjl := (List.getElem?_eq_some_iff.1 hj).1
                have ha : (kidsT w t p)[j]? = some ((kidsT w t p)[j]'(by omega)) := by simp
                exact any_of_good (good_node (good_kid gp ha hj)) (hp q hq)
              refine ⟨hk, ?_⟩
              cases d with
              | zero =>
                refine ⟨0, .inr ?_⟩
                match hkids : p.kids with
                | [] => rfl
                | q :: ps =>
                  have ha : (kidsT w t p)[0]? = some ((kidsT w t p)[0]'(by rw [← hlp, hkids]; simp)) := by simp
                  have := good_kid gp ha (q := q) (by rw [hkids]; rfl)
                  cases this
              | succ d => exact ⟨d, .inl rfl⟩
            have kidsAny : ∀ (p : GPattern), p.op = 4 → goodB w (d + 1) t p = true → (∀ q ∈ p.kids, q.op = 1) → varsD w (d + 1) t p = [] ∧ ∀ (u : GValue), p.ctor = u.ctor → p.kids.length = u.kids.length → matchD (d + 1) p u = some [] := fun p h4 gp hp => by
              obtain ⟨hk, d', hd⟩ := allA p h4 gp hp
              refine ⟨?_, fun u hu hlu => ?_⟩
              · simp only [varsD, ownV, h4]
                simp only [show ¬ ((4 : Int) = 2 ∨ (4 : Int) = 6) by decide, if_false, List.nil_append]
                rw [flat_nil]
                intro x hx
                have hx := List.mem_of_mem_take hx
                have hxm := (List.of_mem_zip hx).2
                rcases hd with rfl | hd
                · rw [hk _ hxm]; exact any_vars w d' _
                · rw [hd] at hxm; cases hxm
              · simp only [matchD, h4]
                simp only [show ¬ (4 : Int) = 1 by decide, show ¬ (4 : Int) = 2 by decide, show ¬ (4 : Int) = 3 by decide, show ¬ (4 : Int) = 5 by decide, show ¬ (4 : Int) = 6 by decide, if_false, if_pos hu]
                rcases hd with rfl | hd
                · exact matchL_any hk hlu
                · rw [hd]; rfl
            obtain ⟨va, mA⟩ := kidsAny a a4 ga aa
            obtain ⟨vb, mB⟩ := kidsAny b b4 gb ab
            refine ⟨anyP, rfl, rfl, keepAny va fun e u hu => ?_⟩
            cases e with
            | zero => exact hu.elim
            | succ e =>
              have hcma := own_ctor oa a4
              have hcmb := own_ctor ob b4
              have hdata : t.data ≠ -1 := fun hd => by
                obtain ⟨rfl, _⟩ := hT.ti hd
                have : ctorsP w tI = [] := rfl
                rw [this] at hcma
                cases hcma
              simp only [goodV, if_neg hdata] at hu
              obtain ⟨u1, u2, u3, u4⟩ := hu
              have hka : kidsT w t a = argsP w t a.ctor := by simp [kidsT, a4]
              have hkb : kidsT w t b = argsP w t b.ctor := by simp [kidsT, b4]
              have two : u.ctor = a.ctor ∨ u.ctor = b.ctor := by
                have h2' : (ctorsP w t).length = 2 := by omega
                match hcs : ctorsP w t, h2' with
                | [x, y], _ =>
                  rw [hcs] at hcma hcmb u2
                  simp only [List.mem_cons, List.not_mem_nil, or_false] at hcma hcmb u2
                  omega
              rcases two with h | h
              · rw [mA u h.symm (by rw [u3, hla, hka, h])]
              · cases hm : matchD (d + 1) a u with
                | some l => rw [noVars_match (d + 1) t a ga la va u l hm]
                | none => exact mB u h.symm (by rw [u3, hlb, hkb, h])
          · rw [if_neg hC, if_neg hC]
            exact ⟨orP a b, rfl, rfl, or_good ga gb, or_lin la lb hal, rfl, Nat.le_refl _, fun _ _ _ => rfl⟩
end Go.Proofs.YtimpchdgflhkaaaGreat
namespace Go.Proofs.YtimpchdgflhkaaaGreat
open Go Go.RowKit
theorem Keep.refl {w : List GData} {d : Nat} {t : GType} {p : GPattern} (g : goodB w d t p = true) (l : linD w d t p = true) : Keep w d t p p := ⟨g, l, rfl, Nat.le_refl _, fun _ _ _ => rfl⟩
theorem Keep.trans {w : List GData} {d : Nat} {t : GType} {a b c : GPattern} (h : Keep w d t a b) (k : Keep w d t b c) : Keep w d t a c := ⟨h.g, h.l, h.v.trans k.v, Nat.le_trans h.c k.c, fun e u hu => (h.m e u hu).trans (k.m e u hu)⟩
def KeepK (w : List GData) (d : Nat) (t : GType) (p : GPattern) (ks : List GPattern) : Prop :=
  ks.length = p.kids.length ∧ ∀ (j : Nat) (a : GType) (s q : GPattern), (kidsT w t p)[j]? = some a → ks[j]? = some s → p.kids[j]? = some q → Keep w d a s q
theorem cntPs_le : ∀ (l m : List GPattern), l.length = m.length → (∀ (j : Nat) (s q : GPattern), l[j]? = some s → m[j]? = some q → cntP s ≤ cntP q) → cntP.cntPs l ≤ cntP.cntPs m
  | [], [], _, _ => Nat.le_refl _
  | [], _ :: _, h, _ => by simp at h
  | _ :: _, [], h, _ => by simp at h
  | s :: l, q :: m, h, hh => by
    have := cntPs_le l m (by simpa using h) fun j s' q' h1 h2 => hh (j + 1) s' q' (by simpa using h1) (by simpa using h2)
    have := hh 0 s q rfl rfl
    simp only [cntP.cntPs]
    omega
theorem zip_flat {β : Type} {ts : List GType} {l m : List GPattern} {f : GType × GPattern → List β} (hl : l.length = m.length) (h : ∀ (j : Nat) (a : GType) (s q : GPattern), ts[j]? = some a → l[j]? = some s → m[j]? = some q → f (a, s) = f (a, q)) (n : Nat) : ((ts.zip l).take n).flatMap f = ((ts.zip m).take n).flatMap f := by
  induction ts generalizing l m n with
  | nil => simp
  | cons a ts ih =>
    match l, m, hl with
    | [], [], _ => simp
    | s :: l, q :: m, hl =>
      cases n with
      | zero => simp
      | succ n =>
        simp only [List.zip_cons_cons, List.take_succ_cons, List.flatMap_cons]
        rw [h 0 a s q rfl rfl rfl, ih (by simpa using hl) (fun j a' s' q' h1 h2 h3 => h (j + 1) a' s' q' (by simpa using h1) (by simpa using h2) (by simpa using h3))]
theorem rebuild {w : List GData} {d : Nat} {t : GType} (hT : WT w t) {p : GPattern} {ks : List GPattern} (g : goodB w (d + 1) t p = true) (l : linD w (d + 1) t p = true) (hk : KeepK w d t p ks) : Keep w (d + 1) t (GPattern.mk p.op p.ctor p.n p.m p.var ks) p := by
  obtain ⟨hkl, hkk⟩ := hk
  obtain ⟨ho, hl⟩ := node_own (good_node g)
  have hkt : kidsT w t (GPattern.mk p.op p.ctor p.n p.m p.var ks) = kidsT w t p := rfl
  have hget : ∀ j, j < ks.length → ∃ a s q, (kidsT w t p)[j]? = some a ∧ ks[j]? = some s ∧ p.kids[j]? = some q := fun j hj => ⟨(kidsT w t p)[j]'(by omega), ks[j], p.kids[j]'(by omega), by simp, by simp, by simp⟩
  have hz : ∀ x ∈ (kidsT w t p).zip ks, ∃ q, Keep w d x.1 x.2 q := fun x hx => by
    obtain ⟨j, hj⟩ := List.mem_iff_getElem?.1 hx
    obtain ⟨h3, h4⟩ := List.getElem?_zip_eq_some.1 hj
    obtain ⟨a, s, q, e1, e2, e3⟩ := hget j ((List.getElem?_eq_some_iff.1 h4).1)
    exact ⟨q, hkk j x.1 x.2 q h3 h4 e3⟩
  have gv : varsD w (d + 1) t (GPattern.mk p.op p.ctor p.n p.m p.var ks) = varsD w (d + 1) t p := by
    show ownV t p ++ (((kidsT w t p).zip ks).take (if p.op = 5 then 1 else ks.length)).flatMap (fun x => varsD w d x.1 x.2) = ownV t p ++ (((kidsT w t p).zip p.kids).take (if p.op = 5 then 1 else p.kids.length)).flatMap (fun x => varsD w d x.1 x.2)
    congr 1
    rw [hkl]
    exact zip_flat hkl (fun j a s q h1 h2 h3 => (hkk j a s q h1 h2 h3).v) _
  have gkv : ∀ i, kv w d t (GPattern.mk p.op p.ctor p.n p.m p.var ks) i = kv w d t p i := fun i => by
    unfold kv
    rw [hkt]
    rcases Nat.lt_or_ge i ks.length with hi | hi
    · obtain ⟨a, s, q, e1, e2, e3⟩ := hget i hi
      rw [show (GPattern.mk p.op p.ctor p.n p.m p.var ks).kids = ks from rfl, zip_get e1 e2, zip_get e1 e3]
      exact (hkk i a s q e1 e2 e3).v
    · rw [show (GPattern.mk p.op p.ctor p.n p.m p.var ks).kids = ks from rfl, List.getElem?_eq_none (by rw [List.length_zip]; omega), List.getElem?_eq_none (by rw [List.length_zip]; omega)]
  have hlin := l
  simp only [linD, Bool.and_eq_true, List.all_eq_true] at hlin
  refine ⟨?_, ?_, gv, ?_, fun e u hu => ?_⟩
  · rw [goodB]
    have : nodeOk w t (GPattern.mk p.op p.ctor p.n p.m p.var ks) = true := by
      have h1 : ownOk w t (GPattern.mk p.op p.ctor p.n p.m p.var ks) = ownOk w t p := rfl
      simp only [nodeOk, h1, ho, Bool.true_and, decide_eq_true_eq, hkt]
      omega
    rw [this, Bool.true_and, List.all_eq_true, hkt]
    intro x hx
    obtain ⟨q, hq⟩ := hz x hx
    exact hq.g
  · rw [linD, Bool.and_eq_true, List.all_eq_true, hkt, gkv, gkv, gv]
    exact ⟨fun x hx => by obtain ⟨q, hq⟩ := hz x hx; exact hq.l, hlin.2⟩
  · rw [cntP_eq, cntP_eq]
    have := cntPs_le ks p.kids hkl fun j s q h1 h2 => by
      obtain ⟨a, s', q', e1, e2, e3⟩ := hget j ((List.getElem?_eq_some_iff.1 h1).1)
      exact (hkk j a s q e1 h1 h2).c
    show 1 + cntP.cntPs ks ≤ _
    omega
  · rw [matchD, matchD]
    show (if p.op = 1 then _ else if p.op = 2 then _ else if p.op = 3 then _ else if p.op = 5 then _ else if p.op = 6 then _ else if p.ctor = u.ctor then matchL (matchD d) ks u.kids else none) = _
    by_cases h1 : p.op = 1
    · rw [if_pos h1, if_pos h1]
    rw [if_neg h1, if_neg h1]
    by_cases h2 : p.op = 2
    · rw [if_pos h2, if_pos h2]
    rw [if_neg h2, if_neg h2]
    by_cases h3 : p.op = 3
    · rw [if_pos h3, if_pos h3]
    rw [if_neg h3, if_neg h3]
    by_cases h5 : p.op = 5
    · rw [if_pos h5, if_pos h5]
      obtain ⟨a, b, hkids, hk2⟩ := kid0 h5 hl
      rw [hkids] at hkl
      match ks, hkl, hkk with
      | [s, s'], _, hkk =>
        have k0 := hkk 0 t s a (by rw [hk2]; rfl) rfl (by rw [hkids]; rfl)
        have k1 := hkk 1 t s' b (by rw [hk2]; rfl) rfl (by rw [hkids]; rfl)
        rw [hkids]
        simp only
        rw [k0.m e u hu, k1.m e u hu]
    rw [if_neg h5, if_neg h5]
    by_cases h6 : p.op = 6
    · rw [if_pos h6, if_pos h6]
      obtain ⟨a, hkids, hk2⟩ := kid_of6 h6 hl
      rw [hkids] at hkl
      match ks, hkl, hkk with
      | [s], _, hkk =>
        have k0 := hkk 0 t s a (by rw [hk2]; rfl) rfl (by rw [hkids]; rfl)
        rw [hkids]
        simp only
        rw [k0.m e u hu]
    rw [if_neg h6, if_neg h6]
    by_cases hc : p.ctor = u.ctor
    · rw [if_pos hc, if_pos hc]
      have h4 : p.op = 4 := by
        simp [ownOk, h1, h2, h3, h5, h6] at ho
        exact ho.2.1
      have hcm := own_ctor ho h4
      have hdata : t.data ≠ -1 := fun hd => by
        obtain ⟨rfl, _⟩ := hT.ti hd
        have : ctorsP w tI = [] := rfl
        rw [this] at hcm
        cases hcm
      have hka : kidsT w t p = argsP w t p.ctor := by simp [kidsT, h4]
      cases e with
      | zero => exact hu.elim
      | succ e =>
        simp only [goodV, if_neg hdata] at hu
        obtain ⟨u1, u2, u3, u4⟩ := hu
        rw [← hc, ← hka] at u3 u4
        have gen : ∀ (ps : List GPattern) (qs : List GPattern) (vs : List GValue), ps.length = qs.length → (∀ (j : Nat) (s q : GPattern) (v : GValue), ps[j]? = some s → qs[j]? = some q → vs[j]? = some v → matchD d s v = matchD d q v) → matchL (matchD d) ps vs = matchL (matchD d) qs vs := by
          intro ps
          induction ps with
          | nil => intro qs vs hl _; cases qs with
            | nil => rfl
            | cons => simp at hl
          | cons s ps ihp =>
            intro qs vs hl hh
            cases qs with
            | nil => simp at hl
            | cons q qs =>
              cases vs with
              | nil => rfl
              | cons v vs =>
                simp only [matchL]
                rw [hh 0 s q v rfl rfl rfl, ihp qs vs (by simpa using hl) fun j s' q' v' h1 h2 h3 => hh (j + 1) s' q' v' (by simpa using h1) (by simpa using h2) (by simpa using h3)]
        refine gen ks p.kids u.kids hkl fun j s q v h1 h2 h3 => ?_
        obtain ⟨a, s', q', e1, e2, e3⟩ := hget j ((List.getElem?_eq_some_iff.1 h1).1)
        exact (hkk j a s q e1 h1 h2).m e v (u4 j a v e1 h3)
    · rw [if_neg hc, if_neg hc]
end Go.Proofs.YtimpchdgflhkaaaGreat
namespace Go.Proofs.YtimpchdgflhkaaaGreat
open Go Go.RowKit
theorem keepK_any {w : List GData} {d : Nat} {t : GType} {p : GPattern} (hT : WT w t) (g : goodB w (d + 1) t p = true) (h4 : p.op = 4) {ks : List GPattern} (hk : KeepK w d t p ks) (hall : ∀ q ∈ ks, q.op = 1) (h1 : (ctorsP w t).length = 1) :
    Keep w (d + 1) t anyP p := by
  obtain ⟨hkl, hkk⟩ := hk
  obtain ⟨ho, hl⟩ := node_own (good_node g)
  have hka : kidsT w t p = argsP w t p.ctor := by simp [kidsT, h4]
  have hcm := own_ctor ho h4
  have hget : ∀ j, j < ks.length → ∃ a s q, (kidsT w t p)[j]? = some a ∧ ks[j]? = some s ∧ p.kids[j]? = some q := fun j hj => ⟨(kidsT w t p)[j]'(by omega), ks[j], p.kids[j]'(by omega), by simp, by simp, by simp⟩
  have hany : ∀ (j : Nat) (a : GType) (s q : GPattern), (kidsT w t p)[j]? = some a → ks[j]? = some s → p.kids[j]? = some q → s = anyP ∧ d ≠ 0 := fun j a s q e1 e2 e3 => by
    have k := hkk j a s q e1 e2 e3
    refine ⟨any_of_good (good_node k.g) (hall s (List.mem_of_getElem? e2)), fun hd => ?_⟩
    subst hd
    cases k.g
  have hv : varsD w (d + 1) t p = [] := by
    rw [varsD]
    have : ownV t p = [] := by simp [ownV, h4]
    rw [this, List.nil_append, flat_nil]
    intro x hx
    have hx := List.mem_of_mem_take hx
    obtain ⟨j, hj⟩ := List.mem_iff_getElem?.1 hx
    obtain ⟨e1, e3⟩ := List.getElem?_zip_eq_some.1 hj
    obtain ⟨a, s, q, f1, f2, f3⟩ := hget j (by have := (List.getElem?_eq_some_iff.1 e3).1; omega)
    have k := hkk j x.1 s x.2 e1 f2 e3
    obtain ⟨rfl, hd⟩ := hany j x.1 s x.2 e1 f2 e3
    rw [← k.v]
    cases d with
    | zero => exact absurd rfl hd
    | succ d => exact any_vars w d _
  refine ⟨any_good w d t, any_lin w d t, by rw [any_vars, hv], by rw [any_cnt]; exact cntP_pos p, fun e u hu => ?_⟩
  rw [any_match]
  have hdata : t.data ≠ -1 := fun hd => by
    obtain ⟨rfl, _⟩ := hT.ti hd
    have : ctorsP w tI = [] := rfl
    rw [this] at hcm
    cases hcm
  cases e with
  | zero => exact hu.elim
  | succ e =>
    simp only [goodV, if_neg hdata] at hu
    obtain ⟨u1, u2, u3, u4⟩ := hu
    have hc : p.ctor = u.ctor := by
      match hcs : ctorsP w t, h1 with
      | [x], _ =>
        rw [hcs] at hcm u2
        simp only [List.mem_cons, List.not_mem_nil, or_false] at hcm u2
        omega
    rw [← hc, ← hka] at u3 u4
    rw [matchD]
    rw [if_neg (by omega), if_neg (by omega), if_neg (by omega), if_neg (by omega), if_neg (by omega), if_pos hc]
    have gen : ∀ (ps : List GPattern) (vs : List GValue), ps.length = vs.length → (∀ (j : Nat) (q : GPattern) (v : GValue), ps[j]? = some q → vs[j]? = some v → matchD d q v = some []) → matchL (matchD d) ps vs = some [] := by
      intro ps
      induction ps with
      | nil => intro vs _ _; rfl
      | cons q ps ihp =>
        intro vs hl hh
        cases vs with
        | nil => simp at hl
        | cons v vs =>
          simp only [matchL]
          rw [hh 0 q v rfl rfl, ihp vs (by simpa using hl) fun j q' v' e1 e2 => hh (j + 1) q' v' (by simpa using e1) (by simpa using e2)]
          rfl
    refine (gen p.kids u.kids (by omega) fun j q v e3 e4 => ?_).symm
    obtain ⟨a, s, q', f1, f2, f3⟩ := hget j (by have := (List.getElem?_eq_some_iff.1 e3).1; omega)
    have k := hkk j a s q f1 f2 e3
    obtain ⟨rfl, hd⟩ := hany j a s q f1 f2 e3
    rw [← k.m e v (u4 j a v f1 e4)]
    cases d with
    | zero => exact absurd rfl hd
    | succ d => exact any_match d v
theorem rng_keepP {w : List GData} {d : Nat} {t : GType} {p : GPattern} (g : goodB w (d + 1) t p = true) (h3 : p.op = 3) : Keep w (d + 1) t (rng p.n p.m) p := by
  obtain ⟨ho, hl⟩ := node_own (good_node g)
  simp [ownOk, h3] at ho
  obtain ⟨k1, k2, k3, k4, k5⟩ := rng_keep (w := w) (t := t) (n := p.n) (m := p.m) d ho.2.1.1.1 ho.2.1.1.2 ho.2.1.2 ho.2.2
  refine ⟨k1, k2, ?_, by rw [k4]; exact cntP_pos p, fun e u hu => ?_⟩
  · rw [k3]
    simp [varsD, ownV, h3, kidsT]
  · rw [k5 e u hu]
    simp [matchD, h3]
theorem as_match {p a : GPattern} {u : GValue} (d : Nat) (h6 : p.op = 6) (hk : p.kids = [a]) : matchD (d + 1) p u = (matchD d a u).map (fun l => ⟨p.var, u⟩ :: l) := by
  rw [matchD]
  simp [h6, hk]
theorem var_match (d : Nat) (v : Int) (u : GValue) : matchD (d + 1) (GPattern.mk 2 0 0 0 v []) u = some [⟨v, u⟩] := by
  rw [matchD]
  simp
theorem as_keep {w : List GData} {d : Nat} {t : GType} {p s : GPattern} (hT : WT w t) (g : goodB w (d + 1) t p = true) (l : linD w (d + 1) t p = true) (h6 : p.op = 6) (hk : KeepK w d t p [s]) (hs : s.op = 1) :
    Keep w (d + 1) t (GPattern.mk 2 0 0 0 p.var []) p := by
  obtain ⟨ho, hl⟩ := node_own (good_node g)
  obtain ⟨a, hkids, hk2⟩ := kid_of6 h6 hl
  have k := hk.2 0 t s a (by rw [hk2]; rfl) rfl (by rw [hkids]; rfl)
  have hsa := any_of_good (good_node k.g) hs
  obtain ⟨d, rfl⟩ : ∃ d', d = d' + 1 := by cases d with
    | zero => cases k.g
    | succ d => exact ⟨d, rfl⟩
  simp [ownOk, h6] at ho
  have hav : varsD w (d + 1) t a = [] := by rw [← k.v, hsa, any_vars]
  refine ⟨by simp [goodB, nodeOk, ownOk, kidsT, ho.1.1.1, ho.1.1.2], by simp [linD, varsD, kidsT, ownV, distinct], ?_, ?_, fun e u hu => ?_⟩
  · rw [varsD, varsD, hkids, hk2]
    simp [ownV, h6, kidsT, hav]
  · have := cntP_pos p
    simp [cntP, cntP.cntPs]
    omega
  · have hm := k.m e u hu
    rw [hsa, any_match] at hm
    rw [as_match (d + 1) h6 hkids, var_match, ← hm]
    rfl
theorem simple_ok {w : List GData} (hw : WW w) : ∀ (d n : Nat) (t : GType) (p : GPattern), t ∈ tys w → goodB w d t p = true → linD w d t p = true → cntP p ≤ 1000 → d + 12 ≤ n →
    ∃ q, m_impl_simplify n w t p = some q ∧ m_spec_l11Simple n w t p = some q ∧ Keep w d t q p := by
  intro d
  induction d with
  | zero => intro n t p ht g; cases g
  | succ d ih =>
    intro n t p ht g l hc hn
    obtain ⟨n, rfl⟩ : ∃ k, n = k + 1 := ⟨n - 1, by omega⟩
    have hT := hw.ty t ht
    obtain ⟨ho, hl⟩ := node_own (good_node g)
    have hlin := l
    simp only [linD, Bool.and_eq_true, List.all_eq_true] at hlin
    have hcp := cntP_eq p
    have hex : ∀ j, j < p.kids.length → ∃ s, ∃ a q, (kidsT w t p)[j]? = some a ∧ p.kids[j]? = some q ∧ m_impl_simplify n w a q = some s ∧ m_spec_l11Simple n w a q = some s ∧ Keep w d a s q := fun j hj => by
      have ha : (kidsT w t p)[j]? = some ((kidsT w t p)[j]'(by omega)) := by simp
      have hq : p.kids[j]? = some p.kids[j] := by simp
      have hz := zip_get ha hq
      obtain ⟨s, s1, s2, s3⟩ := ih n _ p.kids[j] (kidsT_tys hT ht ho _ (List.mem_of_getElem? ha)) (good_kid g ha hq) (hlin.1 _ (List.mem_of_getElem? hz)) (by have := cnt_kid hq; omega) (by omega)
      exact ⟨s, _, _, ha, hq, s1, s2, s3⟩
    let ks : List GPattern := (List.range p.kids.length).map fun j => if h : j < p.kids.length then (hex j h).choose else anyP
    have hkl : ks.length = p.kids.length := by simp [ks]
    have hks : ∀ (j : Nat), j < p.kids.length → ∃ a s q, (kidsT w t p)[j]? = some a ∧ ks[j]? = some s ∧ p.kids[j]? = some q ∧ m_impl_simplify n w a q = some s ∧ m_spec_l11Simple n w a q = some s ∧ Keep w d a s q := fun j hj => by
      obtain ⟨a, q, e1, e2, e3, e4, e5⟩ := (hex j hj).choose_spec
      exact ⟨a, _, q, e1, by simp [ks, hj], e2, e3, e4, e5⟩
    have hkk : KeepK w d t p ks := ⟨hkl, fun j a s q e1 e2 e3 => by
      obtain ⟨a', s', q', f1, f2, f3, _, _, f6⟩ := hks j (by have := (List.getElem?_eq_some_iff.1 e3).1; omega)
      rw [e1] at f1; rw [e2] at f2; rw [e3] at f3
      cases f1; cases f2; cases f3
      exact f6⟩
    have hlen3 := kidsT_len hT ho
    have hreb := rebuild hT g l hkk
    clear_value ks
    have himpl : ∀ {R : Type} (Q : R → Prop) (G : Ctl GPattern (List GPattern) → Option R), Ret (G (.brk ks)) Q → Ret ((forL (fun k81 x82 (s75 : (List GPattern)) =>
        ((idx (kidsT w t p) (k81 : Int)).bind fun x90 =>
        ((m_impl_simplify n w x90 x82).bind fun r91 =>
        ((app s75 [r91]).bind fun x92 =>
        some (Ctl.go x92))))) 0 p.kids []).bind G) Q := fun Q G hG => by
      refine Ret.ctl (forL_rule p.kids (fun k s => s = ks.take k) (fun _ => False) (fun s => s = ks) (by simp) (fun k q s hq hI => ?_) (fun s hI => ?_)) (fun r hr => hr.elim) (fun s hs => by rw [hs]; exact hG)
      · have hkl2 := (List.getElem?_eq_some_iff.1 hq).1
        obtain ⟨a, s', q', e1, e2, e3, e4, e5, e6⟩ := hks k hkl2
        rw [hq] at e3
        cases e3
        rw [idx_ok e1]
        simp only [Option.bind_some]
        rw [e4]
        simp only [Option.bind_some]
        rw [hI, app_ok (by simp [rowLimit]; omega)]
        exact .some (by rw [List.take_add_one, e2]; rfl)
      · rw [hI, ← hkl, List.take_length]
    have hspec : ∀ {R : Type} (Q : R → Prop) (G : Ctl GPattern (List GPattern) → Option R), Ret (G (.brk ks)) Q → Ret ((forL (fun k273 x274 (s267 : (List GPattern)) =>
        ((idx p.kids (k273 : Int)).bind fun x282 =>
        ((m_spec_l11Simple n w x274 x282).bind fun r283 =>
        ((app s267 [r283]).bind fun x284 =>
        some (Ctl.go x284))))) 0 (kidsT w t p) []).bind G) Q := fun Q G hG => by
      refine Ret.ctl (forL_rule (kidsT w t p) (fun k s => s = ks.take k) (fun _ => False) (fun s => s = ks) (by simp) (fun k a s ha hI => ?_) (fun s hI => ?_)) (fun r hr => hr.elim) (fun s hs => by rw [hs]; exact hG)
      · have hkl2 := (List.getElem?_eq_some_iff.1 ha).1
        obtain ⟨a', s', q', e1, e2, e3, e4, e5, e6⟩ := hks k (by omega)
        rw [ha] at e1
        cases e1
        rw [idx_ok e3]
        simp only [Option.bind_some]
        rw [e5]
        simp only [Option.bind_some]
        rw [hI, app_ok (by simp [rowLimit]; omega)]
        exact .some (by rw [List.take_add_one, e2]; rfl)
      · rw [hI, ← hl, ← hkl, List.take_length]
    obtain ⟨ts, hs1, hs2⟩ := shape_ok hT p
    have hts := hs2 (good_node g)
    subst hts
    have hkt : m_impl_kidTypes w t p = some (kidsT w t p) := by unfold m_impl_kidTypes; rw [hs1]; rfl
    have fin : ∀ q, Ret (m_impl_simplify (n + 1) w t p) (fun r => r = q) → Ret (m_spec_l11Simple (n + 1) w t p) (fun r => r = q) → Keep w (d + 1) t q p → ∃ q, m_impl_simplify (n + 1) w t p = some q ∧ m_spec_l11Simple (n + 1) w t p = some q ∧ Keep w (d + 1) t q p := fun q h1 h2 h3 => by
      obtain ⟨_, e1, rfl⟩ := h1
      obtain ⟨_, e2, rfl⟩ := h2
      exact ⟨_, e1, e2, h3⟩
    have istart : ∀ q, (Ret ((if (ieq p.op 3) = true then
        ((m_impl_ranged p.n p.m).bind fun r133 =>
        some (Ctl.ret (ρ := GPattern) (σ := Unit) (r133)))
        else
        (if (ieq p.op 4) = true then
        ((m_impl_allAny ks).bind fun r151 =>
        (if r151 = true then
        ((m_impl_ctorsOf w t).bind fun r153 =>
        (if (ieq (lenZ r153.length) 1) = true then
        ((m_impl_anyPattern).bind fun r155 =>
        some (Ctl.ret (r155)))
        else
        some (Ctl.brk ())))
        else
        some (Ctl.brk ())))
        else
        (if (ieq p.op 6) = true then
        ((idx ks 0).bind fun x161 =>
        (if (ieq x161.op 1) = true then
        some (Ctl.ret ((GPattern.mk 2 0 0 0 p.var [])))
        else
        some (Ctl.brk ())))
        else
        (if (ieq p.op 5) = true then
        ((m_impl_simplifyOr n w t (GPattern.mk p.op p.ctor p.n p.m p.var ks)).bind fun r164 =>
        some (Ctl.ret (r164)))
        else
        some (Ctl.brk ())))))) (CtlQ (fun r => r = q) (fun _ => GPattern.mk p.op p.ctor p.n p.m p.var ks = q))) → Ret (m_impl_simplify (n + 1) w t p) (fun r => r = q) := fun q hq => by
      unfold m_impl_simplify
      rw [hkt]
      simp only [Option.bind_some]
      refine himpl _ _ ?_
      exact Ret.ctl hq (fun r hr => .some hr) (fun s hs => .some hs)
    by_cases h3 : p.op = 3
    · refine fin (rng p.n p.m) (istart _ ?_) ?_ (rng_keepP g h3)
      · rw [if_pos (by rw [ieq_true]; exact h3), ranged_ok]
        exact .some rfl
      · unfold m_spec_l11Simple
        rw [if_pos (by rw [ieq_true]; exact h3), int11_ok]
        exact .some rfl
    have n3 : ¬ ieq p.op 3 = true := by rw [ieq_true]; exact h3
    by_cases h4 : p.op = 4
    · have y4 : ieq p.op 4 = true := by rw [ieq_true]; exact h4
      have n5 : ¬ ieq p.op 5 = true := by rw [ieq_true]; omega
      have n6 : ¬ ieq p.op 6 = true := by rw [ieq_true]; omega
      have ho4 := ho
      simp [ownOk, h4] at ho4
      have hmk : GPattern.mk p.op p.ctor p.n p.m p.var ks = GPattern.mk 4 p.ctor 0 0 0 ks := by rw [h4, ho4.1.2.1, ho4.1.2.2, ho4.1.1]
      have hcase : (ks.all fun q => decide (q.op = 1)) = true ∧ (ctorsP w t).length = 1 ∨ ¬ ((ks.all fun q => decide (q.op = 1)) = true ∧ (ctorsP w t).length = 1) := Decidable.em _
      have hka : m_spec_l1Args w t p.ctor = some (kidsT w t p) := by rw [hT.a1 _ (own_ctor ho h4)]; simp [kidsT, h4]
      rcases hcase with ⟨c1, c2⟩ | hcn
      · refine fin anyP (istart _ ?_) ?_ (keepK_any hT g h4 hkk (fun q hq => by simpa using List.all_eq_true.1 c1 q hq) c2)
        · rw [if_neg n3, if_pos y4, allAny_ok]
          simp only [Option.bind_some]
          rw [if_pos c1, hT.c2]
          simp only [Option.bind_some]
          rw [if_pos (by rw [ieq_true]; simp only [lenZ]; omega)]
          exact .some rfl
        · unfold m_spec_l11Simple
          rw [if_neg n3, if_neg n5, if_neg n6, if_pos y4, hka]
          simp only [Option.bind_some]
          refine hspec _ _ ?_
          show Ret (Option.bind _ _) _
          rw [hT.c1]
          simp only [Option.bind_some]
          rw [if_pos (by rw [ieq_true]; simp only [lenZ]; omega), wide_ok]
          simp only [Option.bind_some]
          rw [if_pos c1]
          exact .some rfl
      · refine fin (GPattern.mk p.op p.ctor p.n p.m p.var ks) (istart _ ?_) ?_ hreb
        · rw [if_neg n3, if_pos y4, allAny_ok]
          simp only [Option.bind_some]
          refine Ret.ite (fun c1 => ?_) (fun _ => .some trivial)
          rw [hT.c2]
          simp only [Option.bind_some]
          rw [if_neg (by rw [ieq_true]; simp only [lenZ]; intro h; exact hcn ⟨c1, by omega⟩)]
          exact .some trivial
        · unfold m_spec_l11Simple
          rw [if_neg n3, if_neg n5, if_neg n6, if_pos y4, hka]
          simp only [Option.bind_some]
          refine hspec _ _ ?_
          refine Ret.ctl (R := fun _ => False) (B := fun (_ : Unit) => True) ?_ (fun r hr => hr.elim) (fun s _ => .some hmk.symm)
          rw [hT.c1]
          simp only [Option.bind_some]
          refine Ret.ite (fun c => ?_) (fun _ => .some trivial)
          rw [ieq_true] at c
          simp only [lenZ] at c
          rw [wide_ok]
          simp only [Option.bind_some]
          rw [if_neg (fun c1 => hcn ⟨c1, by omega⟩)]
          exact .some trivial
    have n4 : ¬ ieq p.op 4 = true := by rw [ieq_true]; exact h4
    by_cases h6 : p.op = 6
    · have y6 : ieq p.op 6 = true := by rw [ieq_true]; exact h6
      have n5 : ¬ ieq p.op 5 = true := by rw [ieq_true]; omega
      have ho6 := ho
      simp [ownOk, h6] at ho6
      obtain ⟨a, hkids, hk2⟩ := kid_of6 h6 hl
      have hkl1 : ks.length = 1 := by rw [hkl, hkids]; rfl
      obtain ⟨s, hks1⟩ : ∃ s, ks = [s] := by
        match ks, hkl1 with
        | [s], _ => exact ⟨s, rfl⟩
      have hmk : GPattern.mk p.op p.ctor p.n p.m p.var ks = GPattern.mk 6 0 0 0 p.var [s] := by rw [h6, ho6.2, ho6.1.2.1, ho6.1.2.2, hks1]
      obtain ⟨a', s', q', e1, e2, e3, e4, e5, e6⟩ := hks 0 (by rw [hkids]; simp)
      rw [hk2] at e1
      rw [hks1] at e2
      rw [hkids] at e3
      cases e1; cases e2; cases e3
      have i0 : idx ks 0 = some s := by rw [hks1]; rfl
      have j0 : idx p.kids 0 = some a := by rw [hkids]; rfl
      by_cases hs : s.op = 1
      · refine fin (GPattern.mk 2 0 0 0 p.var []) (istart _ ?_) ?_ (as_keep hT g l h6 (hks1 ▸ hkk) hs)
        · rw [if_neg n3, if_neg n4, if_pos y6, i0]
          simp only [Option.bind_some]
          rw [if_pos (by rw [ieq_true]; exact hs)]
          exact .some rfl
        · unfold m_spec_l11Simple
          rw [if_neg n3, if_neg n5, if_pos y6, j0]
          simp only [Option.bind_some]
          rw [e5]
          simp only [Option.bind_some, m_spec_l11Whole]
          rw [if_pos (by rw [ieq_true]; exact hs)]
          exact .some rfl
      · refine fin (GPattern.mk p.op p.ctor p.n p.m p.var ks) (istart _ ?_) ?_ hreb
        · rw [if_neg n3, if_neg n4, if_pos y6, i0]
          simp only [Option.bind_some]
          rw [if_neg (by rw [ieq_true]; exact hs)]
          exact .some trivial
        · unfold m_spec_l11Simple
          rw [if_neg n3, if_neg n5, if_pos y6, j0]
          simp only [Option.bind_some]
          rw [e5]
          simp only [Option.bind_some, m_spec_l11Whole]
          rw [if_neg (by rw [ieq_true]; exact hs)]
          exact .some hmk.symm
    have n6 : ¬ ieq p.op 6 = true := by rw [ieq_true]; exact h6
    by_cases h5 : p.op = 5
    · have y5 : ieq p.op 5 = true := by rw [ieq_true]; exact h5
      have ho5 := ho
      simp [ownOk, h5] at ho5
      obtain ⟨a, b, hkids, hk2⟩ := kid0 h5 hl
      have hkl1 : ks.length = 2 := by rw [hkl, hkids]; rfl
      obtain ⟨s, s', hks1⟩ : ∃ s s', ks = [s, s'] := by
        match ks, hkl1 with
        | [s, s'], _ => exact ⟨s, s', rfl⟩
      have hmk : GPattern.mk p.op p.ctor p.n p.m p.var ks = orP s s' := by rw [h5, ho5.2, ho5.1.2.1, ho5.1.2.2, ho5.1.1, hks1]; rfl
      obtain ⟨a0, s0, q0, e1, e2, e3, e4, e5, e6⟩ := hks 0 (by rw [hkids]; simp)
      obtain ⟨a1, s1, q1, f1, f2, f3, f4, f5, f6⟩ := hks 1 (by rw [hkids]; simp)
      rw [hk2] at e1 f1
      rw [hks1] at e2 f2
      rw [hkids] at e3 f3
      cases e1; cases e2; cases e3
      cases f1; cases f2; cases f3
      have hal := hlin.2
      rw [if_pos h5] at hal
      have k0 : kv w d t p 0 = varsD w d t a := by simp [kv, hkids, hk2]
      have k1 : kv w d t p 1 = varsD w d t b := by simp [kv, hkids, hk2]
      rw [k0, k1, ← e6.v, ← f6.v] at hal
      have ca := cnt_kid (p := p) (k := 0) (by rw [hkids]; rfl)
      have cc : cntP s + cntP s' ≤ 1000 := by
        have h1 := e6.c
        have h2 := f6.c
        have h3 : cntP.cntPs p.kids = cntP a + cntP b := by rw [hkids]; simp [cntP.cntPs]
        omega
      obtain ⟨q, g1, g2, g3⟩ := or_ok hw ht e6.g f6.g e6.l f6.l hal cc (n := n) (by omega)
      refine fin q (istart _ ?_) ?_ (g3.trans (hmk ▸ hreb))
      · rw [if_neg n3, if_neg n4, if_neg n6, if_pos y5, hmk, g1]
        exact .some rfl
      · unfold m_spec_l11Simple
        have j0 : idx p.kids 0 = some a := by rw [hkids]; rfl
        have j1 : idx p.kids 1 = some b := by rw [hkids]; rfl
        rw [if_neg n3, if_pos y5, j0, j1]
        simp only [Option.bind_some]
        rw [e5, f5]
        simp only [Option.bind_some]
        rw [g2]
        exact .some rfl
    have n5 : ¬ ieq p.op 5 = true := by rw [ieq_true]; exact h5
    have hnil : p.kids = [] := by
      have : kidsT w t p = [] := by simp [kidsT, h4, h5, h6]
      rw [this] at hl
      exact List.eq_nil_of_length_eq_zero hl
    have hks0 : ks = [] := List.eq_nil_of_length_eq_zero (by rw [hkl, hnil]; rfl)
    have hmk : GPattern.mk p.op p.ctor p.n p.m p.var ks = p := GPattern.ext' rfl rfl rfl rfl rfl (by rw [hks0, hnil])
    refine fin p (istart _ ?_) ?_ (Keep.refl g l)
    · rw [if_neg n3, if_neg n4, if_neg n6, if_neg n5]
      exact .some hmk
    · unfold m_spec_l11Simple
      rw [if_neg n3, if_neg n5, if_neg n6, if_neg n4]
      exact .some rfl
end Go.Proofs.YtimpchdgflhkaaaGreat
namespace Go.Proofs.YtimpchdgflhkaaaGreat
open Go Go.RowKit
def chkU (w : List GData) (d : Int) : Bool := (tys w).all fun t => (m_impl_ValuesUpTo NN w t d).isSome
theorem values1 : worlds.all (fun w => chkU w 1) = true := by kernel_rfl
theorem values2 : worlds.all (fun w => chkU w 2) = true := by kernel_rfl
theorem values3 : worlds.all (fun w => chkU w 3) = true := by kernel_rfl
theorem upto_ok {w : List GData} (hw : w ∈ worlds) {t : GType} (ht : t ∈ tys w) {d : Int} (h1 : 1 ≤ d) (h3 : d ≤ 3) : ∃ r, m_impl_ValuesUpTo NN w t d = some r := by
  have key : chkU w d = true := by
    rcases (by omega : d = 1 ∨ d = 2 ∨ d = 3) with rfl | rfl | rfl
    · exact List.all_eq_true.1 values1 w hw
    · exact List.all_eq_true.1 values2 w hw
    · exact List.all_eq_true.1 values3 w hw
  exact Option.isSome_iff_exists.1 (List.all_eq_true.1 key t ht)
end Go.Proofs.YtimpchdgflhkaaaGreat
namespace Go.Proofs.YtimpchdgflhkaaaGreat
open Go Go.RowKit
def deepV : Nat → GValue → Prop
  | 0, _ => False
  | d + 1, v => v.kids.length ≤ 3 ∧ ∀ x ∈ v.kids, deepV d x
theorem good_deepV {w : List GData} (hw : WW w) : ∀ (d : Nat) (t : GType) (v : GValue), t ∈ tys w → goodV w d t v → deepV d v := by
  intro d
  induction d with
  | zero => intro t v _ h; exact h
  | succ d ih =>
    intro t v ht h
    have hT := hw.ty t ht
    simp only [goodV] at h
    split at h
    · obtain ⟨_, _, _, h4⟩ := h
      exact ⟨by rw [h4]; simp, fun x hx => by rw [h4] at hx; cases hx⟩
    · obtain ⟨_, h2, h3, h4⟩ := h
      have hal := hT.al _ h2
      refine ⟨by omega, fun x hx => ?_⟩
      obtain ⟨j, hj⟩ := List.mem_iff_getElem?.1 hx
      have hjl := (List.getElem?_eq_some_iff.1 hj).1
      have ha : (argsP w t v.ctor)[j]? = some ((argsP w t v.ctor)[j]'(by omega)) := by simp
      exact ih _ x (hT.at_ _ h2 _ (List.mem_of_getElem? ha)) (h4 j _ x ha hj)
theorem GValue.ext' {a b : GValue} (h1 : a.ctor = b.ctor) (h2 : a.n = b.n) (h3 : a.kids = b.kids) : a = b := by
  cases a; cases b; simp_all
theorem ownValue_ok : ∀ (d n : Nat) (v : GValue), deepV d v → d ≤ n → m_impl_ownValue n v = some v := by
  intro d
  induction d with
  | zero => intro n v h; exact h.elim
  | succ d ih =>
    intro n v h hn
    obtain ⟨n, rfl⟩ : ∃ k, n = k + 1 := ⟨n - 1, by omega⟩
    obtain ⟨h1, h2⟩ := h
    have hr : Ret (m_impl_ownValue (n + 1) v) (fun r => r = v) := by
      unfold m_impl_ownValue
      refine Ret.ctl (forL_rule v.kids (fun k s => s = v.kids.take k) (fun _ => False) (fun s => s = v.kids) (by simp) (fun k q s hq hI => ?_) (fun s hI => ?_)) (fun r hr => hr.elim) (fun s hs => .some (GValue.ext' rfl rfl hs))
      · rw [ih n q (h2 q (List.mem_of_getElem? hq)) (by omega)]
        simp only [Option.bind_some]
        rw [app_ok (by simp only [rowLimit, List.length_cons, List.length_nil]; rw [hI, List.length_take]; omega)]
        exact .some (by rw [hI, List.take_add_one, hq]; rfl)
      · rw [hI, List.take_length]
    obtain ⟨r, e, rfl⟩ := hr
    exact e
theorem equalV_refl (a : List GValue) (f : GValue → GValue → Option Bool) (hf : ∀ x ∈ a, f x x = some true) : m_slices_EqualFunc_Value a a f = some true := by
  have hr : Ret (m_slices_EqualFunc_Value a a f) (fun r => r = true) := by
    unfold m_slices_EqualFunc_Value
    rw [if_neg (by simp [ieq])]
    refine Ret.ctl (forL_rule a (fun _ _ => True) (fun _ => False) (fun _ => True) trivial (fun k x s hx _ => ?_) (fun _ _ => trivial)) (fun r hr => hr.elim) (fun s _ => .some rfl)
    rw [idx_ok hx]
    simp only [Option.bind_some]
    rw [hf x (List.mem_of_getElem? hx)]
    exact .some trivial
  obtain ⟨_, e, rfl⟩ := hr
  exact e
theorem valueSame_refl : ∀ (d n : Nat) (v : GValue), deepV d v → d ≤ n → m_impl_ValueSame n v v = some true := by
  intro d
  induction d with
  | zero => intro n v h; exact h.elim
  | succ d ih =>
    intro n v h hn
    obtain ⟨n, rfl⟩ : ∃ k, n = k + 1 := ⟨n - 1, by omega⟩
    unfold m_impl_ValueSame
    rw [if_pos (by simp [ieq]), if_pos (by simp [ieq]), equalV_refl _ _ fun x hx => ih n x (h.2 x hx) (by omega)]
    rfl
def DB (l : List GBind) : Prop := ∀ b ∈ l, deepV 10 b.value
theorem ptBinds_refl {l : List GBind} (h : DB l) : m_laws_ptBinds NN l l = some true := by
  have hr : Ret (m_laws_ptBinds NN l l) (fun r => r = true) := by
    unfold m_laws_ptBinds
    rw [if_neg (by simp [ieq])]
    refine Ret.ctl (forL_rule l (fun _ _ => True) (fun _ => False) (fun _ => True) trivial (fun k x s hx _ => ?_) (fun _ _ => trivial)) (fun r hr => hr.elim) (fun s _ => .some rfl)
    rw [idx_ok hx]
    simp only [Option.bind_some]
    rw [if_neg (by simp [ieq]), valueSame_refl 10 NN x.value (h x (List.mem_of_getElem? hx)) (by decide)]
    exact .some trivial
  obtain ⟨_, e, rfl⟩ := hr
  exact e
theorem compare_ok (a b : Int) : ∃ r, m_cmp_Compare_int a b = some r := by
  have : Ret (m_cmp_Compare_int a b) (fun _ => True) := by
    unfold m_cmp_Compare_int m_cmp_isNaN_int
    simp only [Option.bind_some]
    repeat' first | exact .some trivial | refine Ret.ite (fun _ => ?_) (fun _ => ?_)
  obtain ⟨r, e, _⟩ := this
  exact ⟨r, e⟩
theorem setI_ok {α : Type} {xs : List α} {i : Int} {x : α} (h0 : 0 ≤ i) (h : i < xs.length) : setI xs i x = some (xs.set i.toNat x) := by
  unfold setI
  rw [if_pos ⟨h0, by omega⟩]
theorem insertion_ok {n : Nat} (hn : 30 ≤ n) (l : List GBind) (hl : l.length ≤ 12) (c : GBind → GBind → Option Int) (hc : ∀ a b, ∃ r, c a b = some r) :
    Ret (m_slices_insertionSortCmpFunc_Bind n l 0 (lenZ l.length) c) (fun r => r.Perm l) := by
  unfold m_slices_insertionSortCmpFunc_Bind
  have z1 : wadd .i64 0 1 = 1 := rfl
  rw [z1]
  refine Ret.ctl (whileL_rule (fun s : List GBind × Int => s.1.Perm l ∧ 1 ≤ s.2 ∧ s.2 ≤ 13) (fun s => (14 - s.2).toNat) (fun _ => False) (fun s => s.1.Perm l) ⟨.rfl, by simp, by simp⟩ (fun s hI => ?_) n (by simp; omega)) (fun r hr => hr.elim) (fun s hs => .some hs)
  obtain ⟨i1, i3, i4⟩ := hI
  refine Ret.ite (fun hlt => ?_) (fun _ => .some i1)
  rw [ilt_true] at hlt
  simp only [lenZ] at hlt
  refine Ret.ctl (whileL_rule (fun u : List GBind × Int => u.1.Perm l ∧ 0 ≤ u.2 ∧ u.2 < l.length) (fun u => u.2.toNat) (fun _ => False) (fun u => u.1.Perm l) ⟨i1, by omega, hlt⟩ (fun u hJ => ?_) n (by omega)) (fun r hr => hr.elim) (fun u hu => ?_)
  · obtain ⟨j1, j3, j4⟩ := hJ
    refine Ret.ite (fun hp => ?_) (fun _ => .some j1)
    rw [ilt_true] at hp
    have hs : wsub .i64 u.2 1 = u.2 - 1 := wsub_ok (by omega) (by omega)
    rw [hs]
    have hlen := j1.length_eq
    have ex : idx u.1 u.2 = some (u.1[u.2.toNat]'(by omega)) := idx_okI j3 (List.getElem?_eq_getElem (by omega))
    have ey : idx u.1 (u.2 - 1) = some (u.1[(u.2 - 1).toNat]'(by omega)) := idx_okI (by omega) (List.getElem?_eq_getElem (by omega))
    rw [ex, ey]
    simp only [Option.bind_some]
    obtain ⟨r, er⟩ := hc (u.1[u.2.toNat]'(by omega)) (u.1[(u.2 - 1).toNat]'(by omega))
    rw [er]
    simp only [Option.bind_some]
    refine Ret.ite (fun _ => ?_) (fun _ => .some j1)
    rw [setI_ok j3 (by omega)]
    simp only [Option.bind_some]
    obtain ⟨z, ez, _⟩ := idx_lt_ok (xs := u.1.set u.2.toNat (u.1[(u.2 - 1).toNat]'(by omega))) (i := u.2 - 1) (by omega) (by simp; omega)
    rw [ez]
    simp only [Option.bind_some]
    rw [setI_ok (by omega) (by simp; omega)]
    exact .some ⟨⟨(List.set_set_perm (by omega) (by omega)).trans j1, by simp; omega, by simp; omega⟩, by simp; omega⟩
  · have hw : wadd .i64 s.2 1 = s.2 + 1 := wadd_ok (by omega) (by omega)
    exact .some ⟨⟨hu, by simp only [hw]; omega, by simp only [hw]; omega⟩, by simp only [hw]; omega⟩
theorem len_ok : (List.range 13).all (fun k => (m_math_bits_Len (wcv .u64 (lenZ k))).isSome) = true := by kernel_rfl
theorem sort_ok (l : List GBind) (hl : l.length ≤ 12) (c : GBind → GBind → Option Int) (hc : ∀ a b, ∃ r, c a b = some r) :
    Ret (m_slices_SortFunc_Bind NN l c) (fun r => r.Perm l) := by
  unfold m_slices_SortFunc_Bind
  obtain ⟨b, hb⟩ := Option.isSome_iff_exists.1 (List.all_eq_true.1 len_ok l.length (List.mem_range.2 (by omega)))
  rw [hb]
  simp only [Option.bind_some]
  refine Ret.bind (P := fun r => r.Perm l) ?_ (fun r hr => ?_)
  · show Ret (m_slices_pdqsortCmpFunc_Bind (399 + 1) l 0 (lenZ l.length) b c) _
    unfold m_slices_pdqsortCmpFunc_Bind
    refine Ret.ctl (whileL_rule (fun _ => True) (fun _ => 0) (fun r : List GBind => r.Perm l) (fun _ => False) trivial (fun s _ => ?_) 399 (by omega)) (fun r hr => .some hr) (fun s hs => hs.elim)
    have h0 : wsub .i64 (lenZ l.length) 0 = lenZ l.length := by rw [wsub_ok] <;> simp only [lenZ] <;> omega
    rw [if_pos (by rw [ile_true, h0]; simp only [lenZ]; omega)]
    refine Ret.bind (insertion_ok (by decide) l hl c hc) (fun r hr => ?_)
    rw [chk_ok (by simp [hr.length_eq])]
    exact .some hr
  · rw [chk_ok (by simp [hr.length_eq])]
    exact .some hr
theorem match_deep : ∀ (d : Nat) (p : GPattern) (e : Nat) (v : GValue) (l : List GBind), deepV e v → matchD d p v = some l → ∀ b ∈ l, ∃ e', e' ≤ e ∧ deepV e' b.value := by
  intro d
  induction d with
  | zero => intro p e v l _ h; cases h
  | succ d ih =>
    intro p e v l hv hm b hb
    rw [matchD] at hm
    split at hm
    · cases hm; cases hb
    split at hm
    · cases hm
      simp only [List.mem_cons, List.not_mem_nil, or_false] at hb
      subst hb
      exact ⟨e, Nat.le_refl _, hv⟩
    split at hm
    · split at hm
      · cases hm; cases hb
      · cases hm
    split at hm
    · split at hm
      · split at hm
        · rename_i l' hl'
          cases hm
          exact ih _ e v _ hv hl' b hb
        · exact ih _ e v _ hv hm b hb
      · cases hm
    split at hm
    · split at hm
      · rename_i a _
        cases ha : matchD d a v with
        | none => rw [ha] at hm; cases hm
        | some l' =>
          rw [ha] at hm
          cases hm
          rcases List.mem_cons.1 hb with h | h
          · subst h
            exact ⟨e, Nat.le_refl _, hv⟩
          · exact ih _ e v _ hv ha b h
      · cases hm
    split at hm
    · cases e with
      | zero => exact hv.elim
      | succ e =>
        have hk := hv.2
        have gen : ∀ (ps : List GPattern) (vs : List GValue) (l : List GBind), (∀ x ∈ vs, deepV e x) → matchL (matchD d) ps vs = some l → ∀ b ∈ l, ∃ e', e' ≤ e ∧ deepV e' b.value := by
          intro ps
          induction ps with
          | nil => intro vs l _ h b hb; simp only [matchL] at h; cases h; cases hb
          | cons q ps ihp =>
            intro vs l hvs h b hb
            cases vs with
            | nil => cases h
            | cons u vs =>
              simp only [matchL] at h
              cases hq : matchD d q u with
              | none => rw [hq] at h; cases h
              | some l1 =>
                rw [hq] at h
                simp only at h
                cases hps : matchL (matchD d) ps vs with
                | none => rw [hps] at h; cases h
                | some l2 =>
                  rw [hps] at h
                  cases h
                  rcases List.mem_append.1 hb with hb | hb
                  · exact ih q e u l1 (hvs u (by simp)) hq b hb
                  · exact ihp vs l2 (fun x hx => hvs x (by simp [hx])) hps b hb
        obtain ⟨e', h1, h2⟩ := gen _ _ _ hk hm b hb
        exact ⟨e', by omega, h2⟩
    · cases hm
theorem deepV_le : ∀ (d e : Nat) (v : GValue), d ≤ e → deepV d v → deepV e v := by
  intro d
  induction d with
  | zero => intro e v _ h; exact h.elim
  | succ d ih =>
    intro e v he h
    obtain ⟨e, rfl⟩ : ∃ k, e = k + 1 := ⟨e - 1, by omega⟩
    exact ⟨h.1, fun x hx => ih e x (by omega) (h.2 x hx)⟩
theorem match_len {w : List GData} : ∀ (d : Nat) (t : GType) (p : GPattern), goodB w d t p = true → linD w d t p = true → ∀ v l, matchD d p v = some l → l.length = (varsD w d t p).length := by
  intro d
  induction d with
  | zero => intro t p h; cases h
  | succ d ih =>
    intro t p hg hlin v l hm
    obtain ⟨ho, hl⟩ := node_own (good_node hg)
    simp only [linD, Bool.and_eq_true, List.all_eq_true] at hlin
    rw [varsD]
    rw [matchD] at hm
    have hnil : p.op ≠ 4 → p.op ≠ 5 → p.op ≠ 6 → kidsT w t p = [] := fun h4 h5 h6 => by simp [kidsT, h4, h5, h6]
    by_cases h1 : p.op = 1
    · rw [if_pos h1] at hm; cases hm
      simp [ownV, h1, hnil]
    rw [if_neg h1] at hm
    by_cases h2 : p.op = 2
    · rw [if_pos h2] at hm; cases hm
      simp [ownV, h2, hnil]
    rw [if_neg h2] at hm
    by_cases h3 : p.op = 3
    · rw [if_pos h3] at hm
      split at hm
      · cases hm
        simp [ownV, h3, hnil]
      · cases hm
    rw [if_neg h3] at hm
    by_cases h5 : p.op = 5
    · rw [if_pos h5] at hm
      obtain ⟨a, b, hkids, hkt⟩ := kid0 h5 hl
      have ga := good_kid hg (k := 0) (by rw [hkt]; rfl) (by rw [hkids]; rfl)
      have gb := good_kid hg (k := 1) (by rw [hkt]; rfl) (by rw [hkids]; rfl)
      have g0 := hlin.1 (t, a) (by rw [hkids, hkt]; simp)
      have g1 := hlin.1 (t, b) (by rw [hkids, hkt]; simp)
      have hal := hlin.2
      rw [if_pos h5] at hal
      have k0 : kv w d t p 0 = varsD w d t a := by simp [kv, hkids, hkt]
      have k1 : kv w d t p 1 = varsD w d t b := by simp [kv, hkids, hkt]
      rw [k0, k1] at hal
      simp only [alikeB, Bool.and_eq_true, decide_eq_true_eq] at hal
      have hv : ownV t p = [] := by simp [ownV, h5]
      rw [hv, hkids, hkt, if_pos h5]
      simp only [List.zip_cons_cons, List.zip_nil_right, List.take_succ_cons, List.take_zero, List.flatMap_cons, List.flatMap_nil, List.append_nil, List.nil_append]
      rw [hkids] at hm
      simp only at hm
      split at hm
      · rename_i l' hl'
        cases hm
        exact ih t a ga g0 v _ hl'
      · rw [ih t b gb g1 v _ hm, hal.1]
    rw [if_neg h5] at hm
    rw [if_neg h5, List.take_of_length_le (by rw [List.length_zip]; omega)]
    by_cases h6 : p.op = 6
    · rw [if_pos h6] at hm
      obtain ⟨a, hkids, hk2⟩ := kid_of6 h6 hl
      have ga := good_kid hg (k := 0) (by rw [hk2]; rfl) (by rw [hkids]; rfl)
      have g0 := hlin.1 (t, a) (by rw [hkids, hk2]; simp)
      rw [hkids] at hm
      simp only at hm
      cases ha : matchD d a v with
      | none => rw [ha] at hm; cases hm
      | some l' =>
        rw [ha] at hm
        cases hm
        have := ih t a ga g0 v l' ha
        rw [hkids, hk2]
        simp [ownV, h6, this]
        try omega
    rw [if_neg h6] at hm
    have hv : ownV t p = [] := by simp [ownV, h2, h6]
    rw [hv, List.nil_append]
    split at hm
    · have gen : ∀ (ts : List GType) (ps : List GPattern) (vs : List GValue) (l : List GBind), ts.length = ps.length → (∀ x ∈ ts.zip ps, ∀ v l, matchD d x.2 v = some l → l.length = (varsD w d x.1 x.2).length) → matchL (matchD d) ps vs = some l → l.length = ((ts.zip ps).flatMap fun x => varsD w d x.1 x.2).length := by
        intro ts ps
        induction ps generalizing ts with
        | nil => intro vs l _ _ h; simp only [matchL] at h; cases h; simp
        | cons q ps ihp =>
          intro vs l hl hx h
          cases ts with
          | nil => simp at hl
          | cons a ts =>
            cases vs with
            | nil => cases h
            | cons u vs =>
              simp only [matchL] at h
              cases hq : matchD d q u with
              | none => rw [hq] at h; cases h
              | some l1 =>
                rw [hq] at h
                simp only at h
                cases hps : matchL (matchD d) ps vs with
                | none => rw [hps] at h; cases h
                | some l2 =>
                  rw [hps] at h
                  cases h
                  have e1 := hx (a, q) (by simp) u l1 hq
                  have e2 := ihp ts vs l2 (by simpa using hl) (fun x hxx => hx x (by simp [hxx])) hps
                  simp [e1, e2]
      refine gen _ _ _ _ hl.symm (fun x hx v l h => ?_) hm
      obtain ⟨j, hj⟩ := List.mem_iff_getElem?.1 hx
      obtain ⟨e1, e2⟩ := List.getElem?_zip_eq_some.1 hj
      exact ih _ _ (good_kid hg e1 e2) (hlin.1 x hx) v l h
    · cases hm
theorem nodup_range : ∀ (m : Nat) (l : List Int), l.Nodup → (∀ x ∈ l, 0 ≤ x ∧ x < m) → l.length ≤ m := by
  intro m
  induction m with
  | zero =>
    intro l _ h
    cases l with
    | nil => simp
    | cons x l => have := h x (by simp); omega
  | succ m ih =>
    intro l hn h
    have h1 := ih (l.erase (m : Int)) (hn.erase _) (fun x hx => by
      have hx2 := (hn.mem_erase_iff).1 hx
      have := h x hx2.2
      have := hx2.1
      omega)
    have h2 := List.length_erase (a := (m : Int)) (l := l)
    split at h2 <;> omega
theorem vars_len {w : List GData} {t : GType} {p : GPattern} {d : Nat} (g : goodB w d t p = true) (l : linD w d t p = true) : (varsD w d t p).length ≤ 6 := by
  have h1 := lin_distinct d t p g l
  simp only [distinct, decide_eq_true_eq] at h1
  have := nodup_range 6 _ h1 (fun x hx => by
    obtain ⟨y, hy, rfl⟩ := List.mem_map.1 hx
    have := vars_range d t p g y hy
    omega)
  simpa using this
theorem matched_eq {n : Nat} {p q : GPattern} {v : GValue} {x : Option (List GBind)} (hp : Ret (m_impl_match n p v) (fun r => r.2 = x.isSome ∧ ∀ l, x = some l → r.1 = l)) (hq : Ret (m_impl_match n q v) (fun r => r.2 = x.isSome ∧ ∀ l, x = some l → r.1 = l)) :
    m_impl_matched n p v = m_impl_matched n q v := by
  obtain ⟨⟨a1, a2⟩, e1, f1, g1⟩ := hp
  obtain ⟨⟨b1, b2⟩, e2, f2, g2⟩ := hq
  unfold m_impl_matched
  rw [e1, e2]
  simp only [Option.bind_some]
  cases x with
  | none =>
    simp only [Option.isSome_none] at f1 f2
    rw [f1, f2]
    rfl
  | some l =>
    simp only [Option.isSome_some] at f1 f2
    have h1 := g1 l rfl
    have h2 := g2 l rfl
    simp only at h1 h2
    rw [f1, f2, h1, h2]
theorem matched_ok {p : GPattern} {v : GValue} {x : Option (List GBind)} (hp : Ret (m_impl_match NN p v) (fun r => r.2 = x.isSome ∧ ∀ l, x = some l → r.1 = l)) (hx : ∀ l, x = some l → l.length ≤ 12 ∧ DB l) :
    Ret (m_impl_matched NN p v) (fun r => r.1.length ≤ 12 ∧ DB r.1 ∧ r.2 = x.isSome ∧ ∀ l, x = some l → r.1.Perm l) := by
  obtain ⟨⟨a1, a2⟩, e1, f1, g1⟩ := hp
  unfold m_impl_matched
  rw [e1]
  simp only [Option.bind_some]
  cases x with
  | none =>
    simp only [Option.isSome_none] at f1
    rw [f1]
    exact .some ⟨by simp, fun b hb => (by cases hb), rfl, fun l h => by cases h⟩
  | some l =>
    simp only [Option.isSome_some] at f1
    have h1 := g1 l rfl
    simp only at h1
    obtain ⟨hl, hd⟩ := hx l rfl
    rw [f1, h1]
    simp only [Bool.not_true, Bool.false_eq_true, if_false]
    refine Ret.bind (sort_ok l hl _ (fun a b => by
      obtain ⟨r, e⟩ := compare_ok a.var b.var
      exact ⟨r, by simp [m_impl_matched_1, e]⟩)) (fun r hr => ?_)
    have r1 := hr.length_eq
    have r2 : DB r := fun b hb => hd b (hr.subset hb)
    rw [chk_ok (by simp [r1])]
    simp only [Option.bind_some]
    refine Ret.ctl (forL_rule r (fun _ s => s = r) (fun _ => False) (fun s => s = r) rfl (fun k b s hb hI => ?_) (fun s hI => hI)) (fun r hr => hr.elim) (fun s hs => .some ⟨by rw [hs]; simp only; omega, by rw [hs]; exact r2, rfl, fun l' h' => by cases h'; rw [hs]; exact hr⟩)
    subst hI
    have hk := (List.getElem?_eq_some_iff.1 hb).1
    have hy : s[k]? = some s[k] := by simp
    have hyd := r2 _ (List.mem_of_getElem? hy)
    rw [idx_ok hy]
    simp only [Option.bind_some]
    rw [ownValue_ok 10 NN _ hyd (by decide)]
    simp only [Option.bind_some]
    rw [setI_ok (by omega) (by omega)]
    refine .some ?_
    exact List.set_getElem_self (as := s) (i := k) hk
theorem guardHolds_ok (g : GGuard) (l : List GBind) : Ret (m_impl_GuardHolds g l) (fun _ => True) := by
  unfold m_impl_GuardHolds
  refine Ret.ite (fun _ => .some trivial) (fun _ => ?_)
  refine Ret.bind (index_func l (fun a0 => m_impl_GuardHolds_1 a0 g) (fun b => ieq b.var g.var) (fun _ _ => rfl)) (fun i hi => ?_)
  refine Ret.ite (fun _ => .some trivial) (fun hge => ?_)
  rw [ilt_false] at hge
  rcases hi with ⟨k, x, rfl, hx, _⟩ | ⟨rfl, _⟩
  · rw [idx_ok hx]
    simp only [Option.bind_some]
    repeat' first | exact .some trivial | refine Ret.ite (fun _ => ?_) (fun _ => ?_)
  · omega
theorem forL_congr {α σ ρ : Type} {f : Nat → α → σ → Option (Ctl ρ σ)} : ∀ (xs ys : List α) (k : Nat) (s : σ), xs.length = ys.length → (∀ (j : Nat) (x y : α), xs[j]? = some x → ys[j]? = some y → ∀ i s, f i x s = f i y s) → forL f k xs s = forL f k ys s
  | [], [], _, _, _, _ => rfl
  | [], _ :: _, _, _, h, _ => by simp at h
  | _ :: _, [], _, _, h, _ => by simp at h
  | x :: xs, y :: ys, k, s, hl, h => by
    unfold forL
    rw [h 0 x y rfl rfl k s]
    have ih := fun s' => forL_congr xs ys (k + 1) s' (by simpa using hl) (fun j x' y' h1 h2 => h (j + 1) x' y' (by simpa using h1) (by simpa using h2))
    cases f k y s with
    | none => rfl
    | some o => cases o with
      | ret r => rfl
      | brk s => rfl
      | go s' => exact ih s'
theorem run_eq {n : Nat} {v : GValue} {l l' : List GClause} (hl : l'.length = l.length) (h : ∀ (j : Nat) (c' c : GClause), l'[j]? = some c' → l[j]? = some c → c'.guard = c.guard ∧ m_impl_matched n c'.pat v = m_impl_matched n c.pat v) : m_impl_run n l' v = m_impl_run n l v := by
  unfold m_impl_run
  rw [forL_congr l' l 0 () hl fun j c' c h1 h2 i s => by
    obtain ⟨e1, e2⟩ := h j c' c h1 h2
    simp only [e1, e2]]
theorem run_ok {v : GValue} {l : List GClause} (h : ∀ c ∈ l, Ret (m_impl_matched NN c.pat v) (fun r => r.1.length ≤ 12 ∧ DB r.1)) : Ret (m_impl_run NN l v) (fun r => DB r.2) := by
  unfold m_impl_run
  refine Ret.ctl (forL_rule l (fun _ _ => True) (fun r : Int × List GBind => DB r.2) (fun _ => True) trivial (fun k c s hc _ => ?_) (fun _ _ => trivial)) (fun r hr => .some hr) (fun s _ => .some (fun b hb => by cases hb))
  refine Ret.bind (P := CtlQ (fun r : Ctl (Int × List GBind) Unit => RndQ (fun r : Int × List GBind => DB r.2) (fun _ => True) (fun _ => True) r) (fun _ => True)) ?_ (fun o ho => ?_)
  · refine Ret.bind (h c (List.mem_of_getElem? hc)) (fun r hr => ?_)
    refine Ret.ite (fun _ => ?_) (fun _ => .some trivial)
    refine Ret.bind (guardHolds_ok _ _) (fun g _ => ?_)
    exact Ret.ite (fun _ => .some hr.2) (fun _ => .some trivial)
  · cases o with
    | ret r => exact .some ho
    | brk s => exact .some trivial
    | go s => exact ho.elim
theorem vscan_ok {w : List GData} (hw : WW w) : ∀ (d n : Nat) (t : GType) (v : GValue) (c : Int), t ∈ tys w → 0 ≤ c → c ≤ 60 → d + 2 ≤ n → d ≤ 10 →
    Ret (m_impl_valueScan n w t v (11 - (d : Int)) false c) (fun r => r.1 = true → goodV w d t v ∧ 0 ≤ r.2 ∧ r.2 ≤ 60) := by
  intro d
  induction d with
  | zero =>
    intro n t v c ht h0 hc hn hd
    obtain ⟨n, rfl⟩ : ∃ k, n = k + 1 := ⟨n - 1, by omega⟩
    unfold m_impl_valueScan
    refine Ret.ite (fun _ => .some (fun h => by cases h)) (fun _ => ?_)
    rw [if_pos (by rw [ilt_true]; omega)]
    exact .some (fun h => by cases h)
  | succ d ih =>
    intro n t v c ht h0 hc hn hd
    obtain ⟨n, rfl⟩ : ∃ k, n = k + 1 := ⟨n - 1, by omega⟩
    have hT := hw.ty t ht
    unfold m_impl_valueScan
    have hc1 : wadd .i64 c 1 = c + 1 := wadd_ok (by omega) (by omega)
    rw [hc1]
    refine Ret.ite (fun _ => .some (fun h => by cases h)) (fun hle => ?_)
    rw [ilt_false] at hle
    rw [if_neg (by rw [ilt_true]; omega), if_neg (by simp)]
    refine Ret.ctl (R := fun r : Bool × Int => r.1 = true → goodV w (d + 1) t v ∧ 0 ≤ r.2 ∧ r.2 ≤ 60) (B := fun _ : Unit => t.data ≠ -1 ∧ v.n = 0 ∧ v.ctor ∈ ctorsP w t) ?_ (fun r hr => .some hr) (fun s hs => ?_)
    · refine Ret.ite (fun hi => ?_) (fun hi => ?_)
      · rw [ieq_true] at hi
        refine Ret.ite (fun h1 => ?_) (fun _ => .some (fun h => by cases h))
        rw [ieq_true] at h1
        rw [within_ok]
        simp only [Option.bind_some]
        refine Ret.ite (fun h2 => ?_) (fun _ => .some (fun h => by cases h))
        simp only [Bool.and_eq_true, decide_eq_true_eq] at h2
        refine .some (fun h3 => ?_)
        simp only [ieq_true, lenZ] at h3
        refine ⟨?_, by simp only; omega, by simp only; omega⟩
        simp only [goodV, if_pos hi]
        exact ⟨h1, h2.1, h2.2, List.eq_nil_of_length_eq_zero (by omega)⟩
      · rw [ieq_false] at hi
        refine Ret.ite (fun _ => .some (fun h => by cases h)) (fun h1 => ?_)
        rw [Bool.not_eq_false', ieq_true] at h1
        rw [hT.c2]
        simp only [Option.bind_some]
        rw [contains_int_ok]
        simp only [Option.bind_some]
        refine Ret.ite (fun _ => .some (fun h => by cases h)) (fun h2 => ?_)
        rw [Bool.not_eq_false', decide_eq_true_eq] at h2
        exact .some ⟨hi, h1, h2⟩
    · obtain ⟨s1, s2, s3⟩ := hs
      rw [hT.a2 _ s3]
      simp only [Option.bind_some]
      refine Ret.ite (fun _ => .some (fun h => by cases h)) (fun hl => ?_)
      rw [Bool.not_eq_false', ieq_true] at hl
      simp only [lenZ] at hl
      refine Ret.ctl (forL_rule v.kids (fun k s => 0 ≤ s ∧ s ≤ 60 ∧ ∀ (j : Nat) (a : GType) (x : GValue), j < k → (argsP w t v.ctor)[j]? = some a → v.kids[j]? = some x → goodV w d a x) (fun r : Bool × Int => r.1 = true → goodV w (d + 1) t v ∧ 0 ≤ r.2 ∧ r.2 ≤ 60) (fun s => 0 ≤ s ∧ s ≤ 60 ∧ goodV w (d + 1) t v) ⟨by omega, by omega, fun j a x hj => by omega⟩ (fun k x s hx hI => ?_) (fun s hI => ?_)) (fun r hr => .some hr) (fun s hs => .some (fun _ => ⟨hs.2.2, hs.1, hs.2.1⟩))
      · obtain ⟨i1, i2, i3⟩ := hI
        have hk := (List.getElem?_eq_some_iff.1 hx).1
        have ha : (argsP w t v.ctor)[k]? = some ((argsP w t v.ctor)[k]'(by omega)) := by simp
        rw [idx_ok ha]
        simp only [Option.bind_some]
        have hdd : wadd .i64 (11 - ((d + 1 : Nat) : Int)) 1 = 11 - (d : Int) := by rw [wadd_ok] <;> omega
        rw [hdd]
        refine Ret.bind (ih n _ x s (hT.at_ _ s3 _ (List.mem_of_getElem? ha)) i1 i2 (by omega) (by omega)) (fun r hr => ?_)
        refine Ret.ite (fun _ => .some (fun h => by cases h)) (fun h => ?_)
        rw [Bool.not_eq_false'] at h
        obtain ⟨g1, g2, g3⟩ := hr h
        refine .some ⟨g2, g3, fun j a y hj h1 h2 => ?_⟩
        by_cases hjk : j = k
        · subst hjk
          rw [ha] at h1
          rw [hx] at h2
          cases h1
          cases h2
          exact g1
        · exact i3 j a y (by omega) h1 h2
      · refine ⟨hI.1, hI.2.1, ?_⟩
        simp only [goodV, if_neg s1]
        exact ⟨s2, s3, by omega, fun j a x h1 h2 => hI.2.2 j a x (List.getElem?_eq_some_iff.1 h2).1 h1 h2⟩
theorem valueOk_ok {w : List GData} (hw : WW w) {t : GType} (ht : t ∈ tys w) (v : GValue) : Ret (m_impl_valueOk NN w t v) (fun r => r = true → goodV w 10 t v) := by
  unfold m_impl_valueOk
  refine Ret.bind (vscan_ok hw 10 NN t v 0 ht (by omega) (by omega) (by decide) (by omega)) (fun r hr => .some fun h => (hr h).1)
theorem implSimp_ok {w : List GData} (hw : WW w) {t : GType} (ht : t ∈ tys w) {p : GPattern} (hp : validP w t p = true) :
    ∃ q, m_impl_SimplifyPattern NN w t p = some (q, true) ∧ m_spec_SimplifyPattern NN w t p = some (q, true) ∧ Keep w 10 t q p := by
  obtain ⟨g, c, l⟩ := valid_good hp
  obtain ⟨q, h1, h2, k⟩ := simple_ok hw 10 NN t p ht g l (by omega) (by decide)
  have hd := good_deep 10 t q k.g
  have hc := k.c
  refine ⟨q, ?_, ?_, k⟩
  · have hv : m_impl_PatternValid NN w t p = some true := by
      unfold m_impl_PatternValid
      rw [implTV_ok hw ht]
      simp only [Option.bind_some, if_true]
      obtain ⟨r, e, hr⟩ := patternVars_ok hw (n := NN) (by decide) t p ht
      rw [hp] at hr
      simp only [m_impl_patternOk, e, Option.bind_some, hr.1]
    unfold m_impl_SimplifyPattern
    rw [hv]
    simp only [Option.bind_some, Bool.not_true, Bool.false_eq_true, if_false]
    rw [h1]
    simp only [Option.bind_some]
    rw [implOwn_ok 10 NN q hd (by decide) (by omega)]
    rfl
  · have hv : m_spec_PatternValid NN w t p = some true := by
      unfold m_spec_PatternValid
      rw [specTV_ok hw ht]
      simp only [Option.bind_some, if_true]
      rw [specIs_ok hw (n := NN) (by decide) t p ht, hp]
      rfl
    unfold m_spec_SimplifyPattern
    rw [hv]
    simp only [Option.bind_some, Bool.not_true, Bool.false_eq_true, if_false]
    rw [h2]
    simp only [Option.bind_some]
    rw [specCopy_ok 10 NN q hd (by decide) (by omega)]
    rfl
theorem law_simple (code more : List Int) (hb : ∀ x ∈ code, 0 ≤ x ∧ x ≤ 255) : m_laws_FnSimpleChoice NN code more = some true := by
  have hr : Ret (m_laws_FnSimpleChoice NN code more) (fun r => r = true) := by
    unfold m_laws_FnSimpleChoice
    refine Ret.ite (fun _ => .some rfl) (fun _ => ?_)
    refine Ret.ite (fun _ => .some rfl) (fun hm => ?_)
    rw [ilt_false] at hm
    simp only [lenZ] at hm
    refine Ret.bind (closed_ok code hb) (fun a ha => ?_)
    obtain ⟨w, t, l⟩ := a
    obtain ⟨hww, ht, hlen⟩ := ha
    simp only at hww ht hlen ⊢
    have hw := ww hww
    rw [implClauses_ok hw ht l, specClauses_ok hw ht l]
    simp only [Option.bind_some]
    refine Ret.ite (fun _ => .some (by simp)) (fun hv => ?_)
    rw [Bool.not_eq_false'] at hv
    have hv0 := hv
    simp only [clausesB, Bool.and_eq_true, decide_eq_true_eq, List.all_eq_true] at hv
    have hvc : ∀ c ∈ l, validP w t c.pat = true := fun c hc => by
      have := hv.2 c hc
      simp only [clauseB, Bool.and_eq_true] at this
      exact this.1
    refine Ret.ctl (forL_rule l (fun k s => s.length = k ∧ ∀ (j : Nat) (c' c : GClause), s[j]? = some c' → l[j]? = some c → c'.guard = c.guard ∧ Keep w 10 t c'.pat c.pat) (fun _ => False) (fun s => s.length = l.length ∧ ∀ (j : Nat) (c' c : GClause), s[j]? = some c' → l[j]? = some c → c'.guard = c.guard ∧ Keep w 10 t c'.pat c.pat) ⟨rfl, fun j c' c h => by simp at h⟩ (fun k c s hc hI => ?_) (fun s hI => hI)) (fun r hr => hr.elim) (fun s hs => ?_)
    · obtain ⟨i1, i2⟩ := hI
      have hk := (List.getElem?_eq_some_iff.1 hc).1
      obtain ⟨q, h1, h2, kq⟩ := implSimp_ok hw ht (hvc c (List.mem_of_getElem? hc))
      rw [h1, h2]
      simp only [Option.bind_some, Bool.not_true, Bool.false_eq_true, if_false]
      refine Ret.bind (implSame_ok 10 NN q q (good_deep 10 t q kq.g) (by decide)) (fun r hr => ?_)
      rw [hr.2 rfl]
      simp only [Bool.not_true, Bool.false_eq_true, if_false]
      rw [app_ok (by simp [rowLimit]; omega)]
      refine .some ⟨by simp [i1], fun j c1 c2 e1 e2 => ?_⟩
      rw [List.getElem?_append] at e1
      split at e1
      · exact i2 j c1 c2 e1 e2
      · rename_i hj
        have hj1 : j - s.length = 0 := by
          have := (List.getElem?_eq_some_iff.1 e1).1
          simp at this
          omega
        have hjk : j = k := by omega
        subst hjk
        rw [hj1] at e1
        simp only [List.getElem?_cons_zero, Option.some.injEq] at e1
        rw [hc] at e2
        cases e2
        subst e1
        exact ⟨rfl, kq⟩
    · obtain ⟨s1, s2⟩ := hs
      have hother : clausesB w t s = true := by
        simp only [clausesB, Bool.and_eq_true, decide_eq_true_eq, List.all_eq_true]
        refine ⟨by rw [s1]; exact hv.1, fun c' hc' => ?_⟩
        obtain ⟨j, hj⟩ := List.mem_iff_getElem?.1 hc'
        have hjl := (List.getElem?_eq_some_iff.1 hj).1
        have hc : l[j]? = some (l[j]'(by omega)) := by simp
        obtain ⟨e1, k⟩ := s2 j c' _ hj hc
        have hcb := hv.2 _ (List.mem_of_getElem? hc)
        simp only [clauseB, Bool.and_eq_true] at hcb
        obtain ⟨g, c, ll⟩ := valid_good hcb.1
        have kc := k.c
        simp only [clauseB, Bool.and_eq_true]
        refine ⟨by simp only [validP, k.g, k.l, Bool.true_and, Bool.and_true, decide_eq_true_eq]; omega, ?_⟩
        rw [e1, k.v]
        exact hcb.2
      have hrem : 1 ≤ wadd .i64 1 (wrem (lenZ more.length) 3) ∧ wadd .i64 1 (wrem (lenZ more.length) 3) ≤ 3 := by
        have e : wrem (lenZ more.length) 3 = ((more.length % 3 : Nat) : Int) := by
          show Int.tmod _ _ = _
          simp only [lenZ]
          rw [Int.tmod_eq_emod_of_nonneg (by omega)]
          omega
        rw [e, wadd_ok (by omega) (by omega)]
        omega
      obtain ⟨vs, hvs⟩ := upto_ok hww ht hrem.1 hrem.2
      rw [hvs]
      simp only [Option.bind_some]
      refine Ret.ctl (forL_rule vs.1 (fun _ _ => True) (fun _ => False) (fun _ => True) trivial (fun k v u _ _ => ?_) (fun _ _ => trivial)) (fun r hr => hr.elim) (fun _ _ => .some rfl)
      obtain ⟨ok, eok, hok⟩ := valueOk_ok hw ht v
      unfold m_impl_RunClauses
      rw [implClauses_ok hw ht l, implClauses_ok hw ht s, hv0, hother]
      simp only [Option.bind_some, Bool.not_true, Bool.false_eq_true, if_false]
      rw [eok]
      simp only [Option.bind_some]
      cases ok with
      | false =>
        simp only [Bool.not_false, if_true, Option.bind_some]
        rw [if_neg (by simp [ieq]), ptBinds_refl (fun b hb => by cases hb)]
        exact .some trivial
      | true =>
        have hgv := hok rfl
        simp only [Bool.not_true, Bool.false_eq_true, if_false]
        have hm : ∀ c ∈ l, Ret (m_impl_match NN c.pat v) (fun r => r.2 = (matchD 10 c.pat v).isSome ∧ ∀ l, matchD 10 c.pat v = some l → r.1 = l) := fun c hc => by
          obtain ⟨g, c0, ll⟩ := valid_good (hvc c hc)
          exact (match_ok hw 10 NN t c.pat v 10 ht g hgv (by decide) (by omega)).mono fun r hr => hr.2
        have hrun : m_impl_run NN s v = m_impl_run NN l v := run_eq s1 fun j c' c e1 e2 => by
          obtain ⟨f1, k⟩ := s2 j c' c e1 e2
          have hcl := List.mem_of_getElem? e2
          obtain ⟨g, c0, ll⟩ := valid_good (hvc c hcl)
          have kc := k.c
          have hm' := (match_ok hw 10 NN t c'.pat v 10 ht k.g hgv (by decide) (by omega)).mono fun r hr => hr.2
          rw [k.m 10 v hgv] at hm'
          exact ⟨f1, matched_eq hm' (hm c hcl)⟩
        rw [hrun]
        obtain ⟨r, er, hr⟩ := run_ok (l := l) (v := v) fun c hc => by
          obtain ⟨g, c0, ll⟩ := valid_good (hvc c hc)
          refine (matched_ok (hm c hc) fun x hx => ⟨?_, fun b hb => ?_⟩).mono fun r hr => ⟨hr.1, hr.2.1⟩
          · rw [match_len 10 t c.pat g ll v x hx]
            have := vars_len g ll
            omega
          · obtain ⟨e', h1, h2⟩ := match_deep 10 c.pat 10 v x (good_deepV hw 10 t v ht hgv) hx b hb
            exact deepV_le _ _ _ h1 h2
        rw [er]
        simp only [Option.bind_some]
        rw [if_neg (by simp [ieq]), ptBinds_refl hr]
        exact .some trivial
  obtain ⟨_, e, rfl⟩ := hr
  exact e
end Go.Proofs.YtimpchdgflhkaaaGreat
