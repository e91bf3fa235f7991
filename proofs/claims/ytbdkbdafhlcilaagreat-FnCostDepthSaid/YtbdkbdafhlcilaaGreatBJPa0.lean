import Derived.Test.YtbdkbdafhlcilaaGreatBJP0
import Derived.Test.YtbdkbdafhlcilaaGreatBJE1
import Derived.Test.YtbdkbdafhlcilaaGreatBJE0
import Derived.Test.YtbdkbdafhlcilaaGreatBJMir
import Derived.Test.YtbdkbdafhlcilaaGreatBJMa0
import Derived.Test.YtbdkbdafhlcilaaGreatBJP1
set_option linter.unusedSimpArgs false
set_option linter.unusedVariables false
namespace Go.Proofs.YtbdkbdafhlcilaaGreat
open Go Go.RowKit
theorem Z8n (l : List Q5) (f : Q5 → Option Bool) (g : Q5 → Bool) (hf : ∀ x ∈ l, f x = some (g x)) : Q07 l f = some (l.any g) := X82 (Z0w l f g hf)
end Go.Proofs.YtbdkbdafhlcilaaGreat
namespace Go.Proofs.YtbdkbdafhlcilaaGreat
open Go Go.RowKit
def tupV (out : List (List Q1)) (l : List Q1) : List (List Q1) := out.flatMap fun q => l.map fun c => q ++ [c]
def mkV (c : Int) (ks : List Q1) : Q1 := Q1.mk c 0 ks
def numV (n : Nat) : Q1 := Q1.mk (-1) (n : Int) []
def Y3 (w : List Q3) : Nat → Q5 → List Q1
 | 0, _ => []
 | d + 1, t => if t.data = -1 then (List.range 10).map numV else (X1 w t).flatMap fun c => (((Y7 w t c).map (Y3 w d)).foldl tupV [[]]).map (mkV c)
theorem Z29 (out : List (List Q1)) (l : List Q1) : (tupV out l).length = out.length * l.length := by
 induction out with
 | nil => simp [tupV]
 | cons q out ih =>
  have e : tupV (q :: out) l = (l.map fun c => q ++ [c]) ++ tupV out l := by simp [tupV]
  rw [e, List.length_append, ih, List.length_map, List.length_cons, Nat.succ_mul]
  omega
theorem X1n : ∀ (ls : List (List Q1)) (out : List (List Q1)), (out = [] ∨ [] ∈ ls) → ls.foldl tupV out = []
 | [], out, h => by
  rcases h with h | h
  ·exact h
  ·cases h
 | l :: ls, out, h => by
  rw [List.foldl_cons]
  refine X1n ls _ ?_
  rcases h with rfl | h
  ·left; simp [tupV]
  ·rcases List.mem_cons.1 h with rfl | h
   ·left; simp [tupV]
   ·right; exact h
theorem Z9q : ∀ (ls : List (List Q1)) (out : List (List Q1)), (∀ l ∈ ls, l ≠ []) → out.length ≤ (ls.foldl tupV out).length
 | [], _, _ => Nat.le_refl _
 | l :: ls, out, h => by
  rw [List.foldl_cons]
  have h1 := Z9q ls (tupV out l) fun x hx => h x (by simp [hx])
  rw [Z29] at h1
  have h2 : 1 ≤ l.length := List.length_pos_iff.2 (h l (by simp))
  exact Nat.le_trans (Nat.le_mul_of_pos_right _ h2) h1
theorem Z8v {ls : List (List Q1)} (h : ∀ l ∈ ls, l ≠ []) (k : Nat) : ((ls.take k).foldl tupV [[]]).length ≤ (ls.foldl tupV [[]]).length := by
 rw [← List.take_append_drop k ls, List.foldl_append, List.take_append_drop]
 exact Z9q _ _ fun l hl => h l (List.mem_of_mem_drop hl)
theorem Z3o {ls : List (List Q1)} {k : Nat} {l : List Q1} (h : ls[k]? = some l) : (ls.take (k + 1)).foldl tupV [[]] = tupV ((ls.take k).foldl tupV [[]]) l := by
 rw [List.take_add_one, h]; simp
theorem W12 {ls : List (List Q1)} (h : ∀ l ∈ ls, l ≠ []) : 1 ≤ (ls.foldl tupV [[]]).length := Z9q ls [[]] h
theorem Z5s : ∀ (ls : List (List Q1)) (out : List (List Q1)) (ks : List Q1), ks ∈ ls.foldl tupV out →
  ∃ a b, a ∈ out ∧ ks = a ++ b ∧ b.length = ls.length ∧ ∀ (i : Nat) (q : Q1) (l : List Q1), b[i]? = some q → ls[i]? = some l → q ∈ l
 | [], out, ks, h => ⟨ks, [], by simpa using h, by simp, rfl, by simp⟩
 | l :: ls, out, ks, h => by
  rw [List.foldl_cons] at h
  obtain ⟨a, b, ha, rfl, hl, hb⟩ := Z5s ls (tupV out l) ks h
  simp only [tupV, List.mem_flatMap, List.mem_map] at ha
  obtain ⟨a0, h0, c, hc, rfl⟩ := ha
  refine ⟨a0, c :: b, h0, by simp, by simp [hl], fun i q m h1 h2 => ?_⟩
  cases i with
  | zero => simp at h1 h2; subst h1 h2; exact hc
  | succ i => exact hb i q m (by simpa using h1) (by simpa using h2)
theorem Z5r {w : List Q3} : ∀ (d : Nat) (t : Q5) (v : Q1), v ∈ Y3 w d t → Q5x w d t v := by
 intro d
 induction d with
 | zero => intro t v h; simp [Y3] at h
 | succ d ih =>
  intro t v h
  rw [Y3] at h
  rw [Q5x]
  split
  ·rename_i hd
   rw [if_pos hd] at h
   obtain ⟨n, hn, rfl⟩ := List.mem_map.1 h
   have := List.mem_range.1 hn
   exact ⟨rfl, by simp only [numV]; omega, by simp only [numV]; omega, rfl⟩
  ·rename_i hd
   rw [if_neg hd] at h
   obtain ⟨c, hc, h⟩ := List.mem_flatMap.1 h
   obtain ⟨ks, hks, rfl⟩ := List.mem_map.1 h
   obtain ⟨a, b, ha, rfl, hl, hb⟩ := Z5s _ _ _ hks
   simp only [List.mem_singleton] at ha
   subst ha
   simp only [List.length_map] at hl
   refine ⟨rfl, hc, by simp [mkV, hl], fun j u x hu hx => ih u x ?_⟩
   simp only [mkV] at hu hx
   exact hb j x (Y3 w d u) (by simpa using hx) (by rw [List.getElem?_map, hu]; rfl)
theorem W6e {a b m : Nat} : min (min a m * min b m) m = min (a * b) m := by
 rcases Nat.eq_zero_or_pos a with rfl | ha
 ·simp
 rcases Nat.eq_zero_or_pos b with rfl | hb
 ·simp
 rcases Nat.le_total a m with h1 | h1 <;> rcases Nat.le_total b m with h2 | h2
 ·rw [Nat.min_eq_left h1, Nat.min_eq_left h2]
 ·rw [Nat.min_eq_left h1, Nat.min_eq_right h2, Nat.min_eq_right, Nat.min_eq_right]
  ·exact Nat.le_trans h2 (Nat.le_mul_of_pos_left _ ha)
  ·exact Nat.le_mul_of_pos_left _ ha
 ·rw [Nat.min_eq_right h1, Nat.min_eq_left h2, Nat.min_eq_right, Nat.min_eq_right]
  ·exact Nat.le_trans h1 (Nat.le_mul_of_pos_right _ hb)
  ·exact Nat.le_mul_of_pos_right _ hb
 ·rw [Nat.min_eq_right h1, Nat.min_eq_right h2]
  rcases Nat.eq_zero_or_pos m with rfl | hm
  ·simp
  ·rw [Nat.min_eq_right (Nat.le_mul_of_pos_left _ hm), Nat.min_eq_right (Nat.le_trans h2 (Nat.le_mul_of_pos_left _ ha))]
theorem X72 (a b : Nat) : imin (a : Int) (b : Int) = ((min a b : Nat) : Int) := by
 unfold imin
 split <;> omega
theorem X3o {w : List Q3} (hw : WW w) : ∀ (d n : Nat) (t : Q5), t ∈ tys w → d + 2 ≤ n → d ≤ 100 → Q0g n w t (d : Int) = some ((min (Y3 w d t).length 401 : Nat) : Int) := by
 intro d
 induction d with
 | zero =>
  intro n t ht hn _
  obtain ⟨n, rfl⟩ : ∃ k, n = k + 1 := ⟨n - 1, by omega⟩
  unfold Q0g
  rw [if_pos (by simp [ieq])]
  rfl
 | succ d ih =>
  intro n t ht hn hd
  obtain ⟨n, rfl⟩ : ∃ k, n = k + 1 := ⟨n - 1, by omega⟩
  have hT := hw.ty t ht
  suffices hs : Ret (Q0g (n + 1) w t ((d + 1 : Nat) : Int)) (fun a => a = ((min (Y3 w (d + 1) t).length 401 : Nat) : Int)) by
   obtain ⟨a, e, rfl⟩ := hs
   exact e
  unfold Q0g
  rw [if_neg (by rw [X5]; omega)]
  have e1 : wsub .i64 ((d + 1 : Nat) : Int) 1 = (d : Int) := by rw [Q1u] <;> omega
  rw [e1]
  by_cases hi : t.data = -1
  ·rw [if_pos (by rw [X5]; exact hi)]
   refine .some ?_
   simp [Y3, hi]
  ·rw [if_neg (by rw [X5]; exact hi), hT.c2]
   simp only [Option.bind_some]
   have hv : Y3 w (d + 1) t = (X1 w t).flatMap fun c => (((Y7 w t c).map (Y3 w d)).foldl tupV [[]]).map (mkV c) := by rw [Y3, if_neg hi]
   rw [hv]
   generalize hF : (fun c => (((Y7 w t c).map (Y3 w d)).foldl tupV [[]]).map (mkV c)) = F
   refine Ret.ctl (Z2 (X1 w t) (fun i s => s = ((min (((X1 w t).take i).flatMap F).length 401 : Nat) : Int)) (fun _ => False) (fun s => s = ((min ((X1 w t).flatMap F).length 401 : Nat) : Int)) (by simp) (fun i c s hc hI => ?_) (fun s hI => by rw [hI, List.take_length])) (fun r hr => hr.elim) (fun s hs => .some hs)
   have hcm := List.mem_of_getElem? hc
   rw [hT.a2 _ hcm]
   simp only [Option.bind_some]
   refine Ret.ctl (Z2 (Y7 w t c) (fun k s => s = ((min ((((Y7 w t c).map (Y3 w d)).take k).foldl tupV [[]]).length 401 : Nat) : Int)) (fun _ => False) (fun s => s = ((min (F c).length 401 : Nat) : Int)) (by simp) (fun k a u ha hJ => ?_) (fun s hJ => ?_)) (fun r hr => hr.elim) (fun u hu => ?_)
   ·rw [ih n a (hT.at_ _ hcm _ (List.mem_of_getElem? ha)) (by omega) (by omega)]
    simp only [Option.bind_some]
    refine .some ?_
    simp only [V6]
    rw [Z3o (l := Y3 w d a) (by rw [List.getElem?_map, ha]; rfl), Z29, hJ]
    generalize ((((Y7 w t c).map (Y3 w d)).take k).foldl tupV [[]]).length = A
    generalize (Y3 w d a).length = B
    have hm : min A 401 * min B 401 ≤ 401 * 401 := Nat.mul_le_mul (Nat.min_le_right _ _) (Nat.min_le_right _ _)
    have e : ((min A 401 : Nat) : Int) * ((min B 401 : Nat) : Int) = ((min A 401 * min B 401 : Nat) : Int) := by simp
    rw [Q72 (by rw [e]; omega) (by rw [e]; omega), e, show (401 : Int) = ((401 : Nat) : Int) from rfl, X72, W6e]
   ·rw [hJ, List.take_of_length_le (by simp), ← hF, List.length_map]
   ·refine .some ?_
    simp only [V6]
    rw [hu, hI, List.take_add_one, hc]
    simp only [Option.toList_some, List.flatMap_append, List.flatMap_cons, List.flatMap_nil, List.append_nil, List.length_append]
    generalize (((X1 w t).take i).flatMap F).length = A
    generalize (F c).length = B
    rw [V1 (by omega) (by omega)]
    have e : ((min A 401 : Nat) : Int) + ((min B 401 : Nat) : Int) = ((min A 401 + min B 401 : Nat) : Int) := by omega
    rw [e, show (401 : Int) = ((401 : Nat) : Int) from rfl, X72]
    congr 1
    omega
theorem X5x (l : List Q1) (h : l.length ≤ Q4) : Q1b l = some l := by
 unfold Q1b
 rw [X6 (by simpa using h)]
 rfl
theorem X0n {α β : Type} (l : List α) (F : α → List β) (i : Nat) : ((l.take i).flatMap F).length ≤ (l.flatMap F).length := by
 conv => rhs; rw [← List.take_append_drop i l, List.flatMap_append, List.length_append]
 omega
theorem X06 {w : List Q3} (hw : WW w) : ∀ (d n : Nat) (t : Q5), t ∈ tys w → d + 20 ≤ n → d ≤ 100 → (Y3 w d t).length ≤ 400 → Q34 n w t (d : Int) = some (Y3 w d t) := by
 intro d
 induction d with
 | zero =>
  intro n t ht hn _ _
  obtain ⟨n, rfl⟩ : ∃ k, n = k + 1 := ⟨n - 1, by omega⟩
  unfold Q34
  rw [if_pos (by simp [ieq])]
  rfl
 | succ d ih =>
  intro n t ht hn hd hlen
  obtain ⟨n, rfl⟩ : ∃ k, n = k + 1 := ⟨n - 1, by omega⟩
  have hT := hw.ty t ht
  suffices hs : Ret (Q34 (n + 1) w t ((d + 1 : Nat) : Int)) (fun a => a = Y3 w (d + 1) t) by
   obtain ⟨a, e, rfl⟩ := hs
   exact e
  unfold Q34
  rw [if_neg (by rw [X5]; omega)]
  have e1 : wsub .i64 ((d + 1 : Nat) : Int) 1 = (d : Int) := by rw [Q1u] <;> omega
  rw [e1]
  by_cases hi : t.data = -1
  ·rw [if_pos (by rw [X5]; exact hi)]
   have hv : Y3 w (d + 1) t = (List.range 10).map numV := by rw [Y3, if_pos hi]
   rw [hv]
   refine Ret.ctl (Q1v (fun s : List Q1 × Int => ∃ k : Nat, k ≤ 10 ∧ s = ((List.range k).map numV, (k : Int))) (fun s => (10 - s.2).toNat) (fun _ => False) (fun s => s.1 = (List.range 10).map numV) ⟨0, by omega, rfl⟩ (fun s hI => ?_) n (by simp; omega)) (fun r hr => hr.elim) (fun s hs => .some hs)
   obtain ⟨k, hk, rfl⟩ := hI
   refine Ret.ite (fun h1 => ?_) (fun h1 => ?_)
   ·rw [X2] at h1
    simp only [Q7e, Option.bind_some]
    rw [X6 (by simp only [List.length_map, List.length_range, List.length_cons, List.length_nil, Q4]; omega)]
    simp only [Option.bind_some]
    have e2 : wadd .i64 (k : Int) 1 = ((k + 1 : Nat) : Int) := by rw [V1] <;> omega
    rw [e2]
    refine .some ⟨⟨k + 1, by omega, ?_⟩, by simp only; omega⟩
    rw [List.range_succ, List.map_append]; rfl
   ·rw [W5] at h1
    refine .some ?_
    simp only at h1
    rw [show k = 10 by omega]
    exact rfl
  ·rw [if_neg (by rw [X5]; exact hi), hT.c2]
   simp only [Option.bind_some]
   have hv : Y3 w (d + 1) t = (X1 w t).flatMap fun c => (((Y7 w t c).map (Y3 w d)).foldl tupV [[]]).map (mkV c) := by rw [Y3, if_neg hi]
   rw [hv] at hlen ⊢
   generalize hF : (fun c => (((Y7 w t c).map (Y3 w d)).foldl tupV [[]]).map (mkV c)) = F at *
   refine Ret.ctl (Z2 (X1 w t) (fun i s => s = ((X1 w t).take i).flatMap F) (fun _ => False) (fun s => s = (X1 w t).flatMap F) (by simp) (fun i c s hc hI => ?_) (fun s hI => by rw [hI, List.take_length])) (fun r hr => hr.elim) (fun s hs => .some hs)
   have hcm := List.mem_of_getElem? hc
   have hFc : F c = (((Y7 w t c).map (Y3 w d)).foldl tupV [[]]).map (mkV c) := by rw [← hF]
   have hnext : ((X1 w t).take (i + 1)).flatMap F = ((X1 w t).take i).flatMap F ++ F c := by
    rw [List.take_add_one, hc]; simp
   have hle := X0n (X1 w t) F (i + 1)
   rw [hnext, List.length_append] at hle
   have hat := hT.at_ _ hcm
   have hal := hT.al _ hcm
   refine Ret.bind (P := CtlQ (fun r : Ctl (List Q1) (List Q1) => RndQ (fun _ => False) (fun s => s = (X1 w t).flatMap F) (fun s => s = ((X1 w t).take (i + 1)).flatMap F) r) (fun s => s = ((X1 w t).take (i + 1)).flatMap F)) ?_ (fun o ho => ?_)
   ·rw [hT.a2 _ hcm]
    simp only [Option.bind_some]
    have hcf : Q07 (Y7 w t c) (fun a0 => Q4o n a0 w ((d + 1 : Nat) : Int)) = some ((Y7 w t c).any fun a => decide ((Y3 w d a).length = 0)) := by
     refine Z8n _ _ _ fun a ha => ?_
     unfold Q4o
     rw [e1, X3o hw d n a (hat _ ha) (by omega) (by omega)]
     simp only [Option.bind_some, ieq]
     congr 1
     by_cases h0 : (Y3 w d a).length = 0
     ·simp [h0]
     ·rw [decide_eq_false h0, decide_eq_false]; omega
    rw [hcf]
    simp only [Option.bind_some]
    cases hany : (Y7 w t c).any fun a => decide ((Y3 w d a).length = 0) with
    | true =>
     simp only [if_true]
     refine .some ?_
     simp only [Q6c]
     rw [hnext, hI]
     obtain ⟨a, ha, h0⟩ := List.any_eq_true.1 hany
     simp only [decide_eq_true_eq] at h0
     have : F c = [] := by
      rw [hFc, X1n _ _ (.inr (List.mem_map.2 ⟨a, ha, List.eq_nil_of_length_eq_zero h0⟩))]; rfl
     rw [this, List.append_nil]
    | false =>
     simp only [Bool.false_eq_true, if_false]
     have hne : ∀ l ∈ (Y7 w t c).map (Y3 w d), l ≠ [] := fun l hl e => by
      obtain ⟨a, ha, rfl⟩ := List.mem_map.1 hl
      have := List.any_eq_false.1 hany a ha
      simp [e] at this
     have hlenF : (F c).length = (((Y7 w t c).map (Y3 w d)).foldl tupV [[]]).length := by rw [hFc, List.length_map]
     refine Ret.ctl (Z2 (Y7 w t c) (fun k s => s = ((((Y7 w t c).map (Y3 w d)).take k).foldl tupV [[]]).map (mkV c)) (fun _ => False) (fun s => s = F c) (by simp [mkV]) (fun k a u ha hJ => ?_) (fun s hJ => by rw [hJ, List.take_of_length_le (by simp), hFc])) (fun r hr => hr.elim) (fun u hu => ?_)
     ·have hk1 := Z8v hne (k + 1)
      have hk0 := Z8v hne k
      have hg : ((Y7 w t c).map (Y3 w d))[k]? = some (Y3 w d a) := by rw [List.getElem?_map, ha]; rfl
      have hp : 1 ≤ ((((Y7 w t c).map (Y3 w d)).take k).foldl tupV [[]]).length := W12 fun l hl => hne l (List.mem_of_mem_take hl)
      have ha1 : 1 ≤ (Y3 w d a).length := List.length_pos_iff.2 (hne _ (List.mem_of_getElem? hg))
      rw [Z3o hg, Z29] at hk1
      have hva : (Y3 w d a).length ≤ 400 := by
       have := Nat.le_mul_of_pos_left (Y3 w d a).length hp
       omega
      rw [ih n a (hat _ (List.mem_of_getElem? ha)) (by omega) (by omega) hva]
      simp only [Option.bind_some]
      rw [Z3o hg]
      have hkl : ∀ ks ∈ (((Y7 w t c).map (Y3 w d)).take k).foldl tupV [[]], ks.length ≤ 3 := fun ks hks => by
       obtain ⟨x, y, hx, rfl, hl, _⟩ := Z5s _ _ _ hks
       simp only [List.mem_singleton] at hx
       subst hx
       simp only [List.length_take, List.length_map] at hl
       simp only [List.nil_append]
       omega
      generalize ((((Y7 w t c).map (Y3 w d)).take k).foldl tupV [[]]) = T at *
      generalize Y3 w d a = L at *
      refine Ret.ctl (Z2 u (fun j z => z = (tupV (T.take j) L).map (mkV c)) (fun _ => False) (fun z => z = (tupV T L).map (mkV c)) (by simp [tupV]) (fun j x z hx hK => ?_) (fun z hK => by rw [hK, hJ, List.length_map, List.take_length])) (fun r hr => hr.elim) (fun z hz => .some hz)
      rw [hJ, List.getElem?_map] at hx
      obtain ⟨ks, hks, rfl⟩ := Option.map_eq_some_iff.1 hx
      have hjl := (List.getElem?_eq_some_iff.1 hks).1
      have hks3 := hkl ks (List.mem_of_getElem? hks)
      have hnj : tupV (T.take (j + 1)) L = tupV (T.take j) L ++ L.map (fun c => ks ++ [c]) := by
       rw [List.take_add_one, hks]; simp [tupV]
      rw [hnj]
      refine Ret.ctl (Z2 L (fun i v => v = (tupV (T.take j) L ++ (L.take i).map (fun c => ks ++ [c])).map (mkV c)) (fun _ => False) (fun v => v = (tupV (T.take j) L ++ L.map (fun c => ks ++ [c])).map (mkV c)) (by simp [hK]) (fun i y v hy hM => ?_) (fun v hM => by rw [hM, List.take_length])) (fun r hr => hr.elim) (fun v hv => .some hv)
      simp only [mkV]
      rw [X5x _ (by simp only [Q4]; omega)]
      simp only [Option.bind_some]
      rw [X6 (by simp only [Q4, List.length_cons, List.length_nil]; omega)]
      simp only [Option.bind_some]
      have hil := (List.getElem?_eq_some_iff.1 hy).1
      have hvl : v.length ≤ 1000 * 1000 + 1000 := by
       rw [hM, List.length_map, List.length_append, Z29, List.length_map, List.length_take, List.length_take]
       have := Nat.mul_le_mul (show min j T.length ≤ 1000 by omega) (show L.length ≤ 1000 by omega)
       omega
      rw [X6 (by simp only [Q4, List.length_cons, List.length_nil]; omega)]
      refine .some ?_
      simp only [V6]
      rw [hM, List.take_add_one, hy]
      simp [mkV]
     ·have hsl : s.length ≤ 400 := by rw [hI]; omega
      dsimp only
      rw [X6 (by rw [hu]; simp only [Q4]; omega)]
      simp only [Option.bind_some]
      exact .some (by simp only [Q6c]; rw [hnext, hI, hu])
   ·cases o with
    | ret r => exact .some ho
    | brk s => exact .some ho
    | go s => exact ho.elim
theorem X50 {w : List Q3} (hw : WW w) {t : Q5} (ht : t ∈ tys w) {d : Nat} (hd : d ≤ 4) : Q13 NN w t (d : Int) = some (if (Y3 w d t).length ≤ 400 then (Y3 w d t, true) else ([], false)) := by
 suffices hs : Ret (Q13 NN w t (d : Int)) (fun r => r = if (Y3 w d t).length ≤ 400 then (Y3 w d t, true) else ([], false)) by
  obtain ⟨a, e, rfl⟩ := hs
  exact e
 unfold Q13
 rw [Z6p hw ht]
 simp only [Option.bind_some, Bool.not_true, Bool.false_eq_true, if_false]
 rw [Q7o]
 have e0 : (decide ((0 : Int) ≤ (d : Int)) && decide ((d : Int) ≤ 4)) = true := by simp only [Bool.and_eq_true, decide_eq_true_eq]; omega
 rw [e0]
 simp only [Option.bind_some, Bool.not_true, Bool.false_eq_true, if_false]
 rw [X3o hw d NN t ht (by simp only [NN]; omega) (by omega)]
 simp only [Option.bind_some]
 refine Ret.ite (fun h => ?_) (fun h => ?_)
 ·rw [X2] at h
  rw [if_neg (by omega)]
  exact .some rfl
 ·rw [W5] at h
  have hl : (Y3 w d t).length ≤ 400 := by omega
  rw [if_pos hl, X06 hw d NN t ht (by simp only [NN]; omega) (by omega) hl]
  simp only [Option.bind_some]
  refine Ret.ctl (Z2 (Y3 w d t) (fun i s => s = (Y3 w d t).take i) (fun _ => False) (fun s => s = Y3 w d t) (by simp) (fun i v s hv hI => ?_) (fun s hI => by rw [hI, List.take_length])) (fun r hr => hr.elim) (fun s hs => .some (by rw [hs]))
  have hg := Z5r d t v (List.mem_of_getElem? hv)
  rw [Z6c d NN v (Z0y hw d t v ht hg) (by simp only [NN]; omega)]
  simp only [Option.bind_some]
  rw [X6 (by rw [hI]; simp only [List.length_take, List.length_cons, List.length_nil, Q4]; omega)]
  refine .some ?_
  simp only [V6]
  rw [hI, List.take_add_one, hv]
  rfl
end Go.Proofs.YtbdkbdafhlcilaaGreat
namespace Go.Proofs.YtbdkbdafhlcilaaGreat
open Go Go.RowKit
theorem W1k : ∀ (d : Nat) (t : Z9) (lst : List Q6) (v : Q1) (a : Int) (bs : List J7) (k : Nat), runT d t lst v = some (a, bs, k) → k ≤ d := by
 intro d
 induction d with
 | zero => intro t lst v a bs k h; cases h
 | succ d ih =>
  intro t lst v a bs k h
  rw [runT] at h
  split at h
  ·rw [Option.bind_eq_some_iff] at h
   obtain ⟨u, _, h⟩ := h
   split at h
   ·simp only [Option.some.injEq, Prod.mk.injEq] at h
    omega
   ·rw [Option.map_eq_some_iff] at h
    obtain ⟨r, hr, h⟩ := h
    simp only [Prod.mk.injEq] at h
    have := ih _ _ _ r.1 r.2.1 r.2.2 hr
    omega
  split at h
  ·rw [Option.bind_eq_some_iff] at h
   obtain ⟨c, _, h⟩ := h
   rw [Option.bind_eq_some_iff] at h
   obtain ⟨l, _, h⟩ := h
   split at h
   ·simp only [Option.some.injEq, Prod.mk.injEq] at h
    omega
   ·split at h
    ·have := ih _ _ _ a bs k h
     omega
    ·cases h
  ·simp only [Option.some.injEq, Prod.mk.injEq] at h
   omega
end Go.Proofs.YtbdkbdafhlcilaaGreat
namespace Go.Proofs.YtbdkbdafhlcilaaGreat
open Go Go.RowKit
theorem X1o {α : Type} (M : Nat) (a b : List α) : (a.take M ++ b).take M = (a ++ b).take M := by
 rw [List.take_append, List.take_append, List.take_take, Nat.min_self]
 congr 1
 rw [List.length_take]
 by_cases h : a.length ≤ M
 ·rw [Nat.min_eq_right h]
 ·rw [Nat.min_eq_left (by omega), show M - M = 0 by omega, show M - a.length = 0 by omega]
theorem W15 {α : Type} (M : Nat) (a b : List α) : (a ++ b.take M).take M = (a ++ b).take M := by
 rw [List.take_append, List.take_append, List.take_take, Nat.min_eq_left (by omega)]
theorem Q8q {α : Type} {l : List α} {k : Nat} {x : α} (h : l[k]? = some x) : l.take (k + 1) = l.take k ++ [x] := by
 rw [List.take_add_one, h]; rfl
theorem X8b (M : Nat) (out : List (List Q1)) (l : List Q1) : (tupV (out.take (M + 1)) (l.take (M + 1))).take (M + 1) = (tupV out l).take (M + 1) := by
 by_cases hl : l.length ≤ M + 1
 ·rw [List.take_of_length_le hl]
  rcases Nat.eq_zero_or_pos l.length with h0 | h0
  ·rw [List.eq_nil_of_length_eq_zero h0]
   have : ∀ o : List (List Q1), tupV o [] = [] := fun o => by simp [tupV]
   rw [this, this]
  ·have h1 : tupV out l = tupV (out.take (M + 1)) l ++ tupV (out.drop (M + 1)) l := by
    unfold tupV
    rw [← List.flatMap_append, List.take_append_drop]
   rw [h1]
   by_cases ho : out.length ≤ M + 1
   ·rw [List.drop_of_length_le ho]
    simp [tupV]
   ·rw [List.take_append_of_le_length]
    rw [Z29, List.length_take, Nat.min_eq_left (by omega)]
    exact Nat.le_mul_of_pos_right _ h0
 ·cases out with
  | nil => simp [tupV]
  | cons q out =>
   have e1 : ∀ (o : List (List Q1)) (x : List Q1), tupV (q :: o) x = (x.map fun c => q ++ [c]) ++ tupV o x := fun o x => by simp [tupV]
   rw [List.take_succ_cons, e1, e1, List.take_append_of_le_length (by simp; omega), List.take_append_of_le_length (by simp; omega), List.map_take, List.take_take, Nat.min_self]
theorem Z8u (M : Nat) : ∀ (ls : List (List Q1)) (out : List (List Q1)), (((ls.map (List.take (M + 1))).foldl (fun o l => (tupV o l).take (M + 1)) (out.take (M + 1)))) = (ls.foldl tupV out).take (M + 1)
 | [], out => rfl
 | l :: ls, out => by
  simp only [List.map_cons, List.foldl_cons]
  rw [X8b, Z8u M ls (tupV out l)]
theorem X2d {α β ρ : Type} {M : Nat} (hM : M ≤ 1000) (g : α → β) {F : Nat → α → List β → Option (Ctl ρ (List β))}
  (hF : ∀ (k : Nat) (x : α) (s : List β), s.length ≤ M + 1 → F k x s = if ile (lenZ s.length) (M : Int) = true then some (.go (s ++ [g x])) else some (.brk s)) (l : List α) (s0 : List β) (h0 : s0.length ≤ M + 1) :
  Ret (forL F 0 l s0) (CtlQ (fun _ => False) (fun s => s = (s0 ++ l.map g).take (M + 1))) := by
 refine Z2 l (fun k s => s = (s0 ++ (l.take k).map g).take (M + 1)) (fun _ => False) (fun s => s = (s0 ++ l.map g).take (M + 1)) (by simp; rw [List.take_of_length_le h0]) (fun k x s hx hI => ?_) (fun s hI => by rw [hI, List.take_length])
 have hsl : s.length ≤ M + 1 := by rw [hI, List.length_take]; omega
 rw [hF k x s hsl]
 have hk := (List.getElem?_eq_some_iff.1 hx).1
 by_cases h : s.length ≤ M
 ·rw [if_pos (by rw [J6, Q1a]; omega)]
  refine .some ?_
  simp only [V6]
  have hs : s = s0 ++ (l.take k).map g := by
   rw [hI] at h ⊢
   rw [List.length_take] at h
   exact List.take_of_length_le (by omega)
  rw [Q8q hx, List.map_append, ← List.append_assoc, ← hs, List.take_of_length_le (by simp; omega)]
  rfl
 ·rw [if_neg (by rw [J6, Q1a]; omega)]
  refine .some ?_
  simp only [Q88]
  have hlen : M + 1 ≤ (s0 ++ (l.take k).map g).length := by
   have : s.length = M + 1 := by omega
   rw [hI, List.length_take] at this
   omega
  have he : s0 ++ l.map g = (s0 ++ (l.take k).map g) ++ (l.drop k).map g := by rw [List.append_assoc, ← List.map_append, List.take_append_drop]
  rw [hI, he, List.take_append_of_le_length hlen]
theorem X20 (M : Nat) (hM : M ≤ 1000) (ls : List (List Q1)) (hl : ls.length ≤ 1000) : Q4d ls (M : Int) = some (ls.foldl (fun o l => (tupV o l).take (M + 1)) [[]]) := by
 suffices hs : Ret (Q4d ls (M : Int)) (fun r => r = ls.foldl (fun o l => (tupV o l).take (M + 1)) [[]]) by
  obtain ⟨a, e, rfl⟩ := hs
  exact e
 unfold Q4d
 refine Ret.ctl (Z2 ls (fun k s => (s = (ls.take k).foldl (fun o l => (tupV o l).take (M + 1)) [[]]) ∧ ∀ q ∈ s, q.length = k) (fun _ => False) (fun s => s = ls.foldl (fun o l => (tupV o l).take (M + 1)) [[]]) ⟨rfl, by simp⟩ (fun k l out hx hI => ?_) (fun s hI => by rw [hI.1, List.take_length])) (fun r hr => hr.elim) (fun s hs => .some hs)
 obtain ⟨hI, hq⟩ := hI
 have hk := (List.getElem?_eq_some_iff.1 hx).1
 refine Ret.ctl (R := fun _ => False) (B := fun s => s = (tupV out l).take (M + 1)) ?_ (fun r hr => hr.elim) (fun s hs => ?_)
 ·refine Z2 out (fun i s => s = (tupV (out.take i) l).take (M + 1)) (fun _ => False) (fun s => s = (tupV out l).take (M + 1)) (by simp [tupV]) (fun i q s hqi hI2 => ?_) (fun s hI2 => by rw [hI2, List.take_length])
  have hql := hq q (List.mem_of_getElem? hqi)
  have hsl : s.length ≤ M + 1 := by rw [hI2, List.length_take]; omega
  have hnext : tupV (out.take (i + 1)) l = tupV (out.take i) l ++ l.map fun c => q ++ [c] := by
   unfold tupV
   rw [Q8q hqi]
   simp
  by_cases h : s.length ≤ M
  ·rw [if_pos (by rw [J6, Q1a]; omega)]
   refine Ret.ctl (X2d hM (fun c => q ++ [c]) (fun k2 x s2 hs2 => ?_) l s hsl) (fun r hr => hr.elim) (fun s2 hs2 => .some ?_)
   ·by_cases h2 : ile (lenZ s2.length) (M : Int) = true
    ·rw [if_pos h2, if_pos h2, X6 (by simp only [List.length_nil, Q4]; omega)]
     simp only [Option.bind_some]
     rw [X6 (by simp only [List.length_cons, List.length_nil, Q4]; omega)]
     simp only [Option.bind_some]
     rw [X6 (by simp only [List.length_cons, List.length_nil, Q4]; omega)]
     rfl
    ·rw [if_neg h2, if_neg h2]
   ·simp only [V6]
    rw [hs2, hnext, hI2, X1o]
  ·rw [if_neg (by rw [J6, Q1a]; omega)]
   refine .some ?_
   simp only [Q88]
   have hlen : M + 1 ≤ (tupV (out.take i) l).length := by
    have : s.length = M + 1 := by omega
    rw [hI2, List.length_take] at this
    omega
   have he : tupV out l = tupV (out.take i) l ++ tupV (out.drop i) l := by
    unfold tupV
    rw [← List.flatMap_append, List.take_append_drop]
   rw [hI2, he, List.take_append_of_le_length hlen]
 ·subst hs
  refine .some ⟨?_, fun q hq2 => ?_⟩
  ·rw [Q8q hx, List.foldl_append, ← hI]
   rfl
  ·have hq3 := List.mem_of_mem_take hq2
   simp only [tupV, List.mem_flatMap, List.mem_map] at hq3
   obtain ⟨a, ha, c, _, rfl⟩ := hq3
   simp [hq a ha]
theorem X4l {w : List Q3} (hw : WW w) {M : Nat} (hM : M ≤ 1000) : ∀ (d n : Nat) (t : Q5), t ∈ tys w → d + 20 ≤ n → d ≤ 100 → 10 ≤ M → Q3x n w t (d : Int) (M : Int) = some ((Y3 w d t).take (M + 1)) := by
 intro d
 induction d with
 | zero =>
  intro n t ht hn hd hM10
  obtain ⟨n, rfl⟩ : ∃ k, n = k + 1 := ⟨n - 1, by omega⟩
  unfold Q3x
  rw [if_pos (by rw [X2]; omega)]
  rfl
 | succ d ih =>
  intro n t ht hn hd hM10
  obtain ⟨n, rfl⟩ : ∃ k, n = k + 1 := ⟨n - 1, by omega⟩
  have hT := hw.ty t ht
  suffices hs : Ret (Q3x (n + 1) w t ((d + 1 : Nat) : Int) (M : Int)) (fun r => r = (Y3 w (d + 1) t).take (M + 1)) by
   obtain ⟨a, e, rfl⟩ := hs
   exact e
  unfold Q3x
  rw [if_neg (by rw [X2]; omega)]
  rw [Y3]
  refine Ret.ite (fun hd' => ?_) (fun hd' => ?_)
  ·rw [X5] at hd'
   rw [if_pos hd']
   refine Ret.ctl (Q1v (fun s : List Q1 × Int => ∃ k : Nat, k ≤ 10 ∧ s = ((List.range k).map numV, (k : Int))) (fun s => (10 - s.2).toNat) (fun _ => False) (fun s => s.1 = (List.range 10).map numV) ⟨0, by omega, rfl⟩ (fun s hI => ?_) n (by simp; omega)) (fun r hr => hr.elim) (fun s hs => .some ?_)
   ·obtain ⟨k, hk, rfl⟩ := hI
    dsimp only
    by_cases h9 : k ≤ 9
    ·rw [if_pos (by rw [J6]; omega), X6 (by simp only [List.length_map, List.length_range, List.length_cons, List.length_nil, Q4]; omega)]
     simp only [Option.bind_some]
     rw [V1 (by omega) (by omega)]
     exact .some ⟨⟨k + 1, by omega, by rw [List.range_succ, List.map_append]; rfl⟩, by simp only; omega⟩
    ·rw [if_neg (by rw [J6]; omega)]
     exact .some (by simp only [Q88]; rw [show k = 10 by omega])
   ·rw [hs, List.take_of_length_le (by simp; omega)]
  ·rw [W2] at hd'
   rw [if_neg hd', hT.c1]
   simp only [Option.bind_some]
   have e1 : wsub .i64 ((d + 1 : Nat) : Int) 1 = (d : Int) := by rw [Q1u] <;> omega
   rw [e1]
   refine Ret.ctl (Z2 (X1 w t) (fun i s => s = (((X1 w t).take i).flatMap fun c => (((Y7 w t c).map (Y3 w d)).foldl tupV [[]]).map (mkV c)).take (M + 1)) (fun _ => False) (fun s => s = ((X1 w t).flatMap fun c => (((Y7 w t c).map (Y3 w d)).foldl tupV [[]]).map (mkV c)).take (M + 1)) (by simp) (fun i c s hc hI => ?_) (fun s hI => by rw [hI, List.take_length])) (fun r hr => hr.elim) (fun s hs => .some hs)
   have hcm := List.mem_of_getElem? hc
   have hnext : ((X1 w t).take (i + 1)).flatMap (fun c => (((Y7 w t c).map (Y3 w d)).foldl tupV [[]]).map (mkV c)) = ((X1 w t).take i).flatMap (fun c => (((Y7 w t c).map (Y3 w d)).foldl tupV [[]]).map (mkV c)) ++ (((Y7 w t c).map (Y3 w d)).foldl tupV [[]]).map (mkV c) := by
    rw [Q8q hc]; simp
   have hsl : s.length ≤ M + 1 := by rw [hI, List.length_take]; omega
   by_cases h : s.length ≤ M
   ·rw [if_pos (by rw [J6, Q1a]; omega), hT.a1 c hcm]
    simp only [Option.bind_some]
    have hal := hT.al c hcm
    refine Ret.ctl (Z2 (Y7 w t c) (fun k u => u = ((Y7 w t c).take k).map fun a => (Y3 w d a).take (M + 1)) (fun _ => False) (fun u => u = (Y7 w t c).map fun a => (Y3 w d a).take (M + 1)) (by simp) (fun k a u ha hI2 => ?_) (fun u hI2 => by rw [hI2, List.take_length])) (fun r hr => hr.elim) (fun u hu => ?_)
    ·rw [ih n a (hT.at_ c hcm a (List.mem_of_getElem? ha)) (by omega) (by omega) hM10]
     simp only [Option.bind_some]
     have hk := (List.getElem?_eq_some_iff.1 ha).1
     rw [X6 (by rw [hI2]; simp only [List.length_map, List.length_take, List.length_cons, List.length_nil, Q4]; omega)]
     refine .some ?_
     simp only [V6]
     rw [hI2, Q8q ha, List.map_append]
     rfl
    ·dsimp only
     have hul : u.length ≤ 1000 := by rw [hu, List.length_map]; omega
     rw [X20 M hM u hul]
     simp only [Option.bind_some]
     have htup : u.foldl (fun o l => (tupV o l).take (M + 1)) [[]] = (((Y7 w t c).map (Y3 w d)).foldl tupV [[]]).take (M + 1) := by
      have := Z8u M ((Y7 w t c).map (Y3 w d)) [[]]
      rw [List.map_map, List.take_of_length_le (by simp)] at this
      rw [hu, ← this]
      rfl
     rw [htup]
     refine Ret.ctl (X2d hM (mkV c) (fun k2 x s2 hs2 => ?_) _ s hsl) (fun r hr => hr.elim) (fun s2 hs2 => .some ?_)
     ·by_cases h2 : ile (lenZ s2.length) (M : Int) = true
      ·rw [if_pos h2, if_pos h2, X6 (by simp only [List.length_cons, List.length_nil, Q4]; omega)]
       rfl
      ·rw [if_neg h2, if_neg h2]
     ·simp only [V6]
      rw [hs2, hnext, hI, List.map_take, W15, X1o]
   ·rw [if_neg (by rw [J6, Q1a]; omega)]
    refine .some ?_
    simp only [Q88]
    have hlen : M + 1 ≤ (((X1 w t).take i).flatMap fun c => (((Y7 w t c).map (Y3 w d)).foldl tupV [[]]).map (mkV c)).length := by
     have : s.length = M + 1 := by omega
     rw [hI, List.length_take] at this
     omega
    have he : (X1 w t).flatMap (fun c => (((Y7 w t c).map (Y3 w d)).foldl tupV [[]]).map (mkV c)) = ((X1 w t).take i).flatMap (fun c => (((Y7 w t c).map (Y3 w d)).foldl tupV [[]]).map (mkV c)) ++ ((X1 w t).drop i).flatMap (fun c => (((Y7 w t c).map (Y3 w d)).foldl tupV [[]]).map (mkV c)) := by
     rw [← List.flatMap_append, List.take_append_drop]
    rw [hI, he, List.take_append_of_le_length hlen]
def upTo (w : List Q3) (t : Q5) (d : Int) : List Q1 × Bool := if 0 ≤ d ∧ d ≤ 4 ∧ (Y3 w d.toNat t).length ≤ 400 then (Y3 w d.toNat t, true) else ([], false)
theorem X2q {w : List Q3} (hw : WW w) {t : Q5} (ht : t ∈ tys w) (d : Int) : Q13 NN w t d = some (upTo w t d) := by
 by_cases h : 0 ≤ d ∧ d ≤ 4
 ·obtain ⟨k, rfl⟩ : ∃ k : Nat, d = (k : Int) := ⟨d.toNat, by omega⟩
  rw [X50 hw ht (by omega)]
  unfold upTo
  simp only [Int.toNat_natCast]
  by_cases hl : (Y3 w k t).length ≤ 400
  ·rw [if_pos hl, if_pos ⟨h.1, h.2, hl⟩]
  ·rw [if_neg hl, if_neg (fun q => hl q.2.2)]
 ·unfold Q13
  rw [Z6p hw ht]
  simp only [Option.bind_some, Bool.not_true, Bool.false_eq_true, if_false]
  rw [Q7o]
  have e0 : (decide ((0 : Int) ≤ d) && decide (d ≤ 4)) = false := by
   rw [Bool.and_eq_false_iff, decide_eq_false_iff_not, decide_eq_false_iff_not]
   omega
  rw [e0]
  unfold upTo
  rw [if_neg (fun q => h ⟨q.1, q.2.1⟩)]
  rfl
theorem X1u {w : List Q3} (hw : WW w) {t : Q5} (ht : t ∈ tys w) (d : Int) : Q29 NN w t d = some (upTo w t d) := by
 suffices hs : Ret (Q29 NN w t d) (fun r => r = upTo w t d) by
  obtain ⟨a, e, rfl⟩ := hs
  exact e
 unfold Q29
 rw [X1w hw ht]
 simp only [Option.bind_some, Bool.not_true, Bool.false_eq_true, if_false]
 unfold upTo
 refine Ret.ite (fun h => ?_) (fun h => ?_)
 ·rw [X2] at h
  rw [if_neg (fun q => by omega)]
  exact .some rfl
 refine Ret.ite (fun h2 => ?_) (fun h2 => ?_)
 ·rw [X2] at h2
  rw [if_neg (fun q => by omega)]
  exact .some rfl
 rw [W5] at h h2
 obtain ⟨k, rfl⟩ : ∃ k : Nat, d = (k : Int) := ⟨d.toNat, by omega⟩
 rw [show (400 : Int) = ((400 : Nat) : Int) from rfl, X4l hw (by decide) k NN t ht (by simp only [NN]; omega) (by omega) (by decide)]
 simp only [Option.bind_some, Int.toNat_natCast]
 refine Ret.ite (fun h3 => ?_) (fun h3 => ?_)
 ·rw [X2, Q1a, List.length_take] at h3
  rw [if_neg (fun q => by omega)]
  exact .some rfl
 rw [W5, Q1a, List.length_take] at h3
 have hl : (Y3 w k t).length ≤ 400 := by omega
 rw [if_pos ⟨by omega, by omega, hl⟩, List.take_of_length_le (by omega)]
 refine Ret.ctl (Q1v (fun s : List Q1 × Int => ∃ i : Nat, i ≤ (Y3 w k t).length ∧ s = (Y3 w k t, (i : Int))) (fun s => ((Y3 w k t).length - s.2).toNat) (fun _ => False) (fun s => s.1 = Y3 w k t) ⟨0, by omega, rfl⟩ (fun s hI => ?_) NN (by simp only [NN]; omega)) (fun r hr => hr.elim) (fun s hs => .some (by rw [hs]))
 obtain ⟨i, hi, rfl⟩ := hI
 dsimp only
 by_cases hlt : i < (Y3 w k t).length
 ·rw [if_pos (by rw [X2, Q1a]; omega)]
  have hx : (Y3 w k t)[i]? = some ((Y3 w k t)[i]'hlt) := by simp
  rw [Q3y hx]
  simp only [Option.bind_some]
  have hg := Z5r k t _ (List.mem_of_getElem? hx)
  rw [Z53 k NN _ (Z0y hw k t _ ht hg) (by simp only [NN]; omega)]
  simp only [Option.bind_some]
  have hset : setI (Y3 w k t) (i : Int) ((Y3 w k t)[i]'hlt) = some (Y3 w k t) := by
   unfold setI
   rw [if_pos ⟨by omega, by simpa using hlt⟩]
   simp
  rw [hset]
  simp only [Option.bind_some]
  rw [V1 (by omega) (by omega)]
  exact .some ⟨⟨i + 1, by omega, rfl⟩, by simp only; omega⟩
 ·rw [if_neg (by rw [X2, Q1a]; omega)]
  exact .some rfl
end Go.Proofs.YtbdkbdafhlcilaaGreat
namespace Go.Proofs.YtbdkbdafhlcilaaGreat
open Go Go.RowKit
theorem W5j {a b : List (List Q1)} {l m : List Q1} (h : a.Sublist b) (g : l.Sublist m) : (tupV a l).Sublist (tupV b m) := by
 unfold tupV
 induction h with
 | slnil => simp
 | cons x _ ih =>
  rw [List.flatMap_cons]
  exact ih.trans (List.sublist_append_right _ _)
 | cons_cons x _ ih =>
  rw [List.flatMap_cons, List.flatMap_cons]
  exact (g.map _).append ih
theorem X6f {f g : Q5 → List Q1} (h : ∀ t, (f t).Sublist (g t)) : ∀ (ts : List Q5) (a b : List (List Q1)), a.Sublist b → ((ts.map f).foldl tupV a).Sublist ((ts.map g).foldl tupV b)
 | [], _, _, e => e
 | t :: ts, a, b, e => by
  simp only [List.map_cons, List.foldl_cons]
  exact X6f h ts _ _ (W5j e (h t))
theorem X7q {α β : Type} {f g : α → List β} (h : ∀ x, (f x).Sublist (g x)) : ∀ l : List α, (l.flatMap f).Sublist (l.flatMap g)
 | [] => .slnil
 | x :: l => by
  rw [List.flatMap_cons, List.flatMap_cons]
  exact (h x).append (X7q h l)
theorem W5e {w : List Q3} : ∀ (d : Nat) (t : Q5), (Y3 w d t).Sublist (Y3 w (d + 1) t) := by
 intro d
 induction d with
 | zero => intro t; exact List.nil_sublist _
 | succ d ih =>
  intro t
  rw [Y3]
  rw [show Y3 w (d + 1 + 1) t = if t.data = -1 then (List.range 10).map numV else (X1 w t).flatMap fun c => (((Y7 w t c).map (Y3 w (d + 1))).foldl tupV [[]]).map (mkV c) from rfl]
  by_cases h : t.data = -1
  ·rw [if_pos h, if_pos h]
   exact List.Sublist.refl _
  ·rw [if_neg h, if_neg h]
   exact X7q (fun c => (X6f ih _ _ _ (List.Sublist.refl _)).map _) _
def X3p (tr : Z9) (l : List Q6) (v : Q1) : Nat := match runT 300 tr l v with
 | some r => r.2.2
 | none => 0
def Q9y (tr : Z9) (l : List Q6) (vs : List Q1) : Nat := (vs.map (X3p tr l)).sum
theorem W9w {f : Q1 → Nat} {a b : List Q1} (h : a.Sublist b) : (a.map f).sum ≤ (b.map f).sum := by
 induction h with
 | slnil => simp
 | cons x _ ih => simp only [List.map_cons, List.sum_cons]; omega
 | cons_cons x _ ih => simp only [List.map_cons, List.sum_cons]; omega
theorem X0x (tr : Z9) (l : List Q6) (v : Q1) : X3p tr l v ≤ 300 := by
 unfold X3p
 cases h : runT 300 tr l v with
 | none => simp
 | some r => exact W1k 300 tr l v r.1 r.2.1 r.2.2 h
theorem X7w (tr : Z9) (l : List Q6) : ∀ vs : List Q1, Q9y tr l vs ≤ 300 * vs.length
 | [] => by simp [Q9y]
 | v :: vs => by
  have h1 := X0x tr l v
  have h2 := X7w tr l vs
  unfold Q9y at h2 ⊢
  simp only [List.map_cons, List.sum_cons, List.length_cons]
  omega
theorem X7v {w : List Q3} (hww : w ∈ Q1c) {t : Q5} (ht : t ∈ tys w) {l : List Q6} {pick : Int} {tr : Z9} (h : W9 NN w t l pick = some (tr, true)) (hd : Q83 300 tr) {v : Q1} (hv : Q5x w 10 t v) :
  ∃ a bs, Q3i NN tr l v = some (a, bs, (X3p tr l v : Int)) ∧ Q4k NN l tr v = some (a, bs, (X3p tr l v : Int)) := by
 have hdv := Z0y (ww hww) 10 t v ht hv
 obtain ⟨k, hk⟩ := Z4i hww ht h hv
 have hop := X6h _ _ _ _ ((Q7m hww ht l pick).tr tr h)
 have hc : X3p tr l v = k := by unfold X3p; rw [hk]
 rw [hc]
 exact ⟨_, _, X70 hdv hd hk, X6n hdv hd hop hk⟩
def Z3c (w : List Q3) (t : Q5) (l : List Q6) (d : Int) (tr : Z9) (ok : Bool) : Int × Bool :=
 if ok = true ∧ (upTo w t d).2 = true then ((Q9y tr l (upTo w t d).1 : Int), true) else (0, false)
theorem X1l {w : List Q3} {t : Q5} {d : Int} {v : Q1} (h : v ∈ (upTo w t d).1) : Q5x w 10 t v := by
 unfold upTo at h
 split at h
 ·rename_i hd
  exact X7e d.toNat 10 t v (by omega) (Z5r _ t v h)
 ·cases h
theorem W5h {w : List Q3} {t : Q5} {d : Int} : (upTo w t d).1.length ≤ 400 := by
 unfold upTo
 split
 ·rename_i hd
  exact hd.2.2
 ·simp
theorem W40 {w : List Q3} (hww : w ∈ Q1c) {t : Q5} (ht : t ∈ tys w) (l : List Q6) (pick : Int) :
  ∃ tr ok, ∀ d : Int, Q2j NN w t l pick d = some (Z3c w t l d tr ok) ∧ Q3q NN w t l pick d = some (Z3c w t l d tr ok) := by
 have hw := ww hww
 obtain ⟨tr, ok, e1, e2, h1, h2, h3⟩ := (Q7m hww ht l pick).eq
 refine ⟨tr, ok, fun d => ?_⟩
 have hlen := W5h (w := w) (t := t) (d := d)
 have hstep : ∀ (k : Nat) (v : Q1), (upTo w t d).1[k]? = some v → Q9y tr l ((upTo w t d).1.take (k + 1)) = Q9y tr l ((upTo w t d).1.take k) + X3p tr l v ∧ Q9y tr l ((upTo w t d).1.take k) ≤ 120000 := fun k v hv => by
  constructor
  ·unfold Q9y
   rw [Q8q hv]
   simp
  ·have := X7w tr l ((upTo w t d).1.take k)
   rw [List.length_take] at this
   omega
 constructor
 ·suffices hs : Ret (Q2j NN w t l pick d) (fun r => r = Z3c w t l d tr ok) by
   obtain ⟨a, e, rfl⟩ := hs
   exact e
  unfold Q2j
  rw [e1, X2q hw ht d]
  simp only [Option.bind_some]
  unfold Z3c
  cases ok with
  | false => exact .some (by simp)
  | true =>
   simp only [Bool.not_true, Bool.false_eq_true, if_false, true_and]
   refine Ret.ite (fun h => .some (by simp at h; simp [h])) (fun h => ?_)
   have hu : (upTo w t d).2 = true := by simpa using h
   rw [if_pos hu]
   refine Ret.ctl (Z2 (upTo w t d).1 (fun k s => s = (Q9y tr l ((upTo w t d).1.take k) : Int)) (fun _ => False) (fun s => s = (Q9y tr l (upTo w t d).1 : Int)) (by simp [Q9y]) (fun k v s hv hI => ?_) (fun s hI => by rw [hI, List.take_length])) (fun r hr => hr.elim) (fun s hs => .some (by rw [hs]))
   obtain ⟨a, bs, q1, q2⟩ := X7v hww ht e1 h2 (X1l (List.mem_of_getElem? hv))
   obtain ⟨g1, g2⟩ := hstep k v hv
   have g3 := X0x tr l v
   rw [q1]
   simp only [Option.bind_some]
   refine .some ?_
   simp only [V6]
   rw [hI, g1, V1 (by omega) (by omega)]
   omega
 ·suffices hs : Ret (Q3q NN w t l pick d) (fun r => r = Z3c w t l d tr ok) by
   obtain ⟨a, e, rfl⟩ := hs
   exact e
  unfold Q3q
  rw [e2, X1u hw ht d]
  simp only [Option.bind_some]
  unfold Z3c
  cases ok with
  | false => exact .some (by simp)
  | true =>
   simp only [Bool.not_true, Bool.false_eq_true, if_false, true_and]
   refine Ret.ite (fun h => .some (by simp at h; simp [h])) (fun h => ?_)
   have hu : (upTo w t d).2 = true := by simpa using h
   rw [if_pos hu]
   refine Ret.ctl (Z2 (upTo w t d).1 (fun k s => s = (Q9y tr l ((upTo w t d).1.take k) : Int)) (fun _ => False) (fun s => s = (Q9y tr l (upTo w t d).1 : Int)) (by simp [Q9y]) (fun k v s hv hI => ?_) (fun s hI => by rw [hI, List.take_length])) (fun r hr => hr.elim) (fun s hs => .some (by rw [hs]))
   obtain ⟨a, bs, q1, q2⟩ := X7v hww ht e1 h2 (X1l (List.mem_of_getElem? hv))
   obtain ⟨g1, g2⟩ := hstep k v hv
   have g3 := X0x tr l v
   rw [q2]
   simp only [Option.bind_some]
   refine .some ?_
   simp only [V6]
   rw [hI, g1, V1 (by omega) (by omega)]
   omega
theorem X5u (code : List Int) (hb : ∀ x ∈ code, 0 ≤ x ∧ x ≤ 255) : Ret (Q2g NN code) (fun a => a.1 ∈ Q1c ∧ a.2.1 ∈ tys a.1 ∧ -1 ≤ a.2.2.2.2 ∧ a.2.2.2.2 ≤ 3) := by
 unfold Q2g
 refine Ret.bind (Z4r code hb) (fun a ha => ?_)
 refine Ret.bind (Z6e code hb) (fun r hr => ?_)
 refine Ret.bind (Q6e (hr.le (by omega)) _ (by simp) (by simp)) (fun b hb2 => ?_)
 refine Ret.bind (Q6e ((hr.le (by omega : 1 + 1 ≤ 1000000)).nx hb2.2) _ (by simp) (by simp)) (fun c hc => .some ⟨ha.1, ha.2.1, ?_⟩)
 have := hc.1
 simp only [List.mem_cons, List.not_mem_nil, or_false] at this
 simp only
 omega
theorem Z86 (code : List Int) (hb : ∀ x ∈ code, 0 ≤ x ∧ x ≤ 255) : Q1t NN code = some true := by
 suffices hr : Ret (Q1t NN code) (fun r => r = true) by
  obtain ⟨_, e, rfl⟩ := hr
  exact e
 unfold Q1t
 refine Ret.ite (fun _ => .some rfl) (fun _ => ?_)
 refine Ret.bind (X5u code hb) (fun a ha => ?_)
 obtain ⟨w, t, l, pick, d⟩ := a
 obtain ⟨hww, ht, hd1, hd3⟩ := ha
 simp only at hww ht hd1 hd3 ⊢
 obtain ⟨tr, ok, hboth⟩ := W40 hww ht l pick
 rw [(hboth d).1, (hboth d).2]
 have r1 : ieq (Z3c w t l d tr ok).1 (Z3c w t l d tr ok).1 = true := by simp [ieq]
 simp only [Option.bind_some, r1, beq_self_eq_true, Bool.not_true, Bool.false_eq_true, if_false, if_true]
 refine Ret.ite (fun _ => .some rfl) (fun hok => ?_)
 refine Ret.ite (fun _ => .some rfl) (fun hd0 => ?_)
 rw [W2] at hd0
 have hok' : (Z3c w t l d tr ok).2 = true := by simpa using hok
 have hc : ok = true ∧ (upTo w t d).2 = true := by
  unfold Z3c at hok'
  split at hok'
  ·assumption
  ·cases hok'
 have hu : 0 ≤ d ∧ d ≤ 4 ∧ (Y3 w d.toNat t).length ≤ 400 := by
  have := hc.2
  unfold upTo at this
  split at this
  ·assumption
  ·cases this
 have e1 : wsub .i64 d 1 = d - 1 := by rw [Q1u] <;> omega
 rw [e1, (hboth (d - 1)).1]
 simp only [Option.bind_some]
 have hsub : (Y3 w (d - 1).toNat t).Sublist (Y3 w d.toNat t) := by
  have := W5e (w := w) (d - 1).toNat t
  rwa [show (d - 1).toNat + 1 = d.toNat by omega] at this
 have hu2 : 0 ≤ d - 1 ∧ d - 1 ≤ 4 ∧ (Y3 w (d - 1).toNat t).length ≤ 400 := ⟨by omega, by omega, by have := hsub.length_le; omega⟩
 have f1 : upTo w t d = (Y3 w d.toNat t, true) := by unfold upTo; rw [if_pos hu]
 have f2 : upTo w t (d - 1) = (Y3 w (d - 1).toNat t, true) := by unfold upTo; rw [if_pos hu2]
 have g1 : Z3c w t l d tr ok = ((Q9y tr l (Y3 w d.toNat t) : Int), true) := by
  unfold Z3c; rw [f1, if_pos ⟨hc.1, rfl⟩]
 have g2 : Z3c w t l (d - 1) tr ok = ((Q9y tr l (Y3 w (d - 1).toNat t) : Int), true) := by
  unfold Z3c; rw [f2, if_pos ⟨hc.1, rfl⟩]
 rw [g1, g2]
 have hle : Q9y tr l (Y3 w (d - 1).toNat t) ≤ Q9y tr l (Y3 w d.toNat t) := W9w hsub
 simp only [if_true]
 rw [if_pos (by rw [J6]; omega)]
 exact .some (by rw [J6]; omega)
end Go.Proofs.YtbdkbdafhlcilaaGreat
