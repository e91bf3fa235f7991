import Derived.KernelRfl
import Derived.Test.YtbdkbdafhlcilaaGreatBJP0
set_option linter.unusedSimpArgs false
set_option linter.unusedVariables false
namespace Go.Proofs.YtbdkbdafhlcilaaGreat
open Go Go.RowKit
def CI (w : List Q3) (lst : List Q6) (pick : Int) (left : Int) : Z8 := ⟨⟨w, dimP w⟩, lst, pick, 300 - left⟩
def Q3z (t : Z9) : List Z9 := t.branches.map (fun b => b.tree) ++ t.else_
def Q83 : Nat → Z9 → Prop
 | 0, _ => False
 | d + 1, t => (t.binds.length ≤ 1000 ∧ (∀ b ∈ t.binds, b.path.length ≤ 1000) ∧ t.path.length ≤ 1000 ∧ t.branches.length ≤ 20 ∧ t.else_.length ≤ 1) ∧ ∀ x ∈ Q3z t, Q83 d x
def Q5z : Nat → Z9 → Nat
 | 0, _ => 0
 | d + 1, t => 1 + ((Q3z t).map (Q5z d)).sum
theorem W03 : ∀ {d e : Nat} {t : Z9}, Q83 d t → d ≤ e → Q83 e t := by
 intro d
 induction d with
 | zero => intro e t h; exact h.elim
 | succ d ih =>
  intro e t h he
  obtain ⟨e, rfl⟩ : ∃ k, e = k + 1 := ⟨e - 1, by omega⟩
  exact ⟨h.1, fun x hx => ih (h.2 x hx) (by omega)⟩
theorem W5y : ∀ {d e : Nat} {t : Z9}, Q83 d t → d ≤ e → Q5z e t = Q5z d t := by
 intro d
 induction d with
 | zero => intro e t h; exact h.elim
 | succ d ih =>
  intro e t h he
  obtain ⟨e, rfl⟩ : ∃ k, e = k + 1 := ⟨e - 1, by omega⟩
  unfold Q5z
  rw [List.map_congr_left fun x hx => ih (h.2 x hx) (show d ≤ e by omega)]
def brsR (P : Z0 → Z9 → Prop) : List Z0 → List Z0 → Prop
 | [], [] => True
 | b :: bs, x :: xs => (x.ctor = b.ctor ∧ x.n = b.n ∧ x.m = b.m ∧ P b x.tree) ∧ brsR P bs xs
 | _, _ => False
theorem X3r {P Q : Z0 → Z9 → Prop} (h : ∀ b t, P b t → Q b t) : ∀ {bs xs : List Z0}, brsR P bs xs → brsR Q bs xs
 | [], [], _ => trivial
 | [], _ :: _, e => e.elim
 | _ :: _, [], e => e.elim
 | _ :: _, _ :: _, ⟨⟨e1, e2, e3, e4⟩, e5⟩ => ⟨⟨e1, e2, e3, h _ _ e4⟩, X3r h e5⟩
def Q9t (w : List Q3) (lst : List Q6) (pick : Int) : Nat → Z9 → List Grow → List Z6 → Prop
 | 0, _, _, _ => False
 | d + 1, t, rows, cols => match rows with
  | [] => t = zT
  | r0 :: rest => match Q9x w (r0 :: rest) cols pick with
   | none => t.op = 1 ∧ t.clause = r0.clause ∧ t.binds = Z2h r0.binds ∧ t.path = [] ∧ t.branches = [] ∧ ∃ cl, lst[r0.clause.toNat]? = some cl ∧
     ((cl.guard.op = 0 ∧ t.else_ = []) ∨ (cl.guard.op ≠ 0 ∧ ∃ el, t.else_ = [el] ∧ Q9t w lst pick d el (Q3l (r0 :: rest) r0.clause) cols))
   | some k => ∃ col, cols[k]? = some col ∧ t.op = 2 ∧ t.clause = 0 ∧ t.binds = [] ∧ t.path = col.path ∧ t.else_ = [] ∧
     brsR (fun b x => Q9t w lst pick d x (Q56 (r0 :: rest) k b (Y5 w col b)) (Q6o cols k (Y5 w col b))) (brsD w (r0 :: rest) col.t k) t.branches
theorem X8c {w : List Q3} {lst : List Q6} {pick : Int} : ∀ {d e : Nat} {t : Z9} {rows : List Grow} {cols : List Z6}, d ≤ e → Q9t w lst pick d t rows cols → Q9t w lst pick e t rows cols := by
 intro d
 induction d with
 | zero => intro e t rows cols _ h; exact h.elim
 | succ d ih =>
  intro e t rows cols he h
  obtain ⟨e, rfl⟩ : ∃ k, e = k + 1 := ⟨e - 1, by omega⟩
  cases rows with
  | nil => exact h
  | cons r0 rest =>
   simp only [Q9t] at h ⊢
   cases hp : Q9x w (r0 :: rest) cols pick with
   | none =>
    rw [hp] at h
    simp only at h ⊢
    obtain ⟨h1, h2, h3, h4, h5, cl, h6, h7⟩ := h
    refine ⟨h1, h2, h3, h4, h5, cl, h6, ?_⟩
    rcases h7 with h7 | ⟨h7, el, h8, h9⟩
    ·exact .inl h7
    ·exact .inr ⟨h7, el, h8, ih (by omega) h9⟩
   | some k =>
    rw [hp] at h
    simp only at h ⊢
    obtain ⟨col, h1, h2, h3, h4, h5, h6, h7⟩ := h
    exact ⟨col, h1, h2, h3, h4, h5, h6, X3r (fun b t h => ih (by omega) h) h7⟩
def Both (w : List Q3) (lst : List Q6) (pick : Int) (tot : Nat) (Q : Z9 → Prop) (x : Option (Z9 × Bool × Z8)) (y : Option (Z9 × Int)) : Prop :=
 ∃ ti ok c ts e, x = some (ti, ok, c) ∧ y = some (ts, e) ∧ ((ok = true ∧ ti = ts ∧ ∃ l : Nat, e = (l : Int) ∧ c = CI w lst pick (l : Int) ∧ Q83 tot ti ∧ Q5z tot ti + l = tot ∧ Q ti) ∨ (ok = false ∧ e < 0))
theorem W7l {n : Int} (h0 : 0 ≤ n) (h : n ≤ 100000) : Q1y n = some [] := by
 unfold Q1y
 have e : ilt n 0 = false := by rw [W5]; exact h0
 have e0 : wsub .i64 0 (lenZ 0) = 0 := rfl
 have e1 : wsub .i64 n 0 = n := by rw [Q1u] <;> omega
 simp only [e, Bool.false_eq_true, if_false, e0, e1]
 by_cases hn : 0 < n
 ·have e2 : ilt 0 n = true := by rw [X2]; exact hn
  have e3 : mkS n (Z6.mk [] (Q5.mk 0 0)) = some (List.replicate n.toNat (Z6.mk [] (Q5.mk 0 0))) := by
   unfold mkS; rw [if_pos ⟨h0, by simp [Q4]; omega⟩]
  rw [if_pos e2, e3]
  rfl
 ·have e2 : ilt 0 n = false := by rw [W5]; omega
  rw [if_neg (by rw [e2]; simp)]
  rfl
theorem W3q {a b c : List Z6} (h : a.length + b.length + c.length ≤ 100000) : Q1g [a, b, c] = some (a ++ b ++ c) := by
 unfold Q1g
 have hA : wadd .i64 0 (lenZ a.length) = (a.length : Int) := by rw [V1] <;> simp only [lenZ] <;> omega
 have hB : wadd .i64 (a.length : Int) (lenZ b.length) = (a.length : Int) + b.length := by rw [V1] <;> simp only [lenZ] <;> omega
 have hC : wadd .i64 ((a.length : Int) + b.length) (lenZ c.length) = (a.length : Int) + b.length + c.length := by rw [V1] <;> simp only [lenZ] <;> omega
 have l1 : ilt (a.length : Int) 0 = false := by rw [W5]; omega
 have l2 : ilt ((a.length : Int) + b.length) 0 = false := by rw [W5]; omega
 have l3 : ilt ((a.length : Int) + b.length + c.length) 0 = false := by rw [W5]; omega
 simp only [forL, hA, hB, hC, l1, l2, l3, Bool.false_eq_true, if_false, Option.bind_some]
 rw [W7l (by omega) (by omega)]
 simp only [Option.bind_some]
 rw [X6 (by simp [Q4]; omega)]
 simp only [Option.bind_some, List.nil_append]
 rw [X6 (by simp only [Q4]; omega)]
 simp only [Option.bind_some]
 rw [X6 (by simp only [List.length_append, Q4]; omega)]
 rfl
theorem W3z {w : List Q3} {lst : List Q6} {pick : Int} {ρ : Type} {F : Nat → Z0 → Z8 × List Z0 → Option (Ctl (Z9 × Bool × Z8) (Z8 × List Z0))} {G : Nat → Z0 → Int × List Z0 → Option (Ctl ρ (Int × List Z0))} {L : Nat} {brs : List Z0} {P : Z0 → Z9 → Prop}
  (hFG : ∀ b ∈ brs, ∀ (i j l : Nat) (out : List Z0), l ≤ L → out.length ≤ 20 →
   (∃ (t : Z9) (l' : Nat), (Q83 L t ∧ Q5z L t + l' = l ∧ P b t) ∧ F i b (CI w lst pick l, out) = some (.go (CI w lst pick l', out ++ [⟨b.ctor, b.n, b.m, t⟩])) ∧ G j b ((l : Int), out) = some (.go ((l' : Int), out ++ [⟨b.ctor, b.n, b.m, t⟩]))) ∨
   (∃ (c : Z8) (e : Int) (out' : List Z0), e < 0 ∧ F i b (CI w lst pick l, out) = some (.ret (zT, false, c)) ∧ G j b ((l : Int), out) = some (.go (e, out'))))
  (hG : ∀ (j : Nat) (b : Z0) (e : Int) (out : List Z0), e < 0 → G j b (e, out) = some (.brk (e, out))) :
  ∀ (bs : List Z0), (∀ b ∈ bs, b ∈ brs) → ∀ (i j l : Nat) (out : List Z0), l ≤ L → out.length + bs.length ≤ 20 →
   (∃ (l' : Nat) (out' : List Z0), ((∀ b ∈ out', b ∈ out ∨ Q83 L b.tree) ∧ (out'.map fun b => Q5z L b.tree).sum + l' = (out.map fun b => Q5z L b.tree).sum + l ∧ out'.length ≤ out.length + bs.length ∧ ∃ ys, out' = out ++ ys ∧ brsR P bs ys) ∧ forL F i bs (CI w lst pick l, out) = some (.brk (CI w lst pick l', out')) ∧ forL G j bs ((l : Int), out) = some (.brk ((l' : Int), out'))) ∨
   (∃ (c : Z8) (e : Int) (out' : List Z0), e < 0 ∧ forL F i bs (CI w lst pick l, out) = some (.ret (zT, false, c)) ∧ forL G j bs ((l : Int), out) = some (.brk (e, out'))) := by
 intro bs
 induction bs with
 | nil => intro _ i j l out hl _; exact .inl ⟨l, out, ⟨fun b h => .inl h, rfl, by simp, [], by simp, trivial⟩, rfl, rfl⟩
 | cons b bs ih =>
  intro hm i j l out hl hlen
  simp only [List.length_cons] at hlen
  rcases hFG b (hm b (by simp)) i j l out hl (by omega) with ⟨t, l', hl', e1, e2⟩ | ⟨c, e, out', he, e1, e2⟩
  ·unfold forL
   rw [e1, e2]
   rcases ih (fun x hx => hm x (by simp [hx])) (i + 1) (j + 1) l' (out ++ [⟨b.ctor, b.n, b.m, t⟩]) (by omega) (by simp; omega) with ⟨l2, out', ⟨h1, h2, h3, ys, h6, h7⟩, h4, h5⟩ | h
   ·refine .inl ⟨l2, out', ⟨fun x hx => ?_, ?_, ?_, ⟨b.ctor, b.n, b.m, t⟩ :: ys, by rw [h6]; simp, ⟨⟨rfl, rfl, rfl, hl'.2.2⟩, h7⟩⟩, h4, h5⟩
    ·rcases h1 x hx with h | h
     ·rcases List.mem_append.1 h with h | h
      ·exact .inl h
      ·simp only [List.mem_cons, List.not_mem_nil, or_false] at h
       subst h
       exact .inr hl'.1
     ·exact .inr h
    ·rw [h2]
     simp only [List.map_append, List.map_cons, List.map_nil, List.sum_append, List.sum_cons, List.sum_nil]
     omega
    ·simp only [List.length_append, List.length_cons, List.length_nil] at h3
     simp only [List.length_cons]
     omega
   ·exact .inr h
  ·refine .inr ?_
   unfold forL
   rw [e1, e2]
   cases bs with
   | nil => exact ⟨c, e, out', he, rfl, rfl⟩
   | cons b2 bs =>
    refine ⟨c, e, out', he, rfl, ?_⟩
    dsimp only
    unfold forL
    rw [hG _ _ _ _ he]
def W9n (w : List Q3) (lst : List Q6) (pick : Int) (left : Nat) : Prop := ∀ (n m : Nat) (rows : List Grow) (cols : List Z6), 2 * left + 1500 ≤ n → left + 1500 ≤ m → rows.length ≤ 1000 → ColC w cols left → (∀ r ∈ rows, RowC w lst cols r) →
 Both w lst pick left (fun t => Q9t w lst pick left t rows cols) (J3 n (CI w lst pick left) rows cols) (Q1z m w lst (cols.map toD) (rows.map toS) pick left)
theorem Z2t {rows : List Grow} {c : Int} {r : Grow} (h : r ∈ Q3l rows c) : r ∈ rows := (List.mem_filter.1 h).1
theorem W21 (rows : List Grow) (c : Int) : (Q3l rows c).length ≤ rows.length := List.length_filter_le _ _
theorem V0o {w : List Q3} {lst : List Q6} {pick : Int} {L n m : Nat} (hT : W9n w lst pick L) (hn : 2 * L + 1501 ≤ n) (hm : L + 1500 ≤ m) {r0 : Grow} {rest : List Grow} {cols : List Z6}
  (hrl : (r0 :: rest).length ≤ 1000) (hC : ColC w cols L) (hr : ∀ r ∈ r0 :: rest, RowC w lst cols r) (hpk : Q9x w (r0 :: rest) cols pick = none) :
  Both w lst pick (L + 1) (fun t => Q9t w lst pick (L + 1) t (r0 :: rest) cols) (Q12 n (CI w lst pick L) (r0 :: rest) cols)
   (((Q3c m r0.binds).bind fun r27 => ((idx lst r0.clause).bind fun x30 =>
    (if (ieq x30.guard.op 0) = true then some (((Z9.mk 1 r0.clause r27 [] [] []), (L : Int)))
    else ((Q39 ((r0 :: rest).map toS) r0.clause).bind fun r32 => ((Q1z m w lst (cols.map toD) r32 pick L).bind fun r33 => some (((Z9.mk 1 r0.clause r27 [] [] [r33.1]), r33.2)))))))) := by
 obtain ⟨n, rfl⟩ : ∃ k, n = k + 1 := ⟨n - 1, by omega⟩
 have h0 := hr r0 (by simp)
 obtain ⟨b1, b2, b3⟩ := h0.binds
 unfold Q12
 rw [show idx (r0 :: rest) 0 = some r0 from rfl]
 simp only [Option.bind_some]
 rw [Q8m _ (by simp only [Q4]; omega)]
 simp only [Option.bind_some]
 rw [W5w (by omega) (by omega) b1 b2, X24 (by omega) (by omega) (fun b hb => by have := h0.bp b hb; omega)]
 simp only [Option.bind_some]
 rw [Z9i (by rw [(Q8r b2).length_eq]; simp)]
 simp only [Option.bind_some]
 have hcl : r0.clause.toNat < lst.length := by have := h0.c0; have := h0.c1; omega
 have hcl2 : idx lst r0.clause = some (lst[r0.clause.toNat]) := Z6q h0.c0 (List.getElem?_eq_getElem hcl)
 rw [show (CI w lst pick (L : Int)).list = lst from rfl, hcl2]
 simp only [Option.bind_some]
 have hcg : lst[r0.clause.toNat]? = some (lst[r0.clause.toNat]) := List.getElem?_eq_getElem hcl
 generalize lst[r0.clause.toNat] = cl at hcg ⊢
 have hsl := (Q8r b2).length_eq
 have hbs : ∀ (el : List Z9), el.length ≤ 1 → ((Z2h r0.binds).length ≤ 1000 ∧ (∀ b ∈ Z2h r0.binds, b.path.length ≤ 1000) ∧ ([] : List Int).length ≤ 1000 ∧ ([] : List Z0).length ≤ 20 ∧ el.length ≤ 1) := fun el he =>
  ⟨by omega, fun b hb => h0.bp b ((Q8r b2).mem_iff.1 hb), by simp, by simp, he⟩
 by_cases hg : cl.guard.op = 0
 ·have e : ieq cl.guard.op 0 = true := by simp [ieq, hg]
  simp only [e, if_true]
  exact ⟨_, _, _, _, _, rfl, rfl, .inl ⟨rfl, rfl, L, rfl, rfl, ⟨hbs [] (by simp), by simp [Q3z]⟩, by simp [Q5z, Q3z]; omega, by simp only [Q9t, hpk]; exact ⟨trivial, trivial, trivial, trivial, trivial, cl, hcg, .inl ⟨hg, trivial⟩⟩⟩⟩
 ·have e : ieq cl.guard.op 0 = false := by simp [ieq, hg]
  simp only [e, Bool.false_eq_true, if_false]
  simp only [List.length_cons] at hrl
  rw [W3r (by simp only [List.length_cons]; omega)]
  simp only [Option.bind_some]
  rw [X2s (by simp only [List.length_cons]; omega) (by omega), X1z (by simp only [List.length_cons]; omega)]
  simp only [Option.bind_some]
  have hol := W21 (r0 :: rest) r0.clause
  simp only [List.length_cons] at hol
  obtain ⟨ti, ok, c, ts, e, h1, h2, h3⟩ := hT n m (Q3l (r0 :: rest) r0.clause) cols (by omega) hm (by omega) hC (fun r h => hr r (Z2t h))
  rw [h1, h2]
  simp only [Option.bind_some]
  refine ⟨_, _, _, _, _, rfl, rfl, ?_⟩
  rcases h3 with ⟨rfl, rfl, l, rfl, rfl, hd, hz, hq⟩ | ⟨rfl, he⟩
  ·exact .inl ⟨rfl, rfl, l, rfl, rfl, ⟨hbs [ti] (by simp), by simpa [Q3z] using hd⟩, by simp [Q5z, Q3z]; omega, by simp only [Q9t, hpk]; exact ⟨trivial, trivial, trivial, trivial, trivial, cl, hcg, .inr ⟨hg, ti, rfl, hq⟩⟩⟩
  ·exact .inr ⟨rfl, he⟩
theorem X6p (rows : List Grow) (k : Nat) (b : Z0) (args : List Z6) : (Q56 rows k b args).length ≤ rows.length := by
 unfold Q56
 rw [List.length_map]
 exact List.length_filter_le _ _
theorem W9v {w : List Q3} (hw : WW w) (hL : WL w) (hS : WS w) {lst : List Q6} {pick : Int} : ∀ left : Nat, left ≤ 300 → W9n w lst pick left := by
 intro left
 induction left using Nat.strongRecOn with
 | ind left ih =>
 intro hle n m rows cols hn hm hrl hC hr
 obtain ⟨n, rfl⟩ : ∃ k, n = k + 1 := ⟨n - 1, by omega⟩
 obtain ⟨m, rfl⟩ : ∃ k, m = k + 1 := ⟨m - 1, by omega⟩
 unfold J3 Q1z
 have hcnt : (CI w lst pick (left : Int)).count = 300 - (left : Int) := rfl
 rw [hcnt, V1 (by omega) (by omega), Q1u (by omega) (by omega)]
 cases left with
 | zero =>
  have e1 : ilt 300 (300 - ((0 : Nat) : Int) + 1) = true := rfl
  have e2 : ilt (((0 : Nat) : Int) - 1) 0 = true := rfl
  rw [if_pos e1, if_pos e2]
  exact ⟨_, _, _, _, _, rfl, rfl, .inr ⟨rfl, by omega⟩⟩
 | succ L =>
 have e1 : ilt 300 (300 - ((L + 1 : Nat) : Int) + 1) = false := by rw [W5]; omega
 have e2 : ilt (((L + 1 : Nat) : Int) - 1) 0 = false := by rw [W5]; omega
 have eC : (Z8.mk (CI w lst pick ((L + 1 : Nat) : Int)).spaces (CI w lst pick ((L + 1 : Nat) : Int)).list (CI w lst pick ((L + 1 : Nat) : Int)).pick (300 - ((L + 1 : Nat) : Int) + 1)) = CI w lst pick (L : Int) := by
  show Z8.mk ⟨w, dimP w⟩ lst pick (300 - ((L + 1 : Nat) : Int) + 1) = Z8.mk ⟨w, dimP w⟩ lst pick (300 - (L : Int))
  rw [show 300 - ((L + 1 : Nat) : Int) + 1 = 300 - (L : Int) by omega]
 rw [e1, e2, eC, show (((L + 1 : Nat) : Int) - 1) = (L : Int) by omega]
 simp only [Bool.false_eq_true, if_false, List.length_map]
 have hCL : ColC w cols L := ⟨hC.ty, fun c hc => by have := hC.path c hc; omega, by have := hC.len; omega⟩
 cases rows with
 | nil =>
  have e : ieq (lenZ ([] : List Grow).length) 0 = true := rfl
  rw [if_pos e, if_pos e]
  exact ⟨_, _, _, _, _, rfl, rfl, .inl ⟨rfl, rfl, L, rfl, rfl, ⟨by simp, by simp [Q3z]⟩, by simp [Q5z, Q3z]; omega, by simp only [Q9t]; rfl⟩⟩
 | cons r0 rest =>
 have e : ieq (lenZ (r0 :: rest).length) 0 = false := by
  rw [ieq, decide_eq_false_iff_not, Q1a, List.length_cons]
  omega
 have h0 := hr r0 (by simp)
 have hlen := hC.len
 simp only [e, Bool.false_eq_true, if_false]
 rw [show idx ((r0 :: rest).map toS) 0 = some (toS r0) from rfl]
 simp only [Option.bind_some]
 have hch := X09 hw hL (n := n) (by omega) (lst := lst) (pick := pick) (count := 300 - (L : Int)) (rows := r0 :: rest) (cols := cols) (by simp) (by omega) hC.ty (fun k hk => RowC.rng hr hk)
 rw [show Q0a n (CI w lst pick (L : Int)) (r0 :: rest) cols = some (optI (Q9x w (r0 :: rest) cols pick), CI w lst pick (L : Int)) from hch, Z4l]
 simp only [Option.bind_some]
 have hfirst : Q9v (toR (toS r0)) = none ↔ Q9x w (r0 :: rest) cols pick = none := by
  unfold Q9v Q9x
  rw [Q8t, Q8t]
  have hpl : (toR (toS r0)).pats.length = cols.length := h0.len
  rw [hpl]
  exact Iff.rfl
 cases hp : Q9x w (r0 :: rest) cols pick with
 | none =>
  rw [hfirst.2 hp]
  have e : ilt (optI none) 0 = true := rfl
  simp only [e, if_true]
  obtain ⟨ti, ok, c, ts, e, h1, h2, h3⟩ := V0o (ih L (by omega) (by omega)) (n := n) (m := m) (by omega) (by omega) hrl hCL hr hp
  rw [h1]
  simp only [Option.bind_some]
  exact ⟨ti, ok, c, ts, e, rfl, h2, h3⟩
 | some k =>
 obtain ⟨f, hf⟩ : ∃ f, Q9v (toR (toS r0)) = some f := by
  cases hq : Q9v (toR (toS r0)) with
  | none => rw [hfirst.1 hq] at hp; cases hp
  | some f => exact ⟨f, rfl⟩
 rw [hf]
 have e3 : ilt (optI (some k)) 0 = false := by rw [W5]; simp [optI]
 have e4 : ilt (optI (some f)) 0 = false := by rw [W5]; simp [optI]
 simp only [e3, e4, Bool.false_eq_true, if_false]
 have hkl : k < cols.length := (Z2s hp).1
 obtain ⟨col, hk⟩ : ∃ c, cols[k]? = some c := ⟨_, List.getElem?_eq_getElem hkl⟩
 have hct := hC.ty col (List.mem_of_getElem? hk)
 have hT := hw.ty _ hct
 have hpl := hC.path col (List.mem_of_getElem? hk)
 have hpk := X4g hw hS (n := m) (by omega) (pick := pick) (row := toS r0) (rest := rest.map toS) (cols := cols.map toD) (by simp only [List.length_cons, List.length_map] at hrl ⊢; omega) (by rw [List.length_map]; omega) (by rw [List.length_map]; omega) (by rw [List.length_map]; exact h0.len)
  (fun c hc => by obtain ⟨c', hc', rfl⟩ := List.mem_map.1 hc; exact hC.ty c' hc')
  (fun j hj => by rw [← List.map_cons, toRS]; exact RowC.rng hr (by rw [List.length_map] at hj; exact hj)) hf
 rw [← List.map_cons, toRS, toCD, hp] at hpk
 rw [hpk]
 simp only [Option.bind_some, optI]
 rw [Q3y hk, Q3y (show (cols.map toD)[k]? = some (toD col) by rw [List.getElem?_map, hk]; rfl)]
 simp only [Option.bind_some]
 rw [Z0n _ (by simp only [Q4]; omega), X6 (by simp only [toD, List.length_nil, Q4]; omega)]
 simp only [Option.bind_some]
 have hbr := Z0e hw hL (n := n) (by omega) (lst := lst) (pick := pick) (count := 300 - (L : Int)) (rows := r0 :: rest) hk hct (RowC.rng hr hkl)
 rw [show V9 n (CI w lst pick (L : Int)) (r0 :: rest) cols (k : Int) = some (brsD w (r0 :: rest) col.t k, CI w lst pick (L : Int)) from hbr]
 have hcu := Z1j hw hS (n := m) (by omega) (rows := (r0 :: rest).map toS) (col := toD col) (k := k) hct (by rw [toRS]; exact RowC.rng hr hkl)
 rw [toRS] at hcu
 rw [hcu]
 simp only [Option.bind_some]
 generalize hrows : r0 :: rest = rows at *
 have hbl := W3x hT rows k
 rw [show (toD col).kind = col.t from rfl]
 generalize hbrs : brsD w rows col.t k = brs at *
 generalize hF : (fun (k2328 : Nat) (x2329 : Z0) (s2322 : Z8 × (List Z0)) => _) = F
 generalize hG : (fun (k186 : Nat) (x187 : Z0) (s180 : Int × (List Z0)) => _) = G
 have hloop := W3z (w := w) (lst := lst) (pick := pick) (F := F) (G := G) (L := L) (brs := brs) (P := fun b x => Q9t w lst pick L x (Q56 rows k b (Y5 w col b)) (Q6o cols k (Y5 w col b))) (fun b hb i j l out hl hol => ?_) (fun j b e out he => ?_) brs (fun b h => h) 0 0 L [] (Nat.le_refl _) (by simp; omega)
 ·rcases hloop with ⟨l', out', ⟨g1, g2, g3, ys, g4, g5⟩, e1, e2⟩ | ⟨c, e, out', he, e1, e2⟩
  ·rw [e1, e2]
   refine ⟨_, _, _, _, _, rfl, rfl, .inl ⟨rfl, rfl, l', rfl, rfl, ⟨⟨by simp, by simp, by simp only; omega, by simp only [List.length_nil] at g3 ⊢; omega, by simp⟩, fun x hx => ?_⟩, ?_, ?_⟩⟩
   ·simp only [Q3z, List.append_nil] at hx
    obtain ⟨b, hb, rfl⟩ := List.mem_map.1 hx
    rcases g1 b hb with h | h
    ·cases h
    ·exact h
   ·simp only [Q5z, Q3z, List.append_nil, List.map_map]
    have : (List.map (Q5z L ∘ fun b => b.tree) out') = out'.map fun b => Q5z L b.tree := rfl
    rw [this]
    simp only [List.map_nil, List.sum_nil] at g2
    omega
   ·rw [← hrows] at hp g5 hbrs ⊢
    simp only [Q9t, hp]
    rw [g4, List.nil_append]
    exact ⟨col, hk, trivial, trivial, trivial, rfl, trivial, by rw [hbrs]; exact g5⟩
  ·rw [e1, e2]
   exact ⟨_, _, _, _, _, rfl, rfl, .inr ⟨rfl, he⟩⟩
 ·have hB : BrC w col.t b := V72 hL hct b (by rw [hbrs]; exact hb)
  have hCn : ColC w (Q6o cols k (Y5 w col b)) l := by
   have := ColC.next hw hC hk hB
   exact ⟨this.ty, fun c hc => by have := this.path c hc; omega, by have := this.len; omega⟩
  have hRn : ∀ r ∈ Q56 rows k b (Y5 w col b), RowC w lst (Q6o cols k (Y5 w col b)) r := fun r hr' => by
   unfold Q56 at hr'
   obtain ⟨r1, h1, rfl⟩ := List.mem_map.1 hr'
   obtain ⟨h2, h3⟩ := List.mem_filter.1 h1
   exact RowC.next hw hS hC (hr r1 h2) hk hB h3
  have hrn := X6p rows k b (Y5 w col b)
  have hK : ∀ r ∈ rows, X86 r k b (Y5 w col b) := fun r h => RowC.kept hw hS hC (hr r h) hk hB
  obtain ⟨ti, ok, c, ts, e, h1, h2, h3⟩ := ih l (by omega) (by omega) n m (Q56 rows k b (Y5 w col b)) (Q6o cols k (Y5 w col b)) (by omega) (by omega) (by omega) hCn hRn
  have hal : (Y5 w col b).length ≤ 3 := (hK r0 (by rw [← hrows]; simp)).al
  have hI : F i b (CI w lst pick l, out) = some (if ok = true then .go (c, out ++ [⟨b.ctor, b.n, b.m, ti⟩]) else .ret (zT, false, c)) := by
   suffices hs : Ret (F i b (CI w lst pick l, out)) (fun a => a = (if ok = true then .go (c, out ++ [⟨b.ctor, b.n, b.m, ti⟩]) else .ret (zT, false, c))) by
    obtain ⟨a, e, rfl⟩ := hs
    exact e
   rw [← hF]
   refine Ret.ctl (R := fun _ => False) (B := fun s => s = Y5 w col b) ?_ (fun r h => h.elim) (fun s hs => ?_)
   ·by_cases hc : b.ctor = -1
    ·have e : (!ieq b.ctor (-1)) = false := by simp [ieq, hc]
     simp only [e, Bool.false_eq_true, if_false]
     exact .some (by simp [Y5, hc])
    ·have e : (!ieq b.ctor (-1)) = true := by simp [ieq, hc]
     have hd : col.t.data ≠ -1 := fun hd => hc (hB.int hd)
     simp only [e, if_true]
     rw [show (CI w lst pick (l : Int)).spaces.w = w from rfl, hT.a2 _ (hB.ctor hd).1]
     simp only [Option.bind_some]
     refine Ret.ctl (Z2 (Y7 w col.t b.ctor) (fun i s => s = (Y5 w col b).take i) (fun _ => False) (fun s => s = Y5 w col b) (by simp) (fun i t s hi hI => ?_) (fun s hI => ?_)) (fun r hr => hr.elim) (fun s hs => .some hs)
     ·rw [X6 (by simp only [List.length_cons, List.length_nil, Q4]; omega)]
      simp only [Option.bind_some]
      rw [X6 (by rw [hI]; simp only [List.length_take, List.length_cons, List.length_nil, Q4]; omega)]
      exact .some (by simp only [V6]; rw [hI, List.take_add_one, Z3h hc hi]; rfl)
     ·rw [hI, show (Y7 w col.t b.ctor).length = (Y5 w col b).length by rw [Q6d, if_neg hc], List.take_length]
   ·subst hs
    dsimp only
    refine Ret.ctl (Z2 rows (fun i s => s = Q56 (rows.take i) k b (Y5 w col b)) (fun _ => False) (fun s => s = Q56 rows k b (Y5 w col b)) (by simp [Q56]) (fun i r s hi hI => ?_) (fun s hI => by rw [hI, List.take_length])) (fun r hr => hr.elim) (fun s hs => ?_)
    ·have hil : i < rows.length := (List.getElem?_eq_some_iff.1 hi).1
     rw [X51 (by omega) (hK r (List.mem_of_getElem? hi))]
     simp only [Option.bind_some]
     have hsl : s.length ≤ 1000 := by
      rw [hI]
      have := X6p (rows.take i) k b (Y5 w col b)
      rw [List.length_take] at this
      omega
     have hstep : Q56 (rows.take (i + 1)) k b (Y5 w col b) = Q56 (rows.take i) k b (Y5 w col b) ++ (if Q4j (W0 r k) b = true then [Q78 r k (Y5 w col b)] else []) := by
      unfold Q56
      rw [List.take_add_one, hi]
      simp only [Option.toList_some, List.filter_append, List.map_append]
      by_cases hf : Q4j (W0 r k) b = true <;> simp [hf]
     by_cases hf : Q4j (W0 r k) b = true
     ·rw [if_pos hf]
      simp only [if_true]
      rw [X6 (by simp only [List.length_cons, List.length_nil, Q4]; omega)]
      exact .some (by simp only [V6]; rw [hstep, if_pos hf, hI])
     ·rw [if_neg hf]
      simp only [Bool.false_eq_true, if_false]
      exact .some (by simp only [V6]; rw [hstep, if_neg hf, hI, List.append_nil])
    ·subst hs
     dsimp only
     rw [Z2d (by omega)]
     simp only [Option.bind_some]
     rw [V1 (by omega) (by omega), show ((k : Int) + 1) = ((k + 1 : Nat) : Int) by simp, Z5p (by omega)]
     simp only [Option.bind_some]
     rw [W3q (by simp only [List.length_take, List.length_drop]; omega)]
     simp only [Option.bind_some]
     rw [show cols.take k ++ Y5 w col b ++ cols.drop (k + 1) = Q6o cols k (Y5 w col b) from rfl, h1]
     simp only [Option.bind_some]
     cases ok with
     | true =>
      simp only [Bool.not_true, Bool.false_eq_true, if_false]
      rw [X6 (by simp only [List.length_cons, List.length_nil, Q4]; omega)]
      exact .some (by simp)
     | false =>
      simp only [Bool.not_false, if_true]
      exact .some (by simp [zT])
  have hJ : G j b ((l : Int), out) = some (.go (e, out ++ [⟨b.ctor, b.n, b.m, ts⟩])) := by
   rw [← hG]
   have e1 : ile 0 (l : Int) = true := by rw [J6]; omega
   have hb2 : b.ctor ≠ -1 → b.ctor ∈ X1 w col.t := fun h => (hB.ctor fun hd => h (hB.int hd)).1
   simp only [e1, if_true]
   rw [Z2f hT hk hb2 (by omega) (by omega)]
   simp only [Option.bind_some]
   rw [X4h (by omega) hT hk hb2 (by omega) (by omega) (by omega) (fun r h => ⟨hK r h, (hr r h).len⟩)]
   simp only [Option.bind_some]
   rw [h2]
   simp only [Option.bind_some]
   rw [X6 (by simp only [List.length_cons, List.length_nil, Q4]; omega)]
   rfl
  rw [hI, hJ]
  rcases h3 with ⟨rfl, rfl, l', rfl, rfl, hd, hz, hq⟩ | ⟨rfl, he⟩
  ·exact .inl ⟨ti, l', ⟨W03 hd hl, by rw [W5y hd hl]; exact hz, X8c hl hq⟩, by simp, rfl⟩
  ·exact .inr ⟨c, e, _, he, by simp, rfl⟩
 ·rw [← hG]
  have e1 : ile 0 e = false := by rw [Q5d]; omega
  simp only [e1, Bool.false_eq_true, if_false]
end Go.Proofs.YtbdkbdafhlcilaaGreat
namespace Go.Proofs.YtbdkbdafhlcilaaGreat
open Go Go.RowKit
theorem X4r {l : List Q2} (hl : l.length ≤ 1000) (hp : ∀ b ∈ l, b.path.length ≤ 1000) : Q3s l = some l := by
 suffices hs : Ret (Q3s l) (fun a => a = l) by
  obtain ⟨a, e, rfl⟩ := hs
  exact e
 unfold Q3s
 refine Ret.ctl (Z2 l (fun i s => s = l.take i) (fun _ => False) (fun s => s = l) (by simp) (fun i x s hi hI => ?_) (fun s hI => by rw [hI, List.take_length])) (fun r hr => hr.elim) (fun s hs => .some hs)
 have hx := hp x (List.mem_of_getElem? hi)
 rw [Z0n _ (by simp only [Q4]; omega)]
 simp only [Option.bind_some]
 rw [X6 (by rw [hI]; simp only [List.length_take, List.length_cons, List.length_nil, Q4]; omega)]
 exact .some (by simp only [V6]; rw [hI, List.take_add_one, hi]; rfl)
theorem W08 (x : Z0) : Z0.mk x.ctor x.n x.m x.tree = x := by cases x; rfl
theorem W5l (t : Z9) : Z9.mk t.op t.clause t.binds t.path t.branches t.else_ = t := by cases t; rfl
theorem X8s : ∀ (d n : Nat) (t : Z9), Q83 d t → d ≤ n → Q1m n t = some t := by
 intro d
 induction d with
 | zero => intro n t h; exact h.elim
 | succ d ih =>
  intro n t h hn
  obtain ⟨n, rfl⟩ : ∃ k, n = k + 1 := ⟨n - 1, by omega⟩
  obtain ⟨⟨h1, h2, h3, h4, h5⟩, h6⟩ := h
  suffices hs : Ret (Q1m (n + 1) t) (fun a => a = t) by
   obtain ⟨a, e, rfl⟩ := hs
   exact e
  unfold Q1m
  rw [X4r h1 h2, Z0n _ (by simp only [Q4]; omega)]
  simp only [Option.bind_some]
  refine Ret.ctl (Z2 t.branches (fun i s => s = t.branches.take i) (fun _ => False) (fun s => s = t.branches) (by simp) (fun i x s hi hI => ?_) (fun s hI => by rw [hI, List.take_length])) (fun r hr => hr.elim) (fun s hs => ?_)
  ·rw [ih n x.tree (h6 _ (List.mem_append_left _ (List.mem_map_of_mem (List.mem_of_getElem? hi)))) (by omega)]
   simp only [Option.bind_some]
   rw [X6 (by rw [hI]; simp only [List.length_take, List.length_cons, List.length_nil, Q4]; omega)]
   exact .some (by simp only [V6]; rw [hI, List.take_add_one, hi, W08]; rfl)
  ·subst hs
   refine Ret.ctl (Z2 t.else_ (fun i s => s = t.else_.take i) (fun _ => False) (fun s => s = t.else_) (by simp) (fun i x s hi hI => ?_) (fun s hI => by rw [hI, List.take_length])) (fun r hr => hr.elim) (fun s hs => .some (by rw [hs, W5l]))
   rw [ih n x (h6 _ (List.mem_append_right _ (List.mem_of_getElem? hi))) (by omega)]
   simp only [Option.bind_some]
   rw [X6 (by rw [hI]; simp only [List.length_take, List.length_cons, List.length_nil, Q4]; omega)]
   exact .some (by simp only [V6]; rw [hI, List.take_add_one, hi]; rfl)
def Q23 (k : Nat) (p : Q0) : Grow := ⟨(k : Int), [(Q5w p []).2], (Q5w p []).1⟩
def Q22 (l : List Q6) : Nat → List Grow
 | 0 => []
 | i + 1 => Q22 l i ++ (match l[i]? with
  | none => []
  | some c => (Z5 10 c.pat).map (Q23 i))
theorem Z94 {l : List Q6} : ∀ {i : Nat} {r : Grow}, r ∈ Q22 l i → ∃ k c p, l[k]? = some c ∧ p ∈ Z5 10 c.pat ∧ r = Q23 k p := by
 intro i
 induction i with
 | zero => intro r h; cases h
 | succ i ih =>
  intro r h
  rw [Q22] at h
  rcases List.mem_append.1 h with h | h
  ·exact ih h
  ·cases hc : l[i]? with
   | none => rw [hc] at h; cases h
   | some c =>
    rw [hc] at h
    obtain ⟨p, hp, rfl⟩ := List.mem_map.1 h
    exact ⟨i, c, p, hc, hp, rfl⟩
theorem Z3u {l : List Q6} (h : ∀ c ∈ l, (Z5 10 c.pat).length ≤ 40) : ∀ i, (Q22 l i).length ≤ 40 * i := by
 intro i
 induction i with
 | zero => simp [Q22]
 | succ i ih =>
  rw [Q22, List.length_append]
  cases hc : l[i]? with
  | none => simp only [List.length_nil]; omega
  | some c =>
   have := h c (List.mem_of_getElem? hc)
   simp only [List.length_map]
   omega
def W49 (w : List Q3) (t : Q5) (l : List Q6) : Prop := ∀ c ∈ l, Q0s w 10 t c.pat = true ∧ linD w 10 t c.pat = true
theorem X2b {w : List Q3} (hw : WW w) {t : Q5} {l : List Q6} (hl : W49 w t l) (hll : l.length ≤ 8) : ∀ r ∈ Q22 l l.length, RowC w l [⟨[], t⟩] r := fun r hr => by
 obtain ⟨k, c, p, hk, hp, rfl⟩ := Z94 hr
 obtain ⟨g, ln⟩ := hl c (List.mem_of_getElem? hk)
 have hkl := (List.getElem?_eq_some_iff.1 hk).1
 have hO : PatO w t p := ⟨Q4s 11 t p (Q4s 10 t p (Q7i 10 t c.pat p g hp)), Q7y 11 p (Q7y 10 p (Z3r 10 c.pat p hp))⟩
 obtain ⟨s1, s2, s3⟩ := Z5y [] hO
 have hv : Z80 (Q23 k p) = Q4i p := by
  unfold Z80 Q23
  simp only [List.flatMap_cons, List.flatMap_nil, List.append_nil]
  exact s2
 have hperm := X8h 10 t c.pat p g ln hp
 have hd := Q6w 10 t c.pat g ln
 simp only [Q21, decide_eq_true_eq] at hd
 refine ⟨rfl, fun x hx => ?_, ?_, fun v hv' => ?_, by simp [Q23], by simp only [Q23]; omega, fun b hb => ?_⟩
 ·simp only [Q23, List.zip_cons_cons, List.zip_nil_right, List.mem_cons, List.not_mem_nil, or_false] at hx
  rw [hx]
  exact s1
 ·rw [hv]; exact hperm.nodup_iff.2 hd
 ·rw [hv] at hv'
  obtain ⟨y, hy, rfl⟩ := List.mem_map.1 (hperm.mem_iff.1 hv')
  exact Z8s 10 t c.pat g y hy
 ·rw [s3 b hb]; simp
theorem X07 {w : List Q3} (hw : WW w) {t : Q5} (ht : t ∈ tys w) {l : List Q6} (hl : W49 w t l) (hll : l.length ≤ 8) :
  Q1j NN l = some (if l.all (fun c => decide ((Z5 10 c.pat).length ≤ 40)) = true then (l.map (fun c => Z5 10 c.pat), true) else ([], false)) := by
 suffices hs : Ret (Q1j NN l) (fun a => a = (if l.all (fun c => decide ((Z5 10 c.pat).length ≤ 40)) = true then (l.map (fun c => Z5 10 c.pat), true) else ([], false))) by
  obtain ⟨a, e, rfl⟩ := hs
  exact e
 unfold Q1j
 refine Ret.ctl (Z2 l (fun i s => s = (l.take i).map (fun c => Z5 10 c.pat) ∧ ∀ c ∈ l.take i, (Z5 10 c.pat).length ≤ 40) (fun r => r = ([], false) ∧ ∃ c ∈ l, 40 < (Z5 10 c.pat).length) (fun s => s = l.map (fun c => Z5 10 c.pat) ∧ ∀ c ∈ l, (Z5 10 c.pat).length ≤ 40) ⟨by simp, by simp⟩ (fun i c s hi hI => ?_) (fun s hI => by rw [List.take_length] at hI; exact hI)) (fun r hr => .some ?_) (fun s hs => .some ?_)
 ·obtain ⟨g, _⟩ := hl c (List.mem_of_getElem? hi)
  have hor := X32 hw 10 t c.pat ht g
  have hil : i < l.length := (List.getElem?_eq_some_iff.1 hi).1
  rw [X0w 10 NN c.pat hor (by decide)]
  simp only [Option.bind_some]
  by_cases hc : (Z5 10 c.pat).length ≤ 40
  ·have e : ilt 40 ((min (Z5 10 c.pat).length 401 : Nat) : Int) = false := by rw [W5]; omega
   simp only [e, Bool.false_eq_true, if_false]
   rw [X2r 10 NN c.pat hor (by decide) (by omega)]
   simp only [Option.bind_some]
   rw [X6 (by rw [hI.1]; simp only [List.length_map, List.length_take, List.length_cons, List.length_nil, Q4]; omega)]
   refine .some ⟨by rw [hI.1, List.take_add_one, hi]; simp, fun c' hc' => ?_⟩
   rw [List.take_add_one, hi] at hc'
   rcases List.mem_append.1 hc' with h | h
   ·exact hI.2 c' h
   ·simp only [Option.toList_some, List.mem_cons, List.not_mem_nil, or_false] at h
    rw [h]; exact hc
  ·have e : ilt 40 ((min (Z5 10 c.pat).length 401 : Nat) : Int) = true := by rw [X2]; omega
   simp only [e, if_true]
   exact .some ⟨rfl, c, List.mem_of_getElem? hi, by omega⟩
 ·obtain ⟨rfl, c, hc, hlt⟩ := hr
  rw [if_neg]
  rw [List.all_eq_true]
  intro h
  have := h c hc
  simp only [decide_eq_true_eq] at this
  omega
 ·obtain ⟨rfl, h⟩ := hs
  rw [if_pos]
  rw [List.all_eq_true]
  exact fun c hc => by simpa using h c hc
structure Comp (Q : Z9 → Prop) (x y : Option (Z9 × Bool)) : Prop where
 tr : ∀ t, x = some (t, true) → Q t
 eq : ∃ t ok, x = some (t, ok) ∧ y = some (t, ok) ∧ (ok = false → t = zT) ∧ Q83 300 t ∧ Q5z 300 t ≤ 300
theorem W9s : Q83 300 zT := ⟨by simp [zT], by simp [Q3z, zT]⟩
theorem W9r : Q5z 300 zT = 1 := by
 show 1 + ((Q3z zT).map (Q5z 299)).sum = 1
 rw [show Q3z zT = [] from rfl]
 simp
theorem Comp.no {Q : Z9 → Prop} {x y : Option (Z9 × Bool)} (h1 : x = some (zT, false)) (h2 : y = some (zT, false)) : Comp Q x y := ⟨fun t h => by rw [h1] at h; simp at h, zT, false, h1, h2, fun _ => rfl, W9s, by rw [W9r]; omega⟩
theorem W3l {ρ σ τ : Type} {x : Option (Ctl ρ σ)} {s0 : σ} {g : Ctl ρ σ → Option τ} (h : Ret x (CtlQ (fun _ => False) (fun s => s = s0))) : x.bind g = g (.brk s0) := by
 obtain ⟨o, rfl, ho⟩ := h
 cases o with
 | ret r => exact ho.elim
 | go s => exact ho.elim
 | brk s => rw [show s = s0 from ho]; rfl
theorem V1b {ρ σ τ : Type} {x : Option (Ctl ρ σ)} {r0 : ρ} {g : Ctl ρ σ → Option τ} (h : Ret x (CtlQ (fun r => r = r0) (fun _ => False))) : x.bind g = g (.ret r0) := by
 obtain ⟨o, rfl, ho⟩ := h
 cases o with
 | ret r => rw [show r = r0 from ho]; rfl
 | go s => exact ho.elim
 | brk s => exact ho.elim
def canC (w : List Q3) (t : Q5) (l : List Q6) (pick : Int) : Bool := Q6r w t l && (decide (0 ≤ pick) && decide (pick ≤ 2)) && l.all (fun c => decide ((Z5 10 c.pat).length ≤ 40))
theorem Z9z {w : List Q3} {t : Q5} {l : List Q6} (h : Q6r w t l = true) : l.length ≤ 8 ∧ W49 w t l := by
 simp only [Q6r, Bool.and_eq_true, decide_eq_true_eq, List.all_eq_true] at h
 refine ⟨h.1, fun c hc => ?_⟩
 have := h.2 c hc
 simp only [Q7a, Bool.and_eq_true] at this
 obtain ⟨g, _, ln⟩ := Z0r this.1
 exact ⟨g, ln⟩
theorem X71 {w : List Q3} (hww : w ∈ Q1c) {t : Q5} (ht : t ∈ tys w) (l : List Q6) (pick : Int) :
  W9 NN w t l pick = if canC w t l pick = true then ((J3 NN (CI w l pick ((300 : Nat) : Int)) (Q22 l l.length) [⟨[], t⟩]).bind fun r => if (!r.2.1) = true then some (zT, false) else (Q1m NN r.1).bind fun r2 => some (r2, true)) else some (zT, false) := by
 have hw := ww hww
 have hz : Z9.mk 0 0 [] [] [] [] = zT := rfl
 unfold W9 canC
 rw [Z88 hw ht l]
 simp only [Option.bind_some, hz]
 cases hv : Q6r w t l with
 | false => simp
 | true =>
 obtain ⟨hll, hP⟩ := Z9z hv
 rw [Q7o]
 simp only [Option.bind_some, Bool.not_true, Bool.false_eq_true, if_false, Bool.true_and]
 cases hp : (decide (0 ≤ pick) && decide (pick ≤ 2)) with
 | false => simp
 | true =>
 simp only [Bool.not_true, Bool.false_eq_true, if_false, Bool.true_and]
 rw [X07 hw ht hP hll]
 simp only [Option.bind_some]
 cases hA : l.all (fun c => decide ((Z5 10 c.pat).length ≤ 40)) with
 | false => simp
 | true =>
 simp only [if_true, Bool.not_true, Bool.false_eq_true, if_false]
 have hA' : ∀ c ∈ l, (Z5 10 c.pat).length ≤ 40 := fun c hc => by simpa using List.all_eq_true.1 hA c hc
 refine (W3l (s0 := Q22 l l.length) ?_).trans ?_
 ·refine Z2 (l.map fun c => Z5 10 c.pat) (fun i s => s = Q22 l i) (fun _ => False) (fun s => s = Q22 l l.length) rfl (fun i ps s hi hI => ?_) (fun s hI => by rw [hI, List.length_map])
  rw [List.getElem?_map, Option.map_eq_some_iff] at hi
  obtain ⟨c, hi, rfl⟩ := hi
  have hc := List.mem_of_getElem? hi
  have hil : i < l.length := (List.getElem?_eq_some_iff.1 hi).1
  have hri := Z3u hA' i
  have hcl := hA' c hc
  refine Ret.ctl (Z2 (Z5 10 c.pat) (fun j u => u = Q22 l i ++ ((Z5 10 c.pat).take j).map (Q23 i)) (fun _ => False) (fun u => u = Q22 l (i + 1)) (by simp [hI]) (fun j p u hj hJ => ?_) (fun u hJ => ?_)) (fun r hr => hr.elim) (fun u hu => .some hu)
  ·have hjl : j < (Z5 10 c.pat).length := (List.getElem?_eq_some_iff.1 hj).1
   have has := Z6t 10 t p (Q7i 10 t c.pat p (hP c hc).1 (List.mem_of_getElem? hj))
   rw [X7s (d := 10) (n := NN) has (by omega) (by decide) (by simp) (by simp) (by simp)]
   simp only [Option.bind_some, List.nil_append]
   rw [X6 (by rw [hJ]; simp only [List.length_append, List.length_map, List.length_take, List.length_cons, List.length_nil, Q4]; omega)]
   exact .some (by simp only [V6]; rw [hJ, List.take_add_one, hj]; simp [Q23])
  ·rw [hJ, List.take_length, Q22, hi]
 ·dsimp only
  rw [(wl hww).dim]
  simp only [Option.bind_some]
  rfl
theorem W5v {w : List Q3} (hww : w ∈ Q1c) {t : Q5} (ht : t ∈ tys w) (l : List Q6) (pick : Int) :
  J2 NN w t l pick = if canC w t l pick = true then ((Q1z NN w l [⟨[], t⟩] ((Q22 l l.length).map toS) pick ((300 : Nat) : Int)).bind fun r => if ilt r.2 0 = true then some (zT, false) else some (r.1, true)) else some (zT, false) := by
 have hw := ww hww
 have hz : Z9.mk 0 0 [] [] [] [] = zT := rfl
 unfold J2 canC
 rw [Z83 hw ht l]
 simp only [Option.bind_some, hz]
 cases hv : Q6r w t l with
 | false => simp
 | true =>
 obtain ⟨hll, hP⟩ := Z9z hv
 simp only [Bool.not_true, Bool.false_eq_true, if_false, Bool.true_and]
 by_cases p0 : pick < 0
 ·have e1 : ilt pick 0 = true := by rw [X2]; exact p0
  have e2 : (decide ((0 : Int) ≤ pick) && decide (pick ≤ 2)) = false := by simp; omega
  simp only [e1, e2, if_true, Bool.false_and, Bool.false_eq_true, if_false]
 have e1 : ilt pick 0 = false := by rw [W5]; omega
 simp only [e1, Bool.false_eq_true, if_false]
 by_cases p2 : 2 < pick
 ·have e1 : ilt 2 pick = true := by rw [X2]; exact p2
  have e2 : (decide ((0 : Int) ≤ pick) && decide (pick ≤ 2)) = false := by simp; omega
  simp only [e1, e2, if_true, Bool.false_and, Bool.false_eq_true, if_false]
 have e1 : ilt 2 pick = false := by rw [W5]; omega
 have e2 : (decide ((0 : Int) ≤ pick) && decide (pick ≤ 2)) = true := by simp; omega
 simp only [e1, e2, Bool.false_eq_true, if_false, Bool.true_and]
 unfold Q5g
 have hsp : ∀ c ∈ l, Q0c NN c.pat = some ((Z5 10 c.pat).take 401) := fun c hc => X1x 10 NN c.pat (X32 hw 10 t c.pat ht (hP c hc).1) (by decide)
 cases hA : l.all (fun c => decide ((Z5 10 c.pat).length ≤ 40)) with
 | true =>
  simp only [if_true]
  have hA' : ∀ c ∈ l, (Z5 10 c.pat).length ≤ 40 := fun c hc => by simpa using List.all_eq_true.1 hA c hc
  have hsp' : ∀ c ∈ l, Q0c NN c.pat = some (Z5 10 c.pat) := fun c hc => by
   have := hA' c hc
   rw [hsp c hc, List.take_of_length_le (by omega)]
  have hrows : Q4v NN l = some ((Q22 l l.length).map toS) := by
   suffices hs : Ret (Q4v NN l) (fun a => a = (Q22 l l.length).map toS) by
    obtain ⟨a, e, rfl⟩ := hs
    exact e
   unfold Q4v
   refine Ret.ctl (Z2 l (fun i s => s = (Q22 l i).map toS) (fun _ => False) (fun s => s = (Q22 l l.length).map toS) rfl (fun i c s hi hI => ?_) (fun s hI => hI)) (fun r hr => hr.elim) (fun s hs => .some hs)
   have hc := List.mem_of_getElem? hi
   have hil : i < l.length := (List.getElem?_eq_some_iff.1 hi).1
   have hri := Z3u hA' i
   have hcl := hA' c hc
   rw [hsp' c hc]
   simp only [Option.bind_some]
   refine Ret.ctl (Z2 (Z5 10 c.pat) (fun j u => u = (Q22 l i).map toS ++ (((Z5 10 c.pat).take j).map (Q23 i)).map toS) (fun _ => False) (fun u => u = (Q22 l (i + 1)).map toS) (by simp [hI]) (fun j p u hj hJ => ?_) (fun u hJ => ?_)) (fun r hr => hr.elim) (fun u hu => .some hu)
   ·have hjl : j < (Z5 10 c.pat).length := (List.getElem?_eq_some_iff.1 hj).1
    have has := Z6t 10 t p (Q7i 10 t c.pat p (hP c hc).1 (List.mem_of_getElem? hj))
    rw [X1r (d := 10) (n := NN) has (by omega) (by decide) (by simp) (by simp)]
    simp only [Option.bind_some, List.nil_append]
    rw [X6 (by rw [hJ]; simp only [List.length_append, List.length_map, List.length_take, List.length_cons, List.length_nil, Q4]; omega)]
    exact .some (by simp only [V6]; rw [hJ, List.take_add_one, hj]; simp [Q23, toS])
   ·rw [hJ, List.take_length, Q22, hi]; simp
  have h1 : ∀ (a : Z9) (b : Bool), some (a, b) = some (a, b) := fun _ _ => rfl
  rw [hrows]
  have e300 : (300 : Int) = ((300 : Nat) : Int) := rfl
  rw [e300]
  simp only [Option.bind_some]
  have hin : ∀ (X : Option (Z9 × Bool)), X.bind (fun r40 => some (r40.1, r40.2)) = X := fun X => by cases X <;> rfl
  rw [hin]
  refine (W3l (s0 := ()) ?_).trans ?_
  ·refine Z2 l (fun _ _ => True) (fun _ => False) (fun _ => _) trivial (fun i c s hi _ => ?_) (fun _ _ => rfl)
   have hc := List.mem_of_getElem? hi
   have := hA' c hc
   rw [hsp' c hc]
   have e : ilt 40 (lenZ (Z5 10 c.pat).length) = false := by rw [W5, Q1a]; omega
   simp only [Option.bind_some, e, Bool.false_eq_true, if_false]
   exact .some trivial
  ·rfl
 | false =>
  have hx : ∃ c ∈ l, 40 < (Z5 10 c.pat).length := by
   rw [List.all_eq_false] at hA
   simpa using hA
  have hin : ∀ (X : Option (Z9 × Bool)), X.bind (fun r40 => some (r40.1, r40.2)) = X := fun X => by cases X <;> rfl
  rw [hin]
  simp only [Bool.false_eq_true, if_false]
  refine (V1b (r0 := (zT, false)) ?_).trans rfl
  refine Z2 l (fun i _ => ∀ c ∈ l.take i, (Z5 10 c.pat).length ≤ 40) (fun r => r = (zT, false)) (fun _ => False) (by simp) (fun i c s hi hI => ?_) (fun s hI => ?_)
  ·have hc := List.mem_of_getElem? hi
   rw [hsp c hc]
   simp only [Option.bind_some]
   by_cases h40 : (Z5 10 c.pat).length ≤ 40
   ·have e : ilt 40 (lenZ ((Z5 10 c.pat).take 401).length) = false := by rw [W5, Q1a, List.length_take]; omega
    simp only [e, Bool.false_eq_true, if_false]
    refine .some fun c' hc' => ?_
    rw [List.take_add_one, hi] at hc'
    rcases List.mem_append.1 hc' with h | h
    ·exact hI c' h
    ·simp only [Option.toList_some, List.mem_cons, List.not_mem_nil, or_false] at h
     rw [h]; exact h40
   ·have e : ilt 40 (lenZ ((Z5 10 c.pat).take 401).length) = true := by rw [X2, Q1a, List.length_take]; omega
    simp only [e, if_true]
    exact .some rfl
  ·obtain ⟨c, hc, h⟩ := hx
   rw [List.take_length] at hI
   have := hI c hc
   omega
theorem W1c {w : List Q3} {t : Q5} (ht : t ∈ tys w) : ColC w [⟨[], t⟩] 300 :=
 ⟨fun c hc => by simp only [List.mem_cons, List.not_mem_nil, or_false] at hc; rw [hc]; exact ht, fun c hc => by simp only [List.mem_cons, List.not_mem_nil, or_false] at hc; rw [hc]; simp, by simp⟩
theorem Q7m {w : List Q3} (hww : w ∈ Q1c) {t : Q5} (ht : t ∈ tys w) (l : List Q6) (pick : Int) : Comp (fun tr => Q9t w l pick 300 tr (Q22 l l.length) [⟨[], t⟩]) (W9 NN w t l pick) (J2 NN w t l pick) := by
 rw [X71 hww ht, W5v hww ht]
 cases hc : canC w t l pick with
 | false => exact Comp.no (by simp) (by simp)
 | true =>
 simp only [if_true]
 simp only [canC, Bool.and_eq_true] at hc
 obtain ⟨hll, hP⟩ := Z9z hc.1.1
 have hA' : ∀ c ∈ l, (Z5 10 c.pat).length ≤ 40 := fun c h => by simpa using List.all_eq_true.1 hc.2 c h
 have hrl := Z3u hA' l.length
 obtain ⟨ti, ok, c, ts, e, h1, h2, h3⟩ := W9v (ww hww) (wl hww) (ws hww) (lst := l) (pick := pick) 300 (Nat.le_refl _) NN NN (Q22 l l.length) [⟨[], t⟩] (by decide) (by decide) (by omega) (W1c ht) (X2b (ww hww) hP hll)
 rw [h1, show [Y8.mk [] t] = [Z6.mk [] t].map toD from rfl, h2]
 simp only [Option.bind_some]
 rcases h3 with ⟨rfl, rfl, lf, rfl, rfl, hd, hsz, hq⟩ | ⟨rfl, he⟩
 ·have e : ilt ((lf : Nat) : Int) 0 = false := by rw [W5]; omega
  simp only [Bool.not_true, e, Bool.false_eq_true, if_false]
  rw [X8s 300 NN ti hd (by decide)]
  exact ⟨fun t h => by simp only [Option.bind_some, Option.some.injEq, Prod.mk.injEq] at h; rw [← h.1]; exact hq, ti, true, rfl, rfl, by simp, hd, by omega⟩
 ·have e : ilt e 0 = true := by rw [X2]; exact he
  simp only [Bool.not_false, e, if_true]
  exact Comp.no rfl rfl
end Go.Proofs.YtbdkbdafhlcilaaGreat
namespace Go.Proofs.YtbdkbdafhlcilaaGreat
open Go Go.RowKit
def Z3s (l : List J7) : List J7 := (List.range 6).flatMap fun (v : Nat) => l.filter fun b => decide (b.var = (v : Int))
theorem Z61 : ∀ (a b : List J7), a.Pairwise (fun x y => x.var < y.var) → b.Pairwise (fun x y => x.var < y.var) → a.Perm b → a = b := by
 intro a
 induction a with
 | nil => intro b _ _ h; exact h.nil_eq
 | cons x a ih =>
  intro b ha hb h
  cases b with
  | nil => exact absurd h.symm.nil_eq (by simp)
  | cons y b =>
   rw [List.pairwise_cons] at ha hb
   have hx : x ∈ y :: b := h.mem_iff.1 (by simp)
   have hy : y ∈ x :: a := h.mem_iff.2 (by simp)
   have hxy : x = y := by
    rcases List.mem_cons.1 hx with rfl | hx
    ·rfl
    ·rcases List.mem_cons.1 hy with h1 | hy
     ·exact h1.symm
     ·have h1 := hb.1 x hx
      have h2 := ha.1 y hy
      omega
   subst hxy
   rw [ih b ha.2 hb.2 ((List.perm_cons x).1 h)]
theorem X8m {l : List J7} (h : l.Pairwise (fun x y => x.var ≤ y.var)) (hn : (l.map (·.var)).Nodup) : l.Pairwise (fun x y => x.var < y.var) := by
 rw [List.Nodup, List.pairwise_map] at hn
 refine (h.and hn).imp fun ⟨h1, h2⟩ => ?_
 omega
theorem Z02 {l : List J7} (hn : (l.map (·.var)).Nodup) : (Z3s l).Pairwise (fun x y => x.var < y.var) := by
 unfold Z3s
 rw [List.pairwise_flatMap]
 refine ⟨fun v _ => ?_, ?_⟩
 ·have h1 : (l.filter fun b => decide (b.var = (v : Int))).Pairwise (fun x y => x.var ≤ y.var) := by
   rw [List.pairwise_filter]
   refine List.pairwise_of_forall fun x y hx hy => ?_
   simp only [decide_eq_true_eq] at hx hy
   omega
  exact X8m h1 ((List.filter_sublist.map _).nodup hn)
 ·refine List.Pairwise.imp ?_ (List.pairwise_lt_range (n := 6))
  intro a b hab x hx y hy
  have h1 := (List.mem_filter.1 hx).2
  have h2 := (List.mem_filter.1 hy).2
  simp only [decide_eq_true_eq] at h1 h2
  omega
theorem Z4x {α β : Type} (f g h : α → List β) (e : ∀ v, f v = g v ++ h v) : ∀ L : List α, (L.flatMap f).Perm (L.flatMap g ++ L.flatMap h)
 | [] => by simp
 | v :: L => by
  rw [List.flatMap_cons, List.flatMap_cons, List.flatMap_cons, e v, List.append_assoc, List.append_assoc]
  refine List.Perm.append_left _ ?_
  refine ((Z4x f g h e L).append_left (h v)).trans ?_
  rw [← List.append_assoc, ← List.append_assoc]
  exact List.Perm.append_right _ List.perm_append_comm
theorem Z0t {l : List J7} (hv : ∀ b ∈ l, 0 ≤ b.var ∧ b.var ≤ 5) : (Z3s l).Perm l := by
 induction l with
 | nil => simp [Z3s]
 | cons x l ih =>
  have h1 := ih fun b hb => hv b (by simp [hb])
  obtain ⟨x0, x5⟩ := hv x (by simp)
  have h2 := Z4x (fun (v : Nat) => (x :: l).filter fun b => decide (b.var = (v : Int))) (fun (v : Nat) => if x.var = (v : Int) then [x] else []) (fun (v : Nat) => l.filter fun b => decide (b.var = (v : Int))) (fun v => by
   by_cases hc : x.var = (v : Int)
   ·rw [List.filter_cons, if_pos (by simp [hc]), if_pos hc]; rfl
   ·rw [List.filter_cons, if_neg (by simp [hc]), if_neg hc]; rfl) (List.range 6)
  have hx : ((List.range 6).flatMap fun (v : Nat) => if x.var = (v : Int) then [x] else []) = [x] := by
   have h6 : x.var = 0 ∨ x.var = 1 ∨ x.var = 2 ∨ x.var = 3 ∨ x.var = 4 ∨ x.var = 5 := by omega
   rcases h6 with h | h | h | h | h | h <;> simp [h, List.range, List.range.loop]
  rw [hx] at h2
  exact h2.trans (List.Perm.cons _ h1)
structure X67 (l : List J7) : Prop where
 nd : (l.map (·.var)).Nodup
 rg : ∀ b ∈ l, 0 ≤ b.var ∧ b.var ≤ 5
 ln : l.length ≤ 6
theorem W1g {a b : List J7} (ha : X67 a) (h : a.Perm b) : Z3s a = Z3s b := by
 have hb : (b.map (·.var)).Nodup := (h.map _).nodup_iff.1 ha.nd
 have hr : ∀ x ∈ b, 0 ≤ x.var ∧ x.var ≤ 5 := fun x hx => ha.rg x (h.mem_iff.2 hx)
 exact Z61 _ _ (Z02 ha.nd) (Z02 hb) ((Z0t ha.rg).trans (h.trans (Z0t hr).symm))
def Q3w (g : Q2q) (l : List J7) : Bool := decide (g.op = 0) || match l.find? fun b => decide (b.var = g.var) with
 | none => false
 | some b => decide (b.value.ctor = -1) && ((decide (g.op = 1) && decide (b.value.n < g.n)) || (decide (g.op = 2) && decide (b.value.n = g.n)))
theorem W39 {a b : List J7} (hn : (a.map (·.var)).Nodup) (h : a.Perm b) (v : Int) : a.find? (fun x => decide (x.var = v)) = b.find? (fun x => decide (x.var = v)) := by
 induction h with
 | nil => rfl
 | cons x h ih =>
  rw [List.find?_cons, List.find?_cons]
  split
  ·rfl
  ·exact ih (List.nodup_cons.1 (by simpa using hn)).2
 | swap x y l =>
  simp only [List.map_cons, List.nodup_cons, List.mem_cons, not_or] at hn
  simp only [List.find?_cons]
  by_cases h1 : x.var = v
  ·have h2 : ¬ y.var = v := fun e => hn.1.1 (by omega)
   simp [h1, h2]
  ·simp [h1]
 | trans h1 h2 ih1 ih2 => rw [ih1 hn, ih2 ((h1.map _).nodup_iff.1 hn)]
theorem Z1u {a b : List J7} (hn : (a.map (·.var)).Nodup) (h : a.Perm b) (g : Q2q) : Q3w g a = Q3w g b := by
 unfold Q3w
 rw [W39 hn h]
theorem X57 {l : List J7} (h : X67 l) (g : Q2q) : Q3w g (Z3s l) = Q3w g l := (Z1u h.nd (Z0t h.rg).symm g).symm
def runD (v : Q1) : Nat → List Q6 → Option (Nat × List J7)
 | _, [] => none
 | k, c :: cs => match X4 10 c.pat v with
  | none => runD v (k + 1) cs
  | some l => if Q3w c.guard l = true then some (k, Z3s l) else runD v (k + 1) cs
def runR : Option (Nat × List J7) → Int × List J7
 | none => (-1, [])
 | some x => ((x.1 : Int), x.2)
end Go.Proofs.YtbdkbdafhlcilaaGreat
namespace Go.Proofs.YtbdkbdafhlcilaaGreat
open Go Go.RowKit
theorem Z1y {α : Type} {l : List α} {k : Nat} {x : α} (h : l[k]? = some x) : l.drop k = x :: l.drop (k + 1) := by
 obtain ⟨hk, rfl⟩ := List.getElem?_eq_some_iff.1 h
 exact List.drop_eq_getElem_cons hk
end Go.Proofs.YtbdkbdafhlcilaaGreat
namespace Go.Proofs.YtbdkbdafhlcilaaGreat
open Go Go.RowKit
theorem Z6k {f : Q0 → Q1 → Option (List J7)} : ∀ (a : List Q0) (vs : List Q1) (c : Q0) (u : Q1), a.length = vs.length → Y6 f (a ++ [c]) (vs ++ [u]) = (Y6 f a vs).bind fun l1 => (f c u).map (l1 ++ ·)
 | [], [], c, u, _ => by
  simp only [List.nil_append, Y6, Option.bind_some]
  cases f c u <;> simp
 | p :: a, v :: vs, c, u, h => by
  simp only [List.cons_append, Y6]
  rw [Z6k a vs c u (by simpa using h)]
  cases f p v with
  | none => rfl
  | some l =>
   simp only
   cases Y6 f a vs with
   | none => rfl
   | some l1 =>
    simp only [Option.bind_some]
    cases f c u <;> simp
 | [], _ :: _, _, _, h => by simp at h
 | _ :: _, [], _, _, h => by simp at h
theorem Q4u {f : Q0 → Q1 → Option (List J7)} : ∀ (a b : List Q0) (us vs : List Q1), a.length = us.length → Y6 f (a ++ b) (us ++ vs) = (Y6 f a us).bind fun l1 => (Y6 f b vs).map (l1 ++ ·)
 | [], b, [], vs, _ => by
  simp only [List.nil_append, Y6, Option.bind_some]
  cases Y6 f b vs <;> simp
 | p :: a, b, u :: us, vs, h => by
  simp only [List.cons_append, Y6]
  rw [Q4u a b us vs (by simpa using h)]
  cases f p u with
  | none => rfl
  | some l =>
   simp only
   cases Y6 f a us with
   | none => rfl
   | some l1 =>
    simp only [Option.bind_some]
    cases Y6 f b vs <;> simp
 | [], _, _ :: _, _, h => by simp at h
 | _ :: _, _, [], _, h => by simp at h
theorem Z77 {α β : Type} {l : List α} {f : α → Option β} (h : ∀ x ∈ l, f x = none) : l.findSome? f = none := List.findSome?_eq_none_iff.2 h
theorem X0o {α β γ : Type} (l : List α) (g : α → β) (f : β → Option γ) : (l.map g).findSome? f = l.findSome? fun x => f (g x) := by
 induction l with
 | nil => rfl
 | cons a l ih => simp only [List.map_cons, List.findSome?_cons, ih]
theorem Z10 {α β : Type} {l : List α} {f g : α → Option β} (h : ∀ x ∈ l, f x = g x) : l.findSome? f = l.findSome? g := by
 induction l with
 | nil => rfl
 | cons a l ih => simp only [List.findSome?_cons]; rw [h a (by simp), ih fun x hx => h x (by simp [hx])]
theorem X3b {α β γ : Type} (l : List α) (f : α → Option β) (g : β → γ) : (l.findSome? fun x => (f x).map g) = (l.findSome? f).map g := by
 induction l with
 | nil => rfl
 | cons a l ih =>
  simp only [List.findSome?_cons]
  cases f a with
  | none => simpa using ih
  | some x => rfl
theorem X6g {f : Q0 → Q1 → Option (List J7)} (l : List Q0) (vs : List Q1) (u : Q1) : ∀ out : List (List Q0), (∀ a ∈ out, a.length = vs.length) →
  (tupD out l).findSome? (fun ks => Y6 f ks (vs ++ [u])) = (out.findSome? fun a => Y6 f a vs).bind fun l1 => (l.findSome? fun c => f c u).map (l1 ++ ·)
 | [], _ => by simp [tupD]
 | a :: out, h => by
  have e : tupD (a :: out) l = (l.map fun c => a ++ [c]) ++ tupD out l := by simp [tupD]
  rw [e, List.findSome?_append, X0o, X6g l vs u out fun x hx => h x (by simp [hx])]
  have e2 : (l.findSome? fun x => Y6 f (a ++ [x]) (vs ++ [u])) = (Y6 f a vs).bind fun l1 => (l.findSome? fun c => f c u).map (l1 ++ ·) := by
   rw [Z10 fun x _ => Z6k a vs x u (h a (by simp))]
   cases Y6 f a vs with
   | none => simp only [Option.bind_none]; exact Z77 fun _ _ => rfl
   | some l1 => simp only [Option.bind_some]; exact X3b l _ _
  rw [e2, List.findSome?_cons]
  cases Y6 f a vs with
  | none => simp
  | some l1 =>
   simp only [Option.bind_some]
   cases l.findSome? fun c => f c u with
   | none => simp
   | some l2 => simp
def X0p (f : Q0 → Q1 → Option (List J7)) : List (List Q0) → List Q1 → Option (List J7)
 | [], _ => some []
 | _ :: _, [] => none
 | l :: ls, v :: vs => match l.findSome? fun c => f c v with
  | none => none
  | some r => match X0p f ls vs with
   | none => none
   | some m => some (r ++ m)
theorem X1m {f : Q0 → Q1 → Option (List J7)} : ∀ (ls : List (List Q0)) (vs : List Q1) (vs0 : List Q1) (out : List (List Q0)), ls.length = vs.length → (∀ a ∈ out, a.length = vs0.length) →
  (ls.foldl tupD out).findSome? (fun ks => Y6 f ks (vs0 ++ vs)) = (out.findSome? fun a => Y6 f a vs0).bind fun l1 => (X0p f ls vs).map (l1 ++ ·)
 | [], [], vs0, out, _, _ => by
  simp only [List.foldl_nil, List.append_nil, X0p]
  cases out.findSome? fun a => Y6 f a vs0 <;> simp
 | l :: ls, v :: vs, vs0, out, h, ho => by
  rw [List.foldl_cons]
  have := X1m (f := f) ls vs (vs0 ++ [v]) (tupD out l) (by simpa using h) (fun a ha => by
   simp only [tupD, List.mem_flatMap, List.mem_map] at ha
   obtain ⟨q, hq, c, _, rfl⟩ := ha
   simp [ho q hq])
  rw [List.append_assoc, List.singleton_append] at this
  rw [this, X6g l vs0 v out ho]
  cases out.findSome? fun a => Y6 f a vs0 with
  | none => rfl
  | some l1 =>
   simp only [Option.bind_some, X0p]
   cases l.findSome? fun c => f c v with
   | none => rfl
   | some l2 =>
    simp only [Option.map_some, Option.bind_some]
    cases X0p f ls vs with
    | none => rfl
    | some l3 => simp
 | [], _ :: _, _, _, h, _ => by simp at h
 | _ :: _, [], _, _, h, _ => by simp at h
theorem Z6l {f g : Q0 → Q1 → Option (List J7)} {s : Q0 → List Q0} : ∀ (ps : List Q0) (vs : List Q1), (∀ (j : Nat) (p : Q0) (v : Q1), ps[j]? = some p → vs[j]? = some v → g p v = (s p).findSome? fun c => f c v) → Y6 g ps vs = X0p f (ps.map s) vs
 | [], _, _ => rfl
 | _ :: _, [], _ => rfl
 | p :: ps, v :: vs, h => by
  simp only [Y6, List.map_cons, X0p]
  rw [h 0 p v rfl rfl, Z6l ps vs fun j p' v' h1 h2 => h (j + 1) p' v' (by simpa using h1) (by simpa using h2)]
  cases (s p).findSome? fun c => f c v with
  | none => rfl
  | some l =>
   simp only
   cases X0p f (ps.map s) vs <;> rfl
theorem X8i {w : List Q3} (hw : WW w) (hS : WS w) : ∀ (d e : Nat) (t : Q5) (p : Q0) (v : Q1), t ∈ tys w → Q0s w d t p = true → Q5x w e t v → (Z5 d p).findSome? (fun q => X4 d q v) = X4 d p v := by
 intro d
 induction d with
 | zero => intro e t p v _ h; simp [Q0s] at h
 | succ d ih =>
  intro e t p v ht g hv
  have hn := Q0j g
  obtain ⟨ho, hl⟩ := Q17 hn
  by_cases h5 : p.op = 5
  ·obtain ⟨a, b, hab, hkt⟩ := kid0 h5 hl
   have ga := Q0o g (k := 0) (a := t) (q := a) (by rw [hkt]; rfl) (by rw [hab]; rfl)
   have gb := Q0o g (k := 1) (a := t) (q := b) (by rw [hkt]; rfl) (by rw [hab]; rfl)
   have e1 : Z5 (d + 1) p = Z5 d a ++ Z5 d b := by simp [Z5, h5, hab]
   rw [e1, List.findSome?_append]
   have mono : ∀ x, Q0s w d t x = true → (Z5 d x).findSome? (fun q => X4 (d + 1) q v) = X4 d x v := fun x gx => by
    rw [Z10 fun q hq => (Z2v d t q (Q7i d t x q gx hq)).2.2.2 v]
    exact ih e t x v ht gx hv
   rw [mono a ga, mono b gb]
   rw [X4, if_neg (by omega), if_neg (by omega), if_neg (by omega), if_pos h5, hab]
   simp only
   cases X4 d a v <;> simp
  ·have e1 : Z5 (d + 1) p = ((p.kids.map (Z5 d)).foldl tupD [[]]).map (Q5h p) := by simp [Z5, h5]
   rw [e1, X0o]
   by_cases h4 : p.op = 4
   ·have hc := Q8b ho h4
    have hd : t.data ≠ -1 := fun hd => by rw [hS.int t ht hd] at hc; cases hc
    have hm : ∀ ks, X4 (d + 1) (Q5h p ks) v = if p.ctor = v.ctor then Y6 (X4 d) ks v.kids else none := fun ks => by
     rw [X4, if_neg (by simp [Q5h]; omega), if_neg (by simp [Q5h]; omega), if_neg (by simp [Q5h]; omega), if_neg (by simpa [Q5h] using h5), if_neg (by simp [Q5h]; omega)]
     rfl
    have hm2 : X4 (d + 1) p v = if p.ctor = v.ctor then Y6 (X4 d) p.kids v.kids else none := by
     rw [X4, if_neg (by omega), if_neg (by omega), if_neg (by omega), if_neg h5, if_neg (by omega)]
    rw [Z10 fun ks _ => hm ks, hm2]
    by_cases hcv : p.ctor = v.ctor
    ·simp only [if_pos hcv]
     cases e with
     | zero => exact hv.elim
     | succ e =>
     rw [Q5x, if_neg hd] at hv
     obtain ⟨_, _, hvl, hvk⟩ := hv
     have hkt : Q00 w t p = Y7 w t v.ctor := by rw [Q00, if_pos h4, hcv]
     have hlen : (p.kids.map (Z5 d)).length = v.kids.length := by rw [List.length_map, hl, hkt, hvl]
     have := X1m (f := X4 d) (p.kids.map (Z5 d)) v.kids [] [[]] hlen (by simp)
     rw [List.nil_append] at this
     rw [this]
     simp only [List.findSome?_cons, Y6, Option.bind_some]
     rw [Z6l (f := X4 d) (g := X4 d) (s := Z5 d) p.kids v.kids fun j q u hq hu => ?_]
     ·cases X0p (X4 d) (p.kids.map (Z5 d)) v.kids <;> simp
     ·have hj := (List.getElem?_eq_some_iff.1 hq).1
      obtain ⟨a, ha⟩ : ∃ a, (Y7 w t v.ctor)[j]? = some a := ⟨_, List.getElem?_eq_getElem (by rw [hkt] at hl; omega)⟩
      exact (ih e a q u (Q6x (hw.ty t ht) ht ho _ (by rw [hkt]; exact List.mem_of_getElem? ha)) (Q0o g (by rw [hkt]; exact ha) hq) (hvk j a u ha hu)).symm
    ·simp only [if_neg hcv]
     exact Z77 fun _ _ => rfl
   ·by_cases h6 : p.op = 6
    ·obtain ⟨a, hk, hkt⟩ := X4x h6 hl
     have ga := Q0o g (k := 0) (a := t) (q := a) (by rw [hkt]; rfl) (by rw [hk]; rfl)
     have e2 : ((p.kids.map (Z5 d)).foldl tupD [[]]) = (Z5 d a).map fun c => [c] := by
      rw [hk]; simp [tupD]
     rw [e2, X0o]
     have hm : ∀ c, X4 (d + 1) (Q5h p [c]) v = (X4 d c v).map (fun l => ⟨p.var, v⟩ :: l) := fun c => by
      rw [X4, if_neg (by simp [Q5h]; omega), if_neg (by simp [Q5h]; omega), if_neg (by simp [Q5h]; omega), if_neg (by simp [Q5h]; omega), if_pos (by simpa [Q5h] using h6)]
      rfl
     rw [Z10 fun c _ => hm c, X3b, ih e t a v ht ga hv]
     rw [X4, if_neg (by omega), if_neg (by omega), if_neg (by omega), if_neg h5, if_pos h6, hk]
    ·have hk : p.kids = [] := by
      rw [Q00, if_neg h4, if_neg h5, if_neg h6] at hl
      exact List.eq_nil_of_length_eq_zero hl
     rw [hk]
     have : Q5h p [] = p := by rw [← hk]; cases p; rfl
     simp only [List.map_nil, List.foldl_nil, List.findSome?_cons, this]
     cases X4 (d + 1) p v <;> rfl
theorem X4f {w : List Q3} {t : Q5} {path : List Int} {v : Q1} : ∀ (d : Nat) (p : Q0), asOk d p → Q0s w 12 t p = true → X4 12 p v = (X4 12 (Q1q d p path).2 v).map (((Q1q d p path).1.map fun b => J7.mk b.var v) ++ ·) := by
 intro d
 induction d with
 | zero => intro p h; exact h.elim
 | succ d ih =>
  intro p h g
  rw [Q2d]
  by_cases h6 : p.op = 6
  ·obtain ⟨q, hq, hd⟩ := h h6
   have ga : Q0s w 11 t q = true := Q0o g (k := 0) (a := t) (by rw [Q00, if_neg (by omega), if_neg (by omega), if_pos h6]; rfl) (by rw [hq]; rfl)
   rw [if_pos h6, hq]
   simp only [List.headD_cons]
   have e1 : X4 12 p v = (X4 12 q v).map (fun l => ⟨p.var, v⟩ :: l) := by
    rw [(Z2v 11 t q ga).2.2.2 v, X4, if_neg (by omega), if_neg (by omega), if_neg (by omega), if_neg (by omega), if_pos h6, hq]
   rw [e1, ih q hd (Q4s 11 t q ga)]
   cases X4 12 (Q1q d q path).2 v <;> simp
  ·rw [if_neg h6]
   by_cases h2 : p.op = 2
   ·rw [if_pos h2]
    have e1 : X4 12 p v = some [⟨p.var, v⟩] := by rw [X4, if_neg (by omega), if_pos h2]
    have e2 : X4 12 anyP v = some [] := X3u 11 v
    rw [e1]
    simp only
    rw [e2]
    rfl
   ·rw [if_neg h2]
    simp only [List.map_nil, List.nil_append]
    cases X4 12 p v <;> rfl
theorem W8r {w : List Q3} {t : Q5} {p : Q0} (path : List Int) (v : Q1) (g : Q0s w 12 t p = true) : X4 12 p v = (X4 12 (Q5w p path).2 v).map (((Q5w p path).1.map fun b => J7.mk b.var v) ++ ·) :=
 X4f 12 p (Z6t 12 t p g) g
end Go.Proofs.YtbdkbdafhlcilaaGreat
namespace Go.Proofs.YtbdkbdafhlcilaaGreat
open Go Go.RowKit
theorem X9f {w : List Q3} {e : Nat} {t : Q5} {v : Q1} (h : Q5x w e t v) (hd : t.data ≠ -1) : ∃ e', e = e' + 1 ∧ v.ctor ∈ X1 w t ∧ v.kids.length = (Y7 w t v.ctor).length ∧ ∀ (j : Nat) (a : Q5) (x : Q1), (Y7 w t v.ctor)[j]? = some a → v.kids[j]? = some x → Q5x w e' a x := by
 cases e with
 | zero => exact h.elim
 | succ e =>
  simp only [Q5x, if_neg hd] at h
  exact ⟨e, rfl, h.2.1, h.2.2.1, h.2.2.2⟩
theorem X9g {α : Type} {l : List α} {n j : Nat} (h : l.length = n) (hj : j < n) : ∃ x, l[j]? = some x := ⟨l[j]'(by omega), by simp⟩
end Go.Proofs.YtbdkbdafhlcilaaGreat
namespace Go.Proofs.YtbdkbdafhlcilaaGreat
open Go Go.RowKit
def V1k (w : List Q3) (t : Q5) : Bool :=
 (decide (depP w t ≠ 0) || (X1 w t).all (fun k => (Y7 w t k).any (fun a => decide (depP w a = 0)))) && decide ((X1 w t).Nodup)
def chkE (w : List Q3) : Bool := (tys w).all (V1k w)
theorem W07 : Q1c.all chkE = true := by kernel_rfl
structure WE (w : List Q3) : Prop where
 e0 : ∀ t ∈ tys w, depP w t = 0 → ∀ k ∈ X1 w t, ∃ a ∈ Y7 w t k, depP w a = 0
 nd : ∀ t ∈ tys w, (X1 w t).Nodup
theorem we {w : List Q3} (h : w ∈ Q1c) : WE w := by
 have h := List.all_eq_true.1 W07 w h
 simp only [chkE, List.all_eq_true] at h
 refine ⟨fun t ht h0 k hk => ?_, fun t ht => ?_⟩
 ·have := h t ht
  simp only [V1k, Bool.and_eq_true, Bool.or_eq_true, decide_eq_true_eq, List.all_eq_true, List.any_eq_true] at this
  rcases this.1 with h1 | h1
  ·exact absurd h0 h1
  ·exact h1 k hk
 ·have := h t ht
  simp only [V1k, Bool.and_eq_true, decide_eq_true_eq] at this
  exact this.2
theorem X7d {w : List Q3} (hw : WW w) (he : WE w) : ∀ (e : Nat) (t : Q5) (v : Q1), t ∈ tys w → Q5x w e t v → depP w t ≠ 0
 | 0, _, _, _, h => h.elim
 | e + 1, t, v, ht, h => fun h0 => by
  by_cases hd : t.data = -1
  ·have := ((hw.ty t ht).ti hd).2; omega
  ·obtain ⟨e', e1, g1, g2, g3⟩ := X9f h hd
   cases e1
   obtain ⟨a, ha, ha0⟩ := he.e0 t ht h0 _ g1
   obtain ⟨j, hj⟩ := List.mem_iff_getElem?.1 ha
   obtain ⟨x, hx⟩ := X9g g2 (List.getElem?_eq_some_iff.1 hj).1
   exact X7d hw he e a x ((hw.ty t ht).at_ _ g1 a ha) (g3 j a x hj hx) ha0
end Go.Proofs.YtbdkbdafhlcilaaGreat
namespace Go.Proofs.YtbdkbdafhlcilaaGreat
open Go Go.RowKit
def Q6j : Q1 → List Int → Option Q1
 | v, [] => some v
 | v, i :: path => (idx v.kids i).bind fun u => Q6j u path
theorem Z96 : ∀ (path : List Int) (v : Q1) (i : Int), Q6j v (path ++ [i]) = (Q6j v path).bind fun u => idx u.kids i
 | [], v, i => by
  simp only [List.nil_append, Q6j, Option.bind_some]
  cases idx v.kids i <;> rfl
 | j :: path, v, i => by
  simp only [List.cons_append, Q6j]
  cases idx v.kids j with
  | none => rfl
  | some u => simp only [Option.bind_some]; exact Z96 path u i
def Q1k : List Q2 → Q1 → Option (List J7)
 | [], _ => some []
 | b :: l, v => (Q6j v b.path).bind fun u => (Q1k l v).map (J7.mk b.var u :: ·)
theorem Q9q : ∀ (a b : List Q2) (v : Q1), Q1k (a ++ b) v = (Q1k a v).bind fun l => (Q1k b v).map (l ++ ·)
 | [], b, v => by
  simp only [List.nil_append, Q1k, Option.bind_some]
  cases Q1k b v <;> rfl
 | x :: a, b, v => by
  simp only [List.cons_append, Q1k]
  cases Q6j v x.path with
  | none => rfl
  | some u =>
   simp only [Option.bind_some]
   rw [Q9q a b v]
   cases Q1k a v with
   | none => rfl
   | some l =>
    simp only [Option.bind_some, Option.map_some]
    cases Q1k b v <;> rfl
theorem X5z {v : Q1} {a b : List Q2} (h : a.Perm b) : ∀ {l : List J7}, Q1k a v = some l → ∃ l', Q1k b v = some l' ∧ l.Perm l' := by
 induction h with
 | nil => intro l h; exact ⟨l, h, .refl _⟩
 | cons x _ ih =>
  intro l h
  simp only [Q1k] at h ⊢
  cases hx : Q6j v x.path with
  | none => rw [hx] at h; simp at h
  | some u =>
   rw [hx] at h
   simp only [Option.bind_some, Option.map_eq_some_iff] at h ⊢
   obtain ⟨m, hm, rfl⟩ := h
   obtain ⟨m', h1, h2⟩ := ih hm
   exact ⟨_, ⟨m', h1, rfl⟩, h2.cons _⟩
 | swap x y l0 =>
  intro l h
  simp only [Q1k] at h ⊢
  cases hx : Q6j v x.path with
  | none => rw [hx] at h; cases hy : Q6j v y.path <;> rw [hy] at h <;> simp at h
  | some u =>
   rw [hx] at h
   cases hy : Q6j v y.path with
   | none => rw [hy] at h; simp at h
   | some u2 =>
    rw [hy] at h
    simp only [Option.bind_some, Option.map_map, Option.map_eq_some_iff, Function.comp] at h ⊢
    obtain ⟨m, hm, rfl⟩ := h
    exact ⟨_, ⟨m, hm, rfl⟩, .swap _ _ _⟩
 | trans _ _ ih1 ih2 =>
  intro l h
  obtain ⟨m, h1, h2⟩ := ih1 h
  obtain ⟨k, h3, h4⟩ := ih2 h1
  exact ⟨k, h3, h2.trans h4⟩
theorem Z21 {v : Q1} : ∀ {a : List Q2} {l : List J7}, Q1k a v = some l → l.map (·.var) = a.map (·.var)
 | [], l, h => by simp only [Q1k, Option.some.injEq] at h; subst h; rfl
 | b :: a, l, h => by
  simp only [Q1k] at h
  cases hx : Q6j v b.path with
  | none => rw [hx] at h; simp at h
  | some u =>
   rw [hx] at h
   simp only [Option.bind_some, Option.map_eq_some_iff] at h
   obtain ⟨m, hm, rfl⟩ := h
   simp [Z21 hm]
theorem Q9p {v u : Q1} {path : List Int} (h : Q6j v path = some u) : ∀ {l : List Q2}, (∀ b ∈ l, b.path = path) → Q1k l v = some (l.map fun b => J7.mk b.var u)
 | [], _ => rfl
 | b :: l, hl => by
  simp only [Q1k]
  rw [hl b (by simp), h, Q9p h fun x hx => hl x (by simp [hx])]
  rfl
def rowL (r : Grow) (us : List Q1) : Option (List J7) := Y6 (X4 12) r.pats us
def rowB (r : Grow) (v : Q1) (us : List Q1) : Option (List J7) := (Q1k r.binds v).bind fun l => (rowL r us).map (l ++ ·)
def hitR (us : List Q1) (r : Grow) : Bool := (rowL r us).isSome
inductive Z3j (lst : List Q6) (v : Q1) (us : List Q1) : List Grow → Int × List J7 → Prop
 | none {rows : List Grow} : rows.find? (hitR us) = none → Z3j lst v us rows (-1, [])
 | take {rows : List Grow} {r : Grow} {l : List J7} {c : Q6} : rows.find? (hitR us) = some r → rowB r v us = some l → lst[r.clause.toNat]? = some c → Q3w c.guard l = true → Z3j lst v us rows (r.clause, Z3s l)
 | skip {rows : List Grow} {r : Grow} {l : List J7} {c : Q6} {x : Int × List J7} : rows.find? (hitR us) = some r → rowB r v us = some l → lst[r.clause.toNat]? = some c → Q3w c.guard l = false →
   Z3j lst v us (Q3l rows r.clause) x → Z3j lst v us rows x
structure W4a (w : List Q3) (v : Q1) (cols : List Z6) (us : List Q1) : Prop where
 len : us.length = cols.length
 at_ : ∀ (j : Nat) (c : Z6) (u : Q1), cols[j]? = some c → us[j]? = some u → Q6j v c.path = some u ∧ Q5x w 10 c.t u
def V3 (b : Z0) (u : Q1) : Bool := decide (b.ctor = u.ctor) && (decide (b.ctor ≠ -1) || (decide (b.n ≤ u.n) && decide (u.n ≤ b.m)))
def runT : Nat → Z9 → List Q6 → Q1 → Option (Int × List J7 × Nat)
 | 0, _, _, _ => none
 | d + 1, t, lst, v =>
  if t.op = 2 then (Q6j v t.path).bind fun u => match t.branches.find? (fun b => V3 b u) with
   | none => some (-1, [], 1)
   | some b => (runT d b.tree lst v).map fun r => (r.1, r.2.1, r.2.2 + 1)
  else if t.op = 1 then (idx lst t.clause).bind fun c => (Q1k t.binds v).bind fun l => if Q3w c.guard l = true then some (t.clause, l, 0) else match t.else_ with
   | el :: _ => runT d el lst v
   | [] => none
  else some (-1, [], 0)
theorem Z1z {cut : Int → Bool} : ∀ (m : Nat) (n fr : Int), fr < n → (∀ c, fr < c → c < n → cut c = false) → ∀ b ∈ Z0l cut m n fr, b.n ≤ b.m ∧ fr ≤ b.n ∧ ∀ c, b.n < c → c ≤ b.m → cut c = false
 | 0, _, _, _, _, b, h => by simp [Z0l] at h
 | m + 1, n, fr, h1, h2, b, h => by
  unfold Z0l at h
  split at h
  ·rcases List.mem_cons.1 h with rfl | h
   ·exact ⟨by simp only; omega, by simp only; omega, fun c hc hc' => h2 c hc (by simp only at hc'; omega)⟩
   ·obtain ⟨g1, g2, g3⟩ := Z1z m (n + 1) n (by omega) (fun c hc hc' => by omega) b h
    exact ⟨g1, by omega, g3⟩
  ·rename_i hc
   exact Z1z m (n + 1) fr (by omega) (fun c hc1 hc2 => by
    by_cases hcn : c = n
    ·rw [hcn]; simpa using hc
    ·exact h2 c hc1 (by omega)) b h
theorem Z20 {cut : Int → Bool} : ∀ (m : Nat) (n fr : Int), fr < n → cut (n + m - 1) = true → 1 ≤ m → ∀ x, fr ≤ x → x < n + m - 1 → ∃ b ∈ Z0l cut m n fr, b.n ≤ x ∧ x ≤ b.m
 | 0, _, _, _, _, h, _, _, _ => by omega
 | m + 1, n, fr, h1, hc, _, x, hx1, hx2 => by
  unfold Z0l
  split
  ·by_cases hxn : x < n
   ·exact ⟨⟨-1, fr, n - 1, zT⟩, by simp, by simp only; omega, by simp only; omega⟩
   ·have hm : 1 ≤ m := by omega
    obtain ⟨b, hb, g⟩ := Z20 m (n + 1) n (by omega) (by rw [← hc]; congr 1; omega) hm x (by omega) (by omega)
    exact ⟨b, by simp [hb], g⟩
  ·rename_i hcn
   have hm : 1 ≤ m := by
    rcases Nat.eq_zero_or_pos m with rfl | h
    ·simp only [Nat.zero_add, Int.natCast_one] at hc
     rw [show n + 1 - 1 = n by omega] at hc
     exact absurd hc hcn
    ·exact h
   exact Z20 m (n + 1) fr (by omega) (by rw [← hc]; congr 1; omega) hm x hx1 (by omega)
def V1j (w : List Q3) : Bool := (tys w).all fun t => decide (t.data = -1) || (X1 w t).all fun c => decide (Z1r w t c = (Y7 w t c).all fun a => decide (depP w a ≠ 0))
theorem W89 : Q1c.all V1j = true := by kernel_rfl
theorem V0m {w : List Q3} (h : w ∈ Q1c) {t : Q5} (ht : t ∈ tys w) (hd : t.data ≠ -1) {c : Int} (hc : c ∈ X1 w t) : Z1r w t c = (Y7 w t c).all fun a => decide (depP w a ≠ 0) := by
 have h1 := List.all_eq_true.1 W89 w h
 have h2 := List.all_eq_true.1 h1 t ht
 simp only [Bool.or_eq_true, decide_eq_true_eq, List.all_eq_true] at h2
 rcases h2 with h2 | h2
 ·exact absurd h2 hd
 ·exact h2 c hc
theorem W3y {w : List Q3} (hww : w ∈ Q1c) {t : Q5} (ht : t ∈ tys w) {e : Nat} {u : Q1} (hu : Q5x w e t u) (rows : List Grow) (k : Nat) : ∃ b ∈ brsD w rows t k, V3 b u = true := by
 cases e with
 | zero => exact hu.elim
 | succ e =>
 have hw := ww hww
 unfold brsD
 rw [Q5x] at hu
 split
 ·rename_i hd
  rw [if_pos hd] at hu
  obtain ⟨h1, h2, h3, _⟩ := hu
  obtain ⟨b, hb, h4, h5⟩ := Z20 (cut := cutB rows k) 10 1 0 (by omega) (by simp [cutB]) (by omega) u.n h2 (by omega)
  refine ⟨b, hb, ?_⟩
  have hc := Q8w _ _ _ _ b hb
  simp [V3, hc, h1, h4, h5]
 ·rename_i hd
  rw [if_neg hd] at hu
  obtain ⟨_, h2, h3, h4⟩ := hu
  refine ⟨⟨u.ctor, 0, 0, zT⟩, List.mem_map.2 ⟨u.ctor, List.mem_filter.2 ⟨h2, ?_⟩, rfl⟩, ?_⟩
  ·rw [V0m hww ht hd h2, List.all_eq_true]
   intro a ha
   obtain ⟨j, hj⟩ := List.mem_iff_getElem?.1 ha
   have hjl := (List.getElem?_eq_some_iff.1 hj).1
   have hx : u.kids[j]? = some (u.kids[j]'(by omega)) := by simp
   simpa using X7d hw (we hww) e a _ ((hw.ty t ht).at_ _ h2 a ha) (h4 j a _ hj hx)
  ·have := (wl hww).pos t ht hd _ h2
   simp [V3, this]
theorem Z9e {w : List Q3} {t : Q5} {rows : List Grow} {k : Nat} {b : Z0} (hb : b ∈ brsD w rows t k) {r : Grow} (hr : r ∈ rows) (hp : PatC w t (W0 r k)) {u : Q1} {e : Nat} (hu : Q5x w e t u) (hf : V3 b u = true) (d : Nat) :
  Q4j (W0 r k) b = false → X4 (d + 1) (W0 r k) u = none := by
 intro hfit
 simp only [V3, Bool.and_eq_true, Bool.or_eq_true, decide_eq_true_eq] at hf
 rcases hp.2.2 with h1 | h3 | h4
 ·simp [Q4j, h1] at hfit
 ·rw [X4, if_neg (by omega), if_neg (by omega), if_pos h3]
  rw [Q4j, if_neg (by omega), if_pos h3] at hfit
  rcases Z0v (Q0j hp.1) with h | h | h | h | h | h <;> try omega
  obtain ⟨_, hd, g0, g1, g2⟩ := h
  refine if_neg fun hin => ?_
  unfold brsD at hb
  rw [if_pos hd] at hb
  obtain ⟨q1, q2, q3⟩ := Z1z 10 1 0 (by omega) (fun c h1 h2 => by omega) b hb
  have hc := Q8w _ _ _ _ b hb
  rcases hf.2 with h | h
  ·exact absurd hc h
  simp only [Bool.and_eq_false_iff, decide_eq_false_iff_not] at hfit
  have hcut : ∀ n, (n = (W0 r k).n ∨ n = (W0 r k).m + 1) → cutB rows k n = true := fun n hn => by
   simp only [cutB, Bool.or_eq_true, decide_eq_true_eq]
   right
   unfold endB
   rw [List.any_eq_true]
   refine ⟨r, hr, ?_⟩
   simp only [h3, decide_true, Bool.true_and, Bool.or_eq_true, decide_eq_true_eq]
   omega
  rcases hfit with h5 | h5
  ·have := q3 (W0 r k).n (by omega) (by omega)
   rw [hcut _ (.inl rfl)] at this
   cases this
  ·have := q3 ((W0 r k).m + 1) (by omega) (by omega)
   rw [hcut _ (.inr rfl)] at this
   cases this
 ·rw [X4, if_neg (by omega), if_neg (by omega), if_neg (by omega), if_neg (by omega), if_neg (by omega)]
  rw [Q4j, if_neg (by omega), if_neg (by omega), decide_eq_false_iff_not] at hfit
  exact if_neg fun h => hfit (by omega)
end Go.Proofs.YtbdkbdafhlcilaaGreat
namespace Go.Proofs.YtbdkbdafhlcilaaGreat
open Go Go.RowKit
theorem X7e {w : List Q3} : ∀ (d e : Nat) (t : Q5) (v : Q1), d ≤ e → Q5x w d t v → Q5x w e t v := by
 intro d
 induction d with
 | zero => intro e t v _ h; exact h.elim
 | succ d ih =>
  intro e t v he h
  obtain ⟨e, rfl⟩ : ∃ k, e = k + 1 := ⟨e - 1, by omega⟩
  rw [Q5x] at h ⊢
  split
  ·rename_i hd; rw [if_pos hd] at h; exact h
  ·rename_i hd
   rw [if_neg hd] at h
   exact ⟨h.1, h.2.1, h.2.2.1, fun j a x ha hx => ih e a x (by omega) (h.2.2.2 j a x ha hx)⟩
end Go.Proofs.YtbdkbdafhlcilaaGreat
namespace Go.Proofs.YtbdkbdafhlcilaaGreat
open Go Go.RowKit
theorem X1f {w : List Q3} {v : Q1} : ∀ (ps : List Q0) (args : List Z6) (us : List Q1), ps.length = args.length → us.length = args.length →
  (∀ (j : Nat) (p : Q0) (c : Z6) (u : Q1), ps[j]? = some p → args[j]? = some c → us[j]? = some u → PatO w c.t p ∧ Q6j v c.path = some u) →
  ∃ zb, Q1k ((zipS ps args).flatMap (·.1)) v = some zb ∧ ((Y6 (X4 12) ps us = none ∧ Y6 (X4 12) ((zipS ps args).map (·.2)) us = none) ∨ ∃ p z, Y6 (X4 12) ps us = some p ∧ Y6 (X4 12) ((zipS ps args).map (·.2)) us = some z ∧ p.Perm (zb ++ z))
 | [], [], [], _, _, _ => ⟨[], rfl, .inr ⟨[], [], rfl, rfl, by simp⟩⟩
 | p :: ps, c :: args, u :: us, h1, h2, h => by
  obtain ⟨hp, hu⟩ := h 0 p c u rfl rfl rfl
  obtain ⟨zb, e1, e2⟩ := X1f (w := w) (v := v) ps args us (by simpa using h1) (by simpa using h2) fun j p c u a1 a2 a3 => h (j + 1) p c u (by simpa using a1) (by simpa using a2) (by simpa using a3)
  have hz : zipS (p :: ps) (c :: args) = Q5w p c.path :: zipS ps args := rfl
  have hs := Z5y c.path hp
  have hm := W8r c.path u hp.1
  rw [hz]
  simp only [List.flatMap_cons, List.map_cons]
  rw [Q9q, Q9p hu hs.2.2, e1]
  refine ⟨_, rfl, ?_⟩
  simp only [Y6]
  rw [hm]
  cases X4 12 (Q5w p c.path).2 u with
  | none => exact .inl ⟨rfl, rfl⟩
  | some l1 =>
   simp only [Option.map_some]
   rcases e2 with ⟨e3, e4⟩ | ⟨q, z, e3, e4, e5⟩
   ·rw [e3, e4]; exact .inl ⟨rfl, rfl⟩
   ·rw [e3, e4]
    refine .inr ⟨_, _, rfl, rfl, ?_⟩
    rw [List.append_assoc, List.append_assoc]
    refine List.Perm.append_left _ ?_
    refine (List.Perm.append_left l1 e5).trans ?_
    rw [← List.append_assoc, ← List.append_assoc]
    exact List.Perm.append_right _ List.perm_append_comm
 | [], [], _ :: _, _, h, _ => by simp at h
 | [], _ :: _, _, h, _, _ => by simp at h
 | _ :: _, [], _, h, _, _ => by simp at h
 | _ :: _, _ :: _, [], _, h, _ => by simp at h
def X05 (b : Z0) (u : Q1) : List Q1 := if b.ctor = -1 then [] else u.kids
def usD (us : List Q1) (k : Nat) (b : Z0) (u : Q1) : List Q1 := us.take k ++ X05 b u ++ us.drop (k + 1)
theorem Z6o {w : List Q3} {col : Z6} {b : Z0} (hB : BrC w col.t b) {u : Q1} {e : Nat} (hu : Q5x w e col.t u) (hf : V3 b u = true) : (X05 b u).length = (Y5 w col b).length := by
 rw [Q6d]
 unfold X05
 split
 ·rfl
 ·rename_i hc
  have hd : col.t.data ≠ -1 := fun hd => hc (hB.int hd)
  simp only [V3, Bool.and_eq_true, decide_eq_true_eq] at hf
  cases e with
  | zero => exact hu.elim
  | succ e =>
   rw [Q5x, if_neg hd] at hu
   rw [hu.2.2.1, hf.1]
theorem X9d {w : List Q3} (hS : WS w) {col : Z6} (ht : col.t ∈ tys w) {b : Z0} (hB : BrC w col.t b) {p : Q0} (hp : PatC w col.t p) {u : Q1} {e : Nat} (hu : Q5x w e col.t u) (hf : V3 b u = true) (hfit : Q4j p b = true) :
  X4 12 p u = Y6 (X4 12) (Q2o p (Y5 w col b)) (X05 b u) := by
 have hlen := Z6o hB hu hf
 have hn := Q0j hp.1
 rcases hp.2.2 with h1 | h3 | h4
 ·rw [Q2o, if_pos h1, X4, if_pos h1]
  rw [Z3x (d := 11) (fun q hq => by obtain ⟨_, _, rfl⟩ := List.mem_map.1 hq; rfl) (by rw [List.length_map, hlen])]
 ·rw [Q2o, if_neg (by omega)]
  have hk := Z1q hn (by omega) (by omega) (by omega)
  rcases Z0v hn with h | h | h | h | h | h <;> try omega
  have hbi := hB.int h.2.1
  simp only [V3, Bool.and_eq_true, Bool.or_eq_true, decide_eq_true_eq] at hf
  rw [Q4j, if_neg (by omega), if_pos h3] at hfit
  simp only [Bool.and_eq_true, decide_eq_true_eq] at hfit
  rw [hk, X4, if_neg (by omega), if_neg (by omega), if_pos h3]
  rcases hf.2 with h5 | h5
  ·exact absurd hbi h5
  rw [if_pos (by omega)]
  rfl
 ·rw [Q2o, if_neg (by omega)]
  have hct := Q8b (Q17 hn).1 h4
  have hd : col.t.data ≠ -1 := fun hd => by rw [hS.int _ ht hd] at hct; cases hct
  have hb := (hB.ctor hd).2
  rw [Q4j, if_neg (by omega), if_neg (by omega), decide_eq_true_eq] at hfit
  simp only [V3, Bool.and_eq_true, decide_eq_true_eq] at hf
  rw [X4, if_neg (by omega), if_neg (by omega), if_neg (by omega), if_neg (by omega), if_neg (by omega), if_pos (by omega), X05, if_neg hb]
  refine Z0c _ _ fun j q x hq _ => ?_
  have hj := (List.getElem?_eq_some_iff.1 hq).1
  have ha : (Q00 w col.t p)[j]? = some ((Q00 w col.t p)[j]'(by rw [← (Q17 hn).2]; exact hj)) := by simp
  exact ((Z2v 11 _ q (Q0o hp.1 ha hq)).2.2.2 x).symm
theorem Z9h {w : List Q3} {v : Q1} {cols : List Z6} {us : List Q1} (h : W4a w v cols us) {k : Nat} {col : Z6} (hk : cols[k]? = some col) {u : Q1} (hu : us[k]? = some u) {b : Z0} (hB : BrC w col.t b) (hf : V3 b u = true) :
  W4a w v (Q6o cols k (Y5 w col b)) (usD us k b u) := by
 obtain ⟨hp, hg⟩ := h.at_ k col u hk hu
 have hkl := (List.getElem?_eq_some_iff.1 hk).1
 have hl := Z6o hB hg hf
 have hlen := h.len
 refine ⟨by simp only [Q6o, usD, List.length_append, List.length_take, List.length_drop, hl]; omega, fun j c x hc hx => ?_⟩
 unfold Q6o at hc
 unfold usD at hx
 by_cases h1 : j < k
 ·rw [List.append_assoc, List.getElem?_append_left (by rw [List.length_take]; omega), List.getElem?_take_of_lt h1] at hc hx
  exact h.at_ j c x hc hx
 ·by_cases h2 : j < k + (Y5 w col b).length
  ·rw [List.append_assoc, List.getElem?_append_right (by rw [List.length_take]; omega), List.length_take, List.getElem?_append_left (by omega)] at hc hx
   rw [show min k us.length = k by omega] at hx
   rw [show min k cols.length = k by omega] at hc
   generalize hi : j - k = i at hc hx
   by_cases hc1 : b.ctor = -1
   ·rw [Y5, if_pos hc1] at hc; simp at hc
   have hd : col.t.data ≠ -1 := fun hd => hc1 (hB.int hd)
   have hil := (List.getElem?_eq_some_iff.1 hc).1
   rw [Q6d, if_neg hc1] at hil
   have hti : (Y7 w col.t b.ctor)[i]? = some ((Y7 w col.t b.ctor)[i]) := List.getElem?_eq_getElem hil
   rw [Z3h hc1 hti] at hc
   cases hc
   rw [X05, if_neg hc1] at hx
   simp only [V3, Bool.and_eq_true, decide_eq_true_eq] at hf
   rw [Q5x, if_neg hd] at hg
   refine ⟨?_, X7e 9 10 _ _ (by omega) (hg.2.2.2 i _ x (by rw [← hf.1]; exact hti) hx)⟩
   rw [Z96, hp]
   simp only [Option.bind_some]
   exact Q3y hx
  ·have hcl : (cols.take k ++ Y5 w col b).length = k + (Y5 w col b).length := by rw [List.length_append, List.length_take]; omega
   have hul : (us.take k ++ X05 b u).length = k + (Y5 w col b).length := by rw [List.length_append, List.length_take, hl]; omega
   rw [List.getElem?_append_right (by omega), hcl, List.getElem?_drop] at hc
   rw [List.getElem?_append_right (by omega), hul, List.getElem?_drop] at hx
   exact h.at_ _ c x hc hx
theorem Z2w {α : Type} {l : List α} {k : Nat} {x : α} (h : l[k]? = some x) : l = l.take k ++ ([x] ++ l.drop (k + 1)) := by
 have := Z1y h
 rw [List.singleton_append, ← this, List.take_append_drop]
theorem Z2z {w : List Q3} (hS : WS w) {lst : List Q6} {v : Q1} {cols : List Z6} {us : List Q1} (h : W4a w v cols us) {k : Nat} {col : Z6} (hk : cols[k]? = some col) (ht : col.t ∈ tys w) {u : Q1} (hu : us[k]? = some u) {b : Z0} (hB : BrC w col.t b) (hf : V3 b u = true)
  {r : Grow} (hr : RowC w lst cols r) {rb : List J7} (hrb : Q1k r.binds v = some rb) (hfit : Q4j (W0 r k) b = true) :
  (∃ kb, Q1k (Q78 r k (Y5 w col b)).binds v = some kb) ∧ ((rowB r v us = none ∧ rowL r us = none ∧ rowL (Q78 r k (Y5 w col b)) (usD us k b u) = none) ∨ ∃ x y, rowB r v us = some x ∧ (rowL r us).isSome = true ∧ rowB (Q78 r k (Y5 w col b)) v (usD us k b u) = some y ∧ (rowL (Q78 r k (Y5 w col b)) (usD us k b u)).isSome = true ∧ x.Perm y) := by
 obtain ⟨hkl, hp⟩ := hr.at hk
 obtain ⟨hpv, hg⟩ := h.at_ k col u hk hu
 have hul := (List.getElem?_eq_some_iff.1 hu).1
 have hlen := h.len
 have hrl := hr.len
 have hpk : r.pats[k]? = some (W0 r k) := by unfold W0; rw [List.getElem?_eq_getElem hkl]; rfl
 obtain ⟨c1, c2, _⟩ := W2b hS ht hp hB hfit rfl
 have hkU := Z6o hB hg hf
 have hnx := Z9h h hk hu hB hf
 obtain ⟨zb, e1, e2⟩ := X1f (w := w) (v := v) (Q2o (W0 r k) (Y5 w col b)) (Y5 w col b) (X05 b u) c1 hkU fun j p c x a1 a2 a3 => ⟨c2 j p c a1 a2, by
  have hjl := (List.getElem?_eq_some_iff.1 a2).1
  refine (hnx.at_ (k + j) c x ?_ ?_).1
  ·unfold Q6o
   rw [List.append_assoc, List.getElem?_append_right (by rw [List.length_take]; omega), List.length_take, List.getElem?_append_left (by omega), show k + j - min k cols.length = j by omega]
   exact a2
  ·unfold usD
   rw [List.append_assoc, List.getElem?_append_right (by rw [List.length_take]; omega), List.length_take, List.getElem?_append_left (by omega), show k + j - min k us.length = j by omega]
   exact a3⟩
 rw [← X9d hS ht hB hp hg hf hfit] at e2
 have hR : rowL r us = (Y6 (X4 12) (r.pats.take k) (us.take k)).bind fun a => ((X4 12 (W0 r k) u).bind fun p => (Y6 (X4 12) (r.pats.drop (k + 1)) (us.drop (k + 1))).map (p ++ ·)).map (a ++ ·) := by
  unfold rowL
  conv => lhs; rw [Z2w hpk, Z2w hu]
  rw [Q4u _ _ _ _ (by simp only [List.length_take]; omega)]
  congr 1
  funext a
  congr 1
  rw [Q4u _ _ _ _ (by simp)]
  simp only [Y6]
  cases X4 12 (W0 r k) u <;> simp
 have hK : rowL (Q78 r k (Y5 w col b)) (usD us k b u) = (Y6 (X4 12) (r.pats.take k) (us.take k)).bind fun a => ((Y6 (X4 12) ((zipS (Q2o (W0 r k) (Y5 w col b)) (Y5 w col b)).map (·.2)) (X05 b u)).bind fun p => (Y6 (X4 12) (r.pats.drop (k + 1)) (us.drop (k + 1))).map (p ++ ·)).map (a ++ ·) := by
  unfold rowL Q78 usD
  simp only
  rw [List.append_assoc, List.append_assoc, Q4u _ _ _ _ (by simp only [List.length_take]; omega)]
  congr 1
  funext a
  congr 1
  rw [Q4u _ _ _ _ (by simp only [List.length_map, zipS, List.length_zipWith]; omega)]
 have hKb : Q1k (Q78 r k (Y5 w col b)).binds v = some (rb ++ zb) := by
  unfold Q78
  simp only
  rw [Q9q, hrb, e1]
  rfl
 refine ⟨⟨_, hKb⟩, ?_⟩
 unfold rowB
 rw [hrb, hKb, hR, hK]
 simp only [Option.bind_some]
 cases Y6 (X4 12) (r.pats.take k) (us.take k) with
 | none => exact .inl ⟨rfl, rfl, rfl⟩
 | some a =>
 simp only [Option.bind_some]
 rcases e2 with ⟨e3, e4⟩ | ⟨p, z, e3, e4, e5⟩
 ·rw [e3, e4]; exact .inl ⟨rfl, rfl, rfl⟩
 ·rw [e3, e4]
  simp only [Option.bind_some]
  cases Y6 (X4 12) (r.pats.drop (k + 1)) (us.drop (k + 1)) with
  | none => exact .inl ⟨rfl, rfl, rfl⟩
  | some c =>
   refine .inr ⟨_, _, rfl, rfl, rfl, rfl, ?_⟩
   simp only [List.append_assoc]
   refine List.Perm.append_left _ ?_
   refine ((e5.append_right c).append_left a).trans ?_
   have h9 : (a ++ zb ++ (z ++ c)).Perm (zb ++ a ++ (z ++ c)) := List.Perm.append_right _ List.perm_append_comm
   simpa only [List.append_assoc] using h9
theorem X5i {α : Type} {l : List α} {f g : α → Bool} (h : ∀ x ∈ l, f x = g x) : l.find? f = l.find? g := by
 induction l with
 | nil => rfl
 | cons a l ih =>
  rw [List.find?_cons, List.find?_cons, h a (by simp), ih fun x hx => h x (by simp [hx])]
theorem X4s (rows : List Grow) (k : Nat) (b : Z0) (args : List Z6) (c : Int) : Q3l (Q56 rows k b args) c = Q56 (Q3l rows c) k b args := by
 unfold Q3l Q56
 rw [List.filter_map, List.filter_filter, List.filter_filter]
 congr 1
 refine List.filter_congr fun r _ => ?_
 simp only [Function.comp, Q78]
 exact Bool.and_comm _ _
def W8n (w : List Q3) (lst : List Q6) (cols : List Z6) (v : Q1) (rows : List Grow) : Prop := ∀ r ∈ rows, RowC w lst cols r ∧ ∃ l, Q1k r.binds v = some l
theorem W38 {w : List Q3} : ∀ (d : Nat) (t : Q5) (p : Q0), Q0s w d t p = true → Z8i d p → ∀ v l, X4 d p v = some l → l.map (·.var) = Q4i p := by
 intro d
 induction d with
 | zero => intro t p h; simp [Q0s] at h
 | succ d ih =>
  intro t p g hf v l hm
  have hn := Q0j g
  obtain ⟨ho, hl⟩ := Q17 hn
  have h5 := hf.1
  rw [Q92, Q6g]
  rw [X4] at hm
  by_cases h1 : p.op = 1
  ·rw [if_pos h1] at hm
   cases hm
   rw [Z1q hn (by omega) (by omega) (by omega), if_neg (by omega)]; rfl
  rw [if_neg h1] at hm
  by_cases h2 : p.op = 2
  ·rw [if_pos h2] at hm
   cases hm
   rw [Z1q hn (by omega) (by omega) (by omega), if_pos (.inl h2)]; rfl
  rw [if_neg h2] at hm
  by_cases h3 : p.op = 3
  ·rw [if_pos h3] at hm
   split at hm
   ·cases hm
    rw [Z1q hn (by omega) (by omega) (by omega), if_neg (by omega)]; rfl
   ·cases hm
  rw [if_neg h3, if_neg h5] at hm
  by_cases h6 : p.op = 6
  ·rw [if_pos h6] at hm
   obtain ⟨a, hk, hkt⟩ := X4x h6 hl
   have ga := Q0o g (k := 0) (a := t) (q := a) (by rw [hkt]; rfl) (by rw [hk]; rfl)
   rw [hk] at hm
   simp only [Option.map_eq_some_iff] at hm
   obtain ⟨m, hm, rfl⟩ := hm
   rw [if_pos (.inr h6), hk, List.map_cons, ih t a ga (hf.2 a (by rw [hk]; simp)) v m hm]
   simp
  rw [if_neg h6] at hm
  rw [if_neg (by omega), List.nil_append]
  split at hm
  ·have gen : ∀ (ts : List Q5) (ps : List Q0) (vs : List Q1) (l : List J7), ts.length = ps.length → (∀ x ∈ ts.zip ps, ∀ v l, X4 d x.2 v = some l → l.map (·.var) = Q4i x.2) → Y6 (X4 d) ps vs = some l → l.map (·.var) = ps.flatMap Q4i := by
    intro ts ps
    induction ps generalizing ts with
    | nil => intro vs l _ _ h; simp only [Y6] at h; cases h; rfl
    | cons q ps ihp =>
     intro vs l hl hx h
     cases ts with
     | nil => simp at hl
     | cons a ts =>
      cases vs with
      | nil => cases h
      | cons u vs =>
       simp only [Y6] at h
       cases hq : X4 d q u with
       | none => rw [hq] at h; cases h
       | some l1 =>
        rw [hq] at h
        simp only at h
        cases hps : Y6 (X4 d) ps vs with
        | none => rw [hps] at h; cases h
        | some l2 =>
         rw [hps] at h
         cases h
         rw [List.map_append, List.flatMap_cons, hx (a, q) (by simp) u l1 hq, ihp ts vs l2 (by simpa using hl) (fun x hxx => hx x (by simp [hxx])) hps]
   refine gen (Q00 w t p) p.kids v.kids l hl.symm (fun x hx v l h => ?_) hm
   obtain ⟨j, hj⟩ := List.mem_iff_getElem?.1 hx
   obtain ⟨e1, e2⟩ := List.getElem?_zip_eq_some.1 hj
   exact ih _ _ (Q0o g e1 e2) (hf.2 _ (List.mem_of_getElem? e2)) v l h
  ·cases hm
theorem Z6j {w : List Q3} : ∀ (ps : List Q0) (us : List Q1) (l : List J7), (∀ p ∈ ps, ∃ t, PatO w t p) → Y6 (X4 12) ps us = some l → l.map (·.var) = ps.flatMap Q4i
 | [], _, l, _, h => by simp only [Y6, Option.some.injEq] at h; subst h; rfl
 | _ :: _, [], _, _, h => by simp [Y6] at h
 | p :: ps, u :: us, l, hp, h => by
  simp only [Y6] at h
  cases hq : X4 12 p u with
  | none => rw [hq] at h; cases h
  | some l1 =>
   rw [hq] at h
   simp only at h
   cases hps : Y6 (X4 12) ps us with
   | none => rw [hps] at h; cases h
   | some l2 =>
    rw [hps] at h
    cases h
    obtain ⟨t, g, f⟩ := hp p (by simp)
    rw [List.map_append, List.flatMap_cons, W38 12 t p g f u l1 hq, Z6j ps us l2 (fun x hx => hp x (by simp [hx])) hps]
theorem Z1l {w : List Q3} {lst : List Q6} {cols : List Z6} {r : Grow} (h : RowC w lst cols r) {v : Q1} {us : List Q1} {l : List J7} (hl : rowB r v us = some l) : X67 l := by
 have hvars : l.map (·.var) = Z80 r := by
  unfold rowB at hl
  cases hb : Q1k r.binds v with
  | none => rw [hb] at hl; simp at hl
  | some l1 =>
   rw [hb] at hl
   simp only [Option.bind_some, Option.map_eq_some_iff] at hl
   obtain ⟨l2, h2, rfl⟩ := hl
   rw [List.map_append, Z21 hb, Z80]
   congr 1
   refine Z6j (w := w) r.pats us l2 (fun p hp => ?_) h2
   obtain ⟨j, hj⟩ := List.mem_iff_getElem?.1 hp
   have hjl := (List.getElem?_eq_some_iff.1 hj).1
   have hlen := h.len
   have hc : cols[j]? = some (cols[j]'(by omega)) := by simp
   have hx := h.pat _ (List.mem_of_getElem? (Q7n hc hj))
   exact ⟨_, hx.1, hx.2.1⟩
 have hn : (l.map (·.var)).Nodup := by rw [hvars]; exact h.nd
 have hr : ∀ b ∈ l, 0 ≤ b.var ∧ b.var ≤ 5 := fun b hb => h.rg b.var (by rw [← hvars]; exact List.mem_map_of_mem hb)
 refine ⟨hn, hr, ?_⟩
 have := Z6g 6 _ hn fun x hx => by
  obtain ⟨b, hb, rfl⟩ := List.mem_map.1 hx
  have := hr b hb
  omega
 simpa using this
theorem V0a {w : List Q3} (hS : WS w) {lst : List Q6} {v : Q1} {cols : List Z6} {us : List Q1} (h : W4a w v cols us) {k : Nat} {col : Z6} (hk : cols[k]? = some col) (ht : col.t ∈ tys w) {u : Q1} (hu : us[k]? = some u) {b : Z0} {rows0 : List Grow} (hb : b ∈ brsD w rows0 col.t k) (hB : BrC w col.t b) (hf : V3 b u = true) {RR : List Grow} {x : Int × List J7} (hx : Z3j lst v (usD us k b u) RR x) :
  ∀ rows : List Grow, (∀ r ∈ rows, r ∈ rows0) → W8n w lst cols v rows → RR = Q56 rows k b (Y5 w col b) → Z3j lst v us rows x := by
 have hfind : ∀ rows : List Grow, (∀ r ∈ rows, r ∈ rows0) → W8n w lst cols v rows → (Q56 rows k b (Y5 w col b)).find? (hitR (usD us k b u)) = (rows.find? (hitR us)).map fun r => Q78 r k (Y5 w col b) := fun rows h0 hR => by
  unfold Q56
  rw [List.find?_map, List.find?_filter]
  congr 1
  refine X5i fun r hr => ?_
  obtain ⟨hC, rb, hrb⟩ := hR r hr
  simp only [Function.comp]
  cases hfit : Q4j (W0 r k) b with
  | false =>
   have hn := Z9e hb (h0 r hr) (hC.at hk).2 (h.at_ k col u hk hu).2 hf 11 hfit
   have hkl := (hC.at hk).1
   have hpk : r.pats[k]? = some (W0 r k) := by unfold W0; rw [List.getElem?_eq_getElem hkl]; rfl
   have hrl := hC.len
   have hlen := h.len
   have : rowL r us = none := by
    unfold rowL
    rw [Z2w hpk, Z2w hu, Q4u _ _ _ _ (by simp only [List.length_take]; omega), List.singleton_append, List.singleton_append]
    cases Y6 (X4 12) (r.pats.take k) (us.take k) with
    | none => rfl
    | some a => simp only [Option.bind_some, Y6]; rw [hn]; rfl
   simp [hitR, this]
  | true =>
   obtain ⟨_, h2⟩ := Z2z hS h hk ht hu hB hf hC hrb hfit
   simp only [Bool.true_and, decide_eq_true_eq]
   rcases h2 with ⟨_, h3, h4⟩ | ⟨_, _, _, h3, _, h4, _⟩
   ·simp [hitR, h3, h4]
   ·simp [hitR, h3, h4]
 induction hx with
 | none hn =>
  intro rows h0 hR e
  subst e
  rw [hfind rows h0 hR, Option.map_eq_none_iff] at hn
  exact .none hn
 | take h1 h2 h3 h4 =>
  intro rows h0 hR e
  subst e
  rw [hfind rows h0 hR, Option.map_eq_some_iff] at h1
  obtain ⟨r, hr, rfl⟩ := h1
  have hm := List.mem_of_find?_eq_some hr
  obtain ⟨hC, rb, hrb⟩ := hR r hm
  have hfit : Q4j (W0 r k) b = true := by
   cases hfit : Q4j (W0 r k) b with
   | true => rfl
   | false =>
    have hn := Z9e hb (h0 r hm) (hC.at hk).2 (h.at_ k col u hk hu).2 hf 11 hfit
    exact absurd (List.find?_some hr) (by
     have := hfind [r] (fun x hx => by simp only [List.mem_singleton] at hx; rw [hx]; exact h0 r hm) (fun x hx => by simp only [List.mem_singleton] at hx; rw [hx]; exact hR r hm)
     simp only [Q56, List.filter_cons, hfit, Bool.false_eq_true, if_false, List.filter_nil, List.map_nil, List.find?_nil, List.find?_cons] at this
     intro hh
     rw [hh] at this
     simp at this)
  obtain ⟨_, h5⟩ := Z2z hS h hk ht hu hB hf hC hrb hfit
  rcases h5 with ⟨_, h6, h7⟩ | ⟨a, y, h6, _, h7, _, h8⟩
  ·exact absurd h2 (by unfold rowB; rw [h7]; intro hh; cases Q1k (Q78 r k (Y5 w col b)).binds v <;> simp at hh)
  ·rw [h7] at h2
   cases h2
   have hbo := Z1l hC h6
   rw [← Z1u hbo.nd h8] at h4
   rw [← W1g hbo h8]
   show Z3j lst v us rows (r.clause, Z3s a)
   exact .take hr h6 h3 h4
 | skip h1 h2 h3 h4 _ ih =>
  intro rows h0 hR e
  subst e
  rw [hfind rows h0 hR, Option.map_eq_some_iff] at h1
  obtain ⟨r, hr, rfl⟩ := h1
  have hm := List.mem_of_find?_eq_some hr
  obtain ⟨hC, rb, hrb⟩ := hR r hm
  have hfit : Q4j (W0 r k) b = true := by
   cases hfit : Q4j (W0 r k) b with
   | true => rfl
   | false =>
    exact absurd (List.find?_some hr) (by
     have := hfind [r] (fun x hx => by simp only [List.mem_singleton] at hx; rw [hx]; exact h0 r hm) (fun x hx => by simp only [List.mem_singleton] at hx; rw [hx]; exact hR r hm)
     simp only [Q56, List.filter_cons, hfit, Bool.false_eq_true, if_false, List.filter_nil, List.map_nil, List.find?_nil, List.find?_cons] at this
     intro hh
     rw [hh] at this
     simp at this)
  obtain ⟨_, h5⟩ := Z2z hS h hk ht hu hB hf hC hrb hfit
  rcases h5 with ⟨_, h6, h7⟩ | ⟨a, y, h6, _, h7, _, h8⟩
  ·exact absurd h2 (by unfold rowB; rw [h7]; intro hh; cases Q1k (Q78 r k (Y5 w col b)).binds v <;> simp at hh)
  ·rw [h7] at h2
   cases h2
   have hbo := Z1l hC h6
   rw [← Z1u hbo.nd h8] at h4
   refine .skip hr h6 h3 h4 (ih (Q3l rows r.clause) (fun x hx => h0 x (Z2t hx)) (fun x hx => hR x (Z2t hx)) ?_)
   exact X4s rows k b (Y5 w col b) r.clause
theorem X3s {P : Z0 → Z9 → Prop} {u : Q1} : ∀ {bs xs : List Z0}, brsR P bs xs → (∃ b ∈ bs, V3 b u = true) → ∃ x b, xs.find? (fun b => V3 b u) = some x ∧ b ∈ bs ∧ V3 b u = true ∧ P b x.tree
 | [], [], _, ⟨_, h, _⟩ => by cases h
 | [], _ :: _, e, _ => e.elim
 | _ :: _, [], e, _ => e.elim
 | b :: bs, x :: xs, ⟨⟨e1, e2, e3, e4⟩, e5⟩, h => by
  have hfx : V3 x u = V3 b u := by unfold V3; rw [e1, e2, e3]
  rw [List.find?_cons, hfx]
  cases hb : V3 b u with
  | true => exact ⟨x, b, rfl, by simp, hb, e4⟩
  | false =>
   obtain ⟨c, hc, hcf⟩ := h
   have hc2 : c ∈ bs := by
    rcases List.mem_cons.1 hc with rfl | hc
    ·rw [hb] at hcf; cases hcf
    ·exact hc
   obtain ⟨y, c', h1, h2, h3, h4⟩ := X3s e5 ⟨c, hc2, hcf⟩
   exact ⟨y, c', h1, by simp [h2], h3, h4⟩
theorem W5k {w : List Q3} (hww : w ∈ Q1c) {lst : List Q6} {pick : Int} {v : Q1} : ∀ (d : Nat) (t : Z9) (rows : List Grow) (cols : List Z6) (us : List Q1), Q9t w lst pick d t rows cols → W8n w lst cols v rows → ColC w cols d → W4a w v cols us →
  ∃ a bs k, runT d t lst v = some (a, bs, k) ∧ Z3j lst v us rows (a, bs) := by
 have hw := ww hww
 have hS := ws hww
 intro d
 induction d with
 | zero => intro t rows cols us h; exact h.elim
 | succ d ih =>
  intro t rows cols us h hR hC hV
  have hCd : ColC w cols d := ⟨hC.ty, fun c hc => by have := hC.path c hc; omega, by have := hC.len; omega⟩
  cases rows with
  | nil =>
   simp only [Q9t] at h
   subst h
   exact ⟨-1, [], 0, by simp [runT, zT], .none rfl⟩
  | cons r0 rest =>
   simp only [Q9t] at h
   obtain ⟨h0, rb, hrb⟩ := hR r0 (by simp)
   cases hp : Q9x w (r0 :: rest) cols pick with
   | none =>
    rw [hp] at h
    simp only at h
    obtain ⟨h1, h2, h3, h4, h5, cl, h6, h7⟩ := h
    have hall : ∀ q ∈ r0.pats, q = anyP := fun q hq => by
     obtain ⟨j, hj⟩ := List.mem_iff_getElem?.1 hq
     have hjl := (List.getElem?_eq_some_iff.1 hj).1
     have hlen := h0.len
     have hany : Q85 (r0 :: rest) j = true := Q8t.1 hp j (by omega)
     have this : (W0 r0 j).op = 1 := of_decide_eq_true hany
     have hq2 : W0 r0 j = q := by unfold W0; rw [hj]; rfl
     have hc : cols[j]? = some (cols[j]'(by omega)) := by simp
     have hpc := (h0.at hc).2
     rw [hq2] at this hpc
     exact X62 (Q0j hpc.1) this
    have hrl : rowL r0 us = some [] := Z3x hall (by rw [h0.len, hV.len])
    have hfind : (r0 :: rest).find? (hitR us) = some r0 := by rw [List.find?_cons]; simp [hitR, hrl]
    have hrB : rowB r0 v us = some rb := by unfold rowB; rw [hrb, hrl]; simp
    have hbo := Z1l h0 hrB
    obtain ⟨bn, br, _⟩ := h0.binds
    obtain ⟨l', e1, e2⟩ := X5z (Q8r br).symm hrb
    have hl' : l' = Z3s rb := by
     have hs : l'.Pairwise (fun x y => x.var < y.var) := by
      have h1 := Z4n bn
      have h2 := Z21 e1
      have h3 : (l'.map (·.var)).Pairwise (· < ·) := by rw [h2, List.pairwise_map]; exact h1
      exact List.pairwise_map.1 h3
     exact Z61 _ _ hs (Z02 hbo.nd) (e2.symm.trans (Z0t hbo.rg).symm)
    rw [hl'] at e1
    have hrun : runT (d + 1) t lst v = if Q3w cl.guard rb = true then some (r0.clause, Z3s rb, 0) else match t.else_ with
      | el :: _ => runT d el lst v
      | [] => none := by
     rw [runT, if_neg (by omega), if_pos h1, h2, Z6q h0.c0 h6]
     simp only [Option.bind_some]
     rw [h3, e1]
     simp only [Option.bind_some]
     rw [X57 hbo]
     all_goals (cases t.else_ <;> rfl)
    rw [hrun]
    cases hg : Q3w cl.guard rb with
    | true => exact ⟨_, _, _, rfl, .take hfind hrB h6 hg⟩
    | false =>
     rcases h7 with ⟨h7, _⟩ | ⟨h7, el, h8, h9⟩
     ·simp [Q3w, h7] at hg
     ·rw [h8]
      simp only [Bool.false_eq_true, if_false]
      obtain ⟨a, bs, k, f1, f2⟩ := ih el (Q3l (r0 :: rest) r0.clause) cols us h9 (fun r hr => hR r (Z2t hr)) hCd hV
      exact ⟨a, bs, k, f1, .skip hfind hrB h6 hg f2⟩
   | some k =>
    rw [hp] at h
    simp only at h
    obtain ⟨col, h1, h2, h3, h4, h5, h6, h7⟩ := h
    have hkl := (List.getElem?_eq_some_iff.1 h1).1
    have hlen := hV.len
    have hu : us[k]? = some (us[k]'(by omega)) := by simp
    generalize us[k]'(by omega) = u at hu
    obtain ⟨hpv, hg⟩ := hV.at_ k col u h1 hu
    have hct := hC.ty col (List.mem_of_getElem? h1)
    obtain ⟨x, b, f1, f2, f3, f4⟩ := X3s h7 (W3y hww hct hg (r0 :: rest) k)
    have hB := V72 (wl hww) hct b f2
    have hRn : W8n w lst (Q6o cols k (Y5 w col b)) v (Q56 (r0 :: rest) k b (Y5 w col b)) := fun r hr => by
     unfold Q56 at hr
     obtain ⟨r1, g1, rfl⟩ := List.mem_map.1 hr
     obtain ⟨g2, g3⟩ := List.mem_filter.1 g1
     obtain ⟨g4, rb1, g5⟩ := hR r1 g2
     exact ⟨RowC.next hw hS hC g4 h1 hB g3, (Z2z hS hV h1 hct hu hB f3 g4 g5 g3).1⟩
    obtain ⟨a, bs, m, e1, e2⟩ := ih x.tree _ _ (usD us k b u) f4 hRn (ColC.next hw hC h1 hB) (Z9h hV h1 hu hB f3)
    refine ⟨a, bs, m + 1, ?_, V0a hS hV h1 hct hu f2 hB f3 e2 (r0 :: rest) (fun r h => h) hR rfl⟩
    rw [runT, if_pos h2, h5, hpv]
    simp only [Option.bind_some]
    rw [f1]
    simp only
    rw [e1]
    rfl
end Go.Proofs.YtbdkbdafhlcilaaGreat
namespace Go.Proofs.YtbdkbdafhlcilaaGreat
open Go Go.RowKit
theorem Z4y {α β : Type} {l : List α} {f : α → Option β} {q : α} (h : l.find? (fun q => (f q).isSome) = some q) : l.findSome? f = f q := by
 induction l with
 | nil => cases h
 | cons a l ih =>
  rw [List.find?_cons] at h
  rw [List.findSome?_cons]
  cases ha : f a with
  | none => rw [ha] at h; exact ih h
  | some x =>
   rw [ha] at h
   simp only [Option.isSome_some, Option.some.injEq] at h
   rw [← h, ha]
theorem X2a {v : Q1} : ∀ (cs : List Q6) (k : Nat), (∀ c ∈ cs, ∀ b, X4 10 c.pat v = some b → Q3w c.guard b = false) → runD v k cs = none
 | [], _, _ => rfl
 | c :: cs, k, h => by
  simp only [runD]
  have ih := X2a cs (k + 1) fun x hx => h x (by simp [hx])
  cases hm : X4 10 c.pat v with
  | none => exact ih
  | some b =>
   simp only
   rw [h c (by simp) b hm]
   simpa using ih
theorem W1n {v : Q1} : ∀ (cs : List Q6) (k i : Nat) (c : Q6) (b : List J7), (∀ (j : Nat) (c' : Q6), j < i → cs[j]? = some c' → ∀ b, X4 10 c'.pat v = some b → Q3w c'.guard b = false) → cs[i]? = some c → X4 10 c.pat v = some b → Q3w c.guard b = true → runD v k cs = some (k + i, Z3s b)
 | [], _, _, _, _, _, h, _, _ => by simp at h
 | c0 :: cs, k, 0, c, b, _, h, hm, hg => by
  simp only [List.getElem?_cons_zero, Option.some.injEq] at h
  subst h
  simp only [runD, hm, hg, if_true, Nat.add_zero]
 | c0 :: cs, k, i + 1, c, b, h0, h, hm, hg => by
  simp only [runD]
  have ih := W1n cs (k + 1) i c b (fun j c' hj hc => h0 (j + 1) c' (by omega) (by simpa using hc)) (by simpa using h) hm hg
  rw [show k + 1 + i = k + (i + 1) by omega] at ih
  cases hm0 : X4 10 c0.pat v with
  | none => exact ih
  | some b0 =>
   simp only
   rw [h0 0 c0 (by omega) rfl b0 hm0]
   simpa using ih
theorem Z3w {l : List Q6} {j : Nat} {c : Q6} {q : Q0} (hc : l[j]? = some c) (hq : q ∈ Z5 10 c.pat) : ∀ n, j < n → Q23 j q ∈ Q22 l n
 | 0, h => by omega
 | n + 1, h => by
  rw [Q22]
  by_cases hjn : j = n
  ·subst hjn
   rw [hc]
   exact List.mem_append_right _ (List.mem_map_of_mem hq)
  ·exact List.mem_append_left _ (Z3w hc hq n (by omega))
theorem Z1x {l : List Q6} {p : Grow → Bool} {r : Grow} : ∀ n, n ≤ l.length → (Q22 l n).find? p = some r →
  ∃ i c q, i < n ∧ l[i]? = some c ∧ r = Q23 i q ∧ (Z5 10 c.pat).find? (fun q => p (Q23 i q)) = some q ∧ ∀ (j : Nat) (c' : Q6), j < i → l[j]? = some c' → ∀ q' ∈ Z5 10 c'.pat, p (Q23 j q') = false
 | 0, _, h => by simp [Q22] at h
 | n + 1, hn, h => by
  rw [Q22, List.find?_append, Option.or_eq_some_iff] at h
  rcases h with h | ⟨h0, h⟩
  ·obtain ⟨i, c, q, h1, h2⟩ := Z1x n (by omega) h
   exact ⟨i, c, q, by omega, h2⟩
  ·have hc : l[n]? = some (l[n]'(by omega)) := by simp
   rw [hc] at h
   simp only at h
   rw [List.find?_map, Option.map_eq_some_iff] at h
   obtain ⟨q, h1, h2⟩ := h
   refine ⟨n, _, q, by omega, hc, h2.symm, h1, fun j c' hj hc' q' hq' => ?_⟩
   have hm : Q23 j q' ∈ Q22 l n := Z3w hc' hq' n hj
   simpa using List.find?_eq_none.1 h0 _ hm
theorem X2c {w : List Q3} {t : Q5} {p q : Q0} (g : Q0s w 10 t p = true) (hq : q ∈ Z5 10 p) (i : Nat) (v : Q1) :
  rowB (Q23 i q) v [v] = X4 10 q v ∧ hitR [v] (Q23 i q) = (X4 10 q v).isSome := by
 have g10 := Q7i 10 t p q g hq
 have g12 : Q0s w 12 t q = true := Q4s 11 t q (Q4s 10 t q g10)
 have hO : PatO w t q := ⟨g12, Q7y 11 q (Q7y 10 q (Z3r 10 p q hq))⟩
 have e1 : X4 12 q v = X4 10 q v := by rw [(Z2v 11 t q (Q4s 10 t q g10)).2.2.2 v, (Z2v 10 t q g10).2.2.2 v]
 have hm := W8r [] v g12
 have hb := Q9p (v := v) (u := v) (path := []) rfl (Z5y [] hO).2.2
 have hL : rowL (Q23 i q) [v] = X4 12 (Q5w q []).2 v := by
  unfold rowL Q23
  simp only [Y6]
  cases X4 12 (Q5w q []).2 v <;> simp
 constructor
 ·unfold rowB
  rw [hL, show (Q23 i q).binds = (Q5w q []).1 from rfl, hb]
  simp only [Option.bind_some]
  rw [← hm, e1]
 ·unfold hitR
  rw [hL, ← e1, hm]
  simp
theorem V52 {w : List Q3} (hw : WW w) (hS : WS w) {t : Q5} (ht : t ∈ tys w) {l : List Q6} (hl : ∀ c ∈ l, Q0s w 10 t c.pat = true) {v : Q1} {e : Nat} (hv : Q5x w e t v) {RR : List Grow} {x : Int × List J7} (h : Z3j l v [v] RR x) :
  ∀ keep : Int → Bool, RR = (Q22 l l.length).filter (fun r => keep r.clause) → (∀ (i : Nat) (c : Q6) (b : List J7), l[i]? = some c → keep (i : Int) = false → X4 10 c.pat v = some b → Q3w c.guard b = false) → x = runR (runD v 0 l) := by
 have hsp : ∀ c ∈ l, (Z5 10 c.pat).findSome? (fun q => X4 10 q v) = X4 10 c.pat v := fun c hc => X8i hw hS 10 e t c.pat v ht (hl c hc) hv
 have none_of : ∀ (j : Nat) (c : Q6), l[j]? = some c → (∀ q ∈ Z5 10 c.pat, hitR [v] (Q23 j q) = false) → X4 10 c.pat v = none := fun j c hc h => by
  have hcm := List.mem_of_getElem? hc
  rw [← hsp c hcm]
  refine Z77 fun q hq => ?_
  have h1 := h q hq
  rw [(X2c (hl c hcm) hq j v).2] at h1
  simpa using h1
 induction h with
 | none hn =>
  intro keep e hk
  subst e
  rw [List.find?_filter, List.find?_eq_none] at hn
  rw [X2a l 0 fun c hc b hb => ?_]
  ·rfl
  obtain ⟨j, hj⟩ := List.mem_iff_getElem?.1 hc
  have hjl := (List.getElem?_eq_some_iff.1 hj).1
  cases hkj : keep (j : Int) with
  | false => exact hk j c b hj hkj hb
  | true =>
   have := none_of j c hj fun q hq => by
    have h1 := hn _ (Z3w hj hq l.length hjl)
    have h2 : (Q23 j q).clause = (j : Int) := rfl
    rw [h2, hkj] at h1
    simpa using h1
   rw [this] at hb
   cases hb
 | take h1 h2 h3 h4 =>
  intro keep e hk
  subst e
  rw [List.find?_filter] at h1
  obtain ⟨i, c, q, hi, hc, rfl, hq, hbef⟩ := Z1x l.length (Nat.le_refl _) h1
  have hcm := List.mem_of_getElem? hc
  have hqm := List.mem_of_find?_eq_some hq
  have h3' : l[((Q23 i q).clause).toNat]? = some c := by
   rw [show ((Q23 i q).clause).toNat = i from rfl]; exact hc
  rw [h3'] at h3
  have h3 := Option.some.inj h3
  subst h3
  have hki : keep (i : Int) = true := by
   have h9 := List.find?_some hq
   simp only [decide_eq_true_eq] at h9
   exact h9.1
  have hfq : (Z5 10 c.pat).find? (fun q => (X4 10 q v).isSome) = some q := by
   rw [← hq]
   refine X5i fun y hy => ?_
   rw [(X2c (hl c hcm) hy i v).2, show (Q23 i y).clause = (i : Int) from rfl, hki]
   simp
  have hmc : X4 10 c.pat v = X4 10 q v := by rw [← hsp c hcm]; exact Z4y hfq
  rw [(X2c (hl c hcm) hqm i v).1, ← hmc] at h2
  rw [W1n l 0 i c _ (fun j c' hj hc' b hb => ?_) hc h2 h4]
  ·simp [runR, Q23]
  ·cases hkj : keep (j : Int) with
   | false => exact hk j c' b hc' hkj hb
   | true =>
    have := none_of j c' hc' fun q' hq' => by
     have h1 := hbef j c' hj hc' q' hq'
     rw [show (Q23 j q').clause = (j : Int) from rfl, hkj] at h1
     simpa using h1
    rw [this] at hb
    cases hb
 | skip h1 h2 h3 h4 _ ih =>
  intro keep e hk
  subst e
  rw [List.find?_filter] at h1
  obtain ⟨i, c, q, hi, hc, rfl, hq, hbef⟩ := Z1x l.length (Nat.le_refl _) h1
  have hcm := List.mem_of_getElem? hc
  have hqm := List.mem_of_find?_eq_some hq
  have h3' : l[((Q23 i q).clause).toNat]? = some c := by
   rw [show ((Q23 i q).clause).toNat = i from rfl]; exact hc
  rw [h3'] at h3
  have h3 := Option.some.inj h3
  subst h3
  have hki : keep (i : Int) = true := by
   have h9 := List.find?_some hq
   simp only [decide_eq_true_eq] at h9
   exact h9.1
  have hfq : (Z5 10 c.pat).find? (fun q => (X4 10 q v).isSome) = some q := by
   rw [← hq]
   refine X5i fun y hy => ?_
   rw [(X2c (hl c hcm) hy i v).2, show (Q23 i y).clause = (i : Int) from rfl, hki]
   simp
  have hmc : X4 10 c.pat v = X4 10 q v := by rw [← hsp c hcm]; exact Z4y hfq
  rw [(X2c (hl c hcm) hqm i v).1, ← hmc] at h2
  refine ih (fun z => keep z && decide (z ≠ (i : Int))) ?_ fun j c' b hc' hkj hb => ?_
  ·unfold Q3l
   rw [List.filter_filter]
   refine List.filter_congr fun r _ => ?_
   rw [show (Q23 i q).clause = (i : Int) from rfl, Bool.and_comm]
   simp
  ·simp only [Bool.and_eq_false_iff, decide_eq_false_iff_not] at hkj
   rcases hkj with hkj | hkj
   ·exact hk j c' b hc' hkj hb
   ·have hji : j = i := by omega
    subst hji
    rw [hc] at hc'
    cases hc'
    rw [h2] at hb
    cases hb
    exact h4
theorem X3q {w : List Q3} (hww : w ∈ Q1c) {t : Q5} (ht : t ∈ tys w) {l : List Q6} {pick : Int} {tr : Z9} (h : W9 NN w t l pick = some (tr, true)) : canC w t l pick = true := by
 rw [X71 hww ht] at h
 cases hc : canC w t l pick with
 | true => rfl
 | false => rw [hc] at h; simp at h
theorem Z4i {w : List Q3} (hww : w ∈ Q1c) {t : Q5} (ht : t ∈ tys w) {l : List Q6} {pick : Int} {tr : Z9} (h : W9 NN w t l pick = some (tr, true)) {v : Q1} (hv : Q5x w 10 t v) :
  ∃ k, runT 300 tr l v = some ((runR (runD v 0 l)).1, (runR (runD v 0 l)).2, k) := by
 have hw := ww hww
 have hS := ws hww
 have hc := X3q hww ht h
 have hT := (Q7m hww ht l pick).tr tr h
 simp only [canC, Bool.and_eq_true] at hc
 obtain ⟨hll, hP⟩ := Z9z hc.1.1
 have hR := X2b hw hP hll
 obtain ⟨a, bs, k, h1, h2⟩ := W5k hww (v := v) 300 tr (Q22 l l.length) [⟨[], t⟩] [v] hT (fun r hr => ⟨hR r hr, by
  obtain ⟨i, c, q, hi, hq, rfl⟩ := Z94 hr
  have g := (hP c (List.mem_of_getElem? hi)).1
  have g10 := Q7i 10 t c.pat q g hq
  have hO : PatO w t q := ⟨Q4s 11 t q (Q4s 10 t q g10), Q7y 11 q (Q7y 10 q (Z3r 10 c.pat q hq))⟩
  exact ⟨_, Q9p (v := v) (u := v) (path := []) rfl (Z5y [] hO).2.2⟩⟩) (W1c ht) ⟨rfl, fun j c u hc hu => by
   cases j with
   | zero => simp at hc hu; subst hc hu; exact ⟨rfl, hv⟩
   | succ j => simp at hc⟩
 have h3 := V52 hw hS ht (fun c hc => (hP c hc).1) hv h2 (fun _ => true) (List.filter_eq_self.2 fun _ _ => rfl).symm (fun _ _ _ _ h => by cases h)
 exact ⟨k, by rw [h1, ← h3]⟩
end Go.Proofs.YtbdkbdafhlcilaaGreat
namespace Go.Proofs.YtbdkbdafhlcilaaGreat
open Go Go.RowKit
theorem Z53 : ∀ (d n : Nat) (v : Q1), Z5f d v → d ≤ n → Q31 n v = some v := by
 intro d
 induction d with
 | zero => intro n v h; exact h.elim
 | succ d ih =>
  intro n v h hn
  obtain ⟨n, rfl⟩ : ∃ k, n = k + 1 := ⟨n - 1, by omega⟩
  obtain ⟨h1, h2⟩ := h
  have hr : Ret (Q31 (n + 1) v) (fun r => r = v) := by
   unfold Q31
   refine Ret.ctl (Z2 v.kids (fun k s => s = v.kids.take k) (fun _ => False) (fun s => s = v.kids) (by simp) (fun k q s hq hI => ?_) (fun s hI => ?_)) (fun r hr => hr.elim) (fun s hs => .some (Q1.ext' rfl rfl hs))
   ·rw [ih n q (h2 q (List.mem_of_getElem? hq)) (by omega)]
    simp only [Option.bind_some]
    rw [X6 (by simp only [Q4, List.length_cons, List.length_nil]; rw [hI, List.length_take]; omega)]
    exact .some (by rw [hI, List.take_add_one, hq]; rfl)
   ·rw [hI, List.take_length]
  obtain ⟨r, e, rfl⟩ := hr
  exact e
theorem Z4k (g : Q2q) (l : List J7) : Q2a g l = some (Q3w g l) := by
 suffices hs : Ret (Q2a g l) (fun r => r = Q3w g l) by
  obtain ⟨a, e, rfl⟩ := hs
  exact e
 unfold Q2a
 refine Ret.ite (fun h0 => .some ?_) (fun h0 => ?_)
 ·rw [X5] at h0
  simp [Q3w, h0]
 rw [W2] at h0
 have hG : Q3w g l = match l.find? fun b => decide (b.var = g.var) with
   | none => false
   | some b => ieq b.value.ctor (-1) && ((ieq g.op 1 && ilt b.value.n g.n) || (ieq g.op 2 && ieq b.value.n g.n)) := by
  unfold Q3w
  rw [decide_eq_false h0, Bool.false_or]
  rfl
 refine Ret.ctl (Z2 l (fun k _ => l.find? (fun b => decide (b.var = g.var)) = (l.drop k).find? (fun b => decide (b.var = g.var))) (fun r => r = Q3w g l) (fun _ => Q3w g l = false) rfl (fun k x s hx hI => ?_) (fun s hI => ?_)) (fun r hr => .some hr) (fun s hs => .some hs.symm)
 ·rw [Z1y hx, List.find?_cons] at hI
  by_cases hv : x.var = g.var
  ·have e : (!ieq x.var g.var) = false := by simp [ieq, hv]
   simp only [e, Bool.false_eq_true, if_false]
   rw [decide_eq_true hv] at hI
   simp only at hI
   rw [hI] at hG
   simp only at hG
   rw [hG]
   generalize ieq x.value.ctor (-1) = b1
   generalize ieq g.op 1 = b2
   generalize ilt x.value.n g.n = b3
   generalize ieq g.op 2 = b4
   generalize ieq x.value.n g.n = b5
   cases b1 <;> cases b2 <;> cases b3 <;> cases b4 <;> cases b5 <;> exact .some rfl
  ·have e : (!ieq x.var g.var) = true := by simp [ieq, hv]
   simp only [e, if_true, Option.bind_some]
   rw [decide_eq_false hv] at hI
   exact .some hI
 ·rw [List.drop_length] at hI
  rw [hG, hI]
  rfl
end Go.Proofs.YtbdkbdafhlcilaaGreat
namespace Go.Proofs.YtbdkbdafhlcilaaGreat
open Go Go.RowKit
theorem Z1s {v u : Q1} {path : List Int} (h : Q6j v path = some u) : Q5m v path = some u := by
 suffices hs : Ret (Q5m v path) (fun r => r = u) by
  obtain ⟨a, e, rfl⟩ := hs
  exact e
 unfold Q5m
 refine Ret.ctl (Z2 path (fun k s => Q6j s (path.drop k) = some u) (fun _ => False) (fun s => s = u) (by simpa using h) (fun k x s hx hI => ?_) (fun s hI => by rw [List.drop_length, Q6j] at hI; exact Option.some.inj hI)) (fun r hr => hr.elim) (fun s hs => .some hs)
 rw [Z1y hx, Q6j] at hI
 cases hi : idx s.kids x with
 | none => rw [hi] at hI; cases hI
 | some y =>
  rw [hi] at hI
  exact .some hI
theorem Z1i {v u : Q1} {path : List Int} (h : Q6j v path = some u) : Q5l v path = some u := by
 suffices hs : Ret (Q5l v path) (fun r => r = u) by
  obtain ⟨a, e, rfl⟩ := hs
  exact e
 unfold Q5l
 refine Ret.ctl (Z2 path (fun k s => Q6j s (path.drop k) = some u) (fun _ => False) (fun s => s = u) (by simpa using h) (fun k x s hx hI => ?_) (fun s hI => by rw [List.drop_length, Q6j] at hI; exact Option.some.inj hI)) (fun r hr => hr.elim) (fun s hs => .some hs)
 rw [Z1y hx, Q6j] at hI
 cases hi : idx s.kids x with
 | none => rw [hi] at hI; cases hI
 | some y =>
  rw [hi] at hI
  exact .some hI
theorem V0s {α : Type} {xs : List α} {i : Int} {x : α} (h : idx xs i = some x) : x ∈ xs := by
 unfold idx at h
 split at h
 ·exact List.mem_of_getElem? h
 ·cases h
theorem Z6b : ∀ {path : List Int} {v u : Q1} {d : Nat}, Z5f d v → d ≤ 10 → Q6j v path = some u → Z5f 10 u
 | [], v, u, d, hv, hd, h => by
  rw [Q6j, Option.some.injEq] at h
  subst h
  exact W82 _ _ _ hd hv
 | i :: path, v, u, d, hv, hd, h => by
  rw [Q6j, Option.bind_eq_some_iff] at h
  obtain ⟨x, hx, h⟩ := h
  cases d with
  | zero => exact hv.elim
  | succ d => exact Z6b (hv.2 x (V0s hx)) (by omega) h
theorem Z4v {v : Q1} (hv : Z5f 10 v) {l : List Q2} {r : List J7} (hl : l.length ≤ 1000) (h : Q1k l v = some r) : Q5t NN l v = some r := by
 suffices hs : Ret (Q5t NN l v) (fun a => a = r) by
  obtain ⟨a, e, rfl⟩ := hs
  exact e
 unfold Q5t
 refine Ret.ctl (Z2 l (fun k s => s.length = k ∧ ∃ s', Q1k (l.drop k) v = some s' ∧ s ++ s' = r) (fun _ => False) (fun s => s = r) ⟨rfl, r, by simpa using h, rfl⟩ (fun k x s hx hI => ?_) (fun s hI => ?_)) (fun r hr => hr.elim) (fun s hs => .some hs)
 ·obtain ⟨i1, s', i2, i3⟩ := hI
  have hk := (List.getElem?_eq_some_iff.1 hx).1
  rw [Z1y hx, Q1k, Option.bind_eq_some_iff] at i2
  obtain ⟨u, hu, i2⟩ := i2
  rw [Option.map_eq_some_iff] at i2
  obtain ⟨m, hm, rfl⟩ := i2
  rw [Z1s hu]
  simp only [Option.bind_some]
  rw [Z6c 10 NN u (Z6b hv (Nat.le_refl _) hu) (by decide)]
  simp only [Option.bind_some]
  rw [X6 (by simp only [List.length_cons, List.length_nil, Q4]; omega)]
  exact .some ⟨by simp [i1], m, hm, by rw [← i3]; simp⟩
 ·obtain ⟨_, s', i2, i3⟩ := hI
  rw [List.drop_length, Q1k, Option.some.injEq] at i2
  rw [← i3, ← i2]
  simp
theorem Z4m {v : Q1} (hv : Z5f 10 v) {l : List Q2} {r : List J7} (hl : l.length ≤ 1000) (h : Q1k l v = some r) : Q3m NN l v = some r := by
 suffices hs : Ret (Q3m NN l v) (fun a => a = r) by
  obtain ⟨a, e, rfl⟩ := hs
  exact e
 unfold Q3m
 refine Ret.ctl (Z2 l (fun k s => s.length = k ∧ ∃ s', Q1k (l.drop k) v = some s' ∧ s ++ s' = r) (fun _ => False) (fun s => s = r) ⟨rfl, r, by simpa using h, rfl⟩ (fun k x s hx hI => ?_) (fun s hI => ?_)) (fun r hr => hr.elim) (fun s hs => .some hs)
 ·obtain ⟨i1, s', i2, i3⟩ := hI
  have hk := (List.getElem?_eq_some_iff.1 hx).1
  rw [Z1y hx, Q1k, Option.bind_eq_some_iff] at i2
  obtain ⟨u, hu, i2⟩ := i2
  rw [Option.map_eq_some_iff] at i2
  obtain ⟨m, hm, rfl⟩ := i2
  rw [Z1i hu]
  simp only [Option.bind_some]
  rw [Z53 10 NN u (Z6b hv (Nat.le_refl _) hu) (by decide)]
  simp only [Option.bind_some]
  rw [X6 (by simp only [List.length_cons, List.length_nil, Q4]; omega)]
  exact .some ⟨by simp [i1], m, hm, by rw [← i3]; simp⟩
 ·obtain ⟨_, s', i2, i3⟩ := hI
  rw [List.drop_length, Q1k, Option.some.injEq] at i2
  rw [← i3, ← i2]
  simp
theorem Z76 {α : Type} {l : List α} {k : Nat} {x : α} {p : α → Bool} (h : l[k]? = some x) : (l.drop k).find? p = if p x = true then some x else (l.drop (k + 1)).find? p := by
 rw [Z1y h, List.find?_cons]
 cases p x <;> rfl
theorem Z30 (g : Q2q) (l : List J7) : Q2c g l = some (Q3w g l) := by
 suffices hs : Ret (Q2c g l) (fun r => r = Q3w g l) by
  obtain ⟨a, e, rfl⟩ := hs
  exact e
 unfold Q2c
 by_cases h0 : g.op = 0
 ·rw [if_pos (by rw [X5]; exact h0)]
  exact .some (by simp [Q3w, h0])
 rw [if_neg (by rw [X5]; exact h0)]
 have hfind : Ret (Q18 l (fun a0 => Q2k a0 g)) (fun k => match l.find? (fun b => decide (b.var = g.var)) with
   | none => k = -1
   | some b => ∃ i : Nat, k = (i : Int) ∧ l[i]? = some b) := by
  unfold Q18
  refine Ret.ctl (Z2 l (fun k _ => l.find? (fun b => decide (b.var = g.var)) = (l.drop k).find? (fun b => decide (b.var = g.var))) (fun r => ∃ (i : Nat) (b : J7), r = (i : Int) ∧ l[i]? = some b ∧ l.find? (fun b => decide (b.var = g.var)) = some b) (fun _ => l.find? (fun b => decide (b.var = g.var)) = none) (by simp) (fun k x s hx hI => ?_) (fun s hI => by rw [hI, List.drop_length]; rfl)) (fun r hr => .some ?_) (fun s hs => .some (by rw [hs]))
  ·have e1 : Q2k x g = some (ieq x.var g.var) := rfl
   simp only []
   rw [e1]
   simp only [Option.bind_some]
   rw [Z76 hx] at hI
   refine Ret.ite (fun hc => .some ?_) (fun hc => .some ?_)
   ·rw [X5] at hc
    rw [if_pos (by simpa using hc)] at hI
    exact ⟨k, x, rfl, hx, hI⟩
   ·rw [W2] at hc
    rw [if_neg (by simpa using hc)] at hI
    exact hI
  ·obtain ⟨i, b, rfl, h1, h2⟩ := hr
   rw [h2]
   exact ⟨i, rfl, h1⟩
 refine Ret.bind hfind (fun k hk => ?_)
 unfold Q3w
 cases hf : l.find? (fun b => decide (b.var = g.var)) with
 | none =>
  rw [hf] at hk
  simp only at hk
  subst hk
  exact .some (by simp [h0])
 | some b =>
  rw [hf] at hk
  obtain ⟨i, rfl, hi⟩ := hk
  rw [if_neg (by rw [X2]; omega), Q3y hi]
  simp only [Option.bind_some, h0, decide_false, Bool.false_or]
  by_cases c1 : b.value.ctor = -1
  ·have e1 : ieq b.value.ctor (-1) = true := by rw [X5]; exact c1
   simp only [e1, Bool.not_true, Bool.false_eq_true, if_false]
   by_cases c2 : g.op = 1
   ·have e2 : ieq g.op 1 = true := by rw [X5]; exact c2
    have e3 : ieq g.op 2 = false := by rw [W2]; omega
    simp only [e2, e3, if_true, Bool.false_eq_true, if_false]
    by_cases c3 : b.value.n < g.n
    ·have e4 : ilt b.value.n g.n = true := by rw [X2]; exact c3
     simp only [e4, if_true]
     exact .some (by simp [c1, c2, c3])
    ·have e4 : ilt b.value.n g.n = false := by rw [W5]; omega
     simp only [e4, Bool.false_eq_true, if_false]
     exact .some (by simp [c1, c2, c3])
   ·have e2 : ieq g.op 1 = false := by rw [W2]; exact c2
    simp only [e2, Bool.false_eq_true, if_false]
    by_cases c3 : g.op = 2
    ·have e3 : ieq g.op 2 = true := by rw [X5]; exact c3
     simp only [e3, if_true]
     exact .some (by simp [c1, c3, ieq])
    ·have e3 : ieq g.op 2 = false := by rw [W2]; exact c3
     simp only [e3, Bool.false_eq_true, if_false]
     exact .some (by simp [c1, c2, c3])
  ·have e1 : ieq b.value.ctor (-1) = false := by rw [W2]; exact c1
   simp only [e1, Bool.not_false, if_true]
   exact .some (by simp [c1])
theorem Z87 (b : Z0) (u : Q1) : Q2v b u = some (V3 b u) := by
 unfold Q2v Q6q
 by_cases h1 : b.ctor = u.ctor
 ·rw [if_pos (by rw [X5]; exact h1)]
  by_cases h2 : b.ctor = -1
  ·rw [if_neg (by rw [Bool.not_eq_true, Bool.not_eq_false', X5]; exact h2), Q7o]
   simp [V3, ← h1, h2]
  ·rw [if_pos (by rw [Bool.not_eq_true', W2]; exact h2)]
   simp [V3, h1, h1 ▸ h2]
 ·rw [if_neg (by rw [X5]; exact h1)]
  simp [V3, h1]
theorem X0a (bs : List Z0) (u : Q1) : Ret (Q0v bs (fun a0 => Q2v a0 u)) (fun k => match bs.find? (fun b => V3 b u) with
  | none => k = -1
  | some b => ∃ i : Nat, k = (i : Int) ∧ bs[i]? = some b) := by
 unfold Q0v
 refine Ret.ctl (Z2 bs (fun k _ => bs.find? (fun b => V3 b u) = (bs.drop k).find? (fun b => V3 b u)) (fun r => ∃ (i : Nat) (b : Z0), r = (i : Int) ∧ bs[i]? = some b ∧ bs.find? (fun b => V3 b u) = some b) (fun _ => bs.find? (fun b => V3 b u) = none) (by simp) (fun k x s hx hI => ?_) (fun s hI => by rw [hI, List.drop_length]; rfl)) (fun r hr => .some ?_) (fun s hs => .some (by rw [hs]))
 ·simp only []
  rw [Z87]
  simp only [Option.bind_some]
  rw [Z76 hx] at hI
  refine Ret.ite (fun hc => .some ?_) (fun hc => .some ?_)
  ·rw [if_pos hc] at hI
   exact ⟨k, x, rfl, hx, hI⟩
  ·rw [if_neg (by simp [hc])] at hI
   exact hI
 ·obtain ⟨i, b, rfl, h1, h2⟩ := hr
  rw [h2]
  exact ⟨i, rfl, h1⟩
theorem Z9s (bs : List Z0) (u : Q1) : Ret (Q4l bs u) (fun r => match bs.find? (fun b => V3 b u) with
  | none => r.2 = false
  | some b => r = (b.tree, true)) := by
 unfold Q4l
 refine Ret.ctl (Z2 bs (fun k _ => bs.find? (fun b => V3 b u) = (bs.drop k).find? (fun b => V3 b u)) (fun r => ∃ b : Z0, r = (b.tree, true) ∧ bs.find? (fun b => V3 b u) = some b) (fun _ => bs.find? (fun b => V3 b u) = none) (by simp) (fun k x s hx hI => ?_) (fun s hI => by rw [hI, List.drop_length]; rfl)) (fun r hr => .some ?_) (fun s hs => .some (by rw [hs]))
 ·rw [Z76 hx] at hI
  by_cases h1 : x.ctor = u.ctor
  ·rw [if_pos (by rw [X5]; exact h1)]
   by_cases h2 : u.ctor = -1
   ·rw [if_neg (by rw [Bool.not_eq_true, Bool.not_eq_false', X5]; exact h2)]
    by_cases h3 : x.n ≤ u.n
    ·rw [if_pos (by rw [J6]; exact h3)]
     by_cases h4 : u.n ≤ x.m
     ·rw [if_pos (by rw [J6]; exact h4)]
      rw [if_pos (by simp [V3, h1, h3, h4])] at hI
      exact .some ⟨x, rfl, hI⟩
     ·rw [if_neg (by rw [J6]; exact h4)]
      rw [if_neg (by simp [V3, h1, h2, h4])] at hI
      exact .some hI
    ·rw [if_neg (by rw [J6]; exact h3)]
     rw [if_neg (by simp [V3, h1, h2, h3])] at hI
     exact .some hI
   ·rw [if_pos (by rw [Bool.not_eq_true', W2]; exact h2)]
    rw [if_pos (by simp [V3, h1, h2])] at hI
    exact .some ⟨x, rfl, hI⟩
  ·rw [if_neg (by rw [X5]; exact h1)]
   rw [if_neg (by simp [V3, h1])] at hI
   exact .some hI
 ·obtain ⟨b, rfl, h2⟩ := hr
  rw [h2]
theorem Z26 {σ ρ : Type} {f : σ → Option (Ctl ρ σ)} {s s' : σ} {n : Nat} (h : f s = some (.go s')) : whileL f (n + 1) s = whileL f n s' := by
 rw [whileL, h]
theorem Q8n {σ ρ : Type} {f : σ → Option (Ctl ρ σ)} {s : σ} {r : ρ} {n : Nat} (h : f s = some (.ret r)) : whileL f (n + 1) s = some (.ret r) := by
 rw [whileL, h]
theorem X88 {σ ρ : Type} {f : σ → Option (Ctl ρ σ)} {s s' : σ} {n : Nat} (h : f s = some (.brk s')) : whileL f (n + 1) s = some (.brk s') := by
 rw [whileL, h]
theorem X70 {lst : List Q6} {v : Q1} (hv : Z5f 10 v) {t : Z9} {a : Int} {bs : List J7} {k : Nat} (hd : Q83 300 t) (h : runT 300 t lst v = some (a, bs, k)) : Q3i NN t lst v = some (a, bs, (k : Int)) := by
 unfold Q3i
 generalize hf : (fun (s : Z9 × Int) => _ : Z9 × Int → Option (Ctl (Int × List J7 × Int) (Z9 × Int))) = f
 have key : ∀ (d n : Nat) (t : Z9) (c k : Nat), Q83 d t → runT d t lst v = some (a, bs, k) → d ≤ n → c + d ≤ 300 → whileL f n (t, (c : Int)) = some (.ret (a, bs, ((c + k : Nat) : Int))) := by
  intro d
  induction d with
  | zero => intro n t c k h; exact h.elim
  | succ d ih =>
   intro n t c k hd h hn hc
   obtain ⟨n, rfl⟩ : ∃ j, n = j + 1 := ⟨n - 1, by omega⟩
   obtain ⟨⟨hd1, hd2, hd3, hd4, hd5⟩, hd6⟩ := hd
   have e1 : wadd .i64 (c : Int) 1 = ((c + 1 : Nat) : Int) := by rw [V1 (by omega) (by omega)]; omega
   rw [runT] at h
   split at h
   ·rename_i h2
    rw [Option.bind_eq_some_iff] at h
    obtain ⟨u, hu, h⟩ := h
    obtain ⟨q, hq, hqq⟩ := X0a t.branches u
    split at h
    ·rename_i hnone
     rw [hnone] at hqq
     simp only [Option.some.injEq, Prod.mk.injEq] at h hqq
     obtain ⟨rfl, rfl, rfl⟩ := h
     subst hqq
     refine Q8n ?_
     subst hf
     simp only
     rw [if_pos (by rw [X5]; exact h2), Z1s hu]
     simp only [Option.bind_some]
     rw [hq]
     simp only [Option.bind_some]
     rw [if_pos (by rw [X2]; omega), e1]
    ·rename_i b hsome
     rw [hsome] at hqq
     obtain ⟨i, rfl, hi⟩ := hqq
     rw [Option.map_eq_some_iff] at h
     obtain ⟨r, hr, h⟩ := h
     simp only [Prod.mk.injEq] at h
     obtain ⟨rfl, rfl, rfl⟩ := h
     have hgo : f (t, (c : Int)) = some (.go (b.tree, ((c + 1 : Nat) : Int))) := by
      subst hf
      simp only
      rw [if_pos (by rw [X5]; exact h2), Z1s hu]
      simp only [Option.bind_some]
      rw [hq]
      simp only [Option.bind_some]
      rw [if_neg (by rw [X2]; omega), Q3y hi, e1]
      rfl
     rw [Z26 hgo, ih n b.tree (c + 1) r.2.2 (hd6 _ (List.mem_append_left _ (List.mem_map_of_mem (List.mem_of_getElem? hi)))) hr (by omega) (by omega)]
     congr 4
     omega
   ·rename_i h2
    split at h
    ·rename_i h1
     rw [Option.bind_eq_some_iff] at h
     obtain ⟨cl, hcl, h⟩ := h
     rw [Option.bind_eq_some_iff] at h
     obtain ⟨l, hl, h⟩ := h
     split at h
     ·rename_i hg
      simp only [Option.some.injEq, Prod.mk.injEq] at h
      obtain ⟨rfl, rfl, rfl⟩ := h
      refine Q8n ?_
      subst hf
      simp only
      rw [if_neg (by rw [X5]; exact h2), if_pos (by rw [X5]; exact h1), Z4v hv hd1 hl]
      simp only [Option.bind_some]
      rw [hcl]
      simp only [Option.bind_some]
      rw [Z30]
      simp only [Option.bind_some]
      rw [if_pos hg]
      rfl
     ·rename_i hg
      split at h
      ·rename_i el rest hel
       have hgo : f (t, (c : Int)) = some (.go (el, (c : Int))) := by
        subst hf
        simp only
        rw [if_neg (by rw [X5]; exact h2), if_pos (by rw [X5]; exact h1), Z4v hv hd1 hl]
        simp only [Option.bind_some]
        rw [hcl]
        simp only [Option.bind_some]
        rw [Z30]
        simp only [Option.bind_some]
        rw [if_neg hg, hel]
        rfl
       rw [Z26 hgo]
       exact ih n el c k (hd6 _ (List.mem_append_right _ (by rw [hel]; simp))) h (by omega) (by omega)
      ·cases h
    ·rename_i h1
     simp only [Option.some.injEq, Prod.mk.injEq] at h
     obtain ⟨rfl, rfl, rfl⟩ := h
     refine Q8n ?_
     subst hf
     simp only
     rw [if_neg (by rw [X5]; exact h2), if_neg (by rw [X5]; exact h1)]
     rfl
 rw [show (0 : Int) = ((0 : Nat) : Int) from rfl, key 300 NN t 0 k hd h (by decide) (by omega)]
 simp
def opT : Nat → Z9 → Prop
 | 0, _ => False
 | d + 1, t => (t.op = 0 ∨ t.op = 1 ∨ t.op = 2) ∧ ∀ x ∈ Q3z t, opT d x
theorem X7z {P : Z0 → Z9 → Prop} : ∀ {bs xs : List Z0}, brsR P bs xs → ∀ x ∈ xs, ∃ b ∈ bs, P b x.tree
 | [], [], _, x, hx => by cases hx
 | [], _ :: _, e, _, _ => e.elim
 | _ :: _, [], e, _, _ => e.elim
 | b :: bs, y :: ys, ⟨⟨_, _, _, e4⟩, e5⟩, x, hx => by
  rcases List.mem_cons.1 hx with rfl | hx
  ·exact ⟨b, by simp, e4⟩
  ·obtain ⟨b', h1, h2⟩ := X7z e5 x hx
   exact ⟨b', by simp [h1], h2⟩
theorem X6h {w : List Q3} {lst : List Q6} {pick : Int} : ∀ (d : Nat) (t : Z9) (rows : List Grow) (cols : List Z6), Q9t w lst pick d t rows cols → opT d t := by
 intro d
 induction d with
 | zero => intro t rows cols h; exact h.elim
 | succ d ih =>
  intro t rows cols h
  cases rows with
  | nil =>
   simp only [Q9t] at h
   subst h
   exact ⟨.inl rfl, fun x hx => by simp [Q3z, zT] at hx⟩
  | cons r0 rest =>
   simp only [Q9t] at h
   cases hp : Q9x w (r0 :: rest) cols pick with
   | none =>
    rw [hp] at h
    simp only at h
    obtain ⟨h1, h2, h3, h4, h5, cl, h6, h7⟩ := h
    refine ⟨.inr (.inl h1), fun x hx => ?_⟩
    unfold Q3z at hx
    rw [h5] at hx
    rcases h7 with ⟨_, h7⟩ | ⟨_, el, h8, h9⟩
    ·simp [h7] at hx
    ·simp only [h8, List.map_nil, List.nil_append, List.mem_singleton] at hx
     subst hx
     exact ih _ _ _ h9
   | some k =>
    rw [hp] at h
    simp only at h
    obtain ⟨col, h1, h2, h3, h4, h5, h6, h7⟩ := h
    refine ⟨.inr (.inr h2), fun x hx => ?_⟩
    unfold Q3z at hx
    rw [h6, List.append_nil, List.mem_map] at hx
    obtain ⟨b, hb, rfl⟩ := hx
    obtain ⟨b', _, hb'⟩ := X7z h7 b hb
    exact ih _ _ _ hb'
theorem X6n {lst : List Q6} {v : Q1} (hv : Z5f 10 v) {t : Z9} {a : Int} {bs : List J7} {k : Nat} (hd : Q83 300 t) (ho : opT 300 t) (h : runT 300 t lst v = some (a, bs, k)) : Q4k NN lst t v = some (a, bs, (k : Int)) := by
 unfold Q4k
 generalize hf : (fun (s : Z9 × Int) => _ : Z9 × Int → Option (Ctl (Int × List J7 × Int) (Z9 × Int))) = f
 have key : ∀ (d n : Nat) (t : Z9) (c k : Nat), Q83 d t → opT d t → runT d t lst v = some (a, bs, k) → d ≤ n → c + d ≤ 300 → (whileL f n (t, (c : Int)) = some (.ret (a, bs, ((c + k : Nat) : Int)))) ∨ (a = -1 ∧ bs = [] ∧ ∃ t', whileL f n (t, (c : Int)) = some (.brk (t', ((c + k : Nat) : Int)))) := by
  intro d
  induction d with
  | zero => intro n t c k h; exact h.elim
  | succ d ih =>
   intro n t c k hd ho h hn hc
   obtain ⟨n, rfl⟩ : ∃ j, n = j + 1 := ⟨n - 1, by omega⟩
   obtain ⟨⟨hd1, hd2, hd3, hd4, hd5⟩, hd6⟩ := hd
   obtain ⟨ho1, ho2⟩ := ho
   have e1 : wadd .i64 (c : Int) 1 = ((c + 1 : Nat) : Int) := by rw [V1 (by omega) (by omega)]; omega
   rw [runT] at h
   split at h
   ·rename_i h2
    rw [Option.bind_eq_some_iff] at h
    obtain ⟨u, hu, h⟩ := h
    obtain ⟨q, hq, hqq⟩ := Z9s t.branches u
    split at h
    ·rename_i hnone
     rw [hnone] at hqq
     simp only [Option.some.injEq, Prod.mk.injEq] at h hqq
     obtain ⟨rfl, rfl, rfl⟩ := h
     refine .inl (Q8n ?_)
     subst hf
     simp only
     rw [if_pos (by rw [Bool.not_eq_true', W2]; omega), if_neg (by rw [X5]; omega), Z1i hu]
     simp only [Option.bind_some]
     rw [hq]
     simp only [Option.bind_some]
     rw [if_pos (by rw [hqq]; rfl), e1]
    ·rename_i b hsome
     rw [hsome] at hqq
     simp only at hqq
     rw [Option.map_eq_some_iff] at h
     obtain ⟨r, hr, h⟩ := h
     simp only [Prod.mk.injEq] at h
     obtain ⟨rfl, rfl, rfl⟩ := h
     have hgo : f (t, (c : Int)) = some (.go (b.tree, ((c + 1 : Nat) : Int))) := by
      subst hf
      simp only
      rw [if_pos (by rw [Bool.not_eq_true', W2]; omega), if_neg (by rw [X5]; omega), Z1i hu]
      simp only [Option.bind_some]
      rw [hq, hqq]
      simp only [Option.bind_some]
      rw [if_neg (by simp), e1]
     have hbm : b.tree ∈ Q3z t := List.mem_append_left _ (List.mem_map_of_mem (List.mem_of_find?_eq_some hsome))
     rw [Z26 hgo, show c + (r.2.2 + 1) = c + 1 + r.2.2 by omega]
     exact ih n b.tree (c + 1) r.2.2 (hd6 _ hbm) (ho2 _ hbm) hr (by omega) (by omega)
   ·rename_i h2
    split at h
    ·rename_i h1
     rw [Option.bind_eq_some_iff] at h
     obtain ⟨cl, hcl, h⟩ := h
     rw [Option.bind_eq_some_iff] at h
     obtain ⟨l, hl, h⟩ := h
     split at h
     ·rename_i hg
      simp only [Option.some.injEq, Prod.mk.injEq] at h
      obtain ⟨rfl, rfl, rfl⟩ := h
      refine .inl (Q8n ?_)
      subst hf
      simp only
      rw [if_pos (by rw [Bool.not_eq_true', W2]; omega), if_pos (by rw [X5]; exact h1), Z4m hv hd1 hl]
      simp only [Option.bind_some]
      rw [hcl]
      simp only [Option.bind_some]
      rw [Z4k]
      simp only [Option.bind_some]
      rw [if_pos hg]
      rfl
     ·rename_i hg
      split at h
      ·rename_i el rest hel
       have hgo : f (t, (c : Int)) = some (.go (el, (c : Int))) := by
        subst hf
        simp only
        rw [if_pos (by rw [Bool.not_eq_true', W2]; omega), if_pos (by rw [X5]; exact h1), Z4m hv hd1 hl]
        simp only [Option.bind_some]
        rw [hcl]
        simp only [Option.bind_some]
        rw [Z4k]
        simp only [Option.bind_some]
        rw [if_neg hg, hel]
        rfl
       have hem : el ∈ Q3z t := List.mem_append_right _ (by rw [hel]; simp)
       rw [Z26 hgo]
       exact ih n el c k (hd6 _ hem) (ho2 _ hem) h (by omega) (by omega)
      ·cases h
    ·rename_i h1
     simp only [Option.some.injEq, Prod.mk.injEq] at h
     obtain ⟨rfl, rfl, rfl⟩ := h
     refine .inr ⟨rfl, rfl, t, X88 ?_⟩
     subst hf
     simp only
     rw [if_neg (by rw [Bool.not_eq_true', W2]; omega)]
     rfl
 rcases key 300 NN t 0 k hd ho h (by decide) (by omega) with h | ⟨rfl, rfl, t', h⟩
 ·rw [show (0 : Int) = ((0 : Nat) : Int) from rfl, h]
  simp
 ·rw [show (0 : Int) = ((0 : Nat) : Int) from rfl, h]
  simp
end Go.Proofs.YtbdkbdafhlcilaaGreat
namespace Go.Proofs.YtbdkbdafhlcilaaGreat
open Go Go.RowKit
theorem X6z {w : List Q3} (hw : WW w) {r : Z7} {t : Q5} (ht : t ∈ tys w) (h : ROk r 2600) : Ret (Q64 NN r w t) (fun a => (∀ c ∈ a.1, Q54 w t c.pat = true) ∧ a.1.length ≤ 5 ∧ Nx r a.2 2600) := by
 unfold Q64
 refine Ret.bind (Q6e (h.le (by omega)) [3, 2, 4, 5, 1, 0] (by simp) (by simp)) (fun a ha => ?_)
 have hr1 : ROk a.2 2599 := ROk.nx (c := 1) h ha.2
 have hd : 0 ≤ a.1 ∧ a.1 ≤ 5 := by
  have := ha.1
  simp at this
  omega
 refine Ret.ctl (Q1v (fun s => 0 ≤ s.2.2 ∧ s.2.2 ≤ 5 ∧ (s.2.1.length : Int) + s.2.2 = a.1 ∧ (∀ c ∈ s.2.1, Q54 w t c.pat = true) ∧ Nx a.2 s.1 (s.2.1.length * 500)) (fun s => s.2.2.toNat) (fun _ => False) (fun s => s.2.1.length ≤ 5 ∧ (∀ c ∈ s.2.1, Q54 w t c.pat = true) ∧ Nx a.2 s.1 2500)
  ⟨hd.1, hd.2, by simp, by simp, by simpa using Nx.refl a.2⟩ (fun s hI => ?_) NN (by have := hd; show (a.1).toNat < 30000000; omega)) (fun r hr => hr.elim) (fun s hs => .some ⟨hs.2.1, hs.1, (ha.2.trans hs.2.2).le' (by omega)⟩)
 obtain ⟨i1, i2, i3, i4, i5⟩ := hI
 refine Ret.ite (fun h => ?_) (fun h => ?_)
 ·rw [X2] at h
  have hr2 : ROk s.1 500 := ROk.nx (c := s.2.1.length * 500) (hr1.le (by omega)) i5
  refine Ret.bind (W06 hw ht hr2) (fun b hb => ?_)
  rw [X6 (by simp only [Q4, List.length_cons, List.length_nil]; omega)]
  have hws : wsub .i64 s.2.2 1 = s.2.2 - 1 := Q1u (by omega) (by omega)
  simp only [Option.bind_some]
  rw [hws]
  refine .some ⟨⟨by simp only; omega, by simp only; omega, by simp; omega, fun c hc => ?_, ?_⟩, by simp only; omega⟩
  ·rcases List.mem_append.1 hc with hc | hc
   ·exact i4 c hc
   ·simp at hc; subst hc; exact hb.1
  ·have := i5.trans hb.2
   simp only [List.length_append, List.length_cons, List.length_nil]
   exact this.le' (by omega)
 ·exact .some ⟨by simp only; omega, i4, i5.le' (by omega)⟩
theorem W10 {r : Z7} (h : ROk r 5000) : Ret (Q25 NN r) (fun a => a.1 ∈ Q1c ∧ a.2.1 ∈ tys a.1 ∧ (∀ c ∈ a.2.2.1, Q54 a.1 a.2.1 c.pat = true) ∧ a.2.2.1.length ≤ 5 ∧ Nx r a.2.2.2.2 4000) := by
 unfold Q25
 refine Ret.bind (W11 (h.le (by omega))) (fun a ha => ?_)
 obtain ⟨h1, h2, h3⟩ := ha
 refine Ret.bind (X6z (ww h1) h2 (ROk.nx (c := 500) (h.le (by omega)) h3)) (fun b hb => ?_)
 exact .some ⟨h1, h2, hb.1, hb.2.1, (h3.trans hb.2.2).le' (by omega)⟩
theorem X8w (code : List Int) (hb : ∀ x ∈ code, 0 ≤ x ∧ x ≤ 255) : Ret (Q0q NN code) (fun a => a.1 ∈ Q1c ∧ a.2.1 ∈ tys a.1 ∧ a.2.2.length ≤ 9) := by
 unfold Q0q
 refine Ret.bind (Z6e code hb) (fun r hr => ?_)
 refine Ret.bind (W10 (hr.le (by omega))) (fun a ha => ?_)
 obtain ⟨h1, h2, h3, h4, h5⟩ := ha
 have hr1 : ROk a.2.2.2.2 1000 := ROk.nx (c := 4000) (hr.le (by omega)) h5
 refine Ret.ctl (R := fun _ => False) (B := fun (s : Z7 × List Q6) => ROk s.1 100 ∧ s.2.length ≤ 8 ∧ ∀ c ∈ s.2, c.pat.kids.length ≤ 100) ?_ (fun r hr => hr.elim) (fun s hs => ?_)
 ·have hk : ∀ c ∈ a.2.2.1, c.pat.kids.length ≤ 100 := fun c hc => by have := Z8t (ww h1) h2 (h3 c hc); omega
  refine Ret.ite (fun _ => ?_) (fun _ => .some ⟨hr1.le (by omega), by simp only; omega, hk⟩)
  refine Ret.bind (Q2r (hr1.le (by omega)) (by omega) (by omega)) (fun b hb => ?_)
  have hr2 : ROk b.2 999 := ROk.nx (c := 1) hr1 hb.2.2
  refine Ret.ite (fun _ => ?_) (fun _ => .some ⟨hr2.le (by omega), by simp only; omega, hk⟩)
  simp only [Q24, Option.bind_some]
  rw [X6 (by simp [Q4]; omega)]
  refine .some ⟨hr2.le (by omega), by simp; omega, fun c hc => ?_⟩
  rcases List.mem_append.1 hc with hc | hc
  ·exact hk c hc
  ·simp at hc; subst hc; simp
 ·refine Ret.bind (Z97 (hs.1.le (by omega)) s.2 hs.2.1 hs.2.2) (fun b hb => .some ⟨h1, h2, hb.1⟩)
end Go.Proofs.YtbdkbdafhlcilaaGreat
namespace Go.Proofs.YtbdkbdafhlcilaaGreat
open Go Go.RowKit
theorem Z4r (code : List Int) (hb : ∀ x ∈ code, 0 ≤ x ∧ x ≤ 255) : Ret (Q03 NN code) (fun a => a.1 ∈ Q1c ∧ a.2.1 ∈ tys a.1 ∧ a.2.2.length ≤ 10) := by
 unfold Q03
 refine Ret.bind (Z6e code hb) (fun r hr => ?_)
 refine Ret.bind (X8w code hb) (fun a ha => ?_)
 obtain ⟨w, t, l⟩ := a
 obtain ⟨h1, h2, h3⟩ := ha
 simp only at h1 h2 h3 ⊢
 refine Ret.ctl (R := fun _ => False) (B := fun s => s.length ≤ 10) ?_ (fun r h => h.elim) (fun s hs => .some ⟨h1, h2, hs⟩)
 refine Ret.ite (fun c1 => ?_) (fun _ => .some (by simp only [Q6c]; omega))
 refine Ret.ite (fun c2 => ?_) (fun _ => .some (by simp only [Q6c]; omega))
 rw [X2] at c1 c2
 simp only [lenZ] at c1 c2
 refine Ret.bind (Q2r (hr.le (by omega)) (by omega) (by omega)) (fun p hp => ?_)
 refine Ret.ite (fun _ => ?_) (fun _ => .some (by simp only [Q6c]; omega))
 refine Ret.bind (Q2r (r := p.2) ((hr.le (by omega : 1 + 1 ≤ 1000000)).nx hp.2.2) (by simp only [lenZ]; omega) (by simp only [lenZ]; omega)) (fun q hq => ?_)
 obtain ⟨x, hx, _⟩ := Q4a hq.1 hq.2.1
 rw [hx]
 simp only [Option.bind_some]
 rw [X6 (by simp only [List.length_cons, List.length_nil, Q4]; omega)]
 exact .some (by simp only [Q6c, List.length_append, List.length_cons, List.length_nil]; omega)
end Go.Proofs.YtbdkbdafhlcilaaGreat
