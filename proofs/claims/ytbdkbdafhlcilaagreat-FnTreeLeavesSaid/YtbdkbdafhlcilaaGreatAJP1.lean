import Derived.KernelRfl
import Derived.Test.YtbdkbdafhlcilaaGreatAJP0
set_option linter.unusedSimpArgs false
set_option linter.unusedVariables false
namespace Go.Proofs.YtbdkbdafhlcilaaGreat
open Go Go.RowKit
def CI (w : List Q3) (lst : List Q6) (pick : Int) (left : Int) : Z7 := ⟨⟨w, dimP w⟩, lst, pick, 300 - left⟩
def Q4s (t : X4) : List X4 := t.branches.map (fun b => b.tree) ++ t.else_
def Z0c : Nat → X4 → Prop
 | 0, _ => False
 | d + 1, t => (t.binds.length ≤ 1000 ∧ (∀ b ∈ t.binds, b.path.length ≤ 1000) ∧ t.path.length ≤ 1000 ∧ t.branches.length ≤ 20 ∧ t.else_.length ≤ 1) ∧ ∀ x ∈ Q4s t, Z0c d x
def Z0k : Nat → X4 → Nat
 | 0, _ => 0
 | d + 1, t => 1 + ((Q4s t).map (Z0k d)).sum
theorem W0f : ∀ {d e : Nat} {t : X4}, Z0c d t → d ≤ e → Z0c e t := by
 intro d
 induction d with
 | zero => intro e t h; exact h.elim
 | succ d ih =>
  intro e t h he
  obtain ⟨e, rfl⟩ : ∃ k, e = k + 1 := ⟨e - 1, by omega⟩
  exact ⟨h.1, fun x hx => ih (h.2 x hx) (by omega)⟩
theorem W6a : ∀ {d e : Nat} {t : X4}, Z0c d t → d ≤ e → Z0k e t = Z0k d t := by
 intro d
 induction d with
 | zero => intro e t h; exact h.elim
 | succ d ih =>
  intro e t h he
  obtain ⟨e, rfl⟩ : ∃ k, e = k + 1 := ⟨e - 1, by omega⟩
  unfold Z0k
  rw [List.map_congr_left fun x hx => ih (h.2 x hx) (show d ≤ e by omega)]
def brsR (P : Z1 → X4 → Prop) : List Z1 → List Z1 → Prop
 | [], [] => True
 | b :: bs, x :: xs => (x.ctor = b.ctor ∧ x.n = b.n ∧ x.m = b.m ∧ P b x.tree) ∧ brsR P bs xs
 | _, _ => False
theorem X4l {P Q : Z1 → X4 → Prop} (h : ∀ b t, P b t → Q b t) : ∀ {bs xs : List Z1}, brsR P bs xs → brsR Q bs xs
 | [], [], _ => trivial
 | [], _ :: _, e => e.elim
 | _ :: _, [], e => e.elim
 | _ :: _, _ :: _, ⟨⟨e1, e2, e3, e4⟩, e5⟩ => ⟨⟨e1, e2, e3, h _ _ e4⟩, X4l h e5⟩
def Q7i (w : List Q3) (lst : List Q6) (pick : Int) : Nat → X4 → List Grow → List Z3 → Prop
 | 0, _, _, _ => False
 | d + 1, t, rows, cols => match rows with
  | [] => t = zT
  | r0 :: rest => match Q96 w (r0 :: rest) cols pick with
   | none => t.op = 1 ∧ t.clause = r0.clause ∧ t.binds = Z2x r0.binds ∧ t.path = [] ∧ t.branches = [] ∧ ∃ cl, lst[r0.clause.toNat]? = some cl ∧
     ((cl.guard.op = 0 ∧ t.else_ = []) ∨ (cl.guard.op ≠ 0 ∧ ∃ el, t.else_ = [el] ∧ Q7i w lst pick d el (Q4o (r0 :: rest) r0.clause) cols))
   | some k => ∃ col, cols[k]? = some col ∧ t.op = 2 ∧ t.clause = 0 ∧ t.binds = [] ∧ t.path = col.path ∧ t.else_ = [] ∧
     brsR (fun b x => Q7i w lst pick d x (Q5e (r0 :: rest) k b (V2 w col b)) (Q4n cols k (V2 w col b))) (brsD w (r0 :: rest) col.t k) t.branches
theorem X8p {w : List Q3} {lst : List Q6} {pick : Int} : ∀ {d e : Nat} {t : X4} {rows : List Grow} {cols : List Z3}, d ≤ e → Q7i w lst pick d t rows cols → Q7i w lst pick e t rows cols := by
 intro d
 induction d with
 | zero => intro e t rows cols _ h; exact h.elim
 | succ d ih =>
  intro e t rows cols he h
  obtain ⟨e, rfl⟩ : ∃ k, e = k + 1 := ⟨e - 1, by omega⟩
  cases rows with
  | nil => exact h
  | cons r0 rest =>
   simp only [Q7i] at h ⊢
   cases hp : Q96 w (r0 :: rest) cols pick with
   | none =>
    rw [hp] at h
    simp only at h ⊢
    obtain ⟨h1, h2, h3, h4, h5, cl, h6, h7⟩ := h
    refine ⟨h1, h2, h3, h4, h5, cl, h6, ?_⟩
    rcases h7 with h7 | ⟨h7, el, h8, h9⟩
    ·exact .inl h7
    ·exact .inr ⟨h7, el, h8, ih (by omega) h9⟩
   | some k =>
    rw [hp] at h
    simp only at h ⊢
    obtain ⟨col, h1, h2, h3, h4, h5, h6, h7⟩ := h
    exact ⟨col, h1, h2, h3, h4, h5, h6, X4l (fun b t h => ih (by omega) h) h7⟩
def Both (w : List Q3) (lst : List Q6) (pick : Int) (tot : Nat) (Q : X4 → Prop) (x : Option (X4 × Bool × Z7)) (y : Option (X4 × Int)) : Prop :=
 ∃ ti ok c ts e, x = some (ti, ok, c) ∧ y = some (ts, e) ∧ ((ok = true ∧ ti = ts ∧ ∃ l : Nat, e = (l : Int) ∧ c = CI w lst pick (l : Int) ∧ Z0c tot ti ∧ Z0k tot ti + l = tot ∧ Q ti) ∨ (ok = false ∧ e < 0))
theorem W7z {n : Int} (h0 : 0 ≤ n) (h : n ≤ 100000) : Q28 n = some [] := by
 unfold Q28
 have e : ilt n 0 = false := by rw [X3]; exact h0
 have e0 : wsub .i64 0 (lenZ 0) = 0 := rfl
 have e1 : wsub .i64 n 0 = n := by rw [Q3c] <;> omega
 simp only [e, Bool.false_eq_true, if_false, e0, e1]
 by_cases hn : 0 < n
 ·have e2 : ilt 0 n = true := by rw [W7]; exact hn
  have e3 : mkS n (Z3.mk [] (Q2.mk 0 0)) = some (List.replicate n.toNat (Z3.mk [] (Q2.mk 0 0))) := by
   unfold mkS; rw [if_pos ⟨h0, by simp [Q5]; omega⟩]
  rw [if_pos e2, e3]
  rfl
 ·have e2 : ilt 0 n = false := by rw [X3]; omega
  rw [if_neg (by rw [e2]; simp)]
  rfl
theorem W4c {a b c : List Z3} (h : a.length + b.length + c.length ≤ 100000) : Q1j [a, b, c] = some (a ++ b ++ c) := by
 unfold Q1j
 have hA : wadd .i64 0 (lenZ a.length) = (a.length : Int) := by rw [J5] <;> simp only [lenZ] <;> omega
 have hB : wadd .i64 (a.length : Int) (lenZ b.length) = (a.length : Int) + b.length := by rw [J5] <;> simp only [lenZ] <;> omega
 have hC : wadd .i64 ((a.length : Int) + b.length) (lenZ c.length) = (a.length : Int) + b.length + c.length := by rw [J5] <;> simp only [lenZ] <;> omega
 have l1 : ilt (a.length : Int) 0 = false := by rw [X3]; omega
 have l2 : ilt ((a.length : Int) + b.length) 0 = false := by rw [X3]; omega
 have l3 : ilt ((a.length : Int) + b.length + c.length) 0 = false := by rw [X3]; omega
 simp only [forL, hA, hB, hC, l1, l2, l3, Bool.false_eq_true, if_false, Option.bind_some]
 rw [W7z (by omega) (by omega)]
 simp only [Option.bind_some]
 rw [X2 (by simp [Q5]; omega)]
 simp only [Option.bind_some, List.nil_append]
 rw [X2 (by simp only [Q5]; omega)]
 simp only [Option.bind_some]
 rw [X2 (by simp only [List.length_append, Q5]; omega)]
 rfl
theorem W4o {w : List Q3} {lst : List Q6} {pick : Int} {ρ : Type} {F : Nat → Z1 → Z7 × List Z1 → Option (Ctl (X4 × Bool × Z7) (Z7 × List Z1))} {G : Nat → Z1 → Int × List Z1 → Option (Ctl ρ (Int × List Z1))} {L : Nat} {brs : List Z1} {P : Z1 → X4 → Prop}
  (hFG : ∀ b ∈ brs, ∀ (i j l : Nat) (out : List Z1), l ≤ L → out.length ≤ 20 →
   (∃ (t : X4) (l' : Nat), (Z0c L t ∧ Z0k L t + l' = l ∧ P b t) ∧ F i b (CI w lst pick l, out) = some (.go (CI w lst pick l', out ++ [⟨b.ctor, b.n, b.m, t⟩])) ∧ G j b ((l : Int), out) = some (.go ((l' : Int), out ++ [⟨b.ctor, b.n, b.m, t⟩]))) ∨
   (∃ (c : Z7) (e : Int) (out' : List Z1), e < 0 ∧ F i b (CI w lst pick l, out) = some (.ret (zT, false, c)) ∧ G j b ((l : Int), out) = some (.go (e, out'))))
  (hG : ∀ (j : Nat) (b : Z1) (e : Int) (out : List Z1), e < 0 → G j b (e, out) = some (.brk (e, out))) :
  ∀ (bs : List Z1), (∀ b ∈ bs, b ∈ brs) → ∀ (i j l : Nat) (out : List Z1), l ≤ L → out.length + bs.length ≤ 20 →
   (∃ (l' : Nat) (out' : List Z1), ((∀ b ∈ out', b ∈ out ∨ Z0c L b.tree) ∧ (out'.map fun b => Z0k L b.tree).sum + l' = (out.map fun b => Z0k L b.tree).sum + l ∧ out'.length ≤ out.length + bs.length ∧ ∃ ys, out' = out ++ ys ∧ brsR P bs ys) ∧ forL F i bs (CI w lst pick l, out) = some (.brk (CI w lst pick l', out')) ∧ forL G j bs ((l : Int), out) = some (.brk ((l' : Int), out'))) ∨
   (∃ (c : Z7) (e : Int) (out' : List Z1), e < 0 ∧ forL F i bs (CI w lst pick l, out) = some (.ret (zT, false, c)) ∧ forL G j bs ((l : Int), out) = some (.brk (e, out'))) := by
 intro bs
 induction bs with
 | nil => intro _ i j l out hl _; exact .inl ⟨l, out, ⟨fun b h => .inl h, rfl, by simp, [], by simp, trivial⟩, rfl, rfl⟩
 | cons b bs ih =>
  intro hm i j l out hl hlen
  simp only [List.length_cons] at hlen
  rcases hFG b (hm b (by simp)) i j l out hl (by omega) with ⟨t, l', hl', e1, e2⟩ | ⟨c, e, out', he, e1, e2⟩
  ·unfold forL
   rw [e1, e2]
   rcases ih (fun x hx => hm x (by simp [hx])) (i + 1) (j + 1) l' (out ++ [⟨b.ctor, b.n, b.m, t⟩]) (by omega) (by simp; omega) with ⟨l2, out', ⟨h1, h2, h3, ys, h6, h7⟩, h4, h5⟩ | h
   ·refine .inl ⟨l2, out', ⟨fun x hx => ?_, ?_, ?_, ⟨b.ctor, b.n, b.m, t⟩ :: ys, by rw [h6]; simp, ⟨⟨rfl, rfl, rfl, hl'.2.2⟩, h7⟩⟩, h4, h5⟩
    ·rcases h1 x hx with h | h
     ·rcases List.mem_append.1 h with h | h
      ·exact .inl h
      ·simp only [List.mem_cons, List.not_mem_nil, or_false] at h
       subst h
       exact .inr hl'.1
     ·exact .inr h
    ·rw [h2]
     simp only [List.map_append, List.map_cons, List.map_nil, List.sum_append, List.sum_cons, List.sum_nil]
     omega
    ·simp only [List.length_append, List.length_cons, List.length_nil] at h3
     simp only [List.length_cons]
     omega
   ·exact .inr h
  ·refine .inr ?_
   unfold forL
   rw [e1, e2]
   cases bs with
   | nil => exact ⟨c, e, out', he, rfl, rfl⟩
   | cons b2 bs =>
    refine ⟨c, e, out', he, rfl, ?_⟩
    dsimp only
    unfold forL
    rw [hG _ _ _ _ he]
def V05 (w : List Q3) (lst : List Q6) (pick : Int) (left : Nat) : Prop := ∀ (n m : Nat) (rows : List Grow) (cols : List Z3), 2 * left + 1500 ≤ n → left + 1500 ≤ m → rows.length ≤ 1000 → ColC w cols left → (∀ r ∈ rows, RowC w lst cols r) →
 Both w lst pick left (fun t => Q7i w lst pick left t rows cols) (Y8 n (CI w lst pick left) rows cols) (Q29 m w lst (cols.map toD) (rows.map toS) pick left)
theorem Z3a {rows : List Grow} {c : Int} {r : Grow} (h : r ∈ Q4o rows c) : r ∈ rows := (List.mem_filter.1 h).1
theorem W2i (rows : List Grow) (c : Int) : (Q4o rows c).length ≤ rows.length := List.length_filter_le _ _
theorem V15 {w : List Q3} {lst : List Q6} {pick : Int} {L n m : Nat} (hT : V05 w lst pick L) (hn : 2 * L + 1501 ≤ n) (hm : L + 1500 ≤ m) {r0 : Grow} {rest : List Grow} {cols : List Z3}
  (hrl : (r0 :: rest).length ≤ 1000) (hC : ColC w cols L) (hr : ∀ r ∈ r0 :: rest, RowC w lst cols r) (hpk : Q96 w (r0 :: rest) cols pick = none) :
  Both w lst pick (L + 1) (fun t => Q7i w lst pick (L + 1) t (r0 :: rest) cols) (Q17 n (CI w lst pick L) (r0 :: rest) cols)
   (((Q3i m r0.binds).bind fun r27 => ((idx lst r0.clause).bind fun x30 =>
    (if (ieq x30.guard.op 0) = true then some (((X4.mk 1 r0.clause r27 [] [] []), (L : Int)))
    else ((Q3f ((r0 :: rest).map toS) r0.clause).bind fun r32 => ((Q29 m w lst (cols.map toD) r32 pick L).bind fun r33 => some (((X4.mk 1 r0.clause r27 [] [] [r33.1]), r33.2)))))))) := by
 obtain ⟨n, rfl⟩ : ∃ k, n = k + 1 := ⟨n - 1, by omega⟩
 have h0 := hr r0 (by simp)
 obtain ⟨b1, b2, b3⟩ := h0.binds
 unfold Q17
 rw [show idx (r0 :: rest) 0 = some r0 from rfl]
 simp only [Option.bind_some]
 rw [Q8y _ (by simp only [Q5]; omega)]
 simp only [Option.bind_some]
 rw [W68 (by omega) (by omega) b1 b2, X2k (by omega) (by omega) (fun b hb => by have := h0.bp b hb; omega)]
 simp only [Option.bind_some]
 rw [Z8e (by rw [(Z1c b2).length_eq]; simp)]
 simp only [Option.bind_some]
 have hcl : r0.clause.toNat < lst.length := by have := h0.c0; have := h0.c1; omega
 have hcl2 : idx lst r0.clause = some (lst[r0.clause.toNat]) := X0q h0.c0 (List.getElem?_eq_getElem hcl)
 rw [show (CI w lst pick (L : Int)).list = lst from rfl, hcl2]
 simp only [Option.bind_some]
 have hcg : lst[r0.clause.toNat]? = some (lst[r0.clause.toNat]) := List.getElem?_eq_getElem hcl
 generalize lst[r0.clause.toNat] = cl at hcg ⊢
 have hsl := (Z1c b2).length_eq
 have hbs : ∀ (el : List X4), el.length ≤ 1 → ((Z2x r0.binds).length ≤ 1000 ∧ (∀ b ∈ Z2x r0.binds, b.path.length ≤ 1000) ∧ ([] : List Int).length ≤ 1000 ∧ ([] : List Z1).length ≤ 20 ∧ el.length ≤ 1) := fun el he =>
  ⟨by omega, fun b hb => h0.bp b ((Z1c b2).mem_iff.1 hb), by simp, by simp, he⟩
 by_cases hg : cl.guard.op = 0
 ·have e : ieq cl.guard.op 0 = true := by simp [ieq, hg]
  simp only [e, if_true]
  exact ⟨_, _, _, _, _, rfl, rfl, .inl ⟨rfl, rfl, L, rfl, rfl, ⟨hbs [] (by simp), by simp [Q4s]⟩, by simp [Z0k, Q4s]; omega, by simp only [Q7i, hpk]; exact ⟨trivial, trivial, trivial, trivial, trivial, cl, hcg, .inl ⟨hg, trivial⟩⟩⟩⟩
 ·have e : ieq cl.guard.op 0 = false := by simp [ieq, hg]
  simp only [e, Bool.false_eq_true, if_false]
  simp only [List.length_cons] at hrl
  rw [W4e (by simp only [List.length_cons]; omega)]
  simp only [Option.bind_some]
  rw [X3e (by simp only [List.length_cons]; omega) (by omega), X2g (by simp only [List.length_cons]; omega)]
  simp only [Option.bind_some]
  have hol := W2i (r0 :: rest) r0.clause
  simp only [List.length_cons] at hol
  obtain ⟨ti, ok, c, ts, e, h1, h2, h3⟩ := hT n m (Q4o (r0 :: rest) r0.clause) cols (by omega) hm (by omega) hC (fun r h => hr r (Z3a h))
  rw [h1, h2]
  simp only [Option.bind_some]
  refine ⟨_, _, _, _, _, rfl, rfl, ?_⟩
  rcases h3 with ⟨rfl, rfl, l, rfl, rfl, hd, hz, hq⟩ | ⟨rfl, he⟩
  ·exact .inl ⟨rfl, rfl, l, rfl, rfl, ⟨hbs [ti] (by simp), by simpa [Q4s] using hd⟩, by simp [Z0k, Q4s]; omega, by simp only [Q7i, hpk]; exact ⟨trivial, trivial, trivial, trivial, trivial, cl, hcg, .inr ⟨hg, ti, rfl, hq⟩⟩⟩
  ·exact .inr ⟨rfl, he⟩
theorem X78 (rows : List Grow) (k : Nat) (b : Z1) (args : List Z3) : (Q5e rows k b args).length ≤ rows.length := by
 unfold Q5e
 rw [List.length_map]
 exact List.length_filter_le _ _
theorem V0c {w : List Q3} (hw : WW w) (hL : WL w) (hS : WS w) {lst : List Q6} {pick : Int} : ∀ left : Nat, left ≤ 300 → V05 w lst pick left := by
 intro left
 induction left using Nat.strongRecOn with
 | ind left ih =>
 intro hle n m rows cols hn hm hrl hC hr
 obtain ⟨n, rfl⟩ : ∃ k, n = k + 1 := ⟨n - 1, by omega⟩
 obtain ⟨m, rfl⟩ : ∃ k, m = k + 1 := ⟨m - 1, by omega⟩
 unfold Y8 Q29
 have hcnt : (CI w lst pick (left : Int)).count = 300 - (left : Int) := rfl
 rw [hcnt, J5 (by omega) (by omega), Q3c (by omega) (by omega)]
 cases left with
 | zero =>
  have e1 : ilt 300 (300 - ((0 : Nat) : Int) + 1) = true := rfl
  have e2 : ilt (((0 : Nat) : Int) - 1) 0 = true := rfl
  rw [if_pos e1, if_pos e2]
  exact ⟨_, _, _, _, _, rfl, rfl, .inr ⟨rfl, by omega⟩⟩
 | succ L =>
 have e1 : ilt 300 (300 - ((L + 1 : Nat) : Int) + 1) = false := by rw [X3]; omega
 have e2 : ilt (((L + 1 : Nat) : Int) - 1) 0 = false := by rw [X3]; omega
 have eC : (Z7.mk (CI w lst pick ((L + 1 : Nat) : Int)).spaces (CI w lst pick ((L + 1 : Nat) : Int)).list (CI w lst pick ((L + 1 : Nat) : Int)).pick (300 - ((L + 1 : Nat) : Int) + 1)) = CI w lst pick (L : Int) := by
  show Z7.mk ⟨w, dimP w⟩ lst pick (300 - ((L + 1 : Nat) : Int) + 1) = Z7.mk ⟨w, dimP w⟩ lst pick (300 - (L : Int))
  rw [show 300 - ((L + 1 : Nat) : Int) + 1 = 300 - (L : Int) by omega]
 rw [e1, e2, eC, show (((L + 1 : Nat) : Int) - 1) = (L : Int) by omega]
 simp only [Bool.false_eq_true, if_false, List.length_map]
 have hCL : ColC w cols L := ⟨hC.ty, fun c hc => by have := hC.path c hc; omega, by have := hC.len; omega⟩
 cases rows with
 | nil =>
  have e : ieq (lenZ ([] : List Grow).length) 0 = true := rfl
  rw [if_pos e, if_pos e]
  exact ⟨_, _, _, _, _, rfl, rfl, .inl ⟨rfl, rfl, L, rfl, rfl, ⟨by simp, by simp [Q4s]⟩, by simp [Z0k, Q4s]; omega, by simp only [Q7i]; rfl⟩⟩
 | cons r0 rest =>
 have e : ieq (lenZ (r0 :: rest).length) 0 = false := by
  rw [ieq, decide_eq_false_iff_not, Q1a, List.length_cons]
  omega
 have h0 := hr r0 (by simp)
 have hlen := hC.len
 simp only [e, Bool.false_eq_true, if_false]
 rw [show idx ((r0 :: rest).map toS) 0 = some (toS r0) from rfl]
 simp only [Option.bind_some]
 have hch := X0p hw hL (n := n) (by omega) (lst := lst) (pick := pick) (count := 300 - (L : Int)) (rows := r0 :: rest) (cols := cols) (by simp) (by omega) hC.ty (fun k hk => RowC.rng hr hk)
 rw [show Q05 n (CI w lst pick (L : Int)) (r0 :: rest) cols = some (optI (Q96 w (r0 :: rest) cols pick), CI w lst pick (L : Int)) from hch, Z53]
 simp only [Option.bind_some]
 have hfirst : Z09 (toR (toS r0)) = none ↔ Q96 w (r0 :: rest) cols pick = none := by
  unfold Z09 Q96
  rw [Q95, Q95]
  have hpl : (toR (toS r0)).pats.length = cols.length := h0.len
  rw [hpl]
  exact Iff.rfl
 cases hp : Q96 w (r0 :: rest) cols pick with
 | none =>
  rw [hfirst.2 hp]
  have e : ilt (optI none) 0 = true := rfl
  simp only [e, if_true]
  obtain ⟨ti, ok, c, ts, e, h1, h2, h3⟩ := V15 (ih L (by omega) (by omega)) (n := n) (m := m) (by omega) (by omega) hrl hCL hr hp
  rw [h1]
  simp only [Option.bind_some]
  exact ⟨ti, ok, c, ts, e, rfl, h2, h3⟩
 | some k =>
 obtain ⟨f, hf⟩ : ∃ f, Z09 (toR (toS r0)) = some f := by
  cases hq : Z09 (toR (toS r0)) with
  | none => rw [hfirst.1 hq] at hp; cases hp
  | some f => exact ⟨f, rfl⟩
 rw [hf]
 have e3 : ilt (optI (some k)) 0 = false := by rw [X3]; simp [optI]
 have e4 : ilt (optI (some f)) 0 = false := by rw [X3]; simp [optI]
 simp only [e3, e4, Bool.false_eq_true, if_false]
 have hkl : k < cols.length := (Z39 hp).1
 obtain ⟨col, hk⟩ : ∃ c, cols[k]? = some c := ⟨_, List.getElem?_eq_getElem hkl⟩
 have hct := hC.ty col (List.mem_of_getElem? hk)
 have hT := hw.ty _ hct
 have hpl := hC.path col (List.mem_of_getElem? hk)
 have hpk := X5c hw hS (n := m) (by omega) (pick := pick) (row := toS r0) (rest := rest.map toS) (cols := cols.map toD) (by simp only [List.length_cons, List.length_map] at hrl ⊢; omega) (by rw [List.length_map]; omega) (by rw [List.length_map]; omega) (by rw [List.length_map]; exact h0.len)
  (fun c hc => by obtain ⟨c', hc', rfl⟩ := List.mem_map.1 hc; exact hC.ty c' hc')
  (fun j hj => by rw [← List.map_cons, toRS]; exact RowC.rng hr (by rw [List.length_map] at hj; exact hj)) hf
 rw [← List.map_cons, toRS, toCD, hp] at hpk
 rw [hpk]
 simp only [Option.bind_some, optI]
 rw [Q2g hk, Q2g (show (cols.map toD)[k]? = some (toD col) by rw [List.getElem?_map, hk]; rfl)]
 simp only [Option.bind_some]
 rw [Z16 _ (by simp only [Q5]; omega), X2 (by simp only [toD, List.length_nil, Q5]; omega)]
 simp only [Option.bind_some]
 have hbr := Z0x hw hL (n := n) (by omega) (lst := lst) (pick := pick) (count := 300 - (L : Int)) (rows := r0 :: rest) hk hct (RowC.rng hr hkl)
 rw [show V6 n (CI w lst pick (L : Int)) (r0 :: rest) cols (k : Int) = some (brsD w (r0 :: rest) col.t k, CI w lst pick (L : Int)) from hbr]
 have hcu := Z21 hw hS (n := m) (by omega) (rows := (r0 :: rest).map toS) (col := toD col) (k := k) hct (by rw [toRS]; exact RowC.rng hr hkl)
 rw [toRS] at hcu
 rw [hcu]
 simp only [Option.bind_some]
 generalize hrows : r0 :: rest = rows at *
 have hbl := W4l hT rows k
 rw [show (toD col).kind = col.t from rfl]
 generalize hbrs : brsD w rows col.t k = brs at *
 generalize hF : (fun (k2328 : Nat) (x2329 : Z1) (s2322 : Z7 × (List Z1)) => _) = F
 generalize hG : (fun (k186 : Nat) (x187 : Z1) (s180 : Int × (List Z1)) => _) = G
 have hloop := W4o (w := w) (lst := lst) (pick := pick) (F := F) (G := G) (L := L) (brs := brs) (P := fun b x => Q7i w lst pick L x (Q5e rows k b (V2 w col b)) (Q4n cols k (V2 w col b))) (fun b hb i j l out hl hol => ?_) (fun j b e out he => ?_) brs (fun b h => h) 0 0 L [] (Nat.le_refl _) (by simp; omega)
 ·rcases hloop with ⟨l', out', ⟨g1, g2, g3, ys, g4, g5⟩, e1, e2⟩ | ⟨c, e, out', he, e1, e2⟩
  ·rw [e1, e2]
   refine ⟨_, _, _, _, _, rfl, rfl, .inl ⟨rfl, rfl, l', rfl, rfl, ⟨⟨by simp, by simp, by simp only; omega, by simp only [List.length_nil] at g3 ⊢; omega, by simp⟩, fun x hx => ?_⟩, ?_, ?_⟩⟩
   ·simp only [Q4s, List.append_nil] at hx
    obtain ⟨b, hb, rfl⟩ := List.mem_map.1 hx
    rcases g1 b hb with h | h
    ·cases h
    ·exact h
   ·simp only [Z0k, Q4s, List.append_nil, List.map_map]
    have : (List.map (Z0k L ∘ fun b => b.tree) out') = out'.map fun b => Z0k L b.tree := rfl
    rw [this]
    simp only [List.map_nil, List.sum_nil] at g2
    omega
   ·rw [← hrows] at hp g5 hbrs ⊢
    simp only [Q7i, hp]
    rw [g4, List.nil_append]
    exact ⟨col, hk, trivial, trivial, trivial, rfl, trivial, by rw [hbrs]; exact g5⟩
  ·rw [e1, e2]
   exact ⟨_, _, _, _, _, rfl, rfl, .inr ⟨rfl, he⟩⟩
 ·have hB : BrC w col.t b := W4n hL hct b (by rw [hbrs]; exact hb)
  have hCn : ColC w (Q4n cols k (V2 w col b)) l := by
   have := ColC.next hw hC hk hB
   exact ⟨this.ty, fun c hc => by have := this.path c hc; omega, by have := this.len; omega⟩
  have hRn : ∀ r ∈ Q5e rows k b (V2 w col b), RowC w lst (Q4n cols k (V2 w col b)) r := fun r hr' => by
   unfold Q5e at hr'
   obtain ⟨r1, h1, rfl⟩ := List.mem_map.1 hr'
   obtain ⟨h2, h3⟩ := List.mem_filter.1 h1
   exact RowC.next hw hS hC (hr r1 h2) hk hB h3
  have hrn := X78 rows k b (V2 w col b)
  have hK : ∀ r ∈ rows, X8m r k b (V2 w col b) := fun r h => RowC.kept hw hS hC (hr r h) hk hB
  obtain ⟨ti, ok, c, ts, e, h1, h2, h3⟩ := ih l (by omega) (by omega) n m (Q5e rows k b (V2 w col b)) (Q4n cols k (V2 w col b)) (by omega) (by omega) (by omega) hCn hRn
  have hal : (V2 w col b).length ≤ 3 := (hK r0 (by rw [← hrows]; simp)).al
  have hI : F i b (CI w lst pick l, out) = some (if ok = true then .go (c, out ++ [⟨b.ctor, b.n, b.m, ti⟩]) else .ret (zT, false, c)) := by
   suffices hs : Ret (F i b (CI w lst pick l, out)) (fun a => a = (if ok = true then .go (c, out ++ [⟨b.ctor, b.n, b.m, ti⟩]) else .ret (zT, false, c))) by
    obtain ⟨a, e, rfl⟩ := hs
    exact e
   rw [← hF]
   refine Ret.ctl (R := fun _ => False) (B := fun s => s = V2 w col b) ?_ (fun r h => h.elim) (fun s hs => ?_)
   ·by_cases hc : b.ctor = -1
    ·have e : (!ieq b.ctor (-1)) = false := by simp [ieq, hc]
     simp only [e, Bool.false_eq_true, if_false]
     exact .some (by simp [V2, hc])
    ·have e : (!ieq b.ctor (-1)) = true := by simp [ieq, hc]
     have hd : col.t.data ≠ -1 := fun hd => hc (hB.int hd)
     simp only [e, if_true]
     rw [show (CI w lst pick (l : Int)).spaces.w = w from rfl, hT.a2 _ (hB.ctor hd).1]
     simp only [Option.bind_some]
     refine Ret.ctl (Z5 (Y6 w col.t b.ctor) (fun i s => s = (V2 w col b).take i) (fun _ => False) (fun s => s = V2 w col b) (by simp) (fun i t s hi hI => ?_) (fun s hI => ?_)) (fun r hr => hr.elim) (fun s hs => .some hs)
     ·rw [X2 (by simp only [List.length_cons, List.length_nil, Q5]; omega)]
      simp only [Option.bind_some]
      rw [X2 (by rw [hI]; simp only [List.length_take, List.length_cons, List.length_nil, Q5]; omega)]
      exact .some (by simp only [Q07]; rw [hI, List.take_add_one, Q9d hc hi]; rfl)
     ·rw [hI, show (Y6 w col.t b.ctor).length = (V2 w col b).length by rw [Q51, if_neg hc], List.take_length]
   ·subst hs
    dsimp only
    refine Ret.ctl (Z5 rows (fun i s => s = Q5e (rows.take i) k b (V2 w col b)) (fun _ => False) (fun s => s = Q5e rows k b (V2 w col b)) (by simp [Q5e]) (fun i r s hi hI => ?_) (fun s hI => by rw [hI, List.take_length])) (fun r hr => hr.elim) (fun s hs => ?_)
    ·have hil : i < rows.length := (List.getElem?_eq_some_iff.1 hi).1
     rw [X5t (by omega) (hK r (List.mem_of_getElem? hi))]
     simp only [Option.bind_some]
     have hsl : s.length ≤ 1000 := by
      rw [hI]
      have := X78 (rows.take i) k b (V2 w col b)
      rw [List.length_take] at this
      omega
     have hstep : Q5e (rows.take (i + 1)) k b (V2 w col b) = Q5e (rows.take i) k b (V2 w col b) ++ (if Q5o (W0 r k) b = true then [Z29 r k (V2 w col b)] else []) := by
      unfold Q5e
      rw [List.take_add_one, hi]
      simp only [Option.toList_some, List.filter_append, List.map_append]
      by_cases hf : Q5o (W0 r k) b = true <;> simp [hf]
     by_cases hf : Q5o (W0 r k) b = true
     ·rw [if_pos hf]
      simp only [if_true]
      rw [X2 (by simp only [List.length_cons, List.length_nil, Q5]; omega)]
      exact .some (by simp only [Q07]; rw [hstep, if_pos hf, hI])
     ·rw [if_neg hf]
      simp only [Bool.false_eq_true, if_false]
      exact .some (by simp only [Q07]; rw [hstep, if_neg hf, hI, List.append_nil])
    ·subst hs
     dsimp only
     rw [Z2t (by omega)]
     simp only [Option.bind_some]
     rw [J5 (by omega) (by omega), show ((k : Int) + 1) = ((k + 1 : Nat) : Int) by simp, Z67 (by omega)]
     simp only [Option.bind_some]
     rw [W4c (by simp only [List.length_take, List.length_drop]; omega)]
     simp only [Option.bind_some]
     rw [show cols.take k ++ V2 w col b ++ cols.drop (k + 1) = Q4n cols k (V2 w col b) from rfl, h1]
     simp only [Option.bind_some]
     cases ok with
     | true =>
      simp only [Bool.not_true, Bool.false_eq_true, if_false]
      rw [X2 (by simp only [List.length_cons, List.length_nil, Q5]; omega)]
      exact .some (by simp)
     | false =>
      simp only [Bool.not_false, if_true]
      exact .some (by simp [zT])
  have hJ : G j b ((l : Int), out) = some (.go (e, out ++ [⟨b.ctor, b.n, b.m, ts⟩])) := by
   rw [← hG]
   have e1 : ile 0 (l : Int) = true := by rw [Q38]; omega
   have hb2 : b.ctor ≠ -1 → b.ctor ∈ X1 w col.t := fun h => (hB.ctor fun hd => h (hB.int hd)).1
   simp only [e1, if_true]
   rw [Z2v hT hk hb2 (by omega) (by omega)]
   simp only [Option.bind_some]
   rw [X5d (by omega) hT hk hb2 (by omega) (by omega) (by omega) (fun r h => ⟨hK r h, (hr r h).len⟩)]
   simp only [Option.bind_some]
   rw [h2]
   simp only [Option.bind_some]
   rw [X2 (by simp only [List.length_cons, List.length_nil, Q5]; omega)]
   rfl
  rw [hI, hJ]
  rcases h3 with ⟨rfl, rfl, l', rfl, rfl, hd, hz, hq⟩ | ⟨rfl, he⟩
  ·exact .inl ⟨ti, l', ⟨W0f hd hl, by rw [W6a hd hl]; exact hz, X8p hl hq⟩, by simp, rfl⟩
  ·exact .inr ⟨c, e, _, he, by simp, rfl⟩
 ·rw [← hG]
  have e1 : ile 0 e = false := by rw [Q84]; omega
  simp only [e1, Bool.false_eq_true, if_false]
end Go.Proofs.YtbdkbdafhlcilaaGreat
namespace Go.Proofs.YtbdkbdafhlcilaaGreat
open Go Go.RowKit
theorem X5k {l : List Q4} (hl : l.length ≤ 1000) (hp : ∀ b ∈ l, b.path.length ≤ 1000) : Q3u l = some l := by
 suffices hs : Ret (Q3u l) (fun a => a = l) by
  obtain ⟨a, e, rfl⟩ := hs
  exact e
 unfold Q3u
 refine Ret.ctl (Z5 l (fun i s => s = l.take i) (fun _ => False) (fun s => s = l) (by simp) (fun i x s hi hI => ?_) (fun s hI => by rw [hI, List.take_length])) (fun r hr => hr.elim) (fun s hs => .some hs)
 have hx := hp x (List.mem_of_getElem? hi)
 rw [Z16 _ (by simp only [Q5]; omega)]
 simp only [Option.bind_some]
 rw [X2 (by rw [hI]; simp only [List.length_take, List.length_cons, List.length_nil, Q5]; omega)]
 exact .some (by simp only [Q07]; rw [hI, List.take_add_one, hi]; rfl)
theorem W0m (x : Z1) : Z1.mk x.ctor x.n x.m x.tree = x := by cases x; rfl
theorem W60 (t : X4) : X4.mk t.op t.clause t.binds t.path t.branches t.else_ = t := by cases t; rfl
theorem X93 : ∀ (d n : Nat) (t : X4), Z0c d t → d ≤ n → Q1t n t = some t := by
 intro d
 induction d with
 | zero => intro n t h; exact h.elim
 | succ d ih =>
  intro n t h hn
  obtain ⟨n, rfl⟩ : ∃ k, n = k + 1 := ⟨n - 1, by omega⟩
  obtain ⟨⟨h1, h2, h3, h4, h5⟩, h6⟩ := h
  suffices hs : Ret (Q1t (n + 1) t) (fun a => a = t) by
   obtain ⟨a, e, rfl⟩ := hs
   exact e
  unfold Q1t
  rw [X5k h1 h2, Z16 _ (by simp only [Q5]; omega)]
  simp only [Option.bind_some]
  refine Ret.ctl (Z5 t.branches (fun i s => s = t.branches.take i) (fun _ => False) (fun s => s = t.branches) (by simp) (fun i x s hi hI => ?_) (fun s hI => by rw [hI, List.take_length])) (fun r hr => hr.elim) (fun s hs => ?_)
  ·rw [ih n x.tree (h6 _ (List.mem_append_left _ (List.mem_map_of_mem (List.mem_of_getElem? hi)))) (by omega)]
   simp only [Option.bind_some]
   rw [X2 (by rw [hI]; simp only [List.length_take, List.length_cons, List.length_nil, Q5]; omega)]
   exact .some (by simp only [Q07]; rw [hI, List.take_add_one, hi, W0m]; rfl)
  ·subst hs
   refine Ret.ctl (Z5 t.else_ (fun i s => s = t.else_.take i) (fun _ => False) (fun s => s = t.else_) (by simp) (fun i x s hi hI => ?_) (fun s hI => by rw [hI, List.take_length])) (fun r hr => hr.elim) (fun s hs => .some (by rw [hs, W60]))
   rw [ih n x (h6 _ (List.mem_append_right _ (List.mem_of_getElem? hi))) (by omega)]
   simp only [Option.bind_some]
   rw [X2 (by rw [hI]; simp only [List.length_take, List.length_cons, List.length_nil, Q5]; omega)]
   exact .some (by simp only [Q07]; rw [hI, List.take_add_one, hi]; rfl)
def Q5f (k : Nat) (p : Q0) : Grow := ⟨(k : Int), [(Q65 p []).2], (Q65 p []).1⟩
def Q1v (l : List Q6) : Nat → List Grow
 | 0 => []
 | i + 1 => Q1v l i ++ (match l[i]? with
  | none => []
  | some c => (Q9 10 c.pat).map (Q5f i))
theorem X8y {l : List Q6} : ∀ {i : Nat} {r : Grow}, r ∈ Q1v l i → ∃ k c p, l[k]? = some c ∧ p ∈ Q9 10 c.pat ∧ r = Q5f k p := by
 intro i
 induction i with
 | zero => intro r h; cases h
 | succ i ih =>
  intro r h
  rw [Q1v] at h
  rcases List.mem_append.1 h with h | h
  ·exact ih h
  ·cases hc : l[i]? with
   | none => rw [hc] at h; cases h
   | some c =>
    rw [hc] at h
    obtain ⟨p, hp, rfl⟩ := List.mem_map.1 h
    exact ⟨i, c, p, hc, hp, rfl⟩
theorem Z4b {l : List Q6} (h : ∀ c ∈ l, (Q9 10 c.pat).length ≤ 40) : ∀ i, (Q1v l i).length ≤ 40 * i := by
 intro i
 induction i with
 | zero => simp [Q1v]
 | succ i ih =>
  rw [Q1v, List.length_append]
  cases hc : l[i]? with
  | none => simp only [List.length_nil]; omega
  | some c =>
   have := h c (List.mem_of_getElem? hc)
   simp only [List.length_map]
   omega
def W4v (w : List Q3) (t : Q2) (l : List Q6) : Prop := ∀ c ∈ l, J2 w 10 t c.pat = true ∧ linD w 10 t c.pat = true
theorem X2r {w : List Q3} (hw : WW w) {t : Q2} {l : List Q6} (hl : W4v w t l) (hll : l.length ≤ 8) : ∀ r ∈ Q1v l l.length, RowC w l [⟨[], t⟩] r := fun r hr => by
 obtain ⟨k, c, p, hk, hp, rfl⟩ := X8y hr
 obtain ⟨g, ln⟩ := hl c (List.mem_of_getElem? hk)
 have hkl := (List.getElem?_eq_some_iff.1 hk).1
 have hO : PatO w t p := ⟨Q6j 11 t p (Q6j 10 t p (Q93 10 t c.pat p g hp)), Z10 11 p (Z10 10 p (Z9g 10 c.pat p hp))⟩
 obtain ⟨s1, s2, s3⟩ := X2a [] hO
 have hv : X24 (Q5f k p) = Q5c p := by
  unfold X24 Q5f
  simp only [List.flatMap_cons, List.flatMap_nil, List.append_nil]
  exact s2
 have hperm := X8t 10 t c.pat p g ln hp
 have hd := Q71 10 t c.pat g ln
 simp only [Q2c, decide_eq_true_eq] at hd
 refine ⟨rfl, fun x hx => ?_, ?_, fun v hv' => ?_, by simp [Q5f], by simp only [Q5f]; omega, fun b hb => ?_⟩
 ·simp only [Q5f, List.zip_cons_cons, List.zip_nil_right, List.mem_cons, List.not_mem_nil, or_false] at hx
  rw [hx]
  exact s1
 ·rw [hv]; exact hperm.nodup_iff.2 hd
 ·rw [hv] at hv'
  obtain ⟨y, hy, rfl⟩ := List.mem_map.1 (hperm.mem_iff.1 hv')
  exact Z9a 10 t c.pat g y hy
 ·rw [s3 b hb]; simp
theorem X0m {w : List Q3} (hw : WW w) {t : Q2} (ht : t ∈ tys w) {l : List Q6} (hl : W4v w t l) (hll : l.length ≤ 8) :
  Q1q NN l = some (if l.all (fun c => decide ((Q9 10 c.pat).length ≤ 40)) = true then (l.map (fun c => Q9 10 c.pat), true) else ([], false)) := by
 suffices hs : Ret (Q1q NN l) (fun a => a = (if l.all (fun c => decide ((Q9 10 c.pat).length ≤ 40)) = true then (l.map (fun c => Q9 10 c.pat), true) else ([], false))) by
  obtain ⟨a, e, rfl⟩ := hs
  exact e
 unfold Q1q
 refine Ret.ctl (Z5 l (fun i s => s = (l.take i).map (fun c => Q9 10 c.pat) ∧ ∀ c ∈ l.take i, (Q9 10 c.pat).length ≤ 40) (fun r => r = ([], false) ∧ ∃ c ∈ l, 40 < (Q9 10 c.pat).length) (fun s => s = l.map (fun c => Q9 10 c.pat) ∧ ∀ c ∈ l, (Q9 10 c.pat).length ≤ 40) ⟨by simp, by simp⟩ (fun i c s hi hI => ?_) (fun s hI => by rw [List.take_length] at hI; exact hI)) (fun r hr => .some ?_) (fun s hs => .some ?_)
 ·obtain ⟨g, _⟩ := hl c (List.mem_of_getElem? hi)
  have hor := X3q hw 10 t c.pat ht g
  have hil : i < l.length := (List.getElem?_eq_some_iff.1 hi).1
  rw [Z3w 10 NN c.pat hor (by decide)]
  simp only [Option.bind_some]
  by_cases hc : (Q9 10 c.pat).length ≤ 40
  ·have e : ilt 40 ((min (Q9 10 c.pat).length 401 : Nat) : Int) = false := by rw [X3]; omega
   simp only [e, Bool.false_eq_true, if_false]
   rw [Z59 10 NN c.pat hor (by decide) (by omega)]
   simp only [Option.bind_some]
   rw [X2 (by rw [hI.1]; simp only [List.length_map, List.length_take, List.length_cons, List.length_nil, Q5]; omega)]
   refine .some ⟨by rw [hI.1, List.take_add_one, hi]; simp, fun c' hc' => ?_⟩
   rw [List.take_add_one, hi] at hc'
   rcases List.mem_append.1 hc' with h | h
   ·exact hI.2 c' h
   ·simp only [Option.toList_some, List.mem_cons, List.not_mem_nil, or_false] at h
    rw [h]; exact hc
  ·have e : ilt 40 ((min (Q9 10 c.pat).length 401 : Nat) : Int) = true := by rw [W7]; omega
   simp only [e, if_true]
   exact .some ⟨rfl, c, List.mem_of_getElem? hi, by omega⟩
 ·obtain ⟨rfl, c, hc, hlt⟩ := hr
  rw [if_neg]
  rw [List.all_eq_true]
  intro h
  have := h c hc
  simp only [decide_eq_true_eq] at this
  omega
 ·obtain ⟨rfl, h⟩ := hs
  rw [if_pos]
  rw [List.all_eq_true]
  exact fun c hc => by simpa using h c hc
structure Comp (Q : X4 → Prop) (x y : Option (X4 × Bool)) : Prop where
 tr : ∀ t, x = some (t, true) → Q t
 eq : ∃ t ok, x = some (t, ok) ∧ y = some (t, ok) ∧ (ok = false → t = zT) ∧ Z0c 300 t ∧ Z0k 300 t ≤ 300
theorem V0a : Z0c 300 zT := ⟨by simp [zT], by simp [Q4s, zT]⟩
theorem V09 : Z0k 300 zT = 1 := by
 show 1 + ((Q4s zT).map (Z0k 299)).sum = 1
 rw [show Q4s zT = [] from rfl]
 simp
theorem Comp.no {Q : X4 → Prop} {x y : Option (X4 × Bool)} (h1 : x = some (zT, false)) (h2 : y = some (zT, false)) : Comp Q x y := ⟨fun t h => by rw [h1] at h; simp at h, zT, false, h1, h2, fun _ => rfl, V0a, by rw [V09]; omega⟩
theorem W47 {ρ σ τ : Type} {x : Option (Ctl ρ σ)} {s0 : σ} {g : Ctl ρ σ → Option τ} (h : Ret x (CtlQ (fun _ => False) (fun s => s = s0))) : x.bind g = g (.brk s0) := by
 obtain ⟨o, rfl, ho⟩ := h
 cases o with
 | ret r => exact ho.elim
 | go s => exact ho.elim
 | brk s => rw [show s = s0 from ho]; rfl
theorem V1o {ρ σ τ : Type} {x : Option (Ctl ρ σ)} {r0 : ρ} {g : Ctl ρ σ → Option τ} (h : Ret x (CtlQ (fun r => r = r0) (fun _ => False))) : x.bind g = g (.ret r0) := by
 obtain ⟨o, rfl, ho⟩ := h
 cases o with
 | ret r => rw [show r = r0 from ho]; rfl
 | go s => exact ho.elim
 | brk s => exact ho.elim
def canC (w : List Q3) (t : Q2) (l : List Q6) (pick : Int) : Bool := Q25 w t l && (decide (0 ≤ pick) && decide (pick ≤ 2)) && l.all (fun c => decide ((Q9 10 c.pat).length ≤ 40))
theorem X0c {w : List Q3} {t : Q2} {l : List Q6} (h : Q25 w t l = true) : l.length ≤ 8 ∧ W4v w t l := by
 simp only [Q25, Bool.and_eq_true, decide_eq_true_eq, List.all_eq_true] at h
 refine ⟨h.1, fun c hc => ?_⟩
 have := h.2 c hc
 simp only [Q6u, Bool.and_eq_true] at this
 obtain ⟨g, _, ln⟩ := Q7k this.1
 exact ⟨g, ln⟩
theorem X7k {w : List Q3} (hww : w ∈ J8) {t : Q2} (ht : t ∈ tys w) (l : List Q6) (pick : Int) :
  W8 NN w t l pick = if canC w t l pick = true then ((Y8 NN (CI w l pick ((300 : Nat) : Int)) (Q1v l l.length) [⟨[], t⟩]).bind fun r => if (!r.2.1) = true then some (zT, false) else (Q1t NN r.1).bind fun r2 => some (r2, true)) else some (zT, false) := by
 have hw := ww hww
 have hz : X4.mk 0 0 [] [] [] [] = zT := rfl
 unfold W8 canC
 rw [Q6v hw ht l]
 simp only [Option.bind_some, hz]
 cases hv : Q25 w t l with
 | false => simp
 | true =>
 obtain ⟨hll, hP⟩ := X0c hv
 rw [Z0i]
 simp only [Option.bind_some, Bool.not_true, Bool.false_eq_true, if_false, Bool.true_and]
 cases hp : (decide (0 ≤ pick) && decide (pick ≤ 2)) with
 | false => simp
 | true =>
 simp only [Bool.not_true, Bool.false_eq_true, if_false, Bool.true_and]
 rw [X0m hw ht hP hll]
 simp only [Option.bind_some]
 cases hA : l.all (fun c => decide ((Q9 10 c.pat).length ≤ 40)) with
 | false => simp
 | true =>
 simp only [if_true, Bool.not_true, Bool.false_eq_true, if_false]
 have hA' : ∀ c ∈ l, (Q9 10 c.pat).length ≤ 40 := fun c hc => by simpa using List.all_eq_true.1 hA c hc
 refine (W47 (s0 := Q1v l l.length) ?_).trans ?_
 ·refine Z5 (l.map fun c => Q9 10 c.pat) (fun i s => s = Q1v l i) (fun _ => False) (fun s => s = Q1v l l.length) rfl (fun i ps s hi hI => ?_) (fun s hI => by rw [hI, List.length_map])
  rw [List.getElem?_map, Option.map_eq_some_iff] at hi
  obtain ⟨c, hi, rfl⟩ := hi
  have hc := List.mem_of_getElem? hi
  have hil : i < l.length := (List.getElem?_eq_some_iff.1 hi).1
  have hri := Z4b hA' i
  have hcl := hA' c hc
  refine Ret.ctl (Z5 (Q9 10 c.pat) (fun j u => u = Q1v l i ++ ((Q9 10 c.pat).take j).map (Q5f i)) (fun _ => False) (fun u => u = Q1v l (i + 1)) (by simp [hI]) (fun j p u hj hJ => ?_) (fun u hJ => ?_)) (fun r hr => hr.elim) (fun u hu => .some hu)
  ·have hjl : j < (Q9 10 c.pat).length := (List.getElem?_eq_some_iff.1 hj).1
   have has := Z7i 10 t p (Q93 10 t c.pat p (hP c hc).1 (List.mem_of_getElem? hj))
   rw [X8a (d := 10) (n := NN) has (by omega) (by decide) (by simp) (by simp) (by simp)]
   simp only [Option.bind_some, List.nil_append]
   rw [X2 (by rw [hJ]; simp only [List.length_append, List.length_map, List.length_take, List.length_cons, List.length_nil, Q5]; omega)]
   exact .some (by simp only [Q07]; rw [hJ, List.take_add_one, hj]; simp [Q5f])
  ·rw [hJ, List.take_length, Q1v, hi]
 ·dsimp only
  rw [(wl hww).dim]
  simp only [Option.bind_some]
  rfl
theorem W67 {w : List Q3} (hww : w ∈ J8) {t : Q2} (ht : t ∈ tys w) (l : List Q6) (pick : Int) :
  Q0h NN w t l pick = if canC w t l pick = true then ((Q29 NN w l [⟨[], t⟩] ((Q1v l l.length).map toS) pick ((300 : Nat) : Int)).bind fun r => if ilt r.2 0 = true then some (zT, false) else some (r.1, true)) else some (zT, false) := by
 have hw := ww hww
 have hz : X4.mk 0 0 [] [] [] [] = zT := rfl
 unfold Q0h canC
 rw [Z8t hw ht l]
 simp only [Option.bind_some, hz]
 cases hv : Q25 w t l with
 | false => simp
 | true =>
 obtain ⟨hll, hP⟩ := X0c hv
 simp only [Bool.not_true, Bool.false_eq_true, if_false, Bool.true_and]
 by_cases p0 : pick < 0
 ·have e1 : ilt pick 0 = true := by rw [W7]; exact p0
  have e2 : (decide ((0 : Int) ≤ pick) && decide (pick ≤ 2)) = false := by simp; omega
  simp only [e1, e2, if_true, Bool.false_and, Bool.false_eq_true, if_false]
 have e1 : ilt pick 0 = false := by rw [X3]; omega
 simp only [e1, Bool.false_eq_true, if_false]
 by_cases p2 : 2 < pick
 ·have e1 : ilt 2 pick = true := by rw [W7]; exact p2
  have e2 : (decide ((0 : Int) ≤ pick) && decide (pick ≤ 2)) = false := by simp; omega
  simp only [e1, e2, if_true, Bool.false_and, Bool.false_eq_true, if_false]
 have e1 : ilt 2 pick = false := by rw [X3]; omega
 have e2 : (decide ((0 : Int) ≤ pick) && decide (pick ≤ 2)) = true := by simp; omega
 simp only [e1, e2, Bool.false_eq_true, if_false, Bool.true_and]
 unfold Q5r
 have hsp : ∀ c ∈ l, Q08 NN c.pat = some ((Q9 10 c.pat).take 401) := fun c hc => X2e 10 NN c.pat (X3q hw 10 t c.pat ht (hP c hc).1) (by decide)
 cases hA : l.all (fun c => decide ((Q9 10 c.pat).length ≤ 40)) with
 | true =>
  simp only [if_true]
  have hA' : ∀ c ∈ l, (Q9 10 c.pat).length ≤ 40 := fun c hc => by simpa using List.all_eq_true.1 hA c hc
  have hsp' : ∀ c ∈ l, Q08 NN c.pat = some (Q9 10 c.pat) := fun c hc => by
   have := hA' c hc
   rw [hsp c hc, List.take_of_length_le (by omega)]
  have hrows : Q52 NN l = some ((Q1v l l.length).map toS) := by
   suffices hs : Ret (Q52 NN l) (fun a => a = (Q1v l l.length).map toS) by
    obtain ⟨a, e, rfl⟩ := hs
    exact e
   unfold Q52
   refine Ret.ctl (Z5 l (fun i s => s = (Q1v l i).map toS) (fun _ => False) (fun s => s = (Q1v l l.length).map toS) rfl (fun i c s hi hI => ?_) (fun s hI => hI)) (fun r hr => hr.elim) (fun s hs => .some hs)
   have hc := List.mem_of_getElem? hi
   have hil : i < l.length := (List.getElem?_eq_some_iff.1 hi).1
   have hri := Z4b hA' i
   have hcl := hA' c hc
   rw [hsp' c hc]
   simp only [Option.bind_some]
   refine Ret.ctl (Z5 (Q9 10 c.pat) (fun j u => u = (Q1v l i).map toS ++ (((Q9 10 c.pat).take j).map (Q5f i)).map toS) (fun _ => False) (fun u => u = (Q1v l (i + 1)).map toS) (by simp [hI]) (fun j p u hj hJ => ?_) (fun u hJ => ?_)) (fun r hr => hr.elim) (fun u hu => .some hu)
   ·have hjl : j < (Q9 10 c.pat).length := (List.getElem?_eq_some_iff.1 hj).1
    have has := Z7i 10 t p (Q93 10 t c.pat p (hP c hc).1 (List.mem_of_getElem? hj))
    rw [X29 (d := 10) (n := NN) has (by omega) (by decide) (by simp) (by simp)]
    simp only [Option.bind_some, List.nil_append]
    rw [X2 (by rw [hJ]; simp only [List.length_append, List.length_map, List.length_take, List.length_cons, List.length_nil, Q5]; omega)]
    exact .some (by simp only [Q07]; rw [hJ, List.take_add_one, hj]; simp [Q5f, toS])
   ·rw [hJ, List.take_length, Q1v, hi]; simp
  have h1 : ∀ (a : X4) (b : Bool), some (a, b) = some (a, b) := fun _ _ => rfl
  rw [hrows]
  have e300 : (300 : Int) = ((300 : Nat) : Int) := rfl
  rw [e300]
  simp only [Option.bind_some]
  have hin : ∀ (X : Option (X4 × Bool)), X.bind (fun r40 => some (r40.1, r40.2)) = X := fun X => by cases X <;> rfl
  rw [hin]
  refine (W47 (s0 := ()) ?_).trans ?_
  ·refine Z5 l (fun _ _ => True) (fun _ => False) (fun _ => _) trivial (fun i c s hi _ => ?_) (fun _ _ => rfl)
   have hc := List.mem_of_getElem? hi
   have := hA' c hc
   rw [hsp' c hc]
   have e : ilt 40 (lenZ (Q9 10 c.pat).length) = false := by rw [X3, Q1a]; omega
   simp only [Option.bind_some, e, Bool.false_eq_true, if_false]
   exact .some trivial
  ·rfl
 | false =>
  have hx : ∃ c ∈ l, 40 < (Q9 10 c.pat).length := by
   rw [List.all_eq_false] at hA
   simpa using hA
  have hin : ∀ (X : Option (X4 × Bool)), X.bind (fun r40 => some (r40.1, r40.2)) = X := fun X => by cases X <;> rfl
  rw [hin]
  simp only [Bool.false_eq_true, if_false]
  refine (V1o (r0 := (zT, false)) ?_).trans rfl
  refine Z5 l (fun i _ => ∀ c ∈ l.take i, (Q9 10 c.pat).length ≤ 40) (fun r => r = (zT, false)) (fun _ => False) (by simp) (fun i c s hi hI => ?_) (fun s hI => ?_)
  ·have hc := List.mem_of_getElem? hi
   rw [hsp c hc]
   simp only [Option.bind_some]
   by_cases h40 : (Q9 10 c.pat).length ≤ 40
   ·have e : ilt 40 (lenZ ((Q9 10 c.pat).take 401).length) = false := by rw [X3, Q1a, List.length_take]; omega
    simp only [e, Bool.false_eq_true, if_false]
    refine .some fun c' hc' => ?_
    rw [List.take_add_one, hi] at hc'
    rcases List.mem_append.1 hc' with h | h
    ·exact hI c' h
    ·simp only [Option.toList_some, List.mem_cons, List.not_mem_nil, or_false] at h
     rw [h]; exact h40
   ·have e : ilt 40 (lenZ ((Q9 10 c.pat).take 401).length) = true := by rw [W7, Q1a, List.length_take]; omega
    simp only [e, if_true]
    exact .some rfl
  ·obtain ⟨c, hc, h⟩ := hx
   rw [List.take_length] at hI
   have := hI c hc
   omega
theorem Z6k {w : List Q3} {t : Q2} (ht : t ∈ tys w) : ColC w [⟨[], t⟩] 300 :=
 ⟨fun c hc => by simp only [List.mem_cons, List.not_mem_nil, or_false] at hc; rw [hc]; exact ht, fun c hc => by simp only [List.mem_cons, List.not_mem_nil, or_false] at hc; rw [hc]; simp, by simp⟩
theorem Z4t {w : List Q3} (hww : w ∈ J8) {t : Q2} (ht : t ∈ tys w) (l : List Q6) (pick : Int) : Comp (fun tr => Q7i w l pick 300 tr (Q1v l l.length) [⟨[], t⟩]) (W8 NN w t l pick) (Q0h NN w t l pick) := by
 rw [X7k hww ht, W67 hww ht]
 cases hc : canC w t l pick with
 | false => exact Comp.no (by simp) (by simp)
 | true =>
 simp only [if_true]
 simp only [canC, Bool.and_eq_true] at hc
 obtain ⟨hll, hP⟩ := X0c hc.1.1
 have hA' : ∀ c ∈ l, (Q9 10 c.pat).length ≤ 40 := fun c h => by simpa using List.all_eq_true.1 hc.2 c h
 have hrl := Z4b hA' l.length
 obtain ⟨ti, ok, c, ts, e, h1, h2, h3⟩ := V0c (ww hww) (wl hww) (ws hww) (lst := l) (pick := pick) 300 (Nat.le_refl _) NN NN (Q1v l l.length) [⟨[], t⟩] (by decide) (by decide) (by omega) (Z6k ht) (X2r (ww hww) hP hll)
 rw [h1, show [Y2.mk [] t] = [Z3.mk [] t].map toD from rfl, h2]
 simp only [Option.bind_some]
 rcases h3 with ⟨rfl, rfl, lf, rfl, rfl, hd, hsz, hq⟩ | ⟨rfl, he⟩
 ·have e : ilt ((lf : Nat) : Int) 0 = false := by rw [X3]; omega
  simp only [Bool.not_true, e, Bool.false_eq_true, if_false]
  rw [X93 300 NN ti hd (by decide)]
  exact ⟨fun t h => by simp only [Option.bind_some, Option.some.injEq, Prod.mk.injEq] at h; rw [← h.1]; exact hq, ti, true, rfl, rfl, by simp, hd, by omega⟩
 ·have e : ilt e 0 = true := by rw [W7]; exact he
  simp only [Bool.not_false, e, if_true]
  exact Comp.no rfl rfl
end Go.Proofs.YtbdkbdafhlcilaaGreat
namespace Go.Proofs.YtbdkbdafhlcilaaGreat
open Go Go.RowKit
theorem W46 {α : Type} {l : List α} {k : Nat} {x : α} (h : l[k]? = some x) : l.drop k = x :: l.drop (k + 1) := by
 obtain ⟨hk, rfl⟩ := List.getElem?_eq_some_iff.1 h
 exact List.drop_eq_getElem_cons hk
end Go.Proofs.YtbdkbdafhlcilaaGreat
namespace Go.Proofs.YtbdkbdafhlcilaaGreat
open Go Go.RowKit
theorem Z75 {f : Q0 → Z4 → Option (List Q7j)} : ∀ (a : List Q0) (vs : List Z4) (c : Q0) (u : Z4), a.length = vs.length → Q1c f (a ++ [c]) (vs ++ [u]) = (Q1c f a vs).bind fun l1 => (f c u).map (l1 ++ ·)
 | [], [], c, u, _ => by
  simp only [List.nil_append, Q1c, Option.bind_some]
  cases f c u <;> simp
 | p :: a, v :: vs, c, u, h => by
  simp only [List.cons_append, Q1c]
  rw [Z75 a vs c u (by simpa using h)]
  cases f p v with
  | none => rfl
  | some l =>
   simp only
   cases Q1c f a vs with
   | none => rfl
   | some l1 =>
    simp only [Option.bind_some]
    cases f c u <;> simp
 | [], _ :: _, _, _, h => by simp at h
 | _ :: _, [], _, _, h => by simp at h
theorem X42 {α β : Type} {l : List α} {f : α → Option β} (h : ∀ x ∈ l, f x = none) : l.findSome? f = none := List.findSome?_eq_none_iff.2 h
theorem X16 {α β γ : Type} (l : List α) (g : α → β) (f : β → Option γ) : (l.map g).findSome? f = l.findSome? fun x => f (g x) := by
 induction l with
 | nil => rfl
 | cons a l ih => simp only [List.map_cons, List.findSome?_cons, ih]
theorem Z1k {α β : Type} {l : List α} {f g : α → Option β} (h : ∀ x ∈ l, f x = g x) : l.findSome? f = l.findSome? g := by
 induction l with
 | nil => rfl
 | cons a l ih => simp only [List.findSome?_cons]; rw [h a (by simp), ih fun x hx => h x (by simp [hx])]
theorem X43 {α β γ : Type} (l : List α) (f : α → Option β) (g : β → γ) : (l.findSome? fun x => (f x).map g) = (l.findSome? f).map g := by
 induction l with
 | nil => rfl
 | cons a l ih =>
  simp only [List.findSome?_cons]
  cases f a with
  | none => simpa using ih
  | some x => rfl
theorem X71 {f : Q0 → Z4 → Option (List Q7j)} (l : List Q0) (vs : List Z4) (u : Z4) : ∀ out : List (List Q0), (∀ a ∈ out, a.length = vs.length) →
  (tupD out l).findSome? (fun ks => Q1c f ks (vs ++ [u])) = (out.findSome? fun a => Q1c f a vs).bind fun l1 => (l.findSome? fun c => f c u).map (l1 ++ ·)
 | [], _ => by simp [tupD]
 | a :: out, h => by
  have e : tupD (a :: out) l = (l.map fun c => a ++ [c]) ++ tupD out l := by simp [tupD]
  rw [e, List.findSome?_append, X16, X71 l vs u out fun x hx => h x (by simp [hx])]
  have e2 : (l.findSome? fun x => Q1c f (a ++ [x]) (vs ++ [u])) = (Q1c f a vs).bind fun l1 => (l.findSome? fun c => f c u).map (l1 ++ ·) := by
   rw [Z1k fun x _ => Z75 a vs x u (h a (by simp))]
   cases Q1c f a vs with
   | none => simp only [Option.bind_none]; exact X42 fun _ _ => rfl
   | some l1 => simp only [Option.bind_some]; exact X43 l _ _
  rw [e2, List.findSome?_cons]
  cases Q1c f a vs with
  | none => simp
  | some l1 =>
   simp only [Option.bind_some]
   cases l.findSome? fun c => f c u with
   | none => simp
   | some l2 => simp
def X17 (f : Q0 → Z4 → Option (List Q7j)) : List (List Q0) → List Z4 → Option (List Q7j)
 | [], _ => some []
 | _ :: _, [] => none
 | l :: ls, v :: vs => match l.findSome? fun c => f c v with
  | none => none
  | some r => match X17 f ls vs with
   | none => none
   | some m => some (r ++ m)
theorem X26 {f : Q0 → Z4 → Option (List Q7j)} : ∀ (ls : List (List Q0)) (vs : List Z4) (vs0 : List Z4) (out : List (List Q0)), ls.length = vs.length → (∀ a ∈ out, a.length = vs0.length) →
  (ls.foldl tupD out).findSome? (fun ks => Q1c f ks (vs0 ++ vs)) = (out.findSome? fun a => Q1c f a vs0).bind fun l1 => (X17 f ls vs).map (l1 ++ ·)
 | [], [], vs0, out, _, _ => by
  simp only [List.foldl_nil, List.append_nil, X17]
  cases out.findSome? fun a => Q1c f a vs0 <;> simp
 | l :: ls, v :: vs, vs0, out, h, ho => by
  rw [List.foldl_cons]
  have := X26 (f := f) ls vs (vs0 ++ [v]) (tupD out l) (by simpa using h) (fun a ha => by
   simp only [tupD, List.mem_flatMap, List.mem_map] at ha
   obtain ⟨q, hq, c, _, rfl⟩ := ha
   simp [ho q hq])
  rw [List.append_assoc, List.singleton_append] at this
  rw [this, X71 l vs0 v out ho]
  cases out.findSome? fun a => Q1c f a vs0 with
  | none => rfl
  | some l1 =>
   simp only [Option.bind_some, X17]
   cases l.findSome? fun c => f c v with
   | none => rfl
   | some l2 =>
    simp only [Option.map_some, Option.bind_some]
    cases X17 f ls vs with
    | none => rfl
    | some l3 => simp
 | [], _ :: _, _, _, h, _ => by simp at h
 | _ :: _, [], _, _, h, _ => by simp at h
theorem Z76 {f g : Q0 → Z4 → Option (List Q7j)} {s : Q0 → List Q0} : ∀ (ps : List Q0) (vs : List Z4), (∀ (j : Nat) (p : Q0) (v : Z4), ps[j]? = some p → vs[j]? = some v → g p v = (s p).findSome? fun c => f c v) → Q1c g ps vs = X17 f (ps.map s) vs
 | [], _, _ => rfl
 | _ :: _, [], _ => rfl
 | p :: ps, v :: vs, h => by
  simp only [Q1c, List.map_cons, X17]
  rw [h 0 p v rfl rfl, Z76 ps vs fun j p' v' h1 h2 => h (j + 1) p' v' (by simpa using h1) (by simpa using h2)]
  cases (s p).findSome? fun c => f c v with
  | none => rfl
  | some l =>
   simp only
   cases X17 f (ps.map s) vs <;> rfl
theorem X8u {w : List Q3} (hw : WW w) (hS : WS w) : ∀ (d e : Nat) (t : Q2) (p : Q0) (v : Z4), t ∈ tys w → J2 w d t p = true → Q1u w e t v → (Q9 d p).findSome? (fun q => Z9 d q v) = Z9 d p v := by
 intro d
 induction d with
 | zero => intro e t p v _ h; simp [J2] at h
 | succ d ih =>
  intro e t p v ht g hv
  have hn := Q0c g
  obtain ⟨ho, hl⟩ := Q18 hn
  by_cases h5 : p.op = 5
  ·obtain ⟨a, b, hab, hkt⟩ := kid0 h5 hl
   have ga := Q0p g (k := 0) (a := t) (q := a) (by rw [hkt]; rfl) (by rw [hab]; rfl)
   have gb := Q0p g (k := 1) (a := t) (q := b) (by rw [hkt]; rfl) (by rw [hab]; rfl)
   have e1 : Q9 (d + 1) p = Q9 d a ++ Q9 d b := by simp [Q9, h5, hab]
   rw [e1, List.findSome?_append]
   have mono : ∀ x, J2 w d t x = true → (Q9 d x).findSome? (fun q => Z9 (d + 1) q v) = Z9 d x v := fun x gx => by
    rw [Z1k fun q hq => (Z3c d t q (Q93 d t x q gx hq)).2.2.2 v]
    exact ih e t x v ht gx hv
   rw [mono a ga, mono b gb]
   rw [Z9, if_neg (by omega), if_neg (by omega), if_neg (by omega), if_pos h5, hab]
   simp only
   cases Z9 d a v <;> simp
  ·have e1 : Q9 (d + 1) p = ((p.kids.map (Q9 d)).foldl tupD [[]]).map (Q43 p) := by simp [Q9, h5]
   rw [e1, X16]
   by_cases h4 : p.op = 4
   ·have hc := Q8i ho h4
    have hd : t.data ≠ -1 := fun hd => by rw [hS.int t ht hd] at hc; cases hc
    have hm : ∀ ks, Z9 (d + 1) (Q43 p ks) v = if p.ctor = v.ctor then Q1c (Z9 d) ks v.kids else none := fun ks => by
     rw [Z9, if_neg (by simp [Q43]; omega), if_neg (by simp [Q43]; omega), if_neg (by simp [Q43]; omega), if_neg (by simpa [Q43] using h5), if_neg (by simp [Q43]; omega)]
     rfl
    have hm2 : Z9 (d + 1) p v = if p.ctor = v.ctor then Q1c (Z9 d) p.kids v.kids else none := by
     rw [Z9, if_neg (by omega), if_neg (by omega), if_neg (by omega), if_neg h5, if_neg (by omega)]
    rw [Z1k fun ks _ => hm ks, hm2]
    by_cases hcv : p.ctor = v.ctor
    ·simp only [if_pos hcv]
     cases e with
     | zero => exact hv.elim
     | succ e =>
     rw [Q1u, if_neg hd] at hv
     obtain ⟨_, _, hvl, hvk⟩ := hv
     have hkt : V4 w t p = Y6 w t v.ctor := by rw [V4, if_pos h4, hcv]
     have hlen : (p.kids.map (Q9 d)).length = v.kids.length := by rw [List.length_map, hl, hkt, hvl]
     have := X26 (f := Z9 d) (p.kids.map (Q9 d)) v.kids [] [[]] hlen (by simp)
     rw [List.nil_append] at this
     rw [this]
     simp only [List.findSome?_cons, Q1c, Option.bind_some]
     rw [Z76 (f := Z9 d) (g := Z9 d) (s := Q9 d) p.kids v.kids fun j q u hq hu => ?_]
     ·cases X17 (Z9 d) (p.kids.map (Q9 d)) v.kids <;> simp
     ·have hj := (List.getElem?_eq_some_iff.1 hq).1
      obtain ⟨a, ha⟩ : ∃ a, (Y6 w t v.ctor)[j]? = some a := ⟨_, List.getElem?_eq_getElem (by rw [hkt] at hl; omega)⟩
      exact (ih e a q u (Q72 (hw.ty t ht) ht ho _ (by rw [hkt]; exact List.mem_of_getElem? ha)) (Q0p g (by rw [hkt]; exact ha) hq) (hvk j a u ha hu)).symm
    ·simp only [if_neg hcv]
     exact X42 fun _ _ => rfl
   ·by_cases h6 : p.op = 6
    ·obtain ⟨a, hk, hkt⟩ := W2w h6 hl
     have ga := Q0p g (k := 0) (a := t) (q := a) (by rw [hkt]; rfl) (by rw [hk]; rfl)
     have e2 : ((p.kids.map (Q9 d)).foldl tupD [[]]) = (Q9 d a).map fun c => [c] := by
      rw [hk]; simp [tupD]
     rw [e2, X16]
     have hm : ∀ c, Z9 (d + 1) (Q43 p [c]) v = (Z9 d c v).map (fun l => ⟨p.var, v⟩ :: l) := fun c => by
      rw [Z9, if_neg (by simp [Q43]; omega), if_neg (by simp [Q43]; omega), if_neg (by simp [Q43]; omega), if_neg (by simp [Q43]; omega), if_pos (by simpa [Q43] using h6)]
      rfl
     rw [Z1k fun c _ => hm c, X43, ih e t a v ht ga hv]
     rw [Z9, if_neg (by omega), if_neg (by omega), if_neg (by omega), if_neg h5, if_pos h6, hk]
    ·have hk : p.kids = [] := by
      rw [V4, if_neg h4, if_neg h5, if_neg h6] at hl
      exact List.eq_nil_of_length_eq_zero hl
     rw [hk]
     have : Q43 p [] = p := by rw [← hk]; cases p; rfl
     simp only [List.map_nil, List.foldl_nil, List.findSome?_cons, this]
     cases Z9 (d + 1) p v <;> rfl
theorem X5b {w : List Q3} {t : Q2} {path : List Int} {v : Z4} : ∀ (d : Nat) (p : Q0), asOk d p → J2 w 12 t p = true → Z9 12 p v = (Z9 12 (Q1z d p path).2 v).map (((Q1z d p path).1.map fun b => Q7j.mk b.var v) ++ ·) := by
 intro d
 induction d with
 | zero => intro p h; exact h.elim
 | succ d ih =>
  intro p h g
  rw [Q2l]
  by_cases h6 : p.op = 6
  ·obtain ⟨q, hq, hd⟩ := h h6
   have ga : J2 w 11 t q = true := Q0p g (k := 0) (a := t) (by rw [V4, if_neg (by omega), if_neg (by omega), if_pos h6]; rfl) (by rw [hq]; rfl)
   rw [if_pos h6, hq]
   simp only [List.headD_cons]
   have e1 : Z9 12 p v = (Z9 12 q v).map (fun l => ⟨p.var, v⟩ :: l) := by
    rw [(Z3c 11 t q ga).2.2.2 v, Z9, if_neg (by omega), if_neg (by omega), if_neg (by omega), if_neg (by omega), if_pos h6, hq]
   rw [e1, ih q hd (Q6j 11 t q ga)]
   cases Z9 12 (Q1z d q path).2 v <;> simp
  ·rw [if_neg h6]
   by_cases h2 : p.op = 2
   ·rw [if_pos h2]
    have e1 : Z9 12 p v = some [⟨p.var, v⟩] := by rw [Z9, if_neg (by omega), if_pos h2]
    have e2 : Z9 12 anyP v = some [] := X4r 11 v
    rw [e1]
    simp only
    rw [e2]
    rfl
   ·rw [if_neg h2]
    simp only [List.map_nil, List.nil_append]
    cases Z9 12 p v <;> rfl
theorem W96 {w : List Q3} {t : Q2} {p : Q0} (path : List Int) (v : Z4) (g : J2 w 12 t p = true) : Z9 12 p v = (Z9 12 (Q65 p path).2 v).map (((Q65 p path).1.map fun b => Q7j.mk b.var v) ++ ·) :=
 X5b 12 p (Z7i 12 t p g) g
end Go.Proofs.YtbdkbdafhlcilaaGreat
namespace Go.Proofs.YtbdkbdafhlcilaaGreat
open Go Go.RowKit
def fitP : Q0 → Z4 → Bool
 | ⟨op, ctor, n, m, _, kids⟩, v => if op = 1 then true else if op = 3 then decide (n ≤ v.n ∧ v.n ≤ m) else decide (ctor = v.ctor) && fitPs kids v.kids
where fitPs : List Q0 → List Z4 → Bool
 | [], [] => true
 | p :: ps, v :: vs => fitP p v && fitPs ps vs
 | _, _ => false
abbrev fitL := fitP.fitPs
theorem Q86 {p : Q0} (h : p.op = 1) (v : Z4) : fitP p v = true := by
 cases p; simp only at h; subst h; simp [fitP]
theorem Q7a {p : Q0} (h : p.op = 3) (v : Z4) : fitP p v = decide (p.n ≤ v.n ∧ v.n ≤ p.m) := by
 cases p; simp only at h; subst h; simp [fitP]
theorem Q39 {p : Q0} (h : p.op = 4) (v : Z4) : fitP p v = (decide (p.ctor = v.ctor) && fitL p.kids v.kids) := by
 cases p; simp only at h; subst h; simp [fitP]
@[simp] theorem W87 : fitL [] [] = true := by simp [fitP.fitPs]
@[simp] theorem Q87 (p : Q0) (ps : List Q0) (v : Z4) (vs : List Z4) : fitL (p :: ps) (v :: vs) = (fitP p v && fitL ps vs) := by simp [fitP.fitPs]
def Q0d (w : List Q3) : Nat → Q2 → Q0 → Prop
 | 0, _, _ => False
 | d + 1, t, p => p = Q0.mk 1 0 0 0 0 [] ∨ (∃ n m, p = Q0.mk 3 0 n m 0 [] ∧ t.data = -1 ∧ 0 ≤ n ∧ n ≤ m ∧ m ≤ 9) ∨
  (∃ c ks, p = Q0.mk 4 c 0 0 0 ks ∧ t.data ≠ -1 ∧ c ∈ X1 w t ∧ ks.length = (Y6 w t c).length ∧ ∀ (j : Nat) (a : Q2) (q : Q0), (Y6 w t c)[j]? = some a → ks[j]? = some q → Q0d w d a q)
theorem Z1e (w : List Q3) (d : Nat) (t : Q2) : Q0d w (d + 1) t (Q0.mk 1 0 0 0 0 []) := .inl rfl
theorem Q7w {w : List Q3} : ∀ (d : Nat) (t : Q2) (p : Q0), Q0d w d t p → Q0d w (d + 1) t p
 | 0, _, _, h => h.elim
 | d + 1, t, p, h => by
  rcases h with h | h | ⟨c, ks, e, h1, h2, h3, h4⟩
  ·exact .inl h
  ·exact .inr (.inl h)
  ·exact .inr (.inr ⟨c, ks, e, h1, h2, h3, fun j a q ha hq => Q7w d a q (h4 j a q ha hq)⟩)
theorem W2h {w : List Q3} {d e : Nat} {t : Q2} {p : Q0} (h : Q0d w d t p) (he : d ≤ e) : Q0d w e t p := by
 induction he with
 | refl => exact h
 | step _ ih => exact Q7w _ t p ih
def Q6z (f : Q0 → Q0 → Option Q0) : List Q0 → List Q0 → Option (List Q0)
 | a :: as, b :: bs => (f a b).bind fun x => (Q6z f as bs).map (x :: ·)
 | _, _ => some []
def Q44 : Nat → Q0 → Q0 → Option Q0
 | 0, _, _ => none
 | d + 1, a, b =>
  if a.op = 1 then some b else if b.op = 1 then some a
  else if a.op = 3 then (if max a.n b.n ≤ min a.m b.m then some (Q0.mk 3 0 (max a.n b.n) (min a.m b.m) 0 []) else none)
  else if a.ctor = b.ctor then (Q6z (Q44 d) a.kids b.kids).map (fun ks => Q0.mk 4 a.ctor 0 0 0 ks) else none
theorem X37 {f : Q0 → Q0 → Option Q0} : ∀ (as bs : List Q0) (vs : List Z4), as.length = vs.length → bs.length = vs.length →
  (∀ (j : Nat) (a b : Q0) (v : Z4), as[j]? = some a → bs[j]? = some b → vs[j]? = some v → ((fitP a v = true ∧ fitP b v = true) ↔ ∃ m, f a b = some m ∧ fitP m v = true)) →
  ((fitL as vs = true ∧ fitL bs vs = true) ↔ ∃ ms, Q6z f as bs = some ms ∧ fitL ms vs = true)
 | [], [], [], _, _, _ => by simp [Q6z]
 | a :: as, b :: bs, v :: vs, h1, h2, h => by
  have h0 := h 0 a b v rfl rfl rfl
  have ih := X37 as bs vs (by simpa using h1) (by simpa using h2) fun j x y z e1 e2 e3 => h (j + 1) x y z e1 e2 e3
  simp only [Q87, Bool.and_eq_true, Q6z]
  constructor
  ·rintro ⟨⟨g1, g2⟩, g3, g4⟩
   obtain ⟨m, e1, e2⟩ := h0.1 ⟨g1, g3⟩
   obtain ⟨ms, e3, e4⟩ := ih.1 ⟨g2, g4⟩
   exact ⟨m :: ms, by simp [e1, e3], by simp [e2, e4]⟩
  ·rintro ⟨ms, e1, e2⟩
   cases hm : f a b with
   | none => simp [hm] at e1
   | some m =>
    cases hms : Q6z f as bs with
    | none => simp [hm, hms] at e1
    | some ms' =>
     simp [hm, hms] at e1
     subst e1
     simp only [Q87, Bool.and_eq_true] at e2
     obtain ⟨g1, g3⟩ := h0.2 ⟨m, hm, e2.1⟩
     obtain ⟨g2, g4⟩ := ih.2 ⟨ms', hms, e2.2⟩
     exact ⟨⟨g1, g2⟩, g3, g4⟩
 | [], [], _ :: _, h, _, _ => by simp at h
 | [], _ :: _, [], _, h, _ => by simp at h
 | [], _ :: _, _ :: _, h, _, _ => by simp at h
 | _ :: _, [], [], h, _, _ => by simp at h
 | _ :: _, [], _ :: _, _, h, _ => by simp at h
 | _ :: _, _ :: _, [], h, _, _ => by simp at h
theorem Q7p {w : List Q3} {e : Nat} {t : Q2} {v : Z4} (h : Q1u w e t v) (hd : t.data ≠ -1) : ∃ e', e = e' + 1 ∧ v.ctor ∈ X1 w t ∧ v.kids.length = (Y6 w t v.ctor).length ∧ ∀ (j : Nat) (a : Q2) (x : Z4), (Y6 w t v.ctor)[j]? = some a → v.kids[j]? = some x → Q1u w e' a x := by
 cases e with
 | zero => exact h.elim
 | succ e =>
  simp only [Q1u, if_neg hd] at h
  exact ⟨e, rfl, h.2.1, h.2.2.1, h.2.2.2⟩
theorem W3q {w : List Q3} {e : Nat} {t : Q2} {v : Z4} (h : Q1u w e t v) (hd : t.data = -1) : 0 ≤ v.n ∧ v.n ≤ 9 := by
 cases e with
 | zero => exact h.elim
 | succ e =>
  simp only [Q1u, if_pos hd] at h
  exact ⟨h.2.1, h.2.2.1⟩
theorem Q42 {α : Type} {l : List α} {n j : Nat} (h : l.length = n) (hj : j < n) : ∃ x, l[j]? = some x := ⟨l[j]'(by omega), by simp⟩
theorem W6r {w : List Q3} : ∀ (d e : Nat) (t : Q2) (a b : Q0) (x : Nat), Q0d w x t a → Q0d w d t b → ∀ v, Q1u w e t v → ((fitP a v = true ∧ fitP b v = true) ↔ ∃ m, Q44 d a b = some m ∧ fitP m v = true) := by
 intro d
 induction d with
 | zero => intro e t a b x _ h; exact h.elim
 | succ d ih =>
  intro e t a b x ha hb v hv
  cases x with
  | zero => exact ha.elim
  | succ x =>
  rcases ha with rfl | ⟨n, m, rfl, ht, h0, h1, h2⟩ | ⟨c, ks, rfl, ht, hc, hl, hk⟩
  ·simp [Q44, Q86]
  ·rcases hb with rfl | ⟨n', m', rfl, _, h0', h1', h2'⟩ | ⟨c', ks', rfl, ht', _⟩
   ·simp [Q44, Q86]
   ·rw [Q7a rfl, Q7a rfl]
    simp only [Q44]
    have e1 : ¬ (3 : Int) = 1 := by decide
    simp only [e1, if_false, if_true, decide_eq_true_eq]
    split
    ·rename_i hle
     constructor
     ·intro h
      exact ⟨_, rfl, by rw [Q7a rfl]; simp only [decide_eq_true_eq]; omega⟩
     ·rintro ⟨m2, e2, h⟩
      cases e2
      rw [Q7a rfl] at h
      simp only [decide_eq_true_eq] at h
      omega
    ·rename_i hle
     constructor
     ·intro h; exfalso; omega
     ·rintro ⟨_, e2, _⟩; cases e2
   ·exact absurd ht ht'
  ·rcases hb with rfl | ⟨n', m', rfl, ht', _⟩ | ⟨c', ks', rfl, _, hc', hl', hk'⟩
   ·simp [Q44, Q86]
   ·exact absurd ht' ht
   ·rw [Q39 rfl, Q39 rfl]
    simp only [Q44]
    have e1 : ¬ (4 : Int) = 1 := by decide
    have e3 : ¬ (4 : Int) = 3 := by decide
    simp only [e1, e3, if_false, Bool.and_eq_true, decide_eq_true_eq]
    obtain ⟨e', rfl, gv1, gv2, gv3⟩ := Q7p hv ht
    by_cases hcc : c = c'
    ·subst hcc
     simp only [if_true]
     by_cases hcv : c = v.ctor
     ·subst hcv
      have hL := X37 (f := Q44 d) ks ks' v.kids (hl.trans gv2.symm) (hl'.trans gv2.symm) fun j p q u e1 e2 e3 => by
       have hj : j < (Y6 w t v.ctor).length := by rw [← gv2]; exact (List.getElem?_eq_some_iff.1 e3).1
       obtain ⟨y, hy⟩ := Q42 (l := Y6 w t v.ctor) rfl hj
       exact ih e' y p q x (hk j y p hy e1) (hk' j y q hy e2) u (gv3 j y u hy e3)
      constructor
      ·rintro ⟨⟨_, g1⟩, _, g2⟩
       obtain ⟨ms, e1, e2⟩ := hL.1 ⟨g1, g2⟩
       exact ⟨_, by rw [e1]; rfl, by rw [Q39 rfl]; simp [e2]⟩
      ·rintro ⟨m, e1, e2⟩
       cases hm : Q6z (Q44 d) ks ks' with
       | none => rw [hm] at e1; cases e1
       | some ms =>
        rw [hm] at e1
        cases e1
        rw [Q39 rfl] at e2
        simp only [Bool.and_eq_true] at e2
        obtain ⟨g1, g2⟩ := hL.2 ⟨ms, hm, e2.2⟩
        exact ⟨⟨rfl, g1⟩, rfl, g2⟩
     ·constructor
      ·rintro ⟨⟨g, _⟩, _⟩; exact absurd g hcv
      ·rintro ⟨m, e1, e2⟩
       cases hm : Q6z (Q44 d) ks ks' with
       | none => rw [hm] at e1; cases e1
       | some ms =>
        rw [hm] at e1
        cases e1
        rw [Q39 rfl] at e2
        simp only [Bool.and_eq_true, decide_eq_true_eq] at e2
        exact absurd e2.1 hcv
    ·simp only [if_neg hcc]
     constructor
     ·rintro ⟨⟨g1, _⟩, g2, _⟩; exact absurd (g1.trans g2.symm) hcc
     ·rintro ⟨_, e1, _⟩; cases e1
end Go.Proofs.YtbdkbdafhlcilaaGreat
namespace Go.Proofs.YtbdkbdafhlcilaaGreat
open Go Go.RowKit
def kmD (fm : Q2 → Q0 → Q0 → List Q0) (fj : Q0 → Q0 → Option Q0) : List Q2 → List Q0 → List Q0 → List (List Q0)
 | t :: ts, a :: as, b :: bs => (fm t a b).map (fun x => x :: as) ++ (match fj a b with | none => [] | some m => (kmD fm fj ts as bs).map (m :: ·))
 | _, _, _ => []
def X07 (n m n' m' : Int) : List Q0 :=
 (if n ≤ min m (n' - 1) then [Q0.mk 3 0 n (min m (n' - 1)) 0 []] else []) ++ (if max n (m' + 1) ≤ m then [Q0.mk 3 0 (max n (m' + 1)) m 0 []] else [])
def cmD (w : List Q3) (fm : Q2 → Q0 → Q0 → List Q0) (fj : Q0 → Q0 → Option Q0) (t : Q2) (a b : Q0) : List Q0 :=
 if a.ctor = b.ctor then (kmD fm fj (Y6 w t a.ctor) a.kids b.kids).map (fun ks => Q0.mk 4 a.ctor 0 0 0 ks) else [a]
def Q8f (w : List Q3) (t : Q2) (c : Int) : Q0 := Q0.mk 4 c 0 0 0 ((Y6 w t c).map fun _ => Q0.mk 1 0 0 0 0 [])
def Q14 (w : List Q3) : Nat → Q2 → Q0 → Q0 → List Q0
 | 0, _, _, _ => []
 | d + 1, t, a, b => if b.op = 1 then [] else if b.op = 3 then (if a.op = 1 then X07 0 9 b.n b.m else X07 a.n a.m b.n b.m)
  else if a.op = 1 then (X1 w t).flatMap fun c => cmD w (Q14 w d) (Q44 d) t (Q8f w t c) b
  else cmD w (Q14 w d) (Q44 d) t a b
theorem W9j {fm : Q2 → Q0 → Q0 → List Q0} {fj : Q0 → Q0 → Option Q0} : ∀ (ts : List Q2) (as bs : List Q0) (vs : List Z4), as.length = ts.length → bs.length = ts.length → vs.length = ts.length →
  (∀ (j : Nat) (t : Q2) (a b : Q0) (v : Z4), ts[j]? = some t → as[j]? = some a → bs[j]? = some b → vs[j]? = some v →
   ((fitP a v = true ∧ fitP b v = true) ↔ ∃ m, fj a b = some m ∧ fitP m v = true) ∧ ((fitP a v = true ∧ fitP b v = false) ↔ ∃ x ∈ fm t a b, fitP x v = true)) →
  ((fitL as vs = true ∧ fitL bs vs = false) ↔ ∃ ks ∈ kmD fm fj ts as bs, fitL ks vs = true)
 | [], [], [], [], _, _, _, _ => by simp [kmD]
 | t :: ts, a :: as, b :: bs, v :: vs, h1, h2, h3, h => by
  obtain ⟨hj, hm⟩ := h 0 t a b v rfl rfl rfl rfl
  have ih := W9j ts as bs vs (by simpa using h1) (by simpa using h2) (by simpa using h3) fun j x y z u e1 e2 e3 e4 => h (j + 1) x y z u e1 e2 e3 e4
  simp only [Q87, Bool.and_eq_true, kmD, List.mem_append, List.mem_map]
  constructor
  ·rintro ⟨⟨g1, g2⟩, g3⟩
   cases hb : fitP b v with
   | false =>
    obtain ⟨x, hx, gx⟩ := hm.1 ⟨g1, hb⟩
    exact ⟨x :: as, .inl ⟨x, hx, rfl⟩, by simp [gx, g2]⟩
   | true =>
    rw [hb] at g3
    obtain ⟨m, e1, e2⟩ := hj.1 ⟨g1, hb⟩
    obtain ⟨ks, hk, gk⟩ := ih.1 ⟨g2, by simpa using g3⟩
    refine ⟨m :: ks, .inr ?_, by simp [e2, gk]⟩
    rw [e1]
    exact List.mem_map.2 ⟨ks, hk, rfl⟩
  ·rintro ⟨ks, hk | hk, gk⟩
   ·obtain ⟨x, hx, rfl⟩ := hk
    simp only [Q87, Bool.and_eq_true] at gk
    obtain ⟨g1, g2⟩ := hm.2 ⟨x, hx, gk.1⟩
    exact ⟨⟨g1, gk.2⟩, by simp [g2]⟩
   ·cases e1 : fj a b with
    | none => rw [e1] at hk; simp at hk
    | some m =>
     rw [e1] at hk
     obtain ⟨ks', hk', rfl⟩ := List.mem_map.1 hk
     simp only [Q87, Bool.and_eq_true] at gk
     obtain ⟨g1, g2⟩ := hj.2 ⟨m, e1, gk.1⟩
     obtain ⟨g3, g4⟩ := ih.2 ⟨ks', hk', gk.2⟩
     exact ⟨⟨g1, g3⟩, by simp [g4]⟩
 | [], _ :: _, _, _, h, _, _, _ => by simp at h
 | [], [], _ :: _, _, _, h, _, _ => by simp at h
 | [], [], [], _ :: _, _, _, h, _ => by simp at h
 | _ :: _, [], _, _, h, _, _, _ => by simp at h
 | _ :: _, _ :: _, [], _, _, h, _, _ => by simp at h
 | _ :: _, _ :: _, _ :: _, [], _, _, h, _ => by simp at h
theorem X7b {n m n' m' : Int} {v : Z4} : ((n ≤ v.n ∧ v.n ≤ m) ∧ ¬ (n' ≤ v.n ∧ v.n ≤ m')) ↔ ∃ x ∈ X07 n m n' m', fitP x v = true := by
 simp only [X07, List.mem_append]
 constructor
 ·rintro ⟨h1, h2⟩
  by_cases h : n' ≤ v.n
  ·refine ⟨Q0.mk 3 0 (max n (m' + 1)) m 0 [], .inr ?_, ?_⟩
   ·rw [if_pos (by omega)]; simp
   ·rw [Q7a rfl]; simp only [decide_eq_true_eq]; omega
  ·refine ⟨Q0.mk 3 0 n (min m (n' - 1)) 0 [], .inl ?_, ?_⟩
   ·rw [if_pos (by omega)]; simp
   ·rw [Q7a rfl]; simp only [decide_eq_true_eq]; omega
 ·rintro ⟨x, hx, h⟩
  rcases hx with hx | hx <;> split at hx <;> simp at hx <;> subst hx <;> rw [Q7a rfl] at h <;> simp only [decide_eq_true_eq] at h <;> omega
theorem W17 {w : List Q3} {t : Q2} {c : Int} {v : Z4} (hl : v.ctor = c → v.kids.length = (Y6 w t c).length) : fitP (Q8f w t c) v = decide (c = v.ctor) := by
 rw [Q8f, Q39 rfl]
 simp only
 by_cases h : c = v.ctor
 ·have hl := hl h.symm
  have : ∀ (l : List Q2) (vs : List Z4), vs.length = l.length → fitL (l.map fun _ => Q0.mk 1 0 0 0 0 []) vs = true := by
   intro l
   induction l with
   | nil => intro vs h; cases vs <;> simp at h ⊢
   | cons a l ih =>
    intro vs h
    cases vs with
    | nil => simp at h
    | cons v vs => simp [Q86, ih vs (by simpa using h)]
  simp [h, this _ _ (h ▸ hl)]
 ·simp [h]
theorem V02 {w : List Q3} {d e x : Nat} (hM : ∀ (e : Nat) (t : Q2) (a b : Q0) (x : Nat), Q0d w x t a → Q0d w d t b → ∀ v, Q1u w e t v → ((fitP a v = true ∧ fitP b v = false) ↔ ∃ y ∈ Q14 w d t a b, fitP y v = true))
  {t : Q2} {c c' : Int} {ks ks' : List Q0} (ht : t.data ≠ -1) (hl : ks.length = (Y6 w t c).length) (hk : ∀ (j : Nat) (a : Q2) (q : Q0), (Y6 w t c)[j]? = some a → ks[j]? = some q → Q0d w x a q)
  (hl' : ks'.length = (Y6 w t c').length) (hk' : ∀ (j : Nat) (a : Q2) (q : Q0), (Y6 w t c')[j]? = some a → ks'[j]? = some q → Q0d w d a q) {v : Z4} (hv : Q1u w e t v) :
  ((fitP (Q0.mk 4 c 0 0 0 ks) v = true ∧ fitP (Q0.mk 4 c' 0 0 0 ks') v = false) ↔ ∃ y ∈ cmD w (Q14 w d) (Q44 d) t (Q0.mk 4 c 0 0 0 ks) (Q0.mk 4 c' 0 0 0 ks'), fitP y v = true) := by
 rw [Q39 rfl, Q39 rfl]
 simp only [cmD, Bool.and_eq_true, decide_eq_true_eq, Bool.and_eq_false_iff, decide_eq_false_iff_not]
 obtain ⟨e', rfl, gv1, gv2, gv3⟩ := Q7p hv ht
 by_cases hcc : c = c'
 ·subst hcc
  simp only [if_true, List.mem_map]
  by_cases hcv : c = v.ctor
  ·subst hcv
   have hL := W9j (fm := Q14 w d) (fj := Q44 d) (Y6 w t v.ctor) ks ks' v.kids hl hl' gv2 fun j y p q u e1 e2 e3 e4 =>
    ⟨W6r d e' y p q x (hk j y p e1 e2) (hk' j y q e1 e3) u (gv3 j y u e1 e4), hM e' y p q x (hk j y p e1 e2) (hk' j y q e1 e3) u (gv3 j y u e1 e4)⟩
   constructor
   ·rintro ⟨⟨_, g1⟩, g2⟩
    rcases g2 with g2 | g2
    ·exact absurd rfl g2
    ·obtain ⟨k, hk1, hk2⟩ := hL.1 ⟨g1, g2⟩
     exact ⟨_, ⟨k, hk1, rfl⟩, by rw [Q39 rfl]; simp [hk2]⟩
   ·rintro ⟨_, ⟨k, hk1, rfl⟩, h⟩
    rw [Q39 rfl] at h
    simp only [Bool.and_eq_true] at h
    obtain ⟨g1, g2⟩ := hL.2 ⟨k, hk1, h.2⟩
    exact ⟨⟨rfl, g1⟩, .inr g2⟩
  ·constructor
   ·rintro ⟨⟨g, _⟩, _⟩; exact absurd g hcv
   ·rintro ⟨_, ⟨k, hk1, rfl⟩, h⟩
    rw [Q39 rfl] at h
    simp only [Bool.and_eq_true, decide_eq_true_eq] at h
    exact absurd h.1 hcv
 ·simp only [if_neg hcc, List.mem_singleton, exists_eq_left]
  rw [Q39 rfl]
  simp only [Bool.and_eq_true, decide_eq_true_eq]
  constructor
  ·exact fun h => h.1
  ·exact fun h => ⟨h, .inl fun e2 => hcc (h.1.trans e2.symm)⟩
theorem X32 {w : List Q3} : ∀ (d e : Nat) (t : Q2) (a b : Q0) (x : Nat), Q0d w x t a → Q0d w d t b → ∀ v, Q1u w e t v → ((fitP a v = true ∧ fitP b v = false) ↔ ∃ y ∈ Q14 w d t a b, fitP y v = true) := by
 intro d
 induction d with
 | zero => intro e t a b x _ h; exact h.elim
 | succ d ih =>
  intro e t a b x ha hb v hv
  cases x with
  | zero => exact ha.elim
  | succ x =>
  rcases hb with rfl | ⟨n', m', rfl, ht', _⟩ | ⟨c', ks', rfl, ht', hc', hl', hk'⟩
  ·simp [Q14, Q86]
  ·have e1 : ¬ (3 : Int) = 1 := by decide
   simp only [Q14, e1, if_false, if_true]
   rcases ha with rfl | ⟨n, m, rfl, _⟩ | ⟨c, ks, rfl, ht, _⟩
   ·simp only [if_true]
    rw [← X7b, Q86 rfl, Q7a rfl]
    have := W3q hv ht'
    simp only [true_and, decide_eq_false_iff_not]
    exact ⟨fun h => ⟨this, h⟩, fun h => h.2⟩
   ·simp only [e1, if_false]
    rw [← X7b, Q7a rfl, Q7a rfl]
    simp only [decide_eq_true_eq, decide_eq_false_iff_not]
   ·exact absurd ht' ht
  ·have e1 : ¬ (4 : Int) = 1 := by decide
   have e3 : ¬ (4 : Int) = 3 := by decide
   simp only [Q14, e1, e3, if_false]
   rcases ha with rfl | ⟨n, m, rfl, ht, _⟩ | ⟨c, ks, rfl, _, hc, hl, hk⟩
   ·simp only [if_true, List.mem_flatMap]
    obtain ⟨e', rfl, gv1, gv2, gv3⟩ := Q7p hv ht'
    have hcm : ∀ c ∈ X1 w t, ((fitP (Q8f w t c) v = true ∧ fitP (Q0.mk 4 c' 0 0 0 ks') v = false) ↔ ∃ y ∈ cmD w (Q14 w d) (Q44 d) t (Q8f w t c) (Q0.mk 4 c' 0 0 0 ks'), fitP y v = true) := fun c _ =>
     V02 (x := 1) ih ht' (by simp) (fun j a q ha hq => by
      rw [List.getElem?_map, ha] at hq
      cases hq
      exact Z1e w 0 a) hl' hk' hv
    have hw : ∀ c, fitP (Q8f w t c) v = decide (c = v.ctor) := fun c => W17 fun h => h ▸ gv2
    constructor
    ·rintro ⟨_, h⟩
     obtain ⟨y, hy, gy⟩ := (hcm v.ctor gv1).1 ⟨by rw [hw]; simp, h⟩
     exact ⟨y, ⟨v.ctor, gv1, hy⟩, gy⟩
    ·rintro ⟨y, ⟨c, hc, hy⟩, gy⟩
     exact ⟨Q86 rfl v, ((hcm c hc).2 ⟨y, hy, gy⟩).2⟩
   ·exact absurd ht ht'
   ·simp only [e1, if_false]
    exact V02 ih ht' hl hk hl' hk' hv
end Go.Proofs.YtbdkbdafhlcilaaGreat
namespace Go.Proofs.YtbdkbdafhlcilaaGreat
open Go Go.RowKit
def V1x (w : List Q3) (t : Q2) : Bool :=
 (decide (depP w t ≠ 0) || (X1 w t).all (fun k => (Y6 w t k).any (fun a => decide (depP w a = 0)))) && decide ((X1 w t).Nodup)
def chkE (w : List Q3) : Bool := (tys w).all (V1x w)
theorem W0l : J8.all chkE = true := by kernel_rfl
structure WE (w : List Q3) : Prop where
 e0 : ∀ t ∈ tys w, depP w t = 0 → ∀ k ∈ X1 w t, ∃ a ∈ Y6 w t k, depP w a = 0
 nd : ∀ t ∈ tys w, (X1 w t).Nodup
theorem we {w : List Q3} (h : w ∈ J8) : WE w := by
 have h := List.all_eq_true.1 W0l w h
 simp only [chkE, List.all_eq_true] at h
 refine ⟨fun t ht h0 k hk => ?_, fun t ht => ?_⟩
 ·have := h t ht
  simp only [V1x, Bool.and_eq_true, Bool.or_eq_true, decide_eq_true_eq, List.all_eq_true, List.any_eq_true] at this
  rcases this.1 with h1 | h1
  ·exact absurd h0 h1
  ·exact h1 k hk
 ·have := h t ht
  simp only [V1x, Bool.and_eq_true, decide_eq_true_eq] at this
  exact this.2
theorem X12 {w : List Q3} (hw : WW w) (he : WE w) : ∀ (e : Nat) (t : Q2) (v : Z4), t ∈ tys w → Q1u w e t v → depP w t ≠ 0
 | 0, _, _, _, h => h.elim
 | e + 1, t, v, ht, h => fun h0 => by
  by_cases hd : t.data = -1
  ·have := ((hw.ty t ht).ti hd).2; omega
  ·obtain ⟨e', e1, g1, g2, g3⟩ := Q7p h hd
   cases e1
   obtain ⟨a, ha, ha0⟩ := he.e0 t ht h0 _ g1
   obtain ⟨j, hj⟩ := List.mem_iff_getElem?.1 ha
   obtain ⟨x, hx⟩ := Q42 g2 (List.getElem?_eq_some_iff.1 hj).1
   exact X12 hw he e a x ((hw.ty t ht).at_ _ g1 a ha) (g3 j a x hj hx) ha0
def Q45 (w : List Q3) : Nat → Q2 → Q0 → Bool
 | 0, _, _ => false
 | d + 1, t, p => if p.op = 1 then decide (depP w t = 0) else if p.op = 4 then ((Y6 w t p.ctor).zip p.kids).any fun x => Q45 w d x.1 x.2 else false
theorem Z9x {w : List Q3} {d : Nat} {t : Q2} {c : Int} {ks : List Q0} : Q45 w (d + 1) t (Q0.mk 4 c 0 0 0 ks) = true ↔ ∃ (j : Nat) (a : Q2) (q : Q0), (Y6 w t c)[j]? = some a ∧ ks[j]? = some q ∧ Q45 w d a q = true := by
 have e1 : ¬ (4 : Int) = 1 := by decide
 simp only [Q45, e1, if_false, if_true, List.any_eq_true]
 constructor
 ·rintro ⟨x, hx, h⟩
  obtain ⟨j, hj⟩ := List.mem_iff_getElem?.1 hx
  rw [List.getElem?_zip_eq_some] at hj
  exact ⟨j, x.1, x.2, hj.1, hj.2, h⟩
 ·rintro ⟨j, a, q, h1, h2, h3⟩
  exact ⟨(a, q), List.mem_of_getElem? (i := j) (by rw [List.getElem?_zip_eq_some]; exact ⟨h1, h2⟩), h3⟩
theorem X4g {w : List Q3} (hw : WW w) (he : WE w) : ∀ (x e : Nat) (t : Q2) (p : Q0) (v : Z4), t ∈ tys w → Q0d w x t p → Q45 w x t p = true → Q1u w e t v → fitP p v = false
 | 0, _, _, _, _, _, h, _, _ => h.elim
 | x + 1, e, t, p, v, ht, hp, hem, hv => by
  rcases hp with rfl | ⟨n, m, rfl, _⟩ | ⟨c, ks, rfl, hd, hc, hl, hk⟩
  ·simp only [Q45, if_true, decide_eq_true_eq] at hem
   exact absurd hem (X12 hw he e t v ht hv)
  ·simp [Q45] at hem
  ·obtain ⟨j, a, q, h1, h2, h3⟩ := Z9x.1 hem
   rw [Q39 rfl]
   simp only
   by_cases hcv : c = v.ctor
   ·subst hcv
    obtain ⟨e', rfl, g1, g2, g3⟩ := Q7p hv hd
    obtain ⟨u, hu⟩ := Q42 g2 (List.getElem?_eq_some_iff.1 h1).1
    have hf := X4g hw he x e' a q u ((hw.ty t ht).at_ _ hc a (List.mem_of_getElem? h1)) (hk j a q h1 h2) h3 (g3 j a u h1 hu)
    have : ∀ (ps : List Q0) (vs : List Z4) (j : Nat), ps[j]? = some q → vs[j]? = some u → fitL ps vs = false := by
     intro ps
     induction ps with
     | nil => intro vs j h; simp at h
     | cons p ps ih =>
      intro vs j h h'
      cases vs with
      | nil => simp at h'
      | cons v vs =>
       cases j with
       | zero => simp at h h'; subst h; subst h'; simp [hf]
       | succ j => simp [ih vs j (by simpa using h) (by simpa using h')]
    simp [this ks v.kids j h2 hu]
   ·simp [hcv]
theorem X36 {f : Q0 → Q0 → Option Q0} : ∀ (as bs ms : List Q0), as.length = bs.length → Q6z f as bs = some ms → ms.length = as.length ∧ ∀ (j : Nat) (a b : Q0), as[j]? = some a → bs[j]? = some b → ∃ m, f a b = some m ∧ ms[j]? = some m
 | [], [], ms, _, h => by simp [Q6z] at h; subst h; simp
 | a :: as, b :: bs, ms, hl, h => by
  simp only [Q6z] at h
  cases hm : f a b with
  | none => simp [hm] at h
  | some m =>
   cases hr : Q6z f as bs with
   | none => simp [hm, hr] at h
   | some r =>
    simp [hm, hr] at h
    subst h
    obtain ⟨h1, h2⟩ := X36 as bs r (by simpa using hl) hr
    refine ⟨by simp [h1], fun j x y e1 e2 => ?_⟩
    cases j with
    | zero => simp at e1 e2; subst e1; subst e2; exact ⟨m, hm, rfl⟩
    | succ j => exact h2 j x y (by simpa using e1) (by simpa using e2)
 | [], _ :: _, _, h, _ => by simp at h
 | _ :: _, [], _, h, _ => by simp at h
theorem X35 {w : List Q3} : ∀ (d x : Nat) (t : Q2) (a b m : Q0), d ≤ x → Q0d w x t a → Q0d w d t b → Q44 d a b = some m → Q0d w x t m
 | 0, _, _, _, _, _, _, _, h, _ => h.elim
 | d + 1, 0, _, _, _, _, h, _, _, _ => by omega
 | d + 1, x + 1, t, a, b, m, hx, ha, hb, hm => by
  rcases ha with rfl | ⟨n, n2, rfl, ht, h0, h1, h2⟩ | ⟨c, ks, rfl, ht, hc, hl, hk⟩
  ·simp [Q44] at hm; subst hm; exact W2h hb hx
  ·rcases hb with rfl | ⟨n', m', rfl, _, h0', h1', h2'⟩ | ⟨c', ks', rfl, ht', _⟩
   ·simp [Q44] at hm; subst hm; exact .inr (.inl ⟨n, n2, rfl, ht, h0, h1, h2⟩)
   ·have e1 : ¬ (3 : Int) = 1 := by decide
    simp only [Q44, e1, if_false, if_true] at hm
    split at hm
    ·cases hm; exact .inr (.inl ⟨_, _, rfl, ht, by omega, by assumption, by omega⟩)
    ·cases hm
   ·exact absurd ht ht'
  ·rcases hb with rfl | ⟨n', m', rfl, ht', _⟩ | ⟨c', ks', rfl, _, hc', hl', hk'⟩
   ·simp [Q44] at hm; subst hm; exact .inr (.inr ⟨c, ks, rfl, ht, hc, hl, hk⟩)
   ·exact absurd ht' ht
   ·have e1 : ¬ (4 : Int) = 1 := by decide
    have e3 : ¬ (4 : Int) = 3 := by decide
    simp only [Q44, e1, e3, if_false] at hm
    split at hm
    ·rename_i hcc
     subst hcc
     obtain ⟨ms, h1, h2⟩ := Option.map_eq_some_iff.1 hm
     subst h2
     obtain ⟨g1, g2⟩ := X36 ks ks' ms (hl.trans hl'.symm) h1
     refine .inr (.inr ⟨c, ms, rfl, ht, hc, g1.trans hl, fun j a q ha hq => ?_⟩)
     obtain ⟨p, hp⟩ := Q42 hl (List.getElem?_eq_some_iff.1 ha).1
     obtain ⟨p', hp'⟩ := Q42 hl' (List.getElem?_eq_some_iff.1 ha).1
     obtain ⟨m, k1, k2⟩ := g2 j p p' hp hp'
     rw [hq] at k2
     cases k2
     exact X35 d x a p p' q (by omega) (hk j a p ha hp) (hk' j a p' ha hp') k1
    ·cases hm
theorem W9i {fm : Q2 → Q0 → Q0 → List Q0} {fj : Q0 → Q0 → Option Q0} : ∀ (ts : List Q2) (as bs : List Q0), as.length = ts.length → bs.length = ts.length → ∀ ks ∈ kmD fm fj ts as bs,
  ks.length = ts.length ∧ ∃ i, i < ts.length ∧ ∀ (j : Nat) (t : Q2) (a b q : Q0), ts[j]? = some t → as[j]? = some a → bs[j]? = some b → ks[j]? = some q → (j < i → fj a b = some q) ∧ (j = i → q ∈ fm t a b) ∧ (i < j → q = a)
 | [], as, bs, _, _, ks, h => by simp [kmD] at h
 | t :: ts, [], _, h, _, _, _ => by simp at h
 | t :: ts, _ :: _, [], _, h, _, _ => by simp at h
 | t :: ts, a :: as, b :: bs, h1, h2, ks, h => by
  simp only [kmD, List.mem_append, List.mem_map] at h
  rcases h with ⟨x, hx, rfl⟩ | h
  ·refine ⟨by simpa using h1, 0, by simp, fun j t' a' b' q e1 e2 e3 e4 => ⟨fun h => by omega, fun h => ?_, fun h => ?_⟩⟩
   ·subst h; simp at e1 e2 e3 e4; subst e1; subst e2; subst e3; subst e4; exact hx
   ·cases j with
    | zero => omega
    | succ j => simp at e2 e4; rw [e2] at e4; cases e4; rfl
  ·cases hm : fj a b with
   | none => rw [hm] at h; simp at h
   | some m =>
    rw [hm] at h
    obtain ⟨ks', hk', rfl⟩ := List.mem_map.1 h
    obtain ⟨g1, i, g2, g3⟩ := W9i ts as bs (by simpa using h1) (by simpa using h2) ks' hk'
    refine ⟨by simp [g1], i + 1, by simpa using g2, fun j t' a' b' q e1 e2 e3 e4 => ?_⟩
    cases j with
    | zero => simp at e2 e3 e4; subst e2; subst e3; subst e4; exact ⟨fun _ => hm, fun h => by omega, fun h => by omega⟩
    | succ j =>
     obtain ⟨k1, k2, k3⟩ := g3 j t' a' b' q (by simpa using e1) (by simpa using e2) (by simpa using e3) (by simpa using e4)
     exact ⟨fun h => k1 (by omega), fun h => k2 (by omega), fun h => k3 (by omega)⟩
theorem W4d {w : List Q3} {d x : Nat} {t : Q2} (hx : d + 1 ≤ x) (hM : ∀ (t : Q2) (a b : Q0), Q0d w x t a → Q0d w d t b → ∀ y ∈ Q14 w d t a b, Q0d w x t y) (ht : t.data ≠ -1) {c c' : Int} {ks ks' : List Q0} (hc : c ∈ X1 w t)
  (hl : ks.length = (Y6 w t c).length) (hk : ∀ (j : Nat) (a : Q2) (q : Q0), (Y6 w t c)[j]? = some a → ks[j]? = some q → Q0d w x a q)
  (hl' : ks'.length = (Y6 w t c').length) (hk' : ∀ (j : Nat) (a : Q2) (q : Q0), (Y6 w t c')[j]? = some a → ks'[j]? = some q → Q0d w d a q) :
  ∀ y ∈ cmD w (Q14 w d) (Q44 d) t (Q0.mk 4 c 0 0 0 ks) (Q0.mk 4 c' 0 0 0 ks'), Q0d w (x + 1) t y := fun y hy => by
 simp only [cmD] at hy
 split at hy
 ·rename_i hcc
  subst hcc
  obtain ⟨k, hk1, rfl⟩ := List.mem_map.1 hy
  obtain ⟨g1, i, g2, g3⟩ := W9i (Y6 w t c) ks ks' hl hl' k hk1
  refine .inr (.inr ⟨c, k, rfl, ht, hc, g1, fun j a q ha hq => ?_⟩)
  obtain ⟨p, hp⟩ := Q42 hl (List.getElem?_eq_some_iff.1 ha).1
  obtain ⟨p', hp'⟩ := Q42 hl' (List.getElem?_eq_some_iff.1 ha).1
  obtain ⟨k1, k2, k3⟩ := g3 j a p p' q ha hp hp' hq
  rcases Nat.lt_trichotomy j i with h | h | h
  ·exact X35 d x a p p' q (by omega) (hk j a p ha hp) (hk' j a p' ha hp') (k1 h)
  ·exact hM a p p' (hk j a p ha hp) (hk' j a p' ha hp') q (k2 h)
  ·rw [k3 h]; exact hk j a p ha hp
 ·simp at hy
  subst hy
  exact .inr (.inr ⟨c, ks, rfl, ht, hc, hl, hk⟩)
theorem Z1g {w : List Q3} : ∀ (d x : Nat) (t : Q2) (a b : Q0), d + 1 ≤ x → Q0d w x t a → Q0d w d t b → ∀ y ∈ Q14 w d t a b, Q0d w x t y
 | 0, _, _, _, _, _, _, h, _, _ => h.elim
 | d + 1, 0, _, _, _, h, _, _, _, _ => by omega
 | d + 1, x + 1, t, a, b, hx, ha, hb, y, hy => by
  rcases hb with rfl | ⟨n', m', rfl, ht', g0, g1, g2⟩ | ⟨c', ks', rfl, ht', hc', hl', hk'⟩
  ·simp [Q14] at hy
  ·have e1 : ¬ (3 : Int) = 1 := by decide
   simp only [Q14, e1, if_false, if_true] at hy
   have hr : ∀ n m, 0 ≤ n → m ≤ 9 → ∀ y ∈ X07 n m n' m', Q0d w (x + 1) t y := fun n m h0 h9 y hy => by
    simp only [X07, List.mem_append] at hy
    rcases hy with hy | hy <;> split at hy <;> simp at hy <;> subst hy
    ·exact .inr (.inl ⟨_, _, rfl, ht', h0, by assumption, by omega⟩)
    ·exact .inr (.inl ⟨_, _, rfl, ht', by omega, by assumption, h9⟩)
   rcases ha with rfl | ⟨n, m, rfl, _, h0, _, h9⟩ | ⟨c, ks, rfl, ht, _⟩
   ·simp only [if_true] at hy; exact hr 0 9 (by omega) (by omega) y hy
   ·simp only [e1, if_false] at hy; exact hr n m h0 h9 y hy
   ·exact absurd ht' ht
  ·have e1 : ¬ (4 : Int) = 1 := by decide
   have e3 : ¬ (4 : Int) = 3 := by decide
   simp only [Q14, e1, e3, if_false] at hy
   have hM := fun (t : Q2) (a b : Q0) => Z1g (w := w) d x t a b (by omega)
   rcases ha with rfl | ⟨n, m, rfl, ht, _⟩ | ⟨c, ks, rfl, _, hc, hl, hk⟩
   ·simp only [if_true, List.mem_flatMap] at hy
    obtain ⟨c, hc, hy⟩ := hy
    exact W4d (by omega) hM ht' hc (by simp) (fun j a q ha hq => by
     rw [List.getElem?_map, ha] at hq
     cases hq
     exact W2h (Z1e w 0 a) (by omega)) hl' hk' y hy
   ·exact absurd ht ht'
   ·simp only [e1, if_false] at hy
    exact W4d (by omega) hM ht' hc hl hk hl' hk' y hy
end Go.Proofs.YtbdkbdafhlcilaaGreat
namespace Go.Proofs.YtbdkbdafhlcilaaGreat
open Go Go.RowKit
def V0x : Z4 → List Int → Option Z4
 | v, [] => some v
 | v, i :: path => (idx v.kids i).bind fun u => V0x u path
def X8d : List Q4 → Z4 → Option (List Q7j)
 | [], _ => some []
 | b :: l, v => (V0x v b.path).bind fun u => (X8d l v).map (Q7j.mk b.var u :: ·)
theorem Z8j {v u : Z4} {path : List Int} (h : V0x v path = some u) : ∀ {l : List Q4}, (∀ b ∈ l, b.path = path) → X8d l v = some (l.map fun b => Q7j.mk b.var u)
 | [], _ => rfl
 | b :: l, hl => by
  simp only [X8d]
  rw [hl b (by simp), h, Z8j h fun x hx => hl x (by simp [hx])]
  rfl
def rowL (r : Grow) (us : List Z4) : Option (List Q7j) := Q1c (Z9 12) r.pats us
def rowB (r : Grow) (v : Z4) (us : List Z4) : Option (List Q7j) := (X8d r.binds v).bind fun l => (rowL r us).map (l ++ ·)
def hitR (us : List Z4) (r : Grow) : Bool := (rowL r us).isSome
def Q13 (b : Z1) (u : Z4) : Bool := decide (b.ctor = u.ctor) && (decide (b.ctor ≠ -1) || (decide (b.n ≤ u.n) && decide (u.n ≤ b.m)))
theorem Z02 {cut : Int → Bool} : ∀ (m : Nat) (n fr : Int), fr < n → (∀ c, fr < c → c < n → cut c = false) → ∀ b ∈ Q9b cut m n fr, b.n ≤ b.m ∧ fr ≤ b.n ∧ ∀ c, b.n < c → c ≤ b.m → cut c = false
 | 0, _, _, _, _, b, h => by simp [Q9b] at h
 | m + 1, n, fr, h1, h2, b, h => by
  unfold Q9b at h
  split at h
  ·rcases List.mem_cons.1 h with rfl | h
   ·exact ⟨by simp only; omega, by simp only; omega, fun c hc hc' => h2 c hc (by simp only at hc'; omega)⟩
   ·obtain ⟨g1, g2, g3⟩ := Z02 m (n + 1) n (by omega) (fun c hc hc' => by omega) b h
    exact ⟨g1, by omega, g3⟩
  ·rename_i hc
   exact Z02 m (n + 1) fr (by omega) (fun c hc1 hc2 => by
    by_cases hcn : c = n
    ·rw [hcn]; simpa using hc
    ·exact h2 c hc1 (by omega)) b h
theorem Z2g {cut : Int → Bool} : ∀ (m : Nat) (n fr : Int), fr < n → cut (n + m - 1) = true → 1 ≤ m → ∀ x, fr ≤ x → x < n + m - 1 → ∃ b ∈ Q9b cut m n fr, b.n ≤ x ∧ x ≤ b.m
 | 0, _, _, _, _, h, _, _, _ => by omega
 | m + 1, n, fr, h1, hc, _, x, hx1, hx2 => by
  unfold Q9b
  split
  ·by_cases hxn : x < n
   ·exact ⟨⟨-1, fr, n - 1, zT⟩, by simp, by simp only; omega, by simp only; omega⟩
   ·have hm : 1 ≤ m := by omega
    obtain ⟨b, hb, g⟩ := Z2g m (n + 1) n (by omega) (by rw [← hc]; congr 1; omega) hm x (by omega) (by omega)
    exact ⟨b, by simp [hb], g⟩
  ·rename_i hcn
   have hm : 1 ≤ m := by
    rcases Nat.eq_zero_or_pos m with rfl | h
    ·simp only [Nat.zero_add, Int.natCast_one] at hc
     rw [show n + 1 - 1 = n by omega] at hc
     exact absurd hc hcn
    ·exact h
   exact Z2g m (n + 1) fr (by omega) (by rw [← hc]; congr 1; omega) hm x hx1 (by omega)
def V1w (w : List Q3) : Bool := (tys w).all fun t => decide (t.data = -1) || (X1 w t).all fun c => decide (Z28 w t c = (Y6 w t c).all fun a => decide (depP w a ≠ 0))
theorem W8p : J8.all V1w = true := by kernel_rfl
theorem W2s {w : List Q3} (h : w ∈ J8) {t : Q2} (ht : t ∈ tys w) (hd : t.data ≠ -1) {c : Int} (hc : c ∈ X1 w t) : Z28 w t c = (Y6 w t c).all fun a => decide (depP w a ≠ 0) := by
 have h1 := List.all_eq_true.1 W8p w h
 have h2 := List.all_eq_true.1 h1 t ht
 simp only [Bool.or_eq_true, decide_eq_true_eq, List.all_eq_true] at h2
 rcases h2 with h2 | h2
 ·exact absurd h2 hd
 ·exact h2 c hc
theorem W4m {w : List Q3} (hww : w ∈ J8) {t : Q2} (ht : t ∈ tys w) {e : Nat} {u : Z4} (hu : Q1u w e t u) (rows : List Grow) (k : Nat) : ∃ b ∈ brsD w rows t k, Q13 b u = true := by
 cases e with
 | zero => exact hu.elim
 | succ e =>
 have hw := ww hww
 unfold brsD
 rw [Q1u] at hu
 split
 ·rename_i hd
  rw [if_pos hd] at hu
  obtain ⟨h1, h2, h3, _⟩ := hu
  obtain ⟨b, hb, h4, h5⟩ := Z2g (cut := cutB rows k) 10 1 0 (by omega) (by simp [cutB]) (by omega) u.n h2 (by omega)
  refine ⟨b, hb, ?_⟩
  have hc := Q9a _ _ _ _ b hb
  simp [Q13, hc, h1, h4, h5]
 ·rename_i hd
  rw [if_neg hd] at hu
  obtain ⟨_, h2, h3, h4⟩ := hu
  refine ⟨⟨u.ctor, 0, 0, zT⟩, List.mem_map.2 ⟨u.ctor, List.mem_filter.2 ⟨h2, ?_⟩, rfl⟩, ?_⟩
  ·rw [W2s hww ht hd h2, List.all_eq_true]
   intro a ha
   obtain ⟨j, hj⟩ := List.mem_iff_getElem?.1 ha
   have hjl := (List.getElem?_eq_some_iff.1 hj).1
   have hx : u.kids[j]? = some (u.kids[j]'(by omega)) := by simp
   simpa using X12 hw (we hww) e a _ ((hw.ty t ht).at_ _ h2 a ha) (h4 j a _ hj hx)
  ·have := (wl hww).pos t ht hd _ h2
   simp [Q13, this]
theorem W06 {w : List Q3} {t : Q2} {rows : List Grow} {k : Nat} {b : Z1} (hb : b ∈ brsD w rows t k) {r : Grow} (hr : r ∈ rows) (hp : PatC w t (W0 r k)) {u : Z4} {e : Nat} (hu : Q1u w e t u) (hf : Q13 b u = true) (d : Nat) :
  Q5o (W0 r k) b = false → Z9 (d + 1) (W0 r k) u = none := by
 intro hfit
 simp only [Q13, Bool.and_eq_true, Bool.or_eq_true, decide_eq_true_eq] at hf
 rcases hp.2.2 with h1 | h3 | h4
 ·simp [Q5o, h1] at hfit
 ·rw [Z9, if_neg (by omega), if_neg (by omega), if_pos h3]
  rw [Q5o, if_neg (by omega), if_pos h3] at hfit
  rcases Z1f (Q0c hp.1) with h | h | h | h | h | h <;> try omega
  obtain ⟨_, hd, g0, g1, g2⟩ := h
  refine if_neg fun hin => ?_
  unfold brsD at hb
  rw [if_pos hd] at hb
  obtain ⟨q1, q2, q3⟩ := Z02 10 1 0 (by omega) (fun c h1 h2 => by omega) b hb
  have hc := Q9a _ _ _ _ b hb
  rcases hf.2 with h | h
  ·exact absurd hc h
  simp only [Bool.and_eq_false_iff, decide_eq_false_iff_not] at hfit
  have hcut : ∀ n, (n = (W0 r k).n ∨ n = (W0 r k).m + 1) → cutB rows k n = true := fun n hn => by
   simp only [cutB, Bool.or_eq_true, decide_eq_true_eq]
   right
   unfold endB
   rw [List.any_eq_true]
   refine ⟨r, hr, ?_⟩
   simp only [h3, decide_true, Bool.true_and, Bool.or_eq_true, decide_eq_true_eq]
   omega
  rcases hfit with h5 | h5
  ·have := q3 (W0 r k).n (by omega) (by omega)
   rw [hcut _ (.inl rfl)] at this
   cases this
  ·have := q3 ((W0 r k).m + 1) (by omega) (by omega)
   rw [hcut _ (.inr rfl)] at this
   cases this
 ·rw [Z9, if_neg (by omega), if_neg (by omega), if_neg (by omega), if_neg (by omega), if_neg (by omega)]
  rw [Q5o, if_neg (by omega), if_neg (by omega), decide_eq_false_iff_not] at hfit
  exact if_neg fun h => hfit (by omega)
end Go.Proofs.YtbdkbdafhlcilaaGreat
namespace Go.Proofs.YtbdkbdafhlcilaaGreat
open Go Go.RowKit
def X3s (w : List Q3) : Nat → Q2 → Z4 → Bool
 | 0, _, _ => false
 | d + 1, t, v => if t.data = -1 then decide (v.ctor = -1) && (decide (0 ≤ v.n) && (decide (v.n ≤ 9) && decide (v.kids.length = 0)))
  else decide (v.n = 0) && (decide (v.ctor ∈ X1 w t) && (decide (v.kids.length = (Y6 w t v.ctor).length) && ((Y6 w t v.ctor).zip v.kids).all fun x => X3s w d x.1 x.2))
theorem X9r {w : List Q3} : ∀ (d : Nat) (t : Q2) (v : Z4), X3s w d t v = true ↔ Q1u w d t v := by
 intro d
 induction d with
 | zero => intro t v; simp [X3s, Q1u]
 | succ d ih =>
  intro t v
  rw [X3s, Q1u]
  split
  ·simp only [Bool.and_eq_true, decide_eq_true_eq, List.length_eq_zero_iff]
  ·simp only [Bool.and_eq_true, decide_eq_true_eq, List.all_eq_true]
   constructor
   ·rintro ⟨h1, h2, h3, h4⟩
    exact ⟨h1, h2, h3, fun j a x ha hx => (ih a x).1 (h4 (a, x) (List.mem_of_getElem? (Z0f ha hx)))⟩
   ·rintro ⟨h1, h2, h3, h4⟩
    refine ⟨h1, h2, h3, fun x hx => ?_⟩
    obtain ⟨j, hj⟩ := List.mem_iff_getElem?.1 hx
    obtain ⟨e1, e2⟩ := List.getElem?_zip_eq_some.1 hj
    exact (ih _ _).2 (h4 j _ _ e1 e2)
theorem Z64 {w : List Q3} : ∀ (d e : Nat) (t : Q2) (v : Z4), d ≤ e → Q1u w d t v → Q1u w e t v := by
 intro d
 induction d with
 | zero => intro e t v _ h; exact h.elim
 | succ d ih =>
  intro e t v he h
  obtain ⟨e, rfl⟩ : ∃ k, e = k + 1 := ⟨e - 1, by omega⟩
  rw [Q1u] at h ⊢
  split
  ·rename_i hd; rw [if_pos hd] at h; exact h
  ·rename_i hd
   rw [if_neg hd] at h
   exact ⟨h.1, h.2.1, h.2.2.1, fun j a x ha hx => ih e a x (by omega) (h.2.2.2 j a x ha hx)⟩
end Go.Proofs.YtbdkbdafhlcilaaGreat
namespace Go.Proofs.YtbdkbdafhlcilaaGreat
open Go Go.RowKit
def Z7b (b : Z1) (u : Z4) : List Z4 := if b.ctor = -1 then [] else u.kids
def usD (us : List Z4) (k : Nat) (b : Z1) (u : Z4) : List Z4 := us.take k ++ Z7b b u ++ us.drop (k + 1)
theorem Z7a {w : List Q3} {col : Z3} {b : Z1} (hB : BrC w col.t b) {u : Z4} {e : Nat} (hu : Q1u w e col.t u) (hf : Q13 b u = true) : (Z7b b u).length = (V2 w col b).length := by
 rw [Q51]
 unfold Z7b
 split
 ·rfl
 ·rename_i hc
  have hd : col.t.data ≠ -1 := fun hd => hc (hB.int hd)
  simp only [Q13, Bool.and_eq_true, decide_eq_true_eq] at hf
  cases e with
  | zero => exact hu.elim
  | succ e =>
   rw [Q1u, if_neg hd] at hu
   rw [hu.2.2.1, hf.1]
theorem X9q {w : List Q3} (hS : WS w) {col : Z3} (ht : col.t ∈ tys w) {b : Z1} (hB : BrC w col.t b) {p : Q0} (hp : PatC w col.t p) {u : Z4} {e : Nat} (hu : Q1u w e col.t u) (hf : Q13 b u = true) (hfit : Q5o p b = true) :
  Z9 12 p u = Q1c (Z9 12) (Q37 p (V2 w col b)) (Z7b b u) := by
 have hlen := Z7a hB hu hf
 have hn := Q0c hp.1
 rcases hp.2.2 with h1 | h3 | h4
 ·rw [Q37, if_pos h1, Z9, if_pos h1]
  rw [Z4g (d := 11) (fun q hq => by obtain ⟨_, _, rfl⟩ := List.mem_map.1 hq; rfl) (by rw [List.length_map, hlen])]
 ·rw [Q37, if_neg (by omega)]
  have hk := X0h hn (by omega) (by omega) (by omega)
  rcases Z1f hn with h | h | h | h | h | h <;> try omega
  have hbi := hB.int h.2.1
  simp only [Q13, Bool.and_eq_true, Bool.or_eq_true, decide_eq_true_eq] at hf
  rw [Q5o, if_neg (by omega), if_pos h3] at hfit
  simp only [Bool.and_eq_true, decide_eq_true_eq] at hfit
  rw [hk, Z9, if_neg (by omega), if_neg (by omega), if_pos h3]
  rcases hf.2 with h5 | h5
  ·exact absurd hbi h5
  rw [if_pos (by omega)]
  rfl
 ·rw [Q37, if_neg (by omega)]
  have hct := Q8i (Q18 hn).1 h4
  have hd : col.t.data ≠ -1 := fun hd => by rw [hS.int _ ht hd] at hct; cases hct
  have hb := (hB.ctor hd).2
  rw [Q5o, if_neg (by omega), if_neg (by omega), decide_eq_true_eq] at hfit
  simp only [Q13, Bool.and_eq_true, decide_eq_true_eq] at hf
  rw [Z9, if_neg (by omega), if_neg (by omega), if_neg (by omega), if_neg (by omega), if_neg (by omega), if_pos (by omega), Z7b, if_neg hb]
  refine Z0v _ _ fun j q x hq _ => ?_
  have hj := (List.getElem?_eq_some_iff.1 hq).1
  have ha : (V4 w col.t p)[j]? = some ((V4 w col.t p)[j]'(by rw [← (Q18 hn).2]; exact hj)) := by simp
  exact ((Z3c 11 _ q (Q0p hp.1 ha hq)).2.2.2 x).symm
theorem Z3e {α : Type} {l : List α} {k : Nat} {x : α} (h : l[k]? = some x) : l = l.take k ++ ([x] ++ l.drop (k + 1)) := by
 have := W46 h
 rw [List.singleton_append, ← this, List.take_append_drop]
theorem X4m {P : Z1 → X4 → Prop} {u : Z4} : ∀ {bs xs : List Z1}, brsR P bs xs → (∃ b ∈ bs, Q13 b u = true) → ∃ x b, xs.find? (fun b => Q13 b u) = some x ∧ b ∈ bs ∧ Q13 b u = true ∧ P b x.tree
 | [], [], _, ⟨_, h, _⟩ => by cases h
 | [], _ :: _, e, _ => e.elim
 | _ :: _, [], e, _ => e.elim
 | b :: bs, x :: xs, ⟨⟨e1, e2, e3, e4⟩, e5⟩, h => by
  have hfx : Q13 x u = Q13 b u := by unfold Q13; rw [e1, e2, e3]
  rw [List.find?_cons, hfx]
  cases hb : Q13 b u with
  | true => exact ⟨x, b, rfl, by simp, hb, e4⟩
  | false =>
   obtain ⟨c, hc, hcf⟩ := h
   have hc2 : c ∈ bs := by
    rcases List.mem_cons.1 hc with rfl | hc
    ·rw [hb] at hcf; cases hcf
    ·exact hc
   obtain ⟨y, c', h1, h2, h3, h4⟩ := X4m e5 ⟨c, hc2, hcf⟩
   exact ⟨y, c', h1, by simp [h2], h3, h4⟩
end Go.Proofs.YtbdkbdafhlcilaaGreat
namespace Go.Proofs.YtbdkbdafhlcilaaGreat
open Go Go.RowKit
theorem W9e {w : List Q3} {t : Q2} {p q : Q0} (g : J2 w 10 t p = true) (hq : q ∈ Q9 10 p) (i : Nat) (v : Z4) :
  rowB (Q5f i q) v [v] = Z9 10 q v ∧ hitR [v] (Q5f i q) = (Z9 10 q v).isSome := by
 have g10 := Q93 10 t p q g hq
 have g12 : J2 w 12 t q = true := Q6j 11 t q (Q6j 10 t q g10)
 have hO : PatO w t q := ⟨g12, Z10 11 q (Z10 10 q (Z9g 10 p q hq))⟩
 have e1 : Z9 12 q v = Z9 10 q v := by rw [(Z3c 11 t q (Q6j 10 t q g10)).2.2.2 v, (Z3c 10 t q g10).2.2.2 v]
 have hm := W96 [] v g12
 have hb := Z8j (v := v) (u := v) (path := []) rfl (X2a [] hO).2.2
 have hL : rowL (Q5f i q) [v] = Z9 12 (Q65 q []).2 v := by
  unfold rowL Q5f
  simp only [Q1c]
  cases Z9 12 (Q65 q []).2 v <;> simp
 constructor
 ·unfold rowB
  rw [hL, show (Q5f i q).binds = (Q65 q []).1 from rfl, hb]
  simp only [Option.bind_some]
  rw [← hm, e1]
 ·unfold hitR
  rw [hL, ← e1, hm]
  simp
theorem X4k {w : List Q3} (hww : w ∈ J8) {t : Q2} (ht : t ∈ tys w) {l : List Q6} {pick : Int} {tr : X4} (h : W8 NN w t l pick = some (tr, true)) : canC w t l pick = true := by
 rw [X7k hww ht] at h
 cases hc : canC w t l pick with
 | true => rfl
 | false => rw [hc] at h; simp at h
end Go.Proofs.YtbdkbdafhlcilaaGreat
namespace Go.Proofs.YtbdkbdafhlcilaaGreat
open Go Go.RowKit
def Z8v (w : List Q3) (x : Nat) (t : Q2) (l : List Q0) : List Q0 := l.filter fun p => !Q45 w x t p
def Z52 (w : List Q3) (d x : Nat) (t : Q2) (l : List Q0) (b : Q0) : List Q0 := Z8v w x t (l.flatMap fun a => Q14 w d t a b)
def Q8z (w : List Q3) (d x : Nat) (t : Q2) : List Q0 → List Q0 → Option (List Q0)
 | l, [] => some l
 | l, b :: bs => if 400 < (Z52 w d x t l b).length then none else Q8z w d x t (Z52 w d x t l b) bs
def Q2z (w : List Q3) (d x : Nat) (t : Q2) (l bs : List Q0) : Option (List Q0) := Q8z w d x t (Z8v w x t l) bs
theorem Z6j {w : List Q3} {d x : Nat} {t : Q2} (hx : d + 1 ≤ x) {b : Q0} (hb : Q0d w d t b) {l : List Q0} (h : ∀ a ∈ l, Q0d w x t a) : ∀ y ∈ Z52 w d x t l b, Q0d w x t y := fun y hy => by
 obtain ⟨a, ha, hy⟩ := List.mem_flatMap.1 (List.mem_filter.1 hy).1
 exact Z1g d x t a b hx (h a ha) hb y hy
theorem X4n {w : List Q3} {d x : Nat} {t : Q2} (hx : d + 1 ≤ x) : ∀ (bs l r : List Q0), (∀ b ∈ bs, Q0d w d t b) → (∀ a ∈ l, Q0d w x t a) → Q8z w d x t l bs = some r → ∀ y ∈ r, Q0d w x t y
 | [], l, r, _, h, e => by simp [Q8z] at e; subst e; exact h
 | b :: bs, l, r, hb, h, e => by
  simp only [Q8z] at e
  split at e
  ·cases e
  ·exact X4n hx bs _ r (fun b hb' => hb b (by simp [hb'])) (Z6j hx (hb b (by simp)) h) e
theorem Z0g {w : List Q3} {d x : Nat} {t : Q2} (hx : d + 1 ≤ x) {l bs r : List Q0} (hb : ∀ b ∈ bs, Q0d w d t b) (h : ∀ a ∈ l, Q0d w x t a) (e : Q2z w d x t l bs = some r) : ∀ y ∈ r, Q0d w x t y :=
 X4n hx bs _ r hb (fun a ha => h a (List.mem_filter.1 ha).1) e
theorem X89 {w : List Q3} (hw : WW w) (he : WE w) {x e : Nat} {t : Q2} (ht : t ∈ tys w) {l : List Q0} (h : ∀ a ∈ l, Q0d w x t a) {v : Z4} (hv : Q1u w e t v) : (∃ y ∈ Z8v w x t l, fitP y v = true) ↔ ∃ y ∈ l, fitP y v = true := by
 constructor
 ·rintro ⟨y, hy, g⟩; exact ⟨y, (List.mem_filter.1 hy).1, g⟩
 ·rintro ⟨y, hy, g⟩
  refine ⟨y, List.mem_filter.2 ⟨hy, ?_⟩, g⟩
  cases hem : Q45 w x t y with
  | false => rfl
  | true => rw [X4g hw he x e t y v ht (h y hy) hem hv] at g; cases g
theorem X8f {w : List Q3} (hw : WW w) (he : WE w) {d x e : Nat} {t : Q2} (ht : t ∈ tys w) (hx : d + 1 ≤ x) {v : Z4} (hv : Q1u w e t v) : ∀ (bs l r : List Q0), (∀ b ∈ bs, Q0d w d t b) → (∀ a ∈ l, Q0d w x t a) → Q8z w d x t l bs = some r →
  ((∃ y ∈ r, fitP y v = true) ↔ (∃ a ∈ l, fitP a v = true) ∧ ∀ b ∈ bs, fitP b v = false)
 | [], l, r, _, h, e1 => by simp [Q8z] at e1; subst e1; simp
 | b :: bs, l, r, hb, h, e1 => by
  simp only [Q8z] at e1
  split at e1
  ·cases e1
  ·have hb0 := hb b (by simp)
   rw [X8f hw he ht hx hv bs _ r (fun b hb' => hb b (by simp [hb'])) (Z6j hx hb0 h) e1]
   have hmp : ∀ y ∈ l.flatMap (fun a => Q14 w d t a b), Q0d w x t y := fun y hy => by
    obtain ⟨a, ha, hy⟩ := List.mem_flatMap.1 hy
    exact Z1g d x t a b hx (h a ha) hb0 y hy
   have h1 := X89 hw he ht hmp hv
   simp only [Z52]
   rw [h1]
   constructor
   ·rintro ⟨⟨y, hy, g⟩, h2⟩
    obtain ⟨a, ha, hy⟩ := List.mem_flatMap.1 hy
    obtain ⟨g1, g2⟩ := (X32 d e t a b x (h a ha) hb0 v hv).2 ⟨y, hy, g⟩
    refine ⟨⟨a, ha, g1⟩, fun b' hb' => ?_⟩
    rcases List.mem_cons.1 hb' with rfl | hb'
    ·exact g2
    ·exact h2 b' hb'
   ·rintro ⟨⟨a, ha, g1⟩, h2⟩
    obtain ⟨y, hy, g⟩ := (X32 d e t a b x (h a ha) hb0 v hv).1 ⟨g1, h2 b (by simp)⟩
    exact ⟨⟨y, List.mem_flatMap.2 ⟨a, ha, hy⟩, g⟩, fun b' hb' => h2 b' (by simp [hb'])⟩
theorem Z1z {w : List Q3} (hw : WW w) (he : WE w) {d x e : Nat} {t : Q2} (ht : t ∈ tys w) (hx : d + 1 ≤ x) {v : Z4} (hv : Q1u w e t v) {l bs r : List Q0} (hb : ∀ b ∈ bs, Q0d w d t b) (h : ∀ a ∈ l, Q0d w x t a) (e1 : Q2z w d x t l bs = some r) :
  (∃ y ∈ r, fitP y v = true) ↔ (∃ a ∈ l, fitP a v = true) ∧ ∀ b ∈ bs, fitP b v = false := by
 rw [X8f hw he ht hx hv bs (Z8v w x t l) r hb (fun a ha => h a (List.mem_filter.1 ha).1) e1, X89 hw he ht h hv]
theorem W2t {fm : Q2 → Q0 → Q0 → List Q0} {fj : Q0 → Q0 → Option Q0} : ∀ (ts : List Q2) (as bs : List Q0), (∀ (j : Nat) (t : Q2) (a b : Q0), ts[j]? = some t → bs[j]? = some b → (fm t a b).length ≤ 3 * cntP b) → (kmD fm fj ts as bs).length ≤ 3 * cntP.cntPs bs
 | [], as, bs, _ => by simp [kmD]
 | t :: ts, [], bs, _ => by simp [kmD]
 | t :: ts, a :: as, [], _ => by simp [kmD]
 | t :: ts, a :: as, b :: bs, h => by
  have h0 := h 0 t a b rfl rfl
  have ih := W2t (fj := fj) ts as bs fun j t a b h1 h2 => h (j + 1) t a b (by simpa using h1) (by simpa using h2)
  simp only [kmD, List.length_append, List.length_map, cntP.cntPs]
  cases fj a b with
  | none => simp; omega
  | some m => simp only [List.length_map]; omega
theorem X7a (n m n' m' : Int) : (X07 n m n' m').length ≤ 2 := by
 simp only [X07, List.length_append]
 split <;> split <;> simp
theorem X87 {α β : Type} {f : α → List β} : ∀ {l : List α}, (∀ x ∈ l, (f x).length ≤ 1) → (l.flatMap f).length ≤ l.length
 | [], _ => by simp
 | x :: l, h => by
  have h1 := h x (by simp)
  have h2 := X87 (l := l) fun y hy => h y (by simp [hy])
  simp only [List.flatMap_cons, List.length_append, List.length_cons]
  omega
theorem W3u {α β : Type} {f : α → List β} {c : α} {B : Nat} (hc : (f c).length ≤ B) : ∀ {l : List α}, c ∈ l → (∀ x ∈ l, x ≠ c → (f x).length ≤ 1) → l.Nodup → (l.flatMap f).length + 1 ≤ l.length + B
 | [], h, _, _ => by simp at h
 | x :: l, hcl, hn, hd => by
  obtain ⟨h1, h2⟩ := List.nodup_cons.1 hd
  simp only [List.flatMap_cons, List.length_append, List.length_cons]
  by_cases hx : x = c
  ·subst hx
   have := X87 (f := f) (l := l) fun y hy => hn y (by simp [hy]) fun e => h1 (e ▸ hy)
   omega
  ·have h3 := hn x (by simp) hx
   have hcl : c ∈ l := by
    rcases List.mem_cons.1 hcl with rfl | h
    ·exact absurd rfl hx
    ·exact h
   have := W3u hc hcl (fun z hz => hn z (by simp [hz])) h2
   omega
theorem Z3d {w : List Q3} (hw : WW w) (he : WE w) : ∀ (d : Nat) (t : Q2) (a b : Q0), t ∈ tys w → Q0d w d t b → (Q14 w d t a b).length ≤ 3 * cntP b
 | 0, _, _, _, _, h => h.elim
 | d + 1, t, a, b, ht, hb => by
  rcases hb with rfl | ⟨n', m', rfl, ht', _⟩ | ⟨c', ks', rfl, ht', hc', hl', hk'⟩
  ·simp [Q14]
  ·have e1 : ¬ (3 : Int) = 1 := by decide
   simp only [Q14, e1, if_false, if_true]
   have h1 := Z3x (Q0.mk 3 0 n' m' 0 [])
   split
   ·have := X7a 0 9 n' m'; omega
   ·have := X7a a.n a.m n' m'; omega
  ·have e1 : ¬ (4 : Int) = 1 := by decide
   have e3 : ¬ (4 : Int) = 3 := by decide
   simp only [Q14, e1, e3, if_false]
   have hkm : ∀ (as : List Q0), (kmD (Q14 w d) (Q44 d) (Y6 w t c') as ks').length ≤ 3 * cntP.cntPs ks' := fun as =>
    W2t (Y6 w t c') as ks' fun j u p q h1 h2 => Z3d hw he d u p q ((hw.ty t ht).at_ _ hc' u (List.mem_of_getElem? h1)) (hk' j u q h1 h2)
   have hcm : ∀ a' : Q0, (a'.ctor ≠ c' → (cmD w (Q14 w d) (Q44 d) t a' (Q0.mk 4 c' 0 0 0 ks')).length ≤ 1) ∧ (a'.ctor = c' → (cmD w (Q14 w d) (Q44 d) t a' (Q0.mk 4 c' 0 0 0 ks')).length ≤ 3 * cntP.cntPs ks') := fun a' => by
    refine ⟨fun h => by simp [cmD, h], fun h => ?_⟩
    simp only [cmD, h, if_true, List.length_map]
    exact hkm a'.kids
   have hcnt : cntP (Q0.mk 4 c' 0 0 0 ks') = 1 + cntP.cntPs ks' := Q6k _
   split
   ·have := W3u (f := fun c => cmD w (Q14 w d) (Q44 d) t (Q8f w t c) (Q0.mk 4 c' 0 0 0 ks')) (c := c') ((hcm (Q8f w t c')).2 rfl) hc' (fun x _ hx => (hcm (Q8f w t x)).1 hx) (he.nd t ht)
    have := (hw.ty t ht).cl
    omega
   ·by_cases h : a.ctor = c'
    ·have := (hcm a).2 h; omega
    ·have := (hcm a).1 h; omega
theorem X2b {w : List Q3} (hw : WW w) (he : WE w) {d : Nat} {t : Q2} (ht : t ∈ tys w) {b : Q0} (hb : Q0d w d t b) : ∀ (l : List Q0), (l.flatMap fun a => Q14 w d t a b).length ≤ l.length * (3 * cntP b)
 | [] => by simp
 | a :: l => by
  have h1 := Z3d hw he d t a b ht hb
  have h2 := X2b hw he ht hb l
  simp only [List.flatMap_cons, List.length_append, List.length_cons, Nat.add_mul, Nat.one_mul]
  omega
end Go.Proofs.YtbdkbdafhlcilaaGreat
namespace Go.Proofs.YtbdkbdafhlcilaaGreat
open Go Go.RowKit
def Q1r : Nat → Q0 → Q0
 | 0, p => p
 | d + 1, p => if p.op = 2 then Q0.mk 1 0 0 0 0 [] else if p.op = 6 ∧ p.kids ≠ [] then Q1r d (p.kids.headD p) else Q0.mk p.op p.ctor p.n p.m p.var (p.kids.map (Q1r d))
def altD (w : List Q3) : Nat → Q2 → Q0 → Prop
 | 0, _, _ => False
 | d + 1, t, p => p = Q0.mk 1 0 0 0 0 [] ∨ (∃ n m, p = Q0.mk 3 0 n m 0 [] ∧ t.data = -1 ∧ 0 ≤ n ∧ n ≤ m ∧ m ≤ 9) ∨
  (∃ c ks, p = Q0.mk 4 c 0 0 0 ks ∧ t.data ≠ -1 ∧ c ∈ X1 w t ∧ ks.length = (Y6 w t c).length ∧ ∀ (j : Nat) (a : Q2) (q : Q0), (Y6 w t c)[j]? = some a → ks[j]? = some q → altD w d a q) ∨
  (∃ a b, p = Q0.mk 5 0 0 0 0 [a, b] ∧ altD w d t a ∧ altD w d t b)
theorem Z69 {w : List Q3} : ∀ (d : Nat) (t : Q2) (p : Q0), altD w d t p → altD w (d + 1) t p
 | 0, _, _, h => h.elim
 | d + 1, t, p, h => by
  rcases h with h | h | ⟨c, ks, e, h1, h2, h3, h4⟩ | ⟨a, b, e, h1, h2⟩
  ·exact .inl h
  ·exact .inr (.inl h)
  ·exact .inr (.inr (.inl ⟨c, ks, e, h1, h2, h3, fun j a q ha hq => Z69 d a q (h4 j a q ha hq)⟩))
  ·exact .inr (.inr (.inr ⟨a, b, e, Z69 d t a h1, Z69 d t b h2⟩))
theorem Z9t {w : List Q3} {d : Nat} {t : Q2} {p : Q0} (h0 : t.data = -1 → X1 w t = []) (g : J2 w (d + 1) t p = true) :
  p = Q0.mk 1 0 0 0 0 [] ∨ (∃ v, p = Q0.mk 2 0 0 0 v []) ∨ (∃ n m, p = Q0.mk 3 0 n m 0 [] ∧ t.data = -1 ∧ 0 ≤ n ∧ n ≤ m ∧ m ≤ 9) ∨
  (∃ c ks, p = Q0.mk 4 c 0 0 0 ks ∧ t.data ≠ -1 ∧ c ∈ X1 w t ∧ ks.length = (Y6 w t c).length ∧ ∀ (j : Nat) (a : Q2) (q : Q0), (Y6 w t c)[j]? = some a → ks[j]? = some q → J2 w d a q = true) ∨
  (∃ a b, p = Q0.mk 5 0 0 0 0 [a, b] ∧ J2 w d t a = true ∧ J2 w d t b = true) ∨ (∃ v a, p = Q0.mk 6 0 0 0 v [a] ∧ J2 w d t a = true) := by
 have hn := Q18 (Q0c g)
 have hkid := fun (j : Nat) (a : Q2) (q : Q0) => Q0p (k := j) (a := a) (q := q) g
 obtain ⟨op, ctor, n, m, var, kids⟩ := p
 have ho := hn.1
 simp only [Q9l, Bool.and_eq_true, Bool.or_eq_true, decide_eq_true_eq] at ho
 obtain ⟨⟨⟨k1, k2⟩, k3⟩, k4⟩ := ho
 have hop : op = 1 ∨ op = 2 ∨ op = 3 ∨ op = 4 ∨ op = 5 ∨ op = 6 := by
  rcases k4 with (h | h) | h
  ·rcases h with h | h | h | h <;> simp [h]
  ·simp [h.1.1.1.1]
  ·simp [h.1]
 rcases hop with rfl | rfl | rfl | rfl | rfl | rfl
 ·have hl := hn.2
  simp [V4] at hl k1 k2 k3
  subst hl; obtain ⟨rfl, rfl⟩ := k2; subst k1; subst k3
  exact .inl rfl
 ·have hl := hn.2
  simp [V4] at hl k2 k3
  subst hl; obtain ⟨rfl, rfl⟩ := k2; subst k3
  exact .inr (.inl ⟨var, rfl⟩)
 ·have hl := hn.2
  simp [V4] at hl k1 k3 k4
  subst hl; subst k1; subst k3
  exact .inr (.inr (.inl ⟨n, m, rfl, k4.1.1.1, k4.1.1.2, k4.1.2, k4.2⟩))
 ·have hl := hn.2
  simp [V4] at hl k1 k2 k4
  obtain ⟨rfl, rfl⟩ := k2; subst k1
  refine .inr (.inr (.inr (.inl ⟨ctor, kids, rfl, fun hd => ?_, k4, hl, fun j a q ha hq => hkid j a q (by simpa [V4] using ha) hq⟩)))
  rw [h0 hd] at k4
  simp at k4
 ·have hl := hn.2
  simp [V4] at hl k1 k2 k3
  obtain ⟨rfl, rfl⟩ := k2; subst k1; subst k3
  match kids, hl with
  | [a, b], _ => exact .inr (.inr (.inr (.inr (.inl ⟨a, b, rfl, hkid 0 t a (by simp [V4]) rfl, hkid 1 t b (by simp [V4]) rfl⟩))))
 ·have hl := hn.2
  simp [V4] at hl k2 k3
  obtain ⟨rfl, rfl⟩ := k2; subst k3
  match kids, hl with
  | [a], _ => exact .inr (.inr (.inr (.inr (.inr ⟨var, a, rfl, hkid 0 t a (by simp [V4]) rfl⟩))))
theorem Q8p {w : List Q3} (h0 : ∀ t, t.data = -1 → X1 w t = []) : ∀ (d : Nat) (t : Q2) (p : Q0), J2 w d t p = true → altD w d t (Q1r d p)
 | 0, _, _, h => by simp [J2] at h
 | d + 1, t, p, g => by
  rcases Z9t (h0 t) g with rfl | ⟨v, rfl⟩ | ⟨n, m, rfl, h⟩ | ⟨c, ks, rfl, h1, h2, h3, h4⟩ | ⟨a, b, rfl, h1, h2⟩ | ⟨v, a, rfl, h1⟩
  ·exact .inl (by simp [Q1r])
  ·exact .inl (by simp [Q1r])
  ·exact .inr (.inl ⟨n, m, by simp [Q1r], h⟩)
  ·refine .inr (.inr (.inl ⟨c, ks.map (Q1r d), by simp [Q1r], h1, h2, by simpa using h3, fun j a q ha hq => ?_⟩))
   rw [List.getElem?_map] at hq
   obtain ⟨q', e1, e2⟩ := Option.map_eq_some_iff.1 hq
   subst e2
   exact Q8p h0 d a q' (h4 j a q' ha e1)
  ·exact .inr (.inr (.inr ⟨Q1r d a, Q1r d b, by simp [Q1r], Q8p h0 d t a h1, Q8p h0 d t b h2⟩))
  ·have : Q1r (d + 1) (Q0.mk 6 0 0 0 v [a]) = Q1r d a := by simp [Q1r]
   rw [this]
   exact Z69 d t _ (Q8p h0 d t a h1)
def MemL (cs : List Q0) (ls : List (List Q0)) : Prop := cs.length = ls.length ∧ ∀ (j : Nat) (c : Q0) (l : List Q0), cs[j]? = some c → ls[j]? = some l → c ∈ l
theorem Z0t {c : Q0} {cs : List Q0} {l : List Q0} {ls : List (List Q0)} : MemL (c :: cs) (l :: ls) ↔ c ∈ l ∧ MemL cs ls := by
 constructor
 ·rintro ⟨h1, h2⟩
  exact ⟨h2 0 c l rfl rfl, by simpa using h1, fun j x y e1 e2 => h2 (j + 1) x y (by simpa using e1) (by simpa using e2)⟩
 ·rintro ⟨h0, h1, h2⟩
  refine ⟨by simp [h1], fun j x y e1 e2 => ?_⟩
  cases j with
  | zero => simp at e1 e2; subst e1; subst e2; exact h0
  | succ j => exact h2 j x y (by simpa using e1) (by simpa using e2)
theorem X7i : ∀ (ls out : List (List Q0)) (ks : List Q0), ks ∈ ls.foldl tupD out ↔ ∃ o ∈ out, ∃ cs, MemL cs ls ∧ ks = o ++ cs
 | [], out, ks => by
  simp only [List.foldl_nil]
  constructor
  ·exact fun h => ⟨ks, h, [], ⟨rfl, fun j c l h => by simp at h⟩, by simp⟩
  ·rintro ⟨o, ho, cs, h, rfl⟩
   have : cs = [] := List.eq_nil_of_length_eq_zero (by simpa using h.1)
   subst this
   simpa using ho
 | l :: ls, out, ks => by
  simp only [List.foldl_cons]
  rw [X7i ls (tupD out l) ks]
  constructor
  ·rintro ⟨o, ho, cs, h, rfl⟩
   obtain ⟨q, hq, ho⟩ := List.mem_flatMap.1 ho
   obtain ⟨c, hc, rfl⟩ := List.mem_map.1 ho
   exact ⟨q, hq, c :: cs, Z0t.2 ⟨hc, h⟩, by simp⟩
  ·rintro ⟨o, ho, cs, h, rfl⟩
   cases cs with
   | nil => have := h.1; simp at this
   | cons c cs =>
    obtain ⟨hc, h⟩ := Z0t.1 h
    exact ⟨o ++ [c], List.mem_flatMap.2 ⟨o, ho, List.mem_map.2 ⟨c, hc, rfl⟩⟩, cs, h, by simp⟩
theorem Z3f {ls : List (List Q0)} {ks : List Q0} : ks ∈ ls.foldl tupD [[]] ↔ MemL ks ls := by
 rw [X7i]
 constructor
 ·rintro ⟨o, ho, cs, h, rfl⟩
  simp at ho
  subst ho
  simpa using h
 ·exact fun h => ⟨[], by simp, ks, h, by simp⟩
theorem Q92 {w : List Q3} : ∀ (d : Nat) (t : Q2) (p : Q0), altD w d t p → ∀ q ∈ Q9 d p, Q0d w d t q
 | 0, _, _, h, _, _ => h.elim
 | d + 1, t, p, h, q, hq => by
  rcases h with rfl | ⟨n, m, rfl, h⟩ | ⟨c, ks, rfl, h1, h2, h3, h4⟩ | ⟨a, b, rfl, h1, h2⟩
  ·simp [Q9, Q43] at hq; subst hq; exact .inl rfl
  ·simp [Q9, Q43] at hq; subst hq; exact .inr (.inl ⟨n, m, rfl, h⟩)
  ·have e5 : ¬ (4 : Int) = 5 := by decide
   simp only [Q9, e5, if_false, List.mem_map] at hq
   obtain ⟨cs, hcs, rfl⟩ := hq
   obtain ⟨g1, g2⟩ := Z3f.1 hcs
   refine .inr (.inr ⟨c, cs, rfl, h1, h2, by simpa [h3] using g1, fun j a q ha hq => ?_⟩)
   obtain ⟨k, hk⟩ := Q42 h3 (List.getElem?_eq_some_iff.1 ha).1
   exact Q92 d a k (h4 j a k ha hk) q (g2 j q (Q9 d k) hq (by rw [List.getElem?_map, hk]; rfl))
  ·simp only [Q9, if_true, List.flatMap_cons, List.flatMap_nil, List.append_nil, List.mem_append] at hq
   rcases hq with hq | hq
   ·exact Q7w d t q (Q92 d t a h1 q hq)
   ·exact Q7w d t q (Q92 d t b h2 q hq)
theorem Z1b {w : List Q3} : ∀ (d : Nat) (t : Q2) (p : Q0), altD w d t p → Q9 (d + 1) p = Q9 d p
 | 0, _, _, h => h.elim
 | d + 1, t, p, h => by
  rcases h with rfl | ⟨n, m, rfl, h⟩ | ⟨c, ks, rfl, h1, h2, h3, h4⟩ | ⟨a, b, rfl, h1, h2⟩
  ·simp [Q9]
  ·simp [Q9]
  ·have e5 : ¬ (4 : Int) = 5 := by decide
   have : ks.map (Q9 (d + 1)) = ks.map (Q9 d) := by
    refine List.map_congr_left fun k hk => ?_
    obtain ⟨j, hj⟩ := List.mem_iff_getElem?.1 hk
    obtain ⟨a, ha⟩ := Q42 h3.symm (List.getElem?_eq_some_iff.1 hj).1
    exact Z1b d a k (h4 j a k ha hj)
   rw [Q9, Q9]
   simp only [e5, if_false, this]
  ·rw [Q9, Q9]
   simp only [if_true, List.flatMap_cons, List.flatMap_nil, Z1b d t a h1, Z1b d t b h2]
theorem Z9p {f : Q0 → Z4 → Option (List Q7j)} {S : Q0 → List Q0} : ∀ (ps : List Q0) (vs : List Z4), ps.length = vs.length →
  (∀ (j : Nat) (p : Q0) (v : Z4), ps[j]? = some p → vs[j]? = some v → ((f p v).isSome = true ↔ ∃ q ∈ S p, fitP q v = true)) → ((Q1c f ps vs).isSome = true ↔ ∃ cs, MemL cs (ps.map S) ∧ fitL cs vs = true)
 | [], [], _, _ => by
  simp only [Q1c, Option.isSome_some, true_iff]
  exact ⟨[], ⟨rfl, fun j c l h => by simp at h⟩, by simp⟩
 | p :: ps, v :: vs, hl, h => by
  have h0 := h 0 p v rfl rfl
  have ih := Z9p (f := f) (S := S) ps vs (by simpa using hl) fun j x y e1 e2 => h (j + 1) x y (by simpa using e1) (by simpa using e2)
  have hm : (Q1c f (p :: ps) (v :: vs)).isSome = ((f p v).isSome && (Q1c f ps vs).isSome) := by
   simp only [Q1c]
   cases f p v with
   | none => rfl
   | some l => cases Q1c f ps vs <;> rfl
  rw [hm, Bool.and_eq_true, h0, ih]
  constructor
  ·rintro ⟨⟨q, hq, g1⟩, cs, hcs, g2⟩
   exact ⟨q :: cs, Z0t.2 ⟨hq, hcs⟩, by simp [g1, g2]⟩
  ·rintro ⟨cs, hcs, g⟩
   cases cs with
   | nil => have := hcs.1; simp at this
   | cons c cs =>
    obtain ⟨hc, hcs⟩ := Z0t.1 hcs
    simp only [Q87, Bool.and_eq_true] at g
    exact ⟨⟨c, hc, g.1⟩, cs, hcs, g.2⟩
 | [], _ :: _, h, _ => by simp at h
 | _ :: _, [], h, _ => by simp at h
theorem Q97 {w : List Q3} (h0 : ∀ t, t.data = -1 → X1 w t = []) : ∀ (d e : Nat) (t : Q2) (p : Q0) (v : Z4), J2 w d t p = true → Q1u w e t v → ((Z9 d p v).isSome = true ↔ ∃ q ∈ Q9 d (Q1r d p), fitP q v = true)
 | 0, _, _, _, _, h, _ => by simp [J2] at h
 | d + 1, e, t, p, v, g, hv => by
  rcases Z9t (h0 t) g with rfl | ⟨x, rfl⟩ | ⟨n, m, rfl, h⟩ | ⟨c, ks, rfl, h1, h2, h3, h4⟩ | ⟨a, b, rfl, h1, h2⟩ | ⟨x, a, rfl, h1⟩
  ·simp [Z9, Q1r, Q9, Q43, Q86]
  ·simp [Z9, Q1r, Q9, Q43, Q86]
  ·have hb : Q1r (d + 1) (Q0.mk 3 0 n m 0 []) = Q0.mk 3 0 n m 0 [] := by simp [Q1r]
   have hs : Q9 (d + 1) (Q0.mk 3 0 n m 0 []) = [Q0.mk 3 0 n m 0 []] := by simp [Q9, Q43]
   rw [hb, hs]
   simp only [List.mem_singleton, exists_eq_left]
   rw [Q7a rfl]
   have e1 : ¬ (3 : Int) = 1 := by decide
   have e2 : ¬ (3 : Int) = 2 := by decide
   simp only [Z9, e1, e2, if_false, if_true, decide_eq_true_eq]
   split <;> simp [*]
  ·have e1 : ¬ (4 : Int) = 1 := by decide
   have e2 : ¬ (4 : Int) = 2 := by decide
   have e3 : ¬ (4 : Int) = 3 := by decide
   have e5 : ¬ (4 : Int) = 5 := by decide
   have e6 : ¬ (4 : Int) = 6 := by decide
   have hb : Q1r (d + 1) (Q0.mk 4 c 0 0 0 ks) = Q0.mk 4 c 0 0 0 (ks.map (Q1r d)) := by simp [Q1r]
   rw [hb]
   simp only [Q9, e5, if_false, List.mem_map, Z9, e1, e2, e3, e6]
   obtain ⟨e', rfl, gv1, gv2, gv3⟩ := Q7p hv h1
   by_cases hc : c = v.ctor
   ·subst hc
    simp only [if_true]
    rw [Z9p (f := Z9 d) (S := fun p => Q9 d (Q1r d p)) ks v.kids (h3.trans gv2.symm) fun j p u hp hu => by
     obtain ⟨a, ha⟩ := Q42 h3.symm (List.getElem?_eq_some_iff.1 hp).1
     exact Q97 h0 d e' a p u (h4 j a p ha hp) (gv3 j a u ha hu)]
    have hmm : (ks.map (Q1r d)).map (Q9 d) = ks.map (fun p => Q9 d (Q1r d p)) := by simp
    constructor
    ·rintro ⟨cs, hcs, g⟩
     refine ⟨_, ⟨cs, ?_, rfl⟩, ?_⟩
     ·rw [hmm]; exact Z3f.2 hcs
     ·rw [Q43, Q39 rfl]; simp [g]
    ·rintro ⟨_, ⟨cs, hcs, rfl⟩, g⟩
     rw [hmm] at hcs
     rw [Q43, Q39 rfl] at g
     simp only [Bool.and_eq_true] at g
     exact ⟨cs, Z3f.1 hcs, g.2⟩
   ·simp only [if_neg hc, Option.isSome_none, Bool.false_eq_true, false_iff]
    rintro ⟨_, ⟨cs, hcs, rfl⟩, g⟩
    rw [Q43, Q39 rfl] at g
    simp only [Bool.and_eq_true, decide_eq_true_eq] at g
    exact hc g.1
  ·have ia := Q97 h0 d e t a v h1 hv
   have ib := Q97 h0 d e t b v h2 hv
   have hb : Q1r (d + 1) (Q0.mk 5 0 0 0 0 [a, b]) = Q0.mk 5 0 0 0 0 [Q1r d a, Q1r d b] := by simp [Q1r]
   have e1 : ¬ (5 : Int) = 1 := by decide
   have e2 : ¬ (5 : Int) = 2 := by decide
   have e3 : ¬ (5 : Int) = 3 := by decide
   rw [hb]
   simp only [Q9, if_true, List.flatMap_cons, List.flatMap_nil, List.append_nil, List.mem_append, Z9, e1, e2, e3, if_false]
   cases hm : Z9 d a v with
   | some l =>
    rw [hm] at ia
    obtain ⟨q, hq, g⟩ := ia.1 rfl
    simp only [Option.isSome_some, true_iff]
    exact ⟨q, .inl hq, g⟩
   | none =>
    rw [hm] at ia
    simp only
    rw [ib]
    constructor
    ·rintro ⟨q, hq, g⟩; exact ⟨q, .inr hq, g⟩
    ·rintro ⟨q, hq | hq, g⟩
     ·have := ia.2 ⟨q, hq, g⟩; simp at this
     ·exact ⟨q, hq, g⟩
  ·have ia := Q97 h0 d e t a v h1 hv
   have hb : Q1r (d + 1) (Q0.mk 6 0 0 0 x [a]) = Q1r d a := by simp [Q1r]
   have e1 : ¬ (6 : Int) = 1 := by decide
   have e2 : ¬ (6 : Int) = 2 := by decide
   have e3 : ¬ (6 : Int) = 3 := by decide
   have e5 : ¬ (6 : Int) = 5 := by decide
   rw [hb, Z1b d t _ (Q8p h0 d t a h1)]
   simp only [Z9, e1, e2, e3, e5, if_false, if_true, Option.isSome_map]
   exact ia
end Go.Proofs.YtbdkbdafhlcilaaGreat
namespace Go.Proofs.YtbdkbdafhlcilaaGreat
open Go Go.RowKit
theorem Q82 {α β ρ : Type} {f : Nat → α → List β → Option (Ctl ρ (List β))} (g : α → List β) (M : Nat) : ∀ (xs : List α) (k : Nat) (s : List β), (∀ k, ∀ x ∈ xs, ∀ s : List β, s.length + (g x).length ≤ M → f k x s = some (.go (s ++ g x))) → s.length + (xs.flatMap g).length ≤ M → forL f k xs s = some (.brk (s ++ xs.flatMap g))
 | [], k, s, _, _ => by simp [forL]
 | x :: xs, k, s, h, hM => by
  simp only [List.flatMap_cons, List.length_append] at hM
  unfold forL
  rw [h k x (by simp) s (by omega)]
  simp only
  rw [Q82 g M xs (k + 1) (s ++ g x) (fun k y hy => h k y (by simp [hy])) (by simp only [List.length_append]; omega)]
  simp
theorem Q8m {α : Type} {l l' : List α} {k : Nat} {a : α} (h : l.drop k = a :: l') : l[k]? = some a ∧ l.drop (k + 1) = l' := by
 constructor
 ·have := congrArg (fun m => m[0]?) h
  simpa [List.getElem?_drop] using this
 ·have := congrArg (fun m => m.drop 1) h
  simpa [List.drop_drop, Nat.add_comm] using this
theorem W7y {n : Int} (h0 : 0 ≤ n) (h : n ≤ 100000) : Q1x n = some [] := by
 unfold Q1x
 have e : ilt n 0 = false := by rw [X3]; exact h0
 have e0 : wsub .i64 0 (lenZ 0) = 0 := rfl
 have e1 : wsub .i64 n 0 = n := by rw [Q3c] <;> omega
 simp only [e, Bool.false_eq_true, if_false, e0, e1]
 by_cases hn : 0 < n
 ·have e2 : ilt 0 n = true := by rw [W7]; exact hn
  have e3 : mkS n (Q0.mk 0 0 0 0 0 []) = some (List.replicate n.toNat (Q0.mk 0 0 0 0 0 [])) := by
   unfold mkS; rw [if_pos ⟨h0, by simp [Q5]; omega⟩]
  rw [if_pos e2, e3]
  rfl
 ·have e2 : ilt 0 n = false := by rw [X3]; omega
  rw [if_neg (by rw [e2]; simp)]
  rfl
theorem W0h {a b c : List Q0} (h : a.length + b.length + c.length ≤ 100000) : Q02 [a, b, c] = some (a ++ b ++ c) := by
 unfold Q02
 have hA : wadd .i64 0 (lenZ a.length) = (a.length : Int) := by rw [J5] <;> simp only [lenZ] <;> omega
 have hB : wadd .i64 (a.length : Int) (lenZ b.length) = (a.length : Int) + b.length := by rw [J5] <;> simp only [lenZ] <;> omega
 have hC : wadd .i64 ((a.length : Int) + b.length) (lenZ c.length) = (a.length : Int) + b.length + c.length := by rw [J5] <;> simp only [lenZ] <;> omega
 have l1 : ilt (a.length : Int) 0 = false := by rw [X3]; omega
 have l2 : ilt ((a.length : Int) + b.length) 0 = false := by rw [X3]; omega
 have l3 : ilt ((a.length : Int) + b.length + c.length) 0 = false := by rw [X3]; omega
 simp only [forL, hA, hB, hC, l1, l2, l3, Bool.false_eq_true, if_false, Option.bind_some]
 rw [W7y (by omega) (by omega)]
 simp only [Option.bind_some]
 rw [X2 (by simp [Q5]; omega)]
 simp only [Option.bind_some, List.nil_append]
 rw [X2 (by simp only [Q5]; omega)]
 simp only [Option.bind_some]
 rw [X2 (by simp only [List.length_append, Q5]; omega)]
 rfl
theorem W9l (a b : Int) : imax a b = max a b := by unfold imax; omega
theorem W9k (a b : Int) : imin a b = min a b := by unfold imin; omega
def i3 (a b : Int) : List Q0 := if a ≤ b then [Q0.mk 3 0 a b 0 []] else []
theorem V0r {n : Nat} (hn : 2 ≤ n) (a b : Int) : Q2b n [a, b] = some (i3 a b) := by
 obtain ⟨m, rfl⟩ : ∃ m, n = m + 2 := ⟨n - 2, by omega⟩
 have w1 : wadd .i64 0 1 = 1 := rfl
 have w2 : wadd .i64 0 2 = 2 := rfl
 unfold Q2b i3
 by_cases h : a ≤ b <;> simp [whileL, idx, ilt, ile, app, w1, w2, h, lenZ, Q5]
theorem V0q {n : Nat} (hn : 3 ≤ n) (a b c e : Int) : Q2b n [a, b, c, e] = some (i3 a b ++ i3 c e) := by
 obtain ⟨m, rfl⟩ : ∃ m, n = m + 3 := ⟨n - 3, by omega⟩
 have w1 : wadd .i64 0 1 = 1 := rfl
 have w2 : wadd .i64 0 2 = 2 := rfl
 have w3 : wadd .i64 2 1 = 3 := rfl
 have w4 : wadd .i64 2 2 = 4 := rfl
 unfold Q2b i3
 by_cases h : a ≤ b <;> by_cases h' : c ≤ e <;> simp [whileL, idx, ilt, ile, app, w1, w2, w3, w4, h, h', lenZ, Q5]
def zP : Q0 := Q0.mk 0 0 0 0 0 []
def Z3g : Option Q0 → Q0 × Bool
 | some m => (m, true)
 | none => (zP, false)
end Go.Proofs.YtbdkbdafhlcilaaGreat
namespace Go.Proofs.YtbdkbdafhlcilaaGreat
open Go Go.RowKit
theorem Z70 {w : List Q3} {d : Nat} {t : Q2} {p : Q0} (h : Q0d w d t p) : ∃ e, d = e + 1 ∧ (p = Q0.mk 1 0 0 0 0 [] ∨ (∃ n m, p = Q0.mk 3 0 n m 0 [] ∧ t.data = -1 ∧ 0 ≤ n ∧ n ≤ m ∧ m ≤ 9) ∨
  (∃ c ks, p = Q0.mk 4 c 0 0 0 ks ∧ t.data ≠ -1 ∧ c ∈ X1 w t ∧ ks.length = (Y6 w t c).length ∧ ∀ (j : Nat) (a : Q2) (q : Q0), (Y6 w t c)[j]? = some a → ks[j]? = some q → Q0d w e a q)) := by
 cases d with
 | zero => exact h.elim
 | succ e => exact ⟨e, rfl, h⟩
theorem Z7d {w : List Q3} (hw : WW w) (S : List Int) : ∀ (d n x : Nat) (t : Q2) (a b : Q0), t ∈ tys w → Q0d w x t a → Q0d w d t b → d + 3 ≤ n → V0 n ⟨w, S⟩ t a b = some (Z3g (Q44 d a b))
 | 0, _, _, _, _, _, _, _, h, _ => h.elim
 | d + 1, n, x, t, a, b, ht, ha, hb, hn => by
  obtain ⟨n, rfl⟩ : ∃ m, n = m + 1 := ⟨n - 1, by omega⟩
  obtain ⟨x, rfl, ha⟩ := Z70 ha
  have i11 : ieq 1 1 = true := rfl
  have i31 : ieq 3 1 = false := rfl
  have i33 : ieq 3 3 = true := rfl
  have i41 : ieq 4 1 = false := rfl
  have i43 : ieq 4 3 = false := rfl
  have e31 : ¬ (3 : Int) = 1 := by decide
  have e41 : ¬ (4 : Int) = 1 := by decide
  have e43 : ¬ (4 : Int) = 3 := by decide
  rcases ha with rfl | ⟨n1, m1, rfl, hd, _⟩ | ⟨c, ks, rfl, hd, hc, hl, hk⟩
  ·simp [V0, Q44, Z3g, i11]
  ·rcases hb with rfl | ⟨n2, m2, rfl, _⟩ | ⟨c', ks', rfl, hd', _⟩
   ·simp [V0, Q44, Z3g, i11, i31]
   ·simp only [V0, Q44, i31, i33, e31, Bool.false_eq_true, if_false, if_true]
    rw [V0r (by omega), W9l, W9k]
    by_cases h : max n1 n2 ≤ min m1 m2
    ·simp [i3, h, idx, ieq, lenZ, Z3g]
    ·simp [i3, h, ieq, lenZ, Z3g, zP]
   ·exact absurd hd hd'
  ·rcases hb with rfl | ⟨n2, m2, rfl, hd', _⟩ | ⟨c', ks', rfl, _, hc', hl', hk'⟩
   ·simp [V0, Q44, Z3g, i11, i41]
   ·exact absurd hd' hd
   ·simp only [V0, Q44, i41, i43, e41, e43, Bool.false_eq_true, if_false]
    by_cases hcc : c = c'
    ·subst hcc
     have ec : (!ieq c c) = false := by simp [ieq]
     simp only [ec, Bool.false_eq_true, if_false, if_true]
     rw [(hw.ty t ht).a2 c hc]
     simp only [Option.bind_some]
     have hal := (hw.ty t ht).al c hc
     have hlp : ∀ (ts : List Q2) (k : Nat) (s : List Q0) (as' bs' : List Q0), (Y6 w t c).drop k = ts → ks.drop k = as' → ks'.drop k = bs' → s.length + ts.length ≤ 100 →
       forL (fun k131 x132 (s125 : (List Q0)) =>
        ((idx ks (k131 : Int)).bind fun x143 =>
        ((idx ks' (k131 : Int)).bind fun x144 =>
        ((V0 n ⟨w, S⟩ x132 x143 x144).bind fun r145 =>
        (if (!r145.2) = true then
        some (Ctl.ret (((Q0.mk 0 0 0 0 0 []), false)))
        else
        ((app s125 [r145.1]).bind fun x148 =>
        some (Ctl.go x148))))))) k ts s = some (match Q6z (Q44 d) as' bs' with | some ms => .brk (s ++ ms) | none => .ret (zP, false)) := by
      intro ts
      induction ts with
      | nil =>
       intro k s as' bs' h0 h1 h2 _
       have hge : (Y6 w t c).length ≤ k := by have := congrArg List.length h0; simp at this; omega
       have e1 : as' = [] := by rw [← h1]; exact List.drop_eq_nil_of_le (by omega)
       have e2 : bs' = [] := by rw [← h2]; exact List.drop_eq_nil_of_le (by omega)
       subst e1; subst e2
       simp [forL, Q6z]
      | cons u ts ih =>
       intro k s as' bs' h0 h1 h2 hs
       obtain ⟨u1, u2⟩ := Q8m h0
       have hkl := (List.getElem?_eq_some_iff.1 u1).1
       cases as' with
       | nil => have := congrArg List.length h1; simp at this; omega
       | cons a as' =>
       cases bs' with
       | nil => have := congrArg List.length h2; simp at this; omega
       | cons b bs' =>
       obtain ⟨a1, a2⟩ := Q8m h1
       obtain ⟨b1, b2⟩ := Q8m h2
       simp only [List.length_cons] at hs
       unfold forL
       rw [Q2g a1, Q2g b1]
       simp only [Option.bind_some]
       rw [Z7d hw S d n x u a b ((hw.ty t ht).at_ _ hc u (List.mem_of_getElem? u1)) (hk k u a u1 a1) (hk' k u b u1 b1) (by omega)]
       simp only [Option.bind_some, Q6z]
       cases hm : Q44 d a b with
       | none => simp [Z3g, zP]
       | some m =>
        simp only [Z3g, Bool.not_true, Bool.false_eq_true, if_false, Option.bind_some]
        rw [X2 (by simp only [List.length_cons, List.length_nil, Q5]; omega)]
        simp only [Option.bind_some]
        rw [ih (k + 1) (s ++ [m]) as' bs' u2 a2 b2 (by simp; omega)]
        cases Q6z (Q44 d) as' bs' with
        | none => simp
        | some ms => simp
     have := hlp (Y6 w t c) 0 [] ks ks' rfl rfl rfl (by simp; omega)
     rw [this]
     cases Q6z (Q44 d) ks ks' with
     | none => simp [Z3g]
     | some ms => simp [Z3g]
    ·have ec : (!ieq c c') = true := by simp [ieq, hcc]
     simp [ec, hcc, Z3g, zP]
theorem W5u {w : List Q3} (hw : WW w) (S : List Int) {t : Q2} (ht : t ∈ tys w) {c : Int} (hc : c ∈ X1 w t) : Q2p ⟨w, S⟩ t c = some (Q8f w t c) := by
 unfold Q2p
 simp only
 rw [(hw.ty t ht).a2 c hc]
 simp only [Option.bind_some]
 have hal := (hw.ty t ht).al c hc
 rw [Q82 (fun _ => [Q0.mk 1 0 0 0 0 []]) 100 (Y6 w t c) 0 [] (fun k x _ s hs => by
  have : Y5 = some (Q0.mk 1 0 0 0 0 []) := rfl
  rw [this]
  simp only [Option.bind_some]
  simp only [List.length_cons, List.length_nil] at hs
  rw [X2 (by simp only [List.length_cons, List.length_nil, Q5]; omega)]
  rfl) (by
   have : ∀ l : List Q2, (l.flatMap fun _ => [Q0.mk 1 0 0 0 0 []]).length = l.length := fun l => by induction l with | nil => rfl | cons a l ih => simp [ih]
   rw [this]; simp; omega)]
 simp only [Option.bind_some, List.nil_append, Q8f]
 congr 2
 induction Y6 w t c with
 | nil => rfl
 | cons a l ih => simp [ih]
theorem Z9m (p : Q0) : Q5m p = some (if p.op = 1 then (0, 9) else (p.n, p.m)) := by
 unfold Q5m
 by_cases h : p.op = 1
 ·have : ieq p.op 1 = true := by rw [Q23]; exact h
  rw [if_pos this, if_pos h]
 ·have : ieq p.op 1 = false := by rw [Q1m]; exact h
  rw [if_neg (by rw [this]; simp), if_neg h]
theorem W2u {w : List Q3} {S : List Int} {n c0 : Nat} {c : Int} {ks ks' : List Q0} {fm : Q2 → Q0 → Q0 → List Q0} {fj : Q0 → Q0 → Option Q0} {args : List Q2}
  (hl : ks.length = args.length) (hl' : ks'.length = args.length) (ha3 : args.length ≤ 3)
  (hmin : ∀ (k : Nat) (u : Q2) (a b : Q0), args[k]? = some u → ks[k]? = some a → ks'[k]? = some b → X6 n ⟨w, S⟩ u a b = some (fm u a b) ∧ V0 n ⟨w, S⟩ u a b = some (Z3g (fj a b))) :
  ∀ (ts : List Q2) (k : Nat) (out front as' bs' : List Q0), args.drop k = ts → ks.drop k = as' → ks'.drop k = bs' → front.length = k → out.length + (kmD fm fj ts as' bs').length ≤ 50000 → c0 = c0 →
  ∃ fr, forL (fun k1426 x1427 (s1422 : (List Q0) × (List Q0)) =>
   ((idx ks (k1426 : Int)).bind fun x1558 =>
   ((idx ks' (k1426 : Int)).bind fun x1559 =>
   ((X6 n ⟨w, S⟩ x1427 x1558 x1559).bind fun r1560 =>
   ((forL (fun k1588 x1589 (s1584 : (List Q0)) =>
   ((Z2f ks (wadd .i64 (k1426 : Int) 1)).bind fun x1596 =>
   ((Q02 [s1422.2, [x1589], x1596]).bind fun r1597 =>
   ((app s1584 [(Q0.mk 4 c 0 0 0 r1597)]).bind fun x1598 =>
   some (Ctl.go x1598))))) 0 r1560 s1422.1).bind fun (o1583 : Ctl (Ctl (List Q0) ((List Q0) × (List Q0))) ((List Q0))) => match o1583 with
   | .ret r => some r
   | .go _ => none
   | .brk s1592 =>
   ((V0 n ⟨w, S⟩ x1427 x1558 x1559).bind fun r1599 =>
   (if (!r1599.2) = true then
   some (Ctl.brk (s1592, s1422.2))
   else
   ((app s1422.2 [r1599.1]).bind fun x1602 =>
   some (Ctl.go (s1592, x1602)))))))))) k ts (out, front) = some (.brk (out ++ (kmD fm fj ts as' bs').map (fun q => Q0.mk 4 c 0 0 0 (front ++ q)), fr)) := by
 intro ts
 induction ts with
 | nil =>
  intro k out front as' bs' h0 h1 h2 hf hs _
  exact ⟨front, by simp [forL, kmD]⟩
 | cons u ts ih =>
  intro k out front as' bs' h0 h1 h2 hf hs _
  obtain ⟨u1, u2⟩ := Q8m h0
  have hkl := (List.getElem?_eq_some_iff.1 u1).1
  cases as' with
  | nil => have := congrArg List.length h1; simp at this; omega
  | cons a as' =>
  cases bs' with
  | nil => have := congrArg List.length h2; simp at this; omega
  | cons b bs' =>
  obtain ⟨a1, a2⟩ := Q8m h1
  obtain ⟨b1, b2⟩ := Q8m h2
  obtain ⟨m1, m2⟩ := hmin k u a b u1 a1 b1
  simp only [kmD, List.length_append, List.length_map] at hs
  have hw1 : wadd .i64 (k : Int) 1 = ((k + 1 : Nat) : Int) := by rw [J5] <;> omega
  have hdrop : Z2f ks ((k + 1 : Nat) : Int) = some as' := by
   unfold Z2f
   rw [if_pos ⟨by omega, by omega⟩]
   simp [← a2]
  have has : as'.length ≤ 3 := by rw [← a2]; simp; omega
  unfold forL
  simp only [Q2g a1, Q2g b1, Option.bind_some, m1, hw1, hdrop]
  have hin := Q82 (ρ := Ctl (List Q0) ((List Q0) × (List Q0))) (f := fun (k1588 : Nat) x1589 (s1584 : (List Q0)) =>
    ((Q02 [front, [x1589], as']).bind fun r1597 =>
    ((app s1584 [(Q0.mk 4 c 0 0 0 r1597)]).bind fun x1598 =>
    some (Ctl.go x1598)))) (fun x => [Q0.mk 4 c 0 0 0 (front ++ x :: as')]) 100000 (fm u a b) 0 out (fun k x _ s hs => by
   simp only [List.length_cons, List.length_nil] at hs
   rw [W0h (by simp only [List.length_cons, List.length_nil]; omega)]
   simp only [Option.bind_some]
   rw [X2 (by simp only [List.length_cons, List.length_nil, Q5]; omega)]
   simp) (by
    have : ∀ l : List Q0, (l.flatMap fun x => [Q0.mk 4 c 0 0 0 (front ++ x :: as')]).length = l.length := fun l => by induction l with | nil => rfl | cons a l ih => simp [ih]
    rw [this]; omega)
  have hfl : ∀ l : List Q0, (l.flatMap fun x => [Q0.mk 4 c 0 0 0 (front ++ x :: as')]) = l.map fun x => Q0.mk 4 c 0 0 0 (front ++ x :: as') := fun l => by induction l with | nil => rfl | cons a l ih => simp [ih]
  rw [hfl] at hin
  rw [hin]
  simp only [Option.bind_some, m2]
  cases hm : fj a b with
  | none =>
   simp only [Z3g, Bool.not_false, if_true]
   refine ⟨front, ?_⟩
   simp only [kmD, hm, List.append_nil, List.map_map]
   rfl
  | some m =>
   simp only [Z3g, Bool.not_true, Bool.false_eq_true, if_false]
   rw [X2 (by simp only [List.length_cons, List.length_nil, Q5]; omega)]
   simp only [Option.bind_some]
   rw [hm] at hs
   simp only [List.length_map] at hs
   obtain ⟨fr, e⟩ := ih (k + 1) (out ++ (fm u a b).map fun x => Q0.mk 4 c 0 0 0 (front ++ x :: as')) (front ++ [m]) as' bs' u2 a2 b2 (by simp; omega) (by simp only [List.length_append, List.length_map]; omega) rfl
   refine ⟨fr, ?_⟩
   rw [e]
   simp only [kmD, hm, List.map_append, List.map_map, List.append_assoc]
   congr 5
theorem Z5b {w : List Q3} (hw : WW w) (he : WE w) (S : List Int) : ∀ (d n x : Nat) (t : Q2) (a b : Q0), t ∈ tys w → Q0d w x t a → Q0d w d t b → cntP b ≤ 10000 → 2 * d + 5 ≤ n → X6 n ⟨w, S⟩ t a b = some (Q14 w d t a b)
 | 0, _, _, _, _, _, _, _, h, _, _ => h.elim
 | d + 1, n, x, t, a, b, ht, ha, hb, hcnt, hn => by
  obtain ⟨n, rfl⟩ : ∃ m, n = m + 1 := ⟨n - 1, by omega⟩
  have i11 : ieq 1 1 = true := rfl
  have i31 : ieq 3 1 = false := rfl
  have i33 : ieq 3 3 = true := rfl
  have i41 : ieq 4 1 = false := rfl
  have i43 : ieq 4 3 = false := rfl
  have e31 : ¬ (3 : Int) = 1 := by decide
  have e41 : ¬ (4 : Int) = 1 := by decide
  have e43 : ¬ (4 : Int) = 3 := by decide
  obtain ⟨x, rfl, ha'⟩ := Z70 ha
  have hb0 := hb
  rcases hb with rfl | ⟨n2, m2, rfl, hd', g0, g1, g2⟩ | ⟨c', ks', rfl, hd', hc', hl', hk'⟩
  ·simp [X6, Q14, i11]
  ·have hrg : ∀ n1 m1 : Int, 0 ≤ n1 → m1 ≤ 9 → Q2b n [n1, imin m1 (wsub .i64 n2 1), imax n1 (wadd .i64 m2 1), m1] = some (X07 n1 m1 n2 m2) := fun n1 m1 h0 h9 => by
    rw [V0q (by omega), W9k, W9l, Q3c (by omega) (by omega), J5 (by omega) (by omega)]
    rfl
   rcases ha' with rfl | ⟨n1, m1, rfl, hd, h0, _, h9⟩ | ⟨c, ks, rfl, hd, _⟩
   ·simp only [X6, Q14, i31, i33, e31, Bool.false_eq_true, if_false, if_true, Z9m, Option.bind_some]
    rw [hrg 0 9 (by omega) (by omega)]
    rfl
   ·simp only [X6, Q14, i31, i33, e31, Bool.false_eq_true, if_false, if_true, Z9m, Option.bind_some]
    rw [hrg n1 m1 h0 h9]
    rfl
   ·exact absurd hd' hd
  ·have hcn : cntP (Q0.mk 4 c' 0 0 0 ks') = 1 + cntP.cntPs ks' := Q6k _
   have hkc : ∀ q ∈ ks', cntP q ≤ 10000 := fun q hq => by
    have := Z4u (p := Q0.mk 4 c' 0 0 0 ks') (List.mem_iff_getElem?.1 hq).choose_spec
    omega
   have hA : ∀ (N : Nat) (c : Int) (ks : List Q0) (y : Nat), 2 * d + 5 ≤ N → c ∈ X1 w t → ks.length = (Y6 w t c).length → (∀ (j : Nat) (a : Q2) (q : Q0), (Y6 w t c)[j]? = some a → ks[j]? = some q → Q0d w y a q) →
     X6 (N + 1) ⟨w, S⟩ t (Q0.mk 4 c 0 0 0 ks) (Q0.mk 4 c' 0 0 0 ks') = some (cmD w (Q14 w d) (Q44 d) t (Q0.mk 4 c 0 0 0 ks) (Q0.mk 4 c' 0 0 0 ks')) := fun N c ks y hN hc hl hk => by
    simp only [X6, i41, i43, Bool.false_eq_true, if_false, cmD]
    by_cases hcc : c = c'
    ·subst hcc
     have ec : (!ieq c c) = false := by simp [ieq]
     simp only [ec, Bool.false_eq_true, if_false, if_true]
     rw [(hw.ty t ht).a2 c hc]
     simp only [Option.bind_some]
     have hlen : (kmD (Q14 w d) (Q44 d) (Y6 w t c) ks ks').length ≤ 3 * cntP.cntPs ks' :=
      W2t (Y6 w t c) ks ks' fun j u p q h1 h2 => Z3d hw he d u p q ((hw.ty t ht).at_ _ hc u (List.mem_of_getElem? h1)) (hk' j u q h1 h2)
     obtain ⟨fr, e⟩ := W2u (w := w) (S := S) (n := N) (c0 := 0) (c := c) (fm := Q14 w d) (fj := Q44 d) hl hl' ((hw.ty t ht).al c hc) (fun k u p q h1 h2 h3 =>
      have hu := (hw.ty t ht).at_ _ hc u (List.mem_of_getElem? h1)
      ⟨Z5b hw he S d N y u p q hu (hk k u p h1 h2) (hk' k u q h1 h3) (hkc q (List.mem_of_getElem? h3)) (by omega), Z7d hw S d N y u p q hu (hk k u p h1 h2) (hk' k u q h1 h3) (by omega)⟩)
      (Y6 w t c) 0 [] [] ks ks' rfl rfl rfl rfl (by simp only [List.length_nil]; omega) rfl
     have e' := congrArg (fun z : Option (Ctl (List Q0) ((List Q0) × (List Q0))) => z.bind fun o => match o with | .ret r => some r | .go _ => none | .brk s => some s.1) e
     exact e'.trans (by simp)
    ·have ec : (!ieq c c') = true := by simp [ieq, hcc]
     simp [ec, hcc]
   rcases ha' with rfl | ⟨n1, m1, rfl, hd, _⟩ | ⟨c, ks, rfl, hd, hc, hl, hk⟩
   ·simp only [X6, Q14, i11, i41, i43, e41, e43, Bool.false_eq_true, if_false, if_true]
    rw [(hw.ty t ht).c2]
    simp only [Option.bind_some]
    obtain ⟨N, rfl⟩ : ∃ m, n = m + 1 := ⟨n - 1, by omega⟩
    have hlen := Z3d hw he (d + 1) t (Q0.mk 1 0 0 0 0 []) (Q0.mk 4 c' 0 0 0 ks') ht hb0
    simp only [Q14, e41, e43, if_false, if_true] at hlen
    rw [Q82 (fun c => cmD w (Q14 w d) (Q44 d) t (Q8f w t c) (Q0.mk 4 c' 0 0 0 ks')) 1000000 (X1 w t) 0 [] (fun k c hc s hs => by
     rw [W5u hw S ht hc]
     simp only [Option.bind_some]
     rw [Q8f, hA N c _ 1 (by omega) hc (by simp) (fun j a q ha hq => by
      rw [List.getElem?_map, ha] at hq
      cases hq
      exact Z1e w 0 a)]
     simp only [Option.bind_some]
     rw [X2 (by simp only [Q5]; simp only [Q8f] at hs; omega)]
     rfl) (by simp only [List.length_nil]; omega)]
    simp
   ·exact absurd hd hd'
   ·rw [hA n c ks x (by omega) hc hl hk]
    simp [Q14]
end Go.Proofs.YtbdkbdafhlcilaaGreat
namespace Go.Proofs.YtbdkbdafhlcilaaGreat
open Go Go.RowKit
theorem V5b {α : Type} {xs : List α} {i : Int} {x : α} (h0 : 0 ≤ i) (h : i < xs.length) : setI xs i x = some (xs.set i.toNat x) := by
 unfold setI
 rw [if_pos ⟨h0, by omega⟩]
theorem V0d {α : Type} {xs : List α} {i : Nat} (h : i ≤ xs.length) : Q64 xs (i : Int) = some (xs.take i) := by
 unfold Q64
 rw [if_pos ⟨by omega, by omega⟩]
 rfl
theorem X3d (f : Q0 → Option Bool) (g : Q0 → Bool) : ∀ (l : List Q0) (k : Nat), (∀ x ∈ l, f x = some (g x)) → ∃ i : Nat,
  (forL (ρ := Int) (fun k70 x71 (_ : Unit) => ((f x71).bind fun r78 => (if r78 = true then some (Ctl.ret ((k70 : Int))) else some (Ctl.go ())))) k l () = some (.ret ((k + i : Nat) : Int)) ∧ (∃ x, l[i]? = some x ∧ g x = true) ∧ ∀ x ∈ l.take i, g x = false) ∨
  (forL (ρ := Int) (fun k70 x71 (_ : Unit) => ((f x71).bind fun r78 => (if r78 = true then some (Ctl.ret ((k70 : Int))) else some (Ctl.go ())))) k l () = some (.brk ()) ∧ ∀ x ∈ l, g x = false)
 | [], k, _ => ⟨0, .inr ⟨rfl, fun x hx => by simp at hx⟩⟩
 | x :: l, k, h => by
  unfold forL
  rw [h x (by simp)]
  simp only [Option.bind_some]
  cases hg : g x with
  | true => exact ⟨0, .inl ⟨by simp, ⟨x, rfl, hg⟩, by simp⟩⟩
  | false =>
   simp only [Bool.false_eq_true, if_false]
   obtain ⟨i, hi⟩ := X3d f g l (k + 1) fun y hy => h y (by simp [hy])
   rcases hi with ⟨e, ⟨y, hy, gy⟩, hn⟩ | ⟨e, hn⟩
   ·refine ⟨i + 1, .inl ⟨by rw [e]; congr 3; omega, ⟨y, by simpa using hy, gy⟩, fun z hz => ?_⟩⟩
    simp only [List.take_succ_cons, List.mem_cons] at hz
    rcases hz with rfl | hz
    ·exact hg
    ·exact hn z hz
   ·exact ⟨0, .inr ⟨e, fun z hz => by
     rcases List.mem_cons.1 hz with rfl | hz
     ·exact hg
     ·exact hn z hz⟩⟩
theorem W0e {n : Nat} {l : List Q0} (f : Q0 → Option Bool) (g : Q0 → Bool) (hf : ∀ x ∈ l, f x = some (g x)) (hl : l.length ≤ 10000000) (hn : l.length + 5 ≤ n) : J6 n l f = some (l.filter fun x => !g x) := by
 suffices hs : Ret (J6 n l f) (fun r => r = l.filter fun x => !g x) by
  obtain ⟨a, e, rfl⟩ := hs
  exact e
 unfold J6
 have hix : ∃ r, Q00 l f = some r ∧ ((∃ i : Nat, r = (i : Int) ∧ (∃ x, l[i]? = some x ∧ g x = true) ∧ ∀ x ∈ l.take i, g x = false) ∨ (r = -1 ∧ ∀ x ∈ l, g x = false)) := by
  obtain ⟨i, h⟩ := X3d f g l 0 hf
  unfold Q00
  rcases h with ⟨e, h1, h2⟩ | ⟨e, h1⟩
  ·have e' := congrArg (fun z : Option (Ctl Int Unit) => z.bind fun o => match o with | .ret r => some r | .go _ => none | .brk _ => some (-1)) e
   exact ⟨_, e', .inl ⟨i, by simp, h1, h2⟩⟩
  ·have e' := congrArg (fun z : Option (Ctl Int Unit) => z.bind fun o => match o with | .ret r => some r | .go _ => none | .brk _ => some (-1)) e
   exact ⟨_, e', .inr ⟨rfl, h1⟩⟩
 obtain ⟨r, e, hr⟩ := hix
 rw [e]
 simp only [Option.bind_some]
 rcases hr with ⟨i0, rfl, ⟨x0, hx0, g0⟩, hn0⟩ | ⟨rfl, hno⟩
 ·have e1 : ieq (i0 : Int) (-1) = false := by rw [Q1m]; omega
  have hi0 := (List.getElem?_eq_some_iff.1 hx0).1
  simp only [e1, Bool.false_eq_true, if_false]
  rw [J5 (by omega) (by omega)]
  refine Ret.ctl (Q2k (fun s => ∃ i j : Nat, s.2.1 = (i : Int) ∧ s.2.2 = (j : Int) ∧ i ≤ j ∧ j ≤ l.length ∧ s.1.length = l.length ∧ s.1.take i = (l.take j).filter (fun x => !g x) ∧ (∀ m, j ≤ m → s.1[m]? = l[m]?) ∧ i < l.length) (fun s => l.length - s.2.2.toNat) (fun _ => False) (fun s => ∃ i : Nat, s.2.1 = (i : Int) ∧ i ≤ s.1.length ∧ s.1.take i = l.filter (fun x => !g x)) ?_ (fun s hI => ?_) n (by simp; omega)) (fun r hr => hr.elim) (fun s hs => ?_)
  ·refine ⟨i0, i0 + 1, rfl, by simp, by omega, by omega, rfl, ?_, fun m _ => rfl, hi0⟩
   have h1 : (l.take i0).filter (fun x => !g x) = l.take i0 := List.filter_eq_self.2 fun x hx => by simp [hn0 x hx]
   rw [List.take_add_one, hx0, List.filter_append, h1]
   simp [g0]
  ·obtain ⟨i, j, e1, e2, h1, h2, h4, h5, h6, h7⟩ := hI
   obtain ⟨m, wi, rj⟩ := s
   simp only at e1 e2 h4 h5 h6
   subst e1 e2
   dsimp only
   rw [h4]
   by_cases hj : j < l.length
   ·have e : ilt (j : Int) (lenZ l.length) = true := by rw [W7, Q1a]; omega
    simp only [e, if_true]
    obtain ⟨x, hx⟩ : ∃ x, l[j]? = some x := ⟨_, List.getElem?_eq_getElem hj⟩
    rw [Q2g (by rw [h6 j (Nat.le_refl _)]; exact hx)]
    simp only [Option.bind_some]
    rw [hf x (List.mem_of_getElem? hx)]
    simp only [Option.bind_some]
    have hstep : (l.take (j + 1)).filter (fun x => !g x) = (l.take j).filter (fun x => !g x) ++ (if g x = true then [] else [x]) := by
     rw [List.take_add_one, hx, List.filter_append]
     cases hc : g x <;> simp [hc]
    rw [J5 (a := (j : Int)) (by omega) (by omega)]
    cases hc : g x with
    | true =>
     simp only [Bool.not_true, Bool.false_eq_true, if_false, Option.bind_some]
     refine .some ⟨⟨i, j + 1, rfl, by simp, by omega, by omega, h4, ?_, fun m hm => h6 m (by omega), h7⟩, by simp only; omega⟩
     rw [hstep, if_pos hc, h5]; simp
    | false =>
     simp only [Bool.not_false, if_true]
     obtain ⟨y, hy⟩ : ∃ y, m[i]? = some y := ⟨_, List.getElem?_eq_getElem (by omega)⟩
     rw [Q2g hy]
     simp only [Option.bind_some]
     rw [V5b (by omega) (by omega), J5 (by omega) (by omega)]
     simp only [Option.bind_some]
     have hfl := List.length_filter_le (fun x => !g x) (l.take j)
     have hil : i + 1 ≤ l.length := by omega
     by_cases hi1 : i + 1 < l.length
     ·refine .some ⟨⟨i + 1, j + 1, by simp, by simp, by omega, by omega, by simp [h4], ?_, fun m' hm => ?_, hi1⟩, by simp only; omega⟩
      ·simp only
       rw [hstep, if_neg (by rw [hc]; simp), ← h5, List.take_add_one, List.take_set_of_le (by simp)]
       simp [show i < m.length by omega]
      ·simp only
       rw [List.getElem?_set_ne (by simp; omega)]
       exact h6 m' (by omega)
     ·exfalso
      have hij : i = j := by omega
      have hk : ((l.take j).filter fun x => !g x).length = i := by rw [← h5]; simp; omega
      have hall : (l.take j).filter (fun x => !g x) = l.take j := (List.filter_sublist).eq_of_length (by rw [hk]; simp; omega)
      have hj0 : i0 < j ∨ i0 = j := by omega
      rcases hj0 with hj0 | hj0
      ·have hm : x0 ∈ l.take j := List.mem_of_getElem? (i := i0) (by rw [List.getElem?_take_of_lt hj0]; exact hx0)
       rw [← hall] at hm
       have := (List.mem_filter.1 hm).2
       simp [g0] at this
      ·subst hj0
       rw [hx] at hx0
       cases hx0
       rw [hc] at g0
       cases g0
   ·have e : ilt (j : Int) (lenZ l.length) = false := by rw [X3, Q1a]; omega
    simp only [e, Bool.false_eq_true, if_false]
    refine .some ⟨i, rfl, by simp only; omega, ?_⟩
    simp only
    rw [h5, show j = l.length by omega, List.take_length]
  ·obtain ⟨i, e1, h1, h2⟩ := hs
   dsimp only
   rw [e1, V0d h1]
   exact .some h2
 ·have e1 : ieq (-1) (-1) = true := rfl
  simp only [e1, if_true]
  exact .some (List.filter_eq_self.2 fun x hx => by simp [hno x hx]).symm
theorem W4f {l : List Q0} (h : l.length ≤ 10000000) : W4 l = some l := by
 unfold W4
 rw [X2 (by simp [Q5]; omega)]
 rfl
def chkF (w : List Q3) : Bool := (tys w).all fun t => decide (Q12 (dimP w) t = some (depP w t))
theorem W0k : J8.all chkF = true := by kernel_rfl
theorem V1n {w : List Q3} (h : w ∈ J8) {t : Q2} (ht : t ∈ tys w) : Q12 (dimP w) t = some (depP w t) := by
 have := List.all_eq_true.1 W0k w h
 simp only [chkF, List.all_eq_true, decide_eq_true_eq] at this
 exact this t ht
theorem W2g {w : List Q3} {d : Nat} {t : Q2} {p : Q0} (h : Q0d w d t p) : Q4p w t p = true ∧ V4 w t p = (if p.op = 4 then Y6 w t p.ctor else []) := by
 obtain ⟨e, rfl, h⟩ := Z70 h
 rcases h with rfl | ⟨n, m, rfl, hd, h0, h1, h2⟩ | ⟨c, ks, rfl, hd, hc, hl, hk⟩
 ·simp [Q4p, Q9l, V4]
 ·simp [Q4p, Q9l, V4, hd, h0, h1, h2]
 ·simp [Q4p, Q9l, V4, hc, hl]
theorem X0k {w : List Q3} (hw : WW w) {d : Nat} {t : Q2} {p : Q0} (ht : t ∈ tys w) (h : Q0d w d t p) : Q4y w t p = some (if p.op = 4 then Y6 w t p.ctor else []) := by
 obtain ⟨h1, h2⟩ := W2g h
 obtain ⟨ts, e1, e2⟩ := X76 (hw.ty t ht) p
 unfold Q4y
 rw [e1]
 simp only [Option.bind_some]
 rw [e2 h1, h2]
theorem Z5c {w : List Q3} (hww : w ∈ J8) (hw : WW w) : ∀ (d n : Nat) (t : Q2) (p : Q0), t ∈ tys w → Q0d w d t p → d + 1 ≤ n → V9 n ⟨w, dimP w⟩ t p = some (Q45 w d t p)
 | 0, _, _, _, _, h, _ => h.elim
 | d + 1, n, t, p, ht, hp, hn => by
  obtain ⟨n, rfl⟩ : ∃ m, n = m + 1 := ⟨n - 1, by omega⟩
  have hkt := X0k hw ht hp
  have i11 : ieq 1 1 = true := rfl
  have i31 : ieq 3 1 = false := rfl
  have i32 : ieq 3 2 = false := rfl
  have i35 : ieq 3 5 = false := rfl
  have i41 : ieq 4 1 = false := rfl
  have i42 : ieq 4 2 = false := rfl
  have i45 : ieq 4 5 = false := rfl
  have e31 : ¬ (3 : Int) = 1 := by decide
  have e34 : ¬ (3 : Int) = 4 := by decide
  have e41 : ¬ (4 : Int) = 1 := by decide
  rcases hp with rfl | ⟨n1, m1, rfl, hd, _⟩ | ⟨c, ks, rfl, hd, hc, hl, hk⟩
  ·simp only [V9, i11, if_true, Option.bind_some, V1n hww ht, Q45]
   rfl
  ·simp only [V9, i31, i32, i35, Bool.false_eq_true, if_false, Option.bind_some, Q45, e31, e34]
   rw [hkt]
   simp [e34, forL]
  ·simp only [V9, i41, i42, i45, Bool.false_eq_true, if_false, Option.bind_some, Q45, e41, if_true]
   rw [hkt]
   simp only [if_true, Option.bind_some]
   have hlp : ∀ (ts : List Q2) (k : Nat) (ks' : List Q0), (Y6 w t c).drop k = ts → ks.drop k = ks' →
     forL (ρ := Bool) (fun k133 x134 (_ : Unit) => ((idx ks (k133 : Int)).bind fun x142 => ((V9 n ⟨w, dimP w⟩ x134 x142).bind fun r143 => (if r143 = true then some (Ctl.ret (true)) else some (Ctl.go ()))))) k ts () = some (if ((ts.zip ks').any fun x => Q45 w d x.1 x.2) = true then .ret true else .brk ()) := by
    intro ts
    induction ts with
    | nil => intro k ks' _ _; simp [forL]
    | cons u ts ih =>
     intro k ks' h0 h1
     obtain ⟨u1, u2⟩ := Q8m h0
     have hkl := (List.getElem?_eq_some_iff.1 u1).1
     cases ks' with
     | nil => have := congrArg List.length h1; simp at this; omega
     | cons q ks' =>
     obtain ⟨q1, q2⟩ := Q8m h1
     unfold forL
     simp only [Q2g q1, Option.bind_some]
     rw [Z5c hww hw d n u q ((hw.ty t ht).at_ _ hc u (List.mem_of_getElem? u1)) (hk k u q u1 q1) (by omega)]
     simp only [Option.bind_some, List.zip_cons_cons, List.any_cons]
     rcases Bool.eq_false_or_eq_true (Q45 w d u q) with hem | hem
     ·simp [hem]
     ·simp only [hem, Bool.false_eq_true, if_false, Bool.false_or]
      exact ih (k + 1) ks' u2 q2
   have e := hlp (Y6 w t c) 0 ks rfl rfl
   have e' := congrArg (fun z : Option (Ctl Bool Unit) => z.bind fun o => match o with | .ret r => some r | .go _ => none | .brk _ => some false) e
   refine e'.trans ?_
   cases ((Y6 w t c).zip ks).any fun x => Q45 w d x.1 x.2 <;> simp
theorem Z3j {w : List Q3} (hww : w ∈ J8) (hw : WW w) {d n : Nat} {t : Q2} (ht : t ∈ tys w) {l : List Q0} (h : ∀ a ∈ l, Q0d w d t a) (hl : l.length ≤ 10000000) (hn : l.length + d + 5 ≤ n) : Q0s n ⟨w, dimP w⟩ t l = some (Z8v w d t l) := by
 unfold Q0s
 rw [W4f hl]
 simp only [Option.bind_some]
 rw [W0e _ (fun p => Q45 w d t p) (fun x hx => by
  unfold Q2s
  rw [Z5c hww hw d n t x ht (h x hx) (by omega)]
  rfl) hl (by omega)]
 rfl
end Go.Proofs.YtbdkbdafhlcilaaGreat
namespace Go.Proofs.YtbdkbdafhlcilaaGreat
open Go Go.RowKit
def optR : Option (List Q0) → List Q0 × Bool
 | some r => (r, true)
 | none => ([], false)
theorem X0l (w : List Q3) (x : Nat) (t : Q2) (l : List Q0) : (Z8v w x t l).length ≤ l.length := List.length_filter_le _ _
theorem Q8w {w : List Q3} (hww : w ∈ J8) (hw : WW w) (he : WE w) {d x n : Nat} {t : Q2} (ht : t ∈ tys w) (hx : d + 1 ≤ x) (hx2 : x ≤ 100) {l bs : List Q0} (hb : ∀ b ∈ bs, Q0d w d t b ∧ cntP b ≤ 130) (h : ∀ a ∈ l, Q0d w x t a) (hl : l.length ≤ 20000) (hn : 20000000 ≤ n) :
  Q0i n ⟨w, dimP w⟩ t l bs = some (optR (Q2z w d x t l bs)) := by
 unfold Q0i Q2z
 rw [Z3j hww hw ht h (by omega) (by omega)]
 simp only [Option.bind_some]
 have hk := X0l w x t l
 have hkp : ∀ a ∈ Z8v w x t l, Q0d w x t a := fun a ha => h a (List.mem_filter.1 ha).1
 generalize Z8v w x t l = s at hk hkp
 have hs : s.length ≤ 20000 := by omega
 clear hk h hl
 have hlp : ∀ (bs : List Q0) (k : Nat) (s : List Q0), (∀ b ∈ bs, Q0d w d t b ∧ cntP b ≤ 130) → (∀ a ∈ s, Q0d w x t a) → s.length ≤ 20000 →
   forL (fun k871 x872 (s865 : (List Q0)) =>
   ((forL (fun k1028 x1029 (s1022 : (List Q0)) =>
   ((X6 n ⟨w, dimP w⟩ t x1029 x872).bind fun r1036 =>
   ((app s1022 r1036).bind fun x1037 =>
   some (Ctl.go x1037)))) 0 s865 []).bind fun (o1021 : Ctl (Ctl ((List Q0) × Bool) ((List Q0))) ((List Q0))) => match o1021 with
   | .ret r => some r
   | .go _ => none
   | .brk s1032 =>
   ((Q0s n ⟨w, dimP w⟩ t s1032).bind fun r1039 =>
   (if (ilt 400 (lenZ r1039.length)) = true then
   some (Ctl.ret (([], false)))
   else
   some (Ctl.go r1039))))) k bs s = some (match Q8z w d x t s bs with | some r => .brk r | none => .ret ([], false)) := by
  intro bs
  induction bs with
  | nil => intro k s _ _ _; simp [forL, Q8z]
  | cons b bs ih =>
   intro k s hb hs hl
   obtain ⟨hb1, hb2⟩ := hb b (by simp)
   have hfl := X2b hw he ht hb1 s
   have hfl2 : (s.flatMap fun a => Q14 w d t a b).length ≤ 7800000 := by
    have : s.length * (3 * cntP b) ≤ 20000 * 390 := Nat.mul_le_mul (by omega) (by omega)
    omega
   unfold forL
   rw [Q82 (fun a => Q14 w d t a b) 10000000 s 0 [] (fun k a ha s' hs' => by
    rw [Z5b hw he (dimP w) d n x t a b ht (hs a ha) hb1 (by omega) (by omega)]
    simp only [Option.bind_some]
    rw [X2 (by simp only [Q5]; omega)]
    rfl) (by simp only [List.length_nil]; omega)]
   simp only [Option.bind_some, List.nil_append]
   have hmp : ∀ y ∈ s.flatMap (fun a => Q14 w d t a b), Q0d w x t y := fun y hy => by
    obtain ⟨a, ha, hy⟩ := List.mem_flatMap.1 hy
    exact Z1g d x t a b hx (hs a ha) hb1 y hy
   rw [Z3j hww hw ht hmp (by omega) (by omega)]
   simp only [Option.bind_some, Q8z]
   have hst : Z8v w x t (s.flatMap fun a => Q14 w d t a b) = Z52 w d x t s b := rfl
   rw [hst]
   by_cases hc : 400 < (Z52 w d x t s b).length
   ·have e : ilt 400 (lenZ (Z52 w d x t s b).length) = true := by rw [W7, Q1a]; omega
    simp only [e, if_true, if_pos hc]
   ·have e : ilt 400 (lenZ (Z52 w d x t s b).length) = false := by rw [X3, Q1a]; omega
    simp only [e, Bool.false_eq_true, if_false, if_neg hc]
    exact ih (k + 1) _ (fun b hb' => hb b (by simp [hb'])) (Z6j hx hb1 hs) (by omega)
 have e := hlp bs 0 s hb hkp hs
 have e' := congrArg (fun z : Option (Ctl ((List Q0) × Bool) (List Q0)) => z.bind fun o => match o with | .ret r => some r | .go _ => none | .brk s => some (s, true)) e
 refine e'.trans ?_
 cases Q8z w d x t s bs <;> simp [optR]
theorem W4p : ∀ (d n : Nat) (p : Q0), W8j d p → d ≤ n → cntP p ≤ 1000 → V7 n p = some (Q1r d p)
 | 0, _, _, h, _, _ => h.elim
 | d + 1, n, p, h, hn, hc => by
  obtain ⟨n, rfl⟩ : ∃ m, n = m + 1 := ⟨n - 1, by omega⟩
  have hcp := Q6k p
  have hkid : ∀ q ∈ p.kids, V7 n q = some (Q1r d q) := fun q hq => by
   obtain ⟨j, hj⟩ := List.mem_iff_getElem?.1 hq
   have := Z4u hj
   exact W4p d n q (h q hq) (by omega) (by omega)
  have hlen : p.kids.length ≤ 1000 := by
   have : ∀ l : List Q0, l.length ≤ cntP.cntPs l := fun l => by
    induction l with
    | nil => simp
    | cons a l ih => have := Z3x a; simp only [List.length_cons, cntP.cntPs]; omega
   have := this p.kids
   omega
  have hloop := Q82 (ρ := Q0) (f := fun (k102 : Nat) x103 (s96 : (List Q0)) => ((V7 n x103).bind fun r110 => ((app s96 [r110]).bind fun x111 => some (Ctl.go x111)))) (fun q => [Q1r d q]) 100000 p.kids 0 [] (fun k q hq s hs => by
   rw [hkid q hq]
   simp only [Option.bind_some]
   simp only [List.length_cons, List.length_nil] at hs
   rw [X2 (by simp only [List.length_cons, List.length_nil, Q5]; omega)]
   rfl) (by
    have : ∀ l : List Q0, (l.flatMap fun q => [Q1r d q]).length = l.length := fun l => by induction l with | nil => rfl | cons a l ih => simp [ih]
    rw [this]; simp only [List.length_nil]; omega)
  have hfl : ∀ l : List Q0, (l.flatMap fun q => [Q1r d q]) = l.map (Q1r d) := fun l => by induction l with | nil => rfl | cons a l ih => simp [ih]
  rw [hfl] at hloop
  have hany : Y5 = some (Q0.mk 1 0 0 0 0 []) := rfl
  by_cases h2 : p.op = 2
  ·have e : ieq p.op 2 = true := by rw [Q23]; exact h2
   have hb : Q1r (d + 1) p = Q0.mk 1 0 0 0 0 [] := by simp [Q1r, h2]
   rw [hb]
   simp only [V7, e, if_true, hany, Option.bind_some]
  ·have e : ieq p.op 2 = false := by rw [Q1m]; exact h2
   by_cases h6 : p.op = 6
   ·have e6 : ieq p.op 6 = true := by rw [Q23]; exact h6
    cases hk : p.kids with
    | nil =>
     have e0 : ilt 0 (lenZ p.kids.length) = false := by rw [X3, hk, Q1a]; simp
     rw [hk] at hloop
     simp only [V7, e, e6, e0, Bool.false_eq_true, if_false, if_true, Option.bind_some, Q1r, h2, hk]
     have e' := congrArg (fun z : Option (Ctl Q0 (List Q0)) => z.bind fun o => match o with | .ret r => some r | .go _ => none | .brk s => some (Q0.mk p.op p.ctor p.n p.m p.var s)) hloop
     refine e'.trans ?_
     simp
    | cons q ks =>
     have e0 : ilt 0 (lenZ p.kids.length) = true := by rw [W7, hk, Q1a]; simp
     have hq := hkid q (by simp [hk])
     have hix : idx p.kids 0 = some q := Q2g (i := 0) (by simp [hk])
     have hb : Q1r (d + 1) p = Q1r d q := by simp [Q1r, h6, hk]
     rw [hb]
     simp only [V7, e, e6, e0, Bool.false_eq_true, if_false, if_true, hix, Option.bind_some, hq]
   ·have e6 : ieq p.op 6 = false := by rw [Q1m]; exact h6
    simp only [V7, e, e6, Bool.false_eq_true, if_false, Option.bind_some, Q1r, h2, h6, false_and]
    have e' := congrArg (fun z : Option (Ctl Q0 (List Q0)) => z.bind fun o => match o with | .ret r => some r | .go _ => none | .brk s => some (Q0.mk p.op p.ctor p.n p.m p.var s)) hloop
    refine e'.trans ?_
    simp
theorem Z68 {w : List Q3} (hw : WW w) : ∀ (d : Nat) (t : Q2) (p : Q0), t ∈ tys w → altD w d t p → orOk d p
 | 0, _, _, _, h => h.elim
 | d + 1, t, p, ht, h => by
  rcases h with rfl | ⟨n, m, rfl, h⟩ | ⟨c, ks, rfl, h1, h2, h3, h4⟩ | ⟨a, b, rfl, h1, h2⟩
  ·exact ⟨by simp, by simp, by simp⟩
  ·exact ⟨by simp, by simp, by simp⟩
  ·refine ⟨by simp only; rw [h3]; exact (hw.ty t ht).al c h2, by simp, fun q hq => ?_⟩
   obtain ⟨j, hj⟩ := List.mem_iff_getElem?.1 hq
   obtain ⟨a, ha⟩ := Q42 h3.symm (List.getElem?_eq_some_iff.1 hj).1
   exact Z68 hw d a q ((hw.ty t ht).at_ _ h2 a (List.mem_of_getElem? ha)) (h4 j a q ha hj)
  ·refine ⟨by simp, by simp, fun q hq => ?_⟩
   simp at hq
   rcases hq with rfl | rfl
   ·exact Z68 hw d t _ ht h1
   ·exact Z68 hw d t _ ht h2
theorem Z15 {w : List Q3} (t : Q2) (h : t.data = -1) : X1 w t = [] := by
 unfold X1 Q0w
 have : ieq t.data (-1) = true := by rw [Q23]; exact h
 rw [if_pos this]
 rfl
def Q7d (p : Q0) : Option (List Q0) := if 40 < (Q9 10 (Q1r 10 p)).length then none else some (Q9 10 (Q1r 10 p))
theorem Z5a {w : List Q3} (hw : WW w) {n : Nat} {t : Q2} {p : Q0} (ht : t ∈ tys w) (g : J2 w 10 t p = true) (hc : cntP p ≤ 1000) (hn : 100 ≤ n) : Q4x n p = some (optR (Q7d p)) := by
 have ha := Q8p Z15 10 t p g
 have ho := Z68 hw 10 t _ ht ha
 unfold Q4x Q7d
 rw [W4p 10 n p (X3r 10 t p g) (by omega) hc]
 simp only [Option.bind_some]
 rw [Z3w 10 n _ ho (by omega)]
 simp only [Option.bind_some]
 by_cases h : 40 < (Q9 10 (Q1r 10 p)).length
 ·have e : ilt 40 ((min (Q9 10 (Q1r 10 p)).length 401 : Nat) : Int) = true := by rw [W7]; omega
  simp only [e, if_true, if_pos h]
  rfl
 ·have e : ilt 40 ((min (Q9 10 (Q1r 10 p)).length 401 : Nat) : Int) = false := by rw [X3]; omega
  simp only [e, Bool.false_eq_true, if_false, if_neg h]
  rw [Z59 10 n _ ho (by omega) (by omega)]
  rfl
end Go.Proofs.YtbdkbdafhlcilaaGreat
namespace Go.Proofs.YtbdkbdafhlcilaaGreat
open Go Go.RowKit
theorem Z4s (l : List Q0) (f : Q0 → Option Bool) (g : Q0 → Bool) (hf : ∀ x ∈ l, f x = some (g x)) : Q11 l f = some (l.any g) := X8i (Z1h l f g hf)
end Go.Proofs.YtbdkbdafhlcilaaGreat
namespace Go.Proofs.YtbdkbdafhlcilaaGreat
open Go Go.RowKit
def Q3a : List Q6 → Option (List Q0)
 | [] => some []
 | c :: cs => if c.guard.op = 0 then (Q7d c.pat).bind fun l => (Q3a cs).map (l ++ ·) else Q3a cs
theorem Q7v {p : Q0} {l : List Q0} (h : Q7d p = some l) : l.length ≤ 40 ∧ l = Q9 10 (Q1r 10 p) := by
 unfold Q7d at h
 split at h
 ·cases h
 ·cases h; exact ⟨by omega, rfl⟩
theorem Z5d {w : List Q3} (hw : WW w) {n : Nat} {t : Q2} (ht : t ∈ tys w) (hn : 100 ≤ n) : ∀ (cs : List Q6), (∀ c ∈ cs, J2 w 10 t c.pat = true ∧ cntP c.pat ≤ 1000) → cs.length ≤ 1000 → Q3w n cs = some (optR (Q3a cs)) := fun cs h hl => by
 have hlp : ∀ (cs : List Q6) (k : Nat) (s : List Q0), (∀ c ∈ cs, J2 w 10 t c.pat = true ∧ cntP c.pat ≤ 1000) → s.length + 40 * cs.length ≤ 100000 →
   forL (fun k130 x131 (s124 : (List Q0)) =>
   (((if (!ieq x131.guard.op 0) = true then
   some (Ctl.brk s124)
   else
   ((Q4x n x131.pat).bind fun r148 =>
   (if (!r148.2) = true then
   some (Ctl.ret (Ctl.ret (([], false))))
   else
   ((app s124 r148.1).bind fun x151 =>
   some (Ctl.brk x151)))))).bind fun (o143 : Ctl (Ctl ((List Q0) × Bool) ((List Q0))) ((List Q0))) => match o143 with
   | .ret r => some r
   | .go _ => none
   | .brk s142 =>
   some (Ctl.go s142))) k cs s = some (match Q3a cs with | some r => .brk (s ++ r) | none => .ret ([], false)) := by
  intro cs
  induction cs with
  | nil => intro k s _ _; simp [forL, Q3a]
  | cons c cs ih =>
   intro k s h hs
   obtain ⟨g, hc⟩ := h c (by simp)
   simp only [List.length_cons] at hs
   unfold forL
   by_cases hg : c.guard.op = 0
   ·have e : (!ieq c.guard.op 0) = false := by simp [ieq, hg]
    simp only [e, Bool.false_eq_true, if_false]
    rw [Z5a hw ht g hc hn]
    simp only [Option.bind_some, Q3a, if_pos hg]
    cases hp : Q7d c.pat with
    | none => simp [optR]
    | some l =>
     have hl := (Q7v hp).1
     simp only [optR, Bool.not_true, Bool.false_eq_true, if_false, Option.bind_some]
     rw [X2 (by simp only [Q5]; omega)]
     simp only [Option.bind_some]
     rw [ih (k + 1) (s ++ l) (fun c hc => h c (by simp [hc])) (by simp only [List.length_append]; omega)]
     cases Q3a cs with
     | none => simp
     | some r => simp
   ·have e : (!ieq c.guard.op 0) = true := by simp [ieq, hg]
    simp only [e, if_true, Option.bind_some, Q3a, if_neg hg]
    exact ih (k + 1) s (fun c hc => h c (by simp [hc])) (by omega)
 have e := hlp cs 0 [] h (by simp only [List.length_nil]; omega)
 unfold Q3w
 have e' := congrArg (fun z : Option (Ctl ((List Q0) × Bool) (List Q0)) => z.bind fun o => match o with | .ret r => some r | .go _ => none | .brk s => some (s, true)) e
 refine e'.trans ?_
 cases Q3a cs <;> simp [optR]
theorem X0b {w : List Q3} (hw : WW w) {n : Nat} (hn : 100 ≤ n) {t : Q2} (ht : t ∈ tys w) (p : Q0) : Q4h n w t p = some (Q30 w t p) := by
 unfold Q4h
 obtain ⟨r, e, h1, _⟩ := Z1v hw hn t p ht
 rw [e]
 simp only [Option.bind_some, h1]
theorem X94 {w : List Q3} {t : Q2} {n : Nat} (hn : 10 ≤ n) : ∀ {l : List Q0}, (∀ p ∈ l, Q30 w t p = true) → l.length ≤ 100000 → Q35 n l = some l := fun {l} h hl => by
 unfold Q35
 have hloop := Q82 (ρ := List Q0) (f := fun (k70 : Nat) x71 (s64 : (List Q0)) => ((Q16 n x71).bind fun r78 => ((app s64 [r78]).bind fun x79 => some (Ctl.go x79)))) (fun q => [q]) 1000000 l 0 [] (fun k q hq s hs => by
  obtain ⟨g, hc, _⟩ := Q7k (h q hq)
  rw [X9a 10 n q (X3r 10 t q g) hn (by omega)]
  simp only [Option.bind_some]
  simp only [List.length_cons, List.length_nil] at hs
  rw [X2 (by simp only [List.length_cons, List.length_nil, Q5]; omega)]
  rfl) (by
   have : ∀ l : List Q0, (l.flatMap fun q => [q]).length = l.length := fun l => by induction l with | nil => rfl | cons a l ih => simp [ih]
   rw [this]; simp only [List.length_nil]; omega)
 have hfl : ∀ l : List Q0, (l.flatMap fun q => [q]) = l := fun l => by induction l with | nil => rfl | cons a l ih => simp [ih]
 rw [hfl] at hloop
 have e' := congrArg (fun z : Option (Ctl (List Q0) (List Q0)) => z.bind fun o => match o with | .ret r => some r | .go _ => none | .brk s => some s) hloop
 exact e'.trans (by simp)
def Z0n (w : List Q3) (t : Q2) : Option (List Q0) → Option (List Q0)
 | none => none
 | some l => if l.all (Q30 w t) = true then some l else none
theorem Q9u {w : List Q3} (hw : WW w) {S : List Int} {n : Nat} (hn : 100 ≤ n) {t : Q2} (ht : t ∈ tys w) (o : Option (List Q0)) (ho : ∀ l, o = some l → l.length ≤ 100000) :
  Q1f n ⟨w, S⟩ t (optR o).1 (optR o).2 = some (optR (Z0n w t o)) := by
 unfold Q1f
 cases o with
 | none => simp [optR, Z0n]
 | some l =>
  simp only [optR, Bool.not_true, Bool.false_eq_true, if_false]
  rw [Z4s l _ (fun p => !Q30 w t p) (fun p _ => by
   unfold Q2r
   rw [X0b hw hn ht p]
   rfl)]
  simp only [Option.bind_some, Z0n]
  by_cases h : l.all (Q30 w t) = true
  ·have e : (l.any fun p => !Q30 w t p) = false := by
    rw [List.any_eq_false]
    intro p hp
    simp [List.all_eq_true.1 h p hp]
   simp only [e, Bool.false_eq_true, if_false, if_pos h]
   rw [X94 (by omega) (fun p hp => List.all_eq_true.1 h p hp) (ho l rfl)]
   rfl
  ·have e : (l.any fun p => !Q30 w t p) = true := by
    rw [List.any_eq_true]
    simp only [List.all_eq_true, Classical.not_forall] at h
    obtain ⟨p, hp, h⟩ := h
    exact ⟨p, hp, by simpa using h⟩
   simp only [e, if_true, if_neg h]
end Go.Proofs.YtbdkbdafhlcilaaGreat
namespace Go.Proofs.YtbdkbdafhlcilaaGreat
open Go Go.RowKit
theorem Q63 {w : List Q3} {t : Q2} : ∀ {cs : List Q6} {l : List Q0}, (∀ c ∈ cs, J2 w 10 t c.pat = true) → Q3a cs = some l → ∀ b ∈ l, Q0d w 10 t b
 | [], l, _, e => by simp only [Q3a, Option.some.injEq] at e; subst e; simp
 | c :: cs, l, h, e => by
  simp only [Q3a] at e
  split at e
  ·cases hp : Q7d c.pat with
   | none => rw [hp] at e; simp at e
   | some m =>
    rw [hp] at e
    cases hc : Q3a cs with
    | none => rw [hc] at e; simp at e
    | some r =>
     rw [hc] at e
     simp only [Option.bind_some, Option.map_some, Option.some.injEq] at e
     subst e
     intro b hb
     rcases List.mem_append.1 hb with hb | hb
     ·rw [(Q7v hp).2] at hb
      exact Q92 10 t _ (Q8p Z15 10 t c.pat (h c (by simp))) b hb
     ·exact Q63 (fun c hc => h c (by simp [hc])) hc b hb
  ·exact Q63 (fun c hc => h c (by simp [hc])) e
end Go.Proofs.YtbdkbdafhlcilaaGreat
namespace Go.Proofs.YtbdkbdafhlcilaaGreat
open Go Go.RowKit
theorem X1g : ∀ (d : Nat) (p : Q0), cntP (Q1r d p) ≤ cntP p
 | 0, p => by simp [Q1r]
 | d + 1, p => by
  have hp := Q6k p
  simp only [Q1r]
  split
  ·simp only [cntP, cntP.cntPs]; omega
  ·split
   ·rename_i h
    cases hk : p.kids with
    | nil => exact absurd hk h.2
    | cons q ks =>
     have := X1g d q
     rw [hk] at hp
     simp only [cntP.cntPs] at hp
     simp only [List.headD_cons]
     omega
   ·have : ∀ l : List Q0, cntP.cntPs (l.map (Q1r d)) ≤ cntP.cntPs l := fun l => by
     induction l with
     | nil => simp
     | cons a l ih => have := X1g d a; simp only [List.map_cons, cntP.cntPs]; omega
    have := this p.kids
    rw [Q6k]
    simp only
    omega
theorem Z6m : ∀ (d : Nat) (p : Q0), ∀ q ∈ Q9 d p, cntP q ≤ cntP p
 | 0, _, _, h => by simp [Q9] at h
 | d + 1, p, q, h => by
  have hp := Q6k p
  simp only [Q9] at h
  split at h
  ·obtain ⟨k, hk, hq⟩ := List.mem_flatMap.1 h
   have h1 := Z6m d k q hq
   obtain ⟨j, hj⟩ := List.mem_iff_getElem?.1 hk
   have := Z4u hj
   omega
  ·obtain ⟨cs, hcs, rfl⟩ := List.mem_map.1 h
   have hm := Z3f.1 hcs
   have : ∀ (ks cs : List Q0), MemL cs (ks.map (Q9 d)) → cntP.cntPs cs ≤ cntP.cntPs ks := fun ks => by
    induction ks with
    | nil => intro cs h; have := h.1; simp at this; subst this; simp
    | cons k ks ih =>
     intro cs h
     cases cs with
     | nil => have := h.1; simp at this
     | cons c cs =>
      rw [List.map_cons, Z0t] at h
      have h1 := Z6m d k c h.1
      have h2 := ih cs h.2
      simp only [cntP.cntPs]
      omega
   have := this p.kids cs hm
   rw [Q6k]
   simp only [Q43]
   omega
theorem X30 {p : Q0} {l : List Q0} (h : Q7d p = some l) : ∀ q ∈ l, cntP q ≤ cntP p := fun q hq => by
 rw [(Q7v h).2] at hq
 exact Nat.le_trans (Z6m 10 _ q hq) (X1g 10 p)
theorem Z3v {m : Nat} : ∀ {cs : List Q6} {l : List Q0}, (∀ c ∈ cs, cntP c.pat ≤ m) → Q3a cs = some l → ∀ b ∈ l, cntP b ≤ m
 | [], l, _, e => by simp only [Q3a, Option.some.injEq] at e; subst e; simp
 | c :: cs, l, h, e => by
  simp only [Q3a] at e
  split at e
  ·cases hp : Q7d c.pat with
   | none => rw [hp] at e; simp at e
   | some m =>
    rw [hp] at e
    cases hc : Q3a cs with
    | none => rw [hc] at e; simp at e
    | some r =>
     rw [hc] at e
     simp only [Option.bind_some, Option.map_some, Option.some.injEq] at e
     subst e
     intro b hb
     rcases List.mem_append.1 hb with hb | hb
     ·exact Nat.le_trans (X30 hp b hb) (h c (by simp))
     ·exact Z3v (fun c hc => h c (by simp [hc])) hc b hb
  ·exact Z3v (fun c hc => h c (by simp [hc])) e
end Go.Proofs.YtbdkbdafhlcilaaGreat
namespace Go.Proofs.YtbdkbdafhlcilaaGreat
open Go Go.RowKit
theorem Q2h {w : List Q3} {t : Q2} {cs : List Q6} (h : Q25 w t cs = true) : cs.length ≤ 8 ∧ ∀ c ∈ cs, Q30 w t c.pat = true ∧ J2 w 10 t c.pat = true ∧ cntP c.pat ≤ 60 := by
 simp only [Q25, Bool.and_eq_true, decide_eq_true_eq, List.all_eq_true] at h
 refine ⟨h.1, fun c hc => ?_⟩
 have := h.2 c hc
 simp only [Q6u, Bool.and_eq_true] at this
 obtain ⟨g1, g2, _⟩ := Q7k this.1
 exact ⟨this.1, g1, g2⟩
end Go.Proofs.YtbdkbdafhlcilaaGreat
namespace Go.Proofs.YtbdkbdafhlcilaaGreat
open Go Go.RowKit
theorem Z3u {w : List Q3} {e : Nat} {t : Q2} {v : Z4} (hv : Q1u w e t v) : ∀ {cs : List Q6} {l : List Q0}, (∀ c ∈ cs, J2 w 10 t c.pat = true) → Q3a cs = some l →
  ((∃ b ∈ l, fitP b v = true) ↔ ∃ c ∈ cs, c.guard.op = 0 ∧ (Z9 10 c.pat v).isSome = true)
 | [], l, _, e1 => by simp only [Q3a, Option.some.injEq] at e1; subst e1; simp
 | c :: cs, l, h, e1 => by
  simp only [Q3a] at e1
  split at e1
  ·rename_i h0
   cases hp : Q7d c.pat with
   | none => rw [hp] at e1; simp at e1
   | some m =>
    rw [hp] at e1
    cases hc : Q3a cs with
    | none => rw [hc] at e1; simp at e1
    | some r =>
     rw [hc] at e1
     simp only [Option.bind_some, Option.map_some, Option.some.injEq] at e1
     subst e1
     have ih := Z3u hv (fun c hc => h c (by simp [hc])) hc
     have h1 := Q97 Z15 10 e t c.pat v (h c (by simp)) hv
     rw [← (Q7v hp).2] at h1
     constructor
     ·rintro ⟨b, hb, g⟩
      rcases List.mem_append.1 hb with hb | hb
      ·exact ⟨c, by simp, h0, h1.2 ⟨b, hb, g⟩⟩
      ·obtain ⟨c', m1, m2⟩ := ih.1 ⟨b, hb, g⟩
       exact ⟨c', by simp [m1], m2⟩
     ·rintro ⟨c', hc', g0, g⟩
      rcases List.mem_cons.1 hc' with rfl | hc'
      ·obtain ⟨b, hb, g⟩ := h1.1 g
       exact ⟨b, by simp [hb], g⟩
      ·obtain ⟨b, hb, g⟩ := ih.2 ⟨c', hc', g0, g⟩
       exact ⟨b, by simp [hb], g⟩
  ·rename_i h0
   have ih := Z3u hv (fun c hc => h c (by simp [hc])) e1
   rw [ih]
   constructor
   ·rintro ⟨c', m1, m2⟩; exact ⟨c', by simp [m1], m2⟩
   ·rintro ⟨c', hc', g0, g⟩
    rcases List.mem_cons.1 hc' with rfl | hc'
    ·exact absurd g0 h0
    ·exact ⟨c', hc', g0, g⟩
end Go.Proofs.YtbdkbdafhlcilaaGreat
namespace Go.Proofs.YtbdkbdafhlcilaaGreat
open Go Go.RowKit
theorem Z4c {w : List Q3} {t : Q2} {o : Option (List Q0)} {r : List Q0} (h : Z0n w t o = some r) : o = some r := by
 cases o with
 | none => simp [Z0n] at h
 | some l =>
  simp only [Z0n] at h
  split at h
  ·exact h
  ·cases h
end Go.Proofs.YtbdkbdafhlcilaaGreat
namespace Go.Proofs.YtbdkbdafhlcilaaGreat
open Go Go.RowKit
def tupV (out : List (List Z4)) (l : List Z4) : List (List Z4) := out.flatMap fun q => l.map fun c => q ++ [c]
def mkV (c : Int) (ks : List Z4) : Z4 := Z4.mk c 0 ks
def numV (n : Nat) : Z4 := Z4.mk (-1) (n : Int) []
end Go.Proofs.YtbdkbdafhlcilaaGreat
namespace Go.Proofs.YtbdkbdafhlcilaaGreat
open Go Go.RowKit
def X3a (w : List Q3) : Nat → Q2 → Z4
 | 0, _ => ⟨0, 0, []⟩
 | d + 1, t => if t.data = -1 then ⟨-1, 0, []⟩ else match (X1 w t).find? (fun c => decide (Q5i w t c = depP w t)) with
  | none => ⟨0, 0, []⟩
  | some c => ⟨c, 0, (Y6 w t c).map (X3a w d)⟩
def V0p (w : List Q3) (t : Q2) : List Z4 := if t.data = -1 then (List.range 10).map numV else
 ((X1 w t).filter fun c => (Y6 w t c).all fun a => decide (depP w a ≠ 0)).map fun c => ⟨c, 0, (Y6 w t c).map (X3a w 5)⟩
def V5f (w : List Q3) (t : Q2) : List Z4 := if t.data = -1 then (List.range 10).map numV else
 (X1 w t).flatMap fun c => (((Y6 w t c).map (V0p w)).foldl tupV [[]]).map (mkV c)
def V5m (l : List Nat) : Nat := l.foldl (fun a b => a * max 1 b) 1
def chkR (w : List Q3) : Bool := (tys w).all fun t => (decide (depP w t = 0) || X3s w 10 t (X3a w 5 t)) && (decide ((V5f w t).length ≤ 400) && (X1 w t).all fun c => decide (V5m ((Y6 w t c).map fun a => (V0p w a).length) ≤ 400))
theorem Y0d : J8.all chkR = true := by kernel_rfl
structure WR (w : List Q3) : Prop where
 least : ∀ t ∈ tys w, depP w t ≠ 0 → Q1u w 10 t (X3a w 5 t)
 n2 : ∀ t ∈ tys w, (V5f w t).length ≤ 400
 n1 : ∀ t ∈ tys w, ∀ c ∈ X1 w t, V5m ((Y6 w t c).map fun a => (V0p w a).length) ≤ 400
theorem wr {w : List Q3} (h : w ∈ J8) : WR w := by
 have h1 := List.all_eq_true.1 Y0d w h
 simp only [chkR, List.all_eq_true, Bool.and_eq_true, Bool.or_eq_true, decide_eq_true_eq] at h1
 exact ⟨fun t ht h0 => (X9r 10 t _).1 (((h1 t ht).1).resolve_left h0), fun t ht => (h1 t ht).2.1, fun t ht c hc => (h1 t ht).2.2 c hc⟩
theorem W3p {w : List Q3} {e : Nat} {t : Q2} {c : Int} {vs : List Z4} (hd : t.data ≠ -1) (hc : c ∈ X1 w t) (hl : vs.length = (Y6 w t c).length) (h : ∀ (j : Nat) (a : Q2) (x : Z4), (Y6 w t c)[j]? = some a → vs[j]? = some x → Q1u w e a x) : Q1u w (e + 1) t ⟨c, 0, vs⟩ := by
 rw [Q1u, if_neg hd]
 exact ⟨rfl, hc, hl, h⟩
theorem W6m {w : List Q3} {e : Nat} {t : Q2} (hd : t.data = -1) {n : Nat} (hn : n < 10) : Q1u w (e + 1) t (numV n) := by
 rw [Q1u, if_pos hd]
 exact ⟨rfl, by simp only [numV]; omega, by simp only [numV]; omega, rfl⟩
theorem Z4f {w : List Q3} (hw : WW w) (hr : WR w) : ∀ (d : Nat) (t : Q2) (p : Q0), t ∈ tys w → Q0d w d t p → Q45 w d t p = false → ∃ v, Q1u w (d + 10) t v ∧ fitP p v = true
 | 0, _, _, _, h, _ => h.elim
 | d + 1, t, p, ht, hp, he => by
  rcases hp with rfl | ⟨n, m, rfl, hd, g0, g1, g2⟩ | ⟨c, ks, rfl, hd, hc, hl, hk⟩
  ·simp only [Q45, if_true, decide_eq_false_iff_not] at he
   exact ⟨_, Z64 10 _ t _ (by omega) (hr.least t ht he), Q86 rfl _⟩
  ·refine ⟨numV n.toNat, W6m hd (by omega), ?_⟩
   rw [Q7a rfl, decide_eq_true_eq]
   simp only [numV]
   omega
  ·have hat := (hw.ty t ht).at_ c hc
   have gen : ∀ (ts : List Q2) (ks : List Q0), ks.length = ts.length → (∀ a ∈ ts, a ∈ tys w) → (∀ (j : Nat) (a : Q2) (q : Q0), ts[j]? = some a → ks[j]? = some q → Q0d w d a q ∧ Q45 w d a q = false) →
     ∃ vs : List Z4, vs.length = ts.length ∧ (∀ (j : Nat) (a : Q2) (v : Z4), ts[j]? = some a → vs[j]? = some v → Q1u w (d + 10) a v) ∧ fitL ks vs = true := by
    intro ts
    induction ts with
    | nil => intro ks hl _ _; exact ⟨[], rfl, fun j a v h => by simp at h, by cases ks with
      | nil => exact W87
      | cons k ks => simp at hl⟩
    | cons a ts ih =>
     intro ks hl hat hk
     cases ks with
     | nil => simp at hl
     | cons q ks =>
      obtain ⟨vs, e1, e2, e3⟩ := ih ks (by simpa using hl) (fun x hx => hat x (by simp [hx])) fun j a q h1 h2 => hk (j + 1) a q (by simpa using h1) (by simpa using h2)
      obtain ⟨g1, g3⟩ := hk 0 a q rfl rfl
      obtain ⟨v, hv, hf⟩ := Z4f hw hr d a q (hat a (by simp)) g1 g3
      refine ⟨v :: vs, by simp [e1], fun j b x h1 h2 => ?_, by rw [Q87, hf, e3]; rfl⟩
      cases j with
      | zero => simp only [List.getElem?_cons_zero, Option.some.injEq] at h1 h2; subst h1 h2; exact hv
      | succ j => exact e2 j b x (by simpa using h1) (by simpa using h2)
   obtain ⟨vs, e1, e2, e3⟩ := gen _ ks hl hat fun j a q ha hq => ⟨hk j a q ha hq, by
    cases hem : Q45 w d a q with
    | false => rfl
    | true =>
     have : Q45 w (d + 1) t (Q0.mk 4 c 0 0 0 ks) = true := Z9x.2 ⟨j, a, q, ha, hq, hem⟩
     rw [he] at this
     cases this⟩
   refine ⟨⟨c, 0, vs⟩, ?_, by rw [Q39 rfl]; simp [e3]⟩
   have := W3p (e := d + 10) hd hc e1 e2
   rw [show d + 1 + 10 = d + 10 + 1 by omega]
   exact this
end Go.Proofs.YtbdkbdafhlcilaaGreat
namespace Go.Proofs.YtbdkbdafhlcilaaGreat
open Go Go.RowKit
def hcR (rows : List Grow) (us : List Z4) : List Int := (rows.filter (hitR us)).map (·.clause)
def Q6w (lst : List Q6) (c : Int) : Prop := ∃ cl, lst[c.toNat]? = some cl ∧ cl.guard.op ≠ 0
def Z0b (lst : List Q6) (i : Int) : List Int → Prop
 | [] => False
 | c :: l => c = i ∨ (Q6w lst c ∧ Z0b lst i l)
def Q8x (lst : List Q6) : List Int → Prop
 | [] => True
 | c :: l => Q6w lst c ∧ Q8x lst l
theorem Z26 {lst : List Q6} {i c : Int} (hc : Q6w lst c) (hi : i ≠ c) : ∀ l : List Int, Z0b lst i (l.filter fun x => decide (x ≠ c)) ↔ Z0b lst i l
 | [] => Iff.rfl
 | x :: l => by
  have ih := Z26 hc hi l
  by_cases hx : x = c
  ·subst hx
   rw [List.filter_cons, if_neg (by simp)]
   simp only [Z0b]
   rw [ih]
   constructor
   ·exact fun h => .inr ⟨hc, h⟩
   ·rintro (h | h)
    ·exact absurd h.symm hi
    ·exact h.2
  ·rw [List.filter_cons, if_pos (by simpa using hx)]
   simp only [Z0b]
   rw [ih]
theorem Z2e {lst : List Q6} {c : Int} (hc : Q6w lst c) : ∀ l : List Int, Q8x lst (l.filter fun x => decide (x ≠ c)) ↔ Q8x lst l
 | [] => Iff.rfl
 | x :: l => by
  have ih := Z2e hc l
  by_cases hx : x = c
  ·subst hx
   rw [List.filter_cons, if_neg (by simp)]
   simp only [Q8x]
   rw [ih]
   exact ⟨fun h => ⟨hc, h⟩, fun h => h.2⟩
  ·rw [List.filter_cons, if_pos (by simpa using hx)]
   simp only [Q8x]
   rw [ih]
theorem Z63 (rows : List Grow) (us : List Z4) (c : Int) : hcR (Q4o rows c) us = (hcR rows us).filter fun x => decide (x ≠ c) := by
 unfold hcR Q4o
 rw [List.filter_map, List.filter_filter, List.filter_filter]
 congr 1
 refine List.filter_congr fun r _ => ?_
 simp only [Function.comp]
 rw [Bool.and_comm]
 simp
structure UsG (w : List Q3) (e : Nat) (cols : List Z3) (us : List Z4) : Prop where
 len : us.length = cols.length
 at_ : ∀ (j : Nat) (c : Z3) (u : Z4), cols[j]? = some c → us[j]? = some u → Q1u w e c.t u
def Z49 : List Q0 → List Z4 → Bool
 | [], [] => true
 | p :: ps, u :: us => (Z9 12 p u).isSome && Z49 ps us
 | _, _ => false
theorem Q7x : ∀ (ps : List Q0) (us : List Z4), ps.length = us.length → (Q1c (Z9 12) ps us).isSome = Z49 ps us
 | [], [], _ => rfl
 | p :: ps, u :: us, h => by
  have ih := Q7x ps us (by simpa using h)
  simp only [Q1c, Z49]
  rw [← ih]
  cases Z9 12 p u with
  | none => rfl
  | some x => cases Q1c (Z9 12) ps us <;> rfl
 | [], _ :: _, h => by simp at h
 | _ :: _, [], h => by simp at h
theorem Z9e {w : List Q3} : ∀ (ps : List Q0) (args : List Z3) (us : List Z4), ps.length = args.length → us.length = args.length → (∀ (j : Nat) (p : Q0) (c : Z3), ps[j]? = some p → args[j]? = some c → PatO w c.t p) → Z49 ((zipS ps args).map (·.2)) us = Z49 ps us
 | [], [], [], _, _, _ => rfl
 | p :: ps, c :: args, u :: us, h1, h2, h => by
  have hp := h 0 p c rfl rfl
  have ih := Z9e ps args us (by simpa using h1) (by simpa using h2) fun j p c a1 a2 => h (j + 1) p c (by simpa using a1) (by simpa using a2)
  have hz : zipS (p :: ps) (c :: args) = Q65 p c.path :: zipS ps args := rfl
  have hm := W96 c.path u hp.1
  rw [hz]
  simp only [List.map_cons, Z49]
  rw [ih, hm]
  cases Z9 12 (Q65 p c.path).2 u <;> rfl
 | [], [], _ :: _, _, h, _ => by simp at h
 | [], _ :: _, _, h, _, _ => by simp at h
 | _ :: _, [], _, h, _, _ => by simp at h
 | _ :: _, _ :: _, [], _, h, _ => by simp at h
theorem Q4t : ∀ (a b : List Q0) (us vs : List Z4), a.length = us.length → Z49 (a ++ b) (us ++ vs) = (Z49 a us && Z49 b vs)
 | [], b, [], vs, _ => by simp [Z49]
 | p :: a, b, u :: us, vs, h => by
  simp only [List.cons_append, Z49]
  rw [Q4t a b us vs (by simpa using h), Bool.and_assoc]
 | [], _, _ :: _, _, h => by simp at h
 | _ :: _, _, [], _, h => by simp at h
theorem W6x {w : List Q3} (hS : WS w) {lst : List Q6} {e : Nat} {cols : List Z3} {us : List Z4} (h : UsG w e cols us) {k : Nat} {col : Z3} (hk : cols[k]? = some col) (ht : col.t ∈ tys w) {u : Z4} (hu : us[k]? = some u) {b : Z1} (hB : BrC w col.t b) (hf : Q13 b u = true)
  {r : Grow} (hr : RowC w lst cols r) (hfit : Q5o (W0 r k) b = true) : hitR (usD us k b u) (Z29 r k (V2 w col b)) = hitR us r := by
 obtain ⟨hkl, hp⟩ := hr.at hk
 have hg := h.at_ k col u hk hu
 have hul := (List.getElem?_eq_some_iff.1 hu).1
 have hlen := h.len
 have hrl := hr.len
 have hpk : r.pats[k]? = some (W0 r k) := by unfold W0; rw [List.getElem?_eq_getElem hkl]; rfl
 obtain ⟨c1, c2, _⟩ := W2v hS ht hp hB hfit rfl
 have hkU := Z7a hB hg hf
 have hz : ((zipS (Q37 (W0 r k) (V2 w col b)) (V2 w col b)).map (·.2)).length = (Z7b b u).length := by
  rw [List.length_map, zipS, List.length_zipWith]; omega
 unfold hitR rowL Z29 usD
 simp only
 rw [Q7x _ _ (by simp only [List.length_append, List.length_take, List.length_drop, hz]; omega), Q7x _ _ (by omega)]
 rw [List.append_assoc, List.append_assoc, Q4t _ _ _ _ (by simp only [List.length_take]; omega), Q4t _ _ _ _ hz]
 conv => rhs; rw [Z3e hpk, Z3e hu, Q4t _ _ _ _ (by simp only [List.length_take]; omega), Q4t _ _ _ _ (by simp)]
 congr 2
 rw [Z9e _ _ _ c1 hkU c2]
 simp only [Z49, Bool.and_true]
 rw [X9q hS ht hB hp hg hf hfit, Q7x _ _ (by omega)]
theorem X11 {w : List Q3} (hS : WS w) {lst : List Q6} {e : Nat} {cols : List Z3} {us : List Z4} (h : UsG w e cols us) {k : Nat} {col : Z3} (hk : cols[k]? = some col) (ht : col.t ∈ tys w) {u : Z4} (hu : us[k]? = some u) {rows0 : List Grow} {b : Z1} (hb : b ∈ brsD w rows0 col.t k) (hB : BrC w col.t b) (hf : Q13 b u = true) :
  ∀ rows : List Grow, (∀ r ∈ rows, r ∈ rows0) → (∀ r ∈ rows, RowC w lst cols r) → hcR (Q5e rows k b (V2 w col b)) (usD us k b u) = hcR rows us
 | [], _, _ => rfl
 | r :: rows, hm, hr => by
  have ih := X11 hS h hk ht hu hb hB hf rows (fun r hr => hm r (by simp [hr])) (fun x hx => hr x (by simp [hx]))
  have hrC := hr r (by simp)
  obtain ⟨hkl, hp⟩ := hrC.at hk
  have hg := h.at_ k col u hk hu
  unfold Q5e hcR at ih ⊢
  rw [List.filter_cons]
  cases hfit : Q5o (W0 r k) b with
  | true =>
   rw [if_pos rfl, List.map_cons, List.filter_cons, List.filter_cons, W6x hS h hk ht hu hB hf hrC hfit]
   cases hitR us r with
   | true =>
    rw [if_pos rfl, if_pos rfl, List.map_cons, List.map_cons, ih]
    rfl
   | false =>
    rw [if_neg (by simp), if_neg (by simp)]
    exact ih
  | false =>
   rw [if_neg (by simp), List.filter_cons]
   have hno : hitR us r = false := by
    have hmn := W06 hb (hm r (by simp)) hp hg hf 11 hfit
    have hlen := h.len
    have hrl := hrC.len
    have hul := (List.getElem?_eq_some_iff.1 hu).1
    have hpk : r.pats[k]? = some (W0 r k) := by unfold W0; rw [List.getElem?_eq_getElem hkl]; rfl
    unfold hitR rowL
    rw [Q7x _ _ (by omega), Z3e hpk, Z3e hu, Q4t _ _ _ _ (by simp only [List.length_take]; omega), Q4t _ _ _ _ (by simp)]
    simp [Z49, hmn]
   rw [if_neg (by rw [hno]; simp)]
   exact ih
def Q83 (i : Int) : Nat → X4 → Prop
 | 0, _ => False
 | d + 1, t => (t.op = 1 ∧ t.clause = i) ∨ ∃ x ∈ Q4s t, Q83 i d x
def Z7y : Nat → X4 → Prop
 | 0, _ => False
 | d + 1, t => t.op = 0 ∨ ∃ x ∈ Q4s t, Z7y d x
theorem W5y {w : List Q3} {e : Nat} {cols : List Z3} {us : List Z4} (h : UsG w e cols us) {k : Nat} {col : Z3} (hk : cols[k]? = some col) {u : Z4} (hu : us[k]? = some u) {b : Z1} (hB : BrC w col.t b) (hf : Q13 b u = true) : UsG w e (Q4n cols k (V2 w col b)) (usD us k b u) := by
 have hg := h.at_ k col u hk hu
 have hkl := (List.getElem?_eq_some_iff.1 hk).1
 have hl := Z7a hB hg hf
 have hlen := h.len
 refine ⟨by simp only [Q4n, usD, List.length_append, List.length_take, List.length_drop, hl]; omega, fun j c x hc hx => ?_⟩
 unfold Q4n at hc
 unfold usD at hx
 by_cases h1 : j < k
 ·rw [List.append_assoc, List.getElem?_append_left (by rw [List.length_take]; omega), List.getElem?_take_of_lt h1] at hc hx
  exact h.at_ j c x hc hx
 ·by_cases h2 : j < k + (V2 w col b).length
  ·rw [List.append_assoc, List.getElem?_append_right (by rw [List.length_take]; omega), List.length_take, List.getElem?_append_left (by omega)] at hc hx
   rw [show min k us.length = k by omega] at hx
   rw [show min k cols.length = k by omega] at hc
   generalize hi : j - k = i at hc hx
   by_cases hc1 : b.ctor = -1
   ·rw [V2, if_pos hc1] at hc; simp at hc
   have hd : col.t.data ≠ -1 := fun hd => hc1 (hB.int hd)
   have hil := (List.getElem?_eq_some_iff.1 hc).1
   rw [Q51, if_neg hc1] at hil
   have hti : (Y6 w col.t b.ctor)[i]? = some ((Y6 w col.t b.ctor)[i]) := List.getElem?_eq_getElem hil
   rw [Q9d hc1 hti] at hc
   cases hc
   rw [Z7b, if_neg hc1] at hx
   simp only [Q13, Bool.and_eq_true, decide_eq_true_eq] at hf
   cases e with
   | zero => exact hg.elim
   | succ e =>
    rw [Q1u, if_neg hd] at hg
    exact Z64 e (e + 1) _ _ (by omega) (hg.2.2.2 i _ x (by rw [← hf.1]; exact hti) hx)
  ·have hcl : (cols.take k ++ V2 w col b).length = k + (V2 w col b).length := by rw [List.length_append, List.length_take]; omega
   have hul : (us.take k ++ Z7b b u).length = k + (V2 w col b).length := by rw [List.length_append, List.length_take, hl]; omega
   rw [List.getElem?_append_right (by omega), hcl, List.getElem?_drop] at hc
   rw [List.getElem?_append_right (by omega), hul, List.getElem?_drop] at hx
   exact h.at_ _ c x hc hx
theorem W3m {us : List Z4} {r : Grow} (h : ∀ q ∈ r.pats, q = anyP) (hl : r.pats.length = us.length) : hitR us r = true := by
 unfold hitR rowL
 rw [Z4g h hl]
 rfl
theorem X7j {w : List Q3} {lst : List Q6} {cols : List Z3} {pick : Int} {r0 : Grow} {rest : List Grow} (hp : Q96 w (r0 :: rest) cols pick = none) (h0 : RowC w lst cols r0) : ∀ q ∈ r0.pats, q = anyP := fun q hq => by
 obtain ⟨j, hj⟩ := List.mem_iff_getElem?.1 hq
 have hjl := (List.getElem?_eq_some_iff.1 hj).1
 have hlen := h0.len
 have hany : Q8d (r0 :: rest) j = true := Q95.1 hp j (by omega)
 have this : (W0 r0 j).op = 1 := of_decide_eq_true hany
 have hq2 : W0 r0 j = q := by unfold W0; rw [hj]; rfl
 have hc : cols[j]? = some (cols[j]'(by omega)) := by simp
 have hpc := (h0.at hc).2
 rw [hq2] at this hpc
 exact X6q (Q0c hpc.1) this
theorem X1f {P : Z1 → X4 → Prop} : ∀ {bs xs : List Z1}, brsR P bs xs → ∀ x ∈ xs, ∃ b ∈ bs, P b x.tree
 | [], [], _, x, hx => by cases hx
 | [], _ :: _, e, _, _ => e.elim
 | _ :: _, [], e, _, _ => e.elim
 | b :: bs, y :: ys, ⟨⟨_, _, _, e4⟩, e5⟩, x, hx => by
  rcases List.mem_cons.1 hx with rfl | hx
  ·exact ⟨b, by simp, e4⟩
  ·obtain ⟨b', h1, h2⟩ := X1f e5 x hx
   exact ⟨b', by simp [h1], h2⟩
theorem Z2q {w : List Q3} (hww : w ∈ J8) {lst : List Q6} {pick : Int} {e : Nat} : ∀ (d : Nat) (t : X4) (rows : List Grow) (cols : List Z3) (us : List Z4), Q7i w lst pick d t rows cols → (∀ r ∈ rows, RowC w lst cols r) → ColC w cols d → UsG w e cols us →
  (∀ i, Z0b lst i (hcR rows us) → Q83 i d t) ∧ (Q8x lst (hcR rows us) → Z7y d t) := by
 have hw := ww hww
 have hS := ws hww
 intro d
 induction d with
 | zero => intro t rows cols us h; exact h.elim
 | succ d ih =>
  intro t rows cols us h hR hC hV
  have hCd : ColC w cols d := ⟨hC.ty, fun c hc => by have := hC.path c hc; omega, by have := hC.len; omega⟩
  cases rows with
  | nil =>
   simp only [Q7i] at h
   subst h
   exact ⟨fun i hi => hi.elim, fun _ => .inl rfl⟩
  | cons r0 rest =>
   simp only [Q7i] at h
   have h0 := hR r0 (by simp)
   cases hp : Q96 w (r0 :: rest) cols pick with
   | none =>
    rw [hp] at h
    simp only at h
    obtain ⟨h1, h2, h3, h4, h5, cl, h6, h7⟩ := h
    have hhit := W3m (X7j hp h0) (by rw [h0.len, hV.len])
    have hhc : hcR (r0 :: rest) us = r0.clause :: hcR rest us := by
     unfold hcR
     rw [List.filter_cons, if_pos hhit]
     rfl
    rcases h7 with ⟨h7, h8⟩ | ⟨h7, el, h8, h9⟩
    ·have hng : ¬ Q6w lst r0.clause := fun ⟨c, hc, hg⟩ => by rw [h6] at hc; cases hc; exact hg h7
     refine ⟨fun i hi => ?_, fun hf => ?_⟩
     ·rw [hhc] at hi
      rcases hi with hi | hi
      ·exact .inl ⟨h1, by rw [h2, hi]⟩
      ·exact absurd hi.1 hng
     ·rw [hhc] at hf
      exact absurd hf.1 hng
    ·have hgd : Q6w lst r0.clause := ⟨cl, h6, h7⟩
     obtain ⟨i1, i2⟩ := ih el (Q4o (r0 :: rest) r0.clause) cols us h9 (fun r hr => hR r (Z3a hr)) hCd hV
     have hem : el ∈ Q4s t := List.mem_append_right _ (by rw [h8]; simp)
     refine ⟨fun i hi => ?_, fun hf => .inr ⟨el, hem, i2 ?_⟩⟩
     ·by_cases hic : i = r0.clause
      ·exact .inl ⟨h1, by rw [h2, hic]⟩
      ·exact .inr ⟨el, hem, i1 i (by rw [Z63]; exact (Z26 hgd hic _).2 hi)⟩
     ·rw [Z63]
      exact (Z2e hgd _).2 hf
   | some k =>
    rw [hp] at h
    simp only at h
    obtain ⟨col, h1, h2, h3, h4, h5, h6, h7⟩ := h
    have hkl := (List.getElem?_eq_some_iff.1 h1).1
    have hlen := hV.len
    have hu : us[k]? = some (us[k]'(by omega)) := by simp
    generalize us[k]'(by omega) = u at hu
    have hg := hV.at_ k col u h1 hu
    have hct := hC.ty col (List.mem_of_getElem? h1)
    obtain ⟨x, b, f1, f2, f3, f4⟩ := X4m h7 (W4m hww hct hg (r0 :: rest) k)
    have hB := W4n (wl hww) hct b f2
    have hxm : x.tree ∈ Q4s t := List.mem_append_left _ (List.mem_map_of_mem (List.mem_of_find?_eq_some f1))
    have hRn : ∀ r ∈ Q5e (r0 :: rest) k b (V2 w col b), RowC w lst (Q4n cols k (V2 w col b)) r := fun r hr => by
     unfold Q5e at hr
     obtain ⟨r1, g1, rfl⟩ := List.mem_map.1 hr
     obtain ⟨g2, g3⟩ := List.mem_filter.1 g1
     exact RowC.next hw hS hC (hR r1 g2) h1 hB g3
    obtain ⟨i1, i2⟩ := ih x.tree _ _ (usD us k b u) f4 hRn (ColC.next hw hC h1 hB) (W5y hV h1 hu hB f3)
    have hhc := X11 (lst := lst) hS hV h1 hct hu f2 hB f3 (r0 :: rest) (fun r h => h) hR
    exact ⟨fun i hi => .inr ⟨_, hxm, i1 i (by rw [hhc]; exact hi)⟩, fun hf => .inr ⟨_, hxm, i2 (by rw [hhc]; exact hf)⟩⟩
theorem Z89 (cut : Int → Bool) : ∀ (m : Nat) (n fr : Int), ∀ b ∈ Q9b cut m n fr, b.m + 2 ≤ n + m
 | 0, _, _, b, h => by simp [Q9b] at h
 | m + 1, n, fr, b, h => by
  unfold Q9b at h
  split at h
  ·rcases List.mem_cons.1 h with rfl | h
   ·simp only; omega
   ·have := Z89 cut m (n + 1) n b h; omega
  ·have := Z89 cut m (n + 1) fr b h; omega
def InhC (w : List Q3) (cols : List Z3) : Prop := ∀ c ∈ cols, depP w c.t ≠ 0
theorem V5w {w : List Q3} (hww : w ∈ J8) {cols : List Z3} (hty : ∀ c ∈ cols, c.t ∈ tys w) (h : InhC w cols) : ∃ us, UsG w 10 cols us := by
 refine ⟨cols.map fun c => X3a w 5 c.t, by simp, fun j c u hc hu => ?_⟩
 rw [List.getElem?_map, hc] at hu
 cases hu
 have hm := List.mem_of_getElem? hc
 exact (wr hww).least c.t (hty c hm) (h c hm)
theorem V0b {w : List Q3} (hww : w ∈ J8) {e : Nat} {cols : List Z3} {k : Nat} {col : Z3} (hk : cols[k]? = some col) (ht : col.t ∈ tys w) {rows : List Grow} {b : Z1} (hb : b ∈ brsD w rows col.t k) {us' : List Z4} (h : UsG w e (Q4n cols k (V2 w col b)) us') :
  ∃ us u, UsG w (e + 1) cols us ∧ us[k]? = some u ∧ Q13 b u = true ∧ usD us k b u = us' := by
 have hw := ww hww
 have hB := W4n (wl hww) ht b hb
 have hkl := (List.getElem?_eq_some_iff.1 hk).1
 have hl := h.len
 simp only [Q4n, List.length_append, List.length_take, List.length_drop] at hl
 have hal := Q51 (w := w) (col := col) (b := b)
 have hu : ∃ u, Q1u w (e + 1) col.t u ∧ Q13 b u = true ∧ Z7b b u = (us'.drop k).take (V2 w col b).length := by
  by_cases hc1 : b.ctor = -1
  ·have ha0 : (V2 w col b).length = 0 := by rw [hal, if_pos hc1]
   have hd : col.t.data = -1 := Classical.byContradiction fun hd => (hB.ctor hd).2 hc1
   unfold brsD at hb
   rw [if_pos hd] at hb
   obtain ⟨q1, q2, _⟩ := Z02 10 1 0 (by omega) (fun c h1 h2 => by omega) b hb
   have q3 := Z89 _ 10 1 0 b hb
   refine ⟨Z4.mk (-1) b.n [], ?_, ?_, ?_⟩
   ·rw [Q1u, if_pos hd]
    refine ⟨rfl, ?_⟩
    simp only
    refine ⟨by omega, by omega, ?_⟩
    first | rfl | simp
   ·simp [Q13, hc1, q1]
   ·rw [ha0, Z7b, if_pos hc1]; simp
  ·have hd : col.t.data ≠ -1 := fun hd => hc1 (hB.int hd)
   have hcm := (hB.ctor hd).1
   rw [if_neg hc1] at hal
   refine ⟨mkV b.ctor ((us'.drop k).take (V2 w col b).length), W3p hd hcm ?_ (fun j a x ha hx => ?_), by simp [Q13, mkV, hc1], by rw [Z7b, if_neg hc1]; rfl⟩
   ·rw [List.length_take, List.length_drop]; omega
   ·have hjl := (List.getElem?_eq_some_iff.1 ha).1
    rw [List.getElem?_take, if_pos (by omega), List.getElem?_drop] at hx
    refine h.at_ (k + j) ⟨col.path ++ [(j : Int)], a⟩ x ?_ hx
    unfold Q4n
    rw [List.append_assoc, List.getElem?_append_right (by rw [List.length_take]; omega), List.length_take, List.getElem?_append_left (by omega), show k + j - min k cols.length = j by omega]
    exact Q9d hc1 ha
 obtain ⟨u, g1, g2, g3⟩ := hu
 have hlt : (us'.take k).length = k := by rw [List.length_take]; omega
 refine ⟨us'.take k ++ u :: us'.drop (k + (V2 w col b).length), u, ⟨?_, fun j c x hc hx => ?_⟩, ?_, g2, ?_⟩
 ·simp only [List.length_append, List.length_cons, List.length_drop, hlt]; omega
 ·by_cases h1 : j < k
  ·rw [List.getElem?_append_left (by omega), List.getElem?_take, if_pos h1] at hx
   refine Z64 e (e + 1) _ _ (by omega) (h.at_ j c x ?_ hx)
   unfold Q4n
   rw [List.append_assoc, List.getElem?_append_left (by rw [List.length_take]; omega), List.getElem?_take, if_pos h1]
   exact hc
  ·rw [List.getElem?_append_right (by omega), hlt] at hx
   by_cases h2 : j = k
   ·subst h2
    rw [hk] at hc
    cases hc
    simp at hx
    rw [← hx]
    exact g1
   ·have e2 : j - k = (j - k - 1) + 1 := by omega
    rw [e2, List.getElem?_cons_succ, List.getElem?_drop] at hx
    refine Z64 e (e + 1) _ _ (by omega) (h.at_ _ c x ?_ hx)
    unfold Q4n
    rw [List.getElem?_append_right (by simp only [List.length_append, List.length_take]; omega), List.getElem?_drop]
    rw [show k + 1 + (k + (V2 w col b).length + (j - k - 1) - (cols.take k ++ V2 w col b).length) = j by simp only [List.length_append, List.length_take]; omega]
    exact hc
 ·rw [List.getElem?_append_right (by omega), hlt]; simp
 ·unfold usD
  rw [g3, List.take_append_of_le_length (by omega), List.take_of_length_le (by omega)]
  have e3 : (us'.take k ++ u :: us'.drop (k + (V2 w col b).length)).drop (k + 1) = us'.drop (k + (V2 w col b).length) := by
   rw [List.drop_append, hlt, List.drop_of_length_le (by omega), show k + 1 - k = 1 by omega]
   rfl
  rw [e3, List.append_assoc]
  have e4 : (us'.drop k).take (V2 w col b).length ++ us'.drop (k + (V2 w col b).length) = us'.drop k := by
   rw [← List.drop_drop, List.take_append_drop]
  rw [e4, List.take_append_drop]
theorem Z9b {w : List Q3} (hww : w ∈ J8) {lst : List Q6} {pick : Int} : ∀ (d : Nat) (t : X4) (rows : List Grow) (cols : List Z3), Q7i w lst pick d t rows cols → (∀ r ∈ rows, RowC w lst cols r) → ColC w cols d → InhC w cols →
  (∀ i, Q83 i d t → ∃ e us, UsG w e cols us ∧ Z0b lst i (hcR rows us)) ∧ (Z7y d t → ∃ e us, UsG w e cols us ∧ Q8x lst (hcR rows us)) := by
 have hw := ww hww
 have hS := ws hww
 intro d
 induction d with
 | zero => intro t rows cols h; exact h.elim
 | succ d ih =>
  intro t rows cols h hR hC hI
  have hCd : ColC w cols d := ⟨hC.ty, fun c hc => by have := hC.path c hc; omega, by have := hC.len; omega⟩
  obtain ⟨us0, hu0⟩ := V5w hww hC.ty hI
  cases rows with
  | nil =>
   simp only [Q7i] at h
   subst h
   refine ⟨fun i hi => ?_, fun _ => ⟨10, us0, hu0, trivial⟩⟩
   rcases hi with hi | ⟨x, hx, _⟩
   ·exact absurd hi.1 (by decide)
   ·simp [Q4s, zT] at hx
  | cons r0 rest =>
   simp only [Q7i] at h
   have h0 := hR r0 (by simp)
   cases hp : Q96 w (r0 :: rest) cols pick with
   | none =>
    rw [hp] at h
    simp only at h
    obtain ⟨h1, h2, h3, h4, h5, cl, h6, h7⟩ := h
    have hhc : ∀ us, us.length = cols.length → hcR (r0 :: rest) us = r0.clause :: hcR rest us := fun us hl => by
     have hhit := W3m (us := us) (X7j hp h0) (by rw [h0.len, hl])
     unfold hcR
     rw [List.filter_cons, if_pos hhit]
     rfl
    rcases h7 with ⟨h7, h8⟩ | ⟨h7, el, h8, h9⟩
    ·have hsub : Q4s t = [] := by simp [Q4s, h5, h8]
     refine ⟨fun i hi => ?_, fun hf => ?_⟩
     ·rcases hi with hi | ⟨x, hx, _⟩
      ·exact ⟨10, us0, hu0, by rw [hhc us0 hu0.len]; exact .inl (by rw [← h2]; exact hi.2)⟩
      ·rw [hsub] at hx; cases hx
     ·rcases hf with hf | ⟨x, hx, _⟩
      ·omega
      ·rw [hsub] at hx; cases hx
    ·have hgd : Q6w lst r0.clause := ⟨cl, h6, h7⟩
     have hsub : Q4s t = [el] := by simp [Q4s, h5, h8]
     obtain ⟨i1, i2⟩ := ih el (Q4o (r0 :: rest) r0.clause) cols h9 (fun r hr => hR r (Z3a hr)) hCd hI
     refine ⟨fun i hi => ?_, fun hf => ?_⟩
     ·by_cases hic : i = r0.clause
      ·exact ⟨10, us0, hu0, by rw [hhc us0 hu0.len]; exact .inl hic.symm⟩
      ·rcases hi with hi | ⟨x, hx, hl⟩
       ·exact absurd (by rw [← hi.2, h2]) hic
       ·rw [hsub, List.mem_singleton] at hx
        subst hx
        obtain ⟨e, us, g1, g2⟩ := i1 i hl
        rw [Z63] at g2
        exact ⟨e, us, g1, (Z26 hgd hic _).1 g2⟩
     ·rcases hf with hf | ⟨x, hx, hl⟩
      ·omega
      ·rw [hsub, List.mem_singleton] at hx
       subst hx
       obtain ⟨e, us, g1, g2⟩ := i2 hl
       rw [Z63] at g2
       exact ⟨e, us, g1, (Z2e hgd _).1 g2⟩
   | some k =>
    rw [hp] at h
    simp only at h
    obtain ⟨col, h1, h2, h3, h4, h5, h6, h7⟩ := h
    have hct := hC.ty col (List.mem_of_getElem? h1)
    have hsub : ∀ x ∈ Q4s t, ∃ b ∈ brsD w (r0 :: rest) col.t k, Q7i w lst pick d x (Q5e (r0 :: rest) k b (V2 w col b)) (Q4n cols k (V2 w col b)) := fun x hx => by
     unfold Q4s at hx
     rw [h6, List.append_nil, List.mem_map] at hx
     obtain ⟨y, hy, rfl⟩ := hx
     exact X1f h7 y hy
    have step : ∀ b ∈ brsD w (r0 :: rest) col.t k, (∀ r ∈ Q5e (r0 :: rest) k b (V2 w col b), RowC w lst (Q4n cols k (V2 w col b)) r) ∧ ColC w (Q4n cols k (V2 w col b)) d ∧ InhC w (Q4n cols k (V2 w col b)) := fun b hb => by
     have hB := W4n (wl hww) hct b hb
     refine ⟨fun r hr => ?_, ColC.next hw hC h1 hB, fun c hc => ?_⟩
     ·unfold Q5e at hr
      obtain ⟨r1, g1, rfl⟩ := List.mem_map.1 hr
      obtain ⟨g2, g3⟩ := List.mem_filter.1 g1
      exact RowC.next hw hS hC (hR r1 g2) h1 hB g3
     ·unfold Q4n at hc
      rcases List.mem_append.1 hc with hc | hc
      ·rcases List.mem_append.1 hc with hc | hc
       ·exact hI c (List.mem_of_mem_take hc)
       ·by_cases hc1 : b.ctor = -1
        ·rw [V2, if_pos hc1] at hc; cases hc
        ·have hd : col.t.data ≠ -1 := fun hd => hc1 (hB.int hd)
         unfold brsD at hb
         rw [if_neg hd] at hb
         obtain ⟨z, hz, rfl⟩ := List.mem_map.1 hb
         obtain ⟨z1, z2⟩ := List.mem_filter.1 hz
         rw [W2s hww hct hd z1, List.all_eq_true] at z2
         obtain ⟨j, hj⟩ := List.mem_iff_getElem?.1 hc
         have hjl := (List.getElem?_eq_some_iff.1 hj).1
         rw [Q51, if_neg hc1] at hjl
         have hti := List.getElem?_eq_getElem hjl
         rw [Q9d hc1 hti] at hj
         cases hj
         simpa using z2 _ (List.mem_of_getElem? hti)
      ·exact hI c (List.mem_of_mem_drop hc)
    have back : ∀ b ∈ brsD w (r0 :: rest) col.t k, ∀ (e : Nat) (us' : List Z4), UsG w e (Q4n cols k (V2 w col b)) us' → ∃ us, UsG w (e + 1) cols us ∧ hcR (Q5e (r0 :: rest) k b (V2 w col b)) us' = hcR (r0 :: rest) us := fun b hb e us' hus => by
     obtain ⟨us, u, g1, g2, g3, g4⟩ := V0b hww h1 hct hb hus
     refine ⟨us, g1, ?_⟩
     rw [← g4]
     exact X11 (lst := lst) hS g1 h1 hct g2 hb (W4n (wl hww) hct b hb) g3 (r0 :: rest) (fun r h => h) hR
    refine ⟨fun i hi => ?_, fun hf => ?_⟩
    ·rcases hi with hi | ⟨x, hx, hl⟩
     ·omega
     ·obtain ⟨b, hb, hT⟩ := hsub x hx
      obtain ⟨s1, s2, s3⟩ := step b hb
      obtain ⟨e, us', g1, g2⟩ := (ih x _ _ hT s1 s2 s3).1 i hl
      obtain ⟨us, g3, g4⟩ := back b hb e us' g1
      exact ⟨e + 1, us, g3, by rw [← g4]; exact g2⟩
    ·rcases hf with hf | ⟨x, hx, hl⟩
     ·omega
     ·obtain ⟨b, hb, hT⟩ := hsub x hx
      obtain ⟨s1, s2, s3⟩ := step b hb
      obtain ⟨e, us', g1, g2⟩ := (ih x _ _ hT s1 s2 s3).2 hl
      obtain ⟨us, g3, g4⟩ := back b hb e us' g1
      exact ⟨e + 1, us, g3, by rw [← g4]; exact g2⟩
end Go.Proofs.YtbdkbdafhlcilaaGreat
namespace Go.Proofs.YtbdkbdafhlcilaaGreat
open Go Go.RowKit
theorem len0 (n : Nat) : ieq (lenZ n) 0 = decide (n = 0) := by
 by_cases h : n = 0
 ·subst h; rfl
 ·rw [decide_eq_false h, Q1m]; simp only [lenZ]; omega
end Go.Proofs.YtbdkbdafhlcilaaGreat
namespace Go.Proofs.YtbdkbdafhlcilaaGreat
open Go Go.RowKit
def Par {α : Type} (x : Option α) (Q : α → Prop) : Prop := ∀ a, x = some a → Q a
theorem Par.some {α : Type} {a : α} {Q : α → Prop} (h : Q a) : Par (some a) Q := fun b e => by cases e; exact h
theorem Par.none {α : Type} {Q : α → Prop} : Par (none : Option α) Q := fun b e => by cases e
theorem Par.bind {α β : Type} {x : Option α} {f : α → Option β} {P : α → Prop} {Q : β → Prop} (hx : Par x P) (hf : ∀ a, P a → Par (f a) Q) : Par (x.bind f) Q := fun b e => by
 cases hx' : x with
 | none => rw [hx'] at e; cases e
 | some a => rw [hx'] at e; exact hf a (hx a hx') b e
theorem Par.any {α β : Type} {x : Option α} {f : α → Option β} {Q : β → Prop} (hf : ∀ a, Par (f a) Q) : Par (x.bind f) Q := Par.bind (P := fun _ => True) (fun _ _ => trivial) fun a _ => hf a
theorem Par.ite {α : Type} {b : Bool} {x y : Option α} {Q : α → Prop} (h1 : b = true → Par x Q) (h2 : b = false → Par y Q) : Par (if b = true then x else y) Q := by
 cases b with
 | true => exact h1 rfl
 | false => exact h2 rfl
theorem Par.mono {α : Type} {x : Option α} {P Q : α → Prop} (h : ∀ a, P a → Q a) (hx : Par x P) : Par x Q := fun a e => h a (hx a e)
theorem Par.ctl {ρ σ τ : Type} {x : Option (Ctl ρ σ)} {g : Ctl ρ σ → Option τ} {R : ρ → Prop} {B : σ → Prop} {Q : τ → Prop} (h : Par x (CtlQ R B)) (hr : ∀ r, R r → Par (g (.ret r)) Q) (hb : ∀ s, B s → Par (g (.brk s)) Q) : Par (x.bind g) Q :=
 Par.bind h fun a ha => by
  cases a with
  | ret r => exact hr r ha
  | brk s => exact hb s ha
  | go s => exact ha.elim
end Go.Proofs.YtbdkbdafhlcilaaGreat
namespace Go.Proofs.YtbdkbdafhlcilaaGreat
open Go Go.RowKit
theorem W6v {w : List Q3} (hw : WW w) {r : Z8} {t : Q2} (ht : t ∈ tys w) (h : ROk r 2600) : Ret (Q6b NN r w t) (fun a => (∀ c ∈ a.1, Q30 w t c.pat = true) ∧ a.1.length ≤ 5 ∧ Nx r a.2 2600) := by
 unfold Q6b
 refine Ret.bind (Z08 (h.le (by omega)) [3, 2, 4, 5, 1, 0] (by simp) (by simp)) (fun a ha => ?_)
 have hr1 : ROk a.2 2599 := ROk.nx (c := 1) h ha.2
 have hd : 0 ≤ a.1 ∧ a.1 ≤ 5 := by
  have := ha.1
  simp at this
  omega
 refine Ret.ctl (Q2k (fun s => 0 ≤ s.2.2 ∧ s.2.2 ≤ 5 ∧ (s.2.1.length : Int) + s.2.2 = a.1 ∧ (∀ c ∈ s.2.1, Q30 w t c.pat = true) ∧ Nx a.2 s.1 (s.2.1.length * 500)) (fun s => s.2.2.toNat) (fun _ => False) (fun s => s.2.1.length ≤ 5 ∧ (∀ c ∈ s.2.1, Q30 w t c.pat = true) ∧ Nx a.2 s.1 2500)
  ⟨hd.1, hd.2, by simp, by simp, by simpa using Nx.refl a.2⟩ (fun s hI => ?_) NN (by have := hd; show (a.1).toNat < 30000000; omega)) (fun r hr => hr.elim) (fun s hs => .some ⟨hs.2.1, hs.1, (ha.2.trans hs.2.2).le' (by omega)⟩)
 obtain ⟨i1, i2, i3, i4, i5⟩ := hI
 refine Ret.ite (fun h => ?_) (fun h => ?_)
 ·rw [W7] at h
  have hr2 : ROk s.1 500 := ROk.nx (c := s.2.1.length * 500) (hr1.le (by omega)) i5
  refine Ret.bind (W0j hw ht hr2) (fun b hb => ?_)
  rw [X2 (by simp only [Q5, List.length_cons, List.length_nil]; omega)]
  have hws : wsub .i64 s.2.2 1 = s.2.2 - 1 := Q3c (by omega) (by omega)
  simp only [Option.bind_some]
  rw [hws]
  refine .some ⟨⟨by simp only; omega, by simp only; omega, by simp; omega, fun c hc => ?_, ?_⟩, by simp only; omega⟩
  ·rcases List.mem_append.1 hc with hc | hc
   ·exact i4 c hc
   ·simp at hc; subst hc; exact hb.1
  ·have := i5.trans hb.2
   simp only [List.length_append, List.length_cons, List.length_nil]
   exact this.le' (by omega)
 ·exact .some ⟨by simp only; omega, i4, i5.le' (by omega)⟩
theorem W1f {r : Z8} (h : ROk r 5000) : Ret (Q5j NN r) (fun a => a.1 ∈ J8 ∧ a.2.1 ∈ tys a.1 ∧ (∀ c ∈ a.2.2.1, Q30 a.1 a.2.1 c.pat = true) ∧ a.2.2.1.length ≤ 5 ∧ Nx r a.2.2.2.2 4000) := by
 unfold Q5j
 refine Ret.bind (W1g (h.le (by omega))) (fun a ha => ?_)
 obtain ⟨h1, h2, h3⟩ := ha
 refine Ret.bind (W6v (ww h1) h2 (ROk.nx (c := 500) (h.le (by omega)) h3)) (fun b hb => ?_)
 exact .some ⟨h1, h2, hb.1, hb.2.1, (h3.trans hb.2.2).le' (by omega)⟩
theorem X96 (code : List Int) (hb : ∀ x ∈ code, 0 ≤ x ∧ x ≤ 255) : Ret (Q0r NN code) (fun a => a.1 ∈ J8 ∧ a.2.1 ∈ tys a.1 ∧ a.2.2.length ≤ 9) := by
 unfold Q0r
 refine Ret.bind (X5l code hb) (fun r hr => ?_)
 refine Ret.bind (W1f (hr.le (by omega))) (fun a ha => ?_)
 obtain ⟨h1, h2, h3, h4, h5⟩ := ha
 have hr1 : ROk a.2.2.2.2 1000 := ROk.nx (c := 4000) (hr.le (by omega)) h5
 refine Ret.ctl (R := fun _ => False) (B := fun (s : Z8 × List Q6) => ROk s.1 100 ∧ s.2.length ≤ 8 ∧ ∀ c ∈ s.2, c.pat.kids.length ≤ 100) ?_ (fun r hr => hr.elim) (fun s hs => ?_)
 ·have hk : ∀ c ∈ a.2.2.1, c.pat.kids.length ≤ 100 := fun c hc => by have := X8o (ww h1) h2 (h3 c hc); omega
  refine Ret.ite (fun _ => ?_) (fun _ => .some ⟨hr1.le (by omega), by simp only; omega, hk⟩)
  refine Ret.bind (Q3d (hr1.le (by omega)) (by omega) (by omega)) (fun b hb => ?_)
  have hr2 : ROk b.2 999 := ROk.nx (c := 1) hr1 hb.2.2
  refine Ret.ite (fun _ => ?_) (fun _ => .some ⟨hr2.le (by omega), by simp only; omega, hk⟩)
  simp only [Q2d, Option.bind_some]
  rw [X2 (by simp [Q5]; omega)]
  refine .some ⟨hr2.le (by omega), by simp; omega, fun c hc => ?_⟩
  rcases List.mem_append.1 hc with hc | hc
  ·exact hk c hc
  ·simp at hc; subst hc; simp
 ·refine Ret.bind (X95 (hs.1.le (by omega)) s.2 hs.2.1 hs.2.2) (fun b hb => .some ⟨h1, h2, hb.1⟩)
end Go.Proofs.YtbdkbdafhlcilaaGreat
namespace Go.Proofs.YtbdkbdafhlcilaaGreat
open Go Go.RowKit
theorem X2v (code : List Int) (hb : ∀ x ∈ code, 0 ≤ x ∧ x ≤ 255) : Ret (Q0g NN code) (fun a => a.1 ∈ J8 ∧ a.2.1 ∈ tys a.1 ∧ a.2.2.length ≤ 10) := by
 unfold Q0g
 refine Ret.bind (X5l code hb) (fun r hr => ?_)
 refine Ret.bind (X96 code hb) (fun a ha => ?_)
 obtain ⟨w, t, l⟩ := a
 obtain ⟨h1, h2, h3⟩ := ha
 simp only at h1 h2 h3 ⊢
 refine Ret.ctl (R := fun _ => False) (B := fun s => s.length ≤ 10) ?_ (fun r h => h.elim) (fun s hs => .some ⟨h1, h2, hs⟩)
 refine Ret.ite (fun c1 => ?_) (fun _ => .some (by simp only [Q7h]; omega))
 refine Ret.ite (fun c2 => ?_) (fun _ => .some (by simp only [Q7h]; omega))
 rw [W7] at c1 c2
 simp only [lenZ] at c1 c2
 refine Ret.bind (Q3d (hr.le (by omega)) (by omega) (by omega)) (fun p hp => ?_)
 refine Ret.ite (fun _ => ?_) (fun _ => .some (by simp only [Q7h]; omega))
 refine Ret.bind (Q3d (r := p.2) ((hr.le (by omega : 1 + 1 ≤ 1000000)).nx hp.2.2) (by simp only [lenZ]; omega) (by simp only [lenZ]; omega)) (fun q hq => ?_)
 obtain ⟨x, hx, _⟩ := Q4i hq.1 hq.2.1
 rw [hx]
 simp only [Option.bind_some]
 rw [X2 (by simp only [List.length_cons, List.length_nil, Q5]; omega)]
 exact .some (by simp only [Q7h, List.length_append, List.length_cons, List.length_nil]; omega)
end Go.Proofs.YtbdkbdafhlcilaaGreat
namespace Go.Proofs.YtbdkbdafhlcilaaGreat
open Go Go.RowKit
theorem Z24 (l : List Int) : Q34 l l = some true := by
 suffices hs : Ret (Q34 l l) (fun a => a = true) by
  obtain ⟨a, e, rfl⟩ := hs
  exact e
 unfold Q34
 have e : (!ieq (lenZ l.length) (lenZ l.length)) = false := by simp [ieq]
 simp only [e, Bool.false_eq_true, if_false]
 refine Ret.ctl (Z5 l (fun _ _ => True) (fun _ => False) (fun _ => True) trivial (fun i x s hi _ => ?_) (fun _ _ => trivial)) (fun r hr => hr.elim) (fun s _ => .some rfl)
 rw [Q2g hi]
 have e : (!ieq x x) = false := by simp [ieq]
 simp only [Option.bind_some, e, Bool.false_eq_true, if_false]
 exact .some trivial
end Go.Proofs.YtbdkbdafhlcilaaGreat
namespace Go.Proofs.YtbdkbdafhlcilaaGreat
open Go Go.RowKit
theorem X3c {w : List Q3} {x : Nat} {t : Q2} {l : List Q0} {y : Q0} (h : y ∈ Z8v w x t l) : Q45 w x t y = false := by
 have := (List.mem_filter.1 h).2
 simpa using this
theorem X4p {w : List Q3} {d x : Nat} {t : Q2} : ∀ (bs l r : List Q0), (∀ a ∈ l, Q45 w x t a = false) → Q8z w d x t l bs = some r → ∀ y ∈ r, Q45 w x t y = false
 | [], l, r, h, e => by simp only [Q8z, Option.some.injEq] at e; subst e; exact h
 | b :: bs, l, r, h, e => by
  simp only [Q8z] at e
  split at e
  ·cases e
  ·exact X4p bs _ r (fun a ha => X3c ha) e
theorem Z4z {w : List Q3} {d x : Nat} {t : Q2} {l bs r : List Q0} (e : Q2z w d x t l bs = some r) : ∀ y ∈ r, Q45 w x t y = false :=
 X4p bs _ r (fun a ha => X3c ha) e
end Go.Proofs.YtbdkbdafhlcilaaGreat
namespace Go.Proofs.YtbdkbdafhlcilaaGreat
open Go Go.RowKit
theorem Z6z {lst : List Q6} {i : Int} : ∀ a b : List Int, Z0b lst i (a ++ b) ↔ Z0b lst i a ∨ (Q8x lst a ∧ Z0b lst i b)
 | [], b => by simp [Z0b, Q8x]
 | c :: a, b => by
  simp only [List.cons_append, Z0b, Q8x]
  rw [Z6z a b]
  constructor
  ·rintro (h | ⟨h1, h2 | ⟨h2, h3⟩⟩)
   ·exact .inl (.inl h)
   ·exact .inl (.inr ⟨h1, h2⟩)
   ·exact .inr ⟨⟨h1, h2⟩, h3⟩
  ·rintro ((h | ⟨h1, h2⟩) | ⟨⟨h1, h2⟩, h3⟩)
   ·exact .inl h
   ·exact .inr ⟨h1, .inl h2⟩
   ·exact .inr ⟨h1, .inr ⟨h2, h3⟩⟩
theorem Z7x {lst : List Q6} : ∀ a b : List Int, Q8x lst (a ++ b) ↔ Q8x lst a ∧ Q8x lst b
 | [], b => by simp [Q8x]
 | c :: a, b => by
  simp only [List.cons_append, Q8x]
  rw [Z7x a b, and_assoc]
theorem X45 {lst : List Q6} {c : Int} : ∀ l : List Int, (∀ x ∈ l, x = c) → (Q8x lst l ↔ (l ≠ [] → Q6w lst c))
 | [], _ => by simp [Q8x]
 | x :: l, h => by
  have hx := h x (by simp)
  subst hx
  simp only [Q8x]
  rw [X45 l fun y hy => h y (by simp [hy])]
  constructor
  ·exact fun h _ => h.1
  ·exact fun h => ⟨h (by simp), fun _ => h (by simp)⟩
theorem X2z {lst : List Q6} {i c : Int} : ∀ l : List Int, (∀ x ∈ l, x = c) → (Z0b lst i l ↔ (c = i ∧ l ≠ []))
 | [], _ => by simp [Z0b]
 | x :: l, h => by
  have hx := h x (by simp)
  subst hx
  simp only [Z0b]
  rw [X2z l fun y hy => h y (by simp [hy])]
  constructor
  ·rintro (h | ⟨_, h, _⟩) <;> exact ⟨h, by simp⟩
  ·exact fun h => .inl h.1
theorem W3n (a b : List Grow) (us : List Z4) : hcR (a ++ b) us = hcR a us ++ hcR b us := by
 unfold hcR
 rw [List.filter_append, List.map_append]
theorem Z7g {w : List Q3} (hw : WW w) (hS : WS w) {t : Q2} (ht : t ∈ tys w) {l : List Q6} (hl : ∀ c ∈ l, J2 w 10 t c.pat = true) {v : Z4} {e : Nat} (hv : Q1u w e t v) : ∀ n, n ≤ l.length →
  (Q8x l (hcR (Q1v l n) [v]) ↔ ∀ (j : Nat) (c : Q6), j < n → l[j]? = some c → (Z9 10 c.pat v).isSome = true → c.guard.op ≠ 0) ∧
  ∀ (i : Nat), Z0b l (i : Int) (hcR (Q1v l n) [v]) ↔ i < n ∧ ∃ c, l[i]? = some c ∧ (Z9 10 c.pat v).isSome = true ∧ ∀ (j : Nat) (c' : Q6), j < i → l[j]? = some c' → (Z9 10 c'.pat v).isSome = true → c'.guard.op ≠ 0
 | 0, _ => ⟨by simp [Q1v, hcR, Q8x], fun i => by simp [Q1v, hcR, Z0b]⟩
 | n + 1, hn => by
  obtain ⟨f1, p1⟩ := Z7g hw hS ht hl hv n (by omega)
  have hc : l[n]? = some (l[n]'(by omega)) := by simp
  generalize l[n]'(by omega) = c at hc
  have hcm := List.mem_of_getElem? hc
  have hrow : Q1v l (n + 1) = Q1v l n ++ (Q9 10 c.pat).map (Q5f n) := by rw [Q1v, hc]
  rw [hrow, W3n]
  have hall : ∀ x ∈ hcR ((Q9 10 c.pat).map (Q5f n)) [v], x = (n : Int) := fun x hx => by
   unfold hcR at hx
   obtain ⟨r, hr, rfl⟩ := List.mem_map.1 hx
   obtain ⟨q, _, rfl⟩ := List.mem_map.1 (List.mem_filter.1 hr).1
   rfl
  have hne : hcR ((Q9 10 c.pat).map (Q5f n)) [v] ≠ [] ↔ (Z9 10 c.pat v).isSome = true := by
   have hsp : (Q9 10 c.pat).findSome? (fun q => Z9 10 q v) = Z9 10 c.pat v := X8u hw hS 10 e t c.pat v ht (hl c hcm) hv
   constructor
   ·intro h
    obtain ⟨x, hx⟩ := List.exists_mem_of_ne_nil _ h
    unfold hcR at hx
    obtain ⟨r, hr, rfl⟩ := List.mem_map.1 hx
    obtain ⟨hr1, hr2⟩ := List.mem_filter.1 hr
    obtain ⟨q, hq, rfl⟩ := List.mem_map.1 hr1
    rw [(W9e (hl c hcm) hq n v).2] at hr2
    rw [← hsp]
    cases hfs : (Q9 10 c.pat).findSome? (fun q => Z9 10 q v) with
    | some z => rfl
    | none =>
     rw [List.findSome?_eq_none_iff] at hfs
     rw [hfs q hq] at hr2
     cases hr2
   ·intro h hnil
    rw [← hsp] at h
    cases hfs : (Q9 10 c.pat).findSome? (fun q => Z9 10 q v) with
    | none => rw [hfs] at h; cases h
    | some z =>
     obtain ⟨q, hq, hz⟩ := List.exists_of_findSome?_eq_some hfs
     have : (n : Int) ∈ hcR ((Q9 10 c.pat).map (Q5f n)) [v] := by
      unfold hcR
      refine List.mem_map.2 ⟨Q5f n q, List.mem_filter.2 ⟨List.mem_map_of_mem hq, ?_⟩, rfl⟩
      rw [(W9e (hl c hcm) hq n v).2, hz]
      rfl
     rw [hnil] at this
     cases this
  have hgd : Q6w l (n : Int) ↔ c.guard.op ≠ 0 := by
   unfold Q6w
   rw [Int.toNat_natCast]
   constructor
   ·rintro ⟨cl, h1, h2⟩
    rw [hc] at h1
    cases h1
    exact h2
   ·exact fun h => ⟨c, hc, h⟩
  refine ⟨?_, fun i => ?_⟩
  ·rw [Z7x, f1, X45 _ hall, hne, hgd]
   constructor
   ·rintro ⟨h1, h2⟩ j c' hj hc' hm
    by_cases hjn : j = n
    ·subst hjn
     rw [hc] at hc'
     cases hc'
     exact h2 hm
    ·exact h1 j c' (by omega) hc' hm
   ·exact fun h => ⟨fun j c' hj => h j c' (by omega), h n c (by omega) hc⟩
  ·rw [Z6z, p1 i, f1, X2z _ hall, hne]
   constructor
   ·rintro (⟨h1, h2⟩ | ⟨h1, h2, h3⟩)
    ·exact ⟨by omega, h2⟩
    ·have hin : i = n := by omega
     subst hin
     exact ⟨by omega, c, hc, h3, fun j c' hj => h1 j c' hj⟩
   ·rintro ⟨h1, c', h2, h3, h4⟩
    by_cases hin : i = n
    ·subst hin
     rw [hc] at h2
     cases h2
     exact .inr ⟨fun j c' hj => h4 j c' hj, rfl, h3⟩
    ·exact .inl ⟨by omega, c', h2, h3, h4⟩
theorem X2c {w : List Q3} {t : Q2} (h : depP w t ≠ 0) : InhC w [⟨[], t⟩] := fun c hc => by
 simp only [List.mem_singleton] at hc
 rw [hc]
 exact h
theorem W1e {w : List Q3} {e : Nat} {t : Q2} {us : List Z4} (h : UsG w e [⟨[], t⟩] us) : ∃ v, us = [v] ∧ Q1u w e t v := by
 have hl := h.len
 match us, hl with
 | [v], _ => exact ⟨v, rfl, h.at_ 0 _ v rfl rfl⟩
theorem W2l {w : List Q3} {e : Nat} {t : Q2} {v : Z4} (h : Q1u w e t v) : UsG w e [⟨[], t⟩] [v] := ⟨rfl, fun j c u hc hu => by
 cases j with
 | zero => simp at hc hu; subst hc hu; exact h
 | succ j => simp at hc⟩
theorem Z6g {w : List Q3} (hww : w ∈ J8) {t : Q2} (ht : t ∈ tys w) {l : List Q6} {pick : Int} {tr : X4} (h : W8 NN w t l pick = some (tr, true)) :
  Q7i w l pick 300 tr (Q1v l l.length) [⟨[], t⟩] ∧ (∀ r ∈ Q1v l l.length, RowC w l [⟨[], t⟩] r) ∧ Q25 w t l = true := by
 have hc := X4k hww ht h
 simp only [canC, Bool.and_eq_true] at hc
 obtain ⟨hll, hP⟩ := X0c hc.1.1
 exact ⟨(Z4t hww ht l pick).tr tr h, X2r (ww hww) hP hll, hc.1.1⟩
end Go.Proofs.YtbdkbdafhlcilaaGreat
namespace Go.Proofs.YtbdkbdafhlcilaaGreat
open Go Go.RowKit
theorem Z6x : ∀ (d n : Nat) (t : X4), Z0c d t → d ≤ n → Q04 n t t = some true := by
 intro d
 induction d with
 | zero => intro n t h; exact h.elim
 | succ d ih =>
  intro n t h hn
  obtain ⟨n, rfl⟩ : ∃ k, n = k + 1 := ⟨n - 1, by omega⟩
  obtain ⟨_, h6⟩ := h
  suffices hs : Ret (Q04 (n + 1) t t) (fun a => a = true) by
   obtain ⟨a, e, rfl⟩ := hs
   exact e
  unfold Q04
  have e : ∀ x : Int, (!ieq x x) = false := fun x => by simp [ieq]
  simp only [e, Z24, Option.bind_some, Bool.false_eq_true, if_false, Bool.not_true]
  refine Ret.ctl (Z5 t.binds (fun _ _ => True) (fun _ => False) (fun _ => True) trivial (fun i x s hi _ => ?_) (fun _ _ => trivial)) (fun r hr => hr.elim) (fun s _ => ?_)
  ·rw [Q2g hi]
   simp only [Option.bind_some, e, Z24, Bool.false_eq_true, if_false, Bool.not_true]
   exact .some trivial
  ·refine Ret.ctl (Z5 t.branches (fun _ _ => True) (fun _ => False) (fun _ => True) trivial (fun i x s hi _ => ?_) (fun _ _ => trivial)) (fun r hr => hr.elim) (fun s _ => ?_)
   ·rw [Q2g hi]
    simp only [Option.bind_some, e, Bool.false_eq_true, if_false]
    rw [ih n x.tree (h6 _ (List.mem_append_left _ (List.mem_map_of_mem (List.mem_of_getElem? hi)))) (by omega)]
    simp only [Option.bind_some, Bool.not_true, Bool.false_eq_true, if_false]
    exact .some trivial
   ·refine Ret.ctl (Z5 t.else_ (fun _ _ => True) (fun _ => False) (fun _ => True) trivial (fun i x s hi _ => ?_) (fun _ _ => trivial)) (fun r hr => hr.elim) (fun s _ => .some rfl)
    rw [Q2g hi]
    simp only [Option.bind_some]
    rw [ih n x (h6 _ (List.mem_append_right _ (List.mem_of_getElem? hi))) (by omega)]
    simp only [Option.bind_some, Bool.not_true, Bool.false_eq_true, if_false]
    exact .some trivial
end Go.Proofs.YtbdkbdafhlcilaaGreat
namespace Go.Proofs.YtbdkbdafhlcilaaGreat
open Go Go.RowKit
def chkI (w : List Q3) : Bool := (tys w).all fun t => decide (Q2y NN w t = some (decide (depP w t ≠ 0)))
theorem Y0f : J8.all chkI = true := by kernel_rfl
theorem W2z {w : List Q3} (hww : w ∈ J8) {t : Q2} (ht : t ∈ tys w) : Q2y NN w t = some (decide (depP w t ≠ 0)) := by
 have h := List.all_eq_true.1 Y0f w hww
 exact of_decide_eq_true (List.all_eq_true.1 h t ht)
theorem X4i (code : List Int) (hb : ∀ x ∈ code, 0 ≤ x ∧ x ≤ 255) : Ret (Q09 NN code) (fun a => a.1 ∈ J8 ∧ a.2.1 ∈ tys a.1) := by
 unfold Q09 Q7f
 refine Ret.bind (P := fun a => a.1 ∈ J8 ∧ a.2.1 ∈ tys a.1) ?_ (fun a ha => .some ha)
 refine Ret.bind (X2v code hb) (fun a ha => ?_)
 refine Ret.bind (X5l code hb) (fun r hr => ?_)
 refine Ret.bind (Z08 (hr.le (by omega)) _ (by simp) (by simp)) (fun q _ => .some ⟨ha.1, ha.2.1⟩)
end Go.Proofs.YtbdkbdafhlcilaaGreat
