import Derived.Test.YtmkamncbkkahjaaGreatJP0
set_option linter.unusedSimpArgs false
set_option linter.unusedVariables false
namespace Go.Proofs.YtmkamncbkkahjaaGreat
open Go Go.RowKit
def CI (w : List GData) (lst : List GClause) (pick : Int) (left : Int) : Gcompiling := ⟨⟨w, dimP w⟩, lst, pick, 300 - left⟩
def subsT (t : GTree) : List GTree := t.branches.map (fun b => b.tree) ++ t.else_
def deepT : Nat → GTree → Prop
  | 0, _ => False
  | d + 1, t => (t.binds.length ≤ 1000 ∧ (∀ b ∈ t.binds, b.path.length ≤ 1000) ∧ t.path.length ≤ 1000 ∧ t.branches.length ≤ 20 ∧ t.else_.length ≤ 1) ∧ ∀ x ∈ subsT t, deepT d x
def sizeF : Nat → GTree → Nat
  | 0, _ => 0
  | d + 1, t => 1 + ((subsT t).map (sizeF d)).sum
theorem deepT_mono : ∀ {d e : Nat} {t : GTree}, deepT d t → d ≤ e → deepT e t := by
  intro d
  induction d with
  | zero => intro e t h; exact h.elim
  | succ d ih =>
    intro e t h he
    obtain ⟨e, rfl⟩ : ∃ k, e = k + 1 := ⟨e - 1, by omega⟩
    exact ⟨h.1, fun x hx => ih (h.2 x hx) (by omega)⟩
theorem sizeF_eq : ∀ {d e : Nat} {t : GTree}, deepT d t → d ≤ e → sizeF e t = sizeF d t := by
  intro d
  induction d with
  | zero => intro e t h; exact h.elim
  | succ d ih =>
    intro e t h he
    obtain ⟨e, rfl⟩ : ∃ k, e = k + 1 := ⟨e - 1, by omega⟩
    unfold sizeF
    rw [List.map_congr_left fun x hx => ih (h.2 x hx) (show d ≤ e by omega)]
def Both (w : List GData) (lst : List GClause) (pick : Int) (tot : Nat) (x : Option (GTree × Bool × Gcompiling)) (y : Option (GTree × Int)) : Prop :=
  ∃ ti ok c ts e, x = some (ti, ok, c) ∧ y = some (ts, e) ∧ ((ok = true ∧ ti = ts ∧ ∃ l : Nat, e = (l : Int) ∧ c = CI w lst pick (l : Int) ∧ deepT tot ti ∧ sizeF tot ti + l = tot) ∨ (ok = false ∧ e < 0))
theorem grow_col {n : Int} (h0 : 0 ≤ n) (h : n ≤ 100000) : m_slices_Grow_column n = some [] := by
  unfold m_slices_Grow_column
  have e : ilt n 0 = false := by rw [ilt_false]; exact h0
  have e0 : wsub .i64 0 (lenZ 0) = 0 := rfl
  have e1 : wsub .i64 n 0 = n := by rw [wsub_ok] <;> omega
  simp only [e, Bool.false_eq_true, if_false, e0, e1]
  by_cases hn : 0 < n
  · have e2 : ilt 0 n = true := by rw [ilt_true]; exact hn
    have e3 : mkS n (Gcolumn.mk [] (GType.mk 0 0)) = some (List.replicate n.toNat (Gcolumn.mk [] (GType.mk 0 0))) := by
      unfold mkS; rw [if_pos ⟨h0, by simp [rowLimit]; omega⟩]
    rw [if_pos e2, e3]
    rfl
  · have e2 : ilt 0 n = false := by rw [ilt_false]; omega
    rw [if_neg (by rw [e2]; simp)]
    rfl
theorem concat_ok {a b c : List Gcolumn} (h : a.length + b.length + c.length ≤ 100000) : m_slices_Concat_column [a, b, c] = some (a ++ b ++ c) := by
  unfold m_slices_Concat_column
  have hA : wadd .i64 0 (lenZ a.length) = (a.length : Int) := by rw [wadd_ok] <;> simp only [lenZ] <;> omega
  have hB : wadd .i64 (a.length : Int) (lenZ b.length) = (a.length : Int) + b.length := by rw [wadd_ok] <;> simp only [lenZ] <;> omega
  have hC : wadd .i64 ((a.length : Int) + b.length) (lenZ c.length) = (a.length : Int) + b.length + c.length := by rw [wadd_ok] <;> simp only [lenZ] <;> omega
  have l1 : ilt (a.length : Int) 0 = false := by rw [ilt_false]; omega
  have l2 : ilt ((a.length : Int) + b.length) 0 = false := by rw [ilt_false]; omega
  have l3 : ilt ((a.length : Int) + b.length + c.length) 0 = false := by rw [ilt_false]; omega
  simp only [forL, hA, hB, hC, l1, l2, l3, Bool.false_eq_true, if_false, Option.bind_some]
  rw [grow_col (by omega) (by omega)]
  simp only [Option.bind_some]
  rw [app_ok (by simp [rowLimit]; omega)]
  simp only [Option.bind_some, List.nil_append]
  rw [app_ok (by simp only [rowLimit]; omega)]
  simp only [Option.bind_some]
  rw [app_ok (by simp only [List.length_append, rowLimit]; omega)]
  rfl
theorem both_loop {w : List GData} {lst : List GClause} {pick : Int} {ρ : Type} {F : Nat → GBranch → Gcompiling × List GBranch → Option (Ctl (GTree × Bool × Gcompiling) (Gcompiling × List GBranch))} {G : Nat → GBranch → Int × List GBranch → Option (Ctl ρ (Int × List GBranch))} {L : Nat} {brs : List GBranch}
    (hFG : ∀ b ∈ brs, ∀ (i j l : Nat) (out : List GBranch), l ≤ L → out.length ≤ 20 →
      (∃ (t : GTree) (l' : Nat), (deepT L t ∧ sizeF L t + l' = l) ∧ F i b (CI w lst pick l, out) = some (.go (CI w lst pick l', out ++ [⟨b.ctor, b.n, b.m, t⟩])) ∧ G j b ((l : Int), out) = some (.go ((l' : Int), out ++ [⟨b.ctor, b.n, b.m, t⟩]))) ∨
      (∃ (c : Gcompiling) (e : Int) (out' : List GBranch), e < 0 ∧ F i b (CI w lst pick l, out) = some (.ret (zT, false, c)) ∧ G j b ((l : Int), out) = some (.go (e, out'))))
    (hG : ∀ (j : Nat) (b : GBranch) (e : Int) (out : List GBranch), e < 0 → G j b (e, out) = some (.brk (e, out))) :
    ∀ (bs : List GBranch), (∀ b ∈ bs, b ∈ brs) → ∀ (i j l : Nat) (out : List GBranch), l ≤ L → out.length + bs.length ≤ 20 →
      (∃ (l' : Nat) (out' : List GBranch), ((∀ b ∈ out', b ∈ out ∨ deepT L b.tree) ∧ (out'.map fun b => sizeF L b.tree).sum + l' = (out.map fun b => sizeF L b.tree).sum + l ∧ out'.length ≤ out.length + bs.length) ∧ forL F i bs (CI w lst pick l, out) = some (.brk (CI w lst pick l', out')) ∧ forL G j bs ((l : Int), out) = some (.brk ((l' : Int), out'))) ∨
      (∃ (c : Gcompiling) (e : Int) (out' : List GBranch), e < 0 ∧ forL F i bs (CI w lst pick l, out) = some (.ret (zT, false, c)) ∧ forL G j bs ((l : Int), out) = some (.brk (e, out'))) := by
  intro bs
  induction bs with
  | nil => intro _ i j l out hl _; exact .inl ⟨l, out, ⟨fun b h => .inl h, rfl, by simp⟩, rfl, rfl⟩
  | cons b bs ih =>
    intro hm i j l out hl hlen
    simp only [List.length_cons] at hlen
    rcases hFG b (hm b (by simp)) i j l out hl (by omega) with ⟨t, l', hl', e1, e2⟩ | ⟨c, e, out', he, e1, e2⟩
    · unfold forL
      rw [e1, e2]
      rcases ih (fun x hx => hm x (by simp [hx])) (i + 1) (j + 1) l' (out ++ [⟨b.ctor, b.n, b.m, t⟩]) (by omega) (by simp; omega) with ⟨l2, out', ⟨h1, h2, h3⟩, h4, h5⟩ | h
      · refine .inl ⟨l2, out', ⟨fun x hx => ?_, ?_, ?_⟩, h4, h5⟩
        · rcases h1 x hx with h | h
          · rcases List.mem_append.1 h with h | h
            · exact .inl h
            · simp only [List.mem_cons, List.not_mem_nil, or_false] at h
              subst h
              exact .inr hl'.1
          · exact .inr h
        · rw [h2]
          simp only [List.map_append, List.map_cons, List.map_nil, List.sum_append, List.sum_cons, List.sum_nil]
          omega
        · simp only [List.length_append, List.length_cons, List.length_nil] at h3
          simp only [List.length_cons]
          omega
      · exact .inr h
    · refine .inr ?_
      unfold forL
      rw [e1, e2]
      cases bs with
      | nil => exact ⟨c, e, out', he, rfl, rfl⟩
      | cons b2 bs =>
        refine ⟨c, e, out', he, rfl, ?_⟩
        dsimp only
        unfold forL
        rw [hG _ _ _ _ he]
def TreeOk (w : List GData) (lst : List GClause) (pick : Int) (left : Nat) : Prop := ∀ (n m : Nat) (rows : List Grow) (cols : List Gcolumn), 2 * left + 1500 ≤ n → left + 1500 ≤ m → rows.length ≤ 1000 → ColC w cols left → (∀ r ∈ rows, RowC w lst cols r) →
  Both w lst pick left (m_impl_compiling_tree n (CI w lst pick left) rows cols) (m_spec_l7Tree m w lst (cols.map toD) (rows.map toS) pick left)
theorem other_mem {rows : List Grow} {c : Int} {r : Grow} (h : r ∈ otherD rows c) : r ∈ rows := (List.mem_filter.1 h).1
theorem other_len (rows : List Grow) (c : Int) : (otherD rows c).length ≤ rows.length := List.length_filter_le _ _
theorem leaf_ok {w : List GData} {lst : List GClause} {pick : Int} {L n m : Nat} (hT : TreeOk w lst pick L) (hn : 2 * L + 1501 ≤ n) (hm : L + 1500 ≤ m) {r0 : Grow} {rest : List Grow} {cols : List Gcolumn}
    (hrl : (r0 :: rest).length ≤ 1000) (hC : ColC w cols L) (hr : ∀ r ∈ r0 :: rest, RowC w lst cols r) :
    Both w lst pick (L + 1) (m_impl_compiling_leaf n (CI w lst pick L) (r0 :: rest) cols)
      (((m_spec_l7Binds m r0.binds).bind fun r27 => ((idx lst r0.clause).bind fun x30 =>
        (if (ieq x30.guard.op 0) = true then some (((GTree.mk 1 r0.clause r27 [] [] []), (L : Int)))
        else ((m_spec_l7Other ((r0 :: rest).map toS) r0.clause).bind fun r32 => ((m_spec_l7Tree m w lst (cols.map toD) r32 pick L).bind fun r33 => some (((GTree.mk 1 r0.clause r27 [] [] [r33.1]), r33.2)))))))) := by
  obtain ⟨n, rfl⟩ : ∃ k, n = k + 1 := ⟨n - 1, by omega⟩
  have h0 := hr r0 (by simp)
  obtain ⟨b1, b2, b3⟩ := h0.binds
  unfold m_impl_compiling_leaf
  rw [show idx (r0 :: rest) 0 = some r0 from rfl]
  simp only [Option.bind_some]
  rw [clone_PathBind _ (by simp only [rowLimit]; omega)]
  simp only [Option.bind_some]
  rw [sortP_ok (by omega) (by omega) b1 b2, specBinds_ok (by omega) (by omega) (fun b hb => by have := h0.bp b hb; omega)]
  simp only [Option.bind_some]
  rw [chk_ok (by rw [(sortB_perm b2).length_eq]; simp)]
  simp only [Option.bind_some]
  have hcl : r0.clause.toNat < lst.length := by have := h0.c0; have := h0.c1; omega
  have hcl2 : idx lst r0.clause = some (lst[r0.clause.toNat]) := idx_okI h0.c0 (List.getElem?_eq_getElem hcl)
  rw [show (CI w lst pick (L : Int)).list = lst from rfl, hcl2]
  simp only [Option.bind_some]
  generalize lst[r0.clause.toNat] = cl
  have hsl := (sortB_perm b2).length_eq
  have hbs : ∀ (el : List GTree), el.length ≤ 1 → ((sortB r0.binds).length ≤ 1000 ∧ (∀ b ∈ sortB r0.binds, b.path.length ≤ 1000) ∧ ([] : List Int).length ≤ 1000 ∧ ([] : List GBranch).length ≤ 20 ∧ el.length ≤ 1) := fun el he =>
    ⟨by omega, fun b hb => h0.bp b ((sortB_perm b2).mem_iff.1 hb), by simp, by simp, he⟩
  by_cases hg : cl.guard.op = 0
  · have e : ieq cl.guard.op 0 = true := by simp [ieq, hg]
    simp only [e, if_true]
    exact ⟨_, _, _, _, _, rfl, rfl, .inl ⟨rfl, rfl, L, rfl, rfl, ⟨hbs [] (by simp), by simp [subsT]⟩, by simp [sizeF, subsT]; omega⟩⟩
  · have e : ieq cl.guard.op 0 = false := by simp [ieq, hg]
    simp only [e, Bool.false_eq_true, if_false]
    simp only [List.length_cons] at hrl
    rw [clone_row (by simp only [List.length_cons]; omega)]
    simp only [Option.bind_some]
    rw [implOther_ok (by simp only [List.length_cons]; omega) (by omega), specOther_ok (by simp only [List.length_cons]; omega)]
    simp only [Option.bind_some]
    have hol := other_len (r0 :: rest) r0.clause
    simp only [List.length_cons] at hol
    obtain ⟨ti, ok, c, ts, e, h1, h2, h3⟩ := hT n m (otherD (r0 :: rest) r0.clause) cols (by omega) hm (by omega) hC (fun r h => hr r (other_mem h))
    rw [h1, h2]
    simp only [Option.bind_some]
    refine ⟨_, _, _, _, _, rfl, rfl, ?_⟩
    rcases h3 with ⟨rfl, rfl, l, rfl, rfl, hd, hz⟩ | ⟨rfl, he⟩
    · exact .inl ⟨rfl, rfl, l, rfl, rfl, ⟨hbs [ti] (by simp), by simpa [subsT] using hd⟩, by simp [sizeF, subsT]; omega⟩
    · exact .inr ⟨rfl, he⟩
theorem rows_len (rows : List Grow) (k : Nat) (b : GBranch) (args : List Gcolumn) : (rowsD rows k b args).length ≤ rows.length := by
  unfold rowsD
  rw [List.length_map]
  exact List.length_filter_le _ _
theorem tree_ok {w : List GData} (hw : WW w) (hL : WL w) (hS : WS w) {lst : List GClause} {pick : Int} : ∀ left : Nat, left ≤ 300 → TreeOk w lst pick left := by
  intro left
  induction left using Nat.strongRecOn with
  | ind left ih =>
  intro hle n m rows cols hn hm hrl hC hr
  obtain ⟨n, rfl⟩ : ∃ k, n = k + 1 := ⟨n - 1, by omega⟩
  obtain ⟨m, rfl⟩ : ∃ k, m = k + 1 := ⟨m - 1, by omega⟩
  unfold m_impl_compiling_tree m_spec_l7Tree
  have hcnt : (CI w lst pick (left : Int)).count = 300 - (left : Int) := rfl
  rw [hcnt, wadd_ok (by omega) (by omega), wsub_ok (by omega) (by omega)]
  cases left with
  | zero =>
    have e1 : ilt 300 (300 - ((0 : Nat) : Int) + 1) = true := rfl
    have e2 : ilt (((0 : Nat) : Int) - 1) 0 = true := rfl
    rw [if_pos e1, if_pos e2]
    exact ⟨_, _, _, _, _, rfl, rfl, .inr ⟨rfl, by omega⟩⟩
  | succ L =>
  have e1 : ilt 300 (300 - ((L + 1 : Nat) : Int) + 1) = false := by rw [ilt_false]; omega
  have e2 : ilt (((L + 1 : Nat) : Int) - 1) 0 = false := by rw [ilt_false]; omega
  have eC : (Gcompiling.mk (CI w lst pick ((L + 1 : Nat) : Int)).spaces (CI w lst pick ((L + 1 : Nat) : Int)).list (CI w lst pick ((L + 1 : Nat) : Int)).pick (300 - ((L + 1 : Nat) : Int) + 1)) = CI w lst pick (L : Int) := by
    show Gcompiling.mk ⟨w, dimP w⟩ lst pick (300 - ((L + 1 : Nat) : Int) + 1) = Gcompiling.mk ⟨w, dimP w⟩ lst pick (300 - (L : Int))
    rw [show 300 - ((L + 1 : Nat) : Int) + 1 = 300 - (L : Int) by omega]
  rw [e1, e2, eC, show (((L + 1 : Nat) : Int) - 1) = (L : Int) by omega]
  simp only [Bool.false_eq_true, if_false, List.length_map]
  have hCL : ColC w cols L := ⟨hC.ty, fun c hc => by have := hC.path c hc; omega, by have := hC.len; omega⟩
  cases rows with
  | nil =>
    have e : ieq (lenZ ([] : List Grow).length) 0 = true := rfl
    rw [if_pos e, if_pos e]
    exact ⟨_, _, _, _, _, rfl, rfl, .inl ⟨rfl, rfl, L, rfl, rfl, ⟨by simp, by simp [subsT]⟩, by simp [sizeF, subsT]; omega⟩⟩
  | cons r0 rest =>
  have e : ieq (lenZ (r0 :: rest).length) 0 = false := by
    rw [ieq, decide_eq_false_iff_not, lenZ_eq, List.length_cons]
    omega
  have h0 := hr r0 (by simp)
  have hlen := hC.len
  simp only [e, Bool.false_eq_true, if_false]
  rw [show idx ((r0 :: rest).map toS) 0 = some (toS r0) from rfl]
  simp only [Option.bind_some]
  have hch := implChoose_ok hw hL (n := n) (by omega) (lst := lst) (pick := pick) (count := 300 - (L : Int)) (rows := r0 :: rest) (cols := cols) (by simp) (by omega) hC.ty (fun k hk => RowC.rng hr hk)
  rw [show m_impl_compiling_choose n (CI w lst pick (L : Int)) (r0 :: rest) cols = some (optI (pickC w (r0 :: rest) cols pick), CI w lst pick (L : Int)) from hch, specFirst_ok]
  simp only [Option.bind_some]
  have hfirst : firstD (toR (toS r0)) = none ↔ pickC w (r0 :: rest) cols pick = none := by
    unfold firstD pickC
    rw [pickS_free, pickS_free]
    have hpl : (toR (toS r0)).pats.length = cols.length := h0.len
    rw [hpl]
    exact Iff.rfl
  cases hp : pickC w (r0 :: rest) cols pick with
  | none =>
    rw [hfirst.2 hp]
    have e : ilt (optI none) 0 = true := rfl
    simp only [e, if_true]
    obtain ⟨ti, ok, c, ts, e, h1, h2, h3⟩ := leaf_ok (ih L (by omega) (by omega)) (n := n) (m := m) (by omega) (by omega) hrl hCL hr
    rw [h1]
    simp only [Option.bind_some]
    exact ⟨ti, ok, c, ts, e, rfl, h2, h3⟩
  | some k =>
  obtain ⟨f, hf⟩ : ∃ f, firstD (toR (toS r0)) = some f := by
    cases hq : firstD (toR (toS r0)) with
    | none => rw [hfirst.1 hq] at hp; cases hp
    | some f => exact ⟨f, rfl⟩
  rw [hf]
  have e3 : ilt (optI (some k)) 0 = false := by rw [ilt_false]; simp [optI]
  have e4 : ilt (optI (some f)) 0 = false := by rw [ilt_false]; simp [optI]
  simp only [e3, e4, Bool.false_eq_true, if_false]
  have hkl : k < cols.length := (pickS_lt hp).1
  obtain ⟨col, hk⟩ : ∃ c, cols[k]? = some c := ⟨_, List.getElem?_eq_getElem hkl⟩
  have hct := hC.ty col (List.mem_of_getElem? hk)
  have hT := hw.ty _ hct
  have hpl := hC.path col (List.mem_of_getElem? hk)
  have hpk := specPick_ok hw hS (n := m) (by omega) (pick := pick) (row := toS r0) (rest := rest.map toS) (cols := cols.map toD) (by simp only [List.length_cons, List.length_map] at hrl ⊢; omega) (by rw [List.length_map]; omega) (by rw [List.length_map]; omega) (by rw [List.length_map]; exact h0.len)
    (fun c hc => by obtain ⟨c', hc', rfl⟩ := List.mem_map.1 hc; exact hC.ty c' hc')
    (fun j hj => by rw [← List.map_cons, toRS]; exact RowC.rng hr (by rw [List.length_map] at hj; exact hj)) hf
  rw [← List.map_cons, toRS, toCD, hp] at hpk
  rw [hpk]
  simp only [Option.bind_some, optI]
  rw [idx_ok hk, idx_ok (show (cols.map toD)[k]? = some (toD col) by rw [List.getElem?_map, hk]; rfl)]
  simp only [Option.bind_some]
  rw [clone_int _ (by simp only [rowLimit]; omega), app_ok (by simp only [toD, List.length_nil, rowLimit]; omega)]
  simp only [Option.bind_some]
  have hbr := implBranches_ok hw hL (n := n) (by omega) (lst := lst) (pick := pick) (count := 300 - (L : Int)) (rows := r0 :: rest) hk hct (RowC.rng hr hkl)
  rw [show m_impl_compiling_branches n (CI w lst pick (L : Int)) (r0 :: rest) cols (k : Int) = some (brsD w (r0 :: rest) col.t k, CI w lst pick (L : Int)) from hbr]
  have hcu := specCuts_ok hw hS (n := m) (by omega) (rows := (r0 :: rest).map toS) (col := toD col) (k := k) hct (by rw [toRS]; exact RowC.rng hr hkl)
  rw [toRS] at hcu
  rw [hcu]
  simp only [Option.bind_some]
  generalize hrows : r0 :: rest = rows at *
  have hbl := brs_len hT rows k
  rw [show (toD col).kind = col.t from rfl]
  generalize hbrs : brsD w rows col.t k = brs at *
  generalize hF : (fun (k2328 : Nat) (x2329 : GBranch) (s2322 : Gcompiling × (List GBranch)) => _) = F
  generalize hG : (fun (k186 : Nat) (x187 : GBranch) (s180 : Int × (List GBranch)) => _) = G
  have hloop := both_loop (w := w) (lst := lst) (pick := pick) (F := F) (G := G) (L := L) (brs := brs) (fun b hb i j l out hl hol => ?_) (fun j b e out he => ?_) brs (fun b h => h) 0 0 L [] (Nat.le_refl _) (by simp; omega)
  · rcases hloop with ⟨l', out', ⟨g1, g2, g3⟩, e1, e2⟩ | ⟨c, e, out', he, e1, e2⟩
    · rw [e1, e2]
      refine ⟨_, _, _, _, _, rfl, rfl, .inl ⟨rfl, rfl, l', rfl, rfl, ⟨⟨by simp, by simp, by simp only; omega, by simp only [List.length_nil] at g3 ⊢; omega, by simp⟩, fun x hx => ?_⟩, ?_⟩⟩
      · simp only [subsT, List.append_nil] at hx
        obtain ⟨b, hb, rfl⟩ := List.mem_map.1 hx
        rcases g1 b hb with h | h
        · cases h
        · exact h
      · simp only [sizeF, subsT, List.append_nil, List.map_map]
        have : (List.map (sizeF L ∘ fun b => b.tree) out') = out'.map fun b => sizeF L b.tree := rfl
        rw [this]
        simp only [List.map_nil, List.sum_nil] at g2
        omega
    · rw [e1, e2]
      exact ⟨_, _, _, _, _, rfl, rfl, .inr ⟨rfl, he⟩⟩
  · have hB : BrC w col.t b := brs_C hL hct b (by rw [hbrs]; exact hb)
    have hCn : ColC w (colsD cols k (argsD w col b)) l := by
      have := ColC.next hw hC hk hB
      exact ⟨this.ty, fun c hc => by have := this.path c hc; omega, by have := this.len; omega⟩
    have hRn : ∀ r ∈ rowsD rows k b (argsD w col b), RowC w lst (colsD cols k (argsD w col b)) r := fun r hr' => by
      unfold rowsD at hr'
      obtain ⟨r1, h1, rfl⟩ := List.mem_map.1 hr'
      obtain ⟨h2, h3⟩ := List.mem_filter.1 h1
      exact RowC.next hw hS hC (hr r1 h2) hk hB h3
    have hrn := rows_len rows k b (argsD w col b)
    have hK : ∀ r ∈ rows, KeptOk r k b (argsD w col b) := fun r h => RowC.kept hw hS hC (hr r h) hk hB
    obtain ⟨ti, ok, c, ts, e, h1, h2, h3⟩ := ih l (by omega) (by omega) n m (rowsD rows k b (argsD w col b)) (colsD cols k (argsD w col b)) (by omega) (by omega) (by omega) hCn hRn
    have hal : (argsD w col b).length ≤ 3 := (hK r0 (by rw [← hrows]; simp)).al
    have hI : F i b (CI w lst pick l, out) = some (if ok = true then .go (c, out ++ [⟨b.ctor, b.n, b.m, ti⟩]) else .ret (zT, false, c)) := by
      suffices hs : Ret (F i b (CI w lst pick l, out)) (fun a => a = (if ok = true then .go (c, out ++ [⟨b.ctor, b.n, b.m, ti⟩]) else .ret (zT, false, c))) by
        obtain ⟨a, e, rfl⟩ := hs
        exact e
      rw [← hF]
      refine Ret.ctl (R := fun _ => False) (B := fun s => s = argsD w col b) ?_ (fun r h => h.elim) (fun s hs => ?_)
      · by_cases hc : b.ctor = -1
        · have e : (!ieq b.ctor (-1)) = false := by simp [ieq, hc]
          simp only [e, Bool.false_eq_true, if_false]
          exact .some (by simp [argsD, hc])
        · have e : (!ieq b.ctor (-1)) = true := by simp [ieq, hc]
          have hd : col.t.data ≠ -1 := fun hd => hc (hB.int hd)
          simp only [e, if_true]
          rw [show (CI w lst pick (l : Int)).spaces.w = w from rfl, hT.a2 _ (hB.ctor hd).1]
          simp only [Option.bind_some]
          refine Ret.ctl (forL_rule (argsP w col.t b.ctor) (fun i s => s = (argsD w col b).take i) (fun _ => False) (fun s => s = argsD w col b) (by simp) (fun i t s hi hI => ?_) (fun s hI => ?_)) (fun r hr => hr.elim) (fun s hs => .some hs)
          · rw [app_ok (by simp only [List.length_cons, List.length_nil, rowLimit]; omega)]
            simp only [Option.bind_some]
            rw [app_ok (by rw [hI]; simp only [List.length_take, List.length_cons, List.length_nil, rowLimit]; omega)]
            exact .some (by simp only [rndQ_go]; rw [hI, List.take_add_one, argsD_get hc hi]; rfl)
          · rw [hI, show (argsP w col.t b.ctor).length = (argsD w col b).length by rw [argsD_len, if_neg hc], List.take_length]
      · subst hs
        dsimp only
        refine Ret.ctl (forL_rule rows (fun i s => s = rowsD (rows.take i) k b (argsD w col b)) (fun _ => False) (fun s => s = rowsD rows k b (argsD w col b)) (by simp [rowsD]) (fun i r s hi hI => ?_) (fun s hI => by rw [hI, List.take_length])) (fun r hr => hr.elim) (fun s hs => ?_)
        · have hil : i < rows.length := (List.getElem?_eq_some_iff.1 hi).1
          rw [implKept_ok (by omega) (hK r (List.mem_of_getElem? hi))]
          simp only [Option.bind_some]
          have hsl : s.length ≤ 1000 := by
            rw [hI]
            have := rows_len (rows.take i) k b (argsD w col b)
            rw [List.length_take] at this
            omega
          have hstep : rowsD (rows.take (i + 1)) k b (argsD w col b) = rowsD (rows.take i) k b (argsD w col b) ++ (if fitsB (patAt r k) b = true then [keptD r k (argsD w col b)] else []) := by
            unfold rowsD
            rw [List.take_add_one, hi]
            simp only [Option.toList_some, List.filter_append, List.map_append]
            by_cases hf : fitsB (patAt r k) b = true <;> simp [hf]
          by_cases hf : fitsB (patAt r k) b = true
          · rw [if_pos hf]
            simp only [if_true]
            rw [app_ok (by simp only [List.length_cons, List.length_nil, rowLimit]; omega)]
            exact .some (by simp only [rndQ_go]; rw [hstep, if_pos hf, hI])
          · rw [if_neg hf]
            simp only [Bool.false_eq_true, if_false]
            exact .some (by simp only [rndQ_go]; rw [hstep, if_neg hf, hI, List.append_nil])
        · subst hs
          dsimp only
          rw [takeI_ok (by omega)]
          simp only [Option.bind_some]
          rw [wadd_ok (by omega) (by omega), show ((k : Int) + 1) = ((k + 1 : Nat) : Int) by simp, dropI_ok (by omega)]
          simp only [Option.bind_some]
          rw [concat_ok (by simp only [List.length_take, List.length_drop]; omega)]
          simp only [Option.bind_some]
          rw [show cols.take k ++ argsD w col b ++ cols.drop (k + 1) = colsD cols k (argsD w col b) from rfl, h1]
          simp only [Option.bind_some]
          cases ok with
          | true =>
            simp only [Bool.not_true, Bool.false_eq_true, if_false]
            rw [app_ok (by simp only [List.length_cons, List.length_nil, rowLimit]; omega)]
            exact .some (by simp)
          | false =>
            simp only [Bool.not_false, if_true]
            exact .some (by simp [zT])
    have hJ : G j b ((l : Int), out) = some (.go (e, out ++ [⟨b.ctor, b.n, b.m, ts⟩])) := by
      rw [← hG]
      have e1 : ile 0 (l : Int) = true := by rw [ile_true]; omega
      have hb2 : b.ctor ≠ -1 → b.ctor ∈ ctorsP w col.t := fun h => (hB.ctor fun hd => h (hB.int hd)).1
      simp only [e1, if_true]
      rw [specNarrow_ok hT hk hb2 (by omega) (by omega)]
      simp only [Option.bind_some]
      rw [specKeep_ok (by omega) hT hk hb2 (by omega) (by omega) (by omega) (fun r h => ⟨hK r h, (hr r h).len⟩)]
      simp only [Option.bind_some]
      rw [h2]
      simp only [Option.bind_some]
      rw [app_ok (by simp only [List.length_cons, List.length_nil, rowLimit]; omega)]
      rfl
    rw [hI, hJ]
    rcases h3 with ⟨rfl, rfl, l', rfl, rfl, hd, hz⟩ | ⟨rfl, he⟩
    · exact .inl ⟨ti, l', ⟨deepT_mono hd hl, by rw [sizeF_eq hd hl]; exact hz⟩, by simp, rfl⟩
    · exact .inr ⟨c, e, _, he, by simp, rfl⟩
  · rw [← hG]
    have e1 : ile 0 e = false := by rw [ile_false]; omega
    simp only [e1, Bool.false_eq_true, if_false]
end Go.Proofs.YtmkamncbkkahjaaGreat
namespace Go.Proofs.YtmkamncbkkahjaaGreat
open Go Go.RowKit
theorem ownBinds_ok {l : List GPathBind} (hl : l.length ≤ 1000) (hp : ∀ b ∈ l, b.path.length ≤ 1000) : m_impl_ownBinds l = some l := by
  suffices hs : Ret (m_impl_ownBinds l) (fun a => a = l) by
    obtain ⟨a, e, rfl⟩ := hs
    exact e
  unfold m_impl_ownBinds
  refine Ret.ctl (forL_rule l (fun i s => s = l.take i) (fun _ => False) (fun s => s = l) (by simp) (fun i x s hi hI => ?_) (fun s hI => by rw [hI, List.take_length])) (fun r hr => hr.elim) (fun s hs => .some hs)
  have hx := hp x (List.mem_of_getElem? hi)
  rw [clone_int _ (by simp only [rowLimit]; omega)]
  simp only [Option.bind_some]
  rw [app_ok (by rw [hI]; simp only [List.length_take, List.length_cons, List.length_nil, rowLimit]; omega)]
  exact .some (by simp only [rndQ_go]; rw [hI, List.take_add_one, hi]; rfl)
theorem branch_eta (x : GBranch) : GBranch.mk x.ctor x.n x.m x.tree = x := by cases x; rfl
theorem tree_eta (t : GTree) : GTree.mk t.op t.clause t.binds t.path t.branches t.else_ = t := by cases t; rfl
theorem ownTree_ok : ∀ (d n : Nat) (t : GTree), deepT d t → d ≤ n → m_impl_ownTree n t = some t := by
  intro d
  induction d with
  | zero => intro n t h; exact h.elim
  | succ d ih =>
    intro n t h hn
    obtain ⟨n, rfl⟩ : ∃ k, n = k + 1 := ⟨n - 1, by omega⟩
    obtain ⟨⟨h1, h2, h3, h4, h5⟩, h6⟩ := h
    suffices hs : Ret (m_impl_ownTree (n + 1) t) (fun a => a = t) by
      obtain ⟨a, e, rfl⟩ := hs
      exact e
    unfold m_impl_ownTree
    rw [ownBinds_ok h1 h2, clone_int _ (by simp only [rowLimit]; omega)]
    simp only [Option.bind_some]
    refine Ret.ctl (forL_rule t.branches (fun i s => s = t.branches.take i) (fun _ => False) (fun s => s = t.branches) (by simp) (fun i x s hi hI => ?_) (fun s hI => by rw [hI, List.take_length])) (fun r hr => hr.elim) (fun s hs => ?_)
    · rw [ih n x.tree (h6 _ (List.mem_append_left _ (List.mem_map_of_mem (List.mem_of_getElem? hi)))) (by omega)]
      simp only [Option.bind_some]
      rw [app_ok (by rw [hI]; simp only [List.length_take, List.length_cons, List.length_nil, rowLimit]; omega)]
      exact .some (by simp only [rndQ_go]; rw [hI, List.take_add_one, hi, branch_eta]; rfl)
    · subst hs
      refine Ret.ctl (forL_rule t.else_ (fun i s => s = t.else_.take i) (fun _ => False) (fun s => s = t.else_) (by simp) (fun i x s hi hI => ?_) (fun s hI => by rw [hI, List.take_length])) (fun r hr => hr.elim) (fun s hs => .some (by rw [hs, tree_eta]))
      rw [ih n x (h6 _ (List.mem_append_right _ (List.mem_of_getElem? hi))) (by omega)]
      simp only [Option.bind_some]
      rw [app_ok (by rw [hI]; simp only [List.length_take, List.length_cons, List.length_nil, rowLimit]; omega)]
      exact .some (by simp only [rndQ_go]; rw [hI, List.take_add_one, hi]; rfl)
theorem ptInts_refl (l : List Int) : m_laws_ptInts l l = some true := by
  suffices hs : Ret (m_laws_ptInts l l) (fun a => a = true) by
    obtain ⟨a, e, rfl⟩ := hs
    exact e
  unfold m_laws_ptInts
  have e : (!ieq (lenZ l.length) (lenZ l.length)) = false := by simp [ieq]
  simp only [e, Bool.false_eq_true, if_false]
  refine Ret.ctl (forL_rule l (fun _ _ => True) (fun _ => False) (fun _ => True) trivial (fun i x s hi _ => ?_) (fun _ _ => trivial)) (fun r hr => hr.elim) (fun s _ => .some rfl)
  rw [idx_ok hi]
  have e : (!ieq x x) = false := by simp [ieq]
  simp only [Option.bind_some, e, Bool.false_eq_true, if_false]
  exact .some trivial
theorem ptTree_refl : ∀ (d n : Nat) (t : GTree), deepT d t → d ≤ n → m_laws_ptTree n t t = some true := by
  intro d
  induction d with
  | zero => intro n t h; exact h.elim
  | succ d ih =>
    intro n t h hn
    obtain ⟨n, rfl⟩ : ∃ k, n = k + 1 := ⟨n - 1, by omega⟩
    obtain ⟨_, h6⟩ := h
    suffices hs : Ret (m_laws_ptTree (n + 1) t t) (fun a => a = true) by
      obtain ⟨a, e, rfl⟩ := hs
      exact e
    unfold m_laws_ptTree
    have e : ∀ x : Int, (!ieq x x) = false := fun x => by simp [ieq]
    simp only [e, ptInts_refl, Option.bind_some, Bool.false_eq_true, if_false, Bool.not_true]
    refine Ret.ctl (forL_rule t.binds (fun _ _ => True) (fun _ => False) (fun _ => True) trivial (fun i x s hi _ => ?_) (fun _ _ => trivial)) (fun r hr => hr.elim) (fun s _ => ?_)
    · rw [idx_ok hi]
      simp only [Option.bind_some, e, ptInts_refl, Bool.false_eq_true, if_false, Bool.not_true]
      exact .some trivial
    · refine Ret.ctl (forL_rule t.branches (fun _ _ => True) (fun _ => False) (fun _ => True) trivial (fun i x s hi _ => ?_) (fun _ _ => trivial)) (fun r hr => hr.elim) (fun s _ => ?_)
      · rw [idx_ok hi]
        simp only [Option.bind_some, e, Bool.false_eq_true, if_false]
        rw [ih n x.tree (h6 _ (List.mem_append_left _ (List.mem_map_of_mem (List.mem_of_getElem? hi)))) (by omega)]
        simp only [Option.bind_some, Bool.not_true, Bool.false_eq_true, if_false]
        exact .some trivial
      · refine Ret.ctl (forL_rule t.else_ (fun _ _ => True) (fun _ => False) (fun _ => True) trivial (fun i x s hi _ => ?_) (fun _ _ => trivial)) (fun r hr => hr.elim) (fun s _ => .some rfl)
        rw [idx_ok hi]
        simp only [Option.bind_some]
        rw [ih n x (h6 _ (List.mem_append_right _ (List.mem_of_getElem? hi))) (by omega)]
        simp only [Option.bind_some, Bool.not_true, Bool.false_eq_true, if_false]
        exact .some trivial
def rowOfC (k : Nat) (p : GPattern) : Grow := ⟨(k : Int), [(strip p []).2], (strip p []).1⟩
def rowsTo (l : List GClause) : Nat → List Grow
  | 0 => []
  | i + 1 => rowsTo l i ++ (match l[i]? with
    | none => []
    | some c => (splitD 10 c.pat).map (rowOfC i))
theorem rowsTo_mem {l : List GClause} : ∀ {i : Nat} {r : Grow}, r ∈ rowsTo l i → ∃ k c p, l[k]? = some c ∧ p ∈ splitD 10 c.pat ∧ r = rowOfC k p := by
  intro i
  induction i with
  | zero => intro r h; cases h
  | succ i ih =>
    intro r h
    rw [rowsTo] at h
    rcases List.mem_append.1 h with h | h
    · exact ih h
    · cases hc : l[i]? with
      | none => rw [hc] at h; cases h
      | some c =>
        rw [hc] at h
        obtain ⟨p, hp, rfl⟩ := List.mem_map.1 h
        exact ⟨i, c, p, hc, hp, rfl⟩
theorem rowsTo_len {l : List GClause} (h : ∀ c ∈ l, (splitD 10 c.pat).length ≤ 40) : ∀ i, (rowsTo l i).length ≤ 40 * i := by
  intro i
  induction i with
  | zero => simp [rowsTo]
  | succ i ih =>
    rw [rowsTo, List.length_append]
    cases hc : l[i]? with
    | none => simp only [List.length_nil]; omega
    | some c =>
      have := h c (List.mem_of_getElem? hc)
      simp only [List.length_map]
      omega
def PatsOk (w : List GData) (t : GType) (l : List GClause) : Prop := ∀ c ∈ l, goodB w 10 t c.pat = true ∧ linD w 10 t c.pat = true
theorem rowsTo_ok {w : List GData} (hw : WW w) {t : GType} {l : List GClause} (hl : PatsOk w t l) (hll : l.length ≤ 8) : ∀ r ∈ rowsTo l l.length, RowC w l [⟨[], t⟩] r := fun r hr => by
  obtain ⟨k, c, p, hk, hp, rfl⟩ := rowsTo_mem hr
  obtain ⟨g, ln⟩ := hl c (List.mem_of_getElem? hk)
  have hkl := (List.getElem?_eq_some_iff.1 hk).1
  have hO : PatO w t p := ⟨good_mono 11 t p (good_mono 10 t p (split_good 10 t c.pat p g hp)), flat_mono 11 p (flat_mono 10 p (split_flat 10 c.pat p hp))⟩
  obtain ⟨s1, s2, s3⟩ := stripC [] hO
  have hv : varsR (rowOfC k p) = varsS p := by
    unfold varsR rowOfC
    simp only [List.flatMap_cons, List.flatMap_nil, List.append_nil]
    exact s2
  have hperm := split_vars 10 t c.pat p g ln hp
  have hd := lin_distinct 10 t c.pat g ln
  simp only [distinct, decide_eq_true_eq] at hd
  refine ⟨rfl, fun x hx => ?_, ?_, fun v hv' => ?_, by simp [rowOfC], by simp only [rowOfC]; omega, fun b hb => ?_⟩
  · simp only [rowOfC, List.zip_cons_cons, List.zip_nil_right, List.mem_cons, List.not_mem_nil, or_false] at hx
    rw [hx]
    exact s1
  · rw [hv]; exact hperm.nodup_iff.2 hd
  · rw [hv] at hv'
    obtain ⟨y, hy, rfl⟩ := List.mem_map.1 (hperm.mem_iff.1 hv')
    exact vars_range 10 t c.pat g y hy
  · rw [s3 b hb]; simp
theorem implSplits_ok {w : List GData} (hw : WW w) {t : GType} (ht : t ∈ tys w) {l : List GClause} (hl : PatsOk w t l) (hll : l.length ≤ 8) :
    m_impl_splitClauses NN l = some (if l.all (fun c => decide ((splitD 10 c.pat).length ≤ 40)) = true then (l.map (fun c => splitD 10 c.pat), true) else ([], false)) := by
  suffices hs : Ret (m_impl_splitClauses NN l) (fun a => a = (if l.all (fun c => decide ((splitD 10 c.pat).length ≤ 40)) = true then (l.map (fun c => splitD 10 c.pat), true) else ([], false))) by
    obtain ⟨a, e, rfl⟩ := hs
    exact e
  unfold m_impl_splitClauses
  refine Ret.ctl (forL_rule l (fun i s => s = (l.take i).map (fun c => splitD 10 c.pat) ∧ ∀ c ∈ l.take i, (splitD 10 c.pat).length ≤ 40) (fun r => r = ([], false) ∧ ∃ c ∈ l, 40 < (splitD 10 c.pat).length) (fun s => s = l.map (fun c => splitD 10 c.pat) ∧ ∀ c ∈ l, (splitD 10 c.pat).length ≤ 40) ⟨by simp, by simp⟩ (fun i c s hi hI => ?_) (fun s hI => by rw [List.take_length] at hI; exact hI)) (fun r hr => .some ?_) (fun s hs => .some ?_)
  · obtain ⟨g, _⟩ := hl c (List.mem_of_getElem? hi)
    have hor := good_orOk hw 10 t c.pat ht g
    have hil : i < l.length := (List.getElem?_eq_some_iff.1 hi).1
    rw [countSplit_ok 10 NN c.pat hor (by decide)]
    simp only [Option.bind_some]
    by_cases hc : (splitD 10 c.pat).length ≤ 40
    · have e : ilt 40 ((min (splitD 10 c.pat).length 401 : Nat) : Int) = false := by rw [ilt_false]; omega
      simp only [e, Bool.false_eq_true, if_false]
      rw [implSplit_ok 10 NN c.pat hor (by decide) (by omega)]
      simp only [Option.bind_some]
      rw [app_ok (by rw [hI.1]; simp only [List.length_map, List.length_take, List.length_cons, List.length_nil, rowLimit]; omega)]
      refine .some ⟨by rw [hI.1, List.take_add_one, hi]; simp, fun c' hc' => ?_⟩
      rw [List.take_add_one, hi] at hc'
      rcases List.mem_append.1 hc' with h | h
      · exact hI.2 c' h
      · simp only [Option.toList_some, List.mem_cons, List.not_mem_nil, or_false] at h
        rw [h]; exact hc
    · have e : ilt 40 ((min (splitD 10 c.pat).length 401 : Nat) : Int) = true := by rw [ilt_true]; omega
      simp only [e, if_true]
      exact .some ⟨rfl, c, List.mem_of_getElem? hi, by omega⟩
  · obtain ⟨rfl, c, hc, hlt⟩ := hr
    rw [if_neg]
    rw [List.all_eq_true]
    intro h
    have := h c hc
    simp only [decide_eq_true_eq] at this
    omega
  · obtain ⟨rfl, h⟩ := hs
    rw [if_pos]
    rw [List.all_eq_true]
    exact fun c hc => by simpa using h c hc
structure Comp (x y : Option (GTree × Bool)) : Prop where
  eq : ∃ t ok, x = some (t, ok) ∧ y = some (t, ok) ∧ (ok = false → t = zT) ∧ deepT 300 t ∧ sizeF 300 t ≤ 300
theorem zT_deep : deepT 300 zT := ⟨by simp [zT], by simp [subsT, zT]⟩
theorem zT_size : sizeF 300 zT = 1 := by
  show 1 + ((subsT zT).map (sizeF 299)).sum = 1
  rw [show subsT zT = [] from rfl]
  simp
theorem Comp.no {x y : Option (GTree × Bool)} (h1 : x = some (zT, false)) (h2 : y = some (zT, false)) : Comp x y := ⟨zT, false, h1, h2, fun _ => rfl, zT_deep, by rw [zT_size]; omega⟩
theorem ctl_brk {ρ σ τ : Type} {x : Option (Ctl ρ σ)} {s0 : σ} {g : Ctl ρ σ → Option τ} (h : Ret x (CtlQ (fun _ => False) (fun s => s = s0))) : x.bind g = g (.brk s0) := by
  obtain ⟨o, rfl, ho⟩ := h
  cases o with
  | ret r => exact ho.elim
  | go s => exact ho.elim
  | brk s => rw [show s = s0 from ho]; rfl
theorem ctl_ret {ρ σ τ : Type} {x : Option (Ctl ρ σ)} {r0 : ρ} {g : Ctl ρ σ → Option τ} (h : Ret x (CtlQ (fun r => r = r0) (fun _ => False))) : x.bind g = g (.ret r0) := by
  obtain ⟨o, rfl, ho⟩ := h
  cases o with
  | ret r => rw [show r = r0 from ho]; rfl
  | go s => exact ho.elim
  | brk s => exact ho.elim
def canC (w : List GData) (t : GType) (l : List GClause) (pick : Int) : Bool := clausesB w t l && (decide (0 ≤ pick) && decide (pick ≤ 2)) && l.all (fun c => decide ((splitD 10 c.pat).length ≤ 40))
theorem pats_of {w : List GData} {t : GType} {l : List GClause} (h : clausesB w t l = true) : l.length ≤ 8 ∧ PatsOk w t l := by
  simp only [clausesB, Bool.and_eq_true, decide_eq_true_eq, List.all_eq_true] at h
  refine ⟨h.1, fun c hc => ?_⟩
  have := h.2 c hc
  simp only [clauseB, Bool.and_eq_true] at this
  obtain ⟨g, _, ln⟩ := valid_good this.1
  exact ⟨g, ln⟩
theorem implComp {w : List GData} (hww : w ∈ worlds) {t : GType} (ht : t ∈ tys w) (l : List GClause) (pick : Int) :
    m_impl_CompileClauses NN w t l pick = if canC w t l pick = true then ((m_impl_compiling_tree NN (CI w l pick ((300 : Nat) : Int)) (rowsTo l l.length) [⟨[], t⟩]).bind fun r => if (!r.2.1) = true then some (zT, false) else (m_impl_ownTree NN r.1).bind fun r2 => some (r2, true)) else some (zT, false) := by
  have hw := ww hww
  have hz : GTree.mk 0 0 [] [] [] [] = zT := rfl
  unfold m_impl_CompileClauses canC
  rw [implClauses_ok hw ht l]
  simp only [Option.bind_some, hz]
  cases hv : clausesB w t l with
  | false => simp
  | true =>
  obtain ⟨hll, hP⟩ := pats_of hv
  rw [within_ok]
  simp only [Option.bind_some, Bool.not_true, Bool.false_eq_true, if_false, Bool.true_and]
  cases hp : (decide (0 ≤ pick) && decide (pick ≤ 2)) with
  | false => simp
  | true =>
  simp only [Bool.not_true, Bool.false_eq_true, if_false, Bool.true_and]
  rw [implSplits_ok hw ht hP hll]
  simp only [Option.bind_some]
  cases hA : l.all (fun c => decide ((splitD 10 c.pat).length ≤ 40)) with
  | false => simp
  | true =>
  simp only [if_true, Bool.not_true, Bool.false_eq_true, if_false]
  have hA' : ∀ c ∈ l, (splitD 10 c.pat).length ≤ 40 := fun c hc => by simpa using List.all_eq_true.1 hA c hc
  refine (ctl_brk (s0 := rowsTo l l.length) ?_).trans ?_
  · refine forL_rule (l.map fun c => splitD 10 c.pat) (fun i s => s = rowsTo l i) (fun _ => False) (fun s => s = rowsTo l l.length) rfl (fun i ps s hi hI => ?_) (fun s hI => by rw [hI, List.length_map])
    rw [List.getElem?_map, Option.map_eq_some_iff] at hi
    obtain ⟨c, hi, rfl⟩ := hi
    have hc := List.mem_of_getElem? hi
    have hil : i < l.length := (List.getElem?_eq_some_iff.1 hi).1
    have hri := rowsTo_len hA' i
    have hcl := hA' c hc
    refine Ret.ctl (forL_rule (splitD 10 c.pat) (fun j u => u = rowsTo l i ++ ((splitD 10 c.pat).take j).map (rowOfC i)) (fun _ => False) (fun u => u = rowsTo l (i + 1)) (by simp [hI]) (fun j p u hj hJ => ?_) (fun u hJ => ?_)) (fun r hr => hr.elim) (fun u hu => .some hu)
    · have hjl : j < (splitD 10 c.pat).length := (List.getElem?_eq_some_iff.1 hj).1
      have has := good_as 10 t p (split_good 10 t c.pat p (hP c hc).1 (List.mem_of_getElem? hj))
      rw [enter_ok (d := 10) (n := NN) has (by omega) (by decide) (by simp) (by simp) (by simp)]
      simp only [Option.bind_some, List.nil_append]
      rw [app_ok (by rw [hJ]; simp only [List.length_append, List.length_map, List.length_take, List.length_cons, List.length_nil, rowLimit]; omega)]
      exact .some (by simp only [rndQ_go]; rw [hJ, List.take_add_one, hj]; simp [rowOfC])
    · rw [hJ, List.take_length, rowsTo, hi]
  · dsimp only
    rw [(wl hww).dim]
    simp only [Option.bind_some]
    rfl
theorem specComp {w : List GData} (hww : w ∈ worlds) {t : GType} (ht : t ∈ tys w) (l : List GClause) (pick : Int) :
    m_spec_CompileClauses NN w t l pick = if canC w t l pick = true then ((m_spec_l7Tree NN w l [⟨[], t⟩] ((rowsTo l l.length).map toS) pick ((300 : Nat) : Int)).bind fun r => if ilt r.2 0 = true then some (zT, false) else some (r.1, true)) else some (zT, false) := by
  have hw := ww hww
  have hz : GTree.mk 0 0 [] [] [] [] = zT := rfl
  unfold m_spec_CompileClauses canC
  rw [specClauses_ok hw ht l]
  simp only [Option.bind_some, hz]
  cases hv : clausesB w t l with
  | false => simp
  | true =>
  obtain ⟨hll, hP⟩ := pats_of hv
  simp only [Bool.not_true, Bool.false_eq_true, if_false, Bool.true_and]
  by_cases p0 : pick < 0
  · have e1 : ilt pick 0 = true := by rw [ilt_true]; exact p0
    have e2 : (decide ((0 : Int) ≤ pick) && decide (pick ≤ 2)) = false := by simp; omega
    simp only [e1, e2, if_true, Bool.false_and, Bool.false_eq_true, if_false]
  have e1 : ilt pick 0 = false := by rw [ilt_false]; omega
  simp only [e1, Bool.false_eq_true, if_false]
  by_cases p2 : 2 < pick
  · have e1 : ilt 2 pick = true := by rw [ilt_true]; exact p2
    have e2 : (decide ((0 : Int) ≤ pick) && decide (pick ≤ 2)) = false := by simp; omega
    simp only [e1, e2, if_true, Bool.false_and, Bool.false_eq_true, if_false]
  have e1 : ilt 2 pick = false := by rw [ilt_false]; omega
  have e2 : (decide ((0 : Int) ≤ pick) && decide (pick ≤ 2)) = true := by simp; omega
  simp only [e1, e2, Bool.false_eq_true, if_false, Bool.true_and]
  unfold m_spec_l7Compile
  have hsp : ∀ c ∈ l, m_spec_l3Split NN c.pat = some ((splitD 10 c.pat).take 401) := fun c hc => specSplit_ok 10 NN c.pat (good_orOk hw 10 t c.pat ht (hP c hc).1) (by decide)
  cases hA : l.all (fun c => decide ((splitD 10 c.pat).length ≤ 40)) with
  | true =>
    simp only [if_true]
    have hA' : ∀ c ∈ l, (splitD 10 c.pat).length ≤ 40 := fun c hc => by simpa using List.all_eq_true.1 hA c hc
    have hsp' : ∀ c ∈ l, m_spec_l3Split NN c.pat = some (splitD 10 c.pat) := fun c hc => by
      have := hA' c hc
      rw [hsp c hc, List.take_of_length_le (by omega)]
    have hrows : m_spec_l7Rows NN l = some ((rowsTo l l.length).map toS) := by
      suffices hs : Ret (m_spec_l7Rows NN l) (fun a => a = (rowsTo l l.length).map toS) by
        obtain ⟨a, e, rfl⟩ := hs
        exact e
      unfold m_spec_l7Rows
      refine Ret.ctl (forL_rule l (fun i s => s = (rowsTo l i).map toS) (fun _ => False) (fun s => s = (rowsTo l l.length).map toS) rfl (fun i c s hi hI => ?_) (fun s hI => hI)) (fun r hr => hr.elim) (fun s hs => .some hs)
      have hc := List.mem_of_getElem? hi
      have hil : i < l.length := (List.getElem?_eq_some_iff.1 hi).1
      have hri := rowsTo_len hA' i
      have hcl := hA' c hc
      rw [hsp' c hc]
      simp only [Option.bind_some]
      refine Ret.ctl (forL_rule (splitD 10 c.pat) (fun j u => u = (rowsTo l i).map toS ++ (((splitD 10 c.pat).take j).map (rowOfC i)).map toS) (fun _ => False) (fun u => u = (rowsTo l (i + 1)).map toS) (by simp [hI]) (fun j p u hj hJ => ?_) (fun u hJ => ?_)) (fun r hr => hr.elim) (fun u hu => .some hu)
      · have hjl : j < (splitD 10 c.pat).length := (List.getElem?_eq_some_iff.1 hj).1
        have has := good_as 10 t p (split_good 10 t c.pat p (hP c hc).1 (List.mem_of_getElem? hj))
        rw [stripS_ok (d := 10) (n := NN) has (by omega) (by decide) (by simp) (by simp)]
        simp only [Option.bind_some, List.nil_append]
        rw [app_ok (by rw [hJ]; simp only [List.length_append, List.length_map, List.length_take, List.length_cons, List.length_nil, rowLimit]; omega)]
        exact .some (by simp only [rndQ_go]; rw [hJ, List.take_add_one, hj]; simp [rowOfC, toS])
      · rw [hJ, List.take_length, rowsTo, hi]; simp
    have h1 : ∀ (a : GTree) (b : Bool), some (a, b) = some (a, b) := fun _ _ => rfl
    rw [hrows]
    have e300 : (300 : Int) = ((300 : Nat) : Int) := rfl
    rw [e300]
    simp only [Option.bind_some]
    have hin : ∀ (X : Option (GTree × Bool)), X.bind (fun r40 => some (r40.1, r40.2)) = X := fun X => by cases X <;> rfl
    rw [hin]
    refine (ctl_brk (s0 := ()) ?_).trans ?_
    · refine forL_rule l (fun _ _ => True) (fun _ => False) (fun _ => _) trivial (fun i c s hi _ => ?_) (fun _ _ => rfl)
      have hc := List.mem_of_getElem? hi
      have := hA' c hc
      rw [hsp' c hc]
      have e : ilt 40 (lenZ (splitD 10 c.pat).length) = false := by rw [ilt_false, lenZ_eq]; omega
      simp only [Option.bind_some, e, Bool.false_eq_true, if_false]
      exact .some trivial
    · rfl
  | false =>
    have hx : ∃ c ∈ l, 40 < (splitD 10 c.pat).length := by
      rw [List.all_eq_false] at hA
      simpa using hA
    have hin : ∀ (X : Option (GTree × Bool)), X.bind (fun r40 => some (r40.1, r40.2)) = X := fun X => by cases X <;> rfl
    rw [hin]
    simp only [Bool.false_eq_true, if_false]
    refine (ctl_ret (r0 := (zT, false)) ?_).trans rfl
    refine forL_rule l (fun i _ => ∀ c ∈ l.take i, (splitD 10 c.pat).length ≤ 40) (fun r => r = (zT, false)) (fun _ => False) (by simp) (fun i c s hi hI => ?_) (fun s hI => ?_)
    · have hc := List.mem_of_getElem? hi
      rw [hsp c hc]
      simp only [Option.bind_some]
      by_cases h40 : (splitD 10 c.pat).length ≤ 40
      · have e : ilt 40 (lenZ ((splitD 10 c.pat).take 401).length) = false := by rw [ilt_false, lenZ_eq, List.length_take]; omega
        simp only [e, Bool.false_eq_true, if_false]
        refine .some fun c' hc' => ?_
        rw [List.take_add_one, hi] at hc'
        rcases List.mem_append.1 hc' with h | h
        · exact hI c' h
        · simp only [Option.toList_some, List.mem_cons, List.not_mem_nil, or_false] at h
          rw [h]; exact h40
      · have e : ilt 40 (lenZ ((splitD 10 c.pat).take 401).length) = true := by rw [ilt_true, lenZ_eq, List.length_take]; omega
        simp only [e, if_true]
        exact .some rfl
    · obtain ⟨c, hc, h⟩ := hx
      rw [List.take_length] at hI
      have := hI c hc
      omega
theorem start_C {w : List GData} {t : GType} (ht : t ∈ tys w) : ColC w [⟨[], t⟩] 300 :=
  ⟨fun c hc => by simp only [List.mem_cons, List.not_mem_nil, or_false] at hc; rw [hc]; exact ht, fun c hc => by simp only [List.mem_cons, List.not_mem_nil, or_false] at hc; rw [hc]; simp, by simp⟩
theorem compile_ok {w : List GData} (hww : w ∈ worlds) {t : GType} (ht : t ∈ tys w) (l : List GClause) (pick : Int) : Comp (m_impl_CompileClauses NN w t l pick) (m_spec_CompileClauses NN w t l pick) := by
  rw [implComp hww ht, specComp hww ht]
  cases hc : canC w t l pick with
  | false => exact Comp.no (by simp) (by simp)
  | true =>
  simp only [if_true]
  simp only [canC, Bool.and_eq_true] at hc
  obtain ⟨hll, hP⟩ := pats_of hc.1.1
  have hA' : ∀ c ∈ l, (splitD 10 c.pat).length ≤ 40 := fun c h => by simpa using List.all_eq_true.1 hc.2 c h
  have hrl := rowsTo_len hA' l.length
  obtain ⟨ti, ok, c, ts, e, h1, h2, h3⟩ := tree_ok (ww hww) (wl hww) (ws hww) (lst := l) (pick := pick) 300 (Nat.le_refl _) NN NN (rowsTo l l.length) [⟨[], t⟩] (by decide) (by decide) (by omega) (start_C ht) (rowsTo_ok (ww hww) hP hll)
  rw [h1, show [Gl7Column.mk [] t] = [Gcolumn.mk [] t].map toD from rfl, h2]
  simp only [Option.bind_some]
  rcases h3 with ⟨rfl, rfl, lf, rfl, rfl, hd, hsz⟩ | ⟨rfl, he⟩
  · have e : ilt ((lf : Nat) : Int) 0 = false := by rw [ilt_false]; omega
    simp only [Bool.not_true, e, Bool.false_eq_true, if_false]
    rw [ownTree_ok 300 NN ti hd (by decide)]
    exact ⟨ti, true, rfl, rfl, by simp, hd, by omega⟩
  · have e : ilt e 0 = true := by rw [ilt_true]; exact he
    simp only [Bool.not_false, e, if_true]
    exact Comp.no rfl rfl
end Go.Proofs.YtmkamncbkkahjaaGreat
namespace Go.Proofs.YtmkamncbkkahjaaGreat
open Go Go.RowKit
theorem list4_ok {w : List GData} (hw : WW w) {r : Gl17Rd} {t : GType} (ht : t ∈ tys w) (h : ROk r 2600) : Ret (m_spec_l4List NN r w t) (fun a => (∀ c ∈ a.1, validP w t c.pat = true) ∧ a.1.length ≤ 5 ∧ Nx r a.2 2600) := by
  unfold m_spec_l4List
  refine Ret.bind (num_ok (h.le (by omega)) [3, 2, 4, 5, 1, 0] (by simp) (by simp)) (fun a ha => ?_)
  have hr1 : ROk a.2 2599 := ROk.nx (c := 1) h ha.2
  have hd : 0 ≤ a.1 ∧ a.1 ≤ 5 := by
    have := ha.1
    simp at this
    omega
  refine Ret.ctl (whileL_rule (fun s => 0 ≤ s.2.2 ∧ s.2.2 ≤ 5 ∧ (s.2.1.length : Int) + s.2.2 = a.1 ∧ (∀ c ∈ s.2.1, validP w t c.pat = true) ∧ Nx a.2 s.1 (s.2.1.length * 500)) (fun s => s.2.2.toNat) (fun _ => False) (fun s => s.2.1.length ≤ 5 ∧ (∀ c ∈ s.2.1, validP w t c.pat = true) ∧ Nx a.2 s.1 2500)
    ⟨hd.1, hd.2, by simp, by simp, by simpa using Nx.refl a.2⟩ (fun s hI => ?_) NN (by have := hd; show (a.1).toNat < 30000000; omega)) (fun r hr => hr.elim) (fun s hs => .some ⟨hs.2.1, hs.1, (ha.2.trans hs.2.2).le' (by omega)⟩)
  obtain ⟨i1, i2, i3, i4, i5⟩ := hI
  refine Ret.ite (fun h => ?_) (fun h => ?_)
  · rw [ilt_true] at h
    have hr2 : ROk s.1 500 := ROk.nx (c := s.2.1.length * 500) (hr1.le (by omega)) i5
    refine Ret.bind (clause4_ok hw ht hr2) (fun b hb => ?_)
    rw [app_ok (by simp only [rowLimit, List.length_cons, List.length_nil]; omega)]
    have hws : wsub .i64 s.2.2 1 = s.2.2 - 1 := wsub_ok (by omega) (by omega)
    simp only [Option.bind_some]
    rw [hws]
    refine .some ⟨⟨by simp only; omega, by simp only; omega, by simp; omega, fun c hc => ?_, ?_⟩, by simp only; omega⟩
    · rcases List.mem_append.1 hc with hc | hc
      · exact i4 c hc
      · simp at hc; subst hc; exact hb.1
    · have := i5.trans hb.2
      simp only [List.length_append, List.length_cons, List.length_nil]
      exact this.le' (by omega)
  · exact .some ⟨by simp only; omega, i4, i5.le' (by omega)⟩
theorem typed4_ok {r : Gl17Rd} (h : ROk r 5000) : Ret (m_spec_l4Typed NN r) (fun a => a.1 ∈ worlds ∧ a.2.1 ∈ tys a.1 ∧ (∀ c ∈ a.2.2.1, validP a.1 a.2.1 c.pat = true) ∧ a.2.2.1.length ≤ 5 ∧ Nx r a.2.2.2.2 4000) := by
  unfold m_spec_l4Typed
  refine Ret.bind (typed2_ok (h.le (by omega))) (fun a ha => ?_)
  obtain ⟨h1, h2, h3⟩ := ha
  refine Ret.bind (list4_ok (ww h1) h2 (ROk.nx (c := 500) (h.le (by omega)) h3)) (fun b hb => ?_)
  exact .some ⟨h1, h2, hb.1, hb.2.1, (h3.trans hb.2.2).le' (by omega)⟩
theorem missing_ok (code : List Int) (hb : ∀ x ∈ code, 0 ≤ x ∧ x ≤ 255) : Ret (m_spec_DrawMissingPatterns NN code) (fun a => a.1 ∈ worlds ∧ a.2.1 ∈ tys a.1 ∧ a.2.2.length ≤ 9) := by
  unfold m_spec_DrawMissingPatterns
  refine Ret.bind (open_ok code hb) (fun r hr => ?_)
  refine Ret.bind (typed4_ok (hr.le (by omega))) (fun a ha => ?_)
  obtain ⟨h1, h2, h3, h4, h5⟩ := ha
  have hr1 : ROk a.2.2.2.2 1000 := ROk.nx (c := 4000) (hr.le (by omega)) h5
  refine Ret.ctl (R := fun _ => False) (B := fun (s : Gl17Rd × List GClause) => ROk s.1 100 ∧ s.2.length ≤ 8 ∧ ∀ c ∈ s.2, c.pat.kids.length ≤ 100) ?_ (fun r hr => hr.elim) (fun s hs => ?_)
  · have hk : ∀ c ∈ a.2.2.1, c.pat.kids.length ≤ 100 := fun c hc => by have := valid_kids (ww h1) h2 (h3 c hc); omega
    refine Ret.ite (fun _ => ?_) (fun _ => .some ⟨hr1.le (by omega), by simp only; omega, hk⟩)
    refine Ret.bind (pick_ok (hr1.le (by omega)) (by omega) (by omega)) (fun b hb => ?_)
    have hr2 : ROk b.2 999 := ROk.nx (c := 1) hr1 hb.2.2
    refine Ret.ite (fun _ => ?_) (fun _ => .some ⟨hr2.le (by omega), by simp only; omega, hk⟩)
    simp only [m_spec_l5Any, Option.bind_some]
    rw [app_ok (by simp [rowLimit]; omega)]
    refine .some ⟨hr2.le (by omega), by simp; omega, fun c hc => ?_⟩
    rcases List.mem_append.1 hc with hc | hc
    · exact hk c hc
    · simp at hc; subst hc; simp
  · refine Ret.bind (mutate4_ok (hs.1.le (by omega)) s.2 hs.2.1 hs.2.2) (fun b hb => .some ⟨h1, h2, hb.1⟩)
end Go.Proofs.YtmkamncbkkahjaaGreat
namespace Go.Proofs.YtmkamncbkkahjaaGreat
open Go Go.RowKit
theorem subtrees_ok {d : Nat} {t : GTree} (h : deepT d t) : m_impl_subtrees t = some (subsT t) := by
  cases d with
  | zero => exact h.elim
  | succ d =>
  obtain ⟨⟨h1, h2, h3, h4, h5⟩, h6⟩ := h
  suffices hs : Ret (m_impl_subtrees t) (fun a => a = subsT t) by
    obtain ⟨a, e, rfl⟩ := hs
    exact e
  unfold m_impl_subtrees
  refine Ret.ctl (forL_rule t.branches (fun i s => s = (t.branches.take i).map (fun b => b.tree)) (fun _ => False) (fun s => s = t.branches.map (fun b => b.tree)) (by simp) (fun i x s hi hI => ?_) (fun s hI => by rw [hI, List.take_length])) (fun r hr => hr.elim) (fun s hs => ?_)
  · rw [app_ok (by rw [hI]; simp only [List.length_map, List.length_take, List.length_cons, List.length_nil, rowLimit]; omega)]
    exact .some (by simp only [rndQ_go]; rw [hI, List.take_add_one, hi]; simp)
  · subst hs
    dsimp only
    rw [app_ok (by simp only [List.length_map, rowLimit]; omega)]
    exact .some rfl
theorem sum_take_le (f : GTree → Nat) : ∀ (l : List GTree) (i : Nat), ((l.take i).map f).sum ≤ (l.map f).sum
  | [], i => by simp
  | x :: l, 0 => by simp
  | x :: l, i + 1 => by
    have := sum_take_le f l i
    simp only [List.take_succ_cons, List.map_cons, List.sum_cons]
    omega
theorem sum_mem_le (f : GTree → Nat) : ∀ (l : List GTree) (x : GTree), x ∈ l → f x ≤ (l.map f).sum
  | y :: l, x, h => by
    rcases List.mem_cons.1 h with rfl | h
    · simp
    · have := sum_mem_le f l x h
      simp; omega
theorem sum_step (f : GTree → Nat) {l : List GTree} {i : Nat} {x : GTree} (h : l[i]? = some x) : ((l.take (i + 1)).map f).sum = ((l.take i).map f).sum + f x := by
  rw [List.take_add_one, h]; simp
theorem treeSize_ok : ∀ (d n : Nat) (t : GTree), deepT d t → d ≤ n → sizeF d t ≤ 1000 → m_impl_TreeSize n t = some (sizeF d t : Int) := by
  intro d
  induction d with
  | zero => intro n t h; exact h.elim
  | succ d ih =>
    intro n t h hn hz
    obtain ⟨n, rfl⟩ : ∃ k, n = k + 1 := ⟨n - 1, by omega⟩
    suffices hs : Ret (m_impl_TreeSize (n + 1) t) (fun a => a = (sizeF (d + 1) t : Int)) by
      obtain ⟨a, e, rfl⟩ := hs
      exact e
    unfold m_impl_TreeSize
    rw [subtrees_ok h]
    simp only [Option.bind_some]
    unfold sizeF at hz ⊢
    refine Ret.ctl (forL_rule (subsT t) (fun i s => s = ((1 + (((subsT t).take i).map (sizeF d)).sum : Nat) : Int)) (fun _ => False) (fun s => s = ((1 + ((subsT t).map (sizeF d)).sum : Nat) : Int)) (by simp) (fun i x s hi hI => ?_) (fun s hI => by rw [hI, List.take_length])) (fun r hr => hr.elim) (fun s hs => .some hs)
    have hm := List.mem_of_getElem? hi
    have h1 := sum_mem_le (sizeF d) (subsT t) x hm
    have h2 := sum_take_le (sizeF d) (subsT t) i
    rw [ih n x (h.2 x hm) (by omega) (by omega)]
    simp only [Option.bind_some]
    refine .some ?_
    simp only [rndQ_go]
    rw [hI, sum_step (sizeF d) hi, wadd_ok (by omega) (by omega)]
    omega
def cntT : List Bool → Nat
  | [] => 0
  | b :: l => (if b = true then 1 else 0) + cntT l
theorem cntT_set : ∀ (l : List Bool) (i : Nat), cntT (l.set i true) ≤ cntT l + 1
  | [], i => by simp [cntT]
  | b :: l, 0 => by cases b <;> simp [cntT]; omega
  | b :: l, i + 1 => by have := cntT_set l i; simp only [List.set_cons_succ, cntT]; omega
theorem cntT_snoc : ∀ (l : List Bool) (b : Bool), cntT (l ++ [b]) = cntT l + (if b = true then 1 else 0)
  | [], b => by simp [cntT]
  | a :: l, b => by simp only [List.cons_append, cntT, cntT_snoc l b]; omega
theorem sizeF_pos {d : Nat} {t : GTree} (h : deepT d t) : 1 ≤ sizeF d t := by
  cases d with
  | zero => exact h.elim
  | succ d => unfold sizeF; omega
theorem leaves_ok : ∀ (d n : Nat) (t : GTree) (s : List Bool), deepT d t → d ≤ n → s.length = 8 → Ret (m_impl_leaves n t s) (fun r => r.length = 8 ∧ cntT r ≤ cntT s + sizeF d t) := by
  intro d
  induction d with
  | zero => intro n t s h; exact h.elim
  | succ d ih =>
    intro n t s h hn hs
    obtain ⟨n, rfl⟩ : ∃ k, n = k + 1 := ⟨n - 1, by omega⟩
    unfold m_impl_leaves
    refine Ret.ctl (R := fun _ => False) (B := fun u => u.length = 8 ∧ cntT u ≤ cntT s + 1) ?_ (fun r h => h.elim) (fun u hu => ?_)
    · by_cases h1 : t.op = 1
      · have e : ieq t.op 1 = true := by simp [ieq, h1]
        simp only [e, if_true]
        rw [within_ok]
        simp only [Option.bind_some]
        cases hw : (decide (0 ≤ t.clause) && decide (t.clause ≤ 7)) with
        | true =>
          simp only [Bool.and_eq_true, decide_eq_true_eq] at hw
          simp only [if_true]
          rw [aset_ok hs hw.1 (by omega)]
          exact .some ⟨by simp [hs], cntT_set s _⟩
        | false =>
          simp only [Bool.false_eq_true, if_false]
          exact .some ⟨hs, by omega⟩
      · have e : ieq t.op 1 = false := by simp [ieq, h1]
        simp only [e, Bool.false_eq_true, if_false]
        exact .some ⟨hs, by omega⟩
    · dsimp only
      rw [subtrees_ok h]
      simp only [Option.bind_some]
      unfold sizeF
      refine Ret.ctl (forL_rule (subsT t) (fun i v => v.length = 8 ∧ cntT v ≤ cntT s + (1 + (((subsT t).take i).map (sizeF d)).sum)) (fun _ => False) (fun v => v.length = 8 ∧ cntT v ≤ cntT s + (1 + ((subsT t).map (sizeF d)).sum)) ⟨hu.1, by have := hu.2; simp; omega⟩ (fun i x v hi hI => ?_) (fun v hI => by rw [List.take_length] at hI; exact hI)) (fun r hr => hr.elim) (fun v hv => .some hv)
      have hm := List.mem_of_getElem? hi
      rw [chk_ok (by simp [hI.1])]
      simp only [Option.bind_some]
      obtain ⟨r, e, h1, h2⟩ := ih n x v (h.2 x hm) (by omega) hI.1
      rw [e]
      refine .some ⟨h1, ?_⟩
      rw [sum_step (sizeF d) hi]
      have := hI.2
      omega
theorem treeLeaves_ok {d n : Nat} {t : GTree} (h : deepT d t) (hn : d + 20 ≤ n) : Ret (m_impl_TreeLeaves n t) (fun r => r.length ≤ sizeF d t) := by
  unfold m_impl_TreeLeaves
  obtain ⟨r, e, h1, h2⟩ := leaves_ok d n t [false, false, false, false, false, false, false, false] h (by omega) rfl
  rw [e]
  simp only [Option.bind_some]
  rw [chk_ok (by simp [h1])]
  simp only [Option.bind_some]
  have h2 : cntT r ≤ sizeF d t := by simpa [cntT] using h2
  refine Ret.ctl (whileL_rule (fun s : List Int × Int => ∃ k : Nat, s.2 = (k : Int) ∧ k ≤ 8 ∧ s.1.length = cntT (r.take k)) (fun s => 8 - s.2.toNat) (fun _ => False) (fun s => s.1.length = cntT r) ⟨0, rfl, by omega, rfl⟩ (fun s hI => ?_) n (by simp; omega)) (fun r h => h.elim) (fun s hs => .some (by rw [hs]; exact h2))
  obtain ⟨k, hk, hk8, hl⟩ := hI
  obtain ⟨out, i⟩ := s
  simp only at hk hl
  subst hk
  dsimp only
  by_cases hlt : k < 8
  · have e : ilt (k : Int) 8 = true := by rw [ilt_true]; omega
    simp only [e, if_true]
    obtain ⟨b, hb⟩ : ∃ b, r[k]? = some b := ⟨_, List.getElem?_eq_getElem (by omega)⟩
    have hstep : cntT (r.take (k + 1)) = cntT (r.take k) + (if b = true then 1 else 0) := by
      rw [List.take_add_one, hb, Option.toList_some, cntT_snoc]
    have hle : out.length ≤ 8 := by
      rw [hl]
      have : ∀ l : List Bool, cntT l ≤ l.length := by
        intro l
        induction l with
        | nil => simp [cntT]
        | cons a l ih => simp only [cntT, List.length_cons]; split <;> omega
      have h3 := this (r.take k)
      rw [List.length_take] at h3
      omega
    rw [aget_ok h1 (by omega) (by simpa using hb), wadd_ok (by omega) (by omega)]
    simp only [Option.bind_some]
    cases b with
    | true =>
      simp only [if_true]
      rw [app_ok (by simp only [List.length_cons, List.length_nil, rowLimit]; omega)]
      exact .some ⟨⟨k + 1, by simp, by omega, by simp [hstep, hl]⟩, by simp only; omega⟩
    | false =>
      simp only [Bool.false_eq_true, if_false, Option.bind_some]
      exact .some ⟨⟨k + 1, by simp, by omega, by simp [hstep, hl]⟩, by simp only; omega⟩
  · have e : ilt (k : Int) 8 = false := by rw [ilt_false]; omega
    simp only [e, Bool.false_eq_true, if_false]
    refine .some ?_
    simp only [rndQ_brk]
    rw [hl, List.take_of_length_le (by omega)]
theorem redundant_ok (code : List Int) (hb : ∀ x ∈ code, 0 ≤ x ∧ x ≤ 255) : Ret (m_spec_DrawRedundantClauses NN code) (fun a => a.1 ∈ worlds ∧ a.2.1 ∈ tys a.1 ∧ a.2.2.length ≤ 10) := by
  unfold m_spec_DrawRedundantClauses
  refine Ret.bind (open_ok code hb) (fun r hr => ?_)
  refine Ret.bind (missing_ok code hb) (fun a ha => ?_)
  obtain ⟨w, t, l⟩ := a
  obtain ⟨h1, h2, h3⟩ := ha
  simp only at h1 h2 h3 ⊢
  refine Ret.ctl (R := fun _ => False) (B := fun s => s.length ≤ 10) ?_ (fun r h => h.elim) (fun s hs => .some ⟨h1, h2, hs⟩)
  refine Ret.ite (fun c1 => ?_) (fun _ => .some (by simp only [ctlQ_brk]; omega))
  refine Ret.ite (fun c2 => ?_) (fun _ => .some (by simp only [ctlQ_brk]; omega))
  rw [ilt_true] at c1 c2
  simp only [lenZ] at c1 c2
  refine Ret.bind (pick_ok (hr.le (by omega)) (by omega) (by omega)) (fun p hp => ?_)
  refine Ret.ite (fun _ => ?_) (fun _ => .some (by simp only [ctlQ_brk]; omega))
  refine Ret.bind (pick_ok (r := p.2) ((hr.le (by omega : 1 + 1 ≤ 1000000)).nx hp.2.2) (by simp only [lenZ]; omega) (by simp only [lenZ]; omega)) (fun q hq => ?_)
  obtain ⟨x, hx, _⟩ := idx_lt_ok hq.1 hq.2.1
  rw [hx]
  simp only [Option.bind_some]
  rw [app_ok (by simp only [List.length_cons, List.length_nil, rowLimit]; omega)]
  exact .some (by simp only [ctlQ_brk, List.length_append, List.length_cons, List.length_nil]; omega)
theorem drawC_ok (code : List Int) (hb : ∀ x ∈ code, 0 ≤ x ∧ x ≤ 255) : Ret (m_spec_DrawCompileClauses NN code) (fun a => a.1 ∈ worlds ∧ a.2.1 ∈ tys a.1 ∧ a.2.2.1.length ≤ 10) := by
  unfold m_spec_DrawCompileClauses m_spec_l7Draw
  refine Ret.bind (P := fun a => a.1 ∈ worlds ∧ a.2.1 ∈ tys a.1 ∧ a.2.2.1.length ≤ 10) ?_ (fun a ha => .some ha)
  refine Ret.bind (redundant_ok code hb) (fun a ha => ?_)
  refine Ret.bind (open_ok code hb) (fun r hr => ?_)
  refine Ret.bind (num_ok (hr.le (by omega)) _ (by simp) (by simp)) (fun q _ => .some ha)
theorem law_tree_nodes (code : List Int) (hb : ∀ x ∈ code, 0 ≤ x ∧ x ≤ 255) : m_laws_FnTreeNodes NN code = some true := by
  suffices hr : Ret (m_laws_FnTreeNodes NN code) (fun r => r = true) by
    obtain ⟨_, e, rfl⟩ := hr
    exact e
  unfold m_laws_FnTreeNodes
  refine Ret.ite (fun _ => .some rfl) (fun _ => ?_)
  refine Ret.bind (drawC_ok code hb) (fun a ha => ?_)
  obtain ⟨w, t, l, pick⟩ := a
  obtain ⟨hw, ht, _⟩ := ha
  simp only at hw ht ⊢
  obtain ⟨tr, ok, e1, e2, h1, h2, h3⟩ := (compile_ok hw ht l pick).eq
  rw [e1, e2]
  simp only [Option.bind_some]
  rw [ptTree_refl 300 NN tr h2 (by decide)]
  simp only [Option.bind_some, beq_self_eq_true, Bool.not_true, Bool.false_eq_true, if_false, if_true]
  cases ok with
  | false => exact .some rfl
  | true =>
    simp only [Bool.not_true, Bool.false_eq_true, if_false]
    rw [treeSize_ok 300 NN tr h2 (by decide) (by omega)]
    simp only [Option.bind_some]
    have hp := sizeF_pos h2
    have c1 : ile 1 (sizeF 300 tr : Int) = true := by rw [ile_true]; omega
    have c2 : ile (sizeF 300 tr : Int) 300 = true := by rw [ile_true]; omega
    rw [if_pos c1, if_pos c2]
    refine Ret.bind (treeLeaves_ok h2 (by decide)) (fun r hr => .some ?_)
    rw [ile_true, lenZ_eq]
    omega
theorem canC_pick {w : List GData} {t : GType} {l : List GClause} {pick : Int} (h : canC w t l pick = true) : 0 ≤ pick ∧ pick ≤ 2 := by
  simp only [canC, Bool.and_eq_true, decide_eq_true_eq] at h
  exact h.1.2
theorem empty_ok {w : List GData} (hww : w ∈ worlds) {t : GType} (ht : t ∈ tys w) {pick : Int} (h0 : 0 ≤ pick) (h2 : pick ≤ 2) : m_impl_CompileClauses NN w t [] pick = some (zT, true) := by
  rw [implComp hww ht]
  have hc : canC w t [] pick = true := by simp [canC, clausesB, h0, h2]
  rw [if_pos hc]
  have ht : m_impl_compiling_tree NN (CI w [] pick ((300 : Nat) : Int)) (rowsTo [] 0) [⟨[], t⟩] = some (zT, true, CI w [] pick 299) := by
    show m_impl_compiling_tree (29999999 + 1) (CI w [] pick ((300 : Nat) : Int)) [] [⟨[], t⟩] = _
    unfold m_impl_compiling_tree
    rfl
  rw [show ([] : List GClause).length = 0 from rfl, ht]
  simp only [Option.bind_some, Bool.not_true, Bool.false_eq_true, if_false]
  rw [ownTree_ok 300 NN zT zT_deep (by decide)]
  rfl
def anyC : GClause := ⟨anyP, ⟨0, 0, 0⟩⟩
def leafT : GTree := GTree.mk 1 0 [] [] [] []
theorem leafT_deep : deepT 300 leafT := ⟨by simp [leafT], by simp [subsT, leafT]⟩
theorem rowsTo_any (l : List GClause) : ∀ i, ∃ rest, rowsTo (anyC :: l) (i + 1) = rowOfC 0 anyP :: rest := by
  intro i
  induction i with
  | zero => exact ⟨[], rfl⟩
  | succ i ih =>
    obtain ⟨rest, h⟩ := ih
    rw [rowsTo, h]
    exact ⟨_, rfl⟩
theorem any_first {w : List GData} (hww : w ∈ worlds) {t : GType} (ht : t ∈ tys w) (l : List GClause) (pick : Int) :
    m_impl_CompileClauses NN w t (anyC :: l) pick = some (leafT, true) ∨ m_impl_CompileClauses NN w t (anyC :: l) pick = some (zT, false) := by
  rw [implComp hww ht]
  cases hc : canC w t (anyC :: l) pick with
  | false => exact .inr (by simp)
  | true =>
  refine .inl ?_
  simp only [if_true]
  simp only [canC, Bool.and_eq_true] at hc
  obtain ⟨hll, hP⟩ := pats_of hc.1.1
  have hA' : ∀ c ∈ anyC :: l, (splitD 10 c.pat).length ≤ 40 := fun c h => by simpa using List.all_eq_true.1 hc.2 c h
  have hrl := rowsTo_len hA' (anyC :: l).length
  have hR := rowsTo_ok (ww hww) hP hll
  have hC := start_C ht
  obtain ⟨rest, hrest⟩ := rowsTo_any l l.length
  simp only [List.length_cons] at hll hrl hR ⊢
  rw [hrest] at hrl hR ⊢
  have htree : m_impl_compiling_tree NN (CI w (anyC :: l) pick ((300 : Nat) : Int)) (rowOfC 0 anyP :: rest) [⟨[], t⟩] = some (leafT, true, CI w (anyC :: l) pick 299) := by
    show m_impl_compiling_tree (29999999 + 1) (CI w (anyC :: l) pick ((300 : Nat) : Int)) (rowOfC 0 anyP :: rest) [⟨[], t⟩] = _
    unfold m_impl_compiling_tree
    have e1 : ilt 300 (wadd .i64 (CI w (anyC :: l) pick ((300 : Nat) : Int)).count 1) = false := rfl
    have e2 : ieq (lenZ (rowOfC 0 anyP :: rest).length) 0 = false := by
      rw [ieq, decide_eq_false_iff_not, lenZ_eq, List.length_cons]
      omega
    have e3 : (Gcompiling.mk (CI w (anyC :: l) pick ((300 : Nat) : Int)).spaces (CI w (anyC :: l) pick ((300 : Nat) : Int)).list (CI w (anyC :: l) pick ((300 : Nat) : Int)).pick (wadd .i64 (CI w (anyC :: l) pick ((300 : Nat) : Int)).count 1)) = CI w (anyC :: l) pick 299 := rfl
    rw [e1, e2, e3]
    simp only [Bool.false_eq_true, if_false]
    have hch := implChoose_ok (ww hww) (wl hww) (n := 29999999) (by omega) (lst := anyC :: l) (pick := pick) (count := 300 - 299) (rows := rowOfC 0 anyP :: rest) (cols := [⟨[], t⟩]) (by simp) (by omega) hC.ty (fun k hk => RowC.rng hR hk)
    have hnone : pickC w (rowOfC 0 anyP :: rest) [⟨[], t⟩] pick = none := by
      unfold pickC
      rw [pickS_free]
      intro j hj
      simp only [List.length_cons, List.length_nil] at hj
      rw [show j = 0 by omega]
      rfl
    rw [hnone] at hch
    rw [show m_impl_compiling_choose 29999999 (CI w (anyC :: l) pick 299) (rowOfC 0 anyP :: rest) [⟨[], t⟩] = some (optI none, CI w (anyC :: l) pick 299) from hch]
    simp only [Option.bind_some]
    have e4 : ilt (optI none) 0 = true := rfl
    simp only [e4, if_true]
    have hleaf : m_impl_compiling_leaf 29999999 (CI w (anyC :: l) pick 299) (rowOfC 0 anyP :: rest) [⟨[], t⟩] = some (leafT, true, CI w (anyC :: l) pick 299) := by
      show m_impl_compiling_leaf (29999998 + 1) (CI w (anyC :: l) pick 299) (rowOfC 0 anyP :: rest) [⟨[], t⟩] = _
      unfold m_impl_compiling_leaf
      rw [show idx (rowOfC 0 anyP :: rest) 0 = some (rowOfC 0 anyP) from rfl]
      simp only [Option.bind_some]
      rw [show (rowOfC 0 anyP).binds = [] from rfl, clone_PathBind [] (by simp)]
      simp only [Option.bind_some]
      rw [sortP_ok (by omega) (by simp) (by simp) (by simp)]
      rfl
    rw [hleaf]
    rfl
  rw [htree]
  simp only [Option.bind_some, Bool.not_true, Bool.false_eq_true, if_false]
  rw [ownTree_ok 300 NN leafT leafT_deep (by decide)]
  rfl
theorem leaf_tests (n : Nat) : m_impl_TreeTests (n + 1) leafT = some 0 := by
  unfold m_impl_TreeTests
  rfl
theorem law_tree_empty (code : List Int) (hb : ∀ x ∈ code, 0 ≤ x ∧ x ≤ 255) : m_laws_FnTreeEmpty NN code = some true := by
  suffices hr : Ret (m_laws_FnTreeEmpty NN code) (fun r => r = true) by
    obtain ⟨_, e, rfl⟩ := hr
    exact e
  unfold m_laws_FnTreeEmpty
  refine Ret.ite (fun _ => .some rfl) (fun _ => ?_)
  refine Ret.bind (drawC_ok code hb) (fun a ha => ?_)
  obtain ⟨w, t, l, pick⟩ := a
  obtain ⟨hw, ht, hlen⟩ := ha
  simp only at hw ht hlen ⊢
  obtain ⟨tr, ok, e1, e2, h1, h2, h3⟩ := (compile_ok hw ht l pick).eq
  have hpk : ok = true → 0 ≤ pick ∧ pick ≤ 2 := fun h => by
    rw [implComp hw ht] at e1
    cases hc : canC w t l pick with
    | true => exact canC_pick hc
    | false => rw [hc, h] at e1; simp at e1
  rw [e1, e2]
  simp only [Option.bind_some]
  rw [app_ok (by simp only [List.length_cons, List.length_nil, rowLimit]; omega)]
  simp only [Option.bind_some]
  have hany : [GClause.mk (GPattern.mk 1 0 0 0 0 []) (GGuard.mk 0 0 0)] ++ l = anyC :: l := rfl
  rw [hany, ptTree_refl 300 NN tr h2 (by decide)]
  obtain ⟨te, oke, e3, _⟩ := (compile_ok hw ht [] pick).eq
  cases ok with
  | false =>
    rw [e3]
    rcases any_first hw ht l pick with h | h <;> rw [h] <;> simp only [Option.bind_some, beq_self_eq_true, Bool.not_true, Bool.not_false, Bool.false_eq_true, if_false, if_true] <;> exact .some rfl
  | true =>
    obtain ⟨p0, p2⟩ := hpk rfl
    rw [empty_ok hw ht p0 p2]
    have hsz : m_impl_TreeSize NN zT = some 1 := by
      rw [treeSize_ok 300 NN zT zT_deep (by decide) (by rw [zT_size]; omega), zT_size]; rfl
    have hop : ieq zT.op 0 = true := rfl
    have hop2 : ieq leafT.op 1 = true := rfl
    have h11 : ieq 1 1 = true := rfl
    rcases any_first hw ht l pick with h | h
    · rw [h]
      simp only [Option.bind_some, beq_self_eq_true, Bool.not_true, Bool.false_eq_true, if_false, if_true, hop, hsz, h11, hop2]
      rw [show m_impl_TreeTests NN leafT = some 0 from leaf_tests 29999999]
      exact .some rfl
    · rw [h]
      simp only [Option.bind_some, beq_self_eq_true, Bool.not_true, Bool.not_false, Bool.false_eq_true, if_false, if_true, hop, hsz, h11]
      exact .some rfl
end Go.Proofs.YtmkamncbkkahjaaGreat
