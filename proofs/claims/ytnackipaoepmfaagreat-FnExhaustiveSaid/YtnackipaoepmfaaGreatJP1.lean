import Derived.Test.YtnackipaoepmfaaGreatJP0
set_option linter.unusedSimpArgs false
set_option linter.unusedVariables false
namespace Go.Proofs.YtnackipaoepmfaaGreat
open Go Go.RowKit
theorem specAll_ok {w : List GData} {t : GType} {n : Nat} (hn : 10 ≤ n) : ∀ {l : List GPattern}, (∀ p ∈ l, validP w t p = true) → l.length ≤ 100000 → m_spec_l3All n l = some l := fun {l} h hl => by
  unfold m_spec_l3All
  have hloop := loop_flat (ρ := List GPattern) (f := fun (k70 : Nat) x71 (s64 : (List GPattern)) => ((m_spec_l3Copy n x71).bind fun r78 => ((app s64 [r78]).bind fun x79 => some (Ctl.go x79)))) (fun q => [q]) 1000000 l 0 [] (fun k q hq s hs => by
    obtain ⟨g, hc, _⟩ := valid_good (h q hq)
    rw [specCopy_ok 10 n q (good_deep 10 t q g) hn (by omega)]
    simp only [Option.bind_some]
    simp only [List.length_cons, List.length_nil] at hs
    rw [app_ok (by simp only [List.length_cons, List.length_nil, rowLimit]; omega)]
    rfl) (by
      have : ∀ l : List GPattern, (l.flatMap fun q => [q]).length = l.length := fun l => by induction l with | nil => rfl | cons a l ih => simp [ih]
      rw [this]; simp only [List.length_nil]; omega)
  have hfl : ∀ l : List GPattern, (l.flatMap fun q => [q]) = l := fun l => by induction l with | nil => rfl | cons a l ih => simp [ih]
  rw [hfl] at hloop
  have e' := congrArg (fun z : Option (Ctl (List GPattern) (List GPattern)) => z.bind fun o => match o with | .ret r => some r | .go _ => none | .brk s => some s) hloop
  exact e'.trans (by simp)
theorem specRight_ok {w : List GData} (hw : WW w) {n : Nat} (hn : 100 ≤ n) {t : GType} (ht : t ∈ tys w) (o : Option (List GPattern)) (ho : ∀ l, o = some l → l.length ≤ 100000) :
    m_spec_l5Right n w t (optR o).1 (optR o).2 = some (optR (rightD w t o)) := by
  have hlp : ∀ (l : List GPattern) (k : Nat), forL (ρ := (List GPattern) × Bool) (fun k68 x69 (s62 : Unit) =>
      ((m_spec_l3Is n w t x69).bind fun r76 =>
      (if (!r76) = true then
      some (Ctl.ret (([], false)))
      else
      some (Ctl.go ())))) k l () = some (if l.all (validP w t) = true then .brk () else .ret ([], false)) := by
    intro l
    induction l with
    | nil => intro k; simp [forL]
    | cons a l ih =>
      intro k
      unfold forL
      rw [specIs_ok hw hn t a ht]
      simp only [Option.bind_some, List.all_cons]
      rcases Bool.eq_false_or_eq_true (validP w t a) with hv | hv
      · simp only [hv, Bool.not_true, Bool.false_eq_true, if_false, Bool.true_and]
        exact ih (k + 1)
      · simp [hv]
  unfold m_spec_l5Right
  cases o with
  | none =>
    have hnil : m_spec_l3All n [] = some [] := by simp [m_spec_l3All, forL]
    simp [optR, rightD, forL, hnil]
  | some l =>
    simp only [optR, rightD]
    have e' := congrArg (fun z : Option (Ctl (List GPattern × Bool) Unit) => z.bind fun o => match o with | .ret r => some r | .go _ => none | .brk _ => (m_spec_l3All n l).bind fun r => some (r, true)) (hlp l 0)
    refine e'.trans ?_
    by_cases h : l.all (validP w t) = true
    · simp only [if_pos h, Option.bind_some]
      rw [specAll_ok (by omega) (fun p hp => List.all_eq_true.1 h p hp) (ho l rfl)]
      rfl
    · simp only [if_neg h, Option.bind_some, optR]
def missD (w : List GData) (t : GType) (cs : List GClause) : Option (List GPattern) :=
  if clausesB w t cs = true then (coverD cs).bind fun l => rightD w t (withoutD w 10 11 t [GPattern.mk 1 0 0 0 0 []] l) else none
theorem cover_part {w : List GData} {t : GType} : ∀ {cs : List GClause} {l : List GPattern}, (∀ c ∈ cs, goodB w 10 t c.pat = true) → coverD cs = some l → ∀ b ∈ l, partD w 10 t b
  | [], l, _, e => by simp only [coverD, Option.some.injEq] at e; subst e; simp
  | c :: cs, l, h, e => by
    simp only [coverD] at e
    split at e
    · cases hp : partsD c.pat with
      | none => rw [hp] at e; simp at e
      | some m =>
        rw [hp] at e
        cases hc : coverD cs with
        | none => rw [hc] at e; simp at e
        | some r =>
          rw [hc] at e
          simp only [Option.bind_some, Option.map_some, Option.some.injEq] at e
          subst e
          intro b hb
          rcases List.mem_append.1 hb with hb | hb
          · rw [(parts_len hp).2] at hb
            exact split_part 10 t _ (bare_alt ctors_int 10 t c.pat (h c (by simp))) b hb
          · exact cover_part (fun c hc => h c (by simp [hc])) hc b hb
    · exact cover_part (fun c hc => h c (by simp [hc])) e
end Go.Proofs.YtnackipaoepmfaaGreat
namespace Go.Proofs.YtnackipaoepmfaaGreat
open Go Go.RowKit
theorem bare_cnt : ∀ (d : Nat) (p : GPattern), cntP (bareD d p) ≤ cntP p
  | 0, p => by simp [bareD]
  | d + 1, p => by
    have hp := cntP_eq p
    simp only [bareD]
    split
    · simp only [cntP, cntP.cntPs]; omega
    · split
      · rename_i h
        cases hk : p.kids with
        | nil => exact absurd hk h.2
        | cons q ks =>
          have := bare_cnt d q
          rw [hk] at hp
          simp only [cntP.cntPs] at hp
          simp only [List.headD_cons]
          omega
      · have : ∀ l : List GPattern, cntP.cntPs (l.map (bareD d)) ≤ cntP.cntPs l := fun l => by
          induction l with
          | nil => simp
          | cons a l ih => have := bare_cnt d a; simp only [List.map_cons, cntP.cntPs]; omega
        have := this p.kids
        rw [cntP_eq]
        simp only
        omega
theorem split_cnt : ∀ (d : Nat) (p : GPattern), ∀ q ∈ splitD d p, cntP q ≤ cntP p
  | 0, _, _, h => by simp [splitD] at h
  | d + 1, p, q, h => by
    have hp := cntP_eq p
    simp only [splitD] at h
    split at h
    · obtain ⟨k, hk, hq⟩ := List.mem_flatMap.1 h
      have h1 := split_cnt d k q hq
      obtain ⟨j, hj⟩ := List.mem_iff_getElem?.1 hk
      have := cnt_kid hj
      omega
    · obtain ⟨cs, hcs, rfl⟩ := List.mem_map.1 h
      have hm := mem_tups1.1 hcs
      have : ∀ (ks cs : List GPattern), MemL cs (ks.map (splitD d)) → cntP.cntPs cs ≤ cntP.cntPs ks := fun ks => by
        induction ks with
        | nil => intro cs h; have := h.1; simp at this; subst this; simp
        | cons k ks ih =>
          intro cs h
          cases cs with
          | nil => have := h.1; simp at this
          | cons c cs =>
            rw [List.map_cons, memL_cons] at h
            have h1 := split_cnt d k c h.1
            have h2 := ih cs h.2
            simp only [cntP.cntPs]
            omega
      have := this p.kids cs hm
      rw [cntP_eq]
      simp only [withK]
      omega
theorem parts_cnt {p : GPattern} {l : List GPattern} (h : partsD p = some l) : ∀ q ∈ l, cntP q ≤ cntP p := fun q hq => by
  rw [(parts_len h).2] at hq
  exact Nat.le_trans (split_cnt 10 _ q hq) (bare_cnt 10 p)
theorem cover_cnt {m : Nat} : ∀ {cs : List GClause} {l : List GPattern}, (∀ c ∈ cs, cntP c.pat ≤ m) → coverD cs = some l → ∀ b ∈ l, cntP b ≤ m
  | [], l, _, e => by simp only [coverD, Option.some.injEq] at e; subst e; simp
  | c :: cs, l, h, e => by
    simp only [coverD] at e
    split at e
    · cases hp : partsD c.pat with
      | none => rw [hp] at e; simp at e
      | some m =>
        rw [hp] at e
        cases hc : coverD cs with
        | none => rw [hc] at e; simp at e
        | some r =>
          rw [hc] at e
          simp only [Option.bind_some, Option.map_some, Option.some.injEq] at e
          subst e
          intro b hb
          rcases List.mem_append.1 hb with hb | hb
          · exact Nat.le_trans (parts_cnt hp b hb) (h c (by simp))
          · exact cover_cnt (fun c hc => h c (by simp [hc])) hc b hb
    · exact cover_cnt (fun c hc => h c (by simp [hc])) e
end Go.Proofs.YtnackipaoepmfaaGreat
namespace Go.Proofs.YtnackipaoepmfaaGreat
open Go Go.RowKit
theorem clauses_each {w : List GData} {t : GType} {cs : List GClause} (h : clausesB w t cs = true) : cs.length ≤ 8 ∧ ∀ c ∈ cs, validP w t c.pat = true ∧ goodB w 10 t c.pat = true ∧ cntP c.pat ≤ 60 := by
  simp only [clausesB, Bool.and_eq_true, decide_eq_true_eq, List.all_eq_true] at h
  refine ⟨h.1, fun c hc => ?_⟩
  have := h.2 c hc
  simp only [clauseB, Bool.and_eq_true] at this
  obtain ⟨g1, g2, _⟩ := valid_good this.1
  exact ⟨this.1, g1, g2⟩
theorem away_len {w : List GData} {d x : Nat} {t : GType} : ∀ (bs l r : List GPattern), l.length ≤ 1000 → awayD w d x t l bs = some r → r.length ≤ 1000
  | [], l, r, h, e => by simp only [awayD, Option.some.injEq] at e; subst e; exact h
  | b :: bs, l, r, h, e => by
    simp only [awayD] at e
    split at e
    · cases e
    · exact away_len bs _ r (by omega) e
theorem without_len1 {w : List GData} {d x : Nat} {t : GType} {l bs r : List GPattern} (h : l.length ≤ 1000) (e : withoutD w d x t l bs = some r) : r.length ≤ 1000 :=
  away_len bs _ r (by have := keep_len w x t l; omega) e
theorem implMissing_ok {w : List GData} (hww : w ∈ worlds) (hw : WW w) (he : WE w) {t : GType} (ht : t ∈ tys w) (cs : List GClause) : m_impl_MissingPatterns NN w t cs = some (optR (missD w t cs)) := by
  unfold m_impl_MissingPatterns missD
  rw [implClauses_ok hw ht]
  simp only [Option.bind_some]
  by_cases h : clausesB w t cs = true
  · obtain ⟨h8, hc⟩ := clauses_each h
    simp only [h, Bool.not_true, Bool.false_eq_true, if_false, if_true]
    rw [implCover_ok hw ht (by simp only [NN]; omega) cs (fun c m => ⟨(hc c m).2.1, by have := (hc c m).2.2; omega⟩) (by omega)]
    simp only [Option.bind_some]
    cases hl : coverD cs with
    | none => simp [optR]
    | some l =>
      have hp := cover_part (fun c m => (hc c m).2.1) hl
      have hcnt := cover_cnt (m := 60) (fun c m => (hc c m).2.2) hl
      simp only [optR, Bool.not_true, Bool.false_eq_true, if_false, Option.bind_some]
      rw [(wl hww).dim]
      have hany : m_impl_anyPattern = some (GPattern.mk 1 0 0 0 0 []) := rfl
      simp only [Option.bind_some, hany]
      rw [implWithout_ok hww hw he (d := 10) (x := 11) ht (by omega) (by omega) (fun b hb => ⟨hp b hb, by have := hcnt b hb; omega⟩) (fun a ha => by simp only [List.mem_singleton] at ha; subst ha; exact part_any w 10 t) (by simp) (by simp only [NN]; omega)]
      simp only [Option.bind_some]
      rw [implResult_ok hw (by simp only [NN]; omega) ht _ (fun r hr => by have := without_len1 (by simp) hr; omega)]
      cases rightD w t (withoutD w 10 11 t [GPattern.mk 1 0 0 0 0 []] l) <;> rfl
  · simp [h, optR]
theorem specMissing_ok {w : List GData} (hww : w ∈ worlds) (hw : WW w) (he : WE w) {t : GType} (ht : t ∈ tys w) (cs : List GClause) : m_spec_MissingPatterns NN w t cs = some (optR (missD w t cs)) := by
  unfold m_spec_MissingPatterns missD
  rw [specClauses_ok hw ht]
  simp only [Option.bind_some]
  by_cases h : clausesB w t cs = true
  · obtain ⟨h8, hc⟩ := clauses_each h
    have hany : m_spec_l5Any = some (GPattern.mk 1 0 0 0 0 []) := rfl
    simp only [h, Bool.not_true, Bool.false_eq_true, if_false, if_true, hany, Option.bind_some]
    unfold m_spec_l6Rest
    have hcov := specCover_ok hw ht (cs := cs) (k := cs.length) (by omega) (fun c m => ⟨(hc c m).2.1, by have := (hc c m).2.2; omega⟩) (by omega)
    rw [List.take_length] at hcov
    rw [lenZ_eq, hcov]
    simp only [Option.bind_some]
    cases hl : coverD cs with
    | none => simp [optR]
    | some l =>
      have hp := cover_part (fun c m => (hc c m).2.1) hl
      have hcnt := cover_cnt (m := 60) (fun c m => (hc c m).2.2) hl
      simp only [optR, Bool.not_true, Bool.false_eq_true, if_false, Option.bind_some]
      rw [hw.tab]
      simp only [Option.bind_some]
      rw [specMinusAll_ok hw he (d := 10) (x := 11) ht (by omega) (by omega) (fun b hb => ⟨hp b hb, by have := hcnt b hb; omega⟩) (fun a ha => by simp only [List.mem_singleton] at ha; subst ha; exact part_any w 10 t) (by simp) (by simp only [NN]; omega)]
      simp only [Option.bind_some]
      rw [specRight_ok hw (by simp only [NN]; omega) ht _ (fun r hr => by have := without_len1 (by simp) hr; omega)]
      cases rightD w t (withoutD w 10 11 t [GPattern.mk 1 0 0 0 0 []] l) <;> rfl
  · simp [h, optR]
end Go.Proofs.YtnackipaoepmfaaGreat
namespace Go.Proofs.YtnackipaoepmfaaGreat
open Go Go.RowKit
theorem cover_fit {w : List GData} {e : Nat} {t : GType} {v : GValue} (hv : goodV w e t v) : ∀ {cs : List GClause} {l : List GPattern}, (∀ c ∈ cs, goodB w 10 t c.pat = true) → coverD cs = some l →
    ((∃ b ∈ l, fitP b v = true) ↔ ∃ c ∈ cs, c.guard.op = 0 ∧ (matchD 10 c.pat v).isSome = true)
  | [], l, _, e1 => by simp only [coverD, Option.some.injEq] at e1; subst e1; simp
  | c :: cs, l, h, e1 => by
    simp only [coverD] at e1
    split at e1
    · rename_i h0
      cases hp : partsD c.pat with
      | none => rw [hp] at e1; simp at e1
      | some m =>
        rw [hp] at e1
        cases hc : coverD cs with
        | none => rw [hc] at e1; simp at e1
        | some r =>
          rw [hc] at e1
          simp only [Option.bind_some, Option.map_some, Option.some.injEq] at e1
          subst e1
          have ih := cover_fit hv (fun c hc => h c (by simp [hc])) hc
          have h1 := match_fit ctors_int 10 e t c.pat v (h c (by simp)) hv
          rw [← (parts_len hp).2] at h1
          constructor
          · rintro ⟨b, hb, g⟩
            rcases List.mem_append.1 hb with hb | hb
            · exact ⟨c, by simp, h0, h1.2 ⟨b, hb, g⟩⟩
            · obtain ⟨c', m1, m2⟩ := ih.1 ⟨b, hb, g⟩
              exact ⟨c', by simp [m1], m2⟩
          · rintro ⟨c', hc', g0, g⟩
            rcases List.mem_cons.1 hc' with rfl | hc'
            · obtain ⟨b, hb, g⟩ := h1.1 g
              exact ⟨b, by simp [hb], g⟩
            · obtain ⟨b, hb, g⟩ := ih.2 ⟨c', hc', g0, g⟩
              exact ⟨b, by simp [hb], g⟩
    · rename_i h0
      have ih := cover_fit hv (fun c hc => h c (by simp [hc])) e1
      rw [ih]
      constructor
      · rintro ⟨c', m1, m2⟩; exact ⟨c', by simp [m1], m2⟩
      · rintro ⟨c', hc', g0, g⟩
        rcases List.mem_cons.1 hc' with rfl | hc'
        · exact absurd g0 h0
        · exact ⟨c', hc', g0, g⟩
theorem miss_fit {w : List GData} (hw : WW w) (he : WE w) {e : Nat} {t : GType} (ht : t ∈ tys w) {v : GValue} (hv : goodV w e t v) {cs : List GClause} {r : List GPattern} (hr : missD w t cs = some r) :
    (∃ y ∈ r, fitP y v = true) ↔ ∀ c ∈ cs, c.guard.op = 0 → matchD 10 c.pat v = none := by
  unfold missD at hr
  split at hr
  · rename_i h
    obtain ⟨h8, hc⟩ := clauses_each h
    cases hl : coverD cs with
    | none => rw [hl] at hr; cases hr
    | some l =>
      rw [hl] at hr
      simp only [Option.bind_some] at hr
      have hp := cover_part (fun c m => (hc c m).2.1) hl
      cases hwd : withoutD w 10 11 t [GPattern.mk 1 0 0 0 0 []] l with
      | none => rw [hwd] at hr; cases hr
      | some q =>
        rw [hwd] at hr
        simp only [rightD] at hr
        split at hr
        · cases hr
          rw [without_fit hw he ht (by omega) hv hp (fun a ha => by simp only [List.mem_singleton] at ha; subst ha; exact part_any w 10 t) hwd]
          have hf := cover_fit hv (fun c m => (hc c m).2.1) hl
          constructor
          · rintro ⟨_, g⟩ c m g0
            cases hm : matchD 10 c.pat v with
            | none => rfl
            | some b =>
              obtain ⟨b, hb, g'⟩ := hf.2 ⟨c, m, g0, by simp [hm]⟩
              rw [g b hb] at g'
              cases g'
          · intro g
            refine ⟨⟨_, List.mem_singleton_self _, fit_any rfl v⟩, fun b hb => ?_⟩
            cases hfb : fitP b v with
            | false => rfl
            | true =>
              obtain ⟨c, m, g0, g'⟩ := hf.1 ⟨b, hb, hfb⟩
              rw [g c m g0] at g'
              cases g'
        · cases hr
  · cases hr
end Go.Proofs.YtnackipaoepmfaaGreat
namespace Go.Proofs.YtnackipaoepmfaaGreat
open Go Go.RowKit
structure ROk (r : Gl17Rd) (m : Nat) : Prop where
  bytes : ∀ x ∈ r.b, 0 ≤ x ∧ x ≤ 255
  len : r.b.length ≤ 2000
  p0 : 0 ≤ r.p
  pm : r.p + m ≤ 40000000
structure Nx (r r' : Gl17Rd) (c : Nat) : Prop where
  b : r'.b = r.b
  le : r.p ≤ r'.p
  ge : r'.p ≤ r.p + c
theorem ROk.le {r : Gl17Rd} {m m' : Nat} (h : ROk r m) (hm : m' ≤ m) : ROk r m' := ⟨h.bytes, h.len, h.p0, by have := h.pm; omega⟩
theorem ROk.nx {r r' : Gl17Rd} {c m : Nat} (h : ROk r (c + m)) (hn : Nx r r' c) : ROk r' m := ⟨by rw [hn.b]; exact h.bytes, by rw [hn.b]; exact h.len, by have := h.p0; have := hn.le; omega, by have := h.pm; have := hn.ge; omega⟩
theorem Nx.refl (r : Gl17Rd) : Nx r r 0 := ⟨rfl, by omega, by omega⟩
theorem Nx.trans {a b c : Gl17Rd} {m n : Nat} (h : Nx a b m) (k : Nx b c n) : Nx a c (m + n) := ⟨k.b.trans h.b, by have := h.le; have := k.le; omega, by have := h.ge; have := k.ge; omega⟩
theorem Nx.le' {a b : Gl17Rd} {m n : Nat} (h : Nx a b m) (hm : m ≤ n) : Nx a b n := ⟨h.b, h.le, by have := h.ge; omega⟩
theorem xor_range {x y : Int} (hx : 0 ≤ x) (hx' : x < 1099511627776) (hy : 0 ≤ y) (hy' : y < 1099511627776) : 0 ≤ wxor .i64 x y ∧ wxor .i64 x y < 1099511627776 := by
  obtain ⟨a, rfl⟩ := Int.eq_ofNat_of_zero_le hx
  obtain ⟨b, rfl⟩ := Int.eq_ofNat_of_zero_le hy
  have e : (BitVec.ofInt IntKind.i64.bits (a : Int) ^^^ BitVec.ofInt IntKind.i64.bits (b : Int)).toNat = a ^^^ b := by
    have ha : (BitVec.ofInt IntKind.i64.bits (a : Int)).toNat = a := by
      rw [BitVec.toNat_ofInt]
      show (((a : Int) % ((2 ^ 64 : Nat) : Int))).toNat = a
      omega
    have hb : (BitVec.ofInt IntKind.i64.bits (b : Int)).toNat = b := by
      rw [BitVec.toNat_ofInt]
      show (((b : Int) % ((2 ^ 64 : Nat) : Int))).toNat = b
      omega
    rw [BitVec.toNat_xor, ha, hb]
  have hlt : a ^^^ b < 2 ^ 40 := Nat.xor_lt_two_pow (by omega) (by omega)
  unfold wxor
  rw [e, wrap64 (by omega) (by omega)]
  omega
theorem pick_ok {r : Gl17Rd} (h : ROk r 1) {k : Int} (h1 : 1 ≤ k) (h2 : k ≤ 1000000) : Ret (m_spec_l17Rd_pick r k) (fun a => 0 ≤ a.1 ∧ a.1 < k ∧ Nx r a.2 1) := by
  have hp0 := h.p0
  have hpm := h.pm
  have hlen := h.len
  have ep : wadd .i64 r.p 1 = r.p + 1 := wadd_ok (by omega) (by omega)
  have eq : wsub .i64 (r.p + 1) 1 = r.p := by rw [wsub_ok (by omega) (by omega)]; omega
  have nx : Nx r (Gl17Rd.mk r.b (r.p + 1)) 1 := ⟨rfl, by simp only; omega, by simp only; omega⟩
  unfold m_spec_l17Rd_pick
  rw [ep, eq]
  refine Ret.ite (fun c => by rw [ilt_true] at c; omega) (fun _ => ?_)
  refine Ret.ite (fun c => .some ⟨by simp, by simp; omega, nx⟩) (fun c => ?_)
  rw [ieq_false] at c
  simp only [lenZ] at c
  have hpos : 0 < r.b.length := by omega
  have hk0 : chk (!ieq k 0) = some () := chk_ok (by simp [ieq]; omega)
  have hb0 : chk (!ieq (lenZ r.b.length) 0) = some () := chk_ok (by rw [Bool.not_eq_true', ieq_false]; simp only [lenZ]; omega)
  have rem : ∀ x : Int, 0 ≤ x → 0 ≤ wrem x k ∧ wrem x k < k := fun x hx => by
    unfold wrem
    rw [Int.tmod_eq_emod_of_nonneg hx]
    exact ⟨Int.emod_nonneg _ (by omega), Int.emod_lt_of_pos _ (by omega)⟩
  refine Ret.ite (fun c2 => ?_) (fun c2 => ?_)
  · rw [ilt_true] at c2
    simp only [lenZ] at c2
    obtain ⟨x, hx, hm⟩ := idx_lt_ok hp0 c2
    obtain ⟨b1, b2⟩ := h.bytes x hm
    rw [hx, hk0]
    simp only [Option.bind_some]
    rw [wcv_ok (by omega) (by omega)]
    exact .some ⟨(rem x b1).1, (rem x b1).2, nx⟩
  · rw [hb0]
    simp only [Option.bind_some]
    have remb : ∀ x : Int, 0 ≤ x → 0 ≤ wrem x (lenZ r.b.length) ∧ wrem x (lenZ r.b.length) < r.b.length := fun x hx => by
      unfold wrem lenZ
      rw [Int.tmod_eq_emod_of_nonneg hx]
      exact ⟨Int.emod_nonneg _ (by omega), Int.emod_lt_of_pos _ (by omega)⟩
    have e7 : wmul .i64 r.p 7 = r.p * 7 := wmul_ok (by omega) (by omega)
    have e73 : wadd .i64 (r.p * 7) 3 = r.p * 7 + 3 := wadd_ok (by omega) (by omega)
    rw [e7, e73]
    obtain ⟨x, hx, hm⟩ := idx_lt_ok (remb r.p hp0).1 (remb r.p hp0).2
    obtain ⟨y, hy, hn⟩ := idx_lt_ok (remb (r.p * 7 + 3) (by omega)).1 (remb (r.p * 7 + 3) (by omega)).2
    obtain ⟨b1, b2⟩ := h.bytes x hm
    obtain ⟨b3, b4⟩ := h.bytes y hn
    rw [hx, hy, hk0]
    simp only [Option.bind_some]
    have f1 : wcv .i64 x = x := wcv_ok (by omega) (by omega)
    have f2 : wcv .i64 y = y := wcv_ok (by omega) (by omega)
    have f3 : wmul .i64 x 131 = x * 131 := wmul_ok (by omega) (by omega)
    have f4 : wmul .i64 y 1117 = y * 1117 := wmul_ok (by omega) (by omega)
    have f5 : wmul .i64 r.p 29 = r.p * 29 := wmul_ok (by omega) (by omega)
    have hq : 0 ≤ r.p.tdiv (lenZ r.b.length) ∧ r.p.tdiv (lenZ r.b.length) ≤ r.p := by
      rw [Int.tdiv_eq_ediv_of_nonneg hp0]
      exact ⟨Int.ediv_nonneg hp0 (by simp [lenZ]), Int.ediv_le_self _ hp0⟩
    have f6 : wquo .i64 r.p (lenZ r.b.length) = r.p.tdiv (lenZ r.b.length) := wquo_ok (by omega) (by omega)
    rw [f1, f2, f3, f4, f5, f6]
    generalize r.p.tdiv (lenZ r.b.length) = q at hq ⊢
    have f7 : wmul .i64 q 53 = q * 53 := wmul_ok (by omega) (by omega)
    have f8 : wadd .i64 (x * 131) (y * 1117) = x * 131 + y * 1117 := wadd_ok (by omega) (by omega)
    have f9 : wadd .i64 (x * 131 + y * 1117) (r.p * 29) = x * 131 + y * 1117 + r.p * 29 := wadd_ok (by omega) (by omega)
    rw [f7, f8, f9, wadd_ok (by omega) (by omega)]
    have hz : 0 ≤ x * 131 + y * 1117 + r.p * 29 + q * 53 ∧ x * 131 + y * 1117 + r.p * 29 + q * 53 < 1099511627776 := ⟨by omega, by omega⟩
    generalize x * 131 + y * 1117 + r.p * 29 + q * 53 = z at hz ⊢
    have hz64 : z.tdiv 64 = z / 64 := Int.tdiv_eq_ediv_of_nonneg hz.1
    rw [wquo_ok (by rw [hz64]; omega) (by rw [hz64]; omega), hz64]
    have hxr := xor_range hz.1 hz.2 (show 0 ≤ z / 64 by omega) (show z / 64 < 1099511627776 by omega)
    exact .some ⟨(rem _ hxr.1).1, (rem _ hxr.1).2, nx⟩
theorem num_ok {r : Gl17Rd} (h : ROk r 1) (l : List Int) (h1 : 1 ≤ l.length) (h2 : l.length ≤ 1000) : Ret (m_spec_l17Rd_num r l) (fun a => a.1 ∈ l ∧ Nx r a.2 1) := by
  unfold m_spec_l17Rd_num
  refine Ret.bind (pick_ok h (k := lenZ l.length) (by simp [lenZ]; omega) (by simp [lenZ]; omega)) (fun a ha => ?_)
  obtain ⟨x, hx, hm⟩ := idx_lt_ok (xs := l) ha.1 (by simpa [lenZ] using ha.2.1)
  rw [hx]
  exact .some ⟨hm, ha.2.2⟩
theorem open_ok (code : List Int) (hb : ∀ x ∈ code, 0 ≤ x ∧ x ≤ 255) : Ret (m_spec_l17Open code) (fun r => ROk r 1000000) := by
  unfold m_spec_l17Open
  refine Ret.ctl (R := fun _ => False) (B := fun s => (∀ x ∈ s, 0 ≤ x ∧ x ≤ 255) ∧ s.length ≤ 2000) ?_ (fun r hr => hr.elim) (fun s hs => ?_)
  · refine Ret.ite (fun h => ?_) (fun h => ?_)
    · rw [ilt_true] at h
      simp only [lenZ] at h
      have : takeI code 2000 = some (code.take 2000) := by
        unfold takeI
        rw [if_pos ⟨by omega, by omega⟩]
        rfl
      rw [this]
      exact .some ⟨fun x hx => hb x (List.mem_of_mem_take hx), by simp; omega⟩
    · rw [ilt_false] at h
      simp only [lenZ] at h
      exact .some ⟨hb, by omega⟩
  · exact .some ⟨hs.1, hs.2, by simp, by simp⟩
theorem world_ok {r : Gl17Rd} (h : ROk r 1) : Ret (m_spec_l1World NN r) (fun a => a.1 ∈ worlds ∧ Nx r a.2 1) := by
  unfold m_spec_l1World
  obtain ⟨T, hT⟩ : ∃ T, m_spec_l1Texts = some T := ⟨_, rfl⟩
  have hlen : T.length = 8 := by
    have h8 : m_spec_l1Texts.map List.length = some 8 := rfl
    rw [hT] at h8
    simpa using h8
  rw [hT]
  simp only [Option.bind_some]
  have e7 : wsub .i64 (lenZ T.length) 1 = 7 := by rw [hlen]; rfl
  rw [e7]
  refine Ret.bind (pick_ok h (by omega) (by omega)) (fun a ha => ?_)
  obtain ⟨i, hi⟩ := Int.eq_ofNat_of_zero_le ha.1
  obtain ⟨w, hw, hm⟩ := drawW_ok (i := i) (by have := ha.2.1; omega)
  unfold drawW at hw
  rw [hT] at hw
  simp only [Option.bind_some] at hw
  rw [hi]
  obtain ⟨x, hx, hw⟩ := bindE hw
  rw [hx]
  simp only [Option.bind_some]
  rw [hw]
  exact .some ⟨hm, ha.2.2⟩
def cDraw : Nat → Nat
  | 0 => 1
  | m + 1 => 1 + 3 * cDraw m
theorem cDraw_pos : ∀ m, 1 ≤ cDraw m
  | 0 => Nat.le_refl _
  | m + 1 => by simp only [cDraw]; omega
theorem draw2_ok {w : List GData} (hw : WW w) : ∀ (m n : Nat) (r : Gl17Rd) (t : GType) (depth : Int), t ∈ tys w → depP w t ≠ 0 → depth ≤ m → depP w t ≤ m → -1000 + m ≤ depth → m ≤ 100 → m + 1 ≤ n → ROk r (cDraw m) →
    Ret (m_spec_l2Draw n r w (tabP w) t depth) (fun a => Nx r a.2 (cDraw m)) := by
  intro m
  induction m with
  | zero =>
    intro n r t depth ht hd h1 h2 h3 hm100 hn hr
    have := (hw.ty t ht).d0
    omega
  | succ m ih =>
    intro n r t depth ht hd h1 h2 h3 hm100 hn hr
    obtain ⟨n, rfl⟩ : ∃ k, n = k + 1 := ⟨n - 1, by omega⟩
    have hT := hw.ty t ht
    have hpos := cDraw_pos (m + 1)
    unfold m_spec_l2Draw
    refine Ret.ite (fun h => ?_) (fun h => ?_)
    · refine Ret.bind (pick_ok (hr.le hpos) (by omega) (by omega)) (fun a ha => .some (ha.2.2.le' hpos))
    · rw [ieq_false] at h
      rw [hT.c1]
      simp only [Option.bind_some]
      obtain ⟨kb, hkb, hmb⟩ := hT.dm h hd
      have hd0 := hT.d0
      refine Ret.ctl (forL_rule (ctorsP w t) (fun k s => (∀ x ∈ s, x ∈ ctorsP w t ∧ 0 < mostP w t x ∧ (mostP w t x ≤ depth ∨ mostP w t x = depP w t)) ∧ s.length ≤ k ∧ (∀ j, j < k → (ctorsP w t)[j]? = some kb → s ≠ [])) (fun _ => False)
        (fun s => (∀ x ∈ s, x ∈ ctorsP w t ∧ 0 < mostP w t x ∧ (mostP w t x ≤ depth ∨ mostP w t x = depP w t)) ∧ s ≠ [] ∧ s.length ≤ 4) ⟨by simp, by simp, fun j hj => by omega⟩ (fun k x s hx hI => ?_) (fun s hI => ?_)) (fun r hr => hr.elim) (fun s hs => ?_)
      · obtain ⟨i1, i2, i3⟩ := hI
        have hxm := List.mem_of_getElem? hx
        have hkl := (List.getElem?_eq_some_iff.1 hx).1
        have hcl := hT.cl
        have take : ∀ (hp : 0 < mostP w t x ∧ (mostP w t x ≤ depth ∨ mostP w t x = depP w t)), Ret ((app s [x]).bind fun x310 => some (Ctl.brk (ρ := Ctl (GValue × Gl17Rd) (List Int)) x310)) (CtlQ (fun _ => False) (fun s' => (∀ x ∈ s', x ∈ ctorsP w t ∧ 0 < mostP w t x ∧ (mostP w t x ≤ depth ∨ mostP w t x = depP w t)) ∧ s'.length ≤ k + 1 ∧ (∀ j, j < k + 1 → (ctorsP w t)[j]? = some kb → s' ≠ []))) := fun hp => by
          rw [app_ok (by simp only [rowLimit, List.length_cons, List.length_nil]; omega)]
          refine .some ⟨fun y hy => ?_, by simp; omega, fun _ _ _ => by simp⟩
          rcases List.mem_append.1 hy with hy | hy
          · exact i1 y hy
          · simp at hy; subst hy; exact ⟨hxm, hp⟩
        have pass : (¬ (0 < mostP w t x ∧ (mostP w t x ≤ depth ∨ mostP w t x = depP w t))) → Ret (some (Ctl.brk (ρ := Ctl (GValue × Gl17Rd) (List Int)) s)) (CtlQ (fun _ => False) (fun s' => (∀ x ∈ s', x ∈ ctorsP w t ∧ 0 < mostP w t x ∧ (mostP w t x ≤ depth ∨ mostP w t x = depP w t)) ∧ s'.length ≤ k + 1 ∧ (∀ j, j < k + 1 → (ctorsP w t)[j]? = some kb → s' ≠ []))) := fun hp => by
          refine .some ⟨i1, by omega, fun j hj hjk => ?_⟩
          by_cases hjk2 : j = k
          · subst hjk2
            rw [hx] at hjk
            cases hjk
            exact absurd ⟨by omega, .inr hmb⟩ hp
          · exact i3 j (by omega) hjk
        refine Ret.ctl (R := fun _ => False) (B := fun (s' : List Int) => (∀ x ∈ s', x ∈ ctorsP w t ∧ 0 < mostP w t x ∧ (mostP w t x ≤ depth ∨ mostP w t x = depP w t)) ∧ s'.length ≤ k + 1 ∧ (∀ j, j < k + 1 → (ctorsP w t)[j]? = some kb → s' ≠ [])) ?_ (fun r hr => hr.elim) (fun s' hs' => ⟨_, rfl, hs'⟩)
        rw [hT.m1 x hxm]
        simp only [Option.bind_some]
        refine Ret.ite (fun c => ?_) (fun c => ?_)
        · rw [ilt_true] at c
          refine Ret.ite (fun c2 => ?_) (fun c2 => ?_)
          · rw [ile_true] at c2
            exact take ⟨c, .inl c2⟩
          · rw [ile_false] at c2
            rw [hT.d1]
            simp only [Option.bind_some]
            refine Ret.ite (fun c3 => ?_) (fun c3 => ?_)
            · rw [ieq_true] at c3
              exact take ⟨c, .inr c3⟩
            · rw [ieq_false] at c3
              exact pass (by omega)
        · rw [ilt_false] at c
          exact pass (by omega)
      · obtain ⟨i1, i2, i3⟩ := hI
        obtain ⟨j, hj⟩ := List.mem_iff_getElem?.1 hkb
        have := hT.cl
        exact ⟨i1, i3 j ((List.getElem?_eq_some_iff.1 hj).1) hj, by omega⟩
      · obtain ⟨i1, i2, i3⟩ := hs
        have hsl : 1 ≤ s.length := by cases s with
          | nil => exact absurd rfl i2
          | cons => simp
        refine Ret.bind (pick_ok (hr.le hpos) (k := lenZ s.length) (by simp [lenZ]; omega) (by simp [lenZ]; omega)) (fun a ha => ?_)
        obtain ⟨x, hx, hxm⟩ := idx_lt_ok (xs := s) ha.1 (by simpa [lenZ] using ha.2.1)
        obtain ⟨hxc, hx0, hxd⟩ := i1 x hxm
        rw [hx]
        simp only [Option.bind_some]
        rw [hT.a1 x hxc]
        simp only [Option.bind_some]
        have hal := hT.al x hxc
        have hr1 : ROk a.2 (3 * cDraw m) := ROk.nx (c := 1) hr ha.2.2
        refine Ret.ctl (forL_rule (argsP w t x) (fun k s => Nx a.2 s.1 (k * cDraw m) ∧ s.2.length ≤ k) (fun _ => False) (fun s => Nx a.2 s.1 (3 * cDraw m)) ⟨by simpa using Nx.refl a.2, by simp⟩ (fun k y s hy hI => ?_) (fun s hI => ?_)) (fun r hr => hr.elim) (fun s hs => ?_)
        · obtain ⟨j1, j2⟩ := hI
          have hym := List.mem_of_getElem? hy
          have hkl := (List.getElem?_eq_some_iff.1 hy).1
          obtain ⟨d1, d2⟩ := hT.ma x hxc (by omega) y hym
          have hws : wsub .i64 depth 1 = depth - 1 := wsub_ok (by omega) (by omega)
          rw [hws]
          have hr2 : ROk s.1 (cDraw m) := by
            have : k * cDraw m + cDraw m ≤ 3 * cDraw m := by
              rw [← Nat.succ_mul]
              exact Nat.mul_le_mul_right _ (by omega)
            exact ROk.nx (c := k * cDraw m) (hr1.le this) j1
          refine Ret.bind (ih n s.1 y (depth - 1) (hT.at_ x hxc y hym) (by omega) (by omega) (by omega) (by omega) (by omega) (by omega) hr2) (fun b hb => ?_)
          rw [app_ok (by simp only [rowLimit, List.length_cons, List.length_nil]; omega)]
          refine .some ⟨?_, by simp; omega⟩
          have := j1.trans hb
          rw [← Nat.succ_mul] at this
          exact this
        · obtain ⟨j1, j2⟩ := hI
          exact j1.le' (Nat.mul_le_mul_right _ hal)
        · exact .some (ha.2.2.trans hs)
theorem typed2_ok {r : Gl17Rd} (h : ROk r 1000) : Ret (m_spec_l2Typed NN r) (fun a => a.1 ∈ worlds ∧ a.2.1 ∈ tys a.1 ∧ Nx r a.2.2.2 500) := by
  unfold m_spec_l2Typed
  refine Ret.bind (world_ok (h.le (by omega))) (fun a ha => ?_)
  obtain ⟨hw, hn1⟩ := ha
  have hW := ww hw
  rw [hW.tab]
  simp only [Option.bind_some]
  have hr1 : ROk a.2 999 := ROk.nx (c := 1) h hn1
  have hpos := hW.pos
  have hle := hW.le
  refine Ret.bind (pick_ok (hr1.le (by omega)) (k := lenZ a.1.length) (by simp only [lenZ]; omega) (by simp only [lenZ]; omega)) (fun b hb => ?_)
  have hr2 : ROk b.2 998 := ROk.nx (c := 1) hr1 hb.2.2
  refine Ret.bind (num_ok (hr2.le (by omega)) [0, 0, 1, 2] (by simp) (by simp)) (fun c hc => ?_)
  have hr3 : ROk c.2 997 := ROk.nx (c := 1) hr2 hc.2
  have hty : (GType.mk b.1 c.1) ∈ tys a.1 := by
    obtain ⟨i, hi⟩ := Int.eq_ofNat_of_zero_le hb.1
    have hil : i < a.1.length := by have := hb.2.1; simp only [lenZ] at this; omega
    have hci : ∃ j : Nat, j < 4 ∧ c.1 = (j : Int) := by
      have := hc.1
      simp at this
      rcases this with h | h | h
      · exact ⟨0, by omega, h⟩
      · exact ⟨1, by omega, h⟩
      · exact ⟨2, by omega, h⟩
    obtain ⟨j, hj, hcj⟩ := hci
    unfold tys
    refine List.mem_cons_of_mem _ (List.mem_flatMap.2 ⟨i, List.mem_range.2 hil, List.mem_map.2 ⟨j, List.mem_range.2 hj, ?_⟩⟩)
    rw [hi, hcj]
    rfl
  have htI : tI ∈ tys a.1 := by unfold tys; exact List.mem_cons_self
  refine Ret.ctl (R := fun _ => False) (B := fun s => (GType.mk s.1 s.2) ∈ tys a.1 ∧ depP a.1 (GType.mk s.1 s.2) ≠ 0) ?_ (fun r hr => hr.elim) (fun s hs => ?_)
  · rw [(hW.ty _ hty).d1]
    simp only [Option.bind_some]
    refine Ret.ite (fun h => ?_) (fun h => ?_)
    · refine .some ⟨htI, ?_⟩
      have := (hW.ty tI htI).ti rfl
      show depP a.1 tI ≠ 0
      omega
    · rw [ieq_false] at h
      exact .some ⟨hty, h⟩
  · refine Ret.bind (num_ok (hr3.le (by omega)) [3, 2, 4, 1] (by simp) (by simp)) (fun d hd => ?_)
    have hr4 : ROk d.2 996 := ROk.nx (c := 1) hr3 hd.2
    have hd4 : 1 ≤ d.1 ∧ d.1 ≤ 4 := by
      have := hd.1
      simp at this
      omega
    have hdep := (hW.ty _ hs.1).d4
    refine Ret.bind (draw2_ok hW 4 NN d.2 _ d.1 hs.1 hs.2 (by omega) (by omega) (by omega) (by omega) (by decide) (hr4.le (by decide))) (fun e he => ?_)
    refine .some ⟨hw, hs.1, ?_⟩
    have := (((hn1.trans hb.2.2).trans hc.2).trans hd.2).trans he
    exact this.le' (by decide)
end Go.Proofs.YtnackipaoepmfaaGreat
namespace Go.Proofs.YtnackipaoepmfaaGreat
open Go Go.RowKit
def smallD : Nat → GPattern → Prop
  | 0, _ => False
  | d + 1, p => p.kids.length ≤ 3 ∧ ∀ q ∈ p.kids, smallD d q
theorem small_any (d : Nat) : smallD (d + 1) (GPattern.mk 1 0 0 0 0 []) := ⟨by simp, by simp⟩
def cD3 : Nat → Nat
  | 0 => 0
  | m + 1 => 5 + 3 * cD3 m
def cN3 : Nat → Nat
  | 0 => 0
  | m + 1 => 2 + 3 * cN3 m
theorem draw3_ok {w : List GData} (hw : WW w) : ∀ (m n : Nat) (r : Gl17Rd) (t : GType) (depth : Int), t ∈ tys w → depth ≤ m + 1 → -1000 + m ≤ depth → m ≤ 100 → m + 1 ≤ n → ROk r (cD3 m) →
    Ret (m_spec_l3Draw n r w t depth) (fun a => smallD (m + 1) a.1 ∧ Nx r a.2 (cD3 m)) := by
  intro m
  induction m with
  | zero =>
    intro n r t depth ht h1 h2 h3 hn hr
    obtain ⟨n, rfl⟩ : ∃ k, n = k + 1 := ⟨n - 1, by omega⟩
    unfold m_spec_l3Draw
    rw [if_pos (by rw [ilt_true]; omega)]
    exact .some ⟨small_any 0, Nx.refl r⟩
  | succ m ih =>
    intro n r t depth ht h1 h2 h3 hn hr
    obtain ⟨n, rfl⟩ : ∃ k, n = k + 1 := ⟨n - 1, by omega⟩
    have hT := hw.ty t ht
    have ec : cD3 (m + 1) = 5 + 3 * cD3 m := rfl
    rw [ec] at hr ⊢
    have hws : wsub .i64 depth 1 = depth - 1 := wsub_ok (by omega) (by omega)
    unfold m_spec_l3Draw
    refine Ret.ite (fun h => .some ⟨small_any _, (Nx.refl r).le' (by omega)⟩) (fun h => ?_)
    refine Ret.bind (pick_ok (hr.le (by omega)) (by omega) (by omega)) (fun a ha => ?_)
    have hr1 : ROk a.2 (4 + 3 * cD3 m) := ROk.nx (c := 1) (hr.le (by omega)) ha.2.2
    refine Ret.ite (fun h => .some ⟨small_any _, ha.2.2.le' (by omega)⟩) (fun h => ?_)
    refine Ret.bind (pick_ok (hr1.le (by omega)) (by omega) (by omega)) (fun b hb => ?_)
    have hr2 : ROk b.2 (3 + 3 * cD3 m) := ROk.nx (c := 1) (hr1.le (by omega)) hb.2.2
    have hab := ha.2.2.trans hb.2.2
    rw [hws]
    refine Ret.ite (fun h => ?_) (fun h => ?_)
    · refine Ret.bind (ih n b.2 t (depth - 1) ht (by omega) (by omega) (by omega) (by omega) (hr2.le (by omega))) (fun c hc => ?_)
      have hr3 : ROk c.2 (cD3 m) := ROk.nx (c := cD3 m) (hr2.le (by omega)) hc.2
      refine Ret.bind (ih n c.2 t (depth - 1) ht (by omega) (by omega) (by omega) (by omega) hr3) (fun d hd => ?_)
      refine .some ⟨⟨by simp, fun q hq => ?_⟩, ((hab.trans hc.2).trans hd.2).le' (by omega)⟩
      simp at hq
      rcases hq with rfl | rfl
      · exact hc.1
      · exact hd.1
    · refine Ret.ite (fun h => ?_) (fun h => ?_)
      · refine Ret.bind (pick_ok (hr2.le (by omega)) (by omega) (by omega)) (fun c hc => ?_)
        have hr3 : ROk c.2 (2 + 3 * cD3 m) := ROk.nx (c := 1) (hr2.le (by omega)) hc.2.2
        have e10 : wsub .i64 10 c.1 = 10 - c.1 := wsub_ok (by omega) (by omega)
        rw [e10]
        refine Ret.bind (pick_ok (hr3.le (by omega)) (by omega) (by omega)) (fun d hd => ?_)
        have hr4 : ROk d.2 (1 + 3 * cD3 m) := ROk.nx (c := 1) (hr3.le (by omega)) hd.2.2
        refine Ret.bind (pick_ok (hr4.le (by omega)) (by omega) (by omega)) (fun e he => ?_)
        exact .some ⟨⟨by simp, by simp⟩, (((hab.trans hc.2.2).trans hd.2.2).trans he.2.2).le' (by omega)⟩
      · rw [hT.c1]
        simp only [Option.bind_some]
        refine Ret.ite (fun h => .some ⟨small_any _, hab.le' (by omega)⟩) (fun h => ?_)
        rw [ieq_false] at h
        simp only [lenZ] at h
        have hcl := hT.cl
        refine Ret.bind (pick_ok (hr2.le (by omega)) (k := lenZ (ctorsP w t).length) (by simp only [lenZ]; omega) (by simp only [lenZ]; omega)) (fun c hc => ?_)
        have hr3 : ROk c.2 (3 * cD3 m) := ROk.nx (c := 1) (hr2.le (by omega)) hc.2.2
        obtain ⟨x, hx, hxm⟩ := idx_lt_ok (xs := ctorsP w t) hc.1 (by simpa [lenZ] using hc.2.1)
        rw [hx]
        simp only [Option.bind_some]
        rw [hT.a1 x hxm]
        simp only [Option.bind_some]
        have hal := hT.al x hxm
        refine Ret.ctl (forL_rule (argsP w t x) (fun k s => Nx c.2 s.1 (k * cD3 m) ∧ s.2.length = k ∧ ∀ q ∈ s.2, smallD (m + 1) q) (fun _ => False) (fun s => Nx c.2 s.1 (3 * cD3 m) ∧ s.2.length ≤ 3 ∧ ∀ q ∈ s.2, smallD (m + 1) q) ⟨by simpa using Nx.refl c.2, by simp, by simp⟩ (fun k y s hy hI => ?_) (fun s hI => ?_)) (fun r hr => hr.elim) (fun s hs => ?_)
        · obtain ⟨j1, j2, j3⟩ := hI
          have hym := List.mem_of_getElem? hy
          have hkl := (List.getElem?_eq_some_iff.1 hy).1
          have hr4 : ROk s.1 (cD3 m) := by
            have : k * cD3 m + cD3 m ≤ 3 * cD3 m := by
              rw [← Nat.succ_mul]
              exact Nat.mul_le_mul_right _ (by omega)
            exact ROk.nx (c := k * cD3 m) (hr3.le this) j1
          refine Ret.bind (ih n s.1 y (depth - 1) (hT.at_ x hxm y hym) (by omega) (by omega) (by omega) (by omega) hr4) (fun b hb => ?_)
          rw [app_ok (by simp only [rowLimit, List.length_cons, List.length_nil]; omega)]
          refine .some ⟨?_, by simp; omega, fun q hq => ?_⟩
          · have := j1.trans hb.2
            rw [← Nat.succ_mul] at this
            exact this
          · rcases List.mem_append.1 hq with hq | hq
            · exact j3 q hq
            · simp at hq; subst hq; exact hb.1
        · obtain ⟨j1, j2, j3⟩ := hI
          exact ⟨j1.le' (Nat.mul_le_mul_right _ hal), by omega, j3⟩
        · exact .some ⟨⟨hs.2.1, hs.2.2⟩, ((hab.trans hc.2.2).trans hs.1).le' (by omega)⟩
theorem name3_ok : ∀ (m n : Nat) (r : Gl17Rd) (p : GPattern) (v : Int), smallD m p → m + 1 ≤ n → ROk r (cN3 m) → Ret (m_spec_l3Name n r p v) (fun a => Nx r a.2.2 (cN3 m)) := by
  intro m
  induction m with
  | zero => intro n r p v h; exact h.elim
  | succ m ih =>
    intro n r p v hp hn hr
    obtain ⟨n, rfl⟩ : ∃ k, n = k + 1 := ⟨n - 1, by omega⟩
    obtain ⟨hk, hq⟩ := hp
    have ec : cN3 (m + 1) = 2 + 3 * cN3 m := rfl
    rw [ec] at hr ⊢
    unfold m_spec_l3Name
    refine Ret.ite (fun h => .some ((Nx.refl r).le' (by omega))) (fun h => ?_)
    refine Ret.ite (fun h => .some ((Nx.refl r).le' (by omega))) (fun h => ?_)
    refine Ret.ite (fun h => .some ((Nx.refl r).le' (by omega))) (fun h => ?_)
    refine Ret.ctl (R := fun (a : GPattern × Int × Gl17Rd) => Nx r a.2.2 (2 + 3 * cN3 m)) (B := fun (s : Gl17Rd) => Nx r s 1) ?_ (fun a ha => .some ha) (fun s hs => ?_)
    · refine Ret.ite (fun h => ?_) (fun h => .some ((Nx.refl r).le' (by omega)))
      refine Ret.bind (pick_ok (hr.le (by omega)) (by omega) (by omega)) (fun a ha => ?_)
      exact Ret.ite (fun h => .some (ha.2.2.le' (by omega))) (fun h => .some ha.2.2)
    · have hr1 : ROk s (1 + 3 * cN3 m) := ROk.nx (c := 1) (hr.le (by omega)) hs
      refine Ret.ctl (forL_rule p.kids (fun k u => Nx s u.1 (k * cN3 m) ∧ u.2.1.length = k) (fun _ => False) (fun u => Nx s u.1 (3 * cN3 m) ∧ u.2.1.length ≤ 3) ⟨by simpa using Nx.refl s, by simp⟩ (fun k y u hy hI => ?_) (fun u hI => ?_)) (fun r hr => hr.elim) (fun u hu => ?_)
      · obtain ⟨j1, j2⟩ := hI
        have hym := List.mem_of_getElem? hy
        have hkl := (List.getElem?_eq_some_iff.1 hy).1
        have hr4 : ROk u.1 (cN3 m) := by
          have : k * cN3 m + cN3 m ≤ 1 + 3 * cN3 m := by
            rw [← Nat.succ_mul]
            have := Nat.mul_le_mul_right (cN3 m) (show k.succ ≤ 3 by omega)
            omega
          exact ROk.nx (c := k * cN3 m) (hr1.le this) j1
        refine Ret.bind (ih n u.1 y _ (hq y hym) (by omega) hr4) (fun b hb => ?_)
        rw [app_ok (by simp only [rowLimit, List.length_cons, List.length_nil]; omega)]
        refine .some ⟨?_, by simp; omega⟩
        have := j1.trans hb
        rw [← Nat.succ_mul] at this
        exact this
      · obtain ⟨j1, j2⟩ := hI
        exact ⟨j1.le' (Nat.mul_le_mul_right _ hk), by omega⟩
      · have hr2 : ROk u.1 1 := ROk.nx (c := 3 * cN3 m) (hr1.le (by omega)) hu.1
        have hsu := hs.trans hu.1
        refine Ret.ctl (R := fun (a : GPattern × Int × Gl17Rd) => Nx r a.2.2 (2 + 3 * cN3 m)) (B := fun (s : Gl17Rd) => Nx r s (2 + 3 * cN3 m)) ?_ (fun a ha => .some ha) (fun s hs => .some hs)
        refine Ret.ite (fun h => ?_) (fun h => .some (hsu.le' (by omega)))
        refine Ret.bind (pick_ok hr2 (by omega) (by omega)) (fun a ha => ?_)
        have := (hsu.trans ha.2.2).le' (show 1 + 3 * cN3 m + 1 ≤ 2 + 3 * cN3 m by omega)
        exact Ret.ite (fun h => .some this) (fun h => .some this)
def anyP : GPattern := GPattern.mk 1 0 0 0 0 []
theorem any_valid (w : List GData) (t : GType) : validP w t anyP = true := by
  simp [validP, anyP, goodB, nodeOk, ownOk, kidsT, linD, varsD, ownV, distinct, cntP, cntP.cntPs]
theorem some3_ok {w : List GData} (hw : WW w) {r : Gl17Rd} {t : GType} (ht : t ∈ tys w) (h : ROk r 200) : Ret (m_spec_l3Some NN r w t) (fun a => validP w t a.1 = true ∧ Nx r a.2 200) := by
  unfold m_spec_l3Some
  refine Ret.bind (num_ok (h.le (by omega)) [3, 2, 4, 1] (by simp) (by simp)) (fun a ha => ?_)
  have hr1 : ROk a.2 199 := ROk.nx (c := 1) h ha.2
  have hd4 : 1 ≤ a.1 ∧ a.1 ≤ 4 := by
    have := ha.1
    simp at this
    omega
  refine Ret.bind (draw3_ok hw 3 NN a.2 t a.1 ht (by omega) (by omega) (by omega) (by decide) (hr1.le (by decide))) (fun b hb => ?_)
  have hr2 : ROk b.2 80 := ROk.nx (c := cD3 3) (hr1.le (by decide)) hb.2
  refine Ret.bind (name3_ok 4 NN b.2 b.1 0 hb.1 (by decide) (hr2.le (by decide))) (fun c hc => ?_)
  rw [specIs_ok hw (by decide) t c.1 ht]
  simp only [Option.bind_some]
  have hnx := ((ha.2.trans hb.2).trans hc).le' (show 1 + cD3 3 + cN3 4 ≤ 200 by decide)
  cases hv : validP w t c.1 with
  | false => exact .some ⟨any_valid w t, hnx⟩
  | true => exact .some ⟨hv, hnx⟩
theorem clause4_ok {w : List GData} (hw : WW w) {r : Gl17Rd} {t : GType} (ht : t ∈ tys w) (h : ROk r 500) : Ret (m_spec_l4Clause NN r w t) (fun a => validP w t a.1.pat = true ∧ Nx r a.2 500) := by
  unfold m_spec_l4Clause
  refine Ret.bind (some3_ok hw ht (h.le (by omega))) (fun a ha => ?_)
  have hr1 : ROk a.2 300 := ROk.nx (c := 200) h ha.2
  obtain ⟨g1, g2, g3⟩ := valid_good ha.1
  obtain ⟨v1, v2⟩ := specVars_ok hw 10 NN t a.1 [] ht g1 (by decide) (by simp; omega)
  rw [v1]
  simp only [Option.bind_some, List.nil_append]
  refine Ret.ctl (forL_rule (varsD w 10 t a.1) (fun k s => Nx a.2 s.1 (k * 3)) (fun _ => False) (fun s => Nx a.2 s.1 300) (by simpa using Nx.refl a.2) (fun k y s hy hI => ?_) (fun s hI => hI.le' (by omega))) (fun r hr => hr.elim) (fun s hs => .some ⟨ha.1, (ha.2.trans hs).le' (by omega)⟩)
  have hkl := (List.getElem?_eq_some_iff.1 hy).1
  have hr2 : ROk s.1 3 := ROk.nx (c := k * 3) (hr1.le (by omega)) hI
  refine Ret.ctl (R := fun _ => False) (B := fun (u : Gl17Rd × Int × Int × Int) => Nx a.2 u.1 ((k + 1) * 3)) ?_ (fun r hr => hr.elim) (fun u hu => .some hu)
  refine Ret.ite (fun h => ?_) (fun h => .some (hI.le' (by omega)))
  refine Ret.bind (pick_ok (hr2.le (by omega)) (by omega) (by omega)) (fun b hb => ?_)
  have hr3 : ROk b.2 2 := ROk.nx (c := 1) hr2 hb.2.2
  refine Ret.ite (fun h => ?_) (fun h => .some ((hI.trans hb.2.2).le' (by omega)))
  refine Ret.bind (pick_ok (hr3.le (by omega)) (by omega) (by omega)) (fun c hc => ?_)
  have hr4 : ROk c.2 1 := ROk.nx (c := 1) hr3 hc.2.2
  refine Ret.bind (pick_ok hr4 (by omega) (by omega)) (fun d hd => ?_)
  exact .some ((((hI.trans hb.2.2).trans hc.2.2).trans hd.2.2).le' (by omega))
theorem mutate3_ok {r : Gl17Rd} (h : ROk r 2) (p : GPattern) (hp : p.kids.length ≤ 1000) : Ret (m_spec_l3Mutate r p) (fun a => a.1.kids.length ≤ p.kids.length + 1 ∧ Nx r a.2 2) := by
  unfold m_spec_l3Mutate
  rw [app_ok (by simp [rowLimit]; omega)]
  simp only [Option.bind_some, List.nil_append]
  refine Ret.ctl (R := fun _ => False) (B := fun (s : Gl17Rd × Int × Int × Int × Int × (List GPattern)) => Nx r s.1 2 ∧ s.2.2.2.2.2.length ≤ p.kids.length + 1) ?_ (fun r hr => hr.elim) (fun s hs => .some ⟨hs.2, hs.1⟩)
  refine Ret.bind (pick_ok (h.le (by omega)) (by omega) (by omega)) (fun a ha => ?_)
  have hr1 : ROk a.2 1 := ROk.nx (c := 1) h ha.2.2
  refine Ret.ite (fun _ => Ret.bind (num_ok hr1 _ (by simp) (by simp)) (fun b hb => .some ⟨(ha.2.2.trans hb.2), by simp⟩)) (fun _ => ?_)
  refine Ret.ite (fun _ => Ret.bind (num_ok hr1 _ (by simp) (by simp)) (fun b hb => .some ⟨(ha.2.2.trans hb.2), by simp⟩)) (fun _ => ?_)
  refine Ret.ite (fun _ => Ret.bind (num_ok hr1 _ (by simp) (by simp)) (fun b hb => .some ⟨(ha.2.2.trans hb.2), by simp⟩)) (fun _ => ?_)
  refine Ret.ite (fun _ => ?_) (fun _ => ?_)
  · rw [app_ok (by simp [rowLimit]; omega)]
    exact .some ⟨ha.2.2.le' (by omega), by simp⟩
  refine Ret.ite (fun _ => ?_) (fun _ => ?_)
  · refine Ret.ite (fun c => ?_) (fun _ => .some ⟨ha.2.2.le' (by omega), by simp⟩)
    rw [ilt_true] at c
    simp only [lenZ] at c
    obtain ⟨x, hx, hm⟩ := idx_lt_ok (xs := p.kids) (i := 0) (by omega) (by omega)
    rw [hx]
    simp only [Option.bind_some]
    have : setI p.kids 0 (GPattern.mk 2 0 0 0 0 []) = some (p.kids.set 0 (GPattern.mk 2 0 0 0 0 [])) := by
      unfold setI
      rw [if_pos ⟨by omega, by show 0 < p.kids.length; omega⟩]
      rfl
    rw [this]
    exact .some ⟨ha.2.2.le' (by omega), by simp⟩
  refine Ret.ite (fun _ => Ret.bind (num_ok hr1 _ (by simp) (by simp)) (fun b hb => .some ⟨(ha.2.2.trans hb.2), by simp⟩)) (fun _ => ?_)
  exact .some ⟨ha.2.2.le' (by omega), by simp⟩
theorem mutate4_ok {r : Gl17Rd} (h : ROk r 10) (l : List GClause) (hl : l.length ≤ 8) (hk : ∀ c ∈ l, c.pat.kids.length ≤ 100) : Ret (m_spec_l4Mutate NN r l) (fun a => a.1.length ≤ 9 ∧ Nx r a.2 10) := by
  unfold m_spec_l4Mutate
  rw [app_ok (by simp [rowLimit]; omega)]
  simp only [Option.bind_some, List.nil_append]
  refine Ret.ctl (R := fun _ => False) (B := fun (s : Gl17Rd × (List GClause)) => Nx r s.1 10 ∧ s.2.length ≤ 9) ?_ (fun r hr => hr.elim) (fun s hs => .some ⟨hs.2, hs.1⟩)
  refine Ret.bind (pick_ok (h.le (by omega)) (by omega) (by omega)) (fun a ha => ?_)
  have hr1 : ROk a.2 9 := ROk.nx (c := 1) h ha.2.2
  have hset : ∀ c : GClause, 0 < l.length → setI l 0 c = some (l.set 0 c) := fun c h0 => by
    unfold setI
    rw [if_pos ⟨by omega, by show 0 < l.length; omega⟩]
    rfl
  have pass : Ret (some (Ctl.brk (ρ := List GClause × Gl17Rd) (a.2, l))) (CtlQ (fun _ => False) (fun (s : Gl17Rd × (List GClause)) => Nx r s.1 10 ∧ s.2.length ≤ 9)) := .some ⟨ha.2.2.le' (by omega), by simp only; omega⟩
  refine Ret.ite (fun _ => ?_) (fun _ => ?_)
  · refine Ret.ite (fun c => ?_) (fun _ => pass)
    rw [ilt_true] at c
    simp only [lenZ] at c
    refine Ret.bind (num_ok (hr1.le (by omega)) _ (by simp) (by simp)) (fun b hb => ?_)
    have hr2 : ROk b.2 8 := ROk.nx (c := 1) hr1 hb.2
    refine Ret.bind (num_ok (hr2.le (by omega)) _ (by simp) (by simp)) (fun d hd => ?_)
    have hr3 : ROk d.2 7 := ROk.nx (c := 1) hr2 hd.2
    refine Ret.bind (num_ok (hr3.le (by omega)) _ (by simp) (by simp)) (fun e he => ?_)
    obtain ⟨x, hx, hm⟩ := idx_lt_ok (xs := l) (i := 0) (by omega) (by omega)
    rw [hx]
    simp only [Option.bind_some]
    rw [hset _ (by omega)]
    exact .some ⟨(((ha.2.2.trans hb.2).trans hd.2).trans he.2).le' (by omega), by simp; omega⟩
  refine Ret.ite (fun _ => ?_) (fun _ => ?_)
  · refine Ret.ite (fun c => ?_) (fun _ => pass)
    rw [ilt_true] at c
    simp only [lenZ] at c
    obtain ⟨x, hx, hm⟩ := idx_lt_ok (xs := l) (i := 0) (by omega) (by omega)
    have hxk := hk x hm
    rw [hx]
    simp only [Option.bind_some]
    refine Ret.bind (mutate3_ok (hr1.le (by omega)) x.pat (by omega)) (fun b hb => ?_)
    have hr2 : ROk b.2 7 := ROk.nx (c := 2) hr1 hb.2
    refine Ret.bind (mutate3_ok (hr2.le (by omega)) b.1 (by have := hb.1; omega)) (fun d hd => ?_)
    rw [hset _ (by omega)]
    exact .some ⟨((ha.2.2.trans hb.2).trans hd.2).le' (by omega), by simp; omega⟩
  refine Ret.ite (fun _ => ?_) (fun _ => pass)
  refine Ret.ctl (whileL_rule (fun (s : List GClause) => s.length ≤ 9) (fun s => 9 - s.length) (fun _ => False) (fun s => s.length ≤ 9) (by omega) (fun s hI => ?_) NN (by show 9 - l.length < 30000000; omega)) (fun r hr => hr.elim) (fun s hs => .some ⟨ha.2.2.le' (by omega), hs⟩)
  refine Ret.ite (fun c => ?_) (fun _ => .some hI)
  rw [ile_true] at c
  simp only [lenZ] at c
  rw [app_ok (by simp [rowLimit]; omega)]
  exact .some ⟨by simp; omega, by simp; omega⟩
theorem valid_kids {w : List GData} (hw : WW w) {t : GType} (ht : t ∈ tys w) {p : GPattern} (h : validP w t p = true) : p.kids.length ≤ 3 := by
  obtain ⟨ho, hl⟩ := node_own (good_node (valid_good h).1)
  rw [hl]
  exact kidsT_len (hw.ty t ht) ho
end Go.Proofs.YtnackipaoepmfaaGreat
namespace Go.Proofs.YtnackipaoepmfaaGreat
open Go Go.RowKit
def deepV : Nat → GValue → Prop
  | 0, _ => False
  | d + 1, v => v.kids.length ≤ 3 ∧ ∀ x ∈ v.kids, deepV d x
theorem good_deepV {w : List GData} (hw : WW w) : ∀ (d : Nat) (t : GType) (v : GValue), t ∈ tys w → goodV w d t v → deepV d v := by
  intro d
  induction d with
  | zero => intro t v _ h; exact h
  | succ d ih =>
    intro t v ht h
    have hT := hw.ty t ht
    simp only [goodV] at h
    split at h
    · obtain ⟨_, _, _, h4⟩ := h
      exact ⟨by rw [h4]; simp, fun x hx => by rw [h4] at hx; cases hx⟩
    · obtain ⟨_, h2, h3, h4⟩ := h
      have hal := hT.al _ h2
      refine ⟨by omega, fun x hx => ?_⟩
      obtain ⟨j, hj⟩ := List.mem_iff_getElem?.1 hx
      have hjl := (List.getElem?_eq_some_iff.1 hj).1
      have ha : (argsP w t v.ctor)[j]? = some ((argsP w t v.ctor)[j]'(by omega)) := by simp
      exact ih _ x (hT.at_ _ h2 _ (List.mem_of_getElem? ha)) (h4 j _ x ha hj)
theorem GValue.ext' {a b : GValue} (h1 : a.ctor = b.ctor) (h2 : a.n = b.n) (h3 : a.kids = b.kids) : a = b := by
  cases a; cases b; simp_all
theorem ownValue_ok : ∀ (d n : Nat) (v : GValue), deepV d v → d ≤ n → m_impl_ownValue n v = some v := by
  intro d
  induction d with
  | zero => intro n v h; exact h.elim
  | succ d ih =>
    intro n v h hn
    obtain ⟨n, rfl⟩ : ∃ k, n = k + 1 := ⟨n - 1, by omega⟩
    obtain ⟨h1, h2⟩ := h
    have hr : Ret (m_impl_ownValue (n + 1) v) (fun r => r = v) := by
      unfold m_impl_ownValue
      refine Ret.ctl (forL_rule v.kids (fun k s => s = v.kids.take k) (fun _ => False) (fun s => s = v.kids) (by simp) (fun k q s hq hI => ?_) (fun s hI => ?_)) (fun r hr => hr.elim) (fun s hs => .some (GValue.ext' rfl rfl hs))
      · rw [ih n q (h2 q (List.mem_of_getElem? hq)) (by omega)]
        simp only [Option.bind_some]
        rw [app_ok (by simp only [rowLimit, List.length_cons, List.length_nil]; rw [hI, List.length_take]; omega)]
        exact .some (by rw [hI, List.take_add_one, hq]; rfl)
      · rw [hI, List.take_length]
    obtain ⟨r, e, rfl⟩ := hr
    exact e
theorem setI_ok {α : Type} {xs : List α} {i : Int} {x : α} (h0 : 0 ≤ i) (h : i < xs.length) : setI xs i x = some (xs.set i.toNat x) := by
  unfold setI
  rw [if_pos ⟨h0, by omega⟩]
theorem len_ok : (List.range 13).all (fun k => (m_math_bits_Len (wcv .u64 (lenZ k))).isSome) = true := by kernel_rfl
theorem match_deep : ∀ (d : Nat) (p : GPattern) (e : Nat) (v : GValue) (l : List GBind), deepV e v → matchD d p v = some l → ∀ b ∈ l, ∃ e', e' ≤ e ∧ deepV e' b.value := by
  intro d
  induction d with
  | zero => intro p e v l _ h; cases h
  | succ d ih =>
    intro p e v l hv hm b hb
    rw [matchD] at hm
    split at hm
    · cases hm; cases hb
    split at hm
    · cases hm
      simp only [List.mem_cons, List.not_mem_nil, or_false] at hb
      subst hb
      exact ⟨e, Nat.le_refl _, hv⟩
    split at hm
    · split at hm
      · cases hm; cases hb
      · cases hm
    split at hm
    · split at hm
      · split at hm
        · rename_i l' hl'
          cases hm
          exact ih _ e v _ hv hl' b hb
        · exact ih _ e v _ hv hm b hb
      · cases hm
    split at hm
    · split at hm
      · rename_i a _
        cases ha : matchD d a v with
        | none => rw [ha] at hm; cases hm
        | some l' =>
          rw [ha] at hm
          cases hm
          rcases List.mem_cons.1 hb with h | h
          · subst h
            exact ⟨e, Nat.le_refl _, hv⟩
          · exact ih _ e v _ hv ha b h
      · cases hm
    split at hm
    · cases e with
      | zero => exact hv.elim
      | succ e =>
        have hk := hv.2
        have gen : ∀ (ps : List GPattern) (vs : List GValue) (l : List GBind), (∀ x ∈ vs, deepV e x) → matchL (matchD d) ps vs = some l → ∀ b ∈ l, ∃ e', e' ≤ e ∧ deepV e' b.value := by
          intro ps
          induction ps with
          | nil => intro vs l _ h b hb; simp only [matchL] at h; cases h; cases hb
          | cons q ps ihp =>
            intro vs l hvs h b hb
            cases vs with
            | nil => cases h
            | cons u vs =>
              simp only [matchL] at h
              cases hq : matchD d q u with
              | none => rw [hq] at h; cases h
              | some l1 =>
                rw [hq] at h
                simp only at h
                cases hps : matchL (matchD d) ps vs with
                | none => rw [hps] at h; cases h
                | some l2 =>
                  rw [hps] at h
                  cases h
                  rcases List.mem_append.1 hb with hb | hb
                  · exact ih q e u l1 (hvs u (by simp)) hq b hb
                  · exact ihp vs l2 (fun x hx => hvs x (by simp [hx])) hps b hb
        obtain ⟨e', h1, h2⟩ := gen _ _ _ hk hm b hb
        exact ⟨e', by omega, h2⟩
    · cases hm
theorem deepV_le : ∀ (d e : Nat) (v : GValue), d ≤ e → deepV d v → deepV e v := by
  intro d
  induction d with
  | zero => intro e v _ h; exact h.elim
  | succ d ih =>
    intro e v he h
    obtain ⟨e, rfl⟩ : ∃ k, e = k + 1 := ⟨e - 1, by omega⟩
    exact ⟨h.1, fun x hx => ih e x (by omega) (h.2 x hx)⟩
theorem nodup_range : ∀ (m : Nat) (l : List Int), l.Nodup → (∀ x ∈ l, 0 ≤ x ∧ x < m) → l.length ≤ m := by
  intro m
  induction m with
  | zero =>
    intro l _ h
    cases l with
    | nil => simp
    | cons x l => have := h x (by simp); omega
  | succ m ih =>
    intro l hn h
    have h1 := ih (l.erase (m : Int)) (hn.erase _) (fun x hx => by
      have hx2 := (hn.mem_erase_iff).1 hx
      have := h x hx2.2
      have := hx2.1
      omega)
    have h2 := List.length_erase (a := (m : Int)) (l := l)
    split at h2 <;> omega
theorem vars_len {w : List GData} {t : GType} {p : GPattern} {d : Nat} (g : goodB w d t p = true) (l : linD w d t p = true) : (varsD w d t p).length ≤ 6 := by
  have h1 := lin_distinct d t p g l
  simp only [distinct, decide_eq_true_eq] at h1
  have := nodup_range 6 _ h1 (fun x hx => by
    obtain ⟨y, hy, rfl⟩ := List.mem_map.1 hx
    have := vars_range d t p g y hy
    omega)
  simpa using this
end Go.Proofs.YtnackipaoepmfaaGreat
namespace Go.Proofs.YtnackipaoepmfaaGreat
open Go Go.RowKit
def sortV (l : List GBind) : List GBind := (List.range 6).flatMap fun (v : Nat) => l.filter fun b => decide (b.var = (v : Int))
theorem sortedV_one : ∀ (a b : List GBind), a.Pairwise (fun x y => x.var < y.var) → b.Pairwise (fun x y => x.var < y.var) → a.Perm b → a = b := by
  intro a
  induction a with
  | nil => intro b _ _ h; exact h.nil_eq
  | cons x a ih =>
    intro b ha hb h
    cases b with
    | nil => exact absurd h.symm.nil_eq (by simp)
    | cons y b =>
      rw [List.pairwise_cons] at ha hb
      have hx : x ∈ y :: b := h.mem_iff.1 (by simp)
      have hy : y ∈ x :: a := h.mem_iff.2 (by simp)
      have hxy : x = y := by
        rcases List.mem_cons.1 hx with rfl | hx
        · rfl
        · rcases List.mem_cons.1 hy with h1 | hy
          · exact h1.symm
          · have h1 := hb.1 x hx
            have h2 := ha.1 y hy
            omega
      subst hxy
      rw [ih b ha.2 hb.2 ((List.perm_cons x).1 h)]
theorem sortedV_lt {l : List GBind} (h : l.Pairwise (fun x y => x.var ≤ y.var)) (hn : (l.map (·.var)).Nodup) : l.Pairwise (fun x y => x.var < y.var) := by
  rw [List.Nodup, List.pairwise_map] at hn
  refine (h.and hn).imp fun ⟨h1, h2⟩ => ?_
  omega
theorem sortV_sorted {l : List GBind} (hn : (l.map (·.var)).Nodup) : (sortV l).Pairwise (fun x y => x.var < y.var) := by
  unfold sortV
  rw [List.pairwise_flatMap]
  refine ⟨fun v _ => ?_, ?_⟩
  · have h1 : (l.filter fun b => decide (b.var = (v : Int))).Pairwise (fun x y => x.var ≤ y.var) := by
      rw [List.pairwise_filter]
      refine List.pairwise_of_forall fun x y hx hy => ?_
      simp only [decide_eq_true_eq] at hx hy
      omega
    exact sortedV_lt h1 ((List.filter_sublist.map _).nodup hn)
  · refine List.Pairwise.imp ?_ (List.pairwise_lt_range (n := 6))
    intro a b hab x hx y hy
    have h1 := (List.mem_filter.1 hx).2
    have h2 := (List.mem_filter.1 hy).2
    simp only [decide_eq_true_eq] at h1 h2
    omega
theorem flatMap_twoV {α β : Type} (f g h : α → List β) (e : ∀ v, f v = g v ++ h v) : ∀ L : List α, (L.flatMap f).Perm (L.flatMap g ++ L.flatMap h)
  | [] => by simp
  | v :: L => by
    rw [List.flatMap_cons, List.flatMap_cons, List.flatMap_cons, e v, List.append_assoc, List.append_assoc]
    refine List.Perm.append_left _ ?_
    refine ((flatMap_twoV f g h e L).append_left (h v)).trans ?_
    rw [← List.append_assoc, ← List.append_assoc]
    exact List.Perm.append_right _ List.perm_append_comm
theorem sortV_perm {l : List GBind} (hv : ∀ b ∈ l, 0 ≤ b.var ∧ b.var ≤ 5) : (sortV l).Perm l := by
  induction l with
  | nil => simp [sortV]
  | cons x l ih =>
    have h1 := ih fun b hb => hv b (by simp [hb])
    obtain ⟨x0, x5⟩ := hv x (by simp)
    have h2 := flatMap_twoV (fun (v : Nat) => (x :: l).filter fun b => decide (b.var = (v : Int))) (fun (v : Nat) => if x.var = (v : Int) then [x] else []) (fun (v : Nat) => l.filter fun b => decide (b.var = (v : Int))) (fun v => by
      by_cases hc : x.var = (v : Int)
      · rw [List.filter_cons, if_pos (by simp [hc]), if_pos hc]; rfl
      · rw [List.filter_cons, if_neg (by simp [hc]), if_neg hc]; rfl) (List.range 6)
    have hx : ((List.range 6).flatMap fun (v : Nat) => if x.var = (v : Int) then [x] else []) = [x] := by
      have h6 : x.var = 0 ∨ x.var = 1 ∨ x.var = 2 ∨ x.var = 3 ∨ x.var = 4 ∨ x.var = 5 := by omega
      rcases h6 with h | h | h | h | h | h <;> simp [h, List.range, List.range.loop]
    rw [hx] at h2
    exact h2.trans (List.Perm.cons _ h1)
theorem compareV_eq (a b : Int) : m_cmp_Compare_int a b = some (if a < b then -1 else if b < a then 1 else 0) := by
  unfold m_cmp_Compare_int m_cmp_isNaN_int
  have e1 : (!ieq a a) = false := by simp [ieq]
  have e2 : (!ieq b b) = false := by simp [ieq]
  simp only [Option.bind_some, e1, e2, Bool.false_eq_true, if_false]
  by_cases h : a < b
  · have e : ilt a b = true := by rw [ilt_true]; exact h
    simp only [e, if_true, if_pos h]
  · have e : ilt a b = false := by rw [ilt_false]; omega
    simp only [e, Bool.false_eq_true, if_false, if_neg h]
    by_cases h2 : b < a
    · have e : ilt b a = true := by rw [ilt_true]; exact h2
      simp only [e, if_true, if_pos h2]
    · have e : ilt b a = false := by rw [ilt_false]; omega
      simp only [e, Bool.false_eq_true, if_false, if_neg h2]
theorem matched1_ok (a b : GBind) : m_impl_matched_1 a b = some (if a.var < b.var then -1 else if b.var < a.var then 1 else 0) := by
  unfold m_impl_matched_1
  rw [compareV_eq]
  rfl
def OrdV (l : List GBind) (i j : Nat) : Prop := ∀ a b x y, a < b → b ≤ i → b ≠ j → l[a]? = some x → l[b]? = some y → x.var ≤ y.var
theorem insertV_ok {n : Nat} (hn : 30 ≤ n) (l : List GBind) (hl : l.length ≤ 12) :
    Ret (m_slices_insertionSortCmpFunc_Bind n l 0 (lenZ l.length) (fun a b => m_impl_matched_1 a b)) (fun r => r.Perm l ∧ r.Pairwise (fun x y => x.var ≤ y.var)) := by
  unfold m_slices_insertionSortCmpFunc_Bind
  have z1 : wadd .i64 0 1 = 1 := rfl
  rw [z1]
  refine Ret.ctl (whileL_rule (fun s : List GBind × Int => s.1.Perm l ∧ 1 ≤ s.2 ∧ s.2 ≤ 13 ∧ ∀ a b x y, a < b → b < s.2.toNat → s.1[a]? = some x → s.1[b]? = some y → x.var ≤ y.var) (fun s => (14 - s.2).toNat) (fun _ => False) (fun s => s.1.Perm l ∧ s.1.Pairwise (fun x y => x.var ≤ y.var)) ⟨.rfl, by simp, by simp, fun a b x y h1 h2 => by simp at h2; omega⟩ (fun s hI => ?_) n (by simp; omega)) (fun r hr => hr.elim) (fun s hs => .some hs)
  obtain ⟨i1, i3, i4, i5⟩ := hI
  refine Ret.ite (fun hlt => ?_) (fun hge => ?_)
  · rw [ilt_true] at hlt
    simp only [lenZ] at hlt
    refine Ret.ctl (whileL_rule (fun u : List GBind × Int => u.1.Perm l ∧ 0 ≤ u.2 ∧ u.2 ≤ s.2 ∧ OrdV u.1 s.2.toNat u.2.toNat) (fun u => u.2.toNat) (fun _ => False) (fun u => u.1.Perm l ∧ ∀ a b x y, a < b → b ≤ s.2.toNat → u.1[a]? = some x → u.1[b]? = some y → x.var ≤ y.var) ⟨i1, by omega, Int.le_refl _, fun a b x y h1 h2 h3 => i5 a b x y h1 (by omega)⟩ (fun u hJ => ?_) n (by omega)) (fun r hr => hr.elim) (fun u hu => ?_)
    · obtain ⟨j1, j3, j4, j5⟩ := hJ
      have hlen := j1.length_eq
      refine Ret.ite (fun hp => ?_) (fun hp => ?_)
      · rw [ilt_true] at hp
        have hs : wsub .i64 u.2 1 = u.2 - 1 := wsub_ok (by omega) (by omega)
        rw [hs]
        have ex : idx u.1 u.2 = some (u.1[u.2.toNat]'(by omega)) := idx_okI j3 (List.getElem?_eq_getElem (by omega))
        have ey : idx u.1 (u.2 - 1) = some (u.1[(u.2 - 1).toNat]'(by omega)) := idx_okI (by omega) (List.getElem?_eq_getElem (by omega))
        have gx : u.1[u.2.toNat]? = some (u.1[u.2.toNat]'(by omega)) := List.getElem?_eq_getElem (by omega)
        have gy : u.1[u.2.toNat - 1]? = some (u.1[(u.2 - 1).toNat]'(by omega)) := by
          rw [show u.2.toNat - 1 = (u.2 - 1).toNat by omega]
          exact List.getElem?_eq_getElem (by omega)
        have hperm := (List.set_set_perm (as := u.1) (i := u.2.toNat) (j := (u.2 - 1).toNat) (by omega) (by omega)).trans j1
        generalize u.1[u.2.toNat]'(by omega) = x at *
        generalize u.1[(u.2 - 1).toNat]'(by omega) = y at *
        rw [ex, ey]
        simp only [Option.bind_some]
        rw [matched1_ok]
        simp only [Option.bind_some]
        by_cases hxy : x.var < y.var
        · rw [if_pos hxy]
          have e : ilt (-1) 0 = true := rfl
          simp only [e, if_true]
          rw [setI_ok j3 (by omega)]
          simp only [Option.bind_some]
          obtain ⟨z, ez, _⟩ := idx_lt_ok (xs := u.1.set u.2.toNat y) (i := u.2 - 1) (by omega) (by simp; omega)
          rw [ez]
          simp only [Option.bind_some]
          rw [setI_ok (by omega) (by simp; omega)]
          refine .some ⟨⟨hperm, by simp; omega, by simp; omega, ?_⟩, by simp; omega⟩
          simp only
          have hget : ∀ (m : Nat) (v : GBind), ((u.1.set u.2.toNat y).set (u.2 - 1).toNat x)[m]? = some v → (m = u.2.toNat - 1 ∧ v = x) ∨ (m = u.2.toNat ∧ v = y) ∨ (m ≠ u.2.toNat - 1 ∧ m ≠ u.2.toNat ∧ u.1[m]? = some v) := fun m v hv => by
            rw [List.getElem?_set] at hv
            split at hv
            · split at hv
              · cases hv; exact .inl ⟨by omega, rfl⟩
              · cases hv
            · rw [List.getElem?_set] at hv
              split at hv
              · split at hv
                · cases hv; exact .inr (.inl ⟨by omega, rfl⟩)
                · cases hv
              · exact .inr (.inr ⟨by omega, by omega, hv⟩)
          intro a b p q hab hbi hbj hp' hq'
          rcases hget a p hp' with ⟨ha, rfl⟩ | ⟨ha, rfl⟩ | ⟨ha, ha', hpa⟩
          · rcases hget b q hq' with ⟨hb, rfl⟩ | ⟨hb, rfl⟩ | ⟨hb, hb', hqb⟩
            · omega
            · omega
            · exact j5 u.2.toNat b _ _ (by omega) hbi hb' gx hqb
          · rcases hget b q hq' with ⟨hb, rfl⟩ | ⟨hb, rfl⟩ | ⟨hb, hb', hqb⟩
            · omega
            · omega
            · exact j5 (u.2.toNat - 1) b _ _ (by omega) hbi hb' gy hqb
          · rcases hget b q hq' with ⟨hb, rfl⟩ | ⟨hb, rfl⟩ | ⟨hb, hb', hqb⟩
            · exact absurd hb (by omega)
            · exact j5 a (u.2.toNat - 1) _ _ (by omega) (by omega) (by omega) hpa gy
            · exact j5 a b _ _ hab hbi hb' hpa hqb
        · rw [if_neg hxy]
          have e : ilt (if y.var < x.var then 1 else 0) 0 = false := by split <;> rfl
          simp only [e, Bool.false_eq_true, if_false]
          refine .some ⟨j1, fun a b p q hab hbi hp' hq' => ?_⟩
          by_cases hbj : b = u.2.toNat
          · subst hbj
            rw [gx] at hq'
            cases hq'
            by_cases haj : a = u.2.toNat - 1
            · subst haj
              rw [gy] at hp'
              cases hp'
              omega
            · have := j5 a (u.2.toNat - 1) p y (by omega) (by omega) (by omega) hp' gy
              omega
          · exact j5 a b p q hab hbi hbj hp' hq'
      · rw [ilt_false] at hp
        refine .some ⟨j1, fun a b p q hab hbi hp' hq' => j5 a b p q hab hbi (by omega) hp' hq'⟩
    · obtain ⟨u1, u2⟩ := hu
      have hw : wadd .i64 s.2 1 = s.2 + 1 := wadd_ok (by omega) (by omega)
      refine .some ⟨⟨u1, by simp only [hw]; omega, by simp only [hw]; omega, fun a b x y h1 h2 => u2 a b x y h1 (by simp only [hw] at h2; omega)⟩, by simp only [hw]; omega⟩
  · rw [ilt_false] at hge
    simp only [lenZ] at hge
    refine .some ⟨i1, ?_⟩
    rw [List.pairwise_iff_getElem]
    intro a b ha hb hab
    have hlen := i1.length_eq
    have hb' : b < s.1.length := hb
    exact i5 a b _ _ hab (by omega) (List.getElem?_eq_getElem ha) (List.getElem?_eq_getElem hb)
theorem sortV_ok {n : Nat} (hn : 40 ≤ n) {l : List GBind} (hl : l.length ≤ 12) (hd : (l.map (·.var)).Nodup) (hv : ∀ b ∈ l, 0 ≤ b.var ∧ b.var ≤ 5) :
    m_slices_SortFunc_Bind n l (fun a b => m_impl_matched_1 a b) = some (sortV l) := by
  suffices hs : Ret (m_slices_SortFunc_Bind n l (fun a b => m_impl_matched_1 a b)) (fun r => r = sortV l) by
    obtain ⟨a, e, rfl⟩ := hs
    exact e
  unfold m_slices_SortFunc_Bind
  obtain ⟨b, hb⟩ := Option.isSome_iff_exists.1 (List.all_eq_true.1 len_ok l.length (List.mem_range.2 (by omega)))
  rw [hb]
  simp only [Option.bind_some]
  have fin : ∀ r : List GBind, r.Perm l → r.Pairwise (fun x y => x.var ≤ y.var) → r = sortV l := fun r h1 h2 =>
    sortedV_one r (sortV l) (sortedV_lt h2 ((h1.map _).nodup_iff.2 hd)) (sortV_sorted hd) (h1.trans (sortV_perm hv).symm)
  obtain ⟨n, rfl⟩ : ∃ k, n = k + 1 := ⟨n - 1, by omega⟩
  refine Ret.bind (P := fun r => r.Perm l ∧ r.Pairwise (fun x y => x.var ≤ y.var)) ?_ (fun r hr => ?_)
  · unfold m_slices_pdqsortCmpFunc_Bind
    refine Ret.ctl (whileL_rule (fun _ => True) (fun _ => 0) (fun r : List GBind => r.Perm l ∧ r.Pairwise (fun x y => x.var ≤ y.var)) (fun _ => False) trivial (fun s _ => ?_) n (by omega)) (fun r hr => .some hr) (fun s hs => hs.elim)
    have h0 : wsub .i64 (lenZ l.length) 0 = lenZ l.length := by rw [wsub_ok] <;> simp only [lenZ] <;> omega
    rw [if_pos (by rw [ile_true, h0]; simp only [lenZ]; omega)]
    refine Ret.bind (insertV_ok (by omega) l hl) (fun r hr => ?_)
    rw [chk_ok (by simp [hr.1.length_eq])]
    exact .some hr
  · rw [chk_ok (by simp [hr.1.length_eq])]
    exact .some (fin r hr.1 hr.2)
theorem perm_ofV : ∀ {a b : List Int}, a.Nodup → (∀ x ∈ a, x ∈ b) → a.length = b.length → a.Perm b
  | [], b, _, _, h => by have : b = [] := List.eq_nil_of_length_eq_zero (by simpa using h.symm); rw [this]
  | x :: a, b, hn, hs, h => by
    have hx := hs x (by simp)
    have hn' := List.nodup_cons.1 hn
    have hl := List.length_erase_of_mem hx
    refine (List.Perm.cons x (perm_ofV hn'.2 (fun y hy => ?_) (by simp at h; omega))).trans (List.perm_cons_erase hx).symm
    have hne : y ≠ x := fun e => hn'.1 (e ▸ hy)
    exact (List.mem_erase_of_ne hne).2 (hs y (by simp [hy]))
theorem perm_alikeV {a b : List GVarType} (ha : distinct a = true) (h : alikeB a b = true) : (a.map (·.var)).Perm (b.map (·.var)) := by
  simp only [alikeB, Bool.and_eq_true, decide_eq_true_eq, List.all_eq_true] at h
  have hn : (a.map (·.var)).Nodup := by simpa [distinct] using ha
  refine perm_ofV hn (fun x hx => ?_) (by simp [h.1])
  obtain ⟨v, hv, rfl⟩ := List.mem_map.1 hx
  exact List.mem_map.2 ⟨v, h.2 v hv, rfl⟩
theorem match_vars {w : List GData} : ∀ (d : Nat) (t : GType) (p : GPattern), goodB w d t p = true → linD w d t p = true → ∀ v l, matchD d p v = some l → (l.map (·.var)).Perm ((varsD w d t p).map (·.var)) := by
  intro d
  induction d with
  | zero => intro t p h; cases h
  | succ d ih =>
    intro t p hg hlin v l hm
    obtain ⟨ho, hl⟩ := node_own (good_node hg)
    simp only [linD, Bool.and_eq_true, List.all_eq_true] at hlin
    rw [varsD]
    rw [matchD] at hm
    have hnil : p.op ≠ 4 → p.op ≠ 5 → p.op ≠ 6 → kidsT w t p = [] := fun h4 h5 h6 => by simp [kidsT, h4, h5, h6]
    by_cases h1 : p.op = 1
    · rw [if_pos h1] at hm; cases hm
      simp [ownV, h1, hnil]
    rw [if_neg h1] at hm
    by_cases h2 : p.op = 2
    · rw [if_pos h2] at hm; cases hm
      simp [ownV, h2, hnil]
    rw [if_neg h2] at hm
    by_cases h3 : p.op = 3
    · rw [if_pos h3] at hm
      split at hm
      · cases hm
        simp [ownV, h3, hnil]
      · cases hm
    rw [if_neg h3] at hm
    by_cases h5 : p.op = 5
    · rw [if_pos h5] at hm
      obtain ⟨a, b, hkids, hkt⟩ := kid0 h5 hl
      have ga := good_kid hg (k := 0) (by rw [hkt]; rfl) (by rw [hkids]; rfl)
      have gb := good_kid hg (k := 1) (by rw [hkt]; rfl) (by rw [hkids]; rfl)
      have g0 := hlin.1 (t, a) (by rw [hkids, hkt]; simp)
      have g1 := hlin.1 (t, b) (by rw [hkids, hkt]; simp)
      have hal := hlin.2
      rw [if_pos h5] at hal
      have k0 : kv w d t p 0 = varsD w d t a := by simp [kv, hkids, hkt]
      have k1 : kv w d t p 1 = varsD w d t b := by simp [kv, hkids, hkt]
      rw [k0, k1] at hal
      have hv : ownV t p = [] := by simp [ownV, h5]
      rw [hv, hkids, hkt, if_pos h5]
      simp only [List.zip_cons_cons, List.zip_nil_right, List.take_succ_cons, List.take_zero, List.flatMap_cons, List.flatMap_nil, List.append_nil, List.nil_append]
      rw [hkids] at hm
      simp only at hm
      split at hm
      · rename_i l' hl'
        cases hm
        exact ih t a ga g0 v _ hl'
      · exact (ih t b gb g1 v _ hm).trans (perm_alikeV (lin_distinct d t a ga g0) hal).symm
    rw [if_neg h5] at hm
    rw [if_neg h5, List.take_of_length_le (by rw [List.length_zip]; omega)]
    by_cases h6 : p.op = 6
    · rw [if_pos h6] at hm
      obtain ⟨a, hkids, hk2⟩ := kid_of6 h6 hl
      have ga := good_kid hg (k := 0) (by rw [hk2]; rfl) (by rw [hkids]; rfl)
      have g0 := hlin.1 (t, a) (by rw [hkids, hk2]; simp)
      rw [hkids] at hm
      simp only at hm
      cases ha : matchD d a v with
      | none => rw [ha] at hm; cases hm
      | some l' =>
        rw [ha] at hm
        cases hm
        have := ih t a ga g0 v l' ha
        rw [hkids, hk2]
        simpa [ownV, h6] using this
    rw [if_neg h6] at hm
    have hv : ownV t p = [] := by simp [ownV, h2, h6]
    rw [hv, List.nil_append]
    split at hm
    · have gen : ∀ (ts : List GType) (ps : List GPattern) (vs : List GValue) (l : List GBind), ts.length = ps.length → (∀ x ∈ ts.zip ps, ∀ v l, matchD d x.2 v = some l → (l.map (·.var)).Perm ((varsD w d x.1 x.2).map (·.var))) → matchL (matchD d) ps vs = some l → (l.map (·.var)).Perm (((ts.zip ps).flatMap fun x => varsD w d x.1 x.2).map (·.var)) := by
        intro ts ps
        induction ps generalizing ts with
        | nil => intro vs l _ _ h; simp only [matchL] at h; cases h; simp
        | cons q ps ihp =>
          intro vs l hl hx h
          cases ts with
          | nil => simp at hl
          | cons a ts =>
            cases vs with
            | nil => cases h
            | cons u vs =>
              simp only [matchL] at h
              cases hq : matchD d q u with
              | none => rw [hq] at h; cases h
              | some l1 =>
                rw [hq] at h
                simp only at h
                cases hps : matchL (matchD d) ps vs with
                | none => rw [hps] at h; cases h
                | some l2 =>
                  rw [hps] at h
                  cases h
                  have e1 := hx (a, q) (by simp) u l1 hq
                  have e2 := ihp ts vs l2 (by simpa using hl) (fun x hxx => hx x (by simp [hxx])) hps
                  simp only [List.zip_cons_cons, List.flatMap_cons, List.map_append]
                  exact e1.append e2
      refine gen _ _ _ _ hl.symm (fun x hx v l h => ?_) hm
      obtain ⟨j, hj⟩ := List.mem_iff_getElem?.1 hx
      obtain ⟨e1, e2⟩ := List.getElem?_zip_eq_some.1 hj
      exact ih _ _ (good_kid hg e1 e2) (hlin.1 x hx) v l h
    · cases hm
structure BindsOk (l : List GBind) : Prop where
  nd : (l.map (·.var)).Nodup
  rg : ∀ b ∈ l, 0 ≤ b.var ∧ b.var ≤ 5
  ln : l.length ≤ 6
theorem match_binds {w : List GData} {d : Nat} {t : GType} {p : GPattern} (g : goodB w d t p = true) (l : linD w d t p = true) {v : GValue} {r : List GBind} (h : matchD d p v = some r) : BindsOk r := by
  have hp := match_vars d t p g l v r h
  have hd := lin_distinct d t p g l
  simp only [distinct, decide_eq_true_eq] at hd
  refine ⟨hp.nodup_iff.2 hd, fun b hb => ?_, ?_⟩
  · obtain ⟨y, hy, e⟩ := List.mem_map.1 (hp.mem_iff.1 (List.mem_map_of_mem hb))
    have := vars_range d t p g y hy
    omega
  · have h1 := hp.length_eq
    have h2 := vars_len g l
    simp only [List.length_map] at h1
    omega
def guardV (g : GGuard) (l : List GBind) : Bool := decide (g.op = 0) || match l.find? fun b => decide (b.var = g.var) with
  | none => false
  | some b => decide (b.value.ctor = -1) && ((decide (g.op = 1) && decide (b.value.n < g.n)) || (decide (g.op = 2) && decide (b.value.n = g.n)))
theorem find_perm {a b : List GBind} (hn : (a.map (·.var)).Nodup) (h : a.Perm b) (v : Int) : a.find? (fun x => decide (x.var = v)) = b.find? (fun x => decide (x.var = v)) := by
  induction h with
  | nil => rfl
  | cons x h ih =>
    rw [List.find?_cons, List.find?_cons]
    split
    · rfl
    · exact ih (List.nodup_cons.1 (by simpa using hn)).2
  | swap x y l =>
    simp only [List.map_cons, List.nodup_cons, List.mem_cons, not_or] at hn
    simp only [List.find?_cons]
    by_cases h1 : x.var = v
    · have h2 : ¬ y.var = v := fun e => hn.1.1 (by omega)
      simp [h1, h2]
    · simp [h1]
  | trans h1 h2 ih1 ih2 => rw [ih1 hn, ih2 ((h1.map _).nodup_iff.1 hn)]
theorem guardV_perm {a b : List GBind} (hn : (a.map (·.var)).Nodup) (h : a.Perm b) (g : GGuard) : guardV g a = guardV g b := by
  unfold guardV
  rw [find_perm hn h]
theorem guardV_sort {l : List GBind} (h : BindsOk l) (g : GGuard) : guardV g (sortV l) = guardV g l := (guardV_perm h.nd (sortV_perm h.rg).symm g).symm
def runD (v : GValue) : Nat → List GClause → Option (Nat × List GBind)
  | _, [] => none
  | k, c :: cs => match matchD 10 c.pat v with
    | none => runD v (k + 1) cs
    | some l => if guardV c.guard l = true then some (k, sortV l) else runD v (k + 1) cs
def runR : Option (Nat × List GBind) → Int × List GBind
  | none => (-1, [])
  | some x => ((x.1 : Int), x.2)
end Go.Proofs.YtnackipaoepmfaaGreat
namespace Go.Proofs.YtnackipaoepmfaaGreat
open Go Go.RowKit
theorem var_one {l : List GBind} (hn : (l.map (·.var)).Nodup) {x y : GBind} (hx : x ∈ l) (hy : y ∈ l) (h : x.var = y.var) : x = y := by
  induction l with
  | nil => cases hx
  | cons a l ih =>
    simp only [List.map_cons, List.nodup_cons, List.mem_map, not_exists, not_and] at hn
    rcases List.mem_cons.1 hx with h1 | h1
    · rcases List.mem_cons.1 hy with h2 | h2
      · rw [h1, h2]
      · exact absurd (by rw [← h1]; exact h.symm) (hn.1 y h2)
    · rcases List.mem_cons.1 hy with h2 | h2
      · exact absurd (by rw [← h2]; exact h) (hn.1 x h1)
      · exact ih hn.2 h1 h2
theorem find_var {l : List GBind} (hn : (l.map (·.var)).Nodup) {x : GBind} {v : Int} (hx : x ∈ l) (h : x.var = v) : l.find? (fun b => decide (b.var = v)) = some x := by
  cases hf : l.find? (fun b => decide (b.var = v)) with
  | none =>
    have := List.find?_eq_none.1 hf x hx
    simp [h] at this
  | some y =>
    have h1 := List.find?_some hf
    have h2 := List.mem_of_find?_eq_some hf
    simp only [decide_eq_true_eq] at h1
    rw [var_one hn h2 hx (by omega)]
theorem implGuard_eq (g : GGuard) {l : List GBind} (hn : (l.map (·.var)).Nodup) : m_impl_GuardHolds g l = some (guardV g l) := by
  suffices hs : Ret (m_impl_GuardHolds g l) (fun r => r = guardV g l) by
    obtain ⟨a, e, rfl⟩ := hs
    exact e
  unfold m_impl_GuardHolds
  refine Ret.ite (fun h0 => .some ?_) (fun h0 => ?_)
  · rw [ieq_true] at h0
    simp [guardV, h0]
  rw [ieq_false] at h0
  refine Ret.bind (index_func l (fun a0 => m_impl_GuardHolds_1 a0 g) (fun b => ieq b.var g.var) (fun _ _ => rfl)) (fun i hi => ?_)
  rcases hi with ⟨k, x, rfl, hx, hxv⟩ | ⟨rfl, hall⟩
  · rw [if_neg (by rw [ilt_true]; omega), idx_ok hx]
    simp only [Option.bind_some]
    rw [ieq_true] at hxv
    have hG : guardV g l = (ieq x.value.ctor (-1) && ((ieq g.op 1 && ilt x.value.n g.n) || (ieq g.op 2 && ieq x.value.n g.n))) := by
      unfold guardV
      rw [find_var hn (List.mem_of_getElem? hx) hxv, decide_eq_false h0]
      rfl
    rw [hG]
    generalize ieq x.value.ctor (-1) = b1
    generalize ieq g.op 1 = b2
    generalize ilt x.value.n g.n = b3
    generalize ieq g.op 2 = b4
    generalize ieq x.value.n g.n = b5
    cases b1 <;> cases b2 <;> cases b3 <;> cases b4 <;> cases b5 <;> exact .some rfl
  · refine .some ?_
    have hf : l.find? (fun b => decide (b.var = g.var)) = none := List.find?_eq_none.2 fun x hx => by
      have := hall x hx
      rw [ieq_false] at this
      simpa using this
    simp [guardV, hf, h0]
def matR : Option (List GBind) → List GBind × Bool
  | none => ([], false)
  | some l => (sortV l, true)
theorem implMatched_eq {w : List GData} (hw : WW w) {t : GType} (ht : t ∈ tys w) {p : GPattern} (g : goodB w 10 t p = true) (ln : linD w 10 t p = true) (hc : cntP p ≤ 1000) {e : Nat} {v : GValue} (hv : goodV w e t v) (he : e ≤ 10) :
    m_impl_matched NN p v = some (matR (matchD 10 p v)) := by
  suffices hs : Ret (m_impl_matched NN p v) (fun r => r = matR (matchD 10 p v)) by
    obtain ⟨a, e, rfl⟩ := hs
    exact e
  have hdv := deepV_le e 10 v he (good_deepV hw e t v ht hv)
  unfold m_impl_matched
  refine Ret.bind (match_ok hw 10 NN t p v e ht g hv (by decide) hc) (fun r hr => ?_)
  obtain ⟨_, h2, h3⟩ := hr
  cases hm : matchD 10 p v with
  | none =>
    rw [hm] at h2
    simp only [Option.isSome_none] at h2
    rw [h2]
    exact .some rfl
  | some l =>
    rw [hm] at h2
    simp only [Option.isSome_some] at h2
    have h1 := h3 l hm
    have hb := match_binds g ln hm
    rw [h2, h1]
    simp only [Bool.not_true, Bool.false_eq_true, if_false]
    rw [sortV_ok (by decide) (by have := hb.ln; omega) hb.nd hb.rg]
    have hpm := sortV_perm hb.rg
    simp only [Option.bind_some]
    rw [chk_ok (by simp [hpm.length_eq])]
    simp only [Option.bind_some]
    have hdb : ∀ b ∈ sortV l, deepV 10 b.value := fun b hb' => by
      obtain ⟨e', h1, h2⟩ := match_deep 10 p 10 v l hdv hm b (hpm.mem_iff.1 hb')
      exact deepV_le _ _ _ h1 h2
    rw [show matR (some l) = (sortV l, true) from rfl]
    generalize sortV l = r at *
    refine Ret.ctl (forL_rule r (fun _ s => s = r) (fun _ => False) (fun s => s = r) rfl (fun k b s hb hI => ?_) (fun s hI => hI)) (fun r hr => hr.elim) (fun s hs => .some (by rw [hs]))
    subst hI
    have hk := (List.getElem?_eq_some_iff.1 hb).1
    have hy : s[k]? = some s[k] := by simp
    rw [idx_ok hy]
    simp only [Option.bind_some]
    rw [ownValue_ok 10 NN _ (hdb _ (List.mem_of_getElem? hy)) (by decide)]
    simp only [Option.bind_some]
    rw [setI_ok (by omega) (by omega)]
    refine .some ?_
    exact List.set_getElem_self (as := s) (i := k) hk
theorem drop_at {α : Type} {l : List α} {k : Nat} {x : α} (h : l[k]? = some x) : l.drop k = x :: l.drop (k + 1) := by
  obtain ⟨hk, rfl⟩ := List.getElem?_eq_some_iff.1 h
  exact List.drop_eq_getElem_cons hk
theorem implRun_eq {w : List GData} (hw : WW w) {t : GType} (ht : t ∈ tys w) {l : List GClause} (hl : ∀ c ∈ l, validP w t c.pat = true) {e : Nat} {v : GValue} (hv : goodV w e t v) (he : e ≤ 10) :
    m_impl_run NN l v = some (runR (runD v 0 l)) := by
  suffices hs : Ret (m_impl_run NN l v) (fun r => r = runR (runD v 0 l)) by
    obtain ⟨a, e, rfl⟩ := hs
    exact e
  unfold m_impl_run
  refine Ret.ctl (forL_rule l (fun k _ => runD v 0 l = runD v k (l.drop k)) (fun r : Int × List GBind => r = runR (runD v 0 l)) (fun _ => runD v 0 l = none) rfl (fun k c s hc hI => ?_) (fun s hI => by rw [hI, List.drop_length]; rfl)) (fun r hr => .some hr) (fun s hs => .some (by rw [hs]; rfl))
  obtain ⟨g, c1, ln⟩ := valid_good (hl c (List.mem_of_getElem? hc))
  rw [drop_at hc] at hI
  simp only [runD] at hI
  rw [implMatched_eq hw ht g ln (by omega) hv he]
  simp only [Option.bind_some]
  cases hm : matchD 10 c.pat v with
  | none =>
    simp only [hm] at hI
    simp only [matR, Bool.false_eq_true, if_false, Option.bind_some]
    exact .some hI
  | some r =>
    simp only [hm] at hI
    have hb := match_binds g ln hm
    have hn : ((sortV r).map (·.var)).Nodup := ((sortV_perm hb.rg).map _).nodup_iff.2 hb.nd
    simp only [matR, if_true]
    rw [implGuard_eq _ hn, guardV_sort hb]
    simp only [Option.bind_some]
    cases hg : guardV c.guard r with
    | true =>
      rw [hg] at hI
      simp only [if_true, Option.bind_some] at hI ⊢
      exact .some (by simp only [rndQ_ret]; rw [hI]; rfl)
    | false =>
      rw [hg] at hI
      simp only [Bool.false_eq_true, if_false, Option.bind_some] at hI ⊢
      exact .some hI
end Go.Proofs.YtnackipaoepmfaaGreat
namespace Go.Proofs.YtnackipaoepmfaaGreat
open Go Go.RowKit
def cntV : GValue → Nat
  | ⟨_, _, kids⟩ => 1 + cntVs kids
where cntVs : List GValue → Nat
  | [] => 0
  | v :: l => cntV v + cntVs l
theorem cntV_eq (v : GValue) : cntV v = 1 + cntV.cntVs v.kids := by cases v; rw [cntV]
theorem cntVs_take : ∀ (l : List GValue) (k : Nat) (q : GValue), l[k]? = some q → cntV.cntVs (l.take (k + 1)) = cntV.cntVs (l.take k) + cntV q
  | [], k, q, h => by simp at h
  | p :: l, 0, q, h => by simp at h; subst h; simp [cntV.cntVs]
  | p :: l, k + 1, q, h => by
    have := cntVs_take l k q (by simpa using h)
    simp only [List.take_succ_cons, cntV.cntVs]
    omega
theorem cntVs_take_le : ∀ (l : List GValue) (k : Nat), cntV.cntVs (l.take k) ≤ cntV.cntVs l
  | [], k => by simp
  | p :: l, 0 => by simp [cntV.cntVs]
  | p :: l, k + 1 => by
    have := cntVs_take_le l k
    simp only [List.take_succ_cons, cntV.cntVs]
    omega
def goodVb (w : List GData) : Nat → GType → GValue → Bool
  | 0, _, _ => false
  | d + 1, t, v => if t.data = -1 then decide (v.ctor = -1) && (decide (0 ≤ v.n) && (decide (v.n ≤ 9) && decide (v.kids.length = 0)))
    else decide (v.n = 0) && (decide (v.ctor ∈ ctorsP w t) && (decide (v.kids.length = (argsP w t v.ctor).length) && ((argsP w t v.ctor).zip v.kids).all fun x => goodVb w d x.1 x.2))
theorem goodVb_iff {w : List GData} : ∀ (d : Nat) (t : GType) (v : GValue), goodVb w d t v = true ↔ goodV w d t v := by
  intro d
  induction d with
  | zero => intro t v; simp [goodVb, goodV]
  | succ d ih =>
    intro t v
    rw [goodVb, goodV]
    split
    · simp only [Bool.and_eq_true, decide_eq_true_eq, List.length_eq_zero_iff]
    · simp only [Bool.and_eq_true, decide_eq_true_eq, List.all_eq_true]
      constructor
      · rintro ⟨h1, h2, h3, h4⟩
        exact ⟨h1, h2, h3, fun j a x ha hx => (ih a x).1 (h4 (a, x) (List.mem_of_getElem? (zip_get ha hx)))⟩
      · rintro ⟨h1, h2, h3, h4⟩
        refine ⟨h1, h2, h3, fun x hx => ?_⟩
        obtain ⟨j, hj⟩ := List.mem_iff_getElem?.1 hx
        obtain ⟨e1, e2⟩ := List.getElem?_zip_eq_some.1 hj
        exact (ih _ _).2 (h4 j _ _ e1 e2)
def okV (w : List GData) (d : Nat) (t : GType) (v : GValue) (c : Nat) : Bool := goodVb w d t v && decide (c + cntV v ≤ 60)
def validV (w : List GData) (t : GType) (v : GValue) : Bool := goodVb w 10 t v && decide (cntV v ≤ 60)
theorem valid_goodV {w : List GData} {t : GType} {v : GValue} (h : validV w t v = true) : goodV w 10 t v := by
  simp only [validV, Bool.and_eq_true] at h
  exact (goodVb_iff 10 t v).1 h.1
theorem okV_bad {w : List GData} {d : Nat} {t : GType} {v : GValue} {c : Nat} (h : goodVb w d t v = false) : okV w d t v c = false := by simp [okV, h]
theorem vscanB {w : List GData} (hw : WW w) : ∀ (d n : Nat) (t : GType) (v : GValue) (c : Nat), t ∈ tys w → c ≤ 60 → d + 2 ≤ n → d ≤ 10 →
    Ret (m_impl_valueScan n w t v (11 - (d : Int)) false (c : Int)) (fun r => r.1 = okV w d t v c ∧ (okV w d t v c = true → r.2 = ((c + cntV v : Nat) : Int))) := by
  intro d
  induction d with
  | zero =>
    intro n t v c ht hc hn hd
    obtain ⟨n, rfl⟩ : ∃ k, n = k + 1 := ⟨n - 1, by omega⟩
    have hb : okV w 0 t v c = false := okV_bad rfl
    unfold m_impl_valueScan
    refine Ret.ite (fun _ => .some ⟨hb.symm, fun h => by rw [hb] at h; cases h⟩) (fun _ => ?_)
    rw [if_pos (by rw [ilt_true]; omega)]
    exact .some ⟨hb.symm, fun h => by rw [hb] at h; cases h⟩
  | succ d ih =>
    intro n t v c ht hc hn hd
    obtain ⟨n, rfl⟩ : ∃ k, n = k + 1 := ⟨n - 1, by omega⟩
    have hT := hw.ty t ht
    unfold m_impl_valueScan
    have hc1 : wadd .i64 (c : Int) 1 = ((c + 1 : Nat) : Int) := by rw [wadd_ok] <;> omega
    rw [hc1]
    have hpos : 1 ≤ cntV v := by rw [cntV_eq]; omega
    refine Ret.ite (fun hlt => ?_) (fun hle => ?_)
    · rw [ilt_true] at hlt
      have hb : okV w (d + 1) t v c = false := by simp only [okV, Bool.and_eq_false_iff, decide_eq_false_iff_not]; right; omega
      exact .some ⟨hb.symm, fun h => by rw [hb] at h; cases h⟩
    rw [ilt_false] at hle
    rw [if_neg (by rw [ilt_true]; omega), if_neg (by simp)]
    have bad : goodVb w (d + 1) t v = false → okV w (d + 1) t v c = false := okV_bad
    refine Ret.ctl (R := fun r : Bool × Int => r.1 = okV w (d + 1) t v c ∧ (okV w (d + 1) t v c = true → r.2 = ((c + cntV v : Nat) : Int))) (B := fun _ : Unit => t.data ≠ -1 ∧ v.n = 0 ∧ v.ctor ∈ ctorsP w t) ?_ (fun r hr => .some hr) (fun s hs => ?_)
    · refine Ret.ite (fun hi => ?_) (fun hi => ?_)
      · rw [ieq_true] at hi
        have hg : goodVb w (d + 1) t v = (decide (v.ctor = -1) && (decide (0 ≤ v.n) && (decide (v.n ≤ 9) && decide (v.kids.length = 0)))) := by rw [goodVb, if_pos hi]
        refine Ret.ite (fun h1 => ?_) (fun h1 => ?_)
        · rw [ieq_true] at h1
          rw [within_ok]
          simp only [Option.bind_some]
          refine Ret.ite (fun h2 => ?_) (fun h2 => ?_)
          · simp only [Bool.and_eq_true, decide_eq_true_eq] at h2
            have hk : goodVb w (d + 1) t v = decide (v.kids.length = 0) := by rw [hg]; simp [h1, h2.1, h2.2]
            refine .some ?_
            have h0 : v.kids.length = 0 → cntV v = 1 := fun h => by rw [cntV_eq, List.eq_nil_of_length_eq_zero h]; rfl
            by_cases hz : v.kids.length = 0
            · have e1 : okV w (d + 1) t v c = true := by simp only [okV, hk, hz, decide_true, Bool.true_and, decide_eq_true_eq]; have := h0 hz; omega
              rw [e1]
              refine ⟨?_, fun _ => ?_⟩
              · simp only [ieq_true, lenZ]; omega
              · have := h0 hz; simp only; omega
            · have e1 : okV w (d + 1) t v c = false := bad (by rw [hk]; simp [hz])
              rw [e1]
              refine ⟨?_, fun h => by cases h⟩
              simp only [ieq_false, lenZ]; omega
          · have e1 : okV w (d + 1) t v c = false := bad (by
              rw [hg]
              simp only [Bool.and_eq_false_iff, decide_eq_false_iff_not] at h2 ⊢
              rcases h2 with h2 | h2
              · exact .inr (.inl h2)
              · exact .inr (.inr (.inl h2)))
            exact .some ⟨e1.symm, fun h => by rw [e1] at h; cases h⟩
        · rw [ieq_false] at h1
          have e1 : okV w (d + 1) t v c = false := bad (by rw [hg]; simp [h1])
          exact .some ⟨e1.symm, fun h => by rw [e1] at h; cases h⟩
      · rw [ieq_false] at hi
        have hg : goodVb w (d + 1) t v = (decide (v.n = 0) && (decide (v.ctor ∈ ctorsP w t) && (decide (v.kids.length = (argsP w t v.ctor).length) && ((argsP w t v.ctor).zip v.kids).all fun x => goodVb w d x.1 x.2))) := by rw [goodVb, if_neg hi]
        refine Ret.ite (fun h1 => ?_) (fun h1 => ?_)
        · rw [Bool.not_eq_true', ieq_false] at h1
          have e1 : okV w (d + 1) t v c = false := bad (by rw [hg]; simp [h1])
          exact .some ⟨e1.symm, fun h => by rw [e1] at h; cases h⟩
        rw [Bool.not_eq_false', ieq_true] at h1
        rw [hT.c2]
        simp only [Option.bind_some]
        rw [contains_int_ok]
        simp only [Option.bind_some]
        refine Ret.ite (fun h2 => ?_) (fun h2 => ?_)
        · rw [Bool.not_eq_true', decide_eq_false_iff_not] at h2
          have e1 : okV w (d + 1) t v c = false := bad (by rw [hg]; simp [h2])
          exact .some ⟨e1.symm, fun h => by rw [e1] at h; cases h⟩
        rw [Bool.not_eq_false', decide_eq_true_eq] at h2
        exact .some ⟨hi, h1, h2⟩
    · obtain ⟨s1, s2, s3⟩ := hs
      have hg : goodVb w (d + 1) t v = (decide (v.kids.length = (argsP w t v.ctor).length) && ((argsP w t v.ctor).zip v.kids).all fun x => goodVb w d x.1 x.2) := by rw [goodVb, if_neg s1]; simp [s2, s3]
      rw [hT.a2 _ s3]
      simp only [Option.bind_some]
      refine Ret.ite (fun hl => ?_) (fun hl => ?_)
      · rw [Bool.not_eq_true', ieq_false] at hl
        simp only [lenZ] at hl
        have e1 : okV w (d + 1) t v c = false := bad (by rw [hg]; simp only [Bool.and_eq_false_iff, decide_eq_false_iff_not]; left; omega)
        exact .some ⟨e1.symm, fun h => by rw [e1] at h; cases h⟩
      rw [Bool.not_eq_false', ieq_true] at hl
      simp only [lenZ] at hl
      have hcv := cntV_eq v
      refine Ret.ctl (forL_rule v.kids (fun k s => s = ((c + 1 + cntV.cntVs (v.kids.take k) : Nat) : Int) ∧ c + 1 + cntV.cntVs (v.kids.take k) ≤ 60 ∧ ∀ (j : Nat) (a : GType) (x : GValue), j < k → (argsP w t v.ctor)[j]? = some a → v.kids[j]? = some x → goodVb w d a x = true) (fun r : Bool × Int => r.1 = okV w (d + 1) t v c ∧ (okV w (d + 1) t v c = true → r.2 = ((c + cntV v : Nat) : Int))) (fun s => s = ((c + cntV v : Nat) : Int) ∧ okV w (d + 1) t v c = true) ⟨by simp [cntV.cntVs], by simp only [List.take_zero, cntV.cntVs]; omega, fun j a x hj => by omega⟩ (fun k x s hx hI => ?_) (fun s hI => ?_)) (fun r hr => .some hr) (fun s hs => .some ⟨hs.2.symm, fun _ => hs.1⟩)
      · obtain ⟨rfl, i2, i3⟩ := hI
        have hk := (List.getElem?_eq_some_iff.1 hx).1
        have ha : (argsP w t v.ctor)[k]? = some ((argsP w t v.ctor)[k]'(by omega)) := by simp
        rw [idx_ok ha]
        simp only [Option.bind_some]
        have hdd : wadd .i64 (11 - ((d + 1 : Nat) : Int)) 1 = 11 - (d : Int) := by rw [wadd_ok] <;> omega
        rw [hdd]
        refine Ret.bind (ih n _ x _ (hT.at_ _ s3 _ (List.mem_of_getElem? ha)) i2 (by omega) (by omega)) (fun r hr => ?_)
        obtain ⟨r1, r2⟩ := hr
        have htk := cntVs_take v.kids k x hx
        refine Ret.ite (fun h => ?_) (fun h => ?_)
        · rw [Bool.not_eq_true', r1] at h
          have e1 : okV w (d + 1) t v c = false := by
            simp only [okV, Bool.and_eq_false_iff, decide_eq_false_iff_not] at h ⊢
            rcases h with h | h
            · left
              rw [hg, Bool.and_eq_false_iff]
              right
              rw [List.all_eq_false]
              exact ⟨_, List.mem_of_getElem? (zip_get ha hx), by simp [h]⟩
            · right
              have := cntVs_take_le v.kids (k + 1)
              omega
          exact .some ⟨e1.symm, fun h => by rw [e1] at h; cases h⟩
        · rw [Bool.not_eq_false', r1] at h
          have r3 := r2 h
          simp only [okV, Bool.and_eq_true, decide_eq_true_eq] at h
          refine .some ⟨?_, by omega, fun j a y hj h1 h2 => ?_⟩
          · rw [r3]; omega
          · by_cases hjk : j = k
            · subst hjk
              rw [ha] at h1
              rw [hx] at h2
              cases h1
              cases h2
              exact h.1
            · exact i3 j a y (by omega) h1 h2
      · obtain ⟨rfl, i2, i3⟩ := hI
        rw [List.take_length] at i2 ⊢
        refine ⟨by omega, ?_⟩
        simp only [okV, Bool.and_eq_true, decide_eq_true_eq]
        refine ⟨?_, by omega⟩
        rw [hg]
        simp only [Bool.and_eq_true, decide_eq_true_eq, List.all_eq_true]
        refine ⟨by omega, fun y hy => ?_⟩
        obtain ⟨j, hj⟩ := List.mem_iff_getElem?.1 hy
        obtain ⟨e1, e2⟩ := List.getElem?_zip_eq_some.1 hj
        exact i3 j _ _ (List.getElem?_eq_some_iff.1 e2).1 e1 e2
theorem implValue_eq {w : List GData} (hw : WW w) {t : GType} (ht : t ∈ tys w) (v : GValue) : m_impl_valueOk NN w t v = some (validV w t v) := by
  suffices hs : Ret (m_impl_valueOk NN w t v) (fun r => r = validV w t v) by
    obtain ⟨a, e, rfl⟩ := hs
    exact e
  unfold m_impl_valueOk
  refine Ret.bind (vscanB hw 10 NN t v 0 ht (by omega) (by decide) (by omega)) (fun r hr => .some ?_)
  rw [hr.1]
  simp [okV, validV]
theorem cnt_good {w : List GData} (hw : WW w) : ∀ (d : Nat) (t : GType) (v : GValue), t ∈ tys w → goodV w d t v → 2 * cntV v + 1 ≤ 3 ^ d := by
  intro d
  induction d with
  | zero => intro t v _ h; exact h.elim
  | succ d ih =>
    intro t v ht h
    have hT := hw.ty t ht
    have hcv := cntV_eq v
    have hp : 3 ≤ 3 ^ (d + 1) := by
      have := Nat.one_le_two_pow (n := d)
      have h3 : 1 ≤ 3 ^ d := Nat.one_le_pow _ _ (by omega)
      rw [Nat.pow_succ]; omega
    simp only [goodV] at h
    split at h
    · obtain ⟨_, _, _, h4⟩ := h
      rw [h4] at hcv
      simp only [cntV.cntVs] at hcv
      omega
    · obtain ⟨_, h2, h3, h4⟩ := h
      have hal := hT.al _ h2
      have key : ∀ k, k ≤ v.kids.length → 2 * cntV.cntVs (v.kids.take k) + k ≤ k * 3 ^ d := by
        intro k
        induction k with
        | zero => intro _; simp [cntV.cntVs]
        | succ k ihk =>
          intro hk
          have hx : v.kids[k]? = some (v.kids[k]'(by omega)) := by simp
          have ha : (argsP w t v.ctor)[k]? = some ((argsP w t v.ctor)[k]'(by omega)) := by simp
          have h5 := ih _ _ (hT.at_ _ h2 _ (List.mem_of_getElem? ha)) (h4 k _ _ ha hx)
          have h6 := ihk (by omega)
          rw [cntVs_take _ _ _ hx]
          have e : (k + 1) * 3 ^ d = k * 3 ^ d + 3 ^ d := Nat.succ_mul _ _
          omega
      have h7 := key v.kids.length (Nat.le_refl _)
      rw [List.take_length] at h7
      have h8 : v.kids.length * 3 ^ d ≤ 3 * 3 ^ d := Nat.mul_le_mul_right _ (by omega)
      rw [Nat.pow_succ]
      by_cases h0 : v.kids.length = 0
      · rw [List.eq_nil_of_length_eq_zero h0] at hcv
        simp only [cntV.cntVs] at hcv
        rw [Nat.pow_succ] at hp
        omega
      · have h9 : v.kids.length = 1 ∨ v.kids.length = 2 ∨ v.kids.length = 3 := by omega
        have h3d : 1 ≤ 3 ^ d := Nat.one_le_pow _ _ (by omega)
        rcases h9 with h9 | h9 | h9 <;> rw [h9] at h7 <;> omega
theorem goodV_le {w : List GData} : ∀ (d e : Nat) (t : GType) (v : GValue), d ≤ e → goodV w d t v → goodV w e t v := by
  intro d
  induction d with
  | zero => intro e t v _ h; exact h.elim
  | succ d ih =>
    intro e t v he h
    obtain ⟨e, rfl⟩ : ∃ k, e = k + 1 := ⟨e - 1, by omega⟩
    rw [goodV] at h ⊢
    split
    · rename_i hd; rw [if_pos hd] at h; exact h
    · rename_i hd
      rw [if_neg hd] at h
      exact ⟨h.1, h.2.1, h.2.2.1, fun j a x ha hx => ih e a x (by omega) (h.2.2.2 j a x ha hx)⟩
theorem small_validV {w : List GData} (hw : WW w) {d : Nat} (hd : d ≤ 4) {t : GType} {v : GValue} (ht : t ∈ tys w) (h : goodV w d t v) : validV w t v = true := by
  have h1 := goodV_le d 4 t v hd h
  have h2 := cnt_good hw 4 t v ht h1
  simp only [validV, Bool.and_eq_true, decide_eq_true_eq]
  exact ⟨(goodVb_iff 10 t v).2 (goodV_le 4 10 t v (by omega) h1), by omega⟩
end Go.Proofs.YtnackipaoepmfaaGreat
namespace Go.Proofs.YtnackipaoepmfaaGreat
open Go Go.RowKit
def tupV (out : List (List GValue)) (l : List GValue) : List (List GValue) := out.flatMap fun q => l.map fun c => q ++ [c]
def mkV (c : Int) (ks : List GValue) : GValue := GValue.mk c 0 ks
def numV (n : Nat) : GValue := GValue.mk (-1) (n : Int) []
def valsD (w : List GData) : Nat → GType → List GValue
  | 0, _ => []
  | d + 1, t => if t.data = -1 then (List.range 10).map numV else (ctorsP w t).flatMap fun c => (((argsP w t c).map (valsD w d)).foldl tupV [[]]).map (mkV c)
theorem tupV_len (out : List (List GValue)) (l : List GValue) : (tupV out l).length = out.length * l.length := by
  induction out with
  | nil => simp [tupV]
  | cons q out ih =>
    have e : tupV (q :: out) l = (l.map fun c => q ++ [c]) ++ tupV out l := by simp [tupV]
    rw [e, List.length_append, ih, List.length_map, List.length_cons, Nat.succ_mul]
    omega
theorem tupsV_nil : ∀ (ls : List (List GValue)) (out : List (List GValue)), (out = [] ∨ [] ∈ ls) → ls.foldl tupV out = []
  | [], out, h => by
    rcases h with h | h
    · exact h
    · cases h
  | l :: ls, out, h => by
    rw [List.foldl_cons]
    refine tupsV_nil ls _ ?_
    rcases h with rfl | h
    · left; simp [tupV]
    · rcases List.mem_cons.1 h with rfl | h
      · left; simp [tupV]
      · right; exact h
theorem tupsV_ge : ∀ (ls : List (List GValue)) (out : List (List GValue)), (∀ l ∈ ls, l ≠ []) → out.length ≤ (ls.foldl tupV out).length
  | [], _, _ => Nat.le_refl _
  | l :: ls, out, h => by
    rw [List.foldl_cons]
    have h1 := tupsV_ge ls (tupV out l) fun x hx => h x (by simp [hx])
    rw [tupV_len] at h1
    have h2 : 1 ≤ l.length := List.length_pos_iff.2 (h l (by simp))
    exact Nat.le_trans (Nat.le_mul_of_pos_right _ h2) h1
theorem tupsV_take {ls : List (List GValue)} (h : ∀ l ∈ ls, l ≠ []) (k : Nat) : ((ls.take k).foldl tupV [[]]).length ≤ (ls.foldl tupV [[]]).length := by
  rw [← List.take_append_drop k ls, List.foldl_append, List.take_append_drop]
  exact tupsV_ge _ _ fun l hl => h l (List.mem_of_mem_drop hl)
theorem tupsV_next {ls : List (List GValue)} {k : Nat} {l : List GValue} (h : ls[k]? = some l) : (ls.take (k + 1)).foldl tupV [[]] = tupV ((ls.take k).foldl tupV [[]]) l := by
  rw [List.take_add_one, h]; simp
theorem tupsV_pos {ls : List (List GValue)} (h : ∀ l ∈ ls, l ≠ []) : 1 ≤ (ls.foldl tupV [[]]).length := tupsV_ge ls [[]] h
theorem tupsV_mem : ∀ (ls : List (List GValue)) (out : List (List GValue)) (ks : List GValue), ks ∈ ls.foldl tupV out →
    ∃ a b, a ∈ out ∧ ks = a ++ b ∧ b.length = ls.length ∧ ∀ (i : Nat) (q : GValue) (l : List GValue), b[i]? = some q → ls[i]? = some l → q ∈ l
  | [], out, ks, h => ⟨ks, [], by simpa using h, by simp, rfl, by simp⟩
  | l :: ls, out, ks, h => by
    rw [List.foldl_cons] at h
    obtain ⟨a, b, ha, rfl, hl, hb⟩ := tupsV_mem ls (tupV out l) ks h
    simp only [tupV, List.mem_flatMap, List.mem_map] at ha
    obtain ⟨a0, h0, c, hc, rfl⟩ := ha
    refine ⟨a0, c :: b, h0, by simp, by simp [hl], fun i q m h1 h2 => ?_⟩
    cases i with
    | zero => simp at h1 h2; subst h1 h2; exact hc
    | succ i => exact hb i q m (by simpa using h1) (by simpa using h2)
theorem vals_good {w : List GData} : ∀ (d : Nat) (t : GType) (v : GValue), v ∈ valsD w d t → goodV w d t v := by
  intro d
  induction d with
  | zero => intro t v h; simp [valsD] at h
  | succ d ih =>
    intro t v h
    rw [valsD] at h
    rw [goodV]
    split
    · rename_i hd
      rw [if_pos hd] at h
      obtain ⟨n, hn, rfl⟩ := List.mem_map.1 h
      have := List.mem_range.1 hn
      exact ⟨rfl, by simp only [numV]; omega, by simp only [numV]; omega, rfl⟩
    · rename_i hd
      rw [if_neg hd] at h
      obtain ⟨c, hc, h⟩ := List.mem_flatMap.1 h
      obtain ⟨ks, hks, rfl⟩ := List.mem_map.1 h
      obtain ⟨a, b, ha, rfl, hl, hb⟩ := tupsV_mem _ _ _ hks
      simp only [List.mem_singleton] at ha
      subst ha
      simp only [List.length_map] at hl
      refine ⟨rfl, hc, by simp [mkV, hl], fun j u x hu hx => ih u x ?_⟩
      simp only [mkV] at hu hx
      exact hb j x (valsD w d u) (by simpa using hx) (by rw [List.getElem?_map, hu]; rfl)
theorem min_mulV {a b m : Nat} : min (min a m * min b m) m = min (a * b) m := by
  rcases Nat.eq_zero_or_pos a with rfl | ha
  · simp
  rcases Nat.eq_zero_or_pos b with rfl | hb
  · simp
  rcases Nat.le_total a m with h1 | h1 <;> rcases Nat.le_total b m with h2 | h2
  · rw [Nat.min_eq_left h1, Nat.min_eq_left h2]
  · rw [Nat.min_eq_left h1, Nat.min_eq_right h2, Nat.min_eq_right, Nat.min_eq_right]
    · exact Nat.le_trans h2 (Nat.le_mul_of_pos_left _ ha)
    · exact Nat.le_mul_of_pos_left _ ha
  · rw [Nat.min_eq_right h1, Nat.min_eq_left h2, Nat.min_eq_right, Nat.min_eq_right]
    · exact Nat.le_trans h1 (Nat.le_mul_of_pos_right _ hb)
    · exact Nat.le_mul_of_pos_right _ hb
  · rw [Nat.min_eq_right h1, Nat.min_eq_right h2]
    rcases Nat.eq_zero_or_pos m with rfl | hm
    · simp
    · rw [Nat.min_eq_right (Nat.le_mul_of_pos_left _ hm), Nat.min_eq_right (Nat.le_trans h2 (Nat.le_mul_of_pos_left _ ha))]
theorem iminV_eq (a b : Nat) : imin (a : Int) (b : Int) = ((min a b : Nat) : Int) := by
  unfold imin
  split <;> omega
theorem countV_ok {w : List GData} (hw : WW w) : ∀ (d n : Nat) (t : GType), t ∈ tys w → d + 2 ≤ n → d ≤ 100 → m_impl_countValues n w t (d : Int) = some ((min (valsD w d t).length 401 : Nat) : Int) := by
  intro d
  induction d with
  | zero =>
    intro n t ht hn _
    obtain ⟨n, rfl⟩ : ∃ k, n = k + 1 := ⟨n - 1, by omega⟩
    unfold m_impl_countValues
    rw [if_pos (by simp [ieq])]
    rfl
  | succ d ih =>
    intro n t ht hn hd
    obtain ⟨n, rfl⟩ : ∃ k, n = k + 1 := ⟨n - 1, by omega⟩
    have hT := hw.ty t ht
    suffices hs : Ret (m_impl_countValues (n + 1) w t ((d + 1 : Nat) : Int)) (fun a => a = ((min (valsD w (d + 1) t).length 401 : Nat) : Int)) by
      obtain ⟨a, e, rfl⟩ := hs
      exact e
    unfold m_impl_countValues
    rw [if_neg (by rw [ieq_true]; omega)]
    have e1 : wsub .i64 ((d + 1 : Nat) : Int) 1 = (d : Int) := by rw [wsub_ok] <;> omega
    rw [e1]
    by_cases hi : t.data = -1
    · rw [if_pos (by rw [ieq_true]; exact hi)]
      refine .some ?_
      simp [valsD, hi]
    · rw [if_neg (by rw [ieq_true]; exact hi), hT.c2]
      simp only [Option.bind_some]
      have hv : valsD w (d + 1) t = (ctorsP w t).flatMap fun c => (((argsP w t c).map (valsD w d)).foldl tupV [[]]).map (mkV c) := by rw [valsD, if_neg hi]
      rw [hv]
      generalize hF : (fun c => (((argsP w t c).map (valsD w d)).foldl tupV [[]]).map (mkV c)) = F
      refine Ret.ctl (forL_rule (ctorsP w t) (fun i s => s = ((min (((ctorsP w t).take i).flatMap F).length 401 : Nat) : Int)) (fun _ => False) (fun s => s = ((min ((ctorsP w t).flatMap F).length 401 : Nat) : Int)) (by simp) (fun i c s hc hI => ?_) (fun s hI => by rw [hI, List.take_length])) (fun r hr => hr.elim) (fun s hs => .some hs)
      have hcm := List.mem_of_getElem? hc
      rw [hT.a2 _ hcm]
      simp only [Option.bind_some]
      refine Ret.ctl (forL_rule (argsP w t c) (fun k s => s = ((min ((((argsP w t c).map (valsD w d)).take k).foldl tupV [[]]).length 401 : Nat) : Int)) (fun _ => False) (fun s => s = ((min (F c).length 401 : Nat) : Int)) (by simp) (fun k a u ha hJ => ?_) (fun s hJ => ?_)) (fun r hr => hr.elim) (fun u hu => ?_)
      · rw [ih n a (hT.at_ _ hcm _ (List.mem_of_getElem? ha)) (by omega) (by omega)]
        simp only [Option.bind_some]
        refine .some ?_
        simp only [rndQ_go]
        rw [tupsV_next (l := valsD w d a) (by rw [List.getElem?_map, ha]; rfl), tupV_len, hJ]
        generalize ((((argsP w t c).map (valsD w d)).take k).foldl tupV [[]]).length = A
        generalize (valsD w d a).length = B
        have hm : min A 401 * min B 401 ≤ 401 * 401 := Nat.mul_le_mul (Nat.min_le_right _ _) (Nat.min_le_right _ _)
        have e : ((min A 401 : Nat) : Int) * ((min B 401 : Nat) : Int) = ((min A 401 * min B 401 : Nat) : Int) := by simp
        rw [wmul_ok (by rw [e]; omega) (by rw [e]; omega), e, show (401 : Int) = ((401 : Nat) : Int) from rfl, iminV_eq, min_mulV]
      · rw [hJ, List.take_of_length_le (by simp), ← hF, List.length_map]
      · refine .some ?_
        simp only [rndQ_go]
        rw [hu, hI, List.take_add_one, hc]
        simp only [Option.toList_some, List.flatMap_append, List.flatMap_cons, List.flatMap_nil, List.append_nil, List.length_append]
        generalize (((ctorsP w t).take i).flatMap F).length = A
        generalize (F c).length = B
        rw [wadd_ok (by omega) (by omega)]
        have e : ((min A 401 : Nat) : Int) + ((min B 401 : Nat) : Int) = ((min A 401 + min B 401 : Nat) : Int) := by omega
        rw [e, show (401 : Int) = ((401 : Nat) : Int) from rfl, iminV_eq]
        congr 1
        omega
theorem clone_Value (l : List GValue) (h : l.length ≤ rowLimit) : m_slices_Clone_Value l = some l := by
  unfold m_slices_Clone_Value
  rw [app_ok (by simpa using h)]
  rfl
theorem flat_take_len {α β : Type} (l : List α) (F : α → List β) (i : Nat) : ((l.take i).flatMap F).length ≤ (l.flatMap F).length := by
  conv => rhs; rw [← List.take_append_drop i l, List.flatMap_append, List.length_append]
  omega
theorem implValues_ok {w : List GData} (hw : WW w) : ∀ (d n : Nat) (t : GType), t ∈ tys w → d + 20 ≤ n → d ≤ 100 → (valsD w d t).length ≤ 400 → m_impl_values n w t (d : Int) = some (valsD w d t) := by
  intro d
  induction d with
  | zero =>
    intro n t ht hn _ _
    obtain ⟨n, rfl⟩ : ∃ k, n = k + 1 := ⟨n - 1, by omega⟩
    unfold m_impl_values
    rw [if_pos (by simp [ieq])]
    rfl
  | succ d ih =>
    intro n t ht hn hd hlen
    obtain ⟨n, rfl⟩ : ∃ k, n = k + 1 := ⟨n - 1, by omega⟩
    have hT := hw.ty t ht
    suffices hs : Ret (m_impl_values (n + 1) w t ((d + 1 : Nat) : Int)) (fun a => a = valsD w (d + 1) t) by
      obtain ⟨a, e, rfl⟩ := hs
      exact e
    unfold m_impl_values
    rw [if_neg (by rw [ieq_true]; omega)]
    have e1 : wsub .i64 ((d + 1 : Nat) : Int) 1 = (d : Int) := by rw [wsub_ok] <;> omega
    rw [e1]
    by_cases hi : t.data = -1
    · rw [if_pos (by rw [ieq_true]; exact hi)]
      have hv : valsD w (d + 1) t = (List.range 10).map numV := by rw [valsD, if_pos hi]
      rw [hv]
      refine Ret.ctl (whileL_rule (fun s : List GValue × Int => ∃ k : Nat, k ≤ 10 ∧ s = ((List.range k).map numV, (k : Int))) (fun s => (10 - s.2).toNat) (fun _ => False) (fun s => s.1 = (List.range 10).map numV) ⟨0, by omega, rfl⟩ (fun s hI => ?_) n (by simp; omega)) (fun r hr => hr.elim) (fun s hs => .some hs)
      obtain ⟨k, hk, rfl⟩ := hI
      refine Ret.ite (fun h1 => ?_) (fun h1 => ?_)
      · rw [ilt_true] at h1
        simp only [m_impl_number, Option.bind_some]
        rw [app_ok (by simp only [List.length_map, List.length_range, List.length_cons, List.length_nil, rowLimit]; omega)]
        simp only [Option.bind_some]
        have e2 : wadd .i64 (k : Int) 1 = ((k + 1 : Nat) : Int) := by rw [wadd_ok] <;> omega
        rw [e2]
        refine .some ⟨⟨k + 1, by omega, ?_⟩, by simp only; omega⟩
        rw [List.range_succ, List.map_append]; rfl
      · rw [ilt_false] at h1
        refine .some ?_
        simp only at h1
        rw [show k = 10 by omega]
        exact rfl
    · rw [if_neg (by rw [ieq_true]; exact hi), hT.c2]
      simp only [Option.bind_some]
      have hv : valsD w (d + 1) t = (ctorsP w t).flatMap fun c => (((argsP w t c).map (valsD w d)).foldl tupV [[]]).map (mkV c) := by rw [valsD, if_neg hi]
      rw [hv] at hlen ⊢
      generalize hF : (fun c => (((argsP w t c).map (valsD w d)).foldl tupV [[]]).map (mkV c)) = F at *
      refine Ret.ctl (forL_rule (ctorsP w t) (fun i s => s = ((ctorsP w t).take i).flatMap F) (fun _ => False) (fun s => s = (ctorsP w t).flatMap F) (by simp) (fun i c s hc hI => ?_) (fun s hI => by rw [hI, List.take_length])) (fun r hr => hr.elim) (fun s hs => .some hs)
      have hcm := List.mem_of_getElem? hc
      have hFc : F c = (((argsP w t c).map (valsD w d)).foldl tupV [[]]).map (mkV c) := by rw [← hF]
      have hnext : ((ctorsP w t).take (i + 1)).flatMap F = ((ctorsP w t).take i).flatMap F ++ F c := by
        rw [List.take_add_one, hc]; simp
      have hle := flat_take_len (ctorsP w t) F (i + 1)
      rw [hnext, List.length_append] at hle
      have hat := hT.at_ _ hcm
      have hal := hT.al _ hcm
      refine Ret.bind (P := CtlQ (fun r : Ctl (List GValue) (List GValue) => RndQ (fun _ => False) (fun s => s = (ctorsP w t).flatMap F) (fun s => s = ((ctorsP w t).take (i + 1)).flatMap F) r) (fun s => s = ((ctorsP w t).take (i + 1)).flatMap F)) ?_ (fun o ho => ?_)
      · rw [hT.a2 _ hcm]
        simp only [Option.bind_some]
        have hcf : m_slices_ContainsFunc_Type (argsP w t c) (fun a0 => m_impl_values_1 n a0 w ((d + 1 : Nat) : Int)) = some ((argsP w t c).any fun a => decide ((valsD w d a).length = 0)) := by
          refine containsF_Type _ _ _ fun a ha => ?_
          unfold m_impl_values_1
          rw [e1, countV_ok hw d n a (hat _ ha) (by omega) (by omega)]
          simp only [Option.bind_some, ieq]
          congr 1
          by_cases h0 : (valsD w d a).length = 0
          · simp [h0]
          · rw [decide_eq_false h0, decide_eq_false]; omega
        rw [hcf]
        simp only [Option.bind_some]
        cases hany : (argsP w t c).any fun a => decide ((valsD w d a).length = 0) with
        | true =>
          simp only [if_true]
          refine .some ?_
          simp only [ctlQ_brk]
          rw [hnext, hI]
          obtain ⟨a, ha, h0⟩ := List.any_eq_true.1 hany
          simp only [decide_eq_true_eq] at h0
          have : F c = [] := by
            rw [hFc, tupsV_nil _ _ (.inr (List.mem_map.2 ⟨a, ha, List.eq_nil_of_length_eq_zero h0⟩))]; rfl
          rw [this, List.append_nil]
        | false =>
          simp only [Bool.false_eq_true, if_false]
          have hne : ∀ l ∈ (argsP w t c).map (valsD w d), l ≠ [] := fun l hl e => by
            obtain ⟨a, ha, rfl⟩ := List.mem_map.1 hl
            have := List.any_eq_false.1 hany a ha
            simp [e] at this
          have hlenF : (F c).length = (((argsP w t c).map (valsD w d)).foldl tupV [[]]).length := by rw [hFc, List.length_map]
          refine Ret.ctl (forL_rule (argsP w t c) (fun k s => s = ((((argsP w t c).map (valsD w d)).take k).foldl tupV [[]]).map (mkV c)) (fun _ => False) (fun s => s = F c) (by simp [mkV]) (fun k a u ha hJ => ?_) (fun s hJ => by rw [hJ, List.take_of_length_le (by simp), hFc])) (fun r hr => hr.elim) (fun u hu => ?_)
          · have hk1 := tupsV_take hne (k + 1)
            have hk0 := tupsV_take hne k
            have hg : ((argsP w t c).map (valsD w d))[k]? = some (valsD w d a) := by rw [List.getElem?_map, ha]; rfl
            have hp : 1 ≤ ((((argsP w t c).map (valsD w d)).take k).foldl tupV [[]]).length := tupsV_pos fun l hl => hne l (List.mem_of_mem_take hl)
            have ha1 : 1 ≤ (valsD w d a).length := List.length_pos_iff.2 (hne _ (List.mem_of_getElem? hg))
            rw [tupsV_next hg, tupV_len] at hk1
            have hva : (valsD w d a).length ≤ 400 := by
              have := Nat.le_mul_of_pos_left (valsD w d a).length hp
              omega
            rw [ih n a (hat _ (List.mem_of_getElem? ha)) (by omega) (by omega) hva]
            simp only [Option.bind_some]
            rw [tupsV_next hg]
            have hkl : ∀ ks ∈ (((argsP w t c).map (valsD w d)).take k).foldl tupV [[]], ks.length ≤ 3 := fun ks hks => by
              obtain ⟨x, y, hx, rfl, hl, _⟩ := tupsV_mem _ _ _ hks
              simp only [List.mem_singleton] at hx
              subst hx
              simp only [List.length_take, List.length_map] at hl
              simp only [List.nil_append]
              omega
            generalize ((((argsP w t c).map (valsD w d)).take k).foldl tupV [[]]) = T at *
            generalize valsD w d a = L at *
            refine Ret.ctl (forL_rule u (fun j z => z = (tupV (T.take j) L).map (mkV c)) (fun _ => False) (fun z => z = (tupV T L).map (mkV c)) (by simp [tupV]) (fun j x z hx hK => ?_) (fun z hK => by rw [hK, hJ, List.length_map, List.take_length])) (fun r hr => hr.elim) (fun z hz => .some hz)
            rw [hJ, List.getElem?_map] at hx
            obtain ⟨ks, hks, rfl⟩ := Option.map_eq_some_iff.1 hx
            have hjl := (List.getElem?_eq_some_iff.1 hks).1
            have hks3 := hkl ks (List.mem_of_getElem? hks)
            have hnj : tupV (T.take (j + 1)) L = tupV (T.take j) L ++ L.map (fun c => ks ++ [c]) := by
              rw [List.take_add_one, hks]; simp [tupV]
            rw [hnj]
            refine Ret.ctl (forL_rule L (fun i v => v = (tupV (T.take j) L ++ (L.take i).map (fun c => ks ++ [c])).map (mkV c)) (fun _ => False) (fun v => v = (tupV (T.take j) L ++ L.map (fun c => ks ++ [c])).map (mkV c)) (by simp [hK]) (fun i y v hy hM => ?_) (fun v hM => by rw [hM, List.take_length])) (fun r hr => hr.elim) (fun v hv => .some hv)
            simp only [mkV]
            rw [clone_Value _ (by simp only [rowLimit]; omega)]
            simp only [Option.bind_some]
            rw [app_ok (by simp only [rowLimit, List.length_cons, List.length_nil]; omega)]
            simp only [Option.bind_some]
            have hil := (List.getElem?_eq_some_iff.1 hy).1
            have hvl : v.length ≤ 1000 * 1000 + 1000 := by
              rw [hM, List.length_map, List.length_append, tupV_len, List.length_map, List.length_take, List.length_take]
              have := Nat.mul_le_mul (show min j T.length ≤ 1000 by omega) (show L.length ≤ 1000 by omega)
              omega
            rw [app_ok (by simp only [rowLimit, List.length_cons, List.length_nil]; omega)]
            refine .some ?_
            simp only [rndQ_go]
            rw [hM, List.take_add_one, hy]
            simp [mkV]
          · have hsl : s.length ≤ 400 := by rw [hI]; omega
            dsimp only
            rw [app_ok (by rw [hu]; simp only [rowLimit]; omega)]
            simp only [Option.bind_some]
            exact .some (by simp only [ctlQ_brk]; rw [hnext, hI, hu])
      · cases o with
        | ret r => exact .some ho
        | brk s => exact .some ho
        | go s => exact ho.elim
theorem implUpTo_eq {w : List GData} (hw : WW w) {t : GType} (ht : t ∈ tys w) {d : Nat} (hd : d ≤ 4) : m_impl_ValuesUpTo NN w t (d : Int) = some (if (valsD w d t).length ≤ 400 then (valsD w d t, true) else ([], false)) := by
  suffices hs : Ret (m_impl_ValuesUpTo NN w t (d : Int)) (fun r => r = if (valsD w d t).length ≤ 400 then (valsD w d t, true) else ([], false)) by
    obtain ⟨a, e, rfl⟩ := hs
    exact e
  unfold m_impl_ValuesUpTo
  rw [implTV_ok hw ht]
  simp only [Option.bind_some, Bool.not_true, Bool.false_eq_true, if_false]
  rw [within_ok]
  have e0 : (decide ((0 : Int) ≤ (d : Int)) && decide ((d : Int) ≤ 4)) = true := by simp only [Bool.and_eq_true, decide_eq_true_eq]; omega
  rw [e0]
  simp only [Option.bind_some, Bool.not_true, Bool.false_eq_true, if_false]
  rw [countV_ok hw d NN t ht (by simp only [NN]; omega) (by omega)]
  simp only [Option.bind_some]
  refine Ret.ite (fun h => ?_) (fun h => ?_)
  · rw [ilt_true] at h
    rw [if_neg (by omega)]
    exact .some rfl
  · rw [ilt_false] at h
    have hl : (valsD w d t).length ≤ 400 := by omega
    rw [if_pos hl, implValues_ok hw d NN t ht (by simp only [NN]; omega) (by omega) hl]
    simp only [Option.bind_some]
    refine Ret.ctl (forL_rule (valsD w d t) (fun i s => s = (valsD w d t).take i) (fun _ => False) (fun s => s = valsD w d t) (by simp) (fun i v s hv hI => ?_) (fun s hI => by rw [hI, List.take_length])) (fun r hr => hr.elim) (fun s hs => .some (by rw [hs]))
    have hg := vals_good d t v (List.mem_of_getElem? hv)
    rw [ownValue_ok d NN v (good_deepV hw d t v ht hg) (by simp only [NN]; omega)]
    simp only [Option.bind_some]
    rw [app_ok (by rw [hI]; simp only [List.length_take, List.length_cons, List.length_nil, rowLimit]; omega)]
    refine .some ?_
    simp only [rndQ_go]
    rw [hI, List.take_add_one, hv]
    rfl
theorem implUpTo_valid {w : List GData} (hw : WW w) {t : GType} (ht : t ∈ tys w) {d : Int} (h1 : 1 ≤ d) (h3 : d ≤ 3) : ∃ r, m_impl_ValuesUpTo NN w t d = some r ∧ r.1.length ≤ 400 ∧ ∀ v ∈ r.1, validV w t v = true ∧ goodV w 4 t v := by
  obtain ⟨k, rfl⟩ : ∃ k : Nat, d = (k : Int) := ⟨d.toNat, by omega⟩
  refine ⟨_, implUpTo_eq hw ht (by omega), ?_, fun v hv => ?_⟩
  · split
    · assumption
    · simp
  · split at hv
    · have hg := vals_good k t v hv
      exact ⟨small_validV hw (by omega) ht hg, goodV_le k 4 t v (by omega) hg⟩
    · cases hv
end Go.Proofs.YtnackipaoepmfaaGreat
namespace Go.Proofs.YtnackipaoepmfaaGreat
open Go Go.RowKit
theorem len0 (n : Nat) : ieq (lenZ n) 0 = decide (n = 0) := by
  by_cases h : n = 0
  · subst h; rfl
  · rw [decide_eq_false h, ieq_false]; simp only [lenZ]; omega
theorem rem3 (n : Nat) : ∃ d : Int, wadd .i64 1 (wrem (lenZ n) 3) = d ∧ 1 ≤ d ∧ d ≤ 3 := by
  refine ⟨_, rfl, ?_⟩
  have e : wrem (lenZ n) 3 = ((n % 3 : Nat) : Int) := by
    show Int.tmod _ _ = _
    simp only [lenZ]
    rw [Int.tmod_eq_emod_of_nonneg (by omega)]
    omega
  rw [e, wadd_ok (by omega) (by omega)]
  omega
theorem clauses_pats {w : List GData} {t : GType} {cs : List GClause} (h : clausesB w t cs = true) : cs.length ≤ 8 ∧ ∀ c ∈ cs, validP w t c.pat = true := by
  simp only [clausesB, Bool.and_eq_true, decide_eq_true_eq, List.all_eq_true] at h
  refine ⟨h.1, fun c hc => ?_⟩
  have := h.2 c hc
  simp only [clauseB, Bool.and_eq_true] at this
  exact this.1
def runC (w : List GData) (t : GType) (l : List GClause) (v : GValue) : Int × List GBind × Bool :=
  if (clausesB w t l && validV w t v) = true then ((runR (runD v 0 l)).1, (runR (runD v 0 l)).2, true) else (-1, [], false)
theorem implRunC {w : List GData} (hw : WW w) {t : GType} (ht : t ∈ tys w) (l : List GClause) (v : GValue) : m_impl_RunClauses NN w t l v = some (runC w t l v) := by
  unfold m_impl_RunClauses runC
  rw [implClauses_ok hw ht l]
  simp only [Option.bind_some]
  cases hc : clausesB w t l with
  | false => simp
  | true =>
    simp only [Bool.not_true, Bool.false_eq_true, if_false, Bool.true_and]
    rw [implValue_eq hw ht v]
    simp only [Option.bind_some]
    cases hv : validV w t v with
    | false => simp
    | true =>
      simp only [Bool.not_true, Bool.false_eq_true, if_false, if_true]
      rw [implRun_eq hw ht (clauses_pats hc).2 (valid_goodV hv) (by omega)]
      rfl
theorem runC_ok {w : List GData} {t : GType} {l : List GClause} {v : GValue} (hc : clausesB w t l = true) (hv : validV w t v = true) : runC w t l v = ((runR (runD v 0 l)).1, (runR (runD v 0 l)).2, true) := by
  unfold runC
  rw [hc, hv]; rfl
theorem runR_fst (o : Option (Nat × List GBind)) : (0 ≤ (runR o).1) ↔ o.isSome = true := by
  cases o with
  | none => simp [runR]
  | some x => simp [runR]
theorem runD_no {v : GValue} : ∀ {cs : List GClause} {k : Nat}, runD v k cs = none → ∀ c ∈ cs, ∀ b, matchD 10 c.pat v = some b → guardV c.guard b = false
  | [], _, _, _, h => by cases h
  | c :: cs, k, h, x, hx => by
    simp only [runD] at h
    intro b hb
    cases hm : matchD 10 c.pat v with
    | none =>
      rw [hm] at h
      rcases List.mem_cons.1 hx with rfl | hx
      · rw [hm] at hb; cases hb
      · exact runD_no h x hx b hb
    | some l =>
      rw [hm] at h
      simp only at h
      split at h
      · cases h
      · rename_i hg
        rcases List.mem_cons.1 hx with rfl | hx
        · rw [hm] at hb; cases hb; simpa using hg
        · exact runD_no h x hx b hb
theorem runD_fits {v : GValue} {cs : List GClause} {k : Nat} {c : GClause} (hc : c ∈ cs) (h0 : c.guard.op = 0) (hm : (matchD 10 c.pat v).isSome = true) : (runD v k cs).isSome = true := by
  cases h : runD v k cs with
  | some x => rfl
  | none =>
    obtain ⟨b, hb⟩ := Option.isSome_iff_exists.1 hm
    have := runD_no h c hc b hb
    simp [guardV, h0] at this
end Go.Proofs.YtnackipaoepmfaaGreat
namespace Go.Proofs.YtnackipaoepmfaaGreat
open Go Go.RowKit
theorem list4_ok {w : List GData} (hw : WW w) {r : Gl17Rd} {t : GType} (ht : t ∈ tys w) (h : ROk r 2600) : Ret (m_spec_l4List NN r w t) (fun a => (∀ c ∈ a.1, validP w t c.pat = true) ∧ a.1.length ≤ 5 ∧ Nx r a.2 2600) := by
  unfold m_spec_l4List
  refine Ret.bind (num_ok (h.le (by omega)) [3, 2, 4, 5, 1, 0] (by simp) (by simp)) (fun a ha => ?_)
  have hr1 : ROk a.2 2599 := ROk.nx (c := 1) h ha.2
  have hd : 0 ≤ a.1 ∧ a.1 ≤ 5 := by
    have := ha.1
    simp at this
    omega
  refine Ret.ctl (whileL_rule (fun s => 0 ≤ s.2.2 ∧ s.2.2 ≤ 5 ∧ (s.2.1.length : Int) + s.2.2 = a.1 ∧ (∀ c ∈ s.2.1, validP w t c.pat = true) ∧ Nx a.2 s.1 (s.2.1.length * 500)) (fun s => s.2.2.toNat) (fun _ => False) (fun s => s.2.1.length ≤ 5 ∧ (∀ c ∈ s.2.1, validP w t c.pat = true) ∧ Nx a.2 s.1 2500)
    ⟨hd.1, hd.2, by simp, by simp, by simpa using Nx.refl a.2⟩ (fun s hI => ?_) NN (by have := hd; show (a.1).toNat < 30000000; omega)) (fun r hr => hr.elim) (fun s hs => .some ⟨hs.2.1, hs.1, (ha.2.trans hs.2.2).le' (by omega)⟩)
  obtain ⟨i1, i2, i3, i4, i5⟩ := hI
  refine Ret.ite (fun h => ?_) (fun h => ?_)
  · rw [ilt_true] at h
    have hr2 : ROk s.1 500 := ROk.nx (c := s.2.1.length * 500) (hr1.le (by omega)) i5
    refine Ret.bind (clause4_ok hw ht hr2) (fun b hb => ?_)
    rw [app_ok (by simp only [rowLimit, List.length_cons, List.length_nil]; omega)]
    have hws : wsub .i64 s.2.2 1 = s.2.2 - 1 := wsub_ok (by omega) (by omega)
    simp only [Option.bind_some]
    rw [hws]
    refine .some ⟨⟨by simp only; omega, by simp only; omega, by simp; omega, fun c hc => ?_, ?_⟩, by simp only; omega⟩
    · rcases List.mem_append.1 hc with hc | hc
      · exact i4 c hc
      · simp at hc; subst hc; exact hb.1
    · have := i5.trans hb.2
      simp only [List.length_append, List.length_cons, List.length_nil]
      exact this.le' (by omega)
  · exact .some ⟨by simp only; omega, i4, i5.le' (by omega)⟩
theorem typed4_ok {r : Gl17Rd} (h : ROk r 5000) : Ret (m_spec_l4Typed NN r) (fun a => a.1 ∈ worlds ∧ a.2.1 ∈ tys a.1 ∧ (∀ c ∈ a.2.2.1, validP a.1 a.2.1 c.pat = true) ∧ a.2.2.1.length ≤ 5 ∧ Nx r a.2.2.2.2 4000) := by
  unfold m_spec_l4Typed
  refine Ret.bind (typed2_ok (h.le (by omega))) (fun a ha => ?_)
  obtain ⟨h1, h2, h3⟩ := ha
  refine Ret.bind (list4_ok (ww h1) h2 (ROk.nx (c := 500) (h.le (by omega)) h3)) (fun b hb => ?_)
  exact .some ⟨h1, h2, hb.1, hb.2.1, (h3.trans hb.2.2).le' (by omega)⟩
theorem missing_ok (code : List Int) (hb : ∀ x ∈ code, 0 ≤ x ∧ x ≤ 255) : Ret (m_spec_DrawMissingPatterns NN code) (fun a => a.1 ∈ worlds ∧ a.2.1 ∈ tys a.1 ∧ a.2.2.length ≤ 9) := by
  unfold m_spec_DrawMissingPatterns
  refine Ret.bind (open_ok code hb) (fun r hr => ?_)
  refine Ret.bind (typed4_ok (hr.le (by omega))) (fun a ha => ?_)
  obtain ⟨h1, h2, h3, h4, h5⟩ := ha
  have hr1 : ROk a.2.2.2.2 1000 := ROk.nx (c := 4000) (hr.le (by omega)) h5
  refine Ret.ctl (R := fun _ => False) (B := fun (s : Gl17Rd × List GClause) => ROk s.1 100 ∧ s.2.length ≤ 8 ∧ ∀ c ∈ s.2, c.pat.kids.length ≤ 100) ?_ (fun r hr => hr.elim) (fun s hs => ?_)
  · have hk : ∀ c ∈ a.2.2.1, c.pat.kids.length ≤ 100 := fun c hc => by have := valid_kids (ww h1) h2 (h3 c hc); omega
    refine Ret.ite (fun _ => ?_) (fun _ => .some ⟨hr1.le (by omega), by simp only; omega, hk⟩)
    refine Ret.bind (pick_ok (hr1.le (by omega)) (by omega) (by omega)) (fun b hb => ?_)
    have hr2 : ROk b.2 999 := ROk.nx (c := 1) hr1 hb.2.2
    refine Ret.ite (fun _ => ?_) (fun _ => .some ⟨hr2.le (by omega), by simp only; omega, hk⟩)
    simp only [m_spec_l5Any, Option.bind_some]
    rw [app_ok (by simp [rowLimit]; omega)]
    refine .some ⟨hr2.le (by omega), by simp; omega, fun c hc => ?_⟩
    rcases List.mem_append.1 hc with hc | hc
    · exact hk c hc
    · simp at hc; subst hc; simp
  · refine Ret.bind (mutate4_ok (hs.1.le (by omega)) s.2 hs.2.1 hs.2.2) (fun b hb => .some ⟨h1, h2, hb.1⟩)
end Go.Proofs.YtnackipaoepmfaaGreat
namespace Go.Proofs.YtnackipaoepmfaaGreat
open Go Go.RowKit
def exD (w : List GData) (t : GType) (cs : List GClause) : Bool × Bool := match missD w t cs with
  | none => (false, false)
  | some r => (decide (r.length = 0), true)
theorem implExh {w : List GData} (hww : w ∈ worlds) {t : GType} (ht : t ∈ tys w) (cs : List GClause) : m_impl_Exhaustive NN w t cs = some (exD w t cs) := by
  unfold m_impl_Exhaustive exD
  rw [implMissing_ok hww (ww hww) (we hww) ht cs]
  cases missD w t cs with
  | none => rfl
  | some r =>
    simp only [Option.bind_some, optR, if_true, len0]
theorem specExh {w : List GData} (hww : w ∈ worlds) {t : GType} (ht : t ∈ tys w) (cs : List GClause) : m_spec_Exhaustive NN w t cs = some (exD w t cs) := by
  unfold m_spec_Exhaustive exD
  rw [specMissing_ok hww (ww hww) (we hww) ht cs]
  cases missD w t cs with
  | none => rfl
  | some r =>
    simp only [Option.bind_some, optR, if_true, len0]
theorem miss_valid {w : List GData} {t : GType} {cs : List GClause} {r : List GPattern} (h : missD w t cs = some r) : clausesB w t cs = true := by
  unfold missD at h
  split at h
  · assumption
  · cases h
theorem ex_valid {w : List GData} {t : GType} {cs : List GClause} (h : (exD w t cs).2 = true) : clausesB w t cs = true := by
  unfold exD at h
  cases hm : missD w t cs with
  | none => rw [hm] at h; cases h
  | some r => exact miss_valid hm
theorem ex_fits {w : List GData} (hww : w ∈ worlds) {t : GType} (ht : t ∈ tys w) {cs : List GClause} (h : (exD w t cs).1 = true) {e : Nat} {v : GValue} (hv : goodV w e t v) (k : Nat) : (runD v k cs).isSome = true := by
  unfold exD at h
  cases hm : missD w t cs with
  | none => rw [hm] at h; cases h
  | some r =>
    rw [hm] at h
    simp only [decide_eq_true_eq] at h
    have h1 := miss_fit (ww hww) (we hww) ht hv hm
    rw [List.eq_nil_of_length_eq_zero h] at h1
    have h2 : ¬ ∀ c ∈ cs, c.guard.op = 0 → matchD 10 c.pat v = none := fun h3 => by
      obtain ⟨y, hy, _⟩ := h1.2 h3
      cases hy
    have h4 : ∃ c ∈ cs, c.guard.op = 0 ∧ (matchD 10 c.pat v).isSome = true := by
      refine Classical.byContradiction fun hn => h2 fun c hc h0 => ?_
      cases hmc : matchD 10 c.pat v with
      | none => rfl
      | some b => exact absurd ⟨c, hc, h0, by rw [hmc]; rfl⟩ hn
    obtain ⟨c, hc, h0, h5⟩ := h4
    exact runD_fits hc h0 h5
theorem law_exhaustive (code more : List Int) (hb : ∀ x ∈ code, 0 ≤ x ∧ x ≤ 255) : m_laws_FnExhaustive NN code more = some true := by
  suffices hr : Ret (m_laws_FnExhaustive NN code more) (fun r => r = true) by
    obtain ⟨_, e, rfl⟩ := hr
    exact e
  unfold m_laws_FnExhaustive
  refine Ret.ite (fun _ => .some rfl) (fun _ => ?_)
  refine Ret.ite (fun _ => .some rfl) (fun _ => ?_)
  refine Ret.bind (P := fun a => a.1 ∈ worlds ∧ a.2.1 ∈ tys a.1) ?_ (fun a ha => ?_)
  · unfold m_spec_DrawExhaustive
    exact Ret.bind (missing_ok code hb) (fun a ha => .some ⟨ha.1, ha.2.1⟩)
  obtain ⟨w, t, cs⟩ := a
  obtain ⟨hww, ht⟩ := ha
  simp only at hww ht ⊢
  have hw := ww hww
  rw [implExh hww ht, specExh hww ht]
  simp only [Option.bind_some, beq_self_eq_true, Bool.not_true, Bool.false_eq_true, if_false, if_true]
  refine Ret.ite (fun _ => .some rfl) (fun hall => ?_)
  rw [Bool.not_eq_false'] at hall
  obtain ⟨d, hd, d1, d3⟩ := rem3 more.length
  rw [hd]
  obtain ⟨vs, hvs, _, hvv⟩ := implUpTo_valid hw ht d1 d3
  rw [hvs]
  simp only [Option.bind_some]
  have hcl : clausesB w t cs = true := by
    unfold exD at hall
    cases hm : missD w t cs with
    | none => rw [hm] at hall; cases hall
    | some r => exact miss_valid hm
  refine Ret.ctl (forL_rule vs.1 (fun _ _ => True) (fun _ => False) (fun _ => True) trivial (fun k v u hv _ => ?_) (fun _ _ => trivial)) (fun r hr => hr.elim) (fun _ _ => .some rfl)
  obtain ⟨h1, h2⟩ := hvv v (List.mem_of_getElem? hv)
  rw [implRunC hw ht cs v, runC_ok hcl h1]
  simp only [Option.bind_some, Bool.not_true, Bool.false_eq_true, if_false]
  have h3 := (runR_fst (runD v 0 cs)).2 (ex_fits hww ht hall h2 0)
  rw [if_neg (by rw [ilt_true]; omega)]
  exact .some trivial
end Go.Proofs.YtnackipaoepmfaaGreat
namespace Go.Proofs.YtnackipaoepmfaaGreat
open Go Go.RowKit
def anyC0 : GClause := ⟨GPattern.mk 1 0 0 0 0 [], ⟨0, 0, 0⟩⟩
theorem equalF_refl (l : List GClause) (f : GClause → GClause → Option Bool) (h : ∀ c ∈ l, f c c = some true) : m_slices_EqualFunc_Clause l l f = some true := by
  suffices hr : Ret (m_slices_EqualFunc_Clause l l f) (fun r => r = true) by
    obtain ⟨_, e, rfl⟩ := hr
    exact e
  unfold m_slices_EqualFunc_Clause
  have e : (!ieq (lenZ l.length) (lenZ l.length)) = false := by simp [ieq]
  simp only [e, Bool.false_eq_true, if_false]
  refine Ret.ctl (forL_rule l (fun _ _ => True) (fun _ => False) (fun _ => True) trivial (fun k c u hc _ => ?_) (fun _ _ => trivial)) (fun r hr => hr.elim) (fun _ _ => .some rfl)
  rw [idx_ok hc]
  simp only [Option.bind_some]
  rw [h c (List.mem_of_getElem? hc)]
  exact .some trivial
theorem clausesSame_refl {l : List GClause} (h : ∀ c ∈ l, deepP 10 c.pat) : m_impl_ClausesSame NN l l = some true := by
  unfold m_impl_ClausesSame
  rw [equalF_refl l _ fun c hc => by
    unfold m_impl_ClausesSame_1
    obtain ⟨r, e, hr⟩ := implSame_ok 10 NN c.pat c.pat (h c hc) (by decide)
    rw [e, hr.2 rfl]
    simp [eqAll, ieq]]
  rfl
theorem valid_deep {w : List GData} {t : GType} {l : List GClause} (h : ∀ c ∈ l, validP w t c.pat = true) : ∀ c ∈ l, deepP 10 c.pat := fun c hc => good_deep 10 t c.pat (valid_good (h c hc)).1
theorem ownClauses_ok {w : List GData} {t : GType} {l : List GClause} (h : ∀ c ∈ l, validP w t c.pat = true) (hl : l.length ≤ 1000) : m_impl_ownClauses NN l = some l := by
  suffices hr : Ret (m_impl_ownClauses NN l) (fun r => r = l) by
    obtain ⟨_, e, rfl⟩ := hr
    exact e
  unfold m_impl_ownClauses
  refine Ret.ctl (forL_rule l (fun i s => s = l.take i) (fun _ => False) (fun s => s = l) (by simp) (fun i c s hc hI => ?_) (fun s hI => by rw [hI, List.take_length])) (fun r hr => hr.elim) (fun s hs => .some hs)
  obtain ⟨g, c1, _⟩ := valid_good (h c (List.mem_of_getElem? hc))
  rw [implOwn_ok 10 NN c.pat (good_deep 10 t c.pat g) (by decide) (by omega)]
  simp only [Option.bind_some]
  rw [app_ok (by rw [hI]; simp only [List.length_take, List.length_cons, List.length_nil, rowLimit]; omega)]
  exact .some (by simp only [rndQ_go]; rw [hI, List.take_add_one, hc]; cases c; rfl)
theorem allClauses_ok {w : List GData} {t : GType} {l : List GClause} (h : ∀ c ∈ l, validP w t c.pat = true) (hl : l.length ≤ 1000) : m_spec_l11All NN l = some l := by
  suffices hr : Ret (m_spec_l11All NN l) (fun r => r = l) by
    obtain ⟨_, e, rfl⟩ := hr
    exact e
  unfold m_spec_l11All
  refine Ret.ctl (forL_rule l (fun i s => s = l.take i) (fun _ => False) (fun s => s = l) (by simp) (fun i c s hc hI => ?_) (fun s hI => by rw [hI, List.take_length])) (fun r hr => hr.elim) (fun s hs => .some hs)
  obtain ⟨g, c1, _⟩ := valid_good (h c (List.mem_of_getElem? hc))
  rw [specCopy_ok 10 NN c.pat (good_deep 10 t c.pat g) (by decide) (by omega)]
  simp only [Option.bind_some]
  rw [app_ok (by rw [hI]; simp only [List.length_take, List.length_cons, List.length_nil, rowLimit]; omega)]
  exact .some (by simp only [rndQ_go]; rw [hI, List.take_add_one, hc]; cases c; rfl)
def closedD (w : List GData) (t : GType) (cs : List GClause) : List GClause × Bool :=
  if (exD w t cs).2 = true then (if (exD w t cs).1 = true then (cs, true) else if cs.length = 8 then ([], false) else (cs ++ [anyC0], true)) else ([], false)
theorem implClosed {w : List GData} (hww : w ∈ worlds) {t : GType} (ht : t ∈ tys w) (cs : List GClause) : m_impl_ClosedClauses NN w t cs = some (closedD w t cs) := by
  unfold m_impl_ClosedClauses closedD
  rw [implExh hww ht]
  simp only [Option.bind_some]
  cases h2 : (exD w t cs).2 with
  | false => simp
  | true =>
    obtain ⟨hl, hv⟩ := clauses_pats (ex_valid h2)
    simp only [Bool.not_true, Bool.false_eq_true, if_false, if_true]
    rw [ownClauses_ok hv (by omega)]
    simp only [Option.bind_some]
    cases h1 : (exD w t cs).1 with
    | true =>
      simp only [Bool.not_true, Bool.false_eq_true, if_false, if_true, Option.bind_some]
      rw [if_neg (by rw [ilt_true]; simp only [lenZ]; omega)]
    | false =>
      simp only [Bool.not_false, Bool.false_eq_true, if_false, if_true, m_impl_anyPattern, Option.bind_some]
      rw [app_ok (by simp only [List.length_cons, List.length_nil, rowLimit]; omega)]
      simp only [Option.bind_some]
      by_cases h8 : cs.length = 8
      · rw [if_pos (by rw [ilt_true]; simp only [lenZ, List.length_append, List.length_cons, List.length_nil]; omega), if_pos h8]
      · rw [if_neg (by rw [ilt_true]; simp only [lenZ, List.length_append, List.length_cons, List.length_nil]; omega), if_neg h8]
        rfl
theorem specClosed {w : List GData} (hww : w ∈ worlds) {t : GType} (ht : t ∈ tys w) (cs : List GClause) : m_spec_ClosedClauses NN w t cs = some (closedD w t cs) := by
  unfold m_spec_ClosedClauses closedD
  rw [specExh hww ht]
  simp only [Option.bind_some]
  cases h2 : (exD w t cs).2 with
  | false => simp
  | true =>
    obtain ⟨hl, hv⟩ := clauses_pats (ex_valid h2)
    simp only [Bool.not_true, Bool.false_eq_true, if_false, if_true]
    cases h1 : (exD w t cs).1 with
    | true =>
      simp only [Bool.not_true, Bool.false_eq_true, if_false, if_true, Option.bind_some]
      rw [allClauses_ok hv (by omega)]
      simp
    | false =>
      simp only [Bool.not_false, Bool.false_eq_true, if_false, if_true]
      by_cases h8 : cs.length = 8
      · rw [if_pos (by rw [ieq_true]; simp only [lenZ]; omega), if_pos h8]
        rfl
      · rw [if_neg (by rw [ieq_true]; simp only [lenZ]; omega), if_neg h8]
        simp only [Option.bind_some]
        rw [allClauses_ok hv (by omega)]
        simp only [m_spec_l5Any, Option.bind_some]
        rw [app_ok (by simp only [List.length_cons, List.length_nil, rowLimit]; omega)]
        rfl
theorem cover_append : ∀ (a b : List GClause), coverD (a ++ b) = (coverD a).bind fun l => (coverD b).map (l ++ ·)
  | [], b => by
    simp only [List.nil_append, coverD, Option.bind_some]
    cases coverD b <;> rfl
  | c :: a, b => by
    simp only [List.cons_append, coverD]
    rw [cover_append a b]
    split
    · cases partsD c.pat with
      | none => rfl
      | some l =>
        simp only [Option.bind_some]
        cases coverD a with
        | none => rfl
        | some m =>
          simp only [Option.bind_some, Option.map_some]
          cases coverD b <;> simp
    · rfl
theorem away_append {w : List GData} {d x : Nat} {t : GType} : ∀ (a b l : List GPattern), awayD w d x t l (a ++ b) = (awayD w d x t l a).bind fun r => awayD w d x t r b
  | [], b, l => rfl
  | p :: a, b, l => by
    simp only [List.cons_append, awayD]
    split
    · rfl
    · exact away_append a b _
theorem runD_append (v : GValue) : ∀ (a b : List GClause) (k : Nat), runD v k (a ++ b) = match runD v k a with
    | some x => some x
    | none => runD v (k + a.length) b
  | [], b, k => by simp [runD]
  | c :: a, b, k => by
    simp only [List.cons_append, runD]
    rw [runD_append v a b (k + 1), show k + 1 + a.length = k + (c :: a).length by simp only [List.length_cons]; omega]
    cases matchD 10 c.pat v with
    | none => rfl
    | some l =>
      simp only
      split <;> rfl
theorem parts_any : partsD (GPattern.mk 1 0 0 0 0 []) = some [GPattern.mk 1 0 0 0 0 []] := by
  have : splitD 10 (bareD 10 (GPattern.mk 1 0 0 0 0 [])) = [GPattern.mk 1 0 0 0 0 []] := by simp [bareD, splitD, withK]
  unfold partsD
  rw [this]
  rfl
theorem closed_ex {w : List GData} {t : GType} {cs : List GClause} (h : (closedD w t cs).2 = true) : clausesB w t (closedD w t cs).1 = true ∧ exD w t (closedD w t cs).1 = (true, true) ∧ ∃ r, (closedD w t cs).1 = cs ++ r := by
  unfold closedD at h ⊢
  split at h
  · rename_i h2
    rw [if_pos h2]
    have hcl := ex_valid h2
    split at h
    · rename_i h1
      rw [if_pos h1]
      exact ⟨hcl, Prod.ext h1 h2, [], by simp⟩
    · rename_i h1
      rw [if_neg h1]
      split at h
      · cases h
      · rename_i h8
        rw [if_neg h8]
        have hcl2 : clausesB w t (cs ++ [anyC0]) = true := by
          simp only [clausesB, Bool.and_eq_true, decide_eq_true_eq, List.all_eq_true] at hcl ⊢
          refine ⟨by simp only [List.length_append, List.length_cons, List.length_nil]; omega, fun c hc => ?_⟩
          rcases List.mem_append.1 hc with hc | hc
          · exact hcl.2 c hc
          · simp only [List.mem_singleton] at hc
            rw [hc]
            have := any_valid w t
            simp only [clauseB, anyC0, Bool.and_eq_true]
            exact ⟨this, rfl⟩
        refine ⟨hcl2, ?_, [anyC0], rfl⟩
        unfold exD at h2
        cases hm : missD w t cs with
        | none => rw [hm] at h2; cases h2
        | some r =>
          have hm2 : missD w t (cs ++ [anyC0]) = some [] := by
            unfold missD at hm ⊢
            rw [if_pos hcl] at hm
            rw [if_pos hcl2, cover_append]
            cases hc : coverD cs with
            | none => rw [hc] at hm; simp at hm
            | some l =>
              rw [hc] at hm
              simp only [Option.bind_some] at hm ⊢
              have ha : coverD [anyC0] = some [GPattern.mk 1 0 0 0 0 []] := by
                simp only [coverD, anyC0, if_true]
                rw [parts_any]
                rfl
              rw [ha]
              simp only [Option.map_some, Option.bind_some]
              unfold withoutD at hm ⊢
              rw [away_append]
              cases haw : awayD w 10 11 t (keepP w 11 t [GPattern.mk 1 0 0 0 0 []]) l with
              | none => rw [haw] at hm; simp [rightD] at hm
              | some m =>
                simp only [Option.bind_some, awayD]
                have hs : stepD' w 10 11 t m (GPattern.mk 1 0 0 0 0 []) = [] := by
                  unfold stepD' keepP
                  have : (m.flatMap fun a => minusD w 10 t a (GPattern.mk 1 0 0 0 0 [])) = [] := by
                    rw [List.flatMap_eq_nil_iff]
                    intro a _
                    simp [minusD]
                  rw [this]; rfl
                rw [hs]
                simp [rightD]
          unfold exD
          rw [hm2]
          rfl
  · cases h
theorem law_closed (code more : List Int) (hb : ∀ x ∈ code, 0 ≤ x ∧ x ≤ 255) : m_laws_FnClosedClauses NN code more = some true := by
  suffices hr : Ret (m_laws_FnClosedClauses NN code more) (fun r => r = true) by
    obtain ⟨_, e, rfl⟩ := hr
    exact e
  unfold m_laws_FnClosedClauses
  refine Ret.ite (fun _ => .some rfl) (fun _ => ?_)
  refine Ret.ite (fun _ => .some rfl) (fun _ => ?_)
  refine Ret.bind (P := fun a => a.1 ∈ worlds ∧ a.2.1 ∈ tys a.1) ?_ (fun a ha => ?_)
  · unfold m_spec_DrawClosedClauses
    exact Ret.bind (missing_ok code hb) (fun a ha => .some ⟨ha.1, ha.2.1⟩)
  obtain ⟨w, t, cs⟩ := a
  obtain ⟨hww, ht⟩ := ha
  simp only at hww ht ⊢
  have hw := ww hww
  rw [implClosed hww ht, specClosed hww ht]
  have hsame : m_impl_ClausesSame NN (closedD w t cs).1 (closedD w t cs).1 = some true := by
    cases h2 : (closedD w t cs).2 with
    | true => exact clausesSame_refl (valid_deep (clauses_pats (closed_ex h2).1).2)
    | false =>
      have : (closedD w t cs).1 = [] := by
        unfold closedD at h2 ⊢
        split at h2
        · rename_i h3
          rw [if_pos h3]
          split at h2
          · cases h2
          · rename_i h4
            rw [if_neg h4]
            split at h2
            · rename_i h5
              rw [if_pos h5]
            · cases h2
        · rename_i h3
          rw [if_neg h3]
      rw [this]
      exact clausesSame_refl (fun c hc => by cases hc)
  simp only [Option.bind_some, beq_self_eq_true, Bool.not_true, Bool.false_eq_true, if_false, if_true]
  rw [hsame]
  simp only [Option.bind_some, Bool.not_true, Bool.false_eq_true, if_false, if_true]
  refine Ret.ite (fun _ => .some rfl) (fun hok => ?_)
  rw [Bool.not_eq_false'] at hok
  obtain ⟨c1, c2, r, c3⟩ := closed_ex hok
  rw [implExh hww ht, c2]
  obtain ⟨d, hd, d1, d3⟩ := rem3 more.length
  rw [hd]
  obtain ⟨vs, hvs, _, hvv⟩ := implUpTo_valid hw ht d1 d3
  rw [hvs]
  simp only [Option.bind_some]
  have hcl : clausesB w t cs = true := by
    rw [c3] at c1
    simp only [clausesB, Bool.and_eq_true, decide_eq_true_eq, List.all_eq_true, List.length_append] at c1 ⊢
    exact ⟨by omega, fun c hc => c1.2 c (List.mem_append_left _ hc)⟩
  refine Ret.ctl (forL_rule vs.1 (fun _ _ => True) (fun _ => False) (fun _ => True) trivial (fun k v u hv _ => ?_) (fun _ _ => trivial)) (fun r hr => hr.elim) (fun _ _ => .some rfl)
  obtain ⟨h1, h2⟩ := hvv v (List.mem_of_getElem? hv)
  rw [implRunC hw ht cs v, runC_ok hcl h1, implRunC hw ht _ v, runC_ok c1 h1]
  simp only [Option.bind_some]
  have h3 := (runR_fst (runD v 0 (closedD w t cs).1)).2 (ex_fits hww ht (by rw [c2]) h2 0)
  rw [if_neg (by rw [ilt_true]; omega)]
  by_cases h0 : 0 ≤ (runR (runD v 0 cs)).1
  · have hs := (runR_fst (runD v 0 cs)).1 h0
    obtain ⟨x, hx⟩ := Option.isSome_iff_exists.1 hs
    have he : runD v 0 (closedD w t cs).1 = runD v 0 cs := by rw [c3, runD_append, hx]
    rw [if_pos (by rw [ile_true]; exact h0), he]
    have e : (!ieq (runR (runD v 0 cs)).1 (runR (runD v 0 cs)).1) = false := by simp [ieq]
    simp only [e, Bool.false_eq_true, if_false, Option.bind_some]
    exact .some trivial
  · rw [if_neg (by rw [ile_true]; exact h0)]
    exact .some trivial
end Go.Proofs.YtnackipaoepmfaaGreat
