import Derived.Test.YtmkamncbkkahjaaGreatJMir
import Derived.Test.YtmkamncbkkahjaaGreatJAuto
import Derived.Test.YtmkamncbkkahjaaGreatJC1
import Derived.Test.YtmkamncbkkahjaaGreatJAuI
set_option linter.unusedSimpArgs false
set_option linter.unusedVariables false
set_option linter.unusedSimpArgs false
set_option linter.unusedVariables false
namespace Go.Proofs.YtmkamncbkkahjaaGreat
open Go Go.RowKit
set_option maxRecDepth 100000
set_option maxHeartbeats 20000000
instance i_impl_ClausesValid : ∀ (n : Nat) (p0 : (List GData)) (p1 : GType) (p2 : (List GClause)), Ct (m_impl_ClausesValid n p0 p1 p2) fun res => CallsD Tryz.prog 0o00055 [(.slice 2 (List.map rGData p0)), (.agg (rGType p1)), (.slice 9 (List.map rGClause p2))] (fun d => d = (eB res)) :=
 au Tryz.func45 m_impl_ClausesValid.eq_1 .z
end Go.Proofs.YtmkamncbkkahjaaGreat
set_option linter.unusedSimpArgs false
set_option linter.unusedVariables false
namespace Go.Proofs.YtmkamncbkkahjaaGreat
open Go Go.RowKit
set_option maxRecDepth 100000
set_option maxHeartbeats 20000000
instance i_impl_match : ∀ (n : Nat) (p0 : GPattern) (p1 : GValue), Ct (m_impl_match n p0 p1) fun res => CallsH Tryz.prog 0o00262 [] [(.agg (rGPattern p0)), (.agg (rGValue p1))] (fun H d => H = [some ⟨4, List.map rGBind res.1, 0, 0x0057⟩] ∧ d = .tup [.sl 4 0 res.1.length, (eB res.2)]) :=
 ar (au Tryz.func178 m_impl_match.eq_2 (.o (.o (.o (.o (.i (.pN 4 4 0x0057 .z) (.i .z (.i (.o (.pN 4 4 0x0057 .z)) (.i (.g [2, 3] [0, 8] [] [] (.o (.o (.d [0, 1, 2, 3, 4, 5, 6, 7, 8, 9, 10] [0, 1] [] (.i .z (.g [2, 3] [0, 1] [] [] (.o (.o (.d [0, 1, 2, 3, 4, 5, 6, 7, 8, 9] [0, 1] [] .z))))))))) (.i (.g [2, 3] [0, 8] [] [] (.o (.o (.d [0, 1, 2, 3, 4, 5, 6, 7, 8, 9, 10] [0, 1] [] .z)))) (.i (.pN 4 4 0x0057 .z) (.pN 10 4 0x0057 (.ls 81 (.f [10] [208] [3, 10, 81, 82, 83] [8, 208] (fun (k122 : Nat) (s118 : (List GBind)) => [(10, .sl 4 208 (s118).length), (83, eI (k122 : Int))]) (fun k122 s118 => [(208, some ⟨4, (List.map rGBind s118), 0, 0x0057⟩)]) (fun k122 s118 => .o (.g [3, 10, 11, 12, 81, 82, 83] [0, 1, 34] [] [] (.o (.o (.d [0, 1, 2, 3, 4, 5, 6, 7, 8, 9, 10, 11] [0, 2] [] (.i (.pN 4 4 0x0057 .z) .z)))))) (fun s126 => .z)))))))))))))))
end Go.Proofs.YtmkamncbkkahjaaGreat
set_option linter.unusedSimpArgs false
set_option linter.unusedVariables false
namespace Go.Proofs.YtmkamncbkkahjaaGreat
open Go Go.RowKit
set_option maxRecDepth 100000
set_option maxHeartbeats 20000000
theorem c_slices_insertionSortCmpFunc_Bind (n : Nat) (p0 : (List GBind)) (p1 : Int) (p2 : Int) (p3_f : FuncId) (p3_c : List D) (p3_x : ∀ d ∈ p3_c, Free d) (p3 : (GBind → GBind → Option Int)) (p3_h : ∀ a0 a1 r, p3 a0 a1 = some r → CallsD Tryz.prog p3_f ([(.agg (rGBind a0)), (.agg (rGBind a1))] ++ p3_c) (fun d => d = (eI r))) (res : (List GBind)) (h : m_slices_insertionSortCmpFunc_Bind n p0 p1 p2 p3 = some res) : CallsH Tryz.prog 0o00435 [⟨4, List.map rGBind p0, 0, 0x0057⟩] [.sl 4 0 p0.length, (eI p1), (eI p2), .clos p3_f p3_c] (fun H d => H = [some ⟨4, List.map rGBind res, 0, 0x0057⟩] ∧ d = .tup []) := by
 unfold m_slices_insertionSortCmpFunc_Bind at h
 have p3_y : Free (.clos p3_f p3_c) := free_clos p3_x
 have p3_z := eq_true p3_x
 refine CH Tryz.func285 [] 1 fun β hβ => ?_
 refine sZ ?_
 obtain ⟨M, E, h⟩ := bindE h
 obtain ⟨y, w⟩ : ∃ S : ((List GBind) × Int) → St, S = fun l => ⟨(fun _ => .any), hOfO [some ⟨4, (List.map rGBind l.1), 0, 0x0057⟩], 1, 53⟩ := ⟨_, rfl⟩
 refine TrD.joinQ y (fun z => M = Ctl.brk z) (fun _ _ hg h => exitH_stab hg h) ?_ (fun l hz => ?_)
 ·apply TrD.block
  obtain ⟨B, q⟩ : ∃ S : ((List GBind) × Int) → St, S = fun c => ⟨(updD (updD (updD (updD (updD (fun _ => .any) 0 (.sl 4 0 (c.1).length)) 1 (eI p1)) 2 (eI p2)) 3 (.clos p3_f p3_c)) 8 (eI c.2)), hOfO [some ⟨4, (List.map rGBind c.1), 0, 0x0057⟩], 1, 53⟩ := ⟨_, rfl⟩
  refine TrD.whileL B E ?_ (fun c V g R G => ?_)
  ·rw [q]
   exact gc [0] hβ (((((va.s 0).f).f).f (by simp) (by simp [p3_y])).f) ln.f
  rw [congrFun q c]
  apply sq
  refine sZ ?_
  refine TrD.cond (b := ilt c.2 p2) (by simp) (fun o => ?_) (fun o => ?_)
  ·rw [if_pos o] at g
   apply TrD.skip
   apply sq
   apply TrD.block
   refine sZ ?_ fun K hK => by simp [o]; exact hK
   obtain ⟨N, F, g⟩ := bindE g
   obtain ⟨A, p⟩ : ∃ S : ((List GBind) × Int) → St, S = fun i => ⟨(updD (updD (updD (updD (updD (fun _ => .any) 0 (.sl 4 0 (i.1).length)) 1 (eI p1)) 2 (eI p2)) 3 (.clos p3_f p3_c)) 8 (eI c.2)), hOfO [some ⟨4, (List.map rGBind i.1), 0, 0x0057⟩], 1, 53⟩ := ⟨_, rfl⟩
   refine TrD.joinQ A (fun z => N = Ctl.brk z) (fun _ _ hg h => TrD.ghost hg h) ?_ (fun i hz => ?_)
   ·apply TrD.block
    obtain ⟨C, s⟩ : ∃ S : ((List GBind) × Int) → St, S = fun a => ⟨(updD (updD (updD (updD (updD (updD (fun _ => .any) 0 (.sl 4 0 (a.1).length)) 1 (eI p1)) 2 (eI p2)) 3 (.clos p3_f p3_c)) 8 (eI c.2)) 9 (eI a.2)), hOfO [some ⟨4, (List.map rGBind a.1), 0, 0x0057⟩], 1, 53⟩ := ⟨_, rfl⟩
    refine TrD.whileL C F ?_ (fun a W e T x => ?_)
    ·rw [s]
     exact gc [0] hβ ((((((va.s 0).f).f).f (by simp) (by simp [p3_y])).f).f) ln.f
    rw [congrFun s a]
    apply sq
    apply sq
    refine TrD.ghost (σ' := ⟨(updD (updD (updD (updD (updD (updD (fun _ => .any) 0 (.sl 4 0 (a.1).length)) 1 (eI p1)) 2 (eI p2)) 3 (.clos p3_f p3_c)) 8 (eI c.2)) 9 (eI a.2)), hOfO [some ⟨4, (List.map rGBind a.1), 0, 0x0057⟩], 1, 53⟩) ?_ ?_
    ·exact gc [0] hβ ((((((va.s 0).f).f).f (by simp) (by simp [p3_y])).f).f) ln.f
    rcases bb (ilt p1 a.2) with m | m
    ·rw [if_pos m] at e
     obtain ⟨P, j, e⟩ := bindE e
     obtain ⟨Q, k, e⟩ := bindE e
     obtain ⟨O, J, e⟩ := bindE e
     refine TrD.draw tysOk mixed [0, 1, 2, 3, 4, 5, 6, 7, 8, 9, 10, 11, 12, 13, 14, 15, 16] [0] [] (by rfl) rfl (fun K hK => ?_)
     simp [m, idx_inb j, idx_lt j, elt (idx_get j), idx_inb k, idx_lt k, elt (idx_get k)]
     refine cp (p3_h P Q _ J) ?_ (by simp) (by simp [p3_z])
     simp
     apply hK
     refine TrD.cond (b := ilt O 0) (by simp) (fun f => ?_) (fun f => ?_)
     ·rw [if_pos f] at e
      apply TrD.skip
      apply sq
      apply TrD.block
      refine TrD.ghost (σ' := ⟨(updD (updD (updD (updD (updD (updD (fun _ => .any) 0 (.sl 4 0 (a.1).length)) 1 (eI p1)) 2 (eI p2)) 3 (.clos p3_f p3_c)) 8 (eI c.2)) 9 (eI a.2)), hOfO [some ⟨4, (List.map rGBind a.1), 0, 0x0057⟩], 1, 53⟩) ?_ ?_
      ·exact gc [0] hβ ((((((va.s 0 (by simp [f])).f (by simp [f])).f (by simp [f])).f (by simp [f]) (by simp [p3_y])).f (by simp [f])).f (by simp [f])) ln.f
      obtain ⟨Y, t, e⟩ := bindE e
      obtain ⟨Z, U, e⟩ := bindE e
      obtain ⟨v, u, e⟩ := bindE e
      refine TrD.draw tysOk mixed [0, 1, 2, 3, 4, 5, 6, 7, 8, 9, 10, 11, 12, 13, 14, 15, 16, 17] [0] [51, 52] (by rfl) rfl (fun K hK => ?_)
      simp [idx_inb j, idx_lt j, elt (idx_get j), idx_inb k, idx_lt k, elt (idx_get k)]
      apply hK
      refine rZ ?_
      cases e
      refine ToAny.mk (v, wsub .i64 a.2 1) rfl ?_
      rw [s]
      exact gc [0] hβ ((((((va.s 0 (by simp [(setI_some t).1, (setI_some u).1])).f).f).f (by simp) (by simp [p3_y])).f).f) (ln.f (by simp [(setI_some t).1, (setI_some u).1]))
     rw [iN f] at e
     refine TrD.exit ?_
     try simp only [↓reduceIte, Nat.reduceEqDiff, Nat.zero_ne_one, Nat.one_ne_zero, OfNat.ofNat_ne_zero, OfNat.zero_ne_ofNat, OfNat.one_ne_ofNat, OfNat.ofNat_ne_one]
     cases e
     obtain rfl := x _ rfl
     refine ToAny.mk (a.1, a.2) rfl ?_
     rw [p]
     exact gc [0] hβ (((((va.s 0 (by simp [f])).f (by simp [f])).f (by simp [f])).f (by simp [f]) (by simp [p3_y])).f (by simp [f])) ln.f
    rw [iN m] at e
    refine TrD.draw tysOk mixed [0, 1, 2, 3, 4, 5, 6, 7, 8, 9, 10, 11, 12, 13, 14, 15, 16] [] [] (by rfl) rfl (fun K hK => ?_)
    simp [m]
    apply hK
    refine cF ?_
    refine TrD.exit ?_
    try simp only [↓reduceIte, Nat.reduceEqDiff, Nat.zero_ne_one, Nat.one_ne_zero, OfNat.ofNat_ne_zero, OfNat.zero_ne_ofNat, OfNat.one_ne_ofNat, OfNat.ofNat_ne_one]
    cases e
    obtain rfl := x _ rfl
    refine ToAny.mk (a.1, a.2) rfl ?_
    rw [p]
    exact gc [0] hβ (((((va.s 0).f).f).f (by simp) (by simp [p3_y])).f) ln.f
   subst hz
   try dsimp only at g
   rw [congrFun p i]
   refine rZ ?_
   cases g
   refine ToAny.mk (i.1, wadd .i64 c.2 1) rfl ?_
   rw [q]
   exact gc [0] hβ (((((va.s 0).f).f).f (by simp) (by simp [p3_y])).f) ln.f
  rw [iN o] at g
  refine TrD.exit ?_
  try simp only [↓reduceIte, Nat.reduceEqDiff, Nat.zero_ne_one, Nat.one_ne_zero, OfNat.ofNat_ne_zero, OfNat.zero_ne_ofNat, OfNat.one_ne_ofNat, OfNat.ofNat_ne_one]
  cases g
  obtain rfl := G _ rfl
  refine ToAny.mk (c.1, c.2) rfl ?_
  rw [w]
  exact gC [0]
 subst hz
 try dsimp only at h
 rw [congrFun w l]
 cases h
 refine exitHG (σ' := ⟨(fun _ => .any), hOfO [some ⟨4, (List.map rGBind l.1), 0, 0x0057⟩], 1, 53⟩) ?_ ?_
 ·exact gC [0]
 dsimp only [resD]
 exact eA
instance i_slices_insertionSortCmpFunc_Bind (n : Nat) (p0 : (List GBind)) (p1 : Int) (p2 : Int) (p3 : (GBind → GBind → Option Int)) {p3_f : FuncId} {p3_c : List D} [p3_i : CF2 (fun a0 => (.agg (rGBind a0))) (fun a1 => (.agg (rGBind a1))) (fun r => (eI r)) p3 p3_f p3_c] : Ct (m_slices_insertionSortCmpFunc_Bind n p0 p1 p2 p3) fun res => CallsH Tryz.prog 0o00435 [⟨4, List.map rGBind p0, 0, 0x0057⟩] [.sl 4 0 p0.length, (eI p1), (eI p2), .clos p3_f p3_c] (fun H d => H = [some ⟨4, List.map rGBind res, 0, 0x0057⟩] ∧ d = .tup []) := ⟨c_slices_insertionSortCmpFunc_Bind n p0 p1 p2 p3_f p3_c p3_i.fr p3 p3_i.h⟩
end Go.Proofs.YtmkamncbkkahjaaGreat
set_option linter.unusedSimpArgs false
set_option linter.unusedVariables false
namespace Go.Proofs.YtmkamncbkkahjaaGreat
open Go Go.RowKit
set_option maxRecDepth 100000
set_option maxHeartbeats 20000000
theorem c_slices_pdqsortCmpFunc_Bind : ∀ (n : Nat) (p0 : (List GBind)) (p1 : Int) (p2 : Int) (p3 : Int) (p4_f : FuncId) (p4_c : List D) (p4_x : ∀ d ∈ p4_c, Free d) (p4 : (GBind → GBind → Option Int)) (p4_h : ∀ a0 a1 r, p4 a0 a1 = some r → CallsD Tryz.prog p4_f ([(.agg (rGBind a0)), (.agg (rGBind a1))] ++ p4_c) (fun d => d = (eI r))) (res : (List GBind)), m_slices_pdqsortCmpFunc_Bind n p0 p1 p2 p3 p4 = some res → CallsH Tryz.prog 0o00362 [⟨4, List.map rGBind p0, 0, 0x0057⟩] [.sl 4 0 p0.length, (eI p1), (eI p2), (eI p3), .clos p4_f p4_c] (fun H d => H = [some ⟨4, List.map rGBind res, 0, 0x0057⟩] ∧ d = .tup []) := by
 intro n
 induction n with
 | zero => intro p0 p1 p2 p3 p4_f p4_c p4_x p4 p4_h res h; cases h
 | succ n ih =>
  intro p0 p1 p2 p3 p4_f p4_c p4_x p4 p4_h res h
  rw [m_slices_pdqsortCmpFunc_Bind.eq_2] at h
  have p4_y : Free (.clos p4_f p4_c) := free_clos p4_x
  have p4_z := eq_true p4_x
  refine CH Tryz.func242 [] 1 fun β hβ => ?_
  refine sZ ?_
  refine sZ ?_
  obtain ⟨t, m, h⟩ := bindE h
  obtain ⟨k, o⟩ : ∃ S : Unit → St, S = fun j => ⟨(fun _ => .any), hOfO [some ⟨4, (List.map rGBind p0), 0, 0x0057⟩], 1, 148⟩ := ⟨_, rfl⟩
  refine TrD.joinQ k (fun z => t = Ctl.brk z) (fun _ _ hg h => exitH_stab hg h) ?_ (fun j hz => ?_)
  ·apply TrD.block
   obtain ⟨l, g⟩ : ∃ S : Unit → St, S = fun i => ⟨(updD (updD (updD (updD (updD (updD (updD (fun _ => .any) 0 (.sl 4 0 (p0).length)) 1 (eI p1)) 2 (eI p2)) 3 (eI p3)) 4 (.clos p4_f p4_c)) 10 (eB true)) 11 (eB true)), hOfO [some ⟨4, (List.map rGBind p0), 0, 0x0057⟩], 1, 148⟩ := ⟨_, rfl⟩
   refine TrD.whileL l m ?_ (fun i x a s v => ?_)
   ·rw [g]
    exact gc [0] hβ (((((((va.s 0).f).f).f).f (by simp) (by simp [p4_y])).f).f) ln.f
   rw [congrFun g i]
   apply TrD.block
   refine sZ ?_
   apply sq
   refine sZ ?_
   refine TrD.cond (b := ile (wsub .i64 p2 p1) 12) (by simp) (fun c => ?_) (fun c => ?_)
   ·rw [if_pos c] at a
    apply sq
    obtain ⟨f, q, a⟩ := bindE a
    obtain ⟨A, w, a⟩ := bindE a
    refine rk fun K hK => ?_
    simp [c]
    refine callK (views_same _ _) (.same _ _) [0] (c_slices_insertionSortCmpFunc_Bind n p0 p1 p2 p4_f p4_c p4_x p4 p4_h _ q) (by decide) (.cons (locRen_eq (by simp) (by simp) (by simp)) .nil) (.cons (ren_sl rfl) (.cons (ren_le (by simp) (by simp)) (.cons (ren_le (by simp) (by simp)) (.cons (ren_le (by simp [p4_y]) (by simp)) .nil)))) (fun u y p => ?_)
    obtain ⟨rfl, rfl⟩ := p
    refine ⟨by simp, [some ⟨4, (List.map rGBind f), 0, 0x0057⟩], (.tup []), (.cons (optRen_same (by simp)) .nil), (ren_free (by simp)), ?_⟩
    simp [setMany, newNames]
    apply hK
    obtain rfl := Option.some.inj a
    obtain rfl := s _ rfl
    obtain rfl := Option.some.inj h
    refine TrD.ret ?_
    refine exitHG (σ' := ⟨(fun _ => .any), hOfO [some ⟨4, (List.map rGBind f), 0, 0x0057⟩], 1, 148⟩) ?_ ?_
    ·exact Ghost.canonV 1 [0] _ _ hβ (keep_first (by decide)) (by decide) (vT_any _) (.cons (lv (L := ⟨4, (List.map rGBind f), 0, 0x0057⟩) (by simp) rfl rfl (by simp) (rv_free (by simp) (free_rows_of fr_GBind _))) .nil)
    dsimp only [resD]
    exact ⟨[some ⟨4, (List.map rGBind f), 0, 0x0057⟩], [], rfl, by simp, by simp, .inl rfl, by simp [packD]⟩
   rw [iN c] at a
   apply TrD.skip
   apply sq
   refine sZ ?_ fun K hK => by simp [c]; exact hK
   refine TrD.cond (b := ieq p3 0) (by simp) (fun e => ?_) (fun e => ?_)
   ·rw [if_pos e] at a
    apply sq
    cases a
   rw [iN e] at a
   apply TrD.skip
   apply sq
   refine sZ ?_ fun K hK => by simp [e]; exact hK
   refine cF ?_
   apply TrD.skip
   apply sq
   cases a
  subst hz
  try dsimp only at h
  rw [congrFun o j]
  cases h
  refine exitHG (σ' := ⟨(fun _ => .any), hOfO [some ⟨4, (List.map rGBind p0), 0, 0x0057⟩], 1, 148⟩) ?_ ?_
  ·exact gC [0]
  dsimp only [resD]
  exact eA
end Go.Proofs.YtmkamncbkkahjaaGreat
set_option linter.unusedSimpArgs false
set_option linter.unusedVariables false
namespace Go.Proofs.YtmkamncbkkahjaaGreat
open Go Go.RowKit
set_option maxRecDepth 100000
set_option maxHeartbeats 20000000
instance i_math_bits_Len64 : ∀ (p0 : Int), Ct (m_math_bits_Len64 p0) fun res => CallsD Tryz.prog 0o00357 [(.val (.int .u64 p0))] (fun d => d = (eI res)) :=
 au Tryz.func239 m_math_bits_Len64.eq_1 (.o (.j 1 0 [0, 2] [] (fun (s2 : Int × Int) => [(0, .val (.int .u64 s2.1)), (2, eI s2.2)]) (fun _ => []) .z (fun s2 => .j 4 0 [0, 2] [] (fun (s7 : Int × Int) => [(0, .val (.int .u64 s7.1)), (2, eI s7.2)]) (fun _ => []) .z (fun s7 => .j 7 0 [0, 2] [] (fun (s12 : Int × Int) => [(0, .val (.int .u64 s12.1)), (2, eI s12.2)]) (fun _ => []) .z (fun _ => .z)))))
end Go.Proofs.YtmkamncbkkahjaaGreat
set_option linter.unusedSimpArgs false
set_option linter.unusedVariables false
namespace Go.Proofs.YtmkamncbkkahjaaGreat
open Go Go.RowKit
set_option maxRecDepth 100000
set_option maxHeartbeats 20000000
instance i_math_bits_Len : ∀ (p0 : Int), Ct (m_math_bits_Len p0) fun res => CallsD Tryz.prog 0o00246 [(.val (.int .u64 p0))] (fun d => d = (eI res)) :=
 au Tryz.func166 m_math_bits_Len.eq_1 .z
theorem c_math_bits_Len (p0 : Int) : ∀ res, m_math_bits_Len p0 = some res → CallsD Tryz.prog 0o00246 [(.val (.int .u64 p0))] (fun d => d = (eI res)) := (i_math_bits_Len p0).pf
end Go.Proofs.YtmkamncbkkahjaaGreat
set_option linter.unusedSimpArgs false
set_option linter.unusedVariables false
namespace Go.Proofs.YtmkamncbkkahjaaGreat
open Go Go.RowKit
set_option maxRecDepth 100000
set_option maxHeartbeats 20000000
theorem c_slices_SortFunc_Bind (n : Nat) (p0 : (List GBind)) (p1_f : FuncId) (p1_c : List D) (p1_x : ∀ d ∈ p1_c, Free d) (p1 : (GBind → GBind → Option Int)) (p1_h : ∀ a0 a1 r, p1 a0 a1 = some r → CallsD Tryz.prog p1_f ([(.agg (rGBind a0)), (.agg (rGBind a1))] ++ p1_c) (fun d => d = (eI r))) (res : (List GBind)) (h : m_slices_SortFunc_Bind n p0 p1 = some res) : CallsH Tryz.prog 0o00263 [⟨4, List.map rGBind p0, 0, 0x0057⟩] [.sl 4 0 p0.length, .clos p1_f p1_c] (fun H d => H = [some ⟨4, List.map rGBind res, 0, 0x0057⟩] ∧ d = .tup []) := by
 unfold m_slices_SortFunc_Bind at h
 have p1_y : Free (.clos p1_f p1_c) := free_clos p1_x
 have p1_z := eq_true p1_x
 refine CH Tryz.func179 [] 1 fun β hβ => ?_
 refine sZ ?_
 obtain ⟨r1, hr1, h⟩ := bindE h
 obtain ⟨r2, hr2, h⟩ := bindE h
 obtain ⟨x3, hx3, h⟩ := bindE h
 refine rk fun K hK => ?_
 simp
 refine callP (c_math_bits_Len (wcv .u64 (lenZ p0.length)) _ hr1) (by simp) (by simp) (fun q4 hq4 => ?_)
 subst hq4
 simp
 refine callK (views_same _ _) (.same _ _) [0] (c_slices_pdqsortCmpFunc_Bind n p0 0 (lenZ p0.length) r1 p1_f p1_c p1_x p1 p1_h _ hr2) (by decide) (.cons (locRen_eq (by simp) (by simp) (by simp)) .nil) (.cons (ren_sl rfl) (.cons (ren_le (by simp) (by simp)) (.cons (ren_le (by simp) (by simp)) (.cons (ren_le (by simp) (by simp)) (.cons (ren_le (by simp [p1_y]) (by simp)) .nil))))) (fun Hq5 qq5 hq5 => ?_)
 obtain ⟨rfl, rfl⟩ := hq5
 refine ⟨by simp, [some ⟨4, (List.map rGBind r2), 0, 0x0057⟩], (.tup []), (.cons (optRen_same (by simp)) .nil), (ren_free (by simp)), ?_⟩
 simp [setMany, newNames]
 refine hK _ ?_
 obtain rfl := Option.some.inj h
 refine exitHG (σ' := ⟨(fun _ => .any), hOfO [some ⟨4, (List.map rGBind r2), 0, 0x0057⟩], 1, 14⟩) ?_ ?_
 ·exact Ghost.canonV 1 [0] _ _ hβ (keep_first (by decide)) (by decide) (vT_any _) (.cons (lv (L := ⟨4, (List.map rGBind r2), 0, 0x0057⟩) (by simp) rfl rfl (by simp) (rv_free (by simp) (free_rows_of fr_GBind _))) .nil)
 dsimp only [resD]
 exact ⟨[some ⟨4, (List.map rGBind r2), 0, 0x0057⟩], [], rfl, by simp, by simp, .inl rfl, by simp [packD]⟩
instance i_slices_SortFunc_Bind (n : Nat) (p0 : (List GBind)) (p1 : (GBind → GBind → Option Int)) {p1_f : FuncId} {p1_c : List D} [p1_i : CF2 (fun a0 => (.agg (rGBind a0))) (fun a1 => (.agg (rGBind a1))) (fun r => (eI r)) p1 p1_f p1_c] : Ct (m_slices_SortFunc_Bind n p0 p1) fun res => CallsH Tryz.prog 0o00263 [⟨4, List.map rGBind p0, 0, 0x0057⟩] [.sl 4 0 p0.length, .clos p1_f p1_c] (fun H d => H = [some ⟨4, List.map rGBind res, 0, 0x0057⟩] ∧ d = .tup []) := ⟨c_slices_SortFunc_Bind n p0 p1_f p1_c p1_i.fr p1 p1_i.h⟩
end Go.Proofs.YtmkamncbkkahjaaGreat
set_option linter.unusedSimpArgs false
set_option linter.unusedVariables false
namespace Go.Proofs.YtmkamncbkkahjaaGreat
open Go Go.RowKit
set_option maxRecDepth 100000
set_option maxHeartbeats 20000000
instance i_cmp_isNaN_int : ∀ (p0 : Int), Ct (m_cmp_isNaN_int p0) fun res => CallsD Tryz.prog 0o00247 [(eI p0)] (fun d => d = (eB res)) :=
 au Tryz.func167 m_cmp_isNaN_int.eq_1 .z
end Go.Proofs.YtmkamncbkkahjaaGreat
set_option linter.unusedSimpArgs false
set_option linter.unusedVariables false
namespace Go.Proofs.YtmkamncbkkahjaaGreat
open Go Go.RowKit
set_option maxRecDepth 100000
set_option maxHeartbeats 20000000
instance i_cmp_Compare_int : ∀ (p0 : Int) (p1 : Int), Ct (m_cmp_Compare_int p0 p1) fun res => CallsD Tryz.prog 0o00130 [(eI p0), (eI p1)] (fun d => d = (eI res)) :=
 au Tryz.func88 m_cmp_Compare_int.eq_1 .z
end Go.Proofs.YtmkamncbkkahjaaGreat
set_option linter.unusedSimpArgs false
set_option linter.unusedVariables false
namespace Go.Proofs.YtmkamncbkkahjaaGreat
open Go Go.RowKit
set_option maxRecDepth 100000
set_option maxHeartbeats 20000000
instance i_impl_matched_1 : ∀ (p0 : GBind) (p1 : GBind), Ct (m_impl_matched_1 p0 p1) fun res => CallsD Tryz.prog 0o00264 [(.agg (rGBind p0)), (.agg (rGBind p1))] (fun d => d = (eI res)) :=
 au Tryz.func180 m_impl_matched_1.eq_1 .z
end Go.Proofs.YtmkamncbkkahjaaGreat
set_option linter.unusedSimpArgs false
set_option linter.unusedVariables false
namespace Go.Proofs.YtmkamncbkkahjaaGreat
open Go Go.RowKit
set_option maxRecDepth 100000
set_option maxHeartbeats 20000000
instance i_impl_ownValue : ∀ (n : Nat) (p0 : GValue), Ct (m_impl_ownValue n p0) fun res => CallsD Tryz.prog 0o00067 [(.agg (rGValue p0))] (fun d => d = (.agg (rGValue res))) :=
 ar (au Tryz.func55 m_impl_ownValue.eq_2 (.o (.o (.b fun (p0 : GValue) => .pC 56 2 3 0x001d (.ls 12 (.f [2, 3] [8, 56, 104] [2, 3, 12, 13, 14] [8, 56, 104] (fun (k56 : Nat) (s52 : (List GValue)) => [(14, eI (k56 : Int))]) (fun k56 s52 => [(56, some ⟨3, [[(eI p0.ctor), (eI p0.n), (.sl 3 2 (s52).length)]], 0, 0x001d⟩), (104, some ⟨3, (List.map rGValue s52), 0, 0x001d⟩)]) (fun k56 s52 => .o (.g [2, 3, 5, 12, 13, 14] [0, 1, 2, 27] [] [(1, some ⟨3, [[(eI p0.ctor), (eI p0.n), (.sl 3 2 (s52).length)]], 0, 0x001d⟩)] (.o (.o (.d [0, 1, 2, 3, 4, 5, 6, 7] [1, 3] [24] .z))))) (fun s60 => .z)))))))
end Go.Proofs.YtmkamncbkkahjaaGreat
set_option linter.unusedSimpArgs false
set_option linter.unusedVariables false
namespace Go.Proofs.YtmkamncbkkahjaaGreat
open Go Go.RowKit
set_option maxRecDepth 100000
set_option maxHeartbeats 20000000
instance i_impl_matched : ∀ (n : Nat) (p0 : GPattern) (p1 : GValue), Ct (m_impl_matched n p0 p1) fun res => CallsD Tryz.prog 0o00151 [(.agg (rGPattern p0)), (.agg (rGValue p1))] (fun d => d = .tup [(.slice 4 (List.map rGBind res.1)), (eB res.2)]) :=
 au Tryz.func105 m_impl_matched.eq_1 (.o (.o (.o (.o (.i .z (.o (.o (.ll 49 (.f [6] [49] [6, 20, 21, 22] [49] (fun (k63 : Nat) (s59 : (List GBind)) => [(6, .sl 4 49 (s59).length), (20, .sl 4 49 (s59).length), (22, eI (k63 : Int))]) (fun k63 s59 => [(49, some ⟨4, (List.map rGBind s59), 0, 0x0057⟩)]) (fun k63 s59 => .z) (fun s67 => .z))))))))))
end Go.Proofs.YtmkamncbkkahjaaGreat
set_option linter.unusedSimpArgs false
set_option linter.unusedVariables false
namespace Go.Proofs.YtmkamncbkkahjaaGreat
open Go Go.RowKit
set_option maxRecDepth 100000
set_option maxHeartbeats 20000000
theorem c_slices_IndexFunc_Bind (p0 : (List GBind)) (p1_f : FuncId) (p1_c : List D) (p1_x : ∀ d ∈ p1_c, Free d) (p1 : (GBind → Option Bool)) (p1_h : ∀ a0 r, p1 a0 = some r → CallsD Tryz.prog p1_f ([(.agg (rGBind a0))] ++ p1_c) (fun d => d = (eB r))) (res : Int) (h : m_slices_IndexFunc_Bind p0 p1 = some res) : CallsD Tryz.prog 0o00251 [(.slice 4 (List.map rGBind p0)), .clos p1_f p1_c] (fun d => d = (eI res)) := by
 unfold m_slices_IndexFunc_Bind at h
 have p1_y : Free (.clos p1_f p1_c) := free_clos p1_x
 have p1_z := eq_true p1_x
 refine CD Tryz.func169 [.tmp 4] fun β hβ => ?_
 refine sZ ?_
 apply sq
 refine sZ ?_
 obtain ⟨v, p, h⟩ := bindE h
 obtain ⟨n, j⟩ : ∃ S : Unit → St, S = fun m => ⟨(fun _ => .any), hOfO [], 0, 19⟩ := ⟨_, rfl⟩
 refine TrD.joinQ n (fun z => v = Ctl.brk z) (fun _ _ hg h => TrD.ghost hg h) ?_ (fun m hz => ?_)
 ·apply TrD.block
  obtain ⟨o, i⟩ : ∃ S : Nat → Unit → St, S = fun c g => ⟨(updD (updD (updD (updD (fun _ => .any) 0 (.slice 4 (List.map rGBind p0))) 1 (.clos p1_f p1_c)) 7 (eI (lenZ p0.length))) 8 (eI (c : Int))), hOfO [], 0, 19⟩ := ⟨_, rfl⟩
  refine TrD.limS (sz := 4) (rows := List.map rGBind p0) (seen_slot (d := .slice 4 (List.map rGBind p0)) 0 (by simp)) (fun hlim => ?_)
  rw [List.length_map] at hlim
  refine TrD.forL o p hlim ?_ (fun c A g l C E u f F a t B => ?_) (fun g y => ?_)
  ·rw [i]
   exact gc [] hβ (((va.f.f (by simp) (by simp [p1_y])).f).f) ln
  ·rw [congrFun (congrFun i c) g]
   refine sZ ?_ fun K hK => by simp [u]; exact hK
   apply sq
   refine cT ?_
   apply TrD.skip
   apply sq
   apply TrD.block
   refine sZ ?_
   apply sq
   obtain ⟨w, s, a⟩ := bindE a
   refine rk fun K hK => ?_
   simp [idx_inb l, idx_row l]
   refine cp (p1_h A _ s) ?_ (by simp) (by simp [p1_z])
   simp
   apply hK
   refine TrD.cond (b := w) (by simp) (fun e => ?_) (fun e => ?_)
   ·rw [if_pos e] at a
    refine sZ ?_ fun K hK => by simp [e]; exact hK
    cases a
    obtain rfl := t _ rfl
    cases h
    apply TrD.ret
    exact xD
   rw [iN e] at a
   apply TrD.skip
   refine rZ ?_ fun K hK => by simp [e]; exact hK
   cases a
   refine ToAny.mk () rfl ?_
   rw [i]
   exact gc [] hβ ((((va.f (by simp [f])).f (by simp [f]) (by simp [p1_y])).f (by simp [f])).f (by simp [f])) ln
  rw [congrFun (congrFun i _) g]
  refine sZ ?_ fun K hK => by simp [ilt_len p0.length]; exact hK
  apply sq
  refine cF ?_
  refine TrD.exit ?_
  try simp only [↓reduceIte, Nat.reduceEqDiff, Nat.zero_ne_one, Nat.one_ne_zero, OfNat.ofNat_ne_zero, OfNat.zero_ne_ofNat, OfNat.one_ne_ofNat, OfNat.ofNat_ne_one]
  refine ToAny.mk g y ?_
  rw [j]
  exact gC []
 subst hz
 try dsimp only at h
 rw [congrFun j m]
 refine sZ ?_
 cases h
 apply TrD.ret
 exact xD
instance i_slices_IndexFunc_Bind (p0 : (List GBind)) (p1 : (GBind → Option Bool)) {p1_f : FuncId} {p1_c : List D} [p1_i : CF1 (fun a0 => (.agg (rGBind a0))) (fun r => (eB r)) p1 p1_f p1_c] : Ct (m_slices_IndexFunc_Bind p0 p1) fun res => CallsD Tryz.prog 0o00251 [(.slice 4 (List.map rGBind p0)), .clos p1_f p1_c] (fun d => d = (eI res)) := ⟨c_slices_IndexFunc_Bind p0 p1_f p1_c p1_i.fr p1 p1_i.h⟩
end Go.Proofs.YtmkamncbkkahjaaGreat
set_option linter.unusedSimpArgs false
set_option linter.unusedVariables false
namespace Go.Proofs.YtmkamncbkkahjaaGreat
open Go Go.RowKit
set_option maxRecDepth 100000
set_option maxHeartbeats 20000000
instance i_impl_GuardHolds_1 : ∀ (p0 : GBind) (q0 : GGuard), Ct (m_impl_GuardHolds_1 p0 q0) fun res => CallsD Tryz.prog 0o00252 [(.agg (rGBind p0)), .cptr (rGGuard q0)] (fun d => d = (eB res)) :=
 au Tryz.func170 m_impl_GuardHolds_1.eq_1 .z
end Go.Proofs.YtmkamncbkkahjaaGreat
set_option linter.unusedSimpArgs false
set_option linter.unusedVariables false
namespace Go.Proofs.YtmkamncbkkahjaaGreat
open Go Go.RowKit
set_option maxRecDepth 100000
set_option maxHeartbeats 20000000
instance i_impl_GuardHolds : ∀ (p0 : GGuard) (p1 : (List GBind)), Ct (m_impl_GuardHolds p0 p1) fun res => CallsD Tryz.prog 0o00135 [(.agg (rGGuard p0)), (.slice 4 (List.map rGBind p1))] (fun d => d = (eB res)) :=
 au Tryz.func93 m_impl_GuardHolds.eq_1 .z
end Go.Proofs.YtmkamncbkkahjaaGreat
set_option linter.unusedSimpArgs false
set_option linter.unusedVariables false
namespace Go.Proofs.YtmkamncbkkahjaaGreat
open Go Go.RowKit
set_option maxRecDepth 100000
set_option maxHeartbeats 20000000
instance i_impl_run : ∀ (n : Nat) (p0 : (List GClause)) (p1 : GValue), Ct (m_impl_run n p0 p1) fun res => CallsD Tryz.prog 0o00056 [(.slice 9 (List.map rGClause p0)), (.agg (rGValue p1))] (fun d => d = .tup [(eI res.1), (.slice 4 (List.map rGBind res.2))]) :=
 au Tryz.func46 m_impl_run.eq_1 (.o (.o (.o (.ls 0 (.f [] [] [3, 10, 11, 12] [0] (fun (k139 : Nat) (s135 : Unit) => [(12, eI (k139 : Int))]) (fun k139 s135 => []) (fun k139 s135 => .o (.j 3 0 [3, 10, 11, 12] [0] (fun (s153 : Unit) => []) (fun _ => []) .z (fun _ => .z))) (fun s143 => .z))))))
end Go.Proofs.YtmkamncbkkahjaaGreat
set_option linter.unusedSimpArgs false
set_option linter.unusedVariables false
namespace Go.Proofs.YtmkamncbkkahjaaGreat
open Go Go.RowKit
set_option maxRecDepth 100000
set_option maxHeartbeats 20000000
instance i_impl_RunClauses : ∀ (n : Nat) (p0 : (List GData)) (p1 : GType) (p2 : (List GClause)) (p3 : GValue), Ct (m_impl_RunClauses n p0 p1 p2 p3) fun res => CallsD Tryz.prog 0o00015 [(.slice 2 (List.map rGData p0)), (.agg (rGType p1)), (.slice 9 (List.map rGClause p2)), (.agg (rGValue p3))] (fun d => d = .tup [(eI res.1), (.slice 4 (List.map rGBind res.2.1)), (eB res.2.2)]) :=
 au Tryz.func13 m_impl_RunClauses.eq_1 .z
theorem c_impl_RunClauses (n : Nat) (p0 : (List GData)) (p1 : GType) (p2 : (List GClause)) (p3 : GValue) : ∀ res, m_impl_RunClauses n p0 p1 p2 p3 = some res → CallsD Tryz.prog 0o00015 [(.slice 2 (List.map rGData p0)), (.agg (rGType p1)), (.slice 9 (List.map rGClause p2)), (.agg (rGValue p3))] (fun d => d = .tup [(eI res.1), (.slice 4 (List.map rGBind res.2.1)), (eB res.2.2)]) := (i_impl_RunClauses n p0 p1 p2 p3).pf
end Go.Proofs.YtmkamncbkkahjaaGreat
set_option linter.unusedSimpArgs false
set_option linter.unusedVariables false
namespace Go.Proofs.YtmkamncbkkahjaaGreat
open Go Go.RowKit
set_option maxRecDepth 100000
set_option maxHeartbeats 20000000
instance i_impl_countValues : ∀ (n : Nat) (p0 : (List GData)) (p1 : GType) (p2 : Int), Ct (m_impl_countValues n p0 p1 p2) fun res => CallsD Tryz.prog 0o00065 [(.slice 2 (List.map rGData p0)), (.agg (rGType p1)), (eI p2)] (fun d => d = (eI res)) :=
 ar (au Tryz.func53 m_impl_countValues.eq_2 (.o (.o (.o (.o (.o (.i .z (.i .z (.o (.ls 20 (.f [7] [] [0, 2, 4, 7, 20, 21, 22] [0] (fun (k582 : Nat) (s578 : Int) => [(7, eI s578), (22, eI (k582 : Int))]) (fun k582 s578 => []) (fun k582 s578 => .o (.o (.ls 29 (.f [0, 2, 4, 7, 10, 20, 21, 22] [0] [0, 2, 4, 7, 10, 20, 21, 22, 29, 30, 31] [0] (fun (k688 : Nat) (s684 : Int) => [(10, eI s684), (31, eI (k688 : Int))]) (fun k688 s684 => []) (fun k688 s684 => .z) (fun s692 => .z))))) (fun s586 => .z))))))))))))
end Go.Proofs.YtmkamncbkkahjaaGreat
set_option linter.unusedSimpArgs false
set_option linter.unusedVariables false
namespace Go.Proofs.YtmkamncbkkahjaaGreat
open Go Go.RowKit
set_option maxRecDepth 100000
set_option maxHeartbeats 20000000
instance i_impl_number : ∀ (p0 : Int), Ct (m_impl_number p0) fun res => CallsD Tryz.prog 0o00164 [(eI p0)] (fun d => d = (.agg (rGValue res))) :=
 au Tryz.func116 m_impl_number.eq_1 .z
end Go.Proofs.YtmkamncbkkahjaaGreat
set_option linter.unusedSimpArgs false
set_option linter.unusedVariables false
namespace Go.Proofs.YtmkamncbkkahjaaGreat
open Go Go.RowKit
set_option maxRecDepth 100000
set_option maxHeartbeats 20000000
instance i_impl_values_1 : ∀ (n : Nat) (p0 : GType) (q0 : (List GData)) (q1 : Int), Ct (m_impl_values_1 n p0 q0 q1) fun res => CallsD Tryz.prog 0o00166 [(.agg (rGType p0)), .cptr [(.slice 2 (List.map rGData q0))], .cptr [(eI q1)]] (fun d => d = (eB res)) :=
 au Tryz.func118 m_impl_values_1.eq_1 .z
end Go.Proofs.YtmkamncbkkahjaaGreat
set_option linter.unusedSimpArgs false
set_option linter.unusedVariables false
namespace Go.Proofs.YtmkamncbkkahjaaGreat
open Go Go.RowKit
set_option maxRecDepth 100000
set_option maxHeartbeats 20000000
theorem c_slices_Clone_Value (p0 : (List GValue)) (res : (List GValue)) (h : m_slices_Clone_Value p0 = some res) : CallsH Tryz.prog 0o00167 [] [(.slice 3 (List.map rGValue p0))] (fun H d => H = [some ⟨3, List.map rGValue res, 0, 0x001d⟩] ∧ d = .sl 3 0 res.length) := by
 unfold m_slices_Clone_Value at h
 refine CH Tryz.func119 [.tmp 2] 0 fun β hβ => ?_
 refine sZ ?_
 apply sq
 refine sk fun K hK => ?_
 simp
 refine ⟨?_, fun hnil => ?_⟩
 ·apply hK
  refine cF ?_
  apply TrD.skip
  apply sq
  obtain ⟨x3, hx3, h⟩ := bindE h
  have hx3_r := (app_some hx3).2
  try simp only [List.length_nil, Nat.zero_add] at hx3_r
  obtain hhx3 := app_nil hx3
  subst hhx3
  refine rZ ?_ fun K hK => by simp [hx3_r]; exact hK
  cases h
  apply TrD.ret
  refine exitHG (σ' := ⟨(updD (fun _ => .any) 2 (.sl 3 0 (p0).length)), hOfO [some ⟨3, (List.map rGValue p0), 0, 0x001d⟩], 1, 8⟩) ?_ ?_
  ·exact gC [40]
  dsimp only [resD]
  exact eA
 replace h : some ([]) = some res := by simp only [hnil] at h; simpa [app] using h
 apply hK
 refine cT ?_
 refine sZ ?_
 cases h
 apply TrD.ret
 refine exitHG (σ' := ⟨(updD (fun _ => .any) 2 (.sl 3 0 0)), hOfO [some ⟨3, (List.map rGValue []), 0, 0x001d⟩], 1, 8⟩) ?_ ?_
 ·refine (Ghost.ownNil (s := 2) (by simp) 3 0x001d).trans ?_
  exact gC [32]
 dsimp only [resD]
 exact eA
instance i_slices_Clone_Value : ∀ (p0 : (List GValue)), Ct (m_slices_Clone_Value p0) fun res => CallsH Tryz.prog 0o00167 [] [(.slice 3 (List.map rGValue p0))] (fun H d => H = [some ⟨3, List.map rGValue res, 0, 0x001d⟩] ∧ d = .sl 3 0 res.length) := fun p0 => ⟨c_slices_Clone_Value p0⟩
end Go.Proofs.YtmkamncbkkahjaaGreat
set_option linter.unusedSimpArgs false
set_option linter.unusedVariables false
namespace Go.Proofs.YtmkamncbkkahjaaGreat
open Go Go.RowKit
set_option maxRecDepth 100000
set_option maxHeartbeats 20000000
instance i_impl_values : ∀ (n : Nat) (p0 : (List GData)) (p1 : GType) (p2 : Int), Ct (m_impl_values n p0 p1 p2) fun res => CallsD Tryz.prog 0o00066 [(.slice 2 (List.map rGData p0)), (.agg (rGType p1)), (eI p2)] (fun d => d = (.slice 3 (List.map rGValue res))) :=
 ar (au Tryz.func54 m_impl_values.eq_2 (.o (.o (.o (.o (.o (.i .z (.i (.pN 7 3 0x001d (.w [7] [88] [7, 26] [88] (fun (s110 : (List GValue) × Int) => [(7, .sl 3 88 (s110.1).length), (26, eI s110.2)]) (fun s110 => [(88, some ⟨3, (List.map rGValue s110.1), 0, 0x001d⟩)]) (fun s110 => .z) (fun s118 => .z))) (.o (.pN 7 3 0x001d (.ls 38 (.f [7] [120] [3, 4, 5, 7, 38, 39, 40] [0, 8, 16, 120] (fun (k60277 : Nat) (s60273 : (List GValue)) => [(7, .sl 3 120 (s60273).length), (40, eI (k60277 : Int))]) (fun k60277 s60273 => [(120, some ⟨3, (List.map rGValue s60273), 0, 0x001d⟩)]) (fun k60277 s60273 => .o (.j 13 0 [3, 4, 5, 7, 38, 39, 40] [0, 1, 2, 3] (fun (s66292 : (List GValue)) => [(7, .sl 3 3 (s66292).length)]) (fun s66292 => [(3, some ⟨3, (List.map rGValue s66292), 0, 0x001d⟩)]) (.o (.o (.i .z (.ls 47 (.f [3, 4, 5, 7, 12, 38, 39, 40] [0, 1, 2, 3, 116] [3, 4, 5, 7, 10, 12, 38, 39, 40, 54, 55, 56] [0, 1, 2, 3, 116] (fun (k71305 : Nat) (s71301 : (List GValue)) => [(12, .sl 3 116 (s71301).length), (56, eI (k71305 : Int))]) (fun k71305 s71301 => [(116, some ⟨3, (List.map rGValue s71301), 0, 0x001d⟩)]) (fun k71305 s71301 => .o (.o (.pN 16 3 0x001d (.ll 4 (.f [3, 4, 5, 7, 10, 16, 38, 39, 40, 54, 55, 56] [0, 1, 2, 3, 125] [3, 4, 5, 7, 10, 15, 16, 38, 39, 40, 54, 55, 56, 65, 66, 67] [0, 1, 2, 3, 125, 4] (fun (k72223 : Nat) (s72219 : (List GValue)) => [(16, .sl 3 125 (s72219).length), (67, eI (k72223 : Int))]) (fun k72223 s72219 => [(125, some ⟨3, (List.map rGValue s72219), 0, 0x001d⟩)]) (fun k72223 s72219 => .o (.ls 15 (.f [3, 4, 5, 7, 10, 15, 16, 38, 39, 40, 54, 55, 56, 65, 66, 67] [0, 1, 2, 3, 4, 5] [3, 4, 5, 7, 10, 15, 16, 18, 38, 39, 40, 54, 55, 56, 65, 66, 67, 71, 72, 73] [0, 1, 2, 3, 4, 30, 5] (fun (k72293 : Nat) (s72289 : (List GValue)) => [(16, .sl 3 4 (s72289).length), (73, eI (k72293 : Int))]) (fun k72293 s72289 => [(4, some ⟨3, (List.map rGValue s72289), 0, 0x001d⟩)]) (fun k72293 s72289 => .o (.g [3, 4, 5, 7, 10, 15, 16, 18, 20, 38, 39, 40, 54, 55, 56, 65, 66, 67, 71, 72, 73] [0, 1, 2, 3, 4, 5, 31, 6] [] [] (.o (.o (.o (.dz [0, 1, 2, 3, 5, 4, 6, 7, 8, 9, 10, 11] [5, 6] [1048659] [] (.pF 2097160 .z))))))) (fun s72297 => .z)))) (fun s72227 => .z)))))) (fun s71309 => .z)))))) (fun _ => .z))) (fun s60281 => .z)))))))))))))
end Go.Proofs.YtmkamncbkkahjaaGreat
set_option linter.unusedSimpArgs false
set_option linter.unusedVariables false
namespace Go.Proofs.YtmkamncbkkahjaaGreat
open Go Go.RowKit
set_option maxRecDepth 100000
set_option maxHeartbeats 20000000
instance i_impl_ValuesUpTo : ∀ (n : Nat) (p0 : (List GData)) (p1 : GType) (p2 : Int), Ct (m_impl_ValuesUpTo n p0 p1 p2) fun res => CallsD Tryz.prog 0o00021 [(.slice 2 (List.map rGData p0)), (.agg (rGType p1)), (eI p2)] (fun d => d = .tup [(.slice 3 (List.map rGValue res.1)), (eB res.2)]) :=
 au Tryz.func17 m_impl_ValuesUpTo.eq_1 (.o (.o (.o (.o (.o (.i .z (.o (.i .z (.o (.i .z (.o (.pN 8 3 0x001d (.ls 30 (.f [8] [208] [8, 30, 31, 32] [208] (fun (k92 : Nat) (s88 : (List GValue)) => [(8, .sl 3 208 (s88).length), (32, eI (k92 : Int))]) (fun k92 s88 => [(208, some ⟨3, (List.map rGValue s88), 0, 0x001d⟩)]) (fun k92 s88 => .z) (fun s96 => .z)))))))))))))))
theorem c_impl_ValuesUpTo (n : Nat) (p0 : (List GData)) (p1 : GType) (p2 : Int) : ∀ res, m_impl_ValuesUpTo n p0 p1 p2 = some res → CallsD Tryz.prog 0o00021 [(.slice 2 (List.map rGData p0)), (.agg (rGType p1)), (eI p2)] (fun d => d = .tup [(.slice 3 (List.map rGValue res.1)), (eB res.2)]) := (i_impl_ValuesUpTo n p0 p1 p2).pf
end Go.Proofs.YtmkamncbkkahjaaGreat
set_option linter.unusedSimpArgs false
set_option linter.unusedVariables false
namespace Go.Proofs.YtmkamncbkkahjaaGreat
open Go Go.RowKit
set_option maxRecDepth 100000
set_option maxHeartbeats 20000000
instance i_impl_ownPattern : ∀ (n : Nat) (p0 : GPattern), Ct (m_impl_ownPattern n p0) fun res => CallsD Tryz.prog 0o00070 [(.agg (rGPattern p0))] (fun d => d = (.agg (rGPattern res))) :=
 ar (au Tryz.func56 m_impl_ownPattern.eq_2 (.o (.o (.b fun (p0 : GPattern) => .pC 0 5 6 0x0029 (.ls 7 (.f [1, 2] [0, 80, 8] [1, 2, 9, 10, 11] [0, 80, 8] (fun (k56 : Nat) (s52 : (List GPattern)) => [(11, eI (k56 : Int))]) (fun k56 s52 => [(0, some ⟨6, [[(eI p0.op), (eI p0.ctor), (eI p0.n), (eI p0.m), (eI p0.var), (.sl 6 1 (s52).length)]], 0, 0x0029⟩), (80, some ⟨6, (List.map rGPattern s52), 0, 0x0029⟩)]) (fun k56 s52 => .o (.g [1, 2, 5, 9, 10, 11] [0, 1, 2, 27] [] [(0, some ⟨6, [[(eI p0.op), (eI p0.ctor), (eI p0.n), (eI p0.m), (eI p0.var), (.sl 6 1 (s52).length)]], 0, 0x0029⟩)] (.o (.o (.d [0, 1, 2, 3, 4, 5, 6, 7] [0, 3] [21] .z))))) (fun s60 => .z)))))))
end Go.Proofs.YtmkamncbkkahjaaGreat
set_option linter.unusedSimpArgs false
set_option linter.unusedVariables false
namespace Go.Proofs.YtmkamncbkkahjaaGreat
open Go Go.RowKit
set_option maxRecDepth 100000
set_option maxHeartbeats 20000000
instance i_impl_patternOk : ∀ (n : Nat) (p0 : (List GData)) (p1 : GType) (p2 : GPattern), Ct (m_impl_patternOk n p0 p1 p2) fun res => CallsD Tryz.prog 0o00071 [(.slice 2 (List.map rGData p0)), (.agg (rGType p1)), (.agg (rGPattern p2))] (fun d => d = (eB res)) :=
 au Tryz.func57 m_impl_patternOk.eq_1 .z
end Go.Proofs.YtmkamncbkkahjaaGreat
set_option linter.unusedSimpArgs false
set_option linter.unusedVariables false
namespace Go.Proofs.YtmkamncbkkahjaaGreat
open Go Go.RowKit
set_option maxRecDepth 100000
set_option maxHeartbeats 20000000
instance i_impl_ClauseValid : ∀ (n : Nat) (p0 : (List GData)) (p1 : GType) (p2 : GClause), Ct (m_impl_ClauseValid n p0 p1 p2) fun res => CallsD Tryz.prog 0o00026 [(.slice 2 (List.map rGData p0)), (.agg (rGType p1)), (.agg (rGClause p2))] (fun d => d = (eB res)) :=
 au Tryz.func22 m_impl_ClauseValid.eq_1 .z
theorem c_impl_ClauseValid (n : Nat) (p0 : (List GData)) (p1 : GType) (p2 : GClause) : ∀ res, m_impl_ClauseValid n p0 p1 p2 = some res → CallsD Tryz.prog 0o00026 [(.slice 2 (List.map rGData p0)), (.agg (rGType p1)), (.agg (rGClause p2))] (fun d => d = (eB res)) := (i_impl_ClauseValid n p0 p1 p2).pf
end Go.Proofs.YtmkamncbkkahjaaGreat
set_option linter.unusedSimpArgs false
set_option linter.unusedVariables false
namespace Go.Proofs.YtmkamncbkkahjaaGreat
open Go Go.RowKit
set_option maxRecDepth 100000
set_option maxHeartbeats 20000000
instance i_impl_narrow : ∀ (n : Nat) (p0 : GPattern) (p1 : Int) (p2 : Int), Ct (m_impl_narrow n p0 p1 p2) fun res => CallsD Tryz.prog 0o00265 [(.agg (rGPattern p0)), (eI p1), (eI p2)] (fun d => d = .tup [(.agg (rGPattern res.1)), (eB res.2)]) :=
 ar (au Tryz.func181 m_impl_narrow.eq_2 (.o (.o (.o (.o (.o (.i .z (.i .z (.i (.g [6, 8] [8, 160] [] [] (.d [0, 1, 2, 3, 4, 5, 6, 7] [1] [] .z)) .z)))))))))
end Go.Proofs.YtmkamncbkkahjaaGreat
set_option linter.unusedSimpArgs false
set_option linter.unusedVariables false
namespace Go.Proofs.YtmkamncbkkahjaaGreat
open Go Go.RowKit
set_option maxRecDepth 100000
set_option maxHeartbeats 20000000
theorem c_slices_Clone_Pattern (p0 : (List GPattern)) (res : (List GPattern)) (h : m_slices_Clone_Pattern p0 = some res) : CallsH Tryz.prog 0o00232 [] [(.slice 6 (List.map rGPattern p0))] (fun H d => H = [some ⟨6, List.map rGPattern res, 0, 0x0029⟩] ∧ d = .sl 6 0 res.length) := by
 unfold m_slices_Clone_Pattern at h
 refine CH Tryz.func154 [.tmp 2] 0 fun β hβ => ?_
 refine sZ ?_
 apply sq
 refine sk fun K hK => ?_
 simp
 refine ⟨?_, fun hnil => ?_⟩
 ·apply hK
  refine cF ?_
  apply TrD.skip
  apply sq
  obtain ⟨x3, hx3, h⟩ := bindE h
  have hx3_r := (app_some hx3).2
  try simp only [List.length_nil, Nat.zero_add] at hx3_r
  obtain hhx3 := app_nil hx3
  subst hhx3
  refine rZ ?_ fun K hK => by simp [hx3_r]; exact hK
  cases h
  apply TrD.ret
  refine exitHG (σ' := ⟨(updD (fun _ => .any) 2 (.sl 6 0 (p0).length)), hOfO [some ⟨6, (List.map rGPattern p0), 0, 0x0029⟩], 1, 8⟩) ?_ ?_
  ·exact gC [40]
  dsimp only [resD]
  exact eA
 replace h : some ([]) = some res := by simp only [hnil] at h; simpa [app] using h
 apply hK
 refine cT ?_
 refine sZ ?_
 cases h
 apply TrD.ret
 refine exitHG (σ' := ⟨(updD (fun _ => .any) 2 (.sl 6 0 0)), hOfO [some ⟨6, (List.map rGPattern []), 0, 0x0029⟩], 1, 8⟩) ?_ ?_
 ·refine (Ghost.ownNil (s := 2) (by simp) 6 0x0029).trans ?_
  exact gC [32]
 dsimp only [resD]
 exact eA
instance i_slices_Clone_Pattern : ∀ (p0 : (List GPattern)), Ct (m_slices_Clone_Pattern p0) fun res => CallsH Tryz.prog 0o00232 [] [(.slice 6 (List.map rGPattern p0))] (fun H d => H = [some ⟨6, List.map rGPattern res, 0, 0x0029⟩] ∧ d = .sl 6 0 res.length) := fun p0 => ⟨c_slices_Clone_Pattern p0⟩
end Go.Proofs.YtmkamncbkkahjaaGreat
