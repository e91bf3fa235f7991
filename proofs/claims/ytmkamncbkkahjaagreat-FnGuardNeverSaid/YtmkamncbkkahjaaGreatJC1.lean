import Derived.Test.YtmkamncbkkahjaaGreatJMir
import Derived.Test.YtmkamncbkkahjaaGreatJZap
set_option linter.unusedSimpArgs false
set_option linter.unusedVariables false
namespace Go.Proofs.YtmkamncbkkahjaaGreat
open Go Go.RowKit
set_option maxRecDepth 100000
set_option maxHeartbeats 20000000
theorem c_impl_within (p0 : Int) (p1 : Int) (p2 : Int) (res : Bool) (h : m_impl_within p0 p1 p2 = some res) : CallsD Tryz.prog 0o00064 [(eI p0), (eI p1), (eI p2)] (fun d => d = (eB res)) := by
 unfold m_impl_within at h
 refine CD Tryz.func52 [.tmp 6] fun β hβ => ?_
 refine sZ ?_
 apply sq
 rcases bb (ile p1 p0) with hb2 | hb2
 ·rw [if_pos hb2] at h
  refine rZ ?_ fun K hK => by simp [hb2]; exact hK
  cases h
  apply TrD.ret
  exact xD
 rw [iN hb2] at h
 refine rZ ?_ fun K hK => by simp [hb2]; exact hK
 cases h
 apply TrD.ret
 exact xD
theorem c_impl_match : ∀ (n : Nat) (p0 : GPattern) (p1 : GValue) (res : (List GBind) × Bool), m_impl_match n p0 p1 = some res → CallsH Tryz.prog 0o00262 [] [(.agg (rGPattern p0)), (.agg (rGValue p1))] (fun H d => H = [some ⟨4, List.map rGBind res.1, 0, 0x0057⟩] ∧ d = .tup [.sl 4 0 res.1.length, (eB res.2)]) := by
 intro n
 induction n with
 | zero => intro p0 p1 res h; cases h
 | succ n ih =>
  intro p0 p1 res h
  rw [m_impl_match.eq_2] at h
  refine CH Tryz.func178 [.tmp 4, .tmp 5] 0 fun β hβ => ?_
  refine sZ ?_
  apply sq
  refine sZ ?_
  apply TrD.block
  refine sZ ?_
  refine TrD.cond (b := ieq p0.op 1) (by simp) (fun q => ?_) (fun q => ?_)
  ·rw [if_pos q] at h
   refine sZ ?_ fun K hK => by simp [q]; exact hK
   cases h
   apply TrD.ret
   refine exitHG (σ' := ⟨(updD (updD (fun _ => .any) 4 (.sl 4 0 0)) 5 (eB true)), hOfO [some ⟨4, (List.map rGBind []), 0, 0x0057⟩], 1, 105⟩) ?_ ?_
   ·refine (Ghost.ownNil (s := 4) (by simp) 4 0x0057).trans ?_
    exact gC [80]
   dsimp only [resD]
   exact eA
  rw [iN q] at h
  refine sZ ?_ fun K hK => by simp [q]; exact hK
  refine TrD.cond (b := ieq p0.op 2) (by simp) (fun r => ?_) (fun r => ?_)
  ·rw [if_pos r] at h
   refine sZ ?_ fun K hK => by simp [r]; exact hK
   cases h
   apply TrD.ret
   refine exitHG (σ' := ⟨(updD (updD (fun _ => .any) 4 (.sl 4 0 ([(GBind.mk p0.var p1)]).length)) 5 (eB true)), hOfO [some ⟨4, (List.map rGBind [(GBind.mk p0.var p1)]), 0, 0x0057⟩], 1, 105⟩) ?_ ?_
   ·exact gC [112]
   dsimp only [resD]
   exact eA
  rw [iN r] at h
  refine sZ ?_ fun K hK => by simp [r]; exact hK
  refine TrD.cond (b := ieq p0.op 3) (by simp) (fun t => ?_) (fun t => ?_)
  ·rw [if_pos t] at h
   apply sq
   obtain ⟨P, aa, h⟩ := bindE h
   refine rk fun K hK => ?_
   simp [t]
   refine cp (c_impl_within p1.n p0.n p0.m _ aa) ?_
   simp
   apply hK
   cases h
   apply TrD.ret
   refine exitHG (σ' := ⟨(updD (updD (fun _ => .any) 4 (.sl 4 0 0)) 5 (eB P)), hOfO [some ⟨4, (List.map rGBind []), 0, 0x0057⟩], 1, 105⟩) ?_ ?_
   ·refine (Ghost.ownNil (s := 4) (by simp) 4 0x0057).trans ?_
    exact gC [168]
   dsimp only [resD]
   exact eA
  rw [iN t] at h
  refine sZ ?_ fun K hK => by simp [t]; exact hK
  refine TrD.cond (b := ieq p0.op 5) (by simp) (fun j => ?_) (fun j => ?_)
  ·rw [if_pos j] at h
   apply sq
   apply sq
   refine TrD.ghost (σ' := ⟨(updD (updD (fun _ => .any) 2 (.ptr 6 0 0 0)) 3 (.ptr 3 1 0 0)), hOfO [some ⟨6, [(rGPattern p0)], 0, 0x0029⟩, some ⟨3, [(rGValue p1)], 0, 0x001d⟩], 2, 105⟩) ?_ ?_
   ·exact gC [0, 8]
   obtain ⟨aj, I, h⟩ := bindE h
   obtain ⟨f, ab, h⟩ := bindE h
   refine TrD.draw tysOk mixed [0, 1, 2, 3, 4, 5, 6, 7, 8, 9, 10] [0, 1] [] (by rfl) rfl (fun K hK => ?_)
   simp [idx_inb I, idx_row I]
   refine callK (views_same _ _) (.same _ _) [] (ih aj p1 _ ab) (by decide) .nil (.cons (ren_le (by simp) (by simp)) (.cons (ren_le (by simp) (by simp)) .nil)) (fun ao az X => ?_)
   obtain ⟨rfl, rfl⟩ := X
   refine ⟨by simp, [some ⟨4, (List.map rGBind f.1), 0, 0x0057⟩], (.tup [(.sl 4 3 (f.1).length), (eB f.2)]), (.cons (optRen_same (by simp)) .nil), (ren_tup (.cons (ren_sl (by rfl)) (.cons (ren_free (by simp)) .nil))), ?_⟩
   simp [setMany, newNames]
   apply hK
   refine sZ ?_
   refine TrD.cond (b := f.2) (by simp) (fun k => ?_) (fun k => ?_)
   ·rw [if_pos k] at h
    refine sZ ?_ fun K hK => by simp [k]; exact hK
    cases h
    apply TrD.ret
    refine exitHG (σ' := ⟨(updD (updD (fun _ => .any) 4 (.sl 4 0 (f.1).length)) 5 (eB true)), hOfO [some ⟨4, (List.map rGBind f.1), 0, 0x0057⟩], 1, 105⟩) ?_ ?_
    ·exact gC [3]
    dsimp only [resD]
    exact eA
   rw [iN k] at h
   apply TrD.skip
   apply sq
   refine TrD.ghost (σ' := ⟨(updD (updD (fun _ => .any) 2 (.ptr 6 0 0 0)) 3 (.ptr 3 1 0 0)), hOfO [some ⟨6, [(rGPattern p0)], 0, 0x0029⟩, some ⟨3, [(rGValue p1)], 0, 0x001d⟩], 2, 105⟩) ?_ ?_
   ·exact gC [0, 1]
   obtain ⟨ak, J, h⟩ := bindE h
   obtain ⟨e, ac, h⟩ := bindE h
   refine TrD.draw tysOk mixed [0, 1, 2, 3, 4, 5, 6, 7, 8, 9] [0, 1] [] (by rfl) rfl (fun K hK => ?_)
   simp [idx_inb J, idx_row J]
   refine callK (views_same _ _) (.same _ _) [] (ih ak p1 _ ac) (by decide) .nil (.cons (ren_le (by simp) (by simp)) (.cons (ren_le (by simp) (by simp)) .nil)) (fun an ay W => ?_)
   obtain ⟨rfl, rfl⟩ := W
   refine ⟨by simp, [some ⟨4, (List.map rGBind e.1), 0, 0x0057⟩], (.tup [(.sl 4 3 (e.1).length), (eB e.2)]), (.cons (optRen_same (by simp)) .nil), (ren_tup (.cons (ren_sl (by rfl)) (.cons (ren_free (by simp)) .nil))), ?_⟩
   simp [setMany, newNames]
   apply hK
   cases h
   apply TrD.ret
   refine exitHG (σ' := ⟨(updD (updD (fun _ => .any) 4 (.sl 4 0 (e.1).length)) 5 (eB e.2)), hOfO [some ⟨4, (List.map rGBind e.1), 0, 0x0057⟩], 1, 105⟩) ?_ ?_
   ·exact gC [3]
   dsimp only [resD]
   exact eA
  rw [iN j] at h
  refine sZ ?_ fun K hK => by simp [j]; exact hK
  refine TrD.cond (b := ieq p0.op 6) (by simp) (fun l => ?_) (fun l => ?_)
  ·rw [if_pos l] at h
   apply sq
   refine TrD.ghost (σ' := ⟨(updD (updD (fun _ => .any) 2 (.ptr 6 0 0 0)) 3 (.ptr 3 1 0 0)), hOfO [some ⟨6, [(rGPattern p0)], 0, 0x0029⟩, some ⟨3, [(rGValue p1)], 0, 0x001d⟩], 2, 105⟩) ?_ ?_
   ·exact gC [0, 8]
   obtain ⟨al, M, h⟩ := bindE h
   obtain ⟨v, ad, h⟩ := bindE h
   refine TrD.draw tysOk mixed [0, 1, 2, 3, 4, 5, 6, 7, 8, 9, 10] [0, 1] [] (by rfl) rfl (fun K hK => ?_)
   simp [idx_inb M, idx_row M]
   refine callK (views_same _ _) (.same _ _) [] (ih al p1 _ ad) (by decide) .nil (.cons (ren_le (by simp) (by simp)) (.cons (ren_le (by simp) (by simp)) .nil)) (fun ap aA Y => ?_)
   obtain ⟨rfl, rfl⟩ := Y
   refine ⟨by simp, [some ⟨4, (List.map rGBind v.1), 0, 0x0057⟩], (.tup [(.sl 4 3 (v.1).length), (eB v.2)]), (.cons (optRen_same (by simp)) .nil), (ren_tup (.cons (ren_sl (by rfl)) (.cons (ren_free (by simp)) .nil))), ?_⟩
   simp [setMany, newNames]
   apply hK
   apply sq
   obtain ⟨w, A, h⟩ := bindE h
   have N := (app_some A).2
   try simp only [List.length_cons, List.length_nil, Nat.zero_add, one_add_len] at N
   refine rZ ?_ fun K hK => by simp [N]; exact hK
   cases h
   apply TrD.ret
   refine exitHG (σ' := ⟨(updD (updD (fun _ => .any) 4 (.sl 4 0 (w).length)) 5 (eB v.2)), hOfO [some ⟨4, (List.map rGBind w), 0, 0x0057⟩], 1, 105⟩) ?_ ?_
   ·exact gc [58] hβ ((va.s 58 (by simp [(app_some A).1])).f) (ln.f (by simp [(app_some A).1]))
   dsimp only [resD]
   exact eA
  rw [iN l] at h
  apply TrD.skip
  apply sq
  refine sZ ?_ fun K hK => by simp [l]; exact hK
  refine TrD.cond (b := !ieq p0.ctor p1.ctor) (by simp) (fun u => ?_) (fun u => ?_)
  ·rw [if_pos u] at h
   refine sZ ?_ fun K hK => by simp [u]; exact hK
   cases h
   apply TrD.ret
   refine exitHG (σ' := ⟨(updD (updD (fun _ => .any) 4 (.sl 4 0 0)) 5 (eB false)), hOfO [some ⟨4, (List.map rGBind []), 0, 0x0057⟩], 1, 105⟩) ?_ ?_
   ·refine (Ghost.ownNil (s := 4) (by simp) 4 0x0057).trans ?_
    exact gC [184]
   dsimp only [resD]
   exact eA
  rw [iN u] at h
  apply TrD.skip
  refine sZ ?_ fun K hK => by simp [u]; exact hK
  apply sq
  refine sZ ?_
  obtain ⟨ag, T, h⟩ := bindE h
  obtain ⟨Q, E⟩ : ∃ S : (List GBind) → St, S = fun g => ⟨(updD (fun _ => .any) 10 (.sl 4 0 (g).length)), hOfO [some ⟨4, (List.map rGBind g), 0, 0x0057⟩], 1, 105⟩ := ⟨_, rfl⟩
  refine TrD.joinQ Q (fun z => ag = Ctl.brk z) (fun _ _ hg h => TrD.ghost hg h) ?_ (fun g hz => ?_)
  ·apply TrD.block
   obtain ⟨R, x⟩ : ∃ S : Nat → (List GBind) → St, S = fun i a => ⟨(updD (updD (updD (updD (updD (fun _ => .any) 3 (.ptr 3 0 0 0)) 10 (.sl 4 1 (a).length)) 81 (.slice 6 (List.map rGPattern p0.kids))) 82 (eI (lenZ p0.kids.length))) 83 (eI (i : Int))), hOfO [some ⟨3, [(rGValue p1)], 0, 0x001d⟩, some ⟨4, (List.map rGBind a), 0, 0x0057⟩], 2, 105⟩ := ⟨_, rfl⟩
   refine TrD.limS (sz := 6) (rows := List.map rGPattern p0.kids) (seen_slot (d := .slice 6 (List.map rGPattern p0.kids)) 81 (by simp)) (fun hlim => ?_)
   rw [List.length_map] at hlim
   refine TrD.forL R T hlim ?_ (fun i C a O ar au af o av c ae aq => ?_) (fun a ah => ?_)
   ·rw [x]
    refine (Ghost.ownNil (s := 10) (by simp) 4 0x0057).trans ?_
    exact gC [8, 208]
   ·rw [congrFun (congrFun x i) a]
    refine sZ ?_ fun K hK => by simp [af]; exact hK
    apply sq
    refine cT ?_
    apply TrD.skip
    apply sq
    apply TrD.block
    refine sZ ?_ fun K hK => by simp [idx_inb O, idx_row O]; exact hK
    apply sq
    refine TrD.ghost (σ' := ⟨(updD (updD (updD (updD (updD (updD (updD (fun _ => .any) 3 (.ptr 3 0 0 0)) 10 (.sl 4 1 (a).length)) 11 (eI (i : Int))) 12 (.ptr 6 2 0 0)) 81 (.slice 6 (List.map rGPattern p0.kids))) 82 (eI (lenZ p0.kids.length))) 83 (eI (i : Int))), hOfO [some ⟨3, [(rGValue p1)], 0, 0x001d⟩, some ⟨4, (List.map rGBind a), 0, 0x0057⟩, some ⟨6, [(rGPattern C)], 0, 0x0029⟩], 3, 105⟩) ?_ ?_
    ·exact gC [0, 1, 34]
    obtain ⟨ai, F, c⟩ := bindE c
    obtain ⟨B, Z, c⟩ := bindE c
    refine TrD.draw tysOk mixed [0, 1, 2, 3, 4, 5, 6, 7, 8, 9, 10, 11] [0, 2] [] (by rfl) rfl (fun K hK => ?_)
    simp [idx_inb F, idx_row F]
    refine callK (views_same _ _) (.same _ _) [] (ih C ai _ Z) (by decide) .nil (.cons (ren_le (by simp) (by simp)) (.cons (ren_le (by simp) (by simp)) .nil)) (fun am ax U => ?_)
    obtain ⟨rfl, rfl⟩ := U
    refine ⟨by simp, [some ⟨4, (List.map rGBind B.1), 0, 0x0057⟩], (.tup [(.sl 4 4 (B.1).length), (eB B.2)]), (.cons (optRen_same (by simp)) .nil), (ren_tup (.cons (ren_sl (by rfl)) (.cons (ren_free (by simp)) .nil))), ?_⟩
    simp [setMany, newNames]
    apply hK
    apply sq
    refine sZ ?_
    refine TrD.cond (b := (!B.2)) (by simp) (fun p => ?_) (fun p => ?_)
    ·rw [if_pos p] at c
     refine sZ ?_ fun K hK => by simp [p]; exact hK
     cases c
     obtain rfl := ae _ rfl
     cases h
     apply TrD.ret
     refine exitHG (σ' := ⟨(updD (updD (fun _ => .any) 4 (.sl 4 0 0)) 5 (eB false)), hOfO [some ⟨4, (List.map rGBind []), 0, 0x0057⟩], 1, 105⟩) ?_ ?_
     ·refine (Ghost.ownNil (s := 4) (by simp) 4 0x0057).trans ?_
      exact gC [43]
     dsimp only [resD]
     exact eA
    rw [iN p] at c
    apply TrD.skip
    obtain ⟨D, y, c⟩ := bindE c
    have G := (app_some y).2
    try simp only [List.length_append, List.length_cons, List.length_nil, List.length_map, Nat.zero_add, Nat.add_zero, Nat.reduceAdd, one_add_len, two_add_len] at G
    refine rZ ?_ fun K hK => by simp [p, G]; exact hK
    refine rZ ?_
    cases c
    refine ToAny.mk D rfl ?_
    rw [x]
    exact gc [0, 43] hβ (((((va.p 0 (by simp [o])).s 43 (by simp [(app_some y).1, o])).f (by simp [o])).f (by simp [o])).f (by simp [o])) ((ln.f (by simp [(app_some y).1])).f)
   rw [congrFun (congrFun x _) a]
   refine sZ ?_ fun K hK => by simp [ilt_len p0.kids.length]; exact hK
   apply sq
   refine cF ?_
   refine TrD.exit ?_
   try simp only [↓reduceIte, Nat.reduceEqDiff, Nat.zero_ne_one, Nat.one_ne_zero, OfNat.ofNat_ne_zero, OfNat.zero_ne_ofNat, OfNat.one_ne_ofNat, OfNat.ofNat_ne_one]
   refine ToAny.mk a ah ?_
   rw [E]
   exact gC [1]
  subst hz
  try dsimp only at h
  rw [congrFun E g]
  refine sZ ?_
  cases h
  apply TrD.ret
  refine exitHG (σ' := ⟨(updD (updD (fun _ => .any) 4 (.sl 4 0 (g).length)) 5 (eB true)), hOfO [some ⟨4, (List.map rGBind g), 0, 0x0057⟩], 1, 105⟩) ?_ ?_
  ·exact gC [0]
  dsimp only [resD]
  exact eA
theorem c_slices_insertionSortCmpFunc_Bind (n : Nat) (p0 : (List GBind)) (p1 : Int) (p2 : Int) (p3_f : FuncId) (p3_c : List D) (p3_x : ∀ d ∈ p3_c, Free d) (p3 : (GBind → GBind → Option Int)) (p3_h : ∀ a0 a1 r, p3 a0 a1 = some r → CallsD Tryz.prog p3_f ([(.agg (rGBind a0)), (.agg (rGBind a1))] ++ p3_c) (fun d => d = (eI r))) (res : (List GBind)) (h : m_slices_insertionSortCmpFunc_Bind n p0 p1 p2 p3 = some res) : CallsH Tryz.prog 0o00435 [⟨4, List.map rGBind p0, 0, 0x0057⟩] [.sl 4 0 p0.length, (eI p1), (eI p2), .clos p3_f p3_c] (fun H d => H = [some ⟨4, List.map rGBind res, 0, 0x0057⟩] ∧ d = .tup []) := by
 unfold m_slices_insertionSortCmpFunc_Bind at h
 have p3_y : Free (.clos p3_f p3_c) := free_clos p3_x
 have p3_z := eq_true p3_x
 refine CH Tryz.func285 [] 1 fun β hβ => ?_
 refine sZ ?_
 obtain ⟨M, E, h⟩ := bindE h
 obtain ⟨y, w⟩ : ∃ S : ((List GBind) × Int) → St, S = fun l => ⟨(fun _ => .any), hOfO [some ⟨4, (List.map rGBind l.1), 0, 0x0057⟩], 1, 53⟩ := ⟨_, rfl⟩
 refine TrD.joinQ y (fun z => M = Ctl.brk z) (fun _ _ hg h => exitH_stab hg h) ?_ (fun l hz => ?_)
 ·apply TrD.block
  obtain ⟨B, q⟩ : ∃ S : ((List GBind) × Int) → St, S = fun c => ⟨(updD (updD (updD (updD (updD (fun _ => .any) 0 (.sl 4 0 (c.1).length)) 1 (eI p1)) 2 (eI p2)) 3 (.clos p3_f p3_c)) 8 (eI c.2)), hOfO [some ⟨4, (List.map rGBind c.1), 0, 0x0057⟩], 1, 53⟩ := ⟨_, rfl⟩
  refine TrD.whileL B E ?_ (fun c V g R G => ?_)
  ·rw [q]
   exact gc [0] hβ (((((va.s 0).f).f).f (by simp) (by simp [p3_y])).f) ln.f
  rw [congrFun q c]
  apply sq
  refine sZ ?_
  refine TrD.cond (b := ilt c.2 p2) (by simp) (fun o => ?_) (fun o => ?_)
  ·rw [if_pos o] at g
   apply TrD.skip
   apply sq
   apply TrD.block
   refine sZ ?_ fun K hK => by simp [o]; exact hK
   obtain ⟨N, F, g⟩ := bindE g
   obtain ⟨A, p⟩ : ∃ S : ((List GBind) × Int) → St, S = fun i => ⟨(updD (updD (updD (updD (updD (fun _ => .any) 0 (.sl 4 0 (i.1).length)) 1 (eI p1)) 2 (eI p2)) 3 (.clos p3_f p3_c)) 8 (eI c.2)), hOfO [some ⟨4, (List.map rGBind i.1), 0, 0x0057⟩], 1, 53⟩ := ⟨_, rfl⟩
   refine TrD.joinQ A (fun z => N = Ctl.brk z) (fun _ _ hg h => TrD.ghost hg h) ?_ (fun i hz => ?_)
   ·apply TrD.block
    obtain ⟨C, s⟩ : ∃ S : ((List GBind) × Int) → St, S = fun a => ⟨(updD (updD (updD (updD (updD (updD (fun _ => .any) 0 (.sl 4 0 (a.1).length)) 1 (eI p1)) 2 (eI p2)) 3 (.clos p3_f p3_c)) 8 (eI c.2)) 9 (eI a.2)), hOfO [some ⟨4, (List.map rGBind a.1), 0, 0x0057⟩], 1, 53⟩ := ⟨_, rfl⟩
    refine TrD.whileL C F ?_ (fun a W e T x => ?_)
    ·rw [s]
     exact gc [0] hβ ((((((va.s 0).f).f).f (by simp) (by simp [p3_y])).f).f) ln.f
    rw [congrFun s a]
    apply sq
    apply sq
    refine TrD.ghost (σ' := ⟨(updD (updD (updD (updD (updD (updD (fun _ => .any) 0 (.sl 4 0 (a.1).length)) 1 (eI p1)) 2 (eI p2)) 3 (.clos p3_f p3_c)) 8 (eI c.2)) 9 (eI a.2)), hOfO [some ⟨4, (List.map rGBind a.1), 0, 0x0057⟩], 1, 53⟩) ?_ ?_
    ·exact gc [0] hβ ((((((va.s 0).f).f).f (by simp) (by simp [p3_y])).f).f) ln.f
    rcases bb (ilt p1 a.2) with m | m
    ·rw [if_pos m] at e
     obtain ⟨P, j, e⟩ := bindE e
     obtain ⟨Q, k, e⟩ := bindE e
     obtain ⟨O, J, e⟩ := bindE e
     refine TrD.draw tysOk mixed [0, 1, 2, 3, 4, 5, 6, 7, 8, 9, 10, 11, 12, 13, 14, 15, 16] [0] [] (by rfl) rfl (fun K hK => ?_)
     simp [m, idx_inb j, idx_lt j, elt (idx_get j), idx_inb k, idx_lt k, elt (idx_get k)]
     refine cp (p3_h P Q _ J) ?_ (by simp) (by simp [p3_z])
     simp
     apply hK
     refine TrD.cond (b := ilt O 0) (by simp) (fun f => ?_) (fun f => ?_)
     ·rw [if_pos f] at e
      apply TrD.skip
      apply sq
      apply TrD.block
      refine TrD.ghost (σ' := ⟨(updD (updD (updD (updD (updD (updD (fun _ => .any) 0 (.sl 4 0 (a.1).length)) 1 (eI p1)) 2 (eI p2)) 3 (.clos p3_f p3_c)) 8 (eI c.2)) 9 (eI a.2)), hOfO [some ⟨4, (List.map rGBind a.1), 0, 0x0057⟩], 1, 53⟩) ?_ ?_
      ·exact gc [0] hβ ((((((va.s 0 (by simp [f])).f (by simp [f])).f (by simp [f])).f (by simp [f]) (by simp [p3_y])).f (by simp [f])).f (by simp [f])) ln.f
      obtain ⟨Y, t, e⟩ := bindE e
      obtain ⟨Z, U, e⟩ := bindE e
      obtain ⟨v, u, e⟩ := bindE e
      refine TrD.draw tysOk mixed [0, 1, 2, 3, 4, 5, 6, 7, 8, 9, 10, 11, 12, 13, 14, 15, 16, 17] [0] [51, 52] (by rfl) rfl (fun K hK => ?_)
      simp [idx_inb j, idx_lt j, elt (idx_get j), idx_inb k, idx_lt k, elt (idx_get k)]
      apply hK
      refine rZ ?_
      cases e
      refine ToAny.mk (v, wsub .i64 a.2 1) rfl ?_
      rw [s]
      exact gc [0] hβ ((((((va.s 0 (by simp [(setI_some t).1, (setI_some u).1])).f).f).f (by simp) (by simp [p3_y])).f).f) (ln.f (by simp [(setI_some t).1, (setI_some u).1]))
     rw [iN f] at e
     refine TrD.exit ?_
     try simp only [↓reduceIte, Nat.reduceEqDiff, Nat.zero_ne_one, Nat.one_ne_zero, OfNat.ofNat_ne_zero, OfNat.zero_ne_ofNat, OfNat.one_ne_ofNat, OfNat.ofNat_ne_one]
     cases e
     obtain rfl := x _ rfl
     refine ToAny.mk (a.1, a.2) rfl ?_
     rw [p]
     exact gc [0] hβ (((((va.s 0 (by simp [f])).f (by simp [f])).f (by simp [f])).f (by simp [f]) (by simp [p3_y])).f (by simp [f])) ln.f
    rw [iN m] at e
    refine TrD.draw tysOk mixed [0, 1, 2, 3, 4, 5, 6, 7, 8, 9, 10, 11, 12, 13, 14, 15, 16] [] [] (by rfl) rfl (fun K hK => ?_)
    simp [m]
    apply hK
    refine cF ?_
    refine TrD.exit ?_
    try simp only [↓reduceIte, Nat.reduceEqDiff, Nat.zero_ne_one, Nat.one_ne_zero, OfNat.ofNat_ne_zero, OfNat.zero_ne_ofNat, OfNat.one_ne_ofNat, OfNat.ofNat_ne_one]
    cases e
    obtain rfl := x _ rfl
    refine ToAny.mk (a.1, a.2) rfl ?_
    rw [p]
    exact gc [0] hβ (((((va.s 0).f).f).f (by simp) (by simp [p3_y])).f) ln.f
   subst hz
   try dsimp only at g
   rw [congrFun p i]
   refine rZ ?_
   cases g
   refine ToAny.mk (i.1, wadd .i64 c.2 1) rfl ?_
   rw [q]
   exact gc [0] hβ (((((va.s 0).f).f).f (by simp) (by simp [p3_y])).f) ln.f
  rw [iN o] at g
  refine TrD.exit ?_
  try simp only [↓reduceIte, Nat.reduceEqDiff, Nat.zero_ne_one, Nat.one_ne_zero, OfNat.ofNat_ne_zero, OfNat.zero_ne_ofNat, OfNat.one_ne_ofNat, OfNat.ofNat_ne_one]
  cases g
  obtain rfl := G _ rfl
  refine ToAny.mk (c.1, c.2) rfl ?_
  rw [w]
  exact gC [0]
 subst hz
 try dsimp only at h
 rw [congrFun w l]
 cases h
 refine exitHG (σ' := ⟨(fun _ => .any), hOfO [some ⟨4, (List.map rGBind l.1), 0, 0x0057⟩], 1, 53⟩) ?_ ?_
 ·exact gC [0]
 dsimp only [resD]
 exact eA
theorem c_slices_pdqsortCmpFunc_Bind : ∀ (n : Nat) (p0 : (List GBind)) (p1 : Int) (p2 : Int) (p3 : Int) (p4_f : FuncId) (p4_c : List D) (p4_x : ∀ d ∈ p4_c, Free d) (p4 : (GBind → GBind → Option Int)) (p4_h : ∀ a0 a1 r, p4 a0 a1 = some r → CallsD Tryz.prog p4_f ([(.agg (rGBind a0)), (.agg (rGBind a1))] ++ p4_c) (fun d => d = (eI r))) (res : (List GBind)), m_slices_pdqsortCmpFunc_Bind n p0 p1 p2 p3 p4 = some res → CallsH Tryz.prog 0o00362 [⟨4, List.map rGBind p0, 0, 0x0057⟩] [.sl 4 0 p0.length, (eI p1), (eI p2), (eI p3), .clos p4_f p4_c] (fun H d => H = [some ⟨4, List.map rGBind res, 0, 0x0057⟩] ∧ d = .tup []) := by
 intro n
 induction n with
 | zero => intro p0 p1 p2 p3 p4_f p4_c p4_x p4 p4_h res h; cases h
 | succ n ih =>
  intro p0 p1 p2 p3 p4_f p4_c p4_x p4 p4_h res h
  rw [m_slices_pdqsortCmpFunc_Bind.eq_2] at h
  have p4_y : Free (.clos p4_f p4_c) := free_clos p4_x
  have p4_z := eq_true p4_x
  refine CH Tryz.func242 [] 1 fun β hβ => ?_
  refine sZ ?_
  refine sZ ?_
  obtain ⟨t, m, h⟩ := bindE h
  obtain ⟨k, o⟩ : ∃ S : Unit → St, S = fun j => ⟨(fun _ => .any), hOfO [some ⟨4, (List.map rGBind p0), 0, 0x0057⟩], 1, 148⟩ := ⟨_, rfl⟩
  refine TrD.joinQ k (fun z => t = Ctl.brk z) (fun _ _ hg h => exitH_stab hg h) ?_ (fun j hz => ?_)
  ·apply TrD.block
   obtain ⟨l, g⟩ : ∃ S : Unit → St, S = fun i => ⟨(updD (updD (updD (updD (updD (updD (updD (fun _ => .any) 0 (.sl 4 0 (p0).length)) 1 (eI p1)) 2 (eI p2)) 3 (eI p3)) 4 (.clos p4_f p4_c)) 10 (eB true)) 11 (eB true)), hOfO [some ⟨4, (List.map rGBind p0), 0, 0x0057⟩], 1, 148⟩ := ⟨_, rfl⟩
   refine TrD.whileL l m ?_ (fun i x a s v => ?_)
   ·rw [g]
    exact gc [0] hβ (((((((va.s 0).f).f).f).f (by simp) (by simp [p4_y])).f).f) ln.f
   rw [congrFun g i]
   apply TrD.block
   refine sZ ?_
   apply sq
   refine sZ ?_
   refine TrD.cond (b := ile (wsub .i64 p2 p1) 12) (by simp) (fun c => ?_) (fun c => ?_)
   ·rw [if_pos c] at a
    apply sq
    obtain ⟨f, q, a⟩ := bindE a
    obtain ⟨A, w, a⟩ := bindE a
    refine rk fun K hK => ?_
    simp [c]
    refine callK (views_same _ _) (.same _ _) [0] (c_slices_insertionSortCmpFunc_Bind n p0 p1 p2 p4_f p4_c p4_x p4 p4_h _ q) (by decide) (.cons (locRen_eq (by simp) (by simp) (by simp)) .nil) (.cons (ren_sl rfl) (.cons (ren_le (by simp) (by simp)) (.cons (ren_le (by simp) (by simp)) (.cons (ren_le (by simp [p4_y]) (by simp)) .nil)))) (fun u y p => ?_)
    obtain ⟨rfl, rfl⟩ := p
    refine ⟨by simp, [some ⟨4, (List.map rGBind f), 0, 0x0057⟩], (.tup []), (.cons (optRen_same (by simp)) .nil), (ren_free (by simp)), ?_⟩
    simp [setMany, newNames]
    apply hK
    obtain rfl := Option.some.inj a
    obtain rfl := s _ rfl
    obtain rfl := Option.some.inj h
    refine TrD.ret ?_
    refine exitHG (σ' := ⟨(fun _ => .any), hOfO [some ⟨4, (List.map rGBind f), 0, 0x0057⟩], 1, 148⟩) ?_ ?_
    ·exact Ghost.canonV 1 [0] _ _ hβ (keep_first (by decide)) (by decide) (vT_any _) (.cons (lv (L := ⟨4, (List.map rGBind f), 0, 0x0057⟩) (by simp) rfl rfl (by simp) (rv_free (by simp) (free_rows_of fr_GBind _))) .nil)
    dsimp only [resD]
    exact ⟨[some ⟨4, (List.map rGBind f), 0, 0x0057⟩], [], rfl, by simp, by simp, .inl rfl, by simp [packD]⟩
   rw [iN c] at a
   apply TrD.skip
   apply sq
   refine sZ ?_ fun K hK => by simp [c]; exact hK
   refine TrD.cond (b := ieq p3 0) (by simp) (fun e => ?_) (fun e => ?_)
   ·rw [if_pos e] at a
    apply sq
    cases a
   rw [iN e] at a
   apply TrD.skip
   apply sq
   refine sZ ?_ fun K hK => by simp [e]; exact hK
   refine cF ?_
   apply TrD.skip
   apply sq
   cases a
  subst hz
  try dsimp only at h
  rw [congrFun o j]
  cases h
  refine exitHG (σ' := ⟨(fun _ => .any), hOfO [some ⟨4, (List.map rGBind p0), 0, 0x0057⟩], 1, 148⟩) ?_ ?_
  ·exact gC [0]
  dsimp only [resD]
  exact eA
theorem c_math_bits_Len64 (p0 : Int) (res : Int) (h : m_math_bits_Len64 p0 = some res) : CallsD Tryz.prog 0o00357 [(.val (.int .u64 p0))] (fun d => d = (eI res)) := by
 unfold m_math_bits_Len64 at h
 refine CD Tryz.func239 [.tmp 2] fun β hβ => ?_
 refine sZ ?_
 obtain ⟨o3, g5, h⟩ := bindE h
 obtain ⟨S4, hS4⟩ : ∃ S : Int × Int → St, S = fun s2 => ⟨(updD (updD (fun _ => .any) 0 (.val (.int .u64 s2.1))) 2 (eI s2.2)), hOfO [], 0, 25⟩ := ⟨_, rfl⟩
 refine TrD.join S4 (fun z => o3 = Ctl.brk z) ?_ (fun s2 hz => ?_)
 ·refine sZ ?_
  refine TrD.cond (b := ile 4294967296 p0) (by simp) (fun hb6 => ?_) (fun hb6 => ?_)
  ·rw [if_pos hb6] at g5
   refine sZ ?_ fun K hK => by simp [hb6]; exact hK
   refine rZ ?_
   cases g5
   refine ToAny.mk (wshr .u64 p0 32, 32) rfl ?_
   rw [hS4]
   exact gC []
  rw [iN hb6] at g5
  apply TrD.skip
  cases g5
  refine ToAny.mk (p0, 0) rfl ?_
  rw [hS4]
  exact gC []
 subst hz
 try dsimp only at h
 rw [congrFun hS4 s2]
 obtain ⟨o9, f, h⟩ := bindE h
 obtain ⟨n, i⟩ : ∃ S : Int × Int → St, S = fun s8 => ⟨(updD (updD (fun _ => .any) 0 (.val (.int .u64 s8.1))) 2 (eI s8.2)), hOfO [], 0, 25⟩ := ⟨_, rfl⟩
 refine TrD.join n (fun z => o9 = Ctl.brk z) ?_ (fun s8 hz => ?_)
 ·refine sZ ?_
  refine TrD.cond (b := ile 65536 s2.1) (by simp) (fun a => ?_) (fun a => ?_)
  ·rw [if_pos a] at f
   refine sZ ?_ fun K hK => by simp [a]; exact hK
   refine rZ ?_
   cases f
   refine ToAny.mk (wshr .u64 s2.1 16, wadd .i64 s2.2 16) rfl ?_
   rw [i]
   exact gC []
  rw [iN a] at f
  apply TrD.skip
  cases f
  refine ToAny.mk (s2.1, s2.2) rfl ?_
  rw [i]
  exact gC []
 subst hz
 try dsimp only at h
 rw [congrFun i s8]
 obtain ⟨p, g, h⟩ := bindE h
 obtain ⟨o, j⟩ : ∃ S : Int × Int → St, S = fun e => ⟨(updD (updD (fun _ => .any) 0 (.val (.int .u64 e.1))) 2 (eI e.2)), hOfO [], 0, 25⟩ := ⟨_, rfl⟩
 refine TrD.join o (fun z => p = Ctl.brk z) ?_ (fun e hz => ?_)
 ·refine sZ ?_
  refine TrD.cond (b := ile 256 s8.1) (by simp) (fun c => ?_) (fun c => ?_)
  ·rw [if_pos c] at g
   refine sZ ?_ fun K hK => by simp [c]; exact hK
   refine rZ ?_
   cases g
   refine ToAny.mk (wshr .u64 s8.1 8, wadd .i64 s8.2 8) rfl ?_
   rw [j]
   exact gC []
  rw [iN c] at g
  apply TrD.skip
  cases g
  refine ToAny.mk (s8.1, s8.2) rfl ?_
  rw [j]
  exact gC []
 subst hz
 try dsimp only at h
 rw [congrFun j e]
 apply sq
 obtain ⟨m, l, h⟩ := bindE h
 refine rZ ?_ fun K hK => by simp [← (sidx_some l).1, (sidx_some l).2]; exact hK
 cases h
 apply TrD.ret
 exact xD
theorem c_math_bits_Len (p0 : Int) (res : Int) (h : m_math_bits_Len p0 = some res) : CallsD Tryz.prog 0o00246 [(.val (.int .u64 p0))] (fun d => d = (eI res)) := by
 unfold m_math_bits_Len at h
 refine CD Tryz.func166 [.tmp 2] fun β hβ => ?_
 refine sZ ?_
 apply sq
 refine cF ?_
 apply TrD.skip
 apply sq
 obtain ⟨r1, hr1, h⟩ := bindE h
 refine rk fun K hK => ?_
 simp
 refine cp (c_math_bits_Len64 p0 _ hr1) ?_
 simp
 apply hK
 cases h
 apply TrD.ret
 exact xD
theorem c_slices_SortFunc_Bind (n : Nat) (p0 : (List GBind)) (p1_f : FuncId) (p1_c : List D) (p1_x : ∀ d ∈ p1_c, Free d) (p1 : (GBind → GBind → Option Int)) (p1_h : ∀ a0 a1 r, p1 a0 a1 = some r → CallsD Tryz.prog p1_f ([(.agg (rGBind a0)), (.agg (rGBind a1))] ++ p1_c) (fun d => d = (eI r))) (res : (List GBind)) (h : m_slices_SortFunc_Bind n p0 p1 = some res) : CallsH Tryz.prog 0o00263 [⟨4, List.map rGBind p0, 0, 0x0057⟩] [.sl 4 0 p0.length, .clos p1_f p1_c] (fun H d => H = [some ⟨4, List.map rGBind res, 0, 0x0057⟩] ∧ d = .tup []) := by
 unfold m_slices_SortFunc_Bind at h
 have p1_y : Free (.clos p1_f p1_c) := free_clos p1_x
 have p1_z := eq_true p1_x
 refine CH Tryz.func179 [] 1 fun β hβ => ?_
 refine sZ ?_
 obtain ⟨r1, hr1, h⟩ := bindE h
 obtain ⟨r2, hr2, h⟩ := bindE h
 obtain ⟨x3, hx3, h⟩ := bindE h
 refine rk fun K hK => ?_
 simp
 refine callP (c_math_bits_Len (wcv .u64 (lenZ p0.length)) _ hr1) (by simp) (by simp) (fun q4 hq4 => ?_)
 subst hq4
 simp
 refine callK (views_same _ _) (.same _ _) [0] (c_slices_pdqsortCmpFunc_Bind n p0 0 (lenZ p0.length) r1 p1_f p1_c p1_x p1 p1_h _ hr2) (by decide) (.cons (locRen_eq (by simp) (by simp) (by simp)) .nil) (.cons (ren_sl rfl) (.cons (ren_le (by simp) (by simp)) (.cons (ren_le (by simp) (by simp)) (.cons (ren_le (by simp) (by simp)) (.cons (ren_le (by simp [p1_y]) (by simp)) .nil))))) (fun Hq5 qq5 hq5 => ?_)
 obtain ⟨rfl, rfl⟩ := hq5
 refine ⟨by simp, [some ⟨4, (List.map rGBind r2), 0, 0x0057⟩], (.tup []), (.cons (optRen_same (by simp)) .nil), (ren_free (by simp)), ?_⟩
 simp [setMany, newNames]
 refine hK _ ?_
 obtain rfl := Option.some.inj h
 refine exitHG (σ' := ⟨(fun _ => .any), hOfO [some ⟨4, (List.map rGBind r2), 0, 0x0057⟩], 1, 14⟩) ?_ ?_
 ·exact Ghost.canonV 1 [0] _ _ hβ (keep_first (by decide)) (by decide) (vT_any _) (.cons (lv (L := ⟨4, (List.map rGBind r2), 0, 0x0057⟩) (by simp) rfl rfl (by simp) (rv_free (by simp) (free_rows_of fr_GBind _))) .nil)
 dsimp only [resD]
 exact ⟨[some ⟨4, (List.map rGBind r2), 0, 0x0057⟩], [], rfl, by simp, by simp, .inl rfl, by simp [packD]⟩
theorem c_cmp_isNaN_int (p0 : Int) (res : Bool) (h : m_cmp_isNaN_int p0 = some res) : CallsD Tryz.prog 0o00247 [(eI p0)] (fun d => d = (eB res)) := by
 unfold m_cmp_isNaN_int at h
 refine CD Tryz.func167 [.tmp 2] fun β hβ => ?_
 refine sZ ?_
 refine sZ ?_
 cases h
 apply TrD.ret
 exact xD
theorem c_cmp_Compare_int (p0 : Int) (p1 : Int) (res : Int) (h : m_cmp_Compare_int p0 p1 = some res) : CallsD Tryz.prog 0o00130 [(eI p0), (eI p1)] (fun d => d = (eI res)) := by
 unfold m_cmp_Compare_int at h
 refine CD Tryz.func88 [.tmp 4] fun β hβ => ?_
 refine sZ ?_
 apply sq
 obtain ⟨r1, hr1, h⟩ := bindE h
 refine rk fun K hK => ?_
 simp
 refine cp (c_cmp_isNaN_int p0 _ hr1) ?_
 simp
 apply hK
 apply sq
 obtain ⟨r2, hr2, h⟩ := bindE h
 refine rk fun K hK => ?_
 simp
 refine cp (c_cmp_isNaN_int p1 _ hr2) ?_
 simp
 apply hK
 apply sq
 refine sZ ?_
 refine TrD.cond (b := r1) (by simp) (fun hb6 => ?_) (fun hb6 => ?_)
 ·rw [if_pos hb6] at h
  apply sq
  refine sZ ?_ fun K hK => by simp [hb6]; exact hK
  refine TrD.cond (b := r2) (by simp) (fun hb8 => ?_) (fun hb8 => ?_)
  ·rw [if_pos hb8] at h
   refine sZ ?_ fun K hK => by simp [hb8]; exact hK
   cases h
   apply TrD.ret
   exact xD
  rw [iN hb8] at h
  apply TrD.skip
  refine sZ ?_ fun K hK => by simp [hb8]; exact hK
  cases h
  apply TrD.ret
  exact xD
 rw [iN hb6] at h
 apply TrD.skip
 apply sq
 refine sZ ?_ fun K hK => by simp [hb6]; exact hK
 refine TrD.cond (b := r2) (by simp) (fun a => ?_) (fun a => ?_)
 ·rw [if_pos a] at h
  refine sZ ?_ fun K hK => by simp [a]; exact hK
  cases h
  apply TrD.ret
  exact xD
 rw [iN a] at h
 apply TrD.skip
 apply sq
 refine sZ ?_ fun K hK => by simp [a]; exact hK
 refine TrD.cond (b := ilt p0 p1) (by simp) (fun c => ?_) (fun c => ?_)
 ·rw [if_pos c] at h
  refine sZ ?_ fun K hK => by simp [c]; exact hK
  cases h
  apply TrD.ret
  exact xD
 rw [iN c] at h
 apply TrD.skip
 apply sq
 refine sZ ?_ fun K hK => by simp [c]; exact hK
 refine TrD.cond (b := ilt p1 p0) (by simp) (fun e => ?_) (fun e => ?_)
 ·rw [if_pos e] at h
  refine sZ ?_ fun K hK => by simp [e]; exact hK
  cases h
  apply TrD.ret
  exact xD
 rw [iN e] at h
 apply TrD.skip
 refine sZ ?_ fun K hK => by simp [e]; exact hK
 cases h
 apply TrD.ret
 exact xD
theorem c_impl_matched_1 (p0 : GBind) (p1 : GBind) (res : Int) (h : m_impl_matched_1 p0 p1 = some res) : CallsD Tryz.prog 0o00264 [(.agg (rGBind p0)), (.agg (rGBind p1))] (fun d => d = (eI res)) := by
 unfold m_impl_matched_1 at h
 refine CD Tryz.func180 [.tmp 4] fun β hβ => ?_
 refine sZ ?_
 apply sq
 obtain ⟨r1, hr1, h⟩ := bindE h
 refine rk fun K hK => ?_
 simp
 refine cp (c_cmp_Compare_int p0.var p1.var _ hr1) ?_
 simp
 apply hK
 cases h
 apply TrD.ret
 exact xD
theorem c_impl_ownValue : ∀ (n : Nat) (p0 : GValue) (res : GValue), m_impl_ownValue n p0 = some res → CallsD Tryz.prog 0o00067 [(.agg (rGValue p0))] (fun d => d = (.agg (rGValue res))) := by
 intro n
 induction n with
 | zero => intro p0 res h; cases h
 | succ n ih =>
  intro p0 res h
  rw [m_impl_ownValue.eq_2] at h
  refine CD Tryz.func55 [.cell 2 29] fun β hβ => ?_
  refine sZ ?_
  refine sZ ?_
  apply sq
  refine sZ ?_
  obtain ⟨y, t, h⟩ := bindE h
  obtain ⟨r, o⟩ : ∃ S : (List GValue) → St, S = fun f => ⟨(updD (updD (fun _ => .any) 2 (.ptr 3 0 0 0)) 3 (.ptr 3 1 0 0)), hOfO [some ⟨3, [[(eI 0), (eI 0), .nil]], 0, 0x001d⟩, some ⟨3, [[(eI p0.ctor), (eI p0.n), (.sl 3 2 (f).length)]], 0, 0x001d⟩, some ⟨3, (List.map rGValue f), 0, 0x001d⟩], 3, 27⟩ := ⟨_, rfl⟩
  refine TrD.joinQ r (fun z => y = Ctl.brk z) (fun _ _ hg h => TrD.ghost hg h) ?_ (fun f hz => ?_)
  ·apply TrD.block
   obtain ⟨s, i⟩ : ∃ S : Nat → (List GValue) → St, S = fun c a => ⟨(updD (updD (updD (updD (updD (fun _ => .any) 2 (.ptr 3 0 0 0)) 3 (.ptr 3 1 0 0)) 12 (.slice 3 (List.map rGValue p0.kids))) 13 (eI (lenZ p0.kids.length))) 14 (eI (c : Int))), hOfO [some ⟨3, [[(eI 0), (eI 0), .nil]], 0, 0x001d⟩, some ⟨3, [[(eI p0.ctor), (eI p0.n), (.sl 3 2 (a).length)]], 0, 0x001d⟩, some ⟨3, (List.map rGValue a), 0, 0x001d⟩], 3, 27⟩ := ⟨_, rfl⟩
   refine TrD.limS (sz := 3) (rows := List.map rGValue p0.kids) (seen_slot (d := .slice 3 (List.map rGValue p0.kids)) 12 (by simp)) (fun hlim => ?_)
   rw [List.length_map] at hlim
   refine TrD.forL s t hlim ?_ (fun c l a q D E w e F g C B => ?_) (fun a A => ?_)
   ·rw [i]
    refine (Ghost.ownNilCell 56 2 3 0x001d (by simp; rfl) rfl (by simp) (by simp)).trans ?_
    exact gC [8, 56, 104]
   ·rw [congrFun (congrFun i c) a]
    refine sZ ?_ fun K hK => by simp [w]; exact hK
    apply sq
    refine cT ?_
    apply TrD.skip
    apply sq
    apply TrD.block
    refine sZ ?_ fun K hK => by simp [idx_inb q, idx_row q]; exact hK
    refine TrD.ghost (σ' := ⟨(updD (updD (updD (updD (updD (updD (fun _ => .any) 2 (.ptr 3 0 0 0)) 3 (.ptr 3 1 0 0)) 5 (.ptr 3 3 0 0)) 12 (.slice 3 (List.map rGValue p0.kids))) 13 (eI (lenZ p0.kids.length))) 14 (eI (c : Int))), hOfO [some ⟨3, [[(eI 0), (eI 0), .nil]], 0, 0x001d⟩, some ⟨3, [[(eI p0.ctor), (eI p0.n), (.sl 3 2 (a).length)]], 0, 0x001d⟩, some ⟨3, (List.map rGValue a), 0, 0x001d⟩, some ⟨3, [(rGValue l)], 0, 0x001d⟩], 4, 27⟩) ?_ ?_
    ·exact gC [0, 1, 2, 27]
    obtain ⟨H, v, g⟩ := bindE g
    obtain ⟨m, j, g⟩ := bindE g
    have p := (app_some j).2
    try simp only [List.length_cons, List.length_nil, Nat.zero_add] at p
    refine TrD.draw tysOk mixed [0, 1, 2, 3, 4, 5, 6, 7] [1, 3] [24] (by rfl) rfl (fun K hK => ?_)
    simp
    refine cp (ih l _ v) ?_
    simp [p]
    apply hK
    refine rZ ?_
    cases g
    refine ToAny.mk m rfl ?_
    rw [i]
    exact Ghost.canonV 0 [0, 1, 20] _ _ hβ (keep_first (by decide)) (by decide) (vT_upd (v_of (d0 := (eI (wadd .i64 (c : Int) 1))) (by simp [e]) (v_free (by simp) (by simp [e]))) (vT_upd (v_of (d0 := (eI (lenZ p0.kids.length))) (by simp [e]) (v_free (by simp) (by simp))) (vT_upd (v_of (d0 := (.slice 3 (List.map rGValue p0.kids))) (by simp [e]) (v_free (by simp) (by simp))) (vT_upd (v_of (d0 := (.ptr 3 1 0 0)) (by simp [e]) (v_ptr rfl)) (vT_upd (v_of (d0 := (.ptr 3 0 0 0)) (by simp [e]) (v_ptr rfl)) (vT_any _)))))) (.cons (lv (L := ⟨3, [[(eI 0), (eI 0), .nil]], 0, 0x001d⟩) (by simp) rfl rfl (by simp) (rv_cons (.cons (v_free (by simp) (by simp)) (.cons (v_free (by simp) (by simp)) (.cons (v_free (by simp) (by simp)) .nil))) rv_nil)) (.cons (lv (L := ⟨3, [[(eI p0.ctor), (eI p0.n), (.sl 3 20 (m).length)]], 0, 0x001d⟩) (by simp [(app_some j).1]) rfl rfl (by simp) (rv_cons (.cons (v_free (by simp) (by simp)) (.cons (v_free (by simp) (by simp)) (.cons (v_sl rfl) .nil))) rv_nil)) (.cons (lv (L := ⟨3, (List.map rGValue m), 0, 0x001d⟩) (by simp [(app_some j).1]) rfl rfl (by simp) (rv_free (by simp [(app_some j).1]) (free_rows_of fr_GValue _))) .nil)))
   rw [congrFun (congrFun i _) a]
   refine sZ ?_ fun K hK => by simp [ilt_len p0.kids.length]; exact hK
   apply sq
   refine cF ?_
   refine TrD.exit ?_
   try simp only [↓reduceIte, Nat.reduceEqDiff, Nat.zero_ne_one, Nat.one_ne_zero, OfNat.ofNat_ne_zero, OfNat.zero_ne_ofNat, OfNat.one_ne_ofNat, OfNat.ofNat_ne_one]
   refine ToAny.mk a A ?_
   rw [o]
   exact gC [0, 1, 2]
  subst hz
  try dsimp only at h
  rw [congrFun o f]
  refine sZ ?_
  cases h
  apply TrD.ret
  refine exitDG (σ' := ⟨(updD (fun _ => .any) 2 (.ptr 3 0 0 0)), hOfO [some ⟨3, [(rGValue (GValue.mk p0.ctor p0.n f))], 0, 0x001d⟩], 1, 27⟩) ?_ ?_
  ·refine (Ghost.raise 2 (by simp; rfl)).trans ?_
   exact gC [0] (hh := (ln.c (lv (L := ⟨3, [[(eI p0.ctor), (eI p0.n), (.sl 3 2 (f).length)]], 0, 0x001d⟩) (by simp) rfl rfl (by simp) (rv_consr (rGValue_eq _) (.cons (v_free (by simp) (by simp)) (.cons (v_free (by simp) (by simp)) (.cons (v_frz (by simp; rfl) rfl (by simp) (by simp) (rv_free (by simp) (by simp))) .nil))) rv_nil))))
  simp [resD]
  exact eF
end Go.Proofs.YtmkamncbkkahjaaGreat
