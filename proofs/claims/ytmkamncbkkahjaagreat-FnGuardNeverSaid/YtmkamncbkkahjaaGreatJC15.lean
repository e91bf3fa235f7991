import Derived.Test.YtmkamncbkkahjaaGreatJMir
import Derived.Test.YtmkamncbkkahjaaGreatJZap
set_option linter.unusedSimpArgs false
set_option linter.unusedVariables false
namespace Go.Proofs.YtmkamncbkkahjaaGreat
open Go Go.RowKit
set_option maxRecDepth 100000
set_option maxHeartbeats 20000000
set_option maxRecDepth 100000 in
theorem c_spec_l11Has : ∀ (n : Nat) (p0 : GPattern) (p1 : Int) (res : Bool), m_spec_l11Has n p0 p1 = some res → CallsD Tryz.prog 0o00154 [(.agg (rGPattern p0)), (eI p1)] (fun d => d = (eB res)) := by
 intro n
 induction n with
 | zero => intro p0 p1 res h; cases h
 | succ n ih =>
  intro p0 p1 res h
  rw [m_spec_l11Has.eq_2] at h
  refine CD Tryz.func108 [.tmp 4] fun β hβ => ?_
  refine sZ ?_
  apply sq
  refine sZ ?_
  obtain ⟨y, s, h⟩ := bindE h
  obtain ⟨q, m⟩ : ∃ S : Unit → St, S = fun p => ⟨(updD (updD (fun _ => .any) 1 (eI p1)) 2 (.ptr 6 0 0 0)), hOfO [some ⟨6, [(rGPattern p0)], 0, 0x0029⟩], 1, 34⟩ := ⟨_, rfl⟩
  refine TrD.joinQ q (fun z => y = Ctl.brk z) (fun _ _ hg h => TrD.ghost hg h) ?_ (fun p hz => ?_)
  ·apply TrD.block
   obtain ⟨r, i⟩ : ∃ S : Nat → Unit → St, S = fun j g => ⟨(updD (updD (updD (fun _ => .any) 1 (eI p1)) 2 (.ptr 6 0 0 0)) 5 (eI (j : Int))), hOfO [some ⟨6, [(rGPattern p0)], 0, 0x0029⟩], 1, 34⟩ := ⟨_, rfl⟩
   refine TrD.limS (sz := 6) (rows := List.map rGPattern p0.kids) (seen_cell (d := .slice 6 (List.map rGPattern p0.kids)) 0 0 5 (by simp; rfl) rfl (by simp)) (fun hlim => ?_)
   rw [List.length_map] at hlim
   refine TrD.forL r s hlim ?_ (fun j C g o E F w l G a v D => ?_) (fun g B => ?_)
   ·rw [i]
    exact gC [0]
   ·rw [congrFun (congrFun i j) g]
    apply sq
    refine sZ ?_ fun K hK => by simp [w]; exact hK
    refine cT ?_
    apply TrD.skip
    apply sq
    apply TrD.block
    apply sq
    obtain ⟨A, u, a⟩ := bindE a
    refine rk fun K hK => ?_
    simp [idx_inb o, idx_row o]
    refine cp (ih C p1 _ u) ?_
    simp
    apply hK
    refine TrD.cond (b := A) (by simp) (fun e => ?_) (fun e => ?_)
    ·rw [if_pos e] at a
     refine sZ ?_ fun K hK => by simp [e]; exact hK
     cases a
     obtain rfl := v _ rfl
     cases h
     apply TrD.ret
     exact xD
    rw [iN e] at a
    apply TrD.skip
    refine rZ ?_ fun K hK => by simp [e]; exact hK
    cases a
    refine ToAny.mk () rfl ?_
    rw [i]
    exact gc [0] hβ (((va.f (by simp [l])).p 0 (by simp [l])).f (by simp [l])) ln.f
   rw [congrFun (congrFun i _) g]
   apply sq
   refine sZ ?_ fun K hK => by simp [ilt_len p0.kids.length]; exact hK
   refine cF ?_
   refine TrD.exit ?_
   try simp only [↓reduceIte, Nat.reduceEqDiff, Nat.zero_ne_one, Nat.one_ne_zero, OfNat.ofNat_ne_zero, OfNat.zero_ne_ofNat, OfNat.one_ne_ofNat, OfNat.ofNat_ne_one]
   refine ToAny.mk g B ?_
   rw [m]
   exact gC [0]
  subst hz
  try dsimp only at h
  rw [congrFun m p]
  apply sq
  rcases bb (ieq p0.op 2) with c | c
  ·rw [if_pos c] at h
   refine rZ ?_ fun K hK => by simp [c]; exact hK
   cases h
   apply TrD.ret
   exact xD
  rw [iN c] at h
  rcases bb (ieq p0.op 6) with f | f
  ·rw [if_pos f] at h
   refine rZ ?_ fun K hK => by simp [c, f]; exact hK
   cases h
   apply TrD.ret
   exact xD
  rw [iN f] at h
  refine rZ ?_ fun K hK => by simp [c, f]; exact hK
  cases h
  apply TrD.ret
  exact xD
theorem c_spec_l11Under : ∀ (n : Nat) (p0 : GPattern) (p1 : Int) (res : Bool), m_spec_l11Under n p0 p1 = some res → CallsD Tryz.prog 0o00061 [(.agg (rGPattern p0)), (eI p1)] (fun d => d = (eB res)) := by
 intro n
 induction n with
 | zero => intro p0 p1 res h; cases h
 | succ n ih =>
  intro p0 p1 res h
  rw [m_spec_l11Under.eq_2] at h
  refine CD Tryz.func49 [.tmp 4] fun β hβ => ?_
  refine sZ ?_
  apply sq
  refine sZ ?_
  obtain ⟨N, C, h⟩ := bindE h
  obtain ⟨y, t⟩ : ∃ S : Unit → St, S = fun v => ⟨(fun _ => .any), hOfO [], 0, 34⟩ := ⟨_, rfl⟩
  refine TrD.joinQ y (fun z => N = Ctl.brk z) (fun _ _ hg h => TrD.ghost hg h) ?_ (fun v hz => ?_)
  ·apply TrD.block
   obtain ⟨A, o⟩ : ∃ S : Nat → Unit → St, S = fun j m => ⟨(updD (updD (updD (fun _ => .any) 1 (eI p1)) 2 (.ptr 6 0 0 0)) 5 (eI (j : Int))), hOfO [some ⟨6, [(rGPattern p0)], 0, 0x0029⟩], 1, 34⟩ := ⟨_, rfl⟩
   refine TrD.limS (sz := 6) (rows := List.map rGPattern p0.kids) (seen_cell (d := .slice 6 (List.map rGPattern p0.kids)) 0 0 5 (by simp; rfl) rfl (by simp)) (fun hlim => ?_)
   rw [List.length_map] at hlim
   refine TrD.forL A C hlim ?_ (fun j q m e V W J p X f s U => ?_) (fun m T => ?_)
   ·rw [o]
    exact gC [0]
   ·rw [congrFun (congrFun o j) m]
    apply sq
    refine sZ ?_ fun K hK => by simp [J]; exact hK
    refine cT ?_
    apply TrD.skip
    obtain ⟨O, a, f⟩ := bindE f
    obtain ⟨B, r⟩ : ∃ S : Unit → St, S = fun w => ⟨(updD (updD (updD (fun _ => .any) 1 (eI p1)) 2 (.ptr 6 0 0 0)) 5 (eI (j : Int))), hOfO [some ⟨6, [(rGPattern p0)], 0, 0x0029⟩], 1, 34⟩ := ⟨_, rfl⟩
    refine TrD.join B (fun z => O = Ctl.brk z) ?_ (fun w hz => ?_)
    ·apply TrD.block
     apply sq
     rcases bb (ieq p0.op 5) with c | c
     ·rw [if_pos c] at a
      obtain ⟨P, u, a⟩ := bindE a
      rcases bb P with l | l
      ·rw [if_pos l] at a
       refine rk fun K hK => ?_
       simp [idx_inb e, idx_row e, c]
       refine cp (c_spec_l11Has n q p1 _ u) ?_
       simp [c, l]
       apply hK
       refine cT ?_
       refine sZ ?_
       cases a
       cases f
       obtain rfl := s _ rfl
       cases h
       apply TrD.ret
       exact xD
      rw [iN l] at a
      obtain ⟨Q, H, a⟩ := bindE a
      refine rk fun K hK => ?_
      simp [idx_inb e, idx_row e, c]
      refine cp (c_spec_l11Has n q p1 _ u) ?_
      simp [idx_inb e, idx_row e, c, l]
      refine cp (ih q p1 _ H) ?_
      simp [c, l]
      apply hK
      refine TrD.cond (b := Q) (by simp) (fun g => ?_) (fun g => ?_)
      ·rw [if_pos g] at a
       refine sZ ?_ fun K hK => by simp [g]; exact hK
       cases a
       cases f
       obtain rfl := s _ rfl
       cases h
       apply TrD.ret
       exact xD
      rw [iN g] at a
      apply TrD.skip
      cases a
      refine ToAny.mk () rfl ?_
      rw [r]
      exact gC [0]
     rw [iN c] at a
     obtain ⟨R, I, a⟩ := bindE a
     refine rk fun K hK => ?_
     simp [idx_inb e, idx_row e, c]
     refine cp (ih q p1 _ I) ?_
     simp [c]
     apply hK
     refine TrD.cond (b := R) (by simp) (fun i => ?_) (fun i => ?_)
     ·rw [if_pos i] at a
      refine sZ ?_ fun K hK => by simp [i]; exact hK
      cases a
      cases f
      obtain rfl := s _ rfl
      cases h
      apply TrD.ret
      exact xD
     rw [iN i] at a
     apply TrD.skip
     cases a
     refine ToAny.mk () rfl ?_
     rw [r]
     exact gC [0]
    subst hz
    try dsimp only at f
    rw [congrFun r w]
    refine rZ ?_
    cases f
    refine ToAny.mk () rfl ?_
    rw [o]
    exact gc [0] hβ (((va.f (by simp [p])).p 0 (by simp [p])).f (by simp [p])) ln.f
   rw [congrFun (congrFun o _) m]
   apply sq
   refine sZ ?_ fun K hK => by simp [ilt_len p0.kids.length]; exact hK
   refine cF ?_
   refine TrD.exit ?_
   try simp only [↓reduceIte, Nat.reduceEqDiff, Nat.zero_ne_one, Nat.one_ne_zero, OfNat.ofNat_ne_zero, OfNat.zero_ne_ofNat, OfNat.one_ne_ofNat, OfNat.ofNat_ne_one]
   refine ToAny.mk m T ?_
   rw [t]
   exact gC []
  subst hz
  try dsimp only at h
  rw [congrFun t v]
  refine sZ ?_
  cases h
  apply TrD.ret
  exact xD
theorem c_spec_l3Copy : ∀ (n : Nat) (p0 : GPattern) (res : GPattern), m_spec_l3Copy n p0 = some res → CallsD Tryz.prog 0o00155 [(.agg (rGPattern p0))] (fun d => d = (.agg (rGPattern res))) := by
 intro n
 induction n with
 | zero => intro p0 res h; cases h
 | succ n ih =>
  intro p0 res h
  rw [m_spec_l3Copy.eq_2] at h
  refine CD Tryz.func109 [.cell 2 41] fun β hβ => ?_
  refine sZ ?_
  refine sZ ?_
  refine sZ ?_
  apply sq
  refine sZ ?_
  obtain ⟨y, t, h⟩ := bindE h
  obtain ⟨r, o⟩ : ∃ S : (List GPattern) → St, S = fun e => ⟨(updD (updD (fun _ => .any) 2 (.ptr 6 0 0 0)) 3 (.ptr 6 1 0 0)), hOfO [some ⟨6, [[(eI 0), (eI 0), (eI 0), (eI 0), (eI 0), .nil]], 0, 0x0029⟩, some ⟨6, [[(eI p0.op), (eI p0.ctor), (eI p0.n), (eI p0.m), (eI p0.var), (.sl 6 2 (e).length)]], 0, 0x0029⟩, some ⟨6, (List.map rGPattern e), 0, 0x0029⟩], 3, 26⟩ := ⟨_, rfl⟩
  refine TrD.joinQ r (fun z => y = Ctl.brk z) (fun _ _ hg h => TrD.ghost hg h) ?_ (fun e hz => ?_)
  ·apply TrD.block
   obtain ⟨s, i⟩ : ∃ S : Nat → (List GPattern) → St, S = fun c a => ⟨(updD (updD (updD (updD (fun _ => .any) 1 (.ptr 6 0 0 0)) 2 (.ptr 6 1 0 0)) 3 (.ptr 6 2 0 0)) 4 (eI (c : Int))), hOfO [some ⟨6, [(rGPattern p0)], 0, 0x0029⟩, some ⟨6, [[(eI 0), (eI 0), (eI 0), (eI 0), (eI 0), .nil]], 0, 0x0029⟩, some ⟨6, [[(eI p0.op), (eI p0.ctor), (eI p0.n), (eI p0.m), (eI p0.var), (.sl 6 3 (a).length)]], 0, 0x0029⟩, some ⟨6, (List.map rGPattern a), 0, 0x0029⟩], 4, 26⟩ := ⟨_, rfl⟩
   refine TrD.limS (sz := 6) (rows := List.map rGPattern p0.kids) (seen_cell (d := .slice 6 (List.map rGPattern p0.kids)) 0 0 5 (by simp; rfl) rfl (by simp)) (fun hlim => ?_)
   rw [List.length_map] at hlim
   refine TrD.forL s t hlim ?_ (fun c B a q E F w g G f D C => ?_) (fun a A => ?_)
   ·rw [i]
    refine (Ghost.ownNilCell 24 5 6 0x0029 (by simp; rfl) rfl (by simp) (by simp)).trans ?_
    exact gC [0, 8, 24, 64]
   ·rw [congrFun (congrFun i c) a]
    apply sq
    refine sZ ?_ fun K hK => by simp [w]; exact hK
    refine cT ?_
    apply TrD.skip
    apply sq
    apply TrD.block
    refine TrD.ghost (σ' := ⟨(updD (updD (updD (updD (fun _ => .any) 1 (.ptr 6 0 0 0)) 2 (.ptr 6 1 0 0)) 3 (.ptr 6 2 0 0)) 4 (eI (c : Int))), hOfO [some ⟨6, [(rGPattern p0)], 0, 0x0029⟩, some ⟨6, [[(eI 0), (eI 0), (eI 0), (eI 0), (eI 0), .nil]], 0, 0x0029⟩, some ⟨6, [[(eI p0.op), (eI p0.ctor), (eI p0.n), (eI p0.m), (eI p0.var), (.sl 6 3 (a).length)]], 0, 0x0029⟩, some ⟨6, (List.map rGPattern a), 0, 0x0029⟩], 4, 26⟩) ?_ ?_
    ·exact gC [0, 1, 2, 3]
    obtain ⟨I, v, f⟩ := bindE f
    obtain ⟨l, j, f⟩ := bindE f
    have p := (app_some j).2
    try simp only [List.length_cons, List.length_nil, Nat.zero_add] at p
    refine TrD.draw tysOk mixed [0, 1, 2, 3, 4, 5, 6, 7, 8, 9, 10, 11] [0, 2] [24] (by rfl) rfl (fun K hK => ?_)
    simp [idx_inb q, idx_row q]
    refine cp (ih B _ v) ?_
    simp [p]
    apply hK
    refine rZ ?_
    cases f
    refine ToAny.mk l rfl ?_
    rw [i]
    exact Ghost.canonV 0 [0, 1, 2, 20] _ _ hβ (keep_first (by decide)) (by decide) (vT_upd (v_of (d0 := (eI (wadd .i64 (c : Int) 1))) (by simp [g]) (v_free (by simp) (by simp [g]))) (vT_upd (v_of (d0 := (.ptr 6 2 0 0)) (by simp [g]) (v_ptr rfl)) (vT_upd (v_of (d0 := (.ptr 6 1 0 0)) (by simp [g]) (v_ptr rfl)) (vT_upd (v_of (d0 := (.ptr 6 0 0 0)) (by simp [g]) (v_ptr rfl)) (vT_any _))))) (.cons (lv (L := ⟨6, [(rGPattern p0)], 0, 0x0029⟩) (by simp) rfl rfl (by simp) (rv_free (by simp) (by simp))) (.cons (lv (L := ⟨6, [[(eI 0), (eI 0), (eI 0), (eI 0), (eI 0), .nil]], 0, 0x0029⟩) (by simp) rfl rfl (by simp) (rv_cons (.cons (v_free (by simp) (by simp)) (.cons (v_free (by simp) (by simp)) (.cons (v_free (by simp) (by simp)) (.cons (v_free (by simp) (by simp)) (.cons (v_free (by simp) (by simp)) (.cons (v_free (by simp) (by simp)) .nil)))))) rv_nil)) (.cons (lv (L := ⟨6, [[(eI p0.op), (eI p0.ctor), (eI p0.n), (eI p0.m), (eI p0.var), (.sl 6 20 (l).length)]], 0, 0x0029⟩) (by simp [(app_some j).1]) rfl rfl (by simp) (rv_cons (.cons (v_free (by simp) (by simp)) (.cons (v_free (by simp) (by simp)) (.cons (v_free (by simp) (by simp)) (.cons (v_free (by simp) (by simp)) (.cons (v_free (by simp) (by simp)) (.cons (v_sl rfl) .nil)))))) rv_nil)) (.cons (lv (L := ⟨6, (List.map rGPattern l), 0, 0x0029⟩) (by simp [(app_some j).1]) rfl rfl (by simp) (rv_free (by simp [(app_some j).1]) (free_rows_of fr_GPattern _))) .nil))))
   rw [congrFun (congrFun i _) a]
   apply sq
   refine sZ ?_ fun K hK => by simp [ilt_len p0.kids.length]; exact hK
   refine cF ?_
   refine TrD.exit ?_
   try simp only [↓reduceIte, Nat.reduceEqDiff, Nat.zero_ne_one, Nat.one_ne_zero, OfNat.ofNat_ne_zero, OfNat.zero_ne_ofNat, OfNat.one_ne_ofNat, OfNat.ofNat_ne_one]
   refine ToAny.mk a A ?_
   rw [o]
   exact gC [1, 2, 3]
  subst hz
  try dsimp only at h
  rw [congrFun o e]
  refine sZ ?_
  cases h
  apply TrD.ret
  refine exitDG (σ' := ⟨(updD (fun _ => .any) 2 (.ptr 6 0 0 0)), hOfO [some ⟨6, [(rGPattern (GPattern.mk p0.op p0.ctor p0.n p0.m p0.var e))], 0, 0x0029⟩], 1, 26⟩) ?_ ?_
  ·refine (Ghost.raise 2 (by simp; rfl)).trans ?_
   exact gC [0] (hh := (ln.c (lv (L := ⟨6, [[(eI p0.op), (eI p0.ctor), (eI p0.n), (eI p0.m), (eI p0.var), (.sl 6 2 (e).length)]], 0, 0x0029⟩) (by simp) rfl rfl (by simp) (rv_consr (rGPattern_eq _) (.cons (v_free (by simp) (by simp)) (.cons (v_free (by simp) (by simp)) (.cons (v_free (by simp) (by simp)) (.cons (v_free (by simp) (by simp)) (.cons (v_free (by simp) (by simp)) (.cons (v_frz (by simp; rfl) rfl (by simp) (by simp) (rv_free (by simp) (by simp))) .nil)))))) rv_nil))))
  simp [resD]
  exact eF
set_option maxRecDepth 100000 in
theorem c_spec_l11Range (p0 : GGuard) (res : Int × Int) (h : m_spec_l11Range p0 = some res) : CallsD Tryz.prog 0o00156 [(.agg (rGGuard p0))] (fun d => d = .tup [(eI res.1), (eI res.2)]) := by
 unfold m_spec_l11Range at h
 refine CD Tryz.func110 [.tmp 2, .tmp 3] fun β hβ => ?_
 refine sZ ?_
 apply sq
 refine sZ ?_
 refine TrD.cond (b := ieq p0.op 1) (by simp) (fun hb2 => ?_) (fun hb2 => ?_)
 ·rw [if_pos hb2] at h
  apply sq
  refine TrD.ghost (σ' := ⟨(updD (fun _ => .any) 1 (.ptr 3 0 0 0)), hOfO [some ⟨3, [(rGGuard p0)], 0, 0x002b⟩], 1, 14⟩) ?_ ?_
  ·exact gC [0]
  refine TrD.draw tysOk mixed [0, 1, 2, 3, 4] [0] [] (by rfl) rfl (fun K hK => ?_)
  simp
  apply hK
  cases h
  apply TrD.ret
  exact xD
 rw [iN hb2] at h
 apply TrD.skip
 apply sq
 refine TrD.ghost (σ' := ⟨(updD (fun _ => .any) 1 (.ptr 3 0 0 0)), hOfO [some ⟨3, [(rGGuard p0)], 0, 0x002b⟩], 1, 14⟩) ?_ ?_
 ·exact gC [0]
 refine TrD.draw tysOk mixed [0, 1, 2, 3, 4, 5] [0] [] (by rfl) rfl (fun K hK => ?_)
 simp
 apply hK
 cases h
 apply TrD.ret
 exact xD
theorem c_spec_l5Meet : ∀ (n : Nat) (p0 : GPattern) (p1 : GPattern) (res : GPattern × Bool), m_spec_l5Meet n p0 p1 = some res → CallsD Tryz.prog 0o00364 [(.agg (rGPattern p0)), (.agg (rGPattern p1))] (fun d => d = .tup [(.agg (rGPattern res.1)), (eB res.2)]) := by
 intro n
 induction n with
 | zero => intro p0 p1 res h; cases h
 | succ n ih =>
  intro p0 p1 res h
  rw [m_spec_l5Meet.eq_2] at h
  refine CD Tryz.func244 [.cell 4 41, .tmp 5] fun β hβ => ?_
  refine sZ ?_
  apply sq
  apply TrD.block
  refine sZ ?_
  refine TrD.cond (b := ieq p0.op 1) (by simp) (fun q => ?_) (fun q => ?_)
  ·rw [if_pos q] at h
   refine sZ ?_ fun K hK => by simp [q]; exact hK
   cases h
   apply TrD.ret
   exact xD
  rw [iN q] at h
  refine sZ ?_ fun K hK => by simp [q]; exact hK
  refine TrD.cond (b := ieq p1.op 1) (by simp) (fun r => ?_) (fun r => ?_)
  ·rw [if_pos r] at h
   refine sZ ?_ fun K hK => by simp [r]; exact hK
   cases h
   apply TrD.ret
   exact xD
  rw [iN r] at h
  refine sZ ?_ fun K hK => by simp [r]; exact hK
  refine TrD.cond (b := ieq p0.op 3) (by simp) (fun s => ?_) (fun s => ?_)
  ·rw [if_pos s] at h
   refine sZ ?_ fun K hK => by simp [s]; exact hK
   refine sZ ?_
   obtain ⟨V, u, h⟩ := bindE h
   obtain ⟨J, A⟩ : ∃ S : Int → St, S = fun e => ⟨(updD (updD (updD (updD (fun _ => .any) 3 (.ptr 6 0 0 0)) 4 (.ptr 6 1 0 0)) 6 (eI e)) 7 (eI p0.m)), hOfO [some ⟨6, [(rGPattern p1)], 0, 0x0029⟩, some ⟨6, [[(eI 0), (eI 0), (eI 0), (eI 0), (eI 0), .nil]], 0, 0x0029⟩], 2, 89⟩ := ⟨_, rfl⟩
   refine TrD.join J (fun z => V = Ctl.brk z) ?_ (fun e hz => ?_)
   ·refine sZ ?_
    refine TrD.cond (b := ilt p0.n p1.n) (by simp) (fun f => ?_) (fun f => ?_)
    ·rw [if_pos f] at u
     refine rZ ?_ fun K hK => by simp [f]; exact hK
     cases u
     refine ToAny.mk p1.n rfl ?_
     rw [A]
     exact gC [8, 16]
    rw [iN f] at u
    apply TrD.skip
    cases u
    refine ToAny.mk p0.n rfl ?_
    rw [A]
    exact gC [8, 16]
   subst hz
   try dsimp only at h
   rw [congrFun A e]
   obtain ⟨W, v, h⟩ := bindE h
   obtain ⟨N, B⟩ : ∃ S : Int → St, S = fun i => ⟨(updD (updD (updD (fun _ => .any) 4 (.ptr 6 0 0 0)) 6 (eI e)) 7 (eI i)), hOfO [some ⟨6, [[(eI 0), (eI 0), (eI 0), (eI 0), (eI 0), .nil]], 0, 0x0029⟩], 1, 89⟩ := ⟨_, rfl⟩
   refine TrD.join N (fun z => W = Ctl.brk z) ?_ (fun i hz => ?_)
   ·refine sZ ?_
    refine TrD.cond (b := ilt p1.m p0.m) (by simp) (fun g => ?_) (fun g => ?_)
    ·rw [if_pos g] at v
     refine rZ ?_ fun K hK => by simp [g]; exact hK
     cases v
     refine ToAny.mk p1.m rfl ?_
     rw [B]
     exact gC [1]
    rw [iN g] at v
    apply TrD.skip
    cases v
    refine ToAny.mk p0.m rfl ?_
    rw [B]
    exact gC [1]
   subst hz
   try dsimp only at h
   rw [congrFun B i]
   refine sZ ?_
   cases h
   apply TrD.ret
   refine exitDG (σ' := ⟨(updD (updD (fun _ => .any) 4 (.ptr 6 0 0 0)) 5 (eB (ile e i))), hOfO [some ⟨6, [(rGPattern (GPattern.mk 3 0 e i 0 []))], 0, 0x0029⟩], 1, 89⟩) ?_ ?_
   ·exact gC [0]
   simp [resD]
   exact eF
  rw [iN s] at h
  refine sZ ?_ fun K hK => by simp [s]; exact hK
  refine TrD.cond (b := !ieq p0.ctor p1.ctor) (by simp) (fun t => ?_) (fun t => ?_)
  ·rw [if_pos t] at h
   refine sZ ?_ fun K hK => by simp [t]; exact hK
   cases h
   apply TrD.ret
   refine exitDG (σ' := ⟨(updD (updD (fun _ => .any) 4 (.ptr 6 0 0 0)) 5 (eB false)), hOfO [some ⟨6, [(rGPattern (GPattern.mk 0 0 0 0 0 []))], 0, 0x0029⟩], 1, 89⟩) ?_ ?_
   ·exact gC [16]
   simp [resD]
   exact eF
  rw [iN t] at h
  apply TrD.skip
  refine sZ ?_ fun K hK => by simp [t]; exact hK
  apply sq
  refine sZ ?_
  obtain ⟨U, O, h⟩ := bindE h
  obtain ⟨H, D⟩ : ∃ S : (List GPattern) → St, S = fun o => ⟨(updD (updD (fun _ => .any) 4 (.ptr 6 0 0 0)) 8 (.ptr 6 1 0 0)), hOfO [some ⟨6, [[(eI 0), (eI 0), (eI 0), (eI 0), (eI 0), .nil]], 0, 0x0029⟩, some ⟨6, [[(eI 4), (eI p0.ctor), (eI 0), (eI 0), (eI 0), (.sl 6 2 (o).length)]], 0, 0x0029⟩, some ⟨6, (List.map rGPattern o), 0, 0x0029⟩], 3, 89⟩ := ⟨_, rfl⟩
  refine TrD.joinQ H (fun z => U = Ctl.brk z) (fun _ _ hg h => TrD.ghost hg h) ?_ (fun o hz => ?_)
  ·apply TrD.block
   obtain ⟨I, w⟩ : ∃ S : Nat → (List GPattern) → St, S = fun j a => ⟨(updD (updD (updD (updD (updD (fun _ => .any) 2 (.ptr 6 0 0 0)) 3 (.ptr 6 1 0 0)) 4 (.ptr 6 2 0 0)) 8 (.ptr 6 3 0 0)) 9 (eI (j : Int))), hOfO [some ⟨6, [(rGPattern p0)], 0, 0x0029⟩, some ⟨6, [(rGPattern p1)], 0, 0x0029⟩, some ⟨6, [[(eI 0), (eI 0), (eI 0), (eI 0), (eI 0), .nil]], 0, 0x0029⟩, some ⟨6, [[(eI 4), (eI p0.ctor), (eI 0), (eI 0), (eI 0), (.sl 6 4 (a).length)]], 0, 0x0029⟩, some ⟨6, (List.map rGPattern a), 0, 0x0029⟩], 5, 89⟩ := ⟨_, rfl⟩
   refine TrD.limS (sz := 6) (rows := List.map rGPattern p0.kids) (seen_cell (d := .slice 6 (List.map rGPattern p0.kids)) 0 0 5 (by simp; rfl) rfl (by simp)) (fun hlim => ?_)
   rw [List.length_map] at hlim
   refine TrD.forL I O hlim ?_ (fun j Z a G ac ad T l ae c R ab => ?_) (fun a Y => ?_)
   ·rw [w]
    refine (Ghost.ownNilCell 200 5 6 0x0029 (by simp; rfl) rfl (by simp) (by simp)).trans ?_
    exact gC [0, 8, 16, 200, 224]
   ·rw [congrFun (congrFun w j) a]
    apply sq
    refine sZ ?_ fun K hK => by simp [T]; exact hK
    refine cT ?_
    apply TrD.skip
    apply sq
    apply TrD.block
    apply sq
    refine TrD.ghost (σ' := ⟨(updD (updD (updD (updD (updD (fun _ => .any) 2 (.ptr 6 0 0 0)) 3 (.ptr 6 1 0 0)) 4 (.ptr 6 2 0 0)) 8 (.ptr 6 3 0 0)) 9 (eI (j : Int))), hOfO [some ⟨6, [(rGPattern p0)], 0, 0x0029⟩, some ⟨6, [(rGPattern p1)], 0, 0x0029⟩, some ⟨6, [[(eI 0), (eI 0), (eI 0), (eI 0), (eI 0), .nil]], 0, 0x0029⟩, some ⟨6, [[(eI 4), (eI p0.ctor), (eI 0), (eI 0), (eI 0), (.sl 6 4 (a).length)]], 0, 0x0029⟩, some ⟨6, (List.map rGPattern a), 0, 0x0029⟩], 5, 89⟩) ?_ ?_
    ·exact gC [0, 1, 2, 3, 4]
    obtain ⟨aa, E, c⟩ := bindE c
    obtain ⟨X, Q, c⟩ := bindE c
    refine TrD.drawZ tysOk mixed [0, 1, 2, 3, 4, 5, 6, 7, 8, 9, 10, 11, 12, 13, 14, 15, 16] [0, 1] [1048586] [] [] (by rfl) rfl 2097152 (Nat.le_of_ble_eq_true rfl) (.inr ⟨Nat.le_of_ble_eq_true rfl, rfl⟩) (fun K hK => ?_)
    simp [idx_inb G, idx_row G, idx_inb E, idx_row E]
    refine cp (ih Z aa _ Q) ?_
    simp
    apply hK
    apply sq
    refine sZ ?_
    refine TrD.cond (b := (!X.2)) (by simp) (fun p => ?_) (fun p => ?_)
    ·rw [if_pos p] at c
     refine sZ ?_ fun K hK => by simp [p]; exact hK
     cases c
     obtain rfl := R _ rfl
     cases h
     apply TrD.ret
     refine exitDG (σ' := ⟨(updD (updD (fun _ => .any) 4 (.ptr 6 0 0 0)) 5 (eB false)), hOfO [some ⟨6, [(rGPattern (GPattern.mk 0 0 0 0 0 []))], 0, 0x0029⟩], 1, 89⟩) ?_ ?_
     ·exact gC [2]
     simp [resD]
     exact eF
    rw [iN p] at c
    apply TrD.skip
    obtain ⟨C, y, c⟩ := bindE c
    have F := (app_some y).2
    try simp only [List.length_cons, List.length_nil, Nat.zero_add] at F
    refine rZ ?_ fun K hK => by simp [p, F]; exact hK
    refine rZ ?_
    cases c
    refine ToAny.mk C rfl ?_
    rw [w]
    exact Ghost.canonV 0 [0, 1, 2, 3, 2097216] _ _ hβ (keep_first (by decide)) (by decide) (vT_upd (v_of (d0 := (eI (wadd .i64 (j : Int) 1))) (by simp [l]) (v_free (by simp) (by simp [l]))) (vT_upd (v_of (d0 := (.ptr 6 3 0 0)) (by simp [l]) (v_ptr rfl)) (vT_upd (v_of (d0 := (.ptr 6 2 0 0)) (by simp [l]) (v_ptr rfl)) (vT_upd (v_of (d0 := (.ptr 6 1 0 0)) (by simp [l]) (v_ptr rfl)) (vT_upd (v_of (d0 := (.ptr 6 0 0 0)) (by simp [l]) (v_ptr rfl)) (vT_any _)))))) (.cons (lv (L := ⟨6, [(rGPattern p0)], 0, 0x0029⟩) (by simp) rfl rfl (by simp) (rv_free (by simp) (by simp))) (.cons (lv (L := ⟨6, [(rGPattern p1)], 0, 0x0029⟩) (by simp) rfl rfl (by simp) (rv_free (by simp) (by simp))) (.cons (lv (L := ⟨6, [[(eI 0), (eI 0), (eI 0), (eI 0), (eI 0), .nil]], 0, 0x0029⟩) (by simp) rfl rfl (by simp) (rv_cons (.cons (v_free (by simp) (by simp)) (.cons (v_free (by simp) (by simp)) (.cons (v_free (by simp) (by simp)) (.cons (v_free (by simp) (by simp)) (.cons (v_free (by simp) (by simp)) (.cons (v_free (by simp) (by simp)) .nil)))))) rv_nil)) (.cons (lv (L := ⟨6, [[(eI 4), (eI p0.ctor), (eI 0), (eI 0), (eI 0), (.sl 6 2097216 (C).length)]], 0, 0x0029⟩) (by simp [(app_some y).1]) rfl rfl (by simp) (rv_cons (.cons (v_free (by simp) (by simp)) (.cons (v_free (by simp) (by simp)) (.cons (v_free (by simp) (by simp)) (.cons (v_free (by simp) (by simp)) (.cons (v_free (by simp) (by simp)) (.cons (v_sl rfl) .nil)))))) rv_nil)) (.cons (lv (L := ⟨6, (List.map rGPattern C), 0, 0x0029⟩) (by simp [(app_some y).1]) rfl rfl (by simp) (rv_free (by simp [(app_some y).1]) (free_rows_of fr_GPattern _))) .nil)))))
   rw [congrFun (congrFun w _) a]
   apply sq
   refine sZ ?_ fun K hK => by simp [ilt_len p0.kids.length]; exact hK
   refine cF ?_
   refine TrD.exit ?_
   try simp only [↓reduceIte, Nat.reduceEqDiff, Nat.zero_ne_one, Nat.one_ne_zero, OfNat.ofNat_ne_zero, OfNat.zero_ne_ofNat, OfNat.one_ne_ofNat, OfNat.ofNat_ne_one]
   refine ToAny.mk a Y ?_
   rw [D]
   exact gC [2, 3, 4]
  subst hz
  try dsimp only at h
  rw [congrFun D o]
  refine sZ ?_
  cases h
  apply TrD.ret
  refine exitDG (σ' := ⟨(updD (updD (fun _ => .any) 4 (.ptr 6 0 0 0)) 5 (eB true)), hOfO [some ⟨6, [(rGPattern (GPattern.mk 4 p0.ctor 0 0 0 o))], 0, 0x0029⟩], 1, 89⟩) ?_ ?_
  ·refine (Ghost.raise 2 (by simp; rfl)).trans ?_
   exact gC [0] (hh := (ln.c (lv (L := ⟨6, [[(eI 4), (eI p0.ctor), (eI 0), (eI 0), (eI 0), (.sl 6 2 (o).length)]], 0, 0x0029⟩) (by simp) rfl rfl (by simp) (rv_consr (rGPattern_eq _) (.cons (v_free (by simp) (by simp)) (.cons (v_free (by simp) (by simp)) (.cons (v_free (by simp) (by simp)) (.cons (v_free (by simp) (by simp)) (.cons (v_free (by simp) (by simp)) (.cons (v_frz (by simp; rfl) rfl (by simp) (by simp) (rv_free (by simp) (by simp))) .nil)))))) rv_nil))))
  simp [resD]
  exact eF
theorem c_spec_l11Narrow : ∀ (n : Nat) (p0 : GPattern) (p1 : Int) (p2 : Int) (res : GPattern × Bool), m_spec_l11Narrow n p0 p1 p2 = some res → CallsD Tryz.prog 0o00267 [(.agg (rGPattern p0)), (eI p1), (eI p2)] (fun d => d = .tup [(.agg (rGPattern res.1)), (eB res.2)]) := by
 intro n
 induction n with
 | zero => intro p0 p1 p2 res h; cases h
 | succ n ih =>
  intro p0 p1 p2 res h
  rw [m_spec_l11Narrow.eq_2] at h
  refine CD Tryz.func183 [.cell 6 41, .tmp 7] fun β hβ => ?_
  refine sZ ?_
  apply sq
  refine sZ ?_
  apply TrD.block
  refine sZ ?_
  refine TrD.cond (b := ieq p0.op 1) (by simp) (fun j => ?_) (fun j => ?_)
  ·rw [if_pos j] at h
   refine sZ ?_ fun K hK => by simp [j]; exact hK
   cases h
   apply TrD.ret
   refine exitDG (σ' := ⟨(updD (updD (fun _ => .any) 6 (.ptr 6 0 0 0)) 7 (eB (ile p1 p2))), hOfO [some ⟨6, [(rGPattern (GPattern.mk 3 0 p1 p2 0 []))], 0, 0x0029⟩], 1, 100⟩) ?_ ?_
   ·exact gC [8]
   simp [resD]
   exact eF
  rw [iN j] at h
  refine sZ ?_ fun K hK => by simp [j]; exact hK
  refine TrD.cond (b := ieq p0.op 2) (by simp) (fun l => ?_) (fun l => ?_)
  ·rw [if_pos l] at h
   refine sZ ?_ fun K hK => by simp [l]; exact hK
   cases h
   apply TrD.ret
   refine exitDG (σ' := ⟨(updD (updD (fun _ => .any) 6 (.ptr 6 0 0 0)) 7 (eB (ile p1 p2))), hOfO [some ⟨6, [(rGPattern (GPattern.mk 6 0 0 0 p0.var [(GPattern.mk 3 0 p1 p2 0 [])]))], 0, 0x0029⟩], 1, 100⟩) ?_ ?_
   ·refine (Ghost.raise 112 (by simp; rfl)).trans ?_
    exact gC [8] (hh := (ln.c (lv (L := ⟨6, [[(eI 6), (eI 0), (eI 0), (eI 0), (eI p0.var), (.sl 6 112 ([(GPattern.mk 3 0 p1 p2 0 [])]).length)]], 0, 0x0029⟩) (by simp) rfl rfl (by simp) (rv_consr (rGPattern_eq _) (.cons (v_free (by simp) (by simp)) (.cons (v_free (by simp) (by simp)) (.cons (v_free (by simp) (by simp)) (.cons (v_free (by simp) (by simp)) (.cons (v_free (by simp) (by simp)) (.cons (v_frz (L := ⟨6, ((List.map rGPattern []) ++ [[(eI 3), (eI 0), (eI p1), (eI p2), (eI 0), .nil]]), ([(GPattern.mk 3 0 p1 p2 0 [])]).length * 6, 0x0029⟩) (by simp) rfl (by simp) (by simp) (rv_consr (rGPattern_eq _) (.cons (v_free (by simp) (by simp)) (.cons (v_free (by simp) (by simp)) (.cons (v_free (by simp) (by simp)) (.cons (v_free (by simp) (by simp)) (.cons (v_free (by simp) (by simp)) (.cons (v_free (by simp) (by simp)) .nil)))))) rv_nil)) .nil)))))) rv_nil))))
   simp [resD]
   exact eF
  rw [iN l] at h
  refine sZ ?_ fun K hK => by simp [l]; exact hK
  refine TrD.cond (b := ieq p0.op 6) (by simp) (fun m => ?_) (fun m => ?_)
  ·rw [if_pos m] at h
   apply sq
   obtain ⟨I, s, h⟩ := bindE h
   obtain ⟨i, D, h⟩ := bindE h
   refine rk fun K hK => ?_
   simp [m, idx_inb s, idx_row s]
   refine cp (ih I p1 p2 _ D) ?_
   simp
   apply hK
   refine sZ ?_
   cases h
   apply TrD.ret
   refine exitDG (σ' := ⟨(updD (updD (fun _ => .any) 6 (.ptr 6 0 0 0)) 7 (eB i.2)), hOfO [some ⟨6, [(rGPattern (GPattern.mk 6 0 0 0 p0.var [i.1]))], 0, 0x0029⟩], 1, 100⟩) ?_ ?_
   ·refine (Ghost.raise 216 (by simp; rfl)).trans ?_
    exact gC [8] (hh := (ln.c (lv (L := ⟨6, [[(eI 6), (eI 0), (eI 0), (eI 0), (eI p0.var), (.sl 6 216 ([i.1]).length)]], 0, 0x0029⟩) (by simp) rfl rfl (by simp) (rv_consr (rGPattern_eq _) (.cons (v_free (by simp) (by simp)) (.cons (v_free (by simp) (by simp)) (.cons (v_free (by simp) (by simp)) (.cons (v_free (by simp) (by simp)) (.cons (v_free (by simp) (by simp)) (.cons (v_frz (L := ⟨6, (List.map rGPattern [i.1]), ([i.1]).length * 6, 0x0029⟩) (by simp) rfl (by simp) (by simp) (rv_free (by simp) (free_rows_of fr_GPattern _))) .nil)))))) rv_nil))))
   simp [resD]
   exact eF
  rw [iN m] at h
  refine sZ ?_ fun K hK => by simp [m]; exact hK
  refine TrD.cond (b := ieq p0.op 5) (by simp) (fun o => ?_) (fun o => ?_)
  ·rw [if_pos o] at h
   apply sq
   obtain ⟨J, t, h⟩ := bindE h
   obtain ⟨c, E, h⟩ := bindE h
   refine rk fun K hK => ?_
   simp [o, idx_inb t, idx_row t]
   refine cp (ih J p1 p2 _ E) ?_
   simp
   apply hK
   apply sq
   obtain ⟨N, u, h⟩ := bindE h
   obtain ⟨a, F, h⟩ := bindE h
   refine rk fun K hK => ?_
   simp [idx_inb u, idx_row u]
   refine cp (ih N p1 p2 _ F) ?_
   simp
   apply hK
   obtain ⟨H, g, h⟩ := bindE h
   obtain ⟨w, r⟩ : ∃ S : Unit → St, S = fun v => ⟨(updD (updD (updD (updD (updD (fun _ => .any) 6 (.ptr 6 0 0 0)) 10 (.ptr 6 1 0 0)) 11 (eB c.2)) 12 (.ptr 6 2 0 0)) 13 (eB a.2)), hOfO [some ⟨6, [[(eI 0), (eI 0), (eI 0), (eI 0), (eI 0), .nil]], 0, 0x0029⟩, some ⟨6, [(rGPattern c.1)], 0, 0x0029⟩, some ⟨6, [(rGPattern a.1)], 0, 0x0029⟩], 3, 100⟩ := ⟨_, rfl⟩
   refine TrD.join w (fun z => H = Ctl.brk z) ?_ (fun v hz => ?_)
   ·apply sq
    rcases bb c.2 with f | f
    ·rw [if_pos f] at g
     refine rZ ?_ fun K hK => by simp [f]; exact hK
     refine TrD.cond (b := a.2) (by simp) (fun e => ?_) (fun e => ?_)
     ·rw [if_pos e] at g
      refine sZ ?_ fun K hK => by simp [e]; exact hK
      cases g
      cases h
      apply TrD.ret
      refine exitDG (σ' := ⟨(updD (updD (fun _ => .any) 6 (.ptr 6 0 0 0)) 7 (eB true)), hOfO [some ⟨6, [(rGPattern (GPattern.mk 5 0 0 0 0 [c.1, a.1]))], 0, 0x0029⟩], 1, 100⟩) ?_ ?_
      ·refine (Ghost.raise 360 (by simp; rfl)).trans ?_
       exact gC [8] (hh := (ln.c (lv (L := ⟨6, [[(eI 5), (eI 0), (eI 0), (eI 0), (eI 0), (.sl 6 360 ([c.1, a.1]).length)]], 0, 0x0029⟩) (by simp) rfl rfl (by simp) (rv_consr (rGPattern_eq _) (.cons (v_free (by simp) (by simp)) (.cons (v_free (by simp) (by simp)) (.cons (v_free (by simp) (by simp)) (.cons (v_free (by simp) (by simp)) (.cons (v_free (by simp) (by simp)) (.cons (v_frz (L := ⟨6, (List.map rGPattern [c.1, a.1]), ([c.1, a.1]).length * 6, 0x0029⟩) (by simp) rfl (by simp) (by simp) (rv_free (by simp) (free_rows_of fr_GPattern _))) .nil)))))) rv_nil))))
      simp [resD]
      exact eF
     rw [iN e] at g
     apply TrD.skip
     cases g
     refine ToAny.mk () rfl ?_
     rw [r]
     exact gc [8, 184, 288] hβ (((((va.p 8 (by simp [e])).p 184 (by simp [e])).f (by simp [f, e])).p 288 (by simp [e])).f (by simp [e])) (ln.f.f.c (lv (L := ⟨6, [[(eI 0), (eI 0), (eI 0), (eI 0), (eI 0), .nil]], 0, 0x0029⟩) (by simp) rfl rfl (by simp) (rv_cons (.cons (v_free (by simp) (by simp)) (.cons (v_free (by simp) (by simp)) (.cons (v_free (by simp) (by simp)) (.cons (v_free (by simp) (by simp)) (.cons (v_free (by simp) (by simp)) (.cons (v_free (by simp) (by simp)) .nil)))))) rv_nil)))
    rw [iN f] at g
    refine rZ ?_ fun K hK => by simp [f]; exact hK
    refine cF ?_
    apply TrD.skip
    cases g
    refine ToAny.mk () rfl ?_
    rw [r]
    exact gc [8, 184, 288] hβ (((((va.p 8).p 184).f (by simp [f])).p 288).f) (ln.f.f.c (lv (L := ⟨6, [[(eI 0), (eI 0), (eI 0), (eI 0), (eI 0), .nil]], 0, 0x0029⟩) (by simp) rfl rfl (by simp) (rv_cons (.cons (v_free (by simp) (by simp)) (.cons (v_free (by simp) (by simp)) (.cons (v_free (by simp) (by simp)) (.cons (v_free (by simp) (by simp)) (.cons (v_free (by simp) (by simp)) (.cons (v_free (by simp) (by simp)) .nil)))))) rv_nil)))
   subst hz
   try dsimp only at h
   rw [congrFun r v]
   apply sq
   refine sZ ?_
   refine TrD.cond (b := c.2) (by simp) (fun p => ?_) (fun p => ?_)
   ·rw [if_pos p] at h
    refine sZ ?_ fun K hK => by simp [p]; exact hK
    cases h
    apply TrD.ret
    exact xD
   rw [iN p] at h
   apply TrD.skip
   refine sZ ?_ fun K hK => by simp [p]; exact hK
   cases h
   apply TrD.ret
   exact xD
  rw [iN o] at h
  apply TrD.skip
  apply sq
  obtain ⟨q, G, h⟩ := bindE h
  refine rk fun K hK => ?_
  simp [o]
  refine cp (c_spec_l5Meet n p0 (GPattern.mk 3 0 p1 p2 0 []) _ G) ?_
  simp
  apply hK
  refine sZ ?_
  cases h
  apply TrD.ret
  exact xD
end Go.Proofs.YtmkamncbkkahjaaGreat
