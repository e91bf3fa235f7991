import Derived.Test.YtimpchdgflhkaaaGreatJMir
import Derived.Test.YtimpchdgflhkaaaGreatJZap
import Derived.Test.YtimpchdgflhkaaaGreatJC2
import Derived.Test.YtimpchdgflhkaaaGreatJC1
set_option linter.unusedSimpArgs false
set_option linter.unusedVariables false
namespace Go.Proofs.YtimpchdgflhkaaaGreat
open Go Go.RowKit
set_option maxRecDepth 100000
set_option maxHeartbeats 20000000
theorem c_spec_l3Vars : ∀ (n : Nat) (p0 : (List GVarType)) (p1 : (List GData)) (p2 : GType) (p3 : GPattern) (res : (List GVarType)), m_spec_l3Vars n p0 p1 p2 p3 = some res → CallsH Tryz.prog 0o00060 [⟨3, List.map rGVarType p0, 0, 0x0076⟩] [.sl 3 0 p0.length, (.slice 2 (List.map rGData p1)), (.agg (rGType p2)), (.agg (rGPattern p3))] (fun H d => H = [none, some ⟨3, List.map rGVarType res, 0, 0x0076⟩] ∧ d = .sl 3 1 res.length) := by
 intro n
 induction n with
 | zero => intro p0 p1 p2 p3 res h; cases h
 | succ n ih =>
  intro p0 p1 p2 p3 res h
  rw [m_spec_l3Vars.eq_2] at h
  refine CH Tryz.func48 [.tmp 8] 1 fun β hβ => ?_
  refine sZ ?_
  obtain ⟨W, c, h⟩ := bindE h
  obtain ⟨M, t⟩ : ∃ S : (List GVarType) → St, S = fun p => ⟨(updD (updD (updD (updD (fun _ => .any) 0 (.sl 3 1 (p).length)) 1 (.slice 2 (List.map rGData p1))) 6 (.ptr 2 2 0 0)) 7 (.ptr 6 3 0 0)), hOfO [none, some ⟨3, (List.map rGVarType p), 0, 0x0076⟩, some ⟨2, [(rGType p2)], 0, 0x0019⟩, some ⟨6, [(rGPattern p3)], 0, 0x0020⟩], 4, 58⟩ := ⟨_, rfl⟩
  refine TrD.join M (fun z => W = Ctl.brk z) ?_ (fun p hz => ?_)
  ·apply sq
   rcases bb (ieq p3.op 2) with q | q
   ·rw [if_pos q] at c
    refine rZ ?_ fun K hK => by simp [q]; exact hK
    refine cT ?_
    obtain ⟨A, v, c⟩ := bindE c
    have D := (app_some v).2
    try simp only [List.length_cons, List.length_nil, Nat.zero_add] at D
    refine rZ ?_ fun K hK => by simp [D]; exact hK
    cases c
    refine ToAny.mk A rfl ?_
    rw [t]
    exact gc [0, 113, 1, 9] hβ ((((va.s 113 (by simp [(app_some v).1])).f).p 1).p 9) ((ln.f.f.f (by simp [(app_some v).1])).c lv_none)
   rw [iN q] at c
   refine rZ ?_ fun K hK => by simp [q]; exact hK
   refine TrD.cond (b := ieq p3.op 6) (by simp) (fun j => ?_) (fun j => ?_)
   ·rw [if_pos j] at c
    obtain ⟨B, w, c⟩ := bindE c
    have E := (app_some w).2
    try simp only [List.length_cons, List.length_nil, Nat.zero_add] at E
    refine rZ ?_ fun K hK => by simp [j, E]; exact hK
    cases c
    refine ToAny.mk B rfl ?_
    rw [t]
    exact gc [0, 137, 1, 9] hβ ((((va.s 137 (by simp [(app_some w).1])).f).p 1).p 9) ((ln.f.f.f (by simp [(app_some w).1])).c lv_none)
   rw [iN j] at c
   apply TrD.skip
   cases c
   refine ToAny.mk p0 rfl ?_
   rw [t]
   refine (Ghost.move (sz := 3) (k := 0) (n := (p0).length) (L := ⟨3, (List.map rGVarType p0), 0, 0x0076⟩) 0 (by simp [j]) (by simp)).trans ?_
   exact gC [0, 89, 1, 9] (hh := (ln.f.f.f.c lv_none))
  subst hz
  try dsimp only at h
  rw [congrFun t p]
  apply sq
  obtain ⟨e, V, h⟩ := bindE h
  refine rk fun K hK => ?_
  simp
  refine cp (c_spec_l3Types n p1 p2 p3 _ V) ?_
  simp
  apply hK
  apply sq
  refine sZ ?_
  obtain ⟨X, P, h⟩ := bindE h
  obtain ⟨J, x⟩ : ∃ S : (List GVarType) → St, S = fun l => ⟨(updD (fun _ => .any) 0 (.sl 3 1 (l).length)), hOfO [none, some ⟨3, (List.map rGVarType l), 0, 0x0076⟩], 2, 58⟩ := ⟨_, rfl⟩
  refine TrD.joinQ J (fun z => X = Ctl.brk z) (fun _ _ hg h => TrD.ghost hg h) ?_ (fun l hz => ?_)
  ·apply TrD.block
   obtain ⟨N, u⟩ : ∃ S : Nat → (List GVarType) → St, S = fun f a => ⟨(updD (updD (updD (updD (updD (fun _ => .any) 0 (.sl 3 1 (a).length)) 1 (.slice 2 (List.map rGData p1))) 7 (.ptr 6 2 0 0)) 9 (.slice 2 (List.map rGType e))) 10 (eI (f : Int))), hOfO [none, some ⟨3, (List.map rGVarType a), 0, 0x0076⟩, some ⟨6, [(rGPattern p3)], 0, 0x0020⟩], 3, 58⟩ := ⟨_, rfl⟩
   refine TrD.limS (sz := 2) (rows := List.map rGType e) (seen_slot (d := .slice 2 (List.map rGType e)) 29 (by simp)) (fun hlim => ?_)
   rw [List.length_map] at hlim
   refine TrD.forL N P hlim ?_ (fun f aa a F ae af G o ag g ad Q => ?_) (fun a Z => ?_)
   ·rw [u]
    exact gC [0, 1, 3] (hh := (ln.f.f.c lv_none))
   ·rw [congrFun (congrFun u f) a]
    obtain ⟨Y, m, g⟩ := bindE g
    obtain ⟨O, y⟩ : ∃ S : Unit → St, S = fun I => ⟨(updD (updD (updD (updD (updD (fun _ => .any) 0 (.sl 3 1 (a).length)) 1 (.slice 2 (List.map rGData p1))) 7 (.ptr 6 2 0 0)) 9 (.slice 2 (List.map rGType e))) 10 (eI (f : Int))), hOfO [none, some ⟨3, (List.map rGVarType a), 0, 0x0076⟩, some ⟨6, [(rGPattern p3)], 0, 0x0020⟩], 3, 58⟩ := ⟨_, rfl⟩
    refine TrD.join O (fun z => Y = Ctl.brk z) ?_ (fun I hz => ?_)
    ·apply sq
     rcases bb (ieq (f : Int) 0) with r | r
     ·rw [if_pos r] at m
      refine rZ ?_ fun K hK => by simp [G, r]; exact hK
      refine cT ?_
      apply TrD.skip
      cases m
      refine ToAny.mk () rfl ?_
      rw [y]
      exact gC [0, 1, 2] (hh := (ln.f.f.c lv_none))
     rw [iN r] at m
     refine rZ ?_ fun K hK => by simp [G, r]; exact hK
     refine TrD.cond (b := !ieq p3.op 5) (by simp) (fun i => ?_) (fun i => ?_)
     ·rw [if_pos i] at m
      apply TrD.skip
      cases m
      refine ToAny.mk () rfl ?_
      rw [y]
      exact gC [0, 1, 2] (hh := (ln.f.f.c lv_none))
     rw [iN i] at m
     refine TrD.exit ?_
     try simp only [↓reduceIte, Nat.reduceEqDiff, Nat.zero_ne_one, Nat.one_ne_zero, OfNat.ofNat_ne_zero, OfNat.zero_ne_ofNat, OfNat.one_ne_ofNat, OfNat.ofNat_ne_one]
     cases m
     cases g
     obtain rfl := Q _ rfl
     refine ToAny.mk a rfl ?_
     rw [x]
     exact gC [0, 1] (hh := (ln.f.c lv_none))
    subst hz
    try dsimp only at g
    rw [congrFun y I]
    apply sq
    apply TrD.block
    refine TrD.ghost (σ' := ⟨(updD (updD (updD (updD (updD (fun _ => .any) 0 (.sl 3 1 (a).length)) 1 (.slice 2 (List.map rGData p1))) 7 (.ptr 6 2 0 0)) 9 (.slice 2 (List.map rGType e))) 10 (eI (f : Int))), hOfO [none, some ⟨3, (List.map rGVarType a), 0, 0x0076⟩, some ⟨6, [(rGPattern p3)], 0, 0x0020⟩], 3, 58⟩) ?_ ?_
    ·exact gC [0, 1, 2] (hh := (ln.f.f.c lv_none))
    obtain ⟨ab, C, g⟩ := bindE g
    obtain ⟨s, U, g⟩ := bindE g
    refine TrD.draw tysOk mixed [0, 1, 2, 3, 4, 5, 6, 7, 8, 9, 10, 11, 12] [2] [] (by rfl) rfl (fun K hK => ?_)
    simp [idx_inb F, idx_row F, idx_inb C, idx_row C]
    refine callK (views_same _ _) (.same _ _) [1] (ih a p1 aa ab _ U) (by decide) (.cons (locRen_eq (by simp) (by simp) (by simp)) .nil) (.cons (ren_sl rfl) (.cons (ren_le (by simp) (by simp)) (.cons (ren_le (by simp) (by simp)) (.cons (ren_le (by simp) (by simp)) .nil)))) (fun ac ai R => ?_)
    obtain ⟨rfl, rfl⟩ := R
    refine ⟨by simp, [none, some ⟨3, (List.map rGVarType s), 0, 0x0076⟩], (.sl 3 4 (s).length), (.cons (.none _) (.cons (optRen_same (by simp)) .nil)), (ren_sl (by rfl)), ?_⟩
    simp [setMany, newNames]
    apply hK
    refine rZ ?_
    cases g
    refine ToAny.mk s rfl ?_
    rw [u]
    exact gc [0, 4, 2] hβ (((((va.s 4 (by simp [o])).f (by simp [o])).p 2 (by simp [o])).f (by simp [o])).f (by simp [o])) (ln.f.f.c lv_none)
   rw [congrFun (congrFun u _) a]
   apply sq
   refine sZ ?_ fun K hK => by simp [ilt_len e.length]; exact hK
   refine cF ?_
   refine TrD.exit ?_
   try simp only [↓reduceIte, Nat.reduceEqDiff, Nat.zero_ne_one, Nat.one_ne_zero, OfNat.ofNat_ne_zero, OfNat.zero_ne_ofNat, OfNat.one_ne_ofNat, OfNat.ofNat_ne_one]
   refine ToAny.mk a Z ?_
   rw [x]
   exact gC [0, 1] (hh := (ln.f.c lv_none))
  subst hz
  try dsimp only at h
  rw [congrFun x l]
  refine sk fun K hK => ?_
  simp
  apply hK
  obtain rfl := Option.some.inj h
  refine TrD.ret ?_
  refine exitHG (σ' := ⟨(updD (fun _ => .any) 8 (.sl 3 1 (l).length)), hOfO [none, some ⟨3, (List.map rGVarType l), 0, 0x0076⟩], 2, 58⟩) ?_ ?_
  ·exact Ghost.canonV 1 [0, 1] _ _ hβ (keep_first (by decide)) (by decide) (vT_upd (v_of (d0 := (.sl 3 1 (l).length)) (by simp) (v_sl rfl)) (vT_any _)) (.cons lv_none (.cons (lv (L := ⟨3, (List.map rGVarType l), 0, 0x0076⟩) (by simp) rfl rfl (by simp) (rv_free (by simp) (free_rows_of fr_GVarType _))) .nil))
  dsimp only [resD]
  exact ⟨[none, some ⟨3, (List.map rGVarType l), 0, 0x0076⟩], [], rfl, by simp, by simp, .inl rfl, by simp [packD]⟩
set_option maxRecDepth 100000 in
theorem c_spec_l3Find (p0 : (List GVarType)) (p1 : Int) (res : Int) (h : m_spec_l3Find p0 p1 = some res) : CallsD Tryz.prog 0o00125 [(.slice 3 (List.map rGVarType p0)), (eI p1)] (fun d => d = (eI res)) := by
 unfold m_spec_l3Find at h
 refine CD Tryz.func85 [.tmp 4] fun β hβ => ?_
 refine sZ ?_
 apply sq
 refine sZ ?_
 obtain ⟨s, p, h⟩ := bindE h
 obtain ⟨n, j⟩ : ∃ S : Unit → St, S = fun m => ⟨(fun _ => .any), hOfO [], 0, 20⟩ := ⟨_, rfl⟩
 refine TrD.joinQ n (fun z => s = Ctl.brk z) (fun _ _ hg h => TrD.ghost hg h) ?_ (fun m hz => ?_)
 ·apply TrD.block
  obtain ⟨o, g⟩ : ∃ S : Nat → Unit → St, S = fun a e => ⟨(updD (updD (updD (fun _ => .any) 0 (.slice 3 (List.map rGVarType p0))) 1 (eI p1)) 5 (eI (a : Int))), hOfO [], 0, 20⟩ := ⟨_, rfl⟩
  refine TrD.limS (sz := 3) (rows := List.map rGVarType p0) (seen_slot (d := .slice 3 (List.map rGVarType p0)) 0 (by simp)) (fun hlim => ?_)
  rw [List.length_map] at hlim
  refine TrD.forL o p hlim ?_ (fun a u e l w y r i A f q v => ?_) (fun e t => ?_)
  ·rw [g]
   exact gC []
  ·rw [congrFun (congrFun g a) e]
   apply sq
   refine sZ ?_ fun K hK => by simp [r]; exact hK
   refine cT ?_
   apply TrD.skip
   apply sq
   apply TrD.block
   refine sZ ?_ fun K hK => by simp [idx_inb l, idx_row l]; exact hK
   refine TrD.cond (b := ieq u.var p1) (by simp) (fun c => ?_) (fun c => ?_)
   ·rw [if_pos c] at f
    refine sZ ?_ fun K hK => by simp [c]; exact hK
    cases f
    obtain rfl := q _ rfl
    cases h
    apply TrD.ret
    exact xD
   rw [iN c] at f
   apply TrD.skip
   refine rZ ?_ fun K hK => by simp [c]; exact hK
   cases f
   refine ToAny.mk () rfl ?_
   rw [g]
   exact gc [] hβ (((va.f (by simp [i])).f (by simp [i])).f (by simp [i])) ln
  rw [congrFun (congrFun g _) e]
  apply sq
  refine sZ ?_ fun K hK => by simp [ilt_len p0.length]; exact hK
  refine cF ?_
  refine TrD.exit ?_
  try simp only [↓reduceIte, Nat.reduceEqDiff, Nat.zero_ne_one, Nat.one_ne_zero, OfNat.ofNat_ne_zero, OfNat.zero_ne_ofNat, OfNat.one_ne_ofNat, OfNat.ofNat_ne_one]
  refine ToAny.mk e t ?_
  rw [j]
  exact gC []
 subst hz
 try dsimp only at h
 rw [congrFun j m]
 refine sZ ?_
 cases h
 apply TrD.ret
 exact xD
set_option maxRecDepth 100000 in
theorem c_spec_l3Alike (p0 : (List GVarType)) (p1 : (List GVarType)) (res : Bool) (h : m_spec_l3Alike p0 p1 = some res) : CallsD Tryz.prog 0o00163 [(.slice 3 (List.map rGVarType p0)), (.slice 3 (List.map rGVarType p1))] (fun d => d = (eB res)) := by
 unfold m_spec_l3Alike at h
 refine CD Tryz.func115 [.tmp 4] fun β hβ => ?_
 refine sZ ?_
 apply sq
 refine sZ ?_
 obtain ⟨B, v, h⟩ := bindE h
 obtain ⟨t, o⟩ : ∃ S : Unit → St, S = fun r => ⟨(updD (updD (fun _ => .any) 0 (.slice 3 (List.map rGVarType p0))) 1 (.slice 3 (List.map rGVarType p1))), hOfO [], 0, 40⟩ := ⟨_, rfl⟩
 refine TrD.joinQ t (fun z => B = Ctl.brk z) (fun _ _ hg h => TrD.ghost hg h) ?_ (fun r hz => ?_)
 ·apply TrD.block
  obtain ⟨u, i⟩ : ∃ S : Nat → Unit → St, S = fun c g => ⟨(updD (updD (updD (fun _ => .any) 0 (.slice 3 (List.map rGVarType p0))) 1 (.slice 3 (List.map rGVarType p1))) 5 (eI (c : Int))), hOfO [], 0, 40⟩ := ⟨_, rfl⟩
  refine TrD.limS (sz := 3) (rows := List.map rGVarType p0) (seen_slot (d := .slice 3 (List.map rGVarType p0)) 0 (by simp)) (fun hlim => ?_)
  rw [List.length_map] at hlim
  refine TrD.forL u v hlim ?_ (fun c n g j E F A l G a p D => ?_) (fun g C => ?_)
  ·rw [i]
   exact gC []
  ·rw [congrFun (congrFun i c) g]
   apply sq
   refine sZ ?_ fun K hK => by simp [A]; exact hK
   refine cT ?_
   apply TrD.skip
   apply sq
   apply TrD.block
   apply sq
   obtain ⟨m, y, a⟩ := bindE a
   refine rk fun K hK => ?_
   simp [idx_inb j, idx_row j]
   refine cp (c_spec_l3Find p1 n.var _ y) ?_
   simp
   apply hK
   apply sq
   refine TrD.ghost (σ' := ⟨(updD (updD (updD (updD (fun _ => .any) 0 (.slice 3 (List.map rGVarType p0))) 1 (.slice 3 (List.map rGVarType p1))) 5 (eI (c : Int))) 6 (eI m)), hOfO [], 0, 40⟩) ?_ ?_
   ·exact gC []
   rcases bb (ilt m 0) with e | e
   ·rw [if_pos e] at a
    refine TrD.draw tysOk mixed [0, 1, 2, 3, 4, 5, 6, 7, 8, 9, 10, 11, 12, 13, 14] [] [] (by rfl) rfl (fun K hK => ?_)
    simp [e]
    apply hK
    refine cT ?_
    refine sZ ?_
    cases a
    obtain rfl := p _ rfl
    cases h
    apply TrD.ret
    exact xD
   rw [iN e] at a
   obtain ⟨s, q, a⟩ := bindE a
   refine TrD.draw tysOk mixed [0, 1, 2, 3, 4, 5, 6, 7, 8, 9, 10, 11, 12, 13, 14] [] [] (by rfl) rfl (fun K hK => ?_)
   simp [idx_inb j, idx_row j, e, idx_inb q, idx_row q]
   apply hK
   refine TrD.cond (b := !eqAll [ieq s.typ.data n.typ.data, ieq s.typ.index n.typ.index]) (by simp) (fun f => ?_) (fun f => ?_)
   ·rw [if_pos f] at a
    refine sZ ?_ fun K hK => by simp [f]; exact hK
    cases a
    obtain rfl := p _ rfl
    cases h
    apply TrD.ret
    exact xD
   rw [iN f] at a
   apply TrD.skip
   refine rZ ?_ fun K hK => by simp [f]; exact hK
   cases a
   refine ToAny.mk () rfl ?_
   rw [i]
   exact gc [] hβ (((va.f (by simp [l])).f (by simp [l])).f (by simp [l])) ln
  rw [congrFun (congrFun i _) g]
  apply sq
  refine sZ ?_ fun K hK => by simp [ilt_len p0.length]; exact hK
  refine cF ?_
  refine TrD.exit ?_
  try simp only [↓reduceIte, Nat.reduceEqDiff, Nat.zero_ne_one, Nat.one_ne_zero, OfNat.ofNat_ne_zero, OfNat.zero_ne_ofNat, OfNat.one_ne_ofNat, OfNat.ofNat_ne_one]
  refine ToAny.mk g C ?_
  rw [o]
  exact gC []
 subst hz
 try dsimp only at h
 rw [congrFun o r]
 refine sZ ?_
 cases h
 apply TrD.ret
 exact xD
theorem c_spec_l3Linear : ∀ (n : Nat) (p0 : (List GData)) (p1 : GType) (p2 : GPattern) (res : Bool), m_spec_l3Linear n p0 p1 p2 = some res → CallsD Tryz.prog 0o00124 [(.slice 2 (List.map rGData p0)), (.agg (rGType p1)), (.agg (rGPattern p2))] (fun d => d = (eB res)) := by
 intro n
 induction n with
 | zero => intro p0 p1 p2 res h; cases h
 | succ n ih =>
  intro p0 p1 p2 res h
  rw [m_spec_l3Linear.eq_2] at h
  refine CD Tryz.func84 [.tmp 6] fun β hβ => ?_
  refine sZ ?_
  apply sq
  obtain ⟨r1, hr1, h⟩ := bindE h
  refine rk fun K hK => ?_
  simp
  refine cp (c_spec_l3Types n p0 p1 p2 _ hr1) ?_
  simp
  apply hK
  apply sq
  refine sZ ?_
  obtain ⟨al, O, h⟩ := bindE h
  obtain ⟨H, w⟩ : ∃ S : Unit → St, S = fun F => ⟨(updD (updD (updD (fun _ => .any) 0 (.slice 2 (List.map rGData p0))) 4 (.ptr 2 0 0 0)) 5 (.ptr 6 1 0 0)), hOfO [some ⟨2, [(rGType p1)], 0, 0x0019⟩, some ⟨6, [(rGPattern p2)], 0, 0x0020⟩], 2, 70⟩ := ⟨_, rfl⟩
  refine TrD.joinQ H (fun z => al = Ctl.brk z) (fun _ _ hg h => TrD.ghost hg h) ?_ (fun F hz => ?_)
  ·apply TrD.block
   obtain ⟨J, r⟩ : ∃ S : Nat → Unit → St, S = fun g p => ⟨(updD (updD (updD (updD (updD (fun _ => .any) 0 (.slice 2 (List.map rGData p0))) 4 (.ptr 2 0 0 0)) 5 (.ptr 6 1 0 0)) 7 (.slice 2 (List.map rGType r1))) 8 (eI (g : Int))), hOfO [some ⟨2, [(rGType p1)], 0, 0x0019⟩, some ⟨6, [(rGPattern p2)], 0, 0x0020⟩], 2, 70⟩ := ⟨_, rfl⟩
   refine TrD.limS (sz := 2) (rows := List.map rGType r1) (seen_slot (d := .slice 2 (List.map rGType r1)) 14 (by simp)) (fun hlim => ?_)
   rw [List.length_map] at hlim
   refine TrD.forL J O hlim ?_ (fun g av p C aC aD aj i aF c ae aB => ?_) (fun p ap => ?_)
   ·rw [r]
    exact gC [0, 8]
   ·rw [congrFun (congrFun r g) p]
    apply sq
    refine sZ ?_ fun K hK => by simp [aj]; exact hK
    refine cT ?_
    apply TrD.skip
    apply sq
    apply TrD.block
    apply sq
    refine TrD.ghost (σ' := ⟨(updD (updD (updD (updD (updD (fun _ => .any) 0 (.slice 2 (List.map rGData p0))) 4 (.ptr 2 0 0 0)) 5 (.ptr 6 1 0 0)) 7 (.slice 2 (List.map rGType r1))) 8 (eI (g : Int))), hOfO [some ⟨2, [(rGType p1)], 0, 0x0019⟩, some ⟨6, [(rGPattern p2)], 0, 0x0020⟩], 2, 70⟩) ?_ ?_
    ·exact gC [0, 1]
    obtain ⟨aw, B, c⟩ := bindE c
    obtain ⟨an, ac, c⟩ := bindE c
    refine TrD.draw tysOk mixed [0, 1, 2, 3, 4, 5, 6, 7, 8, 9, 10, 11] [1] [] (by rfl) rfl (fun K hK => ?_)
    simp [idx_inb C, idx_row C, idx_inb B, idx_row B]
    refine cp (ih p0 av aw _ ac) ?_
    simp
    apply hK
    refine TrD.cond (b := (!an)) (by simp) (fun l => ?_) (fun l => ?_)
    ·rw [if_pos l] at c
     refine sZ ?_ fun K hK => by simp [l]; exact hK
     cases c
     obtain rfl := ae _ rfl
     cases h
     apply TrD.ret
     exact xD
    rw [iN l] at c
    apply TrD.skip
    refine rZ ?_ fun K hK => by simp [l]; exact hK
    cases c
    refine ToAny.mk () rfl ?_
    rw [r]
    exact gc [0, 1] hβ (((((va.f (by simp [i])).p 0 (by simp [i])).p 1 (by simp [i])).f (by simp [i])).f (by simp [i])) ln.f.f
   rw [congrFun (congrFun r _) p]
   apply sq
   refine sZ ?_ fun K hK => by simp [ilt_len r1.length]; exact hK
   refine cF ?_
   refine TrD.exit ?_
   try simp only [↓reduceIte, Nat.reduceEqDiff, Nat.zero_ne_one, Nat.one_ne_zero, OfNat.ofNat_ne_zero, OfNat.zero_ne_ofNat, OfNat.one_ne_ofNat, OfNat.ofNat_ne_one]
   refine ToAny.mk p ap ?_
   rw [w]
   exact gC [0, 1]
  subst hz
  try dsimp only at h
  rw [congrFun w F]
  apply sq
  refine sZ ?_
  refine TrD.cond (b := ieq p2.op 5) (by simp) (fun e => ?_) (fun e => ?_)
  ·rw [if_pos e] at h
   apply sq
   refine TrD.ghost (σ' := ⟨(updD (updD (updD (fun _ => .any) 0 (.slice 2 (List.map rGData p0))) 4 (.ptr 2 0 0 0)) 5 (.ptr 6 1 0 0)), hOfO [some ⟨2, [(rGType p1)], 0, 0x0019⟩, some ⟨6, [(rGPattern p2)], 0, 0x0020⟩], 2, 70⟩) ?_ ?_
   ·exact gC [0, 1]
   obtain ⟨aq, y, h⟩ := bindE h
   obtain ⟨ar, A, h⟩ := bindE h
   obtain ⟨t, X, h⟩ := bindE h
   obtain ⟨u, Y, h⟩ := bindE h
   obtain ⟨D, Z, h⟩ := bindE h
   refine TrD.draw tysOk mixed [0, 1, 2, 3, 4, 5, 7, 8, 9, 10, 11, 12, 6, 13, 14, 15] [0, 1] [] (by rfl) rfl (fun K hK => ?_)
   simp [idx_inb y, idx_row y, idx_inb A, idx_row A]
   refine callK (views_same _ _) (.own _ [] [_, _, _] 3 0x0076) [2] (c_spec_l3Vars n [] p0 p1 aq _ X) (by decide) (.cons (locRen_eq (by simp) (by simp) (by simp)) .nil) (.cons (ren_sl rfl) (.cons (ren_le (by simp) (by simp)) (.cons (ren_le (by simp) (by simp)) (.cons (ren_le (by simp) (by simp)) .nil)))) (fun ax aK P => ?_)
   obtain ⟨rfl, rfl⟩ := P
   refine ⟨by simp, [none, some ⟨3, (List.map rGVarType t), 0, 0x0076⟩], (.sl 3 3 (t).length), (.cons (.none _) (.cons (optRen_same (by simp)) .nil)), (ren_sl (by rfl)), ?_⟩
   simp [setMany, newNames]
   refine callK (views_same _ _) (.own _ [] [_, _, _] 3 0x0076) [10] (c_spec_l3Vars n [] p0 p1 ar _ Y) (by decide) (.cons (locRen_eq (by simp) (by simp) (by simp)) .nil) (.cons (ren_sl rfl) (.cons (ren_le (by simp) (by simp)) (.cons (ren_le (by simp) (by simp)) (.cons (ren_le (by simp) (by simp)) .nil)))) (fun ay aL Q => ?_)
   obtain ⟨rfl, rfl⟩ := Q
   refine ⟨by simp, [none, some ⟨3, (List.map rGVarType u), 0, 0x0076⟩], (.sl 3 11 (u).length), (.cons (.none _) (.cons (optRen_same (by simp)) .nil)), (ren_sl (by rfl)), ?_⟩
   simp [setMany, newNames]
   refine callB (.cons (.sl _ _ _ _ _ (by simp; rfl) rfl (by simp) (by simp)) (.cons (.sl _ _ _ _ _ (by simp; rfl) rfl (by simp) (by simp)) (.nil _))) (c_spec_l3Alike t u _ Z) (by simp) (by simp) (fun aG R => ?_)
   subst R
   refine ⟨by simp, ?_⟩
   simp
   apply hK
   cases h
   apply TrD.ret
   exact xD
  rw [iN e] at h
  apply TrD.skip
  apply sq
  obtain ⟨a, aa, h⟩ := bindE h
  refine rk fun K hK => ?_
  simp [e]
  refine callK (views_same _ _) (.own _ [] [_, _, _] 3 0x0076) [50] (c_spec_l3Vars n [] p0 p1 p2 _ aa) (by decide) (.cons (locRen_eq (by simp) (by simp) (by simp)) .nil) (.cons (ren_sl rfl) (.cons (ren_le (by simp) (by simp)) (.cons (ren_le (by simp) (by simp)) (.cons (ren_le (by simp) (by simp)) .nil)))) (fun az aM U => ?_)
  obtain ⟨rfl, rfl⟩ := U
  refine ⟨by simp, [none, some ⟨3, (List.map rGVarType a), 0, 0x0076⟩], (.sl 3 51 (a).length), (.cons (.none _) (.cons (optRen_same (by simp)) .nil)), (ren_sl (by rfl)), ?_⟩
  simp [setMany, newNames]
  apply hK
  apply sq
  refine sZ ?_
  obtain ⟨ak, N, h⟩ := bindE h
  obtain ⟨G, v⟩ : ∃ S : Unit → St, S = fun E => ⟨(fun _ => .any), hOfO [], 0, 70⟩ := ⟨_, rfl⟩
  refine TrD.joinQ G (fun z => ak = Ctl.brk z) (fun _ _ hg h => TrD.ghost hg h) ?_ (fun E hz => ?_)
  ·apply TrD.block
   obtain ⟨I, q⟩ : ∃ S : Nat → Unit → St, S = fun m o => ⟨(updD (updD (fun _ => .any) 9 (.sl 3 0 (a).length)) 10 (eI (m : Int))), hOfO [some ⟨3, (List.map rGVarType a), 0, 0x0076⟩], 1, 70⟩ := ⟨_, rfl⟩
   refine TrD.limL (L := ⟨3, (List.map rGVarType a), 0, 0x0076⟩) 51 (by simp) (by simp) (fun hlim => ?_)
   simp at hlim
   refine TrD.forL I N hlim ?_ (fun m au o ag af ah ai s aE f ad aA => ?_) (fun o ao => ?_)
   ·rw [q]
    exact gC [51]
   ·rw [congrFun (congrFun q m) o]
    apply sq
    refine sZ ?_ fun K hK => by simp [ai]; exact hK
    refine cT ?_
    apply TrD.skip
    apply sq
    apply TrD.block
    apply sq
    obtain ⟨am, ab, f⟩ := bindE f
    refine rk fun K hK => ?_
    simp [idx_inb ag, ah, elt af]
    refine callB (.cons (.sl _ _ _ _ _ (by simp; rfl) rfl (by simp) (by simp)) (.cons (.same _ _) (.nil _))) (c_spec_l3Find a au.var _ ab) (by simp) (by simp) (fun aH T => ?_)
    subst T
    refine ⟨by simp, ?_⟩
    simp
    apply hK
    refine TrD.cond (b := !ieq am (m : Int)) (by simp) (fun j => ?_) (fun j => ?_)
    ·rw [if_pos j] at f
     refine sZ ?_ fun K hK => by simp [j]; exact hK
     cases f
     obtain rfl := ad _ rfl
     cases h
     apply TrD.ret
     exact xD
    rw [iN j] at f
    apply TrD.skip
    refine rZ ?_ fun K hK => by simp [j]; exact hK
    cases f
    refine ToAny.mk () rfl ?_
    rw [q]
    exact gc [0] hβ ((va.s 0 (by simp [s])).f (by simp [s])) ln.f
   rw [congrFun (congrFun q _) o]
   apply sq
   refine sZ ?_ fun K hK => by simp [ilt_len a.length]; exact hK
   refine cF ?_
   refine TrD.exit ?_
   try simp only [↓reduceIte, Nat.reduceEqDiff, Nat.zero_ne_one, Nat.one_ne_zero, OfNat.ofNat_ne_zero, OfNat.zero_ne_ofNat, OfNat.one_ne_ofNat, OfNat.ofNat_ne_one]
   refine ToAny.mk o ao ?_
   rw [v]
   exact gC []
  subst hz
  try dsimp only at h
  rw [congrFun v E]
  refine sZ ?_
  cases h
  apply TrD.ret
  exact xD
set_option maxRecDepth 100000 in
theorem c_spec_l3Is (n : Nat) (p0 : (List GData)) (p1 : GType) (p2 : GPattern) (res : Bool) (h : m_spec_l3Is n p0 p1 p2 = some res) : CallsD Tryz.prog 0o00056 [(.slice 2 (List.map rGData p0)), (.agg (rGType p1)), (.agg (rGPattern p2))] (fun d => d = (eB res)) := by
 unfold m_spec_l3Is at h
 refine CD Tryz.func46 [.tmp 6] fun β hβ => ?_
 refine sZ ?_
 apply sq
 obtain ⟨q, c, h⟩ := bindE h
 rcases bb q with a | a
 ·rw [if_pos a] at h
  obtain ⟨r, e, h⟩ := bindE h
  rcases bb (ile r 60) with b | b
  ·rw [if_pos b] at h
   obtain ⟨f, p, h⟩ := bindE h
   refine rk fun K hK => ?_
   simp
   refine cp (c_spec_l3Shape n p0 p1 p2 10 _ c) ?_
   simp [a]
   refine cp (c_spec_l3Count n p2 60 _ e) ?_
   simp [a, b]
   refine cp (c_spec_l3Linear n p0 p1 p2 _ p) ?_
   simp [a]
   apply hK
   cases h
   apply TrD.ret
   exact xD
  rw [iN b] at h
  refine rk fun K hK => ?_
  simp
  refine cp (c_spec_l3Shape n p0 p1 p2 10 _ c) ?_
  simp [a]
  refine cp (c_spec_l3Count n p2 60 _ e) ?_
  simp [a, b]
  apply hK
  cases h
  apply TrD.ret
  exact xD
 rw [iN a] at h
 refine rk fun K hK => ?_
 simp
 refine cp (c_spec_l3Shape n p0 p1 p2 10 _ c) ?_
 simp [a]
 apply hK
 cases h
 apply TrD.ret
 exact xD
set_option maxRecDepth 100000 in
theorem c_spec_l3Some (n : Nat) (p0 : Gl17Rd) (p1 : (List GData)) (p2 : GType) (res : GPattern × Gl17Rd) (h : m_spec_l3Some n p0 p1 p2 = some res) : CallsH Tryz.prog 0o00200 [⟨2, [(rGl17Rd p0)], 0, 0x0066⟩] [.ptr 2 0 0 0, (.slice 2 (List.map rGData p1)), (.agg (rGType p2))] (fun H d => H = [some ⟨2, [(rGl17Rd res.2)], 0, 0x0066⟩] ∧ d = (.agg (rGPattern res.1))) := by
 unfold m_spec_l3Some at h
 refine CH Tryz.func128 [.cell 6 32] 1 fun β hβ => ?_
 refine sZ ?_
 apply sq
 refine TrD.ghost (σ' := ⟨(updD (updD (updD (updD (fun _ => .any) 0 (.ptr 2 0 0 0)) 1 (.slice 2 (List.map rGData p1))) 5 (.ptr 2 1 0 0)) 6 (.ptr 6 2 0 0)), hOfO [some ⟨2, [(rGl17Rd p0)], 0, 0x0066⟩, some ⟨2, [(rGType p2)], 0, 0x0019⟩, some ⟨6, [[(eI 0), (eI 0), (eI 0), (eI 0), (eI 0), .nil]], 0, 0x0020⟩], 3, 28⟩) ?_ ?_
 ·exact gC [0, 1, 9]
 obtain ⟨r1, hr1, h⟩ := bindE h
 obtain ⟨r2, hr2, h⟩ := bindE h
 obtain ⟨r3, hr3, h⟩ := bindE h
 refine TrD.drawZ tysOk mixed [0, 1, 2, 3, 4, 5, 6, 7, 8, 9, 10, 11, 12, 13, 14] [1] [1048583] [] [] (by rfl) rfl 2097152 (Nat.le_of_ble_eq_true rfl) (.inr ⟨Nat.le_of_ble_eq_true rfl, rfl⟩) (fun K hK => ?_)
 simp
 refine callK (.cons (.same _ _) (.cons (.sl _ _ _ _ _ (by simp; rfl) rfl (by simp []) (by simp)) (.nil _))) (.same _ _) [0] (c_spec_l17Rd_num p0 [3, 2, 4, 1] _ hr1) (by decide) (.cons (locRen_eq (by simp) (by simp) (by simp)) .nil) (.cons (ren_ptr rfl) (.cons (ren_le (by simp) (by simp)) .nil)) (fun f j a => ?_)
 obtain ⟨rfl, rfl⟩ := a
 refine ⟨by simp, [some ⟨2, [(rGl17Rd r1.2)], 0, 0x0066⟩], (eI r1.1), (.cons (optRen_same (by simp)) .nil), (ren_free (by simp)), ?_⟩
 simp [setMany, newNames]
 refine callK (views_same _ _) (.same _ _) [0] (c_spec_l3Draw n r1.2 p1 p2 r1.1 _ hr2) (by decide) (.cons (locRen_eq (by simp) (by simp) (by simp)) .nil) (.cons (ren_ptr rfl) (.cons (ren_le (by simp) (by simp)) (.cons (ren_le (by simp) (by simp)) (.cons (ren_le (by simp) (by simp)) .nil)))) (fun g k c => ?_)
 obtain ⟨rfl, rfl⟩ := c
 refine ⟨by simp, [some ⟨2, [(rGl17Rd r2.2)], 0, 0x0066⟩], (.agg (rGPattern r2.1)), (.cons (optRen_same (by simp)) .nil), (ren_free (by simp)), ?_⟩
 simp [setMany, newNames]
 refine callK (views_same _ _) (.same _ _) [0] (c_spec_l3Name n r2.2 r2.1 0 _ hr3) (by decide) (.cons (locRen_eq (by simp) (by simp) (by simp)) .nil) (.cons (ren_ptr rfl) (.cons (ren_le (by simp) (by simp)) (.cons (ren_le (by simp) (by simp)) .nil))) (fun i l e => ?_)
 obtain ⟨rfl, rfl⟩ := e
 refine ⟨by simp, [some ⟨2, [(rGl17Rd r3.2.2)], 0, 0x0066⟩], (.tup [(.agg (rGPattern r3.1)), (eI r3.2.1)]), (.cons (optRen_same (by simp)) .nil), (ren_free (by simp)), ?_⟩
 simp [setMany, newNames]
 apply hK
 apply sq
 apply sq
 obtain ⟨r7, hr7, h⟩ := bindE h
 refine rk fun K hK => ?_
 simp
 refine cp (c_spec_l3Is n p1 p2 r3.1 _ hr7) ?_
 simp
 apply hK
 refine TrD.cond (b := (!r7)) (by simp) (fun hb8 => ?_) (fun hb8 => ?_)
 ·rw [if_pos hb8] at h
  refine sZ ?_ fun K hK => by simp [hb8]; exact hK
  cases h
  apply TrD.ret
  refine exitHG (σ' := ⟨(updD (fun _ => .any) 6 (.ptr 6 1 0 0)), hOfO [some ⟨2, [(rGl17Rd r3.2.2)], 0, 0x0066⟩, some ⟨6, [(rGPattern (GPattern.mk 1 0 0 0 0 []))], 0, 0x0020⟩], 2, 28⟩) ?_ ?_
  ·exact gC [0, 2]
  simp [resD]
  exact eX 1
 rw [iN hb8] at h
 apply TrD.skip
 refine sZ ?_ fun K hK => by simp [hb8]; exact hK
 cases h
 apply TrD.ret
 refine exitHG (σ' := ⟨(updD (fun _ => .any) 6 (.ptr 6 1 0 0)), hOfO [some ⟨2, [(rGl17Rd r3.2.2)], 0, 0x0066⟩, some ⟨6, [(rGPattern r3.1)], 0, 0x0020⟩], 2, 28⟩) ?_ ?_
 ·exact gC [0, 2]
 simp [resD]
 exact eX 1
set_option maxRecDepth 100000 in
theorem c_spec_l4Clause (n : Nat) (p0 : Gl17Rd) (p1 : (List GData)) (p2 : GType) (res : GClause × Gl17Rd) (h : m_spec_l4Clause n p0 p1 p2 = some res) : CallsH Tryz.prog 0o00152 [⟨2, [(rGl17Rd p0)], 0, 0x0066⟩] [.ptr 2 0 0 0, (.slice 2 (List.map rGData p1)), (.agg (rGType p2))] (fun H d => H = [some ⟨2, [(rGl17Rd res.2)], 0, 0x0066⟩] ∧ d = (.agg (rGClause res.1))) := by
 unfold m_spec_l4Clause at h
 refine CH Tryz.func106 [.cell 6 38] 1 fun β hβ => ?_
 refine sZ ?_
 apply sq
 obtain ⟨r1, hr1, h⟩ := bindE h
 refine rk fun K hK => ?_
 simp
 refine callK (views_same _ _) (.same _ _) [0] (c_spec_l3Some n p0 p1 p2 _ hr1) (by decide) (.cons (locRen_eq (by simp) (by simp) (by simp)) .nil) (.cons (ren_ptr rfl) (.cons (ren_le (by simp) (by simp)) (.cons (ren_le (by simp) (by simp)) .nil))) (fun X af I => ?_)
 obtain ⟨rfl, rfl⟩ := I
 refine ⟨by simp, [some ⟨2, [(rGl17Rd r1.2)], 0, 0x0066⟩], (.agg (rGPattern r1.1)), (.cons (optRen_same (by simp)) .nil), (ren_free (by simp)), ?_⟩
 simp [setMany, newNames]
 apply hK
 apply sq
 obtain ⟨r2, hr2, h⟩ := bindE h
 refine rk fun K hK => ?_
 simp
 refine callK (views_same _ _) (.own _ [] [_, _, _] 3 0x0076) [105] (c_spec_l3Vars n [] p1 p2 r1.1 _ hr2) (by decide) (.cons (locRen_eq (by simp) (by simp) (by simp)) .nil) (.cons (ren_sl rfl) (.cons (ren_le (by simp) (by simp)) (.cons (ren_le (by simp) (by simp)) (.cons (ren_le (by simp) (by simp)) .nil)))) (fun W ae G => ?_)
 obtain ⟨rfl, rfl⟩ := G
 refine ⟨by simp, [none, some ⟨3, (List.map rGVarType r2), 0, 0x0076⟩], (.sl 3 106 (r2).length), (.cons (.none _) (.cons (optRen_same (by simp)) .nil)), (ren_sl (by rfl)), ?_⟩
 simp [setMany, newNames]
 apply hK
 apply sq
 refine sZ ?_
 obtain ⟨P, C, h⟩ := bindE h
 obtain ⟨y, x⟩ : ∃ S : (Gl17Rd × Int × Int × Int) → St, S = fun c => ⟨(updD (updD (fun _ => .any) 6 (.ptr 9 1 0 0)) 7 (.ptr 9 2 0 0)), hOfO [some ⟨2, [(rGl17Rd c.1)], 0, 0x0066⟩, some ⟨9, [[(eI 0), (eI 0), (eI 0), (eI 0), (eI 0), .nil, (eI 0), (eI 0), (eI 0)]], 0, 0x0026⟩, some ⟨9, [[(eI r1.1.op), (eI r1.1.ctor), (eI r1.1.n), (eI r1.1.m), (eI r1.1.var), (.slice 6 (List.map rGPattern r1.1.kids)), (eI c.2.1), (eI c.2.2.1), (eI c.2.2.2)]], 0, 0x0026⟩], 3, 51⟩ := ⟨_, rfl⟩
 refine TrD.joinQ y (fun z => P = Ctl.brk z) (fun _ _ hg h => TrD.ghost hg h) ?_ (fun c hz => ?_)
 ·apply TrD.block
  obtain ⟨A, r⟩ : ∃ S : Nat → (Gl17Rd × Int × Int × Int) → St, S = fun i a => ⟨(updD (updD (updD (updD (updD (fun _ => .any) 0 (.ptr 2 0 0 0)) 6 (.ptr 9 1 0 0)) 7 (.ptr 9 2 0 0)) 8 (.sl 3 3 (r2).length)) 9 (eI (i : Int))), hOfO [some ⟨2, [(rGl17Rd a.1)], 0, 0x0066⟩, some ⟨9, [[(eI 0), (eI 0), (eI 0), (eI 0), (eI 0), .nil, (eI 0), (eI 0), (eI 0)]], 0, 0x0026⟩, some ⟨9, [[(eI r1.1.op), (eI r1.1.ctor), (eI r1.1.n), (eI r1.1.m), (eI r1.1.var), (.slice 6 (List.map rGPattern r1.1.kids)), (eI a.2.1), (eI a.2.2.1), (eI a.2.2.2)]], 0, 0x0026⟩, some ⟨3, (List.map rGVarType r2), 0, 0x0076⟩], 4, 51⟩ := ⟨_, rfl⟩
  refine TrD.limL (L := ⟨3, (List.map rGVarType r2), 0, 0x0076⟩) 106 (by simp) (by simp) (fun hlim => ?_)
  simp at hlim
  refine TrD.forL A C hlim ?_ (fun i w a u t v O l aa q Z Y => ?_) (fun a R => ?_)
  ·rw [r]
   exact gC [0, 9, 57, 106]
  ·rw [congrFun (congrFun r i) a]
   apply sq
   refine sZ ?_ fun K hK => by simp [O]; exact hK
   refine cT ?_
   apply TrD.skip
   obtain ⟨Q, f, q⟩ := bindE q
   obtain ⟨B, s⟩ : ∃ S : Gl17Rd × Int × Int × Int → St, S = fun e => ⟨(updD (updD (updD (updD (updD (fun _ => .any) 0 (.ptr 2 0 0 0)) 6 (.ptr 9 1 0 0)) 7 (.ptr 9 2 0 0)) 8 (.sl 3 3 (r2).length)) 9 (eI (i : Int))), hOfO [some ⟨2, [(rGl17Rd e.1)], 0, 0x0066⟩, some ⟨9, [[(eI 0), (eI 0), (eI 0), (eI 0), (eI 0), .nil, (eI 0), (eI 0), (eI 0)]], 0, 0x0026⟩, some ⟨9, [[(eI r1.1.op), (eI r1.1.ctor), (eI r1.1.n), (eI r1.1.m), (eI r1.1.var), (.slice 6 (List.map rGPattern r1.1.kids)), (eI e.2.1), (eI e.2.2.1), (eI e.2.2.2)]], 0, 0x0026⟩, some ⟨3, (List.map rGVarType r2), 0, 0x0076⟩], 4, 51⟩ := ⟨_, rfl⟩
   refine TrD.join B (fun z => Q = Ctl.brk z) ?_ (fun e hz => ?_)
   ·apply TrD.block
    apply sq
    rcases bb (ieq w.typ.data (-1)) with k | k
    ·rw [if_pos k] at f
     obtain ⟨j, J, f⟩ := bindE f
     refine rk fun K hK => ?_
     simp [idx_inb u, v, elt t, k]
     refine callK (views_same _ _) (.same _ _) [0] (c_spec_l17Rd_pick a.1 2 _ J) (by decide) (.cons (locRen_eq (by simp) (by simp) (by simp)) .nil) (.cons (ren_ptr rfl) (.cons (ren_le (by simp) (by simp)) .nil)) (fun V ad F => ?_)
     obtain ⟨rfl, rfl⟩ := F
     refine ⟨by simp, [some ⟨2, [(rGl17Rd j.2)], 0, 0x0066⟩], (eI j.1), (.cons (optRen_same (by simp)) .nil), (ren_free (by simp)), ?_⟩
     simp [setMany, newNames, k]
     apply hK
     refine TrD.cond (b := ieq j.1 0) (by simp) (fun g => ?_) (fun g => ?_)
     ·rw [if_pos g] at f
      refine TrD.ghost (σ' := ⟨(updD (updD (updD (updD (updD (fun _ => .any) 0 (.ptr 2 0 0 0)) 6 (.ptr 9 1 0 0)) 7 (.ptr 9 2 0 0)) 8 (.sl 3 3 (r2).length)) 9 (eI (i : Int))), hOfO [some ⟨2, [(rGl17Rd j.2)], 0, 0x0066⟩, some ⟨9, [[(eI 0), (eI 0), (eI 0), (eI 0), (eI 0), .nil, (eI 0), (eI 0), (eI 0)]], 0, 0x0026⟩, some ⟨9, [[(eI r1.1.op), (eI r1.1.ctor), (eI r1.1.n), (eI r1.1.m), (eI r1.1.var), (.slice 6 (List.map rGPattern r1.1.kids)), (eI a.2.1), (eI a.2.2.1), (eI a.2.2.2)]], 0, 0x0026⟩, some ⟨3, (List.map rGVarType r2), 0, 0x0076⟩], 4, 51⟩) ?_ ?_
      ·exact gC [0, 1, 2, 3]
      obtain ⟨p, M, f⟩ := bindE f
      obtain ⟨o, N, f⟩ := bindE f
      refine TrD.draw tysOk mixed [0, 3, 4, 5, 6, 7, 8, 1, 2, 9, 10, 11, 12] [3] [] (by rfl) rfl (fun K hK => ?_)
      simp [idx_inb u, v, elt t]
      refine callK (views_same _ _) (.same _ _) [0] (c_spec_l17Rd_pick j.2 2 _ M) (by decide) (.cons (locRen_eq (by simp) (by simp) (by simp)) .nil) (.cons (ren_ptr rfl) (.cons (ren_le (by simp) (by simp)) .nil)) (fun T ab D => ?_)
      obtain ⟨rfl, rfl⟩ := D
      refine ⟨by simp, [some ⟨2, [(rGl17Rd p.2)], 0, 0x0066⟩], (eI p.1), (.cons (optRen_same (by simp)) .nil), (ren_free (by simp)), ?_⟩
      simp [setMany, newNames]
      refine callK (views_same _ _) (.same _ _) [0] (c_spec_l17Rd_pick p.2 10 _ N) (by decide) (.cons (locRen_eq (by simp) (by simp) (by simp)) .nil) (.cons (ren_ptr rfl) (.cons (ren_le (by simp) (by simp)) .nil)) (fun U ac E => ?_)
      obtain ⟨rfl, rfl⟩ := E
      refine ⟨by simp, [some ⟨2, [(rGl17Rd o.2)], 0, 0x0066⟩], (eI o.1), (.cons (optRen_same (by simp)) .nil), (ren_free (by simp)), ?_⟩
      simp [setMany, newNames]
      apply hK
      cases f
      refine ToAny.mk (o.2, wadd .i64 1 p.1, w.var, o.1) rfl ?_
      rw [s]
      exact gC [0, 1, 2, 3]
     rw [iN g] at f
     apply TrD.skip
     cases f
     refine ToAny.mk (j.2, a.2.1, a.2.2.1, a.2.2.2) rfl ?_
     rw [s]
     exact gC [0, 1, 2, 3]
    rw [iN k] at f
    refine rZ ?_ fun K hK => by simp [idx_inb u, v, elt t, k]; exact hK
    refine cF ?_
    apply TrD.skip
    cases f
    refine ToAny.mk (a.1, a.2.1, a.2.2.1, a.2.2.2) rfl ?_
    rw [s]
    exact gC [0, 1, 2, 3]
   subst hz
   try dsimp only at q
   rw [congrFun s e]
   refine rZ ?_
   cases q
   refine ToAny.mk (e.1, e.2.1, e.2.2.1, e.2.2.2) rfl ?_
   rw [r]
   exact gc [0, 1, 2, 3] hβ (((((va.p 0 (by simp [l])).p 1 (by simp [l])).p 2 (by simp [l])).s 3 (by simp [l])).f (by simp [l])) ((ln.f.f.c (lv (L := ⟨9, [[(eI 0), (eI 0), (eI 0), (eI 0), (eI 0), .nil, (eI 0), (eI 0), (eI 0)]], 0, 0x0026⟩) (by simp) rfl rfl (by simp) (rv_cons (.cons (v_free (by simp) (by simp)) (.cons (v_free (by simp) (by simp)) (.cons (v_free (by simp) (by simp)) (.cons (v_free (by simp) (by simp)) (.cons (v_free (by simp) (by simp)) (.cons (v_free (by simp) (by simp)) (.cons (v_free (by simp) (by simp)) (.cons (v_free (by simp) (by simp)) (.cons (v_free (by simp) (by simp)) .nil))))))))) rv_nil))).f)
  rw [congrFun (congrFun r _) a]
  apply sq
  refine sZ ?_ fun K hK => by simp [ilt_len r2.length]; exact hK
  refine cF ?_
  refine TrD.exit ?_
  try simp only [↓reduceIte, Nat.reduceEqDiff, Nat.zero_ne_one, Nat.one_ne_zero, OfNat.ofNat_ne_zero, OfNat.zero_ne_ofNat, OfNat.one_ne_ofNat, OfNat.ofNat_ne_one]
  refine ToAny.mk a R ?_
  rw [x]
  exact gC [0, 1, 2]
 subst hz
 try dsimp only at h
 rw [congrFun x c]
 refine sZ ?_
 cases h
 apply TrD.ret
 refine exitHG (σ' := ⟨(updD (fun _ => .any) 6 (.ptr 9 1 0 0)), hOfO [some ⟨2, [(rGl17Rd c.1)], 0, 0x0066⟩, some ⟨9, [(rGClause (GClause.mk r1.1 (GGuard.mk c.2.1 c.2.2.1 c.2.2.2)))], 0, 0x0026⟩], 2, 51⟩) ?_ ?_
 ·exact gC [0, 1]
 simp [resD]
 exact eX 1
end Go.Proofs.YtimpchdgflhkaaaGreat
