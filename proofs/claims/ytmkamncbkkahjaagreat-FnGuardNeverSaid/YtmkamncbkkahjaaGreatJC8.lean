import Derived.Test.YtmkamncbkkahjaaGreatJMir
import Derived.Test.YtmkamncbkkahjaaGreatJZap
import Derived.Test.YtmkamncbkkahjaaGreatJC7
set_option linter.unusedSimpArgs false
set_option linter.unusedVariables false
namespace Go.Proofs.YtmkamncbkkahjaaGreat
open Go Go.RowKit
set_option maxRecDepth 100000
set_option maxHeartbeats 20000000
theorem c_spec_l1Ctors (p0 : (List GData)) (p1 : GType) (res : (List Int)) (h : m_spec_l1Ctors p0 p1 = some res) : CallsD Tryz.prog 0o00210 [(.slice 2 (List.map rGData p0)), (.agg (rGType p1))] (fun d => d = (.slice 1 (List.map rI res))) := by
 unfold m_spec_l1Ctors at h
 refine CD Tryz.func136 [.tmp 4] fun β hβ => ?_
 refine sZ ?_
 refine sZ ?_
 apply sq
 refine sZ ?_
 refine TrD.cond (b := ieq p1.data (-1)) (by simp) (fun hb2 => ?_) (fun hb2 => ?_)
 ·rw [if_pos hb2] at h
  refine sZ ?_ fun K hK => by simp [hb2]; exact hK
  cases h
  apply TrD.ret
  refine exitDG (σ' := ⟨(updD (fun _ => .any) 4 (.slice 1 (List.map rI []))), hOfO [], 0, 40⟩) ?_ ?_
  ·refine (Ghost.raise 16 (by simp; rfl)).trans ?_
   exact gC [] (ht := (va.u (d0 := (.sl 1 16 0)) (by simp) (v_frz (by simp; rfl) rfl (by simp) (by simp) (rv_free (by simp) (by simp)))))
  dsimp only [resD]
  exact eF
 rw [iN hb2] at h
 apply TrD.skip
 apply sq
 refine sZ ?_ fun K hK => by simp [hb2]; exact hK
 obtain ⟨q, g, h⟩ := bindE h
 obtain ⟨E, A, h⟩ := bindE h
 obtain ⟨v, s⟩ : ∃ S : (List Int) → St, S = fun j => ⟨(updD (fun _ => .any) 5 (.sl 1 0 (j).length)), hOfO [some ⟨1, (List.map rI j), 0, 0x0003⟩], 1, 40⟩ := ⟨_, rfl⟩
 refine TrD.joinQ v (fun z => E = Ctl.brk z) (fun _ _ hg h => TrD.ghost hg h) ?_ (fun j hz => ?_)
 ·apply TrD.block
  obtain ⟨w, n⟩ : ∃ S : Nat → (List Int) → St, S = fun c a => ⟨(updD (updD (updD (updD (fun _ => .any) 0 (.slice 2 (List.map rGData p0))) 3 (.ptr 2 0 0 0)) 5 (.sl 1 1 (a).length)) 6 (eI (c : Int))), hOfO [some ⟨2, [(rGType p1)], 0, 0x0019⟩, some ⟨1, (List.map rI a), 0, 0x0003⟩], 2, 40⟩ := ⟨_, rfl⟩
  refine TrD.limS (sz := 3) (rows := List.map rGCtor q.ctors) (seen_elem (d := .slice 3 (List.map rGCtor q.ctors)) (seen_slot (d := .slice 2 (List.map rGData p0)) 0 (by simp)) g 1 (rGData_eq _) rfl) (fun hlim => ?_)
  rw [List.length_map] at hlim
  refine TrD.forL w A hlim ?_ (fun c I a u O P D l Q m N J => ?_) (fun a H => ?_)
  ·rw [n]
   exact gC [0, 16]
  ·rw [congrFun (congrFun n c) a]
   apply sq
   refine sZ ?_ fun K hK => by simp [idx_inb g, idx_row g, D]; exact hK
   refine cT ?_
   apply TrD.skip
   obtain ⟨F, e, m⟩ := bindE m
   obtain ⟨y, p⟩ : ∃ S : (List Int) → St, S = fun i => ⟨(updD (updD (updD (updD (fun _ => .any) 0 (.slice 2 (List.map rGData p0))) 3 (.ptr 2 0 0 0)) 5 (.sl 1 1 (i).length)) 6 (eI (c : Int))), hOfO [some ⟨2, [(rGType p1)], 0, 0x0019⟩, some ⟨1, (List.map rI i), 0, 0x0003⟩], 2, 40⟩ := ⟨_, rfl⟩
   refine TrD.join y (fun z => F = Ctl.brk z) ?_ (fun i hz => ?_)
   ·apply TrD.block
    apply sq
    refine TrD.ghost (σ' := ⟨(updD (updD (updD (updD (fun _ => .any) 0 (.slice 2 (List.map rGData p0))) 3 (.ptr 2 0 0 0)) 5 (.sl 1 1 (a).length)) 6 (eI (c : Int))), hOfO [some ⟨2, [(rGType p1)], 0, 0x0019⟩, some ⟨1, (List.map rI a), 0, 0x0003⟩], 2, 40⟩) ?_ ?_
    ·exact gC [0, 1]
    obtain ⟨G, C, e⟩ := bindE e
    refine TrD.draw tysOk mixed [0, 1, 2, 3, 4, 5, 6, 7, 8, 9, 10, 11] [0] [] (by rfl) rfl (fun K hK => ?_)
    simp [idx_inb g, idx_row g, idx_inb u, idx_row u]
    refine cp (c_spec_l1Fits I p1.index _ C) ?_
    simp
    apply hK
    refine TrD.cond (b := G) (by simp) (fun f => ?_) (fun f => ?_)
    ·rw [if_pos f] at e
     obtain ⟨r, o, e⟩ := bindE e
     have t := (app_some o).2
     try simp only [List.length_cons, List.length_nil, Nat.zero_add] at t
     refine rZ ?_ fun K hK => by simp [f, t]; exact hK
     cases e
     refine ToAny.mk r rfl ?_
     rw [p]
     exact gc [0, 34] hβ (((va.f.p 0).s 34 (by simp [(app_some o).1])).f) ((ln.f (by simp [(app_some o).1])).f)
    rw [iN f] at e
    apply TrD.skip
    cases e
    refine ToAny.mk a rfl ?_
    rw [p]
    exact gC [0, 1]
   subst hz
   try dsimp only at m
   rw [congrFun p i]
   refine rZ ?_
   cases m
   refine ToAny.mk i rfl ?_
   rw [n]
   exact gc [0, 1] hβ ((((va.f (by simp [l])).p 0 (by simp [l])).s 1 (by simp [l])).f (by simp [l])) ln.f.f
  rw [congrFun (congrFun n _) a]
  apply sq
  refine sZ ?_ fun K hK => by simp [idx_inb g, idx_row g, ilt_len q.ctors.length]; exact hK
  refine cF ?_
  refine TrD.exit ?_
  try simp only [↓reduceIte, Nat.reduceEqDiff, Nat.zero_ne_one, Nat.one_ne_zero, OfNat.ofNat_ne_zero, OfNat.zero_ne_ofNat, OfNat.one_ne_ofNat, OfNat.ofNat_ne_one]
  refine ToAny.mk a H ?_
  rw [s]
  exact gC [1]
 subst hz
 try dsimp only at h
 rw [congrFun s j]
 refine sk fun K hK => ?_
 simp
 apply hK
 obtain rfl := Option.some.inj h
 refine TrD.ret ?_
 refine exitDG (σ' := ⟨(updD (fun _ => .any) 4 (.slice 1 (List.map rI j))), hOfO [], 0, 40⟩) ?_ ?_
 ·refine (Ghost.raise 0 (by simp; rfl)).trans ?_
  exact Ghost.canonV 0 [] _ _ hβ (keep_first (by decide)) (by decide) (vT_upd (v_of (d0 := (.sl 1 0 (j).length)) (by simp) (v_frz (by simp; rfl) rfl (by simp) (by simp) (rv_free (by simp) (by simp)))) (vT_any _)) .nil
 dsimp only [resD]
 refine endF ?_ ?_ <;> simp [packD]
theorem c_spec_l1Has (p0 : (List Int)) (p1 : Int) (res : Bool) (h : m_spec_l1Has p0 p1 = some res) : CallsD Tryz.prog 0o00257 [(.slice 1 (List.map rI p0)), (eI p1)] (fun d => d = (eB res)) := by
 unfold m_spec_l1Has at h
 refine CD Tryz.func175 [.tmp 4] fun β hβ => ?_
 refine sZ ?_
 apply sq
 refine sZ ?_
 obtain ⟨s, p, h⟩ := bindE h
 obtain ⟨n, j⟩ : ∃ S : Unit → St, S = fun m => ⟨(fun _ => .any), hOfO [], 0, 18⟩ := ⟨_, rfl⟩
 refine TrD.joinQ n (fun z => s = Ctl.brk z) (fun _ _ hg h => TrD.ghost hg h) ?_ (fun m hz => ?_)
 ·apply TrD.block
  obtain ⟨o, f⟩ : ∃ S : Nat → Unit → St, S = fun g c => ⟨(updD (updD (updD (fun _ => .any) 0 (.slice 1 (List.map rI p0))) 1 (eI p1)) 5 (eI (g : Int))), hOfO [], 0, 18⟩ := ⟨_, rfl⟩
  refine TrD.limS (sz := 1) (rows := List.map rI p0) (seen_slot (d := .slice 1 (List.map rI p0)) 0 (by simp)) (fun hlim => ?_)
  rw [List.length_map] at hlim
  refine TrD.forL o p hlim ?_ (fun g u c l w y r i A e q v => ?_) (fun c t => ?_)
  ·rw [f]
   exact gC []
  ·rw [congrFun (congrFun f g) c]
   apply sq
   refine sZ ?_ fun K hK => by simp [r]; exact hK
   refine cT ?_
   apply TrD.skip
   apply sq
   apply TrD.block
   refine sZ ?_ fun K hK => by simp [idx_inb l, idx_row l]; exact hK
   refine TrD.cond (b := ieq u p1) (by simp) (fun a => ?_) (fun a => ?_)
   ·rw [if_pos a] at e
    refine sZ ?_ fun K hK => by simp [a]; exact hK
    cases e
    obtain rfl := q _ rfl
    cases h
    apply TrD.ret
    exact xD
   rw [iN a] at e
   apply TrD.skip
   refine rZ ?_ fun K hK => by simp [a]; exact hK
   cases e
   refine ToAny.mk () rfl ?_
   rw [f]
   exact gc [] hβ (((va.f (by simp [i])).f (by simp [i])).f (by simp [i])) ln
  rw [congrFun (congrFun f _) c]
  apply sq
  refine sZ ?_ fun K hK => by simp [ilt_len p0.length]; exact hK
  refine cF ?_
  refine TrD.exit ?_
  try simp only [↓reduceIte, Nat.reduceEqDiff, Nat.zero_ne_one, Nat.one_ne_zero, OfNat.ofNat_ne_zero, OfNat.zero_ne_ofNat, OfNat.one_ne_ofNat, OfNat.ofNat_ne_one]
  refine ToAny.mk c t ?_
  rw [j]
  exact gC []
 subst hz
 try dsimp only at h
 rw [congrFun j m]
 refine sZ ?_
 cases h
 apply TrD.ret
 exact xD
theorem c_spec_l3Own (p0 : (List GData)) (p1 : GType) (p2 : GPattern) (res : Bool) (h : m_spec_l3Own p0 p1 p2 = some res) : CallsD Tryz.prog 0o00404 [(.slice 2 (List.map rGData p0)), (.agg (rGType p1)), (.agg (rGPattern p2))] (fun d => d = (eB res)) := by
 unfold m_spec_l3Own at h
 refine CD Tryz.func260 [.tmp 6] fun β hβ => ?_
 refine sZ ?_
 obtain ⟨o3, g5, h⟩ := bindE h
 obtain ⟨S4, hS4⟩ : ∃ S : Bool → St, S = fun s2 => ⟨(updD (updD (updD (updD (fun _ => .any) 0 (.slice 2 (List.map rGData p0))) 4 (.ptr 2 0 0 0)) 5 (.ptr 6 1 0 0)) 7 (eB s2)), hOfO [some ⟨2, [(rGType p1)], 0, 0x0019⟩, some ⟨6, [(rGPattern p2)], 0, 0x0029⟩], 2, 96⟩ := ⟨_, rfl⟩
 refine TrD.join S4 (fun z => o3 = Ctl.brk z) ?_ (fun s2 hz => ?_)
 ·rcases bb (ieq p2.op 2) with hb6 | hb6
  ·rw [if_pos hb6] at g5
   refine rZ ?_ fun K hK => by simp [hb6]; exact hK
   cases g5
   refine ToAny.mk true rfl ?_
   rw [hS4]
   exact gC [0, 8]
  rw [iN hb6] at g5
  refine rZ ?_ fun K hK => by simp [hb6]; exact hK
  cases g5
  refine ToAny.mk (ieq p2.op 6) rfl ?_
  rw [hS4]
  exact gC [0, 8]
 subst hz
 try dsimp only at h
 rw [congrFun hS4 s2]
 obtain ⟨Y, c, h⟩ := bindE h
 obtain ⟨Q, I⟩ : ∃ S : Unit → St, S = fun N => ⟨(updD (updD (updD (fun _ => .any) 0 (.slice 2 (List.map rGData p0))) 4 (.ptr 2 0 0 0)) 5 (.ptr 6 1 0 0)), hOfO [some ⟨2, [(rGType p1)], 0, 0x0019⟩, some ⟨6, [(rGPattern p2)], 0, 0x0029⟩], 2, 96⟩ := ⟨_, rfl⟩
 refine TrD.join Q (fun z => Y = Ctl.brk z) ?_ (fun N hz => ?_)
 ·apply sq
  rcases bb s2 with q | q
  ·rw [if_pos q] at c
   rcases bb (ilt p2.var 0) with w | w
   ·rw [if_pos w] at c
    refine rZ ?_ fun K hK => by simp [q, w]; exact hK
    refine cT ?_
    refine sZ ?_
    cases c
    cases h
    apply TrD.ret
    exact xD
   rw [iN w] at c
   rcases bb (ilt 5 p2.var) with E | E
   ·rw [if_pos E] at c
    refine rZ ?_ fun K hK => by simp [q, w, E]; exact hK
    refine cT ?_
    refine sZ ?_
    cases c
    cases h
    apply TrD.ret
    exact xD
   rw [iN E] at c
   refine rZ ?_ fun K hK => by simp [q, w, E]; exact hK
   refine cF ?_
   apply TrD.skip
   cases c
   refine ToAny.mk () rfl ?_
   rw [I]
   exact gC [0, 1]
  rw [iN q] at c
  refine rZ ?_ fun K hK => by simp [q]; exact hK
  refine TrD.cond (b := !ieq p2.var 0) (by simp) (fun r => ?_) (fun r => ?_)
  ·rw [if_pos r] at c
   refine sZ ?_ fun K hK => by simp [r]; exact hK
   cases c
   cases h
   apply TrD.ret
   exact xD
  rw [iN r] at c
  apply TrD.skip
  cases c
  refine ToAny.mk () rfl ?_
  rw [I]
  exact gC [0, 1]
 subst hz
 try dsimp only at h
 rw [congrFun I N]
 obtain ⟨Z, a, h⟩ := bindE h
 obtain ⟨R, B⟩ : ∃ S : Unit → St, S = fun O => ⟨(updD (updD (updD (fun _ => .any) 0 (.slice 2 (List.map rGData p0))) 4 (.ptr 2 0 0 0)) 5 (.ptr 6 1 0 0)), hOfO [some ⟨2, [(rGType p1)], 0, 0x0019⟩, some ⟨6, [(rGPattern p2)], 0, 0x0029⟩], 2, 96⟩ := ⟨_, rfl⟩
 refine TrD.join R (fun z => Z = Ctl.brk z) ?_ (fun O hz => ?_)
 ·apply sq
  rcases bb (!ieq p2.op 3) with j | j
  ·rw [if_pos j] at a
   rcases bb (!ieq p2.n 0) with s | s
   ·rw [if_pos s] at a
    refine rZ ?_ fun K hK => by simp [j, s]; exact hK
    refine cT ?_
    refine sZ ?_
    cases a
    cases h
    apply TrD.ret
    exact xD
   rw [iN s] at a
   rcases bb (!ieq p2.m 0) with y | y
   ·rw [if_pos y] at a
    refine rZ ?_ fun K hK => by simp [j, s, y]; exact hK
    refine cT ?_
    refine sZ ?_
    cases a
    cases h
    apply TrD.ret
    exact xD
   rw [iN y] at a
   rcases bb (!ieq p2.op 4) with F | F
   ·rw [if_pos F] at a
    refine rZ ?_ fun K hK => by simp [j, s, y, F]; exact hK
    refine TrD.cond (b := !ieq p2.ctor 0) (by simp) (fun t => ?_) (fun t => ?_)
    ·rw [if_pos t] at a
     refine sZ ?_ fun K hK => by simp [t]; exact hK
     cases a
     cases h
     apply TrD.ret
     exact xD
    rw [iN t] at a
    apply TrD.skip
    cases a
    refine ToAny.mk () rfl ?_
    rw [B]
    exact gC [0, 1]
   rw [iN F] at a
   refine rZ ?_ fun K hK => by simp [j, s, y, F]; exact hK
   refine cF ?_
   apply TrD.skip
   cases a
   refine ToAny.mk () rfl ?_
   rw [B]
   exact gC [0, 1]
  rw [iN j] at a
  rcases bb (!ieq p2.op 4) with G | G
  ·rw [if_pos G] at a
   refine rZ ?_ fun K hK => by simp [j, G]; exact hK
   refine TrD.cond (b := !ieq p2.ctor 0) (by simp) (fun u => ?_) (fun u => ?_)
   ·rw [if_pos u] at a
    refine sZ ?_ fun K hK => by simp [u]; exact hK
    cases a
    cases h
    apply TrD.ret
    exact xD
   rw [iN u] at a
   apply TrD.skip
   cases a
   refine ToAny.mk () rfl ?_
   rw [B]
   exact gC [0, 1]
  rw [iN G] at a
  refine rZ ?_ fun K hK => by simp [j, G]; exact hK
  refine cF ?_
  apply TrD.skip
  cases a
  refine ToAny.mk () rfl ?_
  rw [B]
  exact gC [0, 1]
 subst hz
 try dsimp only at h
 rw [congrFun B O]
 apply sq
 refine sZ ?_
 apply TrD.block
 obtain ⟨X, e, h⟩ := bindE h
 obtain ⟨P, A⟩ : ∃ S : Bool → St, S = fun H => ⟨(updD (updD (updD (updD (updD (fun _ => .any) 0 (.slice 2 (List.map rGData p0))) 4 (.ptr 2 0 0 0)) 5 (.ptr 6 1 0 0)) 60 (eI p2.op)) 61 (eB H)), hOfO [some ⟨2, [(rGType p1)], 0, 0x0019⟩, some ⟨6, [(rGPattern p2)], 0, 0x0029⟩], 2, 96⟩ := ⟨_, rfl⟩
 refine TrD.join P (fun z => X = Ctl.brk z) ?_ (fun H hz => ?_)
 ·refine sZ ?_
  refine TrD.cond (b := ieq p2.op 1) (by simp) (fun f => ?_) (fun f => ?_)
  ·rw [if_pos f] at e
   apply TrD.skip
   cases e
   refine ToAny.mk (ieq p2.op 1) rfl ?_
   rw [A]
   exact gC [0, 1]
  rw [iN f] at e
  refine sZ ?_ fun K hK => by simp [f]; exact hK
  refine TrD.cond (b := ieq p2.op 2) (by simp) (fun g => ?_) (fun g => ?_)
  ·rw [if_pos g] at e
   apply TrD.skip
   cases e
   refine ToAny.mk (ieq p2.op 2) rfl ?_
   rw [A]
   exact gC [0, 1]
  rw [iN g] at e
  refine sZ ?_ fun K hK => by simp [g]; exact hK
  refine TrD.cond (b := ieq p2.op 5) (by simp) (fun i => ?_) (fun i => ?_)
  ·rw [if_pos i] at e
   apply TrD.skip
   cases e
   refine ToAny.mk (ieq p2.op 5) rfl ?_
   rw [A]
   exact gC [0, 1]
  rw [iN i] at e
  refine rZ ?_ fun K hK => by simp [i]; exact hK
  cases e
  refine ToAny.mk (ieq p2.op 6) rfl ?_
  rw [A]
  exact gC [0, 1]
 subst hz
 try dsimp only at h
 rw [congrFun A H]
 refine TrD.cond (b := H) (by simp) (fun C => ?_) (fun C => ?_)
 ·rw [if_pos C] at h
  refine sZ ?_ fun K hK => by simp [C]; exact hK
  cases h
  apply TrD.ret
  exact xD
 rw [iN C] at h
 refine sZ ?_ fun K hK => by simp [C]; exact hK
 refine TrD.cond (b := ieq p2.op 3) (by simp) (fun l => ?_) (fun l => ?_)
 ·rw [if_pos l] at h
  apply sq
  rcases bb (ieq p1.data (-1)) with o | o
  ·rw [if_pos o] at h
   rcases bb (ile 0 p2.n) with v | v
   ·rw [if_pos v] at h
    rcases bb (ile p2.n p2.m) with D | D
    ·rw [if_pos D] at h
     refine rZ ?_ fun K hK => by simp [l, o, v, D]; exact hK
     cases h
     apply TrD.ret
     exact xD
    rw [iN D] at h
    refine rZ ?_ fun K hK => by simp [l, o, v, D]; exact hK
    cases h
    apply TrD.ret
    exact xD
   rw [iN v] at h
   refine rZ ?_ fun K hK => by simp [l, o, v]; exact hK
   cases h
   apply TrD.ret
   exact xD
  rw [iN o] at h
  refine rZ ?_ fun K hK => by simp [l, o]; exact hK
  cases h
  apply TrD.ret
  exact xD
 rw [iN l] at h
 refine sZ ?_ fun K hK => by simp [l]; exact hK
 refine TrD.cond (b := ieq p2.op 4) (by simp) (fun p => ?_) (fun p => ?_)
 ·rw [if_pos p] at h
  apply sq
  refine TrD.ghost (σ' := ⟨(updD (updD (updD (fun _ => .any) 0 (.slice 2 (List.map rGData p0))) 4 (.ptr 2 0 0 0)) 5 (.ptr 6 1 0 0)), hOfO [some ⟨2, [(rGType p1)], 0, 0x0019⟩, some ⟨6, [(rGPattern p2)], 0, 0x0029⟩], 2, 96⟩) ?_ ?_
  ·exact gC [0, 1]
  obtain ⟨aa, V, h⟩ := bindE h
  obtain ⟨J, W, h⟩ := bindE h
  refine TrD.draw tysOk mixed [0, 1, 3, 4, 2, 5, 6] [0, 1] [] (by rfl) rfl (fun K hK => ?_)
  simp
  refine cp (c_spec_l1Ctors p0 p1 _ V) ?_
  simp
  refine cp (c_spec_l1Has aa p2.ctor _ W) ?_
  simp
  apply hK
  cases h
  apply TrD.ret
  exact xD
 rw [iN p] at h
 apply TrD.skip
 refine sZ ?_ fun K hK => by simp [p]; exact hK
 cases h
 apply TrD.ret
 exact xD
theorem c_spec_l3Shape : ∀ (n : Nat) (p0 : (List GData)) (p1 : GType) (p2 : GPattern) (p3 : Int) (res : Bool), m_spec_l3Shape n p0 p1 p2 p3 = some res → CallsD Tryz.prog 0o00310 [(.slice 2 (List.map rGData p0)), (.agg (rGType p1)), (.agg (rGPattern p2)), (eI p3)] (fun d => d = (eB res)) := by
 intro n
 induction n with
 | zero => intro p0 p1 p2 p3 res h; cases h
 | succ n ih =>
  intro p0 p1 p2 p3 res h
  rw [m_spec_l3Shape.eq_2] at h
  refine CD Tryz.func200 [.tmp 8] fun β hβ => ?_
  refine sZ ?_
  apply sq
  apply sq
  rcases bb (ilt p3 1) with i | i
  ·rw [if_pos i] at h
   refine rZ ?_ fun K hK => by simp [i]; exact hK
   refine cT ?_
   refine sZ ?_
   cases h
   apply TrD.ret
   exact xD
  rw [iN i] at h
  obtain ⟨I, C, h⟩ := bindE h
  refine rk fun K hK => ?_
  simp [i]
  refine cp (c_spec_l3Own p0 p1 p2 _ C) ?_
  simp
  apply hK
  refine TrD.cond (b := (!I)) (by simp) (fun j => ?_) (fun j => ?_)
  ·rw [if_pos j] at h
   refine sZ ?_ fun K hK => by simp [j]; exact hK
   cases h
   apply TrD.ret
   exact xD
  rw [iN j] at h
  apply TrD.skip
  apply sq
  obtain ⟨a, D, h⟩ := bindE h
  refine rk fun K hK => ?_
  simp [j]
  refine cp (c_spec_l3Types n p0 p1 p2 _ D) ?_
  simp
  apply hK
  apply sq
  refine sZ ?_
  refine TrD.cond (b := !ieq (lenZ p2.kids.length) (lenZ a.length)) (by simp) (fun l => ?_) (fun l => ?_)
  ·rw [if_pos l] at h
   refine sZ ?_ fun K hK => by simp [l]; exact hK
   cases h
   apply TrD.ret
   exact xD
  rw [iN l] at h
  apply TrD.skip
  apply sq
  refine sZ ?_ fun K hK => by simp [l]; exact hK
  obtain ⟨G, v, h⟩ := bindE h
  obtain ⟨t, p⟩ : ∃ S : Unit → St, S = fun s => ⟨(fun _ => .any), hOfO [], 0, 50⟩ := ⟨_, rfl⟩
  refine TrD.joinQ t (fun z => G = Ctl.brk z) (fun _ _ hg h => TrD.ghost hg h) ?_ (fun s hz => ?_)
  ·apply TrD.block
   obtain ⟨u, o⟩ : ∃ S : Nat → Unit → St, S = fun e m => ⟨(updD (updD (updD (updD (updD (fun _ => .any) 0 (.slice 2 (List.map rGData p0))) 3 (eI p3)) 6 (.ptr 6 0 0 0)) 9 (.slice 2 (List.map rGType a))) 10 (eI (e : Int))), hOfO [some ⟨6, [(rGPattern p2)], 0, 0x0029⟩], 1, 50⟩ := ⟨_, rfl⟩
   refine TrD.limS (sz := 2) (rows := List.map rGType a) (seen_slot (d := .slice 2 (List.map rGType a)) 23 (by simp)) (fun hlim => ?_)
   rw [List.length_map] at hlim
   refine TrD.forL u v hlim ?_ (fun e N m r Q R F f T c E P => ?_) (fun m J => ?_)
   ·rw [o]
    exact gC [8]
   ·rw [congrFun (congrFun o e) m]
    apply sq
    refine sZ ?_ fun K hK => by simp [F]; exact hK
    refine cT ?_
    apply TrD.skip
    apply sq
    apply TrD.block
    apply sq
    refine TrD.ghost (σ' := ⟨(updD (updD (updD (updD (updD (fun _ => .any) 0 (.slice 2 (List.map rGData p0))) 3 (eI p3)) 6 (.ptr 6 0 0 0)) 9 (.slice 2 (List.map rGType a))) 10 (eI (e : Int))), hOfO [some ⟨6, [(rGPattern p2)], 0, 0x0029⟩], 1, 50⟩) ?_ ?_
    ·exact gC [0]
    obtain ⟨O, q, c⟩ := bindE c
    obtain ⟨H, B, c⟩ := bindE c
    refine TrD.draw tysOk mixed [0, 1, 2, 3, 4, 5, 6, 7, 8, 9, 10, 11, 12, 13] [0] [] (by rfl) rfl (fun K hK => ?_)
    simp [idx_inb r, idx_row r, idx_inb q, idx_row q]
    refine cp (ih p0 N O (wsub .i64 p3 1) _ B) ?_
    simp
    apply hK
    refine TrD.cond (b := (!H)) (by simp) (fun g => ?_) (fun g => ?_)
    ·rw [if_pos g] at c
     refine sZ ?_ fun K hK => by simp [g]; exact hK
     cases c
     obtain rfl := E _ rfl
     cases h
     apply TrD.ret
     exact xD
    rw [iN g] at c
    apply TrD.skip
    refine rZ ?_ fun K hK => by simp [g]; exact hK
    cases c
    refine ToAny.mk () rfl ?_
    rw [o]
    exact gc [0] hβ (((((va.f (by simp [f])).f (by simp [f])).p 0 (by simp [f])).f (by simp [f])).f (by simp [f])) ln.f
   rw [congrFun (congrFun o _) m]
   apply sq
   refine sZ ?_ fun K hK => by simp [ilt_len a.length]; exact hK
   refine cF ?_
   refine TrD.exit ?_
   try simp only [↓reduceIte, Nat.reduceEqDiff, Nat.zero_ne_one, Nat.one_ne_zero, OfNat.ofNat_ne_zero, OfNat.zero_ne_ofNat, OfNat.one_ne_ofNat, OfNat.ofNat_ne_one]
   refine ToAny.mk m J ?_
   rw [p]
   exact gC []
  subst hz
  try dsimp only at h
  rw [congrFun p s]
  refine sZ ?_
  cases h
  apply TrD.ret
  exact xD
theorem c_spec_l3Count : ∀ (n : Nat) (p0 : GPattern) (p1 : Int) (res : Int), m_spec_l3Count n p0 p1 = some res → CallsD Tryz.prog 0o00311 [(.agg (rGPattern p0)), (eI p1)] (fun d => d = (eI res)) := by
 intro n
 induction n with
 | zero => intro p0 p1 res h; cases h
 | succ n ih =>
  intro p0 p1 res h
  rw [m_spec_l3Count.eq_2] at h
  refine CD Tryz.func201 [.tmp 4] fun β hβ => ?_
  refine sZ ?_
  refine sZ ?_
  apply sq
  refine sZ ?_
  obtain ⟨w, r, h⟩ := bindE h
  obtain ⟨p, l⟩ : ∃ S : Int → St, S = fun g => ⟨(updD (fun _ => .any) 5 (eI g)), hOfO [], 0, 31⟩ := ⟨_, rfl⟩
  refine TrD.joinQ p (fun z => w = Ctl.brk z) (fun _ _ hg h => TrD.ghost hg h) ?_ (fun g hz => ?_)
  ·apply TrD.block
   obtain ⟨q, i⟩ : ∃ S : Nat → Int → St, S = fun j a => ⟨(updD (updD (updD (updD (fun _ => .any) 1 (eI p1)) 2 (.ptr 6 0 0 0)) 5 (eI a)) 6 (eI (j : Int))), hOfO [some ⟨6, [(rGPattern p0)], 0, 0x0029⟩], 1, 31⟩ := ⟨_, rfl⟩
   refine TrD.limS (sz := 6) (rows := List.map rGPattern p0.kids) (seen_cell (d := .slice 6 (List.map rGPattern p0.kids)) 0 0 5 (by simp; rfl) rfl (by simp)) (fun hlim => ?_)
   rw [List.length_map] at hlim
   refine TrD.forL q r hlim ?_ (fun j A a m C D v f E c B s => ?_) (fun a y => ?_)
   ·rw [i]
    exact gC [0]
   ·rw [congrFun (congrFun i j) a]
    apply sq
    refine sZ ?_ fun K hK => by simp [v]; exact hK
    refine TrD.cond (b := ile a p1) (by simp) (fun e => ?_) (fun e => ?_)
    ·rw [if_pos e] at c
     apply TrD.skip
     apply sq
     apply TrD.block
     obtain ⟨o, u, c⟩ := bindE c
     refine rk fun K hK => ?_
     simp [idx_inb m, idx_row m, e]
     refine cp (ih A (wsub .i64 p1 a) _ u) ?_
     simp
     apply hK
     refine rZ ?_
     cases c
     refine ToAny.mk (wadd .i64 a o) rfl ?_
     rw [i]
     exact gc [0] hβ ((((va.f (by simp [f])).p 0 (by simp [f])).f (by simp [f])).f (by simp [f])) ln.f
    rw [iN e] at c
    refine TrD.exit ?_
    try simp only [↓reduceIte, Nat.reduceEqDiff, Nat.zero_ne_one, Nat.one_ne_zero, OfNat.ofNat_ne_zero, OfNat.zero_ne_ofNat, OfNat.one_ne_ofNat, OfNat.ofNat_ne_one]
    cases c
    obtain rfl := s _ rfl
    refine ToAny.mk a rfl ?_
    rw [l]
    exact gC []
   rw [congrFun (congrFun i _) a]
   apply sq
   refine sZ ?_ fun K hK => by simp [ilt_len p0.kids.length]; exact hK
   refine cF ?_
   refine TrD.exit ?_
   try simp only [↓reduceIte, Nat.reduceEqDiff, Nat.zero_ne_one, Nat.one_ne_zero, OfNat.ofNat_ne_zero, OfNat.zero_ne_ofNat, OfNat.one_ne_ofNat, OfNat.ofNat_ne_one]
   refine ToAny.mk a y ?_
   rw [l]
   exact gC []
  subst hz
  try dsimp only at h
  rw [congrFun l g]
  refine sZ ?_
  cases h
  apply TrD.ret
  exact xD
theorem c_spec_l3Vars : ∀ (n : Nat) (p0 : (List GVarType)) (p1 : (List GData)) (p2 : GType) (p3 : GPattern) (res : (List GVarType)), m_spec_l3Vars n p0 p1 p2 p3 = some res → CallsH Tryz.prog 0o00204 [⟨3, List.map rGVarType p0, 0, 0x0111⟩] [.sl 3 0 p0.length, (.slice 2 (List.map rGData p1)), (.agg (rGType p2)), (.agg (rGPattern p3))] (fun H d => H = [none, some ⟨3, List.map rGVarType res, 0, 0x0111⟩] ∧ d = .sl 3 1 res.length) := by
 intro n
 induction n with
 | zero => intro p0 p1 p2 p3 res h; cases h
 | succ n ih =>
  intro p0 p1 p2 p3 res h
  rw [m_spec_l3Vars.eq_2] at h
  refine CH Tryz.func132 [.tmp 8] 1 fun β hβ => ?_
  refine sZ ?_
  obtain ⟨W, c, h⟩ := bindE h
  obtain ⟨M, t⟩ : ∃ S : (List GVarType) → St, S = fun p => ⟨(updD (updD (updD (updD (fun _ => .any) 0 (.sl 3 1 (p).length)) 1 (.slice 2 (List.map rGData p1))) 6 (.ptr 2 2 0 0)) 7 (.ptr 6 3 0 0)), hOfO [none, some ⟨3, (List.map rGVarType p), 0, 0x0111⟩, some ⟨2, [(rGType p2)], 0, 0x0019⟩, some ⟨6, [(rGPattern p3)], 0, 0x0029⟩], 4, 58⟩ := ⟨_, rfl⟩
  refine TrD.join M (fun z => W = Ctl.brk z) ?_ (fun p hz => ?_)
  ·apply sq
   rcases bb (ieq p3.op 2) with q | q
   ·rw [if_pos q] at c
    refine rZ ?_ fun K hK => by simp [q]; exact hK
    refine cT ?_
    obtain ⟨A, v, c⟩ := bindE c
    have D := (app_some v).2
    try simp only [List.length_cons, List.length_nil, Nat.zero_add] at D
    refine rZ ?_ fun K hK => by simp [D]; exact hK
    cases c
    refine ToAny.mk A rfl ?_
    rw [t]
    exact gc [0, 113, 1, 9] hβ ((((va.s 113 (by simp [(app_some v).1])).f).p 1).p 9) ((ln.f.f.f (by simp [(app_some v).1])).c lv_none)
   rw [iN q] at c
   refine rZ ?_ fun K hK => by simp [q]; exact hK
   refine TrD.cond (b := ieq p3.op 6) (by simp) (fun j => ?_) (fun j => ?_)
   ·rw [if_pos j] at c
    obtain ⟨B, w, c⟩ := bindE c
    have E := (app_some w).2
    try simp only [List.length_cons, List.length_nil, Nat.zero_add] at E
    refine rZ ?_ fun K hK => by simp [j, E]; exact hK
    cases c
    refine ToAny.mk B rfl ?_
    rw [t]
    exact gc [0, 137, 1, 9] hβ ((((va.s 137 (by simp [(app_some w).1])).f).p 1).p 9) ((ln.f.f.f (by simp [(app_some w).1])).c lv_none)
   rw [iN j] at c
   apply TrD.skip
   cases c
   refine ToAny.mk p0 rfl ?_
   rw [t]
   refine (Ghost.move (sz := 3) (k := 0) (n := (p0).length) (L := ⟨3, (List.map rGVarType p0), 0, 0x0111⟩) 0 (by simp [j]) (by simp)).trans ?_
   exact gC [0, 89, 1, 9] (hh := (ln.f.f.f.c lv_none))
  subst hz
  try dsimp only at h
  rw [congrFun t p]
  apply sq
  obtain ⟨e, V, h⟩ := bindE h
  refine rk fun K hK => ?_
  simp
  refine cp (c_spec_l3Types n p1 p2 p3 _ V) ?_
  simp
  apply hK
  apply sq
  refine sZ ?_
  obtain ⟨X, P, h⟩ := bindE h
  obtain ⟨J, x⟩ : ∃ S : (List GVarType) → St, S = fun l => ⟨(updD (fun _ => .any) 0 (.sl 3 1 (l).length)), hOfO [none, some ⟨3, (List.map rGVarType l), 0, 0x0111⟩], 2, 58⟩ := ⟨_, rfl⟩
  refine TrD.joinQ J (fun z => X = Ctl.brk z) (fun _ _ hg h => TrD.ghost hg h) ?_ (fun l hz => ?_)
  ·apply TrD.block
   obtain ⟨N, u⟩ : ∃ S : Nat → (List GVarType) → St, S = fun f a => ⟨(updD (updD (updD (updD (updD (fun _ => .any) 0 (.sl 3 1 (a).length)) 1 (.slice 2 (List.map rGData p1))) 7 (.ptr 6 2 0 0)) 9 (.slice 2 (List.map rGType e))) 10 (eI (f : Int))), hOfO [none, some ⟨3, (List.map rGVarType a), 0, 0x0111⟩, some ⟨6, [(rGPattern p3)], 0, 0x0029⟩], 3, 58⟩ := ⟨_, rfl⟩
   refine TrD.limS (sz := 2) (rows := List.map rGType e) (seen_slot (d := .slice 2 (List.map rGType e)) 29 (by simp)) (fun hlim => ?_)
   rw [List.length_map] at hlim
   refine TrD.forL N P hlim ?_ (fun f aa a F ae af G o ag g ad Q => ?_) (fun a Z => ?_)
   ·rw [u]
    exact gC [0, 1, 3] (hh := (ln.f.f.c lv_none))
   ·rw [congrFun (congrFun u f) a]
    obtain ⟨Y, m, g⟩ := bindE g
    obtain ⟨O, y⟩ : ∃ S : Unit → St, S = fun I => ⟨(updD (updD (updD (updD (updD (fun _ => .any) 0 (.sl 3 1 (a).length)) 1 (.slice 2 (List.map rGData p1))) 7 (.ptr 6 2 0 0)) 9 (.slice 2 (List.map rGType e))) 10 (eI (f : Int))), hOfO [none, some ⟨3, (List.map rGVarType a), 0, 0x0111⟩, some ⟨6, [(rGPattern p3)], 0, 0x0029⟩], 3, 58⟩ := ⟨_, rfl⟩
    refine TrD.join O (fun z => Y = Ctl.brk z) ?_ (fun I hz => ?_)
    ·apply sq
     rcases bb (ieq (f : Int) 0) with r | r
     ·rw [if_pos r] at m
      refine rZ ?_ fun K hK => by simp [G, r]; exact hK
      refine cT ?_
      apply TrD.skip
      cases m
      refine ToAny.mk () rfl ?_
      rw [y]
      exact gC [0, 1, 2] (hh := (ln.f.f.c lv_none))
     rw [iN r] at m
     refine rZ ?_ fun K hK => by simp [G, r]; exact hK
     refine TrD.cond (b := !ieq p3.op 5) (by simp) (fun i => ?_) (fun i => ?_)
     ·rw [if_pos i] at m
      apply TrD.skip
      cases m
      refine ToAny.mk () rfl ?_
      rw [y]
      exact gC [0, 1, 2] (hh := (ln.f.f.c lv_none))
     rw [iN i] at m
     refine TrD.exit ?_
     try simp only [↓reduceIte, Nat.reduceEqDiff, Nat.zero_ne_one, Nat.one_ne_zero, OfNat.ofNat_ne_zero, OfNat.zero_ne_ofNat, OfNat.one_ne_ofNat, OfNat.ofNat_ne_one]
     cases m
     cases g
     obtain rfl := Q _ rfl
     refine ToAny.mk a rfl ?_
     rw [x]
     exact gC [0, 1] (hh := (ln.f.c lv_none))
    subst hz
    try dsimp only at g
    rw [congrFun y I]
    apply sq
    apply TrD.block
    refine TrD.ghost (σ' := ⟨(updD (updD (updD (updD (updD (fun _ => .any) 0 (.sl 3 1 (a).length)) 1 (.slice 2 (List.map rGData p1))) 7 (.ptr 6 2 0 0)) 9 (.slice 2 (List.map rGType e))) 10 (eI (f : Int))), hOfO [none, some ⟨3, (List.map rGVarType a), 0, 0x0111⟩, some ⟨6, [(rGPattern p3)], 0, 0x0029⟩], 3, 58⟩) ?_ ?_
    ·exact gC [0, 1, 2] (hh := (ln.f.f.c lv_none))
    obtain ⟨ab, C, g⟩ := bindE g
    obtain ⟨s, U, g⟩ := bindE g
    refine TrD.draw tysOk mixed [0, 1, 2, 3, 4, 5, 6, 7, 8, 9, 10, 11, 12] [2] [] (by rfl) rfl (fun K hK => ?_)
    simp [idx_inb F, idx_row F, idx_inb C, idx_row C]
    refine callK (views_same _ _) (.same _ _) [1] (ih a p1 aa ab _ U) (by decide) (.cons (locRen_eq (by simp) (by simp) (by simp)) .nil) (.cons (ren_sl rfl) (.cons (ren_le (by simp) (by simp)) (.cons (ren_le (by simp) (by simp)) (.cons (ren_le (by simp) (by simp)) .nil)))) (fun ac ai R => ?_)
    obtain ⟨rfl, rfl⟩ := R
    refine ⟨by simp, [none, some ⟨3, (List.map rGVarType s), 0, 0x0111⟩], (.sl 3 4 (s).length), (.cons (.none _) (.cons (optRen_same (by simp)) .nil)), (ren_sl (by rfl)), ?_⟩
    simp [setMany, newNames]
    apply hK
    refine rZ ?_
    cases g
    refine ToAny.mk s rfl ?_
    rw [u]
    exact gc [0, 4, 2] hβ (((((va.s 4 (by simp [o])).f (by simp [o])).p 2 (by simp [o])).f (by simp [o])).f (by simp [o])) (ln.f.f.c lv_none)
   rw [congrFun (congrFun u _) a]
   apply sq
   refine sZ ?_ fun K hK => by simp [ilt_len e.length]; exact hK
   refine cF ?_
   refine TrD.exit ?_
   try simp only [↓reduceIte, Nat.reduceEqDiff, Nat.zero_ne_one, Nat.one_ne_zero, OfNat.ofNat_ne_zero, OfNat.zero_ne_ofNat, OfNat.one_ne_ofNat, OfNat.ofNat_ne_one]
   refine ToAny.mk a Z ?_
   rw [x]
   exact gC [0, 1] (hh := (ln.f.c lv_none))
  subst hz
  try dsimp only at h
  rw [congrFun x l]
  refine sk fun K hK => ?_
  simp
  apply hK
  obtain rfl := Option.some.inj h
  refine TrD.ret ?_
  refine exitHG (σ' := ⟨(updD (fun _ => .any) 8 (.sl 3 1 (l).length)), hOfO [none, some ⟨3, (List.map rGVarType l), 0, 0x0111⟩], 2, 58⟩) ?_ ?_
  ·exact Ghost.canonV 1 [0, 1] _ _ hβ (keep_first (by decide)) (by decide) (vT_upd (v_of (d0 := (.sl 3 1 (l).length)) (by simp) (v_sl rfl)) (vT_any _)) (.cons lv_none (.cons (lv (L := ⟨3, (List.map rGVarType l), 0, 0x0111⟩) (by simp) rfl rfl (by simp) (rv_free (by simp) (free_rows_of fr_GVarType _))) .nil))
  dsimp only [resD]
  exact ⟨[none, some ⟨3, (List.map rGVarType l), 0, 0x0111⟩], [], rfl, by simp, by simp, .inl rfl, by simp [packD]⟩
theorem c_spec_l3Find (p0 : (List GVarType)) (p1 : Int) (res : Int) (h : m_spec_l3Find p0 p1 = some res) : CallsD Tryz.prog 0o00313 [(.slice 3 (List.map rGVarType p0)), (eI p1)] (fun d => d = (eI res)) := by
 unfold m_spec_l3Find at h
 refine CD Tryz.func203 [.tmp 4] fun β hβ => ?_
 refine sZ ?_
 apply sq
 refine sZ ?_
 obtain ⟨s, p, h⟩ := bindE h
 obtain ⟨n, j⟩ : ∃ S : Unit → St, S = fun m => ⟨(fun _ => .any), hOfO [], 0, 20⟩ := ⟨_, rfl⟩
 refine TrD.joinQ n (fun z => s = Ctl.brk z) (fun _ _ hg h => TrD.ghost hg h) ?_ (fun m hz => ?_)
 ·apply TrD.block
  obtain ⟨o, g⟩ : ∃ S : Nat → Unit → St, S = fun a e => ⟨(updD (updD (updD (fun _ => .any) 0 (.slice 3 (List.map rGVarType p0))) 1 (eI p1)) 5 (eI (a : Int))), hOfO [], 0, 20⟩ := ⟨_, rfl⟩
  refine TrD.limS (sz := 3) (rows := List.map rGVarType p0) (seen_slot (d := .slice 3 (List.map rGVarType p0)) 0 (by simp)) (fun hlim => ?_)
  rw [List.length_map] at hlim
  refine TrD.forL o p hlim ?_ (fun a u e l w y r i A f q v => ?_) (fun e t => ?_)
  ·rw [g]
   exact gC []
  ·rw [congrFun (congrFun g a) e]
   apply sq
   refine sZ ?_ fun K hK => by simp [r]; exact hK
   refine cT ?_
   apply TrD.skip
   apply sq
   apply TrD.block
   refine sZ ?_ fun K hK => by simp [idx_inb l, idx_row l]; exact hK
   refine TrD.cond (b := ieq u.var p1) (by simp) (fun c => ?_) (fun c => ?_)
   ·rw [if_pos c] at f
    refine sZ ?_ fun K hK => by simp [c]; exact hK
    cases f
    obtain rfl := q _ rfl
    cases h
    apply TrD.ret
    exact xD
   rw [iN c] at f
   apply TrD.skip
   refine rZ ?_ fun K hK => by simp [c]; exact hK
   cases f
   refine ToAny.mk () rfl ?_
   rw [g]
   exact gc [] hβ (((va.f (by simp [i])).f (by simp [i])).f (by simp [i])) ln
  rw [congrFun (congrFun g _) e]
  apply sq
  refine sZ ?_ fun K hK => by simp [ilt_len p0.length]; exact hK
  refine cF ?_
  refine TrD.exit ?_
  try simp only [↓reduceIte, Nat.reduceEqDiff, Nat.zero_ne_one, Nat.one_ne_zero, OfNat.ofNat_ne_zero, OfNat.zero_ne_ofNat, OfNat.one_ne_ofNat, OfNat.ofNat_ne_one]
  refine ToAny.mk e t ?_
  rw [j]
  exact gC []
 subst hz
 try dsimp only at h
 rw [congrFun j m]
 refine sZ ?_
 cases h
 apply TrD.ret
 exact xD
theorem c_spec_l3Alike (p0 : (List GVarType)) (p1 : (List GVarType)) (res : Bool) (h : m_spec_l3Alike p0 p1 = some res) : CallsD Tryz.prog 0o00405 [(.slice 3 (List.map rGVarType p0)), (.slice 3 (List.map rGVarType p1))] (fun d => d = (eB res)) := by
 unfold m_spec_l3Alike at h
 refine CD Tryz.func261 [.tmp 4] fun β hβ => ?_
 refine sZ ?_
 apply sq
 refine sZ ?_
 obtain ⟨B, v, h⟩ := bindE h
 obtain ⟨t, o⟩ : ∃ S : Unit → St, S = fun r => ⟨(updD (updD (fun _ => .any) 0 (.slice 3 (List.map rGVarType p0))) 1 (.slice 3 (List.map rGVarType p1))), hOfO [], 0, 40⟩ := ⟨_, rfl⟩
 refine TrD.joinQ t (fun z => B = Ctl.brk z) (fun _ _ hg h => TrD.ghost hg h) ?_ (fun r hz => ?_)
 ·apply TrD.block
  obtain ⟨u, i⟩ : ∃ S : Nat → Unit → St, S = fun c g => ⟨(updD (updD (updD (fun _ => .any) 0 (.slice 3 (List.map rGVarType p0))) 1 (.slice 3 (List.map rGVarType p1))) 5 (eI (c : Int))), hOfO [], 0, 40⟩ := ⟨_, rfl⟩
  refine TrD.limS (sz := 3) (rows := List.map rGVarType p0) (seen_slot (d := .slice 3 (List.map rGVarType p0)) 0 (by simp)) (fun hlim => ?_)
  rw [List.length_map] at hlim
  refine TrD.forL u v hlim ?_ (fun c n g j E F A l G a p D => ?_) (fun g C => ?_)
  ·rw [i]
   exact gC []
  ·rw [congrFun (congrFun i c) g]
   apply sq
   refine sZ ?_ fun K hK => by simp [A]; exact hK
   refine cT ?_
   apply TrD.skip
   apply sq
   apply TrD.block
   apply sq
   obtain ⟨m, y, a⟩ := bindE a
   refine rk fun K hK => ?_
   simp [idx_inb j, idx_row j]
   refine cp (c_spec_l3Find p1 n.var _ y) ?_
   simp
   apply hK
   apply sq
   refine TrD.ghost (σ' := ⟨(updD (updD (updD (updD (fun _ => .any) 0 (.slice 3 (List.map rGVarType p0))) 1 (.slice 3 (List.map rGVarType p1))) 5 (eI (c : Int))) 6 (eI m)), hOfO [], 0, 40⟩) ?_ ?_
   ·exact gC []
   rcases bb (ilt m 0) with e | e
   ·rw [if_pos e] at a
    refine TrD.draw tysOk mixed [0, 1, 2, 3, 4, 5, 6, 7, 8, 9, 10, 11, 12, 13, 14] [] [] (by rfl) rfl (fun K hK => ?_)
    simp [e]
    apply hK
    refine cT ?_
    refine sZ ?_
    cases a
    obtain rfl := p _ rfl
    cases h
    apply TrD.ret
    exact xD
   rw [iN e] at a
   obtain ⟨s, q, a⟩ := bindE a
   refine TrD.draw tysOk mixed [0, 1, 2, 3, 4, 5, 6, 7, 8, 9, 10, 11, 12, 13, 14] [] [] (by rfl) rfl (fun K hK => ?_)
   simp [idx_inb j, idx_row j, e, idx_inb q, idx_row q]
   apply hK
   refine TrD.cond (b := !eqAll [ieq s.typ.data n.typ.data, ieq s.typ.index n.typ.index]) (by simp) (fun f => ?_) (fun f => ?_)
   ·rw [if_pos f] at a
    refine sZ ?_ fun K hK => by simp [f]; exact hK
    cases a
    obtain rfl := p _ rfl
    cases h
    apply TrD.ret
    exact xD
   rw [iN f] at a
   apply TrD.skip
   refine rZ ?_ fun K hK => by simp [f]; exact hK
   cases a
   refine ToAny.mk () rfl ?_
   rw [i]
   exact gc [] hβ (((va.f (by simp [l])).f (by simp [l])).f (by simp [l])) ln
  rw [congrFun (congrFun i _) g]
  apply sq
  refine sZ ?_ fun K hK => by simp [ilt_len p0.length]; exact hK
  refine cF ?_
  refine TrD.exit ?_
  try simp only [↓reduceIte, Nat.reduceEqDiff, Nat.zero_ne_one, Nat.one_ne_zero, OfNat.ofNat_ne_zero, OfNat.zero_ne_ofNat, OfNat.one_ne_ofNat, OfNat.ofNat_ne_one]
  refine ToAny.mk g C ?_
  rw [o]
  exact gC []
 subst hz
 try dsimp only at h
 rw [congrFun o r]
 refine sZ ?_
 cases h
 apply TrD.ret
 exact xD
end Go.Proofs.YtmkamncbkkahjaaGreat
