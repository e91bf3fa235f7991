import Derived.Test.YtimpchdgflhkaaaGreatJMir
import Derived.Test.YtimpchdgflhkaaaGreatJZap
import Derived.Test.YtimpchdgflhkaaaGreatJC4
set_option linter.unusedSimpArgs false
set_option linter.unusedVariables false
namespace Go.Proofs.YtimpchdgflhkaaaGreat
open Go Go.RowKit
set_option maxRecDepth 100000
set_option maxHeartbeats 20000000
theorem c_spec_NameValid (n : Nat) (p0 : ByteArray) (res : Bool) (h : m_spec_NameValid n p0 = some res) : CallsD Tryz.prog 0o00161 [(eS p0)] (fun d => d = (eB res)) := by
 unfold m_spec_NameValid at h
 refine CD Tryz.func113 [.tmp 2] fun β hβ => ?_
 refine sZ ?_
 apply sq
 apply sq
 rcases bb (ieq (lenZ p0.size) 0) with c | c
 ·rw [if_pos c] at h
  refine rZ ?_ fun K hK => by simp [c]; exact hK
  refine cT ?_
  refine sZ ?_
  cases h
  apply TrD.ret
  exact xD
 rw [iN c] at h
 rcases bb (ilt 5 (lenZ p0.size)) with j | j
 ·rw [if_pos j] at h
  refine rZ ?_ fun K hK => by simp [c, j]; exact hK
  refine cT ?_
  refine sZ ?_
  cases h
  apply TrD.ret
  exact xD
 rw [iN j] at h
 obtain ⟨E, r, h⟩ := bindE h
 obtain ⟨D, B, h⟩ := bindE h
 refine rk fun K hK => ?_
 simp [c, j, ← (sidx_some r).1, (sidx_some r).2]
 refine cp (c_spec_l1Big E _ B) ?_
 simp [c]
 apply hK
 refine TrD.cond (b := (!D)) (by simp) (fun l => ?_) (fun l => ?_)
 ·rw [if_pos l] at h
  refine sZ ?_ fun K hK => by simp [l]; exact hK
  cases h
  apply TrD.ret
  exact xD
 rw [iN l] at h
 apply TrD.skip
 apply sq
 refine sZ ?_ fun K hK => by simp [l]; exact hK
 obtain ⟨C, w, h⟩ := bindE h
 obtain ⟨u, p⟩ : ∃ S : Int → St, S = fun s => ⟨(fun _ => .any), hOfO [], 0, 34⟩ := ⟨_, rfl⟩
 refine TrD.joinQ u (fun z => C = Ctl.brk z) (fun _ _ hg h => TrD.ghost hg h) ?_ (fun s hz => ?_)
 ·apply TrD.block
  obtain ⟨v, o⟩ : ∃ S : Int → St, S = fun e => ⟨(updD (updD (fun _ => .any) 0 (eS p0)) 3 (eI e)), hOfO [], 0, 34⟩ := ⟨_, rfl⟩
  refine TrD.whileL v w ?_ (fun e F a q y => ?_)
  ·rw [o]
   exact gC []
  rw [congrFun o e]
  apply sq
  refine sZ ?_
  refine TrD.cond (b := ilt e (lenZ p0.size)) (by simp) (fun f => ?_) (fun f => ?_)
  ·rw [if_pos f] at a
   apply TrD.skip
   apply sq
   apply TrD.block
   apply sq
   obtain ⟨t, m, a⟩ := bindE a
   rcases bb (ilt t 97) with g | g
   ·rw [if_pos g] at a
    refine rZ ?_ fun K hK => by simp [f, ← (sidx_some m).1, (sidx_some m).2, g]; exact hK
    refine cT ?_
    refine sZ ?_
    cases a
    obtain rfl := q _ rfl
    cases h
    apply TrD.ret
    exact xD
   rw [iN g] at a
   refine rZ ?_ fun K hK => by simp [f, ← (sidx_some m).1, (sidx_some m).2, g]; exact hK
   refine TrD.cond (b := ilt 122 t) (by simp) (fun i => ?_) (fun i => ?_)
   ·rw [if_pos i] at a
    refine sZ ?_ fun K hK => by simp [i]; exact hK
    cases a
    obtain rfl := q _ rfl
    cases h
    apply TrD.ret
    exact xD
   rw [iN i] at a
   apply TrD.skip
   refine rZ ?_ fun K hK => by simp [i]; exact hK
   cases a
   refine ToAny.mk (wadd .i64 e 1) rfl ?_
   rw [o]
   exact gC []
  rw [iN f] at a
  refine TrD.exit ?_
  try simp only [↓reduceIte, Nat.reduceEqDiff, Nat.zero_ne_one, Nat.one_ne_zero, OfNat.ofNat_ne_zero, OfNat.zero_ne_ofNat, OfNat.one_ne_ofNat, OfNat.ofNat_ne_one]
  cases a
  obtain rfl := y _ rfl
  refine ToAny.mk e rfl ?_
  rw [p]
  exact gC []
 subst hz
 try dsimp only at h
 rw [congrFun p s]
 refine sZ ?_
 cases h
 apply TrD.ret
 exact xD
theorem c_spec_l1Ctor (n : Nat) (p0 : Int) (p1 : GCtor) (res : Bool) (h : m_spec_l1Ctor n p0 p1 = some res) : CallsD Tryz.prog 0o00117 [(eI p0), (.agg (rGCtor p1))] (fun d => d = (eB res)) := by
 unfold m_spec_l1Ctor at h
 refine CD Tryz.func79 [.tmp 4] fun β hβ => ?_
 refine sZ ?_
 apply sq
 apply sq
 obtain ⟨I, m, h⟩ := bindE h
 rcases bb (!I) with a | a
 ·rw [if_pos a] at h
  refine rk fun K hK => ?_
  simp
  refine cp (c_spec_NameValid n p1.name _ m) ?_
  simp [a]
  apply hK
  refine cT ?_
  refine sZ ?_
  cases h
  apply TrD.ret
  exact xD
 rw [iN a] at h
 rcases bb (ilt 3 (lenZ p1.args.length)) with e | e
 ·rw [if_pos e] at h
  refine rk fun K hK => ?_
  simp
  refine cp (c_spec_NameValid n p1.name _ m) ?_
  simp [a, e]
  apply hK
  refine cT ?_
  refine sZ ?_
  cases h
  apply TrD.ret
  exact xD
 rw [iN e] at h
 rcases bb (ilt p1.index 0) with g | g
 ·rw [if_pos g] at h
  refine rk fun K hK => ?_
  simp
  refine cp (c_spec_NameValid n p1.name _ m) ?_
  simp [a, e, g]
  apply hK
  refine cT ?_
  refine sZ ?_
  cases h
  apply TrD.ret
  exact xD
 rw [iN g] at h
 refine rk fun K hK => ?_
 simp
 refine cp (c_spec_NameValid n p1.name _ m) ?_
 simp [a, e, g]
 apply hK
 refine TrD.cond (b := ilt 3 p1.index) (by simp) (fun i => ?_) (fun i => ?_)
 ·rw [if_pos i] at h
  refine sZ ?_ fun K hK => by simp [i]; exact hK
  cases h
  apply TrD.ret
  exact xD
 rw [iN i] at h
 apply TrD.skip
 apply sq
 refine sZ ?_ fun K hK => by simp [i]; exact hK
 obtain ⟨G, v, h⟩ := bindE h
 obtain ⟨t, q⟩ : ∃ S : Unit → St, S = fun s => ⟨(fun _ => .any), hOfO [], 0, 41⟩ := ⟨_, rfl⟩
 refine TrD.joinQ t (fun z => G = Ctl.brk z) (fun _ _ hg h => TrD.ghost hg h) ?_ (fun s hz => ?_)
 ·apply TrD.block
  obtain ⟨u, l⟩ : ∃ S : Nat → Unit → St, S = fun o j => ⟨(updD (updD (updD (fun _ => .any) 0 (eI p0)) 3 (.ptr 3 0 0 0)) 5 (eI (o : Int))), hOfO [some ⟨3, [(rGCtor p1)], 0, 0x0071⟩], 1, 41⟩ := ⟨_, rfl⟩
  refine TrD.limS (sz := 2) (rows := List.map rGType p1.args) (seen_slot (d := .slice 2 (List.map rGType p1.args)) 12 (by simp)) (fun hlim => ?_)
  rw [List.length_map] at hlim
  refine TrD.forL u v hlim ?_ (fun o N j r P Q F p R c E O => ?_) (fun j J => ?_)
  ·rw [l]
   exact gC [0]
  ·rw [congrFun (congrFun l o) j]
   apply sq
   refine sZ ?_ fun K hK => by simp [F]; exact hK
   refine cT ?_
   apply TrD.skip
   apply sq
   apply TrD.block
   apply sq
   obtain ⟨H, D, c⟩ := bindE c
   refine rk fun K hK => ?_
   simp [idx_inb r, idx_row r]
   refine cp (c_spec_l1Arg p0 N _ D) ?_
   simp
   apply hK
   refine TrD.cond (b := (!H)) (by simp) (fun f => ?_) (fun f => ?_)
   ·rw [if_pos f] at c
    refine sZ ?_ fun K hK => by simp [f]; exact hK
    cases c
    obtain rfl := E _ rfl
    cases h
    apply TrD.ret
    exact xD
   rw [iN f] at c
   apply TrD.skip
   refine rZ ?_ fun K hK => by simp [f]; exact hK
   cases c
   refine ToAny.mk () rfl ?_
   rw [l]
   exact gc [0] hβ (((va.f (by simp [p])).p 0 (by simp [p])).f (by simp [p])) ln.f
  rw [congrFun (congrFun l _) j]
  apply sq
  refine sZ ?_ fun K hK => by simp [ilt_len p1.args.length]; exact hK
  refine cF ?_
  refine TrD.exit ?_
  try simp only [↓reduceIte, Nat.reduceEqDiff, Nat.zero_ne_one, Nat.one_ne_zero, OfNat.ofNat_ne_zero, OfNat.zero_ne_ofNat, OfNat.one_ne_ofNat, OfNat.ofNat_ne_one]
  refine ToAny.mk j J ?_
  rw [q]
  exact gC []
 subst hz
 try dsimp only at h
 rw [congrFun q s]
 refine sZ ?_
 cases h
 apply TrD.ret
 exact xD
theorem c_spec_WorldValid (n : Nat) (p0 : (List GData)) (res : Bool) (h : m_spec_WorldValid n p0 = some res) : CallsD Tryz.prog 0o00054 [(.slice 2 (List.map rGData p0))] (fun d => d = (eB res)) := by
 unfold m_spec_WorldValid at h
 refine CD Tryz.func44 [.tmp 2] fun β hβ => ?_
 refine sZ ?_
 apply sq
 refine sZ ?_
 refine TrD.cond (b := ilt 4 (lenZ p0.length)) (by simp) (fun hb2 => ?_) (fun hb2 => ?_)
 ·rw [if_pos hb2] at h
  refine sZ ?_ fun K hK => by simp [hb2]; exact hK
  cases h
  apply TrD.ret
  exact xD
 rw [iN hb2] at h
 apply TrD.skip
 apply sq
 refine sZ ?_ fun K hK => by simp [hb2]; exact hK
 obtain ⟨aa, O, h⟩ := bindE h
 obtain ⟨I, B⟩ : ∃ S : Unit → St, S = fun F => ⟨(fun _ => .any), hOfO [], 0, 67⟩ := ⟨_, rfl⟩
 refine TrD.joinQ I (fun z => aa = Ctl.brk z) (fun _ _ hg h => TrD.ghost hg h) ?_ (fun F hz => ?_)
 ·apply TrD.block
  obtain ⟨L, t⟩ : ∃ S : Nat → Unit → St, S = fun f r => ⟨(updD (updD (fun _ => .any) 0 (.slice 2 (List.map rGData p0))) 3 (eI (f : Int))), hOfO [], 0, 67⟩ := ⟨_, rfl⟩
  refine TrD.limS (sz := 2) (rows := List.map rGData p0) (seen_slot (d := .slice 2 (List.map rGData p0)) 0 (by simp)) (fun hlim => ?_)
  rw [List.length_map] at hlim
  refine TrD.forL L O hlim ?_ (fun f g r a aj ak Y A an c p ah => ?_) (fun r af => ?_)
  ·rw [t]
   exact gC []
  ·rw [congrFun (congrFun t f) r]
   apply sq
   refine sZ ?_ fun K hK => by simp [Y]; exact hK
   refine cT ?_
   apply TrD.skip
   apply sq
   apply TrD.block
   apply sq
   apply sq
   obtain ⟨ac, y, c⟩ := bindE c
   rcases bb (!ac) with i | i
   ·rw [if_pos i] at c
    refine rk fun K hK => ?_
    simp [idx_inb a, idx_row a]
    refine cp (c_spec_l1Data g.name _ y) ?_
    simp [i]
    apply hK
    refine cT ?_
    refine sZ ?_
    cases c
    obtain rfl := p _ rfl
    cases h
    apply TrD.ret
    exact xD
   rw [iN i] at c
   rcases bb (ieq (lenZ g.ctors.length) 0) with j | j
   ·rw [if_pos j] at c
    refine rk fun K hK => ?_
    simp [idx_inb a, idx_row a]
    refine cp (c_spec_l1Data g.name _ y) ?_
    simp [idx_inb a, idx_row a, i, j]
    apply hK
    refine cT ?_
    refine sZ ?_
    cases c
    obtain rfl := p _ rfl
    cases h
    apply TrD.ret
    exact xD
   rw [iN j] at c
   refine rk fun K hK => ?_
   simp [idx_inb a, idx_row a]
   refine cp (c_spec_l1Data g.name _ y) ?_
   simp [idx_inb a, idx_row a, i, j]
   apply hK
   refine TrD.cond (b := ilt 4 (lenZ g.ctors.length)) (by simp) (fun l => ?_) (fun l => ?_)
   ·rw [if_pos l] at c
    refine sZ ?_ fun K hK => by simp [l]; exact hK
    cases c
    obtain rfl := p _ rfl
    cases h
    apply TrD.ret
    exact xD
   rw [iN l] at c
   apply TrD.skip
   refine sZ ?_ fun K hK => by simp [l]; exact hK
   obtain ⟨ab, P, c⟩ := bindE c
   obtain ⟨J, C⟩ : ∃ S : Unit → St, S = fun G => ⟨(updD (updD (fun _ => .any) 0 (.slice 2 (List.map rGData p0))) 3 (eI (f : Int))), hOfO [], 0, 67⟩ := ⟨_, rfl⟩
   refine TrD.joinQ J (fun z => ab = Ctl.brk z) (fun _ _ hg h => TrD.ghost hg h) ?_ (fun G hz => ?_)
   ·apply TrD.block
    obtain ⟨N, u⟩ : ∃ S : Nat → Unit → St, S = fun q s => ⟨(updD (updD (updD (fun _ => .any) 0 (.slice 2 (List.map rGData p0))) 3 (eI (f : Int))) 4 (eI (q : Int))), hOfO [], 0, 67⟩ := ⟨_, rfl⟩
    refine TrD.limS (sz := 3) (rows := List.map rGCtor g.ctors) (seen_slot (d := .slice 3 (List.map rGCtor g.ctors)) 26 (by simp)) (fun hlim => ?_)
    rw [List.length_map] at hlim
    refine TrD.forL N P hlim ?_ (fun q H s v al am Z w ao e E ai => ?_) (fun s ag => ?_)
    ·rw [u]
     exact gC []
    ·rw [congrFun (congrFun u q) s]
     apply sq
     refine sZ ?_ fun K hK => by simp [idx_inb a, idx_row a, Z]; exact hK
     refine cT ?_
     apply TrD.skip
     apply sq
     apply TrD.block
     apply sq
     obtain ⟨ad, D, e⟩ := bindE e
     rcases bb (!ad) with m | m
     ·rw [if_pos m] at e
      refine rk fun K hK => ?_
      simp [idx_inb a, idx_row a, idx_inb v, idx_row v]
      refine cp (c_spec_l1Ctor n (lenZ p0.length) H _ D) ?_
      simp [m]
      apply hK
      refine cT ?_
      refine sZ ?_
      cases e
      obtain rfl := E _ rfl
      cases c
      obtain rfl := p _ rfl
      cases h
      apply TrD.ret
      exact xD
     rw [iN m] at e
     obtain ⟨ae, X, e⟩ := bindE e
     refine rk fun K hK => ?_
     simp [idx_inb a, idx_row a, idx_inb v, idx_row v]
     refine cp (c_spec_l1Ctor n (lenZ p0.length) H _ D) ?_
     simp [m]
     refine cp (c_spec_l1Twice n p0 (f : Int) (q : Int) _ X) ?_
     simp
     apply hK
     refine TrD.cond (b := ae) (by simp) (fun o => ?_) (fun o => ?_)
     ·rw [if_pos o] at e
      refine sZ ?_ fun K hK => by simp [o]; exact hK
      cases e
      obtain rfl := E _ rfl
      cases c
      obtain rfl := p _ rfl
      cases h
      apply TrD.ret
      exact xD
     rw [iN o] at e
     apply TrD.skip
     refine rZ ?_ fun K hK => by simp [o]; exact hK
     cases e
     refine ToAny.mk () rfl ?_
     rw [u]
     exact gc [] hβ (((va.f (by simp [w])).f (by simp [w])).f (by simp [w])) ln
    rw [congrFun (congrFun u _) s]
    apply sq
    refine sZ ?_ fun K hK => by simp [idx_inb a, idx_row a, ilt_len g.ctors.length]; exact hK
    refine cF ?_
    refine TrD.exit ?_
    try simp only [↓reduceIte, Nat.reduceEqDiff, Nat.zero_ne_one, Nat.one_ne_zero, OfNat.ofNat_ne_zero, OfNat.zero_ne_ofNat, OfNat.one_ne_ofNat, OfNat.ofNat_ne_one]
    refine ToAny.mk s ag ?_
    rw [C]
    exact gC []
   subst hz
   try dsimp only at c
   rw [congrFun C G]
   refine rZ ?_
   cases c
   refine ToAny.mk () rfl ?_
   rw [t]
   exact gc [] hβ ((va.f (by simp [A])).f (by simp [A])) ln
  rw [congrFun (congrFun t _) r]
  apply sq
  refine sZ ?_ fun K hK => by simp [ilt_len p0.length]; exact hK
  refine cF ?_
  refine TrD.exit ?_
  try simp only [↓reduceIte, Nat.reduceEqDiff, Nat.zero_ne_one, Nat.one_ne_zero, OfNat.ofNat_ne_zero, OfNat.zero_ne_ofNat, OfNat.one_ne_ofNat, OfNat.ofNat_ne_one]
  refine ToAny.mk r af ?_
  rw [B]
  exact gC []
 subst hz
 try dsimp only at h
 rw [congrFun B F]
 refine sZ ?_
 cases h
 apply TrD.ret
 exact xD
set_option maxRecDepth 100000 in
theorem c_spec_l17Cut (n : Nat) (p0 : ByteArray) (p1 : Int) (res : (List ByteArray)) (h : m_spec_l17Cut n p0 p1 = some res) : CallsD Tryz.prog 0o00216 [(eS p0), (.val (.int .u8 p1))] (fun d => d = (.slice 1 (List.map rS res))) := by
 unfold m_spec_l17Cut at h
 refine CD Tryz.func142 [.tmp 4] fun β hβ => ?_
 refine sZ ?_
 refine sZ ?_
 refine sZ ?_
 apply sq
 refine sZ ?_
 obtain ⟨G, E, h⟩ := bindE h
 obtain ⟨B, t⟩ : ∃ S : ((List ByteArray) × Int × Int) → St, S = fun j => ⟨(updD (fun _ => .any) 5 (.sl 1 0 (j.1).length)), hOfO [some ⟨1, (List.map rS j.1), 0, 0x0009⟩], 1, 36⟩ := ⟨_, rfl⟩
 refine TrD.joinQ B (fun z => G = Ctl.brk z) (fun _ _ hg h => TrD.ghost hg h) ?_ (fun j hz => ?_)
 ·apply TrD.block
  obtain ⟨C, q⟩ : ∃ S : ((List ByteArray) × Int × Int) → St, S = fun a => ⟨(updD (updD (updD (updD (updD (fun _ => .any) 0 (eS p0)) 1 (.val (.int .u8 p1))) 5 (.sl 1 0 (a.1).length)) 6 (eI a.2.1)) 7 (eI a.2.2)), hOfO [some ⟨1, (List.map rS a.1), 0, 0x0009⟩], 1, 36⟩ := ⟨_, rfl⟩
  refine TrD.whileL C E ?_ (fun a N g J F => ?_)
  ·rw [q]
   exact gC [8]
  rw [congrFun q a]
  apply sq
  refine sZ ?_
  refine TrD.cond (b := ile a.2.2 (lenZ p0.size)) (by simp) (fun i => ?_) (fun i => ?_)
  ·rw [if_pos i] at g
   apply TrD.skip
   obtain ⟨H, c, g⟩ := bindE g
   obtain ⟨D, m⟩ : ∃ S : (List ByteArray) × Int → St, S = fun e => ⟨(updD (updD (updD (updD (updD (fun _ => .any) 0 (eS p0)) 1 (.val (.int .u8 p1))) 5 (.sl 1 0 (e.1).length)) 6 (eI e.2)) 7 (eI a.2.2)), hOfO [some ⟨1, (List.map rS e.1), 0, 0x0009⟩], 1, 36⟩ := ⟨_, rfl⟩
   refine TrD.join D (fun z => H = Ctl.brk z) ?_ (fun e hz => ?_)
   ·apply TrD.block
    apply sq
    rcases bb (ieq a.2.2 (lenZ p0.size)) with l | l
    ·rw [if_pos l] at c
     refine rZ ?_ fun K hK => by simp [i, l]; exact hK
     refine cT ?_
     apply sq
     obtain ⟨O, u, c⟩ := bindE c
     obtain ⟨r, o, c⟩ := bindE c
     have v := (app_some o).2
     try simp only [List.length_cons, List.length_nil, Nat.zero_add] at v
     refine rZ ?_ fun K hK => by simp [← (ssub_some u).1, (ssub_some u).2, v]; exact hK
     refine rZ ?_
     cases c
     refine ToAny.mk (r, wadd .i64 a.2.2 1) rfl ?_
     rw [m]
     exact gc [129] hβ (((va.f.f.s 129 (by simp [(app_some o).1])).f).f) (ln.f (by simp [(app_some o).1]))
    rw [iN l] at c
    obtain ⟨I, w, c⟩ := bindE c
    refine rZ ?_ fun K hK => by simp [i, l, ← (sidx_some w).1, (sidx_some w).2]; exact hK
    refine TrD.cond (b := ieq I p1) (by simp) (fun f => ?_) (fun f => ?_)
    ·rw [if_pos f] at c
     apply sq
     obtain ⟨P, y, c⟩ := bindE c
     obtain ⟨s, p, c⟩ := bindE c
     have A := (app_some p).2
     try simp only [List.length_cons, List.length_nil, Nat.zero_add] at A
     refine rZ ?_ fun K hK => by simp [f, ← (ssub_some y).1, (ssub_some y).2, A]; exact hK
     refine rZ ?_
     cases c
     refine ToAny.mk (s, wadd .i64 a.2.2 1) rfl ?_
     rw [m]
     exact gc [169] hβ (((va.f.f.s 169 (by simp [(app_some p).1])).f).f) (ln.f (by simp [(app_some p).1]))
    rw [iN f] at c
    apply TrD.skip
    cases c
    refine ToAny.mk (a.1, a.2.1) rfl ?_
    rw [m]
    exact gC [0]
   subst hz
   try dsimp only at g
   rw [congrFun m e]
   refine rZ ?_
   cases g
   refine ToAny.mk (e.1, e.2, wadd .i64 a.2.2 1) rfl ?_
   rw [q]
   exact gC [0]
  rw [iN i] at g
  refine TrD.exit ?_
  try simp only [↓reduceIte, Nat.reduceEqDiff, Nat.zero_ne_one, Nat.one_ne_zero, OfNat.ofNat_ne_zero, OfNat.zero_ne_ofNat, OfNat.one_ne_ofNat, OfNat.ofNat_ne_one]
  cases g
  obtain rfl := F _ rfl
  refine ToAny.mk (a.1, a.2.1, a.2.2) rfl ?_
  rw [t]
  exact gC [0]
 subst hz
 try dsimp only at h
 rw [congrFun t j]
 refine sZ ?_
 cases h
 apply TrD.ret
 refine exitDG (σ' := ⟨(updD (fun _ => .any) 4 (.slice 1 (List.map rS j.1))), hOfO [], 0, 36⟩) ?_ ?_
 ·refine (Ghost.raise 0 (by simp; rfl)).trans ?_
  exact gC [] (ht := (va.u (d0 := (.sl 1 0 (j.1).length)) (by simp) (v_frz (by simp; rfl) rfl (by simp) (by simp) (rv_free (by simp) (by simp)))))
 dsimp only [resD]
 exact eF
set_option maxRecDepth 100000 in
theorem c_spec_l1Find (p0 : (List ByteArray)) (p1 : ByteArray) (res : Int) (h : m_spec_l1Find p0 p1 = some res) : CallsD Tryz.prog 0o00234 [(.slice 1 (List.map rS p0)), (eS p1)] (fun d => d = (eI res)) := by
 unfold m_spec_l1Find at h
 refine CD Tryz.func156 [.tmp 4] fun β hβ => ?_
 refine sZ ?_
 apply sq
 refine sZ ?_
 refine TrD.cond (b := seq2 p1 (ByteArray.mk #[73])) (by simp) (fun hb2 => ?_) (fun hb2 => ?_)
 ·rw [if_pos hb2] at h
  refine sZ ?_ fun K hK => by simp [hb2]; exact hK
  cases h
  apply TrD.ret
  exact xD
 rw [iN hb2] at h
 apply TrD.skip
 apply sq
 refine sZ ?_ fun K hK => by simp [hb2]; exact hK
 obtain ⟨s, p, h⟩ := bindE h
 obtain ⟨n, j⟩ : ∃ S : Unit → St, S = fun m => ⟨(fun _ => .any), hOfO [], 0, 21⟩ := ⟨_, rfl⟩
 refine TrD.joinQ n (fun z => s = Ctl.brk z) (fun _ _ hg h => TrD.ghost hg h) ?_ (fun m hz => ?_)
 ·apply TrD.block
  obtain ⟨o, g⟩ : ∃ S : Nat → Unit → St, S = fun a e => ⟨(updD (updD (updD (fun _ => .any) 0 (.slice 1 (List.map rS p0))) 1 (eS p1)) 5 (eI (a : Int))), hOfO [], 0, 21⟩ := ⟨_, rfl⟩
  refine TrD.limS (sz := 1) (rows := List.map rS p0) (seen_slot (d := .slice 1 (List.map rS p0)) 0 (by simp)) (fun hlim => ?_)
  rw [List.length_map] at hlim
  refine TrD.forL o p hlim ?_ (fun a u e l w y r i A f q v => ?_) (fun e t => ?_)
  ·rw [g]
   exact gC []
  ·rw [congrFun (congrFun g a) e]
   apply sq
   refine sZ ?_ fun K hK => by simp [r]; exact hK
   refine cT ?_
   apply TrD.skip
   apply sq
   apply TrD.block
   refine sZ ?_ fun K hK => by simp [idx_inb l, idx_row l]; exact hK
   refine TrD.cond (b := seq2 u p1) (by simp) (fun c => ?_) (fun c => ?_)
   ·rw [if_pos c] at f
    refine sZ ?_ fun K hK => by simp [c]; exact hK
    cases f
    obtain rfl := q _ rfl
    cases h
    apply TrD.ret
    exact xD
   rw [iN c] at f
   apply TrD.skip
   refine rZ ?_ fun K hK => by simp [c]; exact hK
   cases f
   refine ToAny.mk () rfl ?_
   rw [g]
   exact gc [] hβ (((va.f (by simp [i])).f (by simp [i])).f (by simp [i])) ln
  rw [congrFun (congrFun g _) e]
  apply sq
  refine sZ ?_ fun K hK => by simp [ilt_len p0.length]; exact hK
  refine cF ?_
  refine TrD.exit ?_
  try simp only [↓reduceIte, Nat.reduceEqDiff, Nat.zero_ne_one, Nat.one_ne_zero, OfNat.ofNat_ne_zero, OfNat.zero_ne_ofNat, OfNat.one_ne_ofNat, OfNat.ofNat_ne_one]
  refine ToAny.mk e t ?_
  rw [j]
  exact gC []
 subst hz
 try dsimp only at h
 rw [congrFun j m]
 refine sZ ?_
 cases h
 apply TrD.ret
 exact xD
set_option maxRecDepth 100000 in
theorem c_spec_l1ParseType (p0 : (List ByteArray)) (p1 : ByteArray) (res : GType) (h : m_spec_l1ParseType p0 p1 = some res) : CallsD Tryz.prog 0o00231 [(.slice 1 (List.map rS p0)), (eS p1)] (fun d => d = (.agg (rGType res))) := by
 unfold m_spec_l1ParseType at h
 refine CD Tryz.func153 [.cell 4 25] fun β hβ => ?_
 refine sZ ?_
 apply sq
 refine sZ ?_
 refine TrD.cond (b := seq2 p1 (ByteArray.mk #[])) (by simp) (fun hb2 => ?_) (fun hb2 => ?_)
 ·rw [if_pos hb2] at h
  refine sZ ?_ fun K hK => by simp [hb2]; exact hK
  cases h
  apply TrD.ret
  exact xD
 rw [iN hb2] at h
 apply TrD.skip
 apply sq
 obtain ⟨x3, hx3, h⟩ := bindE h
 obtain ⟨r4, hr4, h⟩ := bindE h
 refine rk fun K hK => ?_
 simp [hb2, ← (ssub_some hx3).1, (ssub_some hx3).2]
 refine cp (c_spec_l1Find p0 x3 _ hr4) ?_
 simp
 apply hK
 obtain ⟨q, a, h⟩ := bindE h
 obtain ⟨o, e⟩ : ∃ S : Int → St, S = fun l => ⟨(updD (updD (fun _ => .any) 4 (.ptr 2 0 0 0)) 5 (.ptr 2 1 0 0)), hOfO [some ⟨2, [[(eI 0), (eI 0)]], 0, 0x0019⟩, some ⟨2, [[(eI r4), (eI l)]], 0, 0x0019⟩], 2, 39⟩ := ⟨_, rfl⟩
 refine TrD.join o (fun z => q = Ctl.brk z) ?_ (fun l hz => ?_)
 ·apply TrD.block
  apply sq
  obtain ⟨r, n, a⟩ := bindE a
  refine rZ ?_ fun K hK => by simp [← (ssub_some n).1, (ssub_some n).2]; exact hK
  refine TrD.cond (b := seq2 r (ByteArray.mk #[42])) (by simp) (fun c => ?_) (fun c => ?_)
  ·rw [if_pos c] at a
   refine rZ ?_ fun K hK => by simp [c]; exact hK
   cases a
   refine ToAny.mk (-1) rfl ?_
   rw [e]
   exact gC [0, 64]
  rw [iN c] at a
  apply sq
  rcases bb (ieq (lenZ p1.size) 2) with f | f
  ·rw [if_pos f] at a
   obtain ⟨m, i, a⟩ := bindE a
   rcases bb (ile 48 m) with j | j
   ·rw [if_pos j] at a
    refine rZ ?_ fun K hK => by simp [c, f, ← (sidx_some i).1, (sidx_some i).2, j]; exact hK
    refine TrD.cond (b := ile m 57) (by simp) (fun g => ?_) (fun g => ?_)
    ·rw [if_pos g] at a
     refine rZ ?_ fun K hK => by simp [← (sidx_some i).1, (sidx_some i).2, g]; exact hK
     cases a
     refine ToAny.mk (wcv .i64 (wsub .u8 m 48)) rfl ?_
     rw [e]
     exact gC [0, 64]
    rw [iN g] at a
    apply TrD.skip
    cases a
    refine ToAny.mk 0 rfl ?_
    rw [e]
    exact gC [0, 64]
   rw [iN j] at a
   refine rZ ?_ fun K hK => by simp [c, f, ← (sidx_some i).1, (sidx_some i).2, j]; exact hK
   refine cF ?_
   apply TrD.skip
   cases a
   refine ToAny.mk 0 rfl ?_
   rw [e]
   exact gC [0, 64]
  rw [iN f] at a
  refine rZ ?_ fun K hK => by simp [c, f]; exact hK
  refine cF ?_
  apply TrD.skip
  cases a
  refine ToAny.mk 0 rfl ?_
  rw [e]
  exact gC [0, 64]
 subst hz
 try dsimp only at h
 rw [congrFun e l]
 refine sZ ?_
 cases h
 apply TrD.ret
 exact xD
theorem c_spec_l1ParseCtor (n : Nat) (p0 : (List ByteArray)) (p1 : ByteArray) (res : GCtor) (h : m_spec_l1ParseCtor n p0 p1 = some res) : CallsD Tryz.prog 0o00217 [(.slice 1 (List.map rS p0)), (eS p1)] (fun d => d = (.agg (rGCtor res))) := by
 unfold m_spec_l1ParseCtor at h
 refine CD Tryz.func143 [.cell 4 113] fun β hβ => ?_
 refine sZ ?_
 refine sZ ?_
 obtain ⟨ab, f, h⟩ := bindE h
 obtain ⟨Q, u⟩ : ∃ S : ByteArray × Int → St, S = fun a => ⟨(updD (updD (updD (updD (fun _ => .any) 0 (.slice 1 (List.map rS p0))) 1 (eS a.1)) 4 (.ptr 3 0 0 0)) 5 (.ptr 3 1 0 0)), hOfO [some ⟨3, [[(eS ByteArray.empty), .nil, (eI 0)]], 0, 0x0071⟩, some ⟨3, [[(eS ByteArray.empty), .nil, (eI a.2)]], 0, 0x0071⟩], 2, 83⟩ := ⟨_, rfl⟩
 refine TrD.join Q (fun z => ab = Ctl.brk z) ?_ (fun a hz => ?_)
 ·apply sq
  rcases bb (ilt 2 (lenZ p1.size)) with r | r
  ·rw [if_pos r] at f
   obtain ⟨af, D, f⟩ := bindE f
   refine rZ ?_ fun K hK => by simp [r, ← (sidx_some D).1, (sidx_some D).2]; exact hK
   refine TrD.cond (b := ieq af 58) (by simp) (fun j => ?_) (fun j => ?_)
   ·rw [if_pos j] at f
    apply sq
    obtain ⟨J, E, f⟩ := bindE f
    refine rZ ?_ fun K hK => by simp [j, ← (sidx_some E).1, (sidx_some E).2]; exact hK
    obtain ⟨N, F, f⟩ := bindE f
    refine rZ ?_ fun K hK => by simp [← (ssub_some F).1, (ssub_some F).2]; exact hK
    cases f
    refine ToAny.mk (N, wsub .i64 (wcv .i64 J) 48) rfl ?_
    rw [u]
    exact gC [0, 16]
   rw [iN j] at f
   apply TrD.skip
   cases f
   refine ToAny.mk (p1, 0) rfl ?_
   rw [u]
   exact gC [0, 16]
  rw [iN r] at f
  refine rZ ?_ fun K hK => by simp [r]; exact hK
  refine cF ?_
  apply TrD.skip
  cases f
  refine ToAny.mk (p1, 0) rfl ?_
  rw [u]
  exact gC [0, 16]
 subst hz
 try dsimp only at h
 rw [congrFun u a]
 apply sq
 obtain ⟨A, Y, h⟩ := bindE h
 refine rk fun K hK => ?_
 simp
 refine cp (c_spec_l17Cut n a.1 40 _ Y) ?_
 simp
 apply hK
 apply sq
 obtain ⟨e, G, h⟩ := bindE h
 refine rZ ?_ fun K hK => by simp [idx_inb G, idx_row G]; exact hK
 apply sq
 apply sq
 rcases bb (ilt (lenZ A.length) 2) with s | s
 ·rw [if_pos s] at h
  refine rZ ?_ fun K hK => by simp [s]; exact hK
  refine cT ?_
  refine sZ ?_
  cases h
  apply TrD.ret
  refine exitDG (σ' := ⟨(updD (fun _ => .any) 4 (.ptr 3 0 0 0)), hOfO [some ⟨3, [(rGCtor (GCtor.mk e [] a.2))], 0, 0x0071⟩], 1, 83⟩) ?_ ?_
  ·exact gC [0]
  simp [resD]
  exact eF
 rw [iN s] at h
 obtain ⟨ag, w, h⟩ := bindE h
 refine rZ ?_ fun K hK => by simp [s, idx_inb w, idx_row w]; exact hK
 refine TrD.cond (b := ieq (lenZ ag.size) 0) (by simp) (fun l => ?_) (fun l => ?_)
 ·rw [if_pos l] at h
  refine sZ ?_ fun K hK => by simp [l]; exact hK
  cases h
  apply TrD.ret
  refine exitDG (σ' := ⟨(updD (fun _ => .any) 4 (.ptr 3 0 0 0)), hOfO [some ⟨3, [(rGCtor (GCtor.mk e [] a.2))], 0, 0x0071⟩], 1, 83⟩) ?_ ?_
  ·exact gC [0]
  simp [resD]
  exact eF
 rw [iN l] at h
 apply TrD.skip
 apply sq
 refine TrD.ghost (σ' := ⟨(updD (updD (updD (updD (fun _ => .any) 0 (.slice 1 (List.map rS p0))) 4 (.ptr 3 0 0 0)) 5 (.ptr 3 1 0 0)) 6 (.slice 1 (List.map rS A))), hOfO [some ⟨3, [[(eS ByteArray.empty), .nil, (eI 0)]], 0, 0x0071⟩, some ⟨3, [[(eS e), .nil, (eI a.2)]], 0, 0x0071⟩], 2, 83⟩) ?_ ?_
 ·exact gC [0, 1]
 obtain ⟨ah, H, h⟩ := bindE h
 obtain ⟨m, Z, h⟩ := bindE h
 refine TrD.draw tysOk mixed [0, 1, 2, 3, 4, 5, 6, 7, 8, 9, 10] [] [] (by rfl) rfl (fun K hK => ?_)
 simp [idx_inb w, idx_row w, ← (ssub_some H).1, (ssub_some H).2]
 refine cp (c_spec_l17Cut n ah 44 _ Z) ?_
 simp
 apply hK
 apply sq
 refine sZ ?_
 obtain ⟨ac, R, h⟩ := bindE h
 obtain ⟨O, y⟩ : ∃ S : (List GType) → St, S = fun q => ⟨(updD (updD (fun _ => .any) 4 (.ptr 3 0 0 0)) 5 (.ptr 3 1 0 0)), hOfO [some ⟨3, [[(eS ByteArray.empty), .nil, (eI 0)]], 0, 0x0071⟩, some ⟨3, [[(eS e), (.sl 2 2 (q).length), (eI a.2)]], 0, 0x0071⟩, some ⟨2, (List.map rGType q), 0, 0x0019⟩], 3, 83⟩ := ⟨_, rfl⟩
 refine TrD.joinQ O (fun z => ac = Ctl.brk z) (fun _ _ hg h => TrD.ghost hg h) ?_ (fun q hz => ?_)
 ·apply TrD.block
  obtain ⟨P, t⟩ : ∃ S : Nat → (List GType) → St, S = fun o c => ⟨(updD (updD (updD (updD (updD (fun _ => .any) 0 (.slice 1 (List.map rS p0))) 4 (.ptr 3 0 0 0)) 5 (.ptr 3 1 0 0)) 7 (.slice 1 (List.map rS m))) 8 (eI (o : Int))), hOfO [some ⟨3, [[(eS ByteArray.empty), .nil, (eI 0)]], 0, 0x0071⟩, some ⟨3, [[(eS e), (.sl 2 2 (c).length), (eI a.2)]], 0, 0x0071⟩, some ⟨2, (List.map rGType c), 0, 0x0019⟩], 3, 83⟩ := ⟨_, rfl⟩
  refine TrD.limS (sz := 1) (rows := List.map rS m) (seen_slot (d := .slice 1 (List.map rS m)) 60 (by simp)) (fun hlim => ?_)
  rw [List.length_map] at hlim
  refine TrD.forL P R hlim ?_ (fun o ae c I aj ak aa p al i ai T => ?_) (fun c ad => ?_)
  ·rw [t]
   refine (Ghost.ownNilCell 1 1 2 0x0019 (by simp; rfl) rfl (by simp) (by simp)).trans ?_
   exact gC [0, 1, 18]
  ·rw [congrFun (congrFun t o) c]
   apply sq
   refine sZ ?_ fun K hK => by simp [aa]; exact hK
   refine TrD.cond (b := ile (o : Int) 3) (by simp) (fun g => ?_) (fun g => ?_)
   ·rw [if_pos g] at i
    apply TrD.skip
    apply sq
    apply TrD.block
    refine TrD.ghost (σ' := ⟨(updD (updD (updD (updD (updD (fun _ => .any) 0 (.slice 1 (List.map rS p0))) 4 (.ptr 3 0 0 0)) 5 (.ptr 3 1 0 0)) 7 (.slice 1 (List.map rS m))) 8 (eI (o : Int))), hOfO [some ⟨3, [[(eS ByteArray.empty), .nil, (eI 0)]], 0, 0x0071⟩, some ⟨3, [[(eS e), (.sl 2 2 (c).length), (eI a.2)]], 0, 0x0071⟩, some ⟨2, (List.map rGType c), 0, 0x0019⟩], 3, 83⟩) ?_ ?_
    ·exact gC [0, 1, 2]
    obtain ⟨ap, X, i⟩ := bindE i
    obtain ⟨B, v, i⟩ := bindE i
    have C := (app_some v).2
    try simp only [List.length_cons, List.length_nil, Nat.zero_add] at C
    refine TrD.draw tysOk mixed [0, 1, 2, 3, 4, 5, 6, 7, 8, 9, 10, 11] [1] [81] (by rfl) rfl (fun K hK => ?_)
    simp [idx_inb I, idx_row I]
    refine cp (c_spec_l1ParseType p0 ae _ X) ?_
    simp [C]
    apply hK
    refine rZ ?_
    cases i
    refine ToAny.mk B rfl ?_
    rw [t]
    exact Ghost.canonV 0 [0, 1, 19] _ _ hβ (keep_first (by decide)) (by decide) (vT_upd (v_of (d0 := (eI (wadd .i64 (o : Int) 1))) (by simp [p]) (v_free (by simp) (by simp [p]))) (vT_upd (v_of (d0 := (.slice 1 (List.map rS m))) (by simp [p]) (v_free (by simp) (by simp))) (vT_upd (v_of (d0 := (.ptr 3 1 0 0)) (by simp [p]) (v_ptr rfl)) (vT_upd (v_of (d0 := (.ptr 3 0 0 0)) (by simp [p]) (v_ptr rfl)) (vT_upd (v_of (d0 := (.slice 1 (List.map rS p0))) (by simp [p]) (v_free (by simp) (by simp))) (vT_any _)))))) (.cons (lv (L := ⟨3, [[(eS ByteArray.empty), .nil, (eI 0)]], 0, 0x0071⟩) (by simp) rfl rfl (by simp) (rv_cons (.cons (v_free (by simp) (by simp)) (.cons (v_free (by simp) (by simp)) (.cons (v_free (by simp) (by simp)) .nil))) rv_nil)) (.cons (lv (L := ⟨3, [[(eS e), (.sl 2 19 (B).length), (eI a.2)]], 0, 0x0071⟩) (by simp [(app_some v).1]) rfl rfl (by simp) (rv_cons (.cons (v_free (by simp) (by simp)) (.cons (v_sl rfl) (.cons (v_free (by simp) (by simp)) .nil))) rv_nil)) (.cons (lv (L := ⟨2, (List.map rGType B), 0, 0x0019⟩) (by simp [(app_some v).1]) rfl rfl (by simp) (rv_free (by simp [(app_some v).1]) (free_rows_of fr_GType _))) .nil)))
   rw [iN g] at i
   refine TrD.exit ?_
   try simp only [↓reduceIte, Nat.reduceEqDiff, Nat.zero_ne_one, Nat.one_ne_zero, OfNat.ofNat_ne_zero, OfNat.zero_ne_ofNat, OfNat.one_ne_ofNat, OfNat.ofNat_ne_one]
   cases i
   obtain rfl := T _ rfl
   refine ToAny.mk c rfl ?_
   rw [y]
   exact gC [0, 1, 2]
  rw [congrFun (congrFun t _) c]
  apply sq
  refine sZ ?_ fun K hK => by simp [ilt_len m.length]; exact hK
  refine cF ?_
  refine TrD.exit ?_
  try simp only [↓reduceIte, Nat.reduceEqDiff, Nat.zero_ne_one, Nat.one_ne_zero, OfNat.ofNat_ne_zero, OfNat.zero_ne_ofNat, OfNat.one_ne_ofNat, OfNat.ofNat_ne_one]
  refine ToAny.mk c ad ?_
  rw [y]
  exact gC [0, 1, 2]
 subst hz
 try dsimp only at h
 rw [congrFun y q]
 refine sZ ?_
 cases h
 apply TrD.ret
 refine exitDG (σ' := ⟨(updD (fun _ => .any) 4 (.ptr 3 0 0 0)), hOfO [some ⟨3, [(rGCtor (GCtor.mk e q a.2))], 0, 0x0071⟩], 1, 83⟩) ?_ ?_
 ·refine (Ghost.raise 2 (by simp; rfl)).trans ?_
  exact gC [0] (hh := (ln.c (lv (L := ⟨3, [[(eS e), (.sl 2 2 (q).length), (eI a.2)]], 0, 0x0071⟩) (by simp) rfl rfl (by simp) (rv_consr (rGCtor_eq _) (.cons (v_free (by simp) (by simp)) (.cons (v_frz (by simp; rfl) rfl (by simp) (by simp) (rv_free (by simp) (by simp))) (.cons (v_free (by simp) (by simp)) .nil))) rv_nil))))
 simp [resD]
 exact eF
end Go.Proofs.YtimpchdgflhkaaaGreat
