import Derived.Test.YtmkamncbkkahjaaGreatJMir
import Derived.Test.YtmkamncbkkahjaaGreatJZap
import Derived.Test.YtmkamncbkkahjaaGreatJC15
import Derived.Test.YtmkamncbkkahjaaGreatJC14
import Derived.Test.YtmkamncbkkahjaaGreatJC2
set_option linter.unusedSimpArgs false
set_option linter.unusedVariables false
namespace Go.Proofs.YtmkamncbkkahjaaGreat
open Go Go.RowKit
set_option maxRecDepth 100000
set_option maxHeartbeats 20000000
theorem c_spec_l11Put : ∀ (n : Nat) (p0 : GPattern) (p1 : Int) (p2 : Int) (p3 : Int) (res : GPattern × Bool), m_spec_l11Put n p0 p1 p2 p3 = some res → CallsD Tryz.prog 0o00157 [(.agg (rGPattern p0)), (eI p1), (eI p2), (eI p3)] (fun d => d = .tup [(.agg (rGPattern res.1)), (eB res.2)]) := by
 intro n
 induction n with
 | zero => intro p0 p1 p2 p3 res h; cases h
 | succ n ih =>
  intro p0 p1 p2 p3 res h
  rw [m_spec_l11Put.eq_2] at h
  refine CD Tryz.func111 [.cell 8 41, .tmp 9] fun β hβ => ?_
  refine sZ ?_
  obtain ⟨U, a, h⟩ := bindE h
  obtain ⟨F, r⟩ : ∃ S : Unit → St, S = fun C => ⟨(updD (updD (updD (updD (updD (fun _ => .any) 1 (eI p1)) 2 (eI p2)) 3 (eI p3)) 4 (.ptr 6 0 0 0)) 8 (.ptr 6 1 0 0)), hOfO [some ⟨6, [(rGPattern p0)], 0, 0x0029⟩, some ⟨6, [[(eI 0), (eI 0), (eI 0), (eI 0), (eI 0), .nil]], 0, 0x0029⟩], 2, 65⟩ := ⟨_, rfl⟩
  refine TrD.join F (fun z => U = Ctl.brk z) ?_ (fun C hz => ?_)
  ·apply sq
   rcases bb (ieq p0.op 2) with j | j
   ·rw [if_pos j] at a
    refine rZ ?_ fun K hK => by simp [j]; exact hK
    refine TrD.cond (b := ieq p0.var p1) (by simp) (fun c => ?_) (fun c => ?_)
    ·rw [if_pos c] at a
     apply sq
     obtain ⟨u, O, a⟩ := bindE a
     refine rk fun K hK => ?_
     simp [c]
     refine cp (c_spec_l11Narrow n p0 p2 p3 _ O) ?_
     simp
     apply hK
     cases a
     cases h
     apply TrD.ret
     exact xD
    rw [iN c] at a
    apply TrD.skip
    cases a
    refine ToAny.mk () rfl ?_
    rw [r]
    exact gC [0, 8]
   rw [iN j] at a
   rcases bb (ieq p0.op 6) with p | p
   ·rw [if_pos p] at a
    refine rZ ?_ fun K hK => by simp [j, p]; exact hK
    refine TrD.cond (b := ieq p0.var p1) (by simp) (fun e => ?_) (fun e => ?_)
    ·rw [if_pos e] at a
     apply sq
     obtain ⟨v, P, a⟩ := bindE a
     refine rk fun K hK => ?_
     simp [e]
     refine cp (c_spec_l11Narrow n p0 p2 p3 _ P) ?_
     simp
     apply hK
     cases a
     cases h
     apply TrD.ret
     exact xD
    rw [iN e] at a
    apply TrD.skip
    cases a
    refine ToAny.mk () rfl ?_
    rw [r]
    exact gC [0, 8]
   rw [iN p] at a
   refine rZ ?_ fun K hK => by simp [j, p]; exact hK
   refine cF ?_
   apply TrD.skip
   cases a
   refine ToAny.mk () rfl ?_
   rw [r]
   exact gC [0, 8]
  subst hz
  try dsimp only at h
  rw [congrFun r C]
  refine sZ ?_
  refine sZ ?_
  apply sq
  refine sZ ?_
  obtain ⟨T, G, h⟩ := bindE h
  obtain ⟨D, y⟩ : ∃ S : (List GPattern) → St, S = fun l => ⟨(updD (updD (fun _ => .any) 8 (.ptr 6 0 0 0)) 10 (.ptr 6 1 0 0)), hOfO [some ⟨6, [[(eI 0), (eI 0), (eI 0), (eI 0), (eI 0), .nil]], 0, 0x0029⟩, some ⟨6, [[(eI p0.op), (eI p0.ctor), (eI p0.n), (eI p0.m), (eI p0.var), (.sl 6 2 (l).length)]], 0, 0x0029⟩, some ⟨6, (List.map rGPattern l), 0, 0x0029⟩], 3, 65⟩ := ⟨_, rfl⟩
  refine TrD.joinQ D (fun z => T = Ctl.brk z) (fun _ _ hg h => TrD.ghost hg h) ?_ (fun l hz => ?_)
  ·apply TrD.block
   obtain ⟨E, q⟩ : ∃ S : Nat → (List GPattern) → St, S = fun t f => ⟨(updD (updD (updD (updD (updD (updD (updD (fun _ => .any) 1 (eI p1)) 2 (eI p2)) 3 (eI p3)) 4 (.ptr 6 0 0 0)) 8 (.ptr 6 1 0 0)) 10 (.ptr 6 2 0 0)) 11 (eI (t : Int))), hOfO [some ⟨6, [(rGPattern p0)], 0, 0x0029⟩, some ⟨6, [[(eI 0), (eI 0), (eI 0), (eI 0), (eI 0), .nil]], 0, 0x0029⟩, some ⟨6, [[(eI p0.op), (eI p0.ctor), (eI p0.n), (eI p0.m), (eI p0.var), (.sl 6 3 (f).length)]], 0, 0x0029⟩, some ⟨6, (List.map rGPattern f), 0, 0x0029⟩], 4, 65⟩ := ⟨_, rfl⟩
   refine TrD.limS (sz := 6) (rows := List.map rGPattern p0.kids) (seen_cell (d := .slice 6 (List.map rGPattern p0.kids)) 0 0 5 (by simp; rfl) rfl (by simp)) (fun hlim => ?_)
   rw [List.length_map] at hlim
   refine TrD.forL E G hlim ?_ (fun t X f B Z aa R i ab g Q Y => ?_) (fun f W => ?_)
   ·rw [q]
    refine (Ghost.ownNilCell 10 5 6 0x0029 (by simp; rfl) rfl (by simp) (by simp)).trans ?_
    exact gC [0, 1, 10, 50]
   ·rw [congrFun (congrFun q t) f]
    apply sq
    refine sZ ?_ fun K hK => by simp [R]; exact hK
    refine cT ?_
    apply TrD.skip
    apply sq
    apply TrD.block
    apply sq
    obtain ⟨V, N, g⟩ := bindE g
    refine rk fun K hK => ?_
    simp [idx_inb B, idx_row B]
    refine cp (ih X p1 p2 p3 _ N) ?_
    simp
    apply hK
    apply sq
    refine sZ ?_
    refine TrD.cond (b := (!V.2)) (by simp) (fun o => ?_) (fun o => ?_)
    ·rw [if_pos o] at g
     refine sZ ?_ fun K hK => by simp [o]; exact hK
     cases g
     obtain rfl := Q _ rfl
     cases h
     apply TrD.ret
     refine exitDG (σ' := ⟨(updD (updD (fun _ => .any) 8 (.ptr 6 0 0 0)) 9 (eB false)), hOfO [some ⟨6, [(rGPattern (GPattern.mk 0 0 0 0 0 []))], 0, 0x0029⟩], 1, 65⟩) ?_ ?_
     ·exact gC [1]
     simp [resD]
     exact eF
    rw [iN o] at g
    apply TrD.skip
    obtain ⟨w, s, g⟩ := bindE g
    have A := (app_some s).2
    try simp only [List.length_cons, List.length_nil, Nat.zero_add] at A
    refine rZ ?_ fun K hK => by simp [o, A]; exact hK
    refine rZ ?_
    cases g
    refine ToAny.mk w rfl ?_
    rw [q]
    exact Ghost.canonV 0 [0, 1, 2, 212] _ _ hβ (keep_first (by decide)) (by decide) (vT_upd (v_of (d0 := (eI (wadd .i64 (t : Int) 1))) (by simp [i]) (v_free (by simp) (by simp [i]))) (vT_upd (v_of (d0 := (.ptr 6 2 0 0)) (by simp [i]) (v_ptr rfl)) (vT_upd (v_of (d0 := (.ptr 6 1 0 0)) (by simp [i]) (v_ptr rfl)) (vT_upd (v_of (d0 := (.ptr 6 0 0 0)) (by simp [i]) (v_ptr rfl)) (vT_upd (v_of (d0 := (eI p3)) (by simp [i]) (v_free (by simp) (by simp))) (vT_upd (v_of (d0 := (eI p2)) (by simp [i]) (v_free (by simp) (by simp))) (vT_upd (v_of (d0 := (eI p1)) (by simp [i]) (v_free (by simp) (by simp))) (vT_any _)))))))) (.cons (lv (L := ⟨6, [(rGPattern p0)], 0, 0x0029⟩) (by simp) rfl rfl (by simp) (rv_free (by simp) (by simp))) (.cons (lv (L := ⟨6, [[(eI 0), (eI 0), (eI 0), (eI 0), (eI 0), .nil]], 0, 0x0029⟩) (by simp) rfl rfl (by simp) (rv_cons (.cons (v_free (by simp) (by simp)) (.cons (v_free (by simp) (by simp)) (.cons (v_free (by simp) (by simp)) (.cons (v_free (by simp) (by simp)) (.cons (v_free (by simp) (by simp)) (.cons (v_free (by simp) (by simp)) .nil)))))) rv_nil)) (.cons (lv (L := ⟨6, [[(eI p0.op), (eI p0.ctor), (eI p0.n), (eI p0.m), (eI p0.var), (.sl 6 212 (w).length)]], 0, 0x0029⟩) (by simp [(app_some s).1]) rfl rfl (by simp) (rv_cons (.cons (v_free (by simp) (by simp)) (.cons (v_free (by simp) (by simp)) (.cons (v_free (by simp) (by simp)) (.cons (v_free (by simp) (by simp)) (.cons (v_free (by simp) (by simp)) (.cons (v_sl rfl) .nil)))))) rv_nil)) (.cons (lv (L := ⟨6, (List.map rGPattern w), 0, 0x0029⟩) (by simp [(app_some s).1]) rfl rfl (by simp) (rv_free (by simp [(app_some s).1]) (free_rows_of fr_GPattern _))) .nil))))
   rw [congrFun (congrFun q _) f]
   apply sq
   refine sZ ?_ fun K hK => by simp [ilt_len p0.kids.length]; exact hK
   refine cF ?_
   refine TrD.exit ?_
   try simp only [↓reduceIte, Nat.reduceEqDiff, Nat.zero_ne_one, Nat.one_ne_zero, OfNat.ofNat_ne_zero, OfNat.zero_ne_ofNat, OfNat.one_ne_ofNat, OfNat.ofNat_ne_one]
   refine ToAny.mk f W ?_
   rw [y]
   exact gC [1, 2, 3]
  subst hz
  try dsimp only at h
  rw [congrFun y l]
  refine sZ ?_
  cases h
  apply TrD.ret
  refine exitDG (σ' := ⟨(updD (updD (fun _ => .any) 8 (.ptr 6 0 0 0)) 9 (eB true)), hOfO [some ⟨6, [(rGPattern (GPattern.mk p0.op p0.ctor p0.n p0.m p0.var l))], 0, 0x0029⟩], 1, 65⟩) ?_ ?_
  ·refine (Ghost.raise 2 (by simp; rfl)).trans ?_
   exact gC [0] (hh := (ln.c (lv (L := ⟨6, [[(eI p0.op), (eI p0.ctor), (eI p0.n), (eI p0.m), (eI p0.var), (.sl 6 2 (l).length)]], 0, 0x0029⟩) (by simp) rfl rfl (by simp) (rv_consr (rGPattern_eq _) (.cons (v_free (by simp) (by simp)) (.cons (v_free (by simp) (by simp)) (.cons (v_free (by simp) (by simp)) (.cons (v_free (by simp) (by simp)) (.cons (v_free (by simp) (by simp)) (.cons (v_frz (by simp; rfl) rfl (by simp) (by simp) (rv_free (by simp) (by simp))) .nil)))))) rv_nil))))
  simp [resD]
  exact eF
set_option maxRecDepth 100000 in
theorem c_spec_l11Guard (n : Nat) (p0 : GClause) (res : GClause × Bool) (h : m_spec_l11Guard n p0 = some res) : CallsD Tryz.prog 0o00062 [(.agg (rGClause p0))] (fun d => d = .tup [(.agg (rGClause res.1)), (eB res.2)]) := by
 unfold m_spec_l11Guard at h
 refine CD Tryz.func50 [.cell 2 45, .tmp 3] fun β hβ => ?_
 refine sZ ?_
 apply sq
 refine sZ ?_
 refine TrD.cond (b := ieq p0.guard.op 0) (by simp) (fun hb4 => ?_) (fun hb4 => ?_)
 ·rw [if_pos hb4] at h
  apply sq
  obtain ⟨r5, hr5, h⟩ := bindE h
  refine rk fun K hK => ?_
  simp [hb4]
  refine cp (c_spec_l3Copy n p0.pat _ hr5) ?_
  simp
  apply hK
  cases h
  apply TrD.ret
  exact xD
 rw [iN hb4] at h
 apply TrD.skip
 apply sq
 obtain ⟨r7, hr7, h⟩ := bindE h
 refine rk fun K hK => ?_
 simp [hb4]
 refine cp (c_spec_l11Range p0.guard _ hr7) ?_
 simp
 apply hK
 apply sq
 obtain ⟨r8, hr8, h⟩ := bindE h
 refine rk fun K hK => ?_
 simp
 refine cp (c_spec_l11Put n p0.pat p0.guard.var r7.1 r7.2 _ hr8) ?_
 simp
 apply hK
 apply sq
 obtain ⟨r9, hr9, h⟩ := bindE h
 refine rk fun K hK => ?_
 simp
 refine cp (c_spec_l3Copy n r8.1 _ hr9) ?_
 simp
 apply hK
 cases h
 apply TrD.ret
 exact xD
set_option maxRecDepth 100000 in
theorem c_spec_GuardNever (n : Nat) (p0 : (List GData)) (p1 : GType) (p2 : GClause) (res : Bool) (h : m_spec_GuardNever n p0 p1 p2 = some res) : CallsD Tryz.prog 0o00020 [(.slice 2 (List.map rGData p0)), (.agg (rGType p1)), (.agg (rGClause p2))] (fun d => d = (eB res)) := by
 unfold m_spec_GuardNever at h
 refine CD Tryz.func16 [.tmp 6] fun β hβ => ?_
 refine sZ ?_
 apply sq
 apply sq
 obtain ⟨r, f, h⟩ := bindE h
 rcases bb (!r) with a | a
 ·rw [if_pos a] at h
  refine rk fun K hK => ?_
  simp
  refine cp (c_spec_ClauseValid n p0 p1 p2 _ f) ?_
  simp [a]
  apply hK
  refine cT ?_
  refine sZ ?_
  cases h
  apply TrD.ret
  exact xD
 rw [iN a] at h
 rcases bb (ieq p2.guard.op 0) with c | c
 ·rw [if_pos c] at h
  refine rk fun K hK => ?_
  simp
  refine cp (c_spec_ClauseValid n p0 p1 p2 _ f) ?_
  simp [a, c]
  apply hK
  refine cT ?_
  refine sZ ?_
  cases h
  apply TrD.ret
  exact xD
 rw [iN c] at h
 obtain ⟨s, p, h⟩ := bindE h
 refine rk fun K hK => ?_
 simp
 refine cp (c_spec_ClauseValid n p0 p1 p2 _ f) ?_
 simp [a, c]
 refine cp (c_spec_l11Under n p2.pat p2.guard.var _ p) ?_
 simp [c]
 apply hK
 refine TrD.cond (b := s) (by simp) (fun e => ?_) (fun e => ?_)
 ·rw [if_pos e] at h
  refine sZ ?_ fun K hK => by simp [e]; exact hK
  cases h
  apply TrD.ret
  exact xD
 rw [iN e] at h
 apply TrD.skip
 apply sq
 obtain ⟨g, q, h⟩ := bindE h
 refine rk fun K hK => ?_
 simp [e]
 refine cp (c_spec_l11Guard n p2 _ q) ?_
 simp
 apply hK
 refine sZ ?_
 cases h
 apply TrD.ret
 exact xD
theorem c_impl_countValues : ∀ (n : Nat) (p0 : (List GData)) (p1 : GType) (p2 : Int) (res : Int), m_impl_countValues n p0 p1 p2 = some res → CallsD Tryz.prog 0o00065 [(.slice 2 (List.map rGData p0)), (.agg (rGType p1)), (eI p2)] (fun d => d = (eI res)) := by
 intro n
 induction n with
 | zero => intro p0 p1 p2 res h; cases h
 | succ n ih =>
  intro p0 p1 p2 res h
  rw [m_impl_countValues.eq_2] at h
  refine CD Tryz.func53 [.tmp 6] fun β hβ => ?_
  refine sZ ?_
  apply sq
  refine sZ ?_
  refine TrD.cond (b := ieq p2 0) (by simp) (fun hb2 => ?_) (fun hb2 => ?_)
  ·rw [if_pos hb2] at h
   refine sZ ?_ fun K hK => by simp [hb2]; exact hK
   cases h
   apply TrD.ret
   exact xD
  rw [iN hb2] at h
  apply TrD.skip
  apply sq
  refine sZ ?_ fun K hK => by simp [hb2]; exact hK
  refine TrD.cond (b := ieq p1.data (-1)) (by simp) (fun hb4 => ?_) (fun hb4 => ?_)
  ·rw [if_pos hb4] at h
   refine sZ ?_ fun K hK => by simp [hb4]; exact hK
   cases h
   apply TrD.ret
   exact xD
  rw [iN hb4] at h
  apply TrD.skip
  refine sZ ?_ fun K hK => by simp [hb4]; exact hK
  apply sq
  apply sq
  obtain ⟨a, J, h⟩ := bindE h
  refine rk fun K hK => ?_
  simp
  refine cp (c_impl_ctorsOf p0 p1 _ J) ?_
  simp
  apply hK
  obtain ⟨R, E, h⟩ := bindE h
  obtain ⟨A, t⟩ : ∃ S : Int → St, S = fun m => ⟨(updD (fun _ => .any) 7 (eI m)), hOfO [], 0, 50⟩ := ⟨_, rfl⟩
  refine TrD.joinQ A (fun z => R = Ctl.brk z) (fun _ _ hg h => TrD.ghost hg h) ?_ (fun m hz => ?_)
  ·apply TrD.block
   obtain ⟨C, p⟩ : ∃ S : Nat → Int → St, S = fun f c => ⟨(updD (updD (updD (updD (updD (updD (updD (fun _ => .any) 0 (.slice 2 (List.map rGData p0))) 2 (eI p2)) 4 (.ptr 2 0 0 0)) 7 (eI c)) 20 (.slice 1 (List.map rI a))) 21 (eI (lenZ a.length))) 22 (eI (f : Int))), hOfO [some ⟨2, [(rGType p1)], 0, 0x0019⟩], 1, 50⟩ := ⟨_, rfl⟩
   refine TrD.limS (sz := 1) (rows := List.map rI a) (seen_slot (d := .slice 1 (List.map rI a)) 20 (by simp)) (fun hlim => ?_)
   rw [List.length_map] at hlim
   refine TrD.forL C E hlim ?_ (fun f W c v ac ad P j ag l aa Y => ?_) (fun c U => ?_)
   ·rw [p]
    exact gC [0]
   ·rw [congrFun (congrFun p f) c]
    refine sZ ?_ fun K hK => by simp [P]; exact hK
    apply sq
    refine cT ?_
    apply TrD.skip
    apply sq
    apply TrD.block
    refine sZ ?_ fun K hK => by simp [idx_inb v, idx_row v]; exact hK
    refine sZ ?_
    apply sq
    apply sq
    obtain ⟨g, N, l⟩ := bindE l
    refine rk fun K hK => ?_
    simp
    refine cp (c_impl_argTypes p0 p1 W _ N) ?_
    simp
    apply hK
    obtain ⟨T, F, l⟩ := bindE l
    obtain ⟨B, u⟩ : ∃ S : Int → St, S = fun o => ⟨(updD (updD (updD (updD (updD (updD (updD (updD (fun _ => .any) 0 (.slice 2 (List.map rGData p0))) 2 (eI p2)) 4 (.ptr 2 0 0 0)) 7 (eI c)) 10 (eI o)) 20 (.slice 1 (List.map rI a))) 21 (eI (lenZ a.length))) 22 (eI (f : Int))), hOfO [some ⟨2, [(rGType p1)], 0, 0x0019⟩], 1, 50⟩ := ⟨_, rfl⟩
    refine TrD.joinQ B (fun z => T = Ctl.brk z) (fun _ _ hg h => TrD.ghost hg h) ?_ (fun o hz => ?_)
    ·apply TrD.block
     obtain ⟨D, q⟩ : ∃ S : Nat → Int → St, S = fun r i => ⟨(updD (updD (updD (updD (updD (updD (updD (updD (updD (updD (updD (fun _ => .any) 0 (.slice 2 (List.map rGData p0))) 2 (eI p2)) 4 (.ptr 2 0 0 0)) 7 (eI c)) 10 (eI i)) 20 (.slice 1 (List.map rI a))) 21 (eI (lenZ a.length))) 22 (eI (f : Int))) 29 (.slice 2 (List.map rGType g))) 30 (eI (lenZ g.length))) 31 (eI (r : Int))), hOfO [some ⟨2, [(rGType p1)], 0, 0x0019⟩], 1, 50⟩ := ⟨_, rfl⟩
     refine TrD.limS (sz := 2) (rows := List.map rGType g) (seen_slot (d := .slice 2 (List.map rGType g)) 29 (by simp)) (fun hlim => ?_)
     rw [List.length_map] at hlim
     refine TrD.forL D F hlim ?_ (fun r X i w ae af Q e ah s ab Z => ?_) (fun i V => ?_)
     ·rw [q]
      exact gC [0]
     ·rw [congrFun (congrFun q r) i]
      refine sZ ?_ fun K hK => by simp [Q]; exact hK
      apply sq
      refine cT ?_
      apply TrD.skip
      apply sq
      apply TrD.block
      refine sZ ?_ fun K hK => by simp [idx_inb w, idx_row w]; exact hK
      obtain ⟨y, O, s⟩ := bindE s
      refine rk fun K hK => ?_
      simp
      refine cp (ih p0 X (wsub .i64 p2 1) _ O) ?_
      simp
      apply hK
      refine rZ ?_
      cases s
      refine ToAny.mk (imin (wmul .i64 i y) 401) rfl ?_
      rw [q]
      exact gc [0] hβ (((((((((((va.f (by simp [e])).f (by simp [e])).p 0 (by simp [e])).f (by simp [e])).f (by simp [e])).f (by simp [e])).f (by simp [e])).f (by simp [e])).f (by simp [e])).f (by simp [e])).f (by simp [e])) ln.f
     rw [congrFun (congrFun q _) i]
     refine sZ ?_ fun K hK => by simp [ilt_len g.length]; exact hK
     apply sq
     refine cF ?_
     refine TrD.exit ?_
     try simp only [↓reduceIte, Nat.reduceEqDiff, Nat.zero_ne_one, Nat.one_ne_zero, OfNat.ofNat_ne_zero, OfNat.zero_ne_ofNat, OfNat.one_ne_ofNat, OfNat.ofNat_ne_one]
     refine ToAny.mk i V ?_
     rw [u]
     exact gC [0]
    subst hz
    try dsimp only at l
    rw [congrFun u o]
    refine rZ ?_
    refine rZ ?_
    cases l
    refine ToAny.mk (imin (wadd .i64 c o) 401) rfl ?_
    rw [p]
    exact gc [0] hβ (((((((va.f (by simp [j])).f (by simp [j])).p 0 (by simp [j])).f (by simp [j])).f (by simp [j])).f (by simp [j])).f (by simp [j])) ln.f
   rw [congrFun (congrFun p _) c]
   refine sZ ?_ fun K hK => by simp [ilt_len a.length]; exact hK
   apply sq
   refine cF ?_
   refine TrD.exit ?_
   try simp only [↓reduceIte, Nat.reduceEqDiff, Nat.zero_ne_one, Nat.one_ne_zero, OfNat.ofNat_ne_zero, OfNat.zero_ne_ofNat, OfNat.one_ne_ofNat, OfNat.ofNat_ne_one]
   refine ToAny.mk c U ?_
   rw [t]
   exact gC []
  subst hz
  try dsimp only at h
  rw [congrFun t m]
  refine sZ ?_
  cases h
  apply TrD.ret
  exact xD
theorem c_impl_number (p0 : Int) (res : GValue) (h : m_impl_number p0 = some res) : CallsD Tryz.prog 0o00164 [(eI p0)] (fun d => d = (.agg (rGValue res))) := by
 unfold m_impl_number at h
 refine CD Tryz.func116 [.cell 2 29] fun β hβ => ?_
 refine sZ ?_
 refine sZ ?_
 cases h
 apply TrD.ret
 refine exitDG (σ' := ⟨(updD (fun _ => .any) 2 (.ptr 3 0 0 0)), hOfO [some ⟨3, [(rGValue (GValue.mk (-1) p0 []))], 0, 0x001d⟩], 1, 5⟩) ?_ ?_
 ·exact gC [0]
 simp [resD]
 exact eF
theorem c_impl_values_1 (n : Nat) (p0 : GType) (q0 : (List GData)) (q1 : Int) (res : Bool) (h : m_impl_values_1 n p0 q0 q1 = some res) : CallsD Tryz.prog 0o00166 [(.agg (rGType p0)), .cptr [(.slice 2 (List.map rGData q0))], .cptr [(eI q1)]] (fun d => d = (eB res)) := by
 unfold m_impl_values_1 at h
 refine CD Tryz.func118 [.tmp 4] fun β hβ => ?_
 refine sZ ?_
 apply sq
 obtain ⟨r1, hr1, h⟩ := bindE h
 refine rk fun K hK => ?_
 simp
 refine cp (c_impl_countValues n q0 p0 (wsub .i64 q1 1) _ hr1) ?_
 simp
 apply hK
 cases h
 apply TrD.ret
 exact xD
theorem c_slices_Clone_Value (p0 : (List GValue)) (res : (List GValue)) (h : m_slices_Clone_Value p0 = some res) : CallsH Tryz.prog 0o00167 [] [(.slice 3 (List.map rGValue p0))] (fun H d => H = [some ⟨3, List.map rGValue res, 0, 0x001d⟩] ∧ d = .sl 3 0 res.length) := by
 unfold m_slices_Clone_Value at h
 refine CH Tryz.func119 [.tmp 2] 0 fun β hβ => ?_
 refine sZ ?_
 apply sq
 refine sk fun K hK => ?_
 simp
 refine ⟨?_, fun hnil => ?_⟩
 ·apply hK
  refine cF ?_
  apply TrD.skip
  apply sq
  obtain ⟨x3, hx3, h⟩ := bindE h
  have hx3_r := (app_some hx3).2
  try simp only [List.length_nil, Nat.zero_add] at hx3_r
  obtain hhx3 := app_nil hx3
  subst hhx3
  refine rZ ?_ fun K hK => by simp [hx3_r]; exact hK
  cases h
  apply TrD.ret
  refine exitHG (σ' := ⟨(updD (fun _ => .any) 2 (.sl 3 0 (p0).length)), hOfO [some ⟨3, (List.map rGValue p0), 0, 0x001d⟩], 1, 8⟩) ?_ ?_
  ·exact gC [40]
  dsimp only [resD]
  exact eA
 replace h : some ([]) = some res := by simp only [hnil] at h; simpa [app] using h
 apply hK
 refine cT ?_
 refine sZ ?_
 cases h
 apply TrD.ret
 refine exitHG (σ' := ⟨(updD (fun _ => .any) 2 (.sl 3 0 0)), hOfO [some ⟨3, (List.map rGValue []), 0, 0x001d⟩], 1, 8⟩) ?_ ?_
 ·refine (Ghost.ownNil (s := 2) (by simp) 3 0x001d).trans ?_
  exact gC [32]
 dsimp only [resD]
 exact eA
end Go.Proofs.YtmkamncbkkahjaaGreat
