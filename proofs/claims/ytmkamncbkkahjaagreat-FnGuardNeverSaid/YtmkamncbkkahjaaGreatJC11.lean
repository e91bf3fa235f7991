import Derived.Test.YtmkamncbkkahjaaGreatJMir
import Derived.Test.YtmkamncbkkahjaaGreatJZap
import Derived.Test.YtmkamncbkkahjaaGreatJC9
import Derived.Test.YtmkamncbkkahjaaGreatJC7
import Derived.Test.YtmkamncbkkahjaaGreatJC5
import Derived.Test.YtmkamncbkkahjaaGreatJC10
import Derived.Test.YtmkamncbkkahjaaGreatJC8
set_option linter.unusedSimpArgs false
set_option linter.unusedVariables false
namespace Go.Proofs.YtmkamncbkkahjaaGreat
open Go Go.RowKit
set_option maxRecDepth 100000
set_option maxHeartbeats 20000000
theorem c_spec_ParseClauses (n : Nat) (p0 : (List GData)) (p1 : GType) (p2 : ByteArray) (res : (List GClause) × Bool) (h : m_spec_ParseClauses n p0 p1 p2 = some res) : CallsD Tryz.prog 0o00075 [(.slice 2 (List.map rGData p0)), (.agg (rGType p1)), (eS p2)] (fun d => d = .tup [(.slice 9 (List.map rGClause res.1)), (eB res.2)]) := by
 unfold m_spec_ParseClauses at h
 refine CD Tryz.func61 [.tmp 6, .tmp 7] fun β hβ => ?_
 refine sZ ?_
 refine sZ ?_
 apply sq
 apply sq
 obtain ⟨r4, hr4, h⟩ := bindE h
 refine rk fun K hK => ?_
 simp
 refine cp (c_spec_TypeValid n p0 p1 _ hr4) ?_
 simp
 apply hK
 refine TrD.cond (b := (!r4)) (by simp) (fun hb5 => ?_) (fun hb5 => ?_)
 ·rw [if_pos hb5] at h
  refine sZ ?_ fun K hK => by simp [hb5]; exact hK
  cases h
  apply TrD.ret
  refine exitDG (σ' := ⟨(updD (updD (fun _ => .any) 6 (.slice 9 (List.map rGClause []))) 7 (eB false)), hOfO [], 0, 98⟩) ?_ ?_
  ·refine (Ghost.raise 24 (by simp; rfl)).trans ?_
   exact gC [] (ht := ((va.u (d0 := (.sl 9 24 0)) (by simp) (v_frz (by simp; rfl) rfl (by simp) (by simp) (rv_free (by simp) (by simp)))).f))
  dsimp only [resD]
  exact eF
 rw [iN hb5] at h
 apply TrD.skip
 apply sq
 obtain ⟨r6, hr6, h⟩ := bindE h
 refine rk fun K hK => ?_
 simp [hb5]
 refine cp (c_spec_l17Cut n p2 47 _ hr6) ?_
 simp
 apply hK
 apply sq
 refine sZ ?_
 obtain ⟨ai, V, h⟩ := bindE h
 obtain ⟨R, A⟩ : ∃ S : (List GClause) → St, S = fun i => ⟨(updD (updD (updD (updD (fun _ => .any) 0 (.slice 2 (List.map rGData p0))) 2 (eS p2)) 4 (.ptr 2 0 0 0)) 8 (.sl 9 1 (i).length)), hOfO [some ⟨2, [(rGType p1)], 0, 0x0019⟩, some ⟨9, (List.map rGClause i), 0, 0x002d⟩], 2, 98⟩ := ⟨_, rfl⟩
 refine TrD.joinQ R (fun z => ai = Ctl.brk z) (fun _ _ hg h => TrD.ghost hg h) ?_ (fun i hz => ?_)
 ·apply TrD.block
  obtain ⟨T, B⟩ : ∃ S : Nat → (List GClause) → St, S = fun g c => ⟨(updD (updD (updD (updD (updD (updD (fun _ => .any) 0 (.slice 2 (List.map rGData p0))) 2 (eS p2)) 4 (.ptr 2 0 0 0)) 8 (.sl 9 1 (c).length)) 9 (.slice 1 (List.map rS r6))) 10 (eI (g : Int))), hOfO [some ⟨2, [(rGType p1)], 0, 0x0019⟩, some ⟨9, (List.map rGClause c), 0, 0x002d⟩], 2, 98⟩ := ⟨_, rfl⟩
  refine TrD.limS (sz := 1) (rows := List.map rS r6) (seen_slot (d := .slice 1 (List.map rS r6)) 22 (by simp)) (fun hlim => ?_)
  rw [List.length_map] at hlim
  refine TrD.forL T V hlim ?_ (fun g an c P ap aq Q p ar a F I => ?_) (fun c am => ?_)
  ·rw [B]
   exact gC [0, 24]
  ·rw [congrFun (congrFun B g) c]
   apply sq
   apply sq
   rcases bb (ile (g : Int) 8) with s | s
   ·rw [if_pos s] at a
    refine rZ ?_ fun K hK => by simp [Q, s]; exact hK
    refine TrD.cond (b := !seq2 p2 (ByteArray.mk #[])) (by simp) (fun l => ?_) (fun l => ?_)
    ·rw [if_pos l] at a
     apply TrD.skip
     apply sq
     apply TrD.block
     apply sq
     obtain ⟨D, ae, a⟩ := bindE a
     refine rk fun K hK => ?_
     simp [idx_inb P, idx_row P, l]
     refine cp (c_spec_l17Cut n an 32 _ ae) ?_
     simp
     apply hK
     apply sq
     refine TrD.ghost (σ' := ⟨(updD (updD (updD (updD (updD (updD (updD (fun _ => .any) 0 (.slice 2 (List.map rGData p0))) 2 (eS p2)) 4 (.ptr 2 0 0 0)) 8 (.sl 9 1 (c).length)) 9 (.slice 1 (List.map rS r6))) 10 (eI (g : Int))) 11 (.slice 1 (List.map rS D))), hOfO [some ⟨2, [(rGType p1)], 0, 0x0019⟩, some ⟨9, (List.map rGClause c), 0, 0x002d⟩], 2, 98⟩) ?_ ?_
     ·exact gC [0, 1]
     obtain ⟨G, o, a⟩ := bindE a
     obtain ⟨e, af, a⟩ := bindE a
     refine TrD.drawZ tysOk mixed [0, 1, 2, 3, 4, 5, 6, 7, 8, 9, 10, 11] [0] [1048588] [] [] (by rfl) rfl 2097152 (Nat.le_of_ble_eq_true rfl) (.inr ⟨Nat.le_of_ble_eq_true rfl, rfl⟩) (fun K hK => ?_)
     simp [idx_inb o, idx_row o]
     refine cp (c_spec_l3Parse n p0 p1 G 0 10 _ af) ?_
     simp
     apply hK
     apply sq
     apply sq
     rcases bb (!ieq e.2 (lenZ G.size)) with q | q
     ·rw [if_pos q] at a
      refine rZ ?_ fun K hK => by simp [idx_inb o, idx_row o, q]; exact hK
      refine cT ?_
      refine sZ ?_
      cases a
      obtain rfl := F _ rfl
      cases h
      apply TrD.ret
      refine exitDG (σ' := ⟨(updD (updD (fun _ => .any) 6 (.slice 9 (List.map rGClause []))) 7 (eB false)), hOfO [], 0, 98⟩) ?_ ?_
      ·refine (Ghost.raise 2097248 (by simp; rfl)).trans ?_
       exact gC [] (ht := ((va.u (d0 := (.sl 9 2097248 0)) (by simp) (v_frz (by simp; rfl) rfl (by simp) (by simp) (rv_free (by simp) (by simp)))).f))
      dsimp only [resD]
      exact eF
     rw [iN q] at a
     rcases bb (seq2 G (ByteArray.mk #[])) with t | t
     ·rw [if_pos t] at a
      refine rZ ?_ fun K hK => by simp [idx_inb o, idx_row o, q, t]; exact hK
      refine cT ?_
      refine sZ ?_
      cases a
      obtain rfl := F _ rfl
      cases h
      apply TrD.ret
      refine exitDG (σ' := ⟨(updD (updD (fun _ => .any) 6 (.slice 9 (List.map rGClause []))) 7 (eB false)), hOfO [], 0, 98⟩) ?_ ?_
      ·refine (Ghost.raise 2097280 (by simp; rfl)).trans ?_
       exact gC [] (ht := ((va.u (d0 := (.sl 9 2097280 0)) (by simp) (v_frz (by simp; rfl) rfl (by simp) (by simp) (rv_free (by simp) (by simp)))).f))
      dsimp only [resD]
      exact eF
     rw [iN t] at a
     refine rZ ?_ fun K hK => by simp [idx_inb o, idx_row o, q, t]; exact hK
     refine TrD.cond (b := ilt 2 (lenZ D.length)) (by simp) (fun u => ?_) (fun u => ?_)
     ·rw [if_pos u] at a
      refine sZ ?_ fun K hK => by simp [u]; exact hK
      cases a
      obtain rfl := F _ rfl
      cases h
      apply TrD.ret
      refine exitDG (σ' := ⟨(updD (updD (fun _ => .any) 6 (.slice 9 (List.map rGClause []))) 7 (eB false)), hOfO [], 0, 98⟩) ?_ ?_
      ·refine (Ghost.raise 2097304 (by simp; rfl)).trans ?_
       exact gC [] (ht := ((va.u (d0 := (.sl 9 2097304 0)) (by simp) (v_frz (by simp; rfl) rfl (by simp) (by simp) (rv_free (by simp) (by simp)))).f))
      dsimp only [resD]
      exact eF
     rw [iN u] at a
     apply TrD.skip
     refine sZ ?_ fun K hK => by simp [u]; exact hK
     obtain ⟨aj, j, a⟩ := bindE a
     obtain ⟨U, E⟩ : ∃ S : Int × Int × Int → St, S = fun y => ⟨(updD (updD (updD (updD (updD (updD (updD (fun _ => .any) 0 (.slice 2 (List.map rGData p0))) 2 (eS p2)) 4 (.ptr 2 0 0 0)) 8 (.sl 9 1 (c).length)) 9 (.slice 1 (List.map rS r6))) 10 (eI (g : Int))) 14 (.ptr 9 2 0 0)), hOfO [some ⟨2, [(rGType p1)], 0, 0x0019⟩, some ⟨9, (List.map rGClause c), 0, 0x002d⟩, some ⟨9, [[(eI e.1.op), (eI e.1.ctor), (eI e.1.n), (eI e.1.m), (eI e.1.var), (.slice 6 (List.map rGPattern e.1.kids)), (eI y.1), (eI y.2.1), (eI y.2.2)]], 0, 0x002d⟩], 3, 98⟩ := ⟨_, rfl⟩
     refine TrD.join U (fun z => aj = Ctl.brk z) ?_ (fun y hz => ?_)
     ·refine sZ ?_
      refine TrD.cond (b := ieq (lenZ D.length) 2) (by simp) (fun f => ?_) (fun f => ?_)
      ·rw [if_pos f] at j
       obtain ⟨ao, N, j⟩ := bindE j
       obtain ⟨r, ag, j⟩ := bindE j
       refine rk fun K hK => ?_
       simp [f, idx_inb N, idx_row N]
       refine cp (c_spec_l4ParseGuard ao _ ag) ?_
       simp
       apply hK
       cases j
       refine ToAny.mk (r.op, r.var, r.n) rfl ?_
       rw [E]
       exact gC [0, 1, 2097320]
      rw [iN f] at j
      apply TrD.skip
      cases j
      refine ToAny.mk (0, 0, 0) rfl ?_
      rw [E]
      exact gC [0, 1, 2097320]
     subst hz
     try dsimp only at a
     rw [congrFun E y]
     obtain ⟨H, C, a⟩ := bindE a
     have O := (app_some C).2
     try simp only [List.length_cons, List.length_nil, Nat.zero_add] at O
     refine rZ ?_ fun K hK => by simp [O]; exact hK
     refine rZ ?_
     cases a
     refine ToAny.mk H rfl ?_
     rw [B]
     exact gc [0, 27] hβ ((((((va.f (by simp [p])).f (by simp [p])).p 0 (by simp [p])).s 27 (by simp [(app_some C).1, p])).f (by simp [p])).f (by simp [p])) ((ln.f (by simp [(app_some C).1])).f)
    rw [iN l] at a
    refine TrD.exit ?_
    try simp only [↓reduceIte, Nat.reduceEqDiff, Nat.zero_ne_one, Nat.one_ne_zero, OfNat.ofNat_ne_zero, OfNat.zero_ne_ofNat, OfNat.one_ne_ofNat, OfNat.ofNat_ne_one]
    cases a
    obtain rfl := I _ rfl
    refine ToAny.mk c rfl ?_
    rw [A]
    exact gC [0, 1]
   rw [iN s] at a
   refine rZ ?_ fun K hK => by simp [Q, s]; exact hK
   refine cF ?_
   refine TrD.exit ?_
   try simp only [↓reduceIte, Nat.reduceEqDiff, Nat.zero_ne_one, Nat.one_ne_zero, OfNat.ofNat_ne_zero, OfNat.zero_ne_ofNat, OfNat.one_ne_ofNat, OfNat.ofNat_ne_one]
   cases a
   obtain rfl := I _ rfl
   refine ToAny.mk c rfl ?_
   rw [A]
   exact gC [0, 1]
  rw [congrFun (congrFun B _) c]
  apply sq
  refine sZ ?_ fun K hK => by simp [ilt_len r6.length]; exact hK
  refine cF ?_
  refine TrD.exit ?_
  try simp only [↓reduceIte, Nat.reduceEqDiff, Nat.zero_ne_one, Nat.one_ne_zero, OfNat.ofNat_ne_zero, OfNat.zero_ne_ofNat, OfNat.one_ne_ofNat, OfNat.ofNat_ne_one]
  refine ToAny.mk c am ?_
  rw [A]
  exact gC [0, 1]
 subst hz
 try dsimp only at h
 rw [congrFun A i]
 apply sq
 apply sq
 obtain ⟨ak, J, h⟩ := bindE h
 rcases bb (!ak) with v | v
 ·rw [if_pos v] at h
  refine rk fun K hK => ?_
  simp
  refine callB (.cons (.same _ _) (.cons (.same _ _) (.cons (.sl _ _ _ _ _ (by simp; rfl) rfl (by simp) (by simp)) (.nil _)))) (c_spec_ClausesValid n p0 p1 i _ J) (by simp) (by simp) (fun ax Z => ?_)
  subst Z
  refine ⟨by simp, ?_⟩
  simp [v]
  apply hK
  refine cT ?_
  refine sZ ?_
  cases h
  apply TrD.ret
  refine exitDG (σ' := ⟨(updD (updD (fun _ => .any) 6 (.slice 9 (List.map rGClause []))) 7 (eB false)), hOfO [], 0, 98⟩) ?_ ?_
  ·refine (Ghost.raise 58 (by simp; rfl)).trans ?_
   exact gC [] (ht := ((va.u (d0 := (.sl 9 58 0)) (by simp) (v_frz (by simp; rfl) rfl (by simp) (by simp) (rv_free (by simp) (by simp)))).f))
  dsimp only [resD]
  exact eF
 rw [iN v] at h
 obtain ⟨al, ah, h⟩ := bindE h
 refine rk fun K hK => ?_
 simp
 refine callB (.cons (.same _ _) (.cons (.same _ _) (.cons (.sl _ _ _ _ _ (by simp; rfl) rfl (by simp) (by simp)) (.nil _)))) (c_spec_ClausesValid n p0 p1 i _ J) (by simp) (by simp) (fun ay aa => ?_)
 subst aa
 refine ⟨by simp, ?_⟩
 simp [v]
 refine callB (.cons (.same _ _) (.cons (.same _ _) (.cons (.sl _ _ _ _ _ (by simp; rfl) rfl (by simp) (by simp)) (.nil _)))) (c_spec_l4Texts n p0 p1 i _ ah) (by simp) (by simp) (fun az ab => ?_)
 subst ab
 refine ⟨by simp, ?_⟩
 simp
 apply hK
 refine TrD.cond (b := !seq2 al p2) (by simp) (fun w => ?_) (fun w => ?_)
 ·rw [if_pos w] at h
  refine sZ ?_ fun K hK => by simp [w]; exact hK
  cases h
  apply TrD.ret
  refine exitDG (σ' := ⟨(updD (updD (fun _ => .any) 6 (.slice 9 (List.map rGClause []))) 7 (eB false)), hOfO [], 0, 98⟩) ?_ ?_
  ·refine (Ghost.raise 106 (by simp; rfl)).trans ?_
   exact gC [] (ht := ((va.u (d0 := (.sl 9 106 0)) (by simp) (v_frz (by simp; rfl) rfl (by simp) (by simp) (rv_free (by simp) (by simp)))).f))
  dsimp only [resD]
  exact eF
 rw [iN w] at h
 apply TrD.skip
 refine sZ ?_ fun K hK => by simp [w]; exact hK
 cases h
 apply TrD.ret
 refine exitDG (σ' := ⟨(updD (updD (fun _ => .any) 6 (.slice 9 (List.map rGClause i))) 7 (eB true)), hOfO [], 0, 98⟩) ?_ ?_
 ·refine (Ghost.raise 1 (by simp; rfl)).trans ?_
  exact gC [] (ht := ((va.u (d0 := (.sl 9 1 (i).length)) (by simp) (v_frz (by simp; rfl) rfl (by simp) (by simp) (rv_free (by simp) (by simp)))).f))
 dsimp only [resD]
 exact eF
theorem c_spec_l1Slot (p0 : GType) (res : Int) (h : m_spec_l1Slot p0 = some res) : CallsD Tryz.prog 0o00317 [(.agg (rGType p0))] (fun d => d = (eI res)) := by
 unfold m_spec_l1Slot at h
 refine CD Tryz.func207 [.tmp 2] fun β hβ => ?_
 refine sZ ?_
 refine sZ ?_
 cases h
 apply TrD.ret
 exact xD
theorem c_spec_l1Depth (p0 : (List Int)) (p1 : GType) (res : Int) (h : m_spec_l1Depth p0 p1 = some res) : CallsD Tryz.prog 0o00212 [(.slice 1 (List.map rI p0)), (.agg (rGType p1))] (fun d => d = (eI res)) := by
 unfold m_spec_l1Depth at h
 refine CD Tryz.func138 [.tmp 4] fun β hβ => ?_
 refine sZ ?_
 apply sq
 refine sZ ?_
 refine TrD.cond (b := ieq p1.data (-1)) (by simp) (fun hb2 => ?_) (fun hb2 => ?_)
 ·rw [if_pos hb2] at h
  refine sZ ?_ fun K hK => by simp [hb2]; exact hK
  cases h
  apply TrD.ret
  exact xD
 rw [iN hb2] at h
 apply TrD.skip
 apply sq
 obtain ⟨r3, hr3, h⟩ := bindE h
 obtain ⟨x4, hx4, h⟩ := bindE h
 refine rk fun K hK => ?_
 simp [hb2]
 refine cp (c_spec_l1Slot p1 _ hr3) ?_
 simp [idx_inb hx4, idx_row hx4]
 apply hK
 cases h
 apply TrD.ret
 exact xD
theorem c_spec_l1Most (p0 : (List GData)) (p1 : (List Int)) (p2 : GType) (p3 : Int) (res : Int) (h : m_spec_l1Most p0 p1 p2 p3 = some res) : CallsD Tryz.prog 0o00211 [(.slice 2 (List.map rGData p0)), (.slice 1 (List.map rI p1)), (.agg (rGType p2)), (eI p3)] (fun d => d = (eI res)) := by
 unfold m_spec_l1Most at h
 refine CD Tryz.func137 [.tmp 8] fun β hβ => ?_
 refine sZ ?_
 apply sq
 obtain ⟨r1, hr1, h⟩ := bindE h
 refine rk fun K hK => ?_
 simp
 refine cp (c_spec_l1Args p0 p2 p3 _ hr1) ?_
 simp
 apply hK
 refine sZ ?_
 apply sq
 refine sZ ?_
 obtain ⟨D, v, h⟩ := bindE h
 obtain ⟨s, q⟩ : ∃ S : Int → St, S = fun l => ⟨(updD (fun _ => .any) 10 (eI l)), hOfO [], 0, 37⟩ := ⟨_, rfl⟩
 refine TrD.joinQ s (fun z => D = Ctl.brk z) (fun _ _ hg h => TrD.ghost hg h) ?_ (fun l hz => ?_)
 ·apply TrD.block
  obtain ⟨t, n⟩ : ∃ S : Nat → Int → St, S = fun f a => ⟨(updD (updD (updD (updD (fun _ => .any) 1 (.slice 1 (List.map rI p1))) 9 (.slice 2 (List.map rGType r1))) 10 (eI a)) 11 (eI (f : Int))), hOfO [], 0, 37⟩ := ⟨_, rfl⟩
  refine TrD.limS (sz := 2) (rows := List.map rGType r1) (seen_slot (d := .slice 2 (List.map rGType r1)) 16 (by simp)) (fun hlim => ?_)
  rw [List.length_map] at hlim
  refine TrD.forL t v hlim ?_ (fun f G a r I J C j L g B H => ?_) (fun a F => ?_)
  ·rw [n]
   exact gC []
  ·rw [congrFun (congrFun n f) a]
   apply sq
   refine sZ ?_ fun K hK => by simp [C]; exact hK
   refine cT ?_
   apply TrD.skip
   obtain ⟨E, c, g⟩ := bindE g
   obtain ⟨u, p⟩ : ∃ S : Int → St, S = fun m => ⟨(updD (updD (updD (updD (fun _ => .any) 1 (.slice 1 (List.map rI p1))) 9 (.slice 2 (List.map rGType r1))) 10 (eI m)) 11 (eI (f : Int))), hOfO [], 0, 37⟩ := ⟨_, rfl⟩
   refine TrD.join u (fun z => E = Ctl.brk z) ?_ (fun m hz => ?_)
   ·apply TrD.block
    apply sq
    obtain ⟨o, A, c⟩ := bindE c
    refine rk fun K hK => ?_
    simp [idx_inb r, idx_row r]
    refine cp (c_spec_l1Depth p1 G _ A) ?_
    simp
    apply hK
    apply sq
    refine sZ ?_
    refine TrD.cond (b := ieq o 0) (by simp) (fun i => ?_) (fun i => ?_)
    ·rw [if_pos i] at c
     refine sZ ?_ fun K hK => by simp [i]; exact hK
     cases c
     cases g
     obtain rfl := B _ rfl
     cases h
     apply TrD.ret
     exact xD
    rw [iN i] at c
    apply TrD.skip
    refine sZ ?_ fun K hK => by simp [i]; exact hK
    refine TrD.cond (b := ilt a o) (by simp) (fun e => ?_) (fun e => ?_)
    ·rw [if_pos e] at c
     refine rZ ?_ fun K hK => by simp [e]; exact hK
     cases c
     refine ToAny.mk o rfl ?_
     rw [p]
     exact gC []
    rw [iN e] at c
    apply TrD.skip
    cases c
    refine ToAny.mk a rfl ?_
    rw [p]
    exact gC []
   subst hz
   try dsimp only at g
   rw [congrFun p m]
   refine rZ ?_
   cases g
   refine ToAny.mk m rfl ?_
   rw [n]
   exact gc [] hβ ((((va.f (by simp [j])).f (by simp [j])).f (by simp [j])).f (by simp [j])) ln
  rw [congrFun (congrFun n _) a]
  apply sq
  refine sZ ?_ fun K hK => by simp [ilt_len r1.length]; exact hK
  refine cF ?_
  refine TrD.exit ?_
  try simp only [↓reduceIte, Nat.reduceEqDiff, Nat.zero_ne_one, Nat.one_ne_zero, OfNat.ofNat_ne_zero, OfNat.zero_ne_ofNat, OfNat.one_ne_ofNat, OfNat.ofNat_ne_one]
  refine ToAny.mk a F ?_
  rw [q]
  exact gC []
 subst hz
 try dsimp only at h
 rw [congrFun q l]
 refine sZ ?_
 cases h
 apply TrD.ret
 exact xD
theorem c_spec_l2Draw : ∀ (n : Nat) (p0 : Gl17Rd) (p1 : (List GData)) (p2 : (List Int)) (p3 : GType) (p4 : Int) (res : GValue × Gl17Rd), m_spec_l2Draw n p0 p1 p2 p3 p4 = some res → CallsH Tryz.prog 0o00105 [⟨2, [(rGl17Rd p0)], 0, 0x00ba⟩] [.ptr 2 0 0 0, (.slice 2 (List.map rGData p1)), (.slice 1 (List.map rI p2)), (.agg (rGType p3)), (eI p4)] (fun H d => H = [some ⟨2, [(rGl17Rd res.2)], 0, 0x00ba⟩] ∧ d = (.agg (rGValue res.1))) := by
 intro n
 induction n with
 | zero => intro p0 p1 p2 p3 p4 res h; cases h
 | succ n ih =>
  intro p0 p1 p2 p3 p4 res h
  rw [m_spec_l2Draw.eq_2] at h
  refine CH Tryz.func69 [.cell 10 29] 1 fun β hβ => ?_
  refine sZ ?_
  apply sq
  refine sZ ?_
  refine TrD.cond (b := ieq p3.data (-1)) (by simp) (fun hb4 => ?_) (fun hb4 => ?_)
  ·rw [if_pos hb4] at h
   apply sq
   obtain ⟨r5, hr5, h⟩ := bindE h
   refine rk fun K hK => ?_
   simp [hb4]
   refine callK (views_same _ _) (.same _ _) [0] (c_spec_l17Rd_pick p0 10 _ hr5) (by decide) (.cons (locRen_eq (by simp) (by simp) (by simp)) .nil) (.cons (ren_ptr rfl) (.cons (ren_le (by simp) (by simp)) .nil)) (fun Hq6 qq6 hq6 => ?_)
   obtain ⟨rfl, rfl⟩ := hq6
   refine ⟨by simp, [some ⟨2, [(rGl17Rd r5.2)], 0, 0x00ba⟩], (eI r5.1), (.cons (optRen_same (by simp)) .nil), (ren_free (by simp)), ?_⟩
   simp [setMany, newNames]
   apply hK
   cases h
   apply TrD.ret
   refine exitHG (σ' := ⟨(updD (fun _ => .any) 10 (.ptr 3 1 0 0)), hOfO [some ⟨2, [(rGl17Rd r5.2)], 0, 0x00ba⟩, some ⟨3, [(rGValue (GValue.mk (-1) r5.1 []))], 0, 0x001d⟩], 2, 98⟩) ?_ ?_
   ·exact gC [0, 9]
   simp [resD]
   exact eX 1
  rw [iN hb4] at h
  apply TrD.skip
  apply sq
  obtain ⟨r7, hr7, h⟩ := bindE h
  refine rk fun K hK => ?_
  simp [hb4]
  refine cp (c_spec_l1Ctors p1 p3 _ hr7) ?_
  simp
  apply hK
  refine sZ ?_
  apply sq
  refine sZ ?_
  obtain ⟨ao, Z, h⟩ := bindE h
  obtain ⟨U, N⟩ : ∃ S : (List Int) → St, S = fun v => ⟨(updD (updD (updD (updD (updD (updD (updD (fun _ => .any) 0 (.ptr 2 0 0 0)) 1 (.slice 2 (List.map rGData p1))) 2 (.slice 1 (List.map rI p2))) 4 (eI p4)) 8 (.ptr 2 1 0 0)) 10 (.ptr 3 2 0 0)) 12 (.sl 1 3 (v).length)), hOfO [some ⟨2, [(rGl17Rd p0)], 0, 0x00ba⟩, some ⟨2, [(rGType p3)], 0, 0x0019⟩, some ⟨3, [[(eI 0), (eI 0), .nil]], 0, 0x001d⟩, some ⟨1, (List.map rI v), 0, 0x0003⟩], 4, 98⟩ := ⟨_, rfl⟩
  refine TrD.joinQ U (fun z => ao = Ctl.brk z) (fun _ _ hg h => TrD.ghost hg h) ?_ (fun v hz => ?_)
  ·apply TrD.block
   obtain ⟨W, x⟩ : ∃ S : Nat → (List Int) → St, S = fun g a => ⟨(updD (updD (updD (updD (updD (updD (updD (updD (updD (fun _ => .any) 0 (.ptr 2 0 0 0)) 1 (.slice 2 (List.map rGData p1))) 2 (.slice 1 (List.map rI p2))) 4 (eI p4)) 8 (.ptr 2 1 0 0)) 10 (.ptr 3 2 0 0)) 11 (.slice 1 (List.map rI r7))) 12 (.sl 1 3 (a).length)) 13 (eI (g : Int))), hOfO [some ⟨2, [(rGl17Rd p0)], 0, 0x00ba⟩, some ⟨2, [(rGType p3)], 0, 0x0019⟩, some ⟨3, [[(eI 0), (eI 0), .nil]], 0, 0x001d⟩, some ⟨1, (List.map rI a), 0, 0x0003⟩], 4, 98⟩ := ⟨_, rfl⟩
   refine TrD.limS (sz := 1) (rows := List.map rI r7) (seen_slot (d := .slice 1 (List.map rI r7)) 26 (by simp)) (fun hlim => ?_)
   rw [List.length_map] at hlim
   refine TrD.forL W Z hlim ?_ (fun g aw a q aE aF am k aI w aC aA => ?_) (fun a au => ?_)
   ·rw [x]
    exact gC [0, 1, 9, 73]
   ·rw [congrFun (congrFun x g) a]
    apply sq
    refine sZ ?_ fun K hK => by simp [am]; exact hK
    refine cT ?_
    apply TrD.skip
    obtain ⟨ap, c, w⟩ := bindE w
    obtain ⟨X, t⟩ : ∃ S : (List Int) → St, S = fun o => ⟨(updD (updD (updD (updD (updD (updD (updD (updD (updD (fun _ => .any) 0 (.ptr 2 0 0 0)) 1 (.slice 2 (List.map rGData p1))) 2 (.slice 1 (List.map rI p2))) 4 (eI p4)) 8 (.ptr 2 1 0 0)) 10 (.ptr 3 2 0 0)) 11 (.slice 1 (List.map rI r7))) 12 (.sl 1 3 (o).length)) 13 (eI (g : Int))), hOfO [some ⟨2, [(rGl17Rd p0)], 0, 0x00ba⟩, some ⟨2, [(rGType p3)], 0, 0x0019⟩, some ⟨3, [[(eI 0), (eI 0), .nil]], 0, 0x001d⟩, some ⟨1, (List.map rI o), 0, 0x0003⟩], 4, 98⟩ := ⟨_, rfl⟩
    refine TrD.join X (fun z => ap = Ctl.brk z) ?_ (fun o hz => ?_)
    ·apply TrD.block
     apply sq
     refine TrD.ghost (σ' := ⟨(updD (updD (updD (updD (updD (updD (updD (updD (updD (fun _ => .any) 0 (.ptr 2 0 0 0)) 1 (.slice 2 (List.map rGData p1))) 2 (.slice 1 (List.map rI p2))) 4 (eI p4)) 8 (.ptr 2 1 0 0)) 10 (.ptr 3 2 0 0)) 11 (.slice 1 (List.map rI r7))) 12 (.sl 1 3 (a).length)) 13 (eI (g : Int))), hOfO [some ⟨2, [(rGl17Rd p0)], 0, 0x00ba⟩, some ⟨2, [(rGType p3)], 0, 0x0019⟩, some ⟨3, [[(eI 0), (eI 0), .nil]], 0, 0x001d⟩, some ⟨1, (List.map rI a), 0, 0x0003⟩], 4, 98⟩) ?_ ?_
     ·exact gC [0, 1, 2, 3]
     obtain ⟨F, ah, c⟩ := bindE c
     refine TrD.draw tysOk mixed [0, 1, 2, 3, 4, 5, 6, 7, 8] [1] [] (by rfl) rfl (fun K hK => ?_)
     simp [idx_inb q, idx_row q]
     refine cp (c_spec_l1Most p1 p2 p3 aw _ ah) ?_
     simp
     apply hK
     apply sq
     rcases bb (ilt 0 F) with p | p
     ·rw [if_pos p] at c
      rcases bb (ile F p4) with u | u
      ·rw [if_pos u] at c
       refine rZ ?_ fun K hK => by simp [p, u]; exact hK
       refine cT ?_
       obtain ⟨I, A, c⟩ := bindE c
       have P := (app_some A).2
       try simp only [List.length_cons, List.length_nil, Nat.zero_add] at P
       refine rZ ?_ fun K hK => by simp [idx_inb q, idx_row q, P]; exact hK
       cases c
       refine ToAny.mk I rfl ?_
       rw [t]
       exact gc [0, 1, 2, 132] hβ (((((((((va.p 0).f).f).f).p 1).p 2).f).s 132 (by simp [(app_some A).1])).f) ((((ln.f (by simp [(app_some A).1])).c (lv (L := ⟨3, [[(eI 0), (eI 0), .nil]], 0, 0x001d⟩) (by simp) rfl rfl (by simp) (rv_cons (.cons (v_free (by simp) (by simp)) (.cons (v_free (by simp) (by simp)) (.cons (v_free (by simp) (by simp)) .nil))) rv_nil))).f).f)
      rw [iN u] at c
      obtain ⟨ar, ai, c⟩ := bindE c
      refine rk fun K hK => ?_
      simp [p, u]
      refine cp (c_spec_l1Depth p2 p3 _ ai) ?_
      simp
      apply hK
      refine TrD.cond (b := ieq F ar) (by simp) (fun f => ?_) (fun f => ?_)
      ·rw [if_pos f] at c
       obtain ⟨J, B, c⟩ := bindE c
       have Q := (app_some B).2
       try simp only [List.length_cons, List.length_nil, Nat.zero_add] at Q
       refine rZ ?_ fun K hK => by simp [idx_inb q, idx_row q, f, Q]; exact hK
       cases c
       refine ToAny.mk J rfl ?_
       rw [t]
       exact gc [0, 1, 2, 172] hβ (((((((((va.p 0).f).f).f).p 1).p 2).f).s 172 (by simp [(app_some B).1])).f) ((((ln.f (by simp [(app_some B).1])).c (lv (L := ⟨3, [[(eI 0), (eI 0), .nil]], 0, 0x001d⟩) (by simp) rfl rfl (by simp) (rv_cons (.cons (v_free (by simp) (by simp)) (.cons (v_free (by simp) (by simp)) (.cons (v_free (by simp) (by simp)) .nil))) rv_nil))).f).f)
      rw [iN f] at c
      apply TrD.skip
      cases c
      refine ToAny.mk a rfl ?_
      rw [t]
      exact gC [0, 1, 2, 3]
     rw [iN p] at c
     refine rZ ?_ fun K hK => by simp [p]; exact hK
     refine cF ?_
     apply TrD.skip
     cases c
     refine ToAny.mk a rfl ?_
     rw [t]
     exact gC [0, 1, 2, 3]
    subst hz
    try dsimp only at w
    rw [congrFun t o]
    refine rZ ?_
    cases w
    refine ToAny.mk o rfl ?_
    rw [x]
    exact gc [0, 1, 2, 3] hβ (((((((((va.p 0 (by simp [k])).f (by simp [k])).f (by simp [k])).f (by simp [k])).p 1 (by simp [k])).p 2 (by simp [k])).f (by simp [k])).s 3 (by simp [k])).f (by simp [k])) (((ln.f.c (lv (L := ⟨3, [[(eI 0), (eI 0), .nil]], 0, 0x001d⟩) (by simp) rfl rfl (by simp) (rv_cons (.cons (v_free (by simp) (by simp)) (.cons (v_free (by simp) (by simp)) (.cons (v_free (by simp) (by simp)) .nil))) rv_nil))).f).f)
   rw [congrFun (congrFun x _) a]
   apply sq
   refine sZ ?_ fun K hK => by simp [ilt_len r7.length]; exact hK
   refine cF ?_
   refine TrD.exit ?_
   try simp only [↓reduceIte, Nat.reduceEqDiff, Nat.zero_ne_one, Nat.one_ne_zero, OfNat.ofNat_ne_zero, OfNat.zero_ne_ofNat, OfNat.one_ne_ofNat, OfNat.ofNat_ne_one]
   refine ToAny.mk a au ?_
   rw [N]
   exact gC [0, 1, 2, 3]
  subst hz
  try dsimp only at h
  rw [congrFun N v]
  apply sq
  obtain ⟨G, aj, h⟩ := bindE h
  obtain ⟨j, E, h⟩ := bindE h
  refine rk fun K hK => ?_
  simp
  refine callK (views_same _ _) (.same _ _) [0] (c_spec_l17Rd_pick p0 (lenZ v.length) _ aj) (by decide) (.cons (locRen_eq (by simp) (by simp) (by simp)) .nil) (.cons (ren_ptr rfl) (.cons (ren_le (by simp) (by simp)) .nil)) (fun az aP af => ?_)
  obtain ⟨rfl, rfl⟩ := af
  refine ⟨by simp, [some ⟨2, [(rGl17Rd G.2)], 0, 0x00ba⟩], (eI G.1), (.cons (optRen_same (by simp)) .nil), (ren_free (by simp)), ?_⟩
  simp [setMany, newNames, idx_inb E, idx_lt E, elt (idx_get E)]
  apply hK
  apply sq
  obtain ⟨m, ak, h⟩ := bindE h
  refine rk fun K hK => ?_
  simp
  refine cp (c_spec_l1Args p1 p3 j _ ak) ?_
  simp
  apply hK
  apply sq
  refine sZ ?_
  obtain ⟨aq, aa, h⟩ := bindE h
  obtain ⟨V, O⟩ : ∃ S : (Gl17Rd × (List GValue)) → St, S = fun i => ⟨(updD (updD (fun _ => .any) 10 (.ptr 3 1 0 0)) 15 (.ptr 3 2 0 0)), hOfO [some ⟨2, [(rGl17Rd i.1)], 0, 0x00ba⟩, some ⟨3, [[(eI 0), (eI 0), .nil]], 0, 0x001d⟩, some ⟨3, [[(eI j), (eI 0), (.sl 3 3 (i.2).length)]], 0, 0x001d⟩, some ⟨3, (List.map rGValue i.2), 0, 0x001d⟩], 4, 98⟩ := ⟨_, rfl⟩
  refine TrD.joinQ V (fun z => aq = Ctl.brk z) (fun _ _ hg h => TrD.ghost hg h) ?_ (fun i hz => ?_)
  ·apply TrD.block
   obtain ⟨Y, y⟩ : ∃ S : Nat → (Gl17Rd × (List GValue)) → St, S = fun r e => ⟨(updD (updD (updD (updD (updD (updD (updD (updD (fun _ => .any) 0 (.ptr 2 0 0 0)) 1 (.slice 2 (List.map rGData p1))) 2 (.slice 1 (List.map rI p2))) 4 (eI p4)) 10 (.ptr 3 1 0 0)) 15 (.ptr 3 2 0 0)) 16 (.slice 2 (List.map rGType m))) 17 (eI (r : Int))), hOfO [some ⟨2, [(rGl17Rd e.1)], 0, 0x00ba⟩, some ⟨3, [[(eI 0), (eI 0), .nil]], 0, 0x001d⟩, some ⟨3, [[(eI j), (eI 0), (.sl 3 3 (e.2).length)]], 0, 0x001d⟩, some ⟨3, (List.map rGValue e.2), 0, 0x001d⟩], 4, 98⟩ := ⟨_, rfl⟩
   refine TrD.limS (sz := 2) (rows := List.map rGType m) (seen_slot (d := .slice 2 (List.map rGType m)) 75 (by simp)) (fun hlim => ?_)
   rw [List.length_map] at hlim
   refine TrD.forL Y aa hlim ?_ (fun r ax e T aG aH an l aJ s aD aB => ?_) (fun e av => ?_)
   ·rw [y]
    refine (Ghost.ownNilCell 68 2 3 0x001d (by simp; rfl) rfl (by simp) (by simp)).trans ?_
    exact gC [0, 2, 68, 140]
   ·rw [congrFun (congrFun y r) e]
    apply sq
    refine sZ ?_ fun K hK => by simp [an]; exact hK
    refine cT ?_
    apply TrD.skip
    apply sq
    apply TrD.block
    refine TrD.ghost (σ' := ⟨(updD (updD (updD (updD (updD (updD (updD (updD (fun _ => .any) 0 (.ptr 2 0 0 0)) 1 (.slice 2 (List.map rGData p1))) 2 (.slice 1 (List.map rI p2))) 4 (eI p4)) 10 (.ptr 3 1 0 0)) 15 (.ptr 3 2 0 0)) 16 (.slice 2 (List.map rGType m))) 17 (eI (r : Int))), hOfO [some ⟨2, [(rGl17Rd e.1)], 0, 0x00ba⟩, some ⟨3, [[(eI 0), (eI 0), .nil]], 0, 0x001d⟩, some ⟨3, [[(eI j), (eI 0), (.sl 3 3 (e.2).length)]], 0, 0x001d⟩, some ⟨3, (List.map rGValue e.2), 0, 0x001d⟩], 4, 98⟩) ?_ ?_
    ·exact gC [0, 1, 2, 3]
    obtain ⟨D, al, s⟩ := bindE s
    obtain ⟨M, C, s⟩ := bindE s
    have R := (app_some C).2
    try simp only [List.length_cons, List.length_nil, Nat.zero_add] at R
    refine TrD.draw tysOk mixed [0, 1, 2, 3, 4, 5, 6, 7, 8, 9, 10, 11, 12, 13, 14, 15] [2] [96] (by rfl) rfl (fun K hK => ?_)
    simp [idx_inb T, idx_row T]
    refine callK (views_same _ _) (.same _ _) [0] (ih e.1 p1 p2 ax (wsub .i64 p4 1) _ al) (by decide) (.cons (locRen_eq (by simp) (by simp) (by simp)) .nil) (.cons (ren_ptr rfl) (.cons (ren_le (by simp) (by simp)) (.cons (ren_le (by simp) (by simp)) (.cons (ren_le (by simp) (by simp)) (.cons (ren_le (by simp) (by simp)) .nil))))) (fun ay aO ad => ?_)
    obtain ⟨rfl, rfl⟩ := ad
    refine ⟨by simp, [some ⟨2, [(rGl17Rd D.2)], 0, 0x00ba⟩], (.agg (rGValue D.1)), (.cons (optRen_same (by simp)) .nil), (ren_free (by simp)), ?_⟩
    simp [setMany, newNames, R]
    apply hK
    refine rZ ?_
    cases s
    refine ToAny.mk (D.2, M) rfl ?_
    rw [y]
    exact Ghost.canonV 1 [0, 1, 2, 20] _ _ hβ (keep_first (by decide)) (by decide) (vT_upd (v_of (d0 := (eI (wadd .i64 (r : Int) 1))) (by simp [l]) (v_free (by simp) (by simp [l]))) (vT_upd (v_of (d0 := (.slice 2 (List.map rGType m))) (by simp [l]) (v_free (by simp) (by simp))) (vT_upd (v_of (d0 := (.ptr 3 2 0 0)) (by simp [l]) (v_ptr rfl)) (vT_upd (v_of (d0 := (.ptr 3 1 0 0)) (by simp [l]) (v_ptr rfl)) (vT_upd (v_of (d0 := (eI p4)) (by simp [l]) (v_free (by simp) (by simp))) (vT_upd (v_of (d0 := (.slice 1 (List.map rI p2))) (by simp [l]) (v_free (by simp) (by simp))) (vT_upd (v_of (d0 := (.slice 2 (List.map rGData p1))) (by simp [l]) (v_free (by simp) (by simp))) (vT_upd (v_of (d0 := (.ptr 2 0 0 0)) (by simp [l]) (v_ptr rfl)) (vT_any _))))))))) (.cons (lv (L := ⟨2, [(rGl17Rd D.2)], 0, 0x00ba⟩) (by simp) rfl rfl (by simp) (rv_free (by simp) (by simp))) (.cons (lv (L := ⟨3, [[(eI 0), (eI 0), .nil]], 0, 0x001d⟩) (by simp) rfl rfl (by simp) (rv_cons (.cons (v_free (by simp) (by simp)) (.cons (v_free (by simp) (by simp)) (.cons (v_free (by simp) (by simp)) .nil))) rv_nil)) (.cons (lv (L := ⟨3, [[(eI j), (eI 0), (.sl 3 20 (M).length)]], 0, 0x001d⟩) (by simp [(app_some C).1]) rfl rfl (by simp) (rv_cons (.cons (v_free (by simp) (by simp)) (.cons (v_free (by simp) (by simp)) (.cons (v_sl rfl) .nil))) rv_nil)) (.cons (lv (L := ⟨3, (List.map rGValue M), 0, 0x001d⟩) (by simp [(app_some C).1]) rfl rfl (by simp) (rv_free (by simp [(app_some C).1]) (free_rows_of fr_GValue _))) .nil))))
   rw [congrFun (congrFun y _) e]
   apply sq
   refine sZ ?_ fun K hK => by simp [ilt_len m.length]; exact hK
   refine cF ?_
   refine TrD.exit ?_
   try simp only [↓reduceIte, Nat.reduceEqDiff, Nat.zero_ne_one, Nat.one_ne_zero, OfNat.ofNat_ne_zero, OfNat.zero_ne_ofNat, OfNat.one_ne_ofNat, OfNat.ofNat_ne_one]
   refine ToAny.mk e av ?_
   rw [O]
   exact gC [0, 1, 2, 3]
  subst hz
  try dsimp only at h
  rw [congrFun O i]
  refine sZ ?_
  cases h
  apply TrD.ret
  refine exitHG (σ' := ⟨(updD (fun _ => .any) 10 (.ptr 3 1 0 0)), hOfO [some ⟨2, [(rGl17Rd i.1)], 0, 0x00ba⟩, some ⟨3, [(rGValue (GValue.mk j 0 i.2))], 0, 0x001d⟩], 2, 98⟩) ?_ ?_
  ·refine (Ghost.raise 3 (by simp; rfl)).trans ?_
   exact Ghost.canonV 1 [0, 1] _ _ hβ (keep_first (by decide)) (by decide) (vT_upd (v_of (d0 := (.ptr 3 1 0 0)) (by simp) (v_ptr rfl)) (vT_any _)) (.cons (lv (L := ⟨2, [(rGl17Rd i.1)], 0, 0x00ba⟩) (by simp) rfl rfl (by simp) (rv_free (by simp) (by simp))) (.cons (lv (L := ⟨3, [[(eI j), (eI 0), (.sl 3 3 (i.2).length)]], 0, 0x001d⟩) (by simp) rfl rfl (by simp) (rv_consr (rGValue_eq _) (.cons (v_free (by simp) (by simp)) (.cons (v_free (by simp) (by simp)) (.cons (v_frz (by simp; rfl) rfl (by simp) (by simp) (rv_free (by simp) (by simp))) .nil))) rv_nil)) .nil))
  simp [resD]
  exact eX 1
end Go.Proofs.YtmkamncbkkahjaaGreat
