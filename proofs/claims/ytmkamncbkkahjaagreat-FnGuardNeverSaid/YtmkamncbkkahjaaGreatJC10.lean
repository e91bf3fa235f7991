import Derived.Test.YtmkamncbkkahjaaGreatJMir
import Derived.Test.YtmkamncbkkahjaaGreatJZap
import Derived.Test.YtmkamncbkkahjaaGreatJC9
import Derived.Test.YtmkamncbkkahjaaGreatJC7
import Derived.Test.YtmkamncbkkahjaaGreatJC6
set_option linter.unusedSimpArgs false
set_option linter.unusedVariables false
namespace Go.Proofs.YtmkamncbkkahjaaGreat
open Go Go.RowKit
set_option maxRecDepth 100000
set_option maxHeartbeats 20000000
theorem c_spec_l3Parse_and_spec_l3Kid : ∀ (n : Nat), (∀ (p0 : (List GData)) (p1 : GType) (p2 : ByteArray) (p3 : Int) (p4 : Int) (res : GPattern × Int), m_spec_l3Parse n p0 p1 p2 p3 p4 = some res → CallsD Tryz.prog 0o00175 [(.slice 2 (List.map rGData p0)), (.agg (rGType p1)), (eS p2), (eI p3), (eI p4)] (fun d => d = .tup [(.agg (rGPattern res.1)), (eI res.2)])) ∧ (∀ (p0 : (List GData)) (p1 : (List GType)) (p2 : (List Int)) (p3 : ByteArray) (p4 : Int) (p5 : Int) (res : (List GPattern) × Int), m_spec_l3Kid n p0 p1 p2 p3 p4 p5 = some res → CallsD Tryz.prog 0o00301 [(.slice 2 (List.map rGData p0)), (.slice 2 (List.map rGType p1)), (.slice 1 (List.map (rK .u8) p2)), (eS p3), (eI p4), (eI p5)] (fun d => d = .tup [(.slice 6 (List.map rGPattern res.1)), (eI res.2)])) := by
 intro n
 induction n with
 | zero => exact ⟨(by intro p0 p1 p2 p3 p4 res h; cases h), (by intro p0 p1 p2 p3 p4 p5 res h; cases h)⟩
 | succ n ih =>
  have ih_spec_l3Parse := ih.1
  have ih_spec_l3Kid := ih.2
  refine ⟨?_, ?_⟩
  ·intro p0 p1 p2 p3 p4 res h
   rw [m_spec_l3Parse.eq_2] at h
   refine CD Tryz.func125 [.cell 10 41, .tmp 11] fun β hβ => ?_
   refine sZ ?_
   apply sq
   apply sq
   rcases bb (ilt p4 1) with s | s
   ·rw [if_pos s] at h
    refine rZ ?_ fun K hK => by simp [s]; exact hK
    refine cT ?_
    refine sZ ?_
    cases h
    apply TrD.ret
    refine exitDG (σ' := ⟨(updD (updD (fun _ => .any) 10 (.ptr 6 0 0 0)) 11 (eI (-1))), hOfO [some ⟨6, [(rGPattern (GPattern.mk 0 0 0 0 0 []))], 0, 0x0029⟩], 1, 172⟩) ?_ ?_
    ·exact gC [8]
    simp [resD]
    exact eF
   rw [iN s] at h
   rcases bb (ilt p3 0) with w | w
   ·rw [if_pos w] at h
    refine rZ ?_ fun K hK => by simp [s, w]; exact hK
    refine cT ?_
    refine sZ ?_
    cases h
    apply TrD.ret
    refine exitDG (σ' := ⟨(updD (updD (fun _ => .any) 10 (.ptr 6 0 0 0)) 11 (eI (-1))), hOfO [some ⟨6, [(rGPattern (GPattern.mk 0 0 0 0 0 []))], 0, 0x0029⟩], 1, 172⟩) ?_ ?_
    ·exact gC [8]
    simp [resD]
    exact eF
   rw [iN w] at h
   refine rZ ?_ fun K hK => by simp [s, w]; exact hK
   refine TrD.cond (b := ile (lenZ p2.size) p3) (by simp) (fun y => ?_) (fun y => ?_)
   ·rw [if_pos y] at h
    refine sZ ?_ fun K hK => by simp [y]; exact hK
    cases h
    apply TrD.ret
    refine exitDG (σ' := ⟨(updD (updD (fun _ => .any) 10 (.ptr 6 0 0 0)) 11 (eI (-1))), hOfO [some ⟨6, [(rGPattern (GPattern.mk 0 0 0 0 0 []))], 0, 0x0029⟩], 1, 172⟩) ?_ ?_
    ·exact gC [8]
    simp [resD]
    exact eF
   rw [iN y] at h
   apply TrD.skip
   apply sq
   obtain ⟨c, Y, h⟩ := bindE h
   refine rZ ?_ fun K hK => by simp [y, ← (sidx_some Y).1, (sidx_some Y).2]; exact hK
   obtain ⟨aU, a, h⟩ := bindE h
   obtain ⟨ah, v⟩ : ∃ S : Unit → St, S = fun af => ⟨(updD (updD (updD (updD (updD (updD (fun _ => .any) 0 (.slice 2 (List.map rGData p0))) 2 (eS p2)) 3 (eI p3)) 4 (eI p4)) 6 (.ptr 2 0 0 0)) 10 (.ptr 6 1 0 0)), hOfO [some ⟨2, [(rGType p1)], 0, 0x0019⟩, some ⟨6, [[(eI 0), (eI 0), (eI 0), (eI 0), (eI 0), .nil]], 0, 0x0029⟩], 2, 172⟩ := ⟨_, rfl⟩
   refine TrD.join ah (fun z => aU = Ctl.brk z) ?_ (fun af hz => ?_)
   ·apply TrD.block
    refine sZ ?_
    refine TrD.cond (b := ieq c 95) (by simp) (fun t => ?_) (fun t => ?_)
    ·rw [if_pos t] at a
     refine sZ ?_ fun K hK => by simp [t]; exact hK
     cases a
     cases h
     apply TrD.ret
     refine exitDG (σ' := ⟨(updD (updD (fun _ => .any) 10 (.ptr 6 0 0 0)) 11 (eI (wadd .i64 p3 1))), hOfO [some ⟨6, [(rGPattern (GPattern.mk 1 0 0 0 0 []))], 0, 0x0029⟩], 1, 172⟩) ?_ ?_
     ·exact gC [8]
     simp [resD]
     exact eF
    rw [iN t] at a
    apply sq
    rcases bb (ile 48 c) with B | B
    ·rw [if_pos B] at a
     refine rZ ?_ fun K hK => by simp [t, B]; exact hK
     refine TrD.cond (b := ile c 57) (by simp) (fun C => ?_) (fun C => ?_)
     ·rw [if_pos C] at a
      apply sq
      obtain ⟨T, aE, a⟩ := bindE a
      refine rk fun K hK => ?_
      simp [C]
      refine cp (c_spec_l3Int p2 p3 _ aE) ?_
      simp
      apply hK
      cases a
      cases h
      apply TrD.ret
      exact xD
     rw [iN C] at a
     refine sZ ?_ fun K hK => by simp [C]; exact hK
     refine TrD.cond (b := ieq c 40) (by simp) (fun o => ?_) (fun o => ?_)
     ·rw [if_pos o] at a
      apply sq
      obtain ⟨N, aF, a⟩ := bindE a
      refine rk fun K hK => ?_
      simp [o]
      refine callV (.cons (.same _ _) (.cons (.sl _ _ _ _ _ (by simp; rfl) rfl (by simp) (by simp)) (.cons (.sl _ _ _ _ _ (by simp; rfl) rfl (by simp) (by simp)) (.cons (.same _ _) (.cons (.same _ _) (.cons (.same _ _) (.nil _))))))) (ih_spec_l3Kid p0 [p1, p1] [40, 124] p2 p3 (wsub .i64 p4 1) _ aF) (by simp) (by simp) (fun bd ao => ?_)
      subst ao
      simp
      apply hK
      apply sq
      apply sq
      obtain ⟨aX, aG, a⟩ := bindE a
      refine rk fun K hK => ?_
      simp
      refine cp (c_spec_l2Sign p2 N.2 41 _ aG) ?_
      simp
      apply hK
      refine TrD.cond (b := (!aX)) (by simp) (fun D => ?_) (fun D => ?_)
      ·rw [if_pos D] at a
       refine sZ ?_ fun K hK => by simp [D]; exact hK
       cases a
       cases h
       apply TrD.ret
       refine exitDG (σ' := ⟨(updD (updD (fun _ => .any) 10 (.ptr 6 0 0 0)) 11 (eI (-1))), hOfO [some ⟨6, [(rGPattern (GPattern.mk 0 0 0 0 0 []))], 0, 0x0029⟩], 1, 172⟩) ?_ ?_
       ·exact gC [8]
       simp [resD]
       exact eF
      rw [iN D] at a
      apply TrD.skip
      refine sZ ?_ fun K hK => by simp [D]; exact hK
      cases a
      cases h
      apply TrD.ret
      exact xD
     rw [iN o] at a
     apply sq
     rcases bb (ile 97 c) with g | g
     ·rw [if_pos g] at a
      rcases bb (ile c 122) with p | p
      ·rw [if_pos p] at a
       obtain ⟨aY, aH, a⟩ := bindE a
       refine rk fun K hK => ?_
       simp [o, g, p]
       refine cp (c_spec_l2Sign p2 (wadd .i64 p3 1) 64 _ aH) ?_
       simp
       apply hK
       refine TrD.cond (b := aY) (by simp) (fun E => ?_) (fun E => ?_)
       ·rw [if_pos E] at a
        apply sq
        obtain ⟨U, aI, a⟩ := bindE a
        refine rk fun K hK => ?_
        simp [E]
        refine callV (.cons (.same _ _) (.cons (.sl _ _ _ _ _ (by simp; rfl) rfl (by simp) (by simp)) (.cons (.sl _ _ _ _ _ (by simp; rfl) rfl (by simp) (by simp)) (.cons (.same _ _) (.cons (.same _ _) (.cons (.same _ _) (.nil _))))))) (ih_spec_l3Kid p0 [p1] [64] p2 (wadd .i64 p3 1) (wsub .i64 p4 1) _ aI) (by simp) (by simp) (fun be ap => ?_)
        subst ap
        simp
        apply hK
        refine sZ ?_
        cases a
        cases h
        apply TrD.ret
        exact xD
       rw [iN E] at a
       refine sZ ?_ fun K hK => by simp [g, p, E]; exact hK
       refine cT ?_
       refine sZ ?_
       cases a
       cases h
       apply TrD.ret
       refine exitDG (σ' := ⟨(updD (updD (fun _ => .any) 10 (.ptr 6 0 0 0)) 11 (eI (wadd .i64 p3 1))), hOfO [some ⟨6, [(rGPattern (GPattern.mk 2 0 0 0 (wcv .i64 (wsub .u8 c 97)) []))], 0, 0x0029⟩], 1, 172⟩) ?_ ?_
       ·exact gC [8]
       simp [resD]
       exact eF
      rw [iN p] at a
      refine rZ ?_ fun K hK => by simp [o, g, p]; exact hK
      refine cF ?_
      refine sZ ?_ fun K hK => by simp [g, p]; exact hK
      refine cF ?_
      apply TrD.skip
      cases a
      refine ToAny.mk () rfl ?_
      rw [v]
      exact gC [0, 8]
     rw [iN g] at a
     refine rZ ?_ fun K hK => by simp [o, g]; exact hK
     refine cF ?_
     refine sZ ?_ fun K hK => by simp [g]; exact hK
     refine cF ?_
     apply TrD.skip
     cases a
     refine ToAny.mk () rfl ?_
     rw [v]
     exact gC [0, 8]
    rw [iN B] at a
    refine rZ ?_ fun K hK => by simp [t, B]; exact hK
    refine cF ?_
    refine sZ ?_
    refine TrD.cond (b := ieq c 40) (by simp) (fun q => ?_) (fun q => ?_)
    ·rw [if_pos q] at a
     apply sq
     obtain ⟨O, aJ, a⟩ := bindE a
     refine rk fun K hK => ?_
     simp [q]
     refine callV (.cons (.same _ _) (.cons (.sl _ _ _ _ _ (by simp; rfl) rfl (by simp) (by simp)) (.cons (.sl _ _ _ _ _ (by simp; rfl) rfl (by simp) (by simp)) (.cons (.same _ _) (.cons (.same _ _) (.cons (.same _ _) (.nil _))))))) (ih_spec_l3Kid p0 [p1, p1] [40, 124] p2 p3 (wsub .i64 p4 1) _ aJ) (by simp) (by simp) (fun bh au => ?_)
     subst au
     simp
     apply hK
     apply sq
     apply sq
     obtain ⟨aZ, aK, a⟩ := bindE a
     refine rk fun K hK => ?_
     simp
     refine cp (c_spec_l2Sign p2 O.2 41 _ aK) ?_
     simp
     apply hK
     refine TrD.cond (b := (!aZ)) (by simp) (fun F => ?_) (fun F => ?_)
     ·rw [if_pos F] at a
      refine sZ ?_ fun K hK => by simp [F]; exact hK
      cases a
      cases h
      apply TrD.ret
      refine exitDG (σ' := ⟨(updD (updD (fun _ => .any) 10 (.ptr 6 0 0 0)) 11 (eI (-1))), hOfO [some ⟨6, [(rGPattern (GPattern.mk 0 0 0 0 0 []))], 0, 0x0029⟩], 1, 172⟩) ?_ ?_
      ·exact gC [8]
      simp [resD]
      exact eF
     rw [iN F] at a
     apply TrD.skip
     refine sZ ?_ fun K hK => by simp [F]; exact hK
     cases a
     cases h
     apply TrD.ret
     exact xD
    rw [iN q] at a
    apply sq
    rcases bb (ile 97 c) with i | i
    ·rw [if_pos i] at a
     rcases bb (ile c 122) with r | r
     ·rw [if_pos r] at a
      obtain ⟨a0, aL, a⟩ := bindE a
      refine rk fun K hK => ?_
      simp [q, i, r]
      refine cp (c_spec_l2Sign p2 (wadd .i64 p3 1) 64 _ aL) ?_
      simp
      apply hK
      refine TrD.cond (b := a0) (by simp) (fun G => ?_) (fun G => ?_)
      ·rw [if_pos G] at a
       apply sq
       obtain ⟨V, aM, a⟩ := bindE a
       refine rk fun K hK => ?_
       simp [G]
       refine callV (.cons (.same _ _) (.cons (.sl _ _ _ _ _ (by simp; rfl) rfl (by simp) (by simp)) (.cons (.sl _ _ _ _ _ (by simp; rfl) rfl (by simp) (by simp)) (.cons (.same _ _) (.cons (.same _ _) (.cons (.same _ _) (.nil _))))))) (ih_spec_l3Kid p0 [p1] [64] p2 (wadd .i64 p3 1) (wsub .i64 p4 1) _ aM) (by simp) (by simp) (fun bi av => ?_)
       subst av
       simp
       apply hK
       refine sZ ?_
       cases a
       cases h
       apply TrD.ret
       exact xD
      rw [iN G] at a
      refine sZ ?_ fun K hK => by simp [i, r, G]; exact hK
      refine cT ?_
      refine sZ ?_
      cases a
      cases h
      apply TrD.ret
      refine exitDG (σ' := ⟨(updD (updD (fun _ => .any) 10 (.ptr 6 0 0 0)) 11 (eI (wadd .i64 p3 1))), hOfO [some ⟨6, [(rGPattern (GPattern.mk 2 0 0 0 (wcv .i64 (wsub .u8 c 97)) []))], 0, 0x0029⟩], 1, 172⟩) ?_ ?_
      ·exact gC [8]
      simp [resD]
      exact eF
     rw [iN r] at a
     refine rZ ?_ fun K hK => by simp [q, i, r]; exact hK
     refine cF ?_
     refine sZ ?_ fun K hK => by simp [i, r]; exact hK
     refine cF ?_
     apply TrD.skip
     cases a
     refine ToAny.mk () rfl ?_
     rw [v]
     exact gC [0, 8]
    rw [iN i] at a
    refine rZ ?_ fun K hK => by simp [q, i]; exact hK
    refine cF ?_
    refine sZ ?_ fun K hK => by simp [i]; exact hK
    refine cF ?_
    apply TrD.skip
    cases a
    refine ToAny.mk () rfl ?_
    rw [v]
    exact gC [0, 8]
   subst hz
   try dsimp only at h
   rw [congrFun v af]
   apply sq
   obtain ⟨ad, aN, h⟩ := bindE h
   refine rk fun K hK => ?_
   simp
   refine cp (c_spec_l2Name n p2 p3 _ aN) ?_
   simp
   apply hK
   apply sq
   obtain ⟨u, aO, h⟩ := bindE h
   refine rk fun K hK => ?_
   simp
   refine cp (c_spec_l2Ctor p0 p1 ad.1 _ aO) ?_
   simp
   apply hK
   apply sq
   refine sZ ?_
   refine TrD.cond (b := ilt u 0) (by simp) (fun H => ?_) (fun H => ?_)
   ·rw [if_pos H] at h
    refine sZ ?_ fun K hK => by simp [H]; exact hK
    cases h
    apply TrD.ret
    refine exitDG (σ' := ⟨(updD (updD (fun _ => .any) 10 (.ptr 6 0 0 0)) 11 (eI (-1))), hOfO [some ⟨6, [(rGPattern (GPattern.mk 0 0 0 0 0 []))], 0, 0x0029⟩], 1, 172⟩) ?_ ?_
    ·exact gC [1]
    simp [resD]
    exact eF
   rw [iN H] at h
   apply TrD.skip
   apply sq
   obtain ⟨ae, aP, h⟩ := bindE h
   refine rk fun K hK => ?_
   simp [H]
   refine cp (c_spec_l1Args p0 p1 u _ aP) ?_
   simp
   apply hK
   apply sq
   obtain ⟨l, aQ, h⟩ := bindE h
   refine rk fun K hK => ?_
   simp
   refine callV (.cons (.same _ _) (.cons (.same _ _) (.cons (.sl _ _ _ _ _ (by simp; rfl) rfl (by simp) (by simp)) (.cons (.same _ _) (.cons (.same _ _) (.cons (.same _ _) (.nil _))))))) (ih_spec_l3Kid p0 ae [40, 44, 44] p2 ad.2 (wsub .i64 p4 1) _ aQ) (by simp) (by simp) (fun bl ay => ?_)
   subst ay
   simp
   apply hK
   refine sZ ?_
   apply sq
   refine sZ ?_
   refine TrD.cond (b := ieq (lenZ ae.length) 0) (by simp) (fun I => ?_) (fun I => ?_)
   ·rw [if_pos I] at h
    refine sZ ?_ fun K hK => by simp [I]; exact hK
    cases h
    apply TrD.ret
    exact xD
   rw [iN I] at h
   apply TrD.skip
   apply sq
   apply sq
   obtain ⟨a1, aR, h⟩ := bindE h
   refine rk fun K hK => ?_
   simp [I]
   refine cp (c_spec_l2Sign p2 l.2 41 _ aR) ?_
   simp
   apply hK
   refine TrD.cond (b := (!a1)) (by simp) (fun J => ?_) (fun J => ?_)
   ·rw [if_pos J] at h
    refine sZ ?_ fun K hK => by simp [J]; exact hK
    cases h
    apply TrD.ret
    refine exitDG (σ' := ⟨(updD (updD (fun _ => .any) 10 (.ptr 6 0 0 0)) 11 (eI (-1))), hOfO [some ⟨6, [(rGPattern (GPattern.mk 0 0 0 0 0 []))], 0, 0x0029⟩], 1, 172⟩) ?_ ?_
    ·exact gC [1]
    simp [resD]
    exact eF
   rw [iN J] at h
   apply TrD.skip
   refine sZ ?_ fun K hK => by simp [J]; exact hK
   cases h
   apply TrD.ret
   exact xD
  intro p0 p1 p2 p3 p4 p5 res h
  rw [m_spec_l3Kid.eq_2] at h
  refine CD Tryz.func193 [.tmp 12, .tmp 13] fun β hβ => ?_
  refine sZ ?_
  refine sZ ?_
  apply sq
  refine sZ ?_
  obtain ⟨aV, aj, h⟩ := bindE h
  obtain ⟨ag, X⟩ : ∃ S : (Int × (List GPattern)) → St, S = fun m => ⟨(updD (updD (fun _ => .any) 4 (eI m.1)) 14 (.sl 6 0 (m.2).length)), hOfO [some ⟨6, (List.map rGPattern m.2), 0, 0x0029⟩], 1, 53⟩ := ⟨_, rfl⟩
  refine TrD.joinQ ag (fun z => aV = Ctl.brk z) (fun _ _ hg h => TrD.ghost hg h) ?_ (fun m hz => ?_)
  ·apply TrD.block
   obtain ⟨ai, P⟩ : ∃ S : Nat → (Int × (List GPattern)) → St, S = fun R e => ⟨(updD (updD (updD (updD (updD (updD (updD (updD (fun _ => .any) 0 (.slice 2 (List.map rGData p0))) 1 (.slice 2 (List.map rGType p1))) 2 (.slice 1 (List.map (rK .u8) p2))) 3 (eS p3)) 4 (eI e.1)) 5 (eI p5)) 14 (.sl 6 0 (e.2).length)) 15 (eI (R : Int))), hOfO [some ⟨6, (List.map rGPattern e.2), 0, 0x0029⟩], 1, 53⟩ := ⟨_, rfl⟩
   refine TrD.limS (sz := 2) (rows := List.map rGType p1) (seen_slot (d := .slice 2 (List.map rGType p1)) 1 (by simp)) (fun hlim => ?_)
   rw [List.length_map] at hlim
   refine TrD.forL ai aj hlim ?_ (fun R a3 e ab a6 a7 aT j a8 f aS a5 => ?_) (fun e a2 => ?_)
   ·rw [P]
    exact gC [16]
   ·rw [congrFun (congrFun P R) e]
    apply sq
    refine sZ ?_ fun K hK => by simp [aT]; exact hK
    refine cT ?_
    apply TrD.skip
    apply sq
    apply TrD.block
    apply sq
    apply sq
    obtain ⟨a4, Z, f⟩ := bindE f
    obtain ⟨aW, aC, f⟩ := bindE f
    refine rk fun K hK => ?_
    simp [idx_inb Z, idx_row Z]
    refine cp (c_spec_l2Sign p3 e.1 a4 _ aC) ?_
    simp
    apply hK
    refine TrD.cond (b := (!aW)) (by simp) (fun A => ?_) (fun A => ?_)
    ·rw [if_pos A] at f
     refine sZ ?_ fun K hK => by simp [A]; exact hK
     cases f
     obtain rfl := aS _ rfl
     cases h
     apply TrD.ret
     refine exitDG (σ' := ⟨(updD (updD (fun _ => .any) 12 (.slice 6 (List.map rGPattern []))) 13 (eI (-1))), hOfO [], 0, 53⟩) ?_ ?_
     ·exact gC []
     dsimp only [resD]
     exact eF
    rw [iN A] at f
    apply TrD.skip
    apply sq
    obtain ⟨ac, aD, f⟩ := bindE f
    refine rk fun K hK => ?_
    simp [idx_inb ab, idx_row ab, A]
    refine cp (ih_spec_l3Parse p0 a3 p3 (wadd .i64 e.1 1) p5 _ aD) ?_
    simp
    apply hK
    apply sq
    obtain ⟨W, Q, f⟩ := bindE f
    have aa := (app_some Q).2
    try simp only [List.length_cons, List.length_nil, Nat.zero_add] at aa
    refine rZ ?_ fun K hK => by simp [aa]; exact hK
    refine rZ ?_
    refine rZ ?_
    cases f
    refine ToAny.mk (ac.2, W) rfl ?_
    rw [P]
    exact gc [249] hβ ((((((((va.f (by simp [j])).f (by simp [j])).f (by simp [j])).f (by simp [j])).f (by simp [j])).f (by simp [j])).s 249 (by simp [(app_some Q).1, j])).f (by simp [j])) (ln.f (by simp [(app_some Q).1]))
   rw [congrFun (congrFun P _) e]
   apply sq
   refine sZ ?_ fun K hK => by simp [ilt_len p1.length]; exact hK
   refine cF ?_
   refine TrD.exit ?_
   try simp only [↓reduceIte, Nat.reduceEqDiff, Nat.zero_ne_one, Nat.one_ne_zero, OfNat.ofNat_ne_zero, OfNat.zero_ne_ofNat, OfNat.one_ne_ofNat, OfNat.ofNat_ne_one]
   refine ToAny.mk e a2 ?_
   rw [X]
   exact gC [0]
  subst hz
  try dsimp only at h
  rw [congrFun X m]
  refine sZ ?_
  cases h
  apply TrD.ret
  refine exitDG (σ' := ⟨(updD (updD (fun _ => .any) 12 (.slice 6 (List.map rGPattern m.2))) 13 (eI m.1)), hOfO [], 0, 53⟩) ?_ ?_
  ·refine (Ghost.raise 0 (by simp; rfl)).trans ?_
   exact gC [] (ht := ((va.u (d0 := (.sl 6 0 (m.2).length)) (by simp) (v_frz (by simp; rfl) rfl (by simp) (by simp) (rv_free (by simp) (by simp)))).f))
  dsimp only [resD]
  exact eF
theorem c_spec_l3Parse : ∀ (n : Nat), ∀ (p0 : (List GData)) (p1 : GType) (p2 : ByteArray) (p3 : Int) (p4 : Int) (res : GPattern × Int), m_spec_l3Parse n p0 p1 p2 p3 p4 = some res → CallsD Tryz.prog 0o00175 [(.slice 2 (List.map rGData p0)), (.agg (rGType p1)), (eS p2), (eI p3), (eI p4)] (fun d => d = .tup [(.agg (rGPattern res.1)), (eI res.2)]) := fun n => (c_spec_l3Parse_and_spec_l3Kid n).1
set_option maxRecDepth 100000 in
theorem c_spec_l4ParseGuard (p0 : ByteArray) (res : GGuard) (h : m_spec_l4ParseGuard p0 = some res) : CallsD Tryz.prog 0o00176 [(eS p0)] (fun d => d = (.agg (rGGuard res))) := by
 unfold m_spec_l4ParseGuard at h
 refine CD Tryz.func126 [.cell 2 43] fun β hβ => ?_
 refine sZ ?_
 apply sq
 refine sZ ?_
 refine TrD.cond (b := !ieq (lenZ p0.size) 3) (by simp) (fun hb2 => ?_) (fun hb2 => ?_)
 ·rw [if_pos hb2] at h
  refine sZ ?_ fun K hK => by simp [hb2]; exact hK
  cases h
  apply TrD.ret
  exact xD
 rw [iN hb2] at h
 apply TrD.skip
 apply sq
 refine TrD.ghost (σ' := ⟨(updD (updD (fun _ => .any) 0 (eS p0)) 2 (.ptr 3 0 0 0)), hOfO [some ⟨3, [[(eI 0), (eI 0), (eI 0)]], 0, 0x002b⟩], 1, 26⟩) ?_ ?_
 ·exact gC [0]
 obtain ⟨x3, hx3, h⟩ := bindE h
 obtain ⟨x4, hx4, h⟩ := bindE h
 refine TrD.draw tysOk mixed [0, 1, 2, 3, 4, 5, 6, 7, 8, 9, 10] [] [] (by rfl) rfl (fun K hK => ?_)
 simp [← (sidx_some hx3).1, (sidx_some hx3).2, ← (sidx_some hx4).1, (sidx_some hx4).2]
 apply hK
 obtain ⟨o9, a, h⟩ := bindE h
 obtain ⟨j, f⟩ : ∃ S : Int → St, S = fun s8 => ⟨(updD (updD (fun _ => .any) 2 (.ptr 3 0 0 0)) 3 (.ptr 3 1 0 0)), hOfO [some ⟨3, [[(eI 0), (eI 0), (eI 0)]], 0, 0x002b⟩, some ⟨3, [[(eI s8), (eI (wsub .i64 (wcv .i64 x3) 97)), (eI (wsub .i64 (wcv .i64 x4) 48))]], 0, 0x002b⟩], 2, 26⟩ := ⟨_, rfl⟩
 refine TrD.join j (fun z => o9 = Ctl.brk z) ?_ (fun s8 hz => ?_)
 ·apply sq
  obtain ⟨i, g, a⟩ := bindE a
  refine rZ ?_ fun K hK => by simp [← (sidx_some g).1, (sidx_some g).2]; exact hK
  apply TrD.block
  refine sZ ?_
  refine TrD.cond (b := ieq i 60) (by simp) (fun e => ?_) (fun e => ?_)
  ·rw [if_pos e] at a
   refine rZ ?_ fun K hK => by simp [e]; exact hK
   cases a
   refine ToAny.mk 1 rfl ?_
   rw [f]
   exact gC [0, 1]
  rw [iN e] at a
  refine sZ ?_ fun K hK => by simp [e]; exact hK
  refine TrD.cond (b := ieq i 61) (by simp) (fun c => ?_) (fun c => ?_)
  ·rw [if_pos c] at a
   refine rZ ?_ fun K hK => by simp [c]; exact hK
   cases a
   refine ToAny.mk 2 rfl ?_
   rw [f]
   exact gC [0, 1]
  rw [iN c] at a
  apply TrD.skip
  cases a
  refine ToAny.mk (-1) rfl ?_
  rw [f]
  exact gC [0, 1]
 subst hz
 try dsimp only at h
 rw [congrFun f s8]
 refine sZ ?_
 cases h
 apply TrD.ret
 exact xD
set_option maxRecDepth 100000 in
theorem c_spec_l3Letter (p0 : Int) (res : ByteArray) (h : m_spec_l3Letter p0 = some res) : CallsD Tryz.prog 0o00400 [(eI p0)] (fun d => d = (eS res)) := by
 unfold m_spec_l3Letter at h
 refine CD Tryz.func256 [.tmp 2] fun β hβ => ?_
 refine sZ ?_
 refine sZ ?_
 cases h
 apply TrD.ret
 exact xD
theorem c_spec_l3Text : ∀ (n : Nat) (p0 : (List GData)) (p1 : GType) (p2 : GPattern) (res : ByteArray), m_spec_l3Text n p0 p1 p2 = some res → CallsD Tryz.prog 0o00377 [(.slice 2 (List.map rGData p0)), (.agg (rGType p1)), (.agg (rGPattern p2))] (fun d => d = (eS res)) := by
 intro n
 induction n with
 | zero => intro p0 p1 p2 res h; cases h
 | succ n ih =>
  intro p0 p1 p2 res h
  rw [m_spec_l3Text.eq_2] at h
  refine CD Tryz.func255 [.tmp 6] fun β hβ => ?_
  refine sZ ?_
  apply sq
  refine sZ ?_
  apply TrD.block
  refine sZ ?_
  refine TrD.cond (b := ieq p2.op 1) (by simp) (fun r => ?_) (fun r => ?_)
  ·rw [if_pos r] at h
   refine sZ ?_ fun K hK => by simp [r]; exact hK
   cases h
   apply TrD.ret
   exact xD
  rw [iN r] at h
  refine sZ ?_ fun K hK => by simp [r]; exact hK
  refine TrD.cond (b := ieq p2.op 2) (by simp) (fun s => ?_) (fun s => ?_)
  ·rw [if_pos s] at h
   apply sq
   obtain ⟨ab, aC, h⟩ := bindE h
   refine rk fun K hK => ?_
   simp [s]
   refine cp (c_spec_l3Letter p2.var _ aC) ?_
   simp
   apply hK
   cases h
   apply TrD.ret
   exact xD
  rw [iN s] at h
  refine sZ ?_ fun K hK => by simp [s]; exact hK
  refine TrD.cond (b := ieq p2.op 3) (by simp) (fun t => ?_) (fun t => ?_)
  ·rw [if_pos t] at h
   apply sq
   refine sZ ?_ fun K hK => by simp [t]; exact hK
   refine TrD.cond (b := ieq p2.n p2.m) (by simp) (fun u => ?_) (fun u => ?_)
   ·rw [if_pos u] at h
    apply sq
    obtain ⟨ac, aD, h⟩ := bindE h
    refine rk fun K hK => ?_
    simp [u]
    refine cp (c_spec_l17Dec n p2.n _ aD) ?_
    simp
    apply hK
    cases h
    apply TrD.ret
    exact xD
   rw [iN u] at h
   apply TrD.skip
   apply sq
   refine TrD.ghost (σ' := ⟨(updD (fun _ => .any) 5 (.ptr 6 0 0 0)), hOfO [some ⟨6, [(rGPattern p2)], 0, 0x0029⟩], 1, 118⟩) ?_ ?_
   ·exact gC [8]
   obtain ⟨bc, aE, h⟩ := bindE h
   obtain ⟨bi, J, h⟩ := bindE h
   obtain ⟨bd, aF, h⟩ := bindE h
   obtain ⟨ah, N, h⟩ := bindE h
   refine TrD.draw tysOk mixed [0, 1, 4, 5, 2, 3, 6, 7, 8] [0] [] (by rfl) rfl (fun K hK => ?_)
   simp
   refine cp (c_spec_l17Dec n p2.n _ aE) ?_
   simp [← (scat_some J).1, (scat_some J).2]
   refine cp (c_spec_l17Dec n p2.m _ aF) ?_
   simp [← (scat_some N).1, (scat_some N).2]
   apply hK
   cases h
   apply TrD.ret
   exact xD
  rw [iN t] at h
  refine sZ ?_ fun K hK => by simp [t]; exact hK
  refine TrD.cond (b := ieq p2.op 5) (by simp) (fun i => ?_) (fun i => ?_)
  ·rw [if_pos i] at h
   apply sq
   refine TrD.ghost (σ' := ⟨(updD (updD (updD (fun _ => .any) 0 (.slice 2 (List.map rGData p0))) 4 (.ptr 2 0 0 0)) 5 (.ptr 6 1 0 0)), hOfO [some ⟨2, [(rGType p1)], 0, 0x0019⟩, some ⟨6, [(rGPattern p2)], 0, 0x0029⟩], 2, 118⟩) ?_ ?_
   ·exact gC [0, 8]
   obtain ⟨aS, O, h⟩ := bindE h
   obtain ⟨aT, P, h⟩ := bindE h
   obtain ⟨be, aG, h⟩ := bindE h
   obtain ⟨bj, Q, h⟩ := bindE h
   obtain ⟨bk, R, h⟩ := bindE h
   obtain ⟨bf, aH, h⟩ := bindE h
   obtain ⟨bl, T, h⟩ := bindE h
   obtain ⟨ai, U, h⟩ := bindE h
   refine TrD.draw tysOk mixed [0, 1, 2, 3, 4, 5, 9, 10, 11, 12, 13, 14, 6, 7, 8, 15, 16, 17, 18] [0, 1] [] (by rfl) rfl (fun K hK => ?_)
   simp [idx_inb O, idx_row O, idx_inb P, idx_row P]
   refine cp (ih p0 p1 aS _ aG) ?_
   simp [← (scat_some Q).1, (scat_some Q).2, ← (scat_some R).1, (scat_some R).2]
   refine cp (ih p0 p1 aT _ aH) ?_
   simp [← (scat_some T).1, (scat_some T).2, ← (scat_some U).1, (scat_some U).2]
   apply hK
   cases h
   apply TrD.ret
   exact xD
  rw [iN i] at h
  refine sZ ?_ fun K hK => by simp [i]; exact hK
  refine TrD.cond (b := ieq p2.op 6) (by simp) (fun f => ?_) (fun f => ?_)
  ·rw [if_pos f] at h
   apply sq
   refine TrD.ghost (σ' := ⟨(updD (updD (updD (fun _ => .any) 0 (.slice 2 (List.map rGData p0))) 4 (.ptr 2 0 0 0)) 5 (.ptr 6 1 0 0)), hOfO [some ⟨2, [(rGType p1)], 0, 0x0019⟩, some ⟨6, [(rGPattern p2)], 0, 0x0029⟩], 2, 118⟩) ?_ ?_
   ·exact gC [0, 8]
   obtain ⟨aU, V, h⟩ := bindE h
   obtain ⟨bg, aI, h⟩ := bindE h
   obtain ⟨bm, W, h⟩ := bindE h
   obtain ⟨bh, aJ, h⟩ := bindE h
   obtain ⟨aj, X, h⟩ := bindE h
   refine TrD.draw tysOk mixed [0, 1, 4, 5, 6, 7, 8, 9, 2, 3, 10, 11, 12] [0, 1] [] (by rfl) rfl (fun K hK => ?_)
   simp [idx_inb V, idx_row V]
   refine cp (c_spec_l3Letter p2.var _ aI) ?_
   simp [← (scat_some W).1, (scat_some W).2]
   refine cp (ih p0 p1 aU _ aJ) ?_
   simp [← (scat_some X).1, (scat_some X).2]
   apply hK
   cases h
   apply TrD.ret
   exact xD
  rw [iN f] at h
  apply TrD.skip
  apply sq
  refine TrD.ghost (σ' := ⟨(updD (updD (updD (fun _ => .any) 0 (.slice 2 (List.map rGData p0))) 4 (.ptr 2 0 0 0)) 5 (.ptr 6 1 0 0)), hOfO [some ⟨2, [(rGType p1)], 0, 0x0019⟩, some ⟨6, [(rGPattern p2)], 0, 0x0029⟩], 2, 118⟩) ?_ ?_
  ·exact gC [0, 8]
  obtain ⟨bn, Y, h⟩ := bindE h
  obtain ⟨aV, Z, h⟩ := bindE h
  refine TrD.draw tysOk mixed [0, 1, 2, 3, 4, 5, 6, 7, 8, 9, 10, 11] [0, 1] [] (by rfl) rfl (fun K hK => ?_)
  simp [idx_inb Y, idx_row Y, idx_inb Z, idx_row Z]
  apply hK
  apply sq
  obtain ⟨a, aK, h⟩ := bindE h
  refine rk fun K hK => ?_
  simp
  refine cp (c_spec_l1Args p0 p1 p2.ctor _ aK) ?_
  simp
  apply hK
  apply sq
  refine sZ ?_
  obtain ⟨aM, ao, h⟩ := bindE h
  obtain ⟨ak, D⟩ : ∃ S : ByteArray → St, S = fun v => ⟨(updD (updD (fun _ => .any) 7 (eS v)) 8 (.slice 2 (List.map rGType a))), hOfO [], 0, 118⟩ := ⟨_, rfl⟩
  refine TrD.joinQ ak (fun z => aM = Ctl.brk z) (fun _ _ hg h => TrD.ghost hg h) ?_ (fun v hz => ?_)
  ·apply TrD.block
   obtain ⟨al, A⟩ : ∃ S : Nat → ByteArray → St, S = fun e j => ⟨(updD (updD (updD (updD (updD (fun _ => .any) 0 (.slice 2 (List.map rGData p0))) 5 (.ptr 6 0 0 0)) 7 (eS j)) 8 (.slice 2 (List.map rGType a))) 9 (eI (e : Int))), hOfO [some ⟨6, [(rGPattern p2)], 0, 0x0029⟩], 1, 118⟩ := ⟨_, rfl⟩
   refine TrD.limS (sz := 2) (rows := List.map rGType a) (seen_slot (d := .slice 2 (List.map rGType a)) 86 (by simp)) (fun hlim => ?_)
   rw [List.length_map] at hlim
   refine TrD.forL al ao hlim ?_ (fun e aQ j aa aY aZ aL o a0 c aX aW => ?_) (fun j aP => ?_)
   ·rw [A]
    exact gC [1]
   ·rw [congrFun (congrFun A e) j]
    apply sq
    refine sZ ?_ fun K hK => by simp [aL]; exact hK
    refine cT ?_
    apply TrD.skip
    apply sq
    apply TrD.block
    obtain ⟨aN, g, c⟩ := bindE c
    obtain ⟨am, B⟩ : ∃ S : ByteArray → St, S = fun w => ⟨(updD (updD (updD (updD (updD (fun _ => .any) 0 (.slice 2 (List.map rGData p0))) 5 (.ptr 6 0 0 0)) 7 (eS w)) 8 (.slice 2 (List.map rGType a))) 9 (eI (e : Int))), hOfO [some ⟨6, [(rGPattern p2)], 0, 0x0029⟩], 1, 118⟩ := ⟨_, rfl⟩
    refine TrD.join am (fun z => aN = Ctl.brk z) ?_ (fun w hz => ?_)
    ·refine sZ ?_
     refine TrD.cond (b := ieq (e : Int) 0) (by simp) (fun p => ?_) (fun p => ?_)
     ·rw [if_pos p] at g
      obtain ⟨ad, E, g⟩ := bindE g
      refine rZ ?_ fun K hK => by simp [p, ← (scat_some E).1, (scat_some E).2]; exact hK
      cases g
      refine ToAny.mk ad rfl ?_
      rw [B]
      exact gC [0]
     rw [iN p] at g
     obtain ⟨ae, F, g⟩ := bindE g
     refine rZ ?_ fun K hK => by simp [p, ← (scat_some F).1, (scat_some F).2]; exact hK
     cases g
     refine ToAny.mk ae rfl ?_
     rw [B]
     exact gC [0]
    subst hz
    try dsimp only at c
    rw [congrFun B w]
    refine TrD.ghost (σ' := ⟨(updD (updD (updD (updD (updD (fun _ => .any) 0 (.slice 2 (List.map rGData p0))) 5 (.ptr 6 0 0 0)) 7 (eS w)) 8 (.slice 2 (List.map rGType a))) 9 (eI (e : Int))), hOfO [some ⟨6, [(rGPattern p2)], 0, 0x0029⟩], 1, 118⟩) ?_ ?_
    ·exact gC [0]
    obtain ⟨aR, G, c⟩ := bindE c
    obtain ⟨bb, aB, c⟩ := bindE c
    obtain ⟨af, H, c⟩ := bindE c
    refine TrD.draw tysOk mixed [0, 1, 2, 3, 4, 5, 6, 7, 8, 9, 10, 11, 12, 13] [0] [] (by rfl) rfl (fun K hK => ?_)
    simp [idx_inb aa, idx_row aa, idx_inb G, idx_row G]
    refine cp (ih p0 aQ aR _ aB) ?_
    simp [← (scat_some H).1, (scat_some H).2]
    apply hK
    refine rZ ?_
    cases c
    refine ToAny.mk af rfl ?_
    rw [A]
    exact gc [0] hβ (((((va.f (by simp [o])).p 0 (by simp [o])).f (by simp [o])).f (by simp [o])).f (by simp [o])) ln.f
   rw [congrFun (congrFun A _) j]
   apply sq
   refine sZ ?_ fun K hK => by simp [ilt_len a.length]; exact hK
   refine cF ?_
   refine TrD.exit ?_
   try simp only [↓reduceIte, Nat.reduceEqDiff, Nat.zero_ne_one, Nat.one_ne_zero, OfNat.ofNat_ne_zero, OfNat.zero_ne_ofNat, OfNat.one_ne_ofNat, OfNat.ofNat_ne_one]
   refine ToAny.mk j aP ?_
   rw [D]
   exact gC []
  subst hz
  try dsimp only at h
  rw [congrFun D v]
  obtain ⟨aO, l, h⟩ := bindE h
  obtain ⟨an, C⟩ : ∃ S : ByteArray → St, S = fun y => ⟨(updD (fun _ => .any) 7 (eS y)), hOfO [], 0, 118⟩ := ⟨_, rfl⟩
  refine TrD.join an (fun z => aO = Ctl.brk z) ?_ (fun y hz => ?_)
  ·refine sZ ?_
   refine TrD.cond (b := ilt 0 (lenZ a.length)) (by simp) (fun q => ?_) (fun q => ?_)
   ·rw [if_pos q] at l
    obtain ⟨ag, I, l⟩ := bindE l
    refine rZ ?_ fun K hK => by simp [q, ← (scat_some I).1, (scat_some I).2]; exact hK
    cases l
    refine ToAny.mk ag rfl ?_
    rw [C]
    exact gC []
   rw [iN q] at l
   apply TrD.skip
   cases l
   refine ToAny.mk v rfl ?_
   rw [C]
   exact gC []
  subst hz
  try dsimp only at h
  rw [congrFun C y]
  refine sZ ?_
  cases h
  apply TrD.ret
  exact xD
set_option maxRecDepth 100000 in
theorem c_spec_l4Text (n : Nat) (p0 : (List GData)) (p1 : GType) (p2 : GClause) (res : ByteArray) (h : m_spec_l4Text n p0 p1 p2 = some res) : CallsD Tryz.prog 0o00305 [(.slice 2 (List.map rGData p0)), (.agg (rGType p1)), (.agg (rGClause p2))] (fun d => d = (eS res)) := by
 unfold m_spec_l4Text at h
 refine CD Tryz.func197 [.tmp 6] fun β hβ => ?_
 refine sZ ?_
 apply sq
 obtain ⟨r1, hr1, h⟩ := bindE h
 refine rk fun K hK => ?_
 simp
 refine cp (c_spec_l3Text n p0 p1 p2.pat _ hr1) ?_
 simp
 apply hK
 obtain ⟨G, a, h⟩ := bindE h
 obtain ⟨u, g⟩ : ∃ S : ByteArray → St, S = fun f => ⟨(updD (fun _ => .any) 7 (eS f)), hOfO [], 0, 47⟩ := ⟨_, rfl⟩
 refine TrD.join u (fun z => G = Ctl.brk z) ?_ (fun f hz => ?_)
 ·refine sZ ?_
  apply TrD.block
  refine sZ ?_
  refine TrD.cond (b := ieq p2.guard.op 1) (by simp) (fun c => ?_) (fun c => ?_)
  ·rw [if_pos c] at a
   refine TrD.ghost (σ' := ⟨(updD (updD (fun _ => .any) 5 (.ptr 9 0 0 0)) 7 (eS r1)), hOfO [some ⟨9, [(rGClause p2)], 0, 0x002d⟩], 1, 47⟩) ?_ ?_
   ·exact gC [8]
   obtain ⟨U, i, a⟩ := bindE a
   obtain ⟨P, C, a⟩ := bindE a
   obtain ⟨V, j, a⟩ := bindE a
   obtain ⟨W, l, a⟩ := bindE a
   obtain ⟨Q, D, a⟩ := bindE a
   obtain ⟨s, m, a⟩ := bindE a
   refine TrD.draw tysOk mixed [0, 1, 2, 3, 4, 8, 9, 10, 5, 6, 7, 11, 12, 13] [0] [] (by rfl) rfl (fun K hK => ?_)
   simp [← (scat_some i).1, (scat_some i).2]
   refine cp (c_spec_l3Letter p2.guard.var _ C) ?_
   simp [← (scat_some j).1, (scat_some j).2, ← (scat_some l).1, (scat_some l).2]
   refine cp (c_spec_l17Dec n p2.guard.n _ D) ?_
   simp [← (scat_some m).1, (scat_some m).2]
   apply hK
   cases a
   refine ToAny.mk s rfl ?_
   rw [g]
   exact gC []
  rw [iN c] at a
  refine sZ ?_ fun K hK => by simp [c]; exact hK
  refine TrD.cond (b := ieq p2.guard.op 2) (by simp) (fun e => ?_) (fun e => ?_)
  ·rw [if_pos e] at a
   refine TrD.ghost (σ' := ⟨(updD (updD (fun _ => .any) 5 (.ptr 9 0 0 0)) 7 (eS r1)), hOfO [some ⟨9, [(rGClause p2)], 0, 0x002d⟩], 1, 47⟩) ?_ ?_
   ·exact gC [8]
   obtain ⟨X, o, a⟩ := bindE a
   obtain ⟨R, E, a⟩ := bindE a
   obtain ⟨Y, p, a⟩ := bindE a
   obtain ⟨Z, q, a⟩ := bindE a
   obtain ⟨T, F, a⟩ := bindE a
   obtain ⟨t, r, a⟩ := bindE a
   refine TrD.draw tysOk mixed [0, 1, 2, 3, 4, 8, 9, 10, 5, 6, 7, 11, 12, 13] [0] [] (by rfl) rfl (fun K hK => ?_)
   simp [← (scat_some o).1, (scat_some o).2]
   refine cp (c_spec_l3Letter p2.guard.var _ E) ?_
   simp [← (scat_some p).1, (scat_some p).2, ← (scat_some q).1, (scat_some q).2]
   refine cp (c_spec_l17Dec n p2.guard.n _ F) ?_
   simp [← (scat_some r).1, (scat_some r).2]
   apply hK
   cases a
   refine ToAny.mk t rfl ?_
   rw [g]
   exact gC []
  rw [iN e] at a
  apply TrD.skip
  cases a
  refine ToAny.mk r1 rfl ?_
  rw [g]
  exact gC []
 subst hz
 try dsimp only at h
 rw [congrFun g f]
 refine sZ ?_
 cases h
 apply TrD.ret
 exact xD
set_option maxRecDepth 100000 in
theorem c_spec_l4Texts (n : Nat) (p0 : (List GData)) (p1 : GType) (p2 : (List GClause)) (res : ByteArray) (h : m_spec_l4Texts n p0 p1 p2 = some res) : CallsD Tryz.prog 0o00177 [(.slice 2 (List.map rGData p0)), (.agg (rGType p1)), (.slice 9 (List.map rGClause p2))] (fun d => d = (eS res)) := by
 unfold m_spec_l4Texts at h
 refine CD Tryz.func127 [.tmp 6] fun β hβ => ?_
 refine sZ ?_
 refine sZ ?_
 apply sq
 refine sZ ?_
 obtain ⟨E, A, h⟩ := bindE h
 obtain ⟨v, p⟩ : ∃ S : ByteArray → St, S = fun j => ⟨(updD (fun _ => .any) 7 (eS j)), hOfO [], 0, 29⟩ := ⟨_, rfl⟩
 refine TrD.joinQ v (fun z => E = Ctl.brk z) (fun _ _ hg h => TrD.ghost hg h) ?_ (fun j hz => ?_)
 ·apply TrD.block
  obtain ⟨w, m⟩ : ∃ S : Nat → ByteArray → St, S = fun a e => ⟨(updD (updD (updD (updD (updD (fun _ => .any) 0 (.slice 2 (List.map rGData p0))) 2 (.slice 9 (List.map rGClause p2))) 4 (.ptr 2 0 0 0)) 7 (eS e)) 8 (eI (a : Int))), hOfO [some ⟨2, [(rGType p1)], 0, 0x0019⟩], 1, 29⟩ := ⟨_, rfl⟩
  refine TrD.limS (sz := 9) (rows := List.map rGClause p2) (seen_slot (d := .slice 9 (List.map rGClause p2)) 2 (by simp)) (fun hlim => ?_)
  rw [List.length_map] at hlim
  refine TrD.forL w A hlim ?_ (fun a H e s N O D i P f J I => ?_) (fun e G => ?_)
  ·rw [m]
   exact gC [0]
  ·rw [congrFun (congrFun m a) e]
   apply sq
   refine sZ ?_ fun K hK => by simp [D]; exact hK
   refine cT ?_
   apply TrD.skip
   apply sq
   apply TrD.block
   obtain ⟨F, g, f⟩ := bindE f
   obtain ⟨y, o⟩ : ∃ S : ByteArray → St, S = fun l => ⟨(updD (updD (updD (updD (updD (fun _ => .any) 0 (.slice 2 (List.map rGData p0))) 2 (.slice 9 (List.map rGClause p2))) 4 (.ptr 2 0 0 0)) 7 (eS l)) 8 (eI (a : Int))), hOfO [some ⟨2, [(rGType p1)], 0, 0x0019⟩], 1, 29⟩ := ⟨_, rfl⟩
   refine TrD.join y (fun z => F = Ctl.brk z) ?_ (fun l hz => ?_)
   ·refine sZ ?_
    refine TrD.cond (b := ilt 0 (a : Int)) (by simp) (fun c => ?_) (fun c => ?_)
    ·rw [if_pos c] at g
     obtain ⟨t, q, g⟩ := bindE g
     refine rZ ?_ fun K hK => by simp [c, ← (scat_some q).1, (scat_some q).2]; exact hK
     cases g
     refine ToAny.mk t rfl ?_
     rw [o]
     exact gC [0]
    rw [iN c] at g
    apply TrD.skip
    cases g
    refine ToAny.mk e rfl ?_
    rw [o]
    exact gC [0]
   subst hz
   try dsimp only at f
   rw [congrFun o l]
   refine TrD.ghost (σ' := ⟨(updD (updD (updD (updD (updD (fun _ => .any) 0 (.slice 2 (List.map rGData p0))) 2 (.slice 9 (List.map rGClause p2))) 4 (.ptr 2 0 0 0)) 7 (eS l)) 8 (eI (a : Int))), hOfO [some ⟨2, [(rGType p1)], 0, 0x0019⟩], 1, 29⟩) ?_ ?_
   ·exact gC [0]
   obtain ⟨R, C, f⟩ := bindE f
   obtain ⟨u, r, f⟩ := bindE f
   refine TrD.draw tysOk mixed [0, 1, 2, 3, 4, 5, 6, 7, 8, 9] [0] [] (by rfl) rfl (fun K hK => ?_)
   simp [idx_inb s, idx_row s]
   refine cp (c_spec_l4Text n p0 p1 H _ C) ?_
   simp [← (scat_some r).1, (scat_some r).2]
   apply hK
   refine rZ ?_
   cases f
   refine ToAny.mk u rfl ?_
   rw [m]
   exact gc [0] hβ (((((va.f (by simp [i])).f (by simp [i])).p 0 (by simp [i])).f (by simp [i])).f (by simp [i])) ln.f
  rw [congrFun (congrFun m _) e]
  apply sq
  refine sZ ?_ fun K hK => by simp [ilt_len p2.length]; exact hK
  refine cF ?_
  refine TrD.exit ?_
  try simp only [↓reduceIte, Nat.reduceEqDiff, Nat.zero_ne_one, Nat.one_ne_zero, OfNat.ofNat_ne_zero, OfNat.zero_ne_ofNat, OfNat.one_ne_ofNat, OfNat.ofNat_ne_one]
  refine ToAny.mk e G ?_
  rw [p]
  exact gC []
 subst hz
 try dsimp only at h
 rw [congrFun p j]
 refine sZ ?_
 cases h
 apply TrD.ret
 exact xD
end Go.Proofs.YtmkamncbkkahjaaGreat
