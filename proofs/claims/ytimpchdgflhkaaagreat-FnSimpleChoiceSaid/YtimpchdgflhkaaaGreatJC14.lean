import Derived.Test.YtimpchdgflhkaaaGreatJMir
import Derived.Test.YtimpchdgflhkaaaGreatJZap
import Derived.Test.YtimpchdgflhkaaaGreatJC7
import Derived.Test.YtimpchdgflhkaaaGreatJC3
import Derived.Test.YtimpchdgflhkaaaGreatJC13
import Derived.Test.YtimpchdgflhkaaaGreatJC1
set_option linter.unusedSimpArgs false
set_option linter.unusedVariables false
namespace Go.Proofs.YtimpchdgflhkaaaGreat
open Go Go.RowKit
set_option maxRecDepth 100000
set_option maxHeartbeats 20000000
theorem c_spec_l11Or (n : Nat) (p0 : (List GData)) (p1 : GType) (p2 : GPattern) (p3 : GPattern) (res : GPattern) (h : m_spec_l11Or n p0 p1 p2 p3 = some res) : CallsD Tryz.prog 0o00071 [(.slice 2 (List.map rGData p0)), (.agg (rGType p1)), (.agg (rGPattern p2)), (.agg (rGPattern p3))] (fun d => d = (.agg (rGPattern res))) := by
 unfold m_spec_l11Or at h
 refine CD Tryz.func57 [.cell 8 32] fun β hβ => ?_
 refine sZ ?_
 obtain ⟨c8, a, h⟩ := bindE h
 obtain ⟨bh, c⟩ : ∃ S : Unit → St, S = fun bg => ⟨(updD (updD (updD (fun _ => .any) 6 (.ptr 6 0 0 0)) 7 (.ptr 6 1 0 0)) 8 (.ptr 6 2 0 0)), hOfO [some ⟨6, [(rGPattern p2)], 0, 0x0020⟩, some ⟨6, [(rGPattern p3)], 0, 0x0020⟩, some ⟨6, [[(eI 0), (eI 0), (eI 0), (eI 0), (eI 0), .nil]], 0, 0x0020⟩], 3, 112⟩ := ⟨_, rfl⟩
 refine TrD.join bh (fun z => c8 = Ctl.brk z) ?_ (fun bg hz => ?_)
 ·apply TrD.block
  apply sq
  obtain ⟨db, a2, a⟩ := bindE a
  rcases bb db with al | al
  ·rw [if_pos al] at a
   refine rk fun K hK => ?_
   simp
   refine cp (c_spec_PatternSame n p2 p3 _ a2) ?_
   simp [al]
   apply hK
   refine cT ?_
   refine sZ ?_
   cases a
   cases h
   apply TrD.ret
   exact xD
  rw [iN al] at a
  obtain ⟨dc, cL, a⟩ := bindE a
  refine rk fun K hK => ?_
  simp
  refine cp (c_spec_PatternSame n p2 p3 _ a2) ?_
  simp [al]
  refine cp (c_spec_l11Whole p2 _ cL) ?_
  simp [al]
  apply hK
  refine TrD.cond (b := dc) (by simp) (fun P => ?_) (fun P => ?_)
  ·rw [if_pos P] at a
   refine sZ ?_ fun K hK => by simp [P]; exact hK
   cases a
   cases h
   apply TrD.ret
   exact xD
  rw [iN P] at a
  apply sq
  rcases bb (ieq p2.op 3) with R | R
  ·rw [if_pos R] at a
   rcases bb (ieq p3.op 3) with am | am
   ·rw [if_pos am] at a
    rcases bb (ile p2.n (wadd .i64 p3.m 1)) with au | au
    ·rw [if_pos au] at a
     refine rZ ?_ fun K hK => by simp [P, R, am, au]; exact hK
     refine TrD.cond (b := ile p3.n (wadd .i64 p2.m 1)) (by simp) (fun an => ?_) (fun an => ?_)
     ·rw [if_pos an] at a
      refine sZ ?_ fun K hK => by simp [an]; exact hK
      refine sZ ?_
      obtain ⟨c9, aD, a⟩ := bindE a
      obtain ⟨bi, aO⟩ : ∃ S : Int → St, S = fun ak => ⟨(updD (updD (updD (updD (fun _ => .any) 7 (.ptr 6 0 0 0)) 8 (.ptr 6 1 0 0)) 9 (eI ak)) 10 (eI p2.m)), hOfO [some ⟨6, [(rGPattern p3)], 0, 0x0020⟩, some ⟨6, [[(eI 0), (eI 0), (eI 0), (eI 0), (eI 0), .nil]], 0, 0x0020⟩], 2, 112⟩ := ⟨_, rfl⟩
      refine TrD.join bi (fun z => c9 = Ctl.brk z) ?_ (fun ak hz => ?_)
      ·refine sZ ?_
       refine TrD.cond (b := ilt p3.n p2.n) (by simp) (fun Q => ?_) (fun Q => ?_)
       ·rw [if_pos Q] at aD
        refine rZ ?_ fun K hK => by simp [Q]; exact hK
        cases aD
        refine ToAny.mk p3.n rfl ?_
        rw [aO]
        exact gC [16, 24]
       rw [iN Q] at aD
       apply TrD.skip
       cases aD
       refine ToAny.mk p2.n rfl ?_
       rw [aO]
       exact gC [16, 24]
      subst hz
      try dsimp only at a
      rw [congrFun aO ak]
      obtain ⟨da, aE, a⟩ := bindE a
      obtain ⟨bj, aP⟩ : ∃ S : Int → St, S = fun aN => ⟨(updD (updD (updD (fun _ => .any) 8 (.ptr 6 0 0 0)) 9 (eI ak)) 10 (eI aN)), hOfO [some ⟨6, [[(eI 0), (eI 0), (eI 0), (eI 0), (eI 0), .nil]], 0, 0x0020⟩], 1, 112⟩ := ⟨_, rfl⟩
      refine TrD.join bj (fun z => da = Ctl.brk z) ?_ (fun aN hz => ?_)
      ·refine sZ ?_
       refine TrD.cond (b := ilt p2.m p3.m) (by simp) (fun T => ?_) (fun T => ?_)
       ·rw [if_pos T] at aE
        refine rZ ?_ fun K hK => by simp [T]; exact hK
        cases aE
        refine ToAny.mk p3.m rfl ?_
        rw [aP]
        exact gC [1]
       rw [iN T] at aE
       apply TrD.skip
       cases aE
       refine ToAny.mk p2.m rfl ?_
       rw [aP]
       exact gC [1]
      subst hz
      try dsimp only at a
      rw [congrFun aP aN]
      apply sq
      obtain ⟨a7, cM, a⟩ := bindE a
      refine rk fun K hK => ?_
      simp
      refine cp (c_spec_l11Int ak aN _ cM) ?_
      simp
      apply hK
      cases a
      cases h
      apply TrD.ret
      exact xD
     rw [iN an] at a
     apply sq
     obtain ⟨dd, a3, a⟩ := bindE a
     rcases bb dd with ao | ao
     ·rw [if_pos ao] at a
      obtain ⟨aY, cN, a⟩ := bindE a
      refine rk fun K hK => ?_
      simp [an]
      refine cp (c_spec_l11Whole p3 _ a3) ?_
      simp [ao]
      refine callK (views_same _ _) (.own _ [] [_, _, _] 3 0x0076) [344] (c_spec_l3Vars n [] p0 p1 p2 _ cN) (by decide) (.cons (locRen_eq (by simp) (by simp) (by simp)) .nil) (.cons (ren_sl rfl) (.cons (ren_le (by simp) (by simp)) (.cons (ren_le (by simp) (by simp)) (.cons (ren_le (by simp) (by simp)) .nil)))) (fun dG e8 bw => ?_)
      obtain ⟨rfl, rfl⟩ := bw
      refine ⟨by simp, [none, some ⟨3, (List.map rGVarType aY), 0, 0x0076⟩], (.sl 3 345 (aY).length), (.cons (.none _) (.cons (optRen_same (by simp)) .nil)), (ren_sl (by rfl)), ?_⟩
      simp [setMany, newNames, ao]
      apply hK
      refine TrD.cond (b := ieq (lenZ aY.length) 0) (by simp) (fun I => ?_) (fun I => ?_)
      ·rw [if_pos I] at a
       refine sZ ?_ fun K hK => by simp [I]; exact hK
       cases a
       cases h
       apply TrD.ret
       exact xD
      rw [iN I] at a
      apply sq
      rcases bb (ieq p2.op 4) with e | e
      ·rw [if_pos e] at a
       rcases bb (ieq p3.op 4) with q | q
       ·rw [if_pos q] at a
        obtain ⟨de, aF, a⟩ := bindE a
        rcases bb de with A | A
        ·rw [if_pos A] at a
         obtain ⟨df, aQ, a⟩ := bindE a
         rcases bb df with U | U
         ·rw [if_pos U] at a
          rcases bb (!ieq p2.ctor p3.ctor) with av | av
          ·rw [if_pos av] at a
           obtain ⟨dg, cO, a⟩ := bindE a
           refine rk fun K hK => ?_
           simp [I, e, q]
           refine cp (c_spec_l11Wide p2 _ aF) ?_
           simp [e, q, A]
           refine cp (c_spec_l11Wide p3 _ aQ) ?_
           simp [e, q, A, U, av]
           refine cp (c_spec_l1Ctors p0 p1 _ cO) ?_
           simp [e, q, A, U]
           apply hK
           refine TrD.cond (b := ieq (lenZ dg.length) 2) (by simp) (fun V => ?_) (fun V => ?_)
           ·rw [if_pos V] at a
            apply sq
            obtain ⟨a8, cP, a⟩ := bindE a
            refine rk fun K hK => ?_
            simp [V]
            refine cp (c_spec_l5Any _ cP) ?_
            simp
            apply hK
            cases a
            cases h
            apply TrD.ret
            exact xD
           rw [iN V] at a
           apply TrD.skip
           cases a
           refine ToAny.mk () rfl ?_
           rw [c]
           exact gC [8, 16, 24]
          rw [iN av] at a
          refine rk fun K hK => ?_
          simp [I, e, q]
          refine cp (c_spec_l11Wide p2 _ aF) ?_
          simp [e, q, A]
          refine cp (c_spec_l11Wide p3 _ aQ) ?_
          simp [e, q, A, U, av]
          apply hK
          refine cF ?_
          apply TrD.skip
          cases a
          refine ToAny.mk () rfl ?_
          rw [c]
          exact gC [8, 16, 24]
         rw [iN U] at a
         refine rk fun K hK => ?_
         simp [I, e, q]
         refine cp (c_spec_l11Wide p2 _ aF) ?_
         simp [e, q, A]
         refine cp (c_spec_l11Wide p3 _ aQ) ?_
         simp [e, q, A, U]
         apply hK
         refine cF ?_
         apply TrD.skip
         cases a
         refine ToAny.mk () rfl ?_
         rw [c]
         exact gC [8, 16, 24]
        rw [iN A] at a
        refine rk fun K hK => ?_
        simp [I, e, q]
        refine cp (c_spec_l11Wide p2 _ aF) ?_
        simp [e, q, A]
        apply hK
        refine cF ?_
        apply TrD.skip
        cases a
        refine ToAny.mk () rfl ?_
        rw [c]
        exact gC [8, 16, 24]
       rw [iN q] at a
       refine rZ ?_ fun K hK => by simp [I, e, q]; exact hK
       refine cF ?_
       apply TrD.skip
       cases a
       refine ToAny.mk () rfl ?_
       rw [c]
       exact gC [8, 16, 24]
      rw [iN e] at a
      refine rZ ?_ fun K hK => by simp [I, e]; exact hK
      refine cF ?_
      apply TrD.skip
      cases a
      refine ToAny.mk () rfl ?_
      rw [c]
      exact gC [8, 16, 24]
     rw [iN ao] at a
     refine rk fun K hK => ?_
     simp [an]
     refine cp (c_spec_l11Whole p3 _ a3) ?_
     simp [ao]
     apply hK
     refine cF ?_
     apply sq
     rcases bb (ieq p2.op 4) with f | f
     ·rw [if_pos f] at a
      rcases bb (ieq p3.op 4) with r | r
      ·rw [if_pos r] at a
       obtain ⟨dh, aG, a⟩ := bindE a
       rcases bb dh with B | B
       ·rw [if_pos B] at a
        obtain ⟨di, aR, a⟩ := bindE a
        rcases bb di with W | W
        ·rw [if_pos W] at a
         rcases bb (!ieq p2.ctor p3.ctor) with aw | aw
         ·rw [if_pos aw] at a
          obtain ⟨dj, cQ, a⟩ := bindE a
          refine rk fun K hK => ?_
          simp [f, r]
          refine cp (c_spec_l11Wide p2 _ aG) ?_
          simp [f, r, B]
          refine cp (c_spec_l11Wide p3 _ aR) ?_
          simp [f, r, B, W, aw]
          refine cp (c_spec_l1Ctors p0 p1 _ cQ) ?_
          simp [f, r, B, W]
          apply hK
          refine TrD.cond (b := ieq (lenZ dj.length) 2) (by simp) (fun X => ?_) (fun X => ?_)
          ·rw [if_pos X] at a
           apply sq
           obtain ⟨a9, cR, a⟩ := bindE a
           refine rk fun K hK => ?_
           simp [X]
           refine cp (c_spec_l5Any _ cR) ?_
           simp
           apply hK
           cases a
           cases h
           apply TrD.ret
           exact xD
          rw [iN X] at a
          apply TrD.skip
          cases a
          refine ToAny.mk () rfl ?_
          rw [c]
          exact gC [8, 16, 24]
         rw [iN aw] at a
         refine rk fun K hK => ?_
         simp [f, r]
         refine cp (c_spec_l11Wide p2 _ aG) ?_
         simp [f, r, B]
         refine cp (c_spec_l11Wide p3 _ aR) ?_
         simp [f, r, B, W, aw]
         apply hK
         refine cF ?_
         apply TrD.skip
         cases a
         refine ToAny.mk () rfl ?_
         rw [c]
         exact gC [8, 16, 24]
        rw [iN W] at a
        refine rk fun K hK => ?_
        simp [f, r]
        refine cp (c_spec_l11Wide p2 _ aG) ?_
        simp [f, r, B]
        refine cp (c_spec_l11Wide p3 _ aR) ?_
        simp [f, r, B, W]
        apply hK
        refine cF ?_
        apply TrD.skip
        cases a
        refine ToAny.mk () rfl ?_
        rw [c]
        exact gC [8, 16, 24]
       rw [iN B] at a
       refine rk fun K hK => ?_
       simp [f, r]
       refine cp (c_spec_l11Wide p2 _ aG) ?_
       simp [f, r, B]
       apply hK
       refine cF ?_
       apply TrD.skip
       cases a
       refine ToAny.mk () rfl ?_
       rw [c]
       exact gC [8, 16, 24]
      rw [iN r] at a
      refine rZ ?_ fun K hK => by simp [f, r]; exact hK
      refine cF ?_
      apply TrD.skip
      cases a
      refine ToAny.mk () rfl ?_
      rw [c]
      exact gC [8, 16, 24]
     rw [iN f] at a
     refine rZ ?_ fun K hK => by simp [f]; exact hK
     refine cF ?_
     apply TrD.skip
     cases a
     refine ToAny.mk () rfl ?_
     rw [c]
     exact gC [8, 16, 24]
    rw [iN au] at a
    refine rZ ?_ fun K hK => by simp [P, R, am, au]; exact hK
    refine cF ?_
    apply sq
    obtain ⟨dk, a4, a⟩ := bindE a
    rcases bb dk with ap | ap
    ·rw [if_pos ap] at a
     obtain ⟨aZ, cS, a⟩ := bindE a
     refine rk fun K hK => ?_
     simp
     refine cp (c_spec_l11Whole p3 _ a4) ?_
     simp [ap]
     refine callK (views_same _ _) (.own _ [] [_, _, _] 3 0x0076) [296] (c_spec_l3Vars n [] p0 p1 p2 _ cS) (by decide) (.cons (locRen_eq (by simp) (by simp) (by simp)) .nil) (.cons (ren_sl rfl) (.cons (ren_le (by simp) (by simp)) (.cons (ren_le (by simp) (by simp)) (.cons (ren_le (by simp) (by simp)) .nil)))) (fun dH e9 bS => ?_)
     obtain ⟨rfl, rfl⟩ := bS
     refine ⟨by simp, [none, some ⟨3, (List.map rGVarType aZ), 0, 0x0076⟩], (.sl 3 297 (aZ).length), (.cons (.none _) (.cons (optRen_same (by simp)) .nil)), (ren_sl (by rfl)), ?_⟩
     simp [setMany, newNames, ap]
     apply hK
     refine TrD.cond (b := ieq (lenZ aZ.length) 0) (by simp) (fun J => ?_) (fun J => ?_)
     ·rw [if_pos J] at a
      refine sZ ?_ fun K hK => by simp [J]; exact hK
      cases a
      cases h
      apply TrD.ret
      exact xD
     rw [iN J] at a
     apply sq
     rcases bb (ieq p2.op 4) with g | g
     ·rw [if_pos g] at a
      rcases bb (ieq p3.op 4) with s | s
      ·rw [if_pos s] at a
       obtain ⟨dl, aH, a⟩ := bindE a
       rcases bb dl with C | C
       ·rw [if_pos C] at a
        obtain ⟨dm, aS, a⟩ := bindE a
        rcases bb dm with Y | Y
        ·rw [if_pos Y] at a
         rcases bb (!ieq p2.ctor p3.ctor) with ax | ax
         ·rw [if_pos ax] at a
          obtain ⟨dn, cT, a⟩ := bindE a
          refine rk fun K hK => ?_
          simp [J, g, s]
          refine cp (c_spec_l11Wide p2 _ aH) ?_
          simp [g, s, C]
          refine cp (c_spec_l11Wide p3 _ aS) ?_
          simp [g, s, C, Y, ax]
          refine cp (c_spec_l1Ctors p0 p1 _ cT) ?_
          simp [g, s, C, Y]
          apply hK
          refine TrD.cond (b := ieq (lenZ dn.length) 2) (by simp) (fun Z => ?_) (fun Z => ?_)
          ·rw [if_pos Z] at a
           apply sq
           obtain ⟨ba, cU, a⟩ := bindE a
           refine rk fun K hK => ?_
           simp [Z]
           refine cp (c_spec_l5Any _ cU) ?_
           simp
           apply hK
           cases a
           cases h
           apply TrD.ret
           exact xD
          rw [iN Z] at a
          apply TrD.skip
          cases a
          refine ToAny.mk () rfl ?_
          rw [c]
          exact gC [8, 16, 24]
         rw [iN ax] at a
         refine rk fun K hK => ?_
         simp [J, g, s]
         refine cp (c_spec_l11Wide p2 _ aH) ?_
         simp [g, s, C]
         refine cp (c_spec_l11Wide p3 _ aS) ?_
         simp [g, s, C, Y, ax]
         apply hK
         refine cF ?_
         apply TrD.skip
         cases a
         refine ToAny.mk () rfl ?_
         rw [c]
         exact gC [8, 16, 24]
        rw [iN Y] at a
        refine rk fun K hK => ?_
        simp [J, g, s]
        refine cp (c_spec_l11Wide p2 _ aH) ?_
        simp [g, s, C]
        refine cp (c_spec_l11Wide p3 _ aS) ?_
        simp [g, s, C, Y]
        apply hK
        refine cF ?_
        apply TrD.skip
        cases a
        refine ToAny.mk () rfl ?_
        rw [c]
        exact gC [8, 16, 24]
       rw [iN C] at a
       refine rk fun K hK => ?_
       simp [J, g, s]
       refine cp (c_spec_l11Wide p2 _ aH) ?_
       simp [g, s, C]
       apply hK
       refine cF ?_
       apply TrD.skip
       cases a
       refine ToAny.mk () rfl ?_
       rw [c]
       exact gC [8, 16, 24]
      rw [iN s] at a
      refine rZ ?_ fun K hK => by simp [J, g, s]; exact hK
      refine cF ?_
      apply TrD.skip
      cases a
      refine ToAny.mk () rfl ?_
      rw [c]
      exact gC [8, 16, 24]
     rw [iN g] at a
     refine rZ ?_ fun K hK => by simp [J, g]; exact hK
     refine cF ?_
     apply TrD.skip
     cases a
     refine ToAny.mk () rfl ?_
     rw [c]
     exact gC [8, 16, 24]
    rw [iN ap] at a
    refine rk fun K hK => ?_
    simp
    refine cp (c_spec_l11Whole p3 _ a4) ?_
    simp [ap]
    apply hK
    refine cF ?_
    apply sq
    rcases bb (ieq p2.op 4) with i | i
    ·rw [if_pos i] at a
     rcases bb (ieq p3.op 4) with t | t
     ·rw [if_pos t] at a
      obtain ⟨dp, aI, a⟩ := bindE a
      rcases bb dp with D | D
      ·rw [if_pos D] at a
       obtain ⟨dq, aT, a⟩ := bindE a
       rcases bb dq with aa | aa
       ·rw [if_pos aa] at a
        rcases bb (!ieq p2.ctor p3.ctor) with ay | ay
        ·rw [if_pos ay] at a
         obtain ⟨dr, cV, a⟩ := bindE a
         refine rk fun K hK => ?_
         simp [i, t]
         refine cp (c_spec_l11Wide p2 _ aI) ?_
         simp [i, t, D]
         refine cp (c_spec_l11Wide p3 _ aT) ?_
         simp [i, t, D, aa, ay]
         refine cp (c_spec_l1Ctors p0 p1 _ cV) ?_
         simp [i, t, D, aa]
         apply hK
         refine TrD.cond (b := ieq (lenZ dr.length) 2) (by simp) (fun ab => ?_) (fun ab => ?_)
         ·rw [if_pos ab] at a
          apply sq
          obtain ⟨bb, cW, a⟩ := bindE a
          refine rk fun K hK => ?_
          simp [ab]
          refine cp (c_spec_l5Any _ cW) ?_
          simp
          apply hK
          cases a
          cases h
          apply TrD.ret
          exact xD
         rw [iN ab] at a
         apply TrD.skip
         cases a
         refine ToAny.mk () rfl ?_
         rw [c]
         exact gC [8, 16, 24]
        rw [iN ay] at a
        refine rk fun K hK => ?_
        simp [i, t]
        refine cp (c_spec_l11Wide p2 _ aI) ?_
        simp [i, t, D]
        refine cp (c_spec_l11Wide p3 _ aT) ?_
        simp [i, t, D, aa, ay]
        apply hK
        refine cF ?_
        apply TrD.skip
        cases a
        refine ToAny.mk () rfl ?_
        rw [c]
        exact gC [8, 16, 24]
       rw [iN aa] at a
       refine rk fun K hK => ?_
       simp [i, t]
       refine cp (c_spec_l11Wide p2 _ aI) ?_
       simp [i, t, D]
       refine cp (c_spec_l11Wide p3 _ aT) ?_
       simp [i, t, D, aa]
       apply hK
       refine cF ?_
       apply TrD.skip
       cases a
       refine ToAny.mk () rfl ?_
       rw [c]
       exact gC [8, 16, 24]
      rw [iN D] at a
      refine rk fun K hK => ?_
      simp [i, t]
      refine cp (c_spec_l11Wide p2 _ aI) ?_
      simp [i, t, D]
      apply hK
      refine cF ?_
      apply TrD.skip
      cases a
      refine ToAny.mk () rfl ?_
      rw [c]
      exact gC [8, 16, 24]
     rw [iN t] at a
     refine rZ ?_ fun K hK => by simp [i, t]; exact hK
     refine cF ?_
     apply TrD.skip
     cases a
     refine ToAny.mk () rfl ?_
     rw [c]
     exact gC [8, 16, 24]
    rw [iN i] at a
    refine rZ ?_ fun K hK => by simp [i]; exact hK
    refine cF ?_
    apply TrD.skip
    cases a
    refine ToAny.mk () rfl ?_
    rw [c]
    exact gC [8, 16, 24]
   rw [iN am] at a
   refine rZ ?_ fun K hK => by simp [P, R, am]; exact hK
   refine cF ?_
   apply sq
   obtain ⟨ds, a5, a⟩ := bindE a
   rcases bb ds with aq | aq
   ·rw [if_pos aq] at a
    obtain ⟨a0, cX, a⟩ := bindE a
    refine rk fun K hK => ?_
    simp
    refine cp (c_spec_l11Whole p3 _ a5) ?_
    simp [aq]
    refine callK (views_same _ _) (.own _ [] [_, _, _] 3 0x0076) [248] (c_spec_l3Vars n [] p0 p1 p2 _ cX) (by decide) (.cons (locRen_eq (by simp) (by simp) (by simp)) .nil) (.cons (ren_sl rfl) (.cons (ren_le (by simp) (by simp)) (.cons (ren_le (by simp) (by simp)) (.cons (ren_le (by simp) (by simp)) .nil)))) (fun dI fa cd => ?_)
    obtain ⟨rfl, rfl⟩ := cd
    refine ⟨by simp, [none, some ⟨3, (List.map rGVarType a0), 0, 0x0076⟩], (.sl 3 249 (a0).length), (.cons (.none _) (.cons (optRen_same (by simp)) .nil)), (ren_sl (by rfl)), ?_⟩
    simp [setMany, newNames, aq]
    apply hK
    refine TrD.cond (b := ieq (lenZ a0.length) 0) (by simp) (fun N => ?_) (fun N => ?_)
    ·rw [if_pos N] at a
     refine sZ ?_ fun K hK => by simp [N]; exact hK
     cases a
     cases h
     apply TrD.ret
     exact xD
    rw [iN N] at a
    apply sq
    rcases bb (ieq p2.op 4) with j | j
    ·rw [if_pos j] at a
     rcases bb (ieq p3.op 4) with u | u
     ·rw [if_pos u] at a
      obtain ⟨dt, aJ, a⟩ := bindE a
      rcases bb dt with E | E
      ·rw [if_pos E] at a
       obtain ⟨du, aU, a⟩ := bindE a
       rcases bb du with ac | ac
       ·rw [if_pos ac] at a
        rcases bb (!ieq p2.ctor p3.ctor) with az | az
        ·rw [if_pos az] at a
         obtain ⟨dv, cY, a⟩ := bindE a
         refine rk fun K hK => ?_
         simp [N, j, u]
         refine cp (c_spec_l11Wide p2 _ aJ) ?_
         simp [j, u, E]
         refine cp (c_spec_l11Wide p3 _ aU) ?_
         simp [j, u, E, ac, az]
         refine cp (c_spec_l1Ctors p0 p1 _ cY) ?_
         simp [j, u, E, ac]
         apply hK
         refine TrD.cond (b := ieq (lenZ dv.length) 2) (by simp) (fun ad => ?_) (fun ad => ?_)
         ·rw [if_pos ad] at a
          apply sq
          obtain ⟨bc, cZ, a⟩ := bindE a
          refine rk fun K hK => ?_
          simp [ad]
          refine cp (c_spec_l5Any _ cZ) ?_
          simp
          apply hK
          cases a
          cases h
          apply TrD.ret
          exact xD
         rw [iN ad] at a
         apply TrD.skip
         cases a
         refine ToAny.mk () rfl ?_
         rw [c]
         exact gC [8, 16, 24]
        rw [iN az] at a
        refine rk fun K hK => ?_
        simp [N, j, u]
        refine cp (c_spec_l11Wide p2 _ aJ) ?_
        simp [j, u, E]
        refine cp (c_spec_l11Wide p3 _ aU) ?_
        simp [j, u, E, ac, az]
        apply hK
        refine cF ?_
        apply TrD.skip
        cases a
        refine ToAny.mk () rfl ?_
        rw [c]
        exact gC [8, 16, 24]
       rw [iN ac] at a
       refine rk fun K hK => ?_
       simp [N, j, u]
       refine cp (c_spec_l11Wide p2 _ aJ) ?_
       simp [j, u, E]
       refine cp (c_spec_l11Wide p3 _ aU) ?_
       simp [j, u, E, ac]
       apply hK
       refine cF ?_
       apply TrD.skip
       cases a
       refine ToAny.mk () rfl ?_
       rw [c]
       exact gC [8, 16, 24]
      rw [iN E] at a
      refine rk fun K hK => ?_
      simp [N, j, u]
      refine cp (c_spec_l11Wide p2 _ aJ) ?_
      simp [j, u, E]
      apply hK
      refine cF ?_
      apply TrD.skip
      cases a
      refine ToAny.mk () rfl ?_
      rw [c]
      exact gC [8, 16, 24]
     rw [iN u] at a
     refine rZ ?_ fun K hK => by simp [N, j, u]; exact hK
     refine cF ?_
     apply TrD.skip
     cases a
     refine ToAny.mk () rfl ?_
     rw [c]
     exact gC [8, 16, 24]
    rw [iN j] at a
    refine rZ ?_ fun K hK => by simp [N, j]; exact hK
    refine cF ?_
    apply TrD.skip
    cases a
    refine ToAny.mk () rfl ?_
    rw [c]
    exact gC [8, 16, 24]
   rw [iN aq] at a
   refine rk fun K hK => ?_
   simp
   refine cp (c_spec_l11Whole p3 _ a5) ?_
   simp [aq]
   apply hK
   refine cF ?_
   apply sq
   rcases bb (ieq p2.op 4) with l | l
   ·rw [if_pos l] at a
    rcases bb (ieq p3.op 4) with v | v
    ·rw [if_pos v] at a
     obtain ⟨dw, aK, a⟩ := bindE a
     rcases bb dw with F | F
     ·rw [if_pos F] at a
      obtain ⟨dx, aV, a⟩ := bindE a
      rcases bb dx with ae | ae
      ·rw [if_pos ae] at a
       rcases bb (!ieq p2.ctor p3.ctor) with aA | aA
       ·rw [if_pos aA] at a
        obtain ⟨dy, c1, a⟩ := bindE a
        refine rk fun K hK => ?_
        simp [l, v]
        refine cp (c_spec_l11Wide p2 _ aK) ?_
        simp [l, v, F]
        refine cp (c_spec_l11Wide p3 _ aV) ?_
        simp [l, v, F, ae, aA]
        refine cp (c_spec_l1Ctors p0 p1 _ c1) ?_
        simp [l, v, F, ae]
        apply hK
        refine TrD.cond (b := ieq (lenZ dy.length) 2) (by simp) (fun af => ?_) (fun af => ?_)
        ·rw [if_pos af] at a
         apply sq
         obtain ⟨bd, c2, a⟩ := bindE a
         refine rk fun K hK => ?_
         simp [af]
         refine cp (c_spec_l5Any _ c2) ?_
         simp
         apply hK
         cases a
         cases h
         apply TrD.ret
         exact xD
        rw [iN af] at a
        apply TrD.skip
        cases a
        refine ToAny.mk () rfl ?_
        rw [c]
        exact gC [8, 16, 24]
       rw [iN aA] at a
       refine rk fun K hK => ?_
       simp [l, v]
       refine cp (c_spec_l11Wide p2 _ aK) ?_
       simp [l, v, F]
       refine cp (c_spec_l11Wide p3 _ aV) ?_
       simp [l, v, F, ae, aA]
       apply hK
       refine cF ?_
       apply TrD.skip
       cases a
       refine ToAny.mk () rfl ?_
       rw [c]
       exact gC [8, 16, 24]
      rw [iN ae] at a
      refine rk fun K hK => ?_
      simp [l, v]
      refine cp (c_spec_l11Wide p2 _ aK) ?_
      simp [l, v, F]
      refine cp (c_spec_l11Wide p3 _ aV) ?_
      simp [l, v, F, ae]
      apply hK
      refine cF ?_
      apply TrD.skip
      cases a
      refine ToAny.mk () rfl ?_
      rw [c]
      exact gC [8, 16, 24]
     rw [iN F] at a
     refine rk fun K hK => ?_
     simp [l, v]
     refine cp (c_spec_l11Wide p2 _ aK) ?_
     simp [l, v, F]
     apply hK
     refine cF ?_
     apply TrD.skip
     cases a
     refine ToAny.mk () rfl ?_
     rw [c]
     exact gC [8, 16, 24]
    rw [iN v] at a
    refine rZ ?_ fun K hK => by simp [l, v]; exact hK
    refine cF ?_
    apply TrD.skip
    cases a
    refine ToAny.mk () rfl ?_
    rw [c]
    exact gC [8, 16, 24]
   rw [iN l] at a
   refine rZ ?_ fun K hK => by simp [l]; exact hK
   refine cF ?_
   apply TrD.skip
   cases a
   refine ToAny.mk () rfl ?_
   rw [c]
   exact gC [8, 16, 24]
  rw [iN R] at a
  refine rZ ?_ fun K hK => by simp [P, R]; exact hK
  refine cF ?_
  apply sq
  obtain ⟨dz, a6, a⟩ := bindE a
  rcases bb dz with ar | ar
  ·rw [if_pos ar] at a
   obtain ⟨a1, c3, a⟩ := bindE a
   refine rk fun K hK => ?_
   simp
   refine cp (c_spec_l11Whole p3 _ a6) ?_
   simp [ar]
   refine callK (views_same _ _) (.own _ [] [_, _, _] 3 0x0076) [224] (c_spec_l3Vars n [] p0 p1 p2 _ c3) (by decide) (.cons (locRen_eq (by simp) (by simp) (by simp)) .nil) (.cons (ren_sl rfl) (.cons (ren_le (by simp) (by simp)) (.cons (ren_le (by simp) (by simp)) (.cons (ren_le (by simp) (by simp)) .nil)))) (fun dJ fb cy => ?_)
   obtain ⟨rfl, rfl⟩ := cy
   refine ⟨by simp, [none, some ⟨3, (List.map rGVarType a1), 0, 0x0076⟩], (.sl 3 225 (a1).length), (.cons (.none _) (.cons (optRen_same (by simp)) .nil)), (ren_sl (by rfl)), ?_⟩
   simp [setMany, newNames, ar]
   apply hK
   refine TrD.cond (b := ieq (lenZ a1.length) 0) (by simp) (fun O => ?_) (fun O => ?_)
   ·rw [if_pos O] at a
    refine sZ ?_ fun K hK => by simp [O]; exact hK
    cases a
    cases h
    apply TrD.ret
    exact xD
   rw [iN O] at a
   apply sq
   rcases bb (ieq p2.op 4) with o | o
   ·rw [if_pos o] at a
    rcases bb (ieq p3.op 4) with w | w
    ·rw [if_pos w] at a
     obtain ⟨dA, aL, a⟩ := bindE a
     rcases bb dA with G | G
     ·rw [if_pos G] at a
      obtain ⟨dB, aW, a⟩ := bindE a
      rcases bb dB with ag | ag
      ·rw [if_pos ag] at a
       rcases bb (!ieq p2.ctor p3.ctor) with aB | aB
       ·rw [if_pos aB] at a
        obtain ⟨dC, c4, a⟩ := bindE a
        refine rk fun K hK => ?_
        simp [O, o, w]
        refine cp (c_spec_l11Wide p2 _ aL) ?_
        simp [o, w, G]
        refine cp (c_spec_l11Wide p3 _ aW) ?_
        simp [o, w, G, ag, aB]
        refine cp (c_spec_l1Ctors p0 p1 _ c4) ?_
        simp [o, w, G, ag]
        apply hK
        refine TrD.cond (b := ieq (lenZ dC.length) 2) (by simp) (fun ah => ?_) (fun ah => ?_)
        ·rw [if_pos ah] at a
         apply sq
         obtain ⟨be, c5, a⟩ := bindE a
         refine rk fun K hK => ?_
         simp [ah]
         refine cp (c_spec_l5Any _ c5) ?_
         simp
         apply hK
         cases a
         cases h
         apply TrD.ret
         exact xD
        rw [iN ah] at a
        apply TrD.skip
        cases a
        refine ToAny.mk () rfl ?_
        rw [c]
        exact gC [8, 16, 24]
       rw [iN aB] at a
       refine rk fun K hK => ?_
       simp [O, o, w]
       refine cp (c_spec_l11Wide p2 _ aL) ?_
       simp [o, w, G]
       refine cp (c_spec_l11Wide p3 _ aW) ?_
       simp [o, w, G, ag, aB]
       apply hK
       refine cF ?_
       apply TrD.skip
       cases a
       refine ToAny.mk () rfl ?_
       rw [c]
       exact gC [8, 16, 24]
      rw [iN ag] at a
      refine rk fun K hK => ?_
      simp [O, o, w]
      refine cp (c_spec_l11Wide p2 _ aL) ?_
      simp [o, w, G]
      refine cp (c_spec_l11Wide p3 _ aW) ?_
      simp [o, w, G, ag]
      apply hK
      refine cF ?_
      apply TrD.skip
      cases a
      refine ToAny.mk () rfl ?_
      rw [c]
      exact gC [8, 16, 24]
     rw [iN G] at a
     refine rk fun K hK => ?_
     simp [O, o, w]
     refine cp (c_spec_l11Wide p2 _ aL) ?_
     simp [o, w, G]
     apply hK
     refine cF ?_
     apply TrD.skip
     cases a
     refine ToAny.mk () rfl ?_
     rw [c]
     exact gC [8, 16, 24]
    rw [iN w] at a
    refine rZ ?_ fun K hK => by simp [O, o, w]; exact hK
    refine cF ?_
    apply TrD.skip
    cases a
    refine ToAny.mk () rfl ?_
    rw [c]
    exact gC [8, 16, 24]
   rw [iN o] at a
   refine rZ ?_ fun K hK => by simp [O, o]; exact hK
   refine cF ?_
   apply TrD.skip
   cases a
   refine ToAny.mk () rfl ?_
   rw [c]
   exact gC [8, 16, 24]
  rw [iN ar] at a
  refine rk fun K hK => ?_
  simp
  refine cp (c_spec_l11Whole p3 _ a6) ?_
  simp [ar]
  apply hK
  refine cF ?_
  apply sq
  rcases bb (ieq p2.op 4) with p | p
  ·rw [if_pos p] at a
   rcases bb (ieq p3.op 4) with y | y
   ·rw [if_pos y] at a
    obtain ⟨dD, aM, a⟩ := bindE a
    rcases bb dD with H | H
    ·rw [if_pos H] at a
     obtain ⟨dE, aX, a⟩ := bindE a
     rcases bb dE with ai | ai
     ·rw [if_pos ai] at a
      rcases bb (!ieq p2.ctor p3.ctor) with aC | aC
      ·rw [if_pos aC] at a
       obtain ⟨dF, c6, a⟩ := bindE a
       refine rk fun K hK => ?_
       simp [p, y]
       refine cp (c_spec_l11Wide p2 _ aM) ?_
       simp [p, y, H]
       refine cp (c_spec_l11Wide p3 _ aX) ?_
       simp [p, y, H, ai, aC]
       refine cp (c_spec_l1Ctors p0 p1 _ c6) ?_
       simp [p, y, H, ai]
       apply hK
       refine TrD.cond (b := ieq (lenZ dF.length) 2) (by simp) (fun aj => ?_) (fun aj => ?_)
       ·rw [if_pos aj] at a
        apply sq
        obtain ⟨bf, c7, a⟩ := bindE a
        refine rk fun K hK => ?_
        simp [aj]
        refine cp (c_spec_l5Any _ c7) ?_
        simp
        apply hK
        cases a
        cases h
        apply TrD.ret
        exact xD
       rw [iN aj] at a
       apply TrD.skip
       cases a
       refine ToAny.mk () rfl ?_
       rw [c]
       exact gC [8, 16, 24]
      rw [iN aC] at a
      refine rk fun K hK => ?_
      simp [p, y]
      refine cp (c_spec_l11Wide p2 _ aM) ?_
      simp [p, y, H]
      refine cp (c_spec_l11Wide p3 _ aX) ?_
      simp [p, y, H, ai, aC]
      apply hK
      refine cF ?_
      apply TrD.skip
      cases a
      refine ToAny.mk () rfl ?_
      rw [c]
      exact gC [8, 16, 24]
     rw [iN ai] at a
     refine rk fun K hK => ?_
     simp [p, y]
     refine cp (c_spec_l11Wide p2 _ aM) ?_
     simp [p, y, H]
     refine cp (c_spec_l11Wide p3 _ aX) ?_
     simp [p, y, H, ai]
     apply hK
     refine cF ?_
     apply TrD.skip
     cases a
     refine ToAny.mk () rfl ?_
     rw [c]
     exact gC [8, 16, 24]
    rw [iN H] at a
    refine rk fun K hK => ?_
    simp [p, y]
    refine cp (c_spec_l11Wide p2 _ aM) ?_
    simp [p, y, H]
    apply hK
    refine cF ?_
    apply TrD.skip
    cases a
    refine ToAny.mk () rfl ?_
    rw [c]
    exact gC [8, 16, 24]
   rw [iN y] at a
   refine rZ ?_ fun K hK => by simp [p, y]; exact hK
   refine cF ?_
   apply TrD.skip
   cases a
   refine ToAny.mk () rfl ?_
   rw [c]
   exact gC [8, 16, 24]
  rw [iN p] at a
  refine rZ ?_ fun K hK => by simp [p]; exact hK
  refine cF ?_
  apply TrD.skip
  cases a
  refine ToAny.mk () rfl ?_
  rw [c]
  exact gC [8, 16, 24]
 subst hz
 try dsimp only at h
 rw [congrFun c bg]
 refine sZ ?_
 cases h
 apply TrD.ret
 refine exitDG (σ' := ⟨(updD (fun _ => .any) 8 (.ptr 6 0 0 0)), hOfO [some ⟨6, [(rGPattern (GPattern.mk 5 0 0 0 0 [p2, p3]))], 0, 0x0020⟩], 1, 112⟩) ?_ ?_
 ·refine (Ghost.raise 19 (by simp; rfl)).trans ?_
  exact gC [2] (hh := (ln.c (lv (L := ⟨6, [[(eI 5), (eI 0), (eI 0), (eI 0), (eI 0), (.sl 6 19 ([p2, p3]).length)]], 0, 0x0020⟩) (by simp) rfl rfl (by simp) (rv_consr (rGPattern_eq _) (.cons (v_free (by simp) (by simp)) (.cons (v_free (by simp) (by simp)) (.cons (v_free (by simp) (by simp)) (.cons (v_free (by simp) (by simp)) (.cons (v_free (by simp) (by simp)) (.cons (v_frz (L := ⟨6, (List.map rGPattern [p2, p3]), ([p2, p3]).length * 6, 0x0020⟩) (by simp) rfl (by simp) (by simp) (rv_free (by simp) (free_rows_of fr_GPattern _))) .nil)))))) rv_nil))))
 simp [resD]
 exact eF
end Go.Proofs.YtimpchdgflhkaaaGreat
