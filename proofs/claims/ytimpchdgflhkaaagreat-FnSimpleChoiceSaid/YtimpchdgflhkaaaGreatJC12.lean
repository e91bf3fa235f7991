import Derived.Test.YtimpchdgflhkaaaGreatJMir
import Derived.Test.YtimpchdgflhkaaaGreatJZap
import Derived.Test.YtimpchdgflhkaaaGreatJC11
import Derived.Test.YtimpchdgflhkaaaGreatJC8
set_option linter.unusedSimpArgs false
set_option linter.unusedVariables false
namespace Go.Proofs.YtimpchdgflhkaaaGreat
open Go Go.RowKit
set_option maxRecDepth 100000
set_option maxHeartbeats 20000000
theorem c_impl_simplifyOr (n : Nat) (p0 : (List GData)) (p1 : GType) (p2 : GPattern) (res : GPattern) (h : m_impl_simplifyOr n p0 p1 p2 = some res) : CallsD Tryz.prog 0o00067 [(.slice 2 (List.map rGData p0)), (.agg (rGType p1)), (.agg (rGPattern p2))] (fun d => d = (.agg (rGPattern res))) := by
 unfold m_impl_simplifyOr at h
 refine CD Tryz.func55 [.cell 6 32] fun β hβ => ?_
 refine sZ ?_
 apply sq
 refine TrD.ghost (σ' := ⟨(updD (updD (updD (updD (fun _ => .any) 0 (.slice 2 (List.map rGData p0))) 4 (.ptr 2 0 0 0)) 5 (.ptr 6 1 0 0)) 6 (.ptr 6 2 0 0)), hOfO [some ⟨2, [(rGType p1)], 0, 0x0019⟩, some ⟨6, [(rGPattern p2)], 0, 0x0020⟩, some ⟨6, [[(eI 0), (eI 0), (eI 0), (eI 0), (eI 0), .nil]], 0, 0x0020⟩], 3, 108⟩) ?_ ?_
 ·exact gC [0, 8, 16]
 obtain ⟨x1, hx1, h⟩ := bindE h
 obtain ⟨x2, hx2, h⟩ := bindE h
 refine TrD.drawZ tysOk mixed [0, 1, 2, 3, 4, 5, 6, 7, 8, 9, 10, 11] [1] [1048584] [] [] (by rfl) rfl 2097152 (Nat.le_of_ble_eq_true rfl) (.inr ⟨Nat.le_of_ble_eq_true rfl, rfl⟩) (fun K hK => ?_)
 simp [idx_inb hx1, idx_row hx1, idx_inb hx2, idx_row hx2]
 apply hK
 obtain ⟨cB, a, h⟩ := bindE h
 obtain ⟨a5, c⟩ : ∃ S : Unit → St, S = fun a4 => ⟨(updD (updD (fun _ => .any) 5 (.ptr 6 0 0 0)) 6 (.ptr 6 1 0 0)), hOfO [some ⟨6, [(rGPattern p2)], 0, 0x0020⟩, some ⟨6, [[(eI 0), (eI 0), (eI 0), (eI 0), (eI 0), .nil]], 0, 0x0020⟩], 2, 108⟩ := ⟨_, rfl⟩
 refine TrD.join a5 (fun z => cB = Ctl.brk z) ?_ (fun a4 hz => ?_)
 ·apply TrD.block
  apply sq
  obtain ⟨cC, aI, a⟩ := bindE a
  rcases bb cC with ay | ay
  ·rw [if_pos ay] at a
   refine rk fun K hK => ?_
   simp
   refine cp (c_impl_PatternSame n x1 x2 _ aI) ?_
   simp [ay]
   apply hK
   refine cT ?_
   refine sZ ?_
   cases a
   cases h
   apply TrD.ret
   exact xD
  rw [iN ay] at a
  refine rk fun K hK => ?_
  simp
  refine cp (c_impl_PatternSame n x1 x2 _ aI) ?_
  simp [ay]
  apply hK
  refine TrD.cond (b := ieq x1.op 1) (by simp) (fun P => ?_) (fun P => ?_)
  ·rw [if_pos P] at a
   refine sZ ?_ fun K hK => by simp [P]; exact hK
   cases a
   cases h
   apply TrD.ret
   exact xD
  rw [iN P] at a
  apply sq
  rcases bb (ieq x1.op 3) with Q | Q
  ·rw [if_pos Q] at a
   rcases bb (ieq x2.op 3) with aa | aa
   ·rw [if_pos aa] at a
    rcases bb (ile x1.n (wadd .i64 x2.m 1)) with az | az
    ·rw [if_pos az] at a
     refine rZ ?_ fun K hK => by simp [P, Q, aa, az]; exact hK
     refine TrD.cond (b := ile x2.n (wadd .i64 x1.m 1)) (by simp) (fun ab => ?_) (fun ab => ?_)
     ·rw [if_pos ab] at a
      apply sq
      obtain ⟨aR, cc, a⟩ := bindE a
      refine rk fun K hK => ?_
      simp [ab]
      refine cp (c_impl_ranged (imin x1.n x2.n) (imax x1.m x2.m) _ cc) ?_
      simp
      apply hK
      cases a
      cases h
      apply TrD.ret
      exact xD
     rw [iN ab] at a
     apply sq
     rcases bb (ieq x2.op 1) with ac | ac
     ·rw [if_pos ac] at a
      obtain ⟨cD, cd, a⟩ := bindE a
      refine rk fun K hK => ?_
      simp [ab, ac]
      refine cp (c_impl_hasVars n x1 _ cd) ?_
      simp [ac]
      apply hK
      refine TrD.cond (b := (!cD)) (by simp) (fun A => ?_) (fun A => ?_)
      ·rw [if_pos A] at a
       apply sq
       obtain ⟨aS, ce, a⟩ := bindE a
       refine rk fun K hK => ?_
       simp [A]
       refine cp (c_impl_anyPattern _ ce) ?_
       simp
       apply hK
       cases a
       cases h
       apply TrD.ret
       exact xD
      rw [iN A] at a
      apply sq
      rcases bb (ieq x1.op 4) with e | e
      ·rw [if_pos e] at a
       rcases bb (ieq x2.op 4) with q | q
       ·rw [if_pos q] at a
        rcases bb (!ieq x1.ctor x2.ctor) with R | R
        ·rw [if_pos R] at a
         obtain ⟨cE, aA, a⟩ := bindE a
         rcases bb cE with E | E
         ·rw [if_pos E] at a
          obtain ⟨cF, aJ, a⟩ := bindE a
          rcases bb cF with ad | ad
          ·rw [if_pos ad] at a
           obtain ⟨cG, cf, a⟩ := bindE a
           refine rk fun K hK => ?_
           simp [A, e, q, R]
           refine cp (c_impl_allAny x1.kids _ aA) ?_
           simp [e, q, E]
           refine cp (c_impl_allAny x2.kids _ aJ) ?_
           simp [e, q, E, ad]
           refine cp (c_impl_ctorsOf p0 p1 _ cf) ?_
           simp [e, q, E, ad]
           apply hK
           refine TrD.cond (b := ieq (lenZ cG.length) 2) (by simp) (fun ae => ?_) (fun ae => ?_)
           ·rw [if_pos ae] at a
            apply sq
            obtain ⟨aT, cg, a⟩ := bindE a
            refine rk fun K hK => ?_
            simp [ae]
            refine cp (c_impl_anyPattern _ cg) ?_
            simp
            apply hK
            cases a
            cases h
            apply TrD.ret
            exact xD
           rw [iN ae] at a
           apply TrD.skip
           cases a
           refine ToAny.mk () rfl ?_
           rw [c]
           exact gC [1, 2]
          rw [iN ad] at a
          refine rk fun K hK => ?_
          simp [A, e, q, R]
          refine cp (c_impl_allAny x1.kids _ aA) ?_
          simp [e, q, E]
          refine cp (c_impl_allAny x2.kids _ aJ) ?_
          simp [e, q, E, ad]
          apply hK
          refine TrD.cond (b := false) (by simp) (fun hb => by cases hb) (fun hb => ?_)
          refine TrD.skip ?_
          cases a
          refine ToAny.mk () rfl ?_
          rw [c]
          exact gC [1, 2]
         rw [iN E] at a
         refine rk fun K hK => ?_
         simp [A, e, q, R]
         refine cp (c_impl_allAny x1.kids _ aA) ?_
         simp [e, q, E]
         apply hK
         refine cF ?_
         apply TrD.skip
         cases a
         refine ToAny.mk () rfl ?_
         rw [c]
         exact gC [1, 2]
        rw [iN R] at a
        refine rZ ?_ fun K hK => by simp [A, e, q, R]; exact hK
        refine cF ?_
        apply TrD.skip
        cases a
        refine ToAny.mk () rfl ?_
        rw [c]
        exact gC [1, 2]
       rw [iN q] at a
       refine rZ ?_ fun K hK => by simp [A, e, q]; exact hK
       refine cF ?_
       apply TrD.skip
       cases a
       refine ToAny.mk () rfl ?_
       rw [c]
       exact gC [1, 2]
      rw [iN e] at a
      refine rZ ?_ fun K hK => by simp [A, e]; exact hK
      refine cF ?_
      apply TrD.skip
      cases a
      refine ToAny.mk () rfl ?_
      rw [c]
      exact gC [1, 2]
     rw [iN ac] at a
     refine rZ ?_ fun K hK => by simp [ab, ac]; exact hK
     refine cF ?_
     apply sq
     rcases bb (ieq x1.op 4) with f | f
     ·rw [if_pos f] at a
      rcases bb (ieq x2.op 4) with r | r
      ·rw [if_pos r] at a
       rcases bb (!ieq x1.ctor x2.ctor) with T | T
       ·rw [if_pos T] at a
        obtain ⟨cH, aB, a⟩ := bindE a
        rcases bb cH with F | F
        ·rw [if_pos F] at a
         obtain ⟨cI, aK, a⟩ := bindE a
         rcases bb cI with af | af
         ·rw [if_pos af] at a
          obtain ⟨cJ, ch, a⟩ := bindE a
          refine rk fun K hK => ?_
          simp [f, r, T]
          refine cp (c_impl_allAny x1.kids _ aB) ?_
          simp [f, r, F]
          refine cp (c_impl_allAny x2.kids _ aK) ?_
          simp [f, r, F, af]
          refine cp (c_impl_ctorsOf p0 p1 _ ch) ?_
          simp [f, r, F, af]
          apply hK
          refine TrD.cond (b := ieq (lenZ cJ.length) 2) (by simp) (fun ag => ?_) (fun ag => ?_)
          ·rw [if_pos ag] at a
           apply sq
           obtain ⟨aU, ci, a⟩ := bindE a
           refine rk fun K hK => ?_
           simp [ag]
           refine cp (c_impl_anyPattern _ ci) ?_
           simp
           apply hK
           cases a
           cases h
           apply TrD.ret
           exact xD
          rw [iN ag] at a
          apply TrD.skip
          cases a
          refine ToAny.mk () rfl ?_
          rw [c]
          exact gC [1, 2]
         rw [iN af] at a
         refine rk fun K hK => ?_
         simp [f, r, T]
         refine cp (c_impl_allAny x1.kids _ aB) ?_
         simp [f, r, F]
         refine cp (c_impl_allAny x2.kids _ aK) ?_
         simp [f, r, F, af]
         apply hK
         refine cF ?_
         apply TrD.skip
         cases a
         refine ToAny.mk () rfl ?_
         rw [c]
         exact gC [1, 2]
        rw [iN F] at a
        refine rk fun K hK => ?_
        simp [f, r, T]
        refine cp (c_impl_allAny x1.kids _ aB) ?_
        simp [f, r, F]
        apply hK
        refine cF ?_
        apply TrD.skip
        cases a
        refine ToAny.mk () rfl ?_
        rw [c]
        exact gC [1, 2]
       rw [iN T] at a
       refine rZ ?_ fun K hK => by simp [f, r, T]; exact hK
       refine cF ?_
       apply TrD.skip
       cases a
       refine ToAny.mk () rfl ?_
       rw [c]
       exact gC [1, 2]
      rw [iN r] at a
      refine rZ ?_ fun K hK => by simp [f, r]; exact hK
      refine cF ?_
      apply TrD.skip
      cases a
      refine ToAny.mk () rfl ?_
      rw [c]
      exact gC [1, 2]
     rw [iN f] at a
     refine rZ ?_ fun K hK => by simp [f]; exact hK
     refine cF ?_
     apply TrD.skip
     cases a
     refine ToAny.mk () rfl ?_
     rw [c]
     exact gC [1, 2]
    rw [iN az] at a
    refine rZ ?_ fun K hK => by simp [P, Q, aa, az]; exact hK
    refine cF ?_
    apply sq
    rcases bb (ieq x2.op 1) with ah | ah
    ·rw [if_pos ah] at a
     obtain ⟨cK, cj, a⟩ := bindE a
     refine rk fun K hK => ?_
     simp [ah]
     refine cp (c_impl_hasVars n x1 _ cj) ?_
     simp [ah]
     apply hK
     refine TrD.cond (b := (!cK)) (by simp) (fun B => ?_) (fun B => ?_)
     ·rw [if_pos B] at a
      apply sq
      obtain ⟨aV, ck, a⟩ := bindE a
      refine rk fun K hK => ?_
      simp [B]
      refine cp (c_impl_anyPattern _ ck) ?_
      simp
      apply hK
      cases a
      cases h
      apply TrD.ret
      exact xD
     rw [iN B] at a
     apply sq
     rcases bb (ieq x1.op 4) with g | g
     ·rw [if_pos g] at a
      rcases bb (ieq x2.op 4) with s | s
      ·rw [if_pos s] at a
       rcases bb (!ieq x1.ctor x2.ctor) with U | U
       ·rw [if_pos U] at a
        obtain ⟨cL, aC, a⟩ := bindE a
        rcases bb cL with G | G
        ·rw [if_pos G] at a
         obtain ⟨cM, aL, a⟩ := bindE a
         rcases bb cM with ai | ai
         ·rw [if_pos ai] at a
          obtain ⟨cN, cl, a⟩ := bindE a
          refine rk fun K hK => ?_
          simp [B, g, s, U]
          refine cp (c_impl_allAny x1.kids _ aC) ?_
          simp [g, s, G]
          refine cp (c_impl_allAny x2.kids _ aL) ?_
          simp [g, s, G, ai]
          refine cp (c_impl_ctorsOf p0 p1 _ cl) ?_
          simp [g, s, G, ai]
          apply hK
          refine TrD.cond (b := ieq (lenZ cN.length) 2) (by simp) (fun aj => ?_) (fun aj => ?_)
          ·rw [if_pos aj] at a
           apply sq
           obtain ⟨aW, cm, a⟩ := bindE a
           refine rk fun K hK => ?_
           simp [aj]
           refine cp (c_impl_anyPattern _ cm) ?_
           simp
           apply hK
           cases a
           cases h
           apply TrD.ret
           exact xD
          rw [iN aj] at a
          apply TrD.skip
          cases a
          refine ToAny.mk () rfl ?_
          rw [c]
          exact gC [1, 2]
         rw [iN ai] at a
         refine rk fun K hK => ?_
         simp [B, g, s, U]
         refine cp (c_impl_allAny x1.kids _ aC) ?_
         simp [g, s, G]
         refine cp (c_impl_allAny x2.kids _ aL) ?_
         simp [g, s, G, ai]
         apply hK
         refine cF ?_
         apply TrD.skip
         cases a
         refine ToAny.mk () rfl ?_
         rw [c]
         exact gC [1, 2]
        rw [iN G] at a
        refine rk fun K hK => ?_
        simp [B, g, s, U]
        refine cp (c_impl_allAny x1.kids _ aC) ?_
        simp [g, s, G]
        apply hK
        refine cF ?_
        apply TrD.skip
        cases a
        refine ToAny.mk () rfl ?_
        rw [c]
        exact gC [1, 2]
       rw [iN U] at a
       refine rZ ?_ fun K hK => by simp [B, g, s, U]; exact hK
       refine cF ?_
       apply TrD.skip
       cases a
       refine ToAny.mk () rfl ?_
       rw [c]
       exact gC [1, 2]
      rw [iN s] at a
      refine rZ ?_ fun K hK => by simp [B, g, s]; exact hK
      refine cF ?_
      apply TrD.skip
      cases a
      refine ToAny.mk () rfl ?_
      rw [c]
      exact gC [1, 2]
     rw [iN g] at a
     refine rZ ?_ fun K hK => by simp [B, g]; exact hK
     refine cF ?_
     apply TrD.skip
     cases a
     refine ToAny.mk () rfl ?_
     rw [c]
     exact gC [1, 2]
    rw [iN ah] at a
    refine rZ ?_ fun K hK => by simp [ah]; exact hK
    refine cF ?_
    apply sq
    rcases bb (ieq x1.op 4) with i | i
    ·rw [if_pos i] at a
     rcases bb (ieq x2.op 4) with t | t
     ·rw [if_pos t] at a
      rcases bb (!ieq x1.ctor x2.ctor) with V | V
      ·rw [if_pos V] at a
       obtain ⟨cO, aD, a⟩ := bindE a
       rcases bb cO with H | H
       ·rw [if_pos H] at a
        obtain ⟨cP, aM, a⟩ := bindE a
        rcases bb cP with ak | ak
        ·rw [if_pos ak] at a
         obtain ⟨cQ, cn, a⟩ := bindE a
         refine rk fun K hK => ?_
         simp [i, t, V]
         refine cp (c_impl_allAny x1.kids _ aD) ?_
         simp [i, t, H]
         refine cp (c_impl_allAny x2.kids _ aM) ?_
         simp [i, t, H, ak]
         refine cp (c_impl_ctorsOf p0 p1 _ cn) ?_
         simp [i, t, H, ak]
         apply hK
         refine TrD.cond (b := ieq (lenZ cQ.length) 2) (by simp) (fun al => ?_) (fun al => ?_)
         ·rw [if_pos al] at a
          apply sq
          obtain ⟨aX, co, a⟩ := bindE a
          refine rk fun K hK => ?_
          simp [al]
          refine cp (c_impl_anyPattern _ co) ?_
          simp
          apply hK
          cases a
          cases h
          apply TrD.ret
          exact xD
         rw [iN al] at a
         apply TrD.skip
         cases a
         refine ToAny.mk () rfl ?_
         rw [c]
         exact gC [1, 2]
        rw [iN ak] at a
        refine rk fun K hK => ?_
        simp [i, t, V]
        refine cp (c_impl_allAny x1.kids _ aD) ?_
        simp [i, t, H]
        refine cp (c_impl_allAny x2.kids _ aM) ?_
        simp [i, t, H, ak]
        apply hK
        refine cF ?_
        apply TrD.skip
        cases a
        refine ToAny.mk () rfl ?_
        rw [c]
        exact gC [1, 2]
       rw [iN H] at a
       refine rk fun K hK => ?_
       simp [i, t, V]
       refine cp (c_impl_allAny x1.kids _ aD) ?_
       simp [i, t, H]
       apply hK
       refine cF ?_
       apply TrD.skip
       cases a
       refine ToAny.mk () rfl ?_
       rw [c]
       exact gC [1, 2]
      rw [iN V] at a
      refine rZ ?_ fun K hK => by simp [i, t, V]; exact hK
      refine cF ?_
      apply TrD.skip
      cases a
      refine ToAny.mk () rfl ?_
      rw [c]
      exact gC [1, 2]
     rw [iN t] at a
     refine rZ ?_ fun K hK => by simp [i, t]; exact hK
     refine cF ?_
     apply TrD.skip
     cases a
     refine ToAny.mk () rfl ?_
     rw [c]
     exact gC [1, 2]
    rw [iN i] at a
    refine rZ ?_ fun K hK => by simp [i]; exact hK
    refine cF ?_
    apply TrD.skip
    cases a
    refine ToAny.mk () rfl ?_
    rw [c]
    exact gC [1, 2]
   rw [iN aa] at a
   refine rZ ?_ fun K hK => by simp [P, Q, aa]; exact hK
   refine cF ?_
   apply sq
   rcases bb (ieq x2.op 1) with am | am
   ·rw [if_pos am] at a
    obtain ⟨cR, cp, a⟩ := bindE a
    refine rk fun K hK => ?_
    simp [am]
    refine callP (c_impl_hasVars n x1 _ cp) (by simp) (by simp) (fun dN bN => ?_)
    subst bN
    simp [am]
    apply hK
    refine TrD.cond (b := (!cR)) (by simp) (fun C => ?_) (fun C => ?_)
    ·rw [if_pos C] at a
     apply sq
     obtain ⟨aY, cq, a⟩ := bindE a
     refine rk fun K hK => ?_
     simp [C]
     refine callP (c_impl_anyPattern _ cq) (by simp) (by simp) (fun dF bF => ?_)
     subst bF
     simp
     apply hK
     cases a
     cases h
     apply TrD.ret
     exact xD
    rw [iN C] at a
    apply sq
    rcases bb (ieq x1.op 4) with j | j
    ·rw [if_pos j] at a
     rcases bb (ieq x2.op 4) with u | u
     ·rw [if_pos u] at a
      rcases bb (!ieq x1.ctor x2.ctor) with W | W
      ·rw [if_pos W] at a
       obtain ⟨cS, aE, a⟩ := bindE a
       rcases bb cS with I | I
       ·rw [if_pos I] at a
        obtain ⟨cT, aN, a⟩ := bindE a
        rcases bb cT with an | an
        ·rw [if_pos an] at a
         obtain ⟨cU, cr, a⟩ := bindE a
         refine rk fun K hK => ?_
         simp [C, j, u, W]
         refine callP (c_impl_allAny x1.kids _ aE) (by simp) (by simp) (fun dH bH => ?_)
         subst bH
         simp [j, u, I]
         refine callP (c_impl_allAny x2.kids _ aN) (by simp) (by simp) (fun dI bI => ?_)
         subst bI
         simp [j, u, I, an]
         refine callP (c_impl_ctorsOf p0 p1 _ cr) (by simp) (by simp) (fun dJ bJ => ?_)
         subst bJ
         simp [j, u, I, an]
         apply hK
         refine TrD.cond (b := ieq (lenZ cU.length) 2) (by simp) (fun ao => ?_) (fun ao => ?_)
         ·rw [if_pos ao] at a
          apply sq
          obtain ⟨aZ, cs, a⟩ := bindE a
          refine rk fun K hK => ?_
          simp [ao]
          refine callP (c_impl_anyPattern _ cs) (by simp) (by simp) (fun dG bG => ?_)
          subst bG
          simp
          apply hK
          cases a
          cases h
          apply TrD.ret
          exact xD
         rw [iN ao] at a
         apply TrD.skip
         cases a
         refine ToAny.mk () rfl ?_
         rw [c]
         exact gC [1, 2]
        rw [iN an] at a
        refine rk fun K hK => ?_
        simp [C, j, u, W]
        refine callP (c_impl_allAny x1.kids _ aE) (by simp) (by simp) (fun dK bK => ?_)
        subst bK
        simp [j, u, I]
        refine callP (c_impl_allAny x2.kids _ aN) (by simp) (by simp) (fun dL bL => ?_)
        subst bL
        simp [j, u, I, an]
        apply hK
        refine cF ?_
        apply TrD.skip
        cases a
        refine ToAny.mk () rfl ?_
        rw [c]
        exact gC [1, 2]
       rw [iN I] at a
       refine rk fun K hK => ?_
       simp [C, j, u, W]
       refine callP (c_impl_allAny x1.kids _ aE) (by simp) (by simp) (fun dM bM => ?_)
       subst bM
       simp [j, u, I]
       apply hK
       refine cF ?_
       apply TrD.skip
       cases a
       refine ToAny.mk () rfl ?_
       rw [c]
       exact gC [1, 2]
      rw [iN W] at a
      refine rZ ?_ fun K hK => by simp [C, j, u, W]; exact hK
      refine cF ?_
      apply TrD.skip
      cases a
      refine ToAny.mk () rfl ?_
      rw [c]
      exact gC [1, 2]
     rw [iN u] at a
     refine rZ ?_ fun K hK => by simp [C, j, u]; exact hK
     refine cF ?_
     apply TrD.skip
     cases a
     refine ToAny.mk () rfl ?_
     rw [c]
     exact gC [1, 2]
    rw [iN j] at a
    refine rZ ?_ fun K hK => by simp [C, j]; exact hK
    refine cF ?_
    apply TrD.skip
    cases a
    refine ToAny.mk () rfl ?_
    rw [c]
    exact gC [1, 2]
   rw [iN am] at a
   refine rZ ?_ fun K hK => by simp [am]; exact hK
   refine cF ?_
   apply sq
   rcases bb (ieq x1.op 4) with l | l
   ·rw [if_pos l] at a
    rcases bb (ieq x2.op 4) with v | v
    ·rw [if_pos v] at a
     rcases bb (!ieq x1.ctor x2.ctor) with X | X
     ·rw [if_pos X] at a
      obtain ⟨cV, aF, a⟩ := bindE a
      rcases bb cV with J | J
      ·rw [if_pos J] at a
       obtain ⟨cW, aO, a⟩ := bindE a
       rcases bb cW with ap | ap
       ·rw [if_pos ap] at a
        obtain ⟨cX, ct, a⟩ := bindE a
        refine rk fun K hK => ?_
        simp [l, v, X]
        refine cp (c_impl_allAny x1.kids _ aF) ?_
        simp [l, v, J]
        refine cp (c_impl_allAny x2.kids _ aO) ?_
        simp [l, v, J, ap]
        refine cp (c_impl_ctorsOf p0 p1 _ ct) ?_
        simp [l, v, J, ap]
        apply hK
        refine TrD.cond (b := ieq (lenZ cX.length) 2) (by simp) (fun aq => ?_) (fun aq => ?_)
        ·rw [if_pos aq] at a
         apply sq
         obtain ⟨a0, cu, a⟩ := bindE a
         refine rk fun K hK => ?_
         simp [aq]
         refine cp (c_impl_anyPattern _ cu) ?_
         simp
         apply hK
         cases a
         cases h
         apply TrD.ret
         exact xD
        rw [iN aq] at a
        apply TrD.skip
        cases a
        refine ToAny.mk () rfl ?_
        rw [c]
        exact gC [1, 2]
       rw [iN ap] at a
       refine rk fun K hK => ?_
       simp [l, v, X]
       refine cp (c_impl_allAny x1.kids _ aF) ?_
       simp [l, v, J]
       refine cp (c_impl_allAny x2.kids _ aO) ?_
       simp [l, v, J, ap]
       apply hK
       refine cF ?_
       apply TrD.skip
       cases a
       refine ToAny.mk () rfl ?_
       rw [c]
       exact gC [1, 2]
      rw [iN J] at a
      refine rk fun K hK => ?_
      simp [l, v, X]
      refine cp (c_impl_allAny x1.kids _ aF) ?_
      simp [l, v, J]
      apply hK
      refine cF ?_
      apply TrD.skip
      cases a
      refine ToAny.mk () rfl ?_
      rw [c]
      exact gC [1, 2]
     rw [iN X] at a
     refine rZ ?_ fun K hK => by simp [l, v, X]; exact hK
     refine cF ?_
     apply TrD.skip
     cases a
     refine ToAny.mk () rfl ?_
     rw [c]
     exact gC [1, 2]
    rw [iN v] at a
    refine rZ ?_ fun K hK => by simp [l, v]; exact hK
    refine cF ?_
    apply TrD.skip
    cases a
    refine ToAny.mk () rfl ?_
    rw [c]
    exact gC [1, 2]
   rw [iN l] at a
   refine rZ ?_ fun K hK => by simp [l]; exact hK
   refine cF ?_
   apply TrD.skip
   cases a
   refine ToAny.mk () rfl ?_
   rw [c]
   exact gC [1, 2]
  rw [iN Q] at a
  refine rZ ?_ fun K hK => by simp [P, Q]; exact hK
  refine cF ?_
  apply sq
  rcases bb (ieq x2.op 1) with ar | ar
  ·rw [if_pos ar] at a
   obtain ⟨cY, cv, a⟩ := bindE a
   refine rk fun K hK => ?_
   simp [ar]
   refine cp (c_impl_hasVars n x1 _ cv) ?_
   simp [ar]
   apply hK
   refine TrD.cond (b := (!cY)) (by simp) (fun D => ?_) (fun D => ?_)
   ·rw [if_pos D] at a
    apply sq
    obtain ⟨a1, cw, a⟩ := bindE a
    refine rk fun K hK => ?_
    simp [D]
    refine cp (c_impl_anyPattern _ cw) ?_
    simp
    apply hK
    cases a
    cases h
    apply TrD.ret
    exact xD
   rw [iN D] at a
   apply sq
   rcases bb (ieq x1.op 4) with o | o
   ·rw [if_pos o] at a
    rcases bb (ieq x2.op 4) with w | w
    ·rw [if_pos w] at a
     rcases bb (!ieq x1.ctor x2.ctor) with Y | Y
     ·rw [if_pos Y] at a
      obtain ⟨cZ, aG, a⟩ := bindE a
      rcases bb cZ with N | N
      ·rw [if_pos N] at a
       obtain ⟨c1, aP, a⟩ := bindE a
       rcases bb c1 with au | au
       ·rw [if_pos au] at a
        obtain ⟨c2, cx, a⟩ := bindE a
        refine rk fun K hK => ?_
        simp [D, o, w, Y]
        refine cp (c_impl_allAny x1.kids _ aG) ?_
        simp [o, w, N]
        refine cp (c_impl_allAny x2.kids _ aP) ?_
        simp [o, w, N, au]
        refine cp (c_impl_ctorsOf p0 p1 _ cx) ?_
        simp [o, w, N, au]
        apply hK
        refine TrD.cond (b := ieq (lenZ c2.length) 2) (by simp) (fun av => ?_) (fun av => ?_)
        ·rw [if_pos av] at a
         apply sq
         obtain ⟨a2, cy, a⟩ := bindE a
         refine rk fun K hK => ?_
         simp [av]
         refine cp (c_impl_anyPattern _ cy) ?_
         simp
         apply hK
         cases a
         cases h
         apply TrD.ret
         exact xD
        rw [iN av] at a
        apply TrD.skip
        cases a
        refine ToAny.mk () rfl ?_
        rw [c]
        exact gC [1, 2]
       rw [iN au] at a
       refine rk fun K hK => ?_
       simp [D, o, w, Y]
       refine cp (c_impl_allAny x1.kids _ aG) ?_
       simp [o, w, N]
       refine cp (c_impl_allAny x2.kids _ aP) ?_
       simp [o, w, N, au]
       apply hK
       refine cF ?_
       apply TrD.skip
       cases a
       refine ToAny.mk () rfl ?_
       rw [c]
       exact gC [1, 2]
      rw [iN N] at a
      refine rk fun K hK => ?_
      simp [D, o, w, Y]
      refine cp (c_impl_allAny x1.kids _ aG) ?_
      simp [o, w, N]
      apply hK
      refine cF ?_
      apply TrD.skip
      cases a
      refine ToAny.mk () rfl ?_
      rw [c]
      exact gC [1, 2]
     rw [iN Y] at a
     refine rZ ?_ fun K hK => by simp [D, o, w, Y]; exact hK
     refine cF ?_
     apply TrD.skip
     cases a
     refine ToAny.mk () rfl ?_
     rw [c]
     exact gC [1, 2]
    rw [iN w] at a
    refine rZ ?_ fun K hK => by simp [D, o, w]; exact hK
    refine cF ?_
    apply TrD.skip
    cases a
    refine ToAny.mk () rfl ?_
    rw [c]
    exact gC [1, 2]
   rw [iN o] at a
   refine rZ ?_ fun K hK => by simp [D, o]; exact hK
   refine cF ?_
   apply TrD.skip
   cases a
   refine ToAny.mk () rfl ?_
   rw [c]
   exact gC [1, 2]
  rw [iN ar] at a
  refine rZ ?_ fun K hK => by simp [ar]; exact hK
  refine cF ?_
  apply sq
  rcases bb (ieq x1.op 4) with p | p
  ·rw [if_pos p] at a
   rcases bb (ieq x2.op 4) with y | y
   ·rw [if_pos y] at a
    rcases bb (!ieq x1.ctor x2.ctor) with Z | Z
    ·rw [if_pos Z] at a
     obtain ⟨c3, aH, a⟩ := bindE a
     rcases bb c3 with O | O
     ·rw [if_pos O] at a
      obtain ⟨c4, aQ, a⟩ := bindE a
      rcases bb c4 with aw | aw
      ·rw [if_pos aw] at a
       obtain ⟨c5, cz, a⟩ := bindE a
       refine rk fun K hK => ?_
       simp [p, y, Z]
       refine cp (c_impl_allAny x1.kids _ aH) ?_
       simp [p, y, O]
       refine cp (c_impl_allAny x2.kids _ aQ) ?_
       simp [p, y, O, aw]
       refine cp (c_impl_ctorsOf p0 p1 _ cz) ?_
       simp [p, y, O, aw]
       apply hK
       refine TrD.cond (b := ieq (lenZ c5.length) 2) (by simp) (fun ax => ?_) (fun ax => ?_)
       ·rw [if_pos ax] at a
        apply sq
        obtain ⟨a3, cA, a⟩ := bindE a
        refine rk fun K hK => ?_
        simp [ax]
        refine cp (c_impl_anyPattern _ cA) ?_
        simp
        apply hK
        cases a
        cases h
        apply TrD.ret
        exact xD
       rw [iN ax] at a
       apply TrD.skip
       cases a
       refine ToAny.mk () rfl ?_
       rw [c]
       exact gC [1, 2]
      rw [iN aw] at a
      refine rk fun K hK => ?_
      simp [p, y, Z]
      refine cp (c_impl_allAny x1.kids _ aH) ?_
      simp [p, y, O]
      refine cp (c_impl_allAny x2.kids _ aQ) ?_
      simp [p, y, O, aw]
      apply hK
      refine cF ?_
      apply TrD.skip
      cases a
      refine ToAny.mk () rfl ?_
      rw [c]
      exact gC [1, 2]
     rw [iN O] at a
     refine rk fun K hK => ?_
     simp [p, y, Z]
     refine cp (c_impl_allAny x1.kids _ aH) ?_
     simp [p, y, O]
     apply hK
     refine cF ?_
     apply TrD.skip
     cases a
     refine ToAny.mk () rfl ?_
     rw [c]
     exact gC [1, 2]
    rw [iN Z] at a
    refine rZ ?_ fun K hK => by simp [p, y, Z]; exact hK
    refine cF ?_
    apply TrD.skip
    cases a
    refine ToAny.mk () rfl ?_
    rw [c]
    exact gC [1, 2]
   rw [iN y] at a
   refine rZ ?_ fun K hK => by simp [p, y]; exact hK
   refine cF ?_
   apply TrD.skip
   cases a
   refine ToAny.mk () rfl ?_
   rw [c]
   exact gC [1, 2]
  rw [iN p] at a
  refine rZ ?_ fun K hK => by simp [p]; exact hK
  refine cF ?_
  apply TrD.skip
  cases a
  refine ToAny.mk () rfl ?_
  rw [c]
  exact gC [1, 2]
 subst hz
 try dsimp only at h
 rw [congrFun c a4]
 refine sZ ?_
 cases h
 apply TrD.ret
 exact xD
theorem c_impl_simplify : ∀ (n : Nat) (p0 : (List GData)) (p1 : GType) (p2 : GPattern) (res : GPattern), m_impl_simplify n p0 p1 p2 = some res → CallsD Tryz.prog 0o00026 [(.slice 2 (List.map rGData p0)), (.agg (rGType p1)), (.agg (rGPattern p2))] (fun d => d = (.agg (rGPattern res))) := by
 intro n
 induction n with
 | zero => intro p0 p1 p2 res h; cases h
 | succ n ih =>
  intro p0 p1 p2 res h
  rw [m_impl_simplify.eq_2] at h
  refine CD Tryz.func22 [.cell 6 32] fun β hβ => ?_
  refine sZ ?_
  apply sq
  obtain ⟨r1, hr1, h⟩ := bindE h
  refine rk fun K hK => ?_
  simp
  refine cp (c_impl_kidTypes p0 p1 p2 _ hr1) ?_
  simp
  apply hK
  refine sZ ?_
  refine sZ ?_
  apply sq
  refine sZ ?_
  obtain ⟨ah, Q, h⟩ := bindE h
  obtain ⟨N, B⟩ : ∃ S : (List GPattern) → St, S = fun c => ⟨(updD (updD (updD (updD (updD (fun _ => .any) 0 (.slice 2 (List.map rGData p0))) 4 (.ptr 2 0 0 0)) 5 (.ptr 6 1 0 0)) 6 (.ptr 6 2 0 0)) 8 (.ptr 6 3 0 0)), hOfO [some ⟨2, [(rGType p1)], 0, 0x0019⟩, some ⟨6, [(rGPattern p2)], 0, 0x0020⟩, some ⟨6, [[(eI 0), (eI 0), (eI 0), (eI 0), (eI 0), .nil]], 0, 0x0020⟩, some ⟨6, [[(eI p2.op), (eI p2.ctor), (eI p2.n), (eI p2.m), (eI p2.var), (.sl 6 4 (c).length)]], 0, 0x0020⟩, some ⟨6, (List.map rGPattern c), 0, 0x0020⟩], 5, 78⟩ := ⟨_, rfl⟩
  refine TrD.joinQ N (fun z => ah = Ctl.brk z) (fun _ _ hg h => TrD.ghost hg h) ?_ (fun c hz => ?_)
  ·apply TrD.block
   obtain ⟨P, u⟩ : ∃ S : Nat → (List GPattern) → St, S = fun g e => ⟨(updD (updD (updD (updD (updD (updD (updD (updD (updD (fun _ => .any) 0 (.slice 2 (List.map rGData p0))) 4 (.ptr 2 0 0 0)) 5 (.ptr 6 1 0 0)) 6 (.ptr 6 2 0 0)) 7 (.slice 2 (List.map rGType r1))) 8 (.ptr 6 3 0 0)) 18 (.slice 6 (List.map rGPattern p2.kids))) 19 (eI (lenZ p2.kids.length))) 20 (eI (g : Int))), hOfO [some ⟨2, [(rGType p1)], 0, 0x0019⟩, some ⟨6, [(rGPattern p2)], 0, 0x0020⟩, some ⟨6, [[(eI 0), (eI 0), (eI 0), (eI 0), (eI 0), .nil]], 0, 0x0020⟩, some ⟨6, [[(eI p2.op), (eI p2.ctor), (eI p2.n), (eI p2.m), (eI p2.var), (.sl 6 4 (e).length)]], 0, 0x0020⟩, some ⟨6, (List.map rGPattern e), 0, 0x0020⟩], 5, 78⟩ := ⟨_, rfl⟩
   refine TrD.limS (sz := 6) (rows := List.map rGPattern p2.kids) (seen_slot (d := .slice 6 (List.map rGPattern p2.kids)) 18 (by simp)) (fun hlim => ?_)
   rw [List.length_map] at hlim
   refine TrD.forL P Q hlim ?_ (fun g y e F ap aq af f ar i ao an => ?_) (fun e ak => ?_)
   ·rw [u]
    refine (Ghost.ownNilCell 72 5 6 0x0020 (by simp; rfl) rfl (by simp) (by simp)).trans ?_
    exact gC [0, 8, 16, 72, 136]
   ·rw [congrFun (congrFun u g) e]
    refine sZ ?_ fun K hK => by simp [af]; exact hK
    apply sq
    refine cT ?_
    apply TrD.skip
    apply sq
    apply TrD.block
    refine sZ ?_ fun K hK => by simp [idx_inb F, idx_row F]; exact hK
    refine TrD.ghost (σ' := ⟨(updD (updD (updD (updD (updD (updD (updD (updD (updD (updD (updD (fun _ => .any) 0 (.slice 2 (List.map rGData p0))) 4 (.ptr 2 0 0 0)) 5 (.ptr 6 1 0 0)) 6 (.ptr 6 2 0 0)) 7 (.slice 2 (List.map rGType r1))) 8 (.ptr 6 3 0 0)) 9 (eI (g : Int))) 10 (.ptr 6 5 0 0)) 18 (.slice 6 (List.map rGPattern p2.kids))) 19 (eI (lenZ p2.kids.length))) 20 (eI (g : Int))), hOfO [some ⟨2, [(rGType p1)], 0, 0x0019⟩, some ⟨6, [(rGPattern p2)], 0, 0x0020⟩, some ⟨6, [[(eI 0), (eI 0), (eI 0), (eI 0), (eI 0), .nil]], 0, 0x0020⟩, some ⟨6, [[(eI p2.op), (eI p2.ctor), (eI p2.n), (eI p2.m), (eI p2.var), (.sl 6 4 (e).length)]], 0, 0x0020⟩, some ⟨6, (List.map rGPattern e), 0, 0x0020⟩, some ⟨6, [(rGPattern y)], 0, 0x0020⟩], 6, 78⟩) ?_ ?_
    ·exact gC [0, 1, 2, 3, 4, 37]
    obtain ⟨am, D, i⟩ := bindE i
    obtain ⟨aC, ae, i⟩ := bindE i
    obtain ⟨A, v, i⟩ := bindE i
    have E := (app_some v).2
    try simp only [List.length_cons, List.length_nil, Nat.zero_add] at E
    refine TrD.draw tysOk mixed [0, 1, 2, 3, 4, 5, 6, 7, 8, 9, 10, 11, 12] [3, 5] [36] (by rfl) rfl (fun K hK => ?_)
    simp [idx_inb D, idx_row D]
    refine cp (ih p0 am y _ ae) ?_
    simp [E]
    apply hK
    refine rZ ?_
    cases i
    refine ToAny.mk A rfl ?_
    rw [u]
    exact Ghost.canonV 0 [0, 1, 2, 3, 22] _ _ hβ (keep_first (by decide)) (by decide) (vT_upd (v_of (d0 := (eI (wadd .i64 (g : Int) 1))) (by simp [f]) (v_free (by simp) (by simp [f]))) (vT_upd (v_of (d0 := (eI (lenZ p2.kids.length))) (by simp [f]) (v_free (by simp) (by simp))) (vT_upd (v_of (d0 := (.slice 6 (List.map rGPattern p2.kids))) (by simp [f]) (v_free (by simp) (by simp))) (vT_upd (v_of (d0 := (.ptr 6 3 0 0)) (by simp [f]) (v_ptr rfl)) (vT_upd (v_of (d0 := (.slice 2 (List.map rGType r1))) (by simp [f]) (v_free (by simp) (by simp))) (vT_upd (v_of (d0 := (.ptr 6 2 0 0)) (by simp [f]) (v_ptr rfl)) (vT_upd (v_of (d0 := (.ptr 6 1 0 0)) (by simp [f]) (v_ptr rfl)) (vT_upd (v_of (d0 := (.ptr 2 0 0 0)) (by simp [f]) (v_ptr rfl)) (vT_upd (v_of (d0 := (.slice 2 (List.map rGData p0))) (by simp [f]) (v_free (by simp) (by simp))) (vT_any _)))))))))) (.cons (lv (L := ⟨2, [(rGType p1)], 0, 0x0019⟩) (by simp) rfl rfl (by simp) (rv_free (by simp) (by simp))) (.cons (lv (L := ⟨6, [(rGPattern p2)], 0, 0x0020⟩) (by simp) rfl rfl (by simp) (rv_free (by simp) (by simp))) (.cons (lv (L := ⟨6, [[(eI 0), (eI 0), (eI 0), (eI 0), (eI 0), .nil]], 0, 0x0020⟩) (by simp) rfl rfl (by simp) (rv_cons (.cons (v_free (by simp) (by simp)) (.cons (v_free (by simp) (by simp)) (.cons (v_free (by simp) (by simp)) (.cons (v_free (by simp) (by simp)) (.cons (v_free (by simp) (by simp)) (.cons (v_free (by simp) (by simp)) .nil)))))) rv_nil)) (.cons (lv (L := ⟨6, [[(eI p2.op), (eI p2.ctor), (eI p2.n), (eI p2.m), (eI p2.var), (.sl 6 22 (A).length)]], 0, 0x0020⟩) (by simp [(app_some v).1]) rfl rfl (by simp) (rv_cons (.cons (v_free (by simp) (by simp)) (.cons (v_free (by simp) (by simp)) (.cons (v_free (by simp) (by simp)) (.cons (v_free (by simp) (by simp)) (.cons (v_free (by simp) (by simp)) (.cons (v_sl rfl) .nil)))))) rv_nil)) (.cons (lv (L := ⟨6, (List.map rGPattern A), 0, 0x0020⟩) (by simp [(app_some v).1]) rfl rfl (by simp) (rv_free (by simp [(app_some v).1]) (free_rows_of fr_GPattern _))) .nil)))))
   rw [congrFun (congrFun u _) e]
   refine sZ ?_ fun K hK => by simp [ilt_len p2.kids.length]; exact hK
   apply sq
   refine cF ?_
   refine TrD.exit ?_
   try simp only [↓reduceIte, Nat.reduceEqDiff, Nat.zero_ne_one, Nat.one_ne_zero, OfNat.ofNat_ne_zero, OfNat.zero_ne_ofNat, OfNat.one_ne_ofNat, OfNat.ofNat_ne_one]
   refine ToAny.mk e ak ?_
   rw [B]
   exact gC [0, 1, 2, 3, 4]
  subst hz
  try dsimp only at h
  rw [congrFun B c]
  obtain ⟨ag, a, h⟩ := bindE h
  obtain ⟨O, r⟩ : ∃ S : Unit → St, S = fun J => ⟨(updD (updD (fun _ => .any) 6 (.ptr 6 0 0 0)) 8 (.ptr 6 1 0 0)), hOfO [some ⟨6, [[(eI 0), (eI 0), (eI 0), (eI 0), (eI 0), .nil]], 0, 0x0020⟩, some ⟨6, [[(eI p2.op), (eI p2.ctor), (eI p2.n), (eI p2.m), (eI p2.var), (.sl 6 2 (c).length)]], 0, 0x0020⟩, some ⟨6, (List.map rGPattern c), 0, 0x0020⟩], 3, 78⟩ := ⟨_, rfl⟩
  refine TrD.join O (fun z => ag = Ctl.brk z) ?_ (fun J hz => ?_)
  ·refine sZ ?_
   apply TrD.block
   refine sZ ?_
   refine TrD.cond (b := ieq p2.op 3) (by simp) (fun s => ?_) (fun s => ?_)
   ·rw [if_pos s] at a
    apply sq
    obtain ⟨G, aa, a⟩ := bindE a
    refine rk fun K hK => ?_
    simp [s]
    refine cp (c_impl_ranged p2.n p2.m _ aa) ?_
    simp
    apply hK
    cases a
    cases h
    apply TrD.ret
    exact xD
   rw [iN s] at a
   refine sZ ?_ fun K hK => by simp [s]; exact hK
   refine TrD.cond (b := ieq p2.op 4) (by simp) (fun j => ?_) (fun j => ?_)
   ·rw [if_pos j] at a
    apply sq
    obtain ⟨ai, C, a⟩ := bindE a
    rcases bb ai with l | l
    ·rw [if_pos l] at a
     obtain ⟨aj, ab, a⟩ := bindE a
     refine rk fun K hK => ?_
     simp [j]
     refine callB (.cons (.sl _ _ _ _ _ (by simp; rfl) rfl (by simp) (by simp)) (.nil _)) (c_impl_allAny c _ C) (by simp) (by simp) (fun aw U => ?_)
     subst U
     refine ⟨by simp, ?_⟩
     simp [l]
     refine cp (c_impl_ctorsOf p0 p1 _ ab) ?_
     simp [l]
     apply hK
     refine TrD.cond (b := ieq (lenZ aj.length) 1) (by simp) (fun o => ?_) (fun o => ?_)
     ·rw [if_pos o] at a
      apply sq
      obtain ⟨H, ac, a⟩ := bindE a
      refine rk fun K hK => ?_
      simp [o]
      refine cp (c_impl_anyPattern _ ac) ?_
      simp
      apply hK
      cases a
      cases h
      apply TrD.ret
      exact xD
     rw [iN o] at a
     apply TrD.skip
     cases a
     refine ToAny.mk () rfl ?_
     rw [r]
     exact gC [2, 3, 4]
    rw [iN l] at a
    refine rk fun K hK => ?_
    simp [j]
    refine callB (.cons (.sl _ _ _ _ _ (by simp; rfl) rfl (by simp) (by simp)) (.nil _)) (c_impl_allAny c _ C) (by simp) (by simp) (fun ay W => ?_)
    subst W
    refine ⟨by simp, ?_⟩
    simp [l]
    apply hK
    refine cF ?_
    apply TrD.skip
    cases a
    refine ToAny.mk () rfl ?_
    rw [r]
    exact gC [2, 3, 4]
   rw [iN j] at a
   refine sZ ?_ fun K hK => by simp [j]; exact hK
   refine TrD.cond (b := ieq p2.op 6) (by simp) (fun t => ?_) (fun t => ?_)
   ·rw [if_pos t] at a
    apply sq
    obtain ⟨al, w, a⟩ := bindE a
    refine rZ ?_ fun K hK => by simp [t, idx_inb w, idx_ltN 0 w, elt (idx_getN 0 w)]; exact hK
    refine TrD.cond (b := ieq al.op 1) (by simp) (fun p => ?_) (fun p => ?_)
    ·rw [if_pos p] at a
     refine sZ ?_ fun K hK => by simp [p]; exact hK
     cases a
     cases h
     apply TrD.ret
     refine exitDG (σ' := ⟨(updD (fun _ => .any) 6 (.ptr 6 0 0 0)), hOfO [some ⟨6, [(rGPattern (GPattern.mk 2 0 0 0 p2.var []))], 0, 0x0020⟩], 1, 78⟩) ?_ ?_
     ·exact gC [2]
     simp [resD]
     exact eF
    rw [iN p] at a
    apply TrD.skip
    cases a
    refine ToAny.mk () rfl ?_
    rw [r]
    exact gC [2, 3, 4]
   rw [iN t] at a
   refine sZ ?_ fun K hK => by simp [t]; exact hK
   refine TrD.cond (b := ieq p2.op 5) (by simp) (fun q => ?_) (fun q => ?_)
   ·rw [if_pos q] at a
    apply sq
    obtain ⟨I, ad, a⟩ := bindE a
    refine rk fun K hK => ?_
    simp [q]
    refine callV (.cons (.same _ _) (.cons (.same _ _) (.cons (.agg _ _ _ 5 _ _ rfl (.sl _ _ _ _ _ (by simp; rfl) rfl (by simp) (by simp))) (.nil _)))) (c_impl_simplifyOr n p0 p1 (GPattern.mk p2.op p2.ctor p2.n p2.m p2.var c) _ ad) (by simp) (by simp) (fun az X => ?_)
    subst X
    simp
    apply hK
    cases a
    cases h
    apply TrD.ret
    exact xD
   rw [iN q] at a
   apply TrD.skip
   cases a
   refine ToAny.mk () rfl ?_
   rw [r]
   exact gC [2, 3, 4]
  subst hz
  try dsimp only at h
  rw [congrFun r J]
  refine sZ ?_
  cases h
  apply TrD.ret
  refine exitDG (σ' := ⟨(updD (fun _ => .any) 6 (.ptr 6 0 0 0)), hOfO [some ⟨6, [(rGPattern (GPattern.mk p2.op p2.ctor p2.n p2.m p2.var c))], 0, 0x0020⟩], 1, 78⟩) ?_ ?_
  ·refine (Ghost.raise 2 (by simp; rfl)).trans ?_
   exact gC [0] (hh := (ln.c (lv (L := ⟨6, [[(eI p2.op), (eI p2.ctor), (eI p2.n), (eI p2.m), (eI p2.var), (.sl 6 2 (c).length)]], 0, 0x0020⟩) (by simp) rfl rfl (by simp) (rv_consr (rGPattern_eq _) (.cons (v_free (by simp) (by simp)) (.cons (v_free (by simp) (by simp)) (.cons (v_free (by simp) (by simp)) (.cons (v_free (by simp) (by simp)) (.cons (v_free (by simp) (by simp)) (.cons (v_frz (by simp; rfl) rfl (by simp) (by simp) (rv_free (by simp) (by simp))) .nil)))))) rv_nil))))
  simp [resD]
  exact eF
end Go.Proofs.YtimpchdgflhkaaaGreat
