import Derived.Test.YtmkamncbkkahjaaGreatJMir
import Derived.Test.YtmkamncbkkahjaaGreatJZap
import Derived.Test.YtmkamncbkkahjaaGreatJC2
import Derived.Test.YtmkamncbkkahjaaGreatJC16
import Derived.Test.YtmkamncbkkahjaaGreatJC4
import Derived.Test.YtmkamncbkkahjaaGreatJC1
import Derived.Test.YtmkamncbkkahjaaGreatJC3
import Derived.Test.YtmkamncbkkahjaaGreatJC14
set_option linter.unusedSimpArgs false
set_option linter.unusedVariables false
namespace Go.Proofs.YtmkamncbkkahjaaGreat
open Go Go.RowKit
set_option maxRecDepth 100000
set_option maxHeartbeats 20000000
theorem c_impl_values : ∀ (n : Nat) (p0 : (List GData)) (p1 : GType) (p2 : Int) (res : (List GValue)), m_impl_values n p0 p1 p2 = some res → CallsD Tryz.prog 0o00066 [(.slice 2 (List.map rGData p0)), (.agg (rGType p1)), (eI p2)] (fun d => d = (.slice 3 (List.map rGValue res))) := by
 intro n
 induction n with
 | zero => intro p0 p1 p2 res h; cases h
 | succ n ih =>
  intro p0 p1 p2 res h
  rw [m_impl_values.eq_2] at h
  refine CD Tryz.func54 [.tmp 6] fun β hβ => ?_
  refine sZ ?_
  refine sZ ?_
  apply sq
  refine sZ ?_
  refine TrD.cond (b := ieq p2 0) (by simp) (fun hb2 => ?_) (fun hb2 => ?_)
  ·rw [if_pos hb2] at h
   refine sZ ?_ fun K hK => by simp [hb2]; exact hK
   cases h
   apply TrD.ret
   refine exitDG (σ' := ⟨(updD (fun _ => .any) 6 (.slice 3 (List.map rGValue []))), hOfO [], 0, 97⟩) ?_ ?_
   ·exact gC []
   dsimp only [resD]
   exact eF
  rw [iN hb2] at h
  apply TrD.skip
  apply sq
  refine sZ ?_ fun K hK => by simp [hb2]; exact hK
  refine TrD.cond (b := ieq p1.data (-1)) (by simp) (fun Q => ?_) (fun Q => ?_)
  ·rw [if_pos Q] at h
   apply sq
   refine sZ ?_ fun K hK => by simp [Q]; exact hK
   obtain ⟨a8, aH, h⟩ := bindE h
   obtain ⟨aw, ag⟩ : ∃ S : ((List GValue) × Int) → St, S = fun J => ⟨(updD (fun _ => .any) 7 (.sl 3 0 (J.1).length)), hOfO [some ⟨3, (List.map rGValue J.1), 0, 0x001d⟩], 1, 97⟩ := ⟨_, rfl⟩
   refine TrD.joinQ aw (fun z => a8 = Ctl.brk z) (fun _ _ hg h => TrD.ghost hg h) ?_ (fun J hz => ?_)
   ·apply TrD.block
    obtain ⟨aB, ac⟩ : ∃ S : ((List GValue) × Int) → St, S = fun u => ⟨(updD (updD (fun _ => .any) 7 (.sl 3 0 (u.1).length)) 26 (eI u.2)), hOfO [some ⟨3, (List.map rGValue u.1), 0, 0x001d⟩], 1, 97⟩ := ⟨_, rfl⟩
    refine TrD.whileL aB aH ?_ (fun u bB A bp aM => ?_)
    ·rw [ac]
     refine (Ghost.ownNil (s := 7) (by simp) 3 0x001d).trans ?_
     exact gC [88]
    rw [congrFun ac u]
    refine sZ ?_
    apply sq
    refine TrD.cond (b := ilt u.2 10) (by simp) (fun P => ?_) (fun P => ?_)
    ·rw [if_pos P] at A
     apply TrD.skip
     apply sq
     apply TrD.block
     refine sZ ?_ fun K hK => by simp [P]; exact hK
     obtain ⟨bM, aT, A⟩ := bindE A
     obtain ⟨ae, Z, A⟩ := bindE A
     have al := (app_some Z).2
     try simp only [List.length_cons, List.length_nil, Nat.zero_add] at al
     refine rk fun K hK => ?_
     simp
     refine cp (c_impl_number u.2 _ aT) ?_
     simp [al]
     apply hK
     refine rZ ?_
     cases A
     refine ToAny.mk (ae, wadd .i64 u.2 1) rfl ?_
     rw [ac]
     exact gc [57] hβ ((va.s 57 (by simp [(app_some Z).1])).f) (ln.f (by simp [(app_some Z).1]))
    rw [iN P] at A
    refine TrD.exit ?_
    try simp only [↓reduceIte, Nat.reduceEqDiff, Nat.zero_ne_one, Nat.one_ne_zero, OfNat.ofNat_ne_zero, OfNat.zero_ne_ofNat, OfNat.one_ne_ofNat, OfNat.ofNat_ne_one]
    cases A
    obtain rfl := aM _ rfl
    refine ToAny.mk (u.1, u.2) rfl ?_
    rw [ag]
    exact gC [0]
   subst hz
   try dsimp only at h
   rw [congrFun ag J]
   refine sZ ?_
   cases h
   apply TrD.ret
   refine exitDG (σ' := ⟨(updD (fun _ => .any) 6 (.slice 3 (List.map rGValue J.1))), hOfO [], 0, 97⟩) ?_ ?_
   ·refine (Ghost.raise 0 (by simp; rfl)).trans ?_
    exact gC [] (ht := (va.u (d0 := (.sl 3 0 (J.1).length)) (by simp) (v_frz (by simp; rfl) rfl (by simp) (by simp) (rv_free (by simp) (by simp)))))
   dsimp only [resD]
   exact eF
  rw [iN Q] at h
  apply TrD.skip
  apply sq
  apply sq
  obtain ⟨a, aU, h⟩ := bindE h
  refine rk fun K hK => ?_
  simp [Q]
  refine cp (c_impl_ctorsOf p0 p1 _ aU) ?_
  simp
  apply hK
  obtain ⟨a9, aI, h⟩ := bindE h
  obtain ⟨ax, ah⟩ : ∃ S : (List GValue) → St, S = fun N => ⟨(updD (fun _ => .any) 7 (.sl 3 0 (N).length)), hOfO [some ⟨3, (List.map rGValue N), 0, 0x001d⟩], 1, 97⟩ := ⟨_, rfl⟩
  refine TrD.joinQ ax (fun z => a9 = Ctl.brk z) (fun _ _ hg h => TrD.ghost hg h) ?_ (fun N hz => ?_)
  ·apply TrD.block
   obtain ⟨aC, V⟩ : ∃ S : Nat → (List GValue) → St, S = fun g c => ⟨(updD (updD (updD (updD (updD (updD (updD (fun _ => .any) 3 (.ptr 1 0 0 0)) 4 (.ptr 2 1 0 0)) 5 (.ptr 1 2 0 0)) 7 (.sl 3 3 (c).length)) 38 (.slice 1 (List.map rI a))) 39 (eI (lenZ a.length))) 40 (eI (g : Int))), hOfO [some ⟨1, [[(.slice 2 (List.map rGData p0))]], 0, 0x0017⟩, some ⟨2, [(rGType p1)], 0, 0x0019⟩, some ⟨1, [[(eI p2)]], 0, 0x0003⟩, some ⟨3, (List.map rGValue c), 0, 0x001d⟩], 4, 97⟩ := ⟨_, rfl⟩
   refine TrD.limS (sz := 1) (rows := List.map rI a) (seen_slot (d := .slice 1 (List.map rI a)) 38 (by simp)) (fun hlim => ?_)
   rw [List.length_map] at hlim
   refine TrD.forL aC aI hlim ?_ (fun g l c ap bu bv a1 C bC T bq bl => ?_) (fun c bf => ?_)
   ·rw [V]
    refine (Ghost.ownNil (s := 7) (by simp) 3 0x001d).trans ?_
    exact gC [0, 8, 16, 120]
   ·rw [congrFun (congrFun V g) c]
    refine sZ ?_ fun K hK => by simp [a1]; exact hK
    apply sq
    refine cT ?_
    apply TrD.skip
    obtain ⟨ba, q, T⟩ := bindE T
    obtain ⟨aD, ad⟩ : ∃ S : (List GValue) → St, S = fun E => ⟨(updD (updD (updD (updD (updD (updD (updD (fun _ => .any) 3 (.ptr 1 0 0 0)) 4 (.ptr 2 1 0 0)) 5 (.ptr 1 2 0 0)) 7 (.sl 3 3 (E).length)) 38 (.slice 1 (List.map rI a))) 39 (eI (lenZ a.length))) 40 (eI (g : Int))), hOfO [some ⟨1, [[(.slice 2 (List.map rGData p0))]], 0, 0x0017⟩, some ⟨2, [(rGType p1)], 0, 0x0019⟩, some ⟨1, [[(eI p2)]], 0, 0x0003⟩, some ⟨3, (List.map rGValue E), 0, 0x001d⟩], 4, 97⟩ := ⟨_, rfl⟩
    refine TrD.join aD (fun z => ba = Ctl.brk z) ?_ (fun E hz => ?_)
    ·apply TrD.block
     refine sZ ?_ fun K hK => by simp [idx_inb ap, idx_row ap]; exact hK
     apply sq
     obtain ⟨f, aV, q⟩ := bindE q
     refine rk fun K hK => ?_
     simp
     refine cp (c_impl_argTypes p0 p1 l _ aV) ?_
     simp
     apply hK
     apply sq
     apply sq
     obtain ⟨be, aW, q⟩ := bindE q
     refine rk fun K hK => ?_
     simp
     refine callB (.cons (.same _ _) (.cons (.trans _ _ _ _ _ _ (.clos _ _ _ _ 0 _ _ rfl (.ptr _ _ _ _ _ _ _ (by simp; rfl) rfl rfl (by simp))) (.clos _ _ _ _ 1 _ _ rfl (.ptr _ _ _ _ _ _ _ (by simp; rfl) rfl rfl (by simp)))) (.nil _))) (c_slices_ContainsFunc_Type f _ [.cptr [(.slice 2 (List.map rGData p0))], .cptr [(eI p2)]] (by simp) (fun a0 => m_impl_values_1 n a0 p0 p2) (fun a0 r hr => c_impl_values_1 n a0 p0 p2 r hr) _ aW) (by simp) (by simp) (fun bI aQ => ?_)
     subst aQ
     refine ⟨by simp, ?_⟩
     simp
     apply hK
     refine TrD.cond (b := be) (by simp) (fun v => ?_) (fun v => ?_)
     ·rw [if_pos v] at q
      refine TrD.exit ?_
      try simp only [↓reduceIte, Nat.reduceEqDiff, Nat.zero_ne_one, Nat.one_ne_zero, OfNat.ofNat_ne_zero, OfNat.zero_ne_ofNat, OfNat.one_ne_ofNat, OfNat.ofNat_ne_one]
      cases q
      refine ToAny.mk c rfl ?_
      rw [ad]
      exact gC [0, 1, 2, 3]
     rw [iN v] at q
     apply TrD.skip
     refine sZ ?_ fun K hK => by simp [v]; exact hK
     apply sq
     refine sZ ?_
     obtain ⟨bb, aJ, q⟩ := bindE q
     obtain ⟨ay, ai⟩ : ∃ S : (List GValue) → St, S = fun ab => ⟨(updD (updD (updD (updD (updD (updD (updD (updD (fun _ => .any) 3 (.ptr 1 0 0 0)) 4 (.ptr 2 1 0 0)) 5 (.ptr 1 2 0 0)) 7 (.sl 3 3 (c).length)) 12 (.sl 3 4 (ab).length)) 38 (.slice 1 (List.map rI a))) 39 (eI (lenZ a.length))) 40 (eI (g : Int))), hOfO [some ⟨1, [[(.slice 2 (List.map rGData p0))]], 0, 0x0017⟩, some ⟨2, [(rGType p1)], 0, 0x0019⟩, some ⟨1, [[(eI p2)]], 0, 0x0003⟩, some ⟨3, (List.map rGValue c), 0, 0x001d⟩, some ⟨3, (List.map rGValue ab), 0, 0x001d⟩], 5, 97⟩ := ⟨_, rfl⟩
     refine TrD.joinQ ay (fun z => bb = Ctl.brk z) (fun _ _ hg h => TrD.ghost hg h) ?_ (fun ab hz => ?_)
     ·apply TrD.block
      obtain ⟨aE, W⟩ : ∃ S : Nat → (List GValue) → St, S = fun o e => ⟨(updD (updD (updD (updD (updD (updD (updD (updD (updD (updD (updD (updD (fun _ => .any) 3 (.ptr 1 0 0 0)) 4 (.ptr 2 1 0 0)) 5 (.ptr 1 2 0 0)) 7 (.sl 3 3 (c).length)) 10 (eI l)) 12 (.sl 3 4 (e).length)) 38 (.slice 1 (List.map rI a))) 39 (eI (lenZ a.length))) 40 (eI (g : Int))) 54 (.slice 2 (List.map rGType f))) 55 (eI (lenZ f.length))) 56 (eI (o : Int))), hOfO [some ⟨1, [[(.slice 2 (List.map rGData p0))]], 0, 0x0017⟩, some ⟨2, [(rGType p1)], 0, 0x0019⟩, some ⟨1, [[(eI p2)]], 0, 0x0003⟩, some ⟨3, (List.map rGValue c), 0, 0x001d⟩, some ⟨3, (List.map rGValue e), 0, 0x001d⟩], 5, 97⟩ := ⟨_, rfl⟩
      refine TrD.limS (sz := 2) (rows := List.map rGType f) (seen_slot (d := .slice 2 (List.map rGType f)) 47 (by simp)) (fun hlim => ?_)
      rw [List.length_map] at hlim
      refine TrD.forL aE aJ hlim ?_ (fun o bj e aq bw bx a2 t bD H br bm => ?_) (fun e bg => ?_)
      ·rw [W]
       exact gC [0, 1, 2, 3, 116]
      ·rw [congrFun (congrFun W o) e]
       refine sZ ?_ fun K hK => by simp [a2]; exact hK
       apply sq
       refine cT ?_
       apply TrD.skip
       apply sq
       apply TrD.block
       refine sZ ?_ fun K hK => by simp [idx_inb aq, idx_row aq]; exact hK
       apply sq
       obtain ⟨i, aX, H⟩ := bindE H
       refine rk fun K hK => ?_
       simp
       refine cp (ih p0 bj (wsub .i64 p2 1) _ aX) ?_
       simp
       apply hK
       refine sZ ?_
       apply sq
       refine sZ ?_
       obtain ⟨bc, aK, H⟩ := bindE H
       obtain ⟨az, aj⟩ : ∃ S : (List GValue) → St, S = fun F => ⟨(updD (updD (updD (updD (updD (updD (updD (updD (updD (updD (updD (updD (fun _ => .any) 3 (.ptr 1 0 0 0)) 4 (.ptr 2 1 0 0)) 5 (.ptr 1 2 0 0)) 7 (.sl 3 3 (c).length)) 10 (eI l)) 16 (.sl 3 4 (F).length)) 38 (.slice 1 (List.map rI a))) 39 (eI (lenZ a.length))) 40 (eI (g : Int))) 54 (.slice 2 (List.map rGType f))) 55 (eI (lenZ f.length))) 56 (eI (o : Int))), hOfO [some ⟨1, [[(.slice 2 (List.map rGData p0))]], 0, 0x0017⟩, some ⟨2, [(rGType p1)], 0, 0x0019⟩, some ⟨1, [[(eI p2)]], 0, 0x0003⟩, some ⟨3, (List.map rGValue c), 0, 0x001d⟩, some ⟨3, (List.map rGValue F), 0, 0x001d⟩], 5, 97⟩ := ⟨_, rfl⟩
       refine TrD.joinQ az (fun z => bc = Ctl.brk z) (fun _ _ hg h => TrD.ghost hg h) ?_ (fun F hz => ?_)
       ·apply TrD.block
        obtain ⟨aF, X⟩ : ∃ S : Nat → (List GValue) → St, S = fun w y => ⟨(updD (updD (updD (updD (updD (updD (updD (updD (updD (updD (updD (updD (updD (updD (updD (updD (fun _ => .any) 3 (.ptr 1 0 0 0)) 4 (.ptr 2 1 0 0)) 5 (.ptr 1 2 0 0)) 7 (.sl 3 3 (c).length)) 10 (eI l)) 15 (.slice 3 (List.map rGValue i))) 16 (.sl 3 4 (y).length)) 38 (.slice 1 (List.map rI a))) 39 (eI (lenZ a.length))) 40 (eI (g : Int))) 54 (.slice 2 (List.map rGType f))) 55 (eI (lenZ f.length))) 56 (eI (o : Int))) 65 (.sl 3 5 (e).length)) 66 (eI (lenZ e.length))) 67 (eI (w : Int))), hOfO [some ⟨1, [[(.slice 2 (List.map rGData p0))]], 0, 0x0017⟩, some ⟨2, [(rGType p1)], 0, 0x0019⟩, some ⟨1, [[(eI p2)]], 0, 0x0003⟩, some ⟨3, (List.map rGValue c), 0, 0x001d⟩, some ⟨3, (List.map rGValue y), 0, 0x001d⟩, some ⟨3, (List.map rGValue e), 0, 0x001d⟩], 6, 97⟩ := ⟨_, rfl⟩
        refine TrD.limL (L := ⟨3, (List.map rGValue e), 0, 0x001d⟩) 4 (by simp) (by simp) (fun hlim => ?_)
        simp at hlim
        refine TrD.forL aF aK hlim ?_ (fun w O y a4 a3 a5 a6 m bE U bs bn => ?_) (fun y bh => ?_)
        ·rw [X]
         refine (Ghost.ownNil (s := 16) (by simp) 3 0x001d).trans ?_
         exact gC [0, 1, 2, 3, 125, 4]
        ·rw [congrFun (congrFun X w) y]
         refine sZ ?_ fun K hK => by simp [a6]; exact hK
         apply sq
         refine cT ?_
         apply TrD.skip
         apply sq
         apply TrD.block
         refine sZ ?_ fun K hK => by simp [idx_inb a4, a5, elt a3]; exact hK
         refine sZ ?_
         obtain ⟨bd, aL, U⟩ := bindE U
         obtain ⟨aA, ak⟩ : ∃ S : (List GValue) → St, S = fun G => ⟨(updD (updD (updD (updD (updD (updD (updD (updD (updD (updD (updD (updD (updD (updD (updD (updD (fun _ => .any) 3 (.ptr 1 0 0 0)) 4 (.ptr 2 1 0 0)) 5 (.ptr 1 2 0 0)) 7 (.sl 3 3 (c).length)) 10 (eI l)) 15 (.slice 3 (List.map rGValue i))) 16 (.sl 3 4 (G).length)) 38 (.slice 1 (List.map rI a))) 39 (eI (lenZ a.length))) 40 (eI (g : Int))) 54 (.slice 2 (List.map rGType f))) 55 (eI (lenZ f.length))) 56 (eI (o : Int))) 65 (.sl 3 5 (e).length)) 66 (eI (lenZ e.length))) 67 (eI (w : Int))), hOfO [some ⟨1, [[(.slice 2 (List.map rGData p0))]], 0, 0x0017⟩, some ⟨2, [(rGType p1)], 0, 0x0019⟩, some ⟨1, [[(eI p2)]], 0, 0x0003⟩, some ⟨3, (List.map rGValue c), 0, 0x001d⟩, some ⟨3, (List.map rGValue G), 0, 0x001d⟩, some ⟨3, (List.map rGValue e), 0, 0x001d⟩], 6, 97⟩ := ⟨_, rfl⟩
         refine TrD.joinQ aA (fun z => bd = Ctl.brk z) (fun _ _ hg h => TrD.ghost hg h) ?_ (fun G hz => ?_)
         ·apply TrD.block
          obtain ⟨aG, Y⟩ : ∃ S : Nat → (List GValue) → St, S = fun I p => ⟨(updD (updD (updD (updD (updD (updD (updD (updD (updD (updD (updD (updD (updD (updD (updD (updD (updD (updD (updD (updD (fun _ => .any) 3 (.ptr 1 0 0 0)) 4 (.ptr 2 1 0 0)) 5 (.ptr 1 2 0 0)) 7 (.sl 3 3 (c).length)) 10 (eI l)) 15 (.slice 3 (List.map rGValue i))) 16 (.sl 3 4 (p).length)) 18 (.ptr 3 5 0 0)) 38 (.slice 1 (List.map rI a))) 39 (eI (lenZ a.length))) 40 (eI (g : Int))) 54 (.slice 2 (List.map rGType f))) 55 (eI (lenZ f.length))) 56 (eI (o : Int))) 65 (.sl 3 6 (e).length)) 66 (eI (lenZ e.length))) 67 (eI (w : Int))) 71 (.slice 3 (List.map rGValue i))) 72 (eI (lenZ i.length))) 73 (eI (I : Int))), hOfO [some ⟨1, [[(.slice 2 (List.map rGData p0))]], 0, 0x0017⟩, some ⟨2, [(rGType p1)], 0, 0x0019⟩, some ⟨1, [[(eI p2)]], 0, 0x0003⟩, some ⟨3, (List.map rGValue c), 0, 0x001d⟩, some ⟨3, (List.map rGValue p), 0, 0x001d⟩, some ⟨3, [(rGValue O)], 0, 0x001d⟩, some ⟨3, (List.map rGValue e), 0, 0x001d⟩], 7, 97⟩ := ⟨_, rfl⟩
          refine TrD.limS (sz := 3) (rows := List.map rGValue i) (seen_slot (d := .slice 3 (List.map rGValue i)) 15 (by simp)) (fun hlim => ?_)
          rw [List.length_map] at hlim
          refine TrD.forL aG aL hlim ?_ (fun I av p ar bz bA a7 j bF D bt bo => ?_) (fun p bi => ?_)
          ·rw [Y]
           exact gC [0, 1, 2, 3, 4, 30, 5]
          ·rw [congrFun (congrFun Y I) p]
           refine sZ ?_ fun K hK => by simp [a7]; exact hK
           apply sq
           refine cT ?_
           apply TrD.skip
           apply sq
           apply TrD.block
           refine sZ ?_ fun K hK => by simp [idx_inb ar, idx_row ar]; exact hK
           refine TrD.ghost (σ' := ⟨(updD (updD (updD (updD (updD (updD (updD (updD (updD (updD (updD (updD (updD (updD (updD (updD (updD (updD (updD (updD (updD (fun _ => .any) 3 (.ptr 1 0 0 0)) 4 (.ptr 2 1 0 0)) 5 (.ptr 1 2 0 0)) 7 (.sl 3 3 (c).length)) 10 (eI l)) 15 (.slice 3 (List.map rGValue i))) 16 (.sl 3 4 (p).length)) 18 (.ptr 3 5 0 0)) 20 (.ptr 3 6 0 0)) 38 (.slice 1 (List.map rI a))) 39 (eI (lenZ a.length))) 40 (eI (g : Int))) 54 (.slice 2 (List.map rGType f))) 55 (eI (lenZ f.length))) 56 (eI (o : Int))) 65 (.sl 3 7 (e).length)) 66 (eI (lenZ e.length))) 67 (eI (w : Int))) 71 (.slice 3 (List.map rGValue i))) 72 (eI (lenZ i.length))) 73 (eI (I : Int))), hOfO [some ⟨1, [[(.slice 2 (List.map rGData p0))]], 0, 0x0017⟩, some ⟨2, [(rGType p1)], 0, 0x0019⟩, some ⟨1, [[(eI p2)]], 0, 0x0003⟩, some ⟨3, (List.map rGValue c), 0, 0x001d⟩, some ⟨3, (List.map rGValue p), 0, 0x001d⟩, some ⟨3, [(rGValue O)], 0, 0x001d⟩, some ⟨3, [(rGValue av)], 0, 0x001d⟩, some ⟨3, (List.map rGValue e), 0, 0x001d⟩], 8, 97⟩) ?_ ?_
           ·exact gC [0, 1, 2, 3, 4, 5, 31, 6]
           obtain ⟨au, aY, D⟩ := bindE D
           obtain ⟨R, B, D⟩ := bindE D
           have am := (app_some B).2
           try simp only [List.length_cons, List.length_nil, Nat.zero_add] at am
           obtain ⟨bN, aZ, D⟩ := bindE D
           have an := (app_some aZ).2
           try simp only [List.length_cons, List.length_nil, Nat.zero_add, (app_some B).1] at an
           refine TrD.drawZ tysOk mixed [0, 1, 2, 3, 5, 4, 6, 7, 8, 9, 10, 11] [5, 6] [1048659] [] [] (by rfl) rfl 2097152 (Nat.le_of_ble_eq_true rfl) (.inr ⟨Nat.le_of_ble_eq_true rfl, rfl⟩) (fun K hK => ?_)
           simp
           refine callK (views_same _ _) (.same _ _) [] (c_slices_Clone_Value O.kids _ aY) (by decide) .nil (.cons (ren_le (by simp) (by simp)) .nil) (fun bk bL aO => ?_)
           obtain ⟨rfl, rfl⟩ := aO
           refine ⟨by simp, [some ⟨3, (List.map rGValue au), 0, 0x001d⟩], (.sl 3 2097153 (au).length), (.cons (optRen_same (by simp)) .nil), (ren_sl (by rfl)), ?_⟩
           simp [setMany, newNames, am, an]
           apply hK
           refine rZ ?_
           cases D
           refine ToAny.mk (p ++ [(GValue.mk l 0 R)]) rfl ?_
           rw [Y]
           refine (Ghost.raise 2097160 (by simp; rfl)).trans ?_
           exact Ghost.canonV 0 [0, 1, 2, 3, 2097176, 5, 7] _ _ hβ (keep_first (by decide)) (by decide) (vT_upd (v_of (d0 := (eI (wadd .i64 (I : Int) 1))) (by simp [j]) (v_free (by simp) (by simp [j]))) (vT_upd (v_of (d0 := (eI (lenZ i.length))) (by simp [j]) (v_free (by simp) (by simp))) (vT_upd (v_of (d0 := (.slice 3 (List.map rGValue i))) (by simp [j]) (v_free (by simp) (by simp))) (vT_upd (v_of (d0 := (eI (w : Int))) (by simp [j]) (v_free (by simp) (by simp))) (vT_upd (v_of (d0 := (eI (lenZ e.length))) (by simp [j]) (v_free (by simp) (by simp))) (vT_upd (v_of (d0 := (.sl 3 7 (e).length)) (by simp [j]) (v_sl rfl)) (vT_upd (v_of (d0 := (eI (o : Int))) (by simp [j]) (v_free (by simp) (by simp))) (vT_upd (v_of (d0 := (eI (lenZ f.length))) (by simp [j]) (v_free (by simp) (by simp))) (vT_upd (v_of (d0 := (.slice 2 (List.map rGType f))) (by simp [j]) (v_free (by simp) (by simp))) (vT_upd (v_of (d0 := (eI (g : Int))) (by simp [j]) (v_free (by simp) (by simp))) (vT_upd (v_of (d0 := (eI (lenZ a.length))) (by simp [j]) (v_free (by simp) (by simp))) (vT_upd (v_of (d0 := (.slice 1 (List.map rI a))) (by simp [j]) (v_free (by simp) (by simp))) (vT_upd (v_of (d0 := (.ptr 3 5 0 0)) (by simp [j]) (v_ptr rfl)) (vT_upd (v_of (d0 := (.sl 3 2097176 ((p ++ [(GValue.mk l 0 R)])).length)) (by simp [(app_some B).1, j]) (v_sl rfl)) (vT_upd (v_of (d0 := (.slice 3 (List.map rGValue i))) (by simp [j]) (v_free (by simp) (by simp))) (vT_upd (v_of (d0 := (eI l)) (by simp [j]) (v_free (by simp) (by simp))) (vT_upd (v_of (d0 := (.sl 3 3 (c).length)) (by simp [j]) (v_sl rfl)) (vT_upd (v_of (d0 := (.ptr 1 2 0 0)) (by simp [j]) (v_ptr rfl)) (vT_upd (v_of (d0 := (.ptr 2 1 0 0)) (by simp [j]) (v_ptr rfl)) (vT_upd (v_of (d0 := (.ptr 1 0 0 0)) (by simp [j]) (v_ptr rfl)) (vT_any _))))))))))))))))))))) (.cons (lv (L := ⟨1, [[(.slice 2 (List.map rGData p0))]], 0, 0x0017⟩) (by simp) rfl rfl (by simp) (rv_free (by simp) (by simp))) (.cons (lv (L := ⟨2, [(rGType p1)], 0, 0x0019⟩) (by simp) rfl rfl (by simp) (rv_free (by simp) (by simp))) (.cons (lv (L := ⟨1, [[(eI p2)]], 0, 0x0003⟩) (by simp) rfl rfl (by simp) (rv_free (by simp) (by simp))) (.cons (lv (L := ⟨3, (List.map rGValue c), 0, 0x001d⟩) (by simp) rfl rfl (by simp) (rv_free (by simp) (free_rows_of fr_GValue _))) (.cons (lv (L := ⟨3, ((List.map rGValue p) ++ [[(eI l), (eI 0), (.sl 3 2097160 (R).length)]]), 0, 0x001d⟩) (by simp [(app_some B).1]) rfl rfl (by simp) (rv_snocr (by simp) (rGValue_eq _) (.cons (v_free (by simp) (by simp)) (.cons (v_free (by simp) (by simp)) (.cons (v_frz (L := ⟨3, (List.map rGValue R), (R).length * 3, 0x001d⟩) (by simp [(app_some B).1]) rfl (by simp [(app_some B).1]) (by simp [(app_some B).1]) (rv_free (by simp [(app_some B).1]) (free_rows_of fr_GValue _))) .nil))))) (.cons (lv (L := ⟨3, [(rGValue O)], 0, 0x001d⟩) (by simp) rfl rfl (by simp) (rv_free (by simp) (by simp))) (.cons (lv (L := ⟨3, (List.map rGValue e), 0, 0x001d⟩) (by simp) rfl rfl (by simp) (rv_free (by simp) (free_rows_of fr_GValue _))) .nil)))))))
          rw [congrFun (congrFun Y _) p]
          refine sZ ?_ fun K hK => by simp [ilt_len i.length]; exact hK
          apply sq
          refine cF ?_
          refine TrD.exit ?_
          try simp only [↓reduceIte, Nat.reduceEqDiff, Nat.zero_ne_one, Nat.one_ne_zero, OfNat.ofNat_ne_zero, OfNat.zero_ne_ofNat, OfNat.one_ne_ofNat, OfNat.ofNat_ne_one]
          refine ToAny.mk p bi ?_
          rw [ak]
          exact gC [0, 1, 2, 3, 4, 6]
         subst hz
         try dsimp only at U
         rw [congrFun ak G]
         refine rZ ?_
         cases U
         refine ToAny.mk G rfl ?_
         rw [X]
         exact gc [0, 1, 2, 3, 4, 5] hβ ((((((((((((((((va.p 0 (by simp [m])).p 1 (by simp [m])).p 2 (by simp [m])).s 3 (by simp [m])).f (by simp [m])).f (by simp [m])).s 4 (by simp [m])).f (by simp [m])).f (by simp [m])).f (by simp [m])).f (by simp [m])).f (by simp [m])).f (by simp [m])).s 5 (by simp [m])).f (by simp [m])).f (by simp [m])) ln.f.f.f.f.f.f
        rw [congrFun (congrFun X _) y]
        refine sZ ?_ fun K hK => by simp [ilt_len e.length]; exact hK
        apply sq
        refine cF ?_
        refine TrD.exit ?_
        try simp only [↓reduceIte, Nat.reduceEqDiff, Nat.zero_ne_one, Nat.one_ne_zero, OfNat.ofNat_ne_zero, OfNat.zero_ne_ofNat, OfNat.one_ne_ofNat, OfNat.ofNat_ne_one]
        refine ToAny.mk y bh ?_
        rw [aj]
        exact gC [0, 1, 2, 3, 4]
       subst hz
       try dsimp only at H
       rw [congrFun aj F]
       refine rZ ?_
       refine rZ ?_
       cases H
       refine ToAny.mk F rfl ?_
       rw [W]
       exact gc [0, 1, 2, 3, 4] hβ ((((((((((((va.p 0 (by simp [t])).p 1 (by simp [t])).p 2 (by simp [t])).s 3 (by simp [t])).f (by simp [t])).s 4 (by simp [t])).f (by simp [t])).f (by simp [t])).f (by simp [t])).f (by simp [t])).f (by simp [t])).f (by simp [t])) ln.f.f.f.f.f
      rw [congrFun (congrFun W _) e]
      refine sZ ?_ fun K hK => by simp [ilt_len f.length]; exact hK
      apply sq
      refine cF ?_
      refine TrD.exit ?_
      try simp only [↓reduceIte, Nat.reduceEqDiff, Nat.zero_ne_one, Nat.one_ne_zero, OfNat.ofNat_ne_zero, OfNat.zero_ne_ofNat, OfNat.one_ne_ofNat, OfNat.ofNat_ne_one]
      refine ToAny.mk e bg ?_
      rw [ai]
      exact gC [0, 1, 2, 3, 4]
     subst hz
     try dsimp only at q
     rw [congrFun ai ab]
     obtain ⟨af, aa, q⟩ := bindE q
     have ao := (app_some aa).2
     try simp only [List.length_append, List.length_cons, List.length_nil, List.length_map, Nat.zero_add, Nat.add_zero, Nat.reduceAdd, one_add_len, two_add_len] at ao
     refine rZ ?_ fun K hK => by simp [ao]; exact hK
     cases q
     refine ToAny.mk af rfl ?_
     rw [ad]
     exact gc [0, 1, 2, 21] hβ (((((((va.p 0).p 1).p 2).s 21 (by simp [(app_some aa).1])).f).f).f) ((((ln.f (by simp [(app_some aa).1])).f).f).f)
    subst hz
    try dsimp only at T
    rw [congrFun ad E]
    refine rZ ?_
    cases T
    refine ToAny.mk E rfl ?_
    rw [V]
    exact gc [0, 1, 2, 3] hβ (((((((va.p 0 (by simp [C])).p 1 (by simp [C])).p 2 (by simp [C])).s 3 (by simp [C])).f (by simp [C])).f (by simp [C])).f (by simp [C])) ln.f.f.f.f
   rw [congrFun (congrFun V _) c]
   refine sZ ?_ fun K hK => by simp [ilt_len a.length]; exact hK
   apply sq
   refine cF ?_
   refine TrD.exit ?_
   try simp only [↓reduceIte, Nat.reduceEqDiff, Nat.zero_ne_one, Nat.one_ne_zero, OfNat.ofNat_ne_zero, OfNat.zero_ne_ofNat, OfNat.one_ne_ofNat, OfNat.ofNat_ne_one]
   refine ToAny.mk c bf ?_
   rw [ah]
   exact gC [3]
  subst hz
  try dsimp only at h
  rw [congrFun ah N]
  refine sk fun K hK => ?_
  simp
  apply hK
  obtain rfl := Option.some.inj h
  refine TrD.ret ?_
  refine exitDG (σ' := ⟨(updD (fun _ => .any) 6 (.slice 3 (List.map rGValue N))), hOfO [], 0, 97⟩) ?_ ?_
  ·refine (Ghost.raise 0 (by simp; rfl)).trans ?_
   exact Ghost.canonV 0 [] _ _ hβ (keep_first (by decide)) (by decide) (vT_upd (v_of (d0 := (.sl 3 0 (N).length)) (by simp) (v_frz (by simp; rfl) rfl (by simp) (by simp) (rv_free (by simp) (by simp)))) (vT_any _)) .nil
  dsimp only [resD]
  refine endF ?_ ?_ <;> simp [packD]
theorem c_impl_ValuesUpTo (n : Nat) (p0 : (List GData)) (p1 : GType) (p2 : Int) (res : (List GValue) × Bool) (h : m_impl_ValuesUpTo n p0 p1 p2 = some res) : CallsD Tryz.prog 0o00021 [(.slice 2 (List.map rGData p0)), (.agg (rGType p1)), (eI p2)] (fun d => d = .tup [(.slice 3 (List.map rGValue res.1)), (eB res.2)]) := by
 unfold m_impl_ValuesUpTo at h
 refine CD Tryz.func17 [.tmp 6, .tmp 7] fun β hβ => ?_
 refine sZ ?_
 apply sq
 apply sq
 obtain ⟨T, q, h⟩ := bindE h
 rcases bb (!T) with e | e
 ·rw [if_pos e] at h
  refine rk fun K hK => ?_
  simp
  refine cp (c_impl_TypeValid n p0 p1 _ q) ?_
  simp [e]
  apply hK
  refine cT ?_
  refine sZ ?_
  cases h
  apply TrD.ret
  refine exitDG (σ' := ⟨(updD (updD (fun _ => .any) 6 (.slice 3 (List.map rGValue []))) 7 (eB false)), hOfO [], 0, 43⟩) ?_ ?_
  ·exact gC []
  dsimp only [resD]
  exact eF
 rw [iN e] at h
 obtain ⟨U, u, h⟩ := bindE h
 rcases bb (!U) with i | i
 ·rw [if_pos i] at h
  refine rk fun K hK => ?_
  simp
  refine cp (c_impl_TypeValid n p0 p1 _ q) ?_
  simp [e]
  refine cp (c_impl_within p2 0 4 _ u) ?_
  simp [i]
  apply hK
  refine cT ?_
  refine sZ ?_
  cases h
  apply TrD.ret
  refine exitDG (σ' := ⟨(updD (updD (fun _ => .any) 6 (.slice 3 (List.map rGValue []))) 7 (eB false)), hOfO [], 0, 43⟩) ?_ ?_
  ·exact gC []
  dsimp only [resD]
  exact eF
 rw [iN i] at h
 obtain ⟨V, P, h⟩ := bindE h
 refine rk fun K hK => ?_
 simp
 refine cp (c_impl_TypeValid n p0 p1 _ q) ?_
 simp [e]
 refine cp (c_impl_within p2 0 4 _ u) ?_
 simp [i]
 refine cp (c_impl_countValues n p0 p1 p2 _ P) ?_
 simp
 apply hK
 refine TrD.cond (b := ilt 400 V) (by simp) (fun j => ?_) (fun j => ?_)
 ·rw [if_pos j] at h
  refine sZ ?_ fun K hK => by simp [j]; exact hK
  cases h
  apply TrD.ret
  refine exitDG (σ' := ⟨(updD (updD (fun _ => .any) 6 (.slice 3 (List.map rGValue []))) 7 (eB false)), hOfO [], 0, 43⟩) ?_ ?_
  ·exact gC []
  dsimp only [resD]
  exact eF
 rw [iN j] at h
 apply TrD.skip
 refine sZ ?_ fun K hK => by simp [j]; exact hK
 apply sq
 apply sq
 obtain ⟨a, N, h⟩ := bindE h
 refine rk fun K hK => ?_
 simp
 refine cp (c_impl_values n p0 p1 p2 _ N) ?_
 simp
 apply hK
 obtain ⟨R, B, h⟩ := bindE h
 obtain ⟨y, t⟩ : ∃ S : (List GValue) → St, S = fun f => ⟨(updD (fun _ => .any) 8 (.sl 3 0 (f).length)), hOfO [some ⟨3, (List.map rGValue f), 0, 0x001d⟩], 1, 43⟩ := ⟨_, rfl⟩
 refine TrD.joinQ y (fun z => R = Ctl.brk z) (fun _ _ hg h => TrD.ghost hg h) ?_ (fun f hz => ?_)
 ·apply TrD.block
  obtain ⟨A, m⟩ : ∃ S : Nat → (List GValue) → St, S = fun p c => ⟨(updD (updD (updD (updD (fun _ => .any) 8 (.sl 3 0 (c).length)) 30 (.slice 3 (List.map rGValue a))) 31 (eI (lenZ a.length))) 32 (eI (p : Int))), hOfO [some ⟨3, (List.map rGValue c), 0, 0x001d⟩], 1, 43⟩ := ⟨_, rfl⟩
  refine TrD.limS (sz := 3) (rows := List.map rGValue a) (seen_slot (d := .slice 3 (List.map rGValue a)) 30 (by simp)) (fun hlim => ?_)
  rw [List.length_map] at hlim
  refine TrD.forL A B hlim ?_ (fun p X c w aa ab Q l ac g Z Y => ?_) (fun c W => ?_)
  ·rw [m]
   refine (Ghost.ownNil (s := 8) (by simp) 3 0x001d).trans ?_
   exact gC [208]
  ·rw [congrFun (congrFun m p) c]
   refine sZ ?_ fun K hK => by simp [Q]; exact hK
   apply sq
   refine cT ?_
   apply TrD.skip
   apply sq
   apply TrD.block
   refine sZ ?_ fun K hK => by simp [idx_inb w, idx_row w]; exact hK
   obtain ⟨al, O, g⟩ := bindE g
   obtain ⟨r, o, g⟩ := bindE g
   have v := (app_some o).2
   try simp only [List.length_cons, List.length_nil, Nat.zero_add] at v
   refine rk fun K hK => ?_
   simp
   refine cp (c_impl_ownValue n X _ O) ?_
   simp [v]
   apply hK
   refine rZ ?_
   cases g
   refine ToAny.mk r rfl ?_
   rw [m]
   exact gc [73] hβ ((((va.s 73 (by simp [(app_some o).1, l])).f (by simp [l])).f (by simp [l])).f (by simp [l])) (ln.f (by simp [(app_some o).1]))
  rw [congrFun (congrFun m _) c]
  refine sZ ?_ fun K hK => by simp [ilt_len a.length]; exact hK
  apply sq
  refine cF ?_
  refine TrD.exit ?_
  try simp only [↓reduceIte, Nat.reduceEqDiff, Nat.zero_ne_one, Nat.one_ne_zero, OfNat.ofNat_ne_zero, OfNat.zero_ne_ofNat, OfNat.one_ne_ofNat, OfNat.ofNat_ne_one]
  refine ToAny.mk c W ?_
  rw [t]
  exact gC [0]
 subst hz
 try dsimp only at h
 rw [congrFun t f]
 refine sZ ?_
 cases h
 apply TrD.ret
 refine exitDG (σ' := ⟨(updD (updD (fun _ => .any) 6 (.slice 3 (List.map rGValue f))) 7 (eB true)), hOfO [], 0, 43⟩) ?_ ?_
 ·refine (Ghost.raise 0 (by simp; rfl)).trans ?_
  exact gC [] (ht := ((va.u (d0 := (.sl 3 0 (f).length)) (by simp) (v_frz (by simp; rfl) rfl (by simp) (by simp) (rv_free (by simp) (by simp)))).f))
 dsimp only [resD]
 exact eF
theorem c_impl_ownPattern : ∀ (n : Nat) (p0 : GPattern) (res : GPattern), m_impl_ownPattern n p0 = some res → CallsD Tryz.prog 0o00070 [(.agg (rGPattern p0))] (fun d => d = (.agg (rGPattern res))) := by
 intro n
 induction n with
 | zero => intro p0 res h; cases h
 | succ n ih =>
  intro p0 res h
  rw [m_impl_ownPattern.eq_2] at h
  refine CD Tryz.func56 [.cell 2 41] fun β hβ => ?_
  refine sZ ?_
  refine sZ ?_
  refine sZ ?_
  apply sq
  refine sZ ?_
  obtain ⟨A, u, h⟩ := bindE h
  obtain ⟨s, p⟩ : ∃ S : (List GPattern) → St, S = fun f => ⟨(updD (updD (fun _ => .any) 1 (.ptr 6 0 0 0)) 2 (.ptr 6 2 0 0)), hOfO [some ⟨6, [[(eI p0.op), (eI p0.ctor), (eI p0.n), (eI p0.m), (eI p0.var), (.sl 6 1 (f).length)]], 0, 0x0029⟩, some ⟨6, (List.map rGPattern f), 0, 0x0029⟩, some ⟨6, [[(eI 0), (eI 0), (eI 0), (eI 0), (eI 0), .nil]], 0, 0x0029⟩], 3, 24⟩ := ⟨_, rfl⟩
  refine TrD.joinQ s (fun z => A = Ctl.brk z) (fun _ _ hg h => TrD.ghost hg h) ?_ (fun f hz => ?_)
  ·apply TrD.block
   obtain ⟨t, i⟩ : ∃ S : Nat → (List GPattern) → St, S = fun c a => ⟨(updD (updD (updD (updD (updD (fun _ => .any) 1 (.ptr 6 0 0 0)) 2 (.ptr 6 2 0 0)) 9 (.slice 6 (List.map rGPattern p0.kids))) 10 (eI (lenZ p0.kids.length))) 11 (eI (c : Int))), hOfO [some ⟨6, [[(eI p0.op), (eI p0.ctor), (eI p0.n), (eI p0.m), (eI p0.var), (.sl 6 1 (a).length)]], 0, 0x0029⟩, some ⟨6, (List.map rGPattern a), 0, 0x0029⟩, some ⟨6, [[(eI 0), (eI 0), (eI 0), (eI 0), (eI 0), .nil]], 0, 0x0029⟩], 3, 24⟩ := ⟨_, rfl⟩
   refine TrD.limS (sz := 6) (rows := List.map rGPattern p0.kids) (seen_slot (d := .slice 6 (List.map rGPattern p0.kids)) 7 (by simp)) (fun hlim => ?_)
   rw [List.length_map] at hlim
   refine TrD.forL t u hlim ?_ (fun c l a r E F y e G g D C => ?_) (fun a B => ?_)
   ·rw [i]
    refine (Ghost.ownNilCell 0 5 6 0x0029 (by simp; rfl) rfl (by simp) (by simp)).trans ?_
    exact gC [0, 80, 8]
   ·rw [congrFun (congrFun i c) a]
    refine sZ ?_ fun K hK => by simp [y]; exact hK
    apply sq
    refine cT ?_
    apply TrD.skip
    apply sq
    apply TrD.block
    refine sZ ?_ fun K hK => by simp [idx_inb r, idx_row r]; exact hK
    refine TrD.ghost (σ' := ⟨(updD (updD (updD (updD (updD (updD (fun _ => .any) 1 (.ptr 6 0 0 0)) 2 (.ptr 6 2 0 0)) 5 (.ptr 6 3 0 0)) 9 (.slice 6 (List.map rGPattern p0.kids))) 10 (eI (lenZ p0.kids.length))) 11 (eI (c : Int))), hOfO [some ⟨6, [[(eI p0.op), (eI p0.ctor), (eI p0.n), (eI p0.m), (eI p0.var), (.sl 6 1 (a).length)]], 0, 0x0029⟩, some ⟨6, (List.map rGPattern a), 0, 0x0029⟩, some ⟨6, [[(eI 0), (eI 0), (eI 0), (eI 0), (eI 0), .nil]], 0, 0x0029⟩, some ⟨6, [(rGPattern l)], 0, 0x0029⟩], 4, 24⟩) ?_ ?_
    ·exact gC [0, 1, 2, 27]
    obtain ⟨I, w, g⟩ := bindE g
    obtain ⟨o, j, g⟩ := bindE g
    have q := (app_some j).2
    try simp only [List.length_cons, List.length_nil, Nat.zero_add] at q
    refine TrD.draw tysOk mixed [0, 1, 2, 3, 4, 5, 6, 7] [0, 3] [21] (by rfl) rfl (fun K hK => ?_)
    simp
    refine cp (ih l _ w) ?_
    simp [q]
    apply hK
    refine rZ ?_
    cases g
    refine ToAny.mk o rfl ?_
    rw [i]
    exact gc [0, 20, 2] hβ (((((va.p 0 (by simp [e])).p 2 (by simp [e])).f (by simp [e])).f (by simp [e])).f (by simp [e])) (((ln.c (lv (L := ⟨6, [[(eI 0), (eI 0), (eI 0), (eI 0), (eI 0), .nil]], 0, 0x0029⟩) (by simp) rfl rfl (by simp) (rv_cons (.cons (v_free (by simp) (by simp)) (.cons (v_free (by simp) (by simp)) (.cons (v_free (by simp) (by simp)) (.cons (v_free (by simp) (by simp)) (.cons (v_free (by simp) (by simp)) (.cons (v_free (by simp) (by simp)) .nil)))))) rv_nil))).f (by simp [(app_some j).1])).c (lv (L := ⟨6, [[(eI p0.op), (eI p0.ctor), (eI p0.n), (eI p0.m), (eI p0.var), (.sl 6 20 (o).length)]], 0, 0x0029⟩) (by simp [(app_some j).1]) rfl rfl (by simp) (rv_cons (.cons (v_free (by simp) (by simp)) (.cons (v_free (by simp) (by simp)) (.cons (v_free (by simp) (by simp)) (.cons (v_free (by simp) (by simp)) (.cons (v_free (by simp) (by simp)) (.cons (v_sl rfl) .nil)))))) rv_nil)))
   rw [congrFun (congrFun i _) a]
   refine sZ ?_ fun K hK => by simp [ilt_len p0.kids.length]; exact hK
   apply sq
   refine cF ?_
   refine TrD.exit ?_
   try simp only [↓reduceIte, Nat.reduceEqDiff, Nat.zero_ne_one, Nat.one_ne_zero, OfNat.ofNat_ne_zero, OfNat.zero_ne_ofNat, OfNat.one_ne_ofNat, OfNat.ofNat_ne_one]
   refine ToAny.mk a B ?_
   rw [p]
   exact gC [0, 1, 2]
  subst hz
  try dsimp only at h
  rw [congrFun p f]
  refine sZ ?_
  cases h
  apply TrD.ret
  refine exitDG (σ' := ⟨(updD (fun _ => .any) 2 (.ptr 6 0 0 0)), hOfO [some ⟨6, [(rGPattern (GPattern.mk p0.op p0.ctor p0.n p0.m p0.var f))], 0, 0x0029⟩], 1, 24⟩) ?_ ?_
  ·refine (Ghost.raise 1 (by simp; rfl)).trans ?_
   exact gC [2] (hh := (ln.c (lv (L := ⟨6, [[(eI p0.op), (eI p0.ctor), (eI p0.n), (eI p0.m), (eI p0.var), (.sl 6 1 (f).length)]], 0, 0x0029⟩) (by simp) rfl rfl (by simp) (rv_consr (rGPattern_eq _) (.cons (v_free (by simp) (by simp)) (.cons (v_free (by simp) (by simp)) (.cons (v_free (by simp) (by simp)) (.cons (v_free (by simp) (by simp)) (.cons (v_free (by simp) (by simp)) (.cons (v_frz (by simp; rfl) rfl (by simp) (by simp) (rv_free (by simp) (by simp))) .nil)))))) rv_nil))))
  simp [resD]
  exact eF
theorem c_impl_patternOk (n : Nat) (p0 : (List GData)) (p1 : GType) (p2 : GPattern) (res : Bool) (h : m_impl_patternOk n p0 p1 p2 = some res) : CallsD Tryz.prog 0o00071 [(.slice 2 (List.map rGData p0)), (.agg (rGType p1)), (.agg (rGPattern p2))] (fun d => d = (eB res)) := by
 unfold m_impl_patternOk at h
 refine CD Tryz.func57 [.tmp 6] fun β hβ => ?_
 refine sZ ?_
 apply sq
 obtain ⟨r1, hr1, h⟩ := bindE h
 refine rk fun K hK => ?_
 simp
 refine cp (c_impl_patternVars n p0 p1 p2 _ hr1) ?_
 simp
 apply hK
 refine sZ ?_
 cases h
 apply TrD.ret
 exact xD
set_option maxRecDepth 100000 in
theorem c_impl_GuardPattern (n : Nat) (p0 : (List GData)) (p1 : GType) (p2 : GClause) (res : GClause × Bool) (h : m_impl_GuardPattern n p0 p1 p2 = some res) : CallsD Tryz.prog 0o00022 [(.slice 2 (List.map rGData p0)), (.agg (rGType p1)), (.agg (rGClause p2))] (fun d => d = .tup [(.agg (rGClause res.1)), (eB res.2)]) := by
 unfold m_impl_GuardPattern at h
 refine CD Tryz.func18 [.cell 6 45, .tmp 7] fun β hβ => ?_
 refine sZ ?_
 apply sq
 apply sq
 obtain ⟨r4, hr4, h⟩ := bindE h
 refine rk fun K hK => ?_
 simp
 refine cp (c_impl_ClauseValid n p0 p1 p2 _ hr4) ?_
 simp
 apply hK
 refine TrD.cond (b := (!r4)) (by simp) (fun hb5 => ?_) (fun hb5 => ?_)
 ·rw [if_pos hb5] at h
  refine sZ ?_ fun K hK => by simp [hb5]; exact hK
  cases h
  apply TrD.ret
  refine exitDG (σ' := ⟨(updD (updD (fun _ => .any) 6 (.ptr 9 0 0 0)) 7 (eB false)), hOfO [some ⟨9, [(rGClause (GClause.mk (GPattern.mk 0 0 0 0 0 []) (GGuard.mk 0 0 0)))], 0, 0x002d⟩], 1, 48⟩) ?_ ?_
  ·exact gC [16]
  simp [resD]
  exact eF
 rw [iN hb5] at h
 apply TrD.skip
 apply sq
 refine sZ ?_ fun K hK => by simp [hb5]; exact hK
 refine TrD.cond (b := ieq p2.guard.op 0) (by simp) (fun hb9 => ?_) (fun hb9 => ?_)
 ·rw [if_pos hb9] at h
  apply sq
  obtain ⟨a, r, h⟩ := bindE h
  refine rk fun K hK => ?_
  simp [hb9]
  refine cp (c_impl_ownPattern n p2.pat _ r) ?_
  simp
  apply hK
  cases h
  apply TrD.ret
  exact xD
 rw [iN hb9] at h
 apply TrD.skip
 apply sq
 obtain ⟨i, s, h⟩ := bindE h
 refine rk fun K hK => ?_
 simp [hb9]
 refine cp (c_impl_guarded n p2 _ s) ?_
 simp
 apply hK
 apply sq
 apply sq
 rcases bb (!i.2.1) with e | e
 ·rw [if_pos e] at h
  refine rZ ?_ fun K hK => by simp [e]; exact hK
  refine cT ?_
  refine sZ ?_
  cases h
  apply TrD.ret
  refine exitDG (σ' := ⟨(updD (updD (fun _ => .any) 6 (.ptr 9 0 0 0)) 7 (eB false)), hOfO [some ⟨9, [(rGClause (GClause.mk (GPattern.mk 0 0 0 0 0 []) (GGuard.mk 0 0 0)))], 0, 0x002d⟩], 1, 48⟩) ?_ ?_
  ·exact gC [16]
  simp [resD]
  exact eF
 rw [iN e] at h
 rcases bb (!i.2.2) with f | f
 ·rw [if_pos f] at h
  refine rZ ?_ fun K hK => by simp [e, f]; exact hK
  refine cT ?_
  refine sZ ?_
  cases h
  apply TrD.ret
  refine exitDG (σ' := ⟨(updD (updD (fun _ => .any) 6 (.ptr 9 0 0 0)) 7 (eB false)), hOfO [some ⟨9, [(rGClause (GClause.mk (GPattern.mk 0 0 0 0 0 []) (GGuard.mk 0 0 0)))], 0, 0x002d⟩], 1, 48⟩) ?_ ?_
  ·exact gC [16]
  simp [resD]
  exact eF
 rw [iN f] at h
 obtain ⟨v, t, h⟩ := bindE h
 refine rk fun K hK => ?_
 simp [e, f]
 refine cp (c_impl_patternOk n p0 p1 i.1 _ t) ?_
 simp
 apply hK
 refine TrD.cond (b := (!v)) (by simp) (fun g => ?_) (fun g => ?_)
 ·rw [if_pos g] at h
  refine sZ ?_ fun K hK => by simp [g]; exact hK
  cases h
  apply TrD.ret
  refine exitDG (σ' := ⟨(updD (updD (fun _ => .any) 6 (.ptr 9 0 0 0)) 7 (eB false)), hOfO [some ⟨9, [(rGClause (GClause.mk (GPattern.mk 0 0 0 0 0 []) (GGuard.mk 0 0 0)))], 0, 0x002d⟩], 1, 48⟩) ?_ ?_
  ·exact gC [16]
  simp [resD]
  exact eF
 rw [iN g] at h
 apply TrD.skip
 apply sq
 obtain ⟨c, u, h⟩ := bindE h
 refine rk fun K hK => ?_
 simp [g]
 refine cp (c_impl_ownPattern n i.1 _ u) ?_
 simp
 apply hK
 cases h
 apply TrD.ret
 exact xD
end Go.Proofs.YtmkamncbkkahjaaGreat
