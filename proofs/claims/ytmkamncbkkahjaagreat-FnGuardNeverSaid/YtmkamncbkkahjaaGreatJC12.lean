import Derived.Test.YtmkamncbkkahjaaGreatJMir
import Derived.Test.YtmkamncbkkahjaaGreatJZap
import Derived.Test.YtmkamncbkkahjaaGreatJC8
import Derived.Test.YtmkamncbkkahjaaGreatJC11
import Derived.Test.YtmkamncbkkahjaaGreatJC5
import Derived.Test.YtmkamncbkkahjaaGreatJC7
set_option linter.unusedSimpArgs false
set_option linter.unusedVariables false
namespace Go.Proofs.YtmkamncbkkahjaaGreat
open Go Go.RowKit
set_option maxRecDepth 100000
set_option maxHeartbeats 20000000
theorem c_spec_l1Table (n : Nat) (p0 : (List GData)) (res : (List Int)) (h : m_spec_l1Table n p0 = some res) : CallsD Tryz.prog 0o00106 [(.slice 2 (List.map rGData p0))] (fun d => d = (.slice 1 (List.map rI res))) := by
 unfold m_spec_l1Table at h
 refine CD Tryz.func70 [.tmp 2] fun β hβ => ?_
 refine sZ ?_
 apply sq
 obtain ⟨x1, hx1, h⟩ := bindE h
 refine rZ ?_ fun K hK => by simp [mkS_len hx1, mkS_rowl hx1 rI [(eI 0)] rfl, (mkS_some hx1).2.1, (mkS_some hx1).2.2]; exact hK
 apply sq
 refine sZ ?_
 obtain ⟨am, ab, h⟩ := bindE h
 obtain ⟨U, N⟩ : ∃ S : ((List Int) × Int) → St, S = fun v => ⟨(updD (fun _ => .any) 3 (.sl 1 0 (v.1).length)), hOfO [some ⟨1, (List.map rI v.1), 0, 0x0003⟩], 1, 70⟩ := ⟨_, rfl⟩
 refine TrD.joinQ U (fun z => am = Ctl.brk z) (fun _ _ hg h => TrD.ghost hg h) ?_ (fun v hz => ?_)
 ·apply TrD.block
  obtain ⟨Y, D⟩ : ∃ S : ((List Int) × Int) → St, S = fun c => ⟨(updD (updD (updD (fun _ => .any) 0 (.slice 2 (List.map rGData p0))) 3 (.sl 1 0 (c.1).length)) 4 (eI c.2)), hOfO [some ⟨1, (List.map rI c.1), 0, 0x0003⟩], 1, 70⟩ := ⟨_, rfl⟩
  refine TrD.whileL Y ab ?_ (fun c az p au ad => ?_)
  ·rw [D]
   exact gC [32]
  rw [congrFun D c]
  apply sq
  refine sZ ?_
  refine TrD.cond (b := ile c.2 (lenZ c.1.length)) (by simp) (fun A => ?_) (fun A => ?_)
  ·rw [if_pos A] at p
   apply TrD.skip
   apply sq
   apply TrD.block
   refine sZ ?_ fun K hK => by simp [A]; exact hK
   obtain ⟨an, ac, p⟩ := bindE p
   obtain ⟨V, O⟩ : ∃ S : ((List Int) × Int) → St, S = fun t => ⟨(updD (updD (updD (fun _ => .any) 0 (.slice 2 (List.map rGData p0))) 3 (.sl 1 0 (t.1).length)) 4 (eI c.2)), hOfO [some ⟨1, (List.map rI t.1), 0, 0x0003⟩], 1, 70⟩ := ⟨_, rfl⟩
   refine TrD.joinQ V (fun z => an = Ctl.brk z) (fun _ _ hg h => TrD.ghost hg h) ?_ (fun t hz => ?_)
   ·apply TrD.block
    obtain ⟨Z, E⟩ : ∃ S : ((List Int) × Int) → St, S = fun a => ⟨(updD (updD (updD (updD (fun _ => .any) 0 (.slice 2 (List.map rGData p0))) 3 (.sl 1 0 (a.1).length)) 4 (eI c.2)) 5 (eI a.2)), hOfO [some ⟨1, (List.map rI a.1), 0, 0x0003⟩], 1, 70⟩ := ⟨_, rfl⟩
    refine TrD.whileL Z ac ?_ (fun a aA m av ae => ?_)
    ·rw [E]
     exact gC [0]
    rw [congrFun E a]
    apply sq
    refine sZ ?_
    refine TrD.cond (b := ilt a.2 (lenZ a.1.length)) (by simp) (fun q => ?_) (fun q => ?_)
    ·rw [if_pos q] at m
     apply TrD.skip
     apply sq
     apply TrD.block
     refine sZ ?_ fun K hK => by simp [q, show ieq 4 0 = false from rfl]; exact hK
     apply sq
     obtain ⟨g, ah, m⟩ := bindE m
     refine rk fun K hK => ?_
     simp
     refine cp (c_spec_l1Ctors p0 (GType.mk (wquo .i64 a.2 4) (wrem a.2 4)) _ ah) ?_
     simp
     apply hK
     refine sZ ?_
     obtain ⟨ak, aa, m⟩ := bindE m
     obtain ⟨T, J⟩ : ∃ S : (List Int) → St, S = fun r => ⟨(updD (updD (updD (updD (fun _ => .any) 0 (.slice 2 (List.map rGData p0))) 3 (.sl 1 0 (r).length)) 4 (eI c.2)) 5 (eI a.2)), hOfO [some ⟨1, (List.map rI r), 0, 0x0003⟩], 1, 70⟩ := ⟨_, rfl⟩
     refine TrD.joinQ T (fun z => ak = Ctl.brk z) (fun _ _ hg h => TrD.ghost hg h) ?_ (fun r hz => ?_)
     ·apply TrD.block
      obtain ⟨W, C⟩ : ∃ S : Nat → (List Int) → St, S = fun j e => ⟨(updD (updD (updD (updD (updD (updD (updD (fun _ => .any) 0 (.slice 2 (List.map rGData p0))) 3 (.sl 1 0 (e).length)) 4 (eI c.2)) 5 (eI a.2)) 6 (.ptr 2 1 0 0)) 7 (.slice 1 (List.map rI g))) 8 (eI (j : Int))), hOfO [some ⟨1, (List.map rI e), 0, 0x0003⟩, some ⟨2, [[(eI (wquo .i64 a.2 4)), (eI (wrem a.2 4))]], 0, 0x0019⟩], 2, 70⟩ := ⟨_, rfl⟩
      refine TrD.limS (sz := 1) (rows := List.map rI g) (seen_slot (d := .slice 1 (List.map rI g)) 33 (by simp)) (fun hlim => ?_)
      rw [List.length_map] at hlim
      refine TrD.forL W aa hlim ?_ (fun j ap e P aw ax aj o ay B ar aq => ?_) (fun e ao => ?_)
      ·rw [C]
       exact gC [0, 73]
      ·rw [congrFun (congrFun C j) e]
       apply sq
       refine sZ ?_ fun K hK => by simp [aj]; exact hK
       refine cT ?_
       apply TrD.skip
       obtain ⟨al, f, B⟩ := bindE B
       obtain ⟨X, w⟩ : ∃ S : (List Int) → St, S = fun s => ⟨(updD (updD (updD (updD (updD (updD (updD (fun _ => .any) 0 (.slice 2 (List.map rGData p0))) 3 (.sl 1 0 (s).length)) 4 (eI c.2)) 5 (eI a.2)) 6 (.ptr 2 1 0 0)) 7 (.slice 1 (List.map rI g))) 8 (eI (j : Int))), hOfO [some ⟨1, (List.map rI s), 0, 0x0003⟩, some ⟨2, [[(eI (wquo .i64 a.2 4)), (eI (wrem a.2 4))]], 0, 0x0019⟩], 2, 70⟩ := ⟨_, rfl⟩
       refine TrD.join X (fun z => al = Ctl.brk z) ?_ (fun s hz => ?_)
       ·apply TrD.block
        apply sq
        refine TrD.ghost (σ' := ⟨(updD (updD (updD (updD (updD (updD (updD (fun _ => .any) 0 (.slice 2 (List.map rGData p0))) 3 (.sl 1 0 (e).length)) 4 (eI c.2)) 5 (eI a.2)) 6 (.ptr 2 1 0 0)) 7 (.slice 1 (List.map rI g))) 8 (eI (j : Int))), hOfO [some ⟨1, (List.map rI e), 0, 0x0003⟩, some ⟨2, [[(eI (wquo .i64 a.2 4)), (eI (wrem a.2 4))]], 0, 0x0019⟩], 2, 70⟩) ?_ ?_
        ·exact gC [0, 1]
        obtain ⟨Q, ai, f⟩ := bindE f
        refine TrD.draw tysOk mixed [0, 1, 2, 3, 4, 5, 6, 7, 8] [1] [] (by rfl) rfl (fun K hK => ?_)
        simp [idx_inb P, idx_row P]
        refine callB (.cons (.same _ _) (.cons (.sl _ _ _ _ _ (by simp; rfl) rfl (by simp) (by simp)) (.cons (.same _ _) (.cons (.same _ _) (.nil _))))) (c_spec_l1Most p0 e (GType.mk (wquo .i64 a.2 4) (wrem a.2 4)) ap _ ai) (by simp) (by simp) (fun aB af => ?_)
        subst af
        refine ⟨by simp, ?_⟩
        simp
        apply hK
        apply sq
        rcases bb (ilt 0 Q) with u | u
        ·rw [if_pos u] at f
         obtain ⟨R, l, f⟩ := bindE f
         rcases bb (ieq R 0) with y | y
         ·rw [if_pos y] at f
          refine rZ ?_ fun K hK => by simp [u, idx_inb l, idx_lt l, elt (idx_get l), y]; exact hK
          refine cT ?_
          obtain ⟨H, F, f⟩ := bindE f
          refine rZ ?_ fun K hK => by simp [idx_inb l, idx_lt l]; exact hK
          cases f
          refine ToAny.mk H rfl ?_
          rw [w]
          exact gc [0, 1] hβ ((((((va.f.s 0 (by simp [(setI_some F).1])).f).f).p 1).f).f) (ln.f.f (by simp [(setI_some F).1]))
         rw [iN y] at f
         refine rZ ?_ fun K hK => by simp [u, idx_inb l, idx_lt l, elt (idx_get l), y]; exact hK
         refine TrD.cond (b := ilt Q R) (by simp) (fun i => ?_) (fun i => ?_)
         ·rw [if_pos i] at f
          obtain ⟨I, G, f⟩ := bindE f
          refine rZ ?_ fun K hK => by simp [idx_inb l, idx_lt l, i]; exact hK
          cases f
          refine ToAny.mk I rfl ?_
          rw [w]
          exact gc [0, 1] hβ ((((((va.f.s 0 (by simp [(setI_some G).1])).f).f).p 1).f).f) (ln.f.f (by simp [(setI_some G).1]))
         rw [iN i] at f
         apply TrD.skip
         cases f
         refine ToAny.mk e rfl ?_
         rw [w]
         exact gC [0, 1]
        rw [iN u] at f
        refine rZ ?_ fun K hK => by simp [u]; exact hK
        refine cF ?_
        apply TrD.skip
        cases f
        refine ToAny.mk e rfl ?_
        rw [w]
        exact gC [0, 1]
       subst hz
       try dsimp only at B
       rw [congrFun w s]
       refine rZ ?_
       cases B
       refine ToAny.mk s rfl ?_
       rw [C]
       exact gc [0, 1] hβ (((((((va.f (by simp [o])).s 0 (by simp [o])).f (by simp [o])).f (by simp [o])).p 1 (by simp [o])).f (by simp [o])).f (by simp [o])) ln.f.f
      rw [congrFun (congrFun C _) e]
      apply sq
      refine sZ ?_ fun K hK => by simp [ilt_len g.length]; exact hK
      refine cF ?_
      refine TrD.exit ?_
      try simp only [↓reduceIte, Nat.reduceEqDiff, Nat.zero_ne_one, Nat.one_ne_zero, OfNat.ofNat_ne_zero, OfNat.zero_ne_ofNat, OfNat.one_ne_ofNat, OfNat.ofNat_ne_one]
      refine ToAny.mk e ao ?_
      rw [J]
      exact gC [0]
     subst hz
     try dsimp only at m
     rw [congrFun J r]
     refine rZ ?_
     cases m
     refine ToAny.mk (r, wadd .i64 a.2 1) rfl ?_
     rw [E]
     exact gC [0]
    rw [iN q] at m
    refine TrD.exit ?_
    try simp only [↓reduceIte, Nat.reduceEqDiff, Nat.zero_ne_one, Nat.one_ne_zero, OfNat.ofNat_ne_zero, OfNat.zero_ne_ofNat, OfNat.one_ne_ofNat, OfNat.ofNat_ne_one]
    cases m
    obtain rfl := ae _ rfl
    refine ToAny.mk (a.1, a.2) rfl ?_
    rw [O]
    exact gC [0]
   subst hz
   try dsimp only at p
   rw [congrFun O t]
   refine rZ ?_
   cases p
   refine ToAny.mk (t.1, wadd .i64 c.2 1) rfl ?_
   rw [D]
   exact gC [0]
  rw [iN A] at p
  refine TrD.exit ?_
  try simp only [↓reduceIte, Nat.reduceEqDiff, Nat.zero_ne_one, Nat.one_ne_zero, OfNat.ofNat_ne_zero, OfNat.zero_ne_ofNat, OfNat.one_ne_ofNat, OfNat.ofNat_ne_one]
  cases p
  obtain rfl := ad _ rfl
  refine ToAny.mk (c.1, c.2) rfl ?_
  rw [N]
  exact gC [0]
 subst hz
 try dsimp only at h
 rw [congrFun N v]
 refine sZ ?_
 cases h
 apply TrD.ret
 refine exitDG (σ' := ⟨(updD (fun _ => .any) 2 (.slice 1 (List.map rI v.1))), hOfO [], 0, 70⟩) ?_ ?_
 ·refine (Ghost.raise 0 (by simp; rfl)).trans ?_
  exact gC [] (ht := (va.u (d0 := (.sl 1 0 (v.1).length)) (by simp) (v_frz (by simp; rfl) rfl (by simp) (by simp) (rv_free (by simp) (by simp)))))
 dsimp only [resD]
 exact eF
theorem c_spec_l1Texts  (res : (List ByteArray)) (h : m_spec_l1Texts  = some res) : CallsD Tryz.prog 0o00401 [] (fun d => d = (.slice 1 (List.map rS res))) := by
 unfold m_spec_l1Texts at h
 refine CD Tryz.func257 [.tmp 0] fun β hβ => ?_
 refine sZ ?_
 refine sZ ?_
 cases h
 apply TrD.ret
 refine exitDG (σ' := ⟨(updD (fun _ => .any) 0 (.slice 1 (List.map rS [(ByteArray.mk #[76, 61, 78, 105, 108, 124, 67, 111, 110, 115, 40, 73, 44, 76, 41]), (ByteArray.mk #[66, 61, 84, 114, 117, 124, 70, 108, 115, 59, 84, 61, 76, 101, 97, 102, 124, 78, 111, 100, 101, 40, 84, 44, 66, 44, 84, 41]), (ByteArray.mk #[69, 61, 78, 117, 109, 40, 73, 41, 58, 49, 124, 66, 111, 108, 40, 66, 41, 58, 50, 124, 65, 100, 100, 40, 69, 49, 44, 69, 49, 41, 58, 49, 124, 73, 102, 40, 69, 50, 44, 69, 42, 44, 69, 42, 41, 59, 66, 61, 84, 114, 117, 124, 70, 108, 115]), (ByteArray.mk #[79, 61, 78, 111, 110, 124, 83, 111, 109, 40, 73, 41, 59, 80, 61, 80, 97, 105, 114, 40, 79, 44, 79, 41]), (ByteArray.mk #[86, 61, 69, 110, 100, 58, 49, 124, 83, 111, 109, 101, 40, 73, 44, 86, 49, 41, 58, 50, 124, 84, 119, 111, 40, 86, 42, 41]), (ByteArray.mk #[78, 61, 78, 101, 118, 101, 114, 40, 78, 41, 59, 66, 61, 84, 114, 117, 124, 70, 108, 115, 124, 77, 97, 121, 40, 78, 41]), (ByteArray.mk #[83, 61, 82, 101, 100, 124, 71, 114, 101, 101, 110, 124, 66, 108, 117, 101, 124, 77, 105, 120, 40, 83, 44, 83, 41]), (ByteArray.mk #[])]))), hOfO [], 0, 2⟩) ?_ ?_
 ·refine (Ghost.raise 8 (by simp; rfl)).trans ?_
  exact gC [] (ht := (va.u (d0 := (.sl 1 8 ([(ByteArray.mk #[76, 61, 78, 105, 108, 124, 67, 111, 110, 115, 40, 73, 44, 76, 41]), (ByteArray.mk #[66, 61, 84, 114, 117, 124, 70, 108, 115, 59, 84, 61, 76, 101, 97, 102, 124, 78, 111, 100, 101, 40, 84, 44, 66, 44, 84, 41]), (ByteArray.mk #[69, 61, 78, 117, 109, 40, 73, 41, 58, 49, 124, 66, 111, 108, 40, 66, 41, 58, 50, 124, 65, 100, 100, 40, 69, 49, 44, 69, 49, 41, 58, 49, 124, 73, 102, 40, 69, 50, 44, 69, 42, 44, 69, 42, 41, 59, 66, 61, 84, 114, 117, 124, 70, 108, 115]), (ByteArray.mk #[79, 61, 78, 111, 110, 124, 83, 111, 109, 40, 73, 41, 59, 80, 61, 80, 97, 105, 114, 40, 79, 44, 79, 41]), (ByteArray.mk #[86, 61, 69, 110, 100, 58, 49, 124, 83, 111, 109, 101, 40, 73, 44, 86, 49, 41, 58, 50, 124, 84, 119, 111, 40, 86, 42, 41]), (ByteArray.mk #[78, 61, 78, 101, 118, 101, 114, 40, 78, 41, 59, 66, 61, 84, 114, 117, 124, 70, 108, 115, 124, 77, 97, 121, 40, 78, 41]), (ByteArray.mk #[83, 61, 82, 101, 100, 124, 71, 114, 101, 101, 110, 124, 66, 108, 117, 101, 124, 77, 105, 120, 40, 83, 44, 83, 41]), (ByteArray.mk #[])]).length)) (by simp) (v_frz (L := ⟨1, (List.map rS [(ByteArray.mk #[76, 61, 78, 105, 108, 124, 67, 111, 110, 115, 40, 73, 44, 76, 41]), (ByteArray.mk #[66, 61, 84, 114, 117, 124, 70, 108, 115, 59, 84, 61, 76, 101, 97, 102, 124, 78, 111, 100, 101, 40, 84, 44, 66, 44, 84, 41]), (ByteArray.mk #[69, 61, 78, 117, 109, 40, 73, 41, 58, 49, 124, 66, 111, 108, 40, 66, 41, 58, 50, 124, 65, 100, 100, 40, 69, 49, 44, 69, 49, 41, 58, 49, 124, 73, 102, 40, 69, 50, 44, 69, 42, 44, 69, 42, 41, 59, 66, 61, 84, 114, 117, 124, 70, 108, 115]), (ByteArray.mk #[79, 61, 78, 111, 110, 124, 83, 111, 109, 40, 73, 41, 59, 80, 61, 80, 97, 105, 114, 40, 79, 44, 79, 41]), (ByteArray.mk #[86, 61, 69, 110, 100, 58, 49, 124, 83, 111, 109, 101, 40, 73, 44, 86, 49, 41, 58, 50, 124, 84, 119, 111, 40, 86, 42, 41]), (ByteArray.mk #[78, 61, 78, 101, 118, 101, 114, 40, 78, 41, 59, 66, 61, 84, 114, 117, 124, 70, 108, 115, 124, 77, 97, 121, 40, 78, 41]), (ByteArray.mk #[83, 61, 82, 101, 100, 124, 71, 114, 101, 101, 110, 124, 66, 108, 117, 101, 124, 77, 105, 120, 40, 83, 44, 83, 41]), (ByteArray.mk #[])]), ([(ByteArray.mk #[76, 61, 78, 105, 108, 124, 67, 111, 110, 115, 40, 73, 44, 76, 41]), (ByteArray.mk #[66, 61, 84, 114, 117, 124, 70, 108, 115, 59, 84, 61, 76, 101, 97, 102, 124, 78, 111, 100, 101, 40, 84, 44, 66, 44, 84, 41]), (ByteArray.mk #[69, 61, 78, 117, 109, 40, 73, 41, 58, 49, 124, 66, 111, 108, 40, 66, 41, 58, 50, 124, 65, 100, 100, 40, 69, 49, 44, 69, 49, 41, 58, 49, 124, 73, 102, 40, 69, 50, 44, 69, 42, 44, 69, 42, 41, 59, 66, 61, 84, 114, 117, 124, 70, 108, 115]), (ByteArray.mk #[79, 61, 78, 111, 110, 124, 83, 111, 109, 40, 73, 41, 59, 80, 61, 80, 97, 105, 114, 40, 79, 44, 79, 41]), (ByteArray.mk #[86, 61, 69, 110, 100, 58, 49, 124, 83, 111, 109, 101, 40, 73, 44, 86, 49, 41, 58, 50, 124, 84, 119, 111, 40, 86, 42, 41]), (ByteArray.mk #[78, 61, 78, 101, 118, 101, 114, 40, 78, 41, 59, 66, 61, 84, 114, 117, 124, 70, 108, 115, 124, 77, 97, 121, 40, 78, 41]), (ByteArray.mk #[83, 61, 82, 101, 100, 124, 71, 114, 101, 101, 110, 124, 66, 108, 117, 101, 124, 77, 105, 120, 40, 83, 44, 83, 41]), (ByteArray.mk #[])]).length * 1, 0x0009⟩) (by simp) rfl (by simp) (by simp) (rv_free (by simp) (by simp)))))
 dsimp only [resD]
 exact eF
theorem c_spec_l1World (n : Nat) (p0 : Gl17Rd) (res : (List GData) × Gl17Rd) (h : m_spec_l1World n p0 = some res) : CallsH Tryz.prog 0o00306 [⟨2, [(rGl17Rd p0)], 0, 0x00ba⟩] [.ptr 2 0 0 0] (fun H d => H = [some ⟨2, [(rGl17Rd res.2)], 0, 0x00ba⟩] ∧ d = (.slice 2 (List.map rGData res.1))) := by
 unfold m_spec_l1World at h
 refine CH Tryz.func198 [.tmp 2] 1 fun β hβ => ?_
 refine sZ ?_
 apply sq
 obtain ⟨r1, hr1, h⟩ := bindE h
 refine rk fun K hK => ?_
 simp
 refine cp (c_spec_l1Texts _ hr1) ?_
 simp
 apply hK
 apply sq
 obtain ⟨r2, hr2, h⟩ := bindE h
 obtain ⟨x3, hx3, h⟩ := bindE h
 obtain ⟨r4, hr4, h⟩ := bindE h
 refine rk fun K hK => ?_
 simp
 refine callK (views_same _ _) (.same _ _) [0] (c_spec_l17Rd_pick p0 (wsub .i64 (lenZ r1.length) 1) _ hr2) (by decide) (.cons (locRen_eq (by simp) (by simp) (by simp)) .nil) (.cons (ren_ptr rfl) (.cons (ren_le (by simp) (by simp)) .nil)) (fun Hq5 qq5 hq5 => ?_)
 obtain ⟨rfl, rfl⟩ := hq5
 refine ⟨by simp, [some ⟨2, [(rGl17Rd r2.2)], 0, 0x00ba⟩], (eI r2.1), (.cons (optRen_same (by simp)) .nil), (ren_free (by simp)), ?_⟩
 simp [setMany, newNames, idx_inb hx3, idx_row hx3]
 refine cp (c_spec_ParseWorld n x3 _ hr4) ?_
 simp
 apply hK
 refine sZ ?_
 cases h
 apply TrD.ret
 refine exitHG (σ' := ⟨(updD (fun _ => .any) 2 (.slice 2 (List.map rGData r4.1))), hOfO [some ⟨2, [(rGl17Rd r2.2)], 0, 0x00ba⟩], 1, 20⟩) ?_ ?_
 ·exact gC [0]
 dsimp only [resD]
 exact eA
theorem c_spec_l17Rd_num (p0 : Gl17Rd) (p1 : (List Int)) (res : Int × Gl17Rd) (h : m_spec_l17Rd_num p0 p1 = some res) : CallsH Tryz.prog 0o00214 [⟨2, [(rGl17Rd p0)], 0, 0x00ba⟩] [.ptr 2 0 0 0, (.slice 1 (List.map rI p1))] (fun H d => H = [some ⟨2, [(rGl17Rd res.2)], 0, 0x00ba⟩] ∧ d = (eI res.1)) := by
 unfold m_spec_l17Rd_num at h
 refine CH Tryz.func140 [.tmp 4] 1 fun β hβ => ?_
 refine sZ ?_
 apply sq
 obtain ⟨r1, hr1, h⟩ := bindE h
 obtain ⟨x2, hx2, h⟩ := bindE h
 refine rk fun K hK => ?_
 simp
 refine callK (views_same _ _) (.same _ _) [0] (c_spec_l17Rd_pick p0 (lenZ p1.length) _ hr1) (by decide) (.cons (locRen_eq (by simp) (by simp) (by simp)) .nil) (.cons (ren_ptr rfl) (.cons (ren_le (by simp) (by simp)) .nil)) (fun Hq3 qq3 hq3 => ?_)
 obtain ⟨rfl, rfl⟩ := hq3
 refine ⟨by simp, [some ⟨2, [(rGl17Rd r1.2)], 0, 0x00ba⟩], (eI r1.1), (.cons (optRen_same (by simp)) .nil), (ren_free (by simp)), ?_⟩
 simp [setMany, newNames, idx_inb hx2, idx_row hx2]
 apply hK
 cases h
 apply TrD.ret
 refine exitHG (σ' := ⟨(updD (fun _ => .any) 4 (eI x2)), hOfO [some ⟨2, [(rGl17Rd r1.2)], 0, 0x00ba⟩], 1, 12⟩) ?_ ?_
 ·exact gC [0]
 dsimp only [resD]
 exact eA
theorem c_spec_l2Typed (n : Nat) (p0 : Gl17Rd) (res : (List GData) × GType × GValue × Gl17Rd) (h : m_spec_l2Typed n p0 = some res) : CallsH Tryz.prog 0o00200 [⟨2, [(rGl17Rd p0)], 0, 0x00ba⟩] [.ptr 2 0 0 0] (fun H d => H = [some ⟨2, [(rGl17Rd res.2.2.2)], 0, 0x00ba⟩] ∧ d = .tup [(.slice 2 (List.map rGData res.1)), (.agg (rGType res.2.1)), (.agg (rGValue res.2.2.1))]) := by
 unfold m_spec_l2Typed at h
 refine CH Tryz.func128 [.tmp 2, .cell 3 25, .cell 4 29] 1 fun β hβ => ?_
 refine sZ ?_
 apply sq
 obtain ⟨r1, hr1, h⟩ := bindE h
 refine rk fun K hK => ?_
 simp
 refine callK (views_same _ _) (.same _ _) [0] (c_spec_l1World n p0 _ hr1) (by decide) (.cons (locRen_eq (by simp) (by simp) (by simp)) .nil) (.cons (ren_ptr rfl) .nil) (fun A I q => ?_)
 obtain ⟨rfl, rfl⟩ := q
 refine ⟨by simp, [some ⟨2, [(rGl17Rd r1.2)], 0, 0x00ba⟩], (.slice 2 (List.map rGData r1.1)), (.cons (optRen_same (by simp)) .nil), (ren_free (by simp)), ?_⟩
 simp [setMany, newNames]
 apply hK
 apply sq
 obtain ⟨r2, hr2, h⟩ := bindE h
 refine rk fun K hK => ?_
 simp
 refine cp (c_spec_l1Table n r1.1 _ hr2) ?_
 simp
 apply hK
 apply sq
 obtain ⟨r3, hr3, h⟩ := bindE h
 obtain ⟨r4, hr4, h⟩ := bindE h
 refine rk fun K hK => ?_
 simp
 refine callK (views_same _ _) (.same _ _) [0] (c_spec_l17Rd_pick r1.2 (lenZ r1.1.length) _ hr3) (by decide) (.cons (locRen_eq (by simp) (by simp) (by simp)) .nil) (.cons (ren_ptr rfl) (.cons (ren_le (by simp) (by simp)) .nil)) (fun x F m => ?_)
 obtain ⟨rfl, rfl⟩ := m
 refine ⟨by simp, [some ⟨2, [(rGl17Rd r3.2)], 0, 0x00ba⟩], (eI r3.1), (.cons (optRen_same (by simp)) .nil), (ren_free (by simp)), ?_⟩
 simp [setMany, newNames]
 refine callK (.cons (.same _ _) (.cons (.sl _ _ _ _ _ (by simp; rfl) rfl (by simp []) (by simp)) (.nil _))) (.same _ _) [0] (c_spec_l17Rd_num r3.2 [0, 0, 1, 2] _ hr4) (by decide) (.cons (locRen_eq (by simp) (by simp) (by simp)) .nil) (.cons (ren_ptr rfl) (.cons (ren_le (by simp) (by simp)) .nil)) (fun y G o => ?_)
 obtain ⟨rfl, rfl⟩ := o
 refine ⟨by simp, [some ⟨2, [(rGl17Rd r4.2)], 0, 0x00ba⟩], (eI r4.1), (.cons (optRen_same (by simp)) .nil), (ren_free (by simp)), ?_⟩
 simp [setMany, newNames]
 apply hK
 obtain ⟨o9, e, h⟩ := bindE h
 obtain ⟨i, g⟩ : ∃ S : Int × Int → St, S = fun s8 => ⟨(updD (updD (updD (updD (updD (updD (fun _ => .any) 0 (.ptr 2 0 0 0)) 3 (.ptr 2 1 0 0)) 4 (.ptr 3 2 0 0)) 5 (.slice 2 (List.map rGData r1.1))) 6 (.slice 1 (List.map rI r2))) 7 (.ptr 2 3 0 0)), hOfO [some ⟨2, [(rGl17Rd r4.2)], 0, 0x00ba⟩, some ⟨2, [[(eI 0), (eI 0)]], 0, 0x0019⟩, some ⟨3, [[(eI 0), (eI 0), .nil]], 0, 0x001d⟩, some ⟨2, [[(eI s8.1), (eI s8.2)]], 0, 0x0019⟩], 4, 35⟩ := ⟨_, rfl⟩
 refine TrD.join i (fun z => o9 = Ctl.brk z) ?_ (fun s8 hz => ?_)
 ·apply sq
  obtain ⟨u, r, e⟩ := bindE e
  refine rk fun K hK => ?_
  simp
  refine cp (c_spec_l1Depth r2 (GType.mk r3.1 r4.1) _ r) ?_
  simp
  apply hK
  refine TrD.cond (b := ieq u 0) (by simp) (fun a => ?_) (fun a => ?_)
  ·rw [if_pos a] at e
   refine rZ ?_ fun K hK => by simp [a]; exact hK
   cases e
   refine ToAny.mk ((-1), 0) rfl ?_
   rw [g]
   exact gC [0, 9, 17, 137]
  rw [iN a] at e
  apply TrD.skip
  cases e
  refine ToAny.mk (r3.1, r4.1) rfl ?_
  rw [g]
  exact gC [0, 9, 17, 137]
 subst hz
 try dsimp only at h
 rw [congrFun g s8]
 apply sq
 refine TrD.ghost (σ' := ⟨(updD (updD (updD (updD (updD (updD (fun _ => .any) 0 (.ptr 2 0 0 0)) 3 (.ptr 2 1 0 0)) 4 (.ptr 3 2 0 0)) 5 (.slice 2 (List.map rGData r1.1))) 6 (.slice 1 (List.map rI r2))) 7 (.ptr 2 3 0 0)), hOfO [some ⟨2, [(rGl17Rd r4.2)], 0, 0x00ba⟩, some ⟨2, [[(eI 0), (eI 0)]], 0, 0x0019⟩, some ⟨3, [[(eI 0), (eI 0), .nil]], 0, 0x001d⟩, some ⟨2, [[(eI s8.1), (eI s8.2)]], 0, 0x0019⟩], 4, 35⟩) ?_ ?_
 ·exact gC [0, 1, 2, 3]
 obtain ⟨f, s, h⟩ := bindE h
 obtain ⟨c, t, h⟩ := bindE h
 refine TrD.draw tysOk mixed [0, 1, 2, 3, 4, 5, 6, 7, 8, 9, 10, 11, 12] [3] [] (by rfl) rfl (fun K hK => ?_)
 simp
 refine callK (.cons (.same _ _) (.cons (.sl _ _ _ _ _ (by simp; rfl) rfl (by simp []) (by simp)) (.nil _))) (.same _ _) [0] (c_spec_l17Rd_num r4.2 [3, 2, 4, 1] _ s) (by decide) (.cons (locRen_eq (by simp) (by simp) (by simp)) .nil) (.cons (ren_ptr rfl) (.cons (ren_le (by simp) (by simp)) .nil)) (fun v D k => ?_)
 obtain ⟨rfl, rfl⟩ := k
 refine ⟨by simp, [some ⟨2, [(rGl17Rd f.2)], 0, 0x00ba⟩], (eI f.1), (.cons (optRen_same (by simp)) .nil), (ren_free (by simp)), ?_⟩
 simp [setMany, newNames]
 refine callK (views_same _ _) (.same _ _) [0] (c_spec_l2Draw n f.2 r1.1 r2 (GType.mk s8.1 s8.2) f.1 _ t) (by decide) (.cons (locRen_eq (by simp) (by simp) (by simp)) .nil) (.cons (ren_ptr rfl) (.cons (ren_le (by simp) (by simp)) (.cons (ren_le (by simp) (by simp)) (.cons (ren_le (by simp) (by simp)) (.cons (ren_le (by simp) (by simp)) .nil))))) (fun w E l => ?_)
 obtain ⟨rfl, rfl⟩ := l
 refine ⟨by simp, [some ⟨2, [(rGl17Rd c.2)], 0, 0x00ba⟩], (.agg (rGValue c.1)), (.cons (optRen_same (by simp)) .nil), (ren_free (by simp)), ?_⟩
 simp [setMany, newNames]
 apply hK
 cases h
 apply TrD.ret
 refine exitHG (σ' := ⟨(updD (updD (updD (fun _ => .any) 2 (.slice 2 (List.map rGData r1.1))) 3 (.ptr 2 1 0 0)) 4 (.ptr 3 2 0 0)), hOfO [some ⟨2, [(rGl17Rd c.2)], 0, 0x00ba⟩, some ⟨2, [(rGType (GType.mk s8.1 s8.2))], 0, 0x0019⟩, some ⟨3, [(rGValue c.1)], 0, 0x001d⟩], 3, 35⟩) ?_ ?_
 ·exact gC [0, 1, 2]
 simp [resD]
 exact eX 1
theorem c_spec_l3Name : ∀ (n : Nat) (p0 : Gl17Rd) (p1 : GPattern) (p2 : Int) (res : GPattern × Int × Gl17Rd), m_spec_l3Name n p0 p1 p2 = some res → CallsH Tryz.prog 0o00402 [⟨2, [(rGl17Rd p0)], 0, 0x00ba⟩] [.ptr 2 0 0 0, (.agg (rGPattern p1)), (eI p2)] (fun H d => H = [some ⟨2, [(rGl17Rd res.2.2)], 0, 0x00ba⟩] ∧ d = .tup [(.agg (rGPattern res.1)), (eI res.2.1)]) := by
 intro n
 induction n with
 | zero => intro p0 p1 p2 res h; cases h
 | succ n ih =>
  intro p0 p1 p2 res h
  rw [m_spec_l3Name.eq_2] at h
  refine CH Tryz.func258 [.cell 6 41, .tmp 7] 1 fun β hβ => ?_
  refine sZ ?_
  apply sq
  apply sq
  rcases bb (ilt 5 p2) with p | p
  ·rw [if_pos p] at h
   refine rZ ?_ fun K hK => by simp [p]; exact hK
   refine cT ?_
   refine sZ ?_
   cases h
   apply TrD.ret
   refine exitHG (σ' := ⟨(updD (updD (fun _ => .any) 6 (.ptr 6 1 0 0)) 7 (eI p2)), hOfO [some ⟨2, [(rGl17Rd p0)], 0, 0x00ba⟩, some ⟨6, [(rGPattern p1)], 0, 0x0029⟩], 2, 82⟩) ?_ ?_
   ·exact gC [0, 9]
   simp [resD]
   exact eX 1
  rw [iN p] at h
  rcases bb (ieq p1.op 5) with v | v
  ·rw [if_pos v] at h
   refine rZ ?_ fun K hK => by simp [p, v]; exact hK
   refine cT ?_
   refine sZ ?_
   cases h
   apply TrD.ret
   refine exitHG (σ' := ⟨(updD (updD (fun _ => .any) 6 (.ptr 6 1 0 0)) 7 (eI p2)), hOfO [some ⟨2, [(rGl17Rd p0)], 0, 0x00ba⟩, some ⟨6, [(rGPattern p1)], 0, 0x0029⟩], 2, 82⟩) ?_ ?_
   ·exact gC [0, 9]
   simp [resD]
   exact eX 1
  rw [iN v] at h
  refine rZ ?_ fun K hK => by simp [p, v]; exact hK
  refine TrD.cond (b := ieq p1.op 3) (by simp) (fun q => ?_) (fun q => ?_)
  ·rw [if_pos q] at h
   refine sZ ?_ fun K hK => by simp [q]; exact hK
   cases h
   apply TrD.ret
   refine exitHG (σ' := ⟨(updD (updD (fun _ => .any) 6 (.ptr 6 1 0 0)) 7 (eI p2)), hOfO [some ⟨2, [(rGl17Rd p0)], 0, 0x00ba⟩, some ⟨6, [(rGPattern p1)], 0, 0x0029⟩], 2, 82⟩) ?_ ?_
   ·exact gC [0, 9]
   simp [resD]
   exact eX 1
  rw [iN q] at h
  apply TrD.skip
  obtain ⟨Z, f, h⟩ := bindE h
  obtain ⟨N, C⟩ : ∃ S : Gl17Rd → St, S = fun A => ⟨(updD (updD (updD (updD (fun _ => .any) 0 (.ptr 2 0 0 0)) 2 (eI p2)) 4 (.ptr 6 1 0 0)) 6 (.ptr 6 2 0 0)), hOfO [some ⟨2, [(rGl17Rd A)], 0, 0x00ba⟩, some ⟨6, [(rGPattern p1)], 0, 0x0029⟩, some ⟨6, [[(eI 0), (eI 0), (eI 0), (eI 0), (eI 0), .nil]], 0, 0x0029⟩], 3, 82⟩ := ⟨_, rfl⟩
  refine TrD.join N (fun z => Z = Ctl.brk z) ?_ (fun A hz => ?_)
  ·apply sq
   rcases bb (ieq p1.op 1) with r | r
   ·rw [if_pos r] at f
    obtain ⟨j, V, f⟩ := bindE f
    refine rk fun K hK => ?_
    simp [q, r]
    refine callK (views_same _ _) (.same _ _) [0] (c_spec_l17Rd_pick p0 2 _ V) (by decide) (.cons (locRen_eq (by simp) (by simp) (by simp)) .nil) (.cons (ren_ptr rfl) (.cons (ren_le (by simp) (by simp)) .nil)) (fun ae am R => ?_)
    obtain ⟨rfl, rfl⟩ := R
    refine ⟨by simp, [some ⟨2, [(rGl17Rd j.2)], 0, 0x00ba⟩], (eI j.1), (.cons (optRen_same (by simp)) .nil), (ren_free (by simp)), ?_⟩
    simp [setMany, newNames, r]
    apply hK
    refine TrD.cond (b := ieq j.1 0) (by simp) (fun g => ?_) (fun g => ?_)
    ·rw [if_pos g] at f
     refine sZ ?_ fun K hK => by simp [g]; exact hK
     cases f
     cases h
     apply TrD.ret
     refine exitHG (σ' := ⟨(updD (updD (fun _ => .any) 6 (.ptr 6 1 0 0)) 7 (eI (wadd .i64 p2 1))), hOfO [some ⟨2, [(rGl17Rd j.2)], 0, 0x00ba⟩, some ⟨6, [(rGPattern (GPattern.mk 2 0 0 0 p2 []))], 0, 0x0029⟩], 2, 82⟩) ?_ ?_
     ·exact gC [0, 9]
     simp [resD]
     exact eX 1
    rw [iN g] at f
    apply TrD.skip
    cases f
    refine ToAny.mk j.2 rfl ?_
    rw [C]
    exact gC [0, 1, 9]
   rw [iN r] at f
   refine rZ ?_ fun K hK => by simp [q, r]; exact hK
   refine cF ?_
   apply TrD.skip
   cases f
   refine ToAny.mk p0 rfl ?_
   rw [C]
   exact gC [0, 1, 9]
  subst hz
  try dsimp only at h
  rw [congrFun C A]
  refine sZ ?_
  refine sZ ?_
  refine sZ ?_
  apply sq
  refine sZ ?_
  obtain ⟨X, O, h⟩ := bindE h
  obtain ⟨I, E⟩ : ∃ S : (Gl17Rd × (List GPattern) × Int) → St, S = fun a => ⟨(updD (updD (updD (updD (fun _ => .any) 0 (.ptr 2 0 0 0)) 6 (.ptr 6 1 0 0)) 8 (.ptr 6 2 0 0)) 9 (eI a.2.2)), hOfO [some ⟨2, [(rGl17Rd a.1)], 0, 0x00ba⟩, some ⟨6, [[(eI 0), (eI 0), (eI 0), (eI 0), (eI 0), .nil]], 0, 0x0029⟩, some ⟨6, [[(eI p1.op), (eI p1.ctor), (eI p1.n), (eI p1.m), (eI p1.var), (.sl 6 3 (a.2.1).length)]], 0, 0x0029⟩, some ⟨6, (List.map rGPattern a.2.1), 0, 0x0029⟩], 4, 82⟩ := ⟨_, rfl⟩
  refine TrD.joinQ I (fun z => X = Ctl.brk z) (fun _ _ hg h => TrD.ghost hg h) ?_ (fun a hz => ?_)
  ·apply TrD.block
   obtain ⟨J, w⟩ : ∃ S : Nat → (Gl17Rd × (List GPattern) × Int) → St, S = fun y c => ⟨(updD (updD (updD (updD (updD (updD (fun _ => .any) 0 (.ptr 2 0 0 0)) 4 (.ptr 6 1 0 0)) 6 (.ptr 6 2 0 0)) 8 (.ptr 6 3 0 0)) 9 (eI c.2.2)) 10 (eI (y : Int))), hOfO [some ⟨2, [(rGl17Rd c.1)], 0, 0x00ba⟩, some ⟨6, [(rGPattern p1)], 0, 0x0029⟩, some ⟨6, [[(eI 0), (eI 0), (eI 0), (eI 0), (eI 0), .nil]], 0, 0x0029⟩, some ⟨6, [[(eI p1.op), (eI p1.ctor), (eI p1.n), (eI p1.m), (eI p1.var), (.sl 6 4 (c.2.1).length)]], 0, 0x0029⟩, some ⟨6, (List.map rGPattern c.2.1), 0, 0x0029⟩], 5, 82⟩ := ⟨_, rfl⟩
   refine TrD.limS (sz := 6) (rows := List.map rGPattern p1.kids) (seen_cell (d := .slice 6 (List.map rGPattern p1.kids)) 1 0 5 (by simp; rfl) rfl (by simp)) (fun hlim => ?_)
   rw [List.length_map] at hlim
   refine TrD.forL J O hlim ?_ (fun y ab c G ah ai W l aj t ag af => ?_) (fun c aa => ?_)
   ·rw [w]
    refine (Ghost.ownNilCell 11 5 6 0x0029 (by simp; rfl) rfl (by simp) (by simp)).trans ?_
    exact gC [0, 1, 2, 11, 67]
   ·rw [congrFun (congrFun w y) c]
    apply sq
    refine sZ ?_ fun K hK => by simp [W]; exact hK
    refine cT ?_
    apply TrD.skip
    apply sq
    apply TrD.block
    apply sq
    obtain ⟨o, T, t⟩ := bindE t
    refine rk fun K hK => ?_
    simp [idx_inb G, idx_row G]
    refine callK (views_same _ _) (.same _ _) [0] (ih c.1 ab c.2.2 _ T) (by decide) (.cons (locRen_eq (by simp) (by simp) (by simp)) .nil) (.cons (ren_ptr rfl) (.cons (ren_le (by simp) (by simp)) (.cons (ren_le (by simp) (by simp)) .nil))) (fun ac ak P => ?_)
    obtain ⟨rfl, rfl⟩ := P
    refine ⟨by simp, [some ⟨2, [(rGl17Rd o.2.2)], 0, 0x00ba⟩], (.tup [(.agg (rGPattern o.1)), (eI o.2.1)]), (.cons (optRen_same (by simp)) .nil), (ren_free (by simp)), ?_⟩
    simp [setMany, newNames]
    apply hK
    apply sq
    obtain ⟨D, x, t⟩ := bindE t
    have F := (app_some x).2
    try simp only [List.length_cons, List.length_nil, Nat.zero_add] at F
    refine rZ ?_ fun K hK => by simp [F]; exact hK
    refine rZ ?_
    refine rZ ?_
    cases t
    refine ToAny.mk (o.2.2, D, o.2.1) rfl ?_
    rw [w]
    exact Ghost.canonV 1 [0, 1, 2, 3, 189] _ _ hβ (keep_first (by decide)) (by decide) (vT_upd (v_of (d0 := (eI (wadd .i64 (y : Int) 1))) (by simp [l]) (v_free (by simp) (by simp [l]))) (vT_upd (v_of (d0 := (eI o.2.1)) (by simp [l]) (v_free (by simp) (by simp))) (vT_upd (v_of (d0 := (.ptr 6 3 0 0)) (by simp [l]) (v_ptr rfl)) (vT_upd (v_of (d0 := (.ptr 6 2 0 0)) (by simp [l]) (v_ptr rfl)) (vT_upd (v_of (d0 := (.ptr 6 1 0 0)) (by simp [l]) (v_ptr rfl)) (vT_upd (v_of (d0 := (.ptr 2 0 0 0)) (by simp [l]) (v_ptr rfl)) (vT_any _))))))) (.cons (lv (L := ⟨2, [(rGl17Rd o.2.2)], 0, 0x00ba⟩) (by simp) rfl rfl (by simp) (rv_free (by simp) (by simp))) (.cons (lv (L := ⟨6, [(rGPattern p1)], 0, 0x0029⟩) (by simp) rfl rfl (by simp) (rv_free (by simp) (by simp))) (.cons (lv (L := ⟨6, [[(eI 0), (eI 0), (eI 0), (eI 0), (eI 0), .nil]], 0, 0x0029⟩) (by simp) rfl rfl (by simp) (rv_cons (.cons (v_free (by simp) (by simp)) (.cons (v_free (by simp) (by simp)) (.cons (v_free (by simp) (by simp)) (.cons (v_free (by simp) (by simp)) (.cons (v_free (by simp) (by simp)) (.cons (v_free (by simp) (by simp)) .nil)))))) rv_nil)) (.cons (lv (L := ⟨6, [[(eI p1.op), (eI p1.ctor), (eI p1.n), (eI p1.m), (eI p1.var), (.sl 6 189 (D).length)]], 0, 0x0029⟩) (by simp [(app_some x).1]) rfl rfl (by simp) (rv_cons (.cons (v_free (by simp) (by simp)) (.cons (v_free (by simp) (by simp)) (.cons (v_free (by simp) (by simp)) (.cons (v_free (by simp) (by simp)) (.cons (v_free (by simp) (by simp)) (.cons (v_sl rfl) .nil)))))) rv_nil)) (.cons (lv (L := ⟨6, (List.map rGPattern D), 0, 0x0029⟩) (by simp [(app_some x).1]) rfl rfl (by simp) (rv_free (by simp [(app_some x).1]) (free_rows_of fr_GPattern _))) .nil)))))
   rw [congrFun (congrFun w _) c]
   apply sq
   refine sZ ?_ fun K hK => by simp [ilt_len p1.kids.length]; exact hK
   refine cF ?_
   refine TrD.exit ?_
   try simp only [↓reduceIte, Nat.reduceEqDiff, Nat.zero_ne_one, Nat.one_ne_zero, OfNat.ofNat_ne_zero, OfNat.zero_ne_ofNat, OfNat.one_ne_ofNat, OfNat.ofNat_ne_one]
   refine ToAny.mk c aa ?_
   rw [E]
   exact gC [0, 2, 3, 4]
  subst hz
  try dsimp only at h
  rw [congrFun E a]
  obtain ⟨Y, e, h⟩ := bindE h
  obtain ⟨M, B⟩ : ∃ S : Gl17Rd → St, S = fun s => ⟨(updD (updD (updD (fun _ => .any) 6 (.ptr 6 1 0 0)) 8 (.ptr 6 2 0 0)) 9 (eI a.2.2)), hOfO [some ⟨2, [(rGl17Rd s)], 0, 0x00ba⟩, some ⟨6, [[(eI 0), (eI 0), (eI 0), (eI 0), (eI 0), .nil]], 0, 0x0029⟩, some ⟨6, [[(eI p1.op), (eI p1.ctor), (eI p1.n), (eI p1.m), (eI p1.var), (.sl 6 3 (a.2.1).length)]], 0, 0x0029⟩, some ⟨6, (List.map rGPattern a.2.1), 0, 0x0029⟩], 4, 82⟩ := ⟨_, rfl⟩
  refine TrD.join M (fun z => Y = Ctl.brk z) ?_ (fun s hz => ?_)
  ·apply sq
   rcases bb (ile a.2.2 5) with u | u
   ·rw [if_pos u] at e
    obtain ⟨i, U, e⟩ := bindE e
    refine rk fun K hK => ?_
    simp [u]
    refine callK (views_same _ _) (.same _ _) [0] (c_spec_l17Rd_pick a.1 6 _ U) (by decide) (.cons (locRen_eq (by simp) (by simp) (by simp)) .nil) (.cons (ren_ptr rfl) (.cons (ren_le (by simp) (by simp)) .nil)) (fun ad al Q => ?_)
    obtain ⟨rfl, rfl⟩ := Q
    refine ⟨by simp, [some ⟨2, [(rGl17Rd i.2)], 0, 0x00ba⟩], (eI i.1), (.cons (optRen_same (by simp)) .nil), (ren_free (by simp)), ?_⟩
    simp [setMany, newNames]
    apply hK
    refine TrD.cond (b := ieq i.1 0) (by simp) (fun k => ?_) (fun k => ?_)
    ·rw [if_pos k] at e
     refine sZ ?_ fun K hK => by simp [k]; exact hK
     cases e
     cases h
     apply TrD.ret
     refine exitHG (σ' := ⟨(updD (updD (fun _ => .any) 6 (.ptr 6 1 0 0)) 7 (eI (wadd .i64 a.2.2 1))), hOfO [some ⟨2, [(rGl17Rd i.2)], 0, 0x00ba⟩, some ⟨6, [(rGPattern (GPattern.mk 6 0 0 0 a.2.2 [(GPattern.mk p1.op p1.ctor p1.n p1.m p1.var a.2.1)]))], 0, 0x0029⟩], 2, 82⟩) ?_ ?_
     ·refine (Ghost.raise 3 (by simp; rfl)).trans ?_
      refine (Ghost.raise 76 (by simp; rfl)).trans ?_
      exact Ghost.canonV 1 [0, 1] _ _ hβ (keep_first (by decide)) (by decide) (vT_upd (v_of (d0 := (eI (wadd .i64 a.2.2 1))) (by simp) (v_free (by simp) (by simp))) (vT_upd (v_of (d0 := (.ptr 6 1 0 0)) (by simp) (v_ptr rfl)) (vT_any _))) (.cons (lv (L := ⟨2, [(rGl17Rd i.2)], 0, 0x00ba⟩) (by simp) rfl rfl (by simp) (rv_free (by simp) (by simp))) (.cons (lv (L := ⟨6, [[(eI 6), (eI 0), (eI 0), (eI 0), (eI a.2.2), (.sl 6 76 ([(GPattern.mk p1.op p1.ctor p1.n p1.m p1.var a.2.1)]).length)]], 0, 0x0029⟩) (by simp) rfl rfl (by simp) (rv_consr (rGPattern_eq _) (.cons (v_free (by simp) (by simp)) (.cons (v_free (by simp) (by simp)) (.cons (v_free (by simp) (by simp)) (.cons (v_free (by simp) (by simp)) (.cons (v_free (by simp) (by simp)) (.cons (v_frz (L := ⟨6, ((List.map rGPattern []) ++ [[(eI p1.op), (eI p1.ctor), (eI p1.n), (eI p1.m), (eI p1.var), (.sl 6 3 (a.2.1).length)]]), ([(GPattern.mk p1.op p1.ctor p1.n p1.m p1.var a.2.1)]).length * 6, 0x0029⟩) (by simp) rfl (by simp) (by simp) (rv_consr (rGPattern_eq _) (.cons (v_free (by simp) (by simp)) (.cons (v_free (by simp) (by simp)) (.cons (v_free (by simp) (by simp)) (.cons (v_free (by simp) (by simp)) (.cons (v_free (by simp) (by simp)) (.cons (v_frz (by simp; rfl) rfl (by simp) (by simp) (rv_free (by simp) (by simp))) .nil)))))) rv_nil)) .nil)))))) rv_nil)) .nil))
     simp [resD]
     exact eX 1
    rw [iN k] at e
    apply TrD.skip
    cases e
    refine ToAny.mk i.2 rfl ?_
    rw [B]
    exact gC [0, 1, 2, 3]
   rw [iN u] at e
   refine rZ ?_ fun K hK => by simp [u]; exact hK
   refine cF ?_
   apply TrD.skip
   cases e
   refine ToAny.mk a.1 rfl ?_
   rw [B]
   exact gC [0, 1, 2, 3]
  subst hz
  try dsimp only at h
  rw [congrFun B s]
  refine sZ ?_
  cases h
  apply TrD.ret
  refine exitHG (σ' := ⟨(updD (updD (fun _ => .any) 6 (.ptr 6 1 0 0)) 7 (eI a.2.2)), hOfO [some ⟨2, [(rGl17Rd s)], 0, 0x00ba⟩, some ⟨6, [(rGPattern (GPattern.mk p1.op p1.ctor p1.n p1.m p1.var a.2.1))], 0, 0x0029⟩], 2, 82⟩) ?_ ?_
  ·refine (Ghost.raise 3 (by simp; rfl)).trans ?_
   exact Ghost.canonV 1 [0, 1] _ _ hβ (keep_first (by decide)) (by decide) (vT_upd (v_of (d0 := (eI a.2.2)) (by simp) (v_free (by simp) (by simp))) (vT_upd (v_of (d0 := (.ptr 6 1 0 0)) (by simp) (v_ptr rfl)) (vT_any _))) (.cons (lv (L := ⟨2, [(rGl17Rd s)], 0, 0x00ba⟩) (by simp) rfl rfl (by simp) (rv_free (by simp) (by simp))) (.cons (lv (L := ⟨6, [[(eI p1.op), (eI p1.ctor), (eI p1.n), (eI p1.m), (eI p1.var), (.sl 6 3 (a.2.1).length)]], 0, 0x0029⟩) (by simp) rfl rfl (by simp) (rv_consr (rGPattern_eq _) (.cons (v_free (by simp) (by simp)) (.cons (v_free (by simp) (by simp)) (.cons (v_free (by simp) (by simp)) (.cons (v_free (by simp) (by simp)) (.cons (v_free (by simp) (by simp)) (.cons (v_frz (by simp; rfl) rfl (by simp) (by simp) (rv_free (by simp) (by simp))) .nil)))))) rv_nil)) .nil))
  simp [resD]
  exact eX 1
end Go.Proofs.YtmkamncbkkahjaaGreat
