import Derived.Test.YtmkamncbkkahjaaGreatJMir
import Derived.Test.YtmkamncbkkahjaaGreatJAuI
import Derived.Test.YtmkamncbkkahjaaGreatJC3
import Derived.Test.YtmkamncbkkahjaaGreatJAuto
set_option linter.unusedSimpArgs false
set_option linter.unusedVariables false
set_option linter.unusedSimpArgs false
set_option linter.unusedVariables false
namespace Go.Proofs.YtmkamncbkkahjaaGreat
open Go Go.RowKit
set_option maxRecDepth 100000
set_option maxHeartbeats 20000000
theorem c_spec_l1Ctors (p0 : (List GData)) (p1 : GType) (res : (List Int)) (h : m_spec_l1Ctors p0 p1 = some res) : CallsD Tryz.prog 0o00210 [(.slice 2 (List.map rGData p0)), (.agg (rGType p1))] (fun d => d = (.slice 1 (List.map rI res))) := by
 unfold m_spec_l1Ctors at h
 refine CD Tryz.func136 [.tmp 4] fun β hβ => ?_
 refine sZ ?_
 refine sZ ?_
 apply sq
 refine sZ ?_
 refine TrD.cond (b := ieq p1.data (-1)) (by simp) (fun hb2 => ?_) (fun hb2 => ?_)
 ·rw [if_pos hb2] at h
  refine sZ ?_ fun K hK => by simp [hb2]; exact hK
  cases h
  apply TrD.ret
  refine exitDG (σ' := ⟨(updD (fun _ => .any) 4 (.slice 1 (List.map rI []))), hOfO [], 0, 40⟩) ?_ ?_
  ·refine (Ghost.raise 16 (by simp; rfl)).trans ?_
   exact gC [] (ht := (va.u (d0 := (.sl 1 16 0)) (by simp) (v_frz (by simp; rfl) rfl (by simp) (by simp) (rv_free (by simp) (by simp)))))
  dsimp only [resD]
  exact eF
 rw [iN hb2] at h
 apply TrD.skip
 apply sq
 refine sZ ?_ fun K hK => by simp [hb2]; exact hK
 obtain ⟨q, g, h⟩ := bindE h
 obtain ⟨E, A, h⟩ := bindE h
 obtain ⟨v, s⟩ : ∃ S : (List Int) → St, S = fun j => ⟨(updD (fun _ => .any) 5 (.sl 1 0 (j).length)), hOfO [some ⟨1, (List.map rI j), 0, 0x0003⟩], 1, 40⟩ := ⟨_, rfl⟩
 refine TrD.joinQ v (fun z => E = Ctl.brk z) (fun _ _ hg h => TrD.ghost hg h) ?_ (fun j hz => ?_)
 ·apply TrD.block
  obtain ⟨w, n⟩ : ∃ S : Nat → (List Int) → St, S = fun c a => ⟨(updD (updD (updD (updD (fun _ => .any) 0 (.slice 2 (List.map rGData p0))) 3 (.ptr 2 0 0 0)) 5 (.sl 1 1 (a).length)) 6 (eI (c : Int))), hOfO [some ⟨2, [(rGType p1)], 0, 0x0019⟩, some ⟨1, (List.map rI a), 0, 0x0003⟩], 2, 40⟩ := ⟨_, rfl⟩
  refine TrD.limS (sz := 3) (rows := List.map rGCtor q.ctors) (seen_elem (d := .slice 3 (List.map rGCtor q.ctors)) (seen_slot (d := .slice 2 (List.map rGData p0)) 0 (by simp)) g 1 (rGData_eq _) rfl) (fun hlim => ?_)
  rw [List.length_map] at hlim
  refine TrD.forL w A hlim ?_ (fun c I a u O P D l Q m N J => ?_) (fun a H => ?_)
  ·rw [n]
   exact gC [0, 16]
  ·rw [congrFun (congrFun n c) a]
   apply sq
   refine sZ ?_ fun K hK => by simp [idx_inb g, idx_row g, D]; exact hK
   refine cT ?_
   apply TrD.skip
   obtain ⟨F, e, m⟩ := bindE m
   obtain ⟨y, p⟩ : ∃ S : (List Int) → St, S = fun i => ⟨(updD (updD (updD (updD (fun _ => .any) 0 (.slice 2 (List.map rGData p0))) 3 (.ptr 2 0 0 0)) 5 (.sl 1 1 (i).length)) 6 (eI (c : Int))), hOfO [some ⟨2, [(rGType p1)], 0, 0x0019⟩, some ⟨1, (List.map rI i), 0, 0x0003⟩], 2, 40⟩ := ⟨_, rfl⟩
   refine TrD.join y (fun z => F = Ctl.brk z) ?_ (fun i hz => ?_)
   ·apply TrD.block
    apply sq
    refine TrD.ghost (σ' := ⟨(updD (updD (updD (updD (fun _ => .any) 0 (.slice 2 (List.map rGData p0))) 3 (.ptr 2 0 0 0)) 5 (.sl 1 1 (a).length)) 6 (eI (c : Int))), hOfO [some ⟨2, [(rGType p1)], 0, 0x0019⟩, some ⟨1, (List.map rI a), 0, 0x0003⟩], 2, 40⟩) ?_ ?_
    ·exact gC [0, 1]
    obtain ⟨G, C, e⟩ := bindE e
    refine TrD.draw tysOk mixed [0, 1, 2, 3, 4, 5, 6, 7, 8, 9, 10, 11] [0] [] (by rfl) rfl (fun K hK => ?_)
    simp [idx_inb g, idx_row g, idx_inb u, idx_row u]
    refine cp (c_spec_l1Fits I p1.index _ C) ?_
    simp
    apply hK
    refine TrD.cond (b := G) (by simp) (fun f => ?_) (fun f => ?_)
    ·rw [if_pos f] at e
     obtain ⟨r, o, e⟩ := bindE e
     have t := (app_some o).2
     try simp only [List.length_cons, List.length_nil, Nat.zero_add] at t
     refine rZ ?_ fun K hK => by simp [f, t]; exact hK
     cases e
     refine ToAny.mk r rfl ?_
     rw [p]
     exact gc [0, 34] hβ (((va.f.p 0).s 34 (by simp [(app_some o).1])).f) ((ln.f (by simp [(app_some o).1])).f)
    rw [iN f] at e
    apply TrD.skip
    cases e
    refine ToAny.mk a rfl ?_
    rw [p]
    exact gC [0, 1]
   subst hz
   try dsimp only at m
   rw [congrFun p i]
   refine rZ ?_
   cases m
   refine ToAny.mk i rfl ?_
   rw [n]
   exact gc [0, 1] hβ ((((va.f (by simp [l])).p 0 (by simp [l])).s 1 (by simp [l])).f (by simp [l])) ln.f.f
  rw [congrFun (congrFun n _) a]
  apply sq
  refine sZ ?_ fun K hK => by simp [idx_inb g, idx_row g, ilt_len q.ctors.length]; exact hK
  refine cF ?_
  refine TrD.exit ?_
  try simp only [↓reduceIte, Nat.reduceEqDiff, Nat.zero_ne_one, Nat.one_ne_zero, OfNat.ofNat_ne_zero, OfNat.zero_ne_ofNat, OfNat.one_ne_ofNat, OfNat.ofNat_ne_one]
  refine ToAny.mk a H ?_
  rw [s]
  exact gC [1]
 subst hz
 try dsimp only at h
 rw [congrFun s j]
 refine sk fun K hK => ?_
 simp
 apply hK
 obtain rfl := Option.some.inj h
 refine TrD.ret ?_
 refine exitDG (σ' := ⟨(updD (fun _ => .any) 4 (.slice 1 (List.map rI j))), hOfO [], 0, 40⟩) ?_ ?_
 ·refine (Ghost.raise 0 (by simp; rfl)).trans ?_
  exact Ghost.canonV 0 [] _ _ hβ (keep_first (by decide)) (by decide) (vT_upd (v_of (d0 := (.sl 1 0 (j).length)) (by simp) (v_frz (by simp; rfl) rfl (by simp) (by simp) (rv_free (by simp) (by simp)))) (vT_any _)) .nil
 dsimp only [resD]
 refine endF ?_ ?_ <;> simp [packD]
instance i_spec_l1Ctors : ∀ (p0 : (List GData)) (p1 : GType), Ct (m_spec_l1Ctors p0 p1) fun res => CallsD Tryz.prog 0o00210 [(.slice 2 (List.map rGData p0)), (.agg (rGType p1))] (fun d => d = (.slice 1 (List.map rI res))) := fun p0 p1 => ⟨c_spec_l1Ctors p0 p1⟩
end Go.Proofs.YtmkamncbkkahjaaGreat
set_option linter.unusedSimpArgs false
set_option linter.unusedVariables false
namespace Go.Proofs.YtmkamncbkkahjaaGreat
open Go Go.RowKit
set_option maxRecDepth 100000
set_option maxHeartbeats 20000000
instance i_spec_l1Has : ∀ (p0 : (List Int)) (p1 : Int), Ct (m_spec_l1Has p0 p1) fun res => CallsD Tryz.prog 0o00257 [(.slice 1 (List.map rI p0)), (eI p1)] (fun d => d = (eB res)) :=
 au Tryz.func175 m_spec_l1Has.eq_1 (.o (.o (.ls 0 (.f [] [] [0, 1, 5] [] (fun (k44 : Nat) (s40 : Unit) => [(5, eI (k44 : Int))]) (fun k44 s40 => []) (fun k44 s40 => .z) (fun s48 => .z)))))
end Go.Proofs.YtmkamncbkkahjaaGreat
set_option linter.unusedSimpArgs false
set_option linter.unusedVariables false
namespace Go.Proofs.YtmkamncbkkahjaaGreat
open Go Go.RowKit
set_option maxRecDepth 100000
set_option maxHeartbeats 20000000
instance i_spec_l3Own : ∀ (p0 : (List GData)) (p1 : GType) (p2 : GPattern), Ct (m_spec_l3Own p0 p1 p2) fun res => CallsD Tryz.prog 0o00404 [(.slice 2 (List.map rGData p0)), (.agg (rGType p1)), (.agg (rGPattern p2))] (fun d => d = (eB res)) :=
 au Tryz.func260 m_spec_l3Own.eq_1 (.o (.o (.o (.e (.j 1 0 [0, 4, 5, 7] [0, 8] (fun (s2 : Bool) => [(7, eB s2)]) (fun _ => []) .z (fun s2 => .j 2 0 [0, 4, 5] [0, 1] (fun (s17 : Unit) => []) (fun _ => []) .z (fun s17 => .j 4 0 [0, 4, 5] [0, 1] (fun (s50 : Unit) => []) (fun _ => []) .z (fun s50 => .j 7 0 [0, 4, 5, 60, 61] [0, 1] (fun (s95 : Bool) => [(61, eB s95)]) (fun _ => []) .z (fun s95 => .i .z (.i .z (.i (.g [0, 4, 5] [0, 1] [] [] (.o (.o (.d [0, 1, 3, 4, 2, 5, 6] [0, 1] [] .z)))) .z)))))))))))
end Go.Proofs.YtmkamncbkkahjaaGreat
set_option linter.unusedSimpArgs false
set_option linter.unusedVariables false
namespace Go.Proofs.YtmkamncbkkahjaaGreat
open Go Go.RowKit
set_option maxRecDepth 100000
set_option maxHeartbeats 20000000
instance i_spec_l3Shape : ∀ (n : Nat) (p0 : (List GData)) (p1 : GType) (p2 : GPattern) (p3 : Int), Ct (m_spec_l3Shape n p0 p1 p2 p3) fun res => CallsD Tryz.prog 0o00310 [(.slice 2 (List.map rGData p0)), (.agg (rGType p1)), (.agg (rGPattern p2)), (eI p3)] (fun d => d = (eB res)) :=
 ar (au Tryz.func200 m_spec_l3Shape.eq_2 (.o (.o (.o (.o (.o (.o (.i .z (.o (.i .z (.o (.i .z (.ls 23 (.f [] [] [0, 3, 6, 9, 10] [8] (fun (k83 : Nat) (s79 : Unit) => [(10, eI (k83 : Int))]) (fun k83 s79 => []) (fun k83 s79 => .o (.g [0, 3, 6, 9, 10] [0] [] [] (.o (.o (.d [0, 1, 2, 3, 4, 5, 6, 7, 8, 9, 10, 11, 12, 13] [0] [] .z))))) (fun s87 => .z)))))))))))))))
end Go.Proofs.YtmkamncbkkahjaaGreat
set_option linter.unusedSimpArgs false
set_option linter.unusedVariables false
namespace Go.Proofs.YtmkamncbkkahjaaGreat
open Go Go.RowKit
set_option maxRecDepth 100000
set_option maxHeartbeats 20000000
instance i_spec_l3Count : ∀ (n : Nat) (p0 : GPattern) (p1 : Int), Ct (m_spec_l3Count n p0 p1) fun res => CallsD Tryz.prog 0o00311 [(.agg (rGPattern p0)), (eI p1)] (fun d => d = (eI res)) :=
 ar (au Tryz.func201 m_spec_l3Count.eq_2 (.o (.o (.b fun (p0 : GPattern) => .o (.lc 0 5 6 rGPattern p0.kids (.f [5] [] [1, 2, 5, 6] [0] (fun (k80 : Nat) (s76 : Int) => [(5, eI s76), (6, eI (k80 : Int))]) (fun k80 s76 => []) (fun k80 s76 => .z) (fun s84 => .z)))))))
end Go.Proofs.YtmkamncbkkahjaaGreat
set_option linter.unusedSimpArgs false
set_option linter.unusedVariables false
namespace Go.Proofs.YtmkamncbkkahjaaGreat
open Go Go.RowKit
set_option maxRecDepth 100000
set_option maxHeartbeats 20000000
instance i_spec_l3Vars : ∀ (n : Nat) (p0 : (List GVarType)) (p1 : (List GData)) (p2 : GType) (p3 : GPattern), Ct (m_spec_l3Vars n p0 p1 p2 p3) fun res => CallsH Tryz.prog 0o00204 [⟨3, List.map rGVarType p0, 0, 0x0111⟩] [.sl 3 0 p0.length, (.slice 2 (List.map rGData p1)), (.agg (rGType p2)), (.agg (rGPattern p3))] (fun H d => H = [none, some ⟨3, List.map rGVarType res, 0, 0x0111⟩] ∧ d = .sl 3 1 res.length) :=
 ar (au Tryz.func132 m_spec_l3Vars.eq_2 (.o (.o (.o (.o (.o (.o (.j 1 0 [0, 1, 6, 7] [0, 9000, 1, 9] (fun (s10 : (List GVarType)) => [(0, .sl 3 9000 (s10).length)]) (fun s10 => [(0, none), (9000, some ⟨3, (List.map rGVarType s10), 0, 0x0111⟩)]) (.i .z (.i .z (.pM 0 .z))) (fun s10 => .o (.ls 29 (.f [0] [0, 1] [0, 1, 7, 9, 10] [0, 1, 3] (fun (k159 : Nat) (s155 : (List GVarType)) => [(0, .sl 3 1 (s155).length), (10, eI (k159 : Int))]) (fun k159 s155 => [(0, none), (1, some ⟨3, (List.map rGVarType s155), 0, 0x0111⟩)]) (fun k159 s155 => .o (.j 5 0 [0, 1, 7, 9, 10] [0, 1, 2] (fun (s169 : Unit) => []) (fun _ => [(0, none)]) .z (fun _ => .g [0, 1, 7, 9, 10] [0, 1, 2] [] [(0, none)] (.o (.o (.d [0, 1, 2, 3, 4, 5, 6, 7, 8, 9, 10, 11, 12] [2] [] .z)))))) (fun s163 => .z))))))))))))
end Go.Proofs.YtmkamncbkkahjaaGreat
set_option linter.unusedSimpArgs false
set_option linter.unusedVariables false
namespace Go.Proofs.YtmkamncbkkahjaaGreat
open Go Go.RowKit
set_option maxRecDepth 100000
set_option maxHeartbeats 20000000
instance i_spec_l3Find : ∀ (p0 : (List GVarType)) (p1 : Int), Ct (m_spec_l3Find p0 p1) fun res => CallsD Tryz.prog 0o00313 [(.slice 3 (List.map rGVarType p0)), (eI p1)] (fun d => d = (eI res)) :=
 au Tryz.func203 m_spec_l3Find.eq_1 (.o (.o (.ls 0 (.f [] [] [0, 1, 5] [] (fun (k44 : Nat) (s40 : Unit) => [(5, eI (k44 : Int))]) (fun k44 s40 => []) (fun k44 s40 => .z) (fun s48 => .z)))))
end Go.Proofs.YtmkamncbkkahjaaGreat
set_option linter.unusedSimpArgs false
set_option linter.unusedVariables false
namespace Go.Proofs.YtmkamncbkkahjaaGreat
open Go Go.RowKit
set_option maxRecDepth 100000
set_option maxHeartbeats 20000000
instance i_spec_l3Alike : ∀ (p0 : (List GVarType)) (p1 : (List GVarType)), Ct (m_spec_l3Alike p0 p1) fun res => CallsD Tryz.prog 0o00405 [(.slice 3 (List.map rGVarType p0)), (.slice 3 (List.map rGVarType p1))] (fun d => d = (eB res)) :=
 au Tryz.func261 m_spec_l3Alike.eq_1 (.o (.o (.ls 0 (.f [0, 1] [] [0, 1, 5] [] (fun (k124 : Nat) (s120 : Unit) => [(5, eI (k124 : Int))]) (fun k124 s120 => []) (fun k124 s120 => .o (.o (.g [0, 1, 5, 6] [] [] [] (.i (.d [0, 1, 2, 3, 4, 5, 6, 7, 8, 9, 10, 11, 12, 13, 14] [] [] .z) (.o (.d [0, 1, 2, 3, 4, 5, 6, 7, 8, 9, 10, 11, 12, 13, 14] [] [] .z)))))) (fun s128 => .z)))))
end Go.Proofs.YtmkamncbkkahjaaGreat
set_option linter.unusedSimpArgs false
set_option linter.unusedVariables false
namespace Go.Proofs.YtmkamncbkkahjaaGreat
open Go Go.RowKit
set_option maxRecDepth 100000
set_option maxHeartbeats 20000000
instance i_spec_l3Linear : ∀ (n : Nat) (p0 : (List GData)) (p1 : GType) (p2 : GPattern), Ct (m_spec_l3Linear n p0 p1 p2) fun res => CallsD Tryz.prog 0o00312 [(.slice 2 (List.map rGData p0)), (.agg (rGType p1)), (.agg (rGPattern p2))] (fun d => d = (eB res)) :=
 ar (au Tryz.func202 m_spec_l3Linear.eq_2 (.o (.o (.o (.o (.o (.o (.ls 14 (.f [0, 4, 5] [0, 8] [0, 4, 5, 7, 8] [0, 8] (fun (k65 : Nat) (s61 : Unit) => [(8, eI (k65 : Int))]) (fun k65 s61 => []) (fun k65 s61 => .o (.g [0, 4, 5, 7, 8] [0, 1] [] [] (.o (.o (.d [0, 1, 2, 3, 4, 5, 6, 7, 8, 9, 10, 11] [1] [] .z))))) (fun s69 => .i (.g [0, 4, 5] [0, 1] [] [] (.o (.o (.o (.o (.o (.d [0, 1, 2, 3, 4, 5, 7, 8, 9, 10, 11, 12, 6, 13, 14, 15] [0, 1] [] .z))))))) (.o (.ll 51 (.f [] [] [9, 10] [51] (fun (k142 : Nat) (s138 : Unit) => [(10, eI (k142 : Int))]) (fun k142 s138 => []) (fun k142 s138 => .z) (fun s146 => .z))))))))))))))
end Go.Proofs.YtmkamncbkkahjaaGreat
set_option linter.unusedSimpArgs false
set_option linter.unusedVariables false
namespace Go.Proofs.YtmkamncbkkahjaaGreat
open Go Go.RowKit
set_option maxRecDepth 100000
set_option maxHeartbeats 20000000
instance i_spec_l3Is : ∀ (n : Nat) (p0 : (List GData)) (p1 : GType) (p2 : GPattern), Ct (m_spec_l3Is n p0 p1 p2) fun res => CallsD Tryz.prog 0o00202 [(.slice 2 (List.map rGData p0)), (.agg (rGType p1)), (.agg (rGPattern p2))] (fun d => d = (eB res)) :=
 au Tryz.func130 m_spec_l3Is.eq_1 .z
end Go.Proofs.YtmkamncbkkahjaaGreat
set_option linter.unusedSimpArgs false
set_option linter.unusedVariables false
namespace Go.Proofs.YtmkamncbkkahjaaGreat
open Go Go.RowKit
set_option maxRecDepth 100000
set_option maxHeartbeats 20000000
instance i_spec_l4Guard : ∀ (p0 : GGuard) (p1 : (List GVarType)), Ct (m_spec_l4Guard p0 p1) fun res => CallsD Tryz.prog 0o00203 [(.agg (rGGuard p0)), (.slice 3 (List.map rGVarType p1))] (fun d => d = (eB res)) :=
 au Tryz.func131 m_spec_l4Guard.eq_1 (.o (.o (.i .z (.j 3 0 [1, 2] [0] (fun (s23 : Unit) => []) (fun _ => []) .z (fun _ => .z)))))
end Go.Proofs.YtmkamncbkkahjaaGreat
set_option linter.unusedSimpArgs false
set_option linter.unusedVariables false
namespace Go.Proofs.YtmkamncbkkahjaaGreat
open Go Go.RowKit
set_option maxRecDepth 100000
set_option maxHeartbeats 20000000
instance i_spec_l4Is : ∀ (n : Nat) (p0 : (List GData)) (p1 : GType) (p2 : GClause), Ct (m_spec_l4Is n p0 p1 p2) fun res => CallsD Tryz.prog 0o00077 [(.slice 2 (List.map rGData p0)), (.agg (rGType p1)), (.agg (rGClause p2))] (fun d => d = (eB res)) :=
 au Tryz.func63 m_spec_l4Is.eq_1 (.o (.o (.o (.o (.g [0, 4, 5] [0, 8] [] [] (.o (.i (.o (.o (.d [0, 1, 2, 3, 4, 5, 6, 7, 8, 9, 10, 11, 12, 13, 14, 15] [0, 1] [] .z))) (.d [0, 1, 2, 3, 4, 5, 6, 7, 8, 9, 10, 11, 12, 13, 14, 15] [0, 1] [] .z))))))))
end Go.Proofs.YtmkamncbkkahjaaGreat
set_option linter.unusedSimpArgs false
set_option linter.unusedVariables false
namespace Go.Proofs.YtmkamncbkkahjaaGreat
open Go Go.RowKit
set_option maxRecDepth 100000
set_option maxHeartbeats 20000000
instance i_spec_ClausesValid : ∀ (n : Nat) (p0 : (List GData)) (p1 : GType) (p2 : (List GClause)), Ct (m_spec_ClausesValid n p0 p1 p2) fun res => CallsD Tryz.prog 0o00110 [(.slice 2 (List.map rGData p0)), (.agg (rGType p1)), (.slice 9 (List.map rGClause p2))] (fun d => d = (eB res)) :=
 au Tryz.func72 m_spec_ClausesValid.eq_1 (.o (.o (.o (.o (.o (.i .z (.i .z (.ls 2 (.f [] [] [0, 2, 4, 7] [0] (fun (k70 : Nat) (s66 : Unit) => [(7, eI (k70 : Int))]) (fun k70 s66 => []) (fun k70 s66 => .o (.g [0, 2, 4, 7] [0] [] [] (.o (.d [0, 1, 2, 3, 4, 5, 6, 7] [0] [] .z)))) (fun s74 => .z))))))))))
end Go.Proofs.YtmkamncbkkahjaaGreat
set_option linter.unusedSimpArgs false
set_option linter.unusedVariables false
namespace Go.Proofs.YtmkamncbkkahjaaGreat
open Go Go.RowKit
set_option maxRecDepth 100000
set_option maxHeartbeats 20000000
instance i_spec_l2Sign : ∀ (p0 : ByteArray) (p1 : Int) (p2 : Int), Ct (m_spec_l2Sign p0 p1 p2) fun res => CallsD Tryz.prog 0o00302 [(eS p0), (eI p1), (.val (.int .u8 p2))] (fun d => d = (eB res)) :=
 au Tryz.func194 m_spec_l2Sign.eq_1 .z
theorem c_spec_l2Sign (p0 : ByteArray) (p1 : Int) (p2 : Int) : ∀ res, m_spec_l2Sign p0 p1 p2 = some res → CallsD Tryz.prog 0o00302 [(eS p0), (eI p1), (.val (.int .u8 p2))] (fun d => d = (eB res)) := (i_spec_l2Sign p0 p1 p2).pf
end Go.Proofs.YtmkamncbkkahjaaGreat
set_option linter.unusedSimpArgs false
set_option linter.unusedVariables false
namespace Go.Proofs.YtmkamncbkkahjaaGreat
open Go Go.RowKit
set_option maxRecDepth 100000
set_option maxHeartbeats 20000000
instance i_spec_l3Int : ∀ (p0 : ByteArray) (p1 : Int), Ct (m_spec_l3Int p0 p1) fun res => CallsD Tryz.prog 0o00300 [(eS p0), (eI p1)] (fun d => d = .tup [(.agg (rGPattern res.1)), (eI res.2)]) :=
 au Tryz.func192 m_spec_l3Int.eq_1 (.o (.o (.o (.j 2 0 [1, 4, 6] [0] (fun (s19 : Unit) => []) (fun _ => []) .z (fun _ => .z)))))
theorem c_spec_l3Int (p0 : ByteArray) (p1 : Int) : ∀ res, m_spec_l3Int p0 p1 = some res → CallsD Tryz.prog 0o00300 [(eS p0), (eI p1)] (fun d => d = .tup [(.agg (rGPattern res.1)), (eI res.2)]) := (i_spec_l3Int p0 p1).pf
end Go.Proofs.YtmkamncbkkahjaaGreat
set_option linter.unusedSimpArgs false
set_option linter.unusedVariables false
namespace Go.Proofs.YtmkamncbkkahjaaGreat
open Go Go.RowKit
set_option maxRecDepth 100000
set_option maxHeartbeats 20000000
instance i_spec_l2Name : ∀ (n : Nat) (p0 : ByteArray) (p1 : Int), Ct (m_spec_l2Name n p0 p1) fun res => CallsD Tryz.prog 0o00303 [(eS p0), (eI p1)] (fun d => d = .tup [(eS res.1), (eI res.2)]) :=
 au Tryz.func195 m_spec_l2Name.eq_1 (.o (.o (.o (.w [0, 1, 6] [] [0, 1, 6] [] (fun (s145 : Int) => [(6, eI s145)]) (fun s145 => []) (fun s145 => .j 2 0 [0, 1, 6] [] (fun (s188 : Unit) => []) (fun _ => []) .z (fun _ => .z)) (fun s153 => .z)))))
theorem c_spec_l2Name (n : Nat) (p0 : ByteArray) (p1 : Int) : ∀ res, m_spec_l2Name n p0 p1 = some res → CallsD Tryz.prog 0o00303 [(eS p0), (eI p1)] (fun d => d = .tup [(eS res.1), (eI res.2)]) := (i_spec_l2Name n p0 p1).pf
end Go.Proofs.YtmkamncbkkahjaaGreat
set_option linter.unusedSimpArgs false
set_option linter.unusedVariables false
namespace Go.Proofs.YtmkamncbkkahjaaGreat
open Go Go.RowKit
set_option maxRecDepth 100000
set_option maxHeartbeats 20000000
instance i_spec_l2Ctor : ∀ (p0 : (List GData)) (p1 : GType) (p2 : ByteArray), Ct (m_spec_l2Ctor p0 p1 p2) fun res => CallsD Tryz.prog 0o00304 [(.slice 2 (List.map rGData p0)), (.agg (rGType p1)), (eS p2)] (fun d => d = (eI res)) :=
 au Tryz.func196 m_spec_l2Ctor.eq_1 (.o (.o (.o (.o (.ls 11 (.f [] [] [0, 2, 4, 7, 8] [0] (fun (k65 : Nat) (s61 : Unit) => [(8, eI (k65 : Int))]) (fun k65 s61 => []) (fun k65 s61 => .o (.g [0, 2, 4, 7, 8] [0] [] [] (.o (.o (.d [0, 1, 2, 3, 4, 5, 6, 7, 8, 9, 10, 11, 12, 13, 14] [0] [] .z))))) (fun s69 => .z)))))))
theorem c_spec_l2Ctor (p0 : (List GData)) (p1 : GType) (p2 : ByteArray) : ∀ res, m_spec_l2Ctor p0 p1 p2 = some res → CallsD Tryz.prog 0o00304 [(.slice 2 (List.map rGData p0)), (.agg (rGType p1)), (eS p2)] (fun d => d = (eI res)) := (i_spec_l2Ctor p0 p1 p2).pf
end Go.Proofs.YtmkamncbkkahjaaGreat
set_option linter.unusedSimpArgs false
set_option linter.unusedVariables false
namespace Go.Proofs.YtmkamncbkkahjaaGreat
open Go Go.RowKit
set_option maxRecDepth 100000
set_option maxHeartbeats 20000000
theorem c_spec_l3Parse_and_spec_l3Kid : ∀ (n : Nat), (∀ (p0 : (List GData)) (p1 : GType) (p2 : ByteArray) (p3 : Int) (p4 : Int) (res : GPattern × Int), m_spec_l3Parse n p0 p1 p2 p3 p4 = some res → CallsD Tryz.prog 0o00175 [(.slice 2 (List.map rGData p0)), (.agg (rGType p1)), (eS p2), (eI p3), (eI p4)] (fun d => d = .tup [(.agg (rGPattern res.1)), (eI res.2)])) ∧ (∀ (p0 : (List GData)) (p1 : (List GType)) (p2 : (List Int)) (p3 : ByteArray) (p4 : Int) (p5 : Int) (res : (List GPattern) × Int), m_spec_l3Kid n p0 p1 p2 p3 p4 p5 = some res → CallsD Tryz.prog 0o00301 [(.slice 2 (List.map rGData p0)), (.slice 2 (List.map rGType p1)), (.slice 1 (List.map (rK .u8) p2)), (eS p3), (eI p4), (eI p5)] (fun d => d = .tup [(.slice 6 (List.map rGPattern res.1)), (eI res.2)])) := by
 intro n
 induction n with
 | zero => exact ⟨(by intro p0 p1 p2 p3 p4 res h; cases h), (by intro p0 p1 p2 p3 p4 p5 res h; cases h)⟩
 | succ n ih =>
  have ih_spec_l3Parse := ih.1
  have ih_spec_l3Kid := ih.2
  refine ⟨?_, ?_⟩
  ·intro p0 p1 p2 p3 p4 res h
   rw [m_spec_l3Parse.eq_2] at h
   refine CD Tryz.func125 [.cell 10 41, .tmp 11] fun β hβ => ?_
   refine sZ ?_
   apply sq
   apply sq
   rcases bb (ilt p4 1) with s | s
   ·rw [if_pos s] at h
    refine rZ ?_ fun K hK => by simp [s]; exact hK
    refine cT ?_
    refine sZ ?_
    cases h
    apply TrD.ret
    refine exitDG (σ' := ⟨(updD (updD (fun _ => .any) 10 (.ptr 6 0 0 0)) 11 (eI (-1))), hOfO [some ⟨6, [(rGPattern (GPattern.mk 0 0 0 0 0 []))], 0, 0x0029⟩], 1, 172⟩) ?_ ?_
    ·exact gC [8]
    simp [resD]
    exact eF
   rw [iN s] at h
   rcases bb (ilt p3 0) with w | w
   ·rw [if_pos w] at h
    refine rZ ?_ fun K hK => by simp [s, w]; exact hK
    refine cT ?_
    refine sZ ?_
    cases h
    apply TrD.ret
    refine exitDG (σ' := ⟨(updD (updD (fun _ => .any) 10 (.ptr 6 0 0 0)) 11 (eI (-1))), hOfO [some ⟨6, [(rGPattern (GPattern.mk 0 0 0 0 0 []))], 0, 0x0029⟩], 1, 172⟩) ?_ ?_
    ·exact gC [8]
    simp [resD]
    exact eF
   rw [iN w] at h
   refine rZ ?_ fun K hK => by simp [s, w]; exact hK
   refine TrD.cond (b := ile (lenZ p2.size) p3) (by simp) (fun y => ?_) (fun y => ?_)
   ·rw [if_pos y] at h
    refine sZ ?_ fun K hK => by simp [y]; exact hK
    cases h
    apply TrD.ret
    refine exitDG (σ' := ⟨(updD (updD (fun _ => .any) 10 (.ptr 6 0 0 0)) 11 (eI (-1))), hOfO [some ⟨6, [(rGPattern (GPattern.mk 0 0 0 0 0 []))], 0, 0x0029⟩], 1, 172⟩) ?_ ?_
    ·exact gC [8]
    simp [resD]
    exact eF
   rw [iN y] at h
   apply TrD.skip
   apply sq
   obtain ⟨c, Y, h⟩ := bindE h
   refine rZ ?_ fun K hK => by simp [y, ← (sidx_some Y).1, (sidx_some Y).2]; exact hK
   obtain ⟨aU, a, h⟩ := bindE h
   obtain ⟨ah, v⟩ : ∃ S : Unit → St, S = fun af => ⟨(updD (updD (updD (updD (updD (updD (fun _ => .any) 0 (.slice 2 (List.map rGData p0))) 2 (eS p2)) 3 (eI p3)) 4 (eI p4)) 6 (.ptr 2 0 0 0)) 10 (.ptr 6 1 0 0)), hOfO [some ⟨2, [(rGType p1)], 0, 0x0019⟩, some ⟨6, [[(eI 0), (eI 0), (eI 0), (eI 0), (eI 0), .nil]], 0, 0x0029⟩], 2, 172⟩ := ⟨_, rfl⟩
   refine TrD.join ah (fun z => aU = Ctl.brk z) ?_ (fun af hz => ?_)
   ·apply TrD.block
    refine sZ ?_
    refine TrD.cond (b := ieq c 95) (by simp) (fun t => ?_) (fun t => ?_)
    ·rw [if_pos t] at a
     refine sZ ?_ fun K hK => by simp [t]; exact hK
     cases a
     cases h
     apply TrD.ret
     refine exitDG (σ' := ⟨(updD (updD (fun _ => .any) 10 (.ptr 6 0 0 0)) 11 (eI (wadd .i64 p3 1))), hOfO [some ⟨6, [(rGPattern (GPattern.mk 1 0 0 0 0 []))], 0, 0x0029⟩], 1, 172⟩) ?_ ?_
     ·exact gC [8]
     simp [resD]
     exact eF
    rw [iN t] at a
    apply sq
    rcases bb (ile 48 c) with B | B
    ·rw [if_pos B] at a
     refine rZ ?_ fun K hK => by simp [t, B]; exact hK
     refine TrD.cond (b := ile c 57) (by simp) (fun C => ?_) (fun C => ?_)
     ·rw [if_pos C] at a
      apply sq
      obtain ⟨T, aE, a⟩ := bindE a
      refine rk fun K hK => ?_
      simp [C]
      refine cp (c_spec_l3Int p2 p3 _ aE) ?_
      simp
      apply hK
      cases a
      cases h
      apply TrD.ret
      exact xD
     rw [iN C] at a
     refine sZ ?_ fun K hK => by simp [C]; exact hK
     refine TrD.cond (b := ieq c 40) (by simp) (fun o => ?_) (fun o => ?_)
     ·rw [if_pos o] at a
      apply sq
      obtain ⟨N, aF, a⟩ := bindE a
      refine rk fun K hK => ?_
      simp [o]
      refine callV (.cons (.same _ _) (.cons (.sl _ _ _ _ _ (by simp; rfl) rfl (by simp) (by simp)) (.cons (.sl _ _ _ _ _ (by simp; rfl) rfl (by simp) (by simp)) (.cons (.same _ _) (.cons (.same _ _) (.cons (.same _ _) (.nil _))))))) (ih_spec_l3Kid p0 [p1, p1] [40, 124] p2 p3 (wsub .i64 p4 1) _ aF) (by simp) (by simp) (fun bd ao => ?_)
      subst ao
      simp
      apply hK
      apply sq
      apply sq
      obtain ⟨aX, aG, a⟩ := bindE a
      refine rk fun K hK => ?_
      simp
      refine cp (c_spec_l2Sign p2 N.2 41 _ aG) ?_
      simp
      apply hK
      refine TrD.cond (b := (!aX)) (by simp) (fun D => ?_) (fun D => ?_)
      ·rw [if_pos D] at a
       refine sZ ?_ fun K hK => by simp [D]; exact hK
       cases a
       cases h
       apply TrD.ret
       refine exitDG (σ' := ⟨(updD (updD (fun _ => .any) 10 (.ptr 6 0 0 0)) 11 (eI (-1))), hOfO [some ⟨6, [(rGPattern (GPattern.mk 0 0 0 0 0 []))], 0, 0x0029⟩], 1, 172⟩) ?_ ?_
       ·exact gC [8]
       simp [resD]
       exact eF
      rw [iN D] at a
      apply TrD.skip
      refine sZ ?_ fun K hK => by simp [D]; exact hK
      cases a
      cases h
      apply TrD.ret
      exact xD
     rw [iN o] at a
     apply sq
     rcases bb (ile 97 c) with g | g
     ·rw [if_pos g] at a
      rcases bb (ile c 122) with p | p
      ·rw [if_pos p] at a
       obtain ⟨aY, aH, a⟩ := bindE a
       refine rk fun K hK => ?_
       simp [o, g, p]
       refine cp (c_spec_l2Sign p2 (wadd .i64 p3 1) 64 _ aH) ?_
       simp
       apply hK
       refine TrD.cond (b := aY) (by simp) (fun E => ?_) (fun E => ?_)
       ·rw [if_pos E] at a
        apply sq
        obtain ⟨U, aI, a⟩ := bindE a
        refine rk fun K hK => ?_
        simp [E]
        refine callV (.cons (.same _ _) (.cons (.sl _ _ _ _ _ (by simp; rfl) rfl (by simp) (by simp)) (.cons (.sl _ _ _ _ _ (by simp; rfl) rfl (by simp) (by simp)) (.cons (.same _ _) (.cons (.same _ _) (.cons (.same _ _) (.nil _))))))) (ih_spec_l3Kid p0 [p1] [64] p2 (wadd .i64 p3 1) (wsub .i64 p4 1) _ aI) (by simp) (by simp) (fun be ap => ?_)
        subst ap
        simp
        apply hK
        refine sZ ?_
        cases a
        cases h
        apply TrD.ret
        exact xD
       rw [iN E] at a
       refine sZ ?_ fun K hK => by simp [g, p, E]; exact hK
       refine cT ?_
       refine sZ ?_
       cases a
       cases h
       apply TrD.ret
       refine exitDG (σ' := ⟨(updD (updD (fun _ => .any) 10 (.ptr 6 0 0 0)) 11 (eI (wadd .i64 p3 1))), hOfO [some ⟨6, [(rGPattern (GPattern.mk 2 0 0 0 (wcv .i64 (wsub .u8 c 97)) []))], 0, 0x0029⟩], 1, 172⟩) ?_ ?_
       ·exact gC [8]
       simp [resD]
       exact eF
      rw [iN p] at a
      refine rZ ?_ fun K hK => by simp [o, g, p]; exact hK
      refine cF ?_
      refine sZ ?_ fun K hK => by simp [g, p]; exact hK
      refine cF ?_
      apply TrD.skip
      cases a
      refine ToAny.mk () rfl ?_
      rw [v]
      exact gC [0, 8]
     rw [iN g] at a
     refine rZ ?_ fun K hK => by simp [o, g]; exact hK
     refine cF ?_
     refine sZ ?_ fun K hK => by simp [g]; exact hK
     refine cF ?_
     apply TrD.skip
     cases a
     refine ToAny.mk () rfl ?_
     rw [v]
     exact gC [0, 8]
    rw [iN B] at a
    refine rZ ?_ fun K hK => by simp [t, B]; exact hK
    refine cF ?_
    refine sZ ?_
    refine TrD.cond (b := ieq c 40) (by simp) (fun q => ?_) (fun q => ?_)
    ·rw [if_pos q] at a
     apply sq
     obtain ⟨O, aJ, a⟩ := bindE a
     refine rk fun K hK => ?_
     simp [q]
     refine callV (.cons (.same _ _) (.cons (.sl _ _ _ _ _ (by simp; rfl) rfl (by simp) (by simp)) (.cons (.sl _ _ _ _ _ (by simp; rfl) rfl (by simp) (by simp)) (.cons (.same _ _) (.cons (.same _ _) (.cons (.same _ _) (.nil _))))))) (ih_spec_l3Kid p0 [p1, p1] [40, 124] p2 p3 (wsub .i64 p4 1) _ aJ) (by simp) (by simp) (fun bh au => ?_)
     subst au
     simp
     apply hK
     apply sq
     apply sq
     obtain ⟨aZ, aK, a⟩ := bindE a
     refine rk fun K hK => ?_
     simp
     refine cp (c_spec_l2Sign p2 O.2 41 _ aK) ?_
     simp
     apply hK
     refine TrD.cond (b := (!aZ)) (by simp) (fun F => ?_) (fun F => ?_)
     ·rw [if_pos F] at a
      refine sZ ?_ fun K hK => by simp [F]; exact hK
      cases a
      cases h
      apply TrD.ret
      refine exitDG (σ' := ⟨(updD (updD (fun _ => .any) 10 (.ptr 6 0 0 0)) 11 (eI (-1))), hOfO [some ⟨6, [(rGPattern (GPattern.mk 0 0 0 0 0 []))], 0, 0x0029⟩], 1, 172⟩) ?_ ?_
      ·exact gC [8]
      simp [resD]
      exact eF
     rw [iN F] at a
     apply TrD.skip
     refine sZ ?_ fun K hK => by simp [F]; exact hK
     cases a
     cases h
     apply TrD.ret
     exact xD
    rw [iN q] at a
    apply sq
    rcases bb (ile 97 c) with i | i
    ·rw [if_pos i] at a
     rcases bb (ile c 122) with r | r
     ·rw [if_pos r] at a
      obtain ⟨a0, aL, a⟩ := bindE a
      refine rk fun K hK => ?_
      simp [q, i, r]
      refine cp (c_spec_l2Sign p2 (wadd .i64 p3 1) 64 _ aL) ?_
      simp
      apply hK
      refine TrD.cond (b := a0) (by simp) (fun G => ?_) (fun G => ?_)
      ·rw [if_pos G] at a
       apply sq
       obtain ⟨V, aM, a⟩ := bindE a
       refine rk fun K hK => ?_
       simp [G]
       refine callV (.cons (.same _ _) (.cons (.sl _ _ _ _ _ (by simp; rfl) rfl (by simp) (by simp)) (.cons (.sl _ _ _ _ _ (by simp; rfl) rfl (by simp) (by simp)) (.cons (.same _ _) (.cons (.same _ _) (.cons (.same _ _) (.nil _))))))) (ih_spec_l3Kid p0 [p1] [64] p2 (wadd .i64 p3 1) (wsub .i64 p4 1) _ aM) (by simp) (by simp) (fun bi av => ?_)
       subst av
       simp
       apply hK
       refine sZ ?_
       cases a
       cases h
       apply TrD.ret
       exact xD
      rw [iN G] at a
      refine sZ ?_ fun K hK => by simp [i, r, G]; exact hK
      refine cT ?_
      refine sZ ?_
      cases a
      cases h
      apply TrD.ret
      refine exitDG (σ' := ⟨(updD (updD (fun _ => .any) 10 (.ptr 6 0 0 0)) 11 (eI (wadd .i64 p3 1))), hOfO [some ⟨6, [(rGPattern (GPattern.mk 2 0 0 0 (wcv .i64 (wsub .u8 c 97)) []))], 0, 0x0029⟩], 1, 172⟩) ?_ ?_
      ·exact gC [8]
      simp [resD]
      exact eF
     rw [iN r] at a
     refine rZ ?_ fun K hK => by simp [q, i, r]; exact hK
     refine cF ?_
     refine sZ ?_ fun K hK => by simp [i, r]; exact hK
     refine cF ?_
     apply TrD.skip
     cases a
     refine ToAny.mk () rfl ?_
     rw [v]
     exact gC [0, 8]
    rw [iN i] at a
    refine rZ ?_ fun K hK => by simp [q, i]; exact hK
    refine cF ?_
    refine sZ ?_ fun K hK => by simp [i]; exact hK
    refine cF ?_
    apply TrD.skip
    cases a
    refine ToAny.mk () rfl ?_
    rw [v]
    exact gC [0, 8]
   subst hz
   try dsimp only at h
   rw [congrFun v af]
   apply sq
   obtain ⟨ad, aN, h⟩ := bindE h
   refine rk fun K hK => ?_
   simp
   refine cp (c_spec_l2Name n p2 p3 _ aN) ?_
   simp
   apply hK
   apply sq
   obtain ⟨u, aO, h⟩ := bindE h
   refine rk fun K hK => ?_
   simp
   refine cp (c_spec_l2Ctor p0 p1 ad.1 _ aO) ?_
   simp
   apply hK
   apply sq
   refine sZ ?_
   refine TrD.cond (b := ilt u 0) (by simp) (fun H => ?_) (fun H => ?_)
   ·rw [if_pos H] at h
    refine sZ ?_ fun K hK => by simp [H]; exact hK
    cases h
    apply TrD.ret
    refine exitDG (σ' := ⟨(updD (updD (fun _ => .any) 10 (.ptr 6 0 0 0)) 11 (eI (-1))), hOfO [some ⟨6, [(rGPattern (GPattern.mk 0 0 0 0 0 []))], 0, 0x0029⟩], 1, 172⟩) ?_ ?_
    ·exact gC [1]
    simp [resD]
    exact eF
   rw [iN H] at h
   apply TrD.skip
   apply sq
   obtain ⟨ae, aP, h⟩ := bindE h
   refine rk fun K hK => ?_
   simp [H]
   refine cp (c_spec_l1Args p0 p1 u _ aP) ?_
   simp
   apply hK
   apply sq
   obtain ⟨l, aQ, h⟩ := bindE h
   refine rk fun K hK => ?_
   simp
   refine callV (.cons (.same _ _) (.cons (.same _ _) (.cons (.sl _ _ _ _ _ (by simp; rfl) rfl (by simp) (by simp)) (.cons (.same _ _) (.cons (.same _ _) (.cons (.same _ _) (.nil _))))))) (ih_spec_l3Kid p0 ae [40, 44, 44] p2 ad.2 (wsub .i64 p4 1) _ aQ) (by simp) (by simp) (fun bl ay => ?_)
   subst ay
   simp
   apply hK
   refine sZ ?_
   apply sq
   refine sZ ?_
   refine TrD.cond (b := ieq (lenZ ae.length) 0) (by simp) (fun I => ?_) (fun I => ?_)
   ·rw [if_pos I] at h
    refine sZ ?_ fun K hK => by simp [I]; exact hK
    cases h
    apply TrD.ret
    exact xD
   rw [iN I] at h
   apply TrD.skip
   apply sq
   apply sq
   obtain ⟨a1, aR, h⟩ := bindE h
   refine rk fun K hK => ?_
   simp [I]
   refine cp (c_spec_l2Sign p2 l.2 41 _ aR) ?_
   simp
   apply hK
   refine TrD.cond (b := (!a1)) (by simp) (fun J => ?_) (fun J => ?_)
   ·rw [if_pos J] at h
    refine sZ ?_ fun K hK => by simp [J]; exact hK
    cases h
    apply TrD.ret
    refine exitDG (σ' := ⟨(updD (updD (fun _ => .any) 10 (.ptr 6 0 0 0)) 11 (eI (-1))), hOfO [some ⟨6, [(rGPattern (GPattern.mk 0 0 0 0 0 []))], 0, 0x0029⟩], 1, 172⟩) ?_ ?_
    ·exact gC [1]
    simp [resD]
    exact eF
   rw [iN J] at h
   apply TrD.skip
   refine sZ ?_ fun K hK => by simp [J]; exact hK
   cases h
   apply TrD.ret
   exact xD
  intro p0 p1 p2 p3 p4 p5 res h
  rw [m_spec_l3Kid.eq_2] at h
  refine CD Tryz.func193 [.tmp 12, .tmp 13] fun β hβ => ?_
  refine sZ ?_
  refine sZ ?_
  apply sq
  refine sZ ?_
  obtain ⟨aV, aj, h⟩ := bindE h
  obtain ⟨ag, X⟩ : ∃ S : (Int × (List GPattern)) → St, S = fun m => ⟨(updD (updD (fun _ => .any) 4 (eI m.1)) 14 (.sl 6 0 (m.2).length)), hOfO [some ⟨6, (List.map rGPattern m.2), 0, 0x0029⟩], 1, 53⟩ := ⟨_, rfl⟩
  refine TrD.joinQ ag (fun z => aV = Ctl.brk z) (fun _ _ hg h => TrD.ghost hg h) ?_ (fun m hz => ?_)
  ·apply TrD.block
   obtain ⟨ai, P⟩ : ∃ S : Nat → (Int × (List GPattern)) → St, S = fun R e => ⟨(updD (updD (updD (updD (updD (updD (updD (updD (fun _ => .any) 0 (.slice 2 (List.map rGData p0))) 1 (.slice 2 (List.map rGType p1))) 2 (.slice 1 (List.map (rK .u8) p2))) 3 (eS p3)) 4 (eI e.1)) 5 (eI p5)) 14 (.sl 6 0 (e.2).length)) 15 (eI (R : Int))), hOfO [some ⟨6, (List.map rGPattern e.2), 0, 0x0029⟩], 1, 53⟩ := ⟨_, rfl⟩
   refine TrD.limS (sz := 2) (rows := List.map rGType p1) (seen_slot (d := .slice 2 (List.map rGType p1)) 1 (by simp)) (fun hlim => ?_)
   rw [List.length_map] at hlim
   refine TrD.forL ai aj hlim ?_ (fun R a3 e ab a6 a7 aT j a8 f aS a5 => ?_) (fun e a2 => ?_)
   ·rw [P]
    exact gC [16]
   ·rw [congrFun (congrFun P R) e]
    apply sq
    refine sZ ?_ fun K hK => by simp [aT]; exact hK
    refine cT ?_
    apply TrD.skip
    apply sq
    apply TrD.block
    apply sq
    apply sq
    obtain ⟨a4, Z, f⟩ := bindE f
    obtain ⟨aW, aC, f⟩ := bindE f
    refine rk fun K hK => ?_
    simp [idx_inb Z, idx_row Z]
    refine cp (c_spec_l2Sign p3 e.1 a4 _ aC) ?_
    simp
    apply hK
    refine TrD.cond (b := (!aW)) (by simp) (fun A => ?_) (fun A => ?_)
    ·rw [if_pos A] at f
     refine sZ ?_ fun K hK => by simp [A]; exact hK
     cases f
     obtain rfl := aS _ rfl
     cases h
     apply TrD.ret
     refine exitDG (σ' := ⟨(updD (updD (fun _ => .any) 12 (.slice 6 (List.map rGPattern []))) 13 (eI (-1))), hOfO [], 0, 53⟩) ?_ ?_
     ·exact gC []
     dsimp only [resD]
     exact eF
    rw [iN A] at f
    apply TrD.skip
    apply sq
    obtain ⟨ac, aD, f⟩ := bindE f
    refine rk fun K hK => ?_
    simp [idx_inb ab, idx_row ab, A]
    refine cp (ih_spec_l3Parse p0 a3 p3 (wadd .i64 e.1 1) p5 _ aD) ?_
    simp
    apply hK
    apply sq
    obtain ⟨W, Q, f⟩ := bindE f
    have aa := (app_some Q).2
    try simp only [List.length_cons, List.length_nil, Nat.zero_add] at aa
    refine rZ ?_ fun K hK => by simp [aa]; exact hK
    refine rZ ?_
    refine rZ ?_
    cases f
    refine ToAny.mk (ac.2, W) rfl ?_
    rw [P]
    exact gc [249] hβ ((((((((va.f (by simp [j])).f (by simp [j])).f (by simp [j])).f (by simp [j])).f (by simp [j])).f (by simp [j])).s 249 (by simp [(app_some Q).1, j])).f (by simp [j])) (ln.f (by simp [(app_some Q).1]))
   rw [congrFun (congrFun P _) e]
   apply sq
   refine sZ ?_ fun K hK => by simp [ilt_len p1.length]; exact hK
   refine cF ?_
   refine TrD.exit ?_
   try simp only [↓reduceIte, Nat.reduceEqDiff, Nat.zero_ne_one, Nat.one_ne_zero, OfNat.ofNat_ne_zero, OfNat.zero_ne_ofNat, OfNat.one_ne_ofNat, OfNat.ofNat_ne_one]
   refine ToAny.mk e a2 ?_
   rw [X]
   exact gC [0]
  subst hz
  try dsimp only at h
  rw [congrFun X m]
  refine sZ ?_
  cases h
  apply TrD.ret
  refine exitDG (σ' := ⟨(updD (updD (fun _ => .any) 12 (.slice 6 (List.map rGPattern m.2))) 13 (eI m.1)), hOfO [], 0, 53⟩) ?_ ?_
  ·refine (Ghost.raise 0 (by simp; rfl)).trans ?_
   exact gC [] (ht := ((va.u (d0 := (.sl 6 0 (m.2).length)) (by simp) (v_frz (by simp; rfl) rfl (by simp) (by simp) (rv_free (by simp) (by simp)))).f))
  dsimp only [resD]
  exact eF
theorem c_spec_l3Parse : ∀ (n : Nat), ∀ (p0 : (List GData)) (p1 : GType) (p2 : ByteArray) (p3 : Int) (p4 : Int) (res : GPattern × Int), m_spec_l3Parse n p0 p1 p2 p3 p4 = some res → CallsD Tryz.prog 0o00175 [(.slice 2 (List.map rGData p0)), (.agg (rGType p1)), (eS p2), (eI p3), (eI p4)] (fun d => d = .tup [(.agg (rGPattern res.1)), (eI res.2)]) := fun n => (c_spec_l3Parse_and_spec_l3Kid n).1
theorem c_spec_l3Kid : ∀ (n : Nat), ∀ (p0 : (List GData)) (p1 : (List GType)) (p2 : (List Int)) (p3 : ByteArray) (p4 : Int) (p5 : Int) (res : (List GPattern) × Int), m_spec_l3Kid n p0 p1 p2 p3 p4 p5 = some res → CallsD Tryz.prog 0o00301 [(.slice 2 (List.map rGData p0)), (.slice 2 (List.map rGType p1)), (.slice 1 (List.map (rK .u8) p2)), (eS p3), (eI p4), (eI p5)] (fun d => d = .tup [(.slice 6 (List.map rGPattern res.1)), (eI res.2)]) := fun n => (c_spec_l3Parse_and_spec_l3Kid n).2
instance i_spec_l3Parse : ∀ (n : Nat) (p0 : (List GData)) (p1 : GType) (p2 : ByteArray) (p3 : Int) (p4 : Int), Ct (m_spec_l3Parse n p0 p1 p2 p3 p4) fun res => CallsD Tryz.prog 0o00175 [(.slice 2 (List.map rGData p0)), (.agg (rGType p1)), (eS p2), (eI p3), (eI p4)] (fun d => d = .tup [(.agg (rGPattern res.1)), (eI res.2)]) := fun n p0 p1 p2 p3 p4 => ⟨c_spec_l3Parse n p0 p1 p2 p3 p4⟩
instance i_spec_l3Kid : ∀ (n : Nat) (p0 : (List GData)) (p1 : (List GType)) (p2 : (List Int)) (p3 : ByteArray) (p4 : Int) (p5 : Int), Ct (m_spec_l3Kid n p0 p1 p2 p3 p4 p5) fun res => CallsD Tryz.prog 0o00301 [(.slice 2 (List.map rGData p0)), (.slice 2 (List.map rGType p1)), (.slice 1 (List.map (rK .u8) p2)), (eS p3), (eI p4), (eI p5)] (fun d => d = .tup [(.slice 6 (List.map rGPattern res.1)), (eI res.2)]) := fun n p0 p1 p2 p3 p4 p5 => ⟨c_spec_l3Kid n p0 p1 p2 p3 p4 p5⟩
end Go.Proofs.YtmkamncbkkahjaaGreat
set_option linter.unusedSimpArgs false
set_option linter.unusedVariables false
namespace Go.Proofs.YtmkamncbkkahjaaGreat
open Go Go.RowKit
set_option maxRecDepth 100000
set_option maxHeartbeats 20000000
instance i_spec_l4ParseGuard : ∀ (p0 : ByteArray), Ct (m_spec_l4ParseGuard p0) fun res => CallsD Tryz.prog 0o00176 [(eS p0)] (fun d => d = (.agg (rGGuard res))) :=
 au Tryz.func126 m_spec_l4ParseGuard.eq_1 (.o (.i .z (.g [0, 2] [0] [] [] (.b fun (x3 : Int) => .b fun (x4 : Int) => .d [0, 1, 2, 3, 4, 5, 6, 7, 8, 9, 10] [] [] (.j 4 0 [2, 3] [0, 1] (fun (s8 : Int) => []) (fun s8 => [(1, some ⟨3, [[(eI s8), (eI (wsub .i64 (wcv .i64 x3) 97)), (eI (wsub .i64 (wcv .i64 x4) 48))]], 0, 0x002b⟩)]) .z (fun _ => .z))))))
end Go.Proofs.YtmkamncbkkahjaaGreat
set_option linter.unusedSimpArgs false
set_option linter.unusedVariables false
namespace Go.Proofs.YtmkamncbkkahjaaGreat
open Go Go.RowKit
set_option maxRecDepth 100000
set_option maxHeartbeats 20000000
instance i_spec_l3Letter : ∀ (p0 : Int), Ct (m_spec_l3Letter p0) fun res => CallsD Tryz.prog 0o00400 [(eI p0)] (fun d => d = (eS res)) :=
 au Tryz.func256 m_spec_l3Letter.eq_1 .z
end Go.Proofs.YtmkamncbkkahjaaGreat
