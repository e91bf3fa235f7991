import Derived.Test.YtmkamncbkkahjaaGreatJMir
import Derived.Test.YtmkamncbkkahjaaGreatJAuto
import Derived.Test.YtmkamncbkkahjaaGreatJC2
import Derived.Test.YtmkamncbkkahjaaGreatJAuI
set_option linter.unusedSimpArgs false
set_option linter.unusedVariables false
set_option linter.unusedSimpArgs false
set_option linter.unusedVariables false
namespace Go.Proofs.YtmkamncbkkahjaaGreat
open Go Go.RowKit
set_option maxRecDepth 100000
set_option maxHeartbeats 20000000
instance i_impl_narrowed : ∀ (n : Nat) (p0 : GPattern) (p1 : Int) (p2 : Int) (p3 : Int), Ct (m_impl_narrowed n p0 p1 p2 p3) fun res => CallsD Tryz.prog 0o00152 [(.agg (rGPattern p0)), (eI p1), (eI p2), (eI p3)] (fun d => d = .tup [(.agg (rGPattern res.1)), (eB res.2.1), (eB res.2.2)]) :=
 ar (au Tryz.func106 m_impl_narrowed.eq_2 (.o (.o (.o (.o (.o (.o (.j 1 0 [1, 2, 3, 4, 8] [0, 8] (fun (s15 : Unit) => []) (fun _ => []) .z (fun s15 => .i .z (.ls 44 (.f [4, 8] [0, 1] [1, 2, 3, 4, 8, 44, 45, 46] [0, 1] (fun (k117 : Nat) (s113 : Unit) => [(46, eI (k117 : Int))]) (fun k117 s113 => []) (fun k117 s113 => .z) (fun s121 => .z))))))))))))
end Go.Proofs.YtmkamncbkkahjaaGreat
set_option linter.unusedSimpArgs false
set_option linter.unusedVariables false
namespace Go.Proofs.YtmkamncbkkahjaaGreat
open Go Go.RowKit
set_option maxRecDepth 100000
set_option maxHeartbeats 20000000
instance i_impl_guarded : ∀ (n : Nat) (p0 : GClause), Ct (m_impl_guarded n p0) fun res => CallsD Tryz.prog 0o00057 [(.agg (rGClause p0))] (fun d => d = .tup [(.agg (rGPattern res.1)), (eB res.2.1), (eB res.2.2)]) :=
 au Tryz.func47 m_impl_guarded.eq_1 (.o (.o (.g [1, 2] [0, 8] [] [] (.d [0, 1, 2, 3, 4, 5] [0] [] (.j 2 0 [1, 2, 5, 6] [0, 1] (fun (s2 : Int × Int) => [(5, eI s2.1), (6, eI s2.2)]) (fun _ => []) (.i (.g [1, 2] [0, 1] [] [] (.d [0, 1, 2, 3, 4, 5, 6, 7] [0] [] .z)) .z) (fun _ => .z))))))
end Go.Proofs.YtmkamncbkkahjaaGreat
set_option linter.unusedSimpArgs false
set_option linter.unusedVariables false
namespace Go.Proofs.YtmkamncbkkahjaaGreat
open Go Go.RowKit
set_option maxRecDepth 100000
set_option maxHeartbeats 20000000
instance i_impl_GuardPattern : ∀ (n : Nat) (p0 : (List GData)) (p1 : GType) (p2 : GClause), Ct (m_impl_GuardPattern n p0 p1 p2) fun res => CallsD Tryz.prog 0o00022 [(.slice 2 (List.map rGData p0)), (.agg (rGType p1)), (.agg (rGClause p2))] (fun d => d = .tup [(.agg (rGClause res.1)), (eB res.2)]) :=
 au Tryz.func18 m_impl_GuardPattern.eq_1 .z
theorem c_impl_GuardPattern (n : Nat) (p0 : (List GData)) (p1 : GType) (p2 : GClause) : ∀ res, m_impl_GuardPattern n p0 p1 p2 = some res → CallsD Tryz.prog 0o00022 [(.slice 2 (List.map rGData p0)), (.agg (rGType p1)), (.agg (rGClause p2))] (fun d => d = .tup [(.agg (rGClause res.1)), (eB res.2)]) := (i_impl_GuardPattern n p0 p1 p2).pf
end Go.Proofs.YtmkamncbkkahjaaGreat
set_option linter.unusedSimpArgs false
set_option linter.unusedVariables false
namespace Go.Proofs.YtmkamncbkkahjaaGreat
open Go Go.RowKit
set_option maxRecDepth 100000
set_option maxHeartbeats 20000000
instance i_spec_l17Open : ∀ (p0 : (List Int)), Ct (m_spec_l17Open p0) fun res => CallsH Tryz.prog 0o00072 [] [(.slice 1 (List.map (rK .u8) p0))] (fun H d => H = [some ⟨2, [(rGl17Rd res)], 0, 0x00ba⟩] ∧ d = .ptr 2 0 0 0) :=
 au Tryz.func58 m_spec_l17Open.eq_1 (.o (.j 1 0 [0] [] (fun (s3 : (List Int)) => [(0, .slice 1 (List.map (rK .u8) s3))]) (fun _ => []) .z (fun _ => .z)))
theorem c_spec_l17Open (p0 : (List Int)) : ∀ res, m_spec_l17Open p0 = some res → CallsH Tryz.prog 0o00072 [] [(.slice 1 (List.map (rK .u8) p0))] (fun H d => H = [some ⟨2, [(rGl17Rd res)], 0, 0x00ba⟩] ∧ d = .ptr 2 0 0 0) := (i_spec_l17Open p0).pf
end Go.Proofs.YtmkamncbkkahjaaGreat
set_option linter.unusedSimpArgs false
set_option linter.unusedVariables false
namespace Go.Proofs.YtmkamncbkkahjaaGreat
open Go Go.RowKit
set_option maxRecDepth 100000
set_option maxHeartbeats 20000000
instance i_spec_l17Rd_pick : ∀ (p0 : Gl17Rd) (p1 : Int), Ct (m_spec_l17Rd_pick p0 p1) fun res => CallsH Tryz.prog 0o00073 [⟨2, [(rGl17Rd p0)], 0, 0x00ba⟩] [.ptr 2 0 0 0, (eI p1)] (fun H d => H = [some ⟨2, [(rGl17Rd res.2)], 0, 0x00ba⟩] ∧ d = (eI res.1)) :=
 au Tryz.func59 m_spec_l17Rd_pick.eq_1 (.o (.o (.i .z (.i .z (.i .z (.g [0, 1, 5] [0] [] [] (.o (.o (.o (.d [0, 1, 2, 3, 4, 5, 6, 7, 8, 9, 10, 11, 12, 13, 14, 15, 16, 17, 18, 19, 20, 21, 22, 23, 24, 25, 26, 27, 28, 29, 30, 31, 32, 33, 34, 35, 36, 37, 38, 39, 40, 41, 42, 43, 44, 45] [0] [] .z))))))))))
theorem c_spec_l17Rd_pick (p0 : Gl17Rd) (p1 : Int) : ∀ res, m_spec_l17Rd_pick p0 p1 = some res → CallsH Tryz.prog 0o00073 [⟨2, [(rGl17Rd p0)], 0, 0x00ba⟩] [.ptr 2 0 0 0, (eI p1)] (fun H d => H = [some ⟨2, [(rGl17Rd res.2)], 0, 0x00ba⟩] ∧ d = (eI res.1)) := (i_spec_l17Rd_pick p0 p1).pf
end Go.Proofs.YtmkamncbkkahjaaGreat
set_option linter.unusedSimpArgs false
set_option linter.unusedVariables false
namespace Go.Proofs.YtmkamncbkkahjaaGreat
open Go Go.RowKit
set_option maxRecDepth 100000
set_option maxHeartbeats 20000000
instance i_spec_l17Cut : ∀ (n : Nat) (p0 : ByteArray) (p1 : Int), Ct (m_spec_l17Cut n p0 p1) fun res => CallsD Tryz.prog 0o00171 [(eS p0), (.val (.int .u8 p1))] (fun d => d = (.slice 1 (List.map rS res))) :=
 au Tryz.func121 m_spec_l17Cut.eq_1 (.o (.o (.o (.w [5] [8] [0, 1, 5, 6, 7] [8] (fun (s203 : (List ByteArray) × Int × Int) => [(5, .sl 1 8 (s203.1).length), (6, eI s203.2.1), (7, eI s203.2.2)]) (fun s203 => [(8, some ⟨1, (List.map rS s203.1), 0, 0x0009⟩)]) (fun s203 => .i (.j 6 0 [0, 1, 5, 6, 7] [0] (fun (s230 : (List ByteArray) × Int) => [(5, .sl 1 0 (s230.1).length), (6, eI s230.2)]) (fun s230 => [(0, some ⟨1, (List.map rS s230.1), 0, 0x0009⟩)]) .z (fun _ => .z)) .z) (fun s211 => .z)))))
end Go.Proofs.YtmkamncbkkahjaaGreat
set_option linter.unusedSimpArgs false
set_option linter.unusedVariables false
namespace Go.Proofs.YtmkamncbkkahjaaGreat
open Go Go.RowKit
set_option maxRecDepth 100000
set_option maxHeartbeats 20000000
instance i_spec_l1Find : ∀ (p0 : (List ByteArray)) (p1 : ByteArray), Ct (m_spec_l1Find p0 p1) fun res => CallsD Tryz.prog 0o00372 [(.slice 1 (List.map rS p0)), (eS p1)] (fun d => d = (eI res)) :=
 au Tryz.func250 m_spec_l1Find.eq_1 (.o (.o (.i .z (.ls 0 (.f [] [] [0, 1, 5] [] (fun (k46 : Nat) (s42 : Unit) => [(5, eI (k46 : Int))]) (fun k46 s42 => []) (fun k46 s42 => .z) (fun s50 => .z))))))
end Go.Proofs.YtmkamncbkkahjaaGreat
set_option linter.unusedSimpArgs false
set_option linter.unusedVariables false
namespace Go.Proofs.YtmkamncbkkahjaaGreat
open Go Go.RowKit
set_option maxRecDepth 100000
set_option maxHeartbeats 20000000
instance i_spec_l1ParseType : ∀ (p0 : (List ByteArray)) (p1 : ByteArray), Ct (m_spec_l1ParseType p0 p1) fun res => CallsD Tryz.prog 0o00273 [(.slice 1 (List.map rS p0)), (eS p1)] (fun d => d = (.agg (rGType res))) :=
 au Tryz.func187 m_spec_l1ParseType.eq_1 (.o (.o (.i .z (.o (.b fun (r4 : (Int)) => .j 4 0 [4, 5] [0, 64] (fun (s18 : Int) => []) (fun s18 => [(64, some ⟨2, [[(eI r4), (eI s18)]], 0, 0x0019⟩)]) .z (fun _ => .z))))))
end Go.Proofs.YtmkamncbkkahjaaGreat
set_option linter.unusedSimpArgs false
set_option linter.unusedVariables false
namespace Go.Proofs.YtmkamncbkkahjaaGreat
open Go Go.RowKit
set_option maxRecDepth 100000
set_option maxHeartbeats 20000000
instance i_spec_l1ParseCtor : ∀ (n : Nat) (p0 : (List ByteArray)) (p1 : ByteArray), Ct (m_spec_l1ParseCtor n p0 p1) fun res => CallsD Tryz.prog 0o00172 [(.slice 1 (List.map rS p0)), (eS p1)] (fun d => d = (.agg (rGCtor res))) :=
 au Tryz.func122 m_spec_l1ParseCtor.eq_1 (.o (.o (.o (.j 2 0 [0, 1, 4, 5] [0, 16] (fun (s13 : ByteArray × Int) => [(1, eS s13.1)]) (fun s13 => [(16, some ⟨3, [[(eS ByteArray.empty), .nil, (eI s13.2)]], 0, 0x00c0⟩)]) .z (fun s13 => .o (.b fun (x29 : ByteArray) => .i .z (.o (.i .z (.g [0, 4, 5, 6] [0, 1] [] [] (.o (.o (.d [0, 1, 2, 3, 4, 5, 6, 7, 8, 9, 10] [] [] (.pC 1 1 2 0x0019 (.ls 60 (.f [4, 5] [0, 1, 18] [0, 4, 5, 7, 8] [0, 1, 18] (fun (k137 : Nat) (s133 : (List GType)) => [(8, eI (k137 : Int))]) (fun k137 s133 => [(1, some ⟨3, [[(eS x29), (.sl 2 2 (s133).length), (eI s13.2)]], 0, 0x00c0⟩), (18, some ⟨2, (List.map rGType s133), 0, 0x0019⟩)]) (fun k137 s133 => .o (.i (.g [0, 4, 5, 7, 8] [0, 1, 2] [] [(1, some ⟨3, [[(eS x29), (.sl 2 2 (s133).length), (eI s13.2)]], 0, 0x00c0⟩)] (.o (.o (.d [0, 1, 2, 3, 4, 5, 6, 7, 8, 9, 10, 11] [1] [81] .z)))) .z)) (fun s141 => .z))))))))))))))))
end Go.Proofs.YtmkamncbkkahjaaGreat
set_option linter.unusedSimpArgs false
set_option linter.unusedVariables false
namespace Go.Proofs.YtmkamncbkkahjaaGreat
open Go Go.RowKit
set_option maxRecDepth 100000
set_option maxHeartbeats 20000000
instance i_spec_l1Big : ∀ (p0 : Int), Ct (m_spec_l1Big p0) fun res => CallsD Tryz.prog 0o00373 [(.val (.int .u8 p0))] (fun d => d = (eB res)) :=
 au Tryz.func251 m_spec_l1Big.eq_1 .z
end Go.Proofs.YtmkamncbkkahjaaGreat
set_option linter.unusedSimpArgs false
set_option linter.unusedVariables false
namespace Go.Proofs.YtmkamncbkkahjaaGreat
open Go Go.RowKit
set_option maxRecDepth 100000
set_option maxHeartbeats 20000000
instance i_spec_l1Data : ∀ (p0 : ByteArray), Ct (m_spec_l1Data p0) fun res => CallsD Tryz.prog 0o00274 [(eS p0)] (fun d => d = (eB res)) :=
 au Tryz.func188 m_spec_l1Data.eq_1 .z
end Go.Proofs.YtmkamncbkkahjaaGreat
set_option linter.unusedSimpArgs false
set_option linter.unusedVariables false
namespace Go.Proofs.YtmkamncbkkahjaaGreat
open Go Go.RowKit
set_option maxRecDepth 100000
set_option maxHeartbeats 20000000
instance i_spec_l1Arg : ∀ (p0 : Int) (p1 : GType), Ct (m_spec_l1Arg p0 p1) fun res => CallsD Tryz.prog 0o00363 [(eI p0), (.agg (rGType p1))] (fun d => d = (eB res)) :=
 au Tryz.func243 m_spec_l1Arg.eq_1 .z
end Go.Proofs.YtmkamncbkkahjaaGreat
set_option linter.unusedSimpArgs false
set_option linter.unusedVariables false
namespace Go.Proofs.YtmkamncbkkahjaaGreat
open Go Go.RowKit
set_option maxRecDepth 100000
set_option maxHeartbeats 20000000
instance i_spec_NameValid : ∀ (n : Nat) (p0 : ByteArray), Ct (m_spec_NameValid n p0) fun res => CallsD Tryz.prog 0o00374 [(eS p0)] (fun d => d = (eB res)) :=
 au Tryz.func252 m_spec_NameValid.eq_1 (.o (.o (.i .z (.i .z (.o (.o (.i .z (.w [] [] [0, 3] [] (fun (s132 : Int) => [(3, eI s132)]) (fun s132 => []) (fun s132 => .z) (fun s140 => .z)))))))))
end Go.Proofs.YtmkamncbkkahjaaGreat
set_option linter.unusedSimpArgs false
set_option linter.unusedVariables false
namespace Go.Proofs.YtmkamncbkkahjaaGreat
open Go Go.RowKit
set_option maxRecDepth 100000
set_option maxHeartbeats 20000000
instance i_spec_l1Ctor : ∀ (n : Nat) (p0 : Int) (p1 : GCtor), Ct (m_spec_l1Ctor n p0 p1) fun res => CallsD Tryz.prog 0o00275 [(eI p0), (.agg (rGCtor p1))] (fun d => d = (eB res)) :=
 au Tryz.func189 m_spec_l1Ctor.eq_1 (.o (.o (.o (.o (.i .z (.i .z (.i .z (.i .z (.ls 12 (.f [] [] [0, 3, 5] [0] (fun (k82 : Nat) (s78 : Unit) => [(5, eI (k82 : Int))]) (fun k82 s78 => []) (fun k82 s78 => .z) (fun s86 => .z)))))))))))
end Go.Proofs.YtmkamncbkkahjaaGreat
set_option linter.unusedSimpArgs false
set_option linter.unusedVariables false
namespace Go.Proofs.YtmkamncbkkahjaaGreat
open Go Go.RowKit
set_option maxRecDepth 100000
set_option maxHeartbeats 20000000
theorem c_spec_l1Twice (n : Nat) (p0 : (List GData)) (p1 : Int) (p2 : Int) (res : Bool) (h : m_spec_l1Twice n p0 p1 p2 = some res) : CallsD Tryz.prog 0o00276 [(.slice 2 (List.map rGData p0)), (eI p1), (eI p2)] (fun d => d = (eB res)) := by
 unfold m_spec_l1Twice at h
 refine CD Tryz.func190 [.tmp 6] fun β hβ => ?_
 refine sZ ?_
 apply sq
 refine sZ ?_
 obtain ⟨ah, ac, h⟩ := bindE h
 obtain ⟨V, G⟩ : ∃ S : Int → St, S = fun P => ⟨(fun _ => .any), hOfO [], 0, 79⟩ := ⟨_, rfl⟩
 refine TrD.joinQ V (fun z => ah = Ctl.brk z) (fun _ _ hg h => TrD.ghost hg h) ?_ (fun P hz => ?_)
 ·apply TrD.block
  obtain ⟨X, B⟩ : ∃ S : Int → St, S = fun a => ⟨(updD (updD (updD (updD (fun _ => .any) 0 (.slice 2 (List.map rGData p0))) 1 (eI p1)) 2 (eI p2)) 7 (eI a)), hOfO [], 0, 79⟩ := ⟨_, rfl⟩
  refine TrD.whileL X ac ?_ (fun a aw c H ae => ?_)
  ·rw [B]
   exact gC []
  rw [congrFun B a]
  apply sq
  refine sZ ?_
  refine TrD.cond (b := ile a p1) (by simp) (fun q => ?_) (fun q => ?_)
  ·rw [if_pos q] at c
   apply TrD.skip
   apply sq
   apply TrD.block
   obtain ⟨ai, g, c⟩ := bindE c
   obtain ⟨Y, C⟩ : ∃ S : Unit → St, S = fun Q => ⟨(updD (updD (updD (updD (fun _ => .any) 0 (.slice 2 (List.map rGData p0))) 1 (eI p1)) 2 (eI p2)) 7 (eI a)), hOfO [], 0, 79⟩ := ⟨_, rfl⟩
   refine TrD.join Y (fun z => ai = Ctl.brk z) ?_ (fun Q hz => ?_)
   ·apply sq
    refine TrD.ghost (σ' := ⟨(updD (updD (updD (updD (fun _ => .any) 0 (.slice 2 (List.map rGData p0))) 1 (eI p1)) 2 (eI p2)) 7 (eI a)), hOfO [], 0, 79⟩) ?_ ?_
    ·exact gC []
    rcases bb (ilt a p1) with s | s
    ·rw [if_pos s] at g
     obtain ⟨an, I, g⟩ := bindE g
     obtain ⟨ao, J, g⟩ := bindE g
     refine TrD.draw tysOk mixed [0, 1, 2, 3, 4, 5, 6, 7, 8, 9, 10, 11, 12, 13, 14, 15] [] [] (by rfl) rfl (fun K hK => ?_)
     simp [s, idx_inb I, idx_row I, idx_inb J, idx_row J]
     apply hK
     refine TrD.cond (b := seq2 an.name ao.name) (by simp) (fun o => ?_) (fun o => ?_)
     ·rw [if_pos o] at g
      refine sZ ?_ fun K hK => by simp [o]; exact hK
      cases g
      cases c
      obtain rfl := H _ rfl
      cases h
      apply TrD.ret
      exact xD
     rw [iN o] at g
     apply TrD.skip
     cases g
     refine ToAny.mk () rfl ?_
     rw [C]
     exact gC []
    rw [iN s] at g
    refine TrD.draw tysOk mixed [0, 1, 2, 3, 4, 5, 6, 7, 8, 9, 10, 11, 12, 13, 14, 15] [] [] (by rfl) rfl (fun K hK => ?_)
    simp [s]
    apply hK
    refine cF ?_
    apply TrD.skip
    cases g
    refine ToAny.mk () rfl ?_
    rw [C]
    exact gC []
   subst hz
   try dsimp only at c
   rw [congrFun C Q]
   refine sZ ?_
   obtain ⟨F, m, c⟩ := bindE c
   obtain ⟨aj, ad, c⟩ := bindE c
   obtain ⟨W, A⟩ : ∃ S : Unit → St, S = fun R => ⟨(updD (updD (updD (updD (fun _ => .any) 0 (.slice 2 (List.map rGData p0))) 1 (eI p1)) 2 (eI p2)) 7 (eI a)), hOfO [], 0, 79⟩ := ⟨_, rfl⟩
   refine TrD.joinQ W (fun z => aj = Ctl.brk z) (fun _ _ hg h => TrD.ghost hg h) ?_ (fun R hz => ?_)
   ·apply TrD.block
    obtain ⟨Z, w⟩ : ∃ S : Nat → Unit → St, S = fun e v => ⟨(updD (updD (updD (updD (updD (fun _ => .any) 0 (.slice 2 (List.map rGData p0))) 1 (eI p1)) 2 (eI p2)) 7 (eI a)) 8 (eI (e : Int))), hOfO [], 0, 79⟩ := ⟨_, rfl⟩
    refine TrD.limS (sz := 3) (rows := List.map rGCtor F.ctors) (seen_elem (d := .slice 3 (List.map rGCtor F.ctors)) (seen_slot (d := .slice 2 (List.map rGData p0)) 0 (by simp)) m 1 (rGData_eq _) rfl) (fun hlim => ?_)
    rw [List.length_map] at hlim
    refine TrD.forL Z ad hlim ?_ (fun e ap v N au av O r ax j ag af => ?_) (fun v am => ?_)
    ·rw [w]
     exact gC []
    ·rw [congrFun (congrFun w e) v]
     obtain ⟨ak, p, j⟩ := bindE j
     obtain ⟨aa, D⟩ : ∃ S : Unit → St, S = fun T => ⟨(updD (updD (updD (updD (updD (fun _ => .any) 0 (.slice 2 (List.map rGData p0))) 1 (eI p1)) 2 (eI p2)) 7 (eI a)) 8 (eI (e : Int))), hOfO [], 0, 79⟩ := ⟨_, rfl⟩
     refine TrD.join aa (fun z => ak = Ctl.brk z) ?_ (fun T hz => ?_)
     ·apply sq
      rcases bb (ilt a p1) with t | t
      ·rw [if_pos t] at p
       refine rZ ?_ fun K hK => by simp [idx_inb m, idx_row m, O, t]; exact hK
       refine cT ?_
       apply TrD.skip
       cases p
       refine ToAny.mk () rfl ?_
       rw [D]
       exact gC []
      rw [iN t] at p
      refine rZ ?_ fun K hK => by simp [idx_inb m, idx_row m, O, t]; exact hK
      refine TrD.cond (b := ilt (e : Int) p2) (by simp) (fun f => ?_) (fun f => ?_)
      ·rw [if_pos f] at p
       apply TrD.skip
       cases p
       refine ToAny.mk () rfl ?_
       rw [D]
       exact gC []
      rw [iN f] at p
      refine TrD.exit ?_
      try simp only [↓reduceIte, Nat.reduceEqDiff, Nat.zero_ne_one, Nat.one_ne_zero, OfNat.ofNat_ne_zero, OfNat.zero_ne_ofNat, OfNat.one_ne_ofNat, OfNat.ofNat_ne_one]
      cases p
      cases j
      obtain rfl := af _ rfl
      refine ToAny.mk () rfl ?_
      rw [A]
      exact gC []
     subst hz
     try dsimp only at j
     rw [congrFun D T]
     obtain ⟨al, i, j⟩ := bindE j
     obtain ⟨ab, E⟩ : ∃ S : Unit → St, S = fun U => ⟨(updD (updD (updD (updD (updD (fun _ => .any) 0 (.slice 2 (List.map rGData p0))) 1 (eI p1)) 2 (eI p2)) 7 (eI a)) 8 (eI (e : Int))), hOfO [], 0, 79⟩ := ⟨_, rfl⟩
     refine TrD.join ab (fun z => al = Ctl.brk z) ?_ (fun U hz => ?_)
     ·apply TrD.block
      apply sq
      refine TrD.ghost (σ' := ⟨(updD (updD (updD (updD (updD (fun _ => .any) 0 (.slice 2 (List.map rGData p0))) 1 (eI p1)) 2 (eI p2)) 7 (eI a)) 8 (eI (e : Int))), hOfO [], 0, 79⟩) ?_ ?_
      ·exact gC []
      obtain ⟨aq, y, i⟩ := bindE i
      rcases bb (ilt p2 (lenZ aq.ctors.length)) with u | u
      ·rw [if_pos u] at i
       obtain ⟨ar, L, i⟩ := bindE i
       refine TrD.draw tysOk mixed [0, 1, 2, 3, 4, 5, 6, 7, 8, 9, 10, 11, 12, 13, 14, 15, 16, 17, 18, 19, 20, 21, 22, 23, 24, 25, 26, 27, 28] [] [] (by rfl) rfl (fun K hK => ?_)
       simp [idx_inb m, idx_row m, idx_inb N, idx_row N, idx_inb y, idx_row y, u, idx_inb L, idx_row L]
       apply hK
       refine TrD.cond (b := seq2 ap.name ar.name) (by simp) (fun l => ?_) (fun l => ?_)
       ·rw [if_pos l] at i
        refine sZ ?_ fun K hK => by simp [l]; exact hK
        cases i
        cases j
        obtain rfl := ag _ rfl
        cases c
        obtain rfl := H _ rfl
        cases h
        apply TrD.ret
        exact xD
       rw [iN l] at i
       apply TrD.skip
       cases i
       refine ToAny.mk () rfl ?_
       rw [E]
       exact gC []
      rw [iN u] at i
      refine TrD.draw tysOk mixed [0, 1, 2, 3, 4, 5, 6, 7, 8, 9, 10, 11, 12, 13, 14, 15, 16, 17, 18, 19, 20, 21, 22, 23, 24, 25, 26, 27, 28] [] [] (by rfl) rfl (fun K hK => ?_)
      simp [idx_inb y, idx_row y, u]
      apply hK
      refine cF ?_
      apply TrD.skip
      cases i
      refine ToAny.mk () rfl ?_
      rw [E]
      exact gC []
     subst hz
     try dsimp only at j
     rw [congrFun E U]
     refine rZ ?_
     cases j
     refine ToAny.mk () rfl ?_
     rw [w]
     exact gc [] hβ (((((va.f (by simp [r])).f (by simp [r])).f (by simp [r])).f (by simp [r])).f (by simp [r])) ln
    rw [congrFun (congrFun w _) v]
    apply sq
    refine sZ ?_ fun K hK => by simp [idx_inb m, idx_row m, ilt_len F.ctors.length]; exact hK
    refine cF ?_
    refine TrD.exit ?_
    try simp only [↓reduceIte, Nat.reduceEqDiff, Nat.zero_ne_one, Nat.one_ne_zero, OfNat.ofNat_ne_zero, OfNat.zero_ne_ofNat, OfNat.one_ne_ofNat, OfNat.ofNat_ne_one]
    refine ToAny.mk v am ?_
    rw [A]
    exact gC []
   subst hz
   try dsimp only at c
   rw [congrFun A R]
   refine rZ ?_
   cases c
   refine ToAny.mk (wadd .i64 a 1) rfl ?_
   rw [B]
   exact gC []
  rw [iN q] at c
  refine TrD.exit ?_
  try simp only [↓reduceIte, Nat.reduceEqDiff, Nat.zero_ne_one, Nat.one_ne_zero, OfNat.ofNat_ne_zero, OfNat.zero_ne_ofNat, OfNat.one_ne_ofNat, OfNat.ofNat_ne_one]
  cases c
  obtain rfl := ae _ rfl
  refine ToAny.mk a rfl ?_
  rw [G]
  exact gC []
 subst hz
 try dsimp only at h
 rw [congrFun G P]
 refine sZ ?_
 cases h
 apply TrD.ret
 exact xD
instance i_spec_l1Twice : ∀ (n : Nat) (p0 : (List GData)) (p1 : Int) (p2 : Int), Ct (m_spec_l1Twice n p0 p1 p2) fun res => CallsD Tryz.prog 0o00276 [(.slice 2 (List.map rGData p0)), (eI p1), (eI p2)] (fun d => d = (eB res)) := fun n p0 p1 p2 => ⟨c_spec_l1Twice n p0 p1 p2⟩
end Go.Proofs.YtmkamncbkkahjaaGreat
set_option linter.unusedSimpArgs false
set_option linter.unusedVariables false
namespace Go.Proofs.YtmkamncbkkahjaaGreat
open Go Go.RowKit
set_option maxRecDepth 100000
set_option maxHeartbeats 20000000
instance i_spec_WorldValid : ∀ (n : Nat) (p0 : (List GData)), Ct (m_spec_WorldValid n p0) fun res => CallsD Tryz.prog 0o00173 [(.slice 2 (List.map rGData p0))] (fun d => d = (eB res)) :=
 au Tryz.func123 m_spec_WorldValid.eq_1 (.o (.o (.i .z (.ls 0 (.f [] [] [0, 3] [] (fun (k1226 : Nat) (s1222 : Unit) => [(3, eI (k1226 : Int))]) (fun k1226 s1222 => []) (fun k1226 s1222 => .o (.o (.i .z (.i .z (.i .z (.ls 26 (.f [0, 3] [] [0, 3, 4] [] (fun (k1434 : Nat) (s1430 : Unit) => [(4, eI (k1434 : Int))]) (fun k1434 s1430 => []) (fun k1434 s1430 => .z) (fun s1438 => .z)))))))) (fun s1230 => .z))))))
end Go.Proofs.YtmkamncbkkahjaaGreat
set_option linter.unusedSimpArgs false
set_option linter.unusedVariables false
namespace Go.Proofs.YtmkamncbkkahjaaGreat
open Go Go.RowKit
set_option maxRecDepth 100000
set_option maxHeartbeats 20000000
instance i_spec_l17Dec : ∀ (n : Nat) (p0 : Int), Ct (m_spec_l17Dec n p0) fun res => CallsD Tryz.prog 0o00376 [(eI p0)] (fun d => d = (eS res)) :=
 ar (au Tryz.func254 m_spec_l17Dec.eq_2 (.o (.o (.o (.i .z (.i .z (.w [0, 3] [] [0, 3] [] (fun (s18 : Int × ByteArray) => [(0, eI s18.1), (3, eS s18.2)]) (fun s18 => []) (fun s18 => .z) (fun s26 => .z))))))))
end Go.Proofs.YtmkamncbkkahjaaGreat
set_option linter.unusedSimpArgs false
set_option linter.unusedVariables false
namespace Go.Proofs.YtmkamncbkkahjaaGreat
open Go Go.RowKit
set_option maxRecDepth 100000
set_option maxHeartbeats 20000000
instance i_spec_l1Index : ∀ (n : Nat) (p0 : Int), Ct (m_spec_l1Index n p0) fun res => CallsD Tryz.prog 0o00451 [(eI p0)] (fun d => d = (eS res)) :=
 au Tryz.func297 m_spec_l1Index.eq_1 .z
end Go.Proofs.YtmkamncbkkahjaaGreat
set_option linter.unusedSimpArgs false
set_option linter.unusedVariables false
namespace Go.Proofs.YtmkamncbkkahjaaGreat
open Go Go.RowKit
set_option maxRecDepth 100000
set_option maxHeartbeats 20000000
instance i_spec_l1Type : ∀ (n : Nat) (p0 : (List GData)) (p1 : GType), Ct (m_spec_l1Type n p0 p1) fun res => CallsD Tryz.prog 0o00375 [(.slice 2 (List.map rGData p0)), (.agg (rGType p1))] (fun d => d = (eS res)) :=
 au Tryz.func253 m_spec_l1Type.eq_1 (.o (.o (.o (.i .z (.g [0, 3] [0] [] [] (.o (.o (.o (.d [0, 1, 2, 3, 4, 5, 6, 7, 8, 9, 10] [0] [] .z)))))))))
end Go.Proofs.YtmkamncbkkahjaaGreat
set_option linter.unusedSimpArgs false
set_option linter.unusedVariables false
namespace Go.Proofs.YtmkamncbkkahjaaGreat
open Go Go.RowKit
set_option maxRecDepth 100000
set_option maxHeartbeats 20000000
instance i_spec_l1CtorText : ∀ (n : Nat) (p0 : (List GData)) (p1 : GCtor), Ct (m_spec_l1CtorText n p0 p1) fun res => CallsD Tryz.prog 0o00277 [(.slice 2 (List.map rGData p0)), (.agg (rGCtor p1))] (fun d => d = (eS res)) :=
 au Tryz.func191 m_spec_l1CtorText.eq_1 (.o (.o (.b fun (p1 : GCtor) => .lc 0 1 2 rGType p1.args (.f [3, 5] [0] [0, 3, 5, 6] [0] (fun (k146 : Nat) (s142 : ByteArray) => [(5, eS s142), (6, eI (k146 : Int))]) (fun k146 s142 => []) (fun k146 s142 => .o (.j 5 1 [0, 3, 5, 6] [0] (fun (s165 : ByteArray) => [(5, eS s165)]) (fun _ => []) .z (fun _ => .z))) (fun s150 => .j 9 0 [3, 5] [0] (fun (s175 : ByteArray) => [(5, eS s175)]) (fun _ => []) .z (fun s175 => .j 11 0 [5] [] (fun (s184 : ByteArray) => [(5, eS s184)]) (fun _ => []) .z (fun _ => .z)))))))
theorem c_spec_l1CtorText (n : Nat) (p0 : (List GData)) (p1 : GCtor) : ∀ res, m_spec_l1CtorText n p0 p1 = some res → CallsD Tryz.prog 0o00277 [(.slice 2 (List.map rGData p0)), (.agg (rGCtor p1))] (fun d => d = (eS res)) := (i_spec_l1CtorText n p0 p1).pf
end Go.Proofs.YtmkamncbkkahjaaGreat
set_option linter.unusedSimpArgs false
set_option linter.unusedVariables false
namespace Go.Proofs.YtmkamncbkkahjaaGreat
open Go Go.RowKit
set_option maxRecDepth 100000
set_option maxHeartbeats 20000000
theorem c_spec_l1Text (n : Nat) (p0 : (List GData)) (res : ByteArray) (h : m_spec_l1Text n p0 = some res) : CallsD Tryz.prog 0o00174 [(.slice 2 (List.map rGData p0))] (fun d => d = (eS res)) := by
 unfold m_spec_l1Text at h
 refine CD Tryz.func124 [.tmp 2] fun β hβ => ?_
 refine sZ ?_
 refine sZ ?_
 apply sq
 refine sZ ?_
 obtain ⟨ad, X, h⟩ := bindE h
 obtain ⟨Q, D⟩ : ∃ S : ByteArray → St, S = fun r => ⟨(updD (fun _ => .any) 3 (eS r)), hOfO [], 0, 51⟩ := ⟨_, rfl⟩
 refine TrD.joinQ Q (fun z => ad = Ctl.brk z) (fun _ _ hg h => TrD.ghost hg h) ?_ (fun r hz => ?_)
 ·apply TrD.block
  obtain ⟨T, t⟩ : ∃ S : Nat → ByteArray → St, S = fun a f => ⟨(updD (updD (updD (fun _ => .any) 0 (.slice 2 (List.map rGData p0))) 3 (eS f)) 4 (eI (a : Int))), hOfO [], 0, 51⟩ := ⟨_, rfl⟩
  refine TrD.limS (sz := 2) (rows := List.map rGData p0) (seen_slot (d := .slice 2 (List.map rGData p0)) 0 (by simp)) (fun hlim => ?_)
  rw [List.length_map] at hlim
  refine TrD.forL T X hlim ?_ (fun a C f e ap aq ab v av c an al => ?_) (fun f ah => ?_)
  ·rw [t]
   exact gC []
  ·rw [congrFun (congrFun t a) f]
   apply sq
   refine sZ ?_ fun K hK => by simp [ab]; exact hK
   refine cT ?_
   apply TrD.skip
   apply sq
   apply TrD.block
   obtain ⟨ae, o, c⟩ := bindE c
   obtain ⟨U, w⟩ : ∃ S : ByteArray → St, S = fun A => ⟨(updD (updD (updD (fun _ => .any) 0 (.slice 2 (List.map rGData p0))) 3 (eS A)) 4 (eI (a : Int))), hOfO [], 0, 51⟩ := ⟨_, rfl⟩
   refine TrD.join U (fun z => ae = Ctl.brk z) ?_ (fun A hz => ?_)
   ·refine sZ ?_
    refine TrD.cond (b := ilt 0 (a : Int)) (by simp) (fun m => ?_) (fun m => ?_)
    ·rw [if_pos m] at o
     obtain ⟨N, F, o⟩ := bindE o
     refine rZ ?_ fun K hK => by simp [m, ← (scat_some F).1, (scat_some F).2]; exact hK
     cases o
     refine ToAny.mk N rfl ?_
     rw [w]
     exact gC []
    rw [iN m] at o
    apply TrD.skip
    cases o
    refine ToAny.mk f rfl ?_
    rw [w]
    exact gC []
   subst hz
   try dsimp only at c
   rw [congrFun w A]
   apply sq
   obtain ⟨az, G, c⟩ := bindE c
   obtain ⟨aj, H, c⟩ := bindE c
   refine rZ ?_ fun K hK => by simp [idx_inb e, idx_row e, ← (scat_some G).1, (scat_some G).2, ← (scat_some H).1, (scat_some H).2]; exact hK
   refine sZ ?_
   obtain ⟨af, Y, c⟩ := bindE c
   obtain ⟨R, E⟩ : ∃ S : ByteArray → St, S = fun s => ⟨(updD (updD (updD (fun _ => .any) 0 (.slice 2 (List.map rGData p0))) 3 (eS s)) 4 (eI (a : Int))), hOfO [], 0, 51⟩ := ⟨_, rfl⟩
   refine TrD.joinQ R (fun z => af = Ctl.brk z) (fun _ _ hg h => TrD.ghost hg h) ?_ (fun s hz => ?_)
   ·apply TrD.block
    obtain ⟨V, u⟩ : ∃ S : Nat → ByteArray → St, S = fun l g => ⟨(updD (updD (updD (updD (fun _ => .any) 0 (.slice 2 (List.map rGData p0))) 3 (eS g)) 4 (eI (a : Int))) 5 (eI (l : Int))), hOfO [], 0, 51⟩ := ⟨_, rfl⟩
    refine TrD.limS (sz := 3) (rows := List.map rGCtor C.ctors) (seen_elem (d := .slice 3 (List.map rGCtor C.ctors)) (seen_slot (d := .slice 2 (List.map rGData p0)) 0 (by simp)) e 1 (rGData_eq _) rfl) (fun hlim => ?_)
    rw [List.length_map] at hlim
    refine TrD.forL V Y hlim ?_ (fun l ak g L ar au ac q aw i ao am => ?_) (fun g ai => ?_)
    ·rw [u]
     exact gC []
    ·rw [congrFun (congrFun u l) g]
     apply sq
     refine sZ ?_ fun K hK => by simp [idx_inb e, idx_row e, ac]; exact hK
     refine cT ?_
     apply TrD.skip
     apply sq
     apply TrD.block
     obtain ⟨ag, p, i⟩ := bindE i
     obtain ⟨W, y⟩ : ∃ S : ByteArray → St, S = fun B => ⟨(updD (updD (updD (updD (fun _ => .any) 0 (.slice 2 (List.map rGData p0))) 3 (eS B)) 4 (eI (a : Int))) 5 (eI (l : Int))), hOfO [], 0, 51⟩ := ⟨_, rfl⟩
     refine TrD.join W (fun z => ag = Ctl.brk z) ?_ (fun B hz => ?_)
     ·refine sZ ?_
      refine TrD.cond (b := ilt 0 (l : Int)) (by simp) (fun j => ?_) (fun j => ?_)
      ·rw [if_pos j] at p
       obtain ⟨O, I, p⟩ := bindE p
       refine rZ ?_ fun K hK => by simp [j, ← (scat_some I).1, (scat_some I).2]; exact hK
       cases p
       refine ToAny.mk O rfl ?_
       rw [y]
       exact gC []
      rw [iN j] at p
      apply TrD.skip
      cases p
      refine ToAny.mk g rfl ?_
      rw [y]
      exact gC []
     subst hz
     try dsimp only at i
     rw [congrFun y B]
     obtain ⟨ay, aa, i⟩ := bindE i
     obtain ⟨P, J, i⟩ := bindE i
     refine rk fun K hK => ?_
     simp [idx_inb e, idx_row e, idx_inb L, idx_row L]
     refine cp (c_spec_l1CtorText n p0 ak _ aa) ?_
     simp [← (scat_some J).1, (scat_some J).2]
     apply hK
     refine rZ ?_
     cases i
     refine ToAny.mk P rfl ?_
     rw [u]
     exact gc [] hβ ((((va.f (by simp [q])).f (by simp [q])).f (by simp [q])).f (by simp [q])) ln
    rw [congrFun (congrFun u _) g]
    apply sq
    refine sZ ?_ fun K hK => by simp [idx_inb e, idx_row e, ilt_len C.ctors.length]; exact hK
    refine cF ?_
    refine TrD.exit ?_
    try simp only [↓reduceIte, Nat.reduceEqDiff, Nat.zero_ne_one, Nat.one_ne_zero, OfNat.ofNat_ne_zero, OfNat.zero_ne_ofNat, OfNat.one_ne_ofNat, OfNat.ofNat_ne_one]
    refine ToAny.mk g ai ?_
    rw [E]
    exact gC []
   subst hz
   try dsimp only at c
   rw [congrFun E s]
   refine rZ ?_
   cases c
   refine ToAny.mk s rfl ?_
   rw [t]
   exact gc [] hβ (((va.f (by simp [v])).f (by simp [v])).f (by simp [v])) ln
  rw [congrFun (congrFun t _) f]
  apply sq
  refine sZ ?_ fun K hK => by simp [ilt_len p0.length]; exact hK
  refine cF ?_
  refine TrD.exit ?_
  try simp only [↓reduceIte, Nat.reduceEqDiff, Nat.zero_ne_one, Nat.one_ne_zero, OfNat.ofNat_ne_zero, OfNat.zero_ne_ofNat, OfNat.one_ne_ofNat, OfNat.ofNat_ne_one]
  refine ToAny.mk f ah ?_
  rw [D]
  exact gC []
 subst hz
 try dsimp only at h
 rw [congrFun D r]
 refine sZ ?_
 cases h
 apply TrD.ret
 exact xD
instance i_spec_l1Text : ∀ (n : Nat) (p0 : (List GData)), Ct (m_spec_l1Text n p0) fun res => CallsD Tryz.prog 0o00174 [(.slice 2 (List.map rGData p0))] (fun d => d = (eS res)) := fun n p0 => ⟨c_spec_l1Text n p0⟩
end Go.Proofs.YtmkamncbkkahjaaGreat
set_option linter.unusedSimpArgs false
set_option linter.unusedVariables false
namespace Go.Proofs.YtmkamncbkkahjaaGreat
open Go Go.RowKit
set_option maxRecDepth 100000
set_option maxHeartbeats 20000000
instance i_spec_ParseWorld : ∀ (n : Nat) (p0 : ByteArray), Ct (m_spec_ParseWorld n p0) fun res => CallsD Tryz.prog 0o00074 [(eS p0)] (fun d => d = .tup [(.slice 2 (List.map rGData res.1)), (eB res.2)]) :=
 au Tryz.func60 m_spec_ParseWorld.eq_1 (.o (.o (.o (.ls 16 (.f [0, 4, 5, 6] [16, 32] [0, 4, 5, 6, 7] [16, 32] (fun (k153 : Nat) (s149 : (List ByteArray)) => [(5, .sl 1 32 (s149).length), (7, eI (k153 : Int))]) (fun k153 s149 => [(32, some ⟨1, (List.map rS s149), 0, 0x0009⟩)]) (fun k153 s149 => .z) (fun s157 => .pF 1 (.ll 1 (.f [0, 4] [0] [0, 4, 5, 6, 9] [0, 1] (fun (k1263 : Nat) (s1259 : (List GData)) => [(4, .sl 2 0 (s1259).length), (9, eI (k1263 : Int))]) (fun k1263 s1259 => [(0, some ⟨2, (List.map rGData s1259), 0, 0x00be⟩)]) (fun k1263 s1259 => .b fun (x1264 : ByteArray) => .o (.o (.o (.o (.pC 146 1 3 0x00c0 (.ls 59 (.f [0, 4, 5, 6, 9, 11] [0, 1, 146, 170] [0, 4, 5, 6, 9, 10, 11, 12] [0, 1, 146, 170] (fun (k1466 : Nat) (s1462 : (List GCtor)) => [(12, eI (k1466 : Int))]) (fun k1466 s1462 => [(146, some ⟨2, [[(eS x1264), (.sl 3 3 (s1462).length)]], 0, 0x00be⟩), (170, some ⟨3, (List.map rGCtor s1462), 0, 0x00c0⟩)]) (fun k1466 s1462 => .o (.i (.g [0, 4, 5, 6, 9, 10, 11, 12] [0, 1, 2, 3] [] [(2, some ⟨2, [[(eS x1264), (.sl 3 3 (s1462).length)]], 0, 0x00be⟩)] (.o (.o (.d [0, 1, 2, 3, 4, 5, 6, 7, 8, 9, 10, 11] [2] [85] .z)))) .z)) (fun s1470 => .o (.pF 3 .z))))))))) (fun s1267 => .z)))))))))
theorem c_spec_ParseWorld (n : Nat) (p0 : ByteArray) : ∀ res, m_spec_ParseWorld n p0 = some res → CallsD Tryz.prog 0o00074 [(eS p0)] (fun d => d = .tup [(.slice 2 (List.map rGData res.1)), (eB res.2)]) := (i_spec_ParseWorld n p0).pf
end Go.Proofs.YtmkamncbkkahjaaGreat
set_option linter.unusedSimpArgs false
set_option linter.unusedVariables false
namespace Go.Proofs.YtmkamncbkkahjaaGreat
open Go Go.RowKit
set_option maxRecDepth 100000
set_option maxHeartbeats 20000000
instance i_spec_l1Is : ∀ (p0 : (List GData)) (p1 : GType), Ct (m_spec_l1Is p0 p1) fun res => CallsD Tryz.prog 0o00266 [(.slice 2 (List.map rGData p0)), (.agg (rGType p1))] (fun d => d = (eB res)) :=
 au Tryz.func182 m_spec_l1Is.eq_1 .z
end Go.Proofs.YtmkamncbkkahjaaGreat
set_option linter.unusedSimpArgs false
set_option linter.unusedVariables false
namespace Go.Proofs.YtmkamncbkkahjaaGreat
open Go Go.RowKit
set_option maxRecDepth 100000
set_option maxHeartbeats 20000000
instance i_spec_TypeValid : ∀ (n : Nat) (p0 : (List GData)) (p1 : GType), Ct (m_spec_TypeValid n p0 p1) fun res => CallsD Tryz.prog 0o00153 [(.slice 2 (List.map rGData p0)), (.agg (rGType p1))] (fun d => d = (eB res)) :=
 au Tryz.func107 m_spec_TypeValid.eq_1 .z
end Go.Proofs.YtmkamncbkkahjaaGreat
set_option linter.unusedSimpArgs false
set_option linter.unusedVariables false
namespace Go.Proofs.YtmkamncbkkahjaaGreat
open Go Go.RowKit
set_option maxRecDepth 100000
set_option maxHeartbeats 20000000
instance i_spec_l1Result : ∀ (p0 : GCtor) (p1 : Int), Ct (m_spec_l1Result p0 p1) fun res => CallsD Tryz.prog 0o00320 [(.agg (rGCtor p0)), (eI p1)] (fun d => d = (eI res)) :=
 au Tryz.func208 m_spec_l1Result.eq_1 .z
end Go.Proofs.YtmkamncbkkahjaaGreat
set_option linter.unusedSimpArgs false
set_option linter.unusedVariables false
namespace Go.Proofs.YtmkamncbkkahjaaGreat
open Go Go.RowKit
set_option maxRecDepth 100000
set_option maxHeartbeats 20000000
instance i_spec_l1Args : ∀ (p0 : (List GData)) (p1 : GType) (p2 : Int), Ct (m_spec_l1Args p0 p1 p2) fun res => CallsD Tryz.prog 0o00213 [(.slice 2 (List.map rGData p0)), (.agg (rGType p1)), (eI p2)] (fun d => d = (.slice 2 (List.map rGType res))) :=
 au Tryz.func139 m_spec_l1Args.eq_1 (.o (.o (.o (.o (.b fun (x2 : GCtor) => .lc 104 1 2 rGType x2.args (.f [7] [16] [4, 7, 8, 9] [0, 16, 104] (fun (k118 : Nat) (s114 : (List GType)) => [(7, .sl 2 16 (s114).length), (9, eI (k118 : Int))]) (fun k118 s114 => [(16, some ⟨2, (List.map rGType s114), 0, 0x0019⟩)]) (fun k118 s114 => .b fun (x119 : GType) => .j 7 0 [4, 7, 8, 9, 10] [0, 1, 2, 83] (fun (s133 : Int) => []) (fun s133 => [(83, some ⟨2, [[(eI x119.data), (eI s133)]], 0, 0x0019⟩)]) .z (fun _ => .z)) (fun s122 => .z)))))))
theorem c_spec_l1Args (p0 : (List GData)) (p1 : GType) (p2 : Int) : ∀ res, m_spec_l1Args p0 p1 p2 = some res → CallsD Tryz.prog 0o00213 [(.slice 2 (List.map rGData p0)), (.agg (rGType p1)), (eI p2)] (fun d => d = (.slice 2 (List.map rGType res))) := (i_spec_l1Args p0 p1 p2).pf
end Go.Proofs.YtmkamncbkkahjaaGreat
set_option linter.unusedSimpArgs false
set_option linter.unusedVariables false
namespace Go.Proofs.YtmkamncbkkahjaaGreat
open Go Go.RowKit
set_option maxRecDepth 100000
set_option maxHeartbeats 20000000
instance i_spec_l3Kids : ∀ (p0 : Int), Ct (m_spec_l3Kids p0) fun res => CallsD Tryz.prog 0o00406 [(eI p0)] (fun d => d = (eI res)) :=
 au Tryz.func262 m_spec_l3Kids.eq_1 .z
end Go.Proofs.YtmkamncbkkahjaaGreat
set_option linter.unusedSimpArgs false
set_option linter.unusedVariables false
namespace Go.Proofs.YtmkamncbkkahjaaGreat
open Go Go.RowKit
set_option maxRecDepth 100000
set_option maxHeartbeats 20000000
instance i_spec_l3Types : ∀ (n : Nat) (p0 : (List GData)) (p1 : GType) (p2 : GPattern), Ct (m_spec_l3Types n p0 p1 p2) fun res => CallsD Tryz.prog 0o00314 [(.slice 2 (List.map rGData p0)), (.agg (rGType p1)), (.agg (rGPattern p2))] (fun d => d = (.slice 2 (List.map rGType res))) :=
 au Tryz.func204 m_spec_l3Types.eq_1 (.o (.o (.o (.o (.i .z (.w [7] [48] [4, 5, 7, 8] [0, 8, 48] (fun (s52 : (List GType) × Int) => [(7, .sl 2 48 (s52.1).length), (8, eI s52.2)]) (fun s52 => [(48, some ⟨2, (List.map rGType s52.1), 0, 0x0019⟩)]) (fun s52 => .z) (fun s60 => .z)))))))
end Go.Proofs.YtmkamncbkkahjaaGreat
set_option linter.unusedSimpArgs false
set_option linter.unusedVariables false
namespace Go.Proofs.YtmkamncbkkahjaaGreat
open Go Go.RowKit
set_option maxRecDepth 100000
set_option maxHeartbeats 20000000
instance i_spec_l1Fits : ∀ (p0 : GCtor) (p1 : Int), Ct (m_spec_l1Fits p0 p1) fun res => CallsD Tryz.prog 0o00316 [(.agg (rGCtor p0)), (eI p1)] (fun d => d = (eB res)) :=
 au Tryz.func206 m_spec_l1Fits.eq_1 .z
theorem c_spec_l1Fits (p0 : GCtor) (p1 : Int) : ∀ res, m_spec_l1Fits p0 p1 = some res → CallsD Tryz.prog 0o00316 [(.agg (rGCtor p0)), (eI p1)] (fun d => d = (eB res)) := (i_spec_l1Fits p0 p1).pf
end Go.Proofs.YtmkamncbkkahjaaGreat
