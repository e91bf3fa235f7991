import Derived.Test.YtmkamncbkkahjaaGreatJMir
import Derived.Test.YtmkamncbkkahjaaGreatJAuto
import Derived.Test.YtmkamncbkkahjaaGreatJAuI
set_option linter.unusedSimpArgs false
set_option linter.unusedVariables false
set_option linter.unusedSimpArgs false
set_option linter.unusedVariables false
namespace Go.Proofs.YtmkamncbkkahjaaGreat
open Go Go.RowKit
set_option maxRecDepth 100000
set_option maxHeartbeats 20000000
instance i_laws_ptInts : ∀ (p0 : (List Int)) (p1 : (List Int)), Ct (m_laws_ptInts p0 p1) fun res => CallsD Tryz.prog 0o00031 [(.slice 1 (List.map rI p0)), (.slice 1 (List.map rI p1))] (fun d => d = (eB res)) :=
 au Tryz.func25 m_laws_ptInts.eq_1 (.o (.o (.i .z (.ls 0 (.f [] [] [0, 1, 5] [] (fun (k56 : Nat) (s52 : Unit) => [(5, eI (k56 : Int))]) (fun k56 s52 => []) (fun k56 s52 => .o (.g [0, 1, 5] [] [] [] (.o (.d [0, 1, 2, 3, 4, 5, 6, 7, 8] [] [] .z)))) (fun s60 => .z))))))
end Go.Proofs.YtmkamncbkkahjaaGreat
set_option linter.unusedSimpArgs false
set_option linter.unusedVariables false
namespace Go.Proofs.YtmkamncbkkahjaaGreat
open Go Go.RowKit
set_option maxRecDepth 100000
set_option maxHeartbeats 20000000
instance i_laws_ptTree : ∀ (n : Nat) (p0 : GTree) (p1 : GTree), Ct (m_laws_ptTree n p0 p1) fun res => CallsD Tryz.prog 0o00040 [(.agg (rGTree p0)), (.agg (rGTree p1))] (fun d => d = (eB res)) :=
 ar (au Tryz.func32 m_laws_ptTree.eq_2 (.o (.o (.b fun (p0 : GTree) => .o (.i .z (.i .z (.o (.i .z (.i .z (.i .z (.i .z (.ls 32 (.f [2, 3] [0, 8] [2, 3, 5] [0, 8] (fun (k200 : Nat) (s196 : Unit) => [(5, eI (k200 : Int))]) (fun k200 s196 => []) (fun k200 s196 => .o (.g [2, 3, 5] [0, 1] [] [] (.o (.i (.d [0, 1, 2, 3, 4, 5, 6, 7, 8, 9, 10, 11, 12, 13, 14, 15, 16, 17, 18, 19, 20, 21, 22, 23, 24, 25, 26, 27, 28] [0, 1] [] .z) (.o (.d [0, 1, 2, 3, 4, 5, 6, 7, 8, 9, 10, 11, 12, 13, 14, 15, 16, 17, 18, 19, 20, 21, 22, 23, 24, 25, 26, 27, 28] [0, 1] [] .z)))))) (fun s204 => .lc 0 4 9 rGBranch p0.branches (.f [2, 3] [0, 1] [2, 3, 6] [0, 1] (fun (k410 : Nat) (s406 : Unit) => [(6, eI (k410 : Int))]) (fun k410 s406 => []) (fun k410 s406 => .z) (fun s414 => .lc 0 5 6 rGTree p0.else_ (.f [] [] [2, 3, 9] [0, 1] (fun (k508 : Nat) (s504 : Unit) => [(9, eI (k508 : Int))]) (fun k508 s504 => []) (fun k508 s504 => .o (.g [2, 3, 9] [0, 1] [] [] (.o (.o (.d [0, 1, 2, 3, 4, 5, 6, 7, 8, 9, 10, 11] [0, 1] [] .z))))) (fun s512 => .z))))))))))))))))))
theorem c_laws_ptTree (n : Nat) (p0 : GTree) (p1 : GTree) : ∀ res, m_laws_ptTree n p0 p1 = some res → CallsD Tryz.prog 0o00040 [(.agg (rGTree p0)), (.agg (rGTree p1))] (fun d => d = (eB res)) := (i_laws_ptTree n p0 p1).pf
end Go.Proofs.YtmkamncbkkahjaaGreat
set_option linter.unusedSimpArgs false
set_option linter.unusedVariables false
namespace Go.Proofs.YtmkamncbkkahjaaGreat
open Go Go.RowKit
set_option maxRecDepth 100000
set_option maxHeartbeats 20000000
instance i_impl_subtrees : ∀ (p0 : GTree), Ct (m_impl_subtrees p0) fun res => CallsD Tryz.prog 0o00122 [(.agg (rGTree p0))] (fun d => d = (.slice 6 (List.map rGTree res))) :=
 au Tryz.func82 m_impl_subtrees.eq_1 (.o (.pN 3 6 0x0045 (.ls 7 (.f [1, 3] [0, 56] [1, 3, 7, 8, 9] [0, 56] (fun (k46 : Nat) (s42 : (List GTree)) => [(3, .sl 6 56 (s42).length), (9, eI (k46 : Int))]) (fun k46 s42 => [(56, some ⟨6, (List.map rGTree s42), 0, 0x0045⟩)]) (fun k46 s42 => .z) (fun s50 => .z)))))
end Go.Proofs.YtmkamncbkkahjaaGreat
set_option linter.unusedSimpArgs false
set_option linter.unusedVariables false
namespace Go.Proofs.YtmkamncbkkahjaaGreat
open Go Go.RowKit
set_option maxRecDepth 100000
set_option maxHeartbeats 20000000
instance i_impl_TreeSize : ∀ (n : Nat) (p0 : GTree), Ct (m_impl_TreeSize n p0) fun res => CallsD Tryz.prog 0o00041 [(.agg (rGTree p0))] (fun d => d = (eI res)) :=
 ar (au Tryz.func33 m_impl_TreeSize.eq_2 (.o (.o (.o (.o (.ls 7 (.f [3] [] [3, 7, 8, 9] [] (fun (k48 : Nat) (s44 : Int) => [(3, eI s44), (9, eI (k48 : Int))]) (fun k48 s44 => []) (fun k48 s44 => .z) (fun s52 => .z))))))))
theorem c_impl_TreeSize (n : Nat) (p0 : GTree) : ∀ res, m_impl_TreeSize n p0 = some res → CallsD Tryz.prog 0o00041 [(.agg (rGTree p0))] (fun d => d = (eI res)) := (i_impl_TreeSize n p0).pf
end Go.Proofs.YtmkamncbkkahjaaGreat
set_option linter.unusedSimpArgs false
set_option linter.unusedVariables false
namespace Go.Proofs.YtmkamncbkkahjaaGreat
open Go Go.RowKit
set_option maxRecDepth 100000
set_option maxHeartbeats 20000000
instance i_impl_within : ∀ (p0 : Int) (p1 : Int) (p2 : Int), Ct (m_impl_within p0 p1 p2) fun res => CallsD Tryz.prog 0o00064 [(eI p0), (eI p1), (eI p2)] (fun d => d = (eB res)) :=
 au Tryz.func52 m_impl_within.eq_1 .z
end Go.Proofs.YtmkamncbkkahjaaGreat
set_option linter.unusedSimpArgs false
set_option linter.unusedVariables false
namespace Go.Proofs.YtmkamncbkkahjaaGreat
open Go Go.RowKit
set_option maxRecDepth 100000
set_option maxHeartbeats 20000000
instance i_impl_leaves : ∀ (n : Nat) (p0 : GTree) (p1 : (List Bool)), Ct (m_impl_leaves n p0 p1) fun res => CallsH Tryz.prog 0o00123 [⟨8, [(List.map cB p1)], 0, 0x0076⟩] [(.agg (rGTree p0)), .ptr 8 0 0 0] (fun H d => H = [some ⟨8, [(List.map cB res)], 0, 0x0076⟩] ∧ d = .tup []) :=
 ar (au Tryz.func83 m_impl_leaves.eq_2 (.o (.o (.o (.o (.j 1 0 [1, 2] [0, 1] (fun (s11 : (List Bool)) => []) (fun s11 => [(0, some ⟨8, [(List.map cB s11)], 0, 0x0076⟩)]) (.i (.o (.i (.g [1, 2] [0, 1] [] [] (.o (.d [0, 1, 2, 3, 4, 5] [1] [] .z))) .z)) .z) (fun s11 => .o (.ls 20 (.f [] [0] [1, 20, 21, 22] [0] (fun (k48 : Nat) (s44 : (List Bool)) => [(22, eI (k48 : Int))]) (fun k48 s44 => [(0, some ⟨8, [(List.map cB s44)], 0, 0x0076⟩)]) (fun k48 s44 => .z) (fun s52 => .z))))))))))
end Go.Proofs.YtmkamncbkkahjaaGreat
set_option linter.unusedSimpArgs false
set_option linter.unusedVariables false
namespace Go.Proofs.YtmkamncbkkahjaaGreat
open Go Go.RowKit
set_option maxRecDepth 100000
set_option maxHeartbeats 20000000
instance i_impl_TreeLeaves : ∀ (n : Nat) (p0 : GTree), Ct (m_impl_TreeLeaves n p0) fun res => CallsD Tryz.prog 0o00043 [(.agg (rGTree p0))] (fun d => d = (.slice 1 (List.map rI res))) :=
 au Tryz.func35 m_impl_TreeLeaves.eq_1 (.o (.o (.o (.o (.pN 4 1 0x0003 (.w [4] [64] [4, 9, 10] [64] (fun (s74 : (List Int) × Int) => [(4, .sl 1 64 (s74.1).length), (10, eI s74.2)]) (fun s74 => [(64, some ⟨1, (List.map rI s74.1), 0, 0x0003⟩)]) (fun s74 => .i (.j 6 0 [4, 9, 10] [0] (fun (s88 : (List Int)) => [(4, .sl 1 0 (s88).length)]) (fun s88 => [(0, some ⟨1, (List.map rI s88), 0, 0x0003⟩)]) .z (fun _ => .z)) .z) (fun s82 => .z)))))))
theorem c_impl_TreeLeaves (n : Nat) (p0 : GTree) : ∀ res, m_impl_TreeLeaves n p0 = some res → CallsD Tryz.prog 0o00043 [(.agg (rGTree p0))] (fun d => d = (.slice 1 (List.map rI res))) := (i_impl_TreeLeaves n p0).pf
end Go.Proofs.YtmkamncbkkahjaaGreat
set_option linter.unusedSimpArgs false
set_option linter.unusedVariables false
namespace Go.Proofs.YtmkamncbkkahjaaGreat
open Go Go.RowKit
set_option maxRecDepth 100000
set_option maxHeartbeats 20000000
instance i_spec_l17Open : ∀ (p0 : (List Int)), Ct (m_spec_l17Open p0) fun res => CallsH Tryz.prog 0o00072 [] [(.slice 1 (List.map (rK .u8) p0))] (fun H d => H = [some ⟨2, [(rGl17Rd res)], 0, 0x00ba⟩] ∧ d = .ptr 2 0 0 0) :=
 au Tryz.func58 m_spec_l17Open.eq_1 (.o (.j 1 0 [0] [] (fun (s3 : (List Int)) => [(0, .slice 1 (List.map (rK .u8) s3))]) (fun _ => []) .z (fun _ => .z)))
end Go.Proofs.YtmkamncbkkahjaaGreat
set_option linter.unusedSimpArgs false
set_option linter.unusedVariables false
namespace Go.Proofs.YtmkamncbkkahjaaGreat
open Go Go.RowKit
set_option maxRecDepth 100000
set_option maxHeartbeats 20000000
instance i_spec_l17Rd_pick : ∀ (p0 : Gl17Rd) (p1 : Int), Ct (m_spec_l17Rd_pick p0 p1) fun res => CallsH Tryz.prog 0o00073 [⟨2, [(rGl17Rd p0)], 0, 0x00ba⟩] [.ptr 2 0 0 0, (eI p1)] (fun H d => H = [some ⟨2, [(rGl17Rd res.2)], 0, 0x00ba⟩] ∧ d = (eI res.1)) :=
 au Tryz.func59 m_spec_l17Rd_pick.eq_1 (.o (.o (.i .z (.i .z (.i .z (.g [0, 1, 5] [0] [] [] (.o (.o (.o (.d [0, 1, 2, 3, 4, 5, 6, 7, 8, 9, 10, 11, 12, 13, 14, 15, 16, 17, 18, 19, 20, 21, 22, 23, 24, 25, 26, 27, 28, 29, 30, 31, 32, 33, 34, 35, 36, 37, 38, 39, 40, 41, 42, 43, 44, 45] [0] [] .z))))))))))
end Go.Proofs.YtmkamncbkkahjaaGreat
set_option linter.unusedSimpArgs false
set_option linter.unusedVariables false
namespace Go.Proofs.YtmkamncbkkahjaaGreat
open Go Go.RowKit
set_option maxRecDepth 100000
set_option maxHeartbeats 20000000
instance i_spec_l1Fits : ∀ (p0 : GCtor) (p1 : Int), Ct (m_spec_l1Fits p0 p1) fun res => CallsD Tryz.prog 0o00316 [(.agg (rGCtor p0)), (eI p1)] (fun d => d = (eB res)) :=
 au Tryz.func206 m_spec_l1Fits.eq_1 .z
end Go.Proofs.YtmkamncbkkahjaaGreat
set_option linter.unusedSimpArgs false
set_option linter.unusedVariables false
namespace Go.Proofs.YtmkamncbkkahjaaGreat
open Go Go.RowKit
set_option maxRecDepth 100000
set_option maxHeartbeats 20000000
instance i_spec_l1Ctors : ∀ (p0 : (List GData)) (p1 : GType), Ct (m_spec_l1Ctors p0 p1) fun res => CallsD Tryz.prog 0o00210 [(.slice 2 (List.map rGData p0)), (.agg (rGType p1))] (fun d => d = (.slice 1 (List.map rI res))) :=
 au Tryz.func136 m_spec_l1Ctors.eq_1 (.o (.o (.i .z (.b fun (x115 : GData) => .le 0 1 3 rGCtor x115.ctors x115 (.f [5] [16] [0, 3, 5, 6] [0, 16] (fun (k149 : Nat) (s145 : (List Int)) => [(5, .sl 1 16 (s145).length), (6, eI (k149 : Int))]) (fun k149 s145 => [(16, some ⟨1, (List.map rI s145), 0, 0x0003⟩)]) (fun k149 s145 => .o (.j 7 0 [0, 3, 5, 6] [0, 1] (fun (s157 : (List Int)) => [(5, .sl 1 1 (s157).length)]) (fun s157 => [(1, some ⟨1, (List.map rI s157), 0, 0x0003⟩)]) (.g [0, 3, 5, 6] [0, 1] [] [] (.o (.d [0, 1, 2, 3, 4, 5, 6, 7, 8, 9, 10, 11] [0] [] .z))) (fun _ => .z))) (fun s153 => .z))))))
theorem c_spec_l1Ctors (p0 : (List GData)) (p1 : GType) : ∀ res, m_spec_l1Ctors p0 p1 = some res → CallsD Tryz.prog 0o00210 [(.slice 2 (List.map rGData p0)), (.agg (rGType p1))] (fun d => d = (.slice 1 (List.map rI res))) := (i_spec_l1Ctors p0 p1).pf
end Go.Proofs.YtmkamncbkkahjaaGreat
set_option linter.unusedSimpArgs false
set_option linter.unusedVariables false
namespace Go.Proofs.YtmkamncbkkahjaaGreat
open Go Go.RowKit
set_option maxRecDepth 100000
set_option maxHeartbeats 20000000
instance i_spec_l1Slot : ∀ (p0 : GType), Ct (m_spec_l1Slot p0) fun res => CallsD Tryz.prog 0o00317 [(.agg (rGType p0))] (fun d => d = (eI res)) :=
 au Tryz.func207 m_spec_l1Slot.eq_1 .z
end Go.Proofs.YtmkamncbkkahjaaGreat
set_option linter.unusedSimpArgs false
set_option linter.unusedVariables false
namespace Go.Proofs.YtmkamncbkkahjaaGreat
open Go Go.RowKit
set_option maxRecDepth 100000
set_option maxHeartbeats 20000000
instance i_spec_l1Depth : ∀ (p0 : (List Int)) (p1 : GType), Ct (m_spec_l1Depth p0 p1) fun res => CallsD Tryz.prog 0o00212 [(.slice 1 (List.map rI p0)), (.agg (rGType p1))] (fun d => d = (eI res)) :=
 au Tryz.func138 m_spec_l1Depth.eq_1 .z
end Go.Proofs.YtmkamncbkkahjaaGreat
set_option linter.unusedSimpArgs false
set_option linter.unusedVariables false
namespace Go.Proofs.YtmkamncbkkahjaaGreat
open Go Go.RowKit
set_option maxRecDepth 100000
set_option maxHeartbeats 20000000
instance i_spec_l1Result : ∀ (p0 : GCtor) (p1 : Int), Ct (m_spec_l1Result p0 p1) fun res => CallsD Tryz.prog 0o00320 [(.agg (rGCtor p0)), (eI p1)] (fun d => d = (eI res)) :=
 au Tryz.func208 m_spec_l1Result.eq_1 .z
end Go.Proofs.YtmkamncbkkahjaaGreat
set_option linter.unusedSimpArgs false
set_option linter.unusedVariables false
namespace Go.Proofs.YtmkamncbkkahjaaGreat
open Go Go.RowKit
set_option maxRecDepth 100000
set_option maxHeartbeats 20000000
instance i_spec_l1Args : ∀ (p0 : (List GData)) (p1 : GType) (p2 : Int), Ct (m_spec_l1Args p0 p1 p2) fun res => CallsD Tryz.prog 0o00213 [(.slice 2 (List.map rGData p0)), (.agg (rGType p1)), (eI p2)] (fun d => d = (.slice 2 (List.map rGType res))) :=
 au Tryz.func139 m_spec_l1Args.eq_1 (.o (.o (.o (.o (.b fun (x2 : GCtor) => .lc 104 1 2 rGType x2.args (.f [7] [16] [4, 7, 8, 9] [0, 16, 104] (fun (k118 : Nat) (s114 : (List GType)) => [(7, .sl 2 16 (s114).length), (9, eI (k118 : Int))]) (fun k118 s114 => [(16, some ⟨2, (List.map rGType s114), 0, 0x0019⟩)]) (fun k118 s114 => .b fun (x119 : GType) => .j 7 0 [4, 7, 8, 9, 10] [0, 1, 2, 83] (fun (s133 : Int) => []) (fun s133 => [(83, some ⟨2, [[(eI x119.data), (eI s133)]], 0, 0x0019⟩)]) .z (fun _ => .z)) (fun s122 => .z)))))))
end Go.Proofs.YtmkamncbkkahjaaGreat
set_option linter.unusedSimpArgs false
set_option linter.unusedVariables false
namespace Go.Proofs.YtmkamncbkkahjaaGreat
open Go Go.RowKit
set_option maxRecDepth 100000
set_option maxHeartbeats 20000000
instance i_spec_l1Most : ∀ (p0 : (List GData)) (p1 : (List Int)) (p2 : GType) (p3 : Int), Ct (m_spec_l1Most p0 p1 p2 p3) fun res => CallsD Tryz.prog 0o00211 [(.slice 2 (List.map rGData p0)), (.slice 1 (List.map rI p1)), (.agg (rGType p2)), (eI p3)] (fun d => d = (eI res)) :=
 au Tryz.func137 m_spec_l1Most.eq_1 (.o (.o (.o (.o (.o (.ls 16 (.f [10] [] [1, 9, 10, 11] [] (fun (k92 : Nat) (s88 : Int) => [(10, eI s88), (11, eI (k92 : Int))]) (fun k92 s88 => []) (fun k92 s88 => .o (.j 6 0 [1, 9, 10, 11] [] (fun (s101 : Int) => [(10, eI s101)]) (fun _ => []) .z (fun _ => .z))) (fun s96 => .z))))))))
theorem c_spec_l1Most (p0 : (List GData)) (p1 : (List Int)) (p2 : GType) (p3 : Int) : ∀ res, m_spec_l1Most p0 p1 p2 p3 = some res → CallsD Tryz.prog 0o00211 [(.slice 2 (List.map rGData p0)), (.slice 1 (List.map rI p1)), (.agg (rGType p2)), (eI p3)] (fun d => d = (eI res)) := (i_spec_l1Most p0 p1 p2 p3).pf
end Go.Proofs.YtmkamncbkkahjaaGreat
set_option linter.unusedSimpArgs false
set_option linter.unusedVariables false
namespace Go.Proofs.YtmkamncbkkahjaaGreat
open Go Go.RowKit
set_option maxRecDepth 100000
set_option maxHeartbeats 20000000
instance i_spec_l2Draw : ∀ (n : Nat) (p0 : Gl17Rd) (p1 : (List GData)) (p2 : (List Int)) (p3 : GType) (p4 : Int), Ct (m_spec_l2Draw n p0 p1 p2 p3 p4) fun res => CallsH Tryz.prog 0o00105 [⟨2, [(rGl17Rd p0)], 0, 0x00ba⟩] [.ptr 2 0 0 0, (.slice 2 (List.map rGData p1)), (.slice 1 (List.map rI p2)), (.agg (rGType p3)), (eI p4)] (fun H d => H = [some ⟨2, [(rGl17Rd res.2)], 0, 0x00ba⟩] ∧ d = (.agg (rGValue res.1))) :=
 ar (au Tryz.func69 m_spec_l2Draw.eq_2 (.o (.o (.o (.o (.o (.o (.o (.i .z (.o (.ls 26 (.f [0, 1, 2, 4, 8, 10, 12] [0, 1, 9, 73] [0, 1, 2, 4, 8, 10, 11, 12, 13] [0, 1, 9, 73] (fun (k216 : Nat) (s212 : (List Int)) => [(12, .sl 1 73 (s212).length), (13, eI (k216 : Int))]) (fun k216 s212 => [(73, some ⟨1, (List.map rI s212), 0, 0x0003⟩)]) (fun k216 s212 => .o (.j 8 0 [0, 1, 2, 4, 8, 10, 11, 12, 13] [0, 1, 2, 3] (fun (s237 : (List Int)) => [(12, .sl 1 3 (s237).length)]) (fun s237 => [(3, some ⟨1, (List.map rI s237), 0, 0x0003⟩)]) (.g [0, 1, 2, 4, 8, 10, 11, 12, 13] [0, 1, 2, 3] [] [] (.o (.d [0, 1, 2, 3, 4, 5, 6, 7, 8] [1] [] .z))) (fun _ => .z))) (fun s220 => .o (.b fun (x257 : Int) => .o (.pC 68 2 3 0x001d (.ls 75 (.f [10, 15] [0, 2, 68, 140] [0, 1, 2, 4, 10, 15, 16, 17] [0, 2, 68, 140] (fun (k316 : Nat) (s312 : Gl17Rd × (List GValue)) => [(17, eI (k316 : Int))]) (fun k316 s312 => [(0, some ⟨2, [(rGl17Rd s312.1)], 0, 0x00ba⟩), (1000000068, some ⟨3, [[(eI x257), (eI 0), (.sl 3 140 (s312.2).length)]], 0, 0x001d⟩), (140, some ⟨3, (List.map rGValue s312.2), 0, 0x001d⟩)]) (fun k316 s312 => .o (.g [0, 1, 2, 4, 10, 15, 16, 17] [0, 1, 2, 3] [] [(1000000002, some ⟨3, [[(eI x257), (eI 0), (.sl 3 3 (s312.2).length)]], 0, 0x001d⟩)] (.o (.o (.d [0, 1, 2, 3, 4, 5, 6, 7, 8, 9, 10, 11, 12, 13, 14, 15] [2] [96] .z))))) (fun s320 => .pF 3 .z))))))))))))))))))
end Go.Proofs.YtmkamncbkkahjaaGreat
set_option linter.unusedSimpArgs false
set_option linter.unusedVariables false
namespace Go.Proofs.YtmkamncbkkahjaaGreat
open Go Go.RowKit
set_option maxRecDepth 100000
set_option maxHeartbeats 20000000
instance i_spec_l1Texts : Ct (m_spec_l1Texts) fun res => CallsD Tryz.prog 0o00401 [] (fun d => d = (.slice 1 (List.map rS res))) :=
 au Tryz.func257 m_spec_l1Texts.eq_1 .z
end Go.Proofs.YtmkamncbkkahjaaGreat
set_option linter.unusedSimpArgs false
set_option linter.unusedVariables false
namespace Go.Proofs.YtmkamncbkkahjaaGreat
open Go Go.RowKit
set_option maxRecDepth 100000
set_option maxHeartbeats 20000000
instance i_spec_l17Cut : ∀ (n : Nat) (p0 : ByteArray) (p1 : Int), Ct (m_spec_l17Cut n p0 p1) fun res => CallsD Tryz.prog 0o00171 [(eS p0), (.val (.int .u8 p1))] (fun d => d = (.slice 1 (List.map rS res))) :=
 au Tryz.func121 m_spec_l17Cut.eq_1 (.o (.o (.o (.w [5] [8] [0, 1, 5, 6, 7] [8] (fun (s203 : (List ByteArray) × Int × Int) => [(5, .sl 1 8 (s203.1).length), (6, eI s203.2.1), (7, eI s203.2.2)]) (fun s203 => [(8, some ⟨1, (List.map rS s203.1), 0, 0x0009⟩)]) (fun s203 => .i (.j 6 0 [0, 1, 5, 6, 7] [0] (fun (s230 : (List ByteArray) × Int) => [(5, .sl 1 0 (s230.1).length), (6, eI s230.2)]) (fun s230 => [(0, some ⟨1, (List.map rS s230.1), 0, 0x0009⟩)]) .z (fun _ => .z)) .z) (fun s211 => .z)))))
end Go.Proofs.YtmkamncbkkahjaaGreat
set_option linter.unusedSimpArgs false
set_option linter.unusedVariables false
namespace Go.Proofs.YtmkamncbkkahjaaGreat
open Go Go.RowKit
set_option maxRecDepth 100000
set_option maxHeartbeats 20000000
instance i_spec_l1Find : ∀ (p0 : (List ByteArray)) (p1 : ByteArray), Ct (m_spec_l1Find p0 p1) fun res => CallsD Tryz.prog 0o00372 [(.slice 1 (List.map rS p0)), (eS p1)] (fun d => d = (eI res)) :=
 au Tryz.func250 m_spec_l1Find.eq_1 (.o (.o (.i .z (.ls 0 (.f [] [] [0, 1, 5] [] (fun (k46 : Nat) (s42 : Unit) => [(5, eI (k46 : Int))]) (fun k46 s42 => []) (fun k46 s42 => .z) (fun s50 => .z))))))
end Go.Proofs.YtmkamncbkkahjaaGreat
set_option linter.unusedSimpArgs false
set_option linter.unusedVariables false
namespace Go.Proofs.YtmkamncbkkahjaaGreat
open Go Go.RowKit
set_option maxRecDepth 100000
set_option maxHeartbeats 20000000
instance i_spec_l1ParseType : ∀ (p0 : (List ByteArray)) (p1 : ByteArray), Ct (m_spec_l1ParseType p0 p1) fun res => CallsD Tryz.prog 0o00273 [(.slice 1 (List.map rS p0)), (eS p1)] (fun d => d = (.agg (rGType res))) :=
 au Tryz.func187 m_spec_l1ParseType.eq_1 (.o (.o (.i .z (.o (.b fun (r4 : (Int)) => .j 4 0 [4, 5] [0, 64] (fun (s18 : Int) => []) (fun s18 => [(64, some ⟨2, [[(eI r4), (eI s18)]], 0, 0x0019⟩)]) .z (fun _ => .z))))))
end Go.Proofs.YtmkamncbkkahjaaGreat
set_option linter.unusedSimpArgs false
set_option linter.unusedVariables false
namespace Go.Proofs.YtmkamncbkkahjaaGreat
open Go Go.RowKit
set_option maxRecDepth 100000
set_option maxHeartbeats 20000000
instance i_spec_l1ParseCtor : ∀ (n : Nat) (p0 : (List ByteArray)) (p1 : ByteArray), Ct (m_spec_l1ParseCtor n p0 p1) fun res => CallsD Tryz.prog 0o00172 [(.slice 1 (List.map rS p0)), (eS p1)] (fun d => d = (.agg (rGCtor res))) :=
 au Tryz.func122 m_spec_l1ParseCtor.eq_1 (.o (.o (.o (.j 2 0 [0, 1, 4, 5] [0, 16] (fun (s13 : ByteArray × Int) => [(1, eS s13.1)]) (fun s13 => [(16, some ⟨3, [[(eS ByteArray.empty), .nil, (eI s13.2)]], 0, 0x00c0⟩)]) .z (fun s13 => .o (.b fun (x29 : ByteArray) => .i .z (.o (.i .z (.g [0, 4, 5, 6] [0, 1] [] [] (.o (.o (.d [0, 1, 2, 3, 4, 5, 6, 7, 8, 9, 10] [] [] (.pC 1 1 2 0x0019 (.ls 60 (.f [4, 5] [0, 1, 18] [0, 4, 5, 7, 8] [0, 1, 18] (fun (k137 : Nat) (s133 : (List GType)) => [(8, eI (k137 : Int))]) (fun k137 s133 => [(1000000001, some ⟨3, [[(eS x29), (.sl 2 18 (s133).length), (eI s13.2)]], 0, 0x00c0⟩), (18, some ⟨2, (List.map rGType s133), 0, 0x0019⟩)]) (fun k137 s133 => .o (.i (.g [0, 4, 5, 7, 8] [0, 1, 2] [] [(1000000001, some ⟨3, [[(eS x29), (.sl 2 2 (s133).length), (eI s13.2)]], 0, 0x00c0⟩)] (.o (.o (.d [0, 1, 2, 3, 4, 5, 6, 7, 8, 9, 10, 11] [1] [81] .z)))) .z)) (fun s141 => .z))))))))))))))))
end Go.Proofs.YtmkamncbkkahjaaGreat
set_option linter.unusedSimpArgs false
set_option linter.unusedVariables false
namespace Go.Proofs.YtmkamncbkkahjaaGreat
open Go Go.RowKit
set_option maxRecDepth 100000
set_option maxHeartbeats 20000000
instance i_spec_l1Big : ∀ (p0 : Int), Ct (m_spec_l1Big p0) fun res => CallsD Tryz.prog 0o00373 [(.val (.int .u8 p0))] (fun d => d = (eB res)) :=
 au Tryz.func251 m_spec_l1Big.eq_1 .z
end Go.Proofs.YtmkamncbkkahjaaGreat
set_option linter.unusedSimpArgs false
set_option linter.unusedVariables false
namespace Go.Proofs.YtmkamncbkkahjaaGreat
open Go Go.RowKit
set_option maxRecDepth 100000
set_option maxHeartbeats 20000000
instance i_spec_l1Data : ∀ (p0 : ByteArray), Ct (m_spec_l1Data p0) fun res => CallsD Tryz.prog 0o00274 [(eS p0)] (fun d => d = (eB res)) :=
 au Tryz.func188 m_spec_l1Data.eq_1 .z
end Go.Proofs.YtmkamncbkkahjaaGreat
set_option linter.unusedSimpArgs false
set_option linter.unusedVariables false
namespace Go.Proofs.YtmkamncbkkahjaaGreat
open Go Go.RowKit
set_option maxRecDepth 100000
set_option maxHeartbeats 20000000
instance i_spec_l1Arg : ∀ (p0 : Int) (p1 : GType), Ct (m_spec_l1Arg p0 p1) fun res => CallsD Tryz.prog 0o00363 [(eI p0), (.agg (rGType p1))] (fun d => d = (eB res)) :=
 au Tryz.func243 m_spec_l1Arg.eq_1 .z
end Go.Proofs.YtmkamncbkkahjaaGreat
set_option linter.unusedSimpArgs false
set_option linter.unusedVariables false
namespace Go.Proofs.YtmkamncbkkahjaaGreat
open Go Go.RowKit
set_option maxRecDepth 100000
set_option maxHeartbeats 20000000
instance i_spec_NameValid : ∀ (n : Nat) (p0 : ByteArray), Ct (m_spec_NameValid n p0) fun res => CallsD Tryz.prog 0o00374 [(eS p0)] (fun d => d = (eB res)) :=
 au Tryz.func252 m_spec_NameValid.eq_1 (.o (.o (.i .z (.i .z (.o (.o (.i .z (.w [] [] [0, 3] [] (fun (s132 : Int) => [(3, eI s132)]) (fun s132 => []) (fun s132 => .z) (fun s140 => .z)))))))))
end Go.Proofs.YtmkamncbkkahjaaGreat
set_option linter.unusedSimpArgs false
set_option linter.unusedVariables false
namespace Go.Proofs.YtmkamncbkkahjaaGreat
open Go Go.RowKit
set_option maxRecDepth 100000
set_option maxHeartbeats 20000000
instance i_spec_l1Ctor : ∀ (n : Nat) (p0 : Int) (p1 : GCtor), Ct (m_spec_l1Ctor n p0 p1) fun res => CallsD Tryz.prog 0o00275 [(eI p0), (.agg (rGCtor p1))] (fun d => d = (eB res)) :=
 au Tryz.func189 m_spec_l1Ctor.eq_1 (.o (.o (.o (.o (.i .z (.i .z (.i .z (.i .z (.ls 12 (.f [] [] [0, 3, 5] [0] (fun (k82 : Nat) (s78 : Unit) => [(5, eI (k82 : Int))]) (fun k82 s78 => []) (fun k82 s78 => .z) (fun s86 => .z)))))))))))
end Go.Proofs.YtmkamncbkkahjaaGreat
set_option linter.unusedSimpArgs false
set_option linter.unusedVariables false
namespace Go.Proofs.YtmkamncbkkahjaaGreat
open Go Go.RowKit
set_option maxRecDepth 100000
set_option maxHeartbeats 20000000
instance i_spec_l1Twice : ∀ (n : Nat) (p0 : (List GData)) (p1 : Int) (p2 : Int), Ct (m_spec_l1Twice n p0 p1 p2) fun res => CallsD Tryz.prog 0o00276 [(.slice 2 (List.map rGData p0)), (eI p1), (eI p2)] (fun d => d = (eB res)) :=
 au Tryz.func190 m_spec_l1Twice.eq_1 (.o (.o (.o (.o (.w [] [] [0, 1, 2, 7] [] (fun (s3024 : Int) => [(7, eI s3024)]) (fun s3024 => []) (fun s3024 => .i (.j 4 1 [0, 1, 2, 7] [] (fun (s3346 : Unit) => []) (fun _ => []) (.g [0, 1, 2, 7] [] [] [] (.i (.o (.o (.d [0, 1, 2, 3, 4, 5, 6, 7, 8, 9, 10, 11, 12, 13, 14, 15] [] [] .z))) (.d [0, 1, 2, 3, 4, 5, 6, 7, 8, 9, 10, 11, 12, 13, 14, 15] [] [] .z))) (fun s3346 => .b fun (x3485 : GData) => .le 0 1 3 rGCtor x3485.ctors x3485 (.f [0, 1, 2, 7] [] [0, 1, 2, 7, 8] [] (fun (k3592 : Nat) (s3588 : Unit) => [(8, eI (k3592 : Int))]) (fun k3592 s3588 => []) (fun k3592 s3588 => .o (.j 7 0 [0, 1, 2, 7, 8] [] (fun (s3602 : Unit) => []) (fun _ => []) .z (fun s3602 => .j 9 0 [0, 1, 2, 7, 8] [] (fun (s3621 : Unit) => []) (fun _ => []) (.g [0, 1, 2, 7, 8] [] [] [] (.o (.i (.o (.d [0, 1, 2, 3, 4, 5, 6, 7, 8, 9, 10, 11, 12, 13, 14, 15, 16, 17, 18, 19, 20, 21, 22, 23, 24, 25, 26, 27, 28] [] [] .z)) (.d [0, 1, 2, 3, 4, 5, 6, 7, 8, 9, 10, 11, 12, 13, 14, 15, 16, 17, 18, 19, 20, 21, 22, 23, 24, 25, 26, 27, 28] [] [] .z)))) (fun _ => .z)))) (fun s3596 => .z)))) .z) (fun s3032 => .z))))))
end Go.Proofs.YtmkamncbkkahjaaGreat
set_option linter.unusedSimpArgs false
set_option linter.unusedVariables false
namespace Go.Proofs.YtmkamncbkkahjaaGreat
open Go Go.RowKit
set_option maxRecDepth 100000
set_option maxHeartbeats 20000000
instance i_spec_WorldValid : ∀ (n : Nat) (p0 : (List GData)), Ct (m_spec_WorldValid n p0) fun res => CallsD Tryz.prog 0o00173 [(.slice 2 (List.map rGData p0))] (fun d => d = (eB res)) :=
 au Tryz.func123 m_spec_WorldValid.eq_1 (.o (.o (.i .z (.ls 0 (.f [] [] [0, 3] [] (fun (k1226 : Nat) (s1222 : Unit) => [(3, eI (k1226 : Int))]) (fun k1226 s1222 => []) (fun k1226 s1222 => .o (.o (.i .z (.i .z (.i .z (.ls 26 (.f [0, 3] [] [0, 3, 4] [] (fun (k1434 : Nat) (s1430 : Unit) => [(4, eI (k1434 : Int))]) (fun k1434 s1430 => []) (fun k1434 s1430 => .z) (fun s1438 => .z)))))))) (fun s1230 => .z))))))
end Go.Proofs.YtmkamncbkkahjaaGreat
set_option linter.unusedSimpArgs false
set_option linter.unusedVariables false
namespace Go.Proofs.YtmkamncbkkahjaaGreat
open Go Go.RowKit
set_option maxRecDepth 100000
set_option maxHeartbeats 20000000
instance i_spec_l17Dec : ∀ (n : Nat) (p0 : Int), Ct (m_spec_l17Dec n p0) fun res => CallsD Tryz.prog 0o00376 [(eI p0)] (fun d => d = (eS res)) :=
 ar (au Tryz.func254 m_spec_l17Dec.eq_2 (.o (.o (.o (.i .z (.i .z (.w [0, 3] [] [0, 3] [] (fun (s18 : Int × ByteArray) => [(0, eI s18.1), (3, eS s18.2)]) (fun s18 => []) (fun s18 => .z) (fun s26 => .z))))))))
end Go.Proofs.YtmkamncbkkahjaaGreat
set_option linter.unusedSimpArgs false
set_option linter.unusedVariables false
namespace Go.Proofs.YtmkamncbkkahjaaGreat
open Go Go.RowKit
set_option maxRecDepth 100000
set_option maxHeartbeats 20000000
instance i_spec_l1Index : ∀ (n : Nat) (p0 : Int), Ct (m_spec_l1Index n p0) fun res => CallsD Tryz.prog 0o00451 [(eI p0)] (fun d => d = (eS res)) :=
 au Tryz.func297 m_spec_l1Index.eq_1 .z
end Go.Proofs.YtmkamncbkkahjaaGreat
set_option linter.unusedSimpArgs false
set_option linter.unusedVariables false
namespace Go.Proofs.YtmkamncbkkahjaaGreat
open Go Go.RowKit
set_option maxRecDepth 100000
set_option maxHeartbeats 20000000
instance i_spec_l1Type : ∀ (n : Nat) (p0 : (List GData)) (p1 : GType), Ct (m_spec_l1Type n p0 p1) fun res => CallsD Tryz.prog 0o00375 [(.slice 2 (List.map rGData p0)), (.agg (rGType p1))] (fun d => d = (eS res)) :=
 au Tryz.func253 m_spec_l1Type.eq_1 (.o (.o (.o (.i .z (.g [0, 3] [0] [] [] (.o (.o (.o (.d [0, 1, 2, 3, 4, 5, 6, 7, 8, 9, 10] [0] [] .z)))))))))
end Go.Proofs.YtmkamncbkkahjaaGreat
set_option linter.unusedSimpArgs false
set_option linter.unusedVariables false
namespace Go.Proofs.YtmkamncbkkahjaaGreat
open Go Go.RowKit
set_option maxRecDepth 100000
set_option maxHeartbeats 20000000
instance i_spec_l1CtorText : ∀ (n : Nat) (p0 : (List GData)) (p1 : GCtor), Ct (m_spec_l1CtorText n p0 p1) fun res => CallsD Tryz.prog 0o00277 [(.slice 2 (List.map rGData p0)), (.agg (rGCtor p1))] (fun d => d = (eS res)) :=
 au Tryz.func191 m_spec_l1CtorText.eq_1 (.o (.o (.b fun (p1 : GCtor) => .lc 0 1 2 rGType p1.args (.f [3, 5] [0] [0, 3, 5, 6] [0] (fun (k146 : Nat) (s142 : ByteArray) => [(5, eS s142), (6, eI (k146 : Int))]) (fun k146 s142 => []) (fun k146 s142 => .o (.j 5 1 [0, 3, 5, 6] [0] (fun (s165 : ByteArray) => [(5, eS s165)]) (fun _ => []) .z (fun _ => .z))) (fun s150 => .j 9 0 [3, 5] [0] (fun (s175 : ByteArray) => [(5, eS s175)]) (fun _ => []) .z (fun s175 => .j 11 0 [5] [] (fun (s184 : ByteArray) => [(5, eS s184)]) (fun _ => []) .z (fun _ => .z)))))))
end Go.Proofs.YtmkamncbkkahjaaGreat
set_option linter.unusedSimpArgs false
set_option linter.unusedVariables false
namespace Go.Proofs.YtmkamncbkkahjaaGreat
open Go Go.RowKit
set_option maxRecDepth 100000
set_option maxHeartbeats 20000000
instance i_spec_l1Text : ∀ (n : Nat) (p0 : (List GData)), Ct (m_spec_l1Text n p0) fun res => CallsD Tryz.prog 0o00174 [(.slice 2 (List.map rGData p0))] (fun d => d = (eS res)) :=
 au Tryz.func124 m_spec_l1Text.eq_1 (.o (.o (.ls 0 (.f [3] [] [0, 3, 4] [] (fun (k866 : Nat) (s862 : ByteArray) => [(3, eS s862), (4, eI (k866 : Int))]) (fun k866 s862 => []) (fun k866 s862 => .b fun (x867 : GData) => .j 5 1 [0, 3, 4] [] (fun (s956 : ByteArray) => [(3, eS s956)]) (fun _ => []) .z (fun s956 => .o (.o (.le 0 1 3 rGCtor x867.ctors x867 (.f [0, 3, 4] [] [0, 3, 4, 5] [] (fun (k1014 : Nat) (s1010 : ByteArray) => [(3, eS s1010), (5, eI (k1014 : Int))]) (fun k1014 s1010 => []) (fun k1014 s1010 => .o (.j 11 1 [0, 3, 4, 5] [] (fun (s1030 : ByteArray) => [(3, eS s1030)]) (fun _ => []) .z (fun _ => .z))) (fun s1018 => .z)))))) (fun s870 => .z)))))
end Go.Proofs.YtmkamncbkkahjaaGreat
set_option linter.unusedSimpArgs false
set_option linter.unusedVariables false
namespace Go.Proofs.YtmkamncbkkahjaaGreat
open Go Go.RowKit
set_option maxRecDepth 100000
set_option maxHeartbeats 20000000
instance i_spec_ParseWorld : ∀ (n : Nat) (p0 : ByteArray), Ct (m_spec_ParseWorld n p0) fun res => CallsD Tryz.prog 0o00074 [(eS p0)] (fun d => d = .tup [(.slice 2 (List.map rGData res.1)), (eB res.2)]) :=
 au Tryz.func60 m_spec_ParseWorld.eq_1 (.o (.o (.o (.ls 16 (.f [0, 4, 5, 6] [16, 32] [0, 4, 5, 6, 7] [16, 32] (fun (k153 : Nat) (s149 : (List ByteArray)) => [(5, .sl 1 32 (s149).length), (7, eI (k153 : Int))]) (fun k153 s149 => [(32, some ⟨1, (List.map rS s149), 0, 0x0009⟩)]) (fun k153 s149 => .z) (fun s157 => .pF 1 (.ll 1 (.f [0, 4] [0] [0, 4, 5, 6, 9] [0, 1] (fun (k1263 : Nat) (s1259 : (List GData)) => [(4, .sl 2 0 (s1259).length), (9, eI (k1263 : Int))]) (fun k1263 s1259 => [(0, some ⟨2, (List.map rGData s1259), 0, 0x00be⟩)]) (fun k1263 s1259 => .b fun (x1264 : ByteArray) => .o (.o (.o (.o (.pC 146 1 3 0x00c0 (.ls 59 (.f [0, 4, 5, 6, 9, 11] [0, 1, 146, 170] [0, 4, 5, 6, 9, 10, 11, 12] [0, 1, 146, 170] (fun (k1466 : Nat) (s1462 : (List GCtor)) => [(12, eI (k1466 : Int))]) (fun k1466 s1462 => [(1000000146, some ⟨2, [[(eS x1264), (.sl 3 170 (s1462).length)]], 0, 0x00be⟩), (170, some ⟨3, (List.map rGCtor s1462), 0, 0x00c0⟩)]) (fun k1466 s1462 => .o (.i (.g [0, 4, 5, 6, 9, 10, 11, 12] [0, 1, 2, 3] [] [(1000000002, some ⟨2, [[(eS x1264), (.sl 3 3 (s1462).length)]], 0, 0x00be⟩)] (.o (.o (.d [0, 1, 2, 3, 4, 5, 6, 7, 8, 9, 10, 11] [2] [85] .z)))) .z)) (fun s1470 => .o (.pF 3 .z))))))))) (fun s1267 => .z)))))))))
end Go.Proofs.YtmkamncbkkahjaaGreat
set_option linter.unusedSimpArgs false
set_option linter.unusedVariables false
namespace Go.Proofs.YtmkamncbkkahjaaGreat
open Go Go.RowKit
set_option maxRecDepth 100000
set_option maxHeartbeats 20000000
instance i_spec_l1World : ∀ (n : Nat) (p0 : Gl17Rd), Ct (m_spec_l1World n p0) fun res => CallsH Tryz.prog 0o00306 [⟨2, [(rGl17Rd p0)], 0, 0x00ba⟩] [.ptr 2 0 0 0] (fun H d => H = [some ⟨2, [(rGl17Rd res.2)], 0, 0x00ba⟩] ∧ d = (.slice 2 (List.map rGData res.1))) :=
 au Tryz.func198 m_spec_l1World.eq_1 .z
end Go.Proofs.YtmkamncbkkahjaaGreat
set_option linter.unusedSimpArgs false
set_option linter.unusedVariables false
namespace Go.Proofs.YtmkamncbkkahjaaGreat
open Go Go.RowKit
set_option maxRecDepth 100000
set_option maxHeartbeats 20000000
theorem c_spec_l1Table (n : Nat) (p0 : (List GData)) (res : (List Int)) (h : m_spec_l1Table n p0 = some res) : CallsD Tryz.prog 0o00106 [(.slice 2 (List.map rGData p0))] (fun d => d = (.slice 1 (List.map rI res))) := by
 unfold m_spec_l1Table at h
 refine CD Tryz.func70 [.tmp 2] fun β hβ => ?_
 refine sZ ?_
 apply sq
 obtain ⟨x1, hx1, h⟩ := bindE h
 refine rZ ?_ fun K hK => by simp [mkS_len hx1, mkS_rowl hx1 rI [(eI 0)] rfl, (mkS_some hx1).2.1, (mkS_some hx1).2.2]; exact hK
 apply sq
 refine sZ ?_
 obtain ⟨am, ab, h⟩ := bindE h
 obtain ⟨U, N⟩ : ∃ S : ((List Int) × Int) → St, S = fun v => ⟨(updD (fun _ => .any) 3 (.sl 1 0 (v.1).length)), hOfO [some ⟨1, (List.map rI v.1), 0, 0x0003⟩], 1, 70⟩ := ⟨_, rfl⟩
 refine TrD.joinQ U (fun z => am = Ctl.brk z) (fun _ _ hg h => TrD.ghost hg h) ?_ (fun v hz => ?_)
 ·apply TrD.block
  obtain ⟨Y, D⟩ : ∃ S : ((List Int) × Int) → St, S = fun c => ⟨(updD (updD (updD (fun _ => .any) 0 (.slice 2 (List.map rGData p0))) 3 (.sl 1 0 (c.1).length)) 4 (eI c.2)), hOfO [some ⟨1, (List.map rI c.1), 0, 0x0003⟩], 1, 70⟩ := ⟨_, rfl⟩
  refine TrD.whileL Y ab ?_ (fun c az p au ad => ?_)
  ·rw [D]
   exact gC [32]
  rw [congrFun D c]
  apply sq
  refine sZ ?_
  refine TrD.cond (b := ile c.2 (lenZ c.1.length)) (by simp) (fun A => ?_) (fun A => ?_)
  ·rw [if_pos A] at p
   apply TrD.skip
   apply sq
   apply TrD.block
   refine sZ ?_ fun K hK => by simp [A]; exact hK
   obtain ⟨an, ac, p⟩ := bindE p
   obtain ⟨V, O⟩ : ∃ S : ((List Int) × Int) → St, S = fun t => ⟨(updD (updD (updD (fun _ => .any) 0 (.slice 2 (List.map rGData p0))) 3 (.sl 1 0 (t.1).length)) 4 (eI c.2)), hOfO [some ⟨1, (List.map rI t.1), 0, 0x0003⟩], 1, 70⟩ := ⟨_, rfl⟩
   refine TrD.joinQ V (fun z => an = Ctl.brk z) (fun _ _ hg h => TrD.ghost hg h) ?_ (fun t hz => ?_)
   ·apply TrD.block
    obtain ⟨Z, E⟩ : ∃ S : ((List Int) × Int) → St, S = fun a => ⟨(updD (updD (updD (updD (fun _ => .any) 0 (.slice 2 (List.map rGData p0))) 3 (.sl 1 0 (a.1).length)) 4 (eI c.2)) 5 (eI a.2)), hOfO [some ⟨1, (List.map rI a.1), 0, 0x0003⟩], 1, 70⟩ := ⟨_, rfl⟩
    refine TrD.whileL Z ac ?_ (fun a aA m av ae => ?_)
    ·rw [E]
     exact gC [0]
    rw [congrFun E a]
    apply sq
    refine sZ ?_
    refine TrD.cond (b := ilt a.2 (lenZ a.1.length)) (by simp) (fun q => ?_) (fun q => ?_)
    ·rw [if_pos q] at m
     apply TrD.skip
     apply sq
     apply TrD.block
     refine sZ ?_ fun K hK => by simp [q, show ieq 4 0 = false from rfl]; exact hK
     apply sq
     obtain ⟨g, ah, m⟩ := bindE m
     refine rk fun K hK => ?_
     simp
     refine cp (c_spec_l1Ctors p0 (GType.mk (wquo .i64 a.2 4) (wrem a.2 4)) _ ah) ?_
     simp
     apply hK
     refine sZ ?_
     obtain ⟨ak, aa, m⟩ := bindE m
     obtain ⟨T, J⟩ : ∃ S : (List Int) → St, S = fun r => ⟨(updD (updD (updD (updD (fun _ => .any) 0 (.slice 2 (List.map rGData p0))) 3 (.sl 1 0 (r).length)) 4 (eI c.2)) 5 (eI a.2)), hOfO [some ⟨1, (List.map rI r), 0, 0x0003⟩], 1, 70⟩ := ⟨_, rfl⟩
     refine TrD.joinQ T (fun z => ak = Ctl.brk z) (fun _ _ hg h => TrD.ghost hg h) ?_ (fun r hz => ?_)
     ·apply TrD.block
      obtain ⟨W, C⟩ : ∃ S : Nat → (List Int) → St, S = fun j e => ⟨(updD (updD (updD (updD (updD (updD (updD (fun _ => .any) 0 (.slice 2 (List.map rGData p0))) 3 (.sl 1 0 (e).length)) 4 (eI c.2)) 5 (eI a.2)) 6 (.ptr 2 1 0 0)) 7 (.slice 1 (List.map rI g))) 8 (eI (j : Int))), hOfO [some ⟨1, (List.map rI e), 0, 0x0003⟩, some ⟨2, [[(eI (wquo .i64 a.2 4)), (eI (wrem a.2 4))]], 0, 0x0019⟩], 2, 70⟩ := ⟨_, rfl⟩
      refine TrD.limS (sz := 1) (rows := List.map rI g) (seen_slot (d := .slice 1 (List.map rI g)) 33 (by simp)) (fun hlim => ?_)
      rw [List.length_map] at hlim
      refine TrD.forL W aa hlim ?_ (fun j ap e P aw ax aj o ay B ar aq => ?_) (fun e ao => ?_)
      ·rw [C]
       exact gC [0, 73]
      ·rw [congrFun (congrFun C j) e]
       apply sq
       refine sZ ?_ fun K hK => by simp [aj]; exact hK
       refine cT ?_
       apply TrD.skip
       obtain ⟨al, f, B⟩ := bindE B
       obtain ⟨X, w⟩ : ∃ S : (List Int) → St, S = fun s => ⟨(updD (updD (updD (updD (updD (updD (updD (fun _ => .any) 0 (.slice 2 (List.map rGData p0))) 3 (.sl 1 0 (s).length)) 4 (eI c.2)) 5 (eI a.2)) 6 (.ptr 2 1 0 0)) 7 (.slice 1 (List.map rI g))) 8 (eI (j : Int))), hOfO [some ⟨1, (List.map rI s), 0, 0x0003⟩, some ⟨2, [[(eI (wquo .i64 a.2 4)), (eI (wrem a.2 4))]], 0, 0x0019⟩], 2, 70⟩ := ⟨_, rfl⟩
       refine TrD.join X (fun z => al = Ctl.brk z) ?_ (fun s hz => ?_)
       ·apply TrD.block
        apply sq
        refine TrD.ghost (σ' := ⟨(updD (updD (updD (updD (updD (updD (updD (fun _ => .any) 0 (.slice 2 (List.map rGData p0))) 3 (.sl 1 0 (e).length)) 4 (eI c.2)) 5 (eI a.2)) 6 (.ptr 2 1 0 0)) 7 (.slice 1 (List.map rI g))) 8 (eI (j : Int))), hOfO [some ⟨1, (List.map rI e), 0, 0x0003⟩, some ⟨2, [[(eI (wquo .i64 a.2 4)), (eI (wrem a.2 4))]], 0, 0x0019⟩], 2, 70⟩) ?_ ?_
        ·exact gC [0, 1]
        obtain ⟨Q, ai, f⟩ := bindE f
        refine TrD.draw tysOk mixed [0, 1, 2, 3, 4, 5, 6, 7, 8] [1] [] (by rfl) rfl (fun K hK => ?_)
        simp [idx_inb P, idx_row P]
        refine callB (.cons (.same _ _) (.cons (.sl _ _ _ _ _ (by simp; rfl) rfl (by simp) (by simp)) (.cons (.same _ _) (.cons (.same _ _) (.nil _))))) (c_spec_l1Most p0 e (GType.mk (wquo .i64 a.2 4) (wrem a.2 4)) ap _ ai) (by simp) (by simp) (fun aB af => ?_)
        subst af
        refine ⟨by simp, ?_⟩
        simp
        apply hK
        apply sq
        rcases bb (ilt 0 Q) with u | u
        ·rw [if_pos u] at f
         obtain ⟨R, l, f⟩ := bindE f
         rcases bb (ieq R 0) with y | y
         ·rw [if_pos y] at f
          refine rZ ?_ fun K hK => by simp [u, idx_inb l, idx_lt l, elt (idx_get l), y]; exact hK
          refine cT ?_
          obtain ⟨H, F, f⟩ := bindE f
          refine rZ ?_ fun K hK => by simp [idx_inb l, idx_lt l]; exact hK
          cases f
          refine ToAny.mk H rfl ?_
          rw [w]
          exact gc [0, 1] hβ ((((((va.f.s 0 (by simp [(setI_some F).1])).f).f).p 1).f).f) (ln.f.f (by simp [(setI_some F).1]))
         rw [iN y] at f
         refine rZ ?_ fun K hK => by simp [u, idx_inb l, idx_lt l, elt (idx_get l), y]; exact hK
         refine TrD.cond (b := ilt Q R) (by simp) (fun i => ?_) (fun i => ?_)
         ·rw [if_pos i] at f
          obtain ⟨I, G, f⟩ := bindE f
          refine rZ ?_ fun K hK => by simp [idx_inb l, idx_lt l, i]; exact hK
          cases f
          refine ToAny.mk I rfl ?_
          rw [w]
          exact gc [0, 1] hβ ((((((va.f.s 0 (by simp [(setI_some G).1])).f).f).p 1).f).f) (ln.f.f (by simp [(setI_some G).1]))
         rw [iN i] at f
         apply TrD.skip
         cases f
         refine ToAny.mk e rfl ?_
         rw [w]
         exact gC [0, 1]
        rw [iN u] at f
        refine rZ ?_ fun K hK => by simp [u]; exact hK
        refine cF ?_
        apply TrD.skip
        cases f
        refine ToAny.mk e rfl ?_
        rw [w]
        exact gC [0, 1]
       subst hz
       try dsimp only at B
       rw [congrFun w s]
       refine rZ ?_
       cases B
       refine ToAny.mk s rfl ?_
       rw [C]
       exact gc [0, 1] hβ (((((((va.f (by simp [o])).s 0 (by simp [o])).f (by simp [o])).f (by simp [o])).p 1 (by simp [o])).f (by simp [o])).f (by simp [o])) ln.f.f
      rw [congrFun (congrFun C _) e]
      apply sq
      refine sZ ?_ fun K hK => by simp [ilt_len g.length]; exact hK
      refine cF ?_
      refine TrD.exit ?_
      try simp only [↓reduceIte, Nat.reduceEqDiff, Nat.zero_ne_one, Nat.one_ne_zero, OfNat.ofNat_ne_zero, OfNat.zero_ne_ofNat, OfNat.one_ne_ofNat, OfNat.ofNat_ne_one]
      refine ToAny.mk e ao ?_
      rw [J]
      exact gC [0]
     subst hz
     try dsimp only at m
     rw [congrFun J r]
     refine rZ ?_
     cases m
     refine ToAny.mk (r, wadd .i64 a.2 1) rfl ?_
     rw [E]
     exact gC [0]
    rw [iN q] at m
    refine TrD.exit ?_
    try simp only [↓reduceIte, Nat.reduceEqDiff, Nat.zero_ne_one, Nat.one_ne_zero, OfNat.ofNat_ne_zero, OfNat.zero_ne_ofNat, OfNat.one_ne_ofNat, OfNat.ofNat_ne_one]
    cases m
    obtain rfl := ae _ rfl
    refine ToAny.mk (a.1, a.2) rfl ?_
    rw [O]
    exact gC [0]
   subst hz
   try dsimp only at p
   rw [congrFun O t]
   refine rZ ?_
   cases p
   refine ToAny.mk (t.1, wadd .i64 c.2 1) rfl ?_
   rw [D]
   exact gC [0]
  rw [iN A] at p
  refine TrD.exit ?_
  try simp only [↓reduceIte, Nat.reduceEqDiff, Nat.zero_ne_one, Nat.one_ne_zero, OfNat.ofNat_ne_zero, OfNat.zero_ne_ofNat, OfNat.one_ne_ofNat, OfNat.ofNat_ne_one]
  cases p
  obtain rfl := ad _ rfl
  refine ToAny.mk (c.1, c.2) rfl ?_
  rw [N]
  exact gC [0]
 subst hz
 try dsimp only at h
 rw [congrFun N v]
 refine sZ ?_
 cases h
 apply TrD.ret
 refine exitDG (σ' := ⟨(updD (fun _ => .any) 2 (.slice 1 (List.map rI v.1))), hOfO [], 0, 70⟩) ?_ ?_
 ·refine (Ghost.raise 0 (by simp; rfl)).trans ?_
  exact gC [] (ht := (va.u (d0 := (.sl 1 0 (v.1).length)) (by simp) (v_frz (by simp; rfl) rfl (by simp) (by simp) (rv_free (by simp) (by simp)))))
 dsimp only [resD]
 exact eF
instance i_spec_l1Table : ∀ (n : Nat) (p0 : (List GData)), Ct (m_spec_l1Table n p0) fun res => CallsD Tryz.prog 0o00106 [(.slice 2 (List.map rGData p0))] (fun d => d = (.slice 1 (List.map rI res))) := fun n p0 => ⟨c_spec_l1Table n p0⟩
end Go.Proofs.YtmkamncbkkahjaaGreat
