import Derived.Test.YtmkamncbkkahjaaGreatJMir
import Derived.Test.YtmkamncbkkahjaaGreatJAuto
import Derived.Test.YtmkamncbkkahjaaGreatJC2
import Derived.Test.YtmkamncbkkahjaaGreatJC3
import Derived.Test.YtmkamncbkkahjaaGreatJC4
import Derived.Test.YtmkamncbkkahjaaGreatJC6
import Derived.Test.YtmkamncbkkahjaaGreatJC1
set_option linter.unusedSimpArgs false
set_option linter.unusedVariables false
set_option linter.unusedSimpArgs false
set_option linter.unusedVariables false
namespace Go.Proofs.YtmkamncbkkahjaaGreat
open Go Go.RowKit
set_option maxRecDepth 100000
set_option maxHeartbeats 20000000
instance i_impl_CompileClauses : ∀ (n : Nat) (p0 : (List GData)) (p1 : GType) (p2 : (List GClause)) (p3 : Int), Ct (m_impl_CompileClauses n p0 p1 p2 p3) fun res => CallsD Tryz.prog 0o00036 [(.slice 2 (List.map rGData p0)), (.agg (rGType p1)), (.slice 9 (List.map rGClause p2)), (eI p3)] (fun d => d = .tup [(.agg (rGTree res.1)), (eB res.2)]) :=
 au Tryz.func30 m_impl_CompileClauses.eq_1 (.o (.o (.o (.o (.o (.o (.i .z (.o (.i .z (.o (.i .z (.pN 12 3 0x007f (.ls 33 (.f [0, 2, 3, 5, 8, 12] [0, 8, 208] [0, 2, 3, 5, 8, 12, 38, 39, 40] [0, 8, 208] (fun (k381 : Nat) (s377 : (List Grow)) => [(12, .sl 3 208 (s377).length), (40, eI (k381 : Int))]) (fun k381 s377 => [(208, some ⟨3, (List.map rGrow s377), 0, 0x007f⟩)]) (fun k381 s377 => .o (.ls 44 (.f [0, 2, 3, 5, 8, 12, 38, 39, 40] [0, 1, 2] [0, 2, 3, 5, 8, 12, 13, 38, 39, 40, 45, 46, 47] [0, 1, 2] (fun (k441 : Nat) (s437 : (List Grow)) => [(12, .sl 3 2 (s437).length), (47, eI (k441 : Int))]) (fun k441 s437 => [(2, some ⟨3, (List.map rGrow s437), 0, 0x007f⟩)]) (fun k441 s437 => .o (.o (.o (.pF 76 .z)))) (fun s445 => .z)))) (fun s385 => .z)))))))))))))))
theorem c_impl_CompileClauses (n : Nat) (p0 : (List GData)) (p1 : GType) (p2 : (List GClause)) (p3 : Int) : ∀ res, m_impl_CompileClauses n p0 p1 p2 p3 = some res → CallsD Tryz.prog 0o00036 [(.slice 2 (List.map rGData p0)), (.agg (rGType p1)), (.slice 9 (List.map rGClause p2)), (eI p3)] (fun d => d = .tup [(.agg (rGTree res.1)), (eB res.2)]) := (i_impl_CompileClauses n p0 p1 p2 p3).pf
end Go.Proofs.YtmkamncbkkahjaaGreat
set_option linter.unusedSimpArgs false
set_option linter.unusedVariables false
namespace Go.Proofs.YtmkamncbkkahjaaGreat
open Go Go.RowKit
set_option maxRecDepth 100000
set_option maxHeartbeats 20000000
instance i_spec_l1Is : ∀ (p0 : (List GData)) (p1 : GType), Ct (m_spec_l1Is p0 p1) fun res => CallsD Tryz.prog 0o00266 [(.slice 2 (List.map rGData p0)), (.agg (rGType p1))] (fun d => d = (eB res)) :=
 au Tryz.func182 m_spec_l1Is.eq_1 .z
end Go.Proofs.YtmkamncbkkahjaaGreat
set_option linter.unusedSimpArgs false
set_option linter.unusedVariables false
namespace Go.Proofs.YtmkamncbkkahjaaGreat
open Go Go.RowKit
set_option maxRecDepth 100000
set_option maxHeartbeats 20000000
instance i_spec_TypeValid : ∀ (n : Nat) (p0 : (List GData)) (p1 : GType), Ct (m_spec_TypeValid n p0 p1) fun res => CallsD Tryz.prog 0o00153 [(.slice 2 (List.map rGData p0)), (.agg (rGType p1))] (fun d => d = (eB res)) :=
 au Tryz.func107 m_spec_TypeValid.eq_1 .z
end Go.Proofs.YtmkamncbkkahjaaGreat
set_option linter.unusedSimpArgs false
set_option linter.unusedVariables false
namespace Go.Proofs.YtmkamncbkkahjaaGreat
open Go Go.RowKit
set_option maxRecDepth 100000
set_option maxHeartbeats 20000000
instance i_spec_l4Guard : ∀ (p0 : GGuard) (p1 : (List GVarType)), Ct (m_spec_l4Guard p0 p1) fun res => CallsD Tryz.prog 0o00203 [(.agg (rGGuard p0)), (.slice 3 (List.map rGVarType p1))] (fun d => d = (eB res)) :=
 au Tryz.func131 m_spec_l4Guard.eq_1 (.o (.o (.i .z (.j 3 0 [1, 2] [0] (fun (s23 : Unit) => []) (fun _ => []) .z (fun _ => .z)))))
end Go.Proofs.YtmkamncbkkahjaaGreat
set_option linter.unusedSimpArgs false
set_option linter.unusedVariables false
namespace Go.Proofs.YtmkamncbkkahjaaGreat
open Go Go.RowKit
set_option maxRecDepth 100000
set_option maxHeartbeats 20000000
instance i_spec_l4Is : ∀ (n : Nat) (p0 : (List GData)) (p1 : GType) (p2 : GClause), Ct (m_spec_l4Is n p0 p1 p2) fun res => CallsD Tryz.prog 0o00077 [(.slice 2 (List.map rGData p0)), (.agg (rGType p1)), (.agg (rGClause p2))] (fun d => d = (eB res)) :=
 au Tryz.func63 m_spec_l4Is.eq_1 (.o (.o (.o (.o (.g [0, 4, 5] [0, 8] [] [] (.o (.i (.o (.o (.d [0, 1, 2, 3, 4, 5, 6, 7, 8, 9, 10, 11, 12, 13, 14, 15] [0, 1] [] .z))) (.d [0, 1, 2, 3, 4, 5, 6, 7, 8, 9, 10, 11, 12, 13, 14, 15] [0, 1] [] .z))))))))
end Go.Proofs.YtmkamncbkkahjaaGreat
set_option linter.unusedSimpArgs false
set_option linter.unusedVariables false
namespace Go.Proofs.YtmkamncbkkahjaaGreat
open Go Go.RowKit
set_option maxRecDepth 100000
set_option maxHeartbeats 20000000
instance i_spec_ClausesValid : ∀ (n : Nat) (p0 : (List GData)) (p1 : GType) (p2 : (List GClause)), Ct (m_spec_ClausesValid n p0 p1 p2) fun res => CallsD Tryz.prog 0o00110 [(.slice 2 (List.map rGData p0)), (.agg (rGType p1)), (.slice 9 (List.map rGClause p2))] (fun d => d = (eB res)) :=
 au Tryz.func72 m_spec_ClausesValid.eq_1 (.o (.o (.o (.o (.o (.i .z (.i .z (.ls 2 (.f [] [] [0, 2, 4, 7] [0] (fun (k70 : Nat) (s66 : Unit) => [(7, eI (k70 : Int))]) (fun k70 s66 => []) (fun k70 s66 => .o (.g [0, 2, 4, 7] [0] [] [] (.o (.d [0, 1, 2, 3, 4, 5, 6, 7] [0] [] .z)))) (fun s74 => .z))))))))))
end Go.Proofs.YtmkamncbkkahjaaGreat
set_option linter.unusedSimpArgs false
set_option linter.unusedVariables false
namespace Go.Proofs.YtmkamncbkkahjaaGreat
open Go Go.RowKit
set_option maxRecDepth 100000
set_option maxHeartbeats 20000000
instance i_spec_l7Other : ∀ (p0 : (List Gl7Row)) (p1 : Int), Ct (m_spec_l7Other p0 p1) fun res => CallsD Tryz.prog 0o00340 [(.slice 3 (List.map rGl7Row p0)), (eI p1)] (fun d => d = (.slice 3 (List.map rGl7Row res))) :=
 au Tryz.func224 m_spec_l7Other.eq_1 (.o (.o (.ls 0 (.f [5] [8] [0, 1, 5, 6] [8] (fun (k71 : Nat) (s67 : (List Gl7Row)) => [(5, .sl 3 8 (s67).length), (6, eI (k71 : Int))]) (fun k71 s67 => [(8, some ⟨3, (List.map rGl7Row s67), 0, 0x0128⟩)]) (fun k71 s67 => .o (.j 5 0 [0, 1, 5, 6] [0] (fun (s78 : (List Gl7Row)) => [(5, .sl 3 0 (s78).length)]) (fun s78 => [(0, some ⟨3, (List.map rGl7Row s78), 0, 0x0128⟩)]) .z (fun _ => .z))) (fun s75 => .z)))))
end Go.Proofs.YtmkamncbkkahjaaGreat
set_option linter.unusedSimpArgs false
set_option linter.unusedVariables false
namespace Go.Proofs.YtmkamncbkkahjaaGreat
open Go Go.RowKit
set_option maxRecDepth 100000
set_option maxHeartbeats 20000000
instance i_spec_l5Alive : ∀ (n : Nat) (p0 : (List GData)) (p1 : (List Int)) (p2 : GType) (p3 : GPattern), Ct (m_spec_l5Alive n p0 p1 p2 p3) fun res => CallsD Tryz.prog 0o00424 [(.slice 2 (List.map rGData p0)), (.slice 1 (List.map rI p1)), (.agg (rGType p2)), (.agg (rGPattern p3))] (fun d => d = (eB res)) :=
 ar (au Tryz.func276 m_spec_l5Alive.eq_2 (.o (.o (.o (.o (.o (.o (.i .z (.i .z (.o (.ls 25 (.f [] [] [0, 1, 7, 9, 10] [8] (fun (k71 : Nat) (s67 : Unit) => [(10, eI (k71 : Int))]) (fun k71 s67 => []) (fun k71 s67 => .o (.g [0, 1, 7, 9, 10] [0] [] [] (.o (.o (.d [0, 1, 2, 3, 4, 5, 6, 7, 8, 9, 10, 11, 12] [0] [] .z))))) (fun s75 => .z)))))))))))))
end Go.Proofs.YtmkamncbkkahjaaGreat
set_option linter.unusedSimpArgs false
set_option linter.unusedVariables false
namespace Go.Proofs.YtmkamncbkkahjaaGreat
open Go Go.RowKit
set_option maxRecDepth 100000
set_option maxHeartbeats 20000000
instance i_spec_l5Wide : ∀ (p0 : (List GData)) (p1 : GType) (p2 : Int), Ct (m_spec_l5Wide p0 p1 p2) fun res => CallsD Tryz.prog 0o00425 [(.slice 2 (List.map rGData p0)), (.agg (rGType p1)), (eI p2)] (fun d => d = (.agg (rGPattern res))) :=
 au Tryz.func277 m_spec_l5Wide.eq_1 (.o (.o (.b fun (p2 : Int) => .o (.pC 32 5 6 0x0029 (.ls 15 (.f [6, 7] [8, 32, 96] [6, 7, 8, 9] [8, 32, 96] (fun (k49 : Nat) (s45 : (List GPattern)) => [(9, eI (k49 : Int))]) (fun k49 s45 => [(1000000032, some ⟨6, [[(eI 4), (eI p2), (eI 0), (eI 0), (eI 0), (.sl 6 96 (s45).length)]], 0, 0x0029⟩), (96, some ⟨6, (List.map rGPattern s45), 0, 0x0029⟩)]) (fun k49 s45 => .o (.g [6, 7, 8, 9] [0, 1, 2] [] [(1000000001, some ⟨6, [[(eI 4), (eI p2), (eI 0), (eI 0), (eI 0), (.sl 6 2 (s45).length)]], 0, 0x0029⟩)] (.o (.o (.d [0, 1, 2, 3, 4, 5, 6] [1] [27] .z))))) (fun s53 => .z)))))))
end Go.Proofs.YtmkamncbkkahjaaGreat
set_option linter.unusedSimpArgs false
set_option linter.unusedVariables false
namespace Go.Proofs.YtmkamncbkkahjaaGreat
open Go Go.RowKit
set_option maxRecDepth 100000
set_option maxHeartbeats 20000000
instance i_spec_l7Cut : ∀ (p0 : (List Gl7Row)) (p1 : Int) (p2 : Int), Ct (m_spec_l7Cut p0 p1 p2) fun res => CallsD Tryz.prog 0o00426 [(.slice 3 (List.map rGl7Row p0)), (eI p1), (eI p2)] (fun d => d = (eB res)) :=
 au Tryz.func278 m_spec_l7Cut.eq_1 (.o (.o (.o (.ls 0 (.f [] [] [0, 1, 2, 7] [] (fun (k139 : Nat) (s135 : Unit) => [(7, eI (k139 : Int))]) (fun k139 s135 => []) (fun k139 s135 => .o (.j 4 0 [0, 1, 2, 7] [] (fun (s153 : Unit) => []) (fun _ => []) .z (fun _ => .z))) (fun s143 => .z))))))
end Go.Proofs.YtmkamncbkkahjaaGreat
set_option linter.unusedSimpArgs false
set_option linter.unusedVariables false
namespace Go.Proofs.YtmkamncbkkahjaaGreat
open Go Go.RowKit
set_option maxRecDepth 100000
set_option maxHeartbeats 20000000
instance i_spec_l7Cuts : ∀ (n : Nat) (p0 : (List GData)) (p1 : Gl7Column) (p2 : (List Gl7Row)) (p3 : Int), Ct (m_spec_l7Cuts n p0 p1 p2 p3) fun res => CallsD Tryz.prog 0o00342 [(.slice 2 (List.map rGData p0)), (.agg (rGl7Column p1)), (.slice 3 (List.map rGl7Row p2)), (eI p3)] (fun d => d = (.slice 9 (List.map rGBranch res))) :=
 au Tryz.func226 m_spec_l7Cuts.eq_1 (.o (.o (.o (.o (.o (.i (.o (.o (.ls 25 (.f [9] [16] [0, 5, 9, 10, 11, 12] [0, 16] (fun (k203 : Nat) (s199 : (List GBranch)) => [(9, .sl 9 16 (s199).length), (12, eI (k203 : Int))]) (fun k203 s199 => [(16, some ⟨9, (List.map rGBranch s199), 0, 0x008e⟩)]) (fun k203 s199 => .o (.j 8 0 [0, 5, 9, 10, 11, 12] [0, 1] (fun (s212 : (List GBranch)) => [(9, .sl 9 1 (s212).length)]) (fun s212 => [(1, some ⟨9, (List.map rGBranch s212), 0, 0x008e⟩)]) (.g [0, 5, 9, 10, 11, 12] [0, 1] [] [] (.o (.o (.d [0, 1, 2, 3, 4, 5, 6, 7, 8, 9, 10, 11, 12] [0] [] .z)))) (fun _ => .z))) (fun s207 => .z))))) (.w [9] [16] [2, 3, 9, 13, 14] [16] (fun (s381 : (List GBranch) × Int × Int) => [(9, .sl 9 16 (s381.1).length), (13, eI s381.2.1), (14, eI s381.2.2)]) (fun s381 => [(16, some ⟨9, (List.map rGBranch s381.1), 0, 0x008e⟩)]) (fun s381 => .i (.j 15 0 [2, 3, 9, 13, 14] [0] (fun (s404 : (List GBranch) × Int) => [(9, .sl 9 0 (s404.1).length), (13, eI s404.2)]) (fun s404 => [(0, some ⟨9, (List.map rGBranch s404.1), 0, 0x008e⟩)]) .z (fun _ => .z)) .z) (fun s389 => .z))))))))
end Go.Proofs.YtmkamncbkkahjaaGreat
set_option linter.unusedSimpArgs false
set_option linter.unusedVariables false
namespace Go.Proofs.YtmkamncbkkahjaaGreat
open Go Go.RowKit
set_option maxRecDepth 100000
set_option maxHeartbeats 20000000
instance i_spec_l7Count : ∀ (p0 : (List Gl7Row)) (p1 : Int), Ct (m_spec_l7Count p0 p1) fun res => CallsD Tryz.prog 0o00423 [(.slice 3 (List.map rGl7Row p0)), (eI p1)] (fun d => d = (eI res)) :=
 au Tryz.func275 m_spec_l7Count.eq_1 (.o (.o (.ls 0 (.f [5] [] [0, 1, 5, 6] [] (fun (k71 : Nat) (s67 : Int) => [(5, eI s67), (6, eI (k71 : Int))]) (fun k71 s67 => []) (fun k71 s67 => .o (.j 5 0 [0, 1, 5, 6] [] (fun (s78 : Int) => [(5, eI s78)]) (fun _ => []) .z (fun _ => .z))) (fun s75 => .z)))))
end Go.Proofs.YtmkamncbkkahjaaGreat
set_option linter.unusedSimpArgs false
set_option linter.unusedVariables false
namespace Go.Proofs.YtmkamncbkkahjaaGreat
open Go Go.RowKit
set_option maxRecDepth 100000
set_option maxHeartbeats 20000000
instance i_spec_l7First : ∀ (p0 : Gl7Row), Ct (m_spec_l7First p0) fun res => CallsD Tryz.prog 0o00337 [(.agg (rGl7Row p0))] (fun d => d = (eI res)) :=
 au Tryz.func223 m_spec_l7First.eq_1 (.b fun (p0 : Gl7Row) => .lc 0 1 6 rGPattern p0.pats (.f [] [] [1, 3] [0] (fun (k44 : Nat) (s40 : Unit) => [(3, eI (k44 : Int))]) (fun k44 s40 => []) (fun k44 s40 => .z) (fun s48 => .z)))
end Go.Proofs.YtmkamncbkkahjaaGreat
set_option linter.unusedSimpArgs false
set_option linter.unusedVariables false
namespace Go.Proofs.YtmkamncbkkahjaaGreat
open Go Go.RowKit
set_option maxRecDepth 100000
set_option maxHeartbeats 20000000
instance i_spec_l7Pick : ∀ (n : Nat) (p0 : (List GData)) (p1 : (List Gl7Column)) (p2 : (List Gl7Row)) (p3 : Int), Ct (m_spec_l7Pick n p0 p1 p2 p3) fun res => CallsD Tryz.prog 0o00341 [(.slice 2 (List.map rGData p0)), (.slice 3 (List.map rGl7Column p1)), (.slice 3 (List.map rGl7Row p2)), (eI p3)] (fun d => d = (eI res)) :=
 au Tryz.func225 m_spec_l7Pick.eq_1 (.o (.o (.o (.o (.o (.o (.o (.w [9] [] [0, 1, 2, 3, 9, 10] [] (fun (s543 : Int × Int) => [(9, eI s543.1), (10, eI s543.2)]) (fun s543 => []) (fun s543 => .i (.i (.j 5 0 [0, 1, 2, 3, 9, 10] [] (fun (s608 : Int) => [(9, eI s608)]) (fun _ => []) (.o (.i .z (.j 6 0 [0, 1, 2, 3, 9, 10] [] (fun (s626 : Int) => [(9, eI s626)]) (fun _ => []) .z (fun s626 => .g [0, 1, 2, 3, 9, 10] [] [] [] (.i (.o (.o (.o (.o (.d [0, 1, 2, 3, 4, 5, 6, 7, 8, 9, 12, 13, 14, 15, 16, 17, 18, 10, 11, 19, 20, 21, 22] [] [] .z))))) (.d [0, 1, 2, 3, 4, 5, 6, 7, 8, 9, 12, 13, 14, 15, 16, 17, 18, 10, 11, 19, 20, 21, 22] [] [] .z)))))) (fun _ => .z)) .z) .z) (fun s551 => .z)))))))))
end Go.Proofs.YtmkamncbkkahjaaGreat
set_option linter.unusedSimpArgs false
set_option linter.unusedVariables false
namespace Go.Proofs.YtmkamncbkkahjaaGreat
open Go Go.RowKit
set_option maxRecDepth 100000
set_option maxHeartbeats 20000000
instance i_spec_l7Path : ∀ (p0 : (List Int)) (p1 : Int), Ct (m_spec_l7Path p0 p1) fun res => CallsD Tryz.prog 0o00361 [(.slice 1 (List.map rI p0)), (eI p1)] (fun d => d = (.slice 1 (List.map rI res))) :=
 au Tryz.func241 m_spec_l7Path.eq_1 .z
end Go.Proofs.YtmkamncbkkahjaaGreat
set_option linter.unusedSimpArgs false
set_option linter.unusedVariables false
namespace Go.Proofs.YtmkamncbkkahjaaGreat
open Go Go.RowKit
set_option maxRecDepth 100000
set_option maxHeartbeats 20000000
instance i_spec_l7Narrow : ∀ (p0 : (List GData)) (p1 : (List Gl7Column)) (p2 : Int) (p3 : GBranch), Ct (m_spec_l7Narrow p0 p1 p2 p3) fun res => CallsD Tryz.prog 0o00343 [(.slice 2 (List.map rGData p0)), (.slice 3 (List.map rGl7Column p1)), (eI p2), (.agg (rGBranch p3))] (fun d => d = (.slice 3 (List.map rGl7Column res))) :=
 au Tryz.func227 m_spec_l7Narrow.eq_1 (.o (.o (.o (.o (.o (.o (.j 2 0 [1, 2, 9] [48] (fun (s38 : (List Gl7Column)) => [(9, .sl 3 48 (s38).length)]) (fun s38 => [(48, some ⟨3, (List.map rGl7Column s38), 0, 0x00eb⟩)]) (.i (.g [0, 1, 2, 7, 9] [0, 48] [] [] (.o (.o (.d [0, 1, 2, 3, 4, 5, 6, 7, 8, 9] [0] [] (.ls 28 (.f [1, 2, 9] [1] [1, 2, 9, 10, 11] [1] (fun (k67 : Nat) (s63 : (List Gl7Column)) => [(9, .sl 3 1 (s63).length), (11, eI (k67 : Int))]) (fun k67 s63 => [(1, some ⟨3, (List.map rGl7Column s63), 0, 0x00eb⟩)]) (fun k67 s63 => .o (.g [1, 2, 9, 10, 11] [0] [] [] (.o (.o (.d [0, 1, 2, 3, 4, 5, 6, 8, 9, 10, 11, 7, 12, 13, 14, 15] [] [] .z))))) (fun s71 => .z))))))) .z) (fun _ => .z))))))))
end Go.Proofs.YtmkamncbkkahjaaGreat
set_option linter.unusedSimpArgs false
set_option linter.unusedVariables false
namespace Go.Proofs.YtmkamncbkkahjaaGreat
open Go Go.RowKit
set_option maxRecDepth 100000
set_option maxHeartbeats 20000000
instance i_spec_l7Strip_o : ∀ (n : Nat) (p0 : Gl7Row) (p1 : GPattern) (p2 : (List Int)), Ct (m_spec_l7Strip_o n p0 p1 p2) fun res => CallsH Tryz.prog 0o00345 [⟨6, List.map rGPattern p0.pats, 0, 0x0029⟩] [.agg [(eI p0.clause), .sl 6 0 p0.pats.length, (.slice 2 (List.map rGPathBind p0.binds))], (.agg (rGPattern p1)), (.slice 1 (List.map rI p2))] (fun H d => H = [some ⟨6, List.map rGPattern res.1.pats, 0, 0x0029⟩] ∧ d = .tup [.agg [(eI res.1.clause), .sl 6 0 res.1.pats.length, (.slice 2 (List.map rGPathBind res.1.binds))], (.agg (rGPattern res.2))]) :=
 au Tryz.func229 m_spec_l7Strip_o.eq_1 (.o (.b fun (p0 : Gl7Row) => .o (.b fun (p2 : (List Int)) => .w [2, 3, 4, 6, 7] [0, 1, 9, 17, 25] [2, 3, 4, 6, 7] [0, 1, 9, 17, 25] (fun (s16 : (List GPathBind) × GPattern) => []) (fun s16 => [(1000000001, some ⟨3, [[(eI p0.clause), (.sl 6 0 (p0.pats).length), (.slice 2 (List.map rGPathBind s16.1))]], 0, 0x0128⟩), (9, some ⟨6, [(rGPattern s16.2)], 0, 0x0029⟩)]) (fun s16 => .i (.g [2, 3, 4, 6, 7] [0, 1, 2, 3, 4] [] [(1000000001, some ⟨3, [[(eI p0.clause), (.sl 6 0 (p0.pats).length), (.slice 2 (List.map rGPathBind s16.1))]], 0, 0x0128⟩)] (.o (.o (.o (.dz [1, 2, 4, 5, 7, 0, 3, 6, 8, 9, 10, 11, 12, 13] [1, 2] [1048593] [23] (.o (.pF 2097168 (.pF 2097184 .z)))))))) .z) (fun s24 => .i (.g [2, 3, 4, 6, 7] [0, 1, 2, 3, 4] [] [(1000000001, some ⟨3, [[(eI p0.clause), (.sl 6 0 (p0.pats).length), (.slice 2 (List.map rGPathBind s24.1))]], 0, 0x0128⟩)] (.o (.o (.o (.dz [1, 2, 4, 5, 7, 0, 3, 6, 8, 9, 10, 11, 12, 13] [1, 2] [1048613] [43] (.pF 2097168 (.g [3, 6, 7] [0, 1, 2097184, 3, 4] [] [(1000000001, some ⟨3, [[(eI p0.clause), (.sl 6 0 (p0.pats).length), (.sl 2 2097184 ((s24.1 ++ [(GPathBind.mk s24.2.var p2)])).length)]], 0, 0x0128⟩), (2097184, some ⟨2, (List.map rGPathBind (s24.1 ++ [(GPathBind.mk s24.2.var p2)])), 0, 0x008c⟩)] (.o (.d [0, 1, 2, 3] [1] [] (.pF 2 .z)))))))))) (.g [3, 4, 6, 7] [0, 1, 2, 3, 4] [] [(1000000001, some ⟨3, [[(eI p0.clause), (.sl 6 0 (p0.pats).length), (.slice 2 (List.map rGPathBind s24.1))]], 0, 0x0128⟩)] (.d [0, 1, 2, 3] [1, 2] [] .z))))))
end Go.Proofs.YtmkamncbkkahjaaGreat
set_option linter.unusedSimpArgs false
set_option linter.unusedVariables false
namespace Go.Proofs.YtmkamncbkkahjaaGreat
open Go Go.RowKit
set_option maxRecDepth 100000
set_option maxHeartbeats 20000000
instance i_spec_l7Fits : ∀ (p0 : GPattern) (p1 : GBranch), Ct (m_spec_l7Fits p0 p1) fun res => CallsD Tryz.prog 0o00427 [(.agg (rGPattern p0)), (.agg (rGBranch p1))] (fun d => d = (eB res)) :=
 au Tryz.func279 m_spec_l7Fits.eq_1 .z
end Go.Proofs.YtmkamncbkkahjaaGreat
set_option linter.unusedSimpArgs false
set_option linter.unusedVariables false
namespace Go.Proofs.YtmkamncbkkahjaaGreat
open Go Go.RowKit
set_option maxRecDepth 100000
set_option maxHeartbeats 20000000
instance i_spec_l7Keep : ∀ (n : Nat) (p0 : (List GData)) (p1 : (List Gl7Column)) (p2 : (List Gl7Row)) (p3 : Int) (p4 : GBranch), Ct (m_spec_l7Keep n p0 p1 p2 p3 p4) fun res => CallsD Tryz.prog 0o00344 [(.slice 2 (List.map rGData p0)), (.slice 3 (List.map rGl7Column p1)), (.slice 3 (List.map rGl7Row p2)), (eI p3), (.agg (rGBranch p4))] (fun d => d = (.slice 3 (List.map rGl7Row res))) :=
 au Tryz.func228 m_spec_l7Keep.eq_1 (.o (.o (.o (.o (.o (.o (.o (.ls 2 (.f [11] [16] [1, 2, 3, 9, 11, 12, 13] [0, 16] (fun (k1872 : Nat) (s1868 : (List Gl7Row)) => [(11, .sl 3 16 (s1868).length), (13, eI (k1872 : Int))]) (fun k1872 s1868 => [(16, some ⟨3, (List.map rGl7Row s1868), 0, 0x0128⟩)]) (fun k1872 s1868 => .o (.j 6 0 [1, 2, 3, 9, 11, 12, 13] [0, 1] (fun (s2059 : (List Gl7Row)) => [(11, .sl 3 1 (s2059).length)]) (fun s2059 => [(1, some ⟨3, (List.map rGl7Row s2059), 0, 0x0128⟩)]) (.o (.o (.i .z (.g [1, 2, 3, 9, 11, 12, 13, 14] [0, 1, 98] [] [] (.o (.o (.dz [0, 1, 2, 3, 4, 5, 6, 7, 8, 9, 11, 12, 13, 14, 15, 16, 17, 10, 18, 19, 20, 21] [] [1048591] [] (.w [1, 2, 3, 9, 11, 12, 13, 15] [0, 1, 1048591, 2097160] [1, 2, 3, 9, 11, 12, 13, 14, 15, 16] [0, 1, 2, 1048591, 2097160] (fun (s2208 : Int × (List GPattern) × (List GPathBind) × Int) => [(16, eI s2208.2.2.2)]) (fun s2208 => [(1001048591, some ⟨3, [[(eI s2208.1), (.sl 6 2097160 (s2208.2.1).length), (.slice 2 (List.map rGPathBind s2208.2.2.1))]], 0, 0x0128⟩), (2097160, some ⟨6, (List.map rGPattern s2208.2.1), 0, 0x0029⟩)]) (fun s2208 => .i (.o (.j 13 0 [1, 2, 3, 9, 11, 12, 13, 14, 15, 16, 17] [0, 1, 2, 3, 4, 93] (fun (s2233 : GPattern) => []) (fun s2233 => [(1000000003, some ⟨3, [[(eI s2208.1), (.sl 6 4 (s2208.2.1).length), (.slice 2 (List.map rGPathBind s2208.2.2.1))]], 0, 0x0128⟩), (93, some ⟨6, [(rGPattern s2233)], 0, 0x0029⟩)]) .z (fun _ => .g [1, 2, 3, 9, 11, 12, 13, 14, 15, 16, 17] [0, 1, 2, 3, 4, 5] [] [(1000000003, some ⟨3, [[(eI s2208.1), (.sl 6 4 (s2208.2.1).length), (.slice 2 (List.map rGPathBind s2208.2.2.1))]], 0, 0x0128⟩)] (.o (.o (.dz [0, 1, 2, 3, 4, 5, 6, 7, 8, 9, 10, 11, 12, 13, 14] [3, 5] [1048594, 1048595] [] .z)))))) .z) (fun s2216 => .g [1, 2, 3, 9, 11, 12, 13, 15] [0, 1, 2, 3] [] [(1000000002, some ⟨3, [[(eI s2216.1), (.sl 6 3 (s2216.2.1).length), (.slice 2 (List.map rGPathBind s2216.2.2.1))]], 0, 0x0128⟩)] (.o (.o (.d [0, 1, 2, 3, 4, 5, 6, 7, 8, 9, 10, 11, 12] [2] [117] (.o (.pF 4 .z)))))))))))))) (fun _ => .z))) (fun s1876 => .z))))))))))
end Go.Proofs.YtmkamncbkkahjaaGreat
set_option linter.unusedSimpArgs false
set_option linter.unusedVariables false
namespace Go.Proofs.YtmkamncbkkahjaaGreat
open Go Go.RowKit
set_option maxRecDepth 100000
set_option maxHeartbeats 20000000
instance i_spec_l7Binds : ∀ (n : Nat) (p0 : (List GPathBind)), Ct (m_spec_l7Binds n p0) fun res => CallsD Tryz.prog 0o00255 [(.slice 2 (List.map rGPathBind p0))] (fun d => d = (.slice 2 (List.map rGPathBind res))) :=
 au Tryz.func173 m_spec_l7Binds.eq_1 (.o (.o (.w [3] [8] [0, 3, 4] [8] (fun (s496 : (List GPathBind) × Int) => [(3, .sl 2 8 (s496.1).length), (4, eI s496.2)]) (fun s496 => [(8, some ⟨2, (List.map rGPathBind s496.1), 0, 0x008c⟩)]) (fun s496 => .i (.ls 0 (.f [0, 3, 4] [0] [0, 3, 4, 5] [0] (fun (k587 : Nat) (s583 : (List GPathBind)) => [(3, .sl 2 0 (s583).length), (5, eI (k587 : Int))]) (fun k587 s583 => [(0, some ⟨2, (List.map rGPathBind s583), 0, 0x008c⟩)]) (fun k587 s583 => .o (.j 8 0 [0, 3, 4, 5] [0] (fun (s595 : (List GPathBind)) => [(3, .sl 2 0 (s595).length)]) (fun s595 => [(0, some ⟨2, (List.map rGPathBind s595), 0, 0x008c⟩)]) (.i (.o (.o (.pF 153 .z))) .z) (fun _ => .z))) (fun s591 => .z))) .z) (fun s504 => .z))))
end Go.Proofs.YtmkamncbkkahjaaGreat
set_option linter.unusedSimpArgs false
set_option linter.unusedVariables false
namespace Go.Proofs.YtmkamncbkkahjaaGreat
open Go Go.RowKit
set_option maxRecDepth 100000
set_option maxHeartbeats 20000000
instance i_spec_l7Tree : ∀ (n : Nat) (p0 : (List GData)) (p1 : (List GClause)) (p2 : (List Gl7Column)) (p3 : (List Gl7Row)) (p4 : Int) (p5 : Int), Ct (m_spec_l7Tree n p0 p1 p2 p3 p4 p5) fun res => CallsD Tryz.prog 0o00242 [(.slice 2 (List.map rGData p0)), (.slice 9 (List.map rGClause p1)), (.slice 3 (List.map rGl7Column p2)), (.slice 3 (List.map rGl7Row p3)), (eI p4), (eI p5)] (fun d => d = .tup [(.agg (rGTree res.1)), (eI res.2)]) :=
 ar (au Tryz.func162 m_spec_l7Tree.eq_2 (.o (.o (.o (.o (.o (.o (.o (.o (.i .z (.i .z (.o (.o (.i (.g [0, 1, 2, 3, 4, 5, 12, 14] [0, 120] [] [] (.o (.dz [0, 1, 2, 3, 4, 5, 6, 7] [1] [1048591] [] .z))) (.o (.b fun (x31 : Gl7Column) => .o (.o (.pC 272 4 9 0x008e (.ls 96 (.f [5, 12, 19] [0, 272, 256, 368] [0, 1, 2, 3, 4, 5, 12, 18, 19, 20, 21] [0, 272, 256, 368] (fun (k145 : Nat) (s141 : Int × (List GBranch)) => [(5, eI s141.1), (21, eI (k145 : Int))]) (fun k145 s141 => [(1000000272, some ⟨6, [[(eI 2), (eI 0), .nil, (.sl 1 256 (x31.path).length), (.sl 9 368 (s141.2).length), .nil]], 0, 0x0045⟩), (368, some ⟨9, (List.map rGBranch s141.2), 0, 0x008e⟩)]) (fun k145 s141 => .o (.i (.g [0, 1, 2, 3, 4, 5, 12, 18, 19, 20, 21, 22] [0, 1, 2, 3, 100] [] [(1000000001, some ⟨6, [[(eI 2), (eI 0), .nil, (.sl 1 2 (x31.path).length), (.sl 9 3 (s141.2).length), .nil]], 0, 0x0045⟩)] (.o (.o (.o (.dz [0, 1, 2, 3, 4, 5, 7, 8, 9, 10, 11, 13, 14, 6, 12, 15, 16, 17, 18, 19, 20, 21] [4] [1048599] [] .z))))) .z)) (fun s149 => .z)))))))))))))))))))))
end Go.Proofs.YtmkamncbkkahjaaGreat
set_option linter.unusedSimpArgs false
set_option linter.unusedVariables false
namespace Go.Proofs.YtmkamncbkkahjaaGreat
open Go Go.RowKit
set_option maxRecDepth 100000
set_option maxHeartbeats 20000000
instance i_spec_l7Strip : ∀ (n : Nat) (p0 : Gl7Row) (p1 : GPattern) (p2 : (List Int)), Ct (m_spec_l7Strip n p0 p1 p2) fun res => CallsD Tryz.prog 0o00345 [(.agg (rGl7Row p0)), (.agg (rGPattern p1)), (.slice 1 (List.map rI p2))] (fun d => d = .tup [(.agg (rGl7Row res.1)), (.agg (rGPattern res.2))]) :=
 au Tryz.func229 m_spec_l7Strip.eq_1 (.o (.b fun (p0 : Gl7Row) => .o (.b fun (p2 : (List Int)) => .w [2, 3, 4, 6, 7] [0, 8, 16, 24] [2, 3, 4, 6, 7] [0, 8, 16, 24] (fun (s16 : (List GPathBind) × GPattern) => []) (fun s16 => [(0, some ⟨3, [[(eI p0.clause), (.slice 6 (List.map rGPattern p0.pats)), (.slice 2 (List.map rGPathBind s16.1))]], 0, 0x0128⟩), (8, some ⟨6, [(rGPattern s16.2)], 0, 0x0029⟩)]) (fun s16 => .i (.g [2, 3, 4, 6, 7] [0, 1, 2, 3] [] [] (.o (.o (.o (.dz [1, 2, 4, 5, 7, 0, 3, 6, 8, 9, 10, 11, 12, 13] [0, 1] [1048593] [23] (.o (.pF 2097168 (.pF 2097184 .z)))))))) .z) (fun s24 => .i (.g [2, 3, 4, 6, 7] [0, 1, 2, 3] [] [] (.o (.o (.o (.dz [1, 2, 4, 5, 7, 0, 3, 6, 8, 9, 10, 11, 12, 13] [0, 1] [1048613] [43] (.pF 2097168 (.g [3, 6, 7] [0, 2097184, 2, 3] [] [(1000000000, some ⟨3, [[(eI p0.clause), (.slice 6 (List.map rGPattern p0.pats)), (.sl 2 2097184 ((s24.1 ++ [(GPathBind.mk s24.2.var p2)])).length)]], 0, 0x0128⟩), (2097184, some ⟨2, (List.map rGPathBind (s24.1 ++ [(GPathBind.mk s24.2.var p2)])), 0, 0x008c⟩)] (.o (.d [0, 1, 2, 3] [0] [] .z))))))))) (.g [3, 4, 6, 7] [0, 1, 2, 3] [] [] (.d [0, 1, 2, 3] [0, 1] [] .z))))))
end Go.Proofs.YtmkamncbkkahjaaGreat
set_option linter.unusedSimpArgs false
set_option linter.unusedVariables false
namespace Go.Proofs.YtmkamncbkkahjaaGreat
open Go Go.RowKit
set_option maxRecDepth 100000
set_option maxHeartbeats 20000000
instance i_spec_l3Tuples : ∀ (p0 : (List (List GPattern))), Ct (m_spec_l3Tuples p0) fun res => CallsD Tryz.prog 0o00253 [(.slice 1 (List.map (rL 6 rGPattern) p0))] (fun d => d = (.slice 1 (List.map (rL 6 rGPattern) res))) :=
 au Tryz.func171 m_spec_l3Tuples.eq_1 (.o (.pF 8 (.ls 0 (.f [3] [16] [0, 3, 4] [16] (fun (k12196 : Nat) (s12192 : (List (List GPattern))) => [(3, .sl 1 16 (s12192).length), (4, eI (k12196 : Int))]) (fun k12196 s12192 => [(16, some ⟨1, (List.map (rL 6 rGPattern) s12192), 0, 0x0027⟩)]) (fun k12196 s12192 => .b fun (x12197 : (List GPattern)) => .ll 0 (.f [0, 4, 5] [33] [0, 3, 4, 5, 6] [0, 33] (fun (k13570 : Nat) (s13566 : (List (List GPattern))) => [(5, .sl 1 33 (s13566).length), (6, eI (k13570 : Int))]) (fun k13570 s13566 => [(33, some ⟨1, (List.map (rL 6 rGPattern) s13566), 0, 0x0027⟩)]) (fun k13570 s13566 => .o (.i (.le 0 0 6 rGPattern x12197 x12197 (.f [0, 3, 4, 5, 6] [0, 1] [0, 3, 4, 5, 6, 7] [0, 1] (fun (k13668 : Nat) (s13664 : (List (List GPattern))) => [(5, .sl 1 1 (s13664).length), (7, eI (k13668 : Int))]) (fun k13668 s13664 => [(1, some ⟨1, (List.map (rL 6 rGPattern) s13664), 0, 0x0027⟩)]) (fun k13668 s13664 => .o (.i (.g [0, 3, 4, 5, 6, 7] [0, 1] [] [] (.o (.o (.o (.dz [0, 2, 3, 4, 5, 7, 8, 9, 10, 11, 12, 13, 1, 6, 14, 15, 16, 17, 18] [0] [1048632] [] (.pF 2097168 .z)))))) .z)) (fun s13672 => .z))) .z)) (fun s13574 => .z))) (fun s12200 => .z)))))
theorem c_spec_l3Tuples (p0 : (List (List GPattern))) : ∀ res, m_spec_l3Tuples p0 = some res → CallsD Tryz.prog 0o00253 [(.slice 1 (List.map (rL 6 rGPattern) p0))] (fun d => d = (.slice 1 (List.map (rL 6 rGPattern) res))) := (i_spec_l3Tuples p0).pf
end Go.Proofs.YtmkamncbkkahjaaGreat
