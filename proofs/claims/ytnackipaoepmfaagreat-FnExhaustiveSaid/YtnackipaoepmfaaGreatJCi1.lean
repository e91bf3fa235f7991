import Derived.Test.YtnackipaoepmfaaGreatJMir
import Derived.Test.YtnackipaoepmfaaGreatJAuto
import Derived.Test.YtnackipaoepmfaaGreatJCi0
import Derived.Test.YtnackipaoepmfaaGreatJAuI
set_option linter.unusedSimpArgs false
set_option linter.unusedVariables false
set_option linter.unusedSimpArgs false
set_option linter.unusedVariables false
namespace Go.Proofs.YtnackipaoepmfaaGreat
open Go Go.RowKit
set_option maxRecDepth 100000
set_option maxHeartbeats 20000000
instance i_impl_spaces_whole : ∀ (p0 : Gspaces) (p1 : GType) (p2 : Int), Ct (m_impl_spaces_whole p0 p1 p2) fun res => CallsD Tryz.prog 0o00421 [.cptr (rGspaces p0), (.agg (rGType p1)), (eI p2)] (fun d => d = (.agg (rGPattern res))) :=
 au Tryz.func273 m_impl_spaces_whole.eq_1 (.o (.o (.b fun (p2 : Int) => .g [0, 2, 4, 6, 7] [0, 8, 32] [] [] (.o (.d [0, 1, 2, 3, 4, 5, 8, 6, 7] [0] [] (.pC 2 5 6 0x0033 (.ls 16 (.f [6, 7] [1, 2, 11] [6, 7, 17, 18] [1, 2, 11] (fun (k50 : Nat) (s46 : (List GPattern)) => [(18, eI (k50 : Int))]) (fun k50 s46 => [(1000000002, some ⟨6, [[(eI 4), (eI p2), (eI 0), (eI 0), (eI 0), (.sl 6 11 (s46).length)]], 0, 0x0033⟩), (11, some ⟨6, (List.map rGPattern s46), 0, 0x0033⟩)]) (fun k50 s46 => .o (.g [6, 7, 17, 18] [0, 1, 2] [] [(1000000001, some ⟨6, [[(eI 4), (eI p2), (eI 0), (eI 0), (eI 0), (.sl 6 2 (s46).length)]], 0, 0x0033⟩)] (.o (.o (.d [0, 1, 2, 3, 4, 5, 6] [1] [25] .z))))) (fun s54 => .z)))))))))
end Go.Proofs.YtnackipaoepmfaaGreat
set_option linter.unusedSimpArgs false
set_option linter.unusedVariables false
namespace Go.Proofs.YtnackipaoepmfaaGreat
open Go Go.RowKit
set_option maxRecDepth 100000
set_option maxHeartbeats 20000000
instance i_slices_Grow_Pattern : ∀ (p1 : Int), Ct (m_slices_Grow_Pattern p1) fun res => CallsH Tryz.prog 0o00501 [] [.nil, (eI p1)] (fun H d => H = [some ⟨6, List.map rGPattern res, 0, 0x0033⟩] ∧ d = .sl 6 0 res.length) :=
 au Tryz.func321 m_slices_Grow_Pattern.eq_1 (.o (.i .z (.j 3 0 [0] [9000] (fun (s6 : Unit) => [(0, .sl 6 9000 0)]) (fun _ => [(9000, some ⟨6, (List.map rGPattern []), 0, 0x0033⟩)]) (.i (.o (.o (.pS 144 0 rGPattern ([] : List GPattern) .z))) (.pN 0 6 0x0033 .z)) (fun _ => .z))))
end Go.Proofs.YtnackipaoepmfaaGreat
set_option linter.unusedSimpArgs false
set_option linter.unusedVariables false
namespace Go.Proofs.YtnackipaoepmfaaGreat
open Go Go.RowKit
set_option maxRecDepth 100000
set_option maxHeartbeats 20000000
instance i_slices_Concat_Pattern : ∀ (p0 : (List (List GPattern))), Ct (m_slices_Concat_Pattern p0) fun res => CallsD Tryz.prog 0o00422 [(.slice 1 (List.map (rL 6 rGPattern) p0))] (fun d => d = (.slice 6 (List.map rGPattern res))) :=
 au Tryz.func274 m_slices_Concat_Pattern.eq_1 (.o (.ls 0 (.f [0, 3] [] [0, 3, 9, 10, 11] [] (fun (k46 : Nat) (s42 : Int) => [(3, eI s42), (11, eI (k46 : Int))]) (fun k46 s42 => []) (fun k46 s42 => .z) (fun s50 => .o (.ls 0 (.f [6] [9] [6, 25, 26, 27] [9] (fun (k99 : Nat) (s95 : (List GPattern)) => [(6, .sl 6 9 (s95).length), (27, eI (k99 : Int))]) (fun k99 s95 => [(9, some ⟨6, (List.map rGPattern s95), 0, 0x0033⟩)]) (fun k99 s95 => .z) (fun s103 => .z)))))))
end Go.Proofs.YtnackipaoepmfaaGreat
set_option linter.unusedSimpArgs false
set_option linter.unusedVariables false
namespace Go.Proofs.YtnackipaoepmfaaGreat
open Go Go.RowKit
set_option maxRecDepth 100000
set_option maxHeartbeats 20000000
instance i_impl_spaces_meet : ∀ (n : Nat) (p0 : Gspaces) (p1 : GType) (p2 : GPattern) (p3 : GPattern), Ct (m_impl_spaces_meet n p0 p1 p2 p3) fun res => CallsD Tryz.prog 0o00265 [.cptr (rGspaces p0), (.agg (rGType p1)), (.agg (rGPattern p2)), (.agg (rGPattern p3))] (fun d => d = .tup [(.agg (rGPattern res.1)), (eB res.2)]) :=
 ar (au Tryz.func181 m_impl_spaces_meet.eq_2 (.o (.o (.o (.o (.b fun (p2 : GPattern) => .o (.i .z (.i .z (.i .z (.i .z (.g [0, 5, 6, 7, 8, 11] [0, 8, 16, 24, 208] [] [] (.o (.d [0, 1, 2, 3, 4, 5, 6, 9, 7, 8] [0, 1] [] (.pC 4 5 6 0x0033 (.ls 66 (.f [8, 11] [3, 4, 13] [0, 6, 7, 8, 11, 66, 67, 68] [1, 2, 3, 4, 13] (fun (k114 : Nat) (s110 : (List GPattern)) => [(68, eI (k114 : Int))]) (fun k114 s110 => [(1000000004, some ⟨6, [[(eI 4), (eI p2.ctor), (eI 0), (eI 0), (eI 0), (.sl 6 13 (s110).length)]], 0, 0x0033⟩), (13, some ⟨6, (List.map rGPattern s110), 0, 0x0033⟩)]) (fun k114 s110 => .o (.g [0, 6, 7, 8, 11, 12, 13, 66, 67, 68] [0, 1, 2, 3, 4, 37] [] [(1000000003, some ⟨6, [[(eI 4), (eI p2.ctor), (eI 0), (eI 0), (eI 0), (.sl 6 4 (s110).length)]], 0, 0x0033⟩)] (.o (.o (.o (.dz [0, 1, 2, 3, 4, 5, 6, 7, 8, 9, 10, 11, 12, 13, 14, 15, 16, 17, 18] [0, 1, 5] [1048590] [] .z)))))) (fun s118 => .z)))))))))))))))))
end Go.Proofs.YtnackipaoepmfaaGreat
set_option linter.unusedSimpArgs false
set_option linter.unusedVariables false
namespace Go.Proofs.YtnackipaoepmfaaGreat
open Go Go.RowKit
set_option maxRecDepth 100000
set_option maxHeartbeats 20000000
instance i_impl_spaces_minus : ∀ (n : Nat) (p0 : Gspaces) (p1 : GType) (p2 : GPattern) (p3 : GPattern), Ct (m_impl_spaces_minus n p0 p1 p2 p3) fun res => CallsD Tryz.prog 0o00312 [.cptr (rGspaces p0), (.agg (rGType p1)), (.agg (rGPattern p2)), (.agg (rGPattern p3))] (fun d => d = (.slice 6 (List.map rGPattern res))) :=
 ar (au Tryz.func202 m_impl_spaces_minus.eq_2 (.o (.o (.o (.o (.o (.o (.i .z (.i .z (.i (.g [0, 5, 7, 11] [0, 16] [] [] (.o (.d [0, 1, 2, 3, 4, 7, 5, 6] [0] [] (.pN 11 6 0x0033 (.ls 59 (.f [11] [10] [0, 5, 7, 11, 59, 60, 61] [0, 1, 10] (fun (k157 : Nat) (s153 : (List GPattern)) => [(11, .sl 6 10 (s153).length), (61, eI (k157 : Int))]) (fun k157 s153 => [(10, some ⟨6, (List.map rGPattern s153), 0, 0x0033⟩)]) (fun k157 s153 => .o (.g [0, 5, 7, 11, 13, 59, 60, 61] [0, 1, 2] [] [] (.o (.o (.o (.d [0, 1, 2, 3, 4, 5, 7, 6, 8, 9, 10] [0, 1] [] .z)))))) (fun s161 => .z))))))) (.i .z (.g [0, 5, 6, 7, 14, 15] [0, 8, 16] [] [] (.o (.d [0, 1, 2, 3, 4, 5, 6, 9, 7, 8] [0, 1] [] (.pN 14 6 0x0033 (.pN 15 6 0x0033 (.ls 92 (.f [14] [11] [0, 6, 7, 14, 15, 92, 93, 94] [1, 2, 11, 12] (fun (k1426 : Nat) (s1422 : (List GPattern) × (List GPattern)) => [(14, .sl 6 11 (s1422.1).length), (15, .sl 6 12 (s1422.2).length), (94, eI (k1426 : Int))]) (fun k1426 s1422 => [(11, some ⟨6, (List.map rGPattern s1422.1), 0, 0x0033⟩), (12, some ⟨6, (List.map rGPattern s1422.2), (s1422.2).length * 6, 0x0033⟩)]) (fun k1426 s1422 => .o (.g [0, 6, 7, 14, 15, 16, 17, 92, 93, 94] [0, 1, 2, 3, 36] [] [] (.o (.o (.o (.d [0, 1, 2, 3, 4, 5, 6, 7, 8, 9, 10, 11, 14, 12, 13] [0, 1, 4] [] (.ls 111 (.f [0, 6, 7, 14, 15, 16, 17, 92, 93, 94] [0, 1, 2, 3, 4] [0, 6, 7, 14, 15, 16, 17, 92, 93, 94, 111, 112, 113] [0, 1, 2, 3, 4] (fun (k1588 : Nat) (s1584 : (List GPattern)) => [(14, .sl 6 2 (s1584).length), (113, eI (k1588 : Int))]) (fun k1588 s1584 => [(2, some ⟨6, (List.map rGPattern s1584), 0, 0x0033⟩)]) (fun k1588 s1584 => .o (.g [0, 6, 7, 14, 15, 16, 17, 19, 92, 93, 94, 111, 112, 113] [0, 1, 2, 3, 4, 29] [] [] (.o (.o (.d [0, 1, 3, 4, 5, 6, 7, 2, 8, 9, 10] [0, 5] [] .z))))) (fun s1592 => .g [0, 6, 7, 14, 15, 16, 17, 92, 93, 94] [0, 1, 2, 3, 4] [] [] (.o (.dz [0, 1, 2, 3, 4, 5, 6, 7, 8, 9, 10, 11, 12, 13, 14, 15, 16, 17, 18] [0, 1, 4] [1048597] [] (.i .z (.o (.pF 2097208 .z)))))))))))))) (fun s1430 => .z)))))))))))))))))))
end Go.Proofs.YtnackipaoepmfaaGreat
set_option linter.unusedSimpArgs false
set_option linter.unusedVariables false
namespace Go.Proofs.YtnackipaoepmfaaGreat
open Go Go.RowKit
set_option maxRecDepth 100000
set_option maxHeartbeats 20000000
instance i_impl_spaces_without : ∀ (n : Nat) (p0 : Gspaces) (p1 : GType) (p2 : (List GPattern)) (p3 : (List GPattern)), Ct (m_impl_spaces_without n p0 p1 p2 p3) fun res => CallsD Tryz.prog 0o00154 [.cptr (rGspaces p0), (.agg (rGType p1)), (.slice 6 (List.map rGPattern p2)), (.slice 6 (List.map rGPattern p3))] (fun d => d = .tup [(.slice 6 (List.map rGPattern res.1)), (eB res.2)]) :=
 au Tryz.func108 m_impl_spaces_without.eq_1 (.o (.o (.o (.o (.o (.o (.ls 3 (.f [2] [] [0, 2, 5, 19, 20, 21] [0] (fun (k697 : Nat) (s693 : (List GPattern)) => [(2, .slice 6 (List.map rGPattern s693)), (21, eI (k697 : Int))]) (fun k697 s693 => []) (fun k697 s693 => .o (.pN 12 6 0x0033 (.ls 2 (.f [0, 5, 12, 19, 20, 21] [0, 73] [0, 5, 11, 12, 19, 20, 21, 25, 26, 27] [0, 25, 73] (fun (k823 : Nat) (s819 : (List GPattern)) => [(12, .sl 6 73 (s819).length), (27, eI (k823 : Int))]) (fun k823 s819 => [(73, some ⟨6, (List.map rGPattern s819), 0, 0x0033⟩)]) (fun k823 s819 => .z) (fun s827 => .z))))) (fun s701 => .z)))))))))
end Go.Proofs.YtnackipaoepmfaaGreat
set_option linter.unusedSimpArgs false
set_option linter.unusedVariables false
namespace Go.Proofs.YtnackipaoepmfaaGreat
open Go Go.RowKit
set_option maxRecDepth 100000
set_option maxHeartbeats 20000000
instance i_slices_ContainsFunc_Pattern : ∀ (p0 : (List GPattern)) (p1 : (GPattern → Option Bool)) {p1_f : FuncId} {p1_c : List D} [p1_i : CF1 (fun a0 => (.agg (rGPattern a0))) (fun r => (eB r)) p1 p1_f p1_c], Ct (m_slices_ContainsFunc_Pattern p0 p1) fun res => CallsD Tryz.prog 0o00313 [(.slice 6 (List.map rGPattern p0)), .clos p1_f p1_c] (fun d => d = (eB res)) :=
 au Tryz.func203 m_slices_ContainsFunc_Pattern.eq_1 .z
end Go.Proofs.YtnackipaoepmfaaGreat
set_option linter.unusedSimpArgs false
set_option linter.unusedVariables false
namespace Go.Proofs.YtnackipaoepmfaaGreat
open Go Go.RowKit
set_option maxRecDepth 100000
set_option maxHeartbeats 20000000
instance i_impl_patternOk : ∀ (n : Nat) (p0 : (List GData)) (p1 : GType) (p2 : GPattern), Ct (m_impl_patternOk n p0 p1 p2) fun res => CallsD Tryz.prog 0o00315 [(.slice 2 (List.map rGData p0)), (.agg (rGType p1)), (.agg (rGPattern p2))] (fun d => d = (eB res)) :=
 au Tryz.func205 m_impl_patternOk.eq_1 .z
end Go.Proofs.YtnackipaoepmfaaGreat
set_option linter.unusedSimpArgs false
set_option linter.unusedVariables false
namespace Go.Proofs.YtnackipaoepmfaaGreat
open Go Go.RowKit
set_option maxRecDepth 100000
set_option maxHeartbeats 20000000
instance i_impl_spaces_result_1 : ∀ (n : Nat) (p0 : GPattern) (q0 : Gspaces) (q1 : GType), Ct (m_impl_spaces_result_1 n p0 q0 q1) fun res => CallsD Tryz.prog 0o00314 [(.agg (rGPattern p0)), .cptr [(.cptr (rGspaces q0))], .cptr (rGType q1)] (fun d => d = (eB res)) :=
 au Tryz.func204 m_impl_spaces_result_1.eq_1 (.o (.o (.o (.o (.g [1, 2, 3] [0] [] [] (.o (.d [0, 1, 2, 3, 4, 5, 6, 7, 8] [0] [] .z)))))))
end Go.Proofs.YtnackipaoepmfaaGreat
set_option linter.unusedSimpArgs false
set_option linter.unusedVariables false
namespace Go.Proofs.YtnackipaoepmfaaGreat
open Go Go.RowKit
set_option maxRecDepth 100000
set_option maxHeartbeats 20000000
instance i_impl_ownPattern : ∀ (n : Nat) (p0 : GPattern), Ct (m_impl_ownPattern n p0) fun res => CallsD Tryz.prog 0o00273 [(.agg (rGPattern p0))] (fun d => d = (.agg (rGPattern res))) :=
 ar (au Tryz.func187 m_impl_ownPattern.eq_2 (.o (.o (.b fun (p0 : GPattern) => .pC 0 5 6 0x0033 (.ls 7 (.f [1, 2] [0, 80, 8] [1, 2, 9, 10, 11] [0, 80, 8] (fun (k56 : Nat) (s52 : (List GPattern)) => [(11, eI (k56 : Int))]) (fun k56 s52 => [(1000000000, some ⟨6, [[(eI p0.op), (eI p0.ctor), (eI p0.n), (eI p0.m), (eI p0.var), (.sl 6 80 (s52).length)]], 0, 0x0033⟩), (80, some ⟨6, (List.map rGPattern s52), 0, 0x0033⟩)]) (fun k56 s52 => .o (.g [1, 2, 5, 9, 10, 11] [0, 1, 2, 27] [] [(1000000000, some ⟨6, [[(eI p0.op), (eI p0.ctor), (eI p0.n), (eI p0.m), (eI p0.var), (.sl 6 1 (s52).length)]], 0, 0x0033⟩)] (.o (.o (.d [0, 1, 2, 3, 4, 5, 6, 7] [0, 3] [21] .z))))) (fun s60 => .z)))))))
end Go.Proofs.YtnackipaoepmfaaGreat
set_option linter.unusedSimpArgs false
set_option linter.unusedVariables false
namespace Go.Proofs.YtnackipaoepmfaaGreat
open Go Go.RowKit
set_option maxRecDepth 100000
set_option maxHeartbeats 20000000
instance i_impl_ownPatterns : ∀ (n : Nat) (p0 : (List GPattern)), Ct (m_impl_ownPatterns n p0) fun res => CallsD Tryz.prog 0o00316 [(.slice 6 (List.map rGPattern p0))] (fun d => d = (.slice 6 (List.map rGPattern res))) :=
 au Tryz.func206 m_impl_ownPatterns.eq_1 (.o (.o (.pN 3 6 0x0033 (.ls 0 (.f [3] [40] [3, 6, 7, 8] [40] (fun (k56 : Nat) (s52 : (List GPattern)) => [(3, .sl 6 40 (s52).length), (8, eI (k56 : Int))]) (fun k56 s52 => [(40, some ⟨6, (List.map rGPattern s52), 0, 0x0033⟩)]) (fun k56 s52 => .z) (fun s60 => .z))))))
end Go.Proofs.YtnackipaoepmfaaGreat
set_option linter.unusedSimpArgs false
set_option linter.unusedVariables false
namespace Go.Proofs.YtnackipaoepmfaaGreat
open Go Go.RowKit
set_option maxRecDepth 100000
set_option maxHeartbeats 20000000
instance i_impl_spaces_result : ∀ (n : Nat) (p0 : Gspaces) (p1 : GType) (p2 : (List GPattern)) (p3 : Bool), Ct (m_impl_spaces_result n p0 p1 p2 p3) fun res => CallsD Tryz.prog 0o00155 [.cptr (rGspaces p0), (.agg (rGType p1)), (.slice 6 (List.map rGPattern p2)), (eB p3)] (fun d => d = .tup [(.slice 6 (List.map rGPattern res.1)), (eB res.2)]) :=
 au Tryz.func109 m_impl_spaces_result.eq_1 .z
end Go.Proofs.YtnackipaoepmfaaGreat
set_option linter.unusedSimpArgs false
set_option linter.unusedVariables false
namespace Go.Proofs.YtnackipaoepmfaaGreat
open Go Go.RowKit
set_option maxRecDepth 100000
set_option maxHeartbeats 20000000
instance i_impl_MissingPatterns : ∀ (n : Nat) (p0 : (List GData)) (p1 : GType) (p2 : (List GClause)), Ct (m_impl_MissingPatterns n p0 p1 p2) fun res => CallsD Tryz.prog 0o00120 [(.slice 2 (List.map rGData p0)), (.agg (rGType p1)), (.slice 9 (List.map rGClause p2))] (fun d => d = .tup [(.slice 6 (List.map rGPattern res.1)), (eB res.2)]) :=
 au Tryz.func80 m_impl_MissingPatterns.eq_1 (.o (.o (.o (.o (.o (.i .z (.o (.i .z (.o (.g [4, 8, 10] [0] [] [] (.o (.o (.d [0, 1, 4, 2, 3, 5, 6, 7, 8, 9, 10] [0] [] .z)))))))))))))
end Go.Proofs.YtnackipaoepmfaaGreat
set_option linter.unusedSimpArgs false
set_option linter.unusedVariables false
namespace Go.Proofs.YtnackipaoepmfaaGreat
open Go Go.RowKit
set_option maxRecDepth 100000
set_option maxHeartbeats 20000000
instance i_impl_Exhaustive : ∀ (n : Nat) (p0 : (List GData)) (p1 : GType) (p2 : (List GClause)), Ct (m_impl_Exhaustive n p0 p1 p2) fun res => CallsD Tryz.prog 0o00026 [(.slice 2 (List.map rGData p0)), (.agg (rGType p1)), (.slice 9 (List.map rGClause p2))] (fun d => d = .tup [(eB res.1), (eB res.2)]) :=
 au Tryz.func22 m_impl_Exhaustive.eq_1 .z
end Go.Proofs.YtnackipaoepmfaaGreat
set_option linter.unusedSimpArgs false
set_option linter.unusedVariables false
namespace Go.Proofs.YtnackipaoepmfaaGreat
open Go Go.RowKit
set_option maxRecDepth 100000
set_option maxHeartbeats 20000000
instance i_impl_countValues : ∀ (n : Nat) (p0 : (List GData)) (p1 : GType) (p2 : Int), Ct (m_impl_countValues n p0 p1 p2) fun res => CallsD Tryz.prog 0o00124 [(.slice 2 (List.map rGData p0)), (.agg (rGType p1)), (eI p2)] (fun d => d = (eI res)) :=
 ar (au Tryz.func84 m_impl_countValues.eq_2 (.o (.o (.o (.o (.o (.i .z (.i .z (.o (.ls 20 (.f [7] [] [0, 2, 4, 7, 20, 21, 22] [0] (fun (k582 : Nat) (s578 : Int) => [(7, eI s578), (22, eI (k582 : Int))]) (fun k582 s578 => []) (fun k582 s578 => .o (.o (.ls 29 (.f [0, 2, 4, 7, 10, 20, 21, 22] [0] [0, 2, 4, 7, 10, 20, 21, 22, 29, 30, 31] [0] (fun (k688 : Nat) (s684 : Int) => [(10, eI s684), (31, eI (k688 : Int))]) (fun k688 s684 => []) (fun k688 s684 => .z) (fun s692 => .z))))) (fun s586 => .z))))))))))))
end Go.Proofs.YtnackipaoepmfaaGreat
set_option linter.unusedSimpArgs false
set_option linter.unusedVariables false
namespace Go.Proofs.YtnackipaoepmfaaGreat
open Go Go.RowKit
set_option maxRecDepth 100000
set_option maxHeartbeats 20000000
instance i_impl_number : ∀ (p0 : Int), Ct (m_impl_number p0) fun res => CallsD Tryz.prog 0o00256 [(eI p0)] (fun d => d = (.agg (rGValue res))) :=
 au Tryz.func174 m_impl_number.eq_1 .z
end Go.Proofs.YtnackipaoepmfaaGreat
set_option linter.unusedSimpArgs false
set_option linter.unusedVariables false
namespace Go.Proofs.YtnackipaoepmfaaGreat
open Go Go.RowKit
set_option maxRecDepth 100000
set_option maxHeartbeats 20000000
instance i_impl_values_1 : ∀ (n : Nat) (p0 : GType) (q0 : (List GData)) (q1 : Int), Ct (m_impl_values_1 n p0 q0 q1) fun res => CallsD Tryz.prog 0o00260 [(.agg (rGType p0)), .cptr [(.slice 2 (List.map rGData q0))], .cptr [(eI q1)]] (fun d => d = (eB res)) :=
 au Tryz.func176 m_impl_values_1.eq_1 .z
end Go.Proofs.YtnackipaoepmfaaGreat
set_option linter.unusedSimpArgs false
set_option linter.unusedVariables false
namespace Go.Proofs.YtnackipaoepmfaaGreat
open Go Go.RowKit
set_option maxRecDepth 100000
set_option maxHeartbeats 20000000
theorem c_slices_Clone_Value (p0 : (List GValue)) (res : (List GValue)) (h : m_slices_Clone_Value p0 = some res) : CallsH Tryz.prog 0o00261 [] [(.slice 3 (List.map rGValue p0))] (fun H d => H = [some ⟨3, List.map rGValue res, 0, 0x002f⟩] ∧ d = .sl 3 0 res.length) := by
 unfold m_slices_Clone_Value at h
 refine CH Tryz.func177 [.tmp 2] 0 fun β hβ => ?_
 refine sZ ?_
 apply sq
 refine sk fun K hK => ?_
 simp
 refine ⟨?_, fun hnil => ?_⟩
 ·apply hK
  refine cF ?_
  apply TrD.skip
  apply sq
  obtain ⟨x3, hx3, h⟩ := bindE h
  have hx3_r := (app_some hx3).2
  try simp only [List.length_nil, Nat.zero_add] at hx3_r
  obtain hhx3 := app_nil hx3
  subst hhx3
  refine rZ ?_ fun K hK => by simp [hx3_r]; exact hK
  cases h
  apply TrD.ret
  refine exitHG (σ' := ⟨(updD (fun _ => .any) 2 (.sl 3 0 (p0).length)), hOfO [some ⟨3, (List.map rGValue p0), 0, 0x002f⟩], 1, 8⟩) ?_ ?_
  ·exact gC [40]
  dsimp only [resD]
  exact eA
 replace h : some ([]) = some res := by simp only [hnil] at h; simpa [app] using h
 apply hK
 refine cT ?_
 refine sZ ?_
 cases h
 apply TrD.ret
 refine exitHG (σ' := ⟨(updD (fun _ => .any) 2 (.sl 3 0 0)), hOfO [some ⟨3, (List.map rGValue []), 0, 0x002f⟩], 1, 8⟩) ?_ ?_
 ·refine (Ghost.ownNil (s := 2) (by simp) 3 0x002f).trans ?_
  exact gC [32]
 dsimp only [resD]
 exact eA
instance i_slices_Clone_Value : ∀ (p0 : (List GValue)), Ct (m_slices_Clone_Value p0) fun res => CallsH Tryz.prog 0o00261 [] [(.slice 3 (List.map rGValue p0))] (fun H d => H = [some ⟨3, List.map rGValue res, 0, 0x002f⟩] ∧ d = .sl 3 0 res.length) := fun p0 => ⟨c_slices_Clone_Value p0⟩
end Go.Proofs.YtnackipaoepmfaaGreat
set_option linter.unusedSimpArgs false
set_option linter.unusedVariables false
namespace Go.Proofs.YtnackipaoepmfaaGreat
open Go Go.RowKit
set_option maxRecDepth 100000
set_option maxHeartbeats 20000000
instance i_impl_values : ∀ (n : Nat) (p0 : (List GData)) (p1 : GType) (p2 : Int), Ct (m_impl_values n p0 p1 p2) fun res => CallsD Tryz.prog 0o00125 [(.slice 2 (List.map rGData p0)), (.agg (rGType p1)), (eI p2)] (fun d => d = (.slice 3 (List.map rGValue res))) :=
 ar (au Tryz.func85 m_impl_values.eq_2 (.o (.o (.o (.o (.o (.i .z (.i (.pN 7 3 0x002f (.w [7] [88] [7, 26] [88] (fun (s110 : (List GValue) × Int) => [(7, .sl 3 88 (s110.1).length), (26, eI s110.2)]) (fun s110 => [(88, some ⟨3, (List.map rGValue s110.1), 0, 0x002f⟩)]) (fun s110 => .z) (fun s118 => .z))) (.o (.pN 7 3 0x002f (.ls 38 (.f [7] [120] [3, 4, 5, 7, 38, 39, 40] [0, 8, 16, 120] (fun (k60277 : Nat) (s60273 : (List GValue)) => [(7, .sl 3 120 (s60273).length), (40, eI (k60277 : Int))]) (fun k60277 s60273 => [(120, some ⟨3, (List.map rGValue s60273), 0, 0x002f⟩)]) (fun k60277 s60273 => .o (.j 13 0 [3, 4, 5, 7, 38, 39, 40] [0, 1, 2, 3] (fun (s66292 : (List GValue)) => [(7, .sl 3 3 (s66292).length)]) (fun s66292 => [(3, some ⟨3, (List.map rGValue s66292), 0, 0x002f⟩)]) (.o (.o (.i .z (.ls 47 (.f [3, 4, 5, 7, 12, 38, 39, 40] [0, 1, 2, 3, 116] [3, 4, 5, 7, 10, 12, 38, 39, 40, 54, 55, 56] [0, 1, 2, 3, 116] (fun (k71305 : Nat) (s71301 : (List GValue)) => [(12, .sl 3 116 (s71301).length), (56, eI (k71305 : Int))]) (fun k71305 s71301 => [(116, some ⟨3, (List.map rGValue s71301), 0, 0x002f⟩)]) (fun k71305 s71301 => .o (.o (.pN 16 3 0x002f (.ll 4 (.f [3, 4, 5, 7, 10, 16, 38, 39, 40, 54, 55, 56] [0, 1, 2, 3, 125] [3, 4, 5, 7, 10, 15, 16, 38, 39, 40, 54, 55, 56, 65, 66, 67] [0, 1, 2, 3, 125, 4] (fun (k72223 : Nat) (s72219 : (List GValue)) => [(16, .sl 3 125 (s72219).length), (67, eI (k72223 : Int))]) (fun k72223 s72219 => [(125, some ⟨3, (List.map rGValue s72219), 0, 0x002f⟩)]) (fun k72223 s72219 => .o (.ls 15 (.f [3, 4, 5, 7, 10, 15, 16, 38, 39, 40, 54, 55, 56, 65, 66, 67] [0, 1, 2, 3, 4, 5] [3, 4, 5, 7, 10, 15, 16, 18, 38, 39, 40, 54, 55, 56, 65, 66, 67, 71, 72, 73] [0, 1, 2, 3, 4, 30, 5] (fun (k72293 : Nat) (s72289 : (List GValue)) => [(16, .sl 3 4 (s72289).length), (73, eI (k72293 : Int))]) (fun k72293 s72289 => [(4, some ⟨3, (List.map rGValue s72289), 0, 0x002f⟩)]) (fun k72293 s72289 => .o (.g [3, 4, 5, 7, 10, 15, 16, 18, 20, 38, 39, 40, 54, 55, 56, 65, 66, 67, 71, 72, 73] [0, 1, 2, 3, 4, 5, 31, 6] [] [] (.o (.o (.o (.dz [0, 1, 2, 3, 5, 4, 6, 7, 8, 9, 10, 11] [5, 6] [1048659] [] (.pF 2097160 .z))))))) (fun s72297 => .z)))) (fun s72227 => .z)))))) (fun s71309 => .z)))))) (fun _ => .z))) (fun s60281 => .z)))))))))))))
end Go.Proofs.YtnackipaoepmfaaGreat
set_option linter.unusedSimpArgs false
set_option linter.unusedVariables false
namespace Go.Proofs.YtnackipaoepmfaaGreat
open Go Go.RowKit
set_option maxRecDepth 100000
set_option maxHeartbeats 20000000
instance i_impl_ownValue : ∀ (n : Nat) (p0 : GValue), Ct (m_impl_ownValue n p0) fun res => CallsD Tryz.prog 0o00126 [(.agg (rGValue p0))] (fun d => d = (.agg (rGValue res))) :=
 ar (au Tryz.func86 m_impl_ownValue.eq_2 (.o (.o (.b fun (p0 : GValue) => .pC 56 2 3 0x002f (.ls 12 (.f [2, 3] [8, 56, 104] [2, 3, 12, 13, 14] [8, 56, 104] (fun (k56 : Nat) (s52 : (List GValue)) => [(14, eI (k56 : Int))]) (fun k56 s52 => [(1000000056, some ⟨3, [[(eI p0.ctor), (eI p0.n), (.sl 3 104 (s52).length)]], 0, 0x002f⟩), (104, some ⟨3, (List.map rGValue s52), 0, 0x002f⟩)]) (fun k56 s52 => .o (.g [2, 3, 5, 12, 13, 14] [0, 1, 2, 27] [] [(1000000001, some ⟨3, [[(eI p0.ctor), (eI p0.n), (.sl 3 2 (s52).length)]], 0, 0x002f⟩)] (.o (.o (.d [0, 1, 2, 3, 4, 5, 6, 7] [1, 3] [24] .z))))) (fun s60 => .z)))))))
end Go.Proofs.YtnackipaoepmfaaGreat
set_option linter.unusedSimpArgs false
set_option linter.unusedVariables false
namespace Go.Proofs.YtnackipaoepmfaaGreat
open Go Go.RowKit
set_option maxRecDepth 100000
set_option maxHeartbeats 20000000
instance i_impl_ValuesUpTo : ∀ (n : Nat) (p0 : (List GData)) (p1 : GType) (p2 : Int), Ct (m_impl_ValuesUpTo n p0 p1 p2) fun res => CallsD Tryz.prog 0o00030 [(.slice 2 (List.map rGData p0)), (.agg (rGType p1)), (eI p2)] (fun d => d = .tup [(.slice 3 (List.map rGValue res.1)), (eB res.2)]) :=
 au Tryz.func24 m_impl_ValuesUpTo.eq_1 (.o (.o (.o (.o (.o (.i .z (.o (.i .z (.o (.i .z (.o (.pN 8 3 0x002f (.ls 30 (.f [8] [208] [8, 30, 31, 32] [208] (fun (k92 : Nat) (s88 : (List GValue)) => [(8, .sl 3 208 (s88).length), (32, eI (k92 : Int))]) (fun k92 s88 => [(208, some ⟨3, (List.map rGValue s88), 0, 0x002f⟩)]) (fun k92 s88 => .z) (fun s96 => .z)))))))))))))))
end Go.Proofs.YtnackipaoepmfaaGreat
set_option linter.unusedSimpArgs false
set_option linter.unusedVariables false
namespace Go.Proofs.YtnackipaoepmfaaGreat
open Go Go.RowKit
set_option maxRecDepth 100000
set_option maxHeartbeats 20000000
instance i_impl_valueScan : ∀ (n : Nat) (p0 : (List GData)) (p1 : GType) (p2 : GValue) (p3 : Int) (p4 : Bool) (p5 : Int), Ct (m_impl_valueScan n p0 p1 p2 p3 p4 p5) fun res => CallsH Tryz.prog 0o00237 [⟨1, [[(eI p5)]], 0, 0x0003⟩] [(.slice 2 (List.map rGData p0)), (.agg (rGType p1)), (.agg (rGValue p2)), (eI p3), (eB p4), .ptr 1 0 0 0] (fun H d => H = [some ⟨1, [[(eI res.2)]], 0, 0x0003⟩] ∧ d = (eB res.1)) :=
 ar (au Tryz.func159 m_impl_valueScan.eq_2 (.o (.o (.o (.o (.o (.o (.o (.o (.i .z (.i .z (.j 4 0 [0, 3, 4, 5, 7, 8] [0, 1, 9] (fun (s92 : Unit) => []) (fun _ => []) (.i (.i .z (.i .z (.g [0, 3, 4, 5, 7, 8] [0, 1, 9] [] [] (.i (.d [0, 1, 2, 3, 4, 5, 7, 8, 6, 9, 10, 11, 12] [2] [] .z) (.o (.o (.d [0, 1, 2, 3, 4, 5, 7, 8, 6, 9, 10, 11, 12] [1, 2] [] .z))))))) (.i .z (.g [0, 3, 4, 5, 7, 8] [0, 1, 9] [] [] (.i (.d [0, 1, 2, 3, 4, 5, 7, 8, 6, 9, 10, 11, 12] [2] [] .z) (.o (.o (.d [0, 1, 2, 3, 4, 5, 7, 8, 6, 9, 10, 11, 12] [1, 2] [] .z))))))) (fun s92 => .o (.i .z (.ls 84 (.f [] [0] [0, 3, 4, 5, 13, 88, 89, 90] [0] (fun (k244 : Nat) (s240 : Int) => [(90, eI (k244 : Int))]) (fun k244 s240 => [(0, some ⟨1, [[(eI s240)]], 0, 0x0003⟩)]) (fun k244 s240 => .o (.g [0, 3, 4, 5, 13, 14, 15, 88, 89, 90] [0, 33] [] [] (.o (.o (.d [0, 1, 2, 3, 4, 5, 6, 7, 8, 9, 10, 11] [1] [] .z))))) (fun s248 => .z)))))))))))))))))
end Go.Proofs.YtnackipaoepmfaaGreat
set_option linter.unusedSimpArgs false
set_option linter.unusedVariables false
namespace Go.Proofs.YtnackipaoepmfaaGreat
open Go Go.RowKit
set_option maxRecDepth 100000
set_option maxHeartbeats 20000000
instance i_impl_valueOk : ∀ (n : Nat) (p0 : (List GData)) (p1 : GType) (p2 : GValue), Ct (m_impl_valueOk n p0 p1 p2) fun res => CallsD Tryz.prog 0o00112 [(.slice 2 (List.map rGData p0)), (.agg (rGType p1)), (.agg (rGValue p2))] (fun d => d = (eB res)) :=
 au Tryz.func74 m_impl_valueOk.eq_1 .z
end Go.Proofs.YtnackipaoepmfaaGreat
set_option linter.unusedSimpArgs false
set_option linter.unusedVariables false
namespace Go.Proofs.YtnackipaoepmfaaGreat
open Go Go.RowKit
set_option maxRecDepth 100000
set_option maxHeartbeats 20000000
instance i_impl_match : ∀ (n : Nat) (p0 : GPattern) (p1 : GValue), Ct (m_impl_match n p0 p1) fun res => CallsH Tryz.prog 0o00372 [] [(.agg (rGPattern p0)), (.agg (rGValue p1))] (fun H d => H = [some ⟨4, List.map rGBind res.1, 0, 0x007e⟩] ∧ d = .tup [.sl 4 0 res.1.length, (eB res.2)]) :=
 ar (au Tryz.func250 m_impl_match.eq_2 (.o (.o (.o (.o (.i (.pN 4 4 0x007e .z) (.i .z (.i (.o (.pN 4 4 0x007e .z)) (.i (.g [2, 3] [0, 8] [] [] (.o (.o (.d [0, 1, 2, 3, 4, 5, 6, 7, 8, 9, 10] [0, 1] [] (.i .z (.g [2, 3] [0, 1] [] [] (.o (.o (.d [0, 1, 2, 3, 4, 5, 6, 7, 8, 9] [0, 1] [] .z))))))))) (.i (.g [2, 3] [0, 8] [] [] (.o (.o (.d [0, 1, 2, 3, 4, 5, 6, 7, 8, 9, 10] [0, 1] [] .z)))) (.i (.pN 4 4 0x007e .z) (.pN 10 4 0x007e (.ls 81 (.f [10] [208] [3, 10, 81, 82, 83] [8, 208] (fun (k122 : Nat) (s118 : (List GBind)) => [(10, .sl 4 208 (s118).length), (83, eI (k122 : Int))]) (fun k122 s118 => [(208, some ⟨4, (List.map rGBind s118), 0, 0x007e⟩)]) (fun k122 s118 => .o (.g [3, 10, 11, 12, 81, 82, 83] [0, 1, 34] [] [] (.o (.o (.d [0, 1, 2, 3, 4, 5, 6, 7, 8, 9, 10, 11] [0, 2] [] (.i (.pN 4 4 0x007e .z) .z)))))) (fun s126 => .z)))))))))))))))
end Go.Proofs.YtnackipaoepmfaaGreat
set_option linter.unusedSimpArgs false
set_option linter.unusedVariables false
namespace Go.Proofs.YtnackipaoepmfaaGreat
open Go Go.RowKit
set_option maxRecDepth 100000
set_option maxHeartbeats 20000000
instance i_slices_insertionSortCmpFunc_Bind : ∀ (n : Nat) (p0 : (List GBind)) (p1 : Int) (p2 : Int) (p3 : (GBind → GBind → Option Int)) {p3_f : FuncId} {p3_c : List D} [p3_i : CF2 (fun a0 => (.agg (rGBind a0))) (fun a1 => (.agg (rGBind a1))) (fun r => (eI r)) p3 p3_f p3_c], Ct (m_slices_insertionSortCmpFunc_Bind n p0 p1 p2 p3) fun res => CallsH Tryz.prog 0o00524 [⟨4, List.map rGBind p0, 0, 0x007e⟩] [.sl 4 0 p0.length, (eI p1), (eI p2), .clos p3_f p3_c] (fun H d => H = [some ⟨4, List.map rGBind res, 0, 0x007e⟩] ∧ d = .tup []) :=
 au Tryz.func340 m_slices_insertionSortCmpFunc_Bind.eq_1 (.o (.o (.o (.o (.o (.o (.o (.o (.w [] [0] [0, 1, 2, 3, 8] [0] (fun (s464 : (List GBind) × Int) => [(0, .sl 4 0 (s464.1).length), (8, eI s464.2)]) (fun s464 => [(0, some ⟨4, (List.map rGBind s464.1), 0, 0x007e⟩)]) (fun s464 => .i (.w [0, 1, 2, 3, 8] [0] [0, 1, 2, 3, 8, 9] [0] (fun (s660 : (List GBind) × Int) => [(0, .sl 4 0 (s660.1).length), (9, eI s660.2)]) (fun s660 => [(0, some ⟨4, (List.map rGBind s660.1), 0, 0x007e⟩)]) (fun s660 => .g [0, 1, 2, 3, 8, 9] [0] [] [] (.i (.o (.o (.o (.d [0, 1, 2, 3, 4, 5, 6, 7, 8, 9, 10, 11, 12, 13, 14, 15, 16] [0] [] (.i (.g [0, 1, 2, 3, 8, 9] [0] [] [] (.o (.o (.o (.d [0, 1, 2, 3, 4, 5, 6, 7, 8, 9, 10, 11, 12, 13, 14, 15, 16, 17] [0] [51, 52] .z))))) .z))))) (.d [0, 1, 2, 3, 4, 5, 6, 7, 8, 9, 10, 11, 12, 13, 14, 15, 16] [] [] .z))) (fun s668 => .z)) .z) (fun s472 => .z))))))))))
end Go.Proofs.YtnackipaoepmfaaGreat
set_option linter.unusedSimpArgs false
set_option linter.unusedVariables false
namespace Go.Proofs.YtnackipaoepmfaaGreat
open Go Go.RowKit
set_option maxRecDepth 100000
set_option maxHeartbeats 20000000
instance i_slices_pdqsortCmpFunc_Bind : ∀ (n : Nat) (p0 : (List GBind)) (p1 : Int) (p2 : Int) (p3 : Int) (p4 : (GBind → GBind → Option Int)) {p4_f : FuncId} {p4_c : List D} [p4_i : CF2 (fun a0 => (.agg (rGBind a0))) (fun a1 => (.agg (rGBind a1))) (fun r => (eI r)) p4 p4_f p4_c], Ct (m_slices_pdqsortCmpFunc_Bind n p0 p1 p2 p3 p4) fun res => CallsH Tryz.prog 0o00463 [⟨4, List.map rGBind p0, 0, 0x007e⟩] [.sl 4 0 p0.length, (eI p1), (eI p2), (eI p3), .clos p4_f p4_c] (fun H d => H = [some ⟨4, List.map rGBind res, 0, 0x007e⟩] ∧ d = .tup []) :=
 ar (au Tryz.func307 m_slices_pdqsortCmpFunc_Bind.eq_2 (.o (.o (.o (.o (.o (.o (.o (.o (.o (.o (.w [] [0] [0, 1, 2, 3, 4, 10, 11] [0] (fun (s10 : Unit) => []) (fun s10 => []) (fun s10 => .z) (fun s18 => .z)))))))))))))
end Go.Proofs.YtnackipaoepmfaaGreat
set_option linter.unusedSimpArgs false
set_option linter.unusedVariables false
namespace Go.Proofs.YtnackipaoepmfaaGreat
open Go Go.RowKit
set_option maxRecDepth 100000
set_option maxHeartbeats 20000000
instance i_math_bits_Len64 : ∀ (p0 : Int), Ct (m_math_bits_Len64 p0) fun res => CallsD Tryz.prog 0o00535 [(.val (.int .u64 p0))] (fun d => d = (eI res)) :=
 au Tryz.func349 m_math_bits_Len64.eq_1 (.o (.j 1 0 [0, 2] [] (fun (s2 : Int × Int) => [(0, .val (.int .u64 s2.1)), (2, eI s2.2)]) (fun _ => []) .z (fun s2 => .j 4 0 [0, 2] [] (fun (s7 : Int × Int) => [(0, .val (.int .u64 s7.1)), (2, eI s7.2)]) (fun _ => []) .z (fun s7 => .j 7 0 [0, 2] [] (fun (s12 : Int × Int) => [(0, .val (.int .u64 s12.1)), (2, eI s12.2)]) (fun _ => []) .z (fun _ => .z)))))
end Go.Proofs.YtnackipaoepmfaaGreat
set_option linter.unusedSimpArgs false
set_option linter.unusedVariables false
namespace Go.Proofs.YtnackipaoepmfaaGreat
open Go Go.RowKit
set_option maxRecDepth 100000
set_option maxHeartbeats 20000000
instance i_math_bits_Len : ∀ (p0 : Int), Ct (m_math_bits_Len p0) fun res => CallsD Tryz.prog 0o00464 [(.val (.int .u64 p0))] (fun d => d = (eI res)) :=
 au Tryz.func308 m_math_bits_Len.eq_1 .z
end Go.Proofs.YtnackipaoepmfaaGreat
set_option linter.unusedSimpArgs false
set_option linter.unusedVariables false
namespace Go.Proofs.YtnackipaoepmfaaGreat
open Go Go.RowKit
set_option maxRecDepth 100000
set_option maxHeartbeats 20000000
instance i_slices_SortFunc_Bind : ∀ (n : Nat) (p0 : (List GBind)) (p1 : (GBind → GBind → Option Int)) {p1_f : FuncId} {p1_c : List D} [p1_i : CF2 (fun a0 => (.agg (rGBind a0))) (fun a1 => (.agg (rGBind a1))) (fun r => (eI r)) p1 p1_f p1_c], Ct (m_slices_SortFunc_Bind n p0 p1) fun res => CallsH Tryz.prog 0o00373 [⟨4, List.map rGBind p0, 0, 0x007e⟩] [.sl 4 0 p0.length, .clos p1_f p1_c] (fun H d => H = [some ⟨4, List.map rGBind res, 0, 0x007e⟩] ∧ d = .tup []) :=
 au Tryz.func251 m_slices_SortFunc_Bind.eq_1 .z
end Go.Proofs.YtnackipaoepmfaaGreat
set_option linter.unusedSimpArgs false
set_option linter.unusedVariables false
namespace Go.Proofs.YtnackipaoepmfaaGreat
open Go Go.RowKit
set_option maxRecDepth 100000
set_option maxHeartbeats 20000000
instance i_cmp_isNaN_int : ∀ (p0 : Int), Ct (m_cmp_isNaN_int p0) fun res => CallsD Tryz.prog 0o00465 [(eI p0)] (fun d => d = (eB res)) :=
 au Tryz.func309 m_cmp_isNaN_int.eq_1 .z
end Go.Proofs.YtnackipaoepmfaaGreat
set_option linter.unusedSimpArgs false
set_option linter.unusedVariables false
namespace Go.Proofs.YtnackipaoepmfaaGreat
open Go Go.RowKit
set_option maxRecDepth 100000
set_option maxHeartbeats 20000000
instance i_cmp_Compare_int : ∀ (p0 : Int) (p1 : Int), Ct (m_cmp_Compare_int p0 p1) fun res => CallsD Tryz.prog 0o00375 [(eI p0), (eI p1)] (fun d => d = (eI res)) :=
 au Tryz.func253 m_cmp_Compare_int.eq_1 .z
end Go.Proofs.YtnackipaoepmfaaGreat
set_option linter.unusedSimpArgs false
set_option linter.unusedVariables false
namespace Go.Proofs.YtnackipaoepmfaaGreat
open Go Go.RowKit
set_option maxRecDepth 100000
set_option maxHeartbeats 20000000
instance i_impl_matched_1 : ∀ (p0 : GBind) (p1 : GBind), Ct (m_impl_matched_1 p0 p1) fun res => CallsD Tryz.prog 0o00374 [(.agg (rGBind p0)), (.agg (rGBind p1))] (fun d => d = (eI res)) :=
 au Tryz.func252 m_impl_matched_1.eq_1 .z
end Go.Proofs.YtnackipaoepmfaaGreat
set_option linter.unusedSimpArgs false
set_option linter.unusedVariables false
namespace Go.Proofs.YtnackipaoepmfaaGreat
open Go Go.RowKit
set_option maxRecDepth 100000
set_option maxHeartbeats 20000000
instance i_impl_matched : ∀ (n : Nat) (p0 : GPattern) (p1 : GValue), Ct (m_impl_matched n p0 p1) fun res => CallsD Tryz.prog 0o00240 [(.agg (rGPattern p0)), (.agg (rGValue p1))] (fun d => d = .tup [(.slice 4 (List.map rGBind res.1)), (eB res.2)]) :=
 au Tryz.func160 m_impl_matched.eq_1 (.o (.o (.o (.o (.i .z (.o (.o (.ll 49 (.f [6] [49] [6, 20, 21, 22] [49] (fun (k63 : Nat) (s59 : (List GBind)) => [(6, .sl 4 49 (s59).length), (20, .sl 4 49 (s59).length), (22, eI (k63 : Int))]) (fun k63 s59 => [(49, some ⟨4, (List.map rGBind s59), 0, 0x007e⟩)]) (fun k63 s59 => .z) (fun s67 => .z))))))))))
end Go.Proofs.YtnackipaoepmfaaGreat
set_option linter.unusedSimpArgs false
set_option linter.unusedVariables false
namespace Go.Proofs.YtnackipaoepmfaaGreat
open Go Go.RowKit
set_option maxRecDepth 100000
set_option maxHeartbeats 20000000
instance i_slices_IndexFunc_Bind : ∀ (p0 : (List GBind)) (p1 : (GBind → Option Bool)) {p1_f : FuncId} {p1_c : List D} [p1_i : CF1 (fun a0 => (.agg (rGBind a0))) (fun r => (eB r)) p1 p1_f p1_c], Ct (m_slices_IndexFunc_Bind p0 p1) fun res => CallsD Tryz.prog 0o00376 [(.slice 4 (List.map rGBind p0)), .clos p1_f p1_c] (fun d => d = (eI res)) :=
 au Tryz.func254 m_slices_IndexFunc_Bind.eq_1 (.o (.o (.o (.o (.o (.ls 0 (.f [] [] [0, 1, 7, 8] [] (fun (k54 : Nat) (s50 : Unit) => [(8, eI (k54 : Int))]) (fun k54 s50 => []) (fun k54 s50 => .z) (fun s58 => .z))))))))
end Go.Proofs.YtnackipaoepmfaaGreat
set_option linter.unusedSimpArgs false
set_option linter.unusedVariables false
namespace Go.Proofs.YtnackipaoepmfaaGreat
open Go Go.RowKit
set_option maxRecDepth 100000
set_option maxHeartbeats 20000000
instance i_impl_GuardHolds_1 : ∀ (p0 : GBind) (q0 : GGuard), Ct (m_impl_GuardHolds_1 p0 q0) fun res => CallsD Tryz.prog 0o00377 [(.agg (rGBind p0)), .cptr (rGGuard q0)] (fun d => d = (eB res)) :=
 au Tryz.func255 m_impl_GuardHolds_1.eq_1 .z
end Go.Proofs.YtnackipaoepmfaaGreat
set_option linter.unusedSimpArgs false
set_option linter.unusedVariables false
namespace Go.Proofs.YtnackipaoepmfaaGreat
open Go Go.RowKit
set_option maxRecDepth 100000
set_option maxHeartbeats 20000000
instance i_impl_GuardHolds : ∀ (p0 : GGuard) (p1 : (List GBind)), Ct (m_impl_GuardHolds p0 p1) fun res => CallsD Tryz.prog 0o00241 [(.agg (rGGuard p0)), (.slice 4 (List.map rGBind p1))] (fun d => d = (eB res)) :=
 au Tryz.func161 m_impl_GuardHolds.eq_1 .z
end Go.Proofs.YtnackipaoepmfaaGreat
set_option linter.unusedSimpArgs false
set_option linter.unusedVariables false
namespace Go.Proofs.YtnackipaoepmfaaGreat
open Go Go.RowKit
set_option maxRecDepth 100000
set_option maxHeartbeats 20000000
instance i_impl_run : ∀ (n : Nat) (p0 : (List GClause)) (p1 : GValue), Ct (m_impl_run n p0 p1) fun res => CallsD Tryz.prog 0o00113 [(.slice 9 (List.map rGClause p0)), (.agg (rGValue p1))] (fun d => d = .tup [(eI res.1), (.slice 4 (List.map rGBind res.2))]) :=
 au Tryz.func75 m_impl_run.eq_1 (.o (.o (.o (.ls 0 (.f [] [] [3, 10, 11, 12] [0] (fun (k139 : Nat) (s135 : Unit) => [(12, eI (k139 : Int))]) (fun k139 s135 => []) (fun k139 s135 => .o (.j 3 0 [3, 10, 11, 12] [0] (fun (s153 : Unit) => []) (fun _ => []) .z (fun _ => .z))) (fun s143 => .z))))))
end Go.Proofs.YtnackipaoepmfaaGreat
set_option linter.unusedSimpArgs false
set_option linter.unusedVariables false
namespace Go.Proofs.YtnackipaoepmfaaGreat
open Go Go.RowKit
set_option maxRecDepth 100000
set_option maxHeartbeats 20000000
instance i_impl_RunClauses : ∀ (n : Nat) (p0 : (List GData)) (p1 : GType) (p2 : (List GClause)) (p3 : GValue), Ct (m_impl_RunClauses n p0 p1 p2 p3) fun res => CallsD Tryz.prog 0o00031 [(.slice 2 (List.map rGData p0)), (.agg (rGType p1)), (.slice 9 (List.map rGClause p2)), (.agg (rGValue p3))] (fun d => d = .tup [(eI res.1), (.slice 4 (List.map rGBind res.2.1)), (eB res.2.2)]) :=
 au Tryz.func25 m_impl_RunClauses.eq_1 .z
end Go.Proofs.YtnackipaoepmfaaGreat
set_option linter.unusedSimpArgs false
set_option linter.unusedVariables false
namespace Go.Proofs.YtnackipaoepmfaaGreat
open Go Go.RowKit
set_option maxRecDepth 100000
set_option maxHeartbeats 20000000
instance i_slices_EqualFunc_Clause : ∀ (p0 : (List GClause)) (p1 : (List GClause)) (p2 : (GClause → GClause → Option Bool)) {p2_f : FuncId} {p2_c : List D} [p2_i : CF2 (fun a0 => (.agg (rGClause a0))) (fun a1 => (.agg (rGClause a1))) (fun r => (eB r)) p2 p2_f p2_c], Ct (m_slices_EqualFunc_Clause p0 p1 p2) fun res => CallsD Tryz.prog 0o00141 [(.slice 9 (List.map rGClause p0)), (.slice 9 (List.map rGClause p1)), .clos p2_f p2_c] (fun d => d = (eB res)) :=
 au Tryz.func97 m_slices_EqualFunc_Clause.eq_1 (.o (.o (.o (.o (.o (.o (.i .z (.ls 0 (.f [] [] [1, 2, 15, 16, 17] [] (fun (k66 : Nat) (s62 : Unit) => [(17, eI (k66 : Int))]) (fun k66 s62 => []) (fun k66 s62 => .z) (fun s70 => .z))))))))))
end Go.Proofs.YtnackipaoepmfaaGreat
set_option linter.unusedSimpArgs false
set_option linter.unusedVariables false
namespace Go.Proofs.YtnackipaoepmfaaGreat
open Go Go.RowKit
set_option maxRecDepth 100000
set_option maxHeartbeats 20000000
instance i_slices_EqualFunc_Pattern : ∀ (p0 : (List GPattern)) (p1 : (List GPattern)) (p2 : (GPattern → GPattern → Option Bool)) {p2_f : FuncId} {p2_c : List D} [p2_i : CF2 (fun a0 => (.agg (rGPattern a0))) (fun a1 => (.agg (rGPattern a1))) (fun r => (eB r)) p2 p2_f p2_c], Ct (m_slices_EqualFunc_Pattern p0 p1 p2) fun res => CallsD Tryz.prog 0o00162 [(.slice 6 (List.map rGPattern p0)), (.slice 6 (List.map rGPattern p1)), .clos p2_f p2_c] (fun d => d = (eB res)) :=
 au Tryz.func114 m_slices_EqualFunc_Pattern.eq_1 (.o (.o (.o (.o (.o (.o (.i .z (.ls 0 (.f [] [] [1, 2, 15, 16, 17] [] (fun (k66 : Nat) (s62 : Unit) => [(17, eI (k66 : Int))]) (fun k66 s62 => []) (fun k66 s62 => .z) (fun s70 => .z))))))))))
end Go.Proofs.YtnackipaoepmfaaGreat
set_option linter.unusedSimpArgs false
set_option linter.unusedVariables false
namespace Go.Proofs.YtnackipaoepmfaaGreat
open Go Go.RowKit
set_option maxRecDepth 100000
set_option maxHeartbeats 20000000
instance i_impl_PatternSame : ∀ (n : Nat) (p0 : GPattern) (p1 : GPattern), Ct (m_impl_PatternSame n p0 p1) fun res => CallsD Tryz.prog 0o00061 [(.agg (rGPattern p0)), (.agg (rGPattern p1))] (fun d => d = (eB res)) :=
 ar (au Tryz.func49 m_impl_PatternSame.eq_2 .z)
end Go.Proofs.YtnackipaoepmfaaGreat
set_option linter.unusedSimpArgs false
set_option linter.unusedVariables false
namespace Go.Proofs.YtnackipaoepmfaaGreat
open Go Go.RowKit
set_option maxRecDepth 100000
set_option maxHeartbeats 20000000
instance i_impl_ClausesSame_1 : ∀ (n : Nat) (p0 : GClause) (p1 : GClause), Ct (m_impl_ClausesSame_1 n p0 p1) fun res => CallsD Tryz.prog 0o00142 [(.agg (rGClause p0)), (.agg (rGClause p1))] (fun d => d = (eB res)) :=
 au Tryz.func98 m_impl_ClausesSame_1.eq_1 .z
end Go.Proofs.YtnackipaoepmfaaGreat
set_option linter.unusedSimpArgs false
set_option linter.unusedVariables false
namespace Go.Proofs.YtnackipaoepmfaaGreat
open Go Go.RowKit
set_option maxRecDepth 100000
set_option maxHeartbeats 20000000
instance i_impl_ClausesSame : ∀ (n : Nat) (p0 : (List GClause)) (p1 : (List GClause)), Ct (m_impl_ClausesSame n p0 p1) fun res => CallsD Tryz.prog 0o00041 [(.slice 9 (List.map rGClause p0)), (.slice 9 (List.map rGClause p1))] (fun d => d = (eB res)) :=
 au Tryz.func33 m_impl_ClausesSame.eq_1 .z
end Go.Proofs.YtnackipaoepmfaaGreat
