import Derived.Test.YtnackipaoepmfaaGreatJMir
import Derived.Test.YtnackipaoepmfaaGreatJAuto
import Derived.Test.YtnackipaoepmfaaGreatJCs0
set_option linter.unusedSimpArgs false
set_option linter.unusedVariables false
set_option linter.unusedSimpArgs false
set_option linter.unusedVariables false
namespace Go.Proofs.YtnackipaoepmfaaGreat
open Go Go.RowKit
set_option maxRecDepth 100000
set_option maxHeartbeats 20000000
instance i_spec_l1Text : ∀ (n : Nat) (p0 : (List GData)), Ct (m_spec_l1Text n p0) fun res => CallsD Tryz.prog 0o00521 [(.slice 2 (List.map rGData p0))] (fun d => d = (eS res)) :=
 au Tryz.func337 m_spec_l1Text.eq_1 (.o (.o (.ls 0 (.f [3] [] [0, 3, 4] [] (fun (k866 : Nat) (s862 : ByteArray) => [(3, eS s862), (4, eI (k866 : Int))]) (fun k866 s862 => []) (fun k866 s862 => .b fun (x867 : GData) => .j 5 1 [0, 3, 4] [] (fun (s956 : ByteArray) => [(3, eS s956)]) (fun _ => []) .z (fun s956 => .o (.o (.le 0 1 3 rGCtor x867.ctors x867 (.f [0, 3, 4] [] [0, 3, 4, 5] [] (fun (k1014 : Nat) (s1010 : ByteArray) => [(3, eS s1010), (5, eI (k1014 : Int))]) (fun k1014 s1010 => []) (fun k1014 s1010 => .o (.j 11 1 [0, 3, 4, 5] [] (fun (s1030 : ByteArray) => [(3, eS s1030)]) (fun _ => []) .z (fun _ => .z))) (fun s1018 => .z)))))) (fun s870 => .z)))))
end Go.Proofs.YtnackipaoepmfaaGreat
set_option linter.unusedSimpArgs false
set_option linter.unusedVariables false
namespace Go.Proofs.YtnackipaoepmfaaGreat
open Go Go.RowKit
set_option maxRecDepth 100000
set_option maxHeartbeats 20000000
instance i_spec_ParseWorld : ∀ (n : Nat) (p0 : ByteArray), Ct (m_spec_ParseWorld n p0) fun res => CallsD Tryz.prog 0o00460 [(eS p0)] (fun d => d = .tup [(.slice 2 (List.map rGData res.1)), (eB res.2)]) :=
 au Tryz.func304 m_spec_ParseWorld.eq_1 (.o (.o (.o (.ls 16 (.f [0, 4, 5, 6] [16, 32] [0, 4, 5, 6, 7] [16, 32] (fun (k153 : Nat) (s149 : (List ByteArray)) => [(5, .sl 1 32 (s149).length), (7, eI (k153 : Int))]) (fun k153 s149 => [(32, some ⟨1, (List.map rS s149), 0, 0x0009⟩)]) (fun k153 s149 => .z) (fun s157 => .pF 1 (.ll 1 (.f [0, 4] [0] [0, 4, 5, 6, 9] [0, 1] (fun (k1263 : Nat) (s1259 : (List GData)) => [(4, .sl 2 0 (s1259).length), (9, eI (k1263 : Int))]) (fun k1263 s1259 => [(0, some ⟨2, (List.map rGData s1259), 0, 0x009e⟩)]) (fun k1263 s1259 => .b fun (x1264 : ByteArray) => .o (.o (.o (.o (.pC 146 1 3 0x0116 (.ls 59 (.f [0, 4, 5, 6, 9, 11] [0, 1, 146, 170] [0, 4, 5, 6, 9, 10, 11, 12] [0, 1, 146, 170] (fun (k1466 : Nat) (s1462 : (List GCtor)) => [(12, eI (k1466 : Int))]) (fun k1466 s1462 => [(1000000146, some ⟨2, [[(eS x1264), (.sl 3 170 (s1462).length)]], 0, 0x009e⟩), (170, some ⟨3, (List.map rGCtor s1462), 0, 0x0116⟩)]) (fun k1466 s1462 => .o (.i (.g [0, 4, 5, 6, 9, 10, 11, 12] [0, 1, 2, 3] [] [(1000000002, some ⟨2, [[(eS x1264), (.sl 3 3 (s1462).length)]], 0, 0x009e⟩)] (.o (.o (.d [0, 1, 2, 3, 4, 5, 6, 7, 8, 9, 10, 11] [2] [85] .z)))) .z)) (fun s1470 => .o (.pF 3 .z))))))))) (fun s1267 => .z)))))))))
end Go.Proofs.YtnackipaoepmfaaGreat
set_option linter.unusedSimpArgs false
set_option linter.unusedVariables false
namespace Go.Proofs.YtnackipaoepmfaaGreat
open Go Go.RowKit
set_option maxRecDepth 100000
set_option maxHeartbeats 20000000
instance i_spec_l1Texts : Ct (m_spec_l1Texts) fun res => CallsD Tryz.prog 0o00457 [] (fun d => d = (.slice 1 (List.map rS res))) :=
 au Tryz.func303 m_spec_l1Texts.eq_1 .z
end Go.Proofs.YtnackipaoepmfaaGreat
set_option linter.unusedSimpArgs false
set_option linter.unusedVariables false
namespace Go.Proofs.YtnackipaoepmfaaGreat
open Go Go.RowKit
set_option maxRecDepth 100000
set_option maxHeartbeats 20000000
instance i_spec_l1World : ∀ (n : Nat) (p0 : Gl17Rd), Ct (m_spec_l1World n p0) fun res => CallsH Tryz.prog 0o00363 [⟨2, [(rGl17Rd p0)], 0, 0x00c4⟩] [.ptr 2 0 0 0] (fun H d => H = [some ⟨2, [(rGl17Rd res.2)], 0, 0x00c4⟩] ∧ d = (.slice 2 (List.map rGData res.1))) :=
 au Tryz.func243 m_spec_l1World.eq_1 .z
end Go.Proofs.YtnackipaoepmfaaGreat
set_option linter.unusedSimpArgs false
set_option linter.unusedVariables false
namespace Go.Proofs.YtnackipaoepmfaaGreat
open Go Go.RowKit
set_option maxRecDepth 100000
set_option maxHeartbeats 20000000
instance i_spec_l2Typed : ∀ (n : Nat) (p0 : Gl17Rd), Ct (m_spec_l2Typed n p0) fun res => CallsH Tryz.prog 0o00227 [⟨2, [(rGl17Rd p0)], 0, 0x00c4⟩] [.ptr 2 0 0 0] (fun H d => H = [some ⟨2, [(rGl17Rd res.2.2.2)], 0, 0x00c4⟩] ∧ d = .tup [(.slice 2 (List.map rGData res.1)), (.agg (rGType res.2.1)), (.agg (rGValue res.2.2.1))]) :=
 au Tryz.func151 m_spec_l2Typed.eq_1 (.o (.o (.o (.o (.o (.o (.j 4 0 [0, 3, 4, 5, 6, 7] [0, 9, 17, 137] (fun (s7 : Int × Int) => []) (fun s7 => [(137, some ⟨2, [[(eI s7.1), (eI s7.2)]], 0, 0x0019⟩)]) .z (fun _ => .g [0, 3, 4, 5, 6, 7] [0, 1, 2, 3] [] [] (.o (.o (.d [0, 1, 2, 3, 4, 5, 6, 7, 8, 9, 10, 11, 12] [3] [] .z)))))))))))
end Go.Proofs.YtnackipaoepmfaaGreat
set_option linter.unusedSimpArgs false
set_option linter.unusedVariables false
namespace Go.Proofs.YtnackipaoepmfaaGreat
open Go Go.RowKit
set_option maxRecDepth 100000
set_option maxHeartbeats 20000000
instance i_spec_l4Typed : ∀ (n : Nat) (p0 : Gl17Rd), Ct (m_spec_l4Typed n p0) fun res => CallsH Tryz.prog 0o00104 [⟨2, [(rGl17Rd p0)], 0, 0x00c4⟩] [.ptr 2 0 0 0] (fun H d => H = [some ⟨2, [(rGl17Rd res.2.2.2.2)], 0, 0x00c4⟩, some ⟨9, List.map rGClause res.2.2.1, 0, 0x0037⟩] ∧ d = .tup [(.slice 2 (List.map rGData res.1)), (.agg (rGType res.2.1)), .sl 9 1 res.2.2.1.length, (.agg (rGValue res.2.2.2.1))]) :=
 au Tryz.func68 m_spec_l4Typed.eq_1 (.o (.o (.o (.g [0, 3, 5, 6, 7, 8] [0, 9, 25, 81, 89] [] [] (.o (.d [0, 1, 2, 3, 4, 6, 5, 7, 8, 9, 10] [3, 4] [] .z))))))
end Go.Proofs.YtnackipaoepmfaaGreat
set_option linter.unusedSimpArgs false
set_option linter.unusedVariables false
namespace Go.Proofs.YtnackipaoepmfaaGreat
open Go Go.RowKit
set_option maxRecDepth 100000
set_option maxHeartbeats 20000000
instance i_spec_DrawMissingPatterns : ∀ (n : Nat) (p0 : (List Int)), Ct (m_spec_DrawMissingPatterns n p0) fun res => CallsH Tryz.prog 0o00117 [] [(.slice 1 (List.map (rK .u8) p0))] (fun H d => H = [some ⟨9, List.map rGClause res.2.2, 0, 0x0037⟩] ∧ d = .tup [(.slice 2 (List.map rGData res.1)), (.agg (rGType res.2.1)), .sl 9 0 res.2.2.length]) :=
 au Tryz.func79 m_spec_DrawMissingPatterns.eq_1 (.o (.o (.o (.o (.j 3 0 [3, 5, 6, 7, 8] [8, 33, 104, 57] (fun (s15 : Gl17Rd × (List GClause)) => [(8, .sl 9 57 (s15.2).length)]) (fun s15 => [(33, some ⟨2, [(rGl17Rd s15.1)], 0, 0x00c4⟩), (57, some ⟨9, (List.map rGClause s15.2), 0, 0x0037⟩)]) .z (fun _ => .g [3, 5, 6, 7, 8] [0, 1, 2, 3] [] [] (.o (.d [0, 1, 2, 3, 4, 5, 6, 7] [2] [] .z))))))))
end Go.Proofs.YtnackipaoepmfaaGreat
set_option linter.unusedSimpArgs false
set_option linter.unusedVariables false
namespace Go.Proofs.YtnackipaoepmfaaGreat
open Go Go.RowKit
set_option maxRecDepth 100000
set_option maxHeartbeats 20000000
instance i_spec_DrawExhaustive : ∀ (n : Nat) (p0 : (List Int)), Ct (m_spec_DrawExhaustive n p0) fun res => CallsD Tryz.prog 0o00025 [(.slice 1 (List.map (rK .u8) p0))] (fun d => d = .tup [(.slice 2 (List.map rGData res.1)), (.agg (rGType res.2.1)), (.slice 9 (List.map rGClause res.2.2))]) :=
 au Tryz.func21 m_spec_DrawExhaustive.eq_1 .z
end Go.Proofs.YtnackipaoepmfaaGreat
set_option linter.unusedSimpArgs false
set_option linter.unusedVariables false
namespace Go.Proofs.YtnackipaoepmfaaGreat
open Go Go.RowKit
set_option maxRecDepth 100000
set_option maxHeartbeats 20000000
instance i_spec_l3Copy : ∀ (n : Nat) (p0 : GPattern), Ct (m_spec_l3Copy n p0) fun res => CallsD Tryz.prog 0o00161 [(.agg (rGPattern p0))] (fun d => d = (.agg (rGPattern res))) :=
 ar (au Tryz.func113 m_spec_l3Copy.eq_2 (.o (.o (.b fun (p0 : GPattern) => .pC 24 5 6 0x0033 (.lc 0 5 6 rGPattern p0.kids (.f [2, 3] [8, 24, 64] [1, 2, 3, 4] [0, 8, 24, 64] (fun (k56 : Nat) (s52 : (List GPattern)) => [(4, eI (k56 : Int))]) (fun k56 s52 => [(1000000024, some ⟨6, [[(eI p0.op), (eI p0.ctor), (eI p0.n), (eI p0.m), (eI p0.var), (.sl 6 64 (s52).length)]], 0, 0x0033⟩), (64, some ⟨6, (List.map rGPattern s52), 0, 0x0033⟩)]) (fun k56 s52 => .o (.g [1, 2, 3, 4] [0, 1, 2, 3] [] [(1000000002, some ⟨6, [[(eI p0.op), (eI p0.ctor), (eI p0.n), (eI p0.m), (eI p0.var), (.sl 6 3 (s52).length)]], 0, 0x0033⟩)] (.o (.o (.d [0, 1, 2, 3, 4, 5, 6, 7, 8, 9, 10, 11] [0, 2] [24] .z))))) (fun s60 => .z)))))))
end Go.Proofs.YtnackipaoepmfaaGreat
set_option linter.unusedSimpArgs false
set_option linter.unusedVariables false
namespace Go.Proofs.YtnackipaoepmfaaGreat
open Go Go.RowKit
set_option maxRecDepth 100000
set_option maxHeartbeats 20000000
instance i_spec_l3All : ∀ (n : Nat) (p0 : (List GPattern)), Ct (m_spec_l3All n p0) fun res => CallsD Tryz.prog 0o00413 [(.slice 6 (List.map rGPattern p0))] (fun d => d = (.slice 6 (List.map rGPattern res))) :=
 au Tryz.func267 m_spec_l3All.eq_1 (.o (.o (.ls 0 (.f [3] [8] [0, 3, 4] [8] (fun (k56 : Nat) (s52 : (List GPattern)) => [(3, .sl 6 8 (s52).length), (4, eI (k56 : Int))]) (fun k56 s52 => [(8, some ⟨6, (List.map rGPattern s52), 0, 0x0033⟩)]) (fun k56 s52 => .z) (fun s60 => .z)))))
end Go.Proofs.YtnackipaoepmfaaGreat
set_option linter.unusedSimpArgs false
set_option linter.unusedVariables false
namespace Go.Proofs.YtnackipaoepmfaaGreat
open Go Go.RowKit
set_option maxRecDepth 100000
set_option maxHeartbeats 20000000
instance i_spec_l5Right : ∀ (n : Nat) (p0 : (List GData)) (p1 : GType) (p2 : (List GPattern)) (p3 : Bool), Ct (m_spec_l5Right n p0 p1 p2 p3) fun res => CallsD Tryz.prog 0o00271 [(.slice 2 (List.map rGData p0)), (.agg (rGType p1)), (.slice 6 (List.map rGPattern p2)), (eB p3)] (fun d => d = .tup [(.slice 6 (List.map rGPattern res.1)), (eB res.2)]) :=
 au Tryz.func185 m_spec_l5Right.eq_1 (.o (.o (.o (.o (.o (.ls 2 (.f [2, 3] [] [0, 2, 3, 5, 10] [0] (fun (k54 : Nat) (s50 : Unit) => [(10, eI (k54 : Int))]) (fun k54 s50 => []) (fun k54 s50 => .o (.g [0, 2, 3, 5, 10] [0] [] [] (.o (.d [0, 1, 2, 3, 4, 5, 6, 7] [0] [] .z)))) (fun s58 => .z))))))))
end Go.Proofs.YtnackipaoepmfaaGreat
set_option linter.unusedSimpArgs false
set_option linter.unusedVariables false
namespace Go.Proofs.YtnackipaoepmfaaGreat
open Go Go.RowKit
set_option maxRecDepth 100000
set_option maxHeartbeats 20000000
instance i_spec_l3Tuples : ∀ (p0 : (List (List GPattern))), Ct (m_spec_l3Tuples p0) fun res => CallsD Tryz.prog 0o00427 [(.slice 1 (List.map (rL 6 rGPattern) p0))] (fun d => d = (.slice 1 (List.map (rL 6 rGPattern) res))) :=
 au Tryz.func279 m_spec_l3Tuples.eq_1 (.o (.pF 8 (.ls 0 (.f [3] [16] [0, 3, 4] [16] (fun (k12196 : Nat) (s12192 : (List (List GPattern))) => [(3, .sl 1 16 (s12192).length), (4, eI (k12196 : Int))]) (fun k12196 s12192 => [(16, some ⟨1, (List.map (rL 6 rGPattern) s12192), 0, 0x0031⟩)]) (fun k12196 s12192 => .b fun (x12197 : (List GPattern)) => .ll 0 (.f [0, 4, 5] [33] [0, 3, 4, 5, 6] [0, 33] (fun (k13570 : Nat) (s13566 : (List (List GPattern))) => [(5, .sl 1 33 (s13566).length), (6, eI (k13570 : Int))]) (fun k13570 s13566 => [(33, some ⟨1, (List.map (rL 6 rGPattern) s13566), 0, 0x0031⟩)]) (fun k13570 s13566 => .o (.i (.le 0 0 6 rGPattern x12197 x12197 (.f [0, 3, 4, 5, 6] [0, 1] [0, 3, 4, 5, 6, 7] [0, 1] (fun (k13668 : Nat) (s13664 : (List (List GPattern))) => [(5, .sl 1 1 (s13664).length), (7, eI (k13668 : Int))]) (fun k13668 s13664 => [(1, some ⟨1, (List.map (rL 6 rGPattern) s13664), 0, 0x0031⟩)]) (fun k13668 s13664 => .o (.i (.g [0, 3, 4, 5, 6, 7] [0, 1] [] [] (.o (.o (.o (.dz [0, 2, 3, 4, 5, 7, 8, 9, 10, 11, 12, 13, 1, 6, 14, 15, 16, 17, 18] [0] [1048632] [] (.pF 2097168 .z)))))) .z)) (fun s13672 => .z))) .z)) (fun s13574 => .z))) (fun s12200 => .z)))))
end Go.Proofs.YtnackipaoepmfaaGreat
set_option linter.unusedSimpArgs false
set_option linter.unusedVariables false
namespace Go.Proofs.YtnackipaoepmfaaGreat
open Go Go.RowKit
set_option maxRecDepth 100000
set_option maxHeartbeats 20000000
instance i_spec_l3Split : ∀ (n : Nat) (p0 : GPattern), Ct (m_spec_l3Split n p0) fun res => CallsH Tryz.prog 0o00324 [] [(.agg (rGPattern p0))] (fun H d => H = [some ⟨6, List.map rGPattern res, 0, 0x0033⟩] ∧ d = .sl 6 0 res.length) :=
 ar (au Tryz.func212 m_spec_l3Split.eq_2 (.o (.o (.b fun (p0 : GPattern) => .i (.g [1] [0] [] [] (.o (.o (.o (.o (.b fun (x16 : (List GPattern)) => .d [0, 1, 2, 3, 5, 6, 7, 8, 4, 9, 10, 11] [0] [] (.i (.gr 4 [3] [17] [(3, .sl 6 17 (x16).length)] [(17, some ⟨6, (List.map rGPattern x16), 0, 0x0033⟩)] (.b fun (x20 : (List GPattern)) => .pS 0 401 rGPattern x20 .z)) .z))))))) (.lc 0 5 6 rGPattern p0.kids (.f [1, 4] [0, 40] [1, 4, 5] [0, 40] (fun (k76 : Nat) (s72 : (List (List GPattern))) => [(4, .sl 1 40 (s72).length), (5, eI (k76 : Int))]) (fun k76 s72 => [(40, some ⟨1, (List.map (rL 6 rGPattern) s72), 0, 0x0031⟩)]) (fun k76 s72 => .o (.o (.o (.pF 91 .z)))) (fun s80 => .o (.ls 48 (.f [7] [26] [1, 6, 7, 8] [0, 26] (fun (k131 : Nat) (s127 : (List GPattern)) => [(7, .sl 6 26 (s127).length), (8, eI (k131 : Int))]) (fun k131 s127 => [(26, some ⟨6, (List.map rGPattern s127), 0, 0x0033⟩)]) (fun k131 s127 => .z) (fun s135 => .z))))))))))
end Go.Proofs.YtnackipaoepmfaaGreat
set_option linter.unusedSimpArgs false
set_option linter.unusedVariables false
namespace Go.Proofs.YtnackipaoepmfaaGreat
open Go Go.RowKit
set_option maxRecDepth 100000
set_option maxHeartbeats 20000000
instance i_spec_BarePattern : ∀ (n : Nat) (p0 : GPattern), Ct (m_spec_BarePattern n p0) fun res => CallsD Tryz.prog 0o00215 [(.agg (rGPattern p0))] (fun d => d = (.agg (rGPattern res))) :=
 ar (au Tryz.func141 m_spec_BarePattern.eq_2 (.o (.o (.b fun (p0 : GPattern) => .j 1 0 [1, 2] [0, 8] (fun (s6 : Unit) => []) (fun _ => []) .z (fun s6 => .pC 10 5 6 0x0033 (.lc 0 5 6 rGPattern p0.kids (.f [2, 3] [1, 10, 50] [1, 2, 3, 4] [0, 1, 10, 50] (fun (k69 : Nat) (s65 : (List GPattern)) => [(4, eI (k69 : Int))]) (fun k69 s65 => [(1000000010, some ⟨6, [[(eI p0.op), (eI p0.ctor), (eI p0.n), (eI p0.m), (eI p0.var), (.sl 6 50 (s65).length)]], 0, 0x0033⟩), (50, some ⟨6, (List.map rGPattern s65), 0, 0x0033⟩)]) (fun k69 s65 => .o (.g [1, 2, 3, 4] [0, 1, 2, 3] [] [(1000000002, some ⟨6, [[(eI p0.op), (eI p0.ctor), (eI p0.n), (eI p0.m), (eI p0.var), (.sl 6 3 (s65).length)]], 0, 0x0033⟩)] (.o (.o (.d [0, 1, 2, 3, 4, 5, 6, 7, 8, 9, 10, 11] [0, 2] [40] .z))))) (fun s73 => .z))))))))
end Go.Proofs.YtnackipaoepmfaaGreat
set_option linter.unusedSimpArgs false
set_option linter.unusedVariables false
namespace Go.Proofs.YtnackipaoepmfaaGreat
open Go Go.RowKit
set_option maxRecDepth 100000
set_option maxHeartbeats 20000000
instance i_spec_l5Parts : ∀ (n : Nat) (p0 : GPattern), Ct (m_spec_l5Parts n p0) fun res => CallsD Tryz.prog 0o00304 [(.agg (rGPattern p0))] (fun d => d = (.slice 6 (List.map rGPattern res))) :=
 au Tryz.func196 m_spec_l5Parts.eq_1 .z
end Go.Proofs.YtnackipaoepmfaaGreat
set_option linter.unusedSimpArgs false
set_option linter.unusedVariables false
namespace Go.Proofs.YtnackipaoepmfaaGreat
open Go Go.RowKit
set_option maxRecDepth 100000
set_option maxHeartbeats 20000000
instance i_spec_l6Parts : ∀ (n : Nat) (p0 : (List GClause)) (p1 : Int), Ct (m_spec_l6Parts n p0 p1) fun res => CallsD Tryz.prog 0o00404 [(.slice 9 (List.map rGClause p0)), (eI p1)] (fun d => d = .tup [(.slice 6 (List.map rGPattern res.1)), (eB res.2)]) :=
 au Tryz.func260 m_spec_l6Parts.eq_1 (.o (.o (.o (.w [6] [16] [0, 1, 6, 7] [16] (fun (s121 : (List GPattern) × Int) => [(6, .sl 6 16 (s121.1).length), (7, eI s121.2)]) (fun s121 => [(16, some ⟨6, (List.map rGPattern s121.1), 0, 0x0033⟩)]) (fun s121 => .i (.j 5 0 [0, 1, 6, 7] [0] (fun (s140 : (List GPattern)) => [(6, .sl 6 0 (s140).length)]) (fun s140 => [(0, some ⟨6, (List.map rGPattern s140), 0, 0x0033⟩)]) .z (fun _ => .z)) .z) (fun s129 => .z)))))
end Go.Proofs.YtnackipaoepmfaaGreat
set_option linter.unusedSimpArgs false
set_option linter.unusedVariables false
namespace Go.Proofs.YtnackipaoepmfaaGreat
open Go Go.RowKit
set_option maxRecDepth 100000
set_option maxHeartbeats 20000000
instance i_spec_l5Alive : ∀ (n : Nat) (p0 : (List GData)) (p1 : (List Int)) (p2 : GType) (p3 : GPattern), Ct (m_spec_l5Alive n p0 p1 p2 p3) fun res => CallsD Tryz.prog 0o00362 [(.slice 2 (List.map rGData p0)), (.slice 1 (List.map rI p1)), (.agg (rGType p2)), (.agg (rGPattern p3))] (fun d => d = (eB res)) :=
 ar (au Tryz.func242 m_spec_l5Alive.eq_2 (.o (.o (.o (.o (.o (.o (.i .z (.i .z (.o (.ls 25 (.f [] [] [0, 1, 7, 9, 10] [8] (fun (k71 : Nat) (s67 : Unit) => [(10, eI (k71 : Int))]) (fun k71 s67 => []) (fun k71 s67 => .o (.g [0, 1, 7, 9, 10] [0] [] [] (.o (.o (.d [0, 1, 2, 3, 4, 5, 6, 7, 8, 9, 10, 11, 12] [0] [] .z))))) (fun s75 => .z)))))))))))))
end Go.Proofs.YtnackipaoepmfaaGreat
set_option linter.unusedSimpArgs false
set_option linter.unusedVariables false
namespace Go.Proofs.YtnackipaoepmfaaGreat
open Go Go.RowKit
set_option maxRecDepth 100000
set_option maxHeartbeats 20000000
instance i_spec_l5Keep : ∀ (n : Nat) (p0 : (List GData)) (p1 : (List Int)) (p2 : GType) (p3 : (List GPattern)), Ct (m_spec_l5Keep n p0 p1 p2 p3) fun res => CallsD Tryz.prog 0o00474 [(.slice 2 (List.map rGData p0)), (.slice 1 (List.map rI p1)), (.agg (rGType p2)), (.slice 6 (List.map rGPattern p3))] (fun d => d = (.slice 6 (List.map rGPattern res))) :=
 au Tryz.func316 m_spec_l5Keep.eq_1 (.o (.o (.o (.o (.o (.ls 3 (.f [9] [16] [0, 1, 3, 6, 9, 10] [0, 16] (fun (k81 : Nat) (s77 : (List GPattern)) => [(9, .sl 6 16 (s77).length), (10, eI (k81 : Int))]) (fun k81 s77 => [(16, some ⟨6, (List.map rGPattern s77), 0, 0x0033⟩)]) (fun k81 s77 => .o (.j 5 0 [0, 1, 3, 6, 9, 10] [0, 1] (fun (s89 : (List GPattern)) => [(9, .sl 6 1 (s89).length)]) (fun s89 => [(1, some ⟨6, (List.map rGPattern s89), 0, 0x0033⟩)]) (.g [0, 1, 3, 6, 9, 10] [0, 1] [] [] (.o (.d [0, 1, 2, 3, 4, 5, 6, 7] [0] [] .z))) (fun _ => .z))) (fun s85 => .z))))))))
end Go.Proofs.YtnackipaoepmfaaGreat
set_option linter.unusedSimpArgs false
set_option linter.unusedVariables false
namespace Go.Proofs.YtnackipaoepmfaaGreat
open Go Go.RowKit
set_option maxRecDepth 100000
set_option maxHeartbeats 20000000
instance i_spec_l5Ranges : ∀ (p0 : GPattern) (p1 : GPattern), Ct (m_spec_l5Ranges p0 p1) fun res => CallsD Tryz.prog 0o00541 [(.agg (rGPattern p0)), (.agg (rGPattern p1))] (fun d => d = (.slice 6 (List.map rGPattern res))) :=
 au Tryz.func353 m_spec_l5Ranges.eq_1 (.b fun (p0 : GPattern) => .o (.j 3 0 [2, 3, 5, 6] [0, 8, 24, 80] (fun (s2 : Int) => []) (fun s2 => [(80, some ⟨6, [[(eI 3), (eI 0), (eI p0.n), (eI s2), (eI 0), .nil]], 0, 0x0033⟩)]) .z (fun s2 => .j 5 0 [2, 3, 5] [0, 1, 2] (fun (s8 : (List GPattern)) => [(5, .sl 6 2 (s8).length)]) (fun s8 => [(2, some ⟨6, (List.map rGPattern s8), 0, 0x0033⟩)]) .z (fun s8 => .j 8 0 [5, 7] [2, 43] (fun (s14 : Int) => []) (fun s14 => [(43, some ⟨6, [[(eI 3), (eI 0), (eI s14), (eI p0.m), (eI 0), .nil]], 0, 0x0033⟩)]) .z (fun s14 => .j 10 0 [5] [0] (fun (s20 : (List GPattern)) => [(5, .sl 6 0 (s20).length)]) (fun s20 => [(0, some ⟨6, (List.map rGPattern s20), 0, 0x0033⟩)]) .z (fun _ => .z))))))
end Go.Proofs.YtnackipaoepmfaaGreat
set_option linter.unusedSimpArgs false
set_option linter.unusedVariables false
namespace Go.Proofs.YtnackipaoepmfaaGreat
open Go Go.RowKit
set_option maxRecDepth 100000
set_option maxHeartbeats 20000000
instance i_spec_l5Wide : ∀ (p0 : (List GData)) (p1 : GType) (p2 : Int), Ct (m_spec_l5Wide p0 p1 p2) fun res => CallsD Tryz.prog 0o00504 [(.slice 2 (List.map rGData p0)), (.agg (rGType p1)), (eI p2)] (fun d => d = (.agg (rGPattern res))) :=
 au Tryz.func324 m_spec_l5Wide.eq_1 (.o (.o (.b fun (p2 : Int) => .o (.pC 32 5 6 0x0033 (.ls 15 (.f [6, 7] [8, 32, 96] [6, 7, 8, 9] [8, 32, 96] (fun (k49 : Nat) (s45 : (List GPattern)) => [(9, eI (k49 : Int))]) (fun k49 s45 => [(1000000032, some ⟨6, [[(eI 4), (eI p2), (eI 0), (eI 0), (eI 0), (.sl 6 96 (s45).length)]], 0, 0x0033⟩), (96, some ⟨6, (List.map rGPattern s45), 0, 0x0033⟩)]) (fun k49 s45 => .o (.g [6, 7, 8, 9] [0, 1, 2] [] [(1000000001, some ⟨6, [[(eI 4), (eI p2), (eI 0), (eI 0), (eI 0), (.sl 6 2 (s45).length)]], 0, 0x0033⟩)] (.o (.o (.d [0, 1, 2, 3, 4, 5, 6] [1] [27] .z))))) (fun s53 => .z)))))))
end Go.Proofs.YtnackipaoepmfaaGreat
set_option linter.unusedSimpArgs false
set_option linter.unusedVariables false
namespace Go.Proofs.YtnackipaoepmfaaGreat
open Go Go.RowKit
set_option maxRecDepth 100000
set_option maxHeartbeats 20000000
instance i_spec_l5Meet : ∀ (n : Nat) (p0 : GPattern) (p1 : GPattern), Ct (m_spec_l5Meet n p0 p1) fun res => CallsD Tryz.prog 0o00267 [(.agg (rGPattern p0)), (.agg (rGPattern p1))] (fun d => d = .tup [(.agg (rGPattern res.1)), (eB res.2)]) :=
 ar (au Tryz.func183 m_spec_l5Meet.eq_2 (.o (.o (.b fun (p0 : GPattern) => .o (.i .z (.i .z (.i (.j 8 0 [3, 4, 6, 7] [8, 16] (fun (s19 : Int) => [(6, eI s19)]) (fun _ => []) .z (fun s19 => .j 10 0 [4, 6, 7] [1] (fun (s24 : Int) => [(7, eI s24)]) (fun _ => []) .z (fun _ => .z))) (.i .z (.pC 200 5 6 0x0033 (.lc 0 5 6 rGPattern p0.kids (.f [4, 8] [16, 200, 224] [2, 3, 4, 8, 9] [0, 8, 16, 200, 224] (fun (k114 : Nat) (s110 : (List GPattern)) => [(9, eI (k114 : Int))]) (fun k114 s110 => [(1000000200, some ⟨6, [[(eI 4), (eI p0.ctor), (eI 0), (eI 0), (eI 0), (.sl 6 224 (s110).length)]], 0, 0x0033⟩), (224, some ⟨6, (List.map rGPattern s110), 0, 0x0033⟩)]) (fun k114 s110 => .o (.g [2, 3, 4, 8, 9] [0, 1, 2, 3, 4] [] [(1000000003, some ⟨6, [[(eI 4), (eI p0.ctor), (eI 0), (eI 0), (eI 0), (.sl 6 4 (s110).length)]], 0, 0x0033⟩)] (.o (.o (.dz [0, 1, 2, 3, 4, 5, 6, 7, 8, 9, 10, 11, 12, 13, 14, 15, 16] [0, 1] [1048586] [] .z))))) (fun s118 => .z))))))))))))
end Go.Proofs.YtnackipaoepmfaaGreat
set_option linter.unusedSimpArgs false
set_option linter.unusedVariables false
namespace Go.Proofs.YtnackipaoepmfaaGreat
open Go Go.RowKit
set_option maxRecDepth 100000
set_option maxHeartbeats 20000000
theorem ia_spec_l5Minus : ∀ n : Nat, (∀ (p0 : (List GData)) (p1 : GType) (p2 : GPattern) (p3 : GPattern), Ct (m_spec_l5Minus n p0 p1 p2 p3) fun res => CallsD Tryz.prog 0o00475 [(.slice 2 (List.map rGData p0)), (.agg (rGType p1)), (.agg (rGPattern p2)), (.agg (rGPattern p3))] (fun d => d = (.slice 6 (List.map rGPattern res)))) ∧ (∀ (p0 : (List GData)) (p1 : GType) (p2 : GPattern) (p3 : GPattern), Ct (m_spec_l5Kids n p0 p1 p2 p3) fun res => CallsD Tryz.prog 0o00542 [(.slice 2 (List.map rGData p0)), (.agg (rGType p1)), (.agg (rGPattern p2)), (.agg (rGPattern p3))] (fun d => d = (.slice 6 (List.map rGPattern res)))) :=
 ar2 (au Tryz.func317 m_spec_l5Minus.eq_2 (.o (.o (.o (.o (.o (.o (.o (.i .z (.i .z (.i .z (.o (.ls 61 (.f [9] [224] [0, 5, 7, 9, 10, 11] [0, 16, 224] (fun (k115 : Nat) (s111 : (List GPattern)) => [(9, .sl 6 224 (s111).length), (11, eI (k115 : Int))]) (fun k115 s111 => [(224, some ⟨6, (List.map rGPattern s111), 0, 0x0033⟩)]) (fun k115 s111 => .o (.g [0, 5, 7, 9, 10, 11] [0, 1, 2] [] [] (.o (.o (.o (.d [0, 1, 2, 3, 4, 5, 6, 7, 8, 10, 9, 11, 12, 13] [0, 1] [] .z)))))) (fun s119 => .z)))))))))))))))
 (au Tryz.func354 m_spec_l5Kids.eq_2 (.o (.o (.o (.o (.o (.b fun (p2 : GPattern) => .o (.o (.ls 23 (.f [9] [32] [0, 6, 7, 9, 10, 11, 12] [8, 16, 32, 96] (fun (k1109 : Nat) (s1105 : (List GPattern) × (List GPattern)) => [(9, .sl 6 32 (s1105.1).length), (11, .sl 6 96 (s1105.2).length), (12, eI (k1109 : Int))]) (fun k1109 s1105 => [(32, some ⟨6, (List.map rGPattern s1105.1), 0, 0x0033⟩), (96, some ⟨6, (List.map rGPattern s1105.2), 0, 0x0033⟩)]) (fun k1109 s1105 => .o (.g [0, 6, 7, 9, 10, 11, 12] [0, 1, 2, 3] [] [] (.o (.o (.o (.d [0, 1, 2, 3, 4, 5, 6, 7, 8, 9, 10, 11, 12, 13, 14, 15, 16] [0, 1] [] (.ls 46 (.f [0, 6, 7, 9, 10, 11, 12] [0, 1, 2, 3] [0, 6, 7, 9, 10, 11, 12, 13, 14] [0, 1, 2, 3] (fun (k1309 : Nat) (s1305 : (List GPattern)) => [(9, .sl 6 2 (s1305).length), (14, eI (k1309 : Int))]) (fun k1309 s1305 => [(2, some ⟨6, (List.map rGPattern s1305), 0, 0x0033⟩)]) (fun k1309 s1305 => .o (.g [0, 6, 7, 9, 10, 11, 12, 13, 14] [0, 1, 2, 3] [] [] (.o (.b fun (x1320 : (List GPattern)) => .dz [0, 1, 3, 5, 6, 7, 8, 2, 4, 9, 10, 11, 12, 13] [0] [1048638, 1048591] [] (.g [0, 6, 7, 9, 10, 11, 12, 13, 14, 15] [0, 1, 2, 3, 1048591, 2097168] [] [(1001048591, some ⟨6, [[(eI 4), (eI p2.ctor), (eI 0), (eI 0), (eI 0), (.sl 6 2097168 (x1320).length)]], 0, 0x0033⟩), (2097168, some ⟨6, (List.map rGPattern x1320), 0, 0x0033⟩)] (.o (.o (.d [0, 1, 2, 3, 4, 5, 6, 7, 8, 9] [0, 4] [73] (.o (.pF 6 .z)))))))))) (fun s1313 => .g [0, 6, 7, 9, 10, 11, 12] [0, 1, 2, 3] [] [] (.o (.dz [0, 1, 2, 3, 4, 5, 6, 7, 8, 9, 10, 11, 12, 13, 14, 15, 16] [0, 1] [1048592] [] .z))))))))))) (fun s1113 => .z)))))))))))
instance i_spec_l5Minus : ∀ (n : Nat), ∀ (p0 : (List GData)) (p1 : GType) (p2 : GPattern) (p3 : GPattern), Ct (m_spec_l5Minus n p0 p1 p2 p3) fun res => CallsD Tryz.prog 0o00475 [(.slice 2 (List.map rGData p0)), (.agg (rGType p1)), (.agg (rGPattern p2)), (.agg (rGPattern p3))] (fun d => d = (.slice 6 (List.map rGPattern res))) :=
 fun n => (ia_spec_l5Minus n).1
instance i_spec_l5Kids : ∀ (n : Nat), ∀ (p0 : (List GData)) (p1 : GType) (p2 : GPattern) (p3 : GPattern), Ct (m_spec_l5Kids n p0 p1 p2 p3) fun res => CallsD Tryz.prog 0o00542 [(.slice 2 (List.map rGData p0)), (.agg (rGType p1)), (.agg (rGPattern p2)), (.agg (rGPattern p3))] (fun d => d = (.slice 6 (List.map rGPattern res))) :=
 fun n => (ia_spec_l5Minus n).2
end Go.Proofs.YtnackipaoepmfaaGreat
set_option linter.unusedSimpArgs false
set_option linter.unusedVariables false
namespace Go.Proofs.YtnackipaoepmfaaGreat
open Go Go.RowKit
set_option maxRecDepth 100000
set_option maxHeartbeats 20000000
instance i_spec_l5MinusAll : ∀ (n : Nat) (p0 : (List GData)) (p1 : (List Int)) (p2 : GType) (p3 : (List GPattern)) (p4 : (List GPattern)), Ct (m_spec_l5MinusAll n p0 p1 p2 p3 p4) fun res => CallsD Tryz.prog 0o00405 [(.slice 2 (List.map rGData p0)), (.slice 1 (List.map rI p1)), (.agg (rGType p2)), (.slice 6 (List.map rGPattern p3)), (.slice 6 (List.map rGPattern p4))] (fun d => d = .tup [(.slice 6 (List.map rGPattern res.1)), (eB res.2)]) :=
 au Tryz.func261 m_spec_l5MinusAll.eq_1 (.o (.o (.o (.o (.o (.o (.ls 4 (.f [0, 1, 3, 7] [0] [0, 1, 3, 4, 7, 12] [0] (fun (k1254 : Nat) (s1250 : (List GPattern)) => [(3, .slice 6 (List.map rGPattern s1250)), (12, eI (k1254 : Int))]) (fun k1254 s1250 => []) (fun k1254 s1250 => .o (.ls 3 (.f [0, 1, 4, 7, 12, 13] [0, 33] [0, 1, 3, 4, 7, 12, 13, 14] [0, 33] (fun (k1471 : Nat) (s1467 : (List GPattern)) => [(13, .sl 6 33 (s1467).length), (14, eI (k1471 : Int))]) (fun k1471 s1467 => [(33, some ⟨6, (List.map rGPattern s1467), 0, 0x0033⟩)]) (fun k1471 s1467 => .o (.i (.g [0, 1, 3, 4, 7, 12, 13, 14] [0, 1] [] [] (.o (.o (.o (.d [0, 1, 2, 3, 4, 5, 6, 7, 8, 9, 10, 11, 12, 13, 14, 15, 16, 17] [0] [] .z))))) .z)) (fun s1475 => .i .z (.pF 1 .z))))) (fun s1258 => .z)))))))))
end Go.Proofs.YtnackipaoepmfaaGreat
set_option linter.unusedSimpArgs false
set_option linter.unusedVariables false
namespace Go.Proofs.YtnackipaoepmfaaGreat
open Go Go.RowKit
set_option maxRecDepth 100000
set_option maxHeartbeats 20000000
instance i_spec_l6Rest : ∀ (n : Nat) (p0 : (List GData)) (p1 : GType) (p2 : (List GPattern)) (p3 : (List GClause)) (p4 : Int), Ct (m_spec_l6Rest n p0 p1 p2 p3 p4) fun res => CallsD Tryz.prog 0o00251 [(.slice 2 (List.map rGData p0)), (.agg (rGType p1)), (.slice 6 (List.map rGPattern p2)), (.slice 9 (List.map rGClause p3)), (eI p4)] (fun d => d = .tup [(.slice 6 (List.map rGPattern res.1)), (eB res.2)]) :=
 au Tryz.func169 m_spec_l6Rest.eq_1 (.o (.o (.o (.o (.o (.o (.o (.i .z (.g [0, 2, 6, 12] [0] [] [] (.o (.o (.d [0, 1, 3, 4, 5, 2, 6, 7, 8, 9, 10, 11] [0] [] .z))))))))))))
end Go.Proofs.YtnackipaoepmfaaGreat
set_option linter.unusedSimpArgs false
set_option linter.unusedVariables false
namespace Go.Proofs.YtnackipaoepmfaaGreat
open Go Go.RowKit
set_option maxRecDepth 100000
set_option maxHeartbeats 20000000
instance i_spec_l1Is : ∀ (p0 : (List GData)) (p1 : GType), Ct (m_spec_l1Is p0 p1) fun res => CallsD Tryz.prog 0o00401 [(.slice 2 (List.map rGData p0)), (.agg (rGType p1))] (fun d => d = (eB res)) :=
 au Tryz.func257 m_spec_l1Is.eq_1 .z
end Go.Proofs.YtnackipaoepmfaaGreat
set_option linter.unusedSimpArgs false
set_option linter.unusedVariables false
namespace Go.Proofs.YtnackipaoepmfaaGreat
open Go Go.RowKit
set_option maxRecDepth 100000
set_option maxHeartbeats 20000000
instance i_spec_TypeValid : ∀ (n : Nat) (p0 : (List GData)) (p1 : GType), Ct (m_spec_TypeValid n p0 p1) fun res => CallsD Tryz.prog 0o00242 [(.slice 2 (List.map rGData p0)), (.agg (rGType p1))] (fun d => d = (eB res)) :=
 au Tryz.func162 m_spec_TypeValid.eq_1 .z
end Go.Proofs.YtnackipaoepmfaaGreat
set_option linter.unusedSimpArgs false
set_option linter.unusedVariables false
namespace Go.Proofs.YtnackipaoepmfaaGreat
open Go Go.RowKit
set_option maxRecDepth 100000
set_option maxHeartbeats 20000000
instance i_spec_l4Guard : ∀ (p0 : GGuard) (p1 : (List GVarType)), Ct (m_spec_l4Guard p0 p1) fun res => CallsD Tryz.prog 0o00402 [(.agg (rGGuard p0)), (.slice 3 (List.map rGVarType p1))] (fun d => d = (eB res)) :=
 au Tryz.func258 m_spec_l4Guard.eq_1 (.o (.o (.i .z (.j 3 0 [1, 2] [0] (fun (s23 : Unit) => []) (fun _ => []) .z (fun _ => .z)))))
end Go.Proofs.YtnackipaoepmfaaGreat
set_option linter.unusedSimpArgs false
set_option linter.unusedVariables false
namespace Go.Proofs.YtnackipaoepmfaaGreat
open Go Go.RowKit
set_option maxRecDepth 100000
set_option maxHeartbeats 20000000
instance i_spec_l4Is : ∀ (n : Nat) (p0 : (List GData)) (p1 : GType) (p2 : GClause), Ct (m_spec_l4Is n p0 p1 p2) fun res => CallsD Tryz.prog 0o00243 [(.slice 2 (List.map rGData p0)), (.agg (rGType p1)), (.agg (rGClause p2))] (fun d => d = (eB res)) :=
 au Tryz.func163 m_spec_l4Is.eq_1 (.o (.o (.o (.o (.g [0, 4, 5] [0, 8] [] [] (.o (.i (.o (.o (.d [0, 1, 2, 3, 4, 5, 6, 7, 8, 9, 10, 11, 12, 13, 14, 15] [0, 1] [] .z))) (.d [0, 1, 2, 3, 4, 5, 6, 7, 8, 9, 10, 11, 12, 13, 14, 15] [0, 1] [] .z))))))))
end Go.Proofs.YtnackipaoepmfaaGreat
set_option linter.unusedSimpArgs false
set_option linter.unusedVariables false
namespace Go.Proofs.YtnackipaoepmfaaGreat
open Go Go.RowKit
set_option maxRecDepth 100000
set_option maxHeartbeats 20000000
instance i_spec_ClausesValid : ∀ (n : Nat) (p0 : (List GData)) (p1 : GType) (p2 : (List GClause)), Ct (m_spec_ClausesValid n p0 p1 p2) fun res => CallsD Tryz.prog 0o00114 [(.slice 2 (List.map rGData p0)), (.agg (rGType p1)), (.slice 9 (List.map rGClause p2))] (fun d => d = (eB res)) :=
 au Tryz.func76 m_spec_ClausesValid.eq_1 (.o (.o (.o (.o (.o (.i .z (.i .z (.ls 2 (.f [] [] [0, 2, 4, 7] [0] (fun (k70 : Nat) (s66 : Unit) => [(7, eI (k70 : Int))]) (fun k70 s66 => []) (fun k70 s66 => .o (.g [0, 2, 4, 7] [0] [] [] (.o (.d [0, 1, 2, 3, 4, 5, 6, 7] [0] [] .z)))) (fun s74 => .z))))))))))
end Go.Proofs.YtnackipaoepmfaaGreat
set_option linter.unusedSimpArgs false
set_option linter.unusedVariables false
namespace Go.Proofs.YtnackipaoepmfaaGreat
open Go Go.RowKit
set_option maxRecDepth 100000
set_option maxHeartbeats 20000000
instance i_spec_MissingPatterns : ∀ (n : Nat) (p0 : (List GData)) (p1 : GType) (p2 : (List GClause)), Ct (m_spec_MissingPatterns n p0 p1 p2) fun res => CallsD Tryz.prog 0o00121 [(.slice 2 (List.map rGData p0)), (.agg (rGType p1)), (.slice 9 (List.map rGClause p2))] (fun d => d = .tup [(.slice 6 (List.map rGPattern res.1)), (eB res.2)]) :=
 au Tryz.func81 m_spec_MissingPatterns.eq_1 (.o (.o (.o (.o (.o (.i .z (.g [0, 2, 4] [0] [] [] (.o (.o (.d [0, 1, 4, 5, 6, 2, 3, 7, 8, 9, 10, 11] [0] [] .z))))))))))
end Go.Proofs.YtnackipaoepmfaaGreat
set_option linter.unusedSimpArgs false
set_option linter.unusedVariables false
namespace Go.Proofs.YtnackipaoepmfaaGreat
open Go Go.RowKit
set_option maxRecDepth 100000
set_option maxHeartbeats 20000000
instance i_spec_Exhaustive : ∀ (n : Nat) (p0 : (List GData)) (p1 : GType) (p2 : (List GClause)), Ct (m_spec_Exhaustive n p0 p1 p2) fun res => CallsD Tryz.prog 0o00027 [(.slice 2 (List.map rGData p0)), (.agg (rGType p1)), (.slice 9 (List.map rGClause p2))] (fun d => d = .tup [(eB res.1), (eB res.2)]) :=
 au Tryz.func23 m_spec_Exhaustive.eq_1 .z
end Go.Proofs.YtnackipaoepmfaaGreat
set_option linter.unusedSimpArgs false
set_option linter.unusedVariables false
namespace Go.Proofs.YtnackipaoepmfaaGreat
open Go Go.RowKit
set_option maxRecDepth 100000
set_option maxHeartbeats 20000000
instance i_spec_l11All : ∀ (n : Nat) (p0 : (List GClause)), Ct (m_spec_l11All n p0) fun res => CallsH Tryz.prog 0o00137 [] [(.slice 9 (List.map rGClause p0))] (fun H d => H = [some ⟨9, List.map rGClause res, 0, 0x0037⟩] ∧ d = .sl 9 0 res.length) :=
 au Tryz.func95 m_spec_l11All.eq_1 (.o (.o (.ls 0 (.f [3] [8] [0, 3, 4] [8] (fun (k56 : Nat) (s52 : (List GClause)) => [(3, .sl 9 8 (s52).length), (4, eI (k56 : Int))]) (fun k56 s52 => [(8, some ⟨9, (List.map rGClause s52), 0, 0x0037⟩)]) (fun k56 s52 => .o (.g [0, 3, 4] [0] [] [] (.o (.o (.d [0, 1, 2, 3, 4, 5, 7, 8, 9, 10, 11, 6, 12, 13, 14, 15] [] [] .z))))) (fun s60 => .z)))))
end Go.Proofs.YtnackipaoepmfaaGreat
set_option linter.unusedSimpArgs false
set_option linter.unusedVariables false
namespace Go.Proofs.YtnackipaoepmfaaGreat
open Go Go.RowKit
set_option maxRecDepth 100000
set_option maxHeartbeats 20000000
instance i_spec_ClosedClauses : ∀ (n : Nat) (p0 : (List GData)) (p1 : GType) (p2 : (List GClause)), Ct (m_spec_ClosedClauses n p0 p1 p2) fun res => CallsD Tryz.prog 0o00040 [(.slice 2 (List.map rGData p0)), (.agg (rGType p1)), (.slice 9 (List.map rGClause p2))] (fun d => d = .tup [(.slice 9 (List.map rGClause res.1)), (eB res.2)]) :=
 au Tryz.func32 m_spec_ClosedClauses.eq_1 (.o (.o (.o (.o (.o (.j 2 0 [2, 8] [] (fun (s10 : Unit) => []) (fun _ => []) .z (fun s10 => .o (.j 5 0 [10] [9] (fun (s25 : (List GClause)) => [(10, .sl 9 9 (s25).length)]) (fun s25 => [(9, some ⟨9, (List.map rGClause s25), 0, 0x0037⟩)]) .z (fun _ => .z)))))))))
end Go.Proofs.YtnackipaoepmfaaGreat
set_option linter.unusedSimpArgs false
set_option linter.unusedVariables false
namespace Go.Proofs.YtnackipaoepmfaaGreat
open Go Go.RowKit
set_option maxRecDepth 100000
set_option maxHeartbeats 20000000
instance i_spec_DrawClosedClauses : ∀ (n : Nat) (p0 : (List Int)), Ct (m_spec_DrawClosedClauses n p0) fun res => CallsD Tryz.prog 0o00036 [(.slice 1 (List.map (rK .u8) p0))] (fun d => d = .tup [(.slice 2 (List.map rGData res.1)), (.agg (rGType res.2.1)), (.slice 9 (List.map rGClause res.2.2))]) :=
 au Tryz.func30 m_spec_DrawClosedClauses.eq_1 .z
end Go.Proofs.YtnackipaoepmfaaGreat
