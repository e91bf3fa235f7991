import Derived.Test.YtmkamncbkkahjaaGreatJMir
import Derived.Test.YtmkamncbkkahjaaGreatJAuto
import Derived.Test.YtmkamncbkkahjaaGreatJC1
import Derived.Test.YtmkamncbkkahjaaGreatJAuI
set_option linter.unusedSimpArgs false
set_option linter.unusedVariables false
set_option linter.unusedSimpArgs false
set_option linter.unusedVariables false
namespace Go.Proofs.YtmkamncbkkahjaaGreat
open Go Go.RowKit
set_option maxRecDepth 100000
set_option maxHeartbeats 20000000
instance i_spec_l17Rd_num : ∀ (p0 : Gl17Rd) (p1 : (List Int)), Ct (m_spec_l17Rd_num p0 p1) fun res => CallsH Tryz.prog 0o00214 [⟨2, [(rGl17Rd p0)], 0, 0x00ba⟩] [.ptr 2 0 0 0, (.slice 1 (List.map rI p1))] (fun H d => H = [some ⟨2, [(rGl17Rd res.2)], 0, 0x00ba⟩] ∧ d = (eI res.1)) :=
 au Tryz.func140 m_spec_l17Rd_num.eq_1 .z
end Go.Proofs.YtmkamncbkkahjaaGreat
set_option linter.unusedSimpArgs false
set_option linter.unusedVariables false
namespace Go.Proofs.YtmkamncbkkahjaaGreat
open Go Go.RowKit
set_option maxRecDepth 100000
set_option maxHeartbeats 20000000
instance i_spec_l2Typed : ∀ (n : Nat) (p0 : Gl17Rd), Ct (m_spec_l2Typed n p0) fun res => CallsH Tryz.prog 0o00200 [⟨2, [(rGl17Rd p0)], 0, 0x00ba⟩] [.ptr 2 0 0 0] (fun H d => H = [some ⟨2, [(rGl17Rd res.2.2.2)], 0, 0x00ba⟩] ∧ d = .tup [(.slice 2 (List.map rGData res.1)), (.agg (rGType res.2.1)), (.agg (rGValue res.2.2.1))]) :=
 au Tryz.func128 m_spec_l2Typed.eq_1 (.o (.o (.o (.o (.o (.o (.j 4 0 [0, 3, 4, 5, 6, 7] [0, 9, 17, 137] (fun (s7 : Int × Int) => []) (fun s7 => [(137, some ⟨2, [[(eI s7.1), (eI s7.2)]], 0, 0x0019⟩)]) .z (fun _ => .g [0, 3, 4, 5, 6, 7] [0, 1, 2, 3] [] [] (.o (.o (.d [0, 1, 2, 3, 4, 5, 6, 7, 8, 9, 10, 11, 12] [3] [] .z)))))))))))
end Go.Proofs.YtmkamncbkkahjaaGreat
set_option linter.unusedSimpArgs false
set_option linter.unusedVariables false
namespace Go.Proofs.YtmkamncbkkahjaaGreat
open Go Go.RowKit
set_option maxRecDepth 100000
set_option maxHeartbeats 20000000
instance i_spec_l3Kids : ∀ (p0 : Int), Ct (m_spec_l3Kids p0) fun res => CallsD Tryz.prog 0o00406 [(eI p0)] (fun d => d = (eI res)) :=
 au Tryz.func262 m_spec_l3Kids.eq_1 .z
end Go.Proofs.YtmkamncbkkahjaaGreat
set_option linter.unusedSimpArgs false
set_option linter.unusedVariables false
namespace Go.Proofs.YtmkamncbkkahjaaGreat
open Go Go.RowKit
set_option maxRecDepth 100000
set_option maxHeartbeats 20000000
instance i_spec_l3Types : ∀ (n : Nat) (p0 : (List GData)) (p1 : GType) (p2 : GPattern), Ct (m_spec_l3Types n p0 p1 p2) fun res => CallsD Tryz.prog 0o00314 [(.slice 2 (List.map rGData p0)), (.agg (rGType p1)), (.agg (rGPattern p2))] (fun d => d = (.slice 2 (List.map rGType res))) :=
 au Tryz.func204 m_spec_l3Types.eq_1 (.o (.o (.o (.o (.i .z (.w [7] [48] [4, 5, 7, 8] [0, 8, 48] (fun (s52 : (List GType) × Int) => [(7, .sl 2 48 (s52.1).length), (8, eI s52.2)]) (fun s52 => [(48, some ⟨2, (List.map rGType s52.1), 0, 0x0019⟩)]) (fun s52 => .z) (fun s60 => .z)))))))
end Go.Proofs.YtmkamncbkkahjaaGreat
set_option linter.unusedSimpArgs false
set_option linter.unusedVariables false
namespace Go.Proofs.YtmkamncbkkahjaaGreat
open Go Go.RowKit
set_option maxRecDepth 100000
set_option maxHeartbeats 20000000
instance i_spec_l3Vars : ∀ (n : Nat) (p0 : (List GVarType)) (p1 : (List GData)) (p2 : GType) (p3 : GPattern), Ct (m_spec_l3Vars n p0 p1 p2 p3) fun res => CallsH Tryz.prog 0o00204 [⟨3, List.map rGVarType p0, 0, 0x0111⟩] [.sl 3 0 p0.length, (.slice 2 (List.map rGData p1)), (.agg (rGType p2)), (.agg (rGPattern p3))] (fun H d => H = [none, some ⟨3, List.map rGVarType res, 0, 0x0111⟩] ∧ d = .sl 3 1 res.length) :=
 ar (au Tryz.func132 m_spec_l3Vars.eq_2 (.o (.o (.o (.o (.o (.o (.j 1 0 [0, 1, 6, 7] [0, 9000, 1, 9] (fun (s10 : (List GVarType)) => [(0, .sl 3 9000 (s10).length)]) (fun s10 => [(0, none), (9000, some ⟨3, (List.map rGVarType s10), 0, 0x0111⟩)]) (.i .z (.i .z (.pM 0 .z))) (fun s10 => .o (.ls 29 (.f [0] [0, 1] [0, 1, 7, 9, 10] [0, 1, 3] (fun (k159 : Nat) (s155 : (List GVarType)) => [(0, .sl 3 1 (s155).length), (10, eI (k159 : Int))]) (fun k159 s155 => [(0, none), (1, some ⟨3, (List.map rGVarType s155), 0, 0x0111⟩)]) (fun k159 s155 => .o (.j 5 0 [0, 1, 7, 9, 10] [0, 1, 2] (fun (s169 : Unit) => []) (fun _ => [(0, none)]) .z (fun _ => .g [0, 1, 7, 9, 10] [0, 1, 2] [] [(0, none)] (.o (.o (.d [0, 1, 2, 3, 4, 5, 6, 7, 8, 9, 10, 11, 12] [2] [] .z)))))) (fun s163 => .z))))))))))))
end Go.Proofs.YtmkamncbkkahjaaGreat
set_option linter.unusedSimpArgs false
set_option linter.unusedVariables false
namespace Go.Proofs.YtmkamncbkkahjaaGreat
open Go Go.RowKit
set_option maxRecDepth 100000
set_option maxHeartbeats 20000000
instance i_spec_l3Name : ∀ (n : Nat) (p0 : Gl17Rd) (p1 : GPattern) (p2 : Int), Ct (m_spec_l3Name n p0 p1 p2) fun res => CallsH Tryz.prog 0o00402 [⟨2, [(rGl17Rd p0)], 0, 0x00ba⟩] [.ptr 2 0 0 0, (.agg (rGPattern p1)), (eI p2)] (fun H d => H = [some ⟨2, [(rGl17Rd res.2.2)], 0, 0x00ba⟩] ∧ d = .tup [(.agg (rGPattern res.1)), (eI res.2.1)]) :=
 ar (au Tryz.func258 m_spec_l3Name.eq_2 (.o (.o (.o (.b fun (p1 : GPattern) => .o (.i .z (.i .z (.i .z (.j 3 0 [0, 2, 4, 6] [0, 1, 9] (fun (s25 : Gl17Rd) => []) (fun s25 => [(0, some ⟨2, [(rGl17Rd s25)], 0, 0x00ba⟩)]) .z (fun s25 => .pC 11 5 6 0x0029 (.lc 1 5 6 rGPattern p1.kids (.f [0, 6, 8, 9] [0, 2, 11, 67] [0, 4, 6, 8, 9, 10] [0, 1, 2, 11, 67] (fun (k95 : Nat) (s91 : Gl17Rd × (List GPattern) × Int) => [(9, eI s91.2.2), (10, eI (k95 : Int))]) (fun k95 s91 => [(0, some ⟨2, [(rGl17Rd s91.1)], 0, 0x00ba⟩), (1000000011, some ⟨6, [[(eI p1.op), (eI p1.ctor), (eI p1.n), (eI p1.m), (eI p1.var), (.sl 6 67 (s91.2.1).length)]], 0, 0x0029⟩), (67, some ⟨6, (List.map rGPattern s91.2.1), 0, 0x0029⟩)]) (fun k95 s91 => .z) (fun s99 => .j 14 0 [6, 8, 9] [0, 1, 2, 3] (fun (s112 : Gl17Rd) => []) (fun s112 => [(0, some ⟨2, [(rGl17Rd s112)], 0, 0x00ba⟩), (1000000002, some ⟨6, [[(eI p1.op), (eI p1.ctor), (eI p1.n), (eI p1.m), (eI p1.var), (.sl 6 3 (s99.2.1).length)]], 0, 0x0029⟩)]) (.i (.o (.i (.pF 3 (.pF 76 .z)) .z)) .z) (fun _ => .pF 3 .z))))))))))))))
end Go.Proofs.YtmkamncbkkahjaaGreat
set_option linter.unusedSimpArgs false
set_option linter.unusedVariables false
namespace Go.Proofs.YtmkamncbkkahjaaGreat
open Go Go.RowKit
set_option maxRecDepth 100000
set_option maxHeartbeats 20000000
instance i_spec_l3Draw : ∀ (n : Nat) (p0 : Gl17Rd) (p1 : (List GData)) (p2 : GType) (p3 : Int), Ct (m_spec_l3Draw n p0 p1 p2 p3) fun res => CallsH Tryz.prog 0o00403 [⟨2, [(rGl17Rd p0)], 0, 0x00ba⟩] [.ptr 2 0 0 0, (.slice 2 (List.map rGData p1)), (.agg (rGType p2)), (eI p3)] (fun H d => H = [some ⟨2, [(rGl17Rd res.2)], 0, 0x00ba⟩] ∧ d = (.agg (rGPattern res.1))) :=
 ar (au Tryz.func259 m_spec_l3Draw.eq_2 (.o (.o (.o (.o (.o (.o (.i .z (.o (.i .z (.o (.i (.g [0, 1, 3, 6, 8] [0, 1, 9] [] [] (.o (.o (.d [0, 1, 2, 3, 4, 6, 7, 8, 9, 10, 5, 11, 12, 13, 14] [1] [] (.pF 19 .z))))) (.i .z (.o (.i .z (.o (.b fun (x37 : Int) => .o (.pC 241 5 6 0x0029 (.ls 74 (.f [8, 11] [0, 9, 241, 313] [0, 1, 3, 8, 11, 12, 13] [0, 9, 241, 313] (fun (k96 : Nat) (s92 : Gl17Rd × (List GPattern)) => [(13, eI (k96 : Int))]) (fun k96 s92 => [(0, some ⟨2, [(rGl17Rd s92.1)], 0, 0x00ba⟩), (1000000241, some ⟨6, [[(eI 4), (eI x37), (eI 0), (eI 0), (eI 0), (.sl 6 313 (s92.2).length)]], 0, 0x0029⟩), (313, some ⟨6, (List.map rGPattern s92.2), 0, 0x0029⟩)]) (fun k96 s92 => .o (.g [0, 1, 3, 8, 11, 12, 13] [0, 1, 2, 3] [] [(1000000002, some ⟨6, [[(eI 4), (eI x37), (eI 0), (eI 0), (eI 0), (.sl 6 3 (s92.2).length)]], 0, 0x0029⟩)] (.o (.o (.d [0, 1, 2, 3, 4, 5, 6, 7, 8, 9, 10, 11, 12, 13, 14] [2] [94] .z))))) (fun s100 => .pF 3 .z)))))))))))))))))))))
end Go.Proofs.YtmkamncbkkahjaaGreat
set_option linter.unusedSimpArgs false
set_option linter.unusedVariables false
namespace Go.Proofs.YtmkamncbkkahjaaGreat
open Go Go.RowKit
set_option maxRecDepth 100000
set_option maxHeartbeats 20000000
instance i_spec_l1Has : ∀ (p0 : (List Int)) (p1 : Int), Ct (m_spec_l1Has p0 p1) fun res => CallsD Tryz.prog 0o00257 [(.slice 1 (List.map rI p0)), (eI p1)] (fun d => d = (eB res)) :=
 au Tryz.func175 m_spec_l1Has.eq_1 (.o (.o (.ls 0 (.f [] [] [0, 1, 5] [] (fun (k44 : Nat) (s40 : Unit) => [(5, eI (k44 : Int))]) (fun k44 s40 => []) (fun k44 s40 => .z) (fun s48 => .z)))))
end Go.Proofs.YtmkamncbkkahjaaGreat
set_option linter.unusedSimpArgs false
set_option linter.unusedVariables false
namespace Go.Proofs.YtmkamncbkkahjaaGreat
open Go Go.RowKit
set_option maxRecDepth 100000
set_option maxHeartbeats 20000000
instance i_spec_l3Own : ∀ (p0 : (List GData)) (p1 : GType) (p2 : GPattern), Ct (m_spec_l3Own p0 p1 p2) fun res => CallsD Tryz.prog 0o00404 [(.slice 2 (List.map rGData p0)), (.agg (rGType p1)), (.agg (rGPattern p2))] (fun d => d = (eB res)) :=
 au Tryz.func260 m_spec_l3Own.eq_1 (.o (.o (.o (.e (.j 1 0 [0, 4, 5, 7] [0, 8] (fun (s2 : Bool) => [(7, eB s2)]) (fun _ => []) .z (fun s2 => .j 2 0 [0, 4, 5] [0, 1] (fun (s17 : Unit) => []) (fun _ => []) .z (fun s17 => .j 4 0 [0, 4, 5] [0, 1] (fun (s50 : Unit) => []) (fun _ => []) .z (fun s50 => .j 7 0 [0, 4, 5, 60, 61] [0, 1] (fun (s95 : Bool) => [(61, eB s95)]) (fun _ => []) .z (fun s95 => .i .z (.i .z (.i (.g [0, 4, 5] [0, 1] [] [] (.o (.o (.d [0, 1, 3, 4, 2, 5, 6] [0, 1] [] .z)))) .z)))))))))))
end Go.Proofs.YtmkamncbkkahjaaGreat
set_option linter.unusedSimpArgs false
set_option linter.unusedVariables false
namespace Go.Proofs.YtmkamncbkkahjaaGreat
open Go Go.RowKit
set_option maxRecDepth 100000
set_option maxHeartbeats 20000000
instance i_spec_l3Shape : ∀ (n : Nat) (p0 : (List GData)) (p1 : GType) (p2 : GPattern) (p3 : Int), Ct (m_spec_l3Shape n p0 p1 p2 p3) fun res => CallsD Tryz.prog 0o00310 [(.slice 2 (List.map rGData p0)), (.agg (rGType p1)), (.agg (rGPattern p2)), (eI p3)] (fun d => d = (eB res)) :=
 ar (au Tryz.func200 m_spec_l3Shape.eq_2 (.o (.o (.o (.o (.o (.o (.i .z (.o (.i .z (.o (.i .z (.ls 23 (.f [] [] [0, 3, 6, 9, 10] [8] (fun (k83 : Nat) (s79 : Unit) => [(10, eI (k83 : Int))]) (fun k83 s79 => []) (fun k83 s79 => .o (.g [0, 3, 6, 9, 10] [0] [] [] (.o (.o (.d [0, 1, 2, 3, 4, 5, 6, 7, 8, 9, 10, 11, 12, 13] [0] [] .z))))) (fun s87 => .z)))))))))))))))
end Go.Proofs.YtmkamncbkkahjaaGreat
set_option linter.unusedSimpArgs false
set_option linter.unusedVariables false
namespace Go.Proofs.YtmkamncbkkahjaaGreat
open Go Go.RowKit
set_option maxRecDepth 100000
set_option maxHeartbeats 20000000
instance i_spec_l3Count : ∀ (n : Nat) (p0 : GPattern) (p1 : Int), Ct (m_spec_l3Count n p0 p1) fun res => CallsD Tryz.prog 0o00311 [(.agg (rGPattern p0)), (eI p1)] (fun d => d = (eI res)) :=
 ar (au Tryz.func201 m_spec_l3Count.eq_2 (.o (.o (.b fun (p0 : GPattern) => .o (.lc 0 5 6 rGPattern p0.kids (.f [5] [] [1, 2, 5, 6] [0] (fun (k80 : Nat) (s76 : Int) => [(5, eI s76), (6, eI (k80 : Int))]) (fun k80 s76 => []) (fun k80 s76 => .z) (fun s84 => .z)))))))
end Go.Proofs.YtmkamncbkkahjaaGreat
set_option linter.unusedSimpArgs false
set_option linter.unusedVariables false
namespace Go.Proofs.YtmkamncbkkahjaaGreat
open Go Go.RowKit
set_option maxRecDepth 100000
set_option maxHeartbeats 20000000
instance i_spec_l3Find : ∀ (p0 : (List GVarType)) (p1 : Int), Ct (m_spec_l3Find p0 p1) fun res => CallsD Tryz.prog 0o00313 [(.slice 3 (List.map rGVarType p0)), (eI p1)] (fun d => d = (eI res)) :=
 au Tryz.func203 m_spec_l3Find.eq_1 (.o (.o (.ls 0 (.f [] [] [0, 1, 5] [] (fun (k44 : Nat) (s40 : Unit) => [(5, eI (k44 : Int))]) (fun k44 s40 => []) (fun k44 s40 => .z) (fun s48 => .z)))))
end Go.Proofs.YtmkamncbkkahjaaGreat
set_option linter.unusedSimpArgs false
set_option linter.unusedVariables false
namespace Go.Proofs.YtmkamncbkkahjaaGreat
open Go Go.RowKit
set_option maxRecDepth 100000
set_option maxHeartbeats 20000000
instance i_spec_l3Alike : ∀ (p0 : (List GVarType)) (p1 : (List GVarType)), Ct (m_spec_l3Alike p0 p1) fun res => CallsD Tryz.prog 0o00405 [(.slice 3 (List.map rGVarType p0)), (.slice 3 (List.map rGVarType p1))] (fun d => d = (eB res)) :=
 au Tryz.func261 m_spec_l3Alike.eq_1 (.o (.o (.ls 0 (.f [0, 1] [] [0, 1, 5] [] (fun (k124 : Nat) (s120 : Unit) => [(5, eI (k124 : Int))]) (fun k124 s120 => []) (fun k124 s120 => .o (.o (.g [0, 1, 5, 6] [] [] [] (.i (.d [0, 1, 2, 3, 4, 5, 6, 7, 8, 9, 10, 11, 12, 13, 14] [] [] .z) (.o (.d [0, 1, 2, 3, 4, 5, 6, 7, 8, 9, 10, 11, 12, 13, 14] [] [] .z)))))) (fun s128 => .z)))))
end Go.Proofs.YtmkamncbkkahjaaGreat
set_option linter.unusedSimpArgs false
set_option linter.unusedVariables false
namespace Go.Proofs.YtmkamncbkkahjaaGreat
open Go Go.RowKit
set_option maxRecDepth 100000
set_option maxHeartbeats 20000000
instance i_spec_l3Linear : ∀ (n : Nat) (p0 : (List GData)) (p1 : GType) (p2 : GPattern), Ct (m_spec_l3Linear n p0 p1 p2) fun res => CallsD Tryz.prog 0o00312 [(.slice 2 (List.map rGData p0)), (.agg (rGType p1)), (.agg (rGPattern p2))] (fun d => d = (eB res)) :=
 ar (au Tryz.func202 m_spec_l3Linear.eq_2 (.o (.o (.o (.o (.o (.o (.ls 14 (.f [0, 4, 5] [0, 8] [0, 4, 5, 7, 8] [0, 8] (fun (k65 : Nat) (s61 : Unit) => [(8, eI (k65 : Int))]) (fun k65 s61 => []) (fun k65 s61 => .o (.g [0, 4, 5, 7, 8] [0, 1] [] [] (.o (.o (.d [0, 1, 2, 3, 4, 5, 6, 7, 8, 9, 10, 11] [1] [] .z))))) (fun s69 => .i (.g [0, 4, 5] [0, 1] [] [] (.o (.o (.o (.o (.o (.d [0, 1, 2, 3, 4, 5, 7, 8, 9, 10, 11, 12, 6, 13, 14, 15] [0, 1] [] .z))))))) (.o (.ll 51 (.f [] [] [9, 10] [51] (fun (k142 : Nat) (s138 : Unit) => [(10, eI (k142 : Int))]) (fun k142 s138 => []) (fun k142 s138 => .z) (fun s146 => .z))))))))))))))
end Go.Proofs.YtmkamncbkkahjaaGreat
set_option linter.unusedSimpArgs false
set_option linter.unusedVariables false
namespace Go.Proofs.YtmkamncbkkahjaaGreat
open Go Go.RowKit
set_option maxRecDepth 100000
set_option maxHeartbeats 20000000
instance i_spec_l3Is : ∀ (n : Nat) (p0 : (List GData)) (p1 : GType) (p2 : GPattern), Ct (m_spec_l3Is n p0 p1 p2) fun res => CallsD Tryz.prog 0o00202 [(.slice 2 (List.map rGData p0)), (.agg (rGType p1)), (.agg (rGPattern p2))] (fun d => d = (eB res)) :=
 au Tryz.func130 m_spec_l3Is.eq_1 .z
end Go.Proofs.YtmkamncbkkahjaaGreat
set_option linter.unusedSimpArgs false
set_option linter.unusedVariables false
namespace Go.Proofs.YtmkamncbkkahjaaGreat
open Go Go.RowKit
set_option maxRecDepth 100000
set_option maxHeartbeats 20000000
instance i_spec_l3Some : ∀ (n : Nat) (p0 : Gl17Rd) (p1 : (List GData)) (p2 : GType), Ct (m_spec_l3Some n p0 p1 p2) fun res => CallsH Tryz.prog 0o00307 [⟨2, [(rGl17Rd p0)], 0, 0x00ba⟩] [.ptr 2 0 0 0, (.slice 2 (List.map rGData p1)), (.agg (rGType p2))] (fun H d => H = [some ⟨2, [(rGl17Rd res.2)], 0, 0x00ba⟩] ∧ d = (.agg (rGPattern res.1))) :=
 au Tryz.func199 m_spec_l3Some.eq_1 (.o (.o (.o (.o (.g [0, 1, 5, 6] [0, 1, 9] [] [] (.o (.o (.o (.dz [0, 1, 2, 3, 4, 5, 6, 7, 8, 9, 10, 11, 12, 13, 14] [1] [1048583] [] .z)))))))))
end Go.Proofs.YtmkamncbkkahjaaGreat
set_option linter.unusedSimpArgs false
set_option linter.unusedVariables false
namespace Go.Proofs.YtmkamncbkkahjaaGreat
open Go Go.RowKit
set_option maxRecDepth 100000
set_option maxHeartbeats 20000000
instance i_spec_l4Clause : ∀ (n : Nat) (p0 : Gl17Rd) (p1 : (List GData)) (p2 : GType), Ct (m_spec_l4Clause n p0 p1 p2) fun res => CallsH Tryz.prog 0o00201 [⟨2, [(rGl17Rd p0)], 0, 0x00ba⟩] [.ptr 2 0 0 0, (.slice 2 (List.map rGData p1)), (.agg (rGType p2))] (fun H d => H = [some ⟨2, [(rGl17Rd res.2)], 0, 0x00ba⟩] ∧ d = (.agg (rGClause res.1))) :=
 au Tryz.func129 m_spec_l4Clause.eq_1 (.o (.o (.o (.o (.b fun (r1 : (GPattern × Gl17Rd)) => .o (.ll 106 (.f [6, 7] [0, 9, 57] [0, 6, 7, 8, 9] [0, 9, 57, 106] (fun (k195 : Nat) (s191 : Gl17Rd × Int × Int × Int) => [(9, eI (k195 : Int))]) (fun k195 s191 => [(0, some ⟨2, [(rGl17Rd s191.1)], 0, 0x00ba⟩), (57, some ⟨9, [[(eI r1.1.op), (eI r1.1.ctor), (eI r1.1.n), (eI r1.1.m), (eI r1.1.var), (.slice 6 (List.map rGPattern r1.1.kids)), (eI s191.2.1), (eI s191.2.2.1), (eI s191.2.2.2)]], 0, 0x002d⟩)]) (fun k195 s191 => .o (.j 6 0 [0, 6, 7, 8, 9] [0, 1, 2, 3] (fun (s212 : Gl17Rd × Int × Int × Int) => []) (fun s212 => [(0, some ⟨2, [(rGl17Rd s212.1)], 0, 0x00ba⟩), (2, some ⟨9, [[(eI r1.1.op), (eI r1.1.ctor), (eI r1.1.n), (eI r1.1.m), (eI r1.1.var), (.slice 6 (List.map rGPattern r1.1.kids)), (eI s212.2.1), (eI s212.2.2.1), (eI s212.2.2.2)]], 0, 0x002d⟩)]) (.i (.o (.i (.g [0, 6, 7, 8, 9] [0, 1, 2, 3] [] [] (.o (.o (.d [0, 3, 4, 5, 6, 7, 8, 1, 2, 9, 10, 11, 12] [3] [] .z)))) .z)) .z) (fun _ => .z))) (fun s199 => .z))))))))
end Go.Proofs.YtmkamncbkkahjaaGreat
set_option linter.unusedSimpArgs false
set_option linter.unusedVariables false
namespace Go.Proofs.YtmkamncbkkahjaaGreat
open Go Go.RowKit
set_option maxRecDepth 100000
set_option maxHeartbeats 20000000
instance i_spec_l4List : ∀ (n : Nat) (p0 : Gl17Rd) (p1 : (List GData)) (p2 : GType), Ct (m_spec_l4List n p0 p1 p2) fun res => CallsH Tryz.prog 0o00207 [⟨2, [(rGl17Rd p0)], 0, 0x00ba⟩] [.ptr 2 0 0 0, (.slice 2 (List.map rGData p1)), (.agg (rGType p2))] (fun H d => H = [some ⟨2, [(rGl17Rd res.2)], 0, 0x00ba⟩, some ⟨9, List.map rGClause res.1, 0, 0x002d⟩] ∧ d = .sl 9 1 res.1.length) :=
 au Tryz.func135 m_spec_l4List.eq_1 (.o (.o (.o (.o (.o (.w [7] [0, 17] [0, 1, 5, 7, 8] [0, 1, 17] (fun (s50 : Gl17Rd × (List GClause) × Int) => [(7, .sl 9 17 (s50.2.1).length), (8, eI s50.2.2)]) (fun s50 => [(0, some ⟨2, [(rGl17Rd s50.1)], 0, 0x00ba⟩), (17, some ⟨9, (List.map rGClause s50.2.1), 0, 0x002d⟩)]) (fun s50 => .z) (fun s58 => .z)))))))
end Go.Proofs.YtmkamncbkkahjaaGreat
set_option linter.unusedSimpArgs false
set_option linter.unusedVariables false
namespace Go.Proofs.YtmkamncbkkahjaaGreat
open Go Go.RowKit
set_option maxRecDepth 100000
set_option maxHeartbeats 20000000
instance i_spec_l4Typed : ∀ (n : Nat) (p0 : Gl17Rd), Ct (m_spec_l4Typed n p0) fun res => CallsH Tryz.prog 0o00104 [⟨2, [(rGl17Rd p0)], 0, 0x00ba⟩] [.ptr 2 0 0 0] (fun H d => H = [some ⟨2, [(rGl17Rd res.2.2.2.2)], 0, 0x00ba⟩, some ⟨9, List.map rGClause res.2.2.1, 0, 0x002d⟩] ∧ d = .tup [(.slice 2 (List.map rGData res.1)), (.agg (rGType res.2.1)), .sl 9 1 res.2.2.1.length, (.agg (rGValue res.2.2.2.1))]) :=
 au Tryz.func68 m_spec_l4Typed.eq_1 (.o (.o (.o (.g [0, 3, 5, 6, 7, 8] [0, 9, 25, 81, 89] [] [] (.o (.d [0, 1, 2, 3, 4, 6, 5, 7, 8, 9, 10] [3, 4] [] .z))))))
end Go.Proofs.YtmkamncbkkahjaaGreat
set_option linter.unusedSimpArgs false
set_option linter.unusedVariables false
namespace Go.Proofs.YtmkamncbkkahjaaGreat
open Go Go.RowKit
set_option maxRecDepth 100000
set_option maxHeartbeats 20000000
instance i_spec_l5Any : Ct (m_spec_l5Any) fun res => CallsD Tryz.prog 0o00421 [] (fun d => d = (.agg (rGPattern res))) :=
 au Tryz.func273 m_spec_l5Any.eq_1 .z
end Go.Proofs.YtmkamncbkkahjaaGreat
set_option linter.unusedSimpArgs false
set_option linter.unusedVariables false
namespace Go.Proofs.YtmkamncbkkahjaaGreat
open Go Go.RowKit
set_option maxRecDepth 100000
set_option maxHeartbeats 20000000
instance i_spec_l3Mutate : ∀ (p0 : Gl17Rd) (p1 : GPattern), Ct (m_spec_l3Mutate p0 p1) fun res => CallsH Tryz.prog 0o00244 [⟨2, [(rGl17Rd p0)], 0, 0x00ba⟩] [.ptr 2 0 0 0, (.agg (rGPattern p1))] (fun H d => H = [some ⟨2, [(rGl17Rd res.2)], 0, 0x00ba⟩] ∧ d = (.agg (rGPattern res.1))) :=
 au Tryz.func164 m_spec_l3Mutate.eq_1 (.o (.b fun (p1 : GPattern) => .o (.j 3 0 [4, 5] [0, 9, 25, 65] (fun (s17 : Gl17Rd × Int × Int × Int × Int × (List GPattern)) => []) (fun s17 => [(0, some ⟨2, [(rGl17Rd s17.1)], 0, 0x00ba⟩), (1000000025, some ⟨6, [[(eI s17.2.1), (eI s17.2.2.1), (eI s17.2.2.2.1), (eI p1.m), (eI s17.2.2.2.2.1), (.sl 6 65 (s17.2.2.2.2.2).length)]], 0, 0x0029⟩), (65, some ⟨6, (List.map rGPattern s17.2.2.2.2.2), 0, 0x0029⟩)]) .z (fun _ => .pF 3 .z))))
end Go.Proofs.YtmkamncbkkahjaaGreat
set_option linter.unusedSimpArgs false
set_option linter.unusedVariables false
namespace Go.Proofs.YtmkamncbkkahjaaGreat
open Go Go.RowKit
set_option maxRecDepth 100000
set_option maxHeartbeats 20000000
instance i_spec_l4Mutate : ∀ (n : Nat) (p0 : Gl17Rd) (p1 : (List GClause)), Ct (m_spec_l4Mutate n p0 p1) fun res => CallsH Tryz.prog 0o00124 [⟨2, [(rGl17Rd p0)], 0, 0x00ba⟩] [.ptr 2 0 0 0, (.slice 9 (List.map rGClause p1))] (fun H d => H = [some ⟨2, [(rGl17Rd res.2)], 0, 0x00ba⟩, some ⟨9, List.map rGClause res.1, 0, 0x002d⟩] ∧ d = .sl 9 1 res.1.length) :=
 au Tryz.func84 m_spec_l4Mutate.eq_1 (.o (.o (.o (.o (.j 2 0 [5] [0, 25] (fun (s37 : Gl17Rd × (List GClause)) => [(5, .sl 9 25 (s37.2).length)]) (fun s37 => [(0, some ⟨2, [(rGl17Rd s37.1)], 0, 0x00ba⟩), (25, some ⟨9, (List.map rGClause s37.2), 0, 0x002d⟩)]) (.o (.i .z (.i .z (.i (.w [5] [0, 25] [5] [0, 25] (fun (s63 : (List GClause)) => [(5, .sl 9 25 (s63).length)]) (fun s63 => [(25, some ⟨9, (List.map rGClause s63), 0, 0x002d⟩)]) (fun s63 => .z) (fun s71 => .z)) .z)))) (fun _ => .z))))))
end Go.Proofs.YtmkamncbkkahjaaGreat
set_option linter.unusedSimpArgs false
set_option linter.unusedVariables false
namespace Go.Proofs.YtmkamncbkkahjaaGreat
open Go Go.RowKit
set_option maxRecDepth 100000
set_option maxHeartbeats 20000000
instance i_spec_DrawMissingPatterns : ∀ (n : Nat) (p0 : (List Int)), Ct (m_spec_DrawMissingPatterns n p0) fun res => CallsH Tryz.prog 0o00327 [] [(.slice 1 (List.map (rK .u8) p0))] (fun H d => H = [some ⟨9, List.map rGClause res.2.2, 0, 0x002d⟩] ∧ d = .tup [(.slice 2 (List.map rGData res.1)), (.agg (rGType res.2.1)), .sl 9 0 res.2.2.length]) :=
 au Tryz.func215 m_spec_DrawMissingPatterns.eq_1 (.o (.o (.o (.o (.j 3 0 [3, 5, 6, 7, 8] [8, 33, 104, 57] (fun (s15 : Gl17Rd × (List GClause)) => [(8, .sl 9 57 (s15.2).length)]) (fun s15 => [(33, some ⟨2, [(rGl17Rd s15.1)], 0, 0x00ba⟩), (57, some ⟨9, (List.map rGClause s15.2), 0, 0x002d⟩)]) .z (fun _ => .g [3, 5, 6, 7, 8] [0, 1, 2, 3] [] [] (.o (.d [0, 1, 2, 3, 4, 5, 6, 7] [2] [] .z))))))))
end Go.Proofs.YtmkamncbkkahjaaGreat
set_option linter.unusedSimpArgs false
set_option linter.unusedVariables false
namespace Go.Proofs.YtmkamncbkkahjaaGreat
open Go Go.RowKit
set_option maxRecDepth 100000
set_option maxHeartbeats 20000000
instance i_spec_DrawRedundantClauses : ∀ (n : Nat) (p0 : (List Int)), Ct (m_spec_DrawRedundantClauses n p0) fun res => CallsD Tryz.prog 0o00224 [(.slice 1 (List.map (rK .u8) p0))] (fun d => d = .tup [(.slice 2 (List.map rGData res.1)), (.agg (rGType res.2.1)), (.slice 9 (List.map rGClause res.2.2))]) :=
 au Tryz.func148 m_spec_DrawRedundantClauses.eq_1 (.o (.o (.o (.o (.j 3 0 [3, 6, 7, 8] [8, 96, 57] (fun (s20 : (List GClause)) => [(8, .sl 9 57 (s20).length)]) (fun s20 => [(57, some ⟨9, (List.map rGClause s20), 0, 0x002d⟩)]) .z (fun _ => .g [3, 6, 7, 8] [0, 1, 2] [] [] (.d [0, 1, 2, 3, 4, 5] [1] [] .z)))))))
end Go.Proofs.YtmkamncbkkahjaaGreat
set_option linter.unusedSimpArgs false
set_option linter.unusedVariables false
namespace Go.Proofs.YtmkamncbkkahjaaGreat
open Go Go.RowKit
set_option maxRecDepth 100000
set_option maxHeartbeats 20000000
instance i_spec_l7Draw : ∀ (n : Nat) (p0 : (List Int)), Ct (m_spec_l7Draw n p0) fun res => CallsD Tryz.prog 0o00113 [(.slice 1 (List.map (rK .u8) p0))] (fun d => d = .tup [(.slice 2 (List.map rGData res.1)), (.agg (rGType res.2.1)), (.slice 9 (List.map rGClause res.2.2.1)), (eI res.2.2.2)]) :=
 au Tryz.func75 m_spec_l7Draw.eq_1 (.o (.o (.o (.g [0, 3, 6, 7, 8] [8, 80] [] [] (.o (.o (.dz [0, 1, 2, 3, 4, 5, 6, 7, 8, 9, 10] [1] [1048596] [] .z)))))))
end Go.Proofs.YtmkamncbkkahjaaGreat
set_option linter.unusedSimpArgs false
set_option linter.unusedVariables false
namespace Go.Proofs.YtmkamncbkkahjaaGreat
open Go Go.RowKit
set_option maxRecDepth 100000
set_option maxHeartbeats 20000000
instance i_spec_DrawCompileClauses : ∀ (n : Nat) (p0 : (List Int)), Ct (m_spec_DrawCompileClauses n p0) fun res => CallsD Tryz.prog 0o00035 [(.slice 1 (List.map (rK .u8) p0))] (fun d => d = .tup [(.slice 2 (List.map rGData res.1)), (.agg (rGType res.2.1)), (.slice 9 (List.map rGClause res.2.2.1)), (eI res.2.2.2)]) :=
 au Tryz.func29 m_spec_DrawCompileClauses.eq_1 .z
theorem c_spec_DrawCompileClauses (n : Nat) (p0 : (List Int)) : ∀ res, m_spec_DrawCompileClauses n p0 = some res → CallsD Tryz.prog 0o00035 [(.slice 1 (List.map (rK .u8) p0))] (fun d => d = .tup [(.slice 2 (List.map rGData res.1)), (.agg (rGType res.2.1)), (.slice 9 (List.map rGClause res.2.2.1)), (eI res.2.2.2)]) := (i_spec_DrawCompileClauses n p0).pf
end Go.Proofs.YtmkamncbkkahjaaGreat
set_option linter.unusedSimpArgs false
set_option linter.unusedVariables false
namespace Go.Proofs.YtmkamncbkkahjaaGreat
open Go Go.RowKit
set_option maxRecDepth 100000
set_option maxHeartbeats 20000000
instance i_impl_countSplit : ∀ (n : Nat) (p0 : GPattern), Ct (m_impl_countSplit n p0) fun res => CallsD Tryz.prog 0o00225 [(.agg (rGPattern p0))] (fun d => d = (eI res)) :=
 ar (au Tryz.func149 m_impl_countSplit.eq_2 (.o (.o (.o (.j 2 0 [1, 3] [0] (fun (s2 : Int) => [(3, eI s2)]) (fun _ => []) .z (fun s2 => .ls 10 (.f [3] [] [1, 3, 10, 11, 12] [0] (fun (k86 : Nat) (s82 : Int) => [(3, eI s82), (12, eI (k86 : Int))]) (fun k86 s82 => []) (fun k86 s82 => .o (.j 6 0 [1, 3, 10, 11, 12] [0] (fun (s94 : Int) => [(3, eI s94)]) (fun _ => []) .z (fun _ => .z))) (fun s90 => .z))))))))
end Go.Proofs.YtmkamncbkkahjaaGreat
set_option linter.unusedSimpArgs false
set_option linter.unusedVariables false
namespace Go.Proofs.YtmkamncbkkahjaaGreat
open Go Go.RowKit
set_option maxRecDepth 100000
set_option maxHeartbeats 20000000
theorem c_slices_Clone_Pattern (p0 : (List GPattern)) (res : (List GPattern)) (h : m_slices_Clone_Pattern p0 = some res) : CallsH Tryz.prog 0o00232 [] [(.slice 6 (List.map rGPattern p0))] (fun H d => H = [some ⟨6, List.map rGPattern res, 0, 0x0029⟩] ∧ d = .sl 6 0 res.length) := by
 unfold m_slices_Clone_Pattern at h
 refine CH Tryz.func154 [.tmp 2] 0 fun β hβ => ?_
 refine sZ ?_
 apply sq
 refine sk fun K hK => ?_
 simp
 refine ⟨?_, fun hnil => ?_⟩
 ·apply hK
  refine cF ?_
  apply TrD.skip
  apply sq
  obtain ⟨x3, hx3, h⟩ := bindE h
  have hx3_r := (app_some hx3).2
  try simp only [List.length_nil, Nat.zero_add] at hx3_r
  obtain hhx3 := app_nil hx3
  subst hhx3
  refine rZ ?_ fun K hK => by simp [hx3_r]; exact hK
  cases h
  apply TrD.ret
  refine exitHG (σ' := ⟨(updD (fun _ => .any) 2 (.sl 6 0 (p0).length)), hOfO [some ⟨6, (List.map rGPattern p0), 0, 0x0029⟩], 1, 8⟩) ?_ ?_
  ·exact gC [40]
  dsimp only [resD]
  exact eA
 replace h : some ([]) = some res := by simp only [hnil] at h; simpa [app] using h
 apply hK
 refine cT ?_
 refine sZ ?_
 cases h
 apply TrD.ret
 refine exitHG (σ' := ⟨(updD (fun _ => .any) 2 (.sl 6 0 0)), hOfO [some ⟨6, (List.map rGPattern []), 0, 0x0029⟩], 1, 8⟩) ?_ ?_
 ·refine (Ghost.ownNil (s := 2) (by simp) 6 0x0029).trans ?_
  exact gC [32]
 dsimp only [resD]
 exact eA
instance i_slices_Clone_Pattern : ∀ (p0 : (List GPattern)), Ct (m_slices_Clone_Pattern p0) fun res => CallsH Tryz.prog 0o00232 [] [(.slice 6 (List.map rGPattern p0))] (fun H d => H = [some ⟨6, List.map rGPattern res, 0, 0x0029⟩] ∧ d = .sl 6 0 res.length) := fun p0 => ⟨c_slices_Clone_Pattern p0⟩
end Go.Proofs.YtmkamncbkkahjaaGreat
set_option linter.unusedSimpArgs false
set_option linter.unusedVariables false
namespace Go.Proofs.YtmkamncbkkahjaaGreat
open Go Go.RowKit
set_option maxRecDepth 100000
set_option maxHeartbeats 20000000
instance i_impl_split : ∀ (n : Nat) (p0 : GPattern), Ct (m_impl_split n p0) fun res => CallsH Tryz.prog 0o00226 [] [(.agg (rGPattern p0))] (fun H d => H = [some ⟨6, List.map rGPattern res, 0, 0x0029⟩] ∧ d = .sl 6 0 res.length) :=
 ar (au Tryz.func150 m_impl_split.eq_2 (.o (.o (.o (.i (.g [1] [0] [] [] (.o (.o (.o (.o (.o (.d [0, 1, 2, 3, 5, 6, 7, 8, 4, 9, 10, 11] [0] [] .z))))))) (.ls 29 (.f [4] [88] [4, 33, 34, 35] [88] (fun (k5018 : Nat) (s5014 : (List GPattern)) => [(4, .sl 6 88 (s5014).length), (35, eI (k5018 : Int))]) (fun k5018 s5014 => [(88, some ⟨6, (List.map rGPattern s5014), 0, 0x0029⟩)]) (fun k5018 s5014 => .o (.o (.pN 8 6 0x0029 (.ll 0 (.f [8, 33, 34, 35] [97] [7, 8, 33, 34, 35, 41, 42, 43] [50, 97, 0] (fun (k5936 : Nat) (s5932 : (List GPattern)) => [(8, .sl 6 97 (s5932).length), (43, eI (k5936 : Int))]) (fun k5936 s5932 => [(97, some ⟨6, (List.map rGPattern s5932), 0, 0x0029⟩)]) (fun k5936 s5932 => .o (.ll 0 (.f [7, 8, 33, 34, 35, 41, 42, 43] [0, 1, 2] [7, 8, 10, 33, 34, 35, 41, 42, 43, 47, 48, 49] [0, 1, 27, 2] (fun (k6006 : Nat) (s6002 : (List GPattern)) => [(8, .sl 6 1 (s6002).length), (49, eI (k6006 : Int))]) (fun k6006 s6002 => [(1, some ⟨6, (List.map rGPattern s6002), 0, 0x0029⟩)]) (fun k6006 s6002 => .o (.g [7, 8, 10, 12, 13, 33, 34, 35, 41, 42, 43, 47, 48, 49] [0, 1, 2, 28, 52, 3] [] [] (.o (.o (.dz [0, 1, 3, 2, 4, 5, 6, 7] [2, 3] [1048634] [] (.o (.pF 2097160 .z))))))) (fun s6010 => .z)))) (fun s5940 => .z)))))) (fun s5022 => .z))))))))
end Go.Proofs.YtmkamncbkkahjaaGreat
set_option linter.unusedSimpArgs false
set_option linter.unusedVariables false
namespace Go.Proofs.YtmkamncbkkahjaaGreat
open Go Go.RowKit
set_option maxRecDepth 100000
set_option maxHeartbeats 20000000
instance i_impl_splitClauses : ∀ (n : Nat) (p0 : (List GClause)), Ct (m_impl_splitClauses n p0) fun res => CallsD Tryz.prog 0o00114 [(.slice 9 (List.map rGClause p0))] (fun d => d = .tup [(.slice 1 (List.map (rL 6 rGPattern) res.1)), (eB res.2)]) :=
 au Tryz.func76 m_impl_splitClauses.eq_1 (.o (.o (.pN 4 1 0x0027 (.ls 0 (.f [4] [48] [4, 7, 8, 9] [48] (fun (k96 : Nat) (s92 : (List (List GPattern))) => [(4, .sl 1 48 (s92).length), (9, eI (k96 : Int))]) (fun k96 s92 => [(48, some ⟨1, (List.map (rL 6 rGPattern) s92), 0, 0x0027⟩)]) (fun k96 s92 => .o (.o (.i .z (.o (.o (.pF 98 .z)))))) (fun s100 => .z))))))
end Go.Proofs.YtmkamncbkkahjaaGreat
set_option linter.unusedSimpArgs false
set_option linter.unusedVariables false
namespace Go.Proofs.YtmkamncbkkahjaaGreat
open Go Go.RowKit
set_option maxRecDepth 100000
set_option maxHeartbeats 20000000
instance i_impl_only : ∀ (p0 : GPattern) (p1 : Bool) (p2 : Bool) (p3 : Bool) (p4 : Int), Ct (m_impl_only p0 p1 p2 p3 p4) fun res => CallsD Tryz.prog 0o00445 [(.agg (rGPattern p0)), (eB p1), (eB p2), (eB p3), (eI p4)] (fun d => d = (eB res)) :=
 au Tryz.func293 m_impl_only.eq_1 .z
end Go.Proofs.YtmkamncbkkahjaaGreat
set_option linter.unusedSimpArgs false
set_option linter.unusedVariables false
namespace Go.Proofs.YtmkamncbkkahjaaGreat
open Go Go.RowKit
set_option maxRecDepth 100000
set_option maxHeartbeats 20000000
instance i_impl_isVar : ∀ (p0 : Int), Ct (m_impl_isVar p0) fun res => CallsD Tryz.prog 0o00446 [(eI p0)] (fun d => d = (eB res)) :=
 au Tryz.func294 m_impl_isVar.eq_1 .z
end Go.Proofs.YtmkamncbkkahjaaGreat
set_option linter.unusedSimpArgs false
set_option linter.unusedVariables false
namespace Go.Proofs.YtmkamncbkkahjaaGreat
open Go Go.RowKit
set_option maxRecDepth 100000
set_option maxHeartbeats 20000000
instance i_slices_Index_int : ∀ (p0 : (List Int)) (p1 : Int), Ct (m_slices_Index_int p0 p1) fun res => CallsD Tryz.prog 0o00360 [(.slice 1 (List.map rI p0)), (eI p1)] (fun d => d = (eI res)) :=
 au Tryz.func240 m_slices_Index_int.eq_1 (.o (.o (.ls 0 (.f [] [] [0, 1, 7, 8] [] (fun (k44 : Nat) (s40 : Unit) => [(8, eI (k44 : Int))]) (fun k44 s40 => []) (fun k44 s40 => .z) (fun s48 => .z)))))
end Go.Proofs.YtmkamncbkkahjaaGreat
set_option linter.unusedSimpArgs false
set_option linter.unusedVariables false
namespace Go.Proofs.YtmkamncbkkahjaaGreat
open Go Go.RowKit
set_option maxRecDepth 100000
set_option maxHeartbeats 20000000
instance i_slices_Contains_int : ∀ (p0 : (List Int)) (p1 : Int), Ct (m_slices_Contains_int p0 p1) fun res => CallsD Tryz.prog 0o00250 [(.slice 1 (List.map rI p0)), (eI p1)] (fun d => d = (eB res)) :=
 au Tryz.func168 m_slices_Contains_int.eq_1 .z
end Go.Proofs.YtmkamncbkkahjaaGreat
set_option linter.unusedSimpArgs false
set_option linter.unusedVariables false
namespace Go.Proofs.YtmkamncbkkahjaaGreat
open Go Go.RowKit
set_option maxRecDepth 100000
set_option maxHeartbeats 20000000
instance i_impl_ctorsOf : ∀ (p0 : (List GData)) (p1 : GType), Ct (m_impl_ctorsOf p0 p1) fun res => CallsD Tryz.prog 0o00162 [(.slice 2 (List.map rGData p0)), (.agg (rGType p1))] (fun d => d = (.slice 1 (List.map rI res))) :=
 au Tryz.func114 m_impl_ctorsOf.eq_1 (.o (.o (.j 2 0 [5] [9000] (fun (s116 : (List Int)) => [(5, .sl 1 9000 (s116).length)]) (fun s116 => [(9000, some ⟨1, (List.map rI s116), 0, 0x0003⟩)]) (.i (.o (.pN 5 1 0x0003 (.ls 16 (.f [5] [112] [3, 5, 16, 17, 18] [0, 112] (fun (k198 : Nat) (s194 : (List Int)) => [(5, .sl 1 112 (s194).length), (18, eI (k198 : Int))]) (fun k198 s194 => [(112, some ⟨1, (List.map rI s194), 0, 0x0003⟩)]) (fun k198 s194 => .o (.j 5 0 [3, 5, 16, 17, 18] [0, 1] (fun (s217 : (List Int)) => [(5, .sl 1 1 (s217).length)]) (fun s217 => [(1, some ⟨1, (List.map rI s217), 0, 0x0003⟩)]) .z (fun _ => .z))) (fun s202 => .z))))) (.pN 5 1 0x0003 .z)) (fun _ => .z))))
end Go.Proofs.YtmkamncbkkahjaaGreat
set_option linter.unusedSimpArgs false
set_option linter.unusedVariables false
namespace Go.Proofs.YtmkamncbkkahjaaGreat
open Go Go.RowKit
set_option maxRecDepth 100000
set_option maxHeartbeats 20000000
instance i_impl_argTypes : ∀ (p0 : (List GData)) (p1 : GType) (p2 : Int), Ct (m_impl_argTypes p0 p1 p2) fun res => CallsD Tryz.prog 0o00163 [(.slice 2 (List.map rGData p0)), (.agg (rGType p1)), (eI p2)] (fun d => d = (.slice 2 (List.map rGType res))) :=
 au Tryz.func115 m_impl_argTypes.eq_1 (.o (.o (.o (.o (.o (.j 3 0 [7, 8] [88] (fun (s4 : Int) => [(8, eI s4)]) (fun _ => []) .z (fun s4 => .pN 9 2 0x0019 (.ls 28 (.f [9] [41] [8, 9, 28, 29, 30] [41] (fun (k103 : Nat) (s99 : (List GType)) => [(9, .sl 2 41 (s99).length), (30, eI (k103 : Int))]) (fun k103 s99 => [(41, some ⟨2, (List.map rGType s99), 0, 0x0019⟩)]) (fun k103 s99 => .b fun (x104 : GType) => .j 9 0 [8, 9, 11, 28, 29, 30] [0, 25] (fun (s115 : Int) => []) (fun s115 => [(25, some ⟨2, [[(eI x104.data), (eI s115)]], 0, 0x0019⟩)]) .z (fun _ => .z)) (fun s107 => .z))))))))))
end Go.Proofs.YtmkamncbkkahjaaGreat
set_option linter.unusedSimpArgs false
set_option linter.unusedVariables false
namespace Go.Proofs.YtmkamncbkkahjaaGreat
open Go Go.RowKit
set_option maxRecDepth 100000
set_option maxHeartbeats 20000000
instance i_impl_shape : ∀ (p0 : (List GData)) (p1 : GType) (p2 : GPattern), Ct (m_impl_shape p0 p1 p2) fun res => CallsD Tryz.prog 0o00370 [(.slice 2 (List.map rGData p0)), (.agg (rGType p1)), (.agg (rGPattern p2))] (fun d => d = .tup [(.slice 2 (List.map rGType res.1)), (eB res.2)]) :=
 au Tryz.func248 m_impl_shape.eq_1 (.o (.o (.o (.i .z (.i .z (.i (.g [4, 5] [0, 8] [] [] (.i (.o (.i (.i (.i (.d [0, 1, 2, 3, 4, 5, 6, 7, 8, 9, 10, 11, 12, 13, 14, 15, 16, 17, 18, 19, 20, 21, 22, 23, 24, 25] [0, 1] [] .z) (.d [0, 1, 2, 3, 4, 5, 6, 7, 8, 9, 10, 11, 12, 13, 14, 15, 16, 17, 18, 19, 20, 21, 22, 23, 24, 25] [0, 1] [] .z)) (.d [0, 1, 2, 3, 4, 5, 6, 7, 8, 9, 10, 11, 12, 13, 14, 15, 16, 17, 18, 19, 20, 21, 22, 23, 24, 25] [0, 1] [] .z)) (.d [0, 1, 2, 3, 4, 5, 6, 7, 8, 9, 10, 11, 12, 13, 14, 15, 16, 17, 18, 19, 20, 21, 22, 23, 24, 25] [0, 1] [] .z))) (.d [0, 1, 2, 3, 4, 5, 6, 7, 8, 9, 10, 11, 12, 13, 14, 15, 16, 17, 18, 19, 20, 21, 22, 23, 24, 25] [0] [] .z))) (.i (.g [0, 4, 5] [0, 8] [] [] (.o (.o (.d [0, 1, 3, 4, 2, 5, 6] [0, 1] [] .z)))) (.i (.g [4, 5] [0, 8] [] [] (.o (.dz [0, 1, 3, 4, 2, 5, 6] [0, 1] [1048649] [] .z))) (.i (.g [4, 5] [0, 8] [] [] (.o (.i (.o (.dz [0, 2, 3, 4, 5, 6, 7, 8, 1, 9, 10] [0, 1] [1048655] [] .z)) (.dz [0, 2, 3, 4, 5, 6, 7, 8, 1, 9, 10] [0, 1] [1048655] [] .z)))) .z)))))))))
end Go.Proofs.YtmkamncbkkahjaaGreat
set_option linter.unusedSimpArgs false
set_option linter.unusedVariables false
namespace Go.Proofs.YtmkamncbkkahjaaGreat
open Go Go.RowKit
set_option maxRecDepth 100000
set_option maxHeartbeats 20000000
instance i_slices_Index_VarType : ∀ (p0 : (List GVarType)) (p1 : GVarType), Ct (m_slices_Index_VarType p0 p1) fun res => CallsD Tryz.prog 0o00407 [(.slice 3 (List.map rGVarType p0)), (.agg (rGVarType p1))] (fun d => d = (eI res)) :=
 au Tryz.func263 m_slices_Index_VarType.eq_1 (.o (.o (.ls 0 (.f [] [] [0, 3, 7, 8] [0] (fun (k44 : Nat) (s40 : Unit) => [(8, eI (k44 : Int))]) (fun k44 s40 => []) (fun k44 s40 => .o (.g [0, 3, 5, 7, 8] [0] [] [] (.d [0, 1, 2, 3, 4, 5] [0] [] .z))) (fun s48 => .z)))))
end Go.Proofs.YtmkamncbkkahjaaGreat
set_option linter.unusedSimpArgs false
set_option linter.unusedVariables false
namespace Go.Proofs.YtmkamncbkkahjaaGreat
open Go Go.RowKit
set_option maxRecDepth 100000
set_option maxHeartbeats 20000000
instance i_slices_Contains_VarType : ∀ (p0 : (List GVarType)) (p1 : GVarType), Ct (m_slices_Contains_VarType p0 p1) fun res => CallsD Tryz.prog 0o00315 [(.slice 3 (List.map rGVarType p0)), (.agg (rGVarType p1))] (fun d => d = (eB res)) :=
 au Tryz.func205 m_slices_Contains_VarType.eq_1 .z
end Go.Proofs.YtmkamncbkkahjaaGreat
set_option linter.unusedSimpArgs false
set_option linter.unusedVariables false
namespace Go.Proofs.YtmkamncbkkahjaaGreat
open Go Go.RowKit
set_option maxRecDepth 100000
set_option maxHeartbeats 20000000
instance i_impl_sameVars_1 : ∀ (p0 : GVarType) (q0 : (List GVarType)), Ct (m_impl_sameVars_1 p0 q0) fun res => CallsD Tryz.prog 0o00450 [(.agg (rGVarType p0)), .cptr [(.slice 3 (List.map rGVarType q0))]] (fun d => d = (eB res)) :=
 au Tryz.func296 m_impl_sameVars_1.eq_1 .z
end Go.Proofs.YtmkamncbkkahjaaGreat
