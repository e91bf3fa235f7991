import Derived.Test.YtbdkbdafhlcilaaGreatAJMir
import Derived.Test.YtbdkbdafhlcilaaGreatAJAuto
import Derived.Test.YtbdkbdafhlcilaaGreatAJC0c0
import Derived.Test.YtbdkbdafhlcilaaGreatAJC0b0
import Derived.Test.YtbdkbdafhlcilaaGreatAJC0d0
import Derived.Test.YtbdkbdafhlcilaaGreatAJC0a0
set_option linter.unusedSimpArgs false
set_option linter.unusedVariables false
set_option linter.unusedSimpArgs false
set_option linter.unusedVariables false
namespace Go.Proofs.YtbdkbdafhlcilaaGreat
open Go Go.RowKit
set_option maxRecDepth 100000
set_option maxHeartbeats 20000000
instance Z5r : ∀ (p0 : (List Q8)) (p1 : (Q8 → Option Bool)) {p1_f : FuncId} {p1_c : List D} [p1_i : CF1 (fun a0 => (.agg (V3 a0))) (fun r => (eB r)) p1 p1_f p1_c], Ct (Q10 p0 p1) fun res => Z0 Tryz.prog 0o00454 [(.slice 3 (List.map V3 p0)), .clos p1_f p1_c] (fun d => d = (eB res)) :=
 au Tryz.func300 Q10.eq_1 .z
end Go.Proofs.YtbdkbdafhlcilaaGreat
set_option linter.unusedSimpArgs false
set_option linter.unusedVariables false
namespace Go.Proofs.YtbdkbdafhlcilaaGreat
open Go Go.RowKit
set_option maxRecDepth 100000
set_option maxHeartbeats 20000000
instance X7t : ∀ (n : Nat) (p0 : (List Q0)), Ct (Q35 n p0) fun res => Z0 Tryz.prog 0o00312 [(.slice 6 (List.map Q1 p0))] (fun d => d = (.slice 6 (List.map Q1 res))) :=
 au Tryz.func202 Q35.eq_1 (.o (.o (.pN 3 6 0x0064 (.ls 0 (.f [3] [40] [3, 6, 7, 8] [40] (fun (k56 : Nat) (s52 : (List Q0)) => [(3, .sl 6 40 (s52).length), (8, eI (k56 : Int))]) (fun k56 s52 => [(40, some ⟨6, (List.map Q1 s52), 0, 0x0064⟩)]) (fun k56 s52 => .z) (fun s60 => .z))))))
end Go.Proofs.YtbdkbdafhlcilaaGreat
set_option linter.unusedSimpArgs false
set_option linter.unusedVariables false
namespace Go.Proofs.YtbdkbdafhlcilaaGreat
open Go Go.RowKit
set_option maxRecDepth 100000
set_option maxHeartbeats 20000000
instance Z8s : ∀ (p0 : (List Q2)) (p1 : (Q2 → Option Bool)) {p1_f : FuncId} {p1_c : List D} [p1_i : CF1 (fun a0 => (.agg (X0 a0))) (fun r => (eB r)) p1 p1_f p1_c], Ct (Q2v p0 p1) fun res => Z0 Tryz.prog 0o00254 [(.slice 2 (List.map X0 p0)), .clos p1_f p1_c] (fun d => d = (eB res)) :=
 au Tryz.func172 Q2v.eq_1 .z
end Go.Proofs.YtbdkbdafhlcilaaGreat
set_option linter.unusedSimpArgs false
set_option linter.unusedVariables false
namespace Go.Proofs.YtbdkbdafhlcilaaGreat
open Go Go.RowKit
set_option maxRecDepth 100000
set_option maxHeartbeats 20000000
instance X7u : ∀ (n : Nat) (p0 : Q0), Ct (V7 n p0) fun res => Z0 Tryz.prog 0o00304 [(.agg (Q1 p0))] (fun d => d = (.agg (Q1 res))) :=
 ar (au Tryz.func196 V7.eq_2 (.o (.o (.b fun (p0 : Q0) => .j 1 0 [1, 2] [0, 8] (fun (s12 : Unit) => []) (fun _ => []) .z (fun s12 => .pC 0 5 6 0x0064 (.ls 27 (.f [1, 2] [0, 66, 1] [1, 2, 29, 30, 31] [0, 66, 1] (fun (k81 : Nat) (s77 : (List Q0)) => [(31, eI (k81 : Int))]) (fun k81 s77 => [(1000000000, some ⟨6, [[(eI p0.op), (eI p0.ctor), (eI p0.n), (eI p0.m), (eI p0.var), (.sl 6 66 (s77).length)]], 0, 0x0064⟩), (66, some ⟨6, (List.map Q1 s77), 0, 0x0064⟩)]) (fun k81 s77 => .o (.g [1, 2, 5, 29, 30, 31] [0, 1, 2, 27] [] [(1000000000, some ⟨6, [[(eI p0.op), (eI p0.ctor), (eI p0.n), (eI p0.m), (eI p0.var), (.sl 6 1 (s77).length)]], 0, 0x0064⟩)] (.o (.o (.d [0, 1, 2, 3, 4, 5, 6, 7] [0, 3] [41] .z))))) (fun s85 => .z))))))))
end Go.Proofs.YtbdkbdafhlcilaaGreat
set_option linter.unusedSimpArgs false
set_option linter.unusedVariables false
namespace Go.Proofs.YtbdkbdafhlcilaaGreat
open Go Go.RowKit
set_option maxRecDepth 100000
set_option maxHeartbeats 20000000
instance W0r : ∀ (p0 : Z8) (p1 : (List Int)), Ct (W5 p0 p1) fun res => J1 Tryz.prog 0o00104 [⟨2, [(Y4 p0)], 0, 0x009a⟩] [.ptr 2 0 0 0, (.slice 1 (List.map rI p1))] (fun H d => H = [some ⟨2, [(Y4 res.2)], 0, 0x009a⟩] ∧ d = (eI res.1)) :=
 au Tryz.func68 W5.eq_1 .z
end Go.Proofs.YtbdkbdafhlcilaaGreat
set_option linter.unusedSimpArgs false
set_option linter.unusedVariables false
namespace Go.Proofs.YtbdkbdafhlcilaaGreat
open Go Go.RowKit
set_option maxRecDepth 100000
set_option maxHeartbeats 20000000
instance W5i : ∀ (p0 : (List Int)) (p1 : Q2), Ct (Q1s p0 p1) fun res => Z0 Tryz.prog 0o00150 [(.slice 1 (List.map rI p0)), (.agg (X0 p1))] (fun d => d = (eI res)) :=
 au Tryz.func104 Q1s.eq_1 .z
end Go.Proofs.YtbdkbdafhlcilaaGreat
set_option linter.unusedSimpArgs false
set_option linter.unusedVariables false
namespace Go.Proofs.YtbdkbdafhlcilaaGreat
open Go Go.RowKit
set_option maxRecDepth 100000
set_option maxHeartbeats 20000000
instance W7o : ∀ (p0 : (List Q3)) (p1 : Q2) (p2 : Int), Ct (Q0z p0 p1 p2) fun res => Z0 Tryz.prog 0o00151 [(.slice 2 (List.map W3 p0)), (.agg (X0 p1)), (eI p2)] (fun d => d = (.slice 2 (List.map X0 res))) :=
 au Tryz.func105 Q0z.eq_1 (.o (.o (.o (.o (.b fun (x2 : Q75) => .lc 104 1 2 X0 x2.args (.f [7] [16] [4, 7, 8, 9] [0, 16, 104] (fun (k118 : Nat) (s114 : (List Q2)) => [(7, .sl 2 16 (s114).length), (9, eI (k118 : Int))]) (fun k118 s114 => [(16, some ⟨2, (List.map X0 s114), 0, 0x0019⟩)]) (fun k118 s114 => .b fun (x119 : Q2) => .j 7 0 [4, 7, 8, 9, 10] [0, 1, 2, 83] (fun (s133 : Int) => []) (fun s133 => [(83, some ⟨2, [[(eI x119.data), (eI s133)]], 0, 0x0019⟩)]) .z (fun _ => .z)) (fun s122 => .z)))))))
end Go.Proofs.YtbdkbdafhlcilaaGreat
set_option linter.unusedSimpArgs false
set_option linter.unusedVariables false
namespace Go.Proofs.YtbdkbdafhlcilaaGreat
open Go Go.RowKit
set_option maxRecDepth 100000
set_option maxHeartbeats 20000000
instance W0t : ∀ (n : Nat) (p0 : ByteArray), Ct (Q78 n p0) fun res => Z0 Tryz.prog 0o00432 [(eS p0)] (fun d => d = (eB res)) :=
 au Tryz.func282 Q78.eq_1 (.o (.o (.i .z (.i .z (.o (.o (.i .z (.w [] [] [0, 3] [] (fun (s132 : Int) => [(3, eI s132)]) (fun s132 => []) (fun s132 => .z) (fun s140 => .z)))))))))
end Go.Proofs.YtbdkbdafhlcilaaGreat
set_option linter.unusedSimpArgs false
set_option linter.unusedVariables false
namespace Go.Proofs.YtbdkbdafhlcilaaGreat
open Go Go.RowKit
set_option maxRecDepth 100000
set_option maxHeartbeats 20000000
instance W7b : ∀ (n : Nat) (p0 : Z8) (p1 : Q0) (p2 : Int), Ct (Q55 n p0 p1 p2) fun res => J1 Tryz.prog 0o00231 [⟨2, [(Y4 p0)], 0, 0x009a⟩] [.ptr 2 0 0 0, (.agg (Q1 p1)), (eI p2)] (fun H d => H = [some ⟨2, [(Y4 res.2.2)], 0, 0x009a⟩] ∧ d = .tup [(.agg (Q1 res.1)), (eI res.2.1)]) :=
 ar (au Tryz.func153 Q55.eq_2 (.o (.o (.o (.b fun (p1 : Q0) => .o (.i .z (.i .z (.i .z (.j 3 0 [0, 2, 4, 6] [0, 1, 9] (fun (s25 : Z8) => []) (fun s25 => [(0, some ⟨2, [(Y4 s25)], 0, 0x009a⟩)]) .z (fun s25 => .pC 11 5 6 0x0064 (.lc 1 5 6 Q1 p1.kids (.f [0, 6, 8, 9] [0, 2, 11, 67] [0, 4, 6, 8, 9, 10] [0, 1, 2, 11, 67] (fun (k95 : Nat) (s91 : Z8 × (List Q0) × Int) => [(9, eI s91.2.2), (10, eI (k95 : Int))]) (fun k95 s91 => [(0, some ⟨2, [(Y4 s91.1)], 0, 0x009a⟩), (1000000011, some ⟨6, [[(eI p1.op), (eI p1.ctor), (eI p1.n), (eI p1.m), (eI p1.var), (.sl 6 67 (s91.2.1).length)]], 0, 0x0064⟩), (67, some ⟨6, (List.map Q1 s91.2.1), 0, 0x0064⟩)]) (fun k95 s91 => .z) (fun s99 => .j 14 0 [6, 8, 9] [0, 1, 2, 3] (fun (s112 : Z8) => []) (fun s112 => [(0, some ⟨2, [(Y4 s112)], 0, 0x009a⟩), (1000000002, some ⟨6, [[(eI p1.op), (eI p1.ctor), (eI p1.n), (eI p1.m), (eI p1.var), (.sl 6 3 (s99.2.1).length)]], 0, 0x0064⟩)]) (.i (.o (.i (.pF 3 (.pF 76 .z)) .z)) .z) (fun _ => .pF 3 .z))))))))))))))
end Go.Proofs.YtbdkbdafhlcilaaGreat
set_option linter.unusedSimpArgs false
set_option linter.unusedVariables false
namespace Go.Proofs.YtbdkbdafhlcilaaGreat
open Go Go.RowKit
set_option maxRecDepth 100000
set_option maxHeartbeats 20000000
instance X1r : ∀ (p0 : (List (List Z3))), Ct (Q1j p0) fun res => Z0 Tryz.prog 0o00207 [(.slice 1 (List.map (rL 3 Q1b) p0))] (fun d => d = (.slice 3 (List.map Q1b res))) :=
 au Tryz.func135 Q1j.eq_1 (.o (.ls 0 (.f [0, 3] [] [0, 3, 9, 10, 11] [] (fun (k46 : Nat) (s42 : Int) => [(3, eI s42), (11, eI (k46 : Int))]) (fun k46 s42 => []) (fun k46 s42 => .z) (fun s50 => .o (.ls 0 (.f [6] [9] [6, 25, 26, 27] [9] (fun (k99 : Nat) (s95 : (List Z3)) => [(6, .sl 3 9 (s95).length), (27, eI (k99 : Int))]) (fun k99 s95 => [(9, some ⟨3, (List.map Q1b s95), 0, 0x006f⟩)]) (fun k99 s95 => .z) (fun s103 => .z)))))))
end Go.Proofs.YtbdkbdafhlcilaaGreat
set_option linter.unusedSimpArgs false
set_option linter.unusedVariables false
namespace Go.Proofs.YtbdkbdafhlcilaaGreat
open Go Go.RowKit
set_option maxRecDepth 100000
set_option maxHeartbeats 20000000
instance W4z : ∀ (n : Nat) (p0 : V1) (p1 : Q0) (p2 : (List Int)), Ct (Q3e n p0 p1 p2) fun res => Z0 Tryz.prog 0o00332 [(.agg (Q1w p0)), (.agg (Q1 p1)), (.slice 1 (List.map rI p2))] (fun d => d = .tup [(.agg (Q1w res.1)), (.agg (Q1 res.2))]) :=
 au Tryz.func218 Q3e.eq_1 (.o (.b fun (p0 : V1) => .o (.b fun (p2 : (List Int)) => .w [2, 3, 4, 6, 7] [0, 8, 16, 24] [2, 3, 4, 6, 7] [0, 8, 16, 24] (fun (s16 : (List Q4) × Q0) => []) (fun s16 => [(0, some ⟨3, [[(eI p0.clause), (.slice 6 (List.map Q1 p0.pats)), (.slice 2 (List.map Z2 s16.1))]], 0, 0x0109⟩), (8, some ⟨6, [(Q1 s16.2)], 0, 0x0064⟩)]) (fun s16 => .i (.g [2, 3, 4, 6, 7] [0, 1, 2, 3] [] [] (.o (.o (.o (.dz [1, 2, 4, 5, 7, 0, 3, 6, 8, 9, 10, 11, 12, 13] [0, 1] [1048593] [23] (.o (.pF 2097168 (.pF 2097184 .z)))))))) .z) (fun s24 => .i (.g [2, 3, 4, 6, 7] [0, 1, 2, 3] [] [] (.o (.o (.o (.dz [1, 2, 4, 5, 7, 0, 3, 6, 8, 9, 10, 11, 12, 13] [0, 1] [1048613] [43] (.pF 2097168 (.g [3, 6, 7] [0, 2097184, 2, 3] [] [(1000000000, some ⟨3, [[(eI p0.clause), (.slice 6 (List.map Q1 p0.pats)), (.sl 2 2097184 ((s24.1 ++ [(Q4.mk s24.2.var p2)])).length)]], 0, 0x0109⟩), (2097184, some ⟨2, (List.map Z2 (s24.1 ++ [(Q4.mk s24.2.var p2)])), 0, 0x0073⟩)] (.o (.d [0, 1, 2, 3] [0] [] .z))))))))) (.g [3, 4, 6, 7] [0, 1, 2, 3] [] [] (.d [0, 1, 2, 3] [0, 1] [] .z))))))
end Go.Proofs.YtbdkbdafhlcilaaGreat
