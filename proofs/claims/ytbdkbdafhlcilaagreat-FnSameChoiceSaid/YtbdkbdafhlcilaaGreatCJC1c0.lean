import Derived.Test.YtbdkbdafhlcilaaGreatCJMir
import Derived.Test.YtbdkbdafhlcilaaGreatCJAuto
import Derived.Test.YtbdkbdafhlcilaaGreatCJC0c0
import Derived.Test.YtbdkbdafhlcilaaGreatCJC0a0
import Derived.Test.YtbdkbdafhlcilaaGreatCJC0d0
set_option linter.unusedSimpArgs false
set_option linter.unusedVariables false
set_option linter.unusedSimpArgs false
set_option linter.unusedVariables false
namespace Go.Proofs.YtbdkbdafhlcilaaGreat
open Go Go.RowKit
set_option maxRecDepth 100000
set_option maxHeartbeats 20000000
instance W5n : ∀ (p0 : (List Int)) (p1 : Q2), Ct (Q1x p0 p1) fun res => Q7 Tryz.prog 0o00150 [(.slice 1 (List.map rI p0)), (.agg (Z6 p1))] (fun d => d = (eI res)) :=
 au Tryz.func104 Q1x.eq_1 .z
end Go.Proofs.YtbdkbdafhlcilaaGreat
set_option linter.unusedSimpArgs false
set_option linter.unusedVariables false
namespace Go.Proofs.YtbdkbdafhlcilaaGreat
open Go Go.RowKit
set_option maxRecDepth 100000
set_option maxHeartbeats 20000000
instance W7t : ∀ (p0 : (List Q3)) (p1 : Q2) (p2 : Int), Ct (Q0d p0 p1 p2) fun res => Q7 Tryz.prog 0o00151 [(.slice 2 (List.map X2 p0)), (.agg (Z6 p1)), (eI p2)] (fun d => d = (.slice 2 (List.map Z6 res))) :=
 au Tryz.func105 Q0d.eq_1 (.o (.o (.o (.o (.b fun (x2 : Q7d) => .lc 104 1 2 Z6 x2.args (.f [7] [16] [4, 7, 8, 9] [0, 16, 104] (fun (k118 : Nat) (s114 : (List Q2)) => [(7, .sl 2 16 (s114).length), (9, eI (k118 : Int))]) (fun k118 s114 => [(16, some ⟨2, (List.map Z6 s114), 0, 0x0019⟩)]) (fun k118 s114 => .b fun (x119 : Q2) => .j 7 0 [4, 7, 8, 9, 10] [0, 1, 2, 83] (fun (s133 : Int) => []) (fun s133 => [(83, some ⟨2, [[(eI x119.data), (eI s133)]], 0, 0x0019⟩)]) .z (fun _ => .z)) (fun s122 => .z)))))))
end Go.Proofs.YtbdkbdafhlcilaaGreat
set_option linter.unusedSimpArgs false
set_option linter.unusedVariables false
namespace Go.Proofs.YtbdkbdafhlcilaaGreat
open Go Go.RowKit
set_option maxRecDepth 100000
set_option maxHeartbeats 20000000
instance W5m : ∀ (n : Nat) (p0 : Int), Ct (Q8v n p0) fun res => Q7 Tryz.prog 0o00476 [(eI p0)] (fun d => d = (eS res)) :=
 au Tryz.func318 Q8v.eq_1 .z
end Go.Proofs.YtbdkbdafhlcilaaGreat
set_option linter.unusedSimpArgs false
set_option linter.unusedVariables false
namespace Go.Proofs.YtbdkbdafhlcilaaGreat
open Go Go.RowKit
set_option maxRecDepth 100000
set_option maxHeartbeats 20000000
instance W7d : ∀ (n : Nat) (p0 : Z0) (p1 : Q0) (p2 : Int), Ct (Q2e n p0 p1 p2) fun res => Q17 Tryz.prog 0o00231 [⟨2, [(V4 p0)], 0, 0x009a⟩] [.ptr 2 0 0 0, (.agg (Q1 p1)), (eI p2)] (fun H d => H = [some ⟨2, [(V4 res.2.2)], 0, 0x009a⟩] ∧ d = .tup [(.agg (Q1 res.1)), (eI res.2.1)]) :=
 ar (au Tryz.func153 Q2e.eq_2 (.o (.o (.o (.b fun (p1 : Q0) => .o (.i .z (.i .z (.i .z (.j 3 0 [0, 2, 4, 6] [0, 1, 9] (fun (s25 : Z0) => []) (fun s25 => [(0, some ⟨2, [(V4 s25)], 0, 0x009a⟩)]) .z (fun s25 => .pC 11 5 6 0x0064 (.lc 1 5 6 Q1 p1.kids (.f [0, 6, 8, 9] [0, 2, 11, 67] [0, 4, 6, 8, 9, 10] [0, 1, 2, 11, 67] (fun (k95 : Nat) (s91 : Z0 × (List Q0) × Int) => [(9, eI s91.2.2), (10, eI (k95 : Int))]) (fun k95 s91 => [(0, some ⟨2, [(V4 s91.1)], 0, 0x009a⟩), (1000000011, some ⟨6, [[(eI p1.op), (eI p1.ctor), (eI p1.n), (eI p1.m), (eI p1.var), (.sl 6 67 (s91.2.1).length)]], 0, 0x0064⟩), (67, some ⟨6, (List.map Q1 s91.2.1), 0, 0x0064⟩)]) (fun k95 s91 => .z) (fun s99 => .j 14 0 [6, 8, 9] [0, 1, 2, 3] (fun (s112 : Z0) => []) (fun s112 => [(0, some ⟨2, [(V4 s112)], 0, 0x009a⟩), (1000000002, some ⟨6, [[(eI p1.op), (eI p1.ctor), (eI p1.n), (eI p1.m), (eI p1.var), (.sl 6 3 (s99.2.1).length)]], 0, 0x0064⟩)]) (.i (.o (.i (.pF 3 (.pF 76 .z)) .z)) .z) (fun _ => .pF 3 .z))))))))))))))
end Go.Proofs.YtbdkbdafhlcilaaGreat
set_option linter.unusedSimpArgs false
set_option linter.unusedVariables false
namespace Go.Proofs.YtbdkbdafhlcilaaGreat
open Go Go.RowKit
set_option maxRecDepth 100000
set_option maxHeartbeats 20000000
instance W5f : ∀ (p0 : (List Q8)) (p1 : (List Q8)), Ct (Q4t p0 p1) fun res => Q7 Tryz.prog 0o00402 [(.slice 3 (List.map V5 p0)), (.slice 3 (List.map V5 p1))] (fun d => d = (eB res)) :=
 au Tryz.func258 Q4t.eq_1 (.o (.o (.ls 0 (.f [0, 1] [] [0, 1, 5] [] (fun (k124 : Nat) (s120 : Unit) => [(5, eI (k124 : Int))]) (fun k124 s120 => []) (fun k124 s120 => .o (.o (.g [0, 1, 5, 6] [] [] [] (.i (.d [0, 1, 2, 3, 4, 5, 6, 7, 8, 9, 10, 11, 12, 13, 14] [] [] .z) (.o (.d [0, 1, 2, 3, 4, 5, 6, 7, 8, 9, 10, 11, 12, 13, 14] [] [] .z)))))) (fun s128 => .z)))))
end Go.Proofs.YtbdkbdafhlcilaaGreat
set_option linter.unusedSimpArgs false
set_option linter.unusedVariables false
namespace Go.Proofs.YtbdkbdafhlcilaaGreat
open Go Go.RowKit
set_option maxRecDepth 100000
set_option maxHeartbeats 20000000
instance Z5z : ∀ (p0 : (List Q5)) (p1 : (Q5 → Option Bool)) {p1_f : FuncId} {p1_c : List D} [p1_i : CF1 (fun a0 => (.agg (X5 a0))) (fun r => (eB r)) p1 p1_f p1_c], Ct (V7 p0 p1) fun res => Q7 Tryz.prog 0o00121 [(.slice 9 (List.map X5 p0)), .clos p1_f p1_c] (fun d => d = (eB res)) :=
 au Tryz.func81 V7.eq_1 .z
end Go.Proofs.YtbdkbdafhlcilaaGreat
set_option linter.unusedSimpArgs false
set_option linter.unusedVariables false
namespace Go.Proofs.YtbdkbdafhlcilaaGreat
open Go Go.RowKit
set_option maxRecDepth 100000
set_option maxHeartbeats 20000000
instance V02 : ∀ (p0 : Int), Ct (Q6c p0) fun res => Q7 Tryz.prog 0o00446 [(eI p0)] (fun d => d = (eB res)) :=
 au Tryz.func294 Q6c.eq_1 .z
end Go.Proofs.YtbdkbdafhlcilaaGreat
set_option linter.unusedSimpArgs false
set_option linter.unusedVariables false
namespace Go.Proofs.YtbdkbdafhlcilaaGreat
open Go Go.RowKit
set_option maxRecDepth 100000
set_option maxHeartbeats 20000000
instance X9w : ∀ (p0 : Int) (p1 : Int), Ct (Q49 p0 p1) fun res => Q7 Tryz.prog 0o00275 [(eI p0), (eI p1)] (fun d => d = (eI res)) :=
 au Tryz.func189 Q49.eq_1 .z
end Go.Proofs.YtbdkbdafhlcilaaGreat
set_option linter.unusedSimpArgs false
set_option linter.unusedVariables false
namespace Go.Proofs.YtbdkbdafhlcilaaGreat
open Go Go.RowKit
set_option maxRecDepth 100000
set_option maxHeartbeats 20000000
instance X9v : ∀ (p0 : Q2z) (p1 : (List X3)), Ct (Q2o p0 p1) fun res => Q7 Tryz.prog 0o00156 [(.agg (Q7g p0)), (.slice 4 (List.map Q0w p1))] (fun d => d = (eB res)) :=
 au Tryz.func110 Q2o.eq_1 .z
end Go.Proofs.YtbdkbdafhlcilaaGreat
