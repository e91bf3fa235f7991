import Derived.Test.YtbdkbdafhlcilaaGreatCJMir
import Derived.Test.YtbdkbdafhlcilaaGreatCJAuto
import Derived.Test.YtbdkbdafhlcilaaGreatCJC1a0
import Derived.Test.YtbdkbdafhlcilaaGreatCJC0b0
import Derived.Test.YtbdkbdafhlcilaaGreatCJC0d0
import Derived.Test.YtbdkbdafhlcilaaGreatCJC0a0
import Derived.Test.YtbdkbdafhlcilaaGreatCJC1d0
import Derived.Test.YtbdkbdafhlcilaaGreatCJC0c0
set_option linter.unusedSimpArgs false
set_option linter.unusedVariables false
set_option linter.unusedSimpArgs false
set_option linter.unusedVariables false
namespace Go.Proofs.YtbdkbdafhlcilaaGreat
open Go Go.RowKit
set_option maxRecDepth 100000
set_option maxHeartbeats 20000000
instance X9m : ∀ (p0 : Q8) (q0 : (List Q8)), Ct (Q5i p0 q0) fun res => Q7 Tryz.prog 0o00455 [(.agg (V5 p0)), .cptr [(.slice 3 (List.map V5 q0))]] (fun d => d = (eB res)) :=
 au Tryz.func301 Q5i.eq_1 .z
end Go.Proofs.YtbdkbdafhlcilaaGreat
set_option linter.unusedSimpArgs false
set_option linter.unusedVariables false
namespace Go.Proofs.YtbdkbdafhlcilaaGreat
open Go Go.RowKit
set_option maxRecDepth 100000
set_option maxHeartbeats 20000000
instance W0x : ∀ (n : Nat) (p0 : (List Q3)) (p1 : Q2) (p2 : Q4) (p3 : Int) (p4 : Bool) (p5 : Int), Ct (Q2b n p0 p1 p2 p3 p4 p5) fun res => Q17 Tryz.prog 0o00154 [⟨1, [[(eI p5)]], 0, 0x0003⟩] [(.slice 2 (List.map X2 p0)), (.agg (Z6 p1)), (.agg (W3 p2)), (eI p3), (eB p4), .ptr 1 0 0 0] (fun H d => H = [some ⟨1, [[(eI res.2)]], 0, 0x0003⟩] ∧ d = (eB res.1)) :=
 ar (au Tryz.func108 Q2b.eq_2 (.o (.o (.o (.o (.o (.o (.o (.o (.i .z (.i .z (.j 4 0 [0, 3, 4, 5, 7, 8] [0, 1, 9] (fun (s92 : Unit) => []) (fun _ => []) (.i (.i .z (.i .z (.g [0, 3, 4, 5, 7, 8] [0, 1, 9] [] [] (.i (.d [0, 1, 2, 3, 4, 5, 7, 8, 6, 9, 10, 11, 12] [2] [] .z) (.o (.o (.d [0, 1, 2, 3, 4, 5, 7, 8, 6, 9, 10, 11, 12] [1, 2] [] .z))))))) (.i .z (.g [0, 3, 4, 5, 7, 8] [0, 1, 9] [] [] (.i (.d [0, 1, 2, 3, 4, 5, 7, 8, 6, 9, 10, 11, 12] [2] [] .z) (.o (.o (.d [0, 1, 2, 3, 4, 5, 7, 8, 6, 9, 10, 11, 12] [1, 2] [] .z))))))) (fun s92 => .o (.i .z (.ls 84 (.f [] [0] [0, 3, 4, 5, 13, 88, 89, 90] [0] (fun (k244 : Nat) (s240 : Int) => [(90, eI (k244 : Int))]) (fun k244 s240 => [(0, some ⟨1, [[(eI s240)]], 0, 0x0003⟩)]) (fun k244 s240 => .o (.g [0, 3, 4, 5, 13, 14, 15, 88, 89, 90] [0, 33] [] [] (.o (.o (.d [0, 1, 2, 3, 4, 5, 6, 7, 8, 9, 10, 11] [1] [] .z))))) (fun s248 => .z)))))))))))))))))
end Go.Proofs.YtbdkbdafhlcilaaGreat
set_option linter.unusedSimpArgs false
set_option linter.unusedVariables false
namespace Go.Proofs.YtbdkbdafhlcilaaGreat
open Go Go.RowKit
set_option maxRecDepth 100000
set_option maxHeartbeats 20000000
instance V00 : ∀ (n : Nat) (p0 : Q0), Ct (Q56 n p0) fun res => Q7 Tryz.prog 0o00166 [(.agg (Q1 p0))] (fun d => d = .tup [(.slice 6 (List.map Q1 res.1)), (eB res.2)]) :=
 au Tryz.func118 Q56.eq_1 .z
end Go.Proofs.YtbdkbdafhlcilaaGreat
set_option linter.unusedSimpArgs false
set_option linter.unusedVariables false
namespace Go.Proofs.YtbdkbdafhlcilaaGreat
open Go Go.RowKit
set_option maxRecDepth 100000
set_option maxHeartbeats 20000000
instance W3p : ∀ (n : Nat) (p0 : (List Q3)), Ct (Q58 n p0) fun res => Q7 Tryz.prog 0o00201 [(.slice 2 (List.map X2 p0))] (fun d => d = .cptr (List.map cI res)) :=
 au Tryz.func129 Q58.eq_1 (.o (.o (.w [3] [16] [0, 3, 4] [16] (fun (s26777 : (List Int) × Bool) => [(4, eB s26777.2)]) (fun s26777 => [(16, some ⟨16, [(List.map cI s26777.1)], 0, 0x00fe⟩)]) (fun s26777 => .i (.ls 0 (.f [0, 3, 4] [0] [0, 3, 4, 15, 16] [0] (fun (k30356 : Nat) (s30352 : (List Int) × Bool) => [(4, eB s30352.2), (16, eI (k30356 : Int))]) (fun k30356 s30352 => [(0, some ⟨16, [(List.map cI s30352.1)], 0, 0x00fe⟩)]) (fun k30356 s30352 => .o (.w [0, 3, 4, 15, 16] [0] [0, 3, 4, 5, 6, 15, 16] [0] (fun (s31838 : (List Int) × Bool × Int) => [(4, eB s31838.2.1), (6, eI s31838.2.2)]) (fun s31838 => [(0, some ⟨16, [(List.map cI s31838.1)], 0, 0x00fe⟩)]) (fun s31838 => .i (.o (.ls 28 (.f [0, 3, 4, 5, 6, 15, 16] [0] [0, 3, 4, 5, 6, 7, 15, 16, 28, 29, 30] [0, 41] (fun (k32093 : Nat) (s32089 : (List Int) × Bool) => [(4, eB s32089.2), (30, eI (k32093 : Int))]) (fun k32093 s32089 => [(0, some ⟨16, [(List.map cI s32089.1)], 0, 0x00fe⟩)]) (fun k32093 s32089 => .o (.j 14 0 [0, 3, 4, 5, 6, 7, 15, 16, 28, 29, 30] [0, 1] (fun (s32117 : (List Int) × Bool) => [(4, eB s32117.2)]) (fun s32117 => [(0, some ⟨16, [(List.map cI s32117.1)], 0, 0x00fe⟩)]) .z (fun _ => .z))) (fun s32097 => .z)))) .z) (fun s31846 => .z))) (fun s30360 => .z))) .z) (fun s26785 => .z))))
end Go.Proofs.YtbdkbdafhlcilaaGreat
