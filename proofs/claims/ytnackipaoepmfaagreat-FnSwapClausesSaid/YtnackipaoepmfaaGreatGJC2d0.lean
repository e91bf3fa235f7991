import Derived.Test.YtnackipaoepmfaaGreatGJMir
import Derived.Test.YtnackipaoepmfaaGreatGJAuto
import Derived.Test.YtnackipaoepmfaaGreatGJC1d0
import Derived.Test.YtnackipaoepmfaaGreatGJC0d0
import Derived.Test.YtnackipaoepmfaaGreatGJC1b0
import Derived.Test.YtnackipaoepmfaaGreatGJC0c0
import Derived.Test.YtnackipaoepmfaaGreatGJC0b0
import Derived.Test.YtnackipaoepmfaaGreatGJC1a0
set_option linter.unusedSimpArgs false
set_option linter.unusedVariables false
set_option linter.unusedSimpArgs false
set_option linter.unusedVariables false
namespace Go.Proofs.YtnackipaoepmfaaGreat
open Go Go.RowKit
set_option maxRecDepth 100000
set_option maxHeartbeats 20000000
instance W5u : ∀ (n : Nat) (p0 : Z1) (p1 : (List Q3)) (p2 : Q2) (p3 : Int), Ct (Q0g n p0 p1 p2 p3) fun res => Q0k Tryz.prog 0o00352 [⟨2, [(Y3 p0)], 0, 0x00c4⟩] [.ptr 2 0 0 0, (.slice 2 (List.map X0 p1)), (.agg (Z6 p2)), (eI p3)] (fun H d => H = [some ⟨2, [(Y3 res.2)], 0, 0x00c4⟩] ∧ d = (.agg (Q1 res.1))) :=
 ar (au Tryz.func234 Q0g.eq_2 (.o (.o (.o (.o (.o (.o (.i .z (.o (.i .z (.o (.i (.g [0, 1, 3, 6, 8] [0, 1, 9] [] [] (.o (.o (.d [0, 1, 2, 3, 4, 6, 7, 8, 9, 10, 5, 11, 12, 13, 14] [1] [] (.pF 19 .z))))) (.i .z (.o (.i .z (.o (.b fun (x37 : Int) => .o (.pC 241 5 6 0x0033 (.ls 74 (.f [8, 11] [0, 9, 241, 313] [0, 1, 3, 8, 11, 12, 13] [0, 9, 241, 313] (fun (k96 : Nat) (s92 : Z1 × (List Q0)) => [(13, eI (k96 : Int))]) (fun k96 s92 => [(0, some ⟨2, [(Y3 s92.1)], 0, 0x00c4⟩), (1000000241, some ⟨6, [[(eI 4), (eI x37), (eI 0), (eI 0), (eI 0), (.sl 6 313 (s92.2).length)]], 0, 0x0033⟩), (313, some ⟨6, (List.map Q1 s92.2), 0, 0x0033⟩)]) (fun k96 s92 => .o (.g [0, 1, 3, 8, 11, 12, 13] [0, 1, 2, 3] [] [(1000000002, some ⟨6, [[(eI 4), (eI x37), (eI 0), (eI 0), (eI 0), (.sl 6 3 (s92.2).length)]], 0, 0x0033⟩)] (.o (.o (.d [0, 1, 2, 3, 4, 5, 6, 7, 8, 9, 10, 11, 12, 13, 14] [2] [94] .z))))) (fun s100 => .pF 3 .z)))))))))))))))))))))
end Go.Proofs.YtnackipaoepmfaaGreat
set_option linter.unusedSimpArgs false
set_option linter.unusedVariables false
namespace Go.Proofs.YtnackipaoepmfaaGreat
open Go Go.RowKit
set_option maxRecDepth 100000
set_option maxHeartbeats 20000000
instance W60 : ∀ (p0 : (List Q3)) (p1 : (List Int)) (p2 : Q2) (p3 : Int), Ct (Q3p p0 p1 p2 p3) fun res => Q9 Tryz.prog 0o00232 [(.slice 2 (List.map X0 p0)), (.slice 1 (List.map rI p1)), (.agg (Z6 p2)), (eI p3)] (fun d => d = (eI res)) :=
 au Tryz.func154 Q3p.eq_1 (.o (.o (.o (.o (.o (.ls 16 (.f [10] [] [1, 9, 10, 11] [] (fun (k92 : Nat) (s88 : Int) => [(10, eI s88), (11, eI (k92 : Int))]) (fun k92 s88 => []) (fun k92 s88 => .o (.j 6 0 [1, 9, 10, 11] [] (fun (s101 : Int) => [(10, eI s101)]) (fun _ => []) .z (fun _ => .z))) (fun s96 => .z))))))))
end Go.Proofs.YtnackipaoepmfaaGreat
set_option linter.unusedSimpArgs false
set_option linter.unusedVariables false
namespace Go.Proofs.YtnackipaoepmfaaGreat
open Go Go.RowKit
set_option maxRecDepth 100000
set_option maxHeartbeats 20000000
instance W2c : ∀ (n : Nat) (p0 : (List Q3)), Ct (Q4h n p0) fun res => Q9 Tryz.prog 0o00310 [(.slice 2 (List.map X0 p0))] (fun d => d = .cptr (List.map cI res)) :=
 au Tryz.func200 Q4h.eq_1 (.o (.o (.w [3] [16] [0, 3, 4] [16] (fun (s26777 : (List Int) × Bool) => [(4, eB s26777.2)]) (fun s26777 => [(16, some ⟨16, [(List.map cI s26777.1)], 0, 0x0137⟩)]) (fun s26777 => .i (.ls 0 (.f [0, 3, 4] [0] [0, 3, 4, 15, 16] [0] (fun (k30356 : Nat) (s30352 : (List Int) × Bool) => [(4, eB s30352.2), (16, eI (k30356 : Int))]) (fun k30356 s30352 => [(0, some ⟨16, [(List.map cI s30352.1)], 0, 0x0137⟩)]) (fun k30356 s30352 => .o (.w [0, 3, 4, 15, 16] [0] [0, 3, 4, 5, 6, 15, 16] [0] (fun (s31838 : (List Int) × Bool × Int) => [(4, eB s31838.2.1), (6, eI s31838.2.2)]) (fun s31838 => [(0, some ⟨16, [(List.map cI s31838.1)], 0, 0x0137⟩)]) (fun s31838 => .i (.o (.ls 28 (.f [0, 3, 4, 5, 6, 15, 16] [0] [0, 3, 4, 5, 6, 7, 15, 16, 28, 29, 30] [0, 41] (fun (k32093 : Nat) (s32089 : (List Int) × Bool) => [(4, eB s32089.2), (30, eI (k32093 : Int))]) (fun k32093 s32089 => [(0, some ⟨16, [(List.map cI s32089.1)], 0, 0x0137⟩)]) (fun k32093 s32089 => .o (.j 14 0 [0, 3, 4, 5, 6, 7, 15, 16, 28, 29, 30] [0, 1] (fun (s32117 : (List Int) × Bool) => [(4, eB s32117.2)]) (fun s32117 => [(0, some ⟨16, [(List.map cI s32117.1)], 0, 0x0137⟩)]) .z (fun _ => .z))) (fun s32097 => .z)))) .z) (fun s31846 => .z))) (fun s30360 => .z))) .z) (fun s26785 => .z))))
end Go.Proofs.YtnackipaoepmfaaGreat
set_option linter.unusedSimpArgs false
set_option linter.unusedVariables false
namespace Go.Proofs.YtnackipaoepmfaaGreat
open Go Go.RowKit
set_option maxRecDepth 100000
set_option maxHeartbeats 20000000
instance W3l : ∀ (n : Nat) (p0 : Q0), Ct (Q3z n p0) fun res => Q9 Tryz.prog 0o00304 [(.agg (Q1 p0))] (fun d => d = (.slice 6 (List.map Q1 res))) :=
 au Tryz.func196 Q3z.eq_1 .z
end Go.Proofs.YtnackipaoepmfaaGreat
set_option linter.unusedSimpArgs false
set_option linter.unusedVariables false
namespace Go.Proofs.YtnackipaoepmfaaGreat
open Go Go.RowKit
set_option maxRecDepth 100000
set_option maxHeartbeats 20000000
instance W3o : ∀ (n : Nat) (p0 : (List Q3)) (p1 : (List Int)) (p2 : Q2) (p3 : Q0), Ct (Q07 n p0 p1 p2 p3) fun res => Q9 Tryz.prog 0o00362 [(.slice 2 (List.map X0 p0)), (.slice 1 (List.map rI p1)), (.agg (Z6 p2)), (.agg (Q1 p3))] (fun d => d = (eB res)) :=
 ar (au Tryz.func242 Q07.eq_2 (.o (.o (.o (.o (.o (.o (.i .z (.i .z (.o (.ls 25 (.f [] [] [0, 1, 7, 9, 10] [8] (fun (k71 : Nat) (s67 : Unit) => [(10, eI (k71 : Int))]) (fun k71 s67 => []) (fun k71 s67 => .o (.g [0, 1, 7, 9, 10] [0] [] [] (.o (.o (.d [0, 1, 2, 3, 4, 5, 6, 7, 8, 9, 10, 11, 12] [0] [] .z))))) (fun s75 => .z)))))))))))))
end Go.Proofs.YtnackipaoepmfaaGreat
set_option linter.unusedSimpArgs false
set_option linter.unusedVariables false
namespace Go.Proofs.YtnackipaoepmfaaGreat
open Go Go.RowKit
set_option maxRecDepth 100000
set_option maxHeartbeats 20000000
instance X07 : ∀ (n : Nat) (p0 : (List W4)) (p1 : (W4 → W4 → Option Int)) {p1_f : FuncId} {p1_c : List D} [p1_i : CF2 (fun a0 => (.agg (Q1h a0))) (fun a1 => (.agg (Q1h a1))) (fun r => (eI r)) p1 p1_f p1_c], Ct (Q0b n p0 p1) fun res => Q0k Tryz.prog 0o00373 [⟨4, List.map Q1h p0, 0, 0x007e⟩] [.sl 4 0 p0.length, .clos p1_f p1_c] (fun H d => H = [some ⟨4, List.map Q1h res, 0, 0x007e⟩] ∧ d = .tup []) :=
 au Tryz.func251 Q0b.eq_1 .z
end Go.Proofs.YtnackipaoepmfaaGreat
