import Derived.Test.YtbdkbdafhlcilaaGreatBJMir
import Derived.Test.YtbdkbdafhlcilaaGreatBJAuto
import Derived.Test.YtbdkbdafhlcilaaGreatBJC1d0
import Derived.Test.YtbdkbdafhlcilaaGreatBJC0a0
import Derived.Test.YtbdkbdafhlcilaaGreatBJC1b0
import Derived.Test.YtbdkbdafhlcilaaGreatBJC1c0
import Derived.Test.YtbdkbdafhlcilaaGreatBJC0d0
set_option linter.unusedSimpArgs false
set_option linter.unusedVariables false
set_option linter.unusedSimpArgs false
set_option linter.unusedVariables false
namespace Go.Proofs.YtbdkbdafhlcilaaGreat
open Go Go.RowKit
set_option maxRecDepth 100000
set_option maxHeartbeats 20000000
instance W2y : ∀ (p0 : Q5) (q0 : (List Q3)), Ct (Q7w p0 q0) fun res => Z1 Tryz.prog 0o00410 [(.agg (X7 p0)), .cptr [(.slice 2 (List.map X9 q0))]] (fun d => d = (eB res)) :=
 au Tryz.func264 Q7w.eq_1 .z
end Go.Proofs.YtbdkbdafhlcilaaGreat
set_option linter.unusedSimpArgs false
set_option linter.unusedVariables false
namespace Go.Proofs.YtbdkbdafhlcilaaGreat
open Go Go.RowKit
set_option maxRecDepth 100000
set_option maxHeartbeats 20000000
instance X54 : ∀ (n : Nat) (p0 : (List Q6)), Ct (Q1j n p0) fun res => Z1 Tryz.prog 0o00073 [(.slice 9 (List.map V0 p0))] (fun d => d = .tup [(.slice 1 (List.map (rL 6 Q8) res.1)), (eB res.2)]) :=
 au Tryz.func59 Q1j.eq_1 (.o (.o (.pN 4 1 0x005b (.ls 0 (.f [4] [48] [4, 7, 8, 9] [48] (fun (k96 : Nat) (s92 : (List (List Q0))) => [(4, .sl 1 48 (s92).length), (9, eI (k96 : Int))]) (fun k96 s92 => [(48, some ⟨1, (List.map (rL 6 Q8) s92), 0, 0x005b⟩)]) (fun k96 s92 => .o (.o (.i .z (.o (.o (.pF 98 .z)))))) (fun s100 => .z))))))
end Go.Proofs.YtbdkbdafhlcilaaGreat
set_option linter.unusedSimpArgs false
set_option linter.unusedVariables false
namespace Go.Proofs.YtbdkbdafhlcilaaGreat
open Go Go.RowKit
set_option maxRecDepth 100000
set_option maxHeartbeats 20000000
instance W2x : ∀ (n : Nat) (p0 : (List Q3)), Ct (Q4q n p0) fun res => Z1 Tryz.prog 0o00201 [(.slice 2 (List.map X9 p0))] (fun d => d = .cptr (List.map cI res)) :=
 au Tryz.func129 Q4q.eq_1 (.o (.o (.w [3] [16] [0, 3, 4] [16] (fun (s26777 : (List Int) × Bool) => [(4, eB s26777.2)]) (fun s26777 => [(16, some ⟨16, [(List.map cI s26777.1)], 0, 0x00fe⟩)]) (fun s26777 => .i (.ls 0 (.f [0, 3, 4] [0] [0, 3, 4, 15, 16] [0] (fun (k30356 : Nat) (s30352 : (List Int) × Bool) => [(4, eB s30352.2), (16, eI (k30356 : Int))]) (fun k30356 s30352 => [(0, some ⟨16, [(List.map cI s30352.1)], 0, 0x00fe⟩)]) (fun k30356 s30352 => .o (.w [0, 3, 4, 15, 16] [0] [0, 3, 4, 5, 6, 15, 16] [0] (fun (s31838 : (List Int) × Bool × Int) => [(4, eB s31838.2.1), (6, eI s31838.2.2)]) (fun s31838 => [(0, some ⟨16, [(List.map cI s31838.1)], 0, 0x00fe⟩)]) (fun s31838 => .i (.o (.ls 28 (.f [0, 3, 4, 5, 6, 15, 16] [0] [0, 3, 4, 5, 6, 7, 15, 16, 28, 29, 30] [0, 41] (fun (k32093 : Nat) (s32089 : (List Int) × Bool) => [(4, eB s32089.2), (30, eI (k32093 : Int))]) (fun k32093 s32089 => [(0, some ⟨16, [(List.map cI s32089.1)], 0, 0x00fe⟩)]) (fun k32093 s32089 => .o (.j 14 0 [0, 3, 4, 5, 6, 7, 15, 16, 28, 29, 30] [0, 1] (fun (s32117 : (List Int) × Bool) => [(4, eB s32117.2)]) (fun s32117 => [(0, some ⟨16, [(List.map cI s32117.1)], 0, 0x00fe⟩)]) .z (fun _ => .z))) (fun s32097 => .z)))) .z) (fun s31846 => .z))) (fun s30360 => .z))) .z) (fun s26785 => .z))))
end Go.Proofs.YtbdkbdafhlcilaaGreat
set_option linter.unusedSimpArgs false
set_option linter.unusedVariables false
namespace Go.Proofs.YtbdkbdafhlcilaaGreat
open Go Go.RowKit
set_option maxRecDepth 100000
set_option maxHeartbeats 20000000
instance Z8c : ∀ (n : Nat) (p0 : Z8) (p1 : (List Grow)) (p2 : (List Z6)) (p3 : Int), Ct (V9 n p0 p1 p2 p3) fun res => J8 Tryz.prog 0o00204 [⟨4, [(Y1 p0)], 0, 0x006c⟩] [.ptr 4 0 0 0, (.slice 3 (List.map Q41 p1)), (.slice 3 (List.map Q15 p2)), (eI p3)] (fun H d => H = [some ⟨4, [(Y1 res.2)], 0, 0x006c⟩] ∧ d = (.slice 9 (List.map J1 res.1))) :=
 au Tryz.func132 V9.eq_1 (.o (.o (.o (.o (.o (.o (.i (.g [0, 9, 10] [0, 57] [] [] (.o (.d [0, 1, 2, 3, 4, 5, 6, 7, 10, 8, 9] [0, 1] [] (.pN 9 9 0x0075 (.ls 35 (.f [9] [0, 10] [0, 9, 10, 35, 36, 37] [0, 10, 1] (fun (k182 : Nat) (s178 : (List Z0)) => [(9, .sl 9 10 (s178).length), (37, eI (k182 : Int))]) (fun k182 s178 => [(10, some ⟨9, (List.map J1 s178), 0, 0x0075⟩)]) (fun k182 s178 => .o (.j 6 0 [0, 9, 10, 35, 36, 37] [0, 1, 2] (fun (s190 : (List Z0)) => [(9, .sl 9 1 (s190).length)]) (fun s190 => [(1, some ⟨9, (List.map J1 s190), 0, 0x0075⟩)]) (.g [0, 9, 10, 12, 35, 36, 37] [0, 1, 2] [] [] (.o (.d [0, 1, 2, 3, 4, 5, 6, 7, 8, 9, 10, 11, 12, 13, 14, 15, 16, 17] [0, 2] [] .z))) (fun _ => .z))) (fun s186 => .pF 1 .z))))))) (.ls 1 (.f [9, 13] [0, 97] [3, 9, 13, 67, 68, 69] [0, 97] (fun (k286 : Nat) (s282 : (List Bool)) => [(69, eI (k286 : Int))]) (fun k286 s282 => [(97, some ⟨11, [(List.map cB s282)], 0, 0x0104⟩)]) (fun k286 s282 => .o (.j 15 0 [3, 9, 13, 67, 68, 69] [0, 1] (fun (s295 : (List Bool)) => []) (fun s295 => [(1, some ⟨11, [(List.map cB s295)], 0, 0x0104⟩)]) (.o (.i (.g [3, 9, 13, 16, 67, 68, 69] [0, 1, 82] [] [] (.o (.o (.d [0, 1, 2, 3, 4, 5, 6, 7, 8] [2] [] .z)))) .z)) (fun _ => .z))) (fun s290 => .pN 9 9 0x0075 (.w [9] [0, 18] [9, 13, 17, 18] [0, 18, 1] (fun (s374 : (List Z0) × Int × Int) => [(9, .sl 9 18 (s374.1).length), (17, eI s374.2.1), (18, eI s374.2.2)]) (fun s374 => [(18, some ⟨9, (List.map J1 s374.1), 0, 0x0075⟩)]) (fun s374 => .i (.j 24 0 [9, 13, 17, 18] [0, 1, 2] (fun (s388 : (List Z0) × Int) => [(9, .sl 9 1 (s388.1).length), (17, eI s388.2)]) (fun s388 => [(1, some ⟨9, (List.map J1 s388.1), 0, 0x0075⟩)]) .z (fun _ => .z)) .z) (fun s382 => .pF 1 .z))))))))))))
end Go.Proofs.YtbdkbdafhlcilaaGreat
set_option linter.unusedSimpArgs false
set_option linter.unusedVariables false
namespace Go.Proofs.YtbdkbdafhlcilaaGreat
open Go Go.RowKit
set_option maxRecDepth 100000
set_option maxHeartbeats 20000000
instance W2g : ∀ (p0 : (List Q3)) (p1 : (List Y8)) (p2 : Int) (p3 : Z0), Ct (Q2e p0 p1 p2 p3) fun res => Z1 Tryz.prog 0o00330 [(.slice 2 (List.map X9 p0)), (.slice 3 (List.map Q1h p1)), (eI p2), (.agg (J1 p3))] (fun d => d = (.slice 3 (List.map Q1h res))) :=
 au Tryz.func216 Q2e.eq_1 (.o (.o (.o (.o (.o (.o (.j 2 0 [1, 2, 9] [48] (fun (s38 : (List Y8)) => [(9, .sl 3 48 (s38).length)]) (fun s38 => [(48, some ⟨3, (List.map Q1h s38), 0, 0x00c4⟩)]) (.i (.g [0, 1, 2, 7, 9] [0, 48] [] [] (.o (.o (.d [0, 1, 2, 3, 4, 5, 6, 7, 8, 9] [0] [] (.ls 28 (.f [1, 2, 9] [1] [1, 2, 9, 10, 11] [1] (fun (k67 : Nat) (s63 : (List Y8)) => [(9, .sl 3 1 (s63).length), (11, eI (k67 : Int))]) (fun k67 s63 => [(1, some ⟨3, (List.map Q1h s63), 0, 0x00c4⟩)]) (fun k67 s63 => .o (.g [1, 2, 9, 10, 11] [0] [] [] (.o (.o (.d [0, 1, 2, 3, 4, 5, 6, 8, 9, 10, 11, 7, 12, 13, 14, 15] [] [] .z))))) (fun s71 => .z))))))) .z) (fun _ => .z))))))))
end Go.Proofs.YtbdkbdafhlcilaaGreat
set_option linter.unusedSimpArgs false
set_option linter.unusedVariables false
namespace Go.Proofs.YtbdkbdafhlcilaaGreat
open Go Go.RowKit
set_option maxRecDepth 100000
set_option maxHeartbeats 20000000
instance W7b : ∀ (n : Nat) (p0 : Int) (p1 : Q70), Ct (Q9c n p0 p1) fun res => Z1 Tryz.prog 0o00357 [(eI p0), (.agg (Q61 p1))] (fun d => d = (eB res)) :=
 au Tryz.func239 Q9c.eq_1 (.o (.o (.o (.o (.i .z (.i .z (.i .z (.i .z (.ls 12 (.f [] [] [0, 3, 5] [0] (fun (k82 : Nat) (s78 : Unit) => [(5, eI (k82 : Int))]) (fun k82 s78 => []) (fun k82 s78 => .z) (fun s86 => .z)))))))))))
end Go.Proofs.YtbdkbdafhlcilaaGreat
