import Derived.Test.YtbdkbdafhlcilaaGreatAJMir
import Derived.Test.YtbdkbdafhlcilaaGreatAJAuto
import Derived.Test.YtbdkbdafhlcilaaGreatAJC0a0
import Derived.Test.YtbdkbdafhlcilaaGreatAJC1a0
import Derived.Test.YtbdkbdafhlcilaaGreatAJC0c0
import Derived.Test.YtbdkbdafhlcilaaGreatAJC1d0
import Derived.Test.YtbdkbdafhlcilaaGreatAJC1c0
import Derived.Test.YtbdkbdafhlcilaaGreatAJC1b0
import Derived.Test.YtbdkbdafhlcilaaGreatAJC0d0
set_option linter.unusedSimpArgs false
set_option linter.unusedVariables false
set_option linter.unusedSimpArgs false
set_option linter.unusedVariables false
namespace Go.Proofs.YtbdkbdafhlcilaaGreat
open Go Go.RowKit
set_option maxRecDepth 100000
set_option maxHeartbeats 20000000
instance W9t : ∀ (p0 : (List Q3)) (p1 : Q2) (p2 : Q0), Ct (Q5z p0 p1 p2) fun res => Z0 Tryz.prog 0o00403 [(.slice 2 (List.map W3 p0)), (.agg (X0 p1)), (.agg (Q1 p2))] (fun d => d = .tup [(.slice 2 (List.map X0 res.1)), (eB res.2)]) :=
 au Tryz.func259 Q5z.eq_1 (.o (.o (.o (.i .z (.i .z (.i (.g [4, 5] [0, 8] [] [] (.i (.o (.i (.i (.i (.d [0, 1, 2, 3, 4, 5, 6, 7, 8, 9, 10, 11, 12, 13, 14, 15, 16, 17, 18, 19, 20, 21, 22, 23, 24, 25] [0, 1] [] .z) (.d [0, 1, 2, 3, 4, 5, 6, 7, 8, 9, 10, 11, 12, 13, 14, 15, 16, 17, 18, 19, 20, 21, 22, 23, 24, 25] [0, 1] [] .z)) (.d [0, 1, 2, 3, 4, 5, 6, 7, 8, 9, 10, 11, 12, 13, 14, 15, 16, 17, 18, 19, 20, 21, 22, 23, 24, 25] [0, 1] [] .z)) (.d [0, 1, 2, 3, 4, 5, 6, 7, 8, 9, 10, 11, 12, 13, 14, 15, 16, 17, 18, 19, 20, 21, 22, 23, 24, 25] [0, 1] [] .z))) (.d [0, 1, 2, 3, 4, 5, 6, 7, 8, 9, 10, 11, 12, 13, 14, 15, 16, 17, 18, 19, 20, 21, 22, 23, 24, 25] [0] [] .z))) (.i (.g [0, 4, 5] [0, 8] [] [] (.o (.o (.d [0, 1, 3, 4, 2, 5, 6] [0, 1] [] .z)))) (.i (.g [4, 5] [0, 8] [] [] (.o (.dz [0, 1, 3, 4, 2, 5, 6] [0, 1] [1048649] [] .z))) (.i (.g [4, 5] [0, 8] [] [] (.o (.i (.o (.dz [0, 2, 3, 4, 5, 6, 7, 8, 1, 9, 10] [0, 1] [1048655] [] .z)) (.dz [0, 2, 3, 4, 5, 6, 7, 8, 1, 9, 10] [0, 1] [1048655] [] .z)))) .z)))))))))
end Go.Proofs.YtbdkbdafhlcilaaGreat
set_option linter.unusedSimpArgs false
set_option linter.unusedVariables false
namespace Go.Proofs.YtbdkbdafhlcilaaGreat
open Go Go.RowKit
set_option maxRecDepth 100000
set_option maxHeartbeats 20000000
instance W9u : ∀ (n : Nat) (p0 : Q0), Ct (Q4x n p0) fun res => Z0 Tryz.prog 0o00166 [(.agg (Q1 p0))] (fun d => d = .tup [(.slice 6 (List.map Q1 res.1)), (eB res.2)]) :=
 au Tryz.func118 Q4x.eq_1 .z
end Go.Proofs.YtbdkbdafhlcilaaGreat
set_option linter.unusedSimpArgs false
set_option linter.unusedVariables false
namespace Go.Proofs.YtbdkbdafhlcilaaGreat
open Go Go.RowKit
set_option maxRecDepth 100000
set_option maxHeartbeats 20000000
instance W3g : ∀ (n : Nat) (p0 : (List Q3)), Ct (Q3v n p0) fun res => Z0 Tryz.prog 0o00201 [(.slice 2 (List.map W3 p0))] (fun d => d = .cptr (List.map cI res)) :=
 au Tryz.func129 Q3v.eq_1 (.o (.o (.w [3] [16] [0, 3, 4] [16] (fun (s26777 : (List Int) × Bool) => [(4, eB s26777.2)]) (fun s26777 => [(16, some ⟨16, [(List.map cI s26777.1)], 0, 0x00fe⟩)]) (fun s26777 => .i (.ls 0 (.f [0, 3, 4] [0] [0, 3, 4, 15, 16] [0] (fun (k30356 : Nat) (s30352 : (List Int) × Bool) => [(4, eB s30352.2), (16, eI (k30356 : Int))]) (fun k30356 s30352 => [(0, some ⟨16, [(List.map cI s30352.1)], 0, 0x00fe⟩)]) (fun k30356 s30352 => .o (.w [0, 3, 4, 15, 16] [0] [0, 3, 4, 5, 6, 15, 16] [0] (fun (s31838 : (List Int) × Bool × Int) => [(4, eB s31838.2.1), (6, eI s31838.2.2)]) (fun s31838 => [(0, some ⟨16, [(List.map cI s31838.1)], 0, 0x00fe⟩)]) (fun s31838 => .i (.o (.ls 28 (.f [0, 3, 4, 5, 6, 15, 16] [0] [0, 3, 4, 5, 6, 7, 15, 16, 28, 29, 30] [0, 41] (fun (k32093 : Nat) (s32089 : (List Int) × Bool) => [(4, eB s32089.2), (30, eI (k32093 : Int))]) (fun k32093 s32089 => [(0, some ⟨16, [(List.map cI s32089.1)], 0, 0x00fe⟩)]) (fun k32093 s32089 => .o (.j 14 0 [0, 3, 4, 5, 6, 7, 15, 16, 28, 29, 30] [0, 1] (fun (s32117 : (List Int) × Bool) => [(4, eB s32117.2)]) (fun s32117 => [(0, some ⟨16, [(List.map cI s32117.1)], 0, 0x00fe⟩)]) .z (fun _ => .z))) (fun s32097 => .z)))) .z) (fun s31846 => .z))) (fun s30360 => .z))) .z) (fun s26785 => .z))))
end Go.Proofs.YtbdkbdafhlcilaaGreat
set_option linter.unusedSimpArgs false
set_option linter.unusedVariables false
namespace Go.Proofs.YtbdkbdafhlcilaaGreat
open Go Go.RowKit
set_option maxRecDepth 100000
set_option maxHeartbeats 20000000
instance W7n : ∀ (n : Nat) (p0 : Int) (p1 : Q75), Ct (Q9s n p0 p1) fun res => Z0 Tryz.prog 0o00357 [(eI p0), (.agg (Q68 p1))] (fun d => d = (eB res)) :=
 au Tryz.func239 Q9s.eq_1 (.o (.o (.o (.o (.i .z (.i .z (.i .z (.i .z (.ls 12 (.f [] [] [0, 3, 5] [0] (fun (k82 : Nat) (s78 : Unit) => [(5, eI (k82 : Int))]) (fun k82 s78 => []) (fun k82 s78 => .z) (fun s86 => .z)))))))))))
end Go.Proofs.YtbdkbdafhlcilaaGreat
set_option linter.unusedSimpArgs false
set_option linter.unusedVariables false
namespace Go.Proofs.YtbdkbdafhlcilaaGreat
open Go Go.RowKit
set_option maxRecDepth 100000
set_option maxHeartbeats 20000000
instance W57 : ∀ (n : Nat) (p0 : (List Q3)) (p1 : Q2) (p2 : Q0), Ct (Q3j n p0 p1 p2) fun res => Z0 Tryz.prog 0o00363 [(.slice 2 (List.map W3 p0)), (.agg (X0 p1)), (.agg (Q1 p2))] (fun d => d = (.slice 2 (List.map X0 res))) :=
 au Tryz.func243 Q3j.eq_1 (.o (.o (.o (.o (.i .z (.w [7] [48] [4, 5, 7, 8] [0, 8, 48] (fun (s52 : (List Q2) × Int) => [(7, .sl 2 48 (s52.1).length), (8, eI s52.2)]) (fun s52 => [(48, some ⟨2, (List.map X0 s52.1), 0, 0x0019⟩)]) (fun s52 => .z) (fun s60 => .z)))))))
end Go.Proofs.YtbdkbdafhlcilaaGreat
set_option linter.unusedSimpArgs false
set_option linter.unusedVariables false
namespace Go.Proofs.YtbdkbdafhlcilaaGreat
open Go Go.RowKit
set_option maxRecDepth 100000
set_option maxHeartbeats 20000000
instance W32 : ∀ (p0 : (List Q3)) (p1 : (List Y2)) (p2 : Int) (p3 : Z1), Ct (Q2m p0 p1 p2 p3) fun res => Z0 Tryz.prog 0o00330 [(.slice 2 (List.map W3 p0)), (.slice 3 (List.map Q1n p1)), (eI p2), (.agg (J4 p3))] (fun d => d = (.slice 3 (List.map Q1n res))) :=
 au Tryz.func216 Q2m.eq_1 (.o (.o (.o (.o (.o (.o (.j 2 0 [1, 2, 9] [48] (fun (s38 : (List Y2)) => [(9, .sl 3 48 (s38).length)]) (fun s38 => [(48, some ⟨3, (List.map Q1n s38), 0, 0x00c4⟩)]) (.i (.g [0, 1, 2, 7, 9] [0, 48] [] [] (.o (.o (.d [0, 1, 2, 3, 4, 5, 6, 7, 8, 9] [0] [] (.ls 28 (.f [1, 2, 9] [1] [1, 2, 9, 10, 11] [1] (fun (k67 : Nat) (s63 : (List Y2)) => [(9, .sl 3 1 (s63).length), (11, eI (k67 : Int))]) (fun k67 s63 => [(1, some ⟨3, (List.map Q1n s63), 0, 0x00c4⟩)]) (fun k67 s63 => .o (.g [1, 2, 9, 10, 11] [0] [] [] (.o (.o (.d [0, 1, 2, 3, 4, 5, 6, 8, 9, 10, 11, 7, 12, 13, 14, 15] [] [] .z))))) (fun s71 => .z))))))) .z) (fun _ => .z))))))))
end Go.Proofs.YtbdkbdafhlcilaaGreat
