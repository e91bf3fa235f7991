import Derived.Test.YtbdkbdafhlcilaaGreatBJMir
import Derived.Test.YtbdkbdafhlcilaaGreatBJAuto
import Derived.Test.YtbdkbdafhlcilaaGreatBJC5a0
import Derived.Test.YtbdkbdafhlcilaaGreatBJC0d0
import Derived.Test.YtbdkbdafhlcilaaGreatBJC0a0
import Derived.Test.YtbdkbdafhlcilaaGreatBJC1b0
import Derived.Test.YtbdkbdafhlcilaaGreatBJC1d0
import Derived.Test.YtbdkbdafhlcilaaGreatBJC3b0
import Derived.Test.YtbdkbdafhlcilaaGreatBJC3d0
import Derived.Test.YtbdkbdafhlcilaaGreatBJC1a0
import Derived.Test.YtbdkbdafhlcilaaGreatBJC2b0
import Derived.Test.YtbdkbdafhlcilaaGreatBJC5c0
import Derived.Test.YtbdkbdafhlcilaaGreatBJC3c0
import Derived.Test.YtbdkbdafhlcilaaGreatBJC0c0
set_option linter.unusedSimpArgs false
set_option linter.unusedVariables false
set_option linter.unusedSimpArgs false
set_option linter.unusedVariables false
namespace Go.Proofs.YtbdkbdafhlcilaaGreat
open Go Go.RowKit
set_option maxRecDepth 100000
set_option maxHeartbeats 20000000
instance W4u : ∀ (n : Nat) (p0 : Z7), Ct (Q59 n p0) fun res => J8 Tryz.prog 0o00263 [⟨2, [(Y0 p0)], 0, 0x009a⟩] [.ptr 2 0 0 0] (fun H d => H = [some ⟨2, [(Y0 res.2)], 0, 0x009a⟩] ∧ d = (.slice 2 (List.map X9 res.1))) :=
 au Tryz.func179 Q59.eq_1 .z
end Go.Proofs.YtbdkbdafhlcilaaGreat
set_option linter.unusedSimpArgs false
set_option linter.unusedVariables false
namespace Go.Proofs.YtbdkbdafhlcilaaGreat
open Go Go.RowKit
set_option maxRecDepth 100000
set_option maxHeartbeats 20000000
instance W4r : ∀ (n : Nat) (p0 : Z7), Ct (Q3f n p0) fun res => J8 Tryz.prog 0o00144 [⟨2, [(Y0 p0)], 0, 0x009a⟩] [.ptr 2 0 0 0] (fun H d => H = [some ⟨2, [(Y0 res.2.2.2)], 0, 0x009a⟩] ∧ d = .tup [(.slice 2 (List.map X9 res.1)), (.agg (X7 res.2.1)), (.agg (X0 res.2.2.1))]) :=
 au Tryz.func100 Q3f.eq_1 (.o (.o (.o (.o (.o (.o (.j 4 0 [0, 3, 4, 5, 6, 7] [0, 9, 17, 137] (fun (s7 : Int × Int) => []) (fun s7 => [(137, some ⟨2, [[(eI s7.1), (eI s7.2)]], 0, 0x0019⟩)]) .z (fun _ => .g [0, 3, 4, 5, 6, 7] [0, 1, 2, 3] [] [] (.o (.o (.d [0, 1, 2, 3, 4, 5, 6, 7, 8, 9, 10, 11, 12] [3] [] .z)))))))))))
end Go.Proofs.YtbdkbdafhlcilaaGreat
set_option linter.unusedSimpArgs false
set_option linter.unusedVariables false
namespace Go.Proofs.YtbdkbdafhlcilaaGreat
open Go Go.RowKit
set_option maxRecDepth 100000
set_option maxHeartbeats 20000000
instance W6w : ∀ (n : Nat) (p0 : Z7) (p1 : (List Q3)) (p2 : Q5), Ct (Q65 n p0 p1 p2) fun res => J8 Tryz.prog 0o00116 [⟨2, [(Y0 p0)], 0, 0x009a⟩] [.ptr 2 0 0 0, (.slice 2 (List.map X9 p1)), (.agg (X7 p2))] (fun H d => H = [some ⟨2, [(Y0 res.2)], 0, 0x009a⟩] ∧ d = (.agg (Q8 res.1))) :=
 au Tryz.func78 Q65.eq_1 (.o (.o (.o (.o (.g [0, 1, 5, 6] [0, 1, 9] [] [] (.o (.o (.o (.dz [0, 1, 2, 3, 4, 5, 6, 7, 8, 9, 10, 11, 12, 13, 14] [1] [1048583] [] .z)))))))))
end Go.Proofs.YtbdkbdafhlcilaaGreat
set_option linter.unusedSimpArgs false
set_option linter.unusedVariables false
namespace Go.Proofs.YtbdkbdafhlcilaaGreat
open Go Go.RowKit
set_option maxRecDepth 100000
set_option maxHeartbeats 20000000
instance W2j : ∀ (n : Nat) (p0 : Z7) (p1 : (List Q3)) (p2 : Q5), Ct (Q4m n p0 p1 p2) fun res => J8 Tryz.prog 0o00264 [⟨2, [(Y0 p0)], 0, 0x009a⟩] [.ptr 2 0 0 0, (.slice 2 (List.map X9 p1)), (.agg (X7 p2))] (fun H d => H = [some ⟨2, [(Y0 res.2)], 0, 0x009a⟩] ∧ d = (.agg (V0 res.1))) :=
 au Tryz.func180 Q4m.eq_1 (.o (.o (.o (.o (.b fun (r1 : (Q0 × Z7)) => .o (.ll 106 (.f [6, 7] [0, 9, 57] [0, 6, 7, 8, 9] [0, 9, 57, 106] (fun (k195 : Nat) (s191 : Z7 × Int × Int × Int) => [(9, eI (k195 : Int))]) (fun k195 s191 => [(0, some ⟨2, [(Y0 s191.1)], 0, 0x009a⟩), (57, some ⟨9, [[(eI r1.1.op), (eI r1.1.ctor), (eI r1.1.n), (eI r1.1.m), (eI r1.1.var), (.slice 6 (List.map Q8 r1.1.kids)), (eI s191.2.1), (eI s191.2.2.1), (eI s191.2.2.2)]], 0, 0x0086⟩)]) (fun k195 s191 => .o (.j 6 0 [0, 6, 7, 8, 9] [0, 1, 2, 3] (fun (s212 : Z7 × Int × Int × Int) => []) (fun s212 => [(0, some ⟨2, [(Y0 s212.1)], 0, 0x009a⟩), (2, some ⟨9, [[(eI r1.1.op), (eI r1.1.ctor), (eI r1.1.n), (eI r1.1.m), (eI r1.1.var), (.slice 6 (List.map Q8 r1.1.kids)), (eI s212.2.1), (eI s212.2.2.1), (eI s212.2.2.2)]], 0, 0x0086⟩)]) (.i (.o (.i (.g [0, 6, 7, 8, 9] [0, 1, 2, 3] [] [] (.o (.o (.d [0, 3, 4, 5, 6, 7, 8, 1, 2, 9, 10, 11, 12] [3] [] .z)))) .z)) .z) (fun _ => .z))) (fun s199 => .z))))))))
end Go.Proofs.YtbdkbdafhlcilaaGreat
set_option linter.unusedSimpArgs false
set_option linter.unusedVariables false
namespace Go.Proofs.YtbdkbdafhlcilaaGreat
open Go Go.RowKit
set_option maxRecDepth 100000
set_option maxHeartbeats 20000000
instance W6u : ∀ (n : Nat) (p0 : Z7) (p1 : (List Q3)) (p2 : Q5), Ct (Q64 n p0 p1 p2) fun res => J8 Tryz.prog 0o00145 [⟨2, [(Y0 p0)], 0, 0x009a⟩] [.ptr 2 0 0 0, (.slice 2 (List.map X9 p1)), (.agg (X7 p2))] (fun H d => H = [some ⟨2, [(Y0 res.2)], 0, 0x009a⟩, some ⟨9, List.map V0 res.1, 0, 0x0086⟩] ∧ d = .sl 9 1 res.1.length) :=
 au Tryz.func101 Q64.eq_1 (.o (.o (.o (.o (.o (.w [7] [0, 17] [0, 1, 5, 7, 8] [0, 1, 17] (fun (s50 : Z7 × (List Q6) × Int) => [(7, .sl 9 17 (s50.2.1).length), (8, eI s50.2.2)]) (fun s50 => [(0, some ⟨2, [(Y0 s50.1)], 0, 0x009a⟩), (17, some ⟨9, (List.map V0 s50.2.1), 0, 0x0086⟩)]) (fun s50 => .z) (fun s58 => .z)))))))
end Go.Proofs.YtbdkbdafhlcilaaGreat
set_option linter.unusedSimpArgs false
set_option linter.unusedVariables false
namespace Go.Proofs.YtbdkbdafhlcilaaGreat
open Go Go.RowKit
set_option maxRecDepth 100000
set_option maxHeartbeats 20000000
instance W4k : ∀ (n : Nat) (p0 : Z7), Ct (Q25 n p0) fun res => J8 Tryz.prog 0o00055 [⟨2, [(Y0 p0)], 0, 0x009a⟩] [.ptr 2 0 0 0] (fun H d => H = [some ⟨2, [(Y0 res.2.2.2.2)], 0, 0x009a⟩, some ⟨9, List.map V0 res.2.2.1, 0, 0x0086⟩] ∧ d = .tup [(.slice 2 (List.map X9 res.1)), (.agg (X7 res.2.1)), .sl 9 1 res.2.2.1.length, (.agg (X0 res.2.2.2.1))]) :=
 au Tryz.func45 Q25.eq_1 (.o (.o (.o (.g [0, 3, 5, 6, 7, 8] [0, 9, 25, 81, 89] [] [] (.o (.d [0, 1, 2, 3, 4, 6, 5, 7, 8, 9, 10] [3, 4] [] .z))))))
end Go.Proofs.YtbdkbdafhlcilaaGreat
set_option linter.unusedSimpArgs false
set_option linter.unusedVariables false
namespace Go.Proofs.YtbdkbdafhlcilaaGreat
open Go Go.RowKit
set_option maxRecDepth 100000
set_option maxHeartbeats 20000000
instance Z7w : ∀ (n : Nat) (p0 : (List Int)), Ct (Q0q n p0) fun res => J8 Tryz.prog 0o00215 [] [(.slice 1 (List.map (rK .u8) p0))] (fun H d => H = [some ⟨9, List.map V0 res.2.2, 0, 0x0086⟩] ∧ d = .tup [(.slice 2 (List.map X9 res.1)), (.agg (X7 res.2.1)), .sl 9 0 res.2.2.length]) :=
 au Tryz.func141 Q0q.eq_1 (.o (.o (.o (.o (.j 3 0 [3, 5, 6, 7, 8] [8, 33, 104, 57] (fun (s15 : Z7 × (List Q6)) => [(8, .sl 9 57 (s15.2).length)]) (fun s15 => [(33, some ⟨2, [(Y0 s15.1)], 0, 0x009a⟩), (57, some ⟨9, (List.map V0 s15.2), 0, 0x0086⟩)]) .z (fun _ => .g [3, 5, 6, 7, 8] [0, 1, 2, 3] [] [] (.o (.d [0, 1, 2, 3, 4, 5, 6, 7] [2] [] .z))))))))
end Go.Proofs.YtbdkbdafhlcilaaGreat
set_option linter.unusedSimpArgs false
set_option linter.unusedVariables false
namespace Go.Proofs.YtbdkbdafhlcilaaGreat
open Go Go.RowKit
set_option maxRecDepth 100000
set_option maxHeartbeats 20000000
instance Z6r : ∀ (n : Nat) (p0 : (List Int)), Ct (Q03 n p0) fun res => Z1 Tryz.prog 0o00103 [(.slice 1 (List.map (rK .u8) p0))] (fun d => d = .tup [(.slice 2 (List.map X9 res.1)), (.agg (X7 res.2.1)), (.slice 9 (List.map V0 res.2.2))]) :=
 au Tryz.func67 Q03.eq_1 (.o (.o (.o (.o (.j 3 0 [3, 6, 7, 8] [8, 96, 57] (fun (s20 : (List Q6)) => [(8, .sl 9 57 (s20).length)]) (fun s20 => [(57, some ⟨9, (List.map V0 s20), 0, 0x0086⟩)]) .z (fun _ => .g [3, 6, 7, 8] [0, 1, 2] [] [] (.d [0, 1, 2, 3, 4, 5] [1] [] .z)))))))
end Go.Proofs.YtbdkbdafhlcilaaGreat
