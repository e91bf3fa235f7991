import Derived.Test.YtbdkbdafhlcilaaGreatCJMir
import Derived.Test.YtbdkbdafhlcilaaGreatCJAuto
import Derived.Test.YtbdkbdafhlcilaaGreatCJC5a0
import Derived.Test.YtbdkbdafhlcilaaGreatCJC0c0
import Derived.Test.YtbdkbdafhlcilaaGreatCJC0d0
import Derived.Test.YtbdkbdafhlcilaaGreatCJC1d0
import Derived.Test.YtbdkbdafhlcilaaGreatCJC1c0
import Derived.Test.YtbdkbdafhlcilaaGreatCJC3a0
import Derived.Test.YtbdkbdafhlcilaaGreatCJC3b0
import Derived.Test.YtbdkbdafhlcilaaGreatCJC2d0
import Derived.Test.YtbdkbdafhlcilaaGreatCJC5b0
import Derived.Test.YtbdkbdafhlcilaaGreatCJC3c0
set_option linter.unusedSimpArgs false
set_option linter.unusedVariables false
set_option linter.unusedSimpArgs false
set_option linter.unusedVariables false
namespace Go.Proofs.YtbdkbdafhlcilaaGreat
open Go Go.RowKit
set_option maxRecDepth 100000
set_option maxHeartbeats 20000000
instance W5i : ∀ (n : Nat) (p0 : Z0), Ct (Q5z n p0) fun res => Q17 Tryz.prog 0o00263 [⟨2, [(V4 p0)], 0, 0x009a⟩] [.ptr 2 0 0 0] (fun H d => H = [some ⟨2, [(V4 res.2)], 0, 0x009a⟩] ∧ d = (.slice 2 (List.map X2 res.1))) :=
 au Tryz.func179 Q5z.eq_1 .z
end Go.Proofs.YtbdkbdafhlcilaaGreat
set_option linter.unusedSimpArgs false
set_option linter.unusedVariables false
namespace Go.Proofs.YtbdkbdafhlcilaaGreat
open Go Go.RowKit
set_option maxRecDepth 100000
set_option maxHeartbeats 20000000
instance W5g : ∀ (n : Nat) (p0 : Z0), Ct (Q3q n p0) fun res => Q17 Tryz.prog 0o00144 [⟨2, [(V4 p0)], 0, 0x009a⟩] [.ptr 2 0 0 0] (fun H d => H = [some ⟨2, [(V4 res.2.2.2)], 0, 0x009a⟩] ∧ d = .tup [(.slice 2 (List.map X2 res.1)), (.agg (Z6 res.2.1)), (.agg (W3 res.2.2.1))]) :=
 au Tryz.func100 Q3q.eq_1 (.o (.o (.o (.o (.o (.o (.j 4 0 [0, 3, 4, 5, 6, 7] [0, 9, 17, 137] (fun (s7 : Int × Int) => []) (fun s7 => [(137, some ⟨2, [[(eI s7.1), (eI s7.2)]], 0, 0x0019⟩)]) .z (fun _ => .g [0, 3, 4, 5, 6, 7] [0, 1, 2, 3] [] [] (.o (.o (.d [0, 1, 2, 3, 4, 5, 6, 7, 8, 9, 10, 11, 12] [3] [] .z)))))))))))
end Go.Proofs.YtbdkbdafhlcilaaGreat
set_option linter.unusedSimpArgs false
set_option linter.unusedVariables false
namespace Go.Proofs.YtbdkbdafhlcilaaGreat
open Go Go.RowKit
set_option maxRecDepth 100000
set_option maxHeartbeats 20000000
instance W7c : ∀ (n : Nat) (p0 : Z0) (p1 : (List Q3)) (p2 : Q2), Ct (Q38 n p0 p1 p2) fun res => Q17 Tryz.prog 0o00116 [⟨2, [(V4 p0)], 0, 0x009a⟩] [.ptr 2 0 0 0, (.slice 2 (List.map X2 p1)), (.agg (Z6 p2))] (fun H d => H = [some ⟨2, [(V4 res.2)], 0, 0x009a⟩] ∧ d = (.agg (Q1 res.1))) :=
 au Tryz.func78 Q38.eq_1 (.o (.o (.o (.o (.g [0, 1, 5, 6] [0, 1, 9] [] [] (.o (.o (.o (.dz [0, 1, 2, 3, 4, 5, 6, 7, 8, 9, 10, 11, 12, 13, 14] [1] [1048583] [] .z)))))))))
end Go.Proofs.YtbdkbdafhlcilaaGreat
set_option linter.unusedSimpArgs false
set_option linter.unusedVariables false
namespace Go.Proofs.YtbdkbdafhlcilaaGreat
open Go Go.RowKit
set_option maxRecDepth 100000
set_option maxHeartbeats 20000000
instance W3c : ∀ (n : Nat) (p0 : Z0) (p1 : (List Q3)) (p2 : Q2), Ct (Q2r n p0 p1 p2) fun res => Q17 Tryz.prog 0o00264 [⟨2, [(V4 p0)], 0, 0x009a⟩] [.ptr 2 0 0 0, (.slice 2 (List.map X2 p1)), (.agg (Z6 p2))] (fun H d => H = [some ⟨2, [(V4 res.2)], 0, 0x009a⟩] ∧ d = (.agg (X5 res.1))) :=
 au Tryz.func180 Q2r.eq_1 (.o (.o (.o (.o (.b fun (r1 : (Q0 × Z0)) => .o (.ll 106 (.f [6, 7] [0, 9, 57] [0, 6, 7, 8, 9] [0, 9, 57, 106] (fun (k195 : Nat) (s191 : Z0 × Int × Int × Int) => [(9, eI (k195 : Int))]) (fun k195 s191 => [(0, some ⟨2, [(V4 s191.1)], 0, 0x009a⟩), (57, some ⟨9, [[(eI r1.1.op), (eI r1.1.ctor), (eI r1.1.n), (eI r1.1.m), (eI r1.1.var), (.slice 6 (List.map Q1 r1.1.kids)), (eI s191.2.1), (eI s191.2.2.1), (eI s191.2.2.2)]], 0, 0x0086⟩)]) (fun k195 s191 => .o (.j 6 0 [0, 6, 7, 8, 9] [0, 1, 2, 3] (fun (s212 : Z0 × Int × Int × Int) => []) (fun s212 => [(0, some ⟨2, [(V4 s212.1)], 0, 0x009a⟩), (2, some ⟨9, [[(eI r1.1.op), (eI r1.1.ctor), (eI r1.1.n), (eI r1.1.m), (eI r1.1.var), (.slice 6 (List.map Q1 r1.1.kids)), (eI s212.2.1), (eI s212.2.2.1), (eI s212.2.2.2)]], 0, 0x0086⟩)]) (.i (.o (.i (.g [0, 6, 7, 8, 9] [0, 1, 2, 3] [] [] (.o (.o (.d [0, 3, 4, 5, 6, 7, 8, 1, 2, 9, 10, 11, 12] [3] [] .z)))) .z)) .z) (fun _ => .z))) (fun s199 => .z))))))))
end Go.Proofs.YtbdkbdafhlcilaaGreat
set_option linter.unusedSimpArgs false
set_option linter.unusedVariables false
namespace Go.Proofs.YtbdkbdafhlcilaaGreat
open Go Go.RowKit
set_option maxRecDepth 100000
set_option maxHeartbeats 20000000
instance W79 : ∀ (n : Nat) (p0 : Z0) (p1 : (List Q3)) (p2 : Q2), Ct (Q4f n p0 p1 p2) fun res => Q17 Tryz.prog 0o00145 [⟨2, [(V4 p0)], 0, 0x009a⟩] [.ptr 2 0 0 0, (.slice 2 (List.map X2 p1)), (.agg (Z6 p2))] (fun H d => H = [some ⟨2, [(V4 res.2)], 0, 0x009a⟩, some ⟨9, List.map X5 res.1, 0, 0x0086⟩] ∧ d = .sl 9 1 res.1.length) :=
 au Tryz.func101 Q4f.eq_1 (.o (.o (.o (.o (.o (.w [7] [0, 17] [0, 1, 5, 7, 8] [0, 1, 17] (fun (s50 : Z0 × (List Q5) × Int) => [(7, .sl 9 17 (s50.2.1).length), (8, eI s50.2.2)]) (fun s50 => [(0, some ⟨2, [(V4 s50.1)], 0, 0x009a⟩), (17, some ⟨9, (List.map X5 s50.2.1), 0, 0x0086⟩)]) (fun s50 => .z) (fun s58 => .z)))))))
end Go.Proofs.YtbdkbdafhlcilaaGreat
set_option linter.unusedSimpArgs false
set_option linter.unusedVariables false
namespace Go.Proofs.YtbdkbdafhlcilaaGreat
open Go Go.RowKit
set_option maxRecDepth 100000
set_option maxHeartbeats 20000000
instance W58 : ∀ (n : Nat) (p0 : Z0), Ct (Q1a n p0) fun res => Q17 Tryz.prog 0o00055 [⟨2, [(V4 p0)], 0, 0x009a⟩] [.ptr 2 0 0 0] (fun H d => H = [some ⟨2, [(V4 res.2.2.2.2)], 0, 0x009a⟩, some ⟨9, List.map X5 res.2.2.1, 0, 0x0086⟩] ∧ d = .tup [(.slice 2 (List.map X2 res.1)), (.agg (Z6 res.2.1)), .sl 9 1 res.2.2.1.length, (.agg (W3 res.2.2.2.1))]) :=
 au Tryz.func45 Q1a.eq_1 (.o (.o (.o (.g [0, 3, 5, 6, 7, 8] [0, 9, 25, 81, 89] [] [] (.o (.d [0, 1, 2, 3, 4, 6, 5, 7, 8, 9, 10] [3, 4] [] .z))))))
end Go.Proofs.YtbdkbdafhlcilaaGreat
