import Derived.Test.YtbdkbdafhlcilaaGreatAJMir
import Derived.Test.YtbdkbdafhlcilaaGreatAJAuto
import Derived.Test.YtbdkbdafhlcilaaGreatAJC5a0
import Derived.Test.YtbdkbdafhlcilaaGreatAJC0c0
import Derived.Test.YtbdkbdafhlcilaaGreatAJC0a0
import Derived.Test.YtbdkbdafhlcilaaGreatAJC1c0
import Derived.Test.YtbdkbdafhlcilaaGreatAJC3b0
import Derived.Test.YtbdkbdafhlcilaaGreatAJC3d0
import Derived.Test.YtbdkbdafhlcilaaGreatAJC2c0
import Derived.Test.YtbdkbdafhlcilaaGreatAJC5c0
import Derived.Test.YtbdkbdafhlcilaaGreatAJC3c0
import Derived.Test.YtbdkbdafhlcilaaGreatAJC0b0
set_option linter.unusedSimpArgs false
set_option linter.unusedVariables false
set_option linter.unusedSimpArgs false
set_option linter.unusedVariables false
namespace Go.Proofs.YtbdkbdafhlcilaaGreat
open Go Go.RowKit
set_option maxRecDepth 100000
set_option maxHeartbeats 20000000
instance W5d : ∀ (n : Nat) (p0 : Z8), Ct (Q5l n p0) fun res => J1 Tryz.prog 0o00263 [⟨2, [(Y4 p0)], 0, 0x009a⟩] [.ptr 2 0 0 0] (fun H d => H = [some ⟨2, [(Y4 res.2)], 0, 0x009a⟩] ∧ d = (.slice 2 (List.map W3 res.1))) :=
 au Tryz.func179 Q5l.eq_1 .z
end Go.Proofs.YtbdkbdafhlcilaaGreat
set_option linter.unusedSimpArgs false
set_option linter.unusedVariables false
namespace Go.Proofs.YtbdkbdafhlcilaaGreat
open Go Go.RowKit
set_option maxRecDepth 100000
set_option maxHeartbeats 20000000
instance W5c : ∀ (n : Nat) (p0 : Z8), Ct (Q5k n p0) fun res => J1 Tryz.prog 0o00144 [⟨2, [(Y4 p0)], 0, 0x009a⟩] [.ptr 2 0 0 0] (fun H d => H = [some ⟨2, [(Y4 res.2.2.2)], 0, 0x009a⟩] ∧ d = .tup [(.slice 2 (List.map W3 res.1)), (.agg (X0 res.2.1)), (.agg (Q4m res.2.2.1))]) :=
 au Tryz.func100 Q5k.eq_1 (.o (.o (.o (.o (.o (.o (.j 4 0 [0, 3, 4, 5, 6, 7] [0, 9, 17, 137] (fun (s7 : Int × Int) => []) (fun s7 => [(137, some ⟨2, [[(eI s7.1), (eI s7.2)]], 0, 0x0019⟩)]) .z (fun _ => .g [0, 3, 4, 5, 6, 7] [0, 1, 2, 3] [] [] (.o (.o (.d [0, 1, 2, 3, 4, 5, 6, 7, 8, 9, 10, 11, 12] [3] [] .z)))))))))))
end Go.Proofs.YtbdkbdafhlcilaaGreat
set_option linter.unusedSimpArgs false
set_option linter.unusedVariables false
namespace Go.Proofs.YtbdkbdafhlcilaaGreat
open Go Go.RowKit
set_option maxRecDepth 100000
set_option maxHeartbeats 20000000
instance W7a : ∀ (n : Nat) (p0 : Z8) (p1 : (List Q3)) (p2 : Q2), Ct (Q6c n p0 p1 p2) fun res => J1 Tryz.prog 0o00116 [⟨2, [(Y4 p0)], 0, 0x009a⟩] [.ptr 2 0 0 0, (.slice 2 (List.map W3 p1)), (.agg (X0 p2))] (fun H d => H = [some ⟨2, [(Y4 res.2)], 0, 0x009a⟩] ∧ d = (.agg (Q1 res.1))) :=
 au Tryz.func78 Q6c.eq_1 (.o (.o (.o (.o (.g [0, 1, 5, 6] [0, 1, 9] [] [] (.o (.o (.o (.dz [0, 1, 2, 3, 4, 5, 6, 7, 8, 9, 10, 11, 12, 13, 14] [1] [1048583] [] .z)))))))))
end Go.Proofs.YtbdkbdafhlcilaaGreat
set_option linter.unusedSimpArgs false
set_option linter.unusedVariables false
namespace Go.Proofs.YtbdkbdafhlcilaaGreat
open Go Go.RowKit
set_option maxRecDepth 100000
set_option maxHeartbeats 20000000
instance W35 : ∀ (n : Nat) (p0 : Z8) (p1 : (List Q3)) (p2 : Q2), Ct (Q4v n p0 p1 p2) fun res => J1 Tryz.prog 0o00264 [⟨2, [(Y4 p0)], 0, 0x009a⟩] [.ptr 2 0 0 0, (.slice 2 (List.map W3 p1)), (.agg (X0 p2))] (fun H d => H = [some ⟨2, [(Y4 res.2)], 0, 0x009a⟩] ∧ d = (.agg (W6 res.1))) :=
 au Tryz.func180 Q4v.eq_1 (.o (.o (.o (.o (.b fun (r1 : (Q0 × Z8)) => .o (.ll 106 (.f [6, 7] [0, 9, 57] [0, 6, 7, 8, 9] [0, 9, 57, 106] (fun (k195 : Nat) (s191 : Z8 × Int × Int × Int) => [(9, eI (k195 : Int))]) (fun k195 s191 => [(0, some ⟨2, [(Y4 s191.1)], 0, 0x009a⟩), (57, some ⟨9, [[(eI r1.1.op), (eI r1.1.ctor), (eI r1.1.n), (eI r1.1.m), (eI r1.1.var), (.slice 6 (List.map Q1 r1.1.kids)), (eI s191.2.1), (eI s191.2.2.1), (eI s191.2.2.2)]], 0, 0x0086⟩)]) (fun k195 s191 => .o (.j 6 0 [0, 6, 7, 8, 9] [0, 1, 2, 3] (fun (s212 : Z8 × Int × Int × Int) => []) (fun s212 => [(0, some ⟨2, [(Y4 s212.1)], 0, 0x009a⟩), (2, some ⟨9, [[(eI r1.1.op), (eI r1.1.ctor), (eI r1.1.n), (eI r1.1.m), (eI r1.1.var), (.slice 6 (List.map Q1 r1.1.kids)), (eI s212.2.1), (eI s212.2.2.1), (eI s212.2.2.2)]], 0, 0x0086⟩)]) (.i (.o (.i (.g [0, 6, 7, 8, 9] [0, 1, 2, 3] [] [] (.o (.o (.d [0, 3, 4, 5, 6, 7, 8, 1, 2, 9, 10, 11, 12] [3] [] .z)))) .z)) .z) (fun _ => .z))) (fun s199 => .z))))))))
end Go.Proofs.YtbdkbdafhlcilaaGreat
set_option linter.unusedSimpArgs false
set_option linter.unusedVariables false
namespace Go.Proofs.YtbdkbdafhlcilaaGreat
open Go Go.RowKit
set_option maxRecDepth 100000
set_option maxHeartbeats 20000000
instance W78 : ∀ (n : Nat) (p0 : Z8) (p1 : (List Q3)) (p2 : Q2), Ct (Q6b n p0 p1 p2) fun res => J1 Tryz.prog 0o00145 [⟨2, [(Y4 p0)], 0, 0x009a⟩] [.ptr 2 0 0 0, (.slice 2 (List.map W3 p1)), (.agg (X0 p2))] (fun H d => H = [some ⟨2, [(Y4 res.2)], 0, 0x009a⟩, some ⟨9, List.map W6 res.1, 0, 0x0086⟩] ∧ d = .sl 9 1 res.1.length) :=
 au Tryz.func101 Q6b.eq_1 (.o (.o (.o (.o (.o (.w [7] [0, 17] [0, 1, 5, 7, 8] [0, 1, 17] (fun (s50 : Z8 × (List Q6) × Int) => [(7, .sl 9 17 (s50.2.1).length), (8, eI s50.2.2)]) (fun s50 => [(0, some ⟨2, [(Y4 s50.1)], 0, 0x009a⟩), (17, some ⟨9, (List.map W6 s50.2.1), 0, 0x0086⟩)]) (fun s50 => .z) (fun s58 => .z)))))))
end Go.Proofs.YtbdkbdafhlcilaaGreat
set_option linter.unusedSimpArgs false
set_option linter.unusedVariables false
namespace Go.Proofs.YtbdkbdafhlcilaaGreat
open Go Go.RowKit
set_option maxRecDepth 100000
set_option maxHeartbeats 20000000
instance W55 : ∀ (n : Nat) (p0 : Z8), Ct (Q5j n p0) fun res => J1 Tryz.prog 0o00055 [⟨2, [(Y4 p0)], 0, 0x009a⟩] [.ptr 2 0 0 0] (fun H d => H = [some ⟨2, [(Y4 res.2.2.2.2)], 0, 0x009a⟩, some ⟨9, List.map W6 res.2.2.1, 0, 0x0086⟩] ∧ d = .tup [(.slice 2 (List.map W3 res.1)), (.agg (X0 res.2.1)), .sl 9 1 res.2.2.1.length, (.agg (Q4m res.2.2.2.1))]) :=
 au Tryz.func45 Q5j.eq_1 (.o (.o (.o (.g [0, 3, 5, 6, 7, 8] [0, 9, 25, 81, 89] [] [] (.o (.d [0, 1, 2, 3, 4, 6, 5, 7, 8, 9, 10] [3, 4] [] .z))))))
end Go.Proofs.YtbdkbdafhlcilaaGreat
set_option linter.unusedSimpArgs false
set_option linter.unusedVariables false
namespace Go.Proofs.YtbdkbdafhlcilaaGreat
open Go Go.RowKit
set_option maxRecDepth 100000
set_option maxHeartbeats 20000000
instance Z8o : ∀ (n : Nat) (p0 : (List Int)), Ct (Q0r n p0) fun res => J1 Tryz.prog 0o00215 [] [(.slice 1 (List.map (rK .u8) p0))] (fun H d => H = [some ⟨9, List.map W6 res.2.2, 0, 0x0086⟩] ∧ d = .tup [(.slice 2 (List.map W3 res.1)), (.agg (X0 res.2.1)), .sl 9 0 res.2.2.length]) :=
 au Tryz.func141 Q0r.eq_1 (.o (.o (.o (.o (.j 3 0 [3, 5, 6, 7, 8] [8, 33, 104, 57] (fun (s15 : Z8 × (List Q6)) => [(8, .sl 9 57 (s15.2).length)]) (fun s15 => [(33, some ⟨2, [(Y4 s15.1)], 0, 0x009a⟩), (57, some ⟨9, (List.map W6 s15.2), 0, 0x0086⟩)]) .z (fun _ => .g [3, 5, 6, 7, 8] [0, 1, 2, 3] [] [] (.o (.d [0, 1, 2, 3, 4, 5, 6, 7] [2] [] .z))))))))
end Go.Proofs.YtbdkbdafhlcilaaGreat
set_option linter.unusedSimpArgs false
set_option linter.unusedVariables false
namespace Go.Proofs.YtbdkbdafhlcilaaGreat
open Go Go.RowKit
set_option maxRecDepth 100000
set_option maxHeartbeats 20000000
instance Z7e : ∀ (n : Nat) (p0 : (List Int)), Ct (Q0g n p0) fun res => Z0 Tryz.prog 0o00103 [(.slice 1 (List.map (rK .u8) p0))] (fun d => d = .tup [(.slice 2 (List.map W3 res.1)), (.agg (X0 res.2.1)), (.slice 9 (List.map W6 res.2.2))]) :=
 au Tryz.func67 Q0g.eq_1 (.o (.o (.o (.o (.j 3 0 [3, 6, 7, 8] [8, 96, 57] (fun (s20 : (List Q6)) => [(8, .sl 9 57 (s20).length)]) (fun s20 => [(57, some ⟨9, (List.map W6 s20), 0, 0x0086⟩)]) .z (fun _ => .g [3, 6, 7, 8] [0, 1, 2] [] [] (.d [0, 1, 2, 3, 4, 5] [1] [] .z)))))))
end Go.Proofs.YtbdkbdafhlcilaaGreat
set_option linter.unusedSimpArgs false
set_option linter.unusedVariables false
namespace Go.Proofs.YtbdkbdafhlcilaaGreat
open Go Go.RowKit
set_option maxRecDepth 100000
set_option maxHeartbeats 20000000
instance W75 : ∀ (n : Nat) (p0 : (List Int)), Ct (Q7f n p0) fun res => Z0 Tryz.prog 0o00071 [(.slice 1 (List.map (rK .u8) p0))] (fun d => d = .tup [(.slice 2 (List.map W3 res.1)), (.agg (X0 res.2.1)), (.slice 9 (List.map W6 res.2.2.1)), (eI res.2.2.2)]) :=
 au Tryz.func57 Q7f.eq_1 (.o (.o (.o (.g [0, 3, 6, 7, 8] [8, 80] [] [] (.o (.o (.dz [0, 1, 2, 3, 4, 5, 6, 7, 8, 9, 10] [1] [1048596] [] .z)))))))
end Go.Proofs.YtbdkbdafhlcilaaGreat
set_option linter.unusedSimpArgs false
set_option linter.unusedVariables false
namespace Go.Proofs.YtbdkbdafhlcilaaGreat
open Go Go.RowKit
set_option maxRecDepth 100000
set_option maxHeartbeats 20000000
instance Z8y : ∀ (n : Nat) (p0 : (List Int)), Ct (Q09 n p0) fun res => Z0 Tryz.prog 0o00020 [(.slice 1 (List.map (rK .u8) p0))] (fun d => d = .tup [(.slice 2 (List.map W3 res.1)), (.agg (X0 res.2.1)), (.slice 9 (List.map W6 res.2.2.1)), (eI res.2.2.2)]) :=
 au Tryz.func16 Q09.eq_1 .z
end Go.Proofs.YtbdkbdafhlcilaaGreat
