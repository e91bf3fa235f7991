import Derived.Test.YtbdkbdafhlcilaaGreatBJMir
import Derived.Test.YtbdkbdafhlcilaaGreatBJAuto
import Derived.Test.YtbdkbdafhlcilaaGreatBJC0d0
import Derived.Test.YtbdkbdafhlcilaaGreatBJC0b0
import Derived.Test.YtbdkbdafhlcilaaGreatBJC0c0
import Derived.Test.YtbdkbdafhlcilaaGreatBJC0a0
set_option linter.unusedSimpArgs false
set_option linter.unusedVariables false
set_option linter.unusedSimpArgs false
set_option linter.unusedVariables false
namespace Go.Proofs.YtbdkbdafhlcilaaGreat
open Go Go.RowKit
set_option maxRecDepth 100000
set_option maxHeartbeats 20000000
instance Z5m : ∀ (p0 : (List Q6)) (p1 : (Q6 → Option Bool)) {p1_f : FuncId} {p1_c : List D} [p1_i : CF1 (fun a0 => (.agg (V0 a0))) (fun r => (eB r)) p1 p1_f p1_c], Ct (Q14 p0 p1) fun res => Z1 Tryz.prog 0o00121 [(.slice 9 (List.map V0 p0)), .clos p1_f p1_c] (fun d => d = (eB res)) :=
 au Tryz.func81 Q14.eq_1 .z
end Go.Proofs.YtbdkbdafhlcilaaGreat
set_option linter.unusedSimpArgs false
set_option linter.unusedVariables false
namespace Go.Proofs.YtbdkbdafhlcilaaGreat
open Go Go.RowKit
set_option maxRecDepth 100000
set_option maxHeartbeats 20000000
instance W7h : ∀ (p0 : (List Q3)) (p1 : Q5), Ct (Q6b p0 p1) fun res => Z1 Tryz.prog 0o00251 [(.slice 2 (List.map X9 p0)), (.agg (X7 p1))] (fun d => d = (eB res)) :=
 au Tryz.func169 Q6b.eq_1 .z
end Go.Proofs.YtbdkbdafhlcilaaGreat
set_option linter.unusedSimpArgs false
set_option linter.unusedVariables false
namespace Go.Proofs.YtbdkbdafhlcilaaGreat
open Go Go.RowKit
set_option maxRecDepth 100000
set_option maxHeartbeats 20000000
instance W2w : ∀ (p0 : (List Q2)), Ct (Q3s p0) fun res => Z1 Tryz.prog 0o00210 [(.slice 2 (List.map Z3 p0))] (fun d => d = (.slice 2 (List.map Z3 res))) :=
 au Tryz.func136 Q3s.eq_1 (.o (.pN 3 2 0x0073 (.ls 0 (.f [3] [40] [3, 6, 7, 8] [40] (fun (k56 : Nat) (s52 : (List Q2)) => [(3, .sl 2 40 (s52).length), (8, eI (k56 : Int))]) (fun k56 s52 => [(40, some ⟨2, (List.map Z3 s52), 0, 0x0073⟩)]) (fun k56 s52 => .o (.g [3, 5, 6, 7, 8] [0, 25] [] [] (.o (.o (.d [0, 1, 2, 3, 4, 5, 6, 7, 8, 9] [1] [] (.pF 3 .z)))))) (fun s60 => .z)))))
end Go.Proofs.YtbdkbdafhlcilaaGreat
set_option linter.unusedSimpArgs false
set_option linter.unusedVariables false
namespace Go.Proofs.YtbdkbdafhlcilaaGreat
open Go Go.RowKit
set_option maxRecDepth 100000
set_option maxHeartbeats 20000000
instance W9d : ∀ (n : Nat) (p0 : (List Q2)) (p1 : Q1), Ct (Q5t n p0 p1) fun res => Z1 Tryz.prog 0o00222 [(.slice 2 (List.map Z3 p0)), (.agg (X0 p1))] (fun d => d = (.slice 4 (List.map Q5p res))) :=
 au Tryz.func146 Q5t.eq_1 (.o (.o (.o (.pN 5 4 0x0097 (.ls 0 (.f [5] [48] [3, 5, 8, 9, 10] [0, 48] (fun (k66 : Nat) (s62 : (List J7)) => [(5, .sl 4 48 (s62).length), (10, eI (k66 : Int))]) (fun k66 s62 => [(48, some ⟨4, (List.map Q5p s62), 0, 0x0097⟩)]) (fun k66 s62 => .o (.g [3, 5, 7, 8, 9, 10] [0, 1, 26] [] [] (.o (.o (.o (.d [0, 1, 2, 3, 4, 5, 6, 7, 8, 9, 10, 11] [0, 2] [] .z)))))) (fun s70 => .z)))))))
end Go.Proofs.YtbdkbdafhlcilaaGreat
set_option linter.unusedSimpArgs false
set_option linter.unusedVariables false
namespace Go.Proofs.YtbdkbdafhlcilaaGreat
open Go Go.RowKit
set_option maxRecDepth 100000
set_option maxHeartbeats 20000000
instance W50 : ∀ (p0 : (List Q3)) (p1 : Q5), Ct (Q0l p0 p1) fun res => Z1 Tryz.prog 0o00146 [(.slice 2 (List.map X9 p0)), (.agg (X7 p1))] (fun d => d = (.slice 1 (List.map rI res))) :=
 au Tryz.func102 Q0l.eq_1 (.o (.o (.i .z (.b fun (x115 : Q3) => .le 0 1 3 Q61 x115.ctors x115 (.f [5] [16] [0, 3, 5, 6] [0, 16] (fun (k149 : Nat) (s145 : (List Int)) => [(5, .sl 1 16 (s145).length), (6, eI (k149 : Int))]) (fun k149 s145 => [(16, some ⟨1, (List.map rI s145), 0, 0x0003⟩)]) (fun k149 s145 => .o (.j 7 0 [0, 3, 5, 6] [0, 1] (fun (s157 : (List Int)) => [(5, .sl 1 1 (s157).length)]) (fun s157 => [(1, some ⟨1, (List.map rI s157), 0, 0x0003⟩)]) (.g [0, 3, 5, 6] [0, 1] [] [] (.o (.d [0, 1, 2, 3, 4, 5, 6, 7, 8, 9, 10, 11] [0] [] .z))) (fun _ => .z))) (fun s153 => .z))))))
end Go.Proofs.YtbdkbdafhlcilaaGreat
set_option linter.unusedSimpArgs false
set_option linter.unusedVariables false
namespace Go.Proofs.YtbdkbdafhlcilaaGreat
open Go Go.RowKit
set_option maxRecDepth 100000
set_option maxHeartbeats 20000000
instance W7a : ∀ (p0 : ByteArray), Ct (Q9b p0) fun res => Z1 Tryz.prog 0o00356 [(eS p0)] (fun d => d = (eB res)) :=
 au Tryz.func238 Q9b.eq_1 .z
end Go.Proofs.YtbdkbdafhlcilaaGreat
set_option linter.unusedSimpArgs false
set_option linter.unusedVariables false
namespace Go.Proofs.YtbdkbdafhlcilaaGreat
open Go Go.RowKit
set_option maxRecDepth 100000
set_option maxHeartbeats 20000000
instance V0x : ∀ (p0 : (List Q3)) (p1 : Q5), Ct (Q7v p0 p1) fun res => Z1 Tryz.prog 0o00301 [(.slice 2 (List.map X9 p0)), (.agg (X7 p1))] (fun d => d = (eB res)) :=
 au Tryz.func193 Q7v.eq_1 .z
end Go.Proofs.YtbdkbdafhlcilaaGreat
set_option linter.unusedSimpArgs false
set_option linter.unusedVariables false
namespace Go.Proofs.YtbdkbdafhlcilaaGreat
open Go Go.RowKit
set_option maxRecDepth 100000
set_option maxHeartbeats 20000000
instance X73 : ∀ (p0 : (List ByteArray)) (p1 : ByteArray), Ct (Q67 p0 p1) fun res => Z1 Tryz.prog 0o00452 [(.slice 1 (List.map rS p0)), (eS p1)] (fun d => d = (.agg (X7 res))) :=
 au Tryz.func298 Q67.eq_1 (.o (.o (.i .z (.o (.b fun (r4 : (Int)) => .j 4 0 [4, 5] [0, 64] (fun (s18 : Int) => []) (fun s18 => [(64, some ⟨2, [[(eI r4), (eI s18)]], 0, 0x0019⟩)]) .z (fun _ => .z))))))
end Go.Proofs.YtbdkbdafhlcilaaGreat
set_option linter.unusedSimpArgs false
set_option linter.unusedVariables false
namespace Go.Proofs.YtbdkbdafhlcilaaGreat
open Go Go.RowKit
set_option maxRecDepth 100000
set_option maxHeartbeats 20000000
instance W6x : ∀ (n : Nat) (p0 : Z7) (p1 : Q0) (p2 : Int), Ct (Q4y n p0 p1 p2) fun res => J8 Tryz.prog 0o00231 [⟨2, [(Y0 p0)], 0, 0x009a⟩] [.ptr 2 0 0 0, (.agg (Q8 p1)), (eI p2)] (fun H d => H = [some ⟨2, [(Y0 res.2.2)], 0, 0x009a⟩] ∧ d = .tup [(.agg (Q8 res.1)), (eI res.2.1)]) :=
 ar (au Tryz.func153 Q4y.eq_2 (.o (.o (.o (.b fun (p1 : Q0) => .o (.i .z (.i .z (.i .z (.j 3 0 [0, 2, 4, 6] [0, 1, 9] (fun (s25 : Z7) => []) (fun s25 => [(0, some ⟨2, [(Y0 s25)], 0, 0x009a⟩)]) .z (fun s25 => .pC 11 5 6 0x0064 (.lc 1 5 6 Q8 p1.kids (.f [0, 6, 8, 9] [0, 2, 11, 67] [0, 4, 6, 8, 9, 10] [0, 1, 2, 11, 67] (fun (k95 : Nat) (s91 : Z7 × (List Q0) × Int) => [(9, eI s91.2.2), (10, eI (k95 : Int))]) (fun k95 s91 => [(0, some ⟨2, [(Y0 s91.1)], 0, 0x009a⟩), (1000000011, some ⟨6, [[(eI p1.op), (eI p1.ctor), (eI p1.n), (eI p1.m), (eI p1.var), (.sl 6 67 (s91.2.1).length)]], 0, 0x0064⟩), (67, some ⟨6, (List.map Q8 s91.2.1), 0, 0x0064⟩)]) (fun k95 s91 => .z) (fun s99 => .j 14 0 [6, 8, 9] [0, 1, 2, 3] (fun (s112 : Z7) => []) (fun s112 => [(0, some ⟨2, [(Y0 s112)], 0, 0x009a⟩), (1000000002, some ⟨6, [[(eI p1.op), (eI p1.ctor), (eI p1.n), (eI p1.m), (eI p1.var), (.sl 6 3 (s99.2.1).length)]], 0, 0x0064⟩)]) (.i (.o (.i (.pF 3 (.pF 76 .z)) .z)) .z) (fun _ => .pF 3 .z))))))))))))))
end Go.Proofs.YtbdkbdafhlcilaaGreat
