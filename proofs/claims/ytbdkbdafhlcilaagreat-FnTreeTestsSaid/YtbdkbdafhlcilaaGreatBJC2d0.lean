import Derived.Test.YtbdkbdafhlcilaaGreatBJMir
import Derived.Test.YtbdkbdafhlcilaaGreatBJAuto
import Derived.Test.YtbdkbdafhlcilaaGreatBJC0d0
import Derived.Test.YtbdkbdafhlcilaaGreatBJC1c0
import Derived.Test.YtbdkbdafhlcilaaGreatBJC0b0
import Derived.Test.YtbdkbdafhlcilaaGreatBJC1b0
import Derived.Test.YtbdkbdafhlcilaaGreatBJC1d0
import Derived.Test.YtbdkbdafhlcilaaGreatBJC0c0
import Derived.Test.YtbdkbdafhlcilaaGreatBJC1a0
import Derived.Test.YtbdkbdafhlcilaaGreatBJC0a0
set_option linter.unusedSimpArgs false
set_option linter.unusedVariables false
set_option linter.unusedSimpArgs false
set_option linter.unusedVariables false
namespace Go.Proofs.YtbdkbdafhlcilaaGreat
open Go Go.RowKit
set_option maxRecDepth 100000
set_option maxHeartbeats 20000000
instance W2u : ∀ (n : Nat) (p0 : Grow) (p1 : Int) (p2 : Z0) (p3 : (List Z6)), Ct (Q3r n p0 p1 p2 p3) fun res => Z1 Tryz.prog 0o00206 [(.agg (Q41 p0)), (eI p1), (.agg (J1 p2)), (.slice 3 (List.map Q15 p3))] (fun d => d = .tup [(.agg (Q41 res.1)), (eB res.2)]) :=
 au Tryz.func134 Q3r.eq_1 (.o (.o (.o (.o (.o (.o (.j 3 0 [1, 3, 4, 8, 11] [0, 16] (fun (s38 : (List Q0)) => [(11, .slice 6 (List.map Q8 s38))]) (fun _ => []) (.i (.pN 11 6 0x0064 (.ls 3 (.f [1, 3, 4, 8, 11] [0, 16, 176] [1, 3, 4, 8, 11, 33, 34] [0, 16, 176] (fun (k61 : Nat) (s57 : (List Q0)) => [(11, .sl 6 176 (s57).length), (34, eI (k61 : Int))]) (fun k61 s57 => [(176, some ⟨6, (List.map Q8 s57), 0, 0x0064⟩)]) (fun k61 s57 => .z) (fun s65 => .pF 2 .z)))) .z) (fun s38 => .g [1, 3, 4, 8, 11] [0, 1] [] [] (.o (.o (.dz [0, 1, 2, 3, 4, 5, 7, 8, 6, 9, 10, 11] [0] [1048588] [] (.ls 11 (.f [1, 4, 8, 12] [0, 1, 1048588, 2097153] [1, 3, 4, 8, 12, 66, 67, 68] [0, 1, 1048588, 2097153] (fun (k138 : Nat) (s134 : Int × (List Q0) × (List Q2)) => [(68, eI (k138 : Int))]) (fun k138 s134 => [(1001048588, some ⟨3, [[(eI s134.1), (.sl 6 2097153 (s134.2.1).length), (.slice 2 (List.map Z3 s134.2.2))]], 0, 0x0066⟩), (2097153, some ⟨6, (List.map Q8 s134.2.1), 0, 0x0064⟩)]) (fun k138 s134 => .o (.g [1, 3, 4, 8, 12, 13, 14, 66, 67, 68] [0, 1, 2, 3, 36] [] [(1000000002, some ⟨3, [[(eI s134.1), (.sl 6 3 (s134.2.1).length), (.slice 2 (List.map Z3 s134.2.2))]], 0, 0x0066⟩)] (.o (.o (.d [0, 1, 2, 3, 4, 5, 6, 7, 8] [2, 4] [12] .z))))) (fun s142 => .g [1, 4, 8, 12] [0, 1, 2, 3] [] [(1000000002, some ⟨3, [[(eI s142.1), (.sl 6 3 (s142.2.1).length), (.slice 2 (List.map Z3 s142.2.2))]], 0, 0x0066⟩)] (.o (.o (.d [0, 1, 2, 3, 4, 5, 6, 7, 8, 9] [0, 2] [90] .z)))))))))))))))))
end Go.Proofs.YtbdkbdafhlcilaaGreat
set_option linter.unusedSimpArgs false
set_option linter.unusedVariables false
namespace Go.Proofs.YtbdkbdafhlcilaaGreat
open Go Go.RowKit
set_option maxRecDepth 100000
set_option maxHeartbeats 20000000
instance Z7x : ∀ (n : Nat) (p0 : (List Q2)) (p1 : (Q2 → Q2 → Option Int)) {p1_f : FuncId} {p1_c : List D} [p1_i : CF2 (fun a0 => (.agg (Z3 a0))) (fun a1 => (.agg (Z3 a1))) (fun r => (eI r)) p1 p1_f p1_c], Ct (Q06 n p0 p1) fun res => J8 Tryz.prog 0o00314 [⟨2, List.map Z3 p0, 0, 0x0073⟩] [.sl 2 0 p0.length, .clos p1_f p1_c] (fun H d => H = [some ⟨2, List.map Z3 res, 0, 0x0073⟩] ∧ d = .tup []) :=
 au Tryz.func204 Q06.eq_1 .z
end Go.Proofs.YtbdkbdafhlcilaaGreat
set_option linter.unusedSimpArgs false
set_option linter.unusedVariables false
namespace Go.Proofs.YtbdkbdafhlcilaaGreat
open Go Go.RowKit
set_option maxRecDepth 100000
set_option maxHeartbeats 20000000
instance X0i : ∀ (p0 : Q2) (p1 : Q2), Ct (J5 p0 p1) fun res => Z1 Tryz.prog 0o00315 [(.agg (Z3 p0)), (.agg (Z3 p1))] (fun d => d = (eI res)) :=
 au Tryz.func205 J5.eq_1 .z
end Go.Proofs.YtbdkbdafhlcilaaGreat
set_option linter.unusedSimpArgs false
set_option linter.unusedVariables false
namespace Go.Proofs.YtbdkbdafhlcilaaGreat
open Go Go.RowKit
set_option maxRecDepth 100000
set_option maxHeartbeats 20000000
instance W77 : ∀ (p0 : (List Q3)) (p1 : (List Int)) (p2 : Q5) (p3 : Int), Ct (Q43 p0 p1 p2 p3) fun res => Z1 Tryz.prog 0o00147 [(.slice 2 (List.map X9 p0)), (.slice 1 (List.map rI p1)), (.agg (X7 p2)), (eI p3)] (fun d => d = (eI res)) :=
 au Tryz.func103 Q43.eq_1 (.o (.o (.o (.o (.o (.ls 16 (.f [10] [] [1, 9, 10, 11] [] (fun (k92 : Nat) (s88 : Int) => [(10, eI s88), (11, eI (k92 : Int))]) (fun k92 s88 => []) (fun k92 s88 => .o (.j 6 0 [1, 9, 10, 11] [] (fun (s101 : Int) => [(10, eI s101)]) (fun _ => []) .z (fun _ => .z))) (fun s96 => .z))))))))
end Go.Proofs.YtbdkbdafhlcilaaGreat
set_option linter.unusedSimpArgs false
set_option linter.unusedVariables false
namespace Go.Proofs.YtbdkbdafhlcilaaGreat
open Go Go.RowKit
set_option maxRecDepth 100000
set_option maxHeartbeats 20000000
instance W95 : ∀ (p0 : (List Q3)) (p1 : Q5) (p2 : Q0), Ct (Q6u p0 p1 p2) fun res => Z1 Tryz.prog 0o00401 [(.slice 2 (List.map X9 p0)), (.agg (X7 p1)), (.agg (Q8 p2))] (fun d => d = (eB res)) :=
 au Tryz.func257 Q6u.eq_1 (.o (.o (.o (.e (.j 1 0 [0, 4, 5, 7] [0, 8] (fun (s2 : Bool) => [(7, eB s2)]) (fun _ => []) .z (fun s2 => .j 2 0 [0, 4, 5] [0, 1] (fun (s17 : Unit) => []) (fun _ => []) .z (fun s17 => .j 4 0 [0, 4, 5] [0, 1] (fun (s50 : Unit) => []) (fun _ => []) .z (fun s50 => .j 7 0 [0, 4, 5, 60, 61] [0, 1] (fun (s95 : Bool) => [(61, eB s95)]) (fun _ => []) .z (fun s95 => .i .z (.i .z (.i (.g [0, 4, 5] [0, 1] [] [] (.o (.o (.d [0, 1, 3, 4, 2, 5, 6] [0, 1] [] .z)))) .z)))))))))))
end Go.Proofs.YtbdkbdafhlcilaaGreat
set_option linter.unusedSimpArgs false
set_option linter.unusedVariables false
namespace Go.Proofs.YtbdkbdafhlcilaaGreat
open Go Go.RowKit
set_option maxRecDepth 100000
set_option maxHeartbeats 20000000
instance X74 : ∀ (n : Nat) (p0 : (List ByteArray)) (p1 : ByteArray), Ct (Q68 n p0 p1) fun res => Z1 Tryz.prog 0o00413 [(.slice 1 (List.map rS p0)), (eS p1)] (fun d => d = (.agg (Q61 res))) :=
 au Tryz.func267 Q68.eq_1 (.o (.o (.o (.j 2 0 [0, 1, 4, 5] [0, 16] (fun (s13 : ByteArray × Int) => [(1, eS s13.1)]) (fun s13 => [(16, some ⟨3, [[(eS ByteArray.empty), .nil, (eI s13.2)]], 0, 0x00ed⟩)]) .z (fun s13 => .o (.b fun (x29 : ByteArray) => .i .z (.o (.i .z (.g [0, 4, 5, 6] [0, 1] [] [] (.o (.o (.d [0, 1, 2, 3, 4, 5, 6, 7, 8, 9, 10] [] [] (.pC 1 1 2 0x0019 (.ls 60 (.f [4, 5] [0, 1, 18] [0, 4, 5, 7, 8] [0, 1, 18] (fun (k137 : Nat) (s133 : (List Q5)) => [(8, eI (k137 : Int))]) (fun k137 s133 => [(1000000001, some ⟨3, [[(eS x29), (.sl 2 18 (s133).length), (eI s13.2)]], 0, 0x00ed⟩), (18, some ⟨2, (List.map X7 s133), 0, 0x0019⟩)]) (fun k137 s133 => .o (.i (.g [0, 4, 5, 7, 8] [0, 1, 2] [] [(1000000001, some ⟨3, [[(eS x29), (.sl 2 2 (s133).length), (eI s13.2)]], 0, 0x00ed⟩)] (.o (.o (.d [0, 1, 2, 3, 4, 5, 6, 7, 8, 9, 10, 11] [1] [81] .z)))) .z)) (fun s141 => .z))))))))))))))))
end Go.Proofs.YtbdkbdafhlcilaaGreat
set_option linter.unusedSimpArgs false
set_option linter.unusedVariables false
namespace Go.Proofs.YtbdkbdafhlcilaaGreat
open Go Go.RowKit
set_option maxRecDepth 100000
set_option maxHeartbeats 20000000
instance W74 : ∀ (n : Nat) (p0 : (List Q3)) (p1 : Q5), Ct (Q96 n p0 p1) fun res => Z1 Tryz.prog 0o00471 [(.slice 2 (List.map X9 p0)), (.agg (X7 p1))] (fun d => d = (eS res)) :=
 au Tryz.func313 Q96.eq_1 (.o (.o (.o (.i .z (.g [0, 3] [0] [] [] (.o (.o (.o (.d [0, 1, 2, 3, 4, 5, 6, 7, 8, 9, 10] [0] [] .z)))))))))
end Go.Proofs.YtbdkbdafhlcilaaGreat
