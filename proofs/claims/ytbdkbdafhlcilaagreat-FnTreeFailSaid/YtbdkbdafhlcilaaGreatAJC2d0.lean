import Derived.Test.YtbdkbdafhlcilaaGreatAJMir
import Derived.Test.YtbdkbdafhlcilaaGreatAJAuto
import Derived.Test.YtbdkbdafhlcilaaGreatAJC0d0
import Derived.Test.YtbdkbdafhlcilaaGreatAJC1b0
import Derived.Test.YtbdkbdafhlcilaaGreatAJC0c0
import Derived.Test.YtbdkbdafhlcilaaGreatAJC1d0
import Derived.Test.YtbdkbdafhlcilaaGreatAJC0b0
import Derived.Test.YtbdkbdafhlcilaaGreatAJC1c0
set_option linter.unusedSimpArgs false
set_option linter.unusedVariables false
set_option linter.unusedSimpArgs false
set_option linter.unusedVariables false
namespace Go.Proofs.YtbdkbdafhlcilaaGreat
open Go Go.RowKit
set_option maxRecDepth 100000
set_option maxHeartbeats 20000000
instance W5o : ∀ (p0 : Q6l) (p1 : (List Q8)), Ct (Q5n p0 p1) fun res => Z0 Tryz.prog 0o00271 [(.agg (Q9j p0)), (.slice 3 (List.map V3 p1))] (fun d => d = (eB res)) :=
 au Tryz.func185 Q5n.eq_1 .z
end Go.Proofs.YtbdkbdafhlcilaaGreat
set_option linter.unusedSimpArgs false
set_option linter.unusedVariables false
namespace Go.Proofs.YtbdkbdafhlcilaaGreat
open Go Go.RowKit
set_option maxRecDepth 100000
set_option maxHeartbeats 20000000
instance X7m : ∀ (n : Nat) (p0 : (List ByteArray)) (p1 : ByteArray), Ct (Q6f n p0 p1) fun res => Z0 Tryz.prog 0o00413 [(.slice 1 (List.map rS p0)), (eS p1)] (fun d => d = (.agg (Q68 res))) :=
 au Tryz.func267 Q6f.eq_1 (.o (.o (.o (.j 2 0 [0, 1, 4, 5] [0, 16] (fun (s13 : ByteArray × Int) => [(1, eS s13.1)]) (fun s13 => [(16, some ⟨3, [[(eS ByteArray.empty), .nil, (eI s13.2)]], 0, 0x00ed⟩)]) .z (fun s13 => .o (.b fun (x29 : ByteArray) => .i .z (.o (.i .z (.g [0, 4, 5, 6] [0, 1] [] [] (.o (.o (.d [0, 1, 2, 3, 4, 5, 6, 7, 8, 9, 10] [] [] (.pC 1 1 2 0x0019 (.ls 60 (.f [4, 5] [0, 1, 18] [0, 4, 5, 7, 8] [0, 1, 18] (fun (k137 : Nat) (s133 : (List Q2)) => [(8, eI (k137 : Int))]) (fun k137 s133 => [(1000000001, some ⟨3, [[(eS x29), (.sl 2 18 (s133).length), (eI s13.2)]], 0, 0x00ed⟩), (18, some ⟨2, (List.map X0 s133), 0, 0x0019⟩)]) (fun k137 s133 => .o (.i (.g [0, 4, 5, 7, 8] [0, 1, 2] [] [(1000000001, some ⟨3, [[(eS x29), (.sl 2 2 (s133).length), (eI s13.2)]], 0, 0x00ed⟩)] (.o (.o (.d [0, 1, 2, 3, 4, 5, 6, 7, 8, 9, 10, 11] [1] [81] .z)))) .z)) (fun s141 => .z))))))))))))))))
end Go.Proofs.YtbdkbdafhlcilaaGreat
set_option linter.unusedSimpArgs false
set_option linter.unusedVariables false
namespace Go.Proofs.YtbdkbdafhlcilaaGreat
open Go Go.RowKit
set_option maxRecDepth 100000
set_option maxHeartbeats 20000000
instance Z91 : ∀ (n : Nat) (p0 : Z7) (p1 : (List Grow)) (p2 : (List Z3)) (p3 : Int), Ct (V6 n p0 p1 p2 p3) fun res => J1 Tryz.prog 0o00204 [⟨4, [(V8 p0)], 0, 0x006c⟩] [.ptr 4 0 0 0, (.slice 3 (List.map Q47 p1)), (.slice 3 (List.map Q1b p2)), (eI p3)] (fun H d => H = [some ⟨4, [(V8 res.2)], 0, 0x006c⟩] ∧ d = (.slice 9 (List.map J4 res.1))) :=
 au Tryz.func132 V6.eq_1 (.o (.o (.o (.o (.o (.o (.i (.g [0, 9, 10] [0, 57] [] [] (.o (.d [0, 1, 2, 3, 4, 5, 6, 7, 10, 8, 9] [0, 1] [] (.pN 9 9 0x0075 (.ls 35 (.f [9] [0, 10] [0, 9, 10, 35, 36, 37] [0, 10, 1] (fun (k182 : Nat) (s178 : (List Z1)) => [(9, .sl 9 10 (s178).length), (37, eI (k182 : Int))]) (fun k182 s178 => [(10, some ⟨9, (List.map J4 s178), 0, 0x0075⟩)]) (fun k182 s178 => .o (.j 6 0 [0, 9, 10, 35, 36, 37] [0, 1, 2] (fun (s190 : (List Z1)) => [(9, .sl 9 1 (s190).length)]) (fun s190 => [(1, some ⟨9, (List.map J4 s190), 0, 0x0075⟩)]) (.g [0, 9, 10, 12, 35, 36, 37] [0, 1, 2] [] [] (.o (.d [0, 1, 2, 3, 4, 5, 6, 7, 8, 9, 10, 11, 12, 13, 14, 15, 16, 17] [0, 2] [] .z))) (fun _ => .z))) (fun s186 => .pF 1 .z))))))) (.ls 1 (.f [9, 13] [0, 97] [3, 9, 13, 67, 68, 69] [0, 97] (fun (k286 : Nat) (s282 : (List Bool)) => [(69, eI (k286 : Int))]) (fun k286 s282 => [(97, some ⟨11, [(List.map cB s282)], 0, 0x0104⟩)]) (fun k286 s282 => .o (.j 15 0 [3, 9, 13, 67, 68, 69] [0, 1] (fun (s295 : (List Bool)) => []) (fun s295 => [(1, some ⟨11, [(List.map cB s295)], 0, 0x0104⟩)]) (.o (.i (.g [3, 9, 13, 16, 67, 68, 69] [0, 1, 82] [] [] (.o (.o (.d [0, 1, 2, 3, 4, 5, 6, 7, 8] [2] [] .z)))) .z)) (fun _ => .z))) (fun s290 => .pN 9 9 0x0075 (.w [9] [0, 18] [9, 13, 17, 18] [0, 18, 1] (fun (s374 : (List Z1) × Int × Int) => [(9, .sl 9 18 (s374.1).length), (17, eI s374.2.1), (18, eI s374.2.2)]) (fun s374 => [(18, some ⟨9, (List.map J4 s374.1), 0, 0x0075⟩)]) (fun s374 => .i (.j 24 0 [9, 13, 17, 18] [0, 1, 2] (fun (s388 : (List Z1) × Int) => [(9, .sl 9 1 (s388.1).length), (17, eI s388.2)]) (fun s388 => [(1, some ⟨9, (List.map J4 s388.1), 0, 0x0075⟩)]) .z (fun _ => .z)) .z) (fun s382 => .pF 1 .z))))))))))))
end Go.Proofs.YtbdkbdafhlcilaaGreat
set_option linter.unusedSimpArgs false
set_option linter.unusedVariables false
namespace Go.Proofs.YtbdkbdafhlcilaaGreat
open Go Go.RowKit
set_option maxRecDepth 100000
set_option maxHeartbeats 20000000
instance W3d : ∀ (n : Nat) (p0 : Grow) (p1 : Int) (p2 : Z1) (p3 : (List Z3)), Ct (Q3t n p0 p1 p2 p3) fun res => Z0 Tryz.prog 0o00206 [(.agg (Q47 p0)), (eI p1), (.agg (J4 p2)), (.slice 3 (List.map Q1b p3))] (fun d => d = .tup [(.agg (Q47 res.1)), (eB res.2)]) :=
 au Tryz.func134 Q3t.eq_1 (.o (.o (.o (.o (.o (.o (.j 3 0 [1, 3, 4, 8, 11] [0, 16] (fun (s38 : (List Q0)) => [(11, .slice 6 (List.map Q1 s38))]) (fun _ => []) (.i (.pN 11 6 0x0064 (.ls 3 (.f [1, 3, 4, 8, 11] [0, 16, 176] [1, 3, 4, 8, 11, 33, 34] [0, 16, 176] (fun (k61 : Nat) (s57 : (List Q0)) => [(11, .sl 6 176 (s57).length), (34, eI (k61 : Int))]) (fun k61 s57 => [(176, some ⟨6, (List.map Q1 s57), 0, 0x0064⟩)]) (fun k61 s57 => .z) (fun s65 => .pF 2 .z)))) .z) (fun s38 => .g [1, 3, 4, 8, 11] [0, 1] [] [] (.o (.o (.dz [0, 1, 2, 3, 4, 5, 7, 8, 6, 9, 10, 11] [0] [1048588] [] (.ls 11 (.f [1, 4, 8, 12] [0, 1, 1048588, 2097153] [1, 3, 4, 8, 12, 66, 67, 68] [0, 1, 1048588, 2097153] (fun (k138 : Nat) (s134 : Int × (List Q0) × (List Q4)) => [(68, eI (k138 : Int))]) (fun k138 s134 => [(1001048588, some ⟨3, [[(eI s134.1), (.sl 6 2097153 (s134.2.1).length), (.slice 2 (List.map Z2 s134.2.2))]], 0, 0x0066⟩), (2097153, some ⟨6, (List.map Q1 s134.2.1), 0, 0x0064⟩)]) (fun k138 s134 => .o (.g [1, 3, 4, 8, 12, 13, 14, 66, 67, 68] [0, 1, 2, 3, 36] [] [(1000000002, some ⟨3, [[(eI s134.1), (.sl 6 3 (s134.2.1).length), (.slice 2 (List.map Z2 s134.2.2))]], 0, 0x0066⟩)] (.o (.o (.d [0, 1, 2, 3, 4, 5, 6, 7, 8] [2, 4] [12] .z))))) (fun s142 => .g [1, 4, 8, 12] [0, 1, 2, 3] [] [(1000000002, some ⟨3, [[(eI s142.1), (.sl 6 3 (s142.2.1).length), (.slice 2 (List.map Z2 s142.2.2))]], 0, 0x0066⟩)] (.o (.o (.d [0, 1, 2, 3, 4, 5, 6, 7, 8, 9] [0, 2] [90] .z)))))))))))))))))
end Go.Proofs.YtbdkbdafhlcilaaGreat
set_option linter.unusedSimpArgs false
set_option linter.unusedVariables false
namespace Go.Proofs.YtbdkbdafhlcilaaGreat
open Go Go.RowKit
set_option maxRecDepth 100000
set_option maxHeartbeats 20000000
instance Z8p : ∀ (n : Nat) (p0 : (List Q4)) (p1 : (Q4 → Q4 → Option Int)) {p1_f : FuncId} {p1_c : List D} [p1_i : CF2 (fun a0 => (.agg (Z2 a0))) (fun a1 => (.agg (Z2 a1))) (fun r => (eI r)) p1 p1_f p1_c], Ct (J9 n p0 p1) fun res => J1 Tryz.prog 0o00314 [⟨2, List.map Z2 p0, 0, 0x0073⟩] [.sl 2 0 p0.length, .clos p1_f p1_c] (fun H d => H = [some ⟨2, List.map Z2 res, 0, 0x0073⟩] ∧ d = .tup []) :=
 au Tryz.func204 J9.eq_1 .z
end Go.Proofs.YtbdkbdafhlcilaaGreat
set_option linter.unusedSimpArgs false
set_option linter.unusedVariables false
namespace Go.Proofs.YtbdkbdafhlcilaaGreat
open Go Go.RowKit
set_option maxRecDepth 100000
set_option maxHeartbeats 20000000
instance X0y : ∀ (p0 : Q4) (p1 : Q4), Ct (J0 p0 p1) fun res => Z0 Tryz.prog 0o00315 [(.agg (Z2 p0)), (.agg (Z2 p1))] (fun d => d = (eI res)) :=
 au Tryz.func205 J0.eq_1 .z
end Go.Proofs.YtbdkbdafhlcilaaGreat
set_option linter.unusedSimpArgs false
set_option linter.unusedVariables false
namespace Go.Proofs.YtbdkbdafhlcilaaGreat
open Go Go.RowKit
set_option maxRecDepth 100000
set_option maxHeartbeats 20000000
instance W77 : ∀ (p0 : (List Q3)) (p1 : Q2) (p2 : Int), Ct (Q48 p0 p1 p2) fun res => Z0 Tryz.prog 0o00375 [(.slice 2 (List.map W3 p0)), (.agg (X0 p1)), (eI p2)] (fun d => d = (.agg (Q1 res))) :=
 au Tryz.func253 Q48.eq_1 (.o (.o (.b fun (p2 : Int) => .o (.pC 32 5 6 0x0064 (.ls 15 (.f [6, 7] [8, 32, 96] [6, 7, 8, 9] [8, 32, 96] (fun (k49 : Nat) (s45 : (List Q0)) => [(9, eI (k49 : Int))]) (fun k49 s45 => [(1000000032, some ⟨6, [[(eI 4), (eI p2), (eI 0), (eI 0), (eI 0), (.sl 6 96 (s45).length)]], 0, 0x0064⟩), (96, some ⟨6, (List.map Q1 s45), 0, 0x0064⟩)]) (fun k49 s45 => .o (.g [6, 7, 8, 9] [0, 1, 2] [] [(1000000001, some ⟨6, [[(eI 4), (eI p2), (eI 0), (eI 0), (eI 0), (.sl 6 2 (s45).length)]], 0, 0x0064⟩)] (.o (.o (.d [0, 1, 2, 3, 4, 5, 6] [1] [27] .z))))) (fun s53 => .z)))))))
end Go.Proofs.YtbdkbdafhlcilaaGreat
