import Derived.Test.YtbdkbdafhlcilaaGreatAJMir
import Derived.Test.YtbdkbdafhlcilaaGreatAJAuto
import Derived.Test.YtbdkbdafhlcilaaGreatAJC2c0
import Derived.Test.YtbdkbdafhlcilaaGreatAJC0d0
import Derived.Test.YtbdkbdafhlcilaaGreatAJC1c0
import Derived.Test.YtbdkbdafhlcilaaGreatAJC1a0
import Derived.Test.YtbdkbdafhlcilaaGreatAJC2a0
import Derived.Test.YtbdkbdafhlcilaaGreatAJC0a0
import Derived.Test.YtbdkbdafhlcilaaGreatAJC2b0
import Derived.Test.YtbdkbdafhlcilaaGreatAJC1d0
import Derived.Test.YtbdkbdafhlcilaaGreatAJC0c0
set_option linter.unusedSimpArgs false
set_option linter.unusedVariables false
set_option linter.unusedSimpArgs false
set_option linter.unusedVariables false
namespace Go.Proofs.YtbdkbdafhlcilaaGreat
open Go Go.RowKit
set_option maxRecDepth 100000
set_option maxHeartbeats 20000000
instance W7x : ∀ (n : Nat) (p0 : (List Q3)) (p1 : Q75), Ct (Q9t n p0 p1) fun res => Z0 Tryz.prog 0o00345 [(.slice 2 (List.map W3 p0)), (.agg (Q68 p1))] (fun d => d = (eB res)) :=
 au Tryz.func229 Q9t.eq_1 .z
end Go.Proofs.YtbdkbdafhlcilaaGreat
set_option linter.unusedSimpArgs false
set_option linter.unusedVariables false
namespace Go.Proofs.YtbdkbdafhlcilaaGreat
open Go Go.RowKit
set_option maxRecDepth 100000
set_option maxHeartbeats 20000000
instance X9b : ∀ (n : Nat) (p0 : (List Q3)) (p1 : Q75), Ct (Q6q n p0 p1) fun res => Z0 Tryz.prog 0o00453 [(.slice 2 (List.map W3 p0)), (.agg (Q68 p1))] (fun d => d = (eS res)) :=
 au Tryz.func299 Q6q.eq_1 (.o (.o (.b fun (p1 : Q75) => .lc 0 1 2 X0 p1.args (.f [3, 5] [0] [0, 3, 5, 6] [0] (fun (k146 : Nat) (s142 : ByteArray) => [(5, eS s142), (6, eI (k146 : Int))]) (fun k146 s142 => []) (fun k146 s142 => .o (.j 5 1 [0, 3, 5, 6] [0] (fun (s165 : ByteArray) => [(5, eS s165)]) (fun _ => []) .z (fun _ => .z))) (fun s150 => .j 9 0 [3, 5] [0] (fun (s175 : ByteArray) => [(5, eS s175)]) (fun _ => []) .z (fun s175 => .j 11 0 [5] [] (fun (s184 : ByteArray) => [(5, eS s184)]) (fun _ => []) .z (fun _ => .z)))))))
end Go.Proofs.YtbdkbdafhlcilaaGreat
set_option linter.unusedSimpArgs false
set_option linter.unusedVariables false
namespace Go.Proofs.YtbdkbdafhlcilaaGreat
open Go Go.RowKit
set_option maxRecDepth 100000
set_option maxHeartbeats 20000000
instance W73 : ∀ (n : Nat) (p0 : (List Q3)) (p1 : (List Y2)) (p2 : (List V1)) (p3 : Int) (p4 : Z1), Ct (Q54 n p0 p1 p2 p3 p4) fun res => Z0 Tryz.prog 0o00331 [(.slice 2 (List.map W3 p0)), (.slice 3 (List.map Q1n p1)), (.slice 3 (List.map Q1w p2)), (eI p3), (.agg (J4 p4))] (fun d => d = (.slice 3 (List.map Q1w res))) :=
 au Tryz.func217 Q54.eq_1 (.o (.o (.o (.o (.o (.o (.o (.ls 2 (.f [11] [16] [1, 2, 3, 9, 11, 12, 13] [0, 16] (fun (k1872 : Nat) (s1868 : (List V1)) => [(11, .sl 3 16 (s1868).length), (13, eI (k1872 : Int))]) (fun k1872 s1868 => [(16, some ⟨3, (List.map Q1w s1868), 0, 0x0109⟩)]) (fun k1872 s1868 => .o (.j 6 0 [1, 2, 3, 9, 11, 12, 13] [0, 1] (fun (s2059 : (List V1)) => [(11, .sl 3 1 (s2059).length)]) (fun s2059 => [(1, some ⟨3, (List.map Q1w s2059), 0, 0x0109⟩)]) (.o (.o (.i .z (.g [1, 2, 3, 9, 11, 12, 13, 14] [0, 1, 98] [] [] (.o (.o (.dz [0, 1, 2, 3, 4, 5, 6, 7, 8, 9, 11, 12, 13, 14, 15, 16, 17, 10, 18, 19, 20, 21] [] [1048591] [] (.w [1, 2, 3, 9, 11, 12, 13, 15] [0, 1, 1048591, 2097160] [1, 2, 3, 9, 11, 12, 13, 14, 15, 16] [0, 1, 2, 1048591, 2097160] (fun (s2208 : Int × (List Q0) × (List Q4) × Int) => [(16, eI s2208.2.2.2)]) (fun s2208 => [(1001048591, some ⟨3, [[(eI s2208.1), (.sl 6 2097160 (s2208.2.1).length), (.slice 2 (List.map Z2 s2208.2.2.1))]], 0, 0x0109⟩), (2097160, some ⟨6, (List.map Q1 s2208.2.1), 0, 0x0064⟩)]) (fun s2208 => .i (.o (.j 13 0 [1, 2, 3, 9, 11, 12, 13, 14, 15, 16, 17] [0, 1, 2, 3, 4, 93] (fun (s2233 : Q0) => []) (fun s2233 => [(1000000003, some ⟨3, [[(eI s2208.1), (.sl 6 4 (s2208.2.1).length), (.slice 2 (List.map Z2 s2208.2.2.1))]], 0, 0x0109⟩), (93, some ⟨6, [(Q1 s2233)], 0, 0x0064⟩)]) .z (fun _ => .g [1, 2, 3, 9, 11, 12, 13, 14, 15, 16, 17] [0, 1, 2, 3, 4, 5] [] [(1000000003, some ⟨3, [[(eI s2208.1), (.sl 6 4 (s2208.2.1).length), (.slice 2 (List.map Z2 s2208.2.2.1))]], 0, 0x0109⟩)] (.o (.o (.dz [0, 1, 2, 3, 4, 5, 6, 7, 8, 9, 10, 11, 12, 13, 14] [3, 5] [1048594, 1048595] [] .z)))))) .z) (fun s2216 => .g [1, 2, 3, 9, 11, 12, 13, 15] [0, 1, 2, 3] [] [(1000000002, some ⟨3, [[(eI s2216.1), (.sl 6 3 (s2216.2.1).length), (.slice 2 (List.map Z2 s2216.2.2.1))]], 0, 0x0109⟩)] (.o (.o (.d [0, 1, 2, 3, 4, 5, 6, 7, 8, 9, 10, 11, 12] [2] [117] (.o (.pF 4 .z)))))))))))))) (fun _ => .z))) (fun s1876 => .z))))))))))
end Go.Proofs.YtbdkbdafhlcilaaGreat
