import Derived.Test.YtbdkbdafhlcilaaGreatBJMir
import Derived.Test.YtbdkbdafhlcilaaGreatBJAuto
import Derived.Test.YtbdkbdafhlcilaaGreatBJC1d0
import Derived.Test.YtbdkbdafhlcilaaGreatBJC2b0
import Derived.Test.YtbdkbdafhlcilaaGreatBJC1b0
import Derived.Test.YtbdkbdafhlcilaaGreatBJC0d0
import Derived.Test.YtbdkbdafhlcilaaGreatBJC2a0
import Derived.Test.YtbdkbdafhlcilaaGreatBJC0a0
import Derived.Test.YtbdkbdafhlcilaaGreatBJC1a0
import Derived.Test.YtbdkbdafhlcilaaGreatBJC2c0
import Derived.Test.YtbdkbdafhlcilaaGreatBJC0b0
import Derived.Test.YtbdkbdafhlcilaaGreatBJC1c0
import Derived.Test.YtbdkbdafhlcilaaGreatBJC0c0
set_option linter.unusedSimpArgs false
set_option linter.unusedVariables false
set_option linter.unusedSimpArgs false
set_option linter.unusedVariables false
namespace Go.Proofs.YtbdkbdafhlcilaaGreat
open Go Go.RowKit
set_option maxRecDepth 100000
set_option maxHeartbeats 20000000
instance W2t : ∀ (p0 : (List Q9)) (p1 : (List Q9)), Ct (Q4p p0 p1) fun res => Z1 Tryz.prog 0o00415 [(.slice 3 (List.map V5 p0)), (.slice 3 (List.map V5 p1))] (fun d => d = (eB res)) :=
 au Tryz.func269 Q4p.eq_1 .z
end Go.Proofs.YtbdkbdafhlcilaaGreat
set_option linter.unusedSimpArgs false
set_option linter.unusedVariables false
namespace Go.Proofs.YtbdkbdafhlcilaaGreat
open Go Go.RowKit
set_option maxRecDepth 100000
set_option maxHeartbeats 20000000
instance W54 : ∀ (n : Nat) (p0 : Z9) (p1 : (List Q6)) (p2 : Q1), Ct (Q3i n p0 p1 p2) fun res => Z1 Tryz.prog 0o00105 [(.agg (Q16 p0)), (.slice 9 (List.map V0 p1)), (.agg (X0 p2))] (fun d => d = .tup [(eI res.1), (.slice 4 (List.map Q5p res.2.1)), (eI res.2.2)]) :=
 au Tryz.func69 Q3i.eq_1 (.o (.o (.o (.o (.w [] [] [1, 3, 5, 9] [0, 8] (fun (s34 : Z9 × Int) => [(9, eI s34.2)]) (fun s34 => [(0, some ⟨6, [(Q16 s34.1)], 0, 0x002b⟩)]) (fun s34 => .z) (fun s42 => .z))))))
end Go.Proofs.YtbdkbdafhlcilaaGreat
set_option linter.unusedSimpArgs false
set_option linter.unusedVariables false
namespace Go.Proofs.YtbdkbdafhlcilaaGreat
open Go Go.RowKit
set_option maxRecDepth 100000
set_option maxHeartbeats 20000000
instance W6p : ∀ (n : Nat) (p0 : (List Q3)) (p1 : (List Y8)) (p2 : (List V4)) (p3 : Int) (p4 : Z0), Ct (Q4x n p0 p1 p2 p3 p4) fun res => Z1 Tryz.prog 0o00331 [(.slice 2 (List.map X9 p0)), (.slice 3 (List.map Q1h p1)), (.slice 3 (List.map Q1n p2)), (eI p3), (.agg (J1 p4))] (fun d => d = (.slice 3 (List.map Q1n res))) :=
 au Tryz.func217 Q4x.eq_1 (.o (.o (.o (.o (.o (.o (.o (.ls 2 (.f [11] [16] [1, 2, 3, 9, 11, 12, 13] [0, 16] (fun (k1872 : Nat) (s1868 : (List V4)) => [(11, .sl 3 16 (s1868).length), (13, eI (k1872 : Int))]) (fun k1872 s1868 => [(16, some ⟨3, (List.map Q1n s1868), 0, 0x0109⟩)]) (fun k1872 s1868 => .o (.j 6 0 [1, 2, 3, 9, 11, 12, 13] [0, 1] (fun (s2059 : (List V4)) => [(11, .sl 3 1 (s2059).length)]) (fun s2059 => [(1, some ⟨3, (List.map Q1n s2059), 0, 0x0109⟩)]) (.o (.o (.i .z (.g [1, 2, 3, 9, 11, 12, 13, 14] [0, 1, 98] [] [] (.o (.o (.dz [0, 1, 2, 3, 4, 5, 6, 7, 8, 9, 11, 12, 13, 14, 15, 16, 17, 10, 18, 19, 20, 21] [] [1048591] [] (.w [1, 2, 3, 9, 11, 12, 13, 15] [0, 1, 1048591, 2097160] [1, 2, 3, 9, 11, 12, 13, 14, 15, 16] [0, 1, 2, 1048591, 2097160] (fun (s2208 : Int × (List Q0) × (List Q2) × Int) => [(16, eI s2208.2.2.2)]) (fun s2208 => [(1001048591, some ⟨3, [[(eI s2208.1), (.sl 6 2097160 (s2208.2.1).length), (.slice 2 (List.map Z3 s2208.2.2.1))]], 0, 0x0109⟩), (2097160, some ⟨6, (List.map Q8 s2208.2.1), 0, 0x0064⟩)]) (fun s2208 => .i (.o (.j 13 0 [1, 2, 3, 9, 11, 12, 13, 14, 15, 16, 17] [0, 1, 2, 3, 4, 93] (fun (s2233 : Q0) => []) (fun s2233 => [(1000000003, some ⟨3, [[(eI s2208.1), (.sl 6 4 (s2208.2.1).length), (.slice 2 (List.map Z3 s2208.2.2.1))]], 0, 0x0109⟩), (93, some ⟨6, [(Q8 s2233)], 0, 0x0064⟩)]) .z (fun _ => .g [1, 2, 3, 9, 11, 12, 13, 14, 15, 16, 17] [0, 1, 2, 3, 4, 5] [] [(1000000003, some ⟨3, [[(eI s2208.1), (.sl 6 4 (s2208.2.1).length), (.slice 2 (List.map Z3 s2208.2.2.1))]], 0, 0x0109⟩)] (.o (.o (.dz [0, 1, 2, 3, 4, 5, 6, 7, 8, 9, 10, 11, 12, 13, 14] [3, 5] [1048594, 1048595] [] .z)))))) .z) (fun s2216 => .g [1, 2, 3, 9, 11, 12, 13, 15] [0, 1, 2, 3] [] [(1000000002, some ⟨3, [[(eI s2216.1), (.sl 6 3 (s2216.2.1).length), (.slice 2 (List.map Z3 s2216.2.2.1))]], 0, 0x0109⟩)] (.o (.o (.d [0, 1, 2, 3, 4, 5, 6, 7, 8, 9, 10, 11, 12] [2] [117] (.o (.pF 4 .z)))))))))))))) (fun _ => .z))) (fun s1876 => .z))))))))))
end Go.Proofs.YtbdkbdafhlcilaaGreat
