import Derived.Test.YtbdkbdafhlcilaaGreatBJMir
import Derived.Test.YtbdkbdafhlcilaaGreatBJAuto
import Derived.Test.YtbdkbdafhlcilaaGreatBJC0b0
import Derived.Test.YtbdkbdafhlcilaaGreatBJC0c0
import Derived.Test.YtbdkbdafhlcilaaGreatBJC5b0
import Derived.Test.YtbdkbdafhlcilaaGreatBJC4d0
import Derived.Test.YtbdkbdafhlcilaaGreatBJC2c0
import Derived.Test.YtbdkbdafhlcilaaGreatBJC3a0
import Derived.Test.YtbdkbdafhlcilaaGreatBJC1d0
import Derived.Test.YtbdkbdafhlcilaaGreatBJC2b0
import Derived.Test.YtbdkbdafhlcilaaGreatBJC1c0
import Derived.Test.YtbdkbdafhlcilaaGreatBJC5c0
import Derived.Test.YtbdkbdafhlcilaaGreatBJC3c0
import Derived.Test.YtbdkbdafhlcilaaGreatBJC4c0
set_option linter.unusedSimpArgs false
set_option linter.unusedVariables false
set_option linter.unusedSimpArgs false
set_option linter.unusedVariables false
namespace Go.Proofs.YtbdkbdafhlcilaaGreat
open Go Go.RowKit
set_option maxRecDepth 100000
set_option maxHeartbeats 20000000
instance W6k : ∀ (n : Nat) (p0 : (List Q3)) (p1 : (List Q6)) (p2 : (List Y8)) (p3 : (List V4)) (p4 : Int) (p5 : Int), Ct (Q1z n p0 p1 p2 p3 p4 p5) fun res => Z1 Tryz.prog 0o00212 [(.slice 2 (List.map X9 p0)), (.slice 9 (List.map V0 p1)), (.slice 3 (List.map Q1h p2)), (.slice 3 (List.map Q1n p3)), (eI p4), (eI p5)] (fun d => d = .tup [(.agg (Q16 res.1)), (eI res.2)]) :=
 ar (au Tryz.func138 Q1z.eq_2 (.o (.o (.o (.o (.o (.o (.o (.o (.i .z (.i .z (.o (.o (.i (.g [0, 1, 2, 3, 4, 5, 12, 14] [0, 120] [] [] (.o (.dz [0, 1, 2, 3, 4, 5, 6, 7] [1] [1048591] [] .z))) (.o (.b fun (x31 : Y8) => .o (.o (.pC 272 4 9 0x0075 (.ls 96 (.f [5, 12, 19] [0, 272, 256, 368] [0, 1, 2, 3, 4, 5, 12, 18, 19, 20, 21] [0, 272, 256, 368] (fun (k145 : Nat) (s141 : Int × (List Z0)) => [(5, eI s141.1), (21, eI (k145 : Int))]) (fun k145 s141 => [(1000000272, some ⟨6, [[(eI 2), (eI 0), .nil, (.sl 1 256 (x31.path).length), (.sl 9 368 (s141.2).length), .nil]], 0, 0x002b⟩), (368, some ⟨9, (List.map J1 s141.2), 0, 0x0075⟩)]) (fun k145 s141 => .o (.i (.g [0, 1, 2, 3, 4, 5, 12, 18, 19, 20, 21, 22] [0, 1, 2, 3, 100] [] [(1000000001, some ⟨6, [[(eI 2), (eI 0), .nil, (.sl 1 2 (x31.path).length), (.sl 9 3 (s141.2).length), .nil]], 0, 0x002b⟩)] (.o (.o (.o (.dz [0, 1, 2, 3, 4, 5, 7, 8, 9, 10, 11, 13, 14, 6, 12, 15, 16, 17, 18, 19, 20, 21] [4] [1048599] [] .z))))) .z)) (fun s149 => .z)))))))))))))))))))))
end Go.Proofs.YtbdkbdafhlcilaaGreat
set_option linter.unusedSimpArgs false
set_option linter.unusedVariables false
namespace Go.Proofs.YtbdkbdafhlcilaaGreat
open Go Go.RowKit
set_option maxRecDepth 100000
set_option maxHeartbeats 20000000
instance W0c : ∀ (n : Nat) (p0 : (List Q3)) (p1 : Q5) (p2 : (List Q6)) (p3 : Int), Ct (Q5g n p0 p1 p2 p3) fun res => Z1 Tryz.prog 0o00100 [(.slice 2 (List.map X9 p0)), (.agg (X7 p1)), (.slice 9 (List.map V0 p2)), (eI p3)] (fun d => d = .tup [(.agg (Q16 res.1)), (eB res.2)]) :=
 au Tryz.func64 Q5g.eq_1 (.o (.o (.o (.o (.o (.ls 2 (.f [0, 2, 3, 5, 8] [0, 8] [0, 2, 3, 5, 8, 10] [0, 8] (fun (k54 : Nat) (s50 : Unit) => [(10, eI (k54 : Int))]) (fun k54 s50 => []) (fun k54 s50 => .z) (fun s58 => .g [0, 2, 3, 5, 8] [0, 1] [] [] (.o (.o (.dz [0, 1, 2, 3, 5, 7, 6, 4, 8, 9, 10, 11, 12, 13, 14] [0] [1048609, 1048587] [] .z)))))))))))
end Go.Proofs.YtbdkbdafhlcilaaGreat
set_option linter.unusedSimpArgs false
set_option linter.unusedVariables false
namespace Go.Proofs.YtbdkbdafhlcilaaGreat
open Go Go.RowKit
set_option maxRecDepth 100000
set_option maxHeartbeats 20000000
instance V0u : ∀ (n : Nat) (p0 : (List Q3)) (p1 : Q5) (p2 : Q6), Ct (Q7s n p0 p1 p2) fun res => Z1 Tryz.prog 0o00160 [(.slice 2 (List.map X9 p0)), (.agg (X7 p1)), (.agg (V0 p2))] (fun d => d = (eB res)) :=
 au Tryz.func112 Q7s.eq_1 (.o (.o (.o (.o (.g [0, 4, 5] [0, 8] [] [] (.o (.i (.o (.o (.d [0, 1, 2, 3, 4, 5, 6, 7, 8, 9, 10, 11, 12, 13, 14, 15] [0, 1] [] .z))) (.d [0, 1, 2, 3, 4, 5, 6, 7, 8, 9, 10, 11, 12, 13, 14, 15] [0, 1] [] .z))))))))
end Go.Proofs.YtbdkbdafhlcilaaGreat
set_option linter.unusedSimpArgs false
set_option linter.unusedVariables false
namespace Go.Proofs.YtbdkbdafhlcilaaGreat
open Go Go.RowKit
set_option maxRecDepth 100000
set_option maxHeartbeats 20000000
instance X53 : ∀ (n : Nat) (p0 : (List Q3)) (p1 : Q5) (p2 : (List Q6)), Ct (Q1i n p0 p1 p2) fun res => Z1 Tryz.prog 0o00065 [(.slice 2 (List.map X9 p0)), (.agg (X7 p1)), (.slice 9 (List.map V0 p2))] (fun d => d = (eB res)) :=
 au Tryz.func53 Q1i.eq_1 (.o (.o (.o (.o (.o (.i .z (.i .z (.ls 2 (.f [] [] [0, 2, 4, 7] [0] (fun (k70 : Nat) (s66 : Unit) => [(7, eI (k70 : Int))]) (fun k70 s66 => []) (fun k70 s66 => .o (.g [0, 2, 4, 7] [0] [] [] (.o (.d [0, 1, 2, 3, 4, 5, 6, 7] [0] [] .z)))) (fun s74 => .z))))))))))
end Go.Proofs.YtbdkbdafhlcilaaGreat
set_option linter.unusedSimpArgs false
set_option linter.unusedVariables false
namespace Go.Proofs.YtbdkbdafhlcilaaGreat
open Go Go.RowKit
set_option maxRecDepth 100000
set_option maxHeartbeats 20000000
instance X2v : ∀ (n : Nat) (p0 : (List Q3)) (p1 : Q5) (p2 : (List Q6)) (p3 : Int), Ct (J2 n p0 p1 p2 p3) fun res => Z1 Tryz.prog 0o00022 [(.slice 2 (List.map X9 p0)), (.agg (X7 p1)), (.slice 9 (List.map V0 p2)), (eI p3)] (fun d => d = .tup [(.agg (Q16 res.1)), (eB res.2)]) :=
 au Tryz.func18 J2.eq_1 .z
end Go.Proofs.YtbdkbdafhlcilaaGreat
