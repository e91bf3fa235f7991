import Derived.Test.YtbdkbdafhlcilaaGreatAJMir
import Derived.Test.YtbdkbdafhlcilaaGreatAJAuto
import Derived.Test.YtbdkbdafhlcilaaGreatAJC1b0
import Derived.Test.YtbdkbdafhlcilaaGreatAJC1d0
import Derived.Test.YtbdkbdafhlcilaaGreatAJC1c0
import Derived.Test.YtbdkbdafhlcilaaGreatAJC1a0
import Derived.Test.YtbdkbdafhlcilaaGreatAJC0c0
import Derived.Test.YtbdkbdafhlcilaaGreatAJC0b0
set_option linter.unusedSimpArgs false
set_option linter.unusedVariables false
set_option linter.unusedSimpArgs false
set_option linter.unusedVariables false
namespace Go.Proofs.YtbdkbdafhlcilaaGreat
open Go Go.RowKit
set_option maxRecDepth 100000
set_option maxHeartbeats 20000000
instance X9h : ∀ (p0 : Q8) (q0 : (List Q8)), Ct (Q58 p0 q0) fun res => Z0 Tryz.prog 0o00455 [(.agg (V3 p0)), .cptr [(.slice 3 (List.map V3 q0))]] (fun d => d = (eB res)) :=
 au Tryz.func301 Q58.eq_1 .z
end Go.Proofs.YtbdkbdafhlcilaaGreat
set_option linter.unusedSimpArgs false
set_option linter.unusedVariables false
namespace Go.Proofs.YtbdkbdafhlcilaaGreat
open Go Go.RowKit
set_option maxRecDepth 100000
set_option maxHeartbeats 20000000
instance W3h : ∀ (p0 : Q2) (q0 : (List Q3)), Ct (Q81 p0 q0) fun res => Z0 Tryz.prog 0o00410 [(.agg (X0 p0)), .cptr [(.slice 2 (List.map W3 q0))]] (fun d => d = (eB res)) :=
 au Tryz.func264 Q81.eq_1 .z
end Go.Proofs.YtbdkbdafhlcilaaGreat
set_option linter.unusedSimpArgs false
set_option linter.unusedVariables false
namespace Go.Proofs.YtbdkbdafhlcilaaGreat
open Go Go.RowKit
set_option maxRecDepth 100000
set_option maxHeartbeats 20000000
instance W7e : ∀ (n : Nat) (p0 : Z8) (p1 : (List Q3)) (p2 : Q2) (p3 : Int), Ct (Q2a n p0 p1 p2 p3) fun res => J1 Tryz.prog 0o00232 [⟨2, [(Y4 p0)], 0, 0x009a⟩] [.ptr 2 0 0 0, (.slice 2 (List.map W3 p1)), (.agg (X0 p2)), (eI p3)] (fun H d => H = [some ⟨2, [(Y4 res.2)], 0, 0x009a⟩] ∧ d = (.agg (Q1 res.1))) :=
 ar (au Tryz.func154 Q2a.eq_2 (.o (.o (.o (.o (.o (.o (.i .z (.o (.i .z (.o (.i (.g [0, 1, 3, 6, 8] [0, 1, 9] [] [] (.o (.o (.d [0, 1, 2, 3, 4, 6, 7, 8, 9, 10, 5, 11, 12, 13, 14] [1] [] (.pF 19 .z))))) (.i .z (.o (.i .z (.o (.b fun (x37 : Int) => .o (.pC 241 5 6 0x0064 (.ls 74 (.f [8, 11] [0, 9, 241, 313] [0, 1, 3, 8, 11, 12, 13] [0, 9, 241, 313] (fun (k96 : Nat) (s92 : Z8 × (List Q0)) => [(13, eI (k96 : Int))]) (fun k96 s92 => [(0, some ⟨2, [(Y4 s92.1)], 0, 0x009a⟩), (1000000241, some ⟨6, [[(eI 4), (eI x37), (eI 0), (eI 0), (eI 0), (.sl 6 313 (s92.2).length)]], 0, 0x0064⟩), (313, some ⟨6, (List.map Q1 s92.2), 0, 0x0064⟩)]) (fun k96 s92 => .o (.g [0, 1, 3, 8, 11, 12, 13] [0, 1, 2, 3] [] [(1000000002, some ⟨6, [[(eI 4), (eI x37), (eI 0), (eI 0), (eI 0), (.sl 6 3 (s92.2).length)]], 0, 0x0064⟩)] (.o (.o (.d [0, 1, 2, 3, 4, 5, 6, 7, 8, 9, 10, 11, 12, 13, 14] [2] [94] .z))))) (fun s100 => .pF 3 .z)))))))))))))))))))))
end Go.Proofs.YtbdkbdafhlcilaaGreat
set_option linter.unusedSimpArgs false
set_option linter.unusedVariables false
namespace Go.Proofs.YtbdkbdafhlcilaaGreat
open Go Go.RowKit
set_option maxRecDepth 100000
set_option maxHeartbeats 20000000
instance W9o : ∀ (p0 : (List Q3)) (p1 : Q2) (p2 : Q0), Ct (Q70 p0 p1 p2) fun res => Z0 Tryz.prog 0o00401 [(.slice 2 (List.map W3 p0)), (.agg (X0 p1)), (.agg (Q1 p2))] (fun d => d = (eB res)) :=
 au Tryz.func257 Q70.eq_1 (.o (.o (.o (.e (.j 1 0 [0, 4, 5, 7] [0, 8] (fun (s2 : Bool) => [(7, eB s2)]) (fun _ => []) .z (fun s2 => .j 2 0 [0, 4, 5] [0, 1] (fun (s17 : Unit) => []) (fun _ => []) .z (fun s17 => .j 4 0 [0, 4, 5] [0, 1] (fun (s50 : Unit) => []) (fun _ => []) .z (fun s50 => .j 7 0 [0, 4, 5, 60, 61] [0, 1] (fun (s95 : Bool) => [(61, eB s95)]) (fun _ => []) .z (fun s95 => .i .z (.i .z (.i (.g [0, 4, 5] [0, 1] [] [] (.o (.o (.d [0, 1, 3, 4, 2, 5, 6] [0, 1] [] .z)))) .z)))))))))))
end Go.Proofs.YtbdkbdafhlcilaaGreat
set_option linter.unusedSimpArgs false
set_option linter.unusedVariables false
namespace Go.Proofs.YtbdkbdafhlcilaaGreat
open Go Go.RowKit
set_option maxRecDepth 100000
set_option maxHeartbeats 20000000
instance X5v : ∀ (n : Nat) (p0 : (List Q6)), Ct (Q1q n p0) fun res => Z0 Tryz.prog 0o00073 [(.slice 9 (List.map W6 p0))] (fun d => d = .tup [(.slice 1 (List.map (rL 6 Q1) res.1)), (eB res.2)]) :=
 au Tryz.func59 Q1q.eq_1 (.o (.o (.pN 4 1 0x005b (.ls 0 (.f [4] [48] [4, 7, 8, 9] [48] (fun (k96 : Nat) (s92 : (List (List Q0))) => [(4, .sl 1 48 (s92).length), (9, eI (k96 : Int))]) (fun k96 s92 => [(48, some ⟨1, (List.map (rL 6 Q1) s92), 0, 0x005b⟩)]) (fun k96 s92 => .o (.o (.i .z (.o (.o (.pF 98 .z)))))) (fun s100 => .z))))))
end Go.Proofs.YtbdkbdafhlcilaaGreat
set_option linter.unusedSimpArgs false
set_option linter.unusedVariables false
namespace Go.Proofs.YtbdkbdafhlcilaaGreat
open Go Go.RowKit
set_option maxRecDepth 100000
set_option maxHeartbeats 20000000
instance W5m : ∀ (n : Nat) (p0 : X4), Ct (Q1t n p0) fun res => Z0 Tryz.prog 0o00077 [(.agg (Q1g p0))] (fun d => d = (.agg (Q1g res))) :=
 ar (au Tryz.func63 Q1t.eq_2 (.o (.o (.b fun (p0 : X4) => .g [1, 2] [0, 8] [] [] (.b fun (r1 : ((List Q4))) => .b fun (r2 : ((List Int))) => .dz [0, 1, 2, 3, 4, 5, 7, 8, 6, 9, 10, 11, 12] [0] [1048579] [] (.pC 1048579 4 9 0x0075 (.ls 20 (.f [1, 2, 3] [0, 1, 1048579, 2097161, 2097208] [1, 2, 3, 20, 21, 22] [0, 1, 1048579, 2097161, 2097208] (fun (k58 : Nat) (s54 : (List Z1)) => [(22, eI (k58 : Int))]) (fun k58 s54 => [(1001048579, some ⟨6, [[(eI p0.op), (eI p0.clause), (.slice 2 (List.map Z2 r1)), (.sl 1 2097161 (r2).length), (.sl 9 2097208 (s54).length), .nil]], 0, 0x002b⟩), (2097208, some ⟨9, (List.map J4 s54), 0, 0x0075⟩)]) (fun k58 s54 => .z) (fun s62 => .pC 2 5 6 0x002b (.ls 38 (.f [2, 3] [1, 2, 3, 4, 37] [2, 3, 38, 39, 40] [1, 2, 3, 4, 37] (fun (k122 : Nat) (s118 : (List X4)) => [(40, eI (k122 : Int))]) (fun k122 s118 => [(1000000002, some ⟨6, [[(eI p0.op), (eI p0.clause), (.slice 2 (List.map Z2 r1)), (.sl 1 3 (r2).length), (.sl 9 4 (s62).length), (.sl 6 37 (s118).length)]], 0, 0x002b⟩), (37, some ⟨6, (List.map Q1g s118), 0, 0x002b⟩)]) (fun k122 s118 => .o (.g [2, 3, 7, 38, 39, 40] [0, 1, 2, 3, 4, 29] [] [(1000000001, some ⟨6, [[(eI p0.op), (eI p0.clause), (.slice 2 (List.map Z2 r1)), (.sl 1 2 (r2).length), (.sl 9 3 (s62).length), (.sl 6 4 (s118).length)]], 0, 0x002b⟩)] (.o (.o (.d [0, 1, 2, 3, 4, 5, 6, 7] [1, 5] [50] .z))))) (fun s126 => .z))))))))))))
end Go.Proofs.YtbdkbdafhlcilaaGreat
set_option linter.unusedSimpArgs false
set_option linter.unusedVariables false
namespace Go.Proofs.YtbdkbdafhlcilaaGreat
open Go Go.RowKit
set_option maxRecDepth 100000
set_option maxHeartbeats 20000000
instance W70 : ∀ (n : Nat) (p0 : (List Q6)), Ct (Q52 n p0) fun res => Z0 Tryz.prog 0o00213 [(.slice 9 (List.map W6 p0))] (fun d => d = (.slice 3 (List.map Q1w res))) :=
 au Tryz.func139 Q52.eq_1 (.o (.o (.ls 0 (.f [3] [8] [0, 3, 4] [8] (fun (k366 : Nat) (s362 : (List V1)) => [(3, .sl 3 8 (s362).length), (4, eI (k366 : Int))]) (fun k366 s362 => [(8, some ⟨3, (List.map Q1w s362), 0, 0x0109⟩)]) (fun k366 s362 => .o (.o (.ll 74 (.f [0, 3, 4] [0] [0, 3, 4, 5, 6] [0, 74] (fun (k428 : Nat) (s424 : (List V1)) => [(3, .sl 3 0 (s424).length), (6, eI (k428 : Int))]) (fun k428 s424 => [(0, some ⟨3, (List.map Q1w s424), 0, 0x0109⟩)]) (fun k428 s424 => .o (.o (.o (.pF 154 .z)))) (fun s432 => .z))))) (fun s370 => .z)))))
end Go.Proofs.YtbdkbdafhlcilaaGreat
