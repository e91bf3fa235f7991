import Derived.Test.YtbdkbdafhlcilaaGreatBJMir
import Derived.Test.YtbdkbdafhlcilaaGreatBJAuto
import Derived.Test.YtbdkbdafhlcilaaGreatBJC0a0
import Derived.Test.YtbdkbdafhlcilaaGreatBJC1c0
import Derived.Test.YtbdkbdafhlcilaaGreatBJC0c0
import Derived.Test.YtbdkbdafhlcilaaGreatBJC1b0
import Derived.Test.YtbdkbdafhlcilaaGreatBJC0b0
import Derived.Test.YtbdkbdafhlcilaaGreatBJC1d0
import Derived.Test.YtbdkbdafhlcilaaGreatBJC1a0
set_option linter.unusedSimpArgs false
set_option linter.unusedVariables false
set_option linter.unusedSimpArgs false
set_option linter.unusedVariables false
namespace Go.Proofs.YtbdkbdafhlcilaaGreat
open Go Go.RowKit
set_option maxRecDepth 100000
set_option maxHeartbeats 20000000
instance W9b : ∀ (p0 : (List Q3)) (p1 : Q5) (p2 : Q0), Ct (Q6v p0 p1 p2) fun res => Z1 Tryz.prog 0o00403 [(.slice 2 (List.map X9 p0)), (.agg (X7 p1)), (.agg (Q8 p2))] (fun d => d = .tup [(.slice 2 (List.map X7 res.1)), (eB res.2)]) :=
 au Tryz.func259 Q6v.eq_1 (.o (.o (.o (.i .z (.i .z (.i (.g [4, 5] [0, 8] [] [] (.i (.o (.i (.i (.i (.d [0, 1, 2, 3, 4, 5, 6, 7, 8, 9, 10, 11, 12, 13, 14, 15, 16, 17, 18, 19, 20, 21, 22, 23, 24, 25] [0, 1] [] .z) (.d [0, 1, 2, 3, 4, 5, 6, 7, 8, 9, 10, 11, 12, 13, 14, 15, 16, 17, 18, 19, 20, 21, 22, 23, 24, 25] [0, 1] [] .z)) (.d [0, 1, 2, 3, 4, 5, 6, 7, 8, 9, 10, 11, 12, 13, 14, 15, 16, 17, 18, 19, 20, 21, 22, 23, 24, 25] [0, 1] [] .z)) (.d [0, 1, 2, 3, 4, 5, 6, 7, 8, 9, 10, 11, 12, 13, 14, 15, 16, 17, 18, 19, 20, 21, 22, 23, 24, 25] [0, 1] [] .z))) (.d [0, 1, 2, 3, 4, 5, 6, 7, 8, 9, 10, 11, 12, 13, 14, 15, 16, 17, 18, 19, 20, 21, 22, 23, 24, 25] [0] [] .z))) (.i (.g [0, 4, 5] [0, 8] [] [] (.o (.o (.d [0, 1, 3, 4, 2, 5, 6] [0, 1] [] .z)))) (.i (.g [4, 5] [0, 8] [] [] (.o (.dz [0, 1, 3, 4, 2, 5, 6] [0, 1] [1048649] [] .z))) (.i (.g [4, 5] [0, 8] [] [] (.o (.i (.o (.dz [0, 2, 3, 4, 5, 6, 7, 8, 1, 9, 10] [0, 1] [1048655] [] .z)) (.dz [0, 2, 3, 4, 5, 6, 7, 8, 1, 9, 10] [0, 1] [1048655] [] .z)))) .z)))))))))
end Go.Proofs.YtbdkbdafhlcilaaGreat
set_option linter.unusedSimpArgs false
set_option linter.unusedVariables false
namespace Go.Proofs.YtbdkbdafhlcilaaGreat
open Go Go.RowKit
set_option maxRecDepth 100000
set_option maxHeartbeats 20000000
instance W56 : ∀ (p0 : Q2q) (p1 : (List Q9)), Ct (Q5b p0 p1) fun res => Z1 Tryz.prog 0o00271 [(.agg (Q74 p0)), (.slice 3 (List.map V5 p1))] (fun d => d = (eB res)) :=
 au Tryz.func185 Q5b.eq_1 .z
end Go.Proofs.YtbdkbdafhlcilaaGreat
set_option linter.unusedSimpArgs false
set_option linter.unusedVariables false
namespace Go.Proofs.YtbdkbdafhlcilaaGreat
open Go Go.RowKit
set_option maxRecDepth 100000
set_option maxHeartbeats 20000000
instance W55 : ∀ (n : Nat) (p0 : Z9), Ct (Q1m n p0) fun res => Z1 Tryz.prog 0o00077 [(.agg (Q16 p0))] (fun d => d = (.agg (Q16 res))) :=
 ar (au Tryz.func63 Q1m.eq_2 (.o (.o (.b fun (p0 : Z9) => .g [1, 2] [0, 8] [] [] (.b fun (r1 : ((List Q2))) => .b fun (r2 : ((List Int))) => .dz [0, 1, 2, 3, 4, 5, 7, 8, 6, 9, 10, 11, 12] [0] [1048579] [] (.pC 1048579 4 9 0x0075 (.ls 20 (.f [1, 2, 3] [0, 1, 1048579, 2097161, 2097208] [1, 2, 3, 20, 21, 22] [0, 1, 1048579, 2097161, 2097208] (fun (k58 : Nat) (s54 : (List Z0)) => [(22, eI (k58 : Int))]) (fun k58 s54 => [(1001048579, some ⟨6, [[(eI p0.op), (eI p0.clause), (.slice 2 (List.map Z3 r1)), (.sl 1 2097161 (r2).length), (.sl 9 2097208 (s54).length), .nil]], 0, 0x002b⟩), (2097208, some ⟨9, (List.map J1 s54), 0, 0x0075⟩)]) (fun k58 s54 => .z) (fun s62 => .pC 2 5 6 0x002b (.ls 38 (.f [2, 3] [1, 2, 3, 4, 37] [2, 3, 38, 39, 40] [1, 2, 3, 4, 37] (fun (k122 : Nat) (s118 : (List Z9)) => [(40, eI (k122 : Int))]) (fun k122 s118 => [(1000000002, some ⟨6, [[(eI p0.op), (eI p0.clause), (.slice 2 (List.map Z3 r1)), (.sl 1 3 (r2).length), (.sl 9 4 (s62).length), (.sl 6 37 (s118).length)]], 0, 0x002b⟩), (37, some ⟨6, (List.map Q16 s118), 0, 0x002b⟩)]) (fun k122 s118 => .o (.g [2, 3, 7, 38, 39, 40] [0, 1, 2, 3, 4, 29] [] [(1000000001, some ⟨6, [[(eI p0.op), (eI p0.clause), (.slice 2 (List.map Z3 r1)), (.sl 1 2 (r2).length), (.sl 9 3 (s62).length), (.sl 6 4 (s118).length)]], 0, 0x002b⟩)] (.o (.o (.d [0, 1, 2, 3, 4, 5, 6, 7] [1, 5] [50] .z))))) (fun s126 => .z))))))))))))
end Go.Proofs.YtbdkbdafhlcilaaGreat
set_option linter.unusedSimpArgs false
set_option linter.unusedVariables false
namespace Go.Proofs.YtbdkbdafhlcilaaGreat
open Go Go.RowKit
set_option maxRecDepth 100000
set_option maxHeartbeats 20000000
instance W0i : ∀ (p0 : Z0) (q0 : Q1), Ct (Q2v p0 q0) fun res => Z1 Tryz.prog 0o00220 [(.agg (J1 p0)), .cptr (X0 q0)] (fun d => d = (eB res)) :=
 au Tryz.func144 Q2v.eq_1 .z
end Go.Proofs.YtbdkbdafhlcilaaGreat
set_option linter.unusedSimpArgs false
set_option linter.unusedVariables false
namespace Go.Proofs.YtbdkbdafhlcilaaGreat
open Go Go.RowKit
set_option maxRecDepth 100000
set_option maxHeartbeats 20000000
instance W4j : ∀ (n : Nat) (p0 : (List Q3)) (p1 : (List Int)) (p2 : Q5) (p3 : Q0), Ct (Q0t n p0 p1 p2 p3) fun res => Z1 Tryz.prog 0o00247 [(.slice 2 (List.map X9 p0)), (.slice 1 (List.map rI p1)), (.agg (X7 p2)), (.agg (Q8 p3))] (fun d => d = (eB res)) :=
 ar (au Tryz.func167 Q0t.eq_2 (.o (.o (.o (.o (.o (.o (.i .z (.i .z (.o (.ls 25 (.f [] [] [0, 1, 7, 9, 10] [8] (fun (k71 : Nat) (s67 : Unit) => [(10, eI (k71 : Int))]) (fun k71 s67 => []) (fun k71 s67 => .o (.g [0, 1, 7, 9, 10] [0] [] [] (.o (.o (.d [0, 1, 2, 3, 4, 5, 6, 7, 8, 9, 10, 11, 12] [0] [] .z))))) (fun s75 => .z)))))))))))))
end Go.Proofs.YtbdkbdafhlcilaaGreat
set_option linter.unusedSimpArgs false
set_option linter.unusedVariables false
namespace Go.Proofs.YtbdkbdafhlcilaaGreat
open Go Go.RowKit
set_option maxRecDepth 100000
set_option maxHeartbeats 20000000
instance W6t : ∀ (p0 : (List Q3)) (p1 : Q5) (p2 : Int), Ct (Q42 p0 p1 p2) fun res => Z1 Tryz.prog 0o00375 [(.slice 2 (List.map X9 p0)), (.agg (X7 p1)), (eI p2)] (fun d => d = (.agg (Q8 res))) :=
 au Tryz.func253 Q42.eq_1 (.o (.o (.b fun (p2 : Int) => .o (.pC 32 5 6 0x0064 (.ls 15 (.f [6, 7] [8, 32, 96] [6, 7, 8, 9] [8, 32, 96] (fun (k49 : Nat) (s45 : (List Q0)) => [(9, eI (k49 : Int))]) (fun k49 s45 => [(1000000032, some ⟨6, [[(eI 4), (eI p2), (eI 0), (eI 0), (eI 0), (.sl 6 96 (s45).length)]], 0, 0x0064⟩), (96, some ⟨6, (List.map Q8 s45), 0, 0x0064⟩)]) (fun k49 s45 => .o (.g [6, 7, 8, 9] [0, 1, 2] [] [(1000000001, some ⟨6, [[(eI 4), (eI p2), (eI 0), (eI 0), (eI 0), (.sl 6 2 (s45).length)]], 0, 0x0064⟩)] (.o (.o (.d [0, 1, 2, 3, 4, 5, 6] [1] [27] .z))))) (fun s53 => .z)))))))
end Go.Proofs.YtbdkbdafhlcilaaGreat
