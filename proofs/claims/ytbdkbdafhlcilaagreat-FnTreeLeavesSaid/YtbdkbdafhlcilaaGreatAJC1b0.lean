import Derived.Test.YtbdkbdafhlcilaaGreatAJMir
import Derived.Test.YtbdkbdafhlcilaaGreatAJAuto
import Derived.Test.YtbdkbdafhlcilaaGreatAJC0d0
import Derived.Test.YtbdkbdafhlcilaaGreatAJC0b0
import Derived.Test.YtbdkbdafhlcilaaGreatAJC0a0
import Derived.Test.YtbdkbdafhlcilaaGreatAJC0c0
set_option linter.unusedSimpArgs false
set_option linter.unusedVariables false
set_option linter.unusedSimpArgs false
set_option linter.unusedVariables false
namespace Go.Proofs.YtbdkbdafhlcilaaGreat
open Go Go.RowKit
set_option maxRecDepth 100000
set_option maxHeartbeats 20000000
instance Z90 : ∀ (p0 : (List Q8)) (p1 : Q8), Ct (Q0a p0 p1) fun res => Z0 Tryz.prog 0o00352 [(.slice 3 (List.map V3 p0)), (.agg (V3 p1))] (fun d => d = (eB res)) :=
 au Tryz.func234 Q0a.eq_1 .z
end Go.Proofs.YtbdkbdafhlcilaaGreat
set_option linter.unusedSimpArgs false
set_option linter.unusedVariables false
namespace Go.Proofs.YtbdkbdafhlcilaaGreat
open Go Go.RowKit
set_option maxRecDepth 100000
set_option maxHeartbeats 20000000
instance Z5s : ∀ (p0 : (List Q0)) (p1 : (Q0 → Option Bool)) {p1_f : FuncId} {p1_c : List D} [p1_i : CF1 (fun a0 => (.agg (Q1 a0))) (fun r => (eB r)) p1 p1_f p1_c], Ct (Q11 p0 p1) fun res => Z0 Tryz.prog 0o00307 [(.slice 6 (List.map Q1 p0)), .clos p1_f p1_c] (fun d => d = (eB res)) :=
 au Tryz.func199 Q11.eq_1 .z
end Go.Proofs.YtbdkbdafhlcilaaGreat
set_option linter.unusedSimpArgs false
set_option linter.unusedVariables false
namespace Go.Proofs.YtbdkbdafhlcilaaGreat
open Go Go.RowKit
set_option maxRecDepth 100000
set_option maxHeartbeats 20000000
instance X7q : ∀ (n : Nat) (p0 : Q1e) (p1 : Q2) (p2 : Q0) (p3 : Q0), Ct (V0 n p0 p1 p2 p3) fun res => Z0 Tryz.prog 0o00242 [.cptr (Q20 p0), (.agg (X0 p1)), (.agg (Q1 p2)), (.agg (Q1 p3))] (fun d => d = .tup [(.agg (Q1 res.1)), (eB res.2)]) :=
 ar (au Tryz.func162 V0.eq_2 (.o (.o (.o (.o (.b fun (p2 : Q0) => .o (.i .z (.i .z (.i .z (.i .z (.g [0, 5, 6, 7, 8, 11] [0, 8, 16, 24, 208] [] [] (.o (.d [0, 1, 2, 3, 4, 5, 6, 9, 7, 8] [0, 1] [] (.pC 4 5 6 0x0064 (.ls 66 (.f [8, 11] [3, 4, 13] [0, 6, 7, 8, 11, 66, 67, 68] [1, 2, 3, 4, 13] (fun (k114 : Nat) (s110 : (List Q0)) => [(68, eI (k114 : Int))]) (fun k114 s110 => [(1000000004, some ⟨6, [[(eI 4), (eI p2.ctor), (eI 0), (eI 0), (eI 0), (.sl 6 13 (s110).length)]], 0, 0x0064⟩), (13, some ⟨6, (List.map Q1 s110), 0, 0x0064⟩)]) (fun k114 s110 => .o (.g [0, 6, 7, 8, 11, 12, 13, 66, 67, 68] [0, 1, 2, 3, 4, 37] [] [(1000000003, some ⟨6, [[(eI 4), (eI p2.ctor), (eI 0), (eI 0), (eI 0), (.sl 6 4 (s110).length)]], 0, 0x0064⟩)] (.o (.o (.o (.dz [0, 1, 2, 3, 4, 5, 6, 7, 8, 9, 10, 11, 12, 13, 14, 15, 16, 17, 18] [0, 1, 5] [1048590] [] .z)))))) (fun s118 => .z)))))))))))))))))
end Go.Proofs.YtbdkbdafhlcilaaGreat
set_option linter.unusedSimpArgs false
set_option linter.unusedVariables false
namespace Go.Proofs.YtbdkbdafhlcilaaGreat
open Go Go.RowKit
set_option maxRecDepth 100000
set_option maxHeartbeats 20000000
instance X5w : ∀ (p0 : Q1e) (p1 : Q2) (p2 : Int), Ct (Q2p p0 p1 p2) fun res => Z0 Tryz.prog 0o00367 [.cptr (Q20 p0), (.agg (X0 p1)), (eI p2)] (fun d => d = (.agg (Q1 res))) :=
 au Tryz.func247 Q2p.eq_1 (.o (.o (.b fun (p2 : Int) => .g [0, 2, 4, 6, 7] [0, 8, 32] [] [] (.o (.d [0, 1, 2, 3, 4, 5, 8, 6, 7] [0] [] (.pC 2 5 6 0x0064 (.ls 16 (.f [6, 7] [1, 2, 11] [6, 7, 17, 18] [1, 2, 11] (fun (k50 : Nat) (s46 : (List Q0)) => [(18, eI (k50 : Int))]) (fun k50 s46 => [(1000000002, some ⟨6, [[(eI 4), (eI p2), (eI 0), (eI 0), (eI 0), (.sl 6 11 (s46).length)]], 0, 0x0064⟩), (11, some ⟨6, (List.map Q1 s46), 0, 0x0064⟩)]) (fun k50 s46 => .o (.g [6, 7, 17, 18] [0, 1, 2] [] [(1000000001, some ⟨6, [[(eI 4), (eI p2), (eI 0), (eI 0), (eI 0), (.sl 6 2 (s46).length)]], 0, 0x0064⟩)] (.o (.o (.d [0, 1, 2, 3, 4, 5, 6] [1] [25] .z))))) (fun s54 => .z)))))))))
end Go.Proofs.YtbdkbdafhlcilaaGreat
set_option linter.unusedSimpArgs false
set_option linter.unusedVariables false
namespace Go.Proofs.YtbdkbdafhlcilaaGreat
open Go Go.RowKit
set_option maxRecDepth 100000
set_option maxHeartbeats 20000000
instance X50 : ∀ (p0 : (List Int)) (p1 : (List Q3)) (p2 : Q2) (p3 : Int), Ct (Q0t p0 p1 p2 p3) fun res => Z0 Tryz.prog 0o00313 [.cptr (List.map cI p0), (.slice 2 (List.map W3 p1)), (.agg (X0 p2)), (eI p3)] (fun d => d = (eI res)) :=
 au Tryz.func203 Q0t.eq_1 (.o (.o (.o (.o (.o (.ls 16 (.f [9] [] [0, 9, 16, 17, 18] [] (fun (k68 : Nat) (s64 : Int) => [(9, eI s64), (18, eI (k68 : Int))]) (fun k68 s64 => []) (fun k68 s64 => .z) (fun s72 => .z))))))))
end Go.Proofs.YtbdkbdafhlcilaaGreat
set_option linter.unusedSimpArgs false
set_option linter.unusedVariables false
namespace Go.Proofs.YtbdkbdafhlcilaaGreat
open Go Go.RowKit
set_option maxRecDepth 100000
set_option maxHeartbeats 20000000
instance X7l : ∀ (p0 : (List ByteArray)) (p1 : ByteArray), Ct (Q6e p0 p1) fun res => Z0 Tryz.prog 0o00452 [(.slice 1 (List.map rS p0)), (eS p1)] (fun d => d = (.agg (X0 res))) :=
 au Tryz.func298 Q6e.eq_1 (.o (.o (.i .z (.o (.b fun (r4 : (Int)) => .j 4 0 [4, 5] [0, 64] (fun (s18 : Int) => []) (fun s18 => [(64, some ⟨2, [[(eI r4), (eI s18)]], 0, 0x0019⟩)]) .z (fun _ => .z))))))
end Go.Proofs.YtbdkbdafhlcilaaGreat
set_option linter.unusedSimpArgs false
set_option linter.unusedVariables false
namespace Go.Proofs.YtbdkbdafhlcilaaGreat
open Go Go.RowKit
set_option maxRecDepth 100000
set_option maxHeartbeats 20000000
instance W5b : ∀ (p0 : (List Q8)) (p1 : (List Q8)), Ct (Q4k p0 p1) fun res => Z0 Tryz.prog 0o00402 [(.slice 3 (List.map V3 p0)), (.slice 3 (List.map V3 p1))] (fun d => d = (eB res)) :=
 au Tryz.func258 Q4k.eq_1 (.o (.o (.ls 0 (.f [0, 1] [] [0, 1, 5] [] (fun (k124 : Nat) (s120 : Unit) => [(5, eI (k124 : Int))]) (fun k124 s120 => []) (fun k124 s120 => .o (.o (.g [0, 1, 5, 6] [] [] [] (.i (.d [0, 1, 2, 3, 4, 5, 6, 7, 8, 9, 10, 11, 12, 13, 14] [] [] .z) (.o (.d [0, 1, 2, 3, 4, 5, 6, 7, 8, 9, 10, 11, 12, 13, 14] [] [] .z)))))) (fun s128 => .z)))))
end Go.Proofs.YtbdkbdafhlcilaaGreat
set_option linter.unusedSimpArgs false
set_option linter.unusedVariables false
namespace Go.Proofs.YtbdkbdafhlcilaaGreat
open Go Go.RowKit
set_option maxRecDepth 100000
set_option maxHeartbeats 20000000
instance Z43 : ∀ (n : Nat) (p0 : (List Q4)) (p1 : Int) (p2 : Int) (p3 : Int) (p4 : (Q4 → Q4 → Option Int)) {p4_f : FuncId} {p4_c : List D} [p4_i : CF2 (fun a0 => (.agg (Z2 a0))) (fun a1 => (.agg (Z2 a1))) (fun r => (eI r)) p4 p4_f p4_c], Ct (Q0f n p0 p1 p2 p3 p4) fun res => J1 Tryz.prog 0o00372 [⟨2, List.map Z2 p0, 0, 0x0073⟩] [.sl 2 0 p0.length, (eI p1), (eI p2), (eI p3), .clos p4_f p4_c] (fun H d => H = [some ⟨2, List.map Z2 res, 0, 0x0073⟩] ∧ d = .tup []) :=
 ar (au Tryz.func250 Q0f.eq_2 (.o (.o (.o (.o (.o (.o (.o (.o (.o (.o (.w [] [0] [0, 1, 2, 3, 4, 10, 11] [0] (fun (s10 : Unit) => []) (fun s10 => []) (fun s10 => .z) (fun s18 => .z)))))))))))))
end Go.Proofs.YtbdkbdafhlcilaaGreat
set_option linter.unusedSimpArgs false
set_option linter.unusedVariables false
namespace Go.Proofs.YtbdkbdafhlcilaaGreat
open Go Go.RowKit
set_option maxRecDepth 100000
set_option maxHeartbeats 20000000
instance W58 : ∀ (n : Nat) (p0 : Q0), Ct (Q08 n p0) fun res => J1 Tryz.prog 0o00211 [] [(.agg (Q1 p0))] (fun H d => H = [some ⟨6, List.map Q1 res, 0, 0x0064⟩] ∧ d = .sl 6 0 res.length) :=
 ar (au Tryz.func137 Q08.eq_2 (.o (.o (.b fun (p0 : Q0) => .i (.g [1] [0] [] [] (.o (.o (.o (.o (.b fun (x16 : (List Q0)) => .d [0, 1, 2, 3, 5, 6, 7, 8, 4, 9, 10, 11] [0] [] (.i (.gr 4 [3] [17] [(3, .sl 6 17 (x16).length)] [(17, some ⟨6, (List.map Q1 x16), 0, 0x0064⟩)] (.b fun (x20 : (List Q0)) => .pS 0 401 Q1 x20 .z)) .z))))))) (.lc 0 5 6 Q1 p0.kids (.f [1, 4] [0, 40] [1, 4, 5] [0, 40] (fun (k76 : Nat) (s72 : (List (List Q0))) => [(4, .sl 1 40 (s72).length), (5, eI (k76 : Int))]) (fun k76 s72 => [(40, some ⟨1, (List.map (rL 6 Q1) s72), 0, 0x005b⟩)]) (fun k76 s72 => .o (.o (.o (.pF 91 .z)))) (fun s80 => .o (.ls 48 (.f [7] [26] [1, 6, 7, 8] [0, 26] (fun (k131 : Nat) (s127 : (List Q0)) => [(7, .sl 6 26 (s127).length), (8, eI (k131 : Int))]) (fun k131 s127 => [(26, some ⟨6, (List.map Q1 s127), 0, 0x0064⟩)]) (fun k131 s127 => .z) (fun s135 => .z))))))))))
end Go.Proofs.YtbdkbdafhlcilaaGreat
set_option linter.unusedSimpArgs false
set_option linter.unusedVariables false
namespace Go.Proofs.YtbdkbdafhlcilaaGreat
open Go Go.RowKit
set_option maxRecDepth 100000
set_option maxHeartbeats 20000000
instance W56 : ∀ (p0 : Q6l) (p1 : (List Q8)), Ct (Q4j p0 p1) fun res => Z0 Tryz.prog 0o00302 [(.agg (Q9j p0)), (.slice 3 (List.map V3 p1))] (fun d => d = (eB res)) :=
 au Tryz.func194 Q4j.eq_1 (.o (.o (.i .z (.j 3 0 [1, 2] [0] (fun (s23 : Unit) => []) (fun _ => []) .z (fun _ => .z)))))
end Go.Proofs.YtbdkbdafhlcilaaGreat
