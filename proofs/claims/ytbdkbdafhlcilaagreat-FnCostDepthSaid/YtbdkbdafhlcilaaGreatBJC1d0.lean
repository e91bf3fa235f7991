import Derived.Test.YtbdkbdafhlcilaaGreatBJMir
import Derived.Test.YtbdkbdafhlcilaaGreatBJAuto
import Derived.Test.YtbdkbdafhlcilaaGreatBJC0b0
import Derived.Test.YtbdkbdafhlcilaaGreatBJC0d0
import Derived.Test.YtbdkbdafhlcilaaGreatBJC0a0
import Derived.Test.YtbdkbdafhlcilaaGreatBJC0c0
set_option linter.unusedSimpArgs false
set_option linter.unusedVariables false
set_option linter.unusedSimpArgs false
set_option linter.unusedVariables false
namespace Go.Proofs.YtbdkbdafhlcilaaGreat
open Go Go.RowKit
set_option maxRecDepth 100000
set_option maxHeartbeats 20000000
instance Z5a : ∀ (p0 : (List Q9)) (p1 : (Q9 → Option Bool)) {p1_f : FuncId} {p1_c : List D} [p1_i : CF1 (fun a0 => (.agg (V5 a0))) (fun r => (eB r)) p1 p1_f p1_c], Ct (Q0z p0 p1) fun res => Z1 Tryz.prog 0o00454 [(.slice 3 (List.map V5 p0)), .clos p1_f p1_c] (fun d => d = (eB res)) :=
 au Tryz.func300 Q0z.eq_1 .z
end Go.Proofs.YtbdkbdafhlcilaaGreat
set_option linter.unusedSimpArgs false
set_option linter.unusedVariables false
namespace Go.Proofs.YtbdkbdafhlcilaaGreat
open Go Go.RowKit
set_option maxRecDepth 100000
set_option maxHeartbeats 20000000
instance Z8b : ∀ (p0 : (List Q9)) (p1 : Q9), Ct (Q0d p0 p1) fun res => Z1 Tryz.prog 0o00352 [(.slice 3 (List.map V5 p0)), (.agg (V5 p1))] (fun d => d = (eB res)) :=
 au Tryz.func234 Q0d.eq_1 .z
end Go.Proofs.YtbdkbdafhlcilaaGreat
set_option linter.unusedSimpArgs false
set_option linter.unusedVariables false
namespace Go.Proofs.YtbdkbdafhlcilaaGreat
open Go Go.RowKit
set_option maxRecDepth 100000
set_option maxHeartbeats 20000000
instance W9e : ∀ (p0 : (List Q3)) (p1 : Q5), Ct (Z0d p0 p1) fun res => Z1 Tryz.prog 0o00411 [(.slice 2 (List.map X9 p0)), (.agg (X7 p1))] (fun d => d = (eB res)) :=
 au Tryz.func265 Z0d.eq_1 .z
end Go.Proofs.YtbdkbdafhlcilaaGreat
set_option linter.unusedSimpArgs false
set_option linter.unusedVariables false
namespace Go.Proofs.YtbdkbdafhlcilaaGreat
open Go Go.RowKit
set_option maxRecDepth 100000
set_option maxHeartbeats 20000000
instance X1b : ∀ (p0 : (List (List Z6))), Ct (Q1g p0) fun res => Z1 Tryz.prog 0o00207 [(.slice 1 (List.map (rL 3 Q15) p0))] (fun d => d = (.slice 3 (List.map Q15 res))) :=
 au Tryz.func135 Q1g.eq_1 (.o (.ls 0 (.f [0, 3] [] [0, 3, 9, 10, 11] [] (fun (k46 : Nat) (s42 : Int) => [(3, eI s42), (11, eI (k46 : Int))]) (fun k46 s42 => []) (fun k46 s42 => .z) (fun s50 => .o (.ls 0 (.f [6] [9] [6, 25, 26, 27] [9] (fun (k99 : Nat) (s95 : (List Z6)) => [(6, .sl 3 9 (s95).length), (27, eI (k99 : Int))]) (fun k99 s95 => [(9, some ⟨3, (List.map Q15 s95), 0, 0x006f⟩)]) (fun k99 s95 => .z) (fun s103 => .z)))))))
end Go.Proofs.YtbdkbdafhlcilaaGreat
set_option linter.unusedSimpArgs false
set_option linter.unusedVariables false
namespace Go.Proofs.YtbdkbdafhlcilaaGreat
open Go Go.RowKit
set_option maxRecDepth 100000
set_option maxHeartbeats 20000000
instance W4n : ∀ (n : Nat) (p0 : Q0), Ct (Q0c n p0) fun res => J8 Tryz.prog 0o00211 [] [(.agg (Q8 p0))] (fun H d => H = [some ⟨6, List.map Q8 res, 0, 0x0064⟩] ∧ d = .sl 6 0 res.length) :=
 ar (au Tryz.func137 Q0c.eq_2 (.o (.o (.b fun (p0 : Q0) => .i (.g [1] [0] [] [] (.o (.o (.o (.o (.b fun (x16 : (List Q0)) => .d [0, 1, 2, 3, 5, 6, 7, 8, 4, 9, 10, 11] [0] [] (.i (.gr 4 [3] [17] [(3, .sl 6 17 (x16).length)] [(17, some ⟨6, (List.map Q8 x16), 0, 0x0064⟩)] (.b fun (x20 : (List Q0)) => .pS 0 401 Q8 x20 .z)) .z))))))) (.lc 0 5 6 Q8 p0.kids (.f [1, 4] [0, 40] [1, 4, 5] [0, 40] (fun (k76 : Nat) (s72 : (List (List Q0))) => [(4, .sl 1 40 (s72).length), (5, eI (k76 : Int))]) (fun k76 s72 => [(40, some ⟨1, (List.map (rL 6 Q8) s72), 0, 0x005b⟩)]) (fun k76 s72 => .o (.o (.o (.pF 91 .z)))) (fun s80 => .o (.ls 48 (.f [7] [26] [1, 6, 7, 8] [0, 26] (fun (k131 : Nat) (s127 : (List Q0)) => [(7, .sl 6 26 (s127).length), (8, eI (k131 : Int))]) (fun k131 s127 => [(26, some ⟨6, (List.map Q8 s127), 0, 0x0064⟩)]) (fun k131 s127 => .z) (fun s135 => .z))))))))))
end Go.Proofs.YtbdkbdafhlcilaaGreat
set_option linter.unusedSimpArgs false
set_option linter.unusedVariables false
namespace Go.Proofs.YtbdkbdafhlcilaaGreat
open Go Go.RowKit
set_option maxRecDepth 100000
set_option maxHeartbeats 20000000
instance W4z : ∀ (p0 : (List Int)) (p1 : Q5), Ct (Q1l p0 p1) fun res => Z1 Tryz.prog 0o00150 [(.slice 1 (List.map rI p0)), (.agg (X7 p1))] (fun d => d = (eI res)) :=
 au Tryz.func104 Q1l.eq_1 .z
end Go.Proofs.YtbdkbdafhlcilaaGreat
set_option linter.unusedSimpArgs false
set_option linter.unusedVariables false
namespace Go.Proofs.YtbdkbdafhlcilaaGreat
open Go Go.RowKit
set_option maxRecDepth 100000
set_option maxHeartbeats 20000000
instance W7c : ∀ (p0 : (List Q3)) (p1 : Q5) (p2 : Int), Ct (Q0f p0 p1 p2) fun res => Z1 Tryz.prog 0o00151 [(.slice 2 (List.map X9 p0)), (.agg (X7 p1)), (eI p2)] (fun d => d = (.slice 2 (List.map X7 res))) :=
 au Tryz.func105 Q0f.eq_1 (.o (.o (.o (.o (.b fun (x2 : Q70) => .lc 104 1 2 X7 x2.args (.f [7] [16] [4, 7, 8, 9] [0, 16, 104] (fun (k118 : Nat) (s114 : (List Q5)) => [(7, .sl 2 16 (s114).length), (9, eI (k118 : Int))]) (fun k118 s114 => [(16, some ⟨2, (List.map X7 s114), 0, 0x0019⟩)]) (fun k118 s114 => .b fun (x119 : Q5) => .j 7 0 [4, 7, 8, 9, 10] [0, 1, 2, 83] (fun (s133 : Int) => []) (fun s133 => [(83, some ⟨2, [[(eI x119.data), (eI s133)]], 0, 0x0019⟩)]) .z (fun _ => .z)) (fun s122 => .z)))))))
end Go.Proofs.YtbdkbdafhlcilaaGreat
set_option linter.unusedSimpArgs false
set_option linter.unusedVariables false
namespace Go.Proofs.YtbdkbdafhlcilaaGreat
open Go Go.RowKit
set_option maxRecDepth 100000
set_option maxHeartbeats 20000000
instance W4e : ∀ (n : Nat) (p0 : V4) (p1 : Q0) (p2 : (List Int)), Ct (Q38 n p0 p1 p2) fun res => Z1 Tryz.prog 0o00332 [(.agg (Q1n p0)), (.agg (Q8 p1)), (.slice 1 (List.map rI p2))] (fun d => d = .tup [(.agg (Q1n res.1)), (.agg (Q8 res.2))]) :=
 au Tryz.func218 Q38.eq_1 (.o (.b fun (p0 : V4) => .o (.b fun (p2 : (List Int)) => .w [2, 3, 4, 6, 7] [0, 8, 16, 24] [2, 3, 4, 6, 7] [0, 8, 16, 24] (fun (s16 : (List Q2) × Q0) => []) (fun s16 => [(0, some ⟨3, [[(eI p0.clause), (.slice 6 (List.map Q8 p0.pats)), (.slice 2 (List.map Z3 s16.1))]], 0, 0x0109⟩), (8, some ⟨6, [(Q8 s16.2)], 0, 0x0064⟩)]) (fun s16 => .i (.g [2, 3, 4, 6, 7] [0, 1, 2, 3] [] [] (.o (.o (.o (.dz [1, 2, 4, 5, 7, 0, 3, 6, 8, 9, 10, 11, 12, 13] [0, 1] [1048593] [23] (.o (.pF 2097168 (.pF 2097184 .z)))))))) .z) (fun s24 => .i (.g [2, 3, 4, 6, 7] [0, 1, 2, 3] [] [] (.o (.o (.o (.dz [1, 2, 4, 5, 7, 0, 3, 6, 8, 9, 10, 11, 12, 13] [0, 1] [1048613] [43] (.pF 2097168 (.g [3, 6, 7] [0, 2097184, 2, 3] [] [(1000000000, some ⟨3, [[(eI p0.clause), (.slice 6 (List.map Q8 p0.pats)), (.sl 2 2097184 ((s24.1 ++ [(Q2.mk s24.2.var p2)])).length)]], 0, 0x0109⟩), (2097184, some ⟨2, (List.map Z3 (s24.1 ++ [(Q2.mk s24.2.var p2)])), 0, 0x0073⟩)] (.o (.d [0, 1, 2, 3] [0] [] .z))))))))) (.g [3, 4, 6, 7] [0, 1, 2, 3] [] [] (.d [0, 1, 2, 3] [0, 1] [] .z))))))
end Go.Proofs.YtbdkbdafhlcilaaGreat
set_option linter.unusedSimpArgs false
set_option linter.unusedVariables false
namespace Go.Proofs.YtbdkbdafhlcilaaGreat
open Go Go.RowKit
set_option maxRecDepth 100000
set_option maxHeartbeats 20000000
instance W0g : ∀ (n : Nat) (p0 : ByteArray), Ct (Q76 n p0) fun res => Z1 Tryz.prog 0o00432 [(eS p0)] (fun d => d = (eB res)) :=
 au Tryz.func282 Q76.eq_1 (.o (.o (.i .z (.i .z (.o (.o (.i .z (.w [] [] [0, 3] [] (fun (s132 : Int) => [(3, eI s132)]) (fun s132 => []) (fun s132 => .z) (fun s140 => .z)))))))))
end Go.Proofs.YtbdkbdafhlcilaaGreat
