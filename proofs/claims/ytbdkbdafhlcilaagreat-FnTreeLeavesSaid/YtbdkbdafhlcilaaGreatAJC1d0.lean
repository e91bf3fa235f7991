import Derived.Test.YtbdkbdafhlcilaaGreatAJMir
import Derived.Test.YtbdkbdafhlcilaaGreatAJAuto
import Derived.Test.YtbdkbdafhlcilaaGreatAJC0d0
import Derived.Test.YtbdkbdafhlcilaaGreatAJC0c0
import Derived.Test.YtbdkbdafhlcilaaGreatAJC0b0
import Derived.Test.YtbdkbdafhlcilaaGreatAJC0a0
set_option linter.unusedSimpArgs false
set_option linter.unusedVariables false
set_option linter.unusedSimpArgs false
set_option linter.unusedVariables false
namespace Go.Proofs.YtbdkbdafhlcilaaGreat
open Go Go.RowKit
set_option maxRecDepth 100000
set_option maxHeartbeats 20000000
instance W9w : ∀ (p0 : (List Q3)) (p1 : Q2), Ct (Z0w p0 p1) fun res => Z0 Tryz.prog 0o00411 [(.slice 2 (List.map W3 p0)), (.agg (X0 p1))] (fun d => d = (eB res)) :=
 au Tryz.func265 Z0w.eq_1 .z
end Go.Proofs.YtbdkbdafhlcilaaGreat
set_option linter.unusedSimpArgs false
set_option linter.unusedVariables false
namespace Go.Proofs.YtbdkbdafhlcilaaGreat
open Go Go.RowKit
set_option maxRecDepth 100000
set_option maxHeartbeats 20000000
instance W9s : ∀ (n : Nat) (p0 : Q0), Ct (Q1y n p0) fun res => J1 Tryz.prog 0o00174 [] [(.agg (Q1 p0))] (fun H d => H = [some ⟨6, List.map Q1 res, 0, 0x0064⟩] ∧ d = .sl 6 0 res.length) :=
 ar (au Tryz.func124 Q1y.eq_2 (.o (.o (.o (.i (.g [1] [0] [] [] (.o (.o (.o (.o (.o (.d [0, 1, 2, 3, 5, 6, 7, 8, 4, 9, 10, 11] [0] [] .z))))))) (.ls 29 (.f [4] [88] [4, 33, 34, 35] [88] (fun (k5018 : Nat) (s5014 : (List Q0)) => [(4, .sl 6 88 (s5014).length), (35, eI (k5018 : Int))]) (fun k5018 s5014 => [(88, some ⟨6, (List.map Q1 s5014), 0, 0x0064⟩)]) (fun k5018 s5014 => .o (.o (.pN 8 6 0x0064 (.ll 0 (.f [8, 33, 34, 35] [97] [7, 8, 33, 34, 35, 41, 42, 43] [50, 97, 0] (fun (k5936 : Nat) (s5932 : (List Q0)) => [(8, .sl 6 97 (s5932).length), (43, eI (k5936 : Int))]) (fun k5936 s5932 => [(97, some ⟨6, (List.map Q1 s5932), 0, 0x0064⟩)]) (fun k5936 s5932 => .o (.ll 0 (.f [7, 8, 33, 34, 35, 41, 42, 43] [0, 1, 2] [7, 8, 10, 33, 34, 35, 41, 42, 43, 47, 48, 49] [0, 1, 27, 2] (fun (k6006 : Nat) (s6002 : (List Q0)) => [(8, .sl 6 1 (s6002).length), (49, eI (k6006 : Int))]) (fun k6006 s6002 => [(1, some ⟨6, (List.map Q1 s6002), 0, 0x0064⟩)]) (fun k6006 s6002 => .o (.g [7, 8, 10, 12, 13, 33, 34, 35, 41, 42, 43, 47, 48, 49] [0, 1, 2, 28, 52, 3] [] [] (.o (.o (.dz [0, 1, 3, 2, 4, 5, 6, 7] [2, 3] [1048634] [] (.o (.pF 2097160 .z))))))) (fun s6010 => .z)))) (fun s5940 => .z)))))) (fun s5022 => .z))))))))
end Go.Proofs.YtbdkbdafhlcilaaGreat
set_option linter.unusedSimpArgs false
set_option linter.unusedVariables false
namespace Go.Proofs.YtbdkbdafhlcilaaGreat
open Go Go.RowKit
set_option maxRecDepth 100000
set_option maxHeartbeats 20000000
instance W7m : ∀ (p0 : ByteArray), Ct (Q9r p0) fun res => Z0 Tryz.prog 0o00356 [(eS p0)] (fun d => d = (eB res)) :=
 au Tryz.func238 Q9r.eq_1 .z
end Go.Proofs.YtbdkbdafhlcilaaGreat
set_option linter.unusedSimpArgs false
set_option linter.unusedVariables false
namespace Go.Proofs.YtbdkbdafhlcilaaGreat
open Go Go.RowKit
set_option maxRecDepth 100000
set_option maxHeartbeats 20000000
instance W0u : ∀ (n : Nat) (p0 : Grow) (p1 : Q0) (p2 : (List Int)), Ct (Q26 n p0 p1 p2) fun res => J1 Tryz.prog 0o00074 [] [(.agg (Q47 p0)), (.agg (Q1 p1)), (.slice 1 (List.map rI p2))] (fun H d => H = [some ⟨6, List.map Q1 res.pats, 0, 0x0064⟩] ∧ d = .agg [(eI res.clause), .sl 6 0 res.pats.length, (.slice 2 (List.map Z2 res.binds))]) :=
 au Tryz.func60 Q26.eq_1 (.o (.b fun (p0 : Grow) => .o (.o (.w [3, 4, 6] [0, 8, 16] [2, 3, 4, 6] [0, 8, 16] (fun (s42 : (List Q4) × Q0) => []) (fun s42 => [(0, some ⟨3, [[(eI p0.clause), (.slice 6 (List.map Q1 p0.pats)), (.slice 2 (List.map Z2 s42.1))]], 0, 0x0066⟩), (8, some ⟨6, [(Q1 s42.2)], 0, 0x0064⟩)]) (fun s42 => .j 1 0 [2, 3, 4, 6] [0, 1, 2] (fun (s56 : Unit) => []) (fun _ => []) .z (fun s56 => .g [2, 3, 4, 6] [0, 1, 2] [] [] (.o (.o (.o (.d [0, 1, 3, 4, 5, 2, 6, 7, 8, 9, 10, 11] [0, 1] [25] (.i (.o (.pF 12 (.pF 27 .z))) (.o (.pF 12 (.pF 27 .z)))))))))) (fun s50 => .g [3, 4, 6] [0, 1, 2] [] [] (.o (.o (.dz [0, 1, 3, 2, 4, 5, 6, 7] [0, 1] [1048614] [40] .z))))))))
end Go.Proofs.YtbdkbdafhlcilaaGreat
set_option linter.unusedSimpArgs false
set_option linter.unusedVariables false
namespace Go.Proofs.YtbdkbdafhlcilaaGreat
open Go Go.RowKit
set_option maxRecDepth 100000
set_option maxHeartbeats 20000000
instance W3a : ∀ (p0 : Int), Ct (Q6h p0) fun res => Z0 Tryz.prog 0o00354 [(.val (.int .u64 p0))] (fun d => d = (eI res)) :=
 au Tryz.func236 Q6h.eq_1 .z
end Go.Proofs.YtbdkbdafhlcilaaGreat
set_option linter.unusedSimpArgs false
set_option linter.unusedVariables false
namespace Go.Proofs.YtbdkbdafhlcilaaGreat
open Go Go.RowKit
set_option maxRecDepth 100000
set_option maxHeartbeats 20000000
instance X9p : ∀ (p0 : Int) (p1 : Int), Ct (Q41 p0 p1) fun res => Z0 Tryz.prog 0o00275 [(eI p0), (eI p1)] (fun d => d = (eI res)) :=
 au Tryz.func189 Q41.eq_1 .z
end Go.Proofs.YtbdkbdafhlcilaaGreat
set_option linter.unusedSimpArgs false
set_option linter.unusedVariables false
namespace Go.Proofs.YtbdkbdafhlcilaaGreat
open Go Go.RowKit
set_option maxRecDepth 100000
set_option maxHeartbeats 20000000
instance X0u : ∀ (n : Nat) (p0 : (List Grow)) (p1 : (Grow → Option Bool)) {p1_f : FuncId} {p1_c : List D} [p1_i : CF1 (fun a0 => (.agg (Q47 a0))) (fun r => (eB r)) p1 p1_f p1_c], Ct (Q0m n p0 p1) fun res => J1 Tryz.prog 0o00316 [⟨3, List.map Q47 p0, 0, 0x0066⟩] [.sl 3 0 p0.length, .clos p1_f p1_c] (fun H d => H = [none, some ⟨3, List.map Q47 res, 0, 0x0066⟩] ∧ d = .sl 3 1 res.length) :=
 au Tryz.func206 Q0m.eq_1 (.o (.o (.o (.o (.o (.o (.o (.i (.pM 4 .z) (.w [0, 5] [0] [0, 1, 5, 6] [0] (fun (s96 : (List Grow) × Int × Int) => [(0, .sl 3 0 (s96.1).length), (5, eI s96.2.1), (6, eI s96.2.2)]) (fun s96 => [(0, some ⟨3, (List.map Q47 s96.1), 0, 0x0066⟩)]) (fun s96 => .i (.j 7 0 [0, 1, 5, 6] [0] (fun (s112 : (List Grow) × Int) => [(0, .sl 3 0 (s112.1).length), (5, eI s112.2)]) (fun s112 => [(0, some ⟨3, (List.map Q47 s112.1), 0, 0x0066⟩)]) .z (fun _ => .z)) .z) (fun s104 => .o (.pM 4 .z)))))))))))
end Go.Proofs.YtbdkbdafhlcilaaGreat
set_option linter.unusedSimpArgs false
set_option linter.unusedVariables false
namespace Go.Proofs.YtbdkbdafhlcilaaGreat
open Go Go.RowKit
set_option maxRecDepth 100000
set_option maxHeartbeats 20000000
instance W3e : ∀ (p0 : (List Q4)), Ct (Q3u p0) fun res => Z0 Tryz.prog 0o00210 [(.slice 2 (List.map Z2 p0))] (fun d => d = (.slice 2 (List.map Z2 res))) :=
 au Tryz.func136 Q3u.eq_1 (.o (.pN 3 2 0x0073 (.ls 0 (.f [3] [40] [3, 6, 7, 8] [40] (fun (k56 : Nat) (s52 : (List Q4)) => [(3, .sl 2 40 (s52).length), (8, eI (k56 : Int))]) (fun k56 s52 => [(40, some ⟨2, (List.map Z2 s52), 0, 0x0073⟩)]) (fun k56 s52 => .o (.g [3, 5, 6, 7, 8] [0, 25] [] [] (.o (.o (.d [0, 1, 2, 3, 4, 5, 6, 7, 8, 9] [1] [] (.pF 3 .z)))))) (fun s60 => .z)))))
end Go.Proofs.YtbdkbdafhlcilaaGreat
set_option linter.unusedSimpArgs false
set_option linter.unusedVariables false
namespace Go.Proofs.YtbdkbdafhlcilaaGreat
open Go Go.RowKit
set_option maxRecDepth 100000
set_option maxHeartbeats 20000000
instance W0p : ∀ (n : Nat) (p0 : V1) (p1 : Q0) (p2 : (List Int)), Ct (Q5q n p0 p1 p2) fun res => J1 Tryz.prog 0o00332 [⟨6, List.map Q1 p0.pats, 0, 0x0064⟩] [.agg [(eI p0.clause), .sl 6 0 p0.pats.length, (.slice 2 (List.map Z2 p0.binds))], (.agg (Q1 p1)), (.slice 1 (List.map rI p2))] (fun H d => H = [some ⟨6, List.map Q1 res.1.pats, 0, 0x0064⟩] ∧ d = .tup [.agg [(eI res.1.clause), .sl 6 0 res.1.pats.length, (.slice 2 (List.map Z2 res.1.binds))], (.agg (Q1 res.2))]) :=
 au Tryz.func218 Q5q.eq_1 (.o (.b fun (p0 : V1) => .o (.b fun (p2 : (List Int)) => .w [2, 3, 4, 6, 7] [0, 1, 9, 17, 25] [2, 3, 4, 6, 7] [0, 1, 9, 17, 25] (fun (s16 : (List Q4) × Q0) => []) (fun s16 => [(1000000001, some ⟨3, [[(eI p0.clause), (.sl 6 0 (p0.pats).length), (.slice 2 (List.map Z2 s16.1))]], 0, 0x0109⟩), (9, some ⟨6, [(Q1 s16.2)], 0, 0x0064⟩)]) (fun s16 => .i (.g [2, 3, 4, 6, 7] [0, 1, 2, 3, 4] [] [(1000000001, some ⟨3, [[(eI p0.clause), (.sl 6 0 (p0.pats).length), (.slice 2 (List.map Z2 s16.1))]], 0, 0x0109⟩)] (.o (.o (.o (.dz [1, 2, 4, 5, 7, 0, 3, 6, 8, 9, 10, 11, 12, 13] [1, 2] [1048593] [23] (.o (.pF 2097168 (.pF 2097184 .z)))))))) .z) (fun s24 => .i (.g [2, 3, 4, 6, 7] [0, 1, 2, 3, 4] [] [(1000000001, some ⟨3, [[(eI p0.clause), (.sl 6 0 (p0.pats).length), (.slice 2 (List.map Z2 s24.1))]], 0, 0x0109⟩)] (.o (.o (.o (.dz [1, 2, 4, 5, 7, 0, 3, 6, 8, 9, 10, 11, 12, 13] [1, 2] [1048613] [43] (.pF 2097168 (.g [3, 6, 7] [0, 1, 2097184, 3, 4] [] [(1000000001, some ⟨3, [[(eI p0.clause), (.sl 6 0 (p0.pats).length), (.sl 2 2097184 ((s24.1 ++ [(Q4.mk s24.2.var p2)])).length)]], 0, 0x0109⟩), (2097184, some ⟨2, (List.map Z2 (s24.1 ++ [(Q4.mk s24.2.var p2)])), 0, 0x0073⟩)] (.o (.d [0, 1, 2, 3] [1] [] (.pF 2 .z)))))))))) (.g [3, 4, 6, 7] [0, 1, 2, 3, 4] [] [(1000000001, some ⟨3, [[(eI p0.clause), (.sl 6 0 (p0.pats).length), (.slice 2 (List.map Z2 s24.1))]], 0, 0x0109⟩)] (.d [0, 1, 2, 3] [1, 2] [] .z))))))
end Go.Proofs.YtbdkbdafhlcilaaGreat
set_option linter.unusedSimpArgs false
set_option linter.unusedVariables false
namespace Go.Proofs.YtbdkbdafhlcilaaGreat
open Go Go.RowKit
set_option maxRecDepth 100000
set_option maxHeartbeats 20000000
instance V1a : ∀ (p0 : (List Q3)) (p1 : Q2), Ct (Q80 p0 p1) fun res => Z0 Tryz.prog 0o00301 [(.slice 2 (List.map W3 p0)), (.agg (X0 p1))] (fun d => d = (eB res)) :=
 au Tryz.func193 Q80.eq_1 .z
end Go.Proofs.YtbdkbdafhlcilaaGreat
