import Derived.Test.YtbdkbdafhlcilaaGreatBJMir
import Derived.Test.YtbdkbdafhlcilaaGreatBJAuto
import Derived.Test.YtbdkbdafhlcilaaGreatBJC0b0
import Derived.Test.YtbdkbdafhlcilaaGreatBJC0d0
import Derived.Test.YtbdkbdafhlcilaaGreatBJC0c0
import Derived.Test.YtbdkbdafhlcilaaGreatBJC0a0
set_option linter.unusedSimpArgs false
set_option linter.unusedVariables false
set_option linter.unusedSimpArgs false
set_option linter.unusedVariables false
namespace Go.Proofs.YtbdkbdafhlcilaaGreat
open Go Go.RowKit
set_option maxRecDepth 100000
set_option maxHeartbeats 20000000
instance W9c : ∀ (p0 : Int), Ct (Q5s p0) fun res => Z1 Tryz.prog 0o00446 [(eI p0)] (fun d => d = (eB res)) :=
 au Tryz.func294 Q5s.eq_1 .z
end Go.Proofs.YtbdkbdafhlcilaaGreat
set_option linter.unusedSimpArgs false
set_option linter.unusedVariables false
namespace Go.Proofs.YtbdkbdafhlcilaaGreat
open Go Go.RowKit
set_option maxRecDepth 100000
set_option maxHeartbeats 20000000
instance W0j : ∀ (n : Nat) (p0 : Grow) (p1 : Q0) (p2 : (List Int)), Ct (Q1x n p0 p1 p2) fun res => J8 Tryz.prog 0o00074 [] [(.agg (Q41 p0)), (.agg (Q8 p1)), (.slice 1 (List.map rI p2))] (fun H d => H = [some ⟨6, List.map Q8 res.pats, 0, 0x0064⟩] ∧ d = .agg [(eI res.clause), .sl 6 0 res.pats.length, (.slice 2 (List.map Z3 res.binds))]) :=
 au Tryz.func60 Q1x.eq_1 (.o (.b fun (p0 : Grow) => .o (.o (.w [3, 4, 6] [0, 8, 16] [2, 3, 4, 6] [0, 8, 16] (fun (s42 : (List Q2) × Q0) => []) (fun s42 => [(0, some ⟨3, [[(eI p0.clause), (.slice 6 (List.map Q8 p0.pats)), (.slice 2 (List.map Z3 s42.1))]], 0, 0x0066⟩), (8, some ⟨6, [(Q8 s42.2)], 0, 0x0064⟩)]) (fun s42 => .j 1 0 [2, 3, 4, 6] [0, 1, 2] (fun (s56 : Unit) => []) (fun _ => []) .z (fun s56 => .g [2, 3, 4, 6] [0, 1, 2] [] [] (.o (.o (.o (.d [0, 1, 3, 4, 5, 2, 6, 7, 8, 9, 10, 11] [0, 1] [25] (.i (.o (.pF 12 (.pF 27 .z))) (.o (.pF 12 (.pF 27 .z)))))))))) (fun s50 => .g [3, 4, 6] [0, 1, 2] [] [] (.o (.o (.dz [0, 1, 3, 2, 4, 5, 6, 7] [0, 1] [1048614] [40] .z))))))))
end Go.Proofs.YtbdkbdafhlcilaaGreat
set_option linter.unusedSimpArgs false
set_option linter.unusedVariables false
namespace Go.Proofs.YtbdkbdafhlcilaaGreat
open Go Go.RowKit
set_option maxRecDepth 100000
set_option maxHeartbeats 20000000
instance X43 : ∀ (p0 : (List Int)) (p1 : (List Q3)) (p2 : Q5) (p3 : Int), Ct (Q0r p0 p1 p2 p3) fun res => Z1 Tryz.prog 0o00313 [.cptr (List.map cI p0), (.slice 2 (List.map X9 p1)), (.agg (X7 p2)), (eI p3)] (fun d => d = (eI res)) :=
 au Tryz.func203 Q0r.eq_1 (.o (.o (.o (.o (.o (.ls 16 (.f [9] [] [0, 9, 16, 17, 18] [] (fun (k68 : Nat) (s64 : Int) => [(9, eI s64), (18, eI (k68 : Int))]) (fun k68 s64 => []) (fun k68 s64 => .z) (fun s72 => .z))))))))
end Go.Proofs.YtbdkbdafhlcilaaGreat
set_option linter.unusedSimpArgs false
set_option linter.unusedVariables false
namespace Go.Proofs.YtbdkbdafhlcilaaGreat
open Go Go.RowKit
set_option maxRecDepth 100000
set_option maxHeartbeats 20000000
instance W2q : ∀ (p0 : Int), Ct (Q6a p0) fun res => Z1 Tryz.prog 0o00354 [(.val (.int .u64 p0))] (fun d => d = (eI res)) :=
 au Tryz.func236 Q6a.eq_1 .z
end Go.Proofs.YtbdkbdafhlcilaaGreat
set_option linter.unusedSimpArgs false
set_option linter.unusedVariables false
namespace Go.Proofs.YtbdkbdafhlcilaaGreat
open Go Go.RowKit
set_option maxRecDepth 100000
set_option maxHeartbeats 20000000
instance X9c : ∀ (p0 : Int) (p1 : Int), Ct (Q3v p0 p1) fun res => Z1 Tryz.prog 0o00275 [(eI p0), (eI p1)] (fun d => d = (eI res)) :=
 au Tryz.func189 Q3v.eq_1 .z
end Go.Proofs.YtbdkbdafhlcilaaGreat
set_option linter.unusedSimpArgs false
set_option linter.unusedVariables false
namespace Go.Proofs.YtbdkbdafhlcilaaGreat
open Go Go.RowKit
set_option maxRecDepth 100000
set_option maxHeartbeats 20000000
instance W0b : ∀ (n : Nat) (p0 : V4) (p1 : Q0) (p2 : (List Int)), Ct (Q5f n p0 p1 p2) fun res => J8 Tryz.prog 0o00332 [⟨6, List.map Q8 p0.pats, 0, 0x0064⟩] [.agg [(eI p0.clause), .sl 6 0 p0.pats.length, (.slice 2 (List.map Z3 p0.binds))], (.agg (Q8 p1)), (.slice 1 (List.map rI p2))] (fun H d => H = [some ⟨6, List.map Q8 res.1.pats, 0, 0x0064⟩] ∧ d = .tup [.agg [(eI res.1.clause), .sl 6 0 res.1.pats.length, (.slice 2 (List.map Z3 res.1.binds))], (.agg (Q8 res.2))]) :=
 au Tryz.func218 Q5f.eq_1 (.o (.b fun (p0 : V4) => .o (.b fun (p2 : (List Int)) => .w [2, 3, 4, 6, 7] [0, 1, 9, 17, 25] [2, 3, 4, 6, 7] [0, 1, 9, 17, 25] (fun (s16 : (List Q2) × Q0) => []) (fun s16 => [(1000000001, some ⟨3, [[(eI p0.clause), (.sl 6 0 (p0.pats).length), (.slice 2 (List.map Z3 s16.1))]], 0, 0x0109⟩), (9, some ⟨6, [(Q8 s16.2)], 0, 0x0064⟩)]) (fun s16 => .i (.g [2, 3, 4, 6, 7] [0, 1, 2, 3, 4] [] [(1000000001, some ⟨3, [[(eI p0.clause), (.sl 6 0 (p0.pats).length), (.slice 2 (List.map Z3 s16.1))]], 0, 0x0109⟩)] (.o (.o (.o (.dz [1, 2, 4, 5, 7, 0, 3, 6, 8, 9, 10, 11, 12, 13] [1, 2] [1048593] [23] (.o (.pF 2097168 (.pF 2097184 .z)))))))) .z) (fun s24 => .i (.g [2, 3, 4, 6, 7] [0, 1, 2, 3, 4] [] [(1000000001, some ⟨3, [[(eI p0.clause), (.sl 6 0 (p0.pats).length), (.slice 2 (List.map Z3 s24.1))]], 0, 0x0109⟩)] (.o (.o (.o (.dz [1, 2, 4, 5, 7, 0, 3, 6, 8, 9, 10, 11, 12, 13] [1, 2] [1048613] [43] (.pF 2097168 (.g [3, 6, 7] [0, 1, 2097184, 3, 4] [] [(1000000001, some ⟨3, [[(eI p0.clause), (.sl 6 0 (p0.pats).length), (.sl 2 2097184 ((s24.1 ++ [(Q2.mk s24.2.var p2)])).length)]], 0, 0x0109⟩), (2097184, some ⟨2, (List.map Z3 (s24.1 ++ [(Q2.mk s24.2.var p2)])), 0, 0x0073⟩)] (.o (.d [0, 1, 2, 3] [1] [] (.pF 2 .z)))))))))) (.g [3, 4, 6, 7] [0, 1, 2, 3, 4] [] [(1000000001, some ⟨3, [[(eI p0.clause), (.sl 6 0 (p0.pats).length), (.slice 2 (List.map Z3 s24.1))]], 0, 0x0109⟩)] (.d [0, 1, 2, 3] [1, 2] [] .z))))))
end Go.Proofs.YtbdkbdafhlcilaaGreat
set_option linter.unusedSimpArgs false
set_option linter.unusedVariables false
namespace Go.Proofs.YtbdkbdafhlcilaaGreat
open Go Go.RowKit
set_option maxRecDepth 100000
set_option maxHeartbeats 20000000
instance W4l : ∀ (p0 : Q2q) (p1 : (List Q9)), Ct (Q4b p0 p1) fun res => Z1 Tryz.prog 0o00302 [(.agg (Q74 p0)), (.slice 3 (List.map V5 p1))] (fun d => d = (eB res)) :=
 au Tryz.func194 Q4b.eq_1 (.o (.o (.i .z (.j 3 0 [1, 2] [0] (fun (s23 : Unit) => []) (fun _ => []) .z (fun _ => .z)))))
end Go.Proofs.YtbdkbdafhlcilaaGreat
set_option linter.unusedSimpArgs false
set_option linter.unusedVariables false
namespace Go.Proofs.YtbdkbdafhlcilaaGreat
open Go Go.RowKit
set_option maxRecDepth 100000
set_option maxHeartbeats 20000000
instance W2f : ∀ (n : Nat) (p0 : (List Q2)) (p1 : Q1), Ct (Q3m n p0 p1) fun res => Z1 Tryz.prog 0o00225 [(.slice 2 (List.map Z3 p0)), (.agg (X0 p1))] (fun d => d = (.slice 4 (List.map Q5p res))) :=
 au Tryz.func149 Q3m.eq_1 (.o (.o (.o (.ls 0 (.f [5] [16] [0, 3, 5, 6] [0, 16] (fun (k66 : Nat) (s62 : (List J7)) => [(5, .sl 4 16 (s62).length), (6, eI (k66 : Int))]) (fun k66 s62 => [(16, some ⟨4, (List.map Q5p s62), 0, 0x0097⟩)]) (fun k66 s62 => .o (.g [0, 3, 5, 6] [0, 1] [] [] (.o (.o (.o (.d [0, 1, 2, 3, 4, 5, 6, 7, 8, 9, 10, 11, 12, 13, 14, 15, 16, 17] [0] [] .z)))))) (fun s70 => .z))))))
end Go.Proofs.YtbdkbdafhlcilaaGreat
set_option linter.unusedSimpArgs false
set_option linter.unusedVariables false
namespace Go.Proofs.YtbdkbdafhlcilaaGreat
open Go Go.RowKit
set_option maxRecDepth 100000
set_option maxHeartbeats 20000000
instance W4y : ∀ (n : Nat) (p0 : Int), Ct (Q8l n p0) fun res => Z1 Tryz.prog 0o00476 [(eI p0)] (fun d => d = (eS res)) :=
 au Tryz.func318 Q8l.eq_1 .z
end Go.Proofs.YtbdkbdafhlcilaaGreat
