import Derived.Test.YtbdkbdafhlcilaaGreatCJMir
import Derived.Test.YtbdkbdafhlcilaaGreatCJAuto
import Derived.Test.YtbdkbdafhlcilaaGreatCJC0b0
import Derived.Test.YtbdkbdafhlcilaaGreatCJC0c0
import Derived.Test.YtbdkbdafhlcilaaGreatCJC0a0
import Derived.Test.YtbdkbdafhlcilaaGreatCJC0d0
set_option linter.unusedSimpArgs false
set_option linter.unusedVariables false
set_option linter.unusedSimpArgs false
set_option linter.unusedVariables false
namespace Go.Proofs.YtbdkbdafhlcilaaGreat
open Go Go.RowKit
set_option maxRecDepth 100000
set_option maxHeartbeats 20000000
instance W7r : ∀ (p0 : ByteArray), Ct (Q9r p0) fun res => Q7 Tryz.prog 0o00356 [(eS p0)] (fun d => d = (eB res)) :=
 au Tryz.func238 Q9r.eq_1 .z
end Go.Proofs.YtbdkbdafhlcilaaGreat
set_option linter.unusedSimpArgs false
set_option linter.unusedVariables false
namespace Go.Proofs.YtbdkbdafhlcilaaGreat
open Go Go.RowKit
set_option maxRecDepth 100000
set_option maxHeartbeats 20000000
instance X7k : ∀ (p0 : (List ByteArray)) (p1 : ByteArray), Ct (Q6m p0 p1) fun res => Q7 Tryz.prog 0o00452 [(.slice 1 (List.map rS p0)), (eS p1)] (fun d => d = (.agg (Z6 res))) :=
 au Tryz.func298 Q6m.eq_1 (.o (.o (.i .z (.o (.b fun (r4 : (Int)) => .j 4 0 [4, 5] [0, 64] (fun (s18 : Int) => []) (fun s18 => [(64, some ⟨2, [[(eI r4), (eI s18)]], 0, 0x0019⟩)]) .z (fun _ => .z))))))
end Go.Proofs.YtbdkbdafhlcilaaGreat
set_option linter.unusedSimpArgs false
set_option linter.unusedVariables false
namespace Go.Proofs.YtbdkbdafhlcilaaGreat
open Go Go.RowKit
set_option maxRecDepth 100000
set_option maxHeartbeats 20000000
instance Z5i : ∀ (p0 : (List Q8)) (p1 : (Q8 → Option Bool)) {p1_f : FuncId} {p1_c : List D} [p1_i : CF1 (fun a0 => (.agg (V5 a0))) (fun r => (eB r)) p1 p1_f p1_c], Ct (Q10 p0 p1) fun res => Q7 Tryz.prog 0o00454 [(.slice 3 (List.map V5 p0)), .clos p1_f p1_c] (fun d => d = (eB res)) :=
 au Tryz.func300 Q10.eq_1 .z
end Go.Proofs.YtbdkbdafhlcilaaGreat
set_option linter.unusedSimpArgs false
set_option linter.unusedVariables false
namespace Go.Proofs.YtbdkbdafhlcilaaGreat
open Go Go.RowKit
set_option maxRecDepth 100000
set_option maxHeartbeats 20000000
instance Z8i : ∀ (p0 : (List Q8)) (p1 : Q8), Ct (Q08 p0 p1) fun res => Q7 Tryz.prog 0o00352 [(.slice 3 (List.map V5 p0)), (.agg (V5 p1))] (fun d => d = (eB res)) :=
 au Tryz.func234 Q08.eq_1 .z
end Go.Proofs.YtbdkbdafhlcilaaGreat
set_option linter.unusedSimpArgs false
set_option linter.unusedVariables false
namespace Go.Proofs.YtbdkbdafhlcilaaGreat
open Go Go.RowKit
set_option maxRecDepth 100000
set_option maxHeartbeats 20000000
instance Z87 : ∀ (p0 : (List Q2)) (p1 : (Q2 → Option Bool)) {p1_f : FuncId} {p1_c : List D} [p1_i : CF1 (fun a0 => (.agg (Z6 a0))) (fun r => (eB r)) p1 p1_f p1_c], Ct (Q00 p0 p1) fun res => Q7 Tryz.prog 0o00254 [(.slice 2 (List.map Z6 p0)), .clos p1_f p1_c] (fun d => d = (eB res)) :=
 au Tryz.func172 Q00.eq_1 .z
end Go.Proofs.YtbdkbdafhlcilaaGreat
set_option linter.unusedSimpArgs false
set_option linter.unusedVariables false
namespace Go.Proofs.YtbdkbdafhlcilaaGreat
open Go Go.RowKit
set_option maxRecDepth 100000
set_option maxHeartbeats 20000000
instance W80 : ∀ (p0 : (List Q3)) (p1 : Q2), Ct (Q6q p0 p1) fun res => Q7 Tryz.prog 0o00251 [(.slice 2 (List.map X2 p0)), (.agg (Z6 p1))] (fun d => d = (eB res)) :=
 au Tryz.func169 Q6q.eq_1 .z
end Go.Proofs.YtbdkbdafhlcilaaGreat
set_option linter.unusedSimpArgs false
set_option linter.unusedVariables false
namespace Go.Proofs.YtbdkbdafhlcilaaGreat
open Go Go.RowKit
set_option maxRecDepth 100000
set_option maxHeartbeats 20000000
instance V01 : ∀ (n : Nat) (p0 : Q0) (p1 : Q4), Ct (Q3g n p0 p1) fun res => Q17 Tryz.prog 0o00272 [] [(.agg (Q1 p0)), (.agg (W3 p1))] (fun H d => H = [some ⟨4, List.map Q0w res.1, 0, 0x0097⟩] ∧ d = .tup [.sl 4 0 res.1.length, (eB res.2)]) :=
 ar (au Tryz.func186 Q3g.eq_2 (.o (.o (.o (.o (.i (.pN 4 4 0x0097 .z) (.i .z (.i (.o (.pN 4 4 0x0097 .z)) (.i (.g [2, 3] [0, 8] [] [] (.o (.o (.d [0, 1, 2, 3, 4, 5, 6, 7, 8, 9, 10] [0, 1] [] (.i .z (.g [2, 3] [0, 1] [] [] (.o (.o (.d [0, 1, 2, 3, 4, 5, 6, 7, 8, 9] [0, 1] [] .z))))))))) (.i (.g [2, 3] [0, 8] [] [] (.o (.o (.d [0, 1, 2, 3, 4, 5, 6, 7, 8, 9, 10] [0, 1] [] .z)))) (.i (.pN 4 4 0x0097 .z) (.pN 10 4 0x0097 (.ls 81 (.f [10] [208] [3, 10, 81, 82, 83] [8, 208] (fun (k122 : Nat) (s118 : (List X3)) => [(10, .sl 4 208 (s118).length), (83, eI (k122 : Int))]) (fun k122 s118 => [(208, some ⟨4, (List.map Q0w s118), 0, 0x0097⟩)]) (fun k122 s118 => .o (.g [3, 10, 11, 12, 81, 82, 83] [0, 1, 34] [] [] (.o (.o (.d [0, 1, 2, 3, 4, 5, 6, 7, 8, 9, 10, 11] [0, 2] [] (.i (.pN 4 4 0x0097 .z) .z)))))) (fun s126 => .z)))))))))))))))
end Go.Proofs.YtbdkbdafhlcilaaGreat
set_option linter.unusedSimpArgs false
set_option linter.unusedVariables false
namespace Go.Proofs.YtbdkbdafhlcilaaGreat
open Go Go.RowKit
set_option maxRecDepth 100000
set_option maxHeartbeats 20000000
instance W59 : ∀ (p0 : Q2z) (p1 : (List Q8)), Ct (Q4s p0 p1) fun res => Q7 Tryz.prog 0o00302 [(.agg (Q7g p0)), (.slice 3 (List.map V5 p1))] (fun d => d = (eB res)) :=
 au Tryz.func194 Q4s.eq_1 (.o (.o (.i .z (.j 3 0 [1, 2] [0] (fun (s23 : Unit) => []) (fun _ => []) .z (fun _ => .z)))))
end Go.Proofs.YtbdkbdafhlcilaaGreat
set_option linter.unusedSimpArgs false
set_option linter.unusedVariables false
namespace Go.Proofs.YtbdkbdafhlcilaaGreat
open Go Go.RowKit
set_option maxRecDepth 100000
set_option maxHeartbeats 20000000
instance X0l : ∀ (p0 : (List (List Q0))), Ct (Q02 p0) fun res => Q7 Tryz.prog 0o00370 [(.slice 1 (List.map (rL 6 Q1) p0))] (fun d => d = (.slice 6 (List.map Q1 res))) :=
 au Tryz.func248 Q02.eq_1 (.o (.ls 0 (.f [0, 3] [] [0, 3, 9, 10, 11] [] (fun (k46 : Nat) (s42 : Int) => [(3, eI s42), (11, eI (k46 : Int))]) (fun k46 s42 => []) (fun k46 s42 => .z) (fun s50 => .o (.ls 0 (.f [6] [9] [6, 25, 26, 27] [9] (fun (k99 : Nat) (s95 : (List Q0)) => [(6, .sl 6 9 (s95).length), (27, eI (k99 : Int))]) (fun k99 s95 => [(9, some ⟨6, (List.map Q1 s95), 0, 0x0064⟩)]) (fun k99 s95 => .z) (fun s103 => .z)))))))
end Go.Proofs.YtbdkbdafhlcilaaGreat
