import Derived.Test.YtnackipaoepmfaaGreatJMir
import Derived.Test.YtnackipaoepmfaaGreatJAuto
import Derived.Test.YtnackipaoepmfaaGreatJCi0
import Derived.Test.YtnackipaoepmfaaGreatJCi1
set_option linter.unusedSimpArgs false
set_option linter.unusedVariables false
set_option linter.unusedSimpArgs false
set_option linter.unusedVariables false
namespace Go.Proofs.YtnackipaoepmfaaGreat
open Go Go.RowKit
set_option maxRecDepth 100000
set_option maxHeartbeats 20000000
instance Z9d : ∀ (p0 : (List Q2)) (p1 : (List Q2)) (p2 : (Q2 → Q2 → Option Bool)) {p2_f : FuncId} {p2_c : List D} [p2_i : CF2 (fun a0 => (.agg (W2 a0))) (fun a1 => (.agg (W2 a1))) (fun r => (eB r)) p2 p2_f p2_c], Ct (Q0d p0 p1 p2) fun res => Z1 Tryz.prog 0o00272 [(.slice 3 (List.map W2 p0)), (.slice 3 (List.map W2 p1)), .clos p2_f p2_c] (fun d => d = (eB res)) :=
 au Tryz.func186 Q0d.eq_1 (.o (.o (.o (.o (.o (.o (.i .z (.ls 0 (.f [] [] [1, 2, 15, 16, 17] [] (fun (k66 : Nat) (s62 : Unit) => [(17, eI (k66 : Int))]) (fun k66 s62 => []) (fun k66 s62 => .z) (fun s70 => .z))))))))))
end Go.Proofs.YtnackipaoepmfaaGreat
set_option linter.unusedSimpArgs false
set_option linter.unusedVariables false
namespace Go.Proofs.YtnackipaoepmfaaGreat
open Go Go.RowKit
set_option maxRecDepth 100000
set_option maxHeartbeats 20000000
instance W00 : ∀ (n : Nat) (p0 : Q2) (p1 : Q2), Ct (Q2o n p0 p1) fun res => Z1 Tryz.prog 0o00134 [(.agg (W2 p0)), (.agg (W2 p1))] (fun d => d = (eB res)) :=
 ar (au Tryz.func92 Q2o.eq_2 .z)
end Go.Proofs.YtnackipaoepmfaaGreat
set_option linter.unusedSimpArgs false
set_option linter.unusedVariables false
namespace Go.Proofs.YtnackipaoepmfaaGreat
open Go Go.RowKit
set_option maxRecDepth 100000
set_option maxHeartbeats 20000000
instance W8m : ∀ (n : Nat) (p0 : Q0) (p1 : Q2), Ct (Q2v n p0 p1) fun res => J6 Tryz.prog 0o00372 [] [(.agg (Q8 p0)), (.agg (W2 p1))] (fun H d => H = [some ⟨4, List.map Q0k res.1, 0, 0x007e⟩] ∧ d = .tup [.sl 4 0 res.1.length, (eB res.2)]) :=
 ar (au Tryz.func250 Q2v.eq_2 (.o (.o (.o (.o (.i (.pN 4 4 0x007e .z) (.i .z (.i (.o (.pN 4 4 0x007e .z)) (.i (.g [2, 3] [0, 8] [] [] (.o (.o (.d [0, 1, 2, 3, 4, 5, 6, 7, 8, 9, 10] [0, 1] [] (.i .z (.g [2, 3] [0, 1] [] [] (.o (.o (.d [0, 1, 2, 3, 4, 5, 6, 7, 8, 9] [0, 1] [] .z))))))))) (.i (.g [2, 3] [0, 8] [] [] (.o (.o (.d [0, 1, 2, 3, 4, 5, 6, 7, 8, 9, 10] [0, 1] [] .z)))) (.i (.pN 4 4 0x007e .z) (.pN 10 4 0x007e (.ls 81 (.f [10] [208] [3, 10, 81, 82, 83] [8, 208] (fun (k122 : Nat) (s118 : (List X0)) => [(10, .sl 4 208 (s118).length), (83, eI (k122 : Int))]) (fun k122 s118 => [(208, some ⟨4, (List.map Q0k s118), 0, 0x007e⟩)]) (fun k122 s118 => .o (.g [3, 10, 11, 12, 81, 82, 83] [0, 1, 34] [] [] (.o (.o (.d [0, 1, 2, 3, 4, 5, 6, 7, 8, 9, 10, 11] [0, 2] [] (.i (.pN 4 4 0x007e .z) .z)))))) (fun s126 => .z)))))))))))))))
end Go.Proofs.YtnackipaoepmfaaGreat
set_option linter.unusedSimpArgs false
set_option linter.unusedVariables false
namespace Go.Proofs.YtnackipaoepmfaaGreat
open Go Go.RowKit
set_option maxRecDepth 100000
set_option maxHeartbeats 20000000
instance Z25 : ∀ (n : Nat) (p0 : (List X0)) (p1 : Int) (p2 : Int) (p3 : (X0 → X0 → Option Int)) {p3_f : FuncId} {p3_c : List D} [p3_i : CF2 (fun a0 => (.agg (Q0k a0))) (fun a1 => (.agg (Q0k a1))) (fun r => (eI r)) p3 p3_f p3_c], Ct (Y6 n p0 p1 p2 p3) fun res => J6 Tryz.prog 0o00524 [⟨4, List.map Q0k p0, 0, 0x007e⟩] [.sl 4 0 p0.length, (eI p1), (eI p2), .clos p3_f p3_c] (fun H d => H = [some ⟨4, List.map Q0k res, 0, 0x007e⟩] ∧ d = .tup []) :=
 au Tryz.func340 Y6.eq_1 (.o (.o (.o (.o (.o (.o (.o (.o (.w [] [0] [0, 1, 2, 3, 8] [0] (fun (s464 : (List X0) × Int) => [(0, .sl 4 0 (s464.1).length), (8, eI s464.2)]) (fun s464 => [(0, some ⟨4, (List.map Q0k s464.1), 0, 0x007e⟩)]) (fun s464 => .i (.w [0, 1, 2, 3, 8] [0] [0, 1, 2, 3, 8, 9] [0] (fun (s660 : (List X0) × Int) => [(0, .sl 4 0 (s660.1).length), (9, eI s660.2)]) (fun s660 => [(0, some ⟨4, (List.map Q0k s660.1), 0, 0x007e⟩)]) (fun s660 => .g [0, 1, 2, 3, 8, 9] [0] [] [] (.i (.o (.o (.o (.d [0, 1, 2, 3, 4, 5, 6, 7, 8, 9, 10, 11, 12, 13, 14, 15, 16] [0] [] (.i (.g [0, 1, 2, 3, 8, 9] [0] [] [] (.o (.o (.o (.d [0, 1, 2, 3, 4, 5, 6, 7, 8, 9, 10, 11, 12, 13, 14, 15, 16, 17] [0] [51, 52] .z))))) .z))))) (.d [0, 1, 2, 3, 4, 5, 6, 7, 8, 9, 10, 11, 12, 13, 14, 15, 16] [] [] .z))) (fun s668 => .z)) .z) (fun s472 => .z))))))))))
end Go.Proofs.YtnackipaoepmfaaGreat
set_option linter.unusedSimpArgs false
set_option linter.unusedVariables false
namespace Go.Proofs.YtnackipaoepmfaaGreat
open Go Go.RowKit
set_option maxRecDepth 100000
set_option maxHeartbeats 20000000
instance Z5p : ∀ (n : Nat) (p0 : (List X0)) (p1 : Int) (p2 : Int) (p3 : Int) (p4 : (X0 → X0 → Option Int)) {p4_f : FuncId} {p4_c : List D} [p4_i : CF2 (fun a0 => (.agg (Q0k a0))) (fun a1 => (.agg (Q0k a1))) (fun r => (eI r)) p4 p4_f p4_c], Ct (Q0z n p0 p1 p2 p3 p4) fun res => J6 Tryz.prog 0o00463 [⟨4, List.map Q0k p0, 0, 0x007e⟩] [.sl 4 0 p0.length, (eI p1), (eI p2), (eI p3), .clos p4_f p4_c] (fun H d => H = [some ⟨4, List.map Q0k res, 0, 0x007e⟩] ∧ d = .tup []) :=
 ar (au Tryz.func307 Q0z.eq_2 (.o (.o (.o (.o (.o (.o (.o (.o (.o (.o (.w [] [0] [0, 1, 2, 3, 4, 10, 11] [0] (fun (s10 : Unit) => []) (fun s10 => []) (fun s10 => .z) (fun s18 => .z)))))))))))))
end Go.Proofs.YtnackipaoepmfaaGreat
set_option linter.unusedSimpArgs false
set_option linter.unusedVariables false
namespace Go.Proofs.YtnackipaoepmfaaGreat
open Go Go.RowKit
set_option maxRecDepth 100000
set_option maxHeartbeats 20000000
instance X1a : ∀ (n : Nat) (p0 : (List X0)) (p1 : (X0 → X0 → Option Int)) {p1_f : FuncId} {p1_c : List D} [p1_i : CF2 (fun a0 => (.agg (Q0k a0))) (fun a1 => (.agg (Q0k a1))) (fun r => (eI r)) p1 p1_f p1_c], Ct (Q0m n p0 p1) fun res => J6 Tryz.prog 0o00373 [⟨4, List.map Q0k p0, 0, 0x007e⟩] [.sl 4 0 p0.length, .clos p1_f p1_c] (fun H d => H = [some ⟨4, List.map Q0k res, 0, 0x007e⟩] ∧ d = .tup []) :=
 au Tryz.func251 Q0m.eq_1 .z
end Go.Proofs.YtnackipaoepmfaaGreat
set_option linter.unusedSimpArgs false
set_option linter.unusedVariables false
namespace Go.Proofs.YtnackipaoepmfaaGreat
open Go Go.RowKit
set_option maxRecDepth 100000
set_option maxHeartbeats 20000000
instance X9y : ∀ (p0 : X0) (p1 : X0), Ct (Q16 p0 p1) fun res => Z1 Tryz.prog 0o00374 [(.agg (Q0k p0)), (.agg (Q0k p1))] (fun d => d = (eI res)) :=
 au Tryz.func252 Q16.eq_1 .z
end Go.Proofs.YtnackipaoepmfaaGreat
set_option linter.unusedSimpArgs false
set_option linter.unusedVariables false
namespace Go.Proofs.YtnackipaoepmfaaGreat
open Go Go.RowKit
set_option maxRecDepth 100000
set_option maxHeartbeats 20000000
instance W4e : ∀ (n : Nat) (p0 : Q0) (p1 : Q2), Ct (Q46 n p0 p1) fun res => Z1 Tryz.prog 0o00240 [(.agg (Q8 p0)), (.agg (W2 p1))] (fun d => d = .tup [(.slice 4 (List.map Q0k res.1)), (eB res.2)]) :=
 au Tryz.func160 Q46.eq_1 (.o (.o (.o (.o (.i .z (.o (.o (.ll 49 (.f [6] [49] [6, 20, 21, 22] [49] (fun (k63 : Nat) (s59 : (List X0)) => [(6, .sl 4 49 (s59).length), (20, .sl 4 49 (s59).length), (22, eI (k63 : Int))]) (fun k63 s59 => [(49, some ⟨4, (List.map Q0k s59), 0, 0x007e⟩)]) (fun k63 s59 => .z) (fun s67 => .z))))))))))
end Go.Proofs.YtnackipaoepmfaaGreat
set_option linter.unusedSimpArgs false
set_option linter.unusedVariables false
namespace Go.Proofs.YtnackipaoepmfaaGreat
open Go Go.RowKit
set_option maxRecDepth 100000
set_option maxHeartbeats 20000000
instance V1s : ∀ (n : Nat) (p0 : (List Q7)) (p1 : Q2), Ct (Q78 n p0 p1) fun res => Z1 Tryz.prog 0o00113 [(.slice 9 (List.map V6 p0)), (.agg (W2 p1))] (fun d => d = .tup [(eI res.1), (.slice 4 (List.map Q0k res.2))]) :=
 au Tryz.func75 Q78.eq_1 (.o (.o (.o (.ls 0 (.f [] [] [3, 10, 11, 12] [0] (fun (k139 : Nat) (s135 : Unit) => [(12, eI (k139 : Int))]) (fun k139 s135 => []) (fun k139 s135 => .o (.j 3 0 [3, 10, 11, 12] [0] (fun (s153 : Unit) => []) (fun _ => []) .z (fun _ => .z))) (fun s143 => .z))))))
end Go.Proofs.YtnackipaoepmfaaGreat
set_option linter.unusedSimpArgs false
set_option linter.unusedVariables false
namespace Go.Proofs.YtnackipaoepmfaaGreat
open Go Go.RowKit
set_option maxRecDepth 100000
set_option maxHeartbeats 20000000
instance X8p : ∀ (n : Nat) (p0 : (List Q3)) (p1 : Q5) (p2 : (List Q7)) (p3 : Q2), Ct (Q3j n p0 p1 p2 p3) fun res => Z1 Tryz.prog 0o00031 [(.slice 2 (List.map V0 p0)), (.agg (W9 p1)), (.slice 9 (List.map V6 p2)), (.agg (W2 p3))] (fun d => d = .tup [(eI res.1), (.slice 4 (List.map Q0k res.2.1)), (eB res.2.2)]) :=
 au Tryz.func25 Q3j.eq_1 .z
end Go.Proofs.YtnackipaoepmfaaGreat
