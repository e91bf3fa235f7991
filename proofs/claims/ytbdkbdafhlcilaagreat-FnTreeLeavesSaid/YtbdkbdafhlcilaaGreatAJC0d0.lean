import Derived.Test.YtbdkbdafhlcilaaGreatAJMir
import Derived.Test.YtbdkbdafhlcilaaGreatAJAuto
set_option linter.unusedSimpArgs false
set_option linter.unusedVariables false
set_option linter.unusedSimpArgs false
set_option linter.unusedVariables false
namespace Go.Proofs.YtbdkbdafhlcilaaGreat
open Go Go.RowKit
set_option maxRecDepth 100000
set_option maxHeartbeats 20000000
instance W7t : ∀ (p0 : Int) (p1 : Int) (p2 : Int), Ct (Y7 p0 p1 p2) fun res => Z0 Tryz.prog 0o00072 [(eI p0), (eI p1), (eI p2)] (fun d => d = (eB res)) :=
 au Tryz.func58 Y7.eq_1 .z
end Go.Proofs.YtbdkbdafhlcilaaGreat
set_option linter.unusedSimpArgs false
set_option linter.unusedVariables false
namespace Go.Proofs.YtbdkbdafhlcilaaGreat
open Go Go.RowKit
set_option maxRecDepth 100000
set_option maxHeartbeats 20000000
instance X1p : ∀ (p0 : (List Q8)) (p1 : Q8), Ct (Q2q p0 p1) fun res => Z0 Tryz.prog 0o00416 [(.slice 3 (List.map V3 p0)), (.agg (V3 p1))] (fun d => d = (eI res)) :=
 au Tryz.func270 Q2q.eq_1 (.o (.o (.ls 0 (.f [] [] [0, 3, 7, 8] [0] (fun (k44 : Nat) (s40 : Unit) => [(8, eI (k44 : Int))]) (fun k44 s40 => []) (fun k44 s40 => .o (.g [0, 3, 5, 7, 8] [0] [] [] (.d [0, 1, 2, 3, 4, 5] [0] [] .z))) (fun s48 => .z)))))
end Go.Proofs.YtbdkbdafhlcilaaGreat
set_option linter.unusedSimpArgs false
set_option linter.unusedVariables false
namespace Go.Proofs.YtbdkbdafhlcilaaGreat
open Go Go.RowKit
set_option maxRecDepth 100000
set_option maxHeartbeats 20000000
instance Z8r : ∀ (p0 : (List Q0)) (p1 : (Q0 → Option Bool)) {p1_f : FuncId} {p1_c : List D} [p1_i : CF1 (fun a0 => (.agg (Q1 a0))) (fun r => (eB r)) p1 p1_f p1_c], Ct (Q00 p0 p1) fun res => Z0 Tryz.prog 0o00371 [(.slice 6 (List.map Q1 p0)), .clos p1_f p1_c] (fun d => d = (eI res)) :=
 au Tryz.func249 Q00.eq_1 (.o (.o (.o (.o (.o (.ls 0 (.f [] [] [0, 1, 7, 8] [] (fun (k54 : Nat) (s50 : Unit) => [(8, eI (k54 : Int))]) (fun k54 s50 => []) (fun k54 s50 => .z) (fun s58 => .z))))))))
end Go.Proofs.YtbdkbdafhlcilaaGreat
set_option linter.unusedSimpArgs false
set_option linter.unusedVariables false
namespace Go.Proofs.YtbdkbdafhlcilaaGreat
open Go Go.RowKit
set_option maxRecDepth 100000
set_option maxHeartbeats 20000000
instance X0t : ∀ (p0 : (List Q2)) (p1 : (Q2 → Option Bool)) {p1_f : FuncId} {p1_c : List D} [p1_i : CF1 (fun a0 => (.agg (X0 a0))) (fun r => (eB r)) p1 p1_f p1_c], Ct (Q4a p0 p1) fun res => Z0 Tryz.prog 0o00346 [(.slice 2 (List.map X0 p0)), .clos p1_f p1_c] (fun d => d = (eI res)) :=
 au Tryz.func230 Q4a.eq_1 (.o (.o (.o (.o (.o (.ls 0 (.f [] [] [0, 1, 7, 8] [] (fun (k54 : Nat) (s50 : Unit) => [(8, eI (k54 : Int))]) (fun k54 s50 => []) (fun k54 s50 => .z) (fun s58 => .z))))))))
end Go.Proofs.YtbdkbdafhlcilaaGreat
set_option linter.unusedSimpArgs false
set_option linter.unusedVariables false
namespace Go.Proofs.YtbdkbdafhlcilaaGreat
open Go Go.RowKit
set_option maxRecDepth 100000
set_option maxHeartbeats 20000000
instance W7i : ∀ (p0 : Q2), Ct (Q9o p0) fun res => Z0 Tryz.prog 0o00266 [(.agg (X0 p0))] (fun d => d = (eI res)) :=
 au Tryz.func182 Q9o.eq_1 .z
end Go.Proofs.YtbdkbdafhlcilaaGreat
set_option linter.unusedSimpArgs false
set_option linter.unusedVariables false
namespace Go.Proofs.YtbdkbdafhlcilaaGreat
open Go Go.RowKit
set_option maxRecDepth 100000
set_option maxHeartbeats 20000000
instance W7k : ∀ (p0 : Q75) (p1 : Int), Ct (Q9p p0 p1) fun res => Z0 Tryz.prog 0o00265 [(.agg (Q68 p0)), (eI p1)] (fun d => d = (eB res)) :=
 au Tryz.func181 Q9p.eq_1 .z
end Go.Proofs.YtbdkbdafhlcilaaGreat
set_option linter.unusedSimpArgs false
set_option linter.unusedVariables false
namespace Go.Proofs.YtbdkbdafhlcilaaGreat
open Go Go.RowKit
set_option maxRecDepth 100000
set_option maxHeartbeats 20000000
instance W7c : ∀ (p0 : Int), Ct (Q6d p0) fun res => Z0 Tryz.prog 0o00433 [(eI p0)] (fun d => d = (eI res)) :=
 au Tryz.func283 Q6d.eq_1 .z
end Go.Proofs.YtbdkbdafhlcilaaGreat
set_option linter.unusedSimpArgs false
set_option linter.unusedVariables false
namespace Go.Proofs.YtbdkbdafhlcilaaGreat
open Go Go.RowKit
set_option maxRecDepth 100000
set_option maxHeartbeats 20000000
instance Z1i : ∀ (n : Nat) (p0 : (List Q4)) (p1 : Int) (p2 : Int) (p3 : (Q4 → Q4 → Option Int)) {p3_f : FuncId} {p3_c : List D} [p3_i : CF2 (fun a0 => (.agg (Z2 a0))) (fun a1 => (.agg (Z2 a1))) (fun r => (eI r)) p3 p3_f p3_c], Ct (W9 n p0 p1 p2 p3) fun res => J1 Tryz.prog 0o00435 [⟨2, List.map Z2 p0, 0, 0x0073⟩] [.sl 2 0 p0.length, (eI p1), (eI p2), .clos p3_f p3_c] (fun H d => H = [some ⟨2, List.map Z2 res, 0, 0x0073⟩] ∧ d = .tup []) :=
 au Tryz.func285 W9.eq_1 (.o (.o (.o (.o (.o (.o (.o (.o (.w [] [0] [0, 1, 2, 3, 8] [0] (fun (s464 : (List Q4) × Int) => [(0, .sl 2 0 (s464.1).length), (8, eI s464.2)]) (fun s464 => [(0, some ⟨2, (List.map Z2 s464.1), 0, 0x0073⟩)]) (fun s464 => .i (.w [0, 1, 2, 3, 8] [0] [0, 1, 2, 3, 8, 9] [0] (fun (s660 : (List Q4) × Int) => [(0, .sl 2 0 (s660.1).length), (9, eI s660.2)]) (fun s660 => [(0, some ⟨2, (List.map Z2 s660.1), 0, 0x0073⟩)]) (fun s660 => .g [0, 1, 2, 3, 8, 9] [0] [] [] (.i (.o (.o (.o (.d [0, 1, 2, 3, 4, 5, 6, 7, 8, 9, 10, 11, 12, 13, 14, 15, 16] [0] [] (.i (.g [0, 1, 2, 3, 8, 9] [0] [] [] (.o (.o (.o (.d [0, 1, 2, 3, 4, 5, 6, 7, 8, 9, 10, 11, 12, 13, 14, 15, 16, 17] [0] [51, 52] .z))))) .z))))) (.d [0, 1, 2, 3, 4, 5, 6, 7, 8, 9, 10, 11, 12, 13, 14, 15, 16] [] [] .z))) (fun s668 => .z)) .z) (fun s472 => .z))))))))))
end Go.Proofs.YtbdkbdafhlcilaaGreat
set_option linter.unusedSimpArgs false
set_option linter.unusedVariables false
namespace Go.Proofs.YtbdkbdafhlcilaaGreat
open Go Go.RowKit
set_option maxRecDepth 100000
set_option maxHeartbeats 20000000
instance W3l : ∀ (p0 : Int), Ct (Q4z p0) fun res => Z0 Tryz.prog 0o00355 [(eI p0)] (fun d => d = (eB res)) :=
 au Tryz.func237 Q4z.eq_1 .z
end Go.Proofs.YtbdkbdafhlcilaaGreat
set_option linter.unusedSimpArgs false
set_option linter.unusedVariables false
namespace Go.Proofs.YtbdkbdafhlcilaaGreat
open Go Go.RowKit
set_option maxRecDepth 100000
set_option maxHeartbeats 20000000
instance W36 : ∀ (p0 : (List (List Q0))), Ct (Q3p p0) fun res => Z0 Tryz.prog 0o00322 [(.slice 1 (List.map (rL 6 Q1) p0))] (fun d => d = (.slice 1 (List.map (rL 6 Q1) res))) :=
 au Tryz.func210 Q3p.eq_1 (.o (.pF 8 (.ls 0 (.f [3] [16] [0, 3, 4] [16] (fun (k12196 : Nat) (s12192 : (List (List Q0))) => [(3, .sl 1 16 (s12192).length), (4, eI (k12196 : Int))]) (fun k12196 s12192 => [(16, some ⟨1, (List.map (rL 6 Q1) s12192), 0, 0x005b⟩)]) (fun k12196 s12192 => .b fun (x12197 : (List Q0)) => .ll 0 (.f [0, 4, 5] [33] [0, 3, 4, 5, 6] [0, 33] (fun (k13570 : Nat) (s13566 : (List (List Q0))) => [(5, .sl 1 33 (s13566).length), (6, eI (k13570 : Int))]) (fun k13570 s13566 => [(33, some ⟨1, (List.map (rL 6 Q1) s13566), 0, 0x005b⟩)]) (fun k13570 s13566 => .o (.i (.le 0 0 6 Q1 x12197 x12197 (.f [0, 3, 4, 5, 6] [0, 1] [0, 3, 4, 5, 6, 7] [0, 1] (fun (k13668 : Nat) (s13664 : (List (List Q0))) => [(5, .sl 1 1 (s13664).length), (7, eI (k13668 : Int))]) (fun k13668 s13664 => [(1, some ⟨1, (List.map (rL 6 Q1) s13664), 0, 0x005b⟩)]) (fun k13668 s13664 => .o (.i (.g [0, 3, 4, 5, 6, 7] [0, 1] [] [] (.o (.o (.o (.dz [0, 2, 3, 4, 5, 7, 8, 9, 10, 11, 12, 13, 1, 6, 14, 15, 16, 17, 18] [0] [1048632] [] (.pF 2097168 .z)))))) .z)) (fun s13672 => .z))) .z)) (fun s13574 => .z))) (fun s12200 => .z)))))
end Go.Proofs.YtbdkbdafhlcilaaGreat
set_option linter.unusedSimpArgs false
set_option linter.unusedVariables false
namespace Go.Proofs.YtbdkbdafhlcilaaGreat
open Go Go.RowKit
set_option maxRecDepth 100000
set_option maxHeartbeats 20000000
instance W52 : ∀ (p0 : (List V1)) (p1 : Int), Ct (Q3h p0 p1) fun res => Z0 Tryz.prog 0o00374 [(.slice 3 (List.map Q1w p0)), (eI p1)] (fun d => d = (eI res)) :=
 au Tryz.func252 Q3h.eq_1 (.o (.o (.ls 0 (.f [5] [] [0, 1, 5, 6] [] (fun (k71 : Nat) (s67 : Int) => [(5, eI s67), (6, eI (k71 : Int))]) (fun k71 s67 => []) (fun k71 s67 => .o (.j 5 0 [0, 1, 5, 6] [] (fun (s78 : Int) => [(5, eI s78)]) (fun _ => []) .z (fun _ => .z))) (fun s75 => .z)))))
end Go.Proofs.YtbdkbdafhlcilaaGreat
set_option linter.unusedSimpArgs false
set_option linter.unusedVariables false
namespace Go.Proofs.YtbdkbdafhlcilaaGreat
open Go Go.RowKit
set_option maxRecDepth 100000
set_option maxHeartbeats 20000000
instance W9m : ∀ (p0 : (List V1)) (p1 : Int) (p2 : Int), Ct (Q5x p0 p1 p2) fun res => Z0 Tryz.prog 0o00376 [(.slice 3 (List.map Q1w p0)), (eI p1), (eI p2)] (fun d => d = (eB res)) :=
 au Tryz.func254 Q5x.eq_1 (.o (.o (.o (.ls 0 (.f [] [] [0, 1, 2, 7] [] (fun (k139 : Nat) (s135 : Unit) => [(7, eI (k139 : Int))]) (fun k139 s135 => []) (fun k139 s135 => .o (.j 4 0 [0, 1, 2, 7] [] (fun (s153 : Unit) => []) (fun _ => []) .z (fun _ => .z))) (fun s143 => .z))))))
end Go.Proofs.YtbdkbdafhlcilaaGreat
set_option linter.unusedSimpArgs false
set_option linter.unusedVariables false
namespace Go.Proofs.YtbdkbdafhlcilaaGreat
open Go Go.RowKit
set_option maxRecDepth 100000
set_option maxHeartbeats 20000000
instance W72 : ∀ (p0 : (List Int)) (p1 : Int), Ct (Q69 p0 p1) fun res => Z0 Tryz.prog 0o00377 [(.slice 1 (List.map rI p0)), (eI p1)] (fun d => d = (.slice 1 (List.map rI res))) :=
 au Tryz.func255 Q69.eq_1 .z
end Go.Proofs.YtbdkbdafhlcilaaGreat
set_option linter.unusedSimpArgs false
set_option linter.unusedVariables false
namespace Go.Proofs.YtbdkbdafhlcilaaGreat
open Go Go.RowKit
set_option maxRecDepth 100000
set_option maxHeartbeats 20000000
instance W74 : ∀ (p0 : Q0) (p1 : Z1), Ct (Q6a p0 p1) fun res => Z0 Tryz.prog 0o00400 [(.agg (Q1 p0)), (.agg (J4 p1))] (fun d => d = (eB res)) :=
 au Tryz.func256 Q6a.eq_1 .z
end Go.Proofs.YtbdkbdafhlcilaaGreat
