import Derived.Test.YtnackipaoepmfaaGreatJMir
import Derived.Test.YtnackipaoepmfaaGreatJAuto
import Derived.Test.YtnackipaoepmfaaGreatJC0c0
import Derived.Test.YtnackipaoepmfaaGreatJC0b0
import Derived.Test.YtnackipaoepmfaaGreatJC0a0
import Derived.Test.YtnackipaoepmfaaGreatJC0d0
set_option linter.unusedSimpArgs false
set_option linter.unusedVariables false
set_option linter.unusedSimpArgs false
set_option linter.unusedVariables false
namespace Go.Proofs.YtnackipaoepmfaaGreat
open Go Go.RowKit
set_option maxRecDepth 100000
set_option maxHeartbeats 20000000
instance W46 : ∀ (n : Nat) (p0 : Int), Ct (Q84 n p0) fun res => Q9 Tryz.prog 0o00600 [(eI p0)] (fun d => d = (eS res)) :=
 au Tryz.func384 Q84.eq_1 .z
end Go.Proofs.YtnackipaoepmfaaGreat
set_option linter.unusedSimpArgs false
set_option linter.unusedVariables false
namespace Go.Proofs.YtnackipaoepmfaaGreat
open Go Go.RowKit
set_option maxRecDepth 100000
set_option maxHeartbeats 20000000
instance W83 : ∀ (n : Nat) (p0 : (List Q0)), Ct (Q3g n p0) fun res => Q9 Tryz.prog 0o00413 [(.slice 6 (List.map Q1 p0))] (fun d => d = (.slice 6 (List.map Q1 res))) :=
 au Tryz.func267 Q3g.eq_1 (.o (.o (.ls 0 (.f [3] [8] [0, 3, 4] [8] (fun (k56 : Nat) (s52 : (List Q0)) => [(3, .sl 6 8 (s52).length), (4, eI (k56 : Int))]) (fun k56 s52 => [(8, some ⟨6, (List.map Q1 s52), 0, 0x0033⟩)]) (fun k56 s52 => .z) (fun s60 => .z)))))
end Go.Proofs.YtnackipaoepmfaaGreat
set_option linter.unusedSimpArgs false
set_option linter.unusedVariables false
namespace Go.Proofs.YtnackipaoepmfaaGreat
open Go Go.RowKit
set_option maxRecDepth 100000
set_option maxHeartbeats 20000000
instance Z54 : ∀ (p0 : (List Q4)) (p1 : (Q4 → Option Bool)) {p1_f : FuncId} {p1_c : List D} [p1_i : CF1 (fun a0 => (.agg (Z7 a0))) (fun r => (eB r)) p1 p1_f p1_c], Ct (Q0x p0 p1) fun res => Q9 Tryz.prog 0o00221 [(.slice 9 (List.map Z7 p0)), .clos p1_f p1_c] (fun d => d = (eB res)) :=
 au Tryz.func145 Q0x.eq_1 .z
end Go.Proofs.YtnackipaoepmfaaGreat
set_option linter.unusedSimpArgs false
set_option linter.unusedVariables false
namespace Go.Proofs.YtnackipaoepmfaaGreat
open Go Go.RowKit
set_option maxRecDepth 100000
set_option maxHeartbeats 20000000
instance Z7p : ∀ (p0 : (List Q2)) (p1 : (Q2 → Option Bool)) {p1_f : FuncId} {p1_c : List D} [p1_i : CF1 (fun a0 => (.agg (Z5 a0))) (fun r => (eB r)) p1 p1_f p1_c], Ct (J4 p0 p1) fun res => Q9 Tryz.prog 0o00257 [(.slice 2 (List.map Z5 p0)), .clos p1_f p1_c] (fun d => d = (eB res)) :=
 au Tryz.func175 J4.eq_1 .z
end Go.Proofs.YtnackipaoepmfaaGreat
set_option linter.unusedSimpArgs false
set_option linter.unusedVariables false
namespace Go.Proofs.YtnackipaoepmfaaGreat
open Go Go.RowKit
set_option maxRecDepth 100000
set_option maxHeartbeats 20000000
instance W04 : ∀ (n : Nat) (p0 : ByteArray), Ct (Q6n n p0) fun res => Q9 Tryz.prog 0o00476 [(eS p0)] (fun d => d = (eB res)) :=
 au Tryz.func318 Q6n.eq_1 (.o (.o (.o (.i .z (.o (.i .z (.i .z (.w [] [] [0, 3] [] (fun (s132 : Int) => [(3, eI s132)]) (fun s132 => []) (fun s132 => .z) (fun s140 => .z)))))))))
end Go.Proofs.YtnackipaoepmfaaGreat
set_option linter.unusedSimpArgs false
set_option linter.unusedVariables false
namespace Go.Proofs.YtnackipaoepmfaaGreat
open Go Go.RowKit
set_option maxRecDepth 100000
set_option maxHeartbeats 20000000
instance W8c : ∀ (p0 : (List Q3)) (p1 : Q2), Ct (Z0b p0 p1) fun res => Q9 Tryz.prog 0o00500 [(.slice 2 (List.map X2 p0)), (.agg (Z5 p1))] (fun d => d = (eB res)) :=
 au Tryz.func320 Z0b.eq_1 .z
end Go.Proofs.YtnackipaoepmfaaGreat
set_option linter.unusedSimpArgs false
set_option linter.unusedVariables false
namespace Go.Proofs.YtnackipaoepmfaaGreat
open Go Go.RowKit
set_option maxRecDepth 100000
set_option maxHeartbeats 20000000
instance Z6c : ∀ (n : Nat) (p0 : (List Q0)) (p1 : (Q0 → Option Bool)) {p1_f : FuncId} {p1_c : List D} [p1_i : CF1 (fun a0 => (.agg (Q1 a0))) (fun r => (eB r)) p1 p1_f p1_c], Ct (Y9 n p0 p1) fun res => Q0u Tryz.prog 0o00416 [⟨6, List.map Q1 p0, 0, 0x0033⟩] [.sl 6 0 p0.length, .clos p1_f p1_c] (fun H d => H = [none, some ⟨6, List.map Q1 res, 0, 0x0033⟩] ∧ d = .sl 6 1 res.length) :=
 au Tryz.func270 Y9.eq_1 (.o (.o (.o (.o (.o (.o (.o (.i (.pM 4 .z) (.w [0, 5] [0] [0, 1, 5, 6] [0] (fun (s96 : (List Q0) × Int × Int) => [(0, .sl 6 0 (s96.1).length), (5, eI s96.2.1), (6, eI s96.2.2)]) (fun s96 => [(0, some ⟨6, (List.map Q1 s96.1), 0, 0x0033⟩)]) (fun s96 => .i (.j 7 0 [0, 1, 5, 6] [0] (fun (s112 : (List Q0) × Int) => [(0, .sl 6 0 (s112.1).length), (5, eI s112.2)]) (fun s112 => [(0, some ⟨6, (List.map Q1 s112.1), 0, 0x0033⟩)]) .z (fun _ => .z)) .z) (fun s104 => .o (.pM 4 .z)))))))))))
end Go.Proofs.YtnackipaoepmfaaGreat
set_option linter.unusedSimpArgs false
set_option linter.unusedVariables false
namespace Go.Proofs.YtnackipaoepmfaaGreat
open Go Go.RowKit
set_option maxRecDepth 100000
set_option maxHeartbeats 20000000
instance X00 : ∀ (p0 : (List (List Q0))), Ct (J6 p0) fun res => Q9 Tryz.prog 0o00422 [(.slice 1 (List.map (rL 6 Q1) p0))] (fun d => d = (.slice 6 (List.map Q1 res))) :=
 au Tryz.func274 J6.eq_1 (.o (.ls 0 (.f [0, 3] [] [0, 3, 9, 10, 11] [] (fun (k46 : Nat) (s42 : Int) => [(3, eI s42), (11, eI (k46 : Int))]) (fun k46 s42 => []) (fun k46 s42 => .z) (fun s50 => .o (.ls 0 (.f [6] [9] [6, 25, 26, 27] [9] (fun (k99 : Nat) (s95 : (List Q0)) => [(6, .sl 6 9 (s95).length), (27, eI (k99 : Int))]) (fun k99 s95 => [(9, some ⟨6, (List.map Q1 s95), 0, 0x0033⟩)]) (fun k99 s95 => .z) (fun s103 => .z)))))))
end Go.Proofs.YtnackipaoepmfaaGreat
set_option linter.unusedSimpArgs false
set_option linter.unusedVariables false
namespace Go.Proofs.YtnackipaoepmfaaGreat
open Go Go.RowKit
set_option maxRecDepth 100000
set_option maxHeartbeats 20000000
instance Z4r : ∀ (p0 : (List Q0)) (p1 : (Q0 → Option Bool)) {p1_f : FuncId} {p1_c : List D} [p1_i : CF1 (fun a0 => (.agg (Q1 a0))) (fun r => (eB r)) p1 p1_f p1_c], Ct (Q0o p0 p1) fun res => Q9 Tryz.prog 0o00313 [(.slice 6 (List.map Q1 p0)), .clos p1_f p1_c] (fun d => d = (eB res)) :=
 au Tryz.func203 Q0o.eq_1 .z
end Go.Proofs.YtnackipaoepmfaaGreat
set_option linter.unusedSimpArgs false
set_option linter.unusedVariables false
namespace Go.Proofs.YtnackipaoepmfaaGreat
open Go Go.RowKit
set_option maxRecDepth 100000
set_option maxHeartbeats 20000000
instance X70 : ∀ (n : Nat) (p0 : (List Q3)) (p1 : Q2) (p2 : Int), Ct (Q04 n p0 p1 p2) fun res => Q9 Tryz.prog 0o00124 [(.slice 2 (List.map X2 p0)), (.agg (Z5 p1)), (eI p2)] (fun d => d = (eI res)) :=
 ar (au Tryz.func84 Q04.eq_2 (.o (.o (.o (.o (.o (.i .z (.i .z (.o (.ls 20 (.f [7] [] [0, 2, 4, 7, 20, 21, 22] [0] (fun (k582 : Nat) (s578 : Int) => [(7, eI s578), (22, eI (k582 : Int))]) (fun k582 s578 => []) (fun k582 s578 => .o (.o (.ls 29 (.f [0, 2, 4, 7, 10, 20, 21, 22] [0] [0, 2, 4, 7, 10, 20, 21, 22, 29, 30, 31] [0] (fun (k688 : Nat) (s684 : Int) => [(10, eI s684), (31, eI (k688 : Int))]) (fun k688 s684 => []) (fun k688 s684 => .z) (fun s692 => .z))))) (fun s586 => .z))))))))))))
end Go.Proofs.YtnackipaoepmfaaGreat
set_option linter.unusedSimpArgs false
set_option linter.unusedVariables false
namespace Go.Proofs.YtnackipaoepmfaaGreat
open Go Go.RowKit
set_option maxRecDepth 100000
set_option maxHeartbeats 20000000
instance W8a : ∀ (n : Nat) (p0 : Q0) (p1 : Q5), Ct (Q2w n p0 p1) fun res => Q0u Tryz.prog 0o00372 [] [(.agg (Q1 p0)), (.agg (V2 p1))] (fun H d => H = [some ⟨4, List.map Q1l res.1, 0, 0x007e⟩] ∧ d = .tup [.sl 4 0 res.1.length, (eB res.2)]) :=
 ar (au Tryz.func250 Q2w.eq_2 (.o (.o (.o (.o (.i (.pN 4 4 0x007e .z) (.i .z (.i (.o (.pN 4 4 0x007e .z)) (.i (.g [2, 3] [0, 8] [] [] (.o (.o (.d [0, 1, 2, 3, 4, 5, 6, 7, 8, 9, 10] [0, 1] [] (.i .z (.g [2, 3] [0, 1] [] [] (.o (.o (.d [0, 1, 2, 3, 4, 5, 6, 7, 8, 9] [0, 1] [] .z))))))))) (.i (.g [2, 3] [0, 8] [] [] (.o (.o (.d [0, 1, 2, 3, 4, 5, 6, 7, 8, 9, 10] [0, 1] [] .z)))) (.i (.pN 4 4 0x007e .z) (.pN 10 4 0x007e (.ls 81 (.f [10] [208] [3, 10, 81, 82, 83] [8, 208] (fun (k122 : Nat) (s118 : (List W4)) => [(10, .sl 4 208 (s118).length), (83, eI (k122 : Int))]) (fun k122 s118 => [(208, some ⟨4, (List.map Q1l s118), 0, 0x007e⟩)]) (fun k122 s118 => .o (.g [3, 10, 11, 12, 81, 82, 83] [0, 1, 34] [] [] (.o (.o (.d [0, 1, 2, 3, 4, 5, 6, 7, 8, 9, 10, 11] [0, 2] [] (.i (.pN 4 4 0x007e .z) .z)))))) (fun s126 => .z)))))))))))))))
end Go.Proofs.YtnackipaoepmfaaGreat
