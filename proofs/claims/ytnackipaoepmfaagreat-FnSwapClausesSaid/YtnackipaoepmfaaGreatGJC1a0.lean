import Derived.Test.YtnackipaoepmfaaGreatGJMir
import Derived.Test.YtnackipaoepmfaaGreatGJAuto
import Derived.Test.YtnackipaoepmfaaGreatGJC0c0
import Derived.Test.YtnackipaoepmfaaGreatGJC0d0
import Derived.Test.YtnackipaoepmfaaGreatGJC0a0
import Derived.Test.YtnackipaoepmfaaGreatGJC0b0
set_option linter.unusedSimpArgs false
set_option linter.unusedVariables false
set_option linter.unusedSimpArgs false
set_option linter.unusedVariables false
namespace Go.Proofs.YtnackipaoepmfaaGreat
open Go Go.RowKit
set_option maxRecDepth 100000
set_option maxHeartbeats 20000000
instance X6m : ∀ (n : Nat) (p0 : Q0) (p1 : Q0), Ct (Q1t n p0 p1) fun res => Q9 Tryz.prog 0o00061 [(.agg (Q1 p0)), (.agg (Q1 p1))] (fun d => d = (eB res)) :=
 ar (au Tryz.func49 Q1t.eq_2 .z)
end Go.Proofs.YtnackipaoepmfaaGreat
set_option linter.unusedSimpArgs false
set_option linter.unusedVariables false
namespace Go.Proofs.YtnackipaoepmfaaGreat
open Go Go.RowKit
set_option maxRecDepth 100000
set_option maxHeartbeats 20000000
instance X9m : ∀ (p0 : Z1) (p1 : (List Int)), Ct (X6 p0 p1) fun res => Q0k Tryz.prog 0o00144 [⟨2, [(Y3 p0)], 0, 0x00c4⟩] [.ptr 2 0 0 0, (.slice 1 (List.map rI p1))] (fun H d => H = [some ⟨2, [(Y3 res.2)], 0, 0x00c4⟩] ∧ d = (eI res.1)) :=
 au Tryz.func100 X6.eq_1 .z
end Go.Proofs.YtnackipaoepmfaaGreat
set_option linter.unusedSimpArgs false
set_option linter.unusedVariables false
namespace Go.Proofs.YtnackipaoepmfaaGreat
open Go Go.RowKit
set_option maxRecDepth 100000
set_option maxHeartbeats 20000000
instance Z4t : ∀ (p0 : (List Q5)) (p1 : (Q5 → Option Bool)) {p1_f : FuncId} {p1_c : List D} [p1_i : CF1 (fun a0 => (.agg (Z8 a0))) (fun r => (eB r)) p1 p1_f p1_c], Ct (Q0o p0 p1) fun res => Q9 Tryz.prog 0o00221 [(.slice 9 (List.map Z8 p0)), .clos p1_f p1_c] (fun d => d = (eB res)) :=
 au Tryz.func145 Q0o.eq_1 .z
end Go.Proofs.YtnackipaoepmfaaGreat
set_option linter.unusedSimpArgs false
set_option linter.unusedVariables false
namespace Go.Proofs.YtnackipaoepmfaaGreat
open Go Go.RowKit
set_option maxRecDepth 100000
set_option maxHeartbeats 20000000
instance Z5x : ∀ (n : Nat) (p0 : (List Q0)) (p1 : (Q0 → Option Bool)) {p1_f : FuncId} {p1_c : List D} [p1_i : CF1 (fun a0 => (.agg (Q1 a0))) (fun r => (eB r)) p1 p1_f p1_c], Ct (Y8 n p0 p1) fun res => Q0k Tryz.prog 0o00416 [⟨6, List.map Q1 p0, 0, 0x0033⟩] [.sl 6 0 p0.length, .clos p1_f p1_c] (fun H d => H = [none, some ⟨6, List.map Q1 res, 0, 0x0033⟩] ∧ d = .sl 6 1 res.length) :=
 au Tryz.func270 Y8.eq_1 (.o (.o (.o (.o (.o (.o (.o (.i (.pM 4 .z) (.w [0, 5] [0] [0, 1, 5, 6] [0] (fun (s96 : (List Q0) × Int × Int) => [(0, .sl 6 0 (s96.1).length), (5, eI s96.2.1), (6, eI s96.2.2)]) (fun s96 => [(0, some ⟨6, (List.map Q1 s96.1), 0, 0x0033⟩)]) (fun s96 => .i (.j 7 0 [0, 1, 5, 6] [0] (fun (s112 : (List Q0) × Int) => [(0, .sl 6 0 (s112.1).length), (5, eI s112.2)]) (fun s112 => [(0, some ⟨6, (List.map Q1 s112.1), 0, 0x0033⟩)]) .z (fun _ => .z)) .z) (fun s104 => .o (.pM 4 .z)))))))))))
end Go.Proofs.YtnackipaoepmfaaGreat
set_option linter.unusedSimpArgs false
set_option linter.unusedVariables false
namespace Go.Proofs.YtnackipaoepmfaaGreat
open Go Go.RowKit
set_option maxRecDepth 100000
set_option maxHeartbeats 20000000
instance Z9g : ∀ (p0 : (List (List Q0))), Ct (J5 p0) fun res => Q9 Tryz.prog 0o00422 [(.slice 1 (List.map (rL 6 Q1) p0))] (fun d => d = (.slice 6 (List.map Q1 res))) :=
 au Tryz.func274 J5.eq_1 (.o (.ls 0 (.f [0, 3] [] [0, 3, 9, 10, 11] [] (fun (k46 : Nat) (s42 : Int) => [(3, eI s42), (11, eI (k46 : Int))]) (fun k46 s42 => []) (fun k46 s42 => .z) (fun s50 => .o (.ls 0 (.f [6] [9] [6, 25, 26, 27] [9] (fun (k99 : Nat) (s95 : (List Q0)) => [(6, .sl 6 9 (s95).length), (27, eI (k99 : Int))]) (fun k99 s95 => [(9, some ⟨6, (List.map Q1 s95), 0, 0x0033⟩)]) (fun k99 s95 => .z) (fun s103 => .z)))))))
end Go.Proofs.YtnackipaoepmfaaGreat
set_option linter.unusedSimpArgs false
set_option linter.unusedVariables false
namespace Go.Proofs.YtnackipaoepmfaaGreat
open Go Go.RowKit
set_option maxRecDepth 100000
set_option maxHeartbeats 20000000
instance W68 : ∀ (n : Nat) (p0 : (List Q5)), Ct (Q4s n p0) fun res => Q0k Tryz.prog 0o00137 [] [(.slice 9 (List.map Z8 p0))] (fun H d => H = [some ⟨9, List.map Z8 res, 0, 0x0037⟩] ∧ d = .sl 9 0 res.length) :=
 au Tryz.func95 Q4s.eq_1 (.o (.o (.ls 0 (.f [3] [8] [0, 3, 4] [8] (fun (k56 : Nat) (s52 : (List Q5)) => [(3, .sl 9 8 (s52).length), (4, eI (k56 : Int))]) (fun k56 s52 => [(8, some ⟨9, (List.map Z8 s52), 0, 0x0037⟩)]) (fun k56 s52 => .o (.g [0, 3, 4] [0] [] [] (.o (.o (.d [0, 1, 2, 3, 4, 5, 7, 8, 9, 10, 11, 6, 12, 13, 14, 15] [] [] .z))))) (fun s60 => .z)))))
end Go.Proofs.YtnackipaoepmfaaGreat
set_option linter.unusedSimpArgs false
set_option linter.unusedVariables false
namespace Go.Proofs.YtnackipaoepmfaaGreat
open Go Go.RowKit
set_option maxRecDepth 100000
set_option maxHeartbeats 20000000
instance X6k : ∀ (n : Nat) (p0 : (List Q3)) (p1 : Q2) (p2 : Int), Ct (Q02 n p0 p1 p2) fun res => Q9 Tryz.prog 0o00124 [(.slice 2 (List.map X0 p0)), (.agg (Z6 p1)), (eI p2)] (fun d => d = (eI res)) :=
 ar (au Tryz.func84 Q02.eq_2 (.o (.o (.o (.o (.o (.i .z (.i .z (.o (.ls 20 (.f [7] [] [0, 2, 4, 7, 20, 21, 22] [0] (fun (k582 : Nat) (s578 : Int) => [(7, eI s578), (22, eI (k582 : Int))]) (fun k582 s578 => []) (fun k582 s578 => .o (.o (.ls 29 (.f [0, 2, 4, 7, 10, 20, 21, 22] [0] [0, 2, 4, 7, 10, 20, 21, 22, 29, 30, 31] [0] (fun (k688 : Nat) (s684 : Int) => [(10, eI s684), (31, eI (k688 : Int))]) (fun k688 s684 => []) (fun k688 s684 => .z) (fun s692 => .z))))) (fun s586 => .z))))))))))))
end Go.Proofs.YtnackipaoepmfaaGreat
set_option linter.unusedSimpArgs false
set_option linter.unusedVariables false
namespace Go.Proofs.YtnackipaoepmfaaGreat
open Go Go.RowKit
set_option maxRecDepth 100000
set_option maxHeartbeats 20000000
instance W8c : ∀ (n : Nat) (p0 : Q0) (p1 : Q4), Ct (Q2x n p0 p1) fun res => Q0k Tryz.prog 0o00372 [] [(.agg (Q1 p0)), (.agg (V0 p1))] (fun H d => H = [some ⟨4, List.map Q1h res.1, 0, 0x007e⟩] ∧ d = .tup [.sl 4 0 res.1.length, (eB res.2)]) :=
 ar (au Tryz.func250 Q2x.eq_2 (.o (.o (.o (.o (.i (.pN 4 4 0x007e .z) (.i .z (.i (.o (.pN 4 4 0x007e .z)) (.i (.g [2, 3] [0, 8] [] [] (.o (.o (.d [0, 1, 2, 3, 4, 5, 6, 7, 8, 9, 10] [0, 1] [] (.i .z (.g [2, 3] [0, 1] [] [] (.o (.o (.d [0, 1, 2, 3, 4, 5, 6, 7, 8, 9] [0, 1] [] .z))))))))) (.i (.g [2, 3] [0, 8] [] [] (.o (.o (.d [0, 1, 2, 3, 4, 5, 6, 7, 8, 9, 10] [0, 1] [] .z)))) (.i (.pN 4 4 0x007e .z) (.pN 10 4 0x007e (.ls 81 (.f [10] [208] [3, 10, 81, 82, 83] [8, 208] (fun (k122 : Nat) (s118 : (List W4)) => [(10, .sl 4 208 (s118).length), (83, eI (k122 : Int))]) (fun k122 s118 => [(208, some ⟨4, (List.map Q1h s118), 0, 0x007e⟩)]) (fun k122 s118 => .o (.g [3, 10, 11, 12, 81, 82, 83] [0, 1, 34] [] [] (.o (.o (.d [0, 1, 2, 3, 4, 5, 6, 7, 8, 9, 10, 11] [0, 2] [] (.i (.pN 4 4 0x007e .z) .z)))))) (fun s126 => .z)))))))))))))))
end Go.Proofs.YtnackipaoepmfaaGreat
set_option linter.unusedSimpArgs false
set_option linter.unusedVariables false
namespace Go.Proofs.YtnackipaoepmfaaGreat
open Go Go.RowKit
set_option maxRecDepth 100000
set_option maxHeartbeats 20000000
instance Z4s : ∀ (n : Nat) (p0 : (List W4)) (p1 : Int) (p2 : Int) (p3 : Int) (p4 : (W4 → W4 → Option Int)) {p4_f : FuncId} {p4_c : List D} [p4_i : CF2 (fun a0 => (.agg (Q1h a0))) (fun a1 => (.agg (Q1h a1))) (fun r => (eI r)) p4 p4_f p4_c], Ct (Q0n n p0 p1 p2 p3 p4) fun res => Q0k Tryz.prog 0o00463 [⟨4, List.map Q1h p0, 0, 0x007e⟩] [.sl 4 0 p0.length, (eI p1), (eI p2), (eI p3), .clos p4_f p4_c] (fun H d => H = [some ⟨4, List.map Q1h res, 0, 0x007e⟩] ∧ d = .tup []) :=
 ar (au Tryz.func307 Q0n.eq_2 (.o (.o (.o (.o (.o (.o (.o (.o (.o (.o (.w [] [0] [0, 1, 2, 3, 4, 10, 11] [0] (fun (s10 : Unit) => []) (fun s10 => []) (fun s10 => .z) (fun s18 => .z)))))))))))))
end Go.Proofs.YtnackipaoepmfaaGreat
set_option linter.unusedSimpArgs false
set_option linter.unusedVariables false
namespace Go.Proofs.YtnackipaoepmfaaGreat
open Go Go.RowKit
set_option maxRecDepth 100000
set_option maxHeartbeats 20000000
instance W27 : ∀ (p0 : Int), Ct (Q5x p0) fun res => Q9 Tryz.prog 0o00464 [(.val (.int .u64 p0))] (fun d => d = (eI res)) :=
 au Tryz.func308 Q5x.eq_1 .z
end Go.Proofs.YtnackipaoepmfaaGreat
