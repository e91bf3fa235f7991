import Derived.Test.YtnackipaoepmfaaGreatDJMir
import Derived.Test.YtnackipaoepmfaaGreatDJAuto
import Derived.Test.YtnackipaoepmfaaGreatDJC0b0
import Derived.Test.YtnackipaoepmfaaGreatDJC0c0
import Derived.Test.YtnackipaoepmfaaGreatDJC0d0
import Derived.Test.YtnackipaoepmfaaGreatDJC0a0
set_option linter.unusedSimpArgs false
set_option linter.unusedVariables false
set_option linter.unusedSimpArgs false
set_option linter.unusedVariables false
namespace Go.Proofs.YtnackipaoepmfaaGreat
open Go Go.RowKit
set_option maxRecDepth 100000
set_option maxHeartbeats 20000000
instance X8z : ∀ (n : Nat) (p0 : ByteArray), Ct (Q6e n p0) fun res => Q9 Tryz.prog 0o00476 [(eS p0)] (fun d => d = (eB res)) :=
 au Tryz.func318 Q6e.eq_1 (.o (.o (.o (.i .z (.o (.i .z (.i .z (.w [] [] [0, 3] [] (fun (s132 : Int) => [(3, eI s132)]) (fun s132 => []) (fun s132 => .z) (fun s140 => .z)))))))))
end Go.Proofs.YtnackipaoepmfaaGreat
set_option linter.unusedSimpArgs false
set_option linter.unusedVariables false
namespace Go.Proofs.YtnackipaoepmfaaGreat
open Go Go.RowKit
set_option maxRecDepth 100000
set_option maxHeartbeats 20000000
instance X5w : ∀ (n : Nat) (p0 : (List Q3)) (p1 : Q2) (p2 : Int), Ct (Q01 n p0 p1 p2) fun res => Q9 Tryz.prog 0o00124 [(.slice 2 (List.map Z6 p0)), (.agg (Z2 p1)), (eI p2)] (fun d => d = (eI res)) :=
 ar (au Tryz.func84 Q01.eq_2 (.o (.o (.o (.o (.o (.i .z (.i .z (.o (.ls 20 (.f [7] [] [0, 2, 4, 7, 20, 21, 22] [0] (fun (k582 : Nat) (s578 : Int) => [(7, eI s578), (22, eI (k582 : Int))]) (fun k582 s578 => []) (fun k582 s578 => .o (.o (.ls 29 (.f [0, 2, 4, 7, 10, 20, 21, 22] [0] [0, 2, 4, 7, 10, 20, 21, 22, 29, 30, 31] [0] (fun (k688 : Nat) (s684 : Int) => [(10, eI s684), (31, eI (k688 : Int))]) (fun k688 s684 => []) (fun k688 s684 => .z) (fun s692 => .z))))) (fun s586 => .z))))))))))))
end Go.Proofs.YtnackipaoepmfaaGreat
set_option linter.unusedSimpArgs false
set_option linter.unusedVariables false
namespace Go.Proofs.YtnackipaoepmfaaGreat
open Go Go.RowKit
set_option maxRecDepth 100000
set_option maxHeartbeats 20000000
instance X18 : ∀ (p0 : (List Int)) (p1 : Int), Ct (J2 p0 p1) fun res => Q9 Tryz.prog 0o00157 [(.slice 1 (List.map rI p0)), (eI p1)] (fun d => d = (eB res)) :=
 au Tryz.func111 J2.eq_1 .z
end Go.Proofs.YtnackipaoepmfaaGreat
set_option linter.unusedSimpArgs false
set_option linter.unusedVariables false
namespace Go.Proofs.YtnackipaoepmfaaGreat
open Go Go.RowKit
set_option maxRecDepth 100000
set_option maxHeartbeats 20000000
instance W72 : ∀ (n : Nat) (p0 : Q0) (p1 : Q6), Ct (Q2u n p0 p1) fun res => Q1d Tryz.prog 0o00372 [] [(.agg (Q1 p0)), (.agg (X3 p1))] (fun H d => H = [some ⟨4, List.map Q0q res.1, 0, 0x007e⟩] ∧ d = .tup [.sl 4 0 res.1.length, (eB res.2)]) :=
 ar (au Tryz.func250 Q2u.eq_2 (.o (.o (.o (.o (.i (.pN 4 4 0x007e .z) (.i .z (.i (.o (.pN 4 4 0x007e .z)) (.i (.g [2, 3] [0, 8] [] [] (.o (.o (.d [0, 1, 2, 3, 4, 5, 6, 7, 8, 9, 10] [0, 1] [] (.i .z (.g [2, 3] [0, 1] [] [] (.o (.o (.d [0, 1, 2, 3, 4, 5, 6, 7, 8, 9] [0, 1] [] .z))))))))) (.i (.g [2, 3] [0, 8] [] [] (.o (.o (.d [0, 1, 2, 3, 4, 5, 6, 7, 8, 9, 10] [0, 1] [] .z)))) (.i (.pN 4 4 0x007e .z) (.pN 10 4 0x007e (.ls 81 (.f [10] [208] [3, 10, 81, 82, 83] [8, 208] (fun (k122 : Nat) (s118 : (List W6)) => [(10, .sl 4 208 (s118).length), (83, eI (k122 : Int))]) (fun k122 s118 => [(208, some ⟨4, (List.map Q0q s118), 0, 0x007e⟩)]) (fun k122 s118 => .o (.g [3, 10, 11, 12, 81, 82, 83] [0, 1, 34] [] [] (.o (.o (.d [0, 1, 2, 3, 4, 5, 6, 7, 8, 9, 10, 11] [0, 2] [] (.i (.pN 4 4 0x007e .z) .z)))))) (fun s126 => .z)))))))))))))))
end Go.Proofs.YtnackipaoepmfaaGreat
set_option linter.unusedSimpArgs false
set_option linter.unusedVariables false
namespace Go.Proofs.YtnackipaoepmfaaGreat
open Go Go.RowKit
set_option maxRecDepth 100000
set_option maxHeartbeats 20000000
instance W2z : ∀ (p0 : (List Int)) (p1 : Q2), Ct (Q1f p0 p1) fun res => Q9 Tryz.prog 0o00233 [(.slice 1 (List.map rI p0)), (.agg (Z2 p1))] (fun d => d = (eI res)) :=
 au Tryz.func155 Q1f.eq_1 .z
end Go.Proofs.YtnackipaoepmfaaGreat
set_option linter.unusedSimpArgs false
set_option linter.unusedVariables false
namespace Go.Proofs.YtnackipaoepmfaaGreat
open Go Go.RowKit
set_option maxRecDepth 100000
set_option maxHeartbeats 20000000
instance X2g : ∀ (p0 : (List Int)) (p1 : (List Q3)) (p2 : Q2) (p3 : Int), Ct (Q10 p0 p1 p2 p3) fun res => Q9 Tryz.prog 0o00414 [.cptr (List.map cI p0), (.slice 2 (List.map Z6 p1)), (.agg (Z2 p2)), (eI p3)] (fun d => d = (eI res)) :=
 au Tryz.func268 Q10.eq_1 (.o (.o (.o (.o (.o (.ls 16 (.f [9] [] [0, 9, 16, 17, 18] [] (fun (k68 : Nat) (s64 : Int) => [(9, eI s64), (18, eI (k68 : Int))]) (fun k68 s64 => []) (fun k68 s64 => .z) (fun s72 => .z))))))))
end Go.Proofs.YtnackipaoepmfaaGreat
set_option linter.unusedSimpArgs false
set_option linter.unusedVariables false
namespace Go.Proofs.YtnackipaoepmfaaGreat
open Go Go.RowKit
set_option maxRecDepth 100000
set_option maxHeartbeats 20000000
instance Z5s : ∀ (n : Nat) (p0 : (List Q0)) (p1 : (Q0 → Option Bool)) {p1_f : FuncId} {p1_c : List D} [p1_i : CF1 (fun a0 => (.agg (Q1 a0))) (fun r => (eB r)) p1 p1_f p1_c], Ct (Y9 n p0 p1) fun res => Q1d Tryz.prog 0o00416 [⟨6, List.map Q1 p0, 0, 0x0033⟩] [.sl 6 0 p0.length, .clos p1_f p1_c] (fun H d => H = [none, some ⟨6, List.map Q1 res, 0, 0x0033⟩] ∧ d = .sl 6 1 res.length) :=
 au Tryz.func270 Y9.eq_1 (.o (.o (.o (.o (.o (.o (.o (.i (.pM 4 .z) (.w [0, 5] [0] [0, 1, 5, 6] [0] (fun (s96 : (List Q0) × Int × Int) => [(0, .sl 6 0 (s96.1).length), (5, eI s96.2.1), (6, eI s96.2.2)]) (fun s96 => [(0, some ⟨6, (List.map Q1 s96.1), 0, 0x0033⟩)]) (fun s96 => .i (.j 7 0 [0, 1, 5, 6] [0] (fun (s112 : (List Q0) × Int) => [(0, .sl 6 0 (s112.1).length), (5, eI s112.2)]) (fun s112 => [(0, some ⟨6, (List.map Q1 s112.1), 0, 0x0033⟩)]) .z (fun _ => .z)) .z) (fun s104 => .o (.pM 4 .z)))))))))))
end Go.Proofs.YtnackipaoepmfaaGreat
set_option linter.unusedSimpArgs false
set_option linter.unusedVariables false
namespace Go.Proofs.YtnackipaoepmfaaGreat
open Go Go.RowKit
set_option maxRecDepth 100000
set_option maxHeartbeats 20000000
instance W8m : ∀ (p0 : (List Q3)) (p1 : Q2), Ct (Q77 p0 p1) fun res => Q9 Tryz.prog 0o00401 [(.slice 2 (List.map Z6 p0)), (.agg (Z2 p1))] (fun d => d = (eB res)) :=
 au Tryz.func257 Q77.eq_1 .z
end Go.Proofs.YtnackipaoepmfaaGreat
set_option linter.unusedSimpArgs false
set_option linter.unusedVariables false
namespace Go.Proofs.YtnackipaoepmfaaGreat
open Go Go.RowKit
set_option maxRecDepth 100000
set_option maxHeartbeats 20000000
instance W6v : ∀ (n : Nat) (p0 : (List Q0)), Ct (Q3a n p0) fun res => Q9 Tryz.prog 0o00413 [(.slice 6 (List.map Q1 p0))] (fun d => d = (.slice 6 (List.map Q1 res))) :=
 au Tryz.func267 Q3a.eq_1 (.o (.o (.ls 0 (.f [3] [8] [0, 3, 4] [8] (fun (k56 : Nat) (s52 : (List Q0)) => [(3, .sl 6 8 (s52).length), (4, eI (k56 : Int))]) (fun k56 s52 => [(8, some ⟨6, (List.map Q1 s52), 0, 0x0033⟩)]) (fun k56 s52 => .z) (fun s60 => .z)))))
end Go.Proofs.YtnackipaoepmfaaGreat
