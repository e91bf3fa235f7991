import Derived.Test.YtnackipaoepmfaaGreatDJMir
import Derived.Test.YtnackipaoepmfaaGreatDJAuto
import Derived.Test.YtnackipaoepmfaaGreatDJC0c0
import Derived.Test.YtnackipaoepmfaaGreatDJC1a0
import Derived.Test.YtnackipaoepmfaaGreatDJC0b0
import Derived.Test.YtnackipaoepmfaaGreatDJC1b0
import Derived.Test.YtnackipaoepmfaaGreatDJC1d0
import Derived.Test.YtnackipaoepmfaaGreatDJC1c0
set_option linter.unusedSimpArgs false
set_option linter.unusedVariables false
set_option linter.unusedSimpArgs false
set_option linter.unusedVariables false
namespace Go.Proofs.YtnackipaoepmfaaGreat
open Go Go.RowKit
set_option maxRecDepth 100000
set_option maxHeartbeats 20000000
instance X8r : ∀ (n : Nat) (p0 : (List Q3)) (p1 : Q2) (p2 : Q6) (p3 : Int) (p4 : Bool) (p5 : Int), Ct (Q1t n p0 p1 p2 p3 p4 p5) fun res => Q1d Tryz.prog 0o00237 [⟨1, [[(eI p5)]], 0, 0x0003⟩] [(.slice 2 (List.map Z6 p0)), (.agg (Z2 p1)), (.agg (X3 p2)), (eI p3), (eB p4), .ptr 1 0 0 0] (fun H d => H = [some ⟨1, [[(eI res.2)]], 0, 0x0003⟩] ∧ d = (eB res.1)) :=
 ar (au Tryz.func159 Q1t.eq_2 (.o (.o (.o (.o (.o (.o (.o (.o (.i .z (.i .z (.j 4 0 [0, 3, 4, 5, 7, 8] [0, 1, 9] (fun (s92 : Unit) => []) (fun _ => []) (.i (.i .z (.i .z (.g [0, 3, 4, 5, 7, 8] [0, 1, 9] [] [] (.i (.d [0, 1, 2, 3, 4, 5, 7, 8, 6, 9, 10, 11, 12] [2] [] .z) (.o (.o (.d [0, 1, 2, 3, 4, 5, 7, 8, 6, 9, 10, 11, 12] [1, 2] [] .z))))))) (.i .z (.g [0, 3, 4, 5, 7, 8] [0, 1, 9] [] [] (.i (.d [0, 1, 2, 3, 4, 5, 7, 8, 6, 9, 10, 11, 12] [2] [] .z) (.o (.o (.d [0, 1, 2, 3, 4, 5, 7, 8, 6, 9, 10, 11, 12] [1, 2] [] .z))))))) (fun s92 => .o (.i .z (.ls 84 (.f [] [0] [0, 3, 4, 5, 13, 88, 89, 90] [0] (fun (k244 : Nat) (s240 : Int) => [(90, eI (k244 : Int))]) (fun k244 s240 => [(0, some ⟨1, [[(eI s240)]], 0, 0x0003⟩)]) (fun k244 s240 => .o (.g [0, 3, 4, 5, 13, 14, 15, 88, 89, 90] [0, 33] [] [] (.o (.o (.d [0, 1, 2, 3, 4, 5, 6, 7, 8, 9, 10, 11] [1] [] .z))))) (fun s248 => .z)))))))))))))))))
end Go.Proofs.YtnackipaoepmfaaGreat
set_option linter.unusedSimpArgs false
set_option linter.unusedVariables false
namespace Go.Proofs.YtnackipaoepmfaaGreat
open Go Go.RowKit
set_option maxRecDepth 100000
set_option maxHeartbeats 20000000
instance X8u : ∀ (p0 : W6) (p1 : W6), Ct (Q13 p0 p1) fun res => Q9 Tryz.prog 0o00374 [(.agg (Q0q p0)), (.agg (Q0q p1))] (fun d => d = (eI res)) :=
 au Tryz.func252 Q13.eq_1 .z
end Go.Proofs.YtnackipaoepmfaaGreat
set_option linter.unusedSimpArgs false
set_option linter.unusedVariables false
namespace Go.Proofs.YtnackipaoepmfaaGreat
open Go Go.RowKit
set_option maxRecDepth 100000
set_option maxHeartbeats 20000000
instance W2n : ∀ (n : Nat) (p0 : (List Q3)) (p1 : Q2) (p2 : Q0), Ct (Q30 n p0 p1 p2) fun res => Q9 Tryz.prog 0o00473 [(.slice 2 (List.map Z6 p0)), (.agg (Z2 p1)), (.agg (Q1 p2))] (fun d => d = (.slice 2 (List.map Z2 res))) :=
 au Tryz.func315 Q30.eq_1 (.o (.o (.o (.o (.i .z (.w [7] [48] [4, 5, 7, 8] [0, 8, 48] (fun (s52 : (List Q2) × Int) => [(7, .sl 2 48 (s52.1).length), (8, eI s52.2)]) (fun s52 => [(48, some ⟨2, (List.map Z2 s52.1), 0, 0x0019⟩)]) (fun s52 => .z) (fun s60 => .z)))))))
end Go.Proofs.YtnackipaoepmfaaGreat
set_option linter.unusedSimpArgs false
set_option linter.unusedVariables false
namespace Go.Proofs.YtnackipaoepmfaaGreat
open Go Go.RowKit
set_option maxRecDepth 100000
set_option maxHeartbeats 20000000
instance W6u : ∀ (p0 : (List Q3)) (p1 : Q2) (p2 : Q0), Ct (Q66 p0 p1 p2) fun res => Q9 Tryz.prog 0o00514 [(.slice 2 (List.map Z6 p0)), (.agg (Z2 p1)), (.agg (Q1 p2))] (fun d => d = (eB res)) :=
 au Tryz.func332 Q66.eq_1 (.o (.o (.o (.e (.j 1 0 [0, 4, 5, 7] [0, 8] (fun (s2 : Bool) => [(7, eB s2)]) (fun _ => []) .z (fun s2 => .j 2 0 [0, 4, 5] [0, 1] (fun (s17 : Unit) => []) (fun _ => []) .z (fun s17 => .j 4 0 [0, 4, 5] [0, 1] (fun (s50 : Unit) => []) (fun _ => []) .z (fun s50 => .j 7 0 [0, 4, 5, 60, 61] [0, 1] (fun (s95 : Bool) => [(61, eB s95)]) (fun _ => []) .z (fun s95 => .i .z (.i .z (.i (.g [0, 4, 5] [0, 1] [] [] (.o (.o (.d [0, 1, 3, 4, 2, 5, 6] [0, 1] [] .z)))) .z)))))))))))
end Go.Proofs.YtnackipaoepmfaaGreat
set_option linter.unusedSimpArgs false
set_option linter.unusedVariables false
namespace Go.Proofs.YtnackipaoepmfaaGreat
open Go Go.RowKit
set_option maxRecDepth 100000
set_option maxHeartbeats 20000000
instance W4n : ∀ (n : Nat) (p0 : (List Q3)) (p1 : Q2), Ct (Q8m n p0 p1) fun res => Q9 Tryz.prog 0o00573 [(.slice 2 (List.map Z6 p0)), (.agg (Z2 p1))] (fun d => d = (eS res)) :=
 au Tryz.func379 Q8m.eq_1 (.o (.o (.o (.i .z (.g [0, 3] [0] [] [] (.o (.o (.o (.d [0, 1, 2, 3, 4, 5, 6, 7, 8, 9, 10] [0] [] .z)))))))))
end Go.Proofs.YtnackipaoepmfaaGreat
set_option linter.unusedSimpArgs false
set_option linter.unusedVariables false
namespace Go.Proofs.YtnackipaoepmfaaGreat
open Go Go.RowKit
set_option maxRecDepth 100000
set_option maxHeartbeats 20000000
instance Z7a : ∀ (n : Nat) (p0 : (List W6)) (p1 : (List W6)), Ct (Q0s n p0 p1) fun res => Q9 Tryz.prog 0o00035 [(.slice 4 (List.map Q0q p0)), (.slice 4 (List.map Q0q p1))] (fun d => d = (eB res)) :=
 au Tryz.func29 Q0s.eq_1 (.o (.o (.o (.i .z (.ls 0 (.f [] [] [0, 1, 5] [] (fun (k162 : Nat) (s158 : Unit) => [(5, eI (k162 : Int))]) (fun k162 s158 => []) (fun k162 s158 => .o (.g [0, 1, 5] [] [] [] (.o (.i (.d [0, 1, 2, 3, 4, 5, 6, 7, 8, 9, 10, 11, 12, 13, 14, 15, 16, 17, 18, 19, 20, 21, 22, 23, 24] [] [] .z) (.o (.d [0, 1, 2, 3, 4, 5, 6, 7, 8, 9, 10, 11, 12, 13, 14, 15, 16, 17, 18, 19, 20, 21, 22, 23, 24] [] [] .z)))))) (fun s166 => .z)))))))
theorem Q62 (n : Nat) (p0 : (List W6)) (p1 : (List W6)) : ∀ res, Q0s n p0 p1 = some res → Q9 Tryz.prog 0o00035 [(.slice 4 (List.map Q0q p0)), (.slice 4 (List.map Q0q p1))] (fun d => d = (eB res)) := (Z7a n p0 p1).pf
end Go.Proofs.YtnackipaoepmfaaGreat
