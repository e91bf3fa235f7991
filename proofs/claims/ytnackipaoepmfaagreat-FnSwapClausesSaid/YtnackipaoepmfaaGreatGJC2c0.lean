import Derived.Test.YtnackipaoepmfaaGreatGJMir
import Derived.Test.YtnackipaoepmfaaGreatGJAuto
import Derived.Test.YtnackipaoepmfaaGreatGJC0c0
import Derived.Test.YtnackipaoepmfaaGreatGJC1d0
import Derived.Test.YtnackipaoepmfaaGreatGJC1a0
import Derived.Test.YtnackipaoepmfaaGreatGJC1b0
import Derived.Test.YtnackipaoepmfaaGreatGJC0d0
set_option linter.unusedSimpArgs false
set_option linter.unusedVariables false
set_option linter.unusedSimpArgs false
set_option linter.unusedVariables false
namespace Go.Proofs.YtnackipaoepmfaaGreat
open Go Go.RowKit
set_option maxRecDepth 100000
set_option maxHeartbeats 20000000
instance W3r : ∀ (n : Nat) (p0 : (List Q3)) (p1 : Q2) (p2 : Q0), Ct (Q36 n p0 p1 p2) fun res => Q9 Tryz.prog 0o00473 [(.slice 2 (List.map X0 p0)), (.agg (Z6 p1)), (.agg (Q1 p2))] (fun d => d = (.slice 2 (List.map Z6 res))) :=
 au Tryz.func315 Q36.eq_1 (.o (.o (.o (.o (.i .z (.w [7] [48] [4, 5, 7, 8] [0, 8, 48] (fun (s52 : (List Q2) × Int) => [(7, .sl 2 48 (s52.1).length), (8, eI s52.2)]) (fun s52 => [(48, some ⟨2, (List.map Z6 s52.1), 0, 0x0019⟩)]) (fun s52 => .z) (fun s60 => .z)))))))
end Go.Proofs.YtnackipaoepmfaaGreat
set_option linter.unusedSimpArgs false
set_option linter.unusedVariables false
namespace Go.Proofs.YtnackipaoepmfaaGreat
open Go Go.RowKit
set_option maxRecDepth 100000
set_option maxHeartbeats 20000000
instance W84 : ∀ (p0 : (List Q3)) (p1 : Q2) (p2 : Q0), Ct (Q6f p0 p1 p2) fun res => Q9 Tryz.prog 0o00514 [(.slice 2 (List.map X0 p0)), (.agg (Z6 p1)), (.agg (Q1 p2))] (fun d => d = (eB res)) :=
 au Tryz.func332 Q6f.eq_1 (.o (.o (.o (.e (.j 1 0 [0, 4, 5, 7] [0, 8] (fun (s2 : Bool) => [(7, eB s2)]) (fun _ => []) .z (fun s2 => .j 2 0 [0, 4, 5] [0, 1] (fun (s17 : Unit) => []) (fun _ => []) .z (fun s17 => .j 4 0 [0, 4, 5] [0, 1] (fun (s50 : Unit) => []) (fun _ => []) .z (fun s50 => .j 7 0 [0, 4, 5, 60, 61] [0, 1] (fun (s95 : Bool) => [(61, eB s95)]) (fun _ => []) .z (fun s95 => .i .z (.i .z (.i (.g [0, 4, 5] [0, 1] [] [] (.o (.o (.d [0, 1, 3, 4, 2, 5, 6] [0, 1] [] .z)))) .z)))))))))))
end Go.Proofs.YtnackipaoepmfaaGreat
set_option linter.unusedSimpArgs false
set_option linter.unusedVariables false
namespace Go.Proofs.YtnackipaoepmfaaGreat
open Go Go.RowKit
set_option maxRecDepth 100000
set_option maxHeartbeats 20000000
instance W5x : ∀ (n : Nat) (p0 : (List Q3)) (p1 : Q2), Ct (Q8r n p0 p1) fun res => Q9 Tryz.prog 0o00573 [(.slice 2 (List.map X0 p0)), (.agg (Z6 p1))] (fun d => d = (eS res)) :=
 au Tryz.func379 Q8r.eq_1 (.o (.o (.o (.i .z (.g [0, 3] [0] [] [] (.o (.o (.o (.d [0, 1, 2, 3, 4, 5, 6, 7, 8, 9, 10] [0] [] .z)))))))))
end Go.Proofs.YtnackipaoepmfaaGreat
set_option linter.unusedSimpArgs false
set_option linter.unusedVariables false
namespace Go.Proofs.YtnackipaoepmfaaGreat
open Go Go.RowKit
set_option maxRecDepth 100000
set_option maxHeartbeats 20000000
instance W28 : ∀ (n : Nat) (p0 : Q2) (q0 : (List Q3)) (q1 : Int), Ct (Q4e n p0 q0 q1) fun res => Q9 Tryz.prog 0o00260 [(.agg (Z6 p0)), .cptr [(.slice 2 (List.map X0 q0))], .cptr [(eI q1)]] (fun d => d = (eB res)) :=
 au Tryz.func176 Q4e.eq_1 .z
end Go.Proofs.YtnackipaoepmfaaGreat
set_option linter.unusedSimpArgs false
set_option linter.unusedVariables false
namespace Go.Proofs.YtnackipaoepmfaaGreat
open Go Go.RowKit
set_option maxRecDepth 100000
set_option maxHeartbeats 20000000
instance X9p : ∀ (n : Nat) (p0 : (List Q3)) (p1 : Q2) (p2 : Q4) (p3 : Int) (p4 : Bool) (p5 : Int), Ct (Q1v n p0 p1 p2 p3 p4 p5) fun res => Q0k Tryz.prog 0o00237 [⟨1, [[(eI p5)]], 0, 0x0003⟩] [(.slice 2 (List.map X0 p0)), (.agg (Z6 p1)), (.agg (V0 p2)), (eI p3), (eB p4), .ptr 1 0 0 0] (fun H d => H = [some ⟨1, [[(eI res.2)]], 0, 0x0003⟩] ∧ d = (eB res.1)) :=
 ar (au Tryz.func159 Q1v.eq_2 (.o (.o (.o (.o (.o (.o (.o (.o (.i .z (.i .z (.j 4 0 [0, 3, 4, 5, 7, 8] [0, 1, 9] (fun (s92 : Unit) => []) (fun _ => []) (.i (.i .z (.i .z (.g [0, 3, 4, 5, 7, 8] [0, 1, 9] [] [] (.i (.d [0, 1, 2, 3, 4, 5, 7, 8, 6, 9, 10, 11, 12] [2] [] .z) (.o (.o (.d [0, 1, 2, 3, 4, 5, 7, 8, 6, 9, 10, 11, 12] [1, 2] [] .z))))))) (.i .z (.g [0, 3, 4, 5, 7, 8] [0, 1, 9] [] [] (.i (.d [0, 1, 2, 3, 4, 5, 7, 8, 6, 9, 10, 11, 12] [2] [] .z) (.o (.o (.d [0, 1, 2, 3, 4, 5, 7, 8, 6, 9, 10, 11, 12] [1, 2] [] .z))))))) (fun s92 => .o (.i .z (.ls 84 (.f [] [0] [0, 3, 4, 5, 13, 88, 89, 90] [0] (fun (k244 : Nat) (s240 : Int) => [(90, eI (k244 : Int))]) (fun k244 s240 => [(0, some ⟨1, [[(eI s240)]], 0, 0x0003⟩)]) (fun k244 s240 => .o (.g [0, 3, 4, 5, 13, 14, 15, 88, 89, 90] [0, 33] [] [] (.o (.o (.d [0, 1, 2, 3, 4, 5, 6, 7, 8, 9, 10, 11] [1] [] .z))))) (fun s248 => .z)))))))))))))))))
end Go.Proofs.YtnackipaoepmfaaGreat
set_option linter.unusedSimpArgs false
set_option linter.unusedVariables false
namespace Go.Proofs.YtnackipaoepmfaaGreat
open Go Go.RowKit
set_option maxRecDepth 100000
set_option maxHeartbeats 20000000
instance W45 : ∀ (n : Nat) (p0 : (List W4)) (p1 : (List W4)), Ct (Q44 n p0 p1) fun res => Q9 Tryz.prog 0o00035 [(.slice 4 (List.map Q1h p0)), (.slice 4 (List.map Q1h p1))] (fun d => d = (eB res)) :=
 au Tryz.func29 Q44.eq_1 (.o (.o (.o (.i .z (.ls 0 (.f [] [] [0, 1, 5] [] (fun (k162 : Nat) (s158 : Unit) => [(5, eI (k162 : Int))]) (fun k162 s158 => []) (fun k162 s158 => .o (.g [0, 1, 5] [] [] [] (.o (.i (.d [0, 1, 2, 3, 4, 5, 6, 7, 8, 9, 10, 11, 12, 13, 14, 15, 16, 17, 18, 19, 20, 21, 22, 23, 24] [] [] .z) (.o (.d [0, 1, 2, 3, 4, 5, 6, 7, 8, 9, 10, 11, 12, 13, 14, 15, 16, 17, 18, 19, 20, 21, 22, 23, 24] [] [] .z)))))) (fun s166 => .z)))))))
end Go.Proofs.YtnackipaoepmfaaGreat
