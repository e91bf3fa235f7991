import Derived.Test.YtnackipaoepmfaaGreatDJMir
import Derived.Test.YtnackipaoepmfaaGreatDJAuto
import Derived.Test.YtnackipaoepmfaaGreatDJC4c0
import Derived.Test.YtnackipaoepmfaaGreatDJC1c0
import Derived.Test.YtnackipaoepmfaaGreatDJC0b0
import Derived.Test.YtnackipaoepmfaaGreatDJC1a0
import Derived.Test.YtnackipaoepmfaaGreatDJC3b0
import Derived.Test.YtnackipaoepmfaaGreatDJC0d0
import Derived.Test.YtnackipaoepmfaaGreatDJC4a0
import Derived.Test.YtnackipaoepmfaaGreatDJC2b0
set_option linter.unusedSimpArgs false
set_option linter.unusedVariables false
set_option linter.unusedSimpArgs false
set_option linter.unusedVariables false
namespace Go.Proofs.YtnackipaoepmfaaGreat
open Go Go.RowKit
set_option maxRecDepth 100000
set_option maxHeartbeats 20000000
instance X8y : ∀ (n : Nat) (p0 : (List Q3)) (p1 : Q2), Ct (Q15 n p0 p1) fun res => Q9 Tryz.prog 0o00122 [(.slice 2 (List.map Z6 p0)), (.agg (Z2 p1))] (fun d => d = (eB res)) :=
 au Tryz.func82 Q15.eq_1 .z
end Go.Proofs.YtnackipaoepmfaaGreat
set_option linter.unusedSimpArgs false
set_option linter.unusedVariables false
namespace Go.Proofs.YtnackipaoepmfaaGreat
open Go Go.RowKit
set_option maxRecDepth 100000
set_option maxHeartbeats 20000000
instance Z2z : ∀ (n : Nat) (p0 : (List Q3)) (p1 : Q2) (p2 : Int), Ct (Q0m n p0 p1 p2) fun res => Q9 Tryz.prog 0o00030 [(.slice 2 (List.map Z6 p0)), (.agg (Z2 p1)), (eI p2)] (fun d => d = .tup [(.slice 3 (List.map X3 res.1)), (eB res.2)]) :=
 au Tryz.func24 Q0m.eq_1 (.o (.o (.o (.o (.o (.i .z (.o (.i .z (.o (.i .z (.o (.pN 8 3 0x002f (.ls 30 (.f [8] [208] [8, 30, 31, 32] [208] (fun (k92 : Nat) (s88 : (List Q6)) => [(8, .sl 3 208 (s88).length), (32, eI (k92 : Int))]) (fun k92 s88 => [(208, some ⟨3, (List.map X3 s88), 0, 0x002f⟩)]) (fun k92 s88 => .z) (fun s96 => .z)))))))))))))))
theorem Z3h (n : Nat) (p0 : (List Q3)) (p1 : Q2) (p2 : Int) : ∀ res, Q0m n p0 p1 p2 = some res → Q9 Tryz.prog 0o00030 [(.slice 2 (List.map Z6 p0)), (.agg (Z2 p1)), (eI p2)] (fun d => d = .tup [(.slice 3 (List.map X3 res.1)), (eB res.2)]) := (Z2z n p0 p1 p2).pf
end Go.Proofs.YtnackipaoepmfaaGreat
set_option linter.unusedSimpArgs false
set_option linter.unusedVariables false
namespace Go.Proofs.YtnackipaoepmfaaGreat
open Go Go.RowKit
set_option maxRecDepth 100000
set_option maxHeartbeats 20000000
instance X5t : ∀ (n : Nat) (p0 : (List Q3)) (p1 : Q2) (p2 : Q0), Ct (Q1p n p0 p1 p2) fun res => Q9 Tryz.prog 0o00370 [(.slice 2 (List.map Z6 p0)), (.agg (Z2 p1)), (.agg (Q1 p2))] (fun d => d = .tup [(.slice 3 (List.map W9 res.1)), (eB res.2)]) :=
 au Tryz.func248 Q1p.eq_1 .z
end Go.Proofs.YtnackipaoepmfaaGreat
set_option linter.unusedSimpArgs false
set_option linter.unusedVariables false
namespace Go.Proofs.YtnackipaoepmfaaGreat
open Go Go.RowKit
set_option maxRecDepth 100000
set_option maxHeartbeats 20000000
instance W19 : ∀ (n : Nat) (p0 : (List Q3)) (p1 : Q2) (p2 : Z5), Ct (Q2a n p0 p1 p2) fun res => Q9 Tryz.prog 0o00236 [(.slice 2 (List.map Z6 p0)), (.agg (Z2 p1)), (.agg (Z8 p2))] (fun d => d = (eB res)) :=
 au Tryz.func158 Q2a.eq_1 .z
end Go.Proofs.YtnackipaoepmfaaGreat
set_option linter.unusedSimpArgs false
set_option linter.unusedVariables false
namespace Go.Proofs.YtnackipaoepmfaaGreat
open Go Go.RowKit
set_option maxRecDepth 100000
set_option maxHeartbeats 20000000
instance X1a : ∀ (n : Nat) (p0 : Z5) (q0 : (List Q3)) (q1 : Q2), Ct (Q2v n p0 q0 q1) fun res => Q9 Tryz.prog 0o00235 [(.agg (Z8 p0)), .cptr [(.slice 2 (List.map Z6 q0))], .cptr (Z2 q1)] (fun d => d = (eB res)) :=
 au Tryz.func157 Q2v.eq_1 .z
end Go.Proofs.YtnackipaoepmfaaGreat
set_option linter.unusedSimpArgs false
set_option linter.unusedVariables false
namespace Go.Proofs.YtnackipaoepmfaaGreat
open Go Go.RowKit
set_option maxRecDepth 100000
set_option maxHeartbeats 20000000
instance X5x : ∀ (n : Nat) (p0 : (List Q3)) (p1 : Q2) (p2 : Z5), Ct (Q2w n p0 p1 p2) fun res => Q9 Tryz.prog 0o00130 [(.slice 2 (List.map Z6 p0)), (.agg (Z2 p1)), (.agg (Z8 p2))] (fun d => d = (eB res)) :=
 au Tryz.func88 Q2w.eq_1 .z
end Go.Proofs.YtnackipaoepmfaaGreat
set_option linter.unusedSimpArgs false
set_option linter.unusedVariables false
namespace Go.Proofs.YtnackipaoepmfaaGreat
open Go Go.RowKit
set_option maxRecDepth 100000
set_option maxHeartbeats 20000000
instance X8s : ∀ (n : Nat) (p0 : (List Q3)) (p1 : Q2) (p2 : Q0), Ct (Q1u n p0 p1 p2) fun res => Q9 Tryz.prog 0o00315 [(.slice 2 (List.map Z6 p0)), (.agg (Z2 p1)), (.agg (Q1 p2))] (fun d => d = (eB res)) :=
 au Tryz.func205 Q1u.eq_1 .z
end Go.Proofs.YtnackipaoepmfaaGreat
set_option linter.unusedSimpArgs false
set_option linter.unusedVariables false
namespace Go.Proofs.YtnackipaoepmfaaGreat
open Go Go.RowKit
set_option maxRecDepth 100000
set_option maxHeartbeats 20000000
instance Z9t : ∀ (n : Nat) (p0 : Q0) (q0 : Q0w) (q1 : Q2), Ct (Q2f n p0 q0 q1) fun res => Q9 Tryz.prog 0o00314 [(.agg (Q1 p0)), .cptr [(.cptr (Q1k q0))], .cptr (Z2 q1)] (fun d => d = (eB res)) :=
 au Tryz.func204 Q2f.eq_1 (.o (.o (.o (.o (.g [1, 2, 3] [0] [] [] (.o (.d [0, 1, 2, 3, 4, 5, 6, 7, 8] [0] [] .z)))))))
end Go.Proofs.YtnackipaoepmfaaGreat
set_option linter.unusedSimpArgs false
set_option linter.unusedVariables false
namespace Go.Proofs.YtnackipaoepmfaaGreat
open Go Go.RowKit
set_option maxRecDepth 100000
set_option maxHeartbeats 20000000
instance X3l : ∀ (n : Nat) (p0 : (List Q3)) (p1 : Q2) (p2 : Q0), Ct (Q2b n p0 p1 p2) fun res => Q9 Tryz.prog 0o00410 [(.slice 2 (List.map Z6 p0)), (.agg (Z2 p1)), (.agg (Q1 p2))] (fun d => d = (eB res)) :=
 au Tryz.func264 Q2b.eq_1 .z
end Go.Proofs.YtnackipaoepmfaaGreat
