import Derived.Test.YtnackipaoepmfaaGreatGJMir
import Derived.Test.YtnackipaoepmfaaGreatGJAuto
import Derived.Test.YtnackipaoepmfaaGreatGJC4c0
import Derived.Test.YtnackipaoepmfaaGreatGJC1d0
import Derived.Test.YtnackipaoepmfaaGreatGJC4a0
import Derived.Test.YtnackipaoepmfaaGreatGJC2b0
import Derived.Test.YtnackipaoepmfaaGreatGJC0d0
import Derived.Test.YtnackipaoepmfaaGreatGJC1a0
import Derived.Test.YtnackipaoepmfaaGreatGJC3b0
set_option linter.unusedSimpArgs false
set_option linter.unusedVariables false
set_option linter.unusedSimpArgs false
set_option linter.unusedVariables false
namespace Go.Proofs.YtnackipaoepmfaaGreat
open Go Go.RowKit
set_option maxRecDepth 100000
set_option maxHeartbeats 20000000
instance X9w : ∀ (n : Nat) (p0 : (List Q3)) (p1 : Q2), Ct (Q11 n p0 p1) fun res => Q9 Tryz.prog 0o00122 [(.slice 2 (List.map X0 p0)), (.agg (Z6 p1))] (fun d => d = (eB res)) :=
 au Tryz.func82 Q11.eq_1 .z
end Go.Proofs.YtnackipaoepmfaaGreat
set_option linter.unusedSimpArgs false
set_option linter.unusedVariables false
namespace Go.Proofs.YtnackipaoepmfaaGreat
open Go Go.RowKit
set_option maxRecDepth 100000
set_option maxHeartbeats 20000000
instance X6h : ∀ (n : Nat) (p0 : (List Q3)) (p1 : Q2) (p2 : Q0), Ct (Q1r n p0 p1 p2) fun res => Q9 Tryz.prog 0o00370 [(.slice 2 (List.map X0 p0)), (.agg (Z6 p1)), (.agg (Q1 p2))] (fun d => d = .tup [(.slice 3 (List.map W8 res.1)), (eB res.2)]) :=
 au Tryz.func248 Q1r.eq_1 .z
end Go.Proofs.YtnackipaoepmfaaGreat
set_option linter.unusedSimpArgs false
set_option linter.unusedVariables false
namespace Go.Proofs.YtnackipaoepmfaaGreat
open Go Go.RowKit
set_option maxRecDepth 100000
set_option maxHeartbeats 20000000
instance W2e : ∀ (n : Nat) (p0 : (List Q3)) (p1 : Q2) (p2 : Q5), Ct (Q2e n p0 p1 p2) fun res => Q9 Tryz.prog 0o00236 [(.slice 2 (List.map X0 p0)), (.agg (Z6 p1)), (.agg (Z8 p2))] (fun d => d = (eB res)) :=
 au Tryz.func158 Q2e.eq_1 .z
end Go.Proofs.YtnackipaoepmfaaGreat
set_option linter.unusedSimpArgs false
set_option linter.unusedVariables false
namespace Go.Proofs.YtnackipaoepmfaaGreat
open Go Go.RowKit
set_option maxRecDepth 100000
set_option maxHeartbeats 20000000
instance X1x : ∀ (n : Nat) (p0 : Q5) (q0 : (List Q3)) (q1 : Q2), Ct (Q2y n p0 q0 q1) fun res => Q9 Tryz.prog 0o00235 [(.agg (Z8 p0)), .cptr [(.slice 2 (List.map X0 q0))], .cptr (Z6 q1)] (fun d => d = (eB res)) :=
 au Tryz.func157 Q2y.eq_1 .z
end Go.Proofs.YtnackipaoepmfaaGreat
set_option linter.unusedSimpArgs false
set_option linter.unusedVariables false
namespace Go.Proofs.YtnackipaoepmfaaGreat
open Go Go.RowKit
set_option maxRecDepth 100000
set_option maxHeartbeats 20000000
instance X6p : ∀ (n : Nat) (p0 : (List Q3)) (p1 : Q2) (p2 : Q5), Ct (Q30 n p0 p1 p2) fun res => Q9 Tryz.prog 0o00130 [(.slice 2 (List.map X0 p0)), (.agg (Z6 p1)), (.agg (Z8 p2))] (fun d => d = (eB res)) :=
 au Tryz.func88 Q30.eq_1 .z
end Go.Proofs.YtnackipaoepmfaaGreat
set_option linter.unusedSimpArgs false
set_option linter.unusedVariables false
namespace Go.Proofs.YtnackipaoepmfaaGreat
open Go Go.RowKit
set_option maxRecDepth 100000
set_option maxHeartbeats 20000000
instance X9q : ∀ (n : Nat) (p0 : (List Q3)) (p1 : Q2) (p2 : Q0), Ct (Q1w n p0 p1 p2) fun res => Q9 Tryz.prog 0o00315 [(.slice 2 (List.map X0 p0)), (.agg (Z6 p1)), (.agg (Q1 p2))] (fun d => d = (eB res)) :=
 au Tryz.func205 Q1w.eq_1 .z
end Go.Proofs.YtnackipaoepmfaaGreat
set_option linter.unusedSimpArgs false
set_option linter.unusedVariables false
namespace Go.Proofs.YtnackipaoepmfaaGreat
open Go Go.RowKit
set_option maxRecDepth 100000
set_option maxHeartbeats 20000000
instance X0b : ∀ (n : Nat) (p0 : Q0) (q0 : Q0t) (q1 : Q2), Ct (Q2i n p0 q0 q1) fun res => Q9 Tryz.prog 0o00314 [(.agg (Q1 p0)), .cptr [(.cptr (Q1n q0))], .cptr (Z6 q1)] (fun d => d = (eB res)) :=
 au Tryz.func204 Q2i.eq_1 (.o (.o (.o (.o (.g [1, 2, 3] [0] [] [] (.o (.d [0, 1, 2, 3, 4, 5, 6, 7, 8] [0] [] .z)))))))
end Go.Proofs.YtnackipaoepmfaaGreat
set_option linter.unusedSimpArgs false
set_option linter.unusedVariables false
namespace Go.Proofs.YtnackipaoepmfaaGreat
open Go Go.RowKit
set_option maxRecDepth 100000
set_option maxHeartbeats 20000000
instance X4a : ∀ (n : Nat) (p0 : (List Q3)) (p1 : Q2) (p2 : Q0), Ct (Q2f n p0 p1 p2) fun res => Q9 Tryz.prog 0o00410 [(.slice 2 (List.map X0 p0)), (.agg (Z6 p1)), (.agg (Q1 p2))] (fun d => d = (eB res)) :=
 au Tryz.func264 Q2f.eq_1 .z
end Go.Proofs.YtnackipaoepmfaaGreat
set_option linter.unusedSimpArgs false
set_option linter.unusedVariables false
namespace Go.Proofs.YtnackipaoepmfaaGreat
open Go Go.RowKit
set_option maxRecDepth 100000
set_option maxHeartbeats 20000000
instance X8o : ∀ (n : Nat) (p0 : (List Q3)) (p1 : Q2) (p2 : Int), Ct (Q1b n p0 p1 p2) fun res => Q9 Tryz.prog 0o00030 [(.slice 2 (List.map X0 p0)), (.agg (Z6 p1)), (eI p2)] (fun d => d = .tup [(.slice 3 (List.map V0 res.1)), (eB res.2)]) :=
 au Tryz.func24 Q1b.eq_1 (.o (.o (.o (.o (.o (.i .z (.o (.i .z (.o (.i .z (.o (.pN 8 3 0x002f (.ls 30 (.f [8] [208] [8, 30, 31, 32] [208] (fun (k92 : Nat) (s88 : (List Q4)) => [(8, .sl 3 208 (s88).length), (32, eI (k92 : Int))]) (fun k92 s88 => [(208, some ⟨3, (List.map V0 s88), 0, 0x002f⟩)]) (fun k92 s88 => .z) (fun s96 => .z)))))))))))))))
end Go.Proofs.YtnackipaoepmfaaGreat
