import Derived.Test.YtnackipaoepmfaaGreatJMir
import Derived.Test.YtnackipaoepmfaaGreatJAuto
import Derived.Test.YtnackipaoepmfaaGreatJC4c0
import Derived.Test.YtnackipaoepmfaaGreatJC1b0
import Derived.Test.YtnackipaoepmfaaGreatJC4a0
import Derived.Test.YtnackipaoepmfaaGreatJC2b0
import Derived.Test.YtnackipaoepmfaaGreatJC0b0
import Derived.Test.YtnackipaoepmfaaGreatJC1a0
import Derived.Test.YtnackipaoepmfaaGreatJC3b0
import Derived.Test.YtnackipaoepmfaaGreatJC0d0
set_option linter.unusedSimpArgs false
set_option linter.unusedVariables false
set_option linter.unusedSimpArgs false
set_option linter.unusedVariables false
namespace Go.Proofs.YtnackipaoepmfaaGreat
open Go Go.RowKit
set_option maxRecDepth 100000
set_option maxHeartbeats 20000000
instance W03 : ∀ (n : Nat) (p0 : (List Q3)) (p1 : Q2), Ct (Q2n n p0 p1) fun res => Q9 Tryz.prog 0o00122 [(.slice 2 (List.map X2 p0)), (.agg (Z5 p1))] (fun d => d = (eB res)) :=
 au Tryz.func82 Q2n.eq_1 .z
end Go.Proofs.YtnackipaoepmfaaGreat
set_option linter.unusedSimpArgs false
set_option linter.unusedVariables false
namespace Go.Proofs.YtnackipaoepmfaaGreat
open Go Go.RowKit
set_option maxRecDepth 100000
set_option maxHeartbeats 20000000
instance X6x : ∀ (n : Nat) (p0 : (List Q3)) (p1 : Q2) (p2 : Q0), Ct (Q1t n p0 p1 p2) fun res => Q9 Tryz.prog 0o00370 [(.slice 2 (List.map X2 p0)), (.agg (Z5 p1)), (.agg (Q1 p2))] (fun d => d = .tup [(.slice 3 (List.map V0 res.1)), (eB res.2)]) :=
 au Tryz.func248 Q1t.eq_1 .z
end Go.Proofs.YtnackipaoepmfaaGreat
set_option linter.unusedSimpArgs false
set_option linter.unusedVariables false
namespace Go.Proofs.YtnackipaoepmfaaGreat
open Go Go.RowKit
set_option maxRecDepth 100000
set_option maxHeartbeats 20000000
instance W2i : ∀ (n : Nat) (p0 : (List Q3)) (p1 : Q2) (p2 : Q4), Ct (Q3c n p0 p1 p2) fun res => Q9 Tryz.prog 0o00236 [(.slice 2 (List.map X2 p0)), (.agg (Z5 p1)), (.agg (Z7 p2))] (fun d => d = (eB res)) :=
 au Tryz.func158 Q3c.eq_1 .z
end Go.Proofs.YtnackipaoepmfaaGreat
set_option linter.unusedSimpArgs false
set_option linter.unusedVariables false
namespace Go.Proofs.YtnackipaoepmfaaGreat
open Go Go.RowKit
set_option maxRecDepth 100000
set_option maxHeartbeats 20000000
instance X2k : ∀ (n : Nat) (p0 : Q4) (q0 : (List Q3)) (q1 : Q2), Ct (Q2x n p0 q0 q1) fun res => Q9 Tryz.prog 0o00235 [(.agg (Z7 p0)), .cptr [(.slice 2 (List.map X2 q0))], .cptr (Z5 q1)] (fun d => d = (eB res)) :=
 au Tryz.func157 Q2x.eq_1 .z
end Go.Proofs.YtnackipaoepmfaaGreat
set_option linter.unusedSimpArgs false
set_option linter.unusedVariables false
namespace Go.Proofs.YtnackipaoepmfaaGreat
open Go Go.RowKit
set_option maxRecDepth 100000
set_option maxHeartbeats 20000000
instance X9y : ∀ (n : Nat) (p0 : (List Q3)) (p1 : Q2) (p2 : Q0), Ct (Q3s n p0 p1 p2) fun res => Q9 Tryz.prog 0o00315 [(.slice 2 (List.map X2 p0)), (.agg (Z5 p1)), (.agg (Q1 p2))] (fun d => d = (eB res)) :=
 au Tryz.func205 Q3s.eq_1 .z
end Go.Proofs.YtnackipaoepmfaaGreat
set_option linter.unusedSimpArgs false
set_option linter.unusedVariables false
namespace Go.Proofs.YtnackipaoepmfaaGreat
open Go Go.RowKit
set_option maxRecDepth 100000
set_option maxHeartbeats 20000000
instance X0w : ∀ (n : Nat) (p0 : Q0) (q0 : Q14) (q1 : Q2), Ct (Q2i n p0 q0 q1) fun res => Q9 Tryz.prog 0o00314 [(.agg (Q1 p0)), .cptr [(.cptr (Q1p q0))], .cptr (Z5 q1)] (fun d => d = (eB res)) :=
 au Tryz.func204 Q2i.eq_1 (.o (.o (.o (.o (.g [1, 2, 3] [0] [] [] (.o (.d [0, 1, 2, 3, 4, 5, 6, 7, 8] [0] [] .z)))))))
end Go.Proofs.YtnackipaoepmfaaGreat
set_option linter.unusedSimpArgs false
set_option linter.unusedVariables false
namespace Go.Proofs.YtnackipaoepmfaaGreat
open Go Go.RowKit
set_option maxRecDepth 100000
set_option maxHeartbeats 20000000
instance X8w : ∀ (n : Nat) (p0 : (List Q3)) (p1 : Q2) (p2 : Int), Ct (Q0t n p0 p1 p2) fun res => Q9 Tryz.prog 0o00030 [(.slice 2 (List.map X2 p0)), (.agg (Z5 p1)), (eI p2)] (fun d => d = .tup [(.slice 3 (List.map V2 res.1)), (eB res.2)]) :=
 au Tryz.func24 Q0t.eq_1 (.o (.o (.o (.o (.o (.i .z (.o (.i .z (.o (.i .z (.o (.pN 8 3 0x002f (.ls 30 (.f [8] [208] [8, 30, 31, 32] [208] (fun (k92 : Nat) (s88 : (List Q5)) => [(8, .sl 3 208 (s88).length), (32, eI (k92 : Int))]) (fun k92 s88 => [(208, some ⟨3, (List.map V2 s88), 0, 0x002f⟩)]) (fun k92 s88 => .z) (fun s96 => .z)))))))))))))))
end Go.Proofs.YtnackipaoepmfaaGreat
