import Derived.Test.YtbdkbdafhlcilaaGreatCJMir
import Derived.Test.YtbdkbdafhlcilaaGreatCJAuto
import Derived.Test.YtbdkbdafhlcilaaGreatCJC5c0
import Derived.Test.YtbdkbdafhlcilaaGreatCJC2a0
import Derived.Test.YtbdkbdafhlcilaaGreatCJC1c0
import Derived.Test.YtbdkbdafhlcilaaGreatCJC5d0
import Derived.Test.YtbdkbdafhlcilaaGreatCJC1b0
import Derived.Test.YtbdkbdafhlcilaaGreatCJC1d0
import Derived.Test.YtbdkbdafhlcilaaGreatCJC0b0
import Derived.Test.YtbdkbdafhlcilaaGreatCJC2c0
import Derived.Test.YtbdkbdafhlcilaaGreatCJC3c0
import Derived.Test.YtbdkbdafhlcilaaGreatCJC0a0
set_option linter.unusedSimpArgs false
set_option linter.unusedVariables false
set_option linter.unusedSimpArgs false
set_option linter.unusedVariables false
namespace Go.Proofs.YtbdkbdafhlcilaaGreat
open Go Go.RowKit
set_option maxRecDepth 100000
set_option maxHeartbeats 20000000
instance W3s : ∀ (n : Nat) (p0 : (List Q3)) (p1 : Q2) (p2 : Q5), Ct (Q47 n p0 p1 p2) fun res => Q7 Tryz.prog 0o00153 [(.slice 2 (List.map X2 p0)), (.agg (Z6 p1)), (.agg (X5 p2))] (fun d => d = (eB res)) :=
 au Tryz.func107 Q47.eq_1 .z
end Go.Proofs.YtbdkbdafhlcilaaGreat
set_option linter.unusedSimpArgs false
set_option linter.unusedVariables false
namespace Go.Proofs.YtbdkbdafhlcilaaGreat
open Go Go.RowKit
set_option maxRecDepth 100000
set_option maxHeartbeats 20000000
instance X3a : ∀ (n : Nat) (p0 : Q5) (q0 : (List Q3)) (q1 : Q2), Ct (Q3h n p0 q0 q1) fun res => Q7 Tryz.prog 0o00152 [(.agg (X5 p0)), .cptr [(.slice 2 (List.map X2 q0))], .cptr (Z6 q1)] (fun d => d = (eB res)) :=
 au Tryz.func106 Q3h.eq_1 .z
end Go.Proofs.YtbdkbdafhlcilaaGreat
set_option linter.unusedSimpArgs false
set_option linter.unusedVariables false
namespace Go.Proofs.YtbdkbdafhlcilaaGreat
open Go Go.RowKit
set_option maxRecDepth 100000
set_option maxHeartbeats 20000000
instance X5j : ∀ (n : Nat) (p0 : (List Q3)) (p1 : Q2) (p2 : (List Q5)), Ct (Y2 n p0 p1 p2) fun res => Q7 Tryz.prog 0o00062 [(.slice 2 (List.map X2 p0)), (.agg (Z6 p1)), (.slice 9 (List.map X5 p2))] (fun d => d = (eB res)) :=
 au Tryz.func50 Y2.eq_1 .z
end Go.Proofs.YtbdkbdafhlcilaaGreat
set_option linter.unusedSimpArgs false
set_option linter.unusedVariables false
namespace Go.Proofs.YtbdkbdafhlcilaaGreat
open Go Go.RowKit
set_option maxRecDepth 100000
set_option maxHeartbeats 20000000
instance W0y : ∀ (n : Nat) (p0 : (List Q3)) (p1 : Q2) (p2 : Q0), Ct (Q4p n p0 p1 p2) fun res => Q7 Tryz.prog 0o00311 [(.slice 2 (List.map X2 p0)), (.agg (Z6 p1)), (.agg (Q1 p2))] (fun d => d = (eB res)) :=
 au Tryz.func201 Q4p.eq_1 .z
end Go.Proofs.YtbdkbdafhlcilaaGreat
set_option linter.unusedSimpArgs false
set_option linter.unusedVariables false
namespace Go.Proofs.YtbdkbdafhlcilaaGreat
open Go Go.RowKit
set_option maxRecDepth 100000
set_option maxHeartbeats 20000000
instance X1k : ∀ (n : Nat) (p0 : Q0) (q0 : Q13) (q1 : Q2), Ct (Q31 n p0 q0 q1) fun res => Q7 Tryz.prog 0o00310 [(.agg (Q1 p0)), .cptr [(.cptr (Q1v q0))], .cptr (Z6 q1)] (fun d => d = (eB res)) :=
 au Tryz.func200 Q31.eq_1 (.o (.o (.o (.o (.g [1, 2, 3] [0] [] [] (.o (.d [0, 1, 2, 3, 4, 5, 6, 7, 8] [0] [] .z)))))))
end Go.Proofs.YtbdkbdafhlcilaaGreat
set_option linter.unusedSimpArgs false
set_option linter.unusedVariables false
namespace Go.Proofs.YtbdkbdafhlcilaaGreat
open Go Go.RowKit
set_option maxRecDepth 100000
set_option maxHeartbeats 20000000
instance X4b : ∀ (n : Nat) (p0 : Q13) (p1 : Q2) (p2 : (List Q0)) (p3 : Bool), Ct (Q1h n p0 p1 p2 p3) fun res => Q7 Tryz.prog 0o00172 [.cptr (Q1v p0), (.agg (Z6 p1)), (.slice 6 (List.map Q1 p2)), (eB p3)] (fun d => d = .tup [(.slice 6 (List.map Q1 res.1)), (eB res.2)]) :=
 au Tryz.func122 Q1h.eq_1 .z
end Go.Proofs.YtbdkbdafhlcilaaGreat
set_option linter.unusedSimpArgs false
set_option linter.unusedVariables false
namespace Go.Proofs.YtbdkbdafhlcilaaGreat
open Go Go.RowKit
set_option maxRecDepth 100000
set_option maxHeartbeats 20000000
instance X4c : ∀ (n : Nat) (p0 : Q13) (p1 : Q2) (p2 : (List Q0)), Ct (Q0p n p0 p1 p2) fun res => Q7 Tryz.prog 0o00305 [.cptr (Q1v p0), (.agg (Z6 p1)), (.slice 6 (List.map Q1 p2))] (fun d => d = (.slice 6 (List.map Q1 res))) :=
 au Tryz.func197 Q0p.eq_1 .z
end Go.Proofs.YtbdkbdafhlcilaaGreat
set_option linter.unusedSimpArgs false
set_option linter.unusedVariables false
namespace Go.Proofs.YtbdkbdafhlcilaaGreat
open Go Go.RowKit
set_option maxRecDepth 100000
set_option maxHeartbeats 20000000
instance X38 : ∀ (n : Nat) (p0 : Q13) (p1 : Q2) (p2 : (List Q0)) (p3 : (List Q0)), Ct (Q0i n p0 p1 p2 p3) fun res => Q7 Tryz.prog 0o00171 [.cptr (Q1v p0), (.agg (Z6 p1)), (.slice 6 (List.map Q1 p2)), (.slice 6 (List.map Q1 p3))] (fun d => d = .tup [(.slice 6 (List.map Q1 res.1)), (eB res.2)]) :=
 au Tryz.func121 Q0i.eq_1 (.o (.o (.o (.o (.o (.o (.ls 3 (.f [2] [] [0, 2, 5, 19, 20, 21] [0] (fun (k697 : Nat) (s693 : (List Q0)) => [(2, .slice 6 (List.map Q1 s693)), (21, eI (k697 : Int))]) (fun k697 s693 => []) (fun k697 s693 => .o (.pN 12 6 0x0064 (.ls 2 (.f [0, 5, 12, 19, 20, 21] [0, 73] [0, 5, 11, 12, 19, 20, 21, 25, 26, 27] [0, 25, 73] (fun (k823 : Nat) (s819 : (List Q0)) => [(12, .sl 6 73 (s819).length), (27, eI (k823 : Int))]) (fun k823 s819 => [(73, some ⟨6, (List.map Q1 s819), 0, 0x0064⟩)]) (fun k823 s819 => .z) (fun s827 => .z))))) (fun s701 => .z)))))))))
end Go.Proofs.YtbdkbdafhlcilaaGreat
set_option linter.unusedSimpArgs false
set_option linter.unusedVariables false
namespace Go.Proofs.YtbdkbdafhlcilaaGreat
open Go Go.RowKit
set_option maxRecDepth 100000
set_option maxHeartbeats 20000000
instance X1j : ∀ (n : Nat) (p0 : Q13) (p1 : Q2) (p2 : (List Q0)), Ct (Q0u n p0 p1 p2) fun res => Q7 Tryz.prog 0o00170 [.cptr (Q1v p0), (.agg (Z6 p1)), (.slice 6 (List.map Q1 p2))] (fun d => d = .tup [(.slice 6 (List.map Q1 res.1)), (eB res.2)]) :=
 au Tryz.func120 Q0u.eq_1 (.o (.o (.o (.o (.pN 8 6 0x0064 (.ls 2 (.f [8] [56] [0, 2, 4, 8, 13, 14, 15] [0, 56] (fun (k86 : Nat) (s82 : (List Q0)) => [(8, .sl 6 56 (s82).length), (15, eI (k86 : Int))]) (fun k86 s82 => [(56, some ⟨6, (List.map Q1 s82), 0, 0x0064⟩)]) (fun k86 s82 => .o (.g [0, 2, 4, 8, 9, 10, 13, 14, 15] [0, 1, 34] [] [] (.o (.o (.d [0, 1, 2, 4, 5, 6, 3, 7, 8, 9, 10, 11, 12] [0, 2] [] .z))))) (fun s90 => .z))))))))
end Go.Proofs.YtbdkbdafhlcilaaGreat
set_option linter.unusedSimpArgs false
set_option linter.unusedVariables false
namespace Go.Proofs.YtbdkbdafhlcilaaGreat
open Go Go.RowKit
set_option maxRecDepth 100000
set_option maxHeartbeats 20000000
instance X1m : ∀ (n : Nat) (p0 : (List Q3)) (p1 : Q2) (p2 : (List Q5)) (p3 : Int), Ct (Q0v n p0 p1 p2 p3) fun res => Q7 Tryz.prog 0o00070 [(.slice 2 (List.map X2 p0)), (.agg (Z6 p1)), (.slice 9 (List.map X5 p2)), (eI p3)] (fun d => d = .tup [(.slice 6 (List.map Q1 res.1)), (eB res.2)]) :=
 au Tryz.func56 Q0v.eq_1 (.o (.o (.o (.o (.o (.o (.i .z (.o (.i .z (.o (.o (.o (.o (.i .z (.i .z (.o (.o (.j 9 0 [5, 14, 15, 16] [0] (fun (s41 : (List Q0) × Bool) => [(15, .slice 6 (List.map Q1 s41.1)), (16, eB s41.2)]) (fun _ => []) .z (fun _ => .z)))))))))))))))))))
end Go.Proofs.YtbdkbdafhlcilaaGreat
