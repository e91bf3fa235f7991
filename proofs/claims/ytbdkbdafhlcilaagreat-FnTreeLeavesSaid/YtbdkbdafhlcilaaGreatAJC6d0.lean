import Derived.Test.YtbdkbdafhlcilaaGreatAJMir
import Derived.Test.YtbdkbdafhlcilaaGreatAJAuto
import Derived.Test.YtbdkbdafhlcilaaGreatAJC5d0
import Derived.Test.YtbdkbdafhlcilaaGreatAJC1c0
import Derived.Test.YtbdkbdafhlcilaaGreatAJC1b0
import Derived.Test.YtbdkbdafhlcilaaGreatAJC0c0
import Derived.Test.YtbdkbdafhlcilaaGreatAJC1a0
import Derived.Test.YtbdkbdafhlcilaaGreatAJC2a0
import Derived.Test.YtbdkbdafhlcilaaGreatAJC2b0
set_option linter.unusedSimpArgs false
set_option linter.unusedVariables false
set_option linter.unusedSimpArgs false
set_option linter.unusedVariables false
namespace Go.Proofs.YtbdkbdafhlcilaaGreat
open Go Go.RowKit
set_option maxRecDepth 100000
set_option maxHeartbeats 20000000
instance W0v : ∀ (n : Nat) (p0 : (List Q3)) (p1 : Q2) (p2 : Q0), Ct (Q4h n p0 p1 p2) fun res => Z0 Tryz.prog 0o00311 [(.slice 2 (List.map W3 p0)), (.agg (X0 p1)), (.agg (Q1 p2))] (fun d => d = (eB res)) :=
 au Tryz.func201 Q4h.eq_1 .z
end Go.Proofs.YtbdkbdafhlcilaaGreat
set_option linter.unusedSimpArgs false
set_option linter.unusedVariables false
namespace Go.Proofs.YtbdkbdafhlcilaaGreat
open Go Go.RowKit
set_option maxRecDepth 100000
set_option maxHeartbeats 20000000
instance X1u : ∀ (n : Nat) (p0 : Q0) (q0 : Q1e) (q1 : Q2), Ct (Q2r n p0 q0 q1) fun res => Z0 Tryz.prog 0o00310 [(.agg (Q1 p0)), .cptr [(.cptr (Q20 q0))], .cptr (X0 q1)] (fun d => d = (eB res)) :=
 au Tryz.func200 Q2r.eq_1 (.o (.o (.o (.o (.g [1, 2, 3] [0] [] [] (.o (.d [0, 1, 2, 3, 4, 5, 6, 7, 8] [0] [] .z)))))))
end Go.Proofs.YtbdkbdafhlcilaaGreat
set_option linter.unusedSimpArgs false
set_option linter.unusedVariables false
namespace Go.Proofs.YtbdkbdafhlcilaaGreat
open Go Go.RowKit
set_option maxRecDepth 100000
set_option maxHeartbeats 20000000
instance X4y : ∀ (n : Nat) (p0 : Q1e) (p1 : Q2) (p2 : (List Q0)) (p3 : Bool), Ct (Q1f n p0 p1 p2 p3) fun res => Z0 Tryz.prog 0o00172 [.cptr (Q20 p0), (.agg (X0 p1)), (.slice 6 (List.map Q1 p2)), (eB p3)] (fun d => d = .tup [(.slice 6 (List.map Q1 res.1)), (eB res.2)]) :=
 au Tryz.func122 Q1f.eq_1 .z
end Go.Proofs.YtbdkbdafhlcilaaGreat
set_option linter.unusedSimpArgs false
set_option linter.unusedVariables false
namespace Go.Proofs.YtbdkbdafhlcilaaGreat
open Go Go.RowKit
set_option maxRecDepth 100000
set_option maxHeartbeats 20000000
instance X4z : ∀ (n : Nat) (p0 : Q1e) (p1 : Q2) (p2 : (List Q0)), Ct (Q0s n p0 p1 p2) fun res => Z0 Tryz.prog 0o00305 [.cptr (Q20 p0), (.agg (X0 p1)), (.slice 6 (List.map Q1 p2))] (fun d => d = (.slice 6 (List.map Q1 res))) :=
 au Tryz.func197 Q0s.eq_1 .z
end Go.Proofs.YtbdkbdafhlcilaaGreat
set_option linter.unusedSimpArgs false
set_option linter.unusedVariables false
namespace Go.Proofs.YtbdkbdafhlcilaaGreat
open Go Go.RowKit
set_option maxRecDepth 100000
set_option maxHeartbeats 20000000
instance X3k : ∀ (n : Nat) (p0 : Q1e) (p1 : Q2) (p2 : (List Q0)) (p3 : (List Q0)), Ct (Q0i n p0 p1 p2 p3) fun res => Z0 Tryz.prog 0o00171 [.cptr (Q20 p0), (.agg (X0 p1)), (.slice 6 (List.map Q1 p2)), (.slice 6 (List.map Q1 p3))] (fun d => d = .tup [(.slice 6 (List.map Q1 res.1)), (eB res.2)]) :=
 au Tryz.func121 Q0i.eq_1 (.o (.o (.o (.o (.o (.o (.ls 3 (.f [2] [] [0, 2, 5, 19, 20, 21] [0] (fun (k697 : Nat) (s693 : (List Q0)) => [(2, .slice 6 (List.map Q1 s693)), (21, eI (k697 : Int))]) (fun k697 s693 => []) (fun k697 s693 => .o (.pN 12 6 0x0064 (.ls 2 (.f [0, 5, 12, 19, 20, 21] [0, 73] [0, 5, 11, 12, 19, 20, 21, 25, 26, 27] [0, 25, 73] (fun (k823 : Nat) (s819 : (List Q0)) => [(12, .sl 6 73 (s819).length), (27, eI (k823 : Int))]) (fun k823 s819 => [(73, some ⟨6, (List.map Q1 s819), 0, 0x0064⟩)]) (fun k823 s819 => .z) (fun s827 => .z))))) (fun s701 => .z)))))))))
end Go.Proofs.YtbdkbdafhlcilaaGreat
set_option linter.unusedSimpArgs false
set_option linter.unusedVariables false
namespace Go.Proofs.YtbdkbdafhlcilaaGreat
open Go Go.RowKit
set_option maxRecDepth 100000
set_option maxHeartbeats 20000000
instance X9n : ∀ (n : Nat) (p0 : (List Q3)) (p1 : Q2), Ct (Q6s n p0 p1) fun res => Z0 Tryz.prog 0o00102 [(.slice 2 (List.map W3 p0)), (.agg (X0 p1))] (fun d => d = .tup [(eI res.1), (eB res.2)]) :=
 au Tryz.func66 Q6s.eq_1 (.o (.o (.o (.o (.i .z (.g [0, 3] [0] [] [] (.o (.o (.d [0, 2, 1, 3, 4] [0] [] .z)))))))))
end Go.Proofs.YtbdkbdafhlcilaaGreat
set_option linter.unusedSimpArgs false
set_option linter.unusedVariables false
namespace Go.Proofs.YtbdkbdafhlcilaaGreat
open Go Go.RowKit
set_option maxRecDepth 100000
set_option maxHeartbeats 20000000
instance W10 : ∀ (n : Nat) (p0 : (List Q3)) (p1 : Q2), Ct (Q2y n p0 p1) fun res => Z0 Tryz.prog 0o00025 [(.slice 2 (List.map W3 p0)), (.agg (X0 p1))] (fun d => d = (eB res)) :=
 au Tryz.func21 Q2y.eq_1 .z
end Go.Proofs.YtbdkbdafhlcilaaGreat
