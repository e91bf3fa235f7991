import Derived.Test.YtbdkbdafhlcilaaGreatAJMir
import Derived.Test.YtbdkbdafhlcilaaGreatAJAuto
import Derived.Test.YtbdkbdafhlcilaaGreatAJC4b0
import Derived.Test.YtbdkbdafhlcilaaGreatAJC4c0
import Derived.Test.YtbdkbdafhlcilaaGreatAJC1a0
import Derived.Test.YtbdkbdafhlcilaaGreatAJC4d0
set_option linter.unusedSimpArgs false
set_option linter.unusedVariables false
set_option linter.unusedSimpArgs false
set_option linter.unusedVariables false
namespace Go.Proofs.YtbdkbdafhlcilaaGreat
open Go Go.RowKit
set_option maxRecDepth 100000
set_option maxHeartbeats 20000000
instance X7r : ∀ (n : Nat) (p0 : (List Q3)) (p1 : Q2) (p2 : Q0), Ct (Q22 n p0 p1 p2) fun res => Z0 Tryz.prog 0o00270 [(.slice 2 (List.map W3 p0)), (.agg (X0 p1)), (.agg (Q1 p2))] (fun d => d = .tup [(.slice 3 (List.map V3 res.1)), (eB res.2)]) :=
 au Tryz.func184 Q22.eq_1 .z
end Go.Proofs.YtbdkbdafhlcilaaGreat
set_option linter.unusedSimpArgs false
set_option linter.unusedVariables false
namespace Go.Proofs.YtbdkbdafhlcilaaGreat
open Go Go.RowKit
set_option maxRecDepth 100000
set_option maxHeartbeats 20000000
instance W0y : ∀ (n : Nat) (p0 : (List Q3)) (p1 : Q2), Ct (Q2x n p0 p1) fun res => Z0 Tryz.prog 0o00127 [(.slice 2 (List.map W3 p0)), (.agg (X0 p1))] (fun d => d = (eB res)) :=
 au Tryz.func87 Q2x.eq_1 .z
end Go.Proofs.YtbdkbdafhlcilaaGreat
set_option linter.unusedSimpArgs false
set_option linter.unusedVariables false
namespace Go.Proofs.YtbdkbdafhlcilaaGreat
open Go Go.RowKit
set_option maxRecDepth 100000
set_option maxHeartbeats 20000000
instance X1v : ∀ (n : Nat) (p0 : Q0) (q0 : Q1e) (q1 : Q2), Ct (Q2s n p0 q0 q1) fun res => Z0 Tryz.prog 0o00365 [(.agg (Q1 p0)), .cptr [(.cptr (Q20 q0))], .cptr (X0 q1)] (fun d => d = (eB res)) :=
 au Tryz.func245 Q2s.eq_1 .z
end Go.Proofs.YtbdkbdafhlcilaaGreat
