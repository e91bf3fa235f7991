import Derived.Test.YtbdkbdafhlcilaaGreatCJMir
import Derived.Test.YtbdkbdafhlcilaaGreatCJAuto
import Derived.Test.YtbdkbdafhlcilaaGreatCJC4b0
import Derived.Test.YtbdkbdafhlcilaaGreatCJC1a0
import Derived.Test.YtbdkbdafhlcilaaGreatCJC4c0
set_option linter.unusedSimpArgs false
set_option linter.unusedVariables false
set_option linter.unusedSimpArgs false
set_option linter.unusedVariables false
namespace Go.Proofs.YtbdkbdafhlcilaaGreat
open Go Go.RowKit
set_option maxRecDepth 100000
set_option maxHeartbeats 20000000
instance W12 : ∀ (n : Nat) (p0 : (List Q3)) (p1 : Q2), Ct (Q35 n p0 p1) fun res => Q7 Tryz.prog 0o00127 [(.slice 2 (List.map X2 p0)), (.agg (Z6 p1))] (fun d => d = (eB res)) :=
 au Tryz.func87 Q35.eq_1 .z
end Go.Proofs.YtbdkbdafhlcilaaGreat
set_option linter.unusedSimpArgs false
set_option linter.unusedVariables false
namespace Go.Proofs.YtbdkbdafhlcilaaGreat
open Go Go.RowKit
set_option maxRecDepth 100000
set_option maxHeartbeats 20000000
instance X1l : ∀ (n : Nat) (p0 : Q0) (q0 : Q13) (q1 : Q2), Ct (Q32 n p0 q0 q1) fun res => Q7 Tryz.prog 0o00365 [(.agg (Q1 p0)), .cptr [(.cptr (Q1v q0))], .cptr (Z6 q1)] (fun d => d = (eB res)) :=
 au Tryz.func245 Q32.eq_1 .z
end Go.Proofs.YtbdkbdafhlcilaaGreat
