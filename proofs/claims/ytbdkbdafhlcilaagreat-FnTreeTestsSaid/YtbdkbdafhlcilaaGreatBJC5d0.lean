import Derived.Test.YtbdkbdafhlcilaaGreatBJMir
import Derived.Test.YtbdkbdafhlcilaaGreatBJAuto
import Derived.Test.YtbdkbdafhlcilaaGreatBJC4b0
import Derived.Test.YtbdkbdafhlcilaaGreatBJC4c0
import Derived.Test.YtbdkbdafhlcilaaGreatBJC1a0
set_option linter.unusedSimpArgs false
set_option linter.unusedVariables false
set_option linter.unusedSimpArgs false
set_option linter.unusedVariables false
namespace Go.Proofs.YtbdkbdafhlcilaaGreat
open Go Go.RowKit
set_option maxRecDepth 100000
set_option maxHeartbeats 20000000
instance X79 : ∀ (n : Nat) (p0 : (List Q3)) (p1 : Q5) (p2 : Q0), Ct (Q35 n p0 p1 p2) fun res => Z1 Tryz.prog 0o00270 [(.slice 2 (List.map X9 p0)), (.agg (X7 p1)), (.agg (Q8 p2))] (fun d => d = .tup [(.slice 3 (List.map V5 res.1)), (eB res.2)]) :=
 au Tryz.func184 Q35.eq_1 .z
end Go.Proofs.YtbdkbdafhlcilaaGreat
set_option linter.unusedSimpArgs false
set_option linter.unusedVariables false
namespace Go.Proofs.YtbdkbdafhlcilaaGreat
open Go Go.RowKit
set_option maxRecDepth 100000
set_option maxHeartbeats 20000000
instance W0m : ∀ (n : Nat) (p0 : (List Q3)) (p1 : Q5), Ct (Q2w n p0 p1) fun res => Z1 Tryz.prog 0o00127 [(.slice 2 (List.map X9 p0)), (.agg (X7 p1))] (fun d => d = (eB res)) :=
 au Tryz.func87 Q2w.eq_1 .z
end Go.Proofs.YtbdkbdafhlcilaaGreat
