import Derived.Test.YtbdkbdafhlcilaaGreatCJMir
import Derived.Test.YtbdkbdafhlcilaaGreatCJAuto
import Derived.Test.YtbdkbdafhlcilaaGreatCJC3d0
import Derived.Test.YtbdkbdafhlcilaaGreatCJC0a0
import Derived.Test.YtbdkbdafhlcilaaGreatCJC4d0
set_option linter.unusedSimpArgs false
set_option linter.unusedVariables false
set_option linter.unusedSimpArgs false
set_option linter.unusedVariables false
namespace Go.Proofs.YtbdkbdafhlcilaaGreat
open Go Go.RowKit
set_option maxRecDepth 100000
set_option maxHeartbeats 20000000
instance V1o : ∀ (n : Nat) (p0 : (List Q3)) (p1 : Q2) (p2 : Q0), Ct (Q52 n p0 p1 p2) fun res => Q7 Tryz.prog 0o00233 [(.slice 2 (List.map X2 p0)), (.agg (Z6 p1)), (.agg (Q1 p2))] (fun d => d = (eB res)) :=
 au Tryz.func155 Q52.eq_1 .z
end Go.Proofs.YtbdkbdafhlcilaaGreat
