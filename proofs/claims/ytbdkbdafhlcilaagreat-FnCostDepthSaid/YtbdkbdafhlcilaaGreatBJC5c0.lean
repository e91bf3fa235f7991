import Derived.Test.YtbdkbdafhlcilaaGreatBJMir
import Derived.Test.YtbdkbdafhlcilaaGreatBJAuto
import Derived.Test.YtbdkbdafhlcilaaGreatBJC3d0
import Derived.Test.YtbdkbdafhlcilaaGreatBJC0a0
import Derived.Test.YtbdkbdafhlcilaaGreatBJC4d0
set_option linter.unusedSimpArgs false
set_option linter.unusedVariables false
set_option linter.unusedSimpArgs false
set_option linter.unusedVariables false
namespace Go.Proofs.YtbdkbdafhlcilaaGreat
open Go Go.RowKit
set_option maxRecDepth 100000
set_option maxHeartbeats 20000000
instance V0v : ∀ (n : Nat) (p0 : (List Q3)) (p1 : Q5) (p2 : Q0), Ct (Q6k n p0 p1 p2) fun res => Z1 Tryz.prog 0o00233 [(.slice 2 (List.map X9 p0)), (.agg (X7 p1)), (.agg (Q8 p2))] (fun d => d = (eB res)) :=
 au Tryz.func155 Q6k.eq_1 .z
end Go.Proofs.YtbdkbdafhlcilaaGreat
