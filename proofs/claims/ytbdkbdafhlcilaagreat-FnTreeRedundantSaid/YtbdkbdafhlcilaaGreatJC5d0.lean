import Derived.Test.YtbdkbdafhlcilaaGreatJC4b0
import Derived.Test.YtbdkbdafhlcilaaGreatJC4c0
import Derived.Test.YtbdkbdafhlcilaaGreatJC4d0
set_option linter.unusedSimpArgs false
set_option linter.unusedVariables false
namespace Go.Proofs.YtbdkbdafhlcilaaGreat
open Go Go.RowKit
set_option maxRecDepth 100000
set_option maxHeartbeats 20000000
instance W1r:∀ (n:Nat) (p0:(List Q3)) (p1:Q2) (p2:Q0),Ct (Q2u n p0 p1 p2) fun res=>Z1 Tryz.prog 0o00270 [(.slice 2 (List.map V0 p0)),(.agg (X9 p1)),(.agg (Q1 p2))] (fun d=>d=.tup [(.slice 3 (List.map Y4 res.1)),(eB res.2)]):=
 au Tryz.func184 Q2u.eq_1 .z
instance W5j:∀ (n:Nat) (p0:(List Q3)) (p1:Q2),Ct (Q59 n p0 p1) fun res=>Z1 Tryz.prog 0o00127 [(.slice 2 (List.map V0 p0)),(.agg (X9 p1))] (fun d=>d=(eB res)):=
 au Tryz.func87 Q59.eq_1 .z
instance X57:∀ (n:Nat) (p0:Q0) (q0:Q24) (q1:Q2),Ct (Q3m n p0 q0 q1) fun res=>Z1 Tryz.prog 0o00365 [(.agg (Q1 p0)),.cptr [(.cptr (Q2s q0))],.cptr (X9 q1)] (fun d=>d=(eB res)):=
 au Tryz.func245 Q3m.eq_1 .z
end Go.Proofs.YtbdkbdafhlcilaaGreat
