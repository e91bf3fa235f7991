import Derived.Test.YtjgapphpbkapmaaGreatJC4d0
set_option linter.unusedSimpArgs false
set_option linter.unusedVariables false
namespace Go.Proofs.YtjgapphpbkapmaaGreat
open Go Go.RowKit
set_option maxRecDepth 100000
set_option maxHeartbeats 20000000
instance V36:∀ (n:Nat) (p0:(List Q3)) (p1:Q4) (p2:Q0),Ct (Q79 n p0 p1 p2) fun res=>Z2 Tryz.prog 0o00341 [(.slice 2 (List.map W2 p0)),(.agg (W0 p1)),(.agg (Z0 p2))] (fun d=>d=(eB res)):=
 au Tryz.func225 Q79.eq_1 .z
end Go.Proofs.YtjgapphpbkapmaaGreat
