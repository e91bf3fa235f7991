import Derived.Test.YtgjpamkllimhdaaGreatJC4c0
set_option linter.unusedSimpArgs false
set_option linter.unusedVariables false
namespace Go.Proofs.YtgjpamkllimhdaaGreat
open Go Go.RowKit
set_option maxRecDepth 100000
set_option maxHeartbeats 20000000
instance W55:∀ (n:Nat) (p0:(List Q4)) (p1:Q6),Ct (Q3j n p0 p1) fun res=>Z1 Tryz.prog 0o00134 [(.slice 2 (List.map W1 p0)),(.agg (W0 p1))] (fun d=>d=(eB res)):=
 au Tryz.func92 Q3j.eq_1 .z
end Go.Proofs.YtgjpamkllimhdaaGreat
