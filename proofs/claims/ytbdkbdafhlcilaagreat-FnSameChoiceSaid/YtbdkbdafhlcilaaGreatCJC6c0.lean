import Derived.Test.YtbdkbdafhlcilaaGreatCJMir
import Derived.Test.YtbdkbdafhlcilaaGreatCJAuto
import Derived.Test.YtbdkbdafhlcilaaGreatCJC1a0
import Derived.Test.YtbdkbdafhlcilaaGreatCJC5b0
import Derived.Test.YtbdkbdafhlcilaaGreatCJC3c0
import Derived.Test.YtbdkbdafhlcilaaGreatCJC4b0
set_option linter.unusedSimpArgs false
set_option linter.unusedVariables false
set_option linter.unusedSimpArgs false
set_option linter.unusedVariables false
namespace Go.Proofs.YtbdkbdafhlcilaaGreat
open Go Go.RowKit
set_option maxRecDepth 100000
set_option maxHeartbeats 20000000
instance V1n : ∀ (n : Nat) (p0 : (List Q3)) (p1 : Q2) (p2 : Q5), Ct (Q85 n p0 p1 p2) fun res => Q7 Tryz.prog 0o00160 [(.slice 2 (List.map X2 p0)), (.agg (Z6 p1)), (.agg (X5 p2))] (fun d => d = (eB res)) :=
 au Tryz.func112 Q85.eq_1 (.o (.o (.o (.o (.g [0, 4, 5] [0, 8] [] [] (.o (.i (.o (.o (.d [0, 1, 2, 3, 4, 5, 6, 7, 8, 9, 10, 11, 12, 13, 14, 15] [0, 1] [] .z))) (.d [0, 1, 2, 3, 4, 5, 6, 7, 8, 9, 10, 11, 12, 13, 14, 15] [0, 1] [] .z))))))))
end Go.Proofs.YtbdkbdafhlcilaaGreat
set_option linter.unusedSimpArgs false
set_option linter.unusedVariables false
namespace Go.Proofs.YtbdkbdafhlcilaaGreat
open Go Go.RowKit
set_option maxRecDepth 100000
set_option maxHeartbeats 20000000
instance X5d : ∀ (n : Nat) (p0 : (List Q3)) (p1 : Q2) (p2 : (List Q5)), Ct (Y9 n p0 p1 p2) fun res => Q7 Tryz.prog 0o00065 [(.slice 2 (List.map X2 p0)), (.agg (Z6 p1)), (.slice 9 (List.map X5 p2))] (fun d => d = (eB res)) :=
 au Tryz.func53 Y9.eq_1 (.o (.o (.o (.o (.o (.i .z (.i .z (.ls 2 (.f [] [] [0, 2, 4, 7] [0] (fun (k70 : Nat) (s66 : Unit) => [(7, eI (k70 : Int))]) (fun k70 s66 => []) (fun k70 s66 => .o (.g [0, 2, 4, 7] [0] [] [] (.o (.d [0, 1, 2, 3, 4, 5, 6, 7] [0] [] .z)))) (fun s74 => .z))))))))))
end Go.Proofs.YtbdkbdafhlcilaaGreat
