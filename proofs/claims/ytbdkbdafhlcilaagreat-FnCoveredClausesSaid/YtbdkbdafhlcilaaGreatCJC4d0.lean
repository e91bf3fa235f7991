import Derived.Test.YtbdkbdafhlcilaaGreatCJMir
import Derived.Test.YtbdkbdafhlcilaaGreatCJAuto
import Derived.Test.YtbdkbdafhlcilaaGreatCJC1c0
import Derived.Test.YtbdkbdafhlcilaaGreatCJC3c0
import Derived.Test.YtbdkbdafhlcilaaGreatCJC0a0
import Derived.Test.YtbdkbdafhlcilaaGreatCJC2d0
import Derived.Test.YtbdkbdafhlcilaaGreatCJC3b0
set_option linter.unusedSimpArgs false
set_option linter.unusedVariables false
set_option linter.unusedSimpArgs false
set_option linter.unusedVariables false
namespace Go.Proofs.YtbdkbdafhlcilaaGreat
open Go Go.RowKit
set_option maxRecDepth 100000
set_option maxHeartbeats 20000000
instance W3f : ∀ (n : Nat) (p0 : (List Q3)) (p1 : Q2) (p2 : Q0), Ct (Q2s n p0 p1 p2) fun res => Q7 Tryz.prog 0o00336 [(.slice 2 (List.map X2 p0)), (.agg (Z6 p1)), (.agg (Q1 p2))] (fun d => d = (eB res)) :=
 ar (au Tryz.func222 Q2s.eq_2 (.o (.o (.o (.o (.o (.o (.ls 14 (.f [0, 4, 5] [0, 8] [0, 4, 5, 7, 8] [0, 8] (fun (k65 : Nat) (s61 : Unit) => [(8, eI (k65 : Int))]) (fun k65 s61 => []) (fun k65 s61 => .o (.g [0, 4, 5, 7, 8] [0, 1] [] [] (.o (.o (.d [0, 1, 2, 3, 4, 5, 6, 7, 8, 9, 10, 11] [1] [] .z))))) (fun s69 => .i (.g [0, 4, 5] [0, 1] [] [] (.o (.o (.o (.o (.o (.d [0, 1, 2, 3, 4, 5, 7, 8, 9, 10, 11, 12, 6, 13, 14, 15] [0, 1] [] .z))))))) (.o (.ll 51 (.f [] [] [9, 10] [51] (fun (k142 : Nat) (s138 : Unit) => [(10, eI (k142 : Int))]) (fun k142 s138 => []) (fun k142 s138 => .z) (fun s146 => .z))))))))))))))
end Go.Proofs.YtbdkbdafhlcilaaGreat
set_option linter.unusedSimpArgs false
set_option linter.unusedVariables false
namespace Go.Proofs.YtbdkbdafhlcilaaGreat
open Go Go.RowKit
set_option maxRecDepth 100000
set_option maxHeartbeats 20000000
instance V35 : ∀ (n : Nat) (p0 : (List Q5)) (p1 : Q4), Ct (Q6x n p0 p1) fun res => Q7 Tryz.prog 0o00064 [(.slice 9 (List.map X5 p0)), (.agg (W3 p1))] (fun d => d = .tup [(eI res.1), (.slice 4 (List.map Q0w res.2))]) :=
 au Tryz.func52 Q6x.eq_1 (.o (.o (.o (.ls 0 (.f [] [] [3, 10, 11, 12] [0] (fun (k139 : Nat) (s135 : Unit) => [(12, eI (k139 : Int))]) (fun k139 s135 => []) (fun k139 s135 => .o (.j 3 0 [3, 10, 11, 12] [0] (fun (s153 : Unit) => []) (fun _ => []) .z (fun _ => .z))) (fun s143 => .z))))))
end Go.Proofs.YtbdkbdafhlcilaaGreat
