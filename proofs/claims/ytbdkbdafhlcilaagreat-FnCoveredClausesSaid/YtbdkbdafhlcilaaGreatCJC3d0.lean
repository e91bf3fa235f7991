import Derived.Test.YtbdkbdafhlcilaaGreatCJMir
import Derived.Test.YtbdkbdafhlcilaaGreatCJAuto
import Derived.Test.YtbdkbdafhlcilaaGreatCJC0b0
import Derived.Test.YtbdkbdafhlcilaaGreatCJC1a0
import Derived.Test.YtbdkbdafhlcilaaGreatCJC2a0
import Derived.Test.YtbdkbdafhlcilaaGreatCJC2d0
import Derived.Test.YtbdkbdafhlcilaaGreatCJC2c0
set_option linter.unusedSimpArgs false
set_option linter.unusedVariables false
set_option linter.unusedSimpArgs false
set_option linter.unusedVariables false
namespace Go.Proofs.YtbdkbdafhlcilaaGreat
open Go Go.RowKit
set_option maxRecDepth 100000
set_option maxHeartbeats 20000000
instance X9h : ∀ (n : Nat) (p0 : (List Q3)), Ct (Q2k n p0) fun res => Q7 Tryz.prog 0o00300 [(.slice 2 (List.map X2 p0))] (fun d => d = (eB res)) :=
 au Tryz.func192 Q2k.eq_1 (.o (.o (.i .z (.ls 0 (.f [] [] [0, 3] [] (fun (k1226 : Nat) (s1222 : Unit) => [(3, eI (k1226 : Int))]) (fun k1226 s1222 => []) (fun k1226 s1222 => .o (.o (.i .z (.i .z (.i .z (.ls 26 (.f [0, 3] [] [0, 3, 4] [] (fun (k1434 : Nat) (s1430 : Unit) => [(4, eI (k1434 : Int))]) (fun k1434 s1430 => []) (fun k1434 s1430 => .z) (fun s1438 => .z)))))))) (fun s1230 => .z))))))
end Go.Proofs.YtbdkbdafhlcilaaGreat
set_option linter.unusedSimpArgs false
set_option linter.unusedVariables false
namespace Go.Proofs.YtbdkbdafhlcilaaGreat
open Go Go.RowKit
set_option maxRecDepth 100000
set_option maxHeartbeats 20000000
instance W5c : ∀ (n : Nat) (p0 : (List Q3)) (p1 : Q2) (p2 : Q0) (p3 : Int), Ct (Q2h n p0 p1 p2 p3) fun res => Q7 Tryz.prog 0o00334 [(.slice 2 (List.map X2 p0)), (.agg (Z6 p1)), (.agg (Q1 p2)), (eI p3)] (fun d => d = (eB res)) :=
 ar (au Tryz.func220 Q2h.eq_2 (.o (.o (.o (.o (.o (.o (.i .z (.o (.i .z (.o (.i .z (.ls 23 (.f [] [] [0, 3, 6, 9, 10] [8] (fun (k83 : Nat) (s79 : Unit) => [(10, eI (k83 : Int))]) (fun k83 s79 => []) (fun k83 s79 => .o (.g [0, 3, 6, 9, 10] [0] [] [] (.o (.o (.d [0, 1, 2, 3, 4, 5, 6, 7, 8, 9, 10, 11, 12, 13] [0] [] .z))))) (fun s87 => .z)))))))))))))))
end Go.Proofs.YtbdkbdafhlcilaaGreat
set_option linter.unusedSimpArgs false
set_option linter.unusedVariables false
namespace Go.Proofs.YtbdkbdafhlcilaaGreat
open Go Go.RowKit
set_option maxRecDepth 100000
set_option maxHeartbeats 20000000
instance W3m : ∀ (p0 : (List Q8)) (p1 : (List Q8)), Ct (Q55 p0 p1) fun res => Q7 Tryz.prog 0o00415 [(.slice 3 (List.map V5 p0)), (.slice 3 (List.map V5 p1))] (fun d => d = (eB res)) :=
 au Tryz.func269 Q55.eq_1 .z
end Go.Proofs.YtbdkbdafhlcilaaGreat
set_option linter.unusedSimpArgs false
set_option linter.unusedVariables false
namespace Go.Proofs.YtbdkbdafhlcilaaGreat
open Go Go.RowKit
set_option maxRecDepth 100000
set_option maxHeartbeats 20000000
instance W5t : ∀ (n : Nat) (p0 : (List Q3)) (p1 : Q2) (p2 : Q4), Ct (Q3u n p0 p1 p2) fun res => Q7 Tryz.prog 0o00063 [(.slice 2 (List.map X2 p0)), (.agg (Z6 p1)), (.agg (W3 p2))] (fun d => d = (eB res)) :=
 au Tryz.func51 Q3u.eq_1 .z
end Go.Proofs.YtbdkbdafhlcilaaGreat
