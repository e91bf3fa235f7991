import Derived.Test.YtnackipaoepmfaaGreatGJMir
import Derived.Test.YtnackipaoepmfaaGreatGJAuto
import Derived.Test.YtnackipaoepmfaaGreatGJC3c0
import Derived.Test.YtnackipaoepmfaaGreatGJC1d0
import Derived.Test.YtnackipaoepmfaaGreatGJC0a0
import Derived.Test.YtnackipaoepmfaaGreatGJC2c0
import Derived.Test.YtnackipaoepmfaaGreatGJC3a0
set_option linter.unusedSimpArgs false
set_option linter.unusedVariables false
set_option linter.unusedSimpArgs false
set_option linter.unusedVariables false
namespace Go.Proofs.YtnackipaoepmfaaGreat
open Go Go.RowKit
set_option maxRecDepth 100000
set_option maxHeartbeats 20000000
instance W25 : ∀ (n : Nat) (p0 : (List Q3)) (p1 : Q2) (p2 : Q0), Ct (Q2c n p0 p1 p2) fun res => Q9 Tryz.prog 0o00454 [(.slice 2 (List.map X0 p0)), (.agg (Z6 p1)), (.agg (Q1 p2))] (fun d => d = (eB res)) :=
 ar (au Tryz.func300 Q2c.eq_2 (.o (.o (.o (.o (.o (.o (.ls 14 (.f [0, 4, 5] [0, 8] [0, 4, 5, 7, 8] [0, 8] (fun (k65 : Nat) (s61 : Unit) => [(8, eI (k65 : Int))]) (fun k65 s61 => []) (fun k65 s61 => .o (.g [0, 4, 5, 7, 8] [0, 1] [] [] (.o (.o (.d [0, 1, 2, 3, 4, 5, 6, 7, 8, 9, 10, 11] [1] [] .z))))) (fun s69 => .i (.g [0, 4, 5] [0, 1] [] [] (.o (.o (.o (.o (.o (.d [0, 1, 2, 3, 4, 5, 7, 8, 9, 10, 11, 12, 6, 13, 14, 15] [0, 1] [] .z))))))) (.o (.ll 51 (.f [] [] [9, 10] [51] (fun (k142 : Nat) (s138 : Unit) => [(10, eI (k142 : Int))]) (fun k142 s138 => []) (fun k142 s138 => .z) (fun s146 => .z))))))))))))))
end Go.Proofs.YtnackipaoepmfaaGreat
set_option linter.unusedSimpArgs false
set_option linter.unusedVariables false
namespace Go.Proofs.YtnackipaoepmfaaGreat
open Go Go.RowKit
set_option maxRecDepth 100000
set_option maxHeartbeats 20000000
instance X8c : ∀ (n : Nat) (p0 : (List Q3)) (p1 : (List Int)) (p2 : Q2) (p3 : (List Q0)) (p4 : (List Q0)), Ct (Q4q n p0 p1 p2 p3 p4) fun res => Q9 Tryz.prog 0o00405 [(.slice 2 (List.map X0 p0)), (.slice 1 (List.map rI p1)), (.agg (Z6 p2)), (.slice 6 (List.map Q1 p3)), (.slice 6 (List.map Q1 p4))] (fun d => d = .tup [(.slice 6 (List.map Q1 res.1)), (eB res.2)]) :=
 au Tryz.func261 Q4q.eq_1 (.o (.o (.o (.o (.o (.o (.ls 4 (.f [0, 1, 3, 7] [0] [0, 1, 3, 4, 7, 12] [0] (fun (k1254 : Nat) (s1250 : (List Q0)) => [(3, .slice 6 (List.map Q1 s1250)), (12, eI (k1254 : Int))]) (fun k1254 s1250 => []) (fun k1254 s1250 => .o (.ls 3 (.f [0, 1, 4, 7, 12, 13] [0, 33] [0, 1, 3, 4, 7, 12, 13, 14] [0, 33] (fun (k1471 : Nat) (s1467 : (List Q0)) => [(13, .sl 6 33 (s1467).length), (14, eI (k1471 : Int))]) (fun k1471 s1467 => [(33, some ⟨6, (List.map Q1 s1467), 0, 0x0033⟩)]) (fun k1471 s1467 => .o (.i (.g [0, 1, 3, 4, 7, 12, 13, 14] [0, 1] [] [] (.o (.o (.o (.d [0, 1, 2, 3, 4, 5, 6, 7, 8, 9, 10, 11, 12, 13, 14, 15, 16, 17] [0] [] .z))))) .z)) (fun s1475 => .i .z (.pF 1 .z))))) (fun s1258 => .z)))))))))
end Go.Proofs.YtnackipaoepmfaaGreat
