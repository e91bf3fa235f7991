import Derived.Test.YtnackipaoepmfaaGreatGJMir
import Derived.Test.YtnackipaoepmfaaGreatGJAuto
import Derived.Test.YtnackipaoepmfaaGreatGJC0b0
import Derived.Test.YtnackipaoepmfaaGreatGJC3c0
import Derived.Test.YtnackipaoepmfaaGreatGJC3a0
import Derived.Test.YtnackipaoepmfaaGreatGJC1b0
set_option linter.unusedSimpArgs false
set_option linter.unusedVariables false
set_option linter.unusedSimpArgs false
set_option linter.unusedVariables false
namespace Go.Proofs.YtnackipaoepmfaaGreat
open Go Go.RowKit
set_option maxRecDepth 100000
set_option maxHeartbeats 20000000
instance X49 : ∀ (n : Nat) (p0 : Q0t) (p1 : Q2) (p2 : Q0), Ct (V8 n p0 p1 p2) fun res => Q9 Tryz.prog 0o00361 [.cptr (Q1n p0), (.agg (Z6 p1)), (.agg (Q1 p2))] (fun d => d = (eB res)) :=
 ar (au Tryz.func241 V8.eq_2 (.o (.o (.o (.o (.o (.j 2 0 [0, 4, 5, 10, 11] [0, 8] (fun (s20 : Bool) => [(11, eB s20)]) (fun _ => []) .z (fun s20 => .i (.g [0, 4] [0] [] [] (.o (.d [0, 1, 2, 3, 4, 5, 6, 7] [0] [] .z))) (.i (.g [0, 4, 5] [0, 1] [] [] (.o (.o (.i (.o (.o (.d [0, 1, 2, 3, 4, 5, 6, 7, 8, 9, 10, 11, 12, 13, 14, 15, 16] [0, 1] [] .z))) (.d [0, 1, 2, 3, 4, 5, 6, 7, 8, 9, 10, 11, 12, 13, 14, 15, 16] [0, 1] [] .z))))) (.g [0, 4, 5] [0, 1] [] [] (.o (.d [0, 1, 2, 3, 4, 5, 8, 6, 7] [0, 1] [] (.ls 45 (.f [] [] [0, 5, 45, 46, 47] [1] (fun (k102 : Nat) (s98 : Unit) => [(47, eI (k102 : Int))]) (fun k102 s98 => []) (fun k102 s98 => .o (.g [0, 5, 7, 8, 45, 46, 47] [0, 33] [] [] (.o (.o (.d [0, 1, 2, 3, 4, 5, 6, 7] [0, 1] [] .z))))) (fun s106 => .z)))))))))))))))
end Go.Proofs.YtnackipaoepmfaaGreat
set_option linter.unusedSimpArgs false
set_option linter.unusedVariables false
namespace Go.Proofs.YtnackipaoepmfaaGreat
open Go Go.RowKit
set_option maxRecDepth 100000
set_option maxHeartbeats 20000000
instance V1e : ∀ (n : Nat) (p0 : (List Q5)) (p1 : Q4), Ct (Q6z n p0 p1) fun res => Q9 Tryz.prog 0o00113 [(.slice 9 (List.map Z8 p0)), (.agg (V0 p1))] (fun d => d = .tup [(eI res.1), (.slice 4 (List.map Q1h res.2))]) :=
 au Tryz.func75 Q6z.eq_1 (.o (.o (.o (.ls 0 (.f [] [] [3, 10, 11, 12] [0] (fun (k139 : Nat) (s135 : Unit) => [(12, eI (k139 : Int))]) (fun k139 s135 => []) (fun k139 s135 => .o (.j 3 0 [3, 10, 11, 12] [0] (fun (s153 : Unit) => []) (fun _ => []) .z (fun _ => .z))) (fun s143 => .z))))))
end Go.Proofs.YtnackipaoepmfaaGreat
