import Derived.Test.YtnackipaoepmfaaGreatGJMir
import Derived.Test.YtnackipaoepmfaaGreatGJAuto
import Derived.Test.YtnackipaoepmfaaGreatGJC2c0
import Derived.Test.YtnackipaoepmfaaGreatGJC1c0
import Derived.Test.YtnackipaoepmfaaGreatGJC0d0
import Derived.Test.YtnackipaoepmfaaGreatGJC1b0
import Derived.Test.YtnackipaoepmfaaGreatGJC2b0
import Derived.Test.YtnackipaoepmfaaGreatGJC0c0
import Derived.Test.YtnackipaoepmfaaGreatGJC0b0
set_option linter.unusedSimpArgs false
set_option linter.unusedVariables false
set_option linter.unusedSimpArgs false
set_option linter.unusedVariables false
namespace Go.Proofs.YtnackipaoepmfaaGreat
open Go Go.RowKit
set_option maxRecDepth 100000
set_option maxHeartbeats 20000000
instance W3t : ∀ (n : Nat) (p0 : (List Q3)) (p1 : Q2) (p2 : Q0) (p3 : Int), Ct (Q23 n p0 p1 p2 p3) fun res => Q9 Tryz.prog 0o00452 [(.slice 2 (List.map X0 p0)), (.agg (Z6 p1)), (.agg (Q1 p2)), (eI p3)] (fun d => d = (eB res)) :=
 ar (au Tryz.func298 Q23.eq_2 (.o (.o (.o (.o (.o (.o (.i .z (.o (.i .z (.o (.i .z (.ls 23 (.f [] [] [0, 3, 6, 9, 10] [8] (fun (k83 : Nat) (s79 : Unit) => [(10, eI (k83 : Int))]) (fun k83 s79 => []) (fun k83 s79 => .o (.g [0, 3, 6, 9, 10] [0] [] [] (.o (.o (.d [0, 1, 2, 3, 4, 5, 6, 7, 8, 9, 10, 11, 12, 13] [0] [] .z))))) (fun s87 => .z)))))))))))))))
end Go.Proofs.YtnackipaoepmfaaGreat
set_option linter.unusedSimpArgs false
set_option linter.unusedVariables false
namespace Go.Proofs.YtnackipaoepmfaaGreat
open Go Go.RowKit
set_option maxRecDepth 100000
set_option maxHeartbeats 20000000
instance W6e : ∀ (n : Nat) (p0 : (List Q3)) (p1 : Q6j), Ct (Q8y n p0 p1) fun res => Q9 Tryz.prog 0o00406 [(.slice 2 (List.map X0 p0)), (.agg (Q5r p1))] (fun d => d = (eB res)) :=
 au Tryz.func262 Q8y.eq_1 .z
end Go.Proofs.YtnackipaoepmfaaGreat
set_option linter.unusedSimpArgs false
set_option linter.unusedVariables false
namespace Go.Proofs.YtnackipaoepmfaaGreat
open Go Go.RowKit
set_option maxRecDepth 100000
set_option maxHeartbeats 20000000
instance W6a : ∀ (n : Nat) (p0 : (List Q3)) (p1 : Q2) (p2 : Int), Ct (Q2v n p0 p1 p2) fun res => Q9 Tryz.prog 0o00125 [(.slice 2 (List.map X0 p0)), (.agg (Z6 p1)), (eI p2)] (fun d => d = (.slice 3 (List.map V0 res))) :=
 ar (au Tryz.func85 Q2v.eq_2 (.o (.o (.o (.o (.o (.i .z (.i (.pN 7 3 0x002f (.w [7] [88] [7, 26] [88] (fun (s110 : (List Q4) × Int) => [(7, .sl 3 88 (s110.1).length), (26, eI s110.2)]) (fun s110 => [(88, some ⟨3, (List.map V0 s110.1), 0, 0x002f⟩)]) (fun s110 => .z) (fun s118 => .z))) (.o (.pN 7 3 0x002f (.ls 38 (.f [7] [120] [3, 4, 5, 7, 38, 39, 40] [0, 8, 16, 120] (fun (k60277 : Nat) (s60273 : (List Q4)) => [(7, .sl 3 120 (s60273).length), (40, eI (k60277 : Int))]) (fun k60277 s60273 => [(120, some ⟨3, (List.map V0 s60273), 0, 0x002f⟩)]) (fun k60277 s60273 => .o (.j 13 0 [3, 4, 5, 7, 38, 39, 40] [0, 1, 2, 3] (fun (s66292 : (List Q4)) => [(7, .sl 3 3 (s66292).length)]) (fun s66292 => [(3, some ⟨3, (List.map V0 s66292), 0, 0x002f⟩)]) (.o (.o (.i .z (.ls 47 (.f [3, 4, 5, 7, 12, 38, 39, 40] [0, 1, 2, 3, 116] [3, 4, 5, 7, 10, 12, 38, 39, 40, 54, 55, 56] [0, 1, 2, 3, 116] (fun (k71305 : Nat) (s71301 : (List Q4)) => [(12, .sl 3 116 (s71301).length), (56, eI (k71305 : Int))]) (fun k71305 s71301 => [(116, some ⟨3, (List.map V0 s71301), 0, 0x002f⟩)]) (fun k71305 s71301 => .o (.o (.pN 16 3 0x002f (.ll 4 (.f [3, 4, 5, 7, 10, 16, 38, 39, 40, 54, 55, 56] [0, 1, 2, 3, 125] [3, 4, 5, 7, 10, 15, 16, 38, 39, 40, 54, 55, 56, 65, 66, 67] [0, 1, 2, 3, 125, 4] (fun (k72223 : Nat) (s72219 : (List Q4)) => [(16, .sl 3 125 (s72219).length), (67, eI (k72223 : Int))]) (fun k72223 s72219 => [(125, some ⟨3, (List.map V0 s72219), 0, 0x002f⟩)]) (fun k72223 s72219 => .o (.ls 15 (.f [3, 4, 5, 7, 10, 15, 16, 38, 39, 40, 54, 55, 56, 65, 66, 67] [0, 1, 2, 3, 4, 5] [3, 4, 5, 7, 10, 15, 16, 18, 38, 39, 40, 54, 55, 56, 65, 66, 67, 71, 72, 73] [0, 1, 2, 3, 4, 30, 5] (fun (k72293 : Nat) (s72289 : (List Q4)) => [(16, .sl 3 4 (s72289).length), (73, eI (k72293 : Int))]) (fun k72293 s72289 => [(4, some ⟨3, (List.map V0 s72289), 0, 0x002f⟩)]) (fun k72293 s72289 => .o (.g [3, 4, 5, 7, 10, 15, 16, 18, 20, 38, 39, 40, 54, 55, 56, 65, 66, 67, 71, 72, 73] [0, 1, 2, 3, 4, 5, 31, 6] [] [] (.o (.o (.o (.dz [0, 1, 2, 3, 5, 4, 6, 7, 8, 9, 10, 11] [5, 6] [1048659] [] (.pF 2097160 .z))))))) (fun s72297 => .z)))) (fun s72227 => .z)))))) (fun s71309 => .z)))))) (fun _ => .z))) (fun s60281 => .z)))))))))))))
end Go.Proofs.YtnackipaoepmfaaGreat
set_option linter.unusedSimpArgs false
set_option linter.unusedVariables false
namespace Go.Proofs.YtnackipaoepmfaaGreat
open Go Go.RowKit
set_option maxRecDepth 100000
set_option maxHeartbeats 20000000
instance W46 : ∀ (n : Nat) (p0 : (List Q3)) (p1 : Q2) (p2 : Q4), Ct (Q45 n p0 p1 p2) fun res => Q9 Tryz.prog 0o00112 [(.slice 2 (List.map X0 p0)), (.agg (Z6 p1)), (.agg (V0 p2))] (fun d => d = (eB res)) :=
 au Tryz.func74 Q45.eq_1 .z
end Go.Proofs.YtnackipaoepmfaaGreat
