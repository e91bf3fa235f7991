import Derived.Test.YtnackipaoepmfaaGreatDJMir
import Derived.Test.YtnackipaoepmfaaGreatDJAuto
import Derived.Test.YtnackipaoepmfaaGreatDJC0c0
import Derived.Test.YtnackipaoepmfaaGreatDJC1d0
import Derived.Test.YtnackipaoepmfaaGreatDJC2b0
import Derived.Test.YtnackipaoepmfaaGreatDJC0a0
import Derived.Test.YtnackipaoepmfaaGreatDJC1a0
import Derived.Test.YtnackipaoepmfaaGreatDJC2c0
import Derived.Test.YtnackipaoepmfaaGreatDJC0d0
import Derived.Test.YtnackipaoepmfaaGreatDJC2d0
set_option linter.unusedSimpArgs false
set_option linter.unusedVariables false
set_option linter.unusedSimpArgs false
set_option linter.unusedVariables false
namespace Go.Proofs.YtnackipaoepmfaaGreat
open Go Go.RowKit
set_option maxRecDepth 100000
set_option maxHeartbeats 20000000
instance W4z : ∀ (n : Nat) (p0 : (List Q3)) (p1 : Q2) (p2 : Int), Ct (Q2s n p0 p1 p2) fun res => Q9 Tryz.prog 0o00125 [(.slice 2 (List.map Z6 p0)), (.agg (Z2 p1)), (eI p2)] (fun d => d = (.slice 3 (List.map X3 res))) :=
 ar (au Tryz.func85 Q2s.eq_2 (.o (.o (.o (.o (.o (.i .z (.i (.pN 7 3 0x002f (.w [7] [88] [7, 26] [88] (fun (s110 : (List Q6) × Int) => [(7, .sl 3 88 (s110.1).length), (26, eI s110.2)]) (fun s110 => [(88, some ⟨3, (List.map X3 s110.1), 0, 0x002f⟩)]) (fun s110 => .z) (fun s118 => .z))) (.o (.pN 7 3 0x002f (.ls 38 (.f [7] [120] [3, 4, 5, 7, 38, 39, 40] [0, 8, 16, 120] (fun (k60277 : Nat) (s60273 : (List Q6)) => [(7, .sl 3 120 (s60273).length), (40, eI (k60277 : Int))]) (fun k60277 s60273 => [(120, some ⟨3, (List.map X3 s60273), 0, 0x002f⟩)]) (fun k60277 s60273 => .o (.j 13 0 [3, 4, 5, 7, 38, 39, 40] [0, 1, 2, 3] (fun (s66292 : (List Q6)) => [(7, .sl 3 3 (s66292).length)]) (fun s66292 => [(3, some ⟨3, (List.map X3 s66292), 0, 0x002f⟩)]) (.o (.o (.i .z (.ls 47 (.f [3, 4, 5, 7, 12, 38, 39, 40] [0, 1, 2, 3, 116] [3, 4, 5, 7, 10, 12, 38, 39, 40, 54, 55, 56] [0, 1, 2, 3, 116] (fun (k71305 : Nat) (s71301 : (List Q6)) => [(12, .sl 3 116 (s71301).length), (56, eI (k71305 : Int))]) (fun k71305 s71301 => [(116, some ⟨3, (List.map X3 s71301), 0, 0x002f⟩)]) (fun k71305 s71301 => .o (.o (.pN 16 3 0x002f (.ll 4 (.f [3, 4, 5, 7, 10, 16, 38, 39, 40, 54, 55, 56] [0, 1, 2, 3, 125] [3, 4, 5, 7, 10, 15, 16, 38, 39, 40, 54, 55, 56, 65, 66, 67] [0, 1, 2, 3, 125, 4] (fun (k72223 : Nat) (s72219 : (List Q6)) => [(16, .sl 3 125 (s72219).length), (67, eI (k72223 : Int))]) (fun k72223 s72219 => [(125, some ⟨3, (List.map X3 s72219), 0, 0x002f⟩)]) (fun k72223 s72219 => .o (.ls 15 (.f [3, 4, 5, 7, 10, 15, 16, 38, 39, 40, 54, 55, 56, 65, 66, 67] [0, 1, 2, 3, 4, 5] [3, 4, 5, 7, 10, 15, 16, 18, 38, 39, 40, 54, 55, 56, 65, 66, 67, 71, 72, 73] [0, 1, 2, 3, 4, 30, 5] (fun (k72293 : Nat) (s72289 : (List Q6)) => [(16, .sl 3 4 (s72289).length), (73, eI (k72293 : Int))]) (fun k72293 s72289 => [(4, some ⟨3, (List.map X3 s72289), 0, 0x002f⟩)]) (fun k72293 s72289 => .o (.g [3, 4, 5, 7, 10, 15, 16, 18, 20, 38, 39, 40, 54, 55, 56, 65, 66, 67, 71, 72, 73] [0, 1, 2, 3, 4, 5, 31, 6] [] [] (.o (.o (.o (.dz [0, 1, 2, 3, 5, 4, 6, 7, 8, 9, 10, 11] [5, 6] [1048659] [] (.pF 2097160 .z))))))) (fun s72297 => .z)))) (fun s72227 => .z)))))) (fun s71309 => .z)))))) (fun _ => .z))) (fun s60281 => .z)))))))))))))
end Go.Proofs.YtnackipaoepmfaaGreat
set_option linter.unusedSimpArgs false
set_option linter.unusedVariables false
namespace Go.Proofs.YtnackipaoepmfaaGreat
open Go Go.RowKit
set_option maxRecDepth 100000
set_option maxHeartbeats 20000000
instance W34 : ∀ (n : Nat) (p0 : Q0) (p1 : Q6), Ct (Q3v n p0 p1) fun res => Q9 Tryz.prog 0o00240 [(.agg (Q1 p0)), (.agg (X3 p1))] (fun d => d = .tup [(.slice 4 (List.map Q0q res.1)), (eB res.2)]) :=
 au Tryz.func160 Q3v.eq_1 (.o (.o (.o (.o (.i .z (.o (.o (.ll 49 (.f [6] [49] [6, 20, 21, 22] [49] (fun (k63 : Nat) (s59 : (List W6)) => [(6, .sl 4 49 (s59).length), (20, .sl 4 49 (s59).length), (22, eI (k63 : Int))]) (fun k63 s59 => [(49, some ⟨4, (List.map Q0q s59), 0, 0x007e⟩)]) (fun k63 s59 => .z) (fun s67 => .z))))))))))
end Go.Proofs.YtnackipaoepmfaaGreat
set_option linter.unusedSimpArgs false
set_option linter.unusedVariables false
namespace Go.Proofs.YtnackipaoepmfaaGreat
open Go Go.RowKit
set_option maxRecDepth 100000
set_option maxHeartbeats 20000000
instance W4e : ∀ (n : Nat) (p0 : (List Q3)) (p1 : (List Int)) (p2 : Q2) (p3 : (List Q0)), Ct (Q2m n p0 p1 p2 p3) fun res => Q9 Tryz.prog 0o00474 [(.slice 2 (List.map Z6 p0)), (.slice 1 (List.map rI p1)), (.agg (Z2 p2)), (.slice 6 (List.map Q1 p3))] (fun d => d = (.slice 6 (List.map Q1 res))) :=
 au Tryz.func316 Q2m.eq_1 (.o (.o (.o (.o (.o (.ls 3 (.f [9] [16] [0, 1, 3, 6, 9, 10] [0, 16] (fun (k81 : Nat) (s77 : (List Q0)) => [(9, .sl 6 16 (s77).length), (10, eI (k81 : Int))]) (fun k81 s77 => [(16, some ⟨6, (List.map Q1 s77), 0, 0x0033⟩)]) (fun k81 s77 => .o (.j 5 0 [0, 1, 3, 6, 9, 10] [0, 1] (fun (s89 : (List Q0)) => [(9, .sl 6 1 (s89).length)]) (fun s89 => [(1, some ⟨6, (List.map Q1 s89), 0, 0x0033⟩)]) (.g [0, 1, 3, 6, 9, 10] [0, 1] [] [] (.o (.d [0, 1, 2, 3, 4, 5, 6, 7] [0] [] .z))) (fun _ => .z))) (fun s85 => .z))))))))
end Go.Proofs.YtnackipaoepmfaaGreat
