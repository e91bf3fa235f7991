import Derived.Test.YtnackipaoepmfaaGreatJMir
import Derived.Test.YtnackipaoepmfaaGreatJAuto
import Derived.Test.YtnackipaoepmfaaGreatJCi2
import Derived.Test.YtnackipaoepmfaaGreatJCs1
import Derived.Test.YtnackipaoepmfaaGreatJCi1
import Derived.Test.YtnackipaoepmfaaGreatJCs2
set_option linter.unusedSimpArgs false
set_option linter.unusedVariables false
set_option linter.unusedSimpArgs false
set_option linter.unusedVariables false
namespace Go.Proofs.YtnackipaoepmfaaGreat
open Go Go.RowKit
set_option maxRecDepth 100000
set_option maxHeartbeats 20000000
instance W4a : ∀ (n : Nat) (p0 : (List X0)) (p1 : (List X0)), Ct (V9 n p0 p1) fun res => Z1 Tryz.prog 0o00035 [(.slice 4 (List.map Q0k p0)), (.slice 4 (List.map Q0k p1))] (fun d => d = (eB res)) :=
 au Tryz.func29 V9.eq_1 (.o (.o (.o (.i .z (.ls 0 (.f [] [] [0, 1, 5] [] (fun (k162 : Nat) (s158 : Unit) => [(5, eI (k162 : Int))]) (fun k162 s158 => []) (fun k162 s158 => .o (.g [0, 1, 5] [] [] [] (.o (.i (.d [0, 1, 2, 3, 4, 5, 6, 7, 8, 9, 10, 11, 12, 13, 14, 15, 16, 17, 18, 19, 20, 21, 22, 23, 24] [] [] .z) (.o (.d [0, 1, 2, 3, 4, 5, 6, 7, 8, 9, 10, 11, 12, 13, 14, 15, 16, 17, 18, 19, 20, 21, 22, 23, 24] [] [] .z)))))) (fun s166 => .z)))))))
end Go.Proofs.YtnackipaoepmfaaGreat
set_option linter.unusedSimpArgs false
set_option linter.unusedVariables false
namespace Go.Proofs.YtnackipaoepmfaaGreat
open Go Go.RowKit
set_option maxRecDepth 100000
set_option maxHeartbeats 20000000
instance Z32 : ∀ (n : Nat) (p0 : (List Int)), Ct (Q1v n p0) fun res => Z1 Tryz.prog 0o00007 [(.slice 1 (List.map (rK .u8) p0))] (fun d => d = (eB res)) :=
 au Tryz.func7 Q1v.eq_1 (.o (.o (.i .z (.o (.o (.o (.i .z (.i .z (.o (.i .z (.i .z (.w [] [] [3, 4, 5, 7, 8, 9, 14] [96, 104] (fun (s288 : Int) => [(14, eI s288)]) (fun s288 => []) (fun s288 => .i (.j 11 0 [3, 4, 5, 7, 8, 9, 14] [0, 1] (fun (s311 : Unit) => []) (fun _ => []) .z (fun _ => .z)) .z) (fun s296 => .z)))))))))))))
theorem Z3j (n : Nat) (p0 : (List Int)) : ∀ res, Q1v n p0 = some res → Z1 Tryz.prog 0o00007 [(.slice 1 (List.map (rK .u8) p0))] (fun d => d = (eB res)) := (Z32 n p0).pf
end Go.Proofs.YtnackipaoepmfaaGreat
set_option linter.unusedSimpArgs false
set_option linter.unusedVariables false
namespace Go.Proofs.YtnackipaoepmfaaGreat
open Go Go.RowKit
set_option maxRecDepth 100000
set_option maxHeartbeats 20000000
instance Z5d : ∀ (n : Nat) (p0 : (List Int)), Ct (Q2m n p0) fun res => Z1 Tryz.prog 0o00013 [(.slice 1 (List.map (rK .u8) p0))] (fun d => d = (eB res)) :=
 au Tryz.func11 Q2m.eq_1 .z
theorem Z5k (n : Nat) (p0 : (List Int)) : ∀ res, Q2m n p0 = some res → Z1 Tryz.prog 0o00013 [(.slice 1 (List.map (rK .u8) p0))] (fun d => d = (eB res)) := (Z5d n p0).pf
end Go.Proofs.YtnackipaoepmfaaGreat
