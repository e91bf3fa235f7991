import Derived.Test.YtbdkbdafhlcilaaGreatAJMir
import Derived.Test.YtbdkbdafhlcilaaGreatAJAuto
import Derived.Test.YtbdkbdafhlcilaaGreatAJC0d0
import Derived.Test.YtbdkbdafhlcilaaGreatAJC0b0
import Derived.Test.YtbdkbdafhlcilaaGreatAJC0c0
import Derived.Test.YtbdkbdafhlcilaaGreatAJC0a0
set_option linter.unusedSimpArgs false
set_option linter.unusedVariables false
set_option linter.unusedSimpArgs false
set_option linter.unusedVariables false
namespace Go.Proofs.YtbdkbdafhlcilaaGreat
open Go Go.RowKit
set_option maxRecDepth 100000
set_option maxHeartbeats 20000000
instance W9v : ∀ (p0 : Int), Ct (Q60 p0) fun res => Z0 Tryz.prog 0o00446 [(eI p0)] (fun d => d = (eB res)) :=
 au Tryz.func294 Q60.eq_1 .z
end Go.Proofs.YtbdkbdafhlcilaaGreat
set_option linter.unusedSimpArgs false
set_option linter.unusedVariables false
namespace Go.Proofs.YtbdkbdafhlcilaaGreat
open Go Go.RowKit
set_option maxRecDepth 100000
set_option maxHeartbeats 20000000
instance X3j : ∀ (p0 : (List Int)) (p1 : Int), Ct (Q15 p0 p1) fun res => Z0 Tryz.prog 0o00133 [(.slice 1 (List.map rI p0)), (eI p1)] (fun d => d = (eB res)) :=
 au Tryz.func91 Q15.eq_1 .z
end Go.Proofs.YtbdkbdafhlcilaaGreat
set_option linter.unusedSimpArgs false
set_option linter.unusedVariables false
namespace Go.Proofs.YtbdkbdafhlcilaaGreat
open Go Go.RowKit
set_option maxRecDepth 100000
set_option maxHeartbeats 20000000
instance Z62 : ∀ (p0 : (List Q6)) (p1 : (Q6 → Option Bool)) {p1_f : FuncId} {p1_c : List D} [p1_i : CF1 (fun a0 => (.agg (W6 a0))) (fun r => (eB r)) p1 p1_f p1_c], Ct (Q19 p0 p1) fun res => Z0 Tryz.prog 0o00121 [(.slice 9 (List.map W6 p0)), .clos p1_f p1_c] (fun d => d = (eB res)) :=
 au Tryz.func81 Q19.eq_1 .z
end Go.Proofs.YtbdkbdafhlcilaaGreat
set_option linter.unusedSimpArgs false
set_option linter.unusedVariables false
namespace Go.Proofs.YtbdkbdafhlcilaaGreat
open Go Go.RowKit
set_option maxRecDepth 100000
set_option maxHeartbeats 20000000
instance W0z : ∀ (n : Nat) (p0 : ByteArray), Ct (Q79 n p0) fun res => Z0 Tryz.prog 0o00407 [(eS p0)] (fun d => d = (eB res)) :=
 au Tryz.func263 Q79.eq_1 (.o (.o (.o (.i .z (.o (.i .z (.i .z (.w [] [] [0, 3] [] (fun (s132 : Int) => [(3, eI s132)]) (fun s132 => []) (fun s132 => .z) (fun s140 => .z)))))))))
end Go.Proofs.YtbdkbdafhlcilaaGreat
set_option linter.unusedSimpArgs false
set_option linter.unusedVariables false
namespace Go.Proofs.YtbdkbdafhlcilaaGreat
open Go Go.RowKit
set_option maxRecDepth 100000
set_option maxHeartbeats 20000000
instance W7u : ∀ (p0 : (List Q3)) (p1 : Q2), Ct (Q6i p0 p1) fun res => Z0 Tryz.prog 0o00251 [(.slice 2 (List.map W3 p0)), (.agg (X0 p1))] (fun d => d = (eB res)) :=
 au Tryz.func169 Q6i.eq_1 .z
end Go.Proofs.YtbdkbdafhlcilaaGreat
set_option linter.unusedSimpArgs false
set_option linter.unusedVariables false
namespace Go.Proofs.YtbdkbdafhlcilaaGreat
open Go Go.RowKit
set_option maxRecDepth 100000
set_option maxHeartbeats 20000000
instance Z7f : ∀ (n : Nat) (p0 : (List Q0)) (p1 : (Q0 → Option Bool)) {p1_f : FuncId} {p1_c : List D} [p1_i : CF1 (fun a0 => (.agg (Q1 a0))) (fun r => (eB r)) p1 p1_f p1_c], Ct (J6 n p0 p1) fun res => J1 Tryz.prog 0o00364 [⟨6, List.map Q1 p0, 0, 0x0064⟩] [.sl 6 0 p0.length, .clos p1_f p1_c] (fun H d => H = [none, some ⟨6, List.map Q1 res, 0, 0x0064⟩] ∧ d = .sl 6 1 res.length) :=
 au Tryz.func244 J6.eq_1 (.o (.o (.o (.o (.o (.o (.o (.i (.pM 4 .z) (.w [0, 5] [0] [0, 1, 5, 6] [0] (fun (s96 : (List Q0) × Int × Int) => [(0, .sl 6 0 (s96.1).length), (5, eI s96.2.1), (6, eI s96.2.2)]) (fun s96 => [(0, some ⟨6, (List.map Q1 s96.1), 0, 0x0064⟩)]) (fun s96 => .i (.j 7 0 [0, 1, 5, 6] [0] (fun (s112 : (List Q0) × Int) => [(0, .sl 6 0 (s112.1).length), (5, eI s112.2)]) (fun s112 => [(0, some ⟨6, (List.map Q1 s112.1), 0, 0x0064⟩)]) .z (fun _ => .z)) .z) (fun s104 => .o (.pM 4 .z)))))))))))
end Go.Proofs.YtbdkbdafhlcilaaGreat
set_option linter.unusedSimpArgs false
set_option linter.unusedVariables false
namespace Go.Proofs.YtbdkbdafhlcilaaGreat
open Go Go.RowKit
set_option maxRecDepth 100000
set_option maxHeartbeats 20000000
instance X0v : ∀ (p0 : (List (List Q0))), Ct (Q02 p0) fun res => Z0 Tryz.prog 0o00370 [(.slice 1 (List.map (rL 6 Q1) p0))] (fun d => d = (.slice 6 (List.map Q1 res))) :=
 au Tryz.func248 Q02.eq_1 (.o (.ls 0 (.f [0, 3] [] [0, 3, 9, 10, 11] [] (fun (k46 : Nat) (s42 : Int) => [(3, eI s42), (11, eI (k46 : Int))]) (fun k46 s42 => []) (fun k46 s42 => .z) (fun s50 => .o (.ls 0 (.f [6] [9] [6, 25, 26, 27] [9] (fun (k99 : Nat) (s95 : (List Q0)) => [(6, .sl 6 9 (s95).length), (27, eI (k99 : Int))]) (fun k99 s95 => [(9, some ⟨6, (List.map Q1 s95), 0, 0x0064⟩)]) (fun k99 s95 => .z) (fun s103 => .z)))))))
end Go.Proofs.YtbdkbdafhlcilaaGreat
set_option linter.unusedSimpArgs false
set_option linter.unusedVariables false
namespace Go.Proofs.YtbdkbdafhlcilaaGreat
open Go Go.RowKit
set_option maxRecDepth 100000
set_option maxHeartbeats 20000000
instance W5j : ∀ (p0 : (List Q3)) (p1 : Q2), Ct (Q0w p0 p1) fun res => Z0 Tryz.prog 0o00146 [(.slice 2 (List.map W3 p0)), (.agg (X0 p1))] (fun d => d = (.slice 1 (List.map rI res))) :=
 au Tryz.func102 Q0w.eq_1 (.o (.o (.i .z (.b fun (x115 : Q3) => .le 0 1 3 Q68 x115.ctors x115 (.f [5] [16] [0, 3, 5, 6] [0, 16] (fun (k149 : Nat) (s145 : (List Int)) => [(5, .sl 1 16 (s145).length), (6, eI (k149 : Int))]) (fun k149 s145 => [(16, some ⟨1, (List.map rI s145), 0, 0x0003⟩)]) (fun k149 s145 => .o (.j 7 0 [0, 3, 5, 6] [0, 1] (fun (s157 : (List Int)) => [(5, .sl 1 1 (s157).length)]) (fun s157 => [(1, some ⟨1, (List.map rI s157), 0, 0x0003⟩)]) (.g [0, 3, 5, 6] [0, 1] [] [] (.o (.d [0, 1, 2, 3, 4, 5, 6, 7, 8, 9, 10, 11] [0] [] .z))) (fun _ => .z))) (fun s153 => .z))))))
end Go.Proofs.YtbdkbdafhlcilaaGreat
set_option linter.unusedSimpArgs false
set_option linter.unusedVariables false
namespace Go.Proofs.YtbdkbdafhlcilaaGreat
open Go Go.RowKit
set_option maxRecDepth 100000
set_option maxHeartbeats 20000000
instance W5h : ∀ (n : Nat) (p0 : Int), Ct (Q8v n p0) fun res => Z0 Tryz.prog 0o00476 [(eI p0)] (fun d => d = (eS res)) :=
 au Tryz.func318 Q8v.eq_1 .z
end Go.Proofs.YtbdkbdafhlcilaaGreat
set_option linter.unusedSimpArgs false
set_option linter.unusedVariables false
namespace Go.Proofs.YtbdkbdafhlcilaaGreat
open Go Go.RowKit
set_option maxRecDepth 100000
set_option maxHeartbeats 20000000
instance W7r : ∀ (n : Nat) (p0 : X4) (p1 : X4), Ct (Q04 n p0 p1) fun res => Z0 Tryz.prog 0o00023 [(.agg (Q1g p0)), (.agg (Q1g p1))] (fun d => d = (eB res)) :=
 ar (au Tryz.func19 Q04.eq_2 (.o (.o (.b fun (p0 : X4) => .o (.i .z (.i .z (.o (.i .z (.i .z (.i .z (.i .z (.ls 32 (.f [2, 3] [0, 8] [2, 3, 5] [0, 8] (fun (k200 : Nat) (s196 : Unit) => [(5, eI (k200 : Int))]) (fun k200 s196 => []) (fun k200 s196 => .o (.g [2, 3, 5] [0, 1] [] [] (.o (.i (.d [0, 1, 2, 3, 4, 5, 6, 7, 8, 9, 10, 11, 12, 13, 14, 15, 16, 17, 18, 19, 20, 21, 22, 23, 24, 25, 26, 27, 28] [0, 1] [] .z) (.o (.d [0, 1, 2, 3, 4, 5, 6, 7, 8, 9, 10, 11, 12, 13, 14, 15, 16, 17, 18, 19, 20, 21, 22, 23, 24, 25, 26, 27, 28] [0, 1] [] .z)))))) (fun s204 => .lc 0 4 9 J4 p0.branches (.f [2, 3] [0, 1] [2, 3, 6] [0, 1] (fun (k410 : Nat) (s406 : Unit) => [(6, eI (k410 : Int))]) (fun k410 s406 => []) (fun k410 s406 => .z) (fun s414 => .lc 0 5 6 Q1g p0.else_ (.f [] [] [2, 3, 9] [0, 1] (fun (k508 : Nat) (s504 : Unit) => [(9, eI (k508 : Int))]) (fun k508 s504 => []) (fun k508 s504 => .o (.g [2, 3, 9] [0, 1] [] [] (.o (.o (.d [0, 1, 2, 3, 4, 5, 6, 7, 8, 9, 10, 11] [0, 1] [] .z))))) (fun s512 => .z))))))))))))))))))
end Go.Proofs.YtbdkbdafhlcilaaGreat
