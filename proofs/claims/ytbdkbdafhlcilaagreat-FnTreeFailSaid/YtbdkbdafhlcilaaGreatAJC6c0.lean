import Derived.Test.YtbdkbdafhlcilaaGreatAJMir
import Derived.Test.YtbdkbdafhlcilaaGreatAJAuto
import Derived.Test.YtbdkbdafhlcilaaGreatAJC5d0
import Derived.Test.YtbdkbdafhlcilaaGreatAJC2d0
import Derived.Test.YtbdkbdafhlcilaaGreatAJC1a0
import Derived.Test.YtbdkbdafhlcilaaGreatAJC0d0
import Derived.Test.YtbdkbdafhlcilaaGreatAJC2c0
import Derived.Test.YtbdkbdafhlcilaaGreatAJC1d0
import Derived.Test.YtbdkbdafhlcilaaGreatAJC3c0
import Derived.Test.YtbdkbdafhlcilaaGreatAJC4a0
set_option linter.unusedSimpArgs false
set_option linter.unusedVariables false
set_option linter.unusedSimpArgs false
set_option linter.unusedVariables false
namespace Go.Proofs.YtbdkbdafhlcilaaGreat
open Go Go.RowKit
set_option maxRecDepth 100000
set_option maxHeartbeats 20000000
instance W3j : ∀ (n : Nat) (p0 : (List Q3)) (p1 : Q2) (p2 : Q6), Ct (Q3x n p0 p1 p2) fun res => Z0 Tryz.prog 0o00153 [(.slice 2 (List.map W3 p0)), (.agg (X0 p1)), (.agg (W6 p2))] (fun d => d = (eB res)) :=
 au Tryz.func107 Q3x.eq_1 .z
end Go.Proofs.YtbdkbdafhlcilaaGreat
set_option linter.unusedSimpArgs false
set_option linter.unusedVariables false
namespace Go.Proofs.YtbdkbdafhlcilaaGreat
open Go Go.RowKit
set_option maxRecDepth 100000
set_option maxHeartbeats 20000000
instance X3o : ∀ (n : Nat) (p0 : Q6) (q0 : (List Q3)) (q1 : Q2), Ct (Q36 n p0 q0 q1) fun res => Z0 Tryz.prog 0o00152 [(.agg (W6 p0)), .cptr [(.slice 2 (List.map W3 q0))], .cptr (X0 q1)] (fun d => d = (eB res)) :=
 au Tryz.func106 Q36.eq_1 .z
end Go.Proofs.YtbdkbdafhlcilaaGreat
set_option linter.unusedSimpArgs false
set_option linter.unusedVariables false
namespace Go.Proofs.YtbdkbdafhlcilaaGreat
open Go Go.RowKit
set_option maxRecDepth 100000
set_option maxHeartbeats 20000000
instance X5z : ∀ (n : Nat) (p0 : (List Q3)) (p1 : Q2) (p2 : (List Q6)), Ct (Q0j n p0 p1 p2) fun res => Z0 Tryz.prog 0o00062 [(.slice 2 (List.map W3 p0)), (.agg (X0 p1)), (.slice 9 (List.map W6 p2))] (fun d => d = (eB res)) :=
 au Tryz.func50 Q0j.eq_1 .z
end Go.Proofs.YtbdkbdafhlcilaaGreat
set_option linter.unusedSimpArgs false
set_option linter.unusedVariables false
namespace Go.Proofs.YtbdkbdafhlcilaaGreat
open Go Go.RowKit
set_option maxRecDepth 100000
set_option maxHeartbeats 20000000
instance X3n : ∀ (n : Nat) (p0 : (List Q3)) (p1 : Q2) (p2 : (List Q6)) (p3 : Int), Ct (W8 n p0 p1 p2 p3) fun res => Z0 Tryz.prog 0o00021 [(.slice 2 (List.map W3 p0)), (.agg (X0 p1)), (.slice 9 (List.map W6 p2)), (eI p3)] (fun d => d = .tup [(.agg (Q1g res.1)), (eB res.2)]) :=
 au Tryz.func17 W8.eq_1 (.o (.o (.o (.o (.o (.o (.i .z (.o (.i .z (.o (.i .z (.pN 12 3 0x0066 (.ls 33 (.f [0, 2, 3, 5, 8, 12] [0, 8, 208] [0, 2, 3, 5, 8, 12, 38, 39, 40] [0, 8, 208] (fun (k381 : Nat) (s377 : (List Grow)) => [(12, .sl 3 208 (s377).length), (40, eI (k381 : Int))]) (fun k381 s377 => [(208, some ⟨3, (List.map Q47 s377), 0, 0x0066⟩)]) (fun k381 s377 => .o (.ls 44 (.f [0, 2, 3, 5, 8, 12, 38, 39, 40] [0, 1, 2] [0, 2, 3, 5, 8, 12, 13, 38, 39, 40, 45, 46, 47] [0, 1, 2] (fun (k441 : Nat) (s437 : (List Grow)) => [(12, .sl 3 2 (s437).length), (47, eI (k441 : Int))]) (fun k441 s437 => [(2, some ⟨3, (List.map Q47 s437), 0, 0x0066⟩)]) (fun k441 s437 => .o (.o (.o (.pF 76 .z)))) (fun s445 => .z)))) (fun s385 => .z)))))))))))))))
end Go.Proofs.YtbdkbdafhlcilaaGreat
