import Derived.Test.YtbdkbdafhlcilaaGreatBJMir
import Derived.Test.YtbdkbdafhlcilaaGreatBJAuto
import Derived.Test.YtbdkbdafhlcilaaGreatBJC5d0
import Derived.Test.YtbdkbdafhlcilaaGreatBJC2a0
import Derived.Test.YtbdkbdafhlcilaaGreatBJC1a0
import Derived.Test.YtbdkbdafhlcilaaGreatBJC0b0
import Derived.Test.YtbdkbdafhlcilaaGreatBJC2c0
import Derived.Test.YtbdkbdafhlcilaaGreatBJC1c0
import Derived.Test.YtbdkbdafhlcilaaGreatBJC3b0
import Derived.Test.YtbdkbdafhlcilaaGreatBJC4a0
set_option linter.unusedSimpArgs false
set_option linter.unusedVariables false
set_option linter.unusedSimpArgs false
set_option linter.unusedVariables false
namespace Go.Proofs.YtbdkbdafhlcilaaGreat
open Go Go.RowKit
set_option maxRecDepth 100000
set_option maxHeartbeats 20000000
instance W2z : ∀ (n : Nat) (p0 : (List Q3)) (p1 : Q5) (p2 : Q6), Ct (Q3t n p0 p1 p2) fun res => Z1 Tryz.prog 0o00153 [(.slice 2 (List.map X9 p0)), (.agg (X7 p1)), (.agg (V0 p2))] (fun d => d = (eB res)) :=
 au Tryz.func107 Q3t.eq_1 .z
end Go.Proofs.YtbdkbdafhlcilaaGreat
set_option linter.unusedSimpArgs false
set_option linter.unusedVariables false
namespace Go.Proofs.YtbdkbdafhlcilaaGreat
open Go Go.RowKit
set_option maxRecDepth 100000
set_option maxHeartbeats 20000000
instance X30 : ∀ (n : Nat) (p0 : Q6) (q0 : (List Q3)) (q1 : Q5), Ct (Q36 n p0 q0 q1) fun res => Z1 Tryz.prog 0o00152 [(.agg (V0 p0)), .cptr [(.slice 2 (List.map X9 q0))], .cptr (X7 q1)] (fun d => d = (eB res)) :=
 au Tryz.func106 Q36.eq_1 .z
end Go.Proofs.YtbdkbdafhlcilaaGreat
set_option linter.unusedSimpArgs false
set_option linter.unusedVariables false
namespace Go.Proofs.YtbdkbdafhlcilaaGreat
open Go Go.RowKit
set_option maxRecDepth 100000
set_option maxHeartbeats 20000000
instance X56 : ∀ (n : Nat) (p0 : (List Q3)) (p1 : Q5) (p2 : (List Q6)), Ct (Q2l n p0 p1 p2) fun res => Z1 Tryz.prog 0o00062 [(.slice 2 (List.map X9 p0)), (.agg (X7 p1)), (.slice 9 (List.map V0 p2))] (fun d => d = (eB res)) :=
 au Tryz.func50 Q2l.eq_1 .z
end Go.Proofs.YtbdkbdafhlcilaaGreat
set_option linter.unusedSimpArgs false
set_option linter.unusedVariables false
namespace Go.Proofs.YtbdkbdafhlcilaaGreat
open Go Go.RowKit
set_option maxRecDepth 100000
set_option maxHeartbeats 20000000
instance X2z : ∀ (n : Nat) (p0 : (List Q3)) (p1 : Q5) (p2 : (List Q6)) (p3 : Int), Ct (W9 n p0 p1 p2 p3) fun res => Z1 Tryz.prog 0o00021 [(.slice 2 (List.map X9 p0)), (.agg (X7 p1)), (.slice 9 (List.map V0 p2)), (eI p3)] (fun d => d = .tup [(.agg (Q16 res.1)), (eB res.2)]) :=
 au Tryz.func17 W9.eq_1 (.o (.o (.o (.o (.o (.o (.i .z (.o (.i .z (.o (.i .z (.pN 12 3 0x0066 (.ls 33 (.f [0, 2, 3, 5, 8, 12] [0, 8, 208] [0, 2, 3, 5, 8, 12, 38, 39, 40] [0, 8, 208] (fun (k381 : Nat) (s377 : (List Grow)) => [(12, .sl 3 208 (s377).length), (40, eI (k381 : Int))]) (fun k381 s377 => [(208, some ⟨3, (List.map Q41 s377), 0, 0x0066⟩)]) (fun k381 s377 => .o (.ls 44 (.f [0, 2, 3, 5, 8, 12, 38, 39, 40] [0, 1, 2] [0, 2, 3, 5, 8, 12, 13, 38, 39, 40, 45, 46, 47] [0, 1, 2] (fun (k441 : Nat) (s437 : (List Grow)) => [(12, .sl 3 2 (s437).length), (47, eI (k441 : Int))]) (fun k441 s437 => [(2, some ⟨3, (List.map Q41 s437), 0, 0x0066⟩)]) (fun k441 s437 => .o (.o (.o (.pF 76 .z)))) (fun s445 => .z)))) (fun s385 => .z)))))))))))))))
end Go.Proofs.YtbdkbdafhlcilaaGreat
