import Derived.Test.YtbdkbdafhlcilaaGreatAJMir
import Derived.Test.YtbdkbdafhlcilaaGreatAJMb0
import Derived.Test.YtbdkbdafhlcilaaGreatAJAuto
import Derived.Test.YtbdkbdafhlcilaaGreatAJAuI
import Derived.Test.YtbdkbdafhlcilaaGreatAJAut
import Derived.Test.YtbdkbdafhlcilaaGreatAJZap
import Derived.Test.YtbdkbdafhlcilaaGreatAJZip
import Derived.Test.YtbdkbdafhlcilaaGreatAJDat
import Derived.Test.YtbdkbdafhlcilaaGreatAJE1
import Derived.Test.YtbdkbdafhlcilaaGreatAJE0
import Derived.Test.YtbdkbdafhlcilaaGreatAJTys
import Derived.Test.YtbdkbdafhlcilaaGreatProg
import Derived.Test.YtbdkbdafhlcilaaGreatAJC6c0
import Derived.Test.YtbdkbdafhlcilaaGreatAJC1a0
import Derived.Test.YtbdkbdafhlcilaaGreatAJC0b0
import Derived.Test.YtbdkbdafhlcilaaGreatAJC5d0
import Derived.Test.YtbdkbdafhlcilaaGreatAJC4b0
import Derived.Test.YtbdkbdafhlcilaaGreatAJC2b0
import Derived.Test.YtbdkbdafhlcilaaGreatAJC0a0
import Derived.Test.YtbdkbdafhlcilaaGreatAJC0d0
import Derived.Test.YtbdkbdafhlcilaaGreatAJC0c0
import Derived.Test.YtbdkbdafhlcilaaGreatAJC3c0
import Derived.Test.YtbdkbdafhlcilaaGreatAJC1c0
import Derived.Test.YtbdkbdafhlcilaaGreatAJC2c0
import Derived.Test.YtbdkbdafhlcilaaGreatAJC1b0
import Derived.Test.YtbdkbdafhlcilaaGreatAJC2d0
import Derived.Test.YtbdkbdafhlcilaaGreatAJC4c0
import Derived.Test.YtbdkbdafhlcilaaGreatAJC3a0
import Derived.Test.YtbdkbdafhlcilaaGreatAJC1d0
import Derived.Test.YtbdkbdafhlcilaaGreatAJC6d0
import Derived.Test.YtbdkbdafhlcilaaGreatAJC4d0
import Derived.Test.YtbdkbdafhlcilaaGreatAJC3b0
import Derived.Test.YtbdkbdafhlcilaaGreatAJC2a0
import Derived.Test.YtbdkbdafhlcilaaGreatAJC6a0
import Derived.Test.YtbdkbdafhlcilaaGreatAJC3d0
import Derived.Test.YtbdkbdafhlcilaaGreatAJC5a0
import Derived.Test.YtbdkbdafhlcilaaGreatAJC5c0
import Derived.Test.YtbdkbdafhlcilaaGreatAJC4a0
import Derived.Test.YtbdkbdafhlcilaaGreatAJC6b0
import Derived.Test.YtbdkbdafhlcilaaGreatAJC5b0
set_option linter.unusedSimpArgs false
set_option linter.unusedVariables false
set_option linter.unusedSimpArgs false
set_option linter.unusedVariables false
namespace Go.Proofs.YtbdkbdafhlcilaaGreat
open Go Go.RowKit
set_option maxRecDepth 100000
set_option maxHeartbeats 20000000
instance X1x : ∀ (n : Nat) (p0 : (List Q3)) (p1 : Q2) (p2 : (List Q6)), Ct (Q1l n p0 p1 p2) fun res => Z0 Tryz.prog 0o00101 [(.slice 2 (List.map W3 p0)), (.agg (X0 p1)), (.slice 9 (List.map W6 p2))] (fun d => d = .tup [(.slice 6 (List.map Q1 res.1)), (eB res.2)]) :=
 au Tryz.func65 Q1l.eq_1 (.o (.o (.o (.o (.o (.i .z (.o (.i .z (.o (.g [4, 8, 10] [0] [] [] (.o (.o (.d [0, 1, 4, 2, 3, 5, 6, 7, 8, 9, 10] [0] [] .z)))))))))))))
end Go.Proofs.YtbdkbdafhlcilaaGreat
set_option linter.unusedSimpArgs false
set_option linter.unusedVariables false
namespace Go.Proofs.YtbdkbdafhlcilaaGreat
open Go Go.RowKit
set_option maxRecDepth 100000
set_option maxHeartbeats 20000000
instance X9o : ∀ (n : Nat) (p0 : (List Q3)) (p1 : Q2) (p2 : (List Q6)), Ct (Q40 n p0 p1 p2) fun res => Z0 Tryz.prog 0o00024 [(.slice 2 (List.map W3 p0)), (.agg (X0 p1)), (.slice 9 (List.map W6 p2))] (fun d => d = .tup [(eB res.1), (eB res.2)]) :=
 au Tryz.func20 Q40.eq_1 .z
end Go.Proofs.YtbdkbdafhlcilaaGreat
set_option linter.unusedSimpArgs false
set_option linter.unusedVariables false
namespace Go.Proofs.YtbdkbdafhlcilaaGreat
open Go Go.RowKit
set_option maxRecDepth 100000
set_option maxHeartbeats 20000000
instance W5l : ∀ (n : Nat) (p0 : X4), Ct (Q3n n p0) fun res => Z0 Tryz.prog 0o00026 [(.agg (Q1g p0))] (fun d => d = (eB res)) :=
 ar (au Tryz.func22 Q3n.eq_2 (.o (.o (.b fun (p0 : X4) => .i .z (.lc 0 4 9 J4 p0.branches (.f [1] [0] [1, 3] [0] (fun (k56 : Nat) (s52 : Unit) => [(3, eI (k56 : Int))]) (fun k56 s52 => []) (fun k56 s52 => .z) (fun s60 => .lc 0 5 6 Q1g p0.else_ (.f [] [] [1, 4] [0] (fun (k118 : Nat) (s114 : Unit) => [(4, eI (k118 : Int))]) (fun k118 s114 => []) (fun k118 s114 => .z) (fun s122 => .z)))))))))
end Go.Proofs.YtbdkbdafhlcilaaGreat
set_option linter.unusedSimpArgs false
set_option linter.unusedVariables false
namespace Go.Proofs.YtbdkbdafhlcilaaGreat
open Go Go.RowKit
set_option maxRecDepth 100000
set_option maxHeartbeats 20000000
instance Z4h : ∀ (n : Nat) (p0 : (List Int)), Ct (Q2j n p0) fun res => Z0 Tryz.prog 0o00004 [(.slice 1 (List.map (rK .u8) p0))] (fun d => d = (eB res)) :=
 au Tryz.func4 Q2j.eq_1 .z
theorem Z4v (n : Nat) (p0 : (List Int)) : ∀ res, Q2j n p0 = some res → Z0 Tryz.prog 0o00004 [(.slice 1 (List.map (rK .u8) p0))] (fun d => d = (eB res)) := (Z4h n p0).pf
end Go.Proofs.YtbdkbdafhlcilaaGreat
