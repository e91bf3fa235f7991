import Derived.Test.YtbdkbdafhlcilaaGreatCJMir
import Derived.Test.YtbdkbdafhlcilaaGreatCJAuto
import Derived.Test.YtbdkbdafhlcilaaGreatCJC1b0
import Derived.Test.YtbdkbdafhlcilaaGreatCJC2b0
import Derived.Test.YtbdkbdafhlcilaaGreatCJC2a0
import Derived.Test.YtbdkbdafhlcilaaGreatCJC0a0
import Derived.Test.YtbdkbdafhlcilaaGreatCJC1a0
import Derived.Test.YtbdkbdafhlcilaaGreatCJC1d0
import Derived.Test.YtbdkbdafhlcilaaGreatCJC2d0
import Derived.Test.YtbdkbdafhlcilaaGreatCJC0d0
set_option linter.unusedSimpArgs false
set_option linter.unusedVariables false
set_option linter.unusedSimpArgs false
set_option linter.unusedVariables false
namespace Go.Proofs.YtbdkbdafhlcilaaGreat
open Go Go.RowKit
set_option maxRecDepth 100000
set_option maxHeartbeats 20000000
instance W5l : ∀ (n : Nat) (p0 : (List Q3)), Ct (Q1c n p0) fun res => Q7 Tryz.prog 0o00060 [(.slice 2 (List.map X2 p0))] (fun d => d = (.slice 1 (List.map rI res))) :=
 au Tryz.func48 Q1c.eq_1 (.o (.o (.o (.w [3] [32] [0, 3, 4] [32] (fun (s7767 : (List Int) × Int) => [(3, .sl 1 32 (s7767.1).length), (4, eI s7767.2)]) (fun s7767 => [(32, some ⟨1, (List.map rI s7767.1), 0, 0x0003⟩)]) (fun s7767 => .i (.w [0, 3, 4] [0] [0, 3, 4, 5] [0] (fun (s9063 : (List Int) × Int) => [(3, .sl 1 0 (s9063.1).length), (5, eI s9063.2)]) (fun s9063 => [(0, some ⟨1, (List.map rI s9063.1), 0, 0x0003⟩)]) (fun s9063 => .i (.o (.ls 33 (.f [0, 3, 4, 5] [0] [0, 3, 4, 5, 6, 7, 8] [0, 73] (fun (k9286 : Nat) (s9282 : (List Int)) => [(3, .sl 1 0 (s9282).length), (8, eI (k9286 : Int))]) (fun k9286 s9282 => [(0, some ⟨1, (List.map rI s9282), 0, 0x0003⟩)]) (fun k9286 s9282 => .o (.j 13 0 [0, 3, 4, 5, 6, 7, 8] [0, 1] (fun (s9307 : (List Int)) => [(3, .sl 1 0 (s9307).length)]) (fun s9307 => [(0, some ⟨1, (List.map rI s9307), 0, 0x0003⟩)]) (.g [0, 3, 4, 5, 6, 7, 8] [0, 1] [] [] (.o (.d [0, 1, 2, 3, 4, 5, 6, 7, 8] [1] [] .z))) (fun _ => .z))) (fun s9290 => .z)))) .z) (fun s9071 => .z)) .z) (fun s7775 => .z)))))
end Go.Proofs.YtbdkbdafhlcilaaGreat
set_option linter.unusedSimpArgs false
set_option linter.unusedVariables false
namespace Go.Proofs.YtbdkbdafhlcilaaGreat
open Go Go.RowKit
set_option maxRecDepth 100000
set_option maxHeartbeats 20000000
instance W83 : ∀ (n : Nat) (p0 : (List Q3)) (p1 : Q7d), Ct (Q9t n p0 p1) fun res => Q7 Tryz.prog 0o00345 [(.slice 2 (List.map X2 p0)), (.agg (Q6i p1))] (fun d => d = (eB res)) :=
 au Tryz.func229 Q9t.eq_1 .z
end Go.Proofs.YtbdkbdafhlcilaaGreat
set_option linter.unusedSimpArgs false
set_option linter.unusedVariables false
namespace Go.Proofs.YtbdkbdafhlcilaaGreat
open Go Go.RowKit
set_option maxRecDepth 100000
set_option maxHeartbeats 20000000
instance W5v : ∀ (n : Nat) (p0 : Q0) (p1 : Q4), Ct (Q4w n p0 p1) fun res => Q7 Tryz.prog 0o00155 [(.agg (Q1 p0)), (.agg (W3 p1))] (fun d => d = .tup [(.slice 4 (List.map Q0w res.1)), (eB res.2)]) :=
 au Tryz.func109 Q4w.eq_1 (.o (.o (.o (.o (.i .z (.o (.o (.ll 49 (.f [6] [49] [6, 20, 21, 22] [49] (fun (k63 : Nat) (s59 : (List X3)) => [(6, .sl 4 49 (s59).length), (20, .sl 4 49 (s59).length), (22, eI (k63 : Int))]) (fun k63 s59 => [(49, some ⟨4, (List.map Q0w s59), 0, 0x0097⟩)]) (fun k63 s59 => .z) (fun s67 => .z))))))))))
end Go.Proofs.YtbdkbdafhlcilaaGreat
set_option linter.unusedSimpArgs false
set_option linter.unusedVariables false
namespace Go.Proofs.YtbdkbdafhlcilaaGreat
open Go Go.RowKit
set_option maxRecDepth 100000
set_option maxHeartbeats 20000000
instance W3o : ∀ (p0 : (List Q3)) (p1 : Q2) (p2 : Q0), Ct (Q57 p0 p1 p2) fun res => Q7 Tryz.prog 0o00341 [(.slice 2 (List.map X2 p0)), (.agg (Z6 p1)), (.agg (Q1 p2))] (fun d => d = (.slice 2 (List.map Z6 res))) :=
 au Tryz.func225 Q57.eq_1 .z
end Go.Proofs.YtbdkbdafhlcilaaGreat
