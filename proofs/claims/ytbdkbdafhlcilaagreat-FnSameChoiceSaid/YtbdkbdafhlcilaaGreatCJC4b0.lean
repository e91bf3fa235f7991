import Derived.Test.YtbdkbdafhlcilaaGreatCJMir
import Derived.Test.YtbdkbdafhlcilaaGreatCJAuto
import Derived.Test.YtbdkbdafhlcilaaGreatCJC0a0
import Derived.Test.YtbdkbdafhlcilaaGreatCJC3b0
import Derived.Test.YtbdkbdafhlcilaaGreatCJC3d0
import Derived.Test.YtbdkbdafhlcilaaGreatCJC1b0
set_option linter.unusedSimpArgs false
set_option linter.unusedVariables false
set_option linter.unusedSimpArgs false
set_option linter.unusedVariables false
namespace Go.Proofs.YtbdkbdafhlcilaaGreat
open Go Go.RowKit
set_option maxRecDepth 100000
set_option maxHeartbeats 20000000
instance X9r : ∀ (n : Nat) (p0 : (List Q3)), Ct (Q48 n p0) fun res => Q7 Tryz.prog 0o00250 [(.slice 2 (List.map X2 p0))] (fun d => d = (eB res)) :=
 au Tryz.func168 Q48.eq_1 (.o (.o (.i .z (.ls 0 (.f [] [] [0, 3, 4, 14, 15, 16] [32, 48] (fun (k1660 : Nat) (s1656 : (List (ByteArray × Bool)) × (List (ByteArray × Bool))) => [(16, eI (k1660 : Int))]) (fun k1660 s1656 => [(32, some ⟨0, List.map rSB s1656.1, 0, 0x011a⟩), (48, some ⟨0, List.map rSB s1656.2, 0, 0x011a⟩)]) (fun k1660 s1656 => .o (.i .z (.o (.i .z (.i .z (.i .z (.i .z (.o (.i .z (.ls 49 (.f [0, 3, 4, 14, 15, 16] [0, 1] [0, 3, 4, 14, 15, 16, 58, 59, 60] [0, 1] (fun (k1952 : Nat) (s1948 : (List (ByteArray × Bool))) => [(60, eI (k1952 : Int))]) (fun k1952 s1948 => [(0, some ⟨0, List.map rSB s1948, 0, 0x011a⟩)]) (fun k1952 s1948 => .z) (fun s1956 => .z)))))))))))) (fun s1664 => .z))))))
end Go.Proofs.YtbdkbdafhlcilaaGreat
set_option linter.unusedSimpArgs false
set_option linter.unusedVariables false
namespace Go.Proofs.YtbdkbdafhlcilaaGreat
open Go Go.RowKit
set_option maxRecDepth 100000
set_option maxHeartbeats 20000000
instance W0v : ∀ (n : Nat) (p0 : (List Q3)) (p1 : Q2), Ct (Q4o n p0 p1) fun res => Q7 Tryz.prog 0o00157 [(.slice 2 (List.map X2 p0)), (.agg (Z6 p1))] (fun d => d = (eB res)) :=
 au Tryz.func111 Q4o.eq_1 .z
end Go.Proofs.YtbdkbdafhlcilaaGreat
