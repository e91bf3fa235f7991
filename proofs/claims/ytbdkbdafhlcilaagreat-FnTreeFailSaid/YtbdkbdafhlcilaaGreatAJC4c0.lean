import Derived.Test.YtbdkbdafhlcilaaGreatAJMir
import Derived.Test.YtbdkbdafhlcilaaGreatAJAuto
import Derived.Test.YtbdkbdafhlcilaaGreatAJC0d0
import Derived.Test.YtbdkbdafhlcilaaGreatAJC3a0
import Derived.Test.YtbdkbdafhlcilaaGreatAJC1a0
import Derived.Test.YtbdkbdafhlcilaaGreatAJC2a0
import Derived.Test.YtbdkbdafhlcilaaGreatAJC3d0
import Derived.Test.YtbdkbdafhlcilaaGreatAJC2d0
set_option linter.unusedSimpArgs false
set_option linter.unusedVariables false
set_option linter.unusedSimpArgs false
set_option linter.unusedVariables false
namespace Go.Proofs.YtbdkbdafhlcilaaGreat
open Go Go.RowKit
set_option maxRecDepth 100000
set_option maxHeartbeats 20000000
instance X9l : ∀ (n : Nat) (p0 : (List Q3)), Ct (Q3y n p0) fun res => Z0 Tryz.prog 0o00250 [(.slice 2 (List.map W3 p0))] (fun d => d = (eB res)) :=
 au Tryz.func168 Q3y.eq_1 (.o (.o (.i .z (.ls 0 (.f [] [] [0, 3, 4, 14, 15, 16] [32, 48] (fun (k1660 : Nat) (s1656 : (List (ByteArray × Bool)) × (List (ByteArray × Bool))) => [(16, eI (k1660 : Int))]) (fun k1660 s1656 => [(32, some ⟨0, List.map rSB s1656.1, 0, 0x011a⟩), (48, some ⟨0, List.map rSB s1656.2, 0, 0x011a⟩)]) (fun k1660 s1656 => .o (.i .z (.o (.i .z (.i .z (.i .z (.i .z (.o (.i .z (.ls 49 (.f [0, 3, 4, 14, 15, 16] [0, 1] [0, 3, 4, 14, 15, 16, 58, 59, 60] [0, 1] (fun (k1952 : Nat) (s1948 : (List (ByteArray × Bool))) => [(60, eI (k1952 : Int))]) (fun k1952 s1948 => [(0, some ⟨0, List.map rSB s1948, 0, 0x011a⟩)]) (fun k1952 s1948 => .z) (fun s1956 => .z)))))))))))) (fun s1664 => .z))))))
end Go.Proofs.YtbdkbdafhlcilaaGreat
set_option linter.unusedSimpArgs false
set_option linter.unusedVariables false
namespace Go.Proofs.YtbdkbdafhlcilaaGreat
open Go Go.RowKit
set_option maxRecDepth 100000
set_option maxHeartbeats 20000000
instance W76 : ∀ (n : Nat) (p0 : (List Q3)) (p1 : Y2) (p2 : (List V1)) (p3 : Int), Ct (Q31 n p0 p1 p2 p3) fun res => Z0 Tryz.prog 0o00327 [(.slice 2 (List.map W3 p0)), (.agg (Q1n p1)), (.slice 3 (List.map Q1w p2)), (eI p3)] (fun d => d = (.slice 9 (List.map J4 res))) :=
 au Tryz.func215 Q31.eq_1 (.o (.o (.o (.o (.o (.i (.o (.o (.ls 25 (.f [9] [16] [0, 5, 9, 10, 11, 12] [0, 16] (fun (k203 : Nat) (s199 : (List Z1)) => [(9, .sl 9 16 (s199).length), (12, eI (k203 : Int))]) (fun k203 s199 => [(16, some ⟨9, (List.map J4 s199), 0, 0x0075⟩)]) (fun k203 s199 => .o (.j 8 0 [0, 5, 9, 10, 11, 12] [0, 1] (fun (s212 : (List Z1)) => [(9, .sl 9 1 (s212).length)]) (fun s212 => [(1, some ⟨9, (List.map J4 s212), 0, 0x0075⟩)]) (.g [0, 5, 9, 10, 11, 12] [0, 1] [] [] (.o (.o (.d [0, 1, 2, 3, 4, 5, 6, 7, 8, 9, 10, 11, 12] [0] [] .z)))) (fun _ => .z))) (fun s207 => .z))))) (.w [9] [16] [2, 3, 9, 13, 14] [16] (fun (s381 : (List Z1) × Int × Int) => [(9, .sl 9 16 (s381.1).length), (13, eI s381.2.1), (14, eI s381.2.2)]) (fun s381 => [(16, some ⟨9, (List.map J4 s381.1), 0, 0x0075⟩)]) (fun s381 => .i (.j 15 0 [2, 3, 9, 13, 14] [0] (fun (s404 : (List Z1) × Int) => [(9, .sl 9 0 (s404.1).length), (13, eI s404.2)]) (fun s404 => [(0, some ⟨9, (List.map J4 s404.1), 0, 0x0075⟩)]) .z (fun _ => .z)) .z) (fun s389 => .z))))))))
end Go.Proofs.YtbdkbdafhlcilaaGreat
