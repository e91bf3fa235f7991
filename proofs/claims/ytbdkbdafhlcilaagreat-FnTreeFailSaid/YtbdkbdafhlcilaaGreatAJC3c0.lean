import Derived.Test.YtbdkbdafhlcilaaGreatAJMir
import Derived.Test.YtbdkbdafhlcilaaGreatAJAuto
import Derived.Test.YtbdkbdafhlcilaaGreatAJC1c0
import Derived.Test.YtbdkbdafhlcilaaGreatAJC2c0
import Derived.Test.YtbdkbdafhlcilaaGreatAJC2b0
import Derived.Test.YtbdkbdafhlcilaaGreatAJC2d0
set_option linter.unusedSimpArgs false
set_option linter.unusedVariables false
set_option linter.unusedSimpArgs false
set_option linter.unusedVariables false
namespace Go.Proofs.YtbdkbdafhlcilaaGreat
open Go Go.RowKit
set_option maxRecDepth 100000
set_option maxHeartbeats 20000000
instance W3c : ∀ (p0 : (List Q8)) (p1 : (List Q8)), Ct (Q4w p0 p1) fun res => Z0 Tryz.prog 0o00415 [(.slice 3 (List.map V3 p0)), (.slice 3 (List.map V3 p1))] (fun d => d = (eB res)) :=
 au Tryz.func269 Q4w.eq_1 .z
end Go.Proofs.YtbdkbdafhlcilaaGreat
set_option linter.unusedSimpArgs false
set_option linter.unusedVariables false
namespace Go.Proofs.YtbdkbdafhlcilaaGreat
open Go Go.RowKit
set_option maxRecDepth 100000
set_option maxHeartbeats 20000000
instance W3i : ∀ (n : Nat) (p0 : (List Q6)), Ct (Q3w n p0) fun res => Z0 Tryz.prog 0o00167 [(.slice 9 (List.map W6 p0))] (fun d => d = .tup [(.slice 6 (List.map Q1 res.1)), (eB res.2)]) :=
 au Tryz.func119 Q3w.eq_1 (.o (.o (.pN 4 6 0x0064 (.ls 0 (.f [4] [48] [4, 9, 10, 11] [48] (fun (k111 : Nat) (s107 : (List Q0)) => [(4, .sl 6 48 (s107).length), (11, eI (k111 : Int))]) (fun k111 s107 => [(48, some ⟨6, (List.map Q1 s107), 0, 0x0064⟩)]) (fun k111 s107 => .o (.j 4 0 [4, 9, 10, 11] [0] (fun (s122 : (List Q0)) => [(4, .sl 6 0 (s122).length)]) (fun s122 => [(0, some ⟨6, (List.map Q1 s122), 0, 0x0064⟩)]) .z (fun _ => .z))) (fun s115 => .z))))))
end Go.Proofs.YtbdkbdafhlcilaaGreat
set_option linter.unusedSimpArgs false
set_option linter.unusedVariables false
namespace Go.Proofs.YtbdkbdafhlcilaaGreat
open Go Go.RowKit
set_option maxRecDepth 100000
set_option maxHeartbeats 20000000
instance W0w : ∀ (n : Nat) (p0 : (List Q3)), Ct (Q27 n p0) fun res => Z0 Tryz.prog 0o00075 [(.slice 2 (List.map W3 p0))] (fun d => d = .cptr (Q20 res)) :=
 au Tryz.func61 Q27.eq_1 .z
end Go.Proofs.YtbdkbdafhlcilaaGreat
set_option linter.unusedSimpArgs false
set_option linter.unusedVariables false
namespace Go.Proofs.YtbdkbdafhlcilaaGreat
open Go Go.RowKit
set_option maxRecDepth 100000
set_option maxHeartbeats 20000000
instance W79 : ∀ (n : Nat) (p0 : (List Q8)) (p1 : (List Q3)) (p2 : Q2) (p3 : Q0), Ct (Q0y n p0 p1 p2 p3) fun res => J1 Tryz.prog 0o00303 [⟨3, List.map V3 p0, 0, 0x0122⟩] [.sl 3 0 p0.length, (.slice 2 (List.map W3 p1)), (.agg (X0 p2)), (.agg (Q1 p3))] (fun H d => H = [none, some ⟨3, List.map V3 res, 0, 0x0122⟩] ∧ d = .sl 3 1 res.length) :=
 ar (au Tryz.func195 Q0y.eq_2 (.o (.o (.o (.o (.o (.o (.j 1 0 [0, 1, 6, 7] [0, 9000, 1, 9] (fun (s10 : (List Q8)) => [(0, .sl 3 9000 (s10).length)]) (fun s10 => [(0, none), (9000, some ⟨3, (List.map V3 s10), 0, 0x0122⟩)]) (.i .z (.i .z (.pM 0 .z))) (fun s10 => .o (.ls 29 (.f [0] [0, 1] [0, 1, 7, 9, 10] [0, 1, 3] (fun (k159 : Nat) (s155 : (List Q8)) => [(0, .sl 3 1 (s155).length), (10, eI (k159 : Int))]) (fun k159 s155 => [(0, none), (1, some ⟨3, (List.map V3 s155), 0, 0x0122⟩)]) (fun k159 s155 => .o (.j 5 0 [0, 1, 7, 9, 10] [0, 1, 2] (fun (s169 : Unit) => []) (fun _ => [(0, none)]) .z (fun _ => .g [0, 1, 7, 9, 10] [0, 1, 2] [] [(0, none)] (.o (.o (.d [0, 1, 2, 3, 4, 5, 6, 7, 8, 9, 10, 11, 12] [2] [] .z)))))) (fun s163 => .z))))))))))))
end Go.Proofs.YtbdkbdafhlcilaaGreat
set_option linter.unusedSimpArgs false
set_option linter.unusedVariables false
namespace Go.Proofs.YtbdkbdafhlcilaaGreat
open Go Go.RowKit
set_option maxRecDepth 100000
set_option maxHeartbeats 20000000
instance X0z : ∀ (n : Nat) (p0 : Z7) (p1 : (List Grow)) (p2 : (List Z3)), Ct (Q05 n p0 p1 p2) fun res => J1 Tryz.prog 0o00202 [⟨4, [(V8 p0)], 0, 0x006c⟩] [.ptr 4 0 0 0, (.slice 3 (List.map Q47 p1)), (.slice 3 (List.map Q1b p2))] (fun H d => H = [some ⟨4, [(V8 res.2)], 0, 0x006c⟩] ∧ d = (eI res.1)) :=
 au Tryz.func130 Q05.eq_1 (.o (.o (.o (.o (.ls 2 (.f [7] [0] [0, 1, 2, 7, 8, 14, 15] [0] (fun (k887 : Nat) (s883 : Z7 × Int × Int) => [(7, eI s883.2.1), (8, eI s883.2.2), (15, eI (k887 : Int))]) (fun k887 s883 => [(0, some ⟨4, [(V8 s883.1)], 0, 0x006c⟩)]) (fun k887 s883 => .o (.j 4 0 [0, 1, 2, 7, 8, 14, 15] [0] (fun (s976 : Z7 × Int × Int) => [(7, eI s976.2.1), (8, eI s976.2.2)]) (fun s976 => [(0, some ⟨4, [(V8 s976.1)], 0, 0x006c⟩)]) (.o (.o (.i .z (.j 7 0 [0, 1, 2, 7, 8, 9, 10, 14, 15] [0] (fun (s1020 : Z7 × Int) => [(10, eI s1020.2)]) (fun s1020 => [(0, some ⟨4, [(V8 s1020.1)], 0, 0x006c⟩)]) (.i (.ls 1 (.f [0, 1, 2, 7, 8, 9, 10, 14, 15] [0] [0, 1, 2, 7, 8, 9, 10, 14, 15, 33, 34, 35] [0] (fun (k1044 : Nat) (s1040 : Int) => [(10, eI s1040), (35, eI (k1044 : Int))]) (fun k1044 s1040 => []) (fun k1044 s1040 => .o (.j 11 0 [0, 1, 2, 7, 8, 9, 10, 14, 15, 33, 34, 35] [0] (fun (s1051 : Int) => [(10, eI s1051)]) (fun _ => []) .z (fun _ => .z))) (fun s1048 => .z))) .z) (fun _ => .z))))) (fun _ => .z))) (fun s891 => .z)))))))
end Go.Proofs.YtbdkbdafhlcilaaGreat
