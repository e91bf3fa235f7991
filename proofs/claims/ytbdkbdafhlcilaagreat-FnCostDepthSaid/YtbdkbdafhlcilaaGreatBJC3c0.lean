import Derived.Test.YtbdkbdafhlcilaaGreatBJMir
import Derived.Test.YtbdkbdafhlcilaaGreatBJAuto
import Derived.Test.YtbdkbdafhlcilaaGreatBJC2c0
import Derived.Test.YtbdkbdafhlcilaaGreatBJC0b0
import Derived.Test.YtbdkbdafhlcilaaGreatBJC1b0
import Derived.Test.YtbdkbdafhlcilaaGreatBJC2b0
import Derived.Test.YtbdkbdafhlcilaaGreatBJC2d0
import Derived.Test.YtbdkbdafhlcilaaGreatBJC0c0
set_option linter.unusedSimpArgs false
set_option linter.unusedVariables false
set_option linter.unusedSimpArgs false
set_option linter.unusedVariables false
namespace Go.Proofs.YtbdkbdafhlcilaaGreat
open Go Go.RowKit
set_option maxRecDepth 100000
set_option maxHeartbeats 20000000
instance W7j : ∀ (n : Nat) (p0 : (List Q3)) (p1 : Q70), Ct (Q9d n p0 p1) fun res => Z1 Tryz.prog 0o00345 [(.slice 2 (List.map X9 p0)), (.agg (Q61 p1))] (fun d => d = (eB res)) :=
 au Tryz.func229 Q9d.eq_1 .z
end Go.Proofs.YtbdkbdafhlcilaaGreat
set_option linter.unusedSimpArgs false
set_option linter.unusedVariables false
namespace Go.Proofs.YtbdkbdafhlcilaaGreat
open Go Go.RowKit
set_option maxRecDepth 100000
set_option maxHeartbeats 20000000
instance X0j : ∀ (n : Nat) (p0 : Z8) (p1 : (List Grow)) (p2 : (List Z6)), Ct (Q0a n p0 p1 p2) fun res => J8 Tryz.prog 0o00202 [⟨4, [(Y1 p0)], 0, 0x006c⟩] [.ptr 4 0 0 0, (.slice 3 (List.map Q41 p1)), (.slice 3 (List.map Q15 p2))] (fun H d => H = [some ⟨4, [(Y1 res.2)], 0, 0x006c⟩] ∧ d = (eI res.1)) :=
 au Tryz.func130 Q0a.eq_1 (.o (.o (.o (.o (.ls 2 (.f [7] [0] [0, 1, 2, 7, 8, 14, 15] [0] (fun (k887 : Nat) (s883 : Z8 × Int × Int) => [(7, eI s883.2.1), (8, eI s883.2.2), (15, eI (k887 : Int))]) (fun k887 s883 => [(0, some ⟨4, [(Y1 s883.1)], 0, 0x006c⟩)]) (fun k887 s883 => .o (.j 4 0 [0, 1, 2, 7, 8, 14, 15] [0] (fun (s976 : Z8 × Int × Int) => [(7, eI s976.2.1), (8, eI s976.2.2)]) (fun s976 => [(0, some ⟨4, [(Y1 s976.1)], 0, 0x006c⟩)]) (.o (.o (.i .z (.j 7 0 [0, 1, 2, 7, 8, 9, 10, 14, 15] [0] (fun (s1020 : Z8 × Int) => [(10, eI s1020.2)]) (fun s1020 => [(0, some ⟨4, [(Y1 s1020.1)], 0, 0x006c⟩)]) (.i (.ls 1 (.f [0, 1, 2, 7, 8, 9, 10, 14, 15] [0] [0, 1, 2, 7, 8, 9, 10, 14, 15, 33, 34, 35] [0] (fun (k1044 : Nat) (s1040 : Int) => [(10, eI s1040), (35, eI (k1044 : Int))]) (fun k1044 s1040 => []) (fun k1044 s1040 => .o (.j 11 0 [0, 1, 2, 7, 8, 9, 10, 14, 15, 33, 34, 35] [0] (fun (s1051 : Int) => [(10, eI s1051)]) (fun _ => []) .z (fun _ => .z))) (fun s1048 => .z))) .z) (fun _ => .z))))) (fun _ => .z))) (fun s891 => .z)))))))
end Go.Proofs.YtbdkbdafhlcilaaGreat
set_option linter.unusedSimpArgs false
set_option linter.unusedVariables false
namespace Go.Proofs.YtbdkbdafhlcilaaGreat
open Go Go.RowKit
set_option maxRecDepth 100000
set_option maxHeartbeats 20000000
instance W6v : ∀ (n : Nat) (p0 : (List Q9)) (p1 : (List Q3)) (p2 : Q5) (p3 : Q0), Ct (Q0y n p0 p1 p2 p3) fun res => J8 Tryz.prog 0o00303 [⟨3, List.map V5 p0, 0, 0x0122⟩] [.sl 3 0 p0.length, (.slice 2 (List.map X9 p1)), (.agg (X7 p2)), (.agg (Q8 p3))] (fun H d => H = [none, some ⟨3, List.map V5 res, 0, 0x0122⟩] ∧ d = .sl 3 1 res.length) :=
 ar (au Tryz.func195 Q0y.eq_2 (.o (.o (.o (.o (.o (.o (.j 1 0 [0, 1, 6, 7] [0, 9000, 1, 9] (fun (s10 : (List Q9)) => [(0, .sl 3 9000 (s10).length)]) (fun s10 => [(0, none), (9000, some ⟨3, (List.map V5 s10), 0, 0x0122⟩)]) (.i .z (.i .z (.pM 0 .z))) (fun s10 => .o (.ls 29 (.f [0] [0, 1] [0, 1, 7, 9, 10] [0, 1, 3] (fun (k159 : Nat) (s155 : (List Q9)) => [(0, .sl 3 1 (s155).length), (10, eI (k159 : Int))]) (fun k159 s155 => [(0, none), (1, some ⟨3, (List.map V5 s155), 0, 0x0122⟩)]) (fun k159 s155 => .o (.j 5 0 [0, 1, 7, 9, 10] [0, 1, 2] (fun (s169 : Unit) => []) (fun _ => [(0, none)]) .z (fun _ => .g [0, 1, 7, 9, 10] [0, 1, 2] [] [(0, none)] (.o (.o (.d [0, 1, 2, 3, 4, 5, 6, 7, 8, 9, 10, 11, 12] [2] [] .z)))))) (fun s163 => .z))))))))))))
end Go.Proofs.YtbdkbdafhlcilaaGreat
set_option linter.unusedSimpArgs false
set_option linter.unusedVariables false
namespace Go.Proofs.YtbdkbdafhlcilaaGreat
open Go Go.RowKit
set_option maxRecDepth 100000
set_option maxHeartbeats 20000000
instance X8z : ∀ (n : Nat) (p0 : (List Q3)) (p1 : Q70), Ct (Q6l n p0 p1) fun res => Z1 Tryz.prog 0o00453 [(.slice 2 (List.map X9 p0)), (.agg (Q61 p1))] (fun d => d = (eS res)) :=
 au Tryz.func299 Q6l.eq_1 (.o (.o (.b fun (p1 : Q70) => .lc 0 1 2 X7 p1.args (.f [3, 5] [0] [0, 3, 5, 6] [0] (fun (k146 : Nat) (s142 : ByteArray) => [(5, eS s142), (6, eI (k146 : Int))]) (fun k146 s142 => []) (fun k146 s142 => .o (.j 5 1 [0, 3, 5, 6] [0] (fun (s165 : ByteArray) => [(5, eS s165)]) (fun _ => []) .z (fun _ => .z))) (fun s150 => .j 9 0 [3, 5] [0] (fun (s175 : ByteArray) => [(5, eS s175)]) (fun _ => []) .z (fun s175 => .j 11 0 [5] [] (fun (s184 : ByteArray) => [(5, eS s184)]) (fun _ => []) .z (fun _ => .z)))))))
end Go.Proofs.YtbdkbdafhlcilaaGreat
