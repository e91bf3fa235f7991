import Derived.Test.YtbdkbdafhlcilaaGreatCJMir
import Derived.Test.YtbdkbdafhlcilaaGreatCJAuto
import Derived.Test.YtbdkbdafhlcilaaGreatCJC2b0
import Derived.Test.YtbdkbdafhlcilaaGreatCJC0c0
import Derived.Test.YtbdkbdafhlcilaaGreatCJC2d0
import Derived.Test.YtbdkbdafhlcilaaGreatCJC2c0
set_option linter.unusedSimpArgs false
set_option linter.unusedVariables false
set_option linter.unusedSimpArgs false
set_option linter.unusedVariables false
namespace Go.Proofs.YtbdkbdafhlcilaaGreat
open Go Go.RowKit
set_option maxRecDepth 100000
set_option maxHeartbeats 20000000
instance X9f : ∀ (n : Nat) (p0 : (List Q3)) (p1 : Q7d), Ct (Q6v n p0 p1) fun res => Q7 Tryz.prog 0o00453 [(.slice 2 (List.map X2 p0)), (.agg (Q6i p1))] (fun d => d = (eS res)) :=
 au Tryz.func299 Q6v.eq_1 (.o (.o (.b fun (p1 : Q7d) => .lc 0 1 2 Z6 p1.args (.f [3, 5] [0] [0, 3, 5, 6] [0] (fun (k146 : Nat) (s142 : ByteArray) => [(5, eS s142), (6, eI (k146 : Int))]) (fun k146 s142 => []) (fun k146 s142 => .o (.j 5 1 [0, 3, 5, 6] [0] (fun (s165 : ByteArray) => [(5, eS s165)]) (fun _ => []) .z (fun _ => .z))) (fun s150 => .j 9 0 [3, 5] [0] (fun (s175 : ByteArray) => [(5, eS s175)]) (fun _ => []) .z (fun s175 => .j 11 0 [5] [] (fun (s184 : ByteArray) => [(5, eS s184)]) (fun _ => []) .z (fun _ => .z)))))))
end Go.Proofs.YtbdkbdafhlcilaaGreat
set_option linter.unusedSimpArgs false
set_option linter.unusedVariables false
namespace Go.Proofs.YtbdkbdafhlcilaaGreat
open Go Go.RowKit
set_option maxRecDepth 100000
set_option maxHeartbeats 20000000
instance W7a : ∀ (n : Nat) (p0 : (List Q8)) (p1 : (List Q3)) (p2 : Q2) (p3 : Q0), Ct (Y8 n p0 p1 p2 p3) fun res => Q17 Tryz.prog 0o00303 [⟨3, List.map V5 p0, 0, 0x0122⟩] [.sl 3 0 p0.length, (.slice 2 (List.map X2 p1)), (.agg (Z6 p2)), (.agg (Q1 p3))] (fun H d => H = [none, some ⟨3, List.map V5 res, 0, 0x0122⟩] ∧ d = .sl 3 1 res.length) :=
 ar (au Tryz.func195 Y8.eq_2 (.o (.o (.o (.o (.o (.o (.j 1 0 [0, 1, 6, 7] [0, 9000, 1, 9] (fun (s10 : (List Q8)) => [(0, .sl 3 9000 (s10).length)]) (fun s10 => [(0, none), (9000, some ⟨3, (List.map V5 s10), 0, 0x0122⟩)]) (.i .z (.i .z (.pM 0 .z))) (fun s10 => .o (.ls 29 (.f [0] [0, 1] [0, 1, 7, 9, 10] [0, 1, 3] (fun (k159 : Nat) (s155 : (List Q8)) => [(0, .sl 3 1 (s155).length), (10, eI (k159 : Int))]) (fun k159 s155 => [(0, none), (1, some ⟨3, (List.map V5 s155), 0, 0x0122⟩)]) (fun k159 s155 => .o (.j 5 0 [0, 1, 7, 9, 10] [0, 1, 2] (fun (s169 : Unit) => []) (fun _ => [(0, none)]) .z (fun _ => .g [0, 1, 7, 9, 10] [0, 1, 2] [] [(0, none)] (.o (.o (.d [0, 1, 2, 3, 4, 5, 6, 7, 8, 9, 10, 11, 12] [2] [] .z)))))) (fun s163 => .z))))))))))))
end Go.Proofs.YtbdkbdafhlcilaaGreat
set_option linter.unusedSimpArgs false
set_option linter.unusedVariables false
namespace Go.Proofs.YtbdkbdafhlcilaaGreat
open Go Go.RowKit
set_option maxRecDepth 100000
set_option maxHeartbeats 20000000
instance W3r : ∀ (n : Nat) (p0 : (List Q5)), Ct (Q46 n p0) fun res => Q7 Tryz.prog 0o00167 [(.slice 9 (List.map X5 p0))] (fun d => d = .tup [(.slice 6 (List.map Q1 res.1)), (eB res.2)]) :=
 au Tryz.func119 Q46.eq_1 (.o (.o (.pN 4 6 0x0064 (.ls 0 (.f [4] [48] [4, 9, 10, 11] [48] (fun (k111 : Nat) (s107 : (List Q0)) => [(4, .sl 6 48 (s107).length), (11, eI (k111 : Int))]) (fun k111 s107 => [(48, some ⟨6, (List.map Q1 s107), 0, 0x0064⟩)]) (fun k111 s107 => .o (.j 4 0 [4, 9, 10, 11] [0] (fun (s122 : (List Q0)) => [(4, .sl 6 0 (s122).length)]) (fun s122 => [(0, some ⟨6, (List.map Q1 s122), 0, 0x0064⟩)]) .z (fun _ => .z))) (fun s115 => .z))))))
end Go.Proofs.YtbdkbdafhlcilaaGreat
set_option linter.unusedSimpArgs false
set_option linter.unusedVariables false
namespace Go.Proofs.YtbdkbdafhlcilaaGreat
open Go Go.RowKit
set_option maxRecDepth 100000
set_option maxHeartbeats 20000000
instance W0z : ∀ (n : Nat) (p0 : (List Q3)), Ct (Q2c n p0) fun res => Q7 Tryz.prog 0o00075 [(.slice 2 (List.map X2 p0))] (fun d => d = .cptr (Q1v res)) :=
 au Tryz.func61 Q2c.eq_1 .z
end Go.Proofs.YtbdkbdafhlcilaaGreat
