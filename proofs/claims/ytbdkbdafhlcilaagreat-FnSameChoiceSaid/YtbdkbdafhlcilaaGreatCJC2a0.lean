import Derived.Test.YtbdkbdafhlcilaaGreatCJMir
import Derived.Test.YtbdkbdafhlcilaaGreatCJAuto
import Derived.Test.YtbdkbdafhlcilaaGreatCJC0d0
import Derived.Test.YtbdkbdafhlcilaaGreatCJC1b0
import Derived.Test.YtbdkbdafhlcilaaGreatCJC0a0
import Derived.Test.YtbdkbdafhlcilaaGreatCJC1a0
import Derived.Test.YtbdkbdafhlcilaaGreatCJC0c0
import Derived.Test.YtbdkbdafhlcilaaGreatCJC0b0
import Derived.Test.YtbdkbdafhlcilaaGreatCJC1d0
set_option linter.unusedSimpArgs false
set_option linter.unusedVariables false
set_option linter.unusedSimpArgs false
set_option linter.unusedVariables false
namespace Go.Proofs.YtbdkbdafhlcilaaGreat
open Go Go.RowKit
set_option maxRecDepth 100000
set_option maxHeartbeats 20000000
instance W7s : ∀ (n : Nat) (p0 : Int) (p1 : Q7d), Ct (Q9s n p0 p1) fun res => Q7 Tryz.prog 0o00357 [(eI p0), (.agg (Q6i p1))] (fun d => d = (eB res)) :=
 au Tryz.func239 Q9s.eq_1 (.o (.o (.o (.o (.i .z (.i .z (.i .z (.i .z (.ls 12 (.f [] [] [0, 3, 5] [0] (fun (k82 : Nat) (s78 : Unit) => [(5, eI (k82 : Int))]) (fun k82 s78 => []) (fun k82 s78 => .z) (fun s86 => .z)))))))))))
end Go.Proofs.YtbdkbdafhlcilaaGreat
set_option linter.unusedSimpArgs false
set_option linter.unusedVariables false
namespace Go.Proofs.YtbdkbdafhlcilaaGreat
open Go Go.RowKit
set_option maxRecDepth 100000
set_option maxHeartbeats 20000000
instance W5w : ∀ (p0 : Q2z) (p1 : (List Q8)), Ct (Q61 p0 p1) fun res => Q7 Tryz.prog 0o00271 [(.agg (Q7g p0)), (.slice 3 (List.map V5 p1))] (fun d => d = (eB res)) :=
 au Tryz.func185 Q61.eq_1 .z
end Go.Proofs.YtbdkbdafhlcilaaGreat
set_option linter.unusedSimpArgs false
set_option linter.unusedVariables false
namespace Go.Proofs.YtbdkbdafhlcilaaGreat
open Go Go.RowKit
set_option maxRecDepth 100000
set_option maxHeartbeats 20000000
instance W3q : ∀ (p0 : Q2) (q0 : (List Q3)), Ct (Q89 p0 q0) fun res => Q7 Tryz.prog 0o00410 [(.agg (Z6 p0)), .cptr [(.slice 2 (List.map X2 q0))]] (fun d => d = (eB res)) :=
 au Tryz.func264 Q89.eq_1 .z
end Go.Proofs.YtbdkbdafhlcilaaGreat
set_option linter.unusedSimpArgs false
set_option linter.unusedVariables false
namespace Go.Proofs.YtbdkbdafhlcilaaGreat
open Go Go.RowKit
set_option maxRecDepth 100000
set_option maxHeartbeats 20000000
instance X5f : ∀ (n : Nat) (p0 : Q13) (p1 : Q2) (p2 : Q0) (p3 : Q0), Ct (X9 n p0 p1 p2 p3) fun res => Q7 Tryz.prog 0o00306 [.cptr (Q1v p0), (.agg (Z6 p1)), (.agg (Q1 p2)), (.agg (Q1 p3))] (fun d => d = (.slice 6 (List.map Q1 res))) :=
 ar (au Tryz.func198 X9.eq_2 (.o (.o (.o (.o (.o (.o (.i .z (.i .z (.i (.g [0, 5, 7, 11] [0, 16] [] [] (.o (.d [0, 1, 2, 3, 4, 7, 5, 6] [0] [] (.pN 11 6 0x0064 (.ls 59 (.f [11] [10] [0, 5, 7, 11, 59, 60, 61] [0, 1, 10] (fun (k157 : Nat) (s153 : (List Q0)) => [(11, .sl 6 10 (s153).length), (61, eI (k157 : Int))]) (fun k157 s153 => [(10, some ⟨6, (List.map Q1 s153), 0, 0x0064⟩)]) (fun k157 s153 => .o (.g [0, 5, 7, 11, 13, 59, 60, 61] [0, 1, 2] [] [] (.o (.o (.o (.d [0, 1, 2, 3, 4, 5, 7, 6, 8, 9, 10] [0, 1] [] .z)))))) (fun s161 => .z))))))) (.i .z (.g [0, 5, 6, 7, 14, 15] [0, 8, 16] [] [] (.o (.d [0, 1, 2, 3, 4, 5, 6, 9, 7, 8] [0, 1] [] (.pN 14 6 0x0064 (.pN 15 6 0x0064 (.ls 92 (.f [14] [11] [0, 6, 7, 14, 15, 92, 93, 94] [1, 2, 11, 12] (fun (k1426 : Nat) (s1422 : (List Q0) × (List Q0)) => [(14, .sl 6 11 (s1422.1).length), (15, .sl 6 12 (s1422.2).length), (94, eI (k1426 : Int))]) (fun k1426 s1422 => [(11, some ⟨6, (List.map Q1 s1422.1), 0, 0x0064⟩), (12, some ⟨6, (List.map Q1 s1422.2), (s1422.2).length * 6, 0x0064⟩)]) (fun k1426 s1422 => .o (.g [0, 6, 7, 14, 15, 16, 17, 92, 93, 94] [0, 1, 2, 3, 36] [] [] (.o (.o (.o (.d [0, 1, 2, 3, 4, 5, 6, 7, 8, 9, 10, 11, 14, 12, 13] [0, 1, 4] [] (.ls 111 (.f [0, 6, 7, 14, 15, 16, 17, 92, 93, 94] [0, 1, 2, 3, 4] [0, 6, 7, 14, 15, 16, 17, 92, 93, 94, 111, 112, 113] [0, 1, 2, 3, 4] (fun (k1588 : Nat) (s1584 : (List Q0)) => [(14, .sl 6 2 (s1584).length), (113, eI (k1588 : Int))]) (fun k1588 s1584 => [(2, some ⟨6, (List.map Q1 s1584), 0, 0x0064⟩)]) (fun k1588 s1584 => .o (.g [0, 6, 7, 14, 15, 16, 17, 19, 92, 93, 94, 111, 112, 113] [0, 1, 2, 3, 4, 29] [] [] (.o (.o (.d [0, 1, 3, 4, 5, 6, 7, 2, 8, 9, 10] [0, 5] [] .z))))) (fun s1592 => .g [0, 6, 7, 14, 15, 16, 17, 92, 93, 94] [0, 1, 2, 3, 4] [] [] (.o (.dz [0, 1, 2, 3, 4, 5, 6, 7, 8, 9, 10, 11, 12, 13, 14, 15, 16, 17, 18] [0, 1, 4] [1048597] [] (.i .z (.o (.pF 2097208 .z)))))))))))))) (fun s1430 => .z)))))))))))))))))))
end Go.Proofs.YtbdkbdafhlcilaaGreat
