import Derived.Test.YtbdkbdafhlcilaaGreatAJMir
import Derived.Test.YtbdkbdafhlcilaaGreatAJAuto
import Derived.Test.YtbdkbdafhlcilaaGreatAJC0b0
import Derived.Test.YtbdkbdafhlcilaaGreatAJC1b0
import Derived.Test.YtbdkbdafhlcilaaGreatAJC0a0
import Derived.Test.YtbdkbdafhlcilaaGreatAJC0c0
import Derived.Test.YtbdkbdafhlcilaaGreatAJC1a0
import Derived.Test.YtbdkbdafhlcilaaGreatAJC1c0
set_option linter.unusedSimpArgs false
set_option linter.unusedVariables false
set_option linter.unusedSimpArgs false
set_option linter.unusedVariables false
namespace Go.Proofs.YtbdkbdafhlcilaaGreat
open Go Go.RowKit
set_option maxRecDepth 100000
set_option maxHeartbeats 20000000
instance X5x : ∀ (n : Nat) (p0 : Q1e) (p1 : Q2) (p2 : Q0) (p3 : Q0), Ct (X6 n p0 p1 p2 p3) fun res => Z0 Tryz.prog 0o00306 [.cptr (Q20 p0), (.agg (X0 p1)), (.agg (Q1 p2)), (.agg (Q1 p3))] (fun d => d = (.slice 6 (List.map Q1 res))) :=
 ar (au Tryz.func198 X6.eq_2 (.o (.o (.o (.o (.o (.o (.i .z (.i .z (.i (.g [0, 5, 7, 11] [0, 16] [] [] (.o (.d [0, 1, 2, 3, 4, 7, 5, 6] [0] [] (.pN 11 6 0x0064 (.ls 59 (.f [11] [10] [0, 5, 7, 11, 59, 60, 61] [0, 1, 10] (fun (k157 : Nat) (s153 : (List Q0)) => [(11, .sl 6 10 (s153).length), (61, eI (k157 : Int))]) (fun k157 s153 => [(10, some ⟨6, (List.map Q1 s153), 0, 0x0064⟩)]) (fun k157 s153 => .o (.g [0, 5, 7, 11, 13, 59, 60, 61] [0, 1, 2] [] [] (.o (.o (.o (.d [0, 1, 2, 3, 4, 5, 7, 6, 8, 9, 10] [0, 1] [] .z)))))) (fun s161 => .z))))))) (.i .z (.g [0, 5, 6, 7, 14, 15] [0, 8, 16] [] [] (.o (.d [0, 1, 2, 3, 4, 5, 6, 9, 7, 8] [0, 1] [] (.pN 14 6 0x0064 (.pN 15 6 0x0064 (.ls 92 (.f [14] [11] [0, 6, 7, 14, 15, 92, 93, 94] [1, 2, 11, 12] (fun (k1426 : Nat) (s1422 : (List Q0) × (List Q0)) => [(14, .sl 6 11 (s1422.1).length), (15, .sl 6 12 (s1422.2).length), (94, eI (k1426 : Int))]) (fun k1426 s1422 => [(11, some ⟨6, (List.map Q1 s1422.1), 0, 0x0064⟩), (12, some ⟨6, (List.map Q1 s1422.2), (s1422.2).length * 6, 0x0064⟩)]) (fun k1426 s1422 => .o (.g [0, 6, 7, 14, 15, 16, 17, 92, 93, 94] [0, 1, 2, 3, 36] [] [] (.o (.o (.o (.d [0, 1, 2, 3, 4, 5, 6, 7, 8, 9, 10, 11, 14, 12, 13] [0, 1, 4] [] (.ls 111 (.f [0, 6, 7, 14, 15, 16, 17, 92, 93, 94] [0, 1, 2, 3, 4] [0, 6, 7, 14, 15, 16, 17, 92, 93, 94, 111, 112, 113] [0, 1, 2, 3, 4] (fun (k1588 : Nat) (s1584 : (List Q0)) => [(14, .sl 6 2 (s1584).length), (113, eI (k1588 : Int))]) (fun k1588 s1584 => [(2, some ⟨6, (List.map Q1 s1584), 0, 0x0064⟩)]) (fun k1588 s1584 => .o (.g [0, 6, 7, 14, 15, 16, 17, 19, 92, 93, 94, 111, 112, 113] [0, 1, 2, 3, 4, 29] [] [] (.o (.o (.d [0, 1, 3, 4, 5, 6, 7, 2, 8, 9, 10] [0, 5] [] .z))))) (fun s1592 => .g [0, 6, 7, 14, 15, 16, 17, 92, 93, 94] [0, 1, 2, 3, 4] [] [] (.o (.dz [0, 1, 2, 3, 4, 5, 6, 7, 8, 9, 10, 11, 12, 13, 14, 15, 16, 17, 18] [0, 1, 4] [1048597] [] (.i .z (.o (.pF 2097208 .z)))))))))))))) (fun s1430 => .z)))))))))))))))))))
end Go.Proofs.YtbdkbdafhlcilaaGreat
set_option linter.unusedSimpArgs false
set_option linter.unusedVariables false
namespace Go.Proofs.YtbdkbdafhlcilaaGreat
open Go Go.RowKit
set_option maxRecDepth 100000
set_option maxHeartbeats 20000000
instance W37 : ∀ (p0 : Z8) (p1 : Q0), Ct (Q3q p0 p1) fun res => J1 Tryz.prog 0o00230 [⟨2, [(Y4 p0)], 0, 0x009a⟩] [.ptr 2 0 0 0, (.agg (Q1 p1))] (fun H d => H = [some ⟨2, [(Y4 res.2)], 0, 0x009a⟩] ∧ d = (.agg (Q1 res.1))) :=
 au Tryz.func152 Q3q.eq_1 (.o (.b fun (p1 : Q0) => .o (.j 3 0 [4, 5] [0, 9, 25, 65] (fun (s17 : Z8 × Int × Int × Int × Int × (List Q0)) => []) (fun s17 => [(0, some ⟨2, [(Y4 s17.1)], 0, 0x009a⟩), (1000000025, some ⟨6, [[(eI s17.2.1), (eI s17.2.2.1), (eI s17.2.2.2.1), (eI p1.m), (eI s17.2.2.2.2.1), (.sl 6 65 (s17.2.2.2.2.2).length)]], 0, 0x0064⟩), (65, some ⟨6, (List.map Q1 s17.2.2.2.2.2), 0, 0x0064⟩)]) .z (fun _ => .pF 3 .z))))
end Go.Proofs.YtbdkbdafhlcilaaGreat
set_option linter.unusedSimpArgs false
set_option linter.unusedVariables false
namespace Go.Proofs.YtbdkbdafhlcilaaGreat
open Go Go.RowKit
set_option maxRecDepth 100000
set_option maxHeartbeats 20000000
instance W7j : ∀ (p0 : (List Q3)) (p1 : (List Int)) (p2 : Q2) (p3 : Int), Ct (Q49 p0 p1 p2 p3) fun res => Z0 Tryz.prog 0o00147 [(.slice 2 (List.map W3 p0)), (.slice 1 (List.map rI p1)), (.agg (X0 p2)), (eI p3)] (fun d => d = (eI res)) :=
 au Tryz.func103 Q49.eq_1 (.o (.o (.o (.o (.o (.ls 16 (.f [10] [] [1, 9, 10, 11] [] (fun (k92 : Nat) (s88 : Int) => [(10, eI s88), (11, eI (k92 : Int))]) (fun k92 s88 => []) (fun k92 s88 => .o (.j 6 0 [1, 9, 10, 11] [] (fun (s101 : Int) => [(10, eI s101)]) (fun _ => []) .z (fun _ => .z))) (fun s96 => .z))))))))
end Go.Proofs.YtbdkbdafhlcilaaGreat
set_option linter.unusedSimpArgs false
set_option linter.unusedVariables false
namespace Go.Proofs.YtbdkbdafhlcilaaGreat
open Go Go.RowKit
set_option maxRecDepth 100000
set_option maxHeartbeats 20000000
instance W7g : ∀ (n : Nat) (p0 : (List Q3)) (p1 : Q2), Ct (Q9m n p0 p1) fun res => Z0 Tryz.prog 0o00471 [(.slice 2 (List.map W3 p0)), (.agg (X0 p1))] (fun d => d = (eS res)) :=
 au Tryz.func313 Q9m.eq_1 (.o (.o (.o (.i .z (.g [0, 3] [0] [] [] (.o (.o (.o (.d [0, 1, 2, 3, 4, 5, 6, 7, 8, 9, 10] [0] [] .z)))))))))
end Go.Proofs.YtbdkbdafhlcilaaGreat
set_option linter.unusedSimpArgs false
set_option linter.unusedVariables false
namespace Go.Proofs.YtbdkbdafhlcilaaGreat
open Go Go.RowKit
set_option maxRecDepth 100000
set_option maxHeartbeats 20000000
instance W54 : ∀ (n : Nat) (p0 : (List Q3)) (p1 : (List Int)) (p2 : Q2) (p3 : Q0), Ct (Q0v n p0 p1 p2 p3) fun res => Z0 Tryz.prog 0o00247 [(.slice 2 (List.map W3 p0)), (.slice 1 (List.map rI p1)), (.agg (X0 p2)), (.agg (Q1 p3))] (fun d => d = (eB res)) :=
 ar (au Tryz.func167 Q0v.eq_2 (.o (.o (.o (.o (.o (.o (.i .z (.i .z (.o (.ls 25 (.f [] [] [0, 1, 7, 9, 10] [8] (fun (k71 : Nat) (s67 : Unit) => [(10, eI (k71 : Int))]) (fun k71 s67 => []) (fun k71 s67 => .o (.g [0, 1, 7, 9, 10] [0] [] [] (.o (.o (.d [0, 1, 2, 3, 4, 5, 6, 7, 8, 9, 10, 11, 12] [0] [] .z))))) (fun s75 => .z)))))))))))))
end Go.Proofs.YtbdkbdafhlcilaaGreat
