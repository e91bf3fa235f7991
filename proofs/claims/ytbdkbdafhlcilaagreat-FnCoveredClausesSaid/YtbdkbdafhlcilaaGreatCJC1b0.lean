import Derived.Test.YtbdkbdafhlcilaaGreatCJMir
import Derived.Test.YtbdkbdafhlcilaaGreatCJAuto
import Derived.Test.YtbdkbdafhlcilaaGreatCJC0b0
import Derived.Test.YtbdkbdafhlcilaaGreatCJC0a0
import Derived.Test.YtbdkbdafhlcilaaGreatCJC0d0
import Derived.Test.YtbdkbdafhlcilaaGreatCJC0c0
set_option linter.unusedSimpArgs false
set_option linter.unusedVariables false
set_option linter.unusedSimpArgs false
set_option linter.unusedVariables false
namespace Go.Proofs.YtbdkbdafhlcilaaGreat
open Go Go.RowKit
set_option maxRecDepth 100000
set_option maxHeartbeats 20000000
instance W5o : ∀ (p0 : (List Q3)) (p1 : Q2), Ct (W0 p0 p1) fun res => Q7 Tryz.prog 0o00146 [(.slice 2 (List.map X2 p0)), (.agg (Z6 p1))] (fun d => d = (.slice 1 (List.map rI res))) :=
 au Tryz.func102 W0.eq_1 (.o (.o (.i .z (.b fun (x115 : Q3) => .le 0 1 3 Q6i x115.ctors x115 (.f [5] [16] [0, 3, 5, 6] [0, 16] (fun (k149 : Nat) (s145 : (List Int)) => [(5, .sl 1 16 (s145).length), (6, eI (k149 : Int))]) (fun k149 s145 => [(16, some ⟨1, (List.map rI s145), 0, 0x0003⟩)]) (fun k149 s145 => .o (.j 7 0 [0, 3, 5, 6] [0, 1] (fun (s157 : (List Int)) => [(5, .sl 1 1 (s157).length)]) (fun s157 => [(1, some ⟨1, (List.map rI s157), 0, 0x0003⟩)]) (.g [0, 3, 5, 6] [0, 1] [] [] (.o (.d [0, 1, 2, 3, 4, 5, 6, 7, 8, 9, 10, 11] [0] [] .z))) (fun _ => .z))) (fun s153 => .z))))))
end Go.Proofs.YtbdkbdafhlcilaaGreat
set_option linter.unusedSimpArgs false
set_option linter.unusedVariables false
namespace Go.Proofs.YtbdkbdafhlcilaaGreat
open Go Go.RowKit
set_option maxRecDepth 100000
set_option maxHeartbeats 20000000
instance W0w : ∀ (n : Nat) (p0 : ByteArray), Ct (Q7j n p0) fun res => Q7 Tryz.prog 0o00432 [(eS p0)] (fun d => d = (eB res)) :=
 au Tryz.func282 Q7j.eq_1 (.o (.o (.i .z (.i .z (.o (.o (.i .z (.w [] [] [0, 3] [] (fun (s132 : Int) => [(3, eI s132)]) (fun s132 => []) (fun s132 => .z) (fun s140 => .z)))))))))
end Go.Proofs.YtbdkbdafhlcilaaGreat
set_option linter.unusedSimpArgs false
set_option linter.unusedVariables false
namespace Go.Proofs.YtbdkbdafhlcilaaGreat
open Go Go.RowKit
set_option maxRecDepth 100000
set_option maxHeartbeats 20000000
instance V03 : ∀ (p0 : (List Q3)) (p1 : Q2), Ct (Z0u p0 p1) fun res => Q7 Tryz.prog 0o00411 [(.slice 2 (List.map X2 p0)), (.agg (Z6 p1))] (fun d => d = (eB res)) :=
 au Tryz.func265 Z0u.eq_1 .z
end Go.Proofs.YtbdkbdafhlcilaaGreat
set_option linter.unusedSimpArgs false
set_option linter.unusedVariables false
namespace Go.Proofs.YtbdkbdafhlcilaaGreat
open Go Go.RowKit
set_option maxRecDepth 100000
set_option maxHeartbeats 20000000
instance W3k : ∀ (p0 : Int), Ct (Q6p p0) fun res => Q7 Tryz.prog 0o00354 [(.val (.int .u64 p0))] (fun d => d = (eI res)) :=
 au Tryz.func236 Q6p.eq_1 .z
end Go.Proofs.YtbdkbdafhlcilaaGreat
set_option linter.unusedSimpArgs false
set_option linter.unusedVariables false
namespace Go.Proofs.YtbdkbdafhlcilaaGreat
open Go Go.RowKit
set_option maxRecDepth 100000
set_option maxHeartbeats 20000000
instance V1q : ∀ (p0 : (List Q3)) (p1 : Q2), Ct (Q88 p0 p1) fun res => Q7 Tryz.prog 0o00301 [(.slice 2 (List.map X2 p0)), (.agg (Z6 p1))] (fun d => d = (eB res)) :=
 au Tryz.func193 Q88.eq_1 .z
end Go.Proofs.YtbdkbdafhlcilaaGreat
set_option linter.unusedSimpArgs false
set_option linter.unusedVariables false
namespace Go.Proofs.YtbdkbdafhlcilaaGreat
open Go Go.RowKit
set_option maxRecDepth 100000
set_option maxHeartbeats 20000000
instance X7s : ∀ (n : Nat) (p0 : (List Q0)), Ct (Q3f n p0) fun res => Q7 Tryz.prog 0o00312 [(.slice 6 (List.map Q1 p0))] (fun d => d = (.slice 6 (List.map Q1 res))) :=
 au Tryz.func202 Q3f.eq_1 (.o (.o (.pN 3 6 0x0064 (.ls 0 (.f [3] [40] [3, 6, 7, 8] [40] (fun (k56 : Nat) (s52 : (List Q0)) => [(3, .sl 6 40 (s52).length), (8, eI (k56 : Int))]) (fun k56 s52 => [(40, some ⟨6, (List.map Q1 s52), 0, 0x0064⟩)]) (fun k56 s52 => .z) (fun s60 => .z))))))
end Go.Proofs.YtbdkbdafhlcilaaGreat
set_option linter.unusedSimpArgs false
set_option linter.unusedVariables false
namespace Go.Proofs.YtbdkbdafhlcilaaGreat
open Go Go.RowKit
set_option maxRecDepth 100000
set_option maxHeartbeats 20000000
instance Z74 : ∀ (n : Nat) (p0 : (List Q0)) (p1 : (Q0 → Option Bool)) {p1_f : FuncId} {p1_c : List D} [p1_i : CF1 (fun a0 => (.agg (Q1 a0))) (fun r => (eB r)) p1 p1_f p1_c], Ct (J3 n p0 p1) fun res => Q17 Tryz.prog 0o00364 [⟨6, List.map Q1 p0, 0, 0x0064⟩] [.sl 6 0 p0.length, .clos p1_f p1_c] (fun H d => H = [none, some ⟨6, List.map Q1 res, 0, 0x0064⟩] ∧ d = .sl 6 1 res.length) :=
 au Tryz.func244 J3.eq_1 (.o (.o (.o (.o (.o (.o (.o (.i (.pM 4 .z) (.w [0, 5] [0] [0, 1, 5, 6] [0] (fun (s96 : (List Q0) × Int × Int) => [(0, .sl 6 0 (s96.1).length), (5, eI s96.2.1), (6, eI s96.2.2)]) (fun s96 => [(0, some ⟨6, (List.map Q1 s96.1), 0, 0x0064⟩)]) (fun s96 => .i (.j 7 0 [0, 1, 5, 6] [0] (fun (s112 : (List Q0) × Int) => [(0, .sl 6 0 (s112.1).length), (5, eI s112.2)]) (fun s112 => [(0, some ⟨6, (List.map Q1 s112.1), 0, 0x0064⟩)]) .z (fun _ => .z)) .z) (fun s104 => .o (.pM 4 .z)))))))))))
end Go.Proofs.YtbdkbdafhlcilaaGreat
set_option linter.unusedSimpArgs false
set_option linter.unusedVariables false
namespace Go.Proofs.YtbdkbdafhlcilaaGreat
open Go Go.RowKit
set_option maxRecDepth 100000
set_option maxHeartbeats 20000000
instance X7p : ∀ (n : Nat) (p0 : Q13) (p1 : Q2) (p2 : Q0) (p3 : Q0), Ct (V1 n p0 p1 p2 p3) fun res => Q7 Tryz.prog 0o00242 [.cptr (Q1v p0), (.agg (Z6 p1)), (.agg (Q1 p2)), (.agg (Q1 p3))] (fun d => d = .tup [(.agg (Q1 res.1)), (eB res.2)]) :=
 ar (au Tryz.func162 V1.eq_2 (.o (.o (.o (.o (.b fun (p2 : Q0) => .o (.i .z (.i .z (.i .z (.i .z (.g [0, 5, 6, 7, 8, 11] [0, 8, 16, 24, 208] [] [] (.o (.d [0, 1, 2, 3, 4, 5, 6, 9, 7, 8] [0, 1] [] (.pC 4 5 6 0x0064 (.ls 66 (.f [8, 11] [3, 4, 13] [0, 6, 7, 8, 11, 66, 67, 68] [1, 2, 3, 4, 13] (fun (k114 : Nat) (s110 : (List Q0)) => [(68, eI (k114 : Int))]) (fun k114 s110 => [(1000000004, some ⟨6, [[(eI 4), (eI p2.ctor), (eI 0), (eI 0), (eI 0), (.sl 6 13 (s110).length)]], 0, 0x0064⟩), (13, some ⟨6, (List.map Q1 s110), 0, 0x0064⟩)]) (fun k114 s110 => .o (.g [0, 6, 7, 8, 11, 12, 13, 66, 67, 68] [0, 1, 2, 3, 4, 37] [] [(1000000003, some ⟨6, [[(eI 4), (eI p2.ctor), (eI 0), (eI 0), (eI 0), (.sl 6 4 (s110).length)]], 0, 0x0064⟩)] (.o (.o (.o (.dz [0, 1, 2, 3, 4, 5, 6, 7, 8, 9, 10, 11, 12, 13, 14, 15, 16, 17, 18] [0, 1, 5] [1048590] [] .z)))))) (fun s118 => .z)))))))))))))))))
end Go.Proofs.YtbdkbdafhlcilaaGreat
