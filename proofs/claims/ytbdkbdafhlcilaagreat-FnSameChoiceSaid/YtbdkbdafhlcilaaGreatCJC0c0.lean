import Derived.Test.YtbdkbdafhlcilaaGreatCJMir
import Derived.Test.YtbdkbdafhlcilaaGreatCJAuto
set_option linter.unusedSimpArgs false
set_option linter.unusedVariables false
set_option linter.unusedSimpArgs false
set_option linter.unusedVariables false
namespace Go.Proofs.YtbdkbdafhlcilaaGreat
open Go Go.RowKit
set_option maxRecDepth 100000
set_option maxHeartbeats 20000000
instance X9g : ∀ (p0 : Z0) (p1 : Int), Ct (Z2 p0 p1) fun res => Q17 Tryz.prog 0o00056 [⟨2, [(V4 p0)], 0, 0x009a⟩] [.ptr 2 0 0 0, (eI p1)] (fun H d => H = [some ⟨2, [(V4 res.2)], 0, 0x009a⟩] ∧ d = (eI res.1)) :=
 au Tryz.func46 Z2.eq_1 (.o (.o (.i .z (.i .z (.i .z (.g [0, 1, 5] [0] [] [] (.o (.o (.o (.d [0, 1, 2, 3, 4, 5, 6, 7, 8, 9, 10, 11, 12, 13, 14, 15, 16, 17, 18, 19, 20, 21, 22, 23, 24, 25, 26, 27, 28, 29, 30, 31, 32, 33, 34, 35, 36, 37, 38, 39, 40, 41, 42, 43, 44, 45] [0] [] .z))))))))))
end Go.Proofs.YtbdkbdafhlcilaaGreat
set_option linter.unusedSimpArgs false
set_option linter.unusedVariables false
namespace Go.Proofs.YtbdkbdafhlcilaaGreat
open Go Go.RowKit
set_option maxRecDepth 100000
set_option maxHeartbeats 20000000
instance W7n : ∀ (p0 : Q2), Ct (Q9o p0) fun res => Q7 Tryz.prog 0o00266 [(.agg (Z6 p0))] (fun d => d = (eI res)) :=
 au Tryz.func182 Q9o.eq_1 .z
end Go.Proofs.YtbdkbdafhlcilaaGreat
set_option linter.unusedSimpArgs false
set_option linter.unusedVariables false
namespace Go.Proofs.YtbdkbdafhlcilaaGreat
open Go Go.RowKit
set_option maxRecDepth 100000
set_option maxHeartbeats 20000000
instance W7q : ∀ (p0 : (List ByteArray)) (p1 : ByteArray), Ct (Q9q p0 p1) fun res => Q7 Tryz.prog 0o00470 [(.slice 1 (List.map rS p0)), (eS p1)] (fun d => d = (eI res)) :=
 au Tryz.func312 Q9q.eq_1 (.o (.o (.i .z (.ls 0 (.f [] [] [0, 1, 5] [] (fun (k46 : Nat) (s42 : Unit) => [(5, eI (k46 : Int))]) (fun k46 s42 => []) (fun k46 s42 => .z) (fun s50 => .z))))))
end Go.Proofs.YtbdkbdafhlcilaaGreat
set_option linter.unusedSimpArgs false
set_option linter.unusedVariables false
namespace Go.Proofs.YtbdkbdafhlcilaaGreat
open Go Go.RowKit
set_option maxRecDepth 100000
set_option maxHeartbeats 20000000
instance W7u : ∀ (n : Nat) (p0 : Int), Ct (Q6o n p0) fun res => Q7 Tryz.prog 0o00472 [(eI p0)] (fun d => d = (eS res)) :=
 ar (au Tryz.func314 Q6o.eq_2 (.o (.o (.o (.i .z (.i .z (.w [0, 3] [] [0, 3] [] (fun (s18 : Int × ByteArray) => [(0, eI s18.1), (3, eS s18.2)]) (fun s18 => []) (fun s18 => .z) (fun s26 => .z))))))))
end Go.Proofs.YtbdkbdafhlcilaaGreat
set_option linter.unusedSimpArgs false
set_option linter.unusedVariables false
namespace Go.Proofs.YtbdkbdafhlcilaaGreat
open Go Go.RowKit
set_option maxRecDepth 100000
set_option maxHeartbeats 20000000
instance X7o : ∀ (p0 : (List Int)) (p1 : Int), Ct (Q50 p0 p1) fun res => Q7 Tryz.prog 0o00257 [(.slice 1 (List.map rI p0)), (eI p1)] (fun d => d = (eI res)) :=
 au Tryz.func175 Q50.eq_1 (.o (.o (.ls 0 (.f [] [] [0, 1, 7, 8] [] (fun (k44 : Nat) (s40 : Unit) => [(8, eI (k44 : Int))]) (fun k44 s40 => []) (fun k44 s40 => .z) (fun s48 => .z)))))
end Go.Proofs.YtbdkbdafhlcilaaGreat
set_option linter.unusedSimpArgs false
set_option linter.unusedVariables false
namespace Go.Proofs.YtbdkbdafhlcilaaGreat
open Go Go.RowKit
set_option maxRecDepth 100000
set_option maxHeartbeats 20000000
instance X9o : ∀ (n : Nat) (p0 : Q0), Ct (Q14 n p0) fun res => Q7 Tryz.prog 0o00260 [(.agg (Q1 p0))] (fun d => d = (.agg (Q1 res))) :=
 ar (au Tryz.func176 Q14.eq_2 (.o (.o (.b fun (p0 : Q0) => .pC 0 5 6 0x0064 (.ls 7 (.f [1, 2] [0, 80, 8] [1, 2, 9, 10, 11] [0, 80, 8] (fun (k56 : Nat) (s52 : (List Q0)) => [(11, eI (k56 : Int))]) (fun k56 s52 => [(1000000000, some ⟨6, [[(eI p0.op), (eI p0.ctor), (eI p0.n), (eI p0.m), (eI p0.var), (.sl 6 80 (s52).length)]], 0, 0x0064⟩), (80, some ⟨6, (List.map Q1 s52), 0, 0x0064⟩)]) (fun k56 s52 => .o (.g [1, 2, 5, 9, 10, 11] [0, 1, 2, 27] [] [(1000000000, some ⟨6, [[(eI p0.op), (eI p0.ctor), (eI p0.n), (eI p0.m), (eI p0.var), (.sl 6 1 (s52).length)]], 0, 0x0064⟩)] (.o (.o (.d [0, 1, 2, 3, 4, 5, 6, 7] [0, 3] [21] .z))))) (fun s60 => .z)))))))
end Go.Proofs.YtbdkbdafhlcilaaGreat
set_option linter.unusedSimpArgs false
set_option linter.unusedVariables false
namespace Go.Proofs.YtbdkbdafhlcilaaGreat
open Go Go.RowKit
set_option maxRecDepth 100000
set_option maxHeartbeats 20000000
instance X9q : Ct (Q16) fun res => Q7 Tryz.prog 0o00177 [] (fun d => d = (.agg (Q1 res))) :=
 au Tryz.func127 Q16.eq_1 .z
end Go.Proofs.YtbdkbdafhlcilaaGreat
set_option linter.unusedSimpArgs false
set_option linter.unusedVariables false
namespace Go.Proofs.YtbdkbdafhlcilaaGreat
open Go Go.RowKit
set_option maxRecDepth 100000
set_option maxHeartbeats 20000000
instance W11 : ∀ (p0 : (List Int)) (p1 : Q2), Ct (Q1l p0 p1) fun res => Q7 Tryz.prog 0o00214 [.cptr (List.map cI p0), (.agg (Z6 p1))] (fun d => d = (eI res)) :=
 au Tryz.func140 Q1l.eq_1 (.o (.o (.i .z (.g [0, 3] [0] [] [] (.o (.d [0, 1, 2, 3, 4, 5, 6, 7, 8, 9] [0] [] .z))))))
end Go.Proofs.YtbdkbdafhlcilaaGreat
set_option linter.unusedSimpArgs false
set_option linter.unusedVariables false
namespace Go.Proofs.YtbdkbdafhlcilaaGreat
open Go Go.RowKit
set_option maxRecDepth 100000
set_option maxHeartbeats 20000000
instance W81 : ∀ (n : Nat) (p0 : (List Int)), Ct (Q2g n p0) fun res => Q7 Tryz.prog 0o00340 [(.slice 1 (List.map rI p0))] (fun d => d = (.slice 6 (List.map Q1 res))) :=
 au Tryz.func224 Q2g.eq_1 (.o (.o (.pN 3 6 0x0064 (.w [3] [24] [0, 3, 4] [24] (fun (s81 : (List Q0) × Int) => [(3, .sl 6 24 (s81.1).length), (4, eI s81.2)]) (fun s81 => [(24, some ⟨6, (List.map Q1 s81.1), 0, 0x0064⟩)]) (fun s81 => .i (.j 5 0 [0, 3, 4] [0] (fun (s96 : (List Q0)) => [(3, .sl 6 0 (s96).length)]) (fun s96 => [(0, some ⟨6, (List.map Q1 s96), 0, 0x0064⟩)]) (.g [0, 3, 4] [0] [] [] (.o (.o (.d [0, 1, 2, 3, 4, 5, 6, 7, 8, 9] [] [] (.i (.g [0, 3, 4] [0] [] [] (.o (.d [0, 1, 2, 3, 4, 5, 6, 7, 8, 9, 10, 11, 12, 13] [] [] .z))) .z))))) (fun _ => .z)) .z) (fun s89 => .z)))))
end Go.Proofs.YtbdkbdafhlcilaaGreat
set_option linter.unusedSimpArgs false
set_option linter.unusedVariables false
namespace Go.Proofs.YtbdkbdafhlcilaaGreat
open Go Go.RowKit
set_option maxRecDepth 100000
set_option maxHeartbeats 20000000
instance W5u : ∀ (p0 : Q0), Ct (Q60 p0) fun res => Q7 Tryz.prog 0o00366 [(.agg (Q1 p0))] (fun d => d = .tup [(eI res.1), (eI res.2)]) :=
 au Tryz.func246 Q60.eq_1 (.o (.i .z (.g [1] [0] [] [] (.d [0, 1, 2, 3, 4, 5] [0] [] .z))))
end Go.Proofs.YtbdkbdafhlcilaaGreat
