import Derived.Test.YtbdkbdafhlcilaaGreatCJMir
import Derived.Test.YtbdkbdafhlcilaaGreatCJAuto
set_option linter.unusedSimpArgs false
set_option linter.unusedVariables false
set_option linter.unusedSimpArgs false
set_option linter.unusedVariables false
namespace Go.Proofs.YtbdkbdafhlcilaaGreat
open Go Go.RowKit
set_option maxRecDepth 100000
set_option maxHeartbeats 20000000
instance W9w : ∀ (p0 : Int) (p1 : Q2), Ct (Q8n p0 p1) fun res => Q7 Tryz.prog 0o00361 [(eI p0), (.agg (Z6 p1))] (fun d => d = (eB res)) :=
 au Tryz.func241 Q8n.eq_1 .z
end Go.Proofs.YtbdkbdafhlcilaaGreat
set_option linter.unusedSimpArgs false
set_option linter.unusedVariables false
namespace Go.Proofs.YtbdkbdafhlcilaaGreat
open Go Go.RowKit
set_option maxRecDepth 100000
set_option maxHeartbeats 20000000
instance W5k : Ct (Q4u) fun res => Q7 Tryz.prog 0o00347 [] (fun d => d = (.slice 1 (List.map rS res))) :=
 au Tryz.func231 Q4u.eq_1 .z
end Go.Proofs.YtbdkbdafhlcilaaGreat
set_option linter.unusedSimpArgs false
set_option linter.unusedVariables false
namespace Go.Proofs.YtbdkbdafhlcilaaGreat
open Go Go.RowKit
set_option maxRecDepth 100000
set_option maxHeartbeats 20000000
instance Z8h : ∀ (p0 : (List Q5)) (p1 : (Q5 → Option Bool)) {p1_f : FuncId} {p1_c : List D} [p1_i : CF1 (fun a0 => (.agg (X5 a0))) (fun r => (eB r)) p1 p1_f p1_c], Ct (Q3t p0 p1) fun res => Q7 Tryz.prog 0o00241 [(.slice 9 (List.map X5 p0)), .clos p1_f p1_c] (fun d => d = (eI res)) :=
 au Tryz.func161 Q3t.eq_1 (.o (.o (.o (.o (.o (.ls 0 (.f [] [] [0, 1, 7, 8] [] (fun (k54 : Nat) (s50 : Unit) => [(8, eI (k54 : Int))]) (fun k54 s50 => []) (fun k54 s50 => .z) (fun s58 => .z))))))))
end Go.Proofs.YtbdkbdafhlcilaaGreat
set_option linter.unusedSimpArgs false
set_option linter.unusedVariables false
namespace Go.Proofs.YtbdkbdafhlcilaaGreat
open Go Go.RowKit
set_option maxRecDepth 100000
set_option maxHeartbeats 20000000
instance W5x : ∀ (p0 : (List Q3)) (p1 : Q2), Ct (Q0y p0 p1) fun res => Q7 Tryz.prog 0o00252 [(.slice 2 (List.map X2 p0)), (.agg (Z6 p1))] (fun d => d = (.slice 1 (List.map rI res))) :=
 au Tryz.func170 Q0y.eq_1 (.o (.o (.j 2 0 [5] [9000] (fun (s116 : (List Int)) => [(5, .sl 1 9000 (s116).length)]) (fun s116 => [(9000, some ⟨1, (List.map rI s116), 0, 0x0003⟩)]) (.i (.o (.pN 5 1 0x0003 (.ls 16 (.f [5] [112] [3, 5, 16, 17, 18] [0, 112] (fun (k198 : Nat) (s194 : (List Int)) => [(5, .sl 1 112 (s194).length), (18, eI (k198 : Int))]) (fun k198 s194 => [(112, some ⟨1, (List.map rI s194), 0, 0x0003⟩)]) (fun k198 s194 => .o (.j 5 0 [3, 5, 16, 17, 18] [0, 1] (fun (s217 : (List Int)) => [(5, .sl 1 1 (s217).length)]) (fun s217 => [(1, some ⟨1, (List.map rI s217), 0, 0x0003⟩)]) .z (fun _ => .z))) (fun s202 => .z))))) (.pN 5 1 0x0003 .z)) (fun _ => .z))))
end Go.Proofs.YtbdkbdafhlcilaaGreat
set_option linter.unusedSimpArgs false
set_option linter.unusedVariables false
namespace Go.Proofs.YtbdkbdafhlcilaaGreat
open Go Go.RowKit
set_option maxRecDepth 100000
set_option maxHeartbeats 20000000
instance Z2o : ∀ (n : Nat) (p0 : (List X3)) (p1 : Int) (p2 : Int) (p3 : (X3 → X3 → Option Int)) {p3_f : FuncId} {p3_c : List D} [p3_i : CF2 (fun a0 => (.agg (Q0w a0))) (fun a1 => (.agg (Q0w a1))) (fun r => (eI r)) p3 p3_f p3_c], Ct (Y5 n p0 p1 p2 p3) fun res => Q17 Tryz.prog 0o00417 [⟨4, List.map Q0w p0, 0, 0x0097⟩] [.sl 4 0 p0.length, (eI p1), (eI p2), .clos p3_f p3_c] (fun H d => H = [some ⟨4, List.map Q0w res, 0, 0x0097⟩] ∧ d = .tup []) :=
 au Tryz.func271 Y5.eq_1 (.o (.o (.o (.o (.o (.o (.o (.o (.w [] [0] [0, 1, 2, 3, 8] [0] (fun (s464 : (List X3) × Int) => [(0, .sl 4 0 (s464.1).length), (8, eI s464.2)]) (fun s464 => [(0, some ⟨4, (List.map Q0w s464.1), 0, 0x0097⟩)]) (fun s464 => .i (.w [0, 1, 2, 3, 8] [0] [0, 1, 2, 3, 8, 9] [0] (fun (s660 : (List X3) × Int) => [(0, .sl 4 0 (s660.1).length), (9, eI s660.2)]) (fun s660 => [(0, some ⟨4, (List.map Q0w s660.1), 0, 0x0097⟩)]) (fun s660 => .g [0, 1, 2, 3, 8, 9] [0] [] [] (.i (.o (.o (.o (.d [0, 1, 2, 3, 4, 5, 6, 7, 8, 9, 10, 11, 12, 13, 14, 15, 16] [0] [] (.i (.g [0, 1, 2, 3, 8, 9] [0] [] [] (.o (.o (.o (.d [0, 1, 2, 3, 4, 5, 6, 7, 8, 9, 10, 11, 12, 13, 14, 15, 16, 17] [0] [51, 52] .z))))) .z))))) (.d [0, 1, 2, 3, 4, 5, 6, 7, 8, 9, 10, 11, 12, 13, 14, 15, 16] [] [] .z))) (fun s668 => .z)) .z) (fun s472 => .z))))))))))
end Go.Proofs.YtbdkbdafhlcilaaGreat
set_option linter.unusedSimpArgs false
set_option linter.unusedVariables false
namespace Go.Proofs.YtbdkbdafhlcilaaGreat
open Go Go.RowKit
set_option maxRecDepth 100000
set_option maxHeartbeats 20000000
instance X9l : ∀ (p0 : Int), Ct (Q6w p0) fun res => Q7 Tryz.prog 0o00430 [(.val (.int .u64 p0))] (fun d => d = (eI res)) :=
 au Tryz.func280 Q6w.eq_1 (.o (.j 1 0 [0, 2] [] (fun (s2 : Int × Int) => [(0, .val (.int .u64 s2.1)), (2, eI s2.2)]) (fun _ => []) .z (fun s2 => .j 4 0 [0, 2] [] (fun (s7 : Int × Int) => [(0, .val (.int .u64 s7.1)), (2, eI s7.2)]) (fun _ => []) .z (fun s7 => .j 7 0 [0, 2] [] (fun (s12 : Int × Int) => [(0, .val (.int .u64 s12.1)), (2, eI s12.2)]) (fun _ => []) .z (fun _ => .z)))))
end Go.Proofs.YtbdkbdafhlcilaaGreat
set_option linter.unusedSimpArgs false
set_option linter.unusedVariables false
namespace Go.Proofs.YtbdkbdafhlcilaaGreat
open Go Go.RowKit
set_option maxRecDepth 100000
set_option maxHeartbeats 20000000
instance W3u : ∀ (p0 : Int), Ct (Q59 p0) fun res => Q7 Tryz.prog 0o00355 [(eI p0)] (fun d => d = (eB res)) :=
 au Tryz.func237 Q59.eq_1 .z
end Go.Proofs.YtbdkbdafhlcilaaGreat
set_option linter.unusedSimpArgs false
set_option linter.unusedVariables false
namespace Go.Proofs.YtbdkbdafhlcilaaGreat
open Go Go.RowKit
set_option maxRecDepth 100000
set_option maxHeartbeats 20000000
instance W3n : ∀ (n : Nat) (p0 : Q4), Ct (Q24 n p0) fun res => Q7 Tryz.prog 0o00132 [(.agg (W3 p0))] (fun d => d = (.agg (W3 res))) :=
 ar (au Tryz.func90 Q24.eq_2 (.o (.o (.b fun (p0 : Q4) => .pC 56 2 3 0x0038 (.ls 12 (.f [2, 3] [8, 56, 104] [2, 3, 12, 13, 14] [8, 56, 104] (fun (k56 : Nat) (s52 : (List Q4)) => [(14, eI (k56 : Int))]) (fun k56 s52 => [(1000000056, some ⟨3, [[(eI p0.ctor), (eI p0.n), (.sl 3 104 (s52).length)]], 0, 0x0038⟩), (104, some ⟨3, (List.map W3 s52), 0, 0x0038⟩)]) (fun k56 s52 => .o (.g [2, 3, 5, 12, 13, 14] [0, 1, 2, 27] [] [(1000000001, some ⟨3, [[(eI p0.ctor), (eI p0.n), (.sl 3 2 (s52).length)]], 0, 0x0038⟩)] (.o (.o (.d [0, 1, 2, 3, 4, 5, 6, 7] [1, 3] [24] .z))))) (fun s60 => .z)))))))
end Go.Proofs.YtbdkbdafhlcilaaGreat
set_option linter.unusedSimpArgs false
set_option linter.unusedVariables false
namespace Go.Proofs.YtbdkbdafhlcilaaGreat
open Go Go.RowKit
set_option maxRecDepth 100000
set_option maxHeartbeats 20000000
instance X0k : ∀ (p0 : (List X3)) (p1 : (X3 → Option Bool)) {p1_f : FuncId} {p1_c : List D} [p1_i : CF1 (fun a0 => (.agg (Q0w a0))) (fun r => (eB r)) p1 p1_f p1_c], Ct (Q4j p0 p1) fun res => Q7 Tryz.prog 0o00276 [(.slice 4 (List.map Q0w p0)), .clos p1_f p1_c] (fun d => d = (eI res)) :=
 au Tryz.func190 Q4j.eq_1 (.o (.o (.o (.o (.o (.ls 0 (.f [] [] [0, 1, 7, 8] [] (fun (k54 : Nat) (s50 : Unit) => [(8, eI (k54 : Int))]) (fun k54 s50 => []) (fun k54 s50 => .z) (fun s58 => .z))))))))
end Go.Proofs.YtbdkbdafhlcilaaGreat
set_option linter.unusedSimpArgs false
set_option linter.unusedVariables false
namespace Go.Proofs.YtbdkbdafhlcilaaGreat
open Go Go.RowKit
set_option maxRecDepth 100000
set_option maxHeartbeats 20000000
instance X36 : ∀ (p1 : Int), Ct (Q23 p1) fun res => Q17 Tryz.prog 0o00434 [] [.nil, (eI p1)] (fun H d => H = [some ⟨6, List.map Q1 res, 0, 0x0064⟩] ∧ d = .sl 6 0 res.length) :=
 au Tryz.func284 Q23.eq_1 (.o (.i .z (.j 3 0 [0] [9000] (fun (s6 : Unit) => [(0, .sl 6 9000 0)]) (fun _ => [(9000, some ⟨6, (List.map Q1 []), 0, 0x0064⟩)]) (.i (.o (.o (.pS 144 0 Q1 ([] : List Q0) .z))) (.pN 0 6 0x0064 .z)) (fun _ => .z))))
end Go.Proofs.YtbdkbdafhlcilaaGreat
