import Derived.Test.YtbdkbdafhlcilaaGreatCJMir
import Derived.Test.YtbdkbdafhlcilaaGreatCJAuto
set_option linter.unusedSimpArgs false
set_option linter.unusedVariables false
set_option linter.unusedSimpArgs false
set_option linter.unusedVariables false
namespace Go.Proofs.YtbdkbdafhlcilaaGreat
open Go Go.RowKit
set_option maxRecDepth 100000
set_option maxHeartbeats 20000000
instance W5p : ∀ (p0 : (List Int)), Ct (Q2i p0) fun res => Q17 Tryz.prog 0o00054 [] [(.slice 1 (List.map (rK .u8) p0))] (fun H d => H = [some ⟨2, [(V4 res)], 0, 0x009a⟩] ∧ d = .ptr 2 0 0 0) :=
 au Tryz.func44 Q2i.eq_1 (.o (.j 1 0 [0] [] (fun (s3 : (List Int)) => [(0, .slice 1 (List.map (rK .u8) s3))]) (fun _ => []) .z (fun _ => .z)))
end Go.Proofs.YtbdkbdafhlcilaaGreat
set_option linter.unusedSimpArgs false
set_option linter.unusedVariables false
namespace Go.Proofs.YtbdkbdafhlcilaaGreat
open Go Go.RowKit
set_option maxRecDepth 100000
set_option maxHeartbeats 20000000
instance W3h : ∀ (p0 : Q7d) (p1 : Int), Ct (Q87 p0 p1) fun res => Q7 Tryz.prog 0o00267 [(.agg (Q6i p0)), (eI p1)] (fun d => d = (eI res)) :=
 au Tryz.func183 Q87.eq_1 .z
end Go.Proofs.YtbdkbdafhlcilaaGreat
set_option linter.unusedSimpArgs false
set_option linter.unusedVariables false
namespace Go.Proofs.YtbdkbdafhlcilaaGreat
open Go Go.RowKit
set_option maxRecDepth 100000
set_option maxHeartbeats 20000000
instance W5e : ∀ (n : Nat) (p0 : Q0) (p1 : Int), Ct (Q3p n p0 p1) fun res => Q7 Tryz.prog 0o00335 [(.agg (Q1 p0)), (eI p1)] (fun d => d = (eI res)) :=
 ar (au Tryz.func221 Q3p.eq_2 (.o (.o (.b fun (p0 : Q0) => .o (.lc 0 5 6 Q1 p0.kids (.f [5] [] [1, 2, 5, 6] [0] (fun (k80 : Nat) (s76 : Int) => [(5, eI s76), (6, eI (k80 : Int))]) (fun k80 s76 => []) (fun k80 s76 => .z) (fun s84 => .z)))))))
end Go.Proofs.YtbdkbdafhlcilaaGreat
set_option linter.unusedSimpArgs false
set_option linter.unusedVariables false
namespace Go.Proofs.YtbdkbdafhlcilaaGreat
open Go Go.RowKit
set_option maxRecDepth 100000
set_option maxHeartbeats 20000000
instance W7f : ∀ (p0 : (List Q8)) (p1 : Int), Ct (Q39 p0 p1) fun res => Q7 Tryz.prog 0o00362 [(.slice 3 (List.map V5 p0)), (eI p1)] (fun d => d = (eI res)) :=
 au Tryz.func242 Q39.eq_1 (.o (.o (.ls 0 (.f [] [] [0, 1, 5] [] (fun (k44 : Nat) (s40 : Unit) => [(5, eI (k44 : Int))]) (fun k44 s40 => []) (fun k44 s40 => .z) (fun s48 => .z)))))
end Go.Proofs.YtbdkbdafhlcilaaGreat
set_option linter.unusedSimpArgs false
set_option linter.unusedVariables false
namespace Go.Proofs.YtbdkbdafhlcilaaGreat
open Go Go.RowKit
set_option maxRecDepth 100000
set_option maxHeartbeats 20000000
instance V1s : ∀ (p0 : Q0) (p1 : Bool) (p2 : Bool) (p3 : Bool) (p4 : Int), Ct (Q3v p0 p1 p2 p3 p4) fun res => Q7 Tryz.prog 0o00445 [(.agg (Q1 p0)), (eB p1), (eB p2), (eB p3), (eI p4)] (fun d => d = (eB res)) :=
 au Tryz.func293 Q3v.eq_1 .z
end Go.Proofs.YtbdkbdafhlcilaaGreat
set_option linter.unusedSimpArgs false
set_option linter.unusedVariables false
namespace Go.Proofs.YtbdkbdafhlcilaaGreat
open Go Go.RowKit
set_option maxRecDepth 100000
set_option maxHeartbeats 20000000
instance W7y : ∀ (p0 : Int) (p1 : Int) (p2 : Int), Ct (V8 p0 p1 p2) fun res => Q7 Tryz.prog 0o00072 [(eI p0), (eI p1), (eI p2)] (fun d => d = (eB res)) :=
 au Tryz.func58 V8.eq_1 .z
end Go.Proofs.YtbdkbdafhlcilaaGreat
set_option linter.unusedSimpArgs false
set_option linter.unusedVariables false
namespace Go.Proofs.YtbdkbdafhlcilaaGreat
open Go Go.RowKit
set_option maxRecDepth 100000
set_option maxHeartbeats 20000000
instance X1h : ∀ (p0 : (List Q8)) (p1 : Q8), Ct (Q30 p0 p1) fun res => Q7 Tryz.prog 0o00416 [(.slice 3 (List.map V5 p0)), (.agg (V5 p1))] (fun d => d = (eI res)) :=
 au Tryz.func270 Q30.eq_1 (.o (.o (.ls 0 (.f [] [] [0, 3, 7, 8] [0] (fun (k44 : Nat) (s40 : Unit) => [(8, eI (k44 : Int))]) (fun k44 s40 => []) (fun k44 s40 => .o (.g [0, 3, 5, 7, 8] [0] [] [] (.d [0, 1, 2, 3, 4, 5] [0] [] .z))) (fun s48 => .z)))))
end Go.Proofs.YtbdkbdafhlcilaaGreat
set_option linter.unusedSimpArgs false
set_option linter.unusedVariables false
namespace Go.Proofs.YtbdkbdafhlcilaaGreat
open Go Go.RowKit
set_option maxRecDepth 100000
set_option maxHeartbeats 20000000
instance X0j : ∀ (p0 : (List Q2)) (p1 : (Q2 → Option Bool)) {p1_f : FuncId} {p1_c : List D} [p1_i : CF1 (fun a0 => (.agg (Z6 a0))) (fun r => (eB r)) p1 p1_f p1_c], Ct (Q4i p0 p1) fun res => Q7 Tryz.prog 0o00346 [(.slice 2 (List.map Z6 p0)), .clos p1_f p1_c] (fun d => d = (eI res)) :=
 au Tryz.func230 Q4i.eq_1 (.o (.o (.o (.o (.o (.ls 0 (.f [] [] [0, 1, 7, 8] [] (fun (k54 : Nat) (s50 : Unit) => [(8, eI (k54 : Int))]) (fun k54 s50 => []) (fun k54 s50 => .z) (fun s58 => .z))))))))
end Go.Proofs.YtbdkbdafhlcilaaGreat
set_option linter.unusedSimpArgs false
set_option linter.unusedVariables false
namespace Go.Proofs.YtbdkbdafhlcilaaGreat
open Go Go.RowKit
set_option maxRecDepth 100000
set_option maxHeartbeats 20000000
instance X5i : ∀ (p0 : X3) (q0 : Q2z), Ct (Q4k p0 q0) fun res => Q7 Tryz.prog 0o00277 [(.agg (Q0w p0)), .cptr (Q7g q0)] (fun d => d = (eB res)) :=
 au Tryz.func191 Q4k.eq_1 .z
end Go.Proofs.YtbdkbdafhlcilaaGreat
set_option linter.unusedSimpArgs false
set_option linter.unusedVariables false
namespace Go.Proofs.YtbdkbdafhlcilaaGreat
open Go Go.RowKit
set_option maxRecDepth 100000
set_option maxHeartbeats 20000000
instance X9p : ∀ (n : Nat) (p0 : Q0), Ct (Q15 n p0) fun res => Q7 Tryz.prog 0o00173 [(.agg (Q1 p0))] (fun d => d = (eI res)) :=
 ar (au Tryz.func123 Q15.eq_2 (.o (.o (.o (.j 2 0 [1, 3] [0] (fun (s2 : Int) => [(3, eI s2)]) (fun _ => []) .z (fun s2 => .ls 10 (.f [3] [] [1, 3, 10, 11, 12] [0] (fun (k86 : Nat) (s82 : Int) => [(3, eI s82), (12, eI (k86 : Int))]) (fun k86 s82 => []) (fun k86 s82 => .o (.j 6 0 [1, 3, 10, 11, 12] [0] (fun (s94 : Int) => [(3, eI s94)]) (fun _ => []) .z (fun _ => .z))) (fun s90 => .z))))))))
end Go.Proofs.YtbdkbdafhlcilaaGreat
