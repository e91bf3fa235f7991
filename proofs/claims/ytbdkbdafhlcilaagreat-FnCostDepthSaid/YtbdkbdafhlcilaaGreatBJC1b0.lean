import Derived.Test.YtbdkbdafhlcilaaGreatBJMir
import Derived.Test.YtbdkbdafhlcilaaGreatBJAuto
import Derived.Test.YtbdkbdafhlcilaaGreatBJC0a0
import Derived.Test.YtbdkbdafhlcilaaGreatBJC0d0
import Derived.Test.YtbdkbdafhlcilaaGreatBJC0b0
import Derived.Test.YtbdkbdafhlcilaaGreatBJC0c0
set_option linter.unusedSimpArgs false
set_option linter.unusedVariables false
set_option linter.unusedSimpArgs false
set_option linter.unusedVariables false
namespace Go.Proofs.YtbdkbdafhlcilaaGreat
open Go Go.RowKit
set_option maxRecDepth 100000
set_option maxHeartbeats 20000000
instance X2w : ∀ (p0 : (List Int)) (p1 : Int), Ct (Q05 p0 p1) fun res => Z1 Tryz.prog 0o00133 [(.slice 1 (List.map rI p0)), (eI p1)] (fun d => d = (eB res)) :=
 au Tryz.func91 Q05.eq_1 .z
end Go.Proofs.YtbdkbdafhlcilaaGreat
set_option linter.unusedSimpArgs false
set_option linter.unusedVariables false
namespace Go.Proofs.YtbdkbdafhlcilaaGreat
open Go Go.RowKit
set_option maxRecDepth 100000
set_option maxHeartbeats 20000000
instance Z7z : ∀ (p0 : (List Q5)) (p1 : (Q5 → Option Bool)) {p1_f : FuncId} {p1_c : List D} [p1_i : CF1 (fun a0 => (.agg (X7 a0))) (fun r => (eB r)) p1 p1_f p1_c], Ct (Q07 p0 p1) fun res => Z1 Tryz.prog 0o00254 [(.slice 2 (List.map X7 p0)), .clos p1_f p1_c] (fun d => d = (eB res)) :=
 au Tryz.func172 Q07.eq_1 .z
end Go.Proofs.YtbdkbdafhlcilaaGreat
set_option linter.unusedSimpArgs false
set_option linter.unusedVariables false
namespace Go.Proofs.YtbdkbdafhlcilaaGreat
open Go Go.RowKit
set_option maxRecDepth 100000
set_option maxHeartbeats 20000000
instance W0o : ∀ (n : Nat) (p0 : ByteArray), Ct (Q77 n p0) fun res => Z1 Tryz.prog 0o00407 [(eS p0)] (fun d => d = (eB res)) :=
 au Tryz.func263 Q77.eq_1 (.o (.o (.o (.i .z (.o (.i .z (.i .z (.w [] [] [0, 3] [] (fun (s132 : Int) => [(3, eI s132)]) (fun s132 => []) (fun s132 => .z) (fun s140 => .z)))))))))
end Go.Proofs.YtbdkbdafhlcilaaGreat
set_option linter.unusedSimpArgs false
set_option linter.unusedVariables false
namespace Go.Proofs.YtbdkbdafhlcilaaGreat
open Go Go.RowKit
set_option maxRecDepth 100000
set_option maxHeartbeats 20000000
instance W9a : ∀ (n : Nat) (p0 : Q0), Ct (Q27 n p0) fun res => J8 Tryz.prog 0o00174 [] [(.agg (Q8 p0))] (fun H d => H = [some ⟨6, List.map Q8 res, 0, 0x0064⟩] ∧ d = .sl 6 0 res.length) :=
 ar (au Tryz.func124 Q27.eq_2 (.o (.o (.o (.i (.g [1] [0] [] [] (.o (.o (.o (.o (.o (.d [0, 1, 2, 3, 5, 6, 7, 8, 4, 9, 10, 11] [0] [] .z))))))) (.ls 29 (.f [4] [88] [4, 33, 34, 35] [88] (fun (k5018 : Nat) (s5014 : (List Q0)) => [(4, .sl 6 88 (s5014).length), (35, eI (k5018 : Int))]) (fun k5018 s5014 => [(88, some ⟨6, (List.map Q8 s5014), 0, 0x0064⟩)]) (fun k5018 s5014 => .o (.o (.pN 8 6 0x0064 (.ll 0 (.f [8, 33, 34, 35] [97] [7, 8, 33, 34, 35, 41, 42, 43] [50, 97, 0] (fun (k5936 : Nat) (s5932 : (List Q0)) => [(8, .sl 6 97 (s5932).length), (43, eI (k5936 : Int))]) (fun k5936 s5932 => [(97, some ⟨6, (List.map Q8 s5932), 0, 0x0064⟩)]) (fun k5936 s5932 => .o (.ll 0 (.f [7, 8, 33, 34, 35, 41, 42, 43] [0, 1, 2] [7, 8, 10, 33, 34, 35, 41, 42, 43, 47, 48, 49] [0, 1, 27, 2] (fun (k6006 : Nat) (s6002 : (List Q0)) => [(8, .sl 6 1 (s6002).length), (49, eI (k6006 : Int))]) (fun k6006 s6002 => [(1, some ⟨6, (List.map Q8 s6002), 0, 0x0064⟩)]) (fun k6006 s6002 => .o (.g [7, 8, 10, 12, 13, 33, 34, 35, 41, 42, 43, 47, 48, 49] [0, 1, 2, 28, 52, 3] [] [] (.o (.o (.dz [0, 1, 3, 2, 4, 5, 6, 7] [2, 3] [1048634] [] (.o (.pF 2097160 .z))))))) (fun s6010 => .z)))) (fun s5940 => .z)))))) (fun s5022 => .z))))))))
end Go.Proofs.YtbdkbdafhlcilaaGreat
set_option linter.unusedSimpArgs false
set_option linter.unusedVariables false
namespace Go.Proofs.YtbdkbdafhlcilaaGreat
open Go Go.RowKit
set_option maxRecDepth 100000
set_option maxHeartbeats 20000000
instance Z3m : ∀ (n : Nat) (p0 : (List Q2)) (p1 : Int) (p2 : Int) (p3 : Int) (p4 : (Q2 → Q2 → Option Int)) {p4_f : FuncId} {p4_c : List D} [p4_i : CF2 (fun a0 => (.agg (Z3 a0))) (fun a1 => (.agg (Z3 a1))) (fun r => (eI r)) p4 p4_f p4_c], Ct (Q0i n p0 p1 p2 p3 p4) fun res => J8 Tryz.prog 0o00372 [⟨2, List.map Z3 p0, 0, 0x0073⟩] [.sl 2 0 p0.length, (eI p1), (eI p2), (eI p3), .clos p4_f p4_c] (fun H d => H = [some ⟨2, List.map Z3 res, 0, 0x0073⟩] ∧ d = .tup []) :=
 ar (au Tryz.func250 Q0i.eq_2 (.o (.o (.o (.o (.o (.o (.o (.o (.o (.o (.w [] [0] [0, 1, 2, 3, 4, 10, 11] [0] (fun (s10 : Unit) => []) (fun s10 => []) (fun s10 => .z) (fun s18 => .z)))))))))))))
end Go.Proofs.YtbdkbdafhlcilaaGreat
set_option linter.unusedSimpArgs false
set_option linter.unusedVariables false
namespace Go.Proofs.YtbdkbdafhlcilaaGreat
open Go Go.RowKit
set_option maxRecDepth 100000
set_option maxHeartbeats 20000000
instance X0f : ∀ (n : Nat) (p0 : (List Grow)) (p1 : (Grow → Option Bool)) {p1_f : FuncId} {p1_c : List D} [p1_i : CF1 (fun a0 => (.agg (Q41 a0))) (fun r => (eB r)) p1 p1_f p1_c], Ct (Q0n n p0 p1) fun res => J8 Tryz.prog 0o00316 [⟨3, List.map Q41 p0, 0, 0x0066⟩] [.sl 3 0 p0.length, .clos p1_f p1_c] (fun H d => H = [none, some ⟨3, List.map Q41 res, 0, 0x0066⟩] ∧ d = .sl 3 1 res.length) :=
 au Tryz.func206 Q0n.eq_1 (.o (.o (.o (.o (.o (.o (.o (.i (.pM 4 .z) (.w [0, 5] [0] [0, 1, 5, 6] [0] (fun (s96 : (List Grow) × Int × Int) => [(0, .sl 3 0 (s96.1).length), (5, eI s96.2.1), (6, eI s96.2.2)]) (fun s96 => [(0, some ⟨3, (List.map Q41 s96.1), 0, 0x0066⟩)]) (fun s96 => .i (.j 7 0 [0, 1, 5, 6] [0] (fun (s112 : (List Grow) × Int) => [(0, .sl 3 0 (s112.1).length), (5, eI s112.2)]) (fun s112 => [(0, some ⟨3, (List.map Q41 s112.1), 0, 0x0066⟩)]) .z (fun _ => .z)) .z) (fun s104 => .o (.pM 4 .z)))))))))))
end Go.Proofs.YtbdkbdafhlcilaaGreat
set_option linter.unusedSimpArgs false
set_option linter.unusedVariables false
namespace Go.Proofs.YtbdkbdafhlcilaaGreat
open Go Go.RowKit
set_option maxRecDepth 100000
set_option maxHeartbeats 20000000
instance X9b : ∀ (p0 : Q2q) (p1 : (List J7)), Ct (Q2c p0 p1) fun res => Z1 Tryz.prog 0o00156 [(.agg (Q74 p0)), (.slice 4 (List.map Q5p p1))] (fun d => d = (eB res)) :=
 au Tryz.func110 Q2c.eq_1 .z
end Go.Proofs.YtbdkbdafhlcilaaGreat
set_option linter.unusedSimpArgs false
set_option linter.unusedVariables false
namespace Go.Proofs.YtbdkbdafhlcilaaGreat
open Go Go.RowKit
set_option maxRecDepth 100000
set_option maxHeartbeats 20000000
instance W57 : ∀ (p0 : Int) (p1 : Int) (p2 : Int) (p3 : Q1), Ct (Q6q p0 p1 p2 p3) fun res => Z1 Tryz.prog 0o00221 [(eI p0), (eI p1), (eI p2), (.agg (X0 p3))] (fun d => d = (eB res)) :=
 au Tryz.func145 Q6q.eq_1 .z
end Go.Proofs.YtbdkbdafhlcilaaGreat
set_option linter.unusedSimpArgs false
set_option linter.unusedVariables false
namespace Go.Proofs.YtbdkbdafhlcilaaGreat
open Go Go.RowKit
set_option maxRecDepth 100000
set_option maxHeartbeats 20000000
instance W4q : ∀ (p0 : (List Q9)) (p1 : (List Q9)), Ct (Q4c p0 p1) fun res => Z1 Tryz.prog 0o00402 [(.slice 3 (List.map V5 p0)), (.slice 3 (List.map V5 p1))] (fun d => d = (eB res)) :=
 au Tryz.func258 Q4c.eq_1 (.o (.o (.ls 0 (.f [0, 1] [] [0, 1, 5] [] (fun (k124 : Nat) (s120 : Unit) => [(5, eI (k124 : Int))]) (fun k124 s120 => []) (fun k124 s120 => .o (.o (.g [0, 1, 5, 6] [] [] [] (.i (.d [0, 1, 2, 3, 4, 5, 6, 7, 8, 9, 10, 11, 12, 13, 14] [] [] .z) (.o (.d [0, 1, 2, 3, 4, 5, 6, 7, 8, 9, 10, 11, 12, 13, 14] [] [] .z)))))) (fun s128 => .z)))))
end Go.Proofs.YtbdkbdafhlcilaaGreat
set_option linter.unusedSimpArgs false
set_option linter.unusedVariables false
namespace Go.Proofs.YtbdkbdafhlcilaaGreat
open Go Go.RowKit
set_option maxRecDepth 100000
set_option maxHeartbeats 20000000
instance W0d : ∀ (p0 : Z7) (p1 : (List Int)), Ct (X3 p0 p1) fun res => J8 Tryz.prog 0o00104 [⟨2, [(Y0 p0)], 0, 0x009a⟩] [.ptr 2 0 0 0, (.slice 1 (List.map rI p1))] (fun H d => H = [some ⟨2, [(Y0 res.2)], 0, 0x009a⟩] ∧ d = (eI res.1)) :=
 au Tryz.func68 X3.eq_1 .z
end Go.Proofs.YtbdkbdafhlcilaaGreat
