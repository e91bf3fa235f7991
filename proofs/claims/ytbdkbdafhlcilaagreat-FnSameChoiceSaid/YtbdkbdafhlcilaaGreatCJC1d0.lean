import Derived.Test.YtbdkbdafhlcilaaGreatCJMir
import Derived.Test.YtbdkbdafhlcilaaGreatCJAuto
import Derived.Test.YtbdkbdafhlcilaaGreatCJC0c0
import Derived.Test.YtbdkbdafhlcilaaGreatCJC0a0
import Derived.Test.YtbdkbdafhlcilaaGreatCJC0d0
import Derived.Test.YtbdkbdafhlcilaaGreatCJC0b0
set_option linter.unusedSimpArgs false
set_option linter.unusedVariables false
set_option linter.unusedSimpArgs false
set_option linter.unusedVariables false
namespace Go.Proofs.YtbdkbdafhlcilaaGreat
open Go Go.RowKit
set_option maxRecDepth 100000
set_option maxHeartbeats 20000000
instance W0t : ∀ (p0 : Z0) (p1 : (List Int)), Ct (X1 p0 p1) fun res => Q17 Tryz.prog 0o00104 [⟨2, [(V4 p0)], 0, 0x009a⟩] [.ptr 2 0 0 0, (.slice 1 (List.map rI p1))] (fun H d => H = [some ⟨2, [(V4 res.2)], 0, 0x009a⟩] ∧ d = (eI res.1)) :=
 au Tryz.func68 X1.eq_1 .z
end Go.Proofs.YtbdkbdafhlcilaaGreat
set_option linter.unusedSimpArgs false
set_option linter.unusedVariables false
namespace Go.Proofs.YtbdkbdafhlcilaaGreat
open Go Go.RowKit
set_option maxRecDepth 100000
set_option maxHeartbeats 20000000
instance X37 : ∀ (p0 : (List Int)) (p1 : Int), Ct (J7 p0 p1) fun res => Q7 Tryz.prog 0o00133 [(.slice 1 (List.map rI p0)), (eI p1)] (fun d => d = (eB res)) :=
 au Tryz.func91 J7.eq_1 .z
end Go.Proofs.YtbdkbdafhlcilaaGreat
set_option linter.unusedSimpArgs false
set_option linter.unusedVariables false
namespace Go.Proofs.YtbdkbdafhlcilaaGreat
open Go Go.RowKit
set_option maxRecDepth 100000
set_option maxHeartbeats 20000000
instance W13 : ∀ (n : Nat) (p0 : ByteArray), Ct (Q7k n p0) fun res => Q7 Tryz.prog 0o00407 [(eS p0)] (fun d => d = (eB res)) :=
 au Tryz.func263 Q7k.eq_1 (.o (.o (.o (.i .z (.o (.i .z (.i .z (.w [] [] [0, 3] [] (fun (s132 : Int) => [(3, eI s132)]) (fun s132 => []) (fun s132 => .z) (fun s140 => .z)))))))))
end Go.Proofs.YtbdkbdafhlcilaaGreat
set_option linter.unusedSimpArgs false
set_option linter.unusedVariables false
namespace Go.Proofs.YtbdkbdafhlcilaaGreat
open Go Go.RowKit
set_option maxRecDepth 100000
set_option maxHeartbeats 20000000
instance Z5y : ∀ (n : Nat) (p0 : (List X3)) (p1 : Int) (p2 : Int) (p3 : Int) (p4 : (X3 → X3 → Option Int)) {p4_f : FuncId} {p4_c : List D} [p4_i : CF2 (fun a0 => (.agg (Q0w a0))) (fun a1 => (.agg (Q0w a1))) (fun r => (eI r)) p4 p4_f p4_c], Ct (Q18 n p0 p1 p2 p3 p4) fun res => Q17 Tryz.prog 0o00353 [⟨4, List.map Q0w p0, 0, 0x0097⟩] [.sl 4 0 p0.length, (eI p1), (eI p2), (eI p3), .clos p4_f p4_c] (fun H d => H = [some ⟨4, List.map Q0w res, 0, 0x0097⟩] ∧ d = .tup []) :=
 ar (au Tryz.func235 Q18.eq_2 (.o (.o (.o (.o (.o (.o (.o (.o (.o (.o (.w [] [0] [0, 1, 2, 3, 4, 10, 11] [0] (fun (s10 : Unit) => []) (fun s10 => []) (fun s10 => .z) (fun s18 => .z)))))))))))))
end Go.Proofs.YtbdkbdafhlcilaaGreat
set_option linter.unusedSimpArgs false
set_option linter.unusedVariables false
namespace Go.Proofs.YtbdkbdafhlcilaaGreat
open Go Go.RowKit
set_option maxRecDepth 100000
set_option maxHeartbeats 20000000
instance Z5j : ∀ (p0 : (List Q0)) (p1 : (Q0 → Option Bool)) {p1_f : FuncId} {p1_c : List D} [p1_i : CF1 (fun a0 => (.agg (Q1 a0))) (fun r => (eB r)) p1 p1_f p1_c], Ct (Q11 p0 p1) fun res => Q7 Tryz.prog 0o00307 [(.slice 6 (List.map Q1 p0)), .clos p1_f p1_c] (fun d => d = (eB res)) :=
 au Tryz.func199 Q11.eq_1 .z
end Go.Proofs.YtbdkbdafhlcilaaGreat
set_option linter.unusedSimpArgs false
set_option linter.unusedVariables false
namespace Go.Proofs.YtbdkbdafhlcilaaGreat
open Go Go.RowKit
set_option maxRecDepth 100000
set_option maxHeartbeats 20000000
instance W9y : ∀ (n : Nat) (p0 : Q0), Ct (Q2j n p0) fun res => Q17 Tryz.prog 0o00174 [] [(.agg (Q1 p0))] (fun H d => H = [some ⟨6, List.map Q1 res, 0, 0x0064⟩] ∧ d = .sl 6 0 res.length) :=
 ar (au Tryz.func124 Q2j.eq_2 (.o (.o (.o (.i (.g [1] [0] [] [] (.o (.o (.o (.o (.o (.d [0, 1, 2, 3, 5, 6, 7, 8, 4, 9, 10, 11] [0] [] .z))))))) (.ls 29 (.f [4] [88] [4, 33, 34, 35] [88] (fun (k5018 : Nat) (s5014 : (List Q0)) => [(4, .sl 6 88 (s5014).length), (35, eI (k5018 : Int))]) (fun k5018 s5014 => [(88, some ⟨6, (List.map Q1 s5014), 0, 0x0064⟩)]) (fun k5018 s5014 => .o (.o (.pN 8 6 0x0064 (.ll 0 (.f [8, 33, 34, 35] [97] [7, 8, 33, 34, 35, 41, 42, 43] [50, 97, 0] (fun (k5936 : Nat) (s5932 : (List Q0)) => [(8, .sl 6 97 (s5932).length), (43, eI (k5936 : Int))]) (fun k5936 s5932 => [(97, some ⟨6, (List.map Q1 s5932), 0, 0x0064⟩)]) (fun k5936 s5932 => .o (.ll 0 (.f [7, 8, 33, 34, 35, 41, 42, 43] [0, 1, 2] [7, 8, 10, 33, 34, 35, 41, 42, 43, 47, 48, 49] [0, 1, 27, 2] (fun (k6006 : Nat) (s6002 : (List Q0)) => [(8, .sl 6 1 (s6002).length), (49, eI (k6006 : Int))]) (fun k6006 s6002 => [(1, some ⟨6, (List.map Q1 s6002), 0, 0x0064⟩)]) (fun k6006 s6002 => .o (.g [7, 8, 10, 12, 13, 33, 34, 35, 41, 42, 43, 47, 48, 49] [0, 1, 2, 28, 52, 3] [] [] (.o (.o (.dz [0, 1, 3, 2, 4, 5, 6, 7] [2, 3] [1048634] [] (.o (.pF 2097160 .z))))))) (fun s6010 => .z)))) (fun s5940 => .z)))))) (fun s5022 => .z))))))))
end Go.Proofs.YtbdkbdafhlcilaaGreat
set_option linter.unusedSimpArgs false
set_option linter.unusedVariables false
namespace Go.Proofs.YtbdkbdafhlcilaaGreat
open Go Go.RowKit
set_option maxRecDepth 100000
set_option maxHeartbeats 20000000
instance X7u : ∀ (n : Nat) (p0 : Q0), Ct (Y1 n p0) fun res => Q7 Tryz.prog 0o00304 [(.agg (Q1 p0))] (fun d => d = (.agg (Q1 res))) :=
 ar (au Tryz.func196 Y1.eq_2 (.o (.o (.b fun (p0 : Q0) => .j 1 0 [1, 2] [0, 8] (fun (s12 : Unit) => []) (fun _ => []) .z (fun s12 => .pC 0 5 6 0x0064 (.ls 27 (.f [1, 2] [0, 66, 1] [1, 2, 29, 30, 31] [0, 66, 1] (fun (k81 : Nat) (s77 : (List Q0)) => [(31, eI (k81 : Int))]) (fun k81 s77 => [(1000000000, some ⟨6, [[(eI p0.op), (eI p0.ctor), (eI p0.n), (eI p0.m), (eI p0.var), (.sl 6 66 (s77).length)]], 0, 0x0064⟩), (66, some ⟨6, (List.map Q1 s77), 0, 0x0064⟩)]) (fun k81 s77 => .o (.g [1, 2, 5, 29, 30, 31] [0, 1, 2, 27] [] [(1000000000, some ⟨6, [[(eI p0.op), (eI p0.ctor), (eI p0.n), (eI p0.m), (eI p0.var), (.sl 6 1 (s77).length)]], 0, 0x0064⟩)] (.o (.o (.d [0, 1, 2, 3, 4, 5, 6, 7] [0, 3] [41] .z))))) (fun s85 => .z))))))))
end Go.Proofs.YtbdkbdafhlcilaaGreat
set_option linter.unusedSimpArgs false
set_option linter.unusedVariables false
namespace Go.Proofs.YtbdkbdafhlcilaaGreat
open Go Go.RowKit
set_option maxRecDepth 100000
set_option maxHeartbeats 20000000
instance X5e : ∀ (p0 : Q13) (p1 : Q2) (p2 : Int), Ct (Q2v p0 p1 p2) fun res => Q7 Tryz.prog 0o00367 [.cptr (Q1v p0), (.agg (Z6 p1)), (eI p2)] (fun d => d = (.agg (Q1 res))) :=
 au Tryz.func247 Q2v.eq_1 (.o (.o (.b fun (p2 : Int) => .g [0, 2, 4, 6, 7] [0, 8, 32] [] [] (.o (.d [0, 1, 2, 3, 4, 5, 8, 6, 7] [0] [] (.pC 2 5 6 0x0064 (.ls 16 (.f [6, 7] [1, 2, 11] [6, 7, 17, 18] [1, 2, 11] (fun (k50 : Nat) (s46 : (List Q0)) => [(18, eI (k50 : Int))]) (fun k50 s46 => [(1000000002, some ⟨6, [[(eI 4), (eI p2), (eI 0), (eI 0), (eI 0), (.sl 6 11 (s46).length)]], 0, 0x0064⟩), (11, some ⟨6, (List.map Q1 s46), 0, 0x0064⟩)]) (fun k50 s46 => .o (.g [6, 7, 17, 18] [0, 1, 2] [] [(1000000001, some ⟨6, [[(eI 4), (eI p2), (eI 0), (eI 0), (eI 0), (.sl 6 2 (s46).length)]], 0, 0x0064⟩)] (.o (.o (.d [0, 1, 2, 3, 4, 5, 6] [1] [25] .z))))) (fun s54 => .z)))))))))
end Go.Proofs.YtbdkbdafhlcilaaGreat
set_option linter.unusedSimpArgs false
set_option linter.unusedVariables false
namespace Go.Proofs.YtbdkbdafhlcilaaGreat
open Go Go.RowKit
set_option maxRecDepth 100000
set_option maxHeartbeats 20000000
instance X4d : ∀ (p0 : (List Int)) (p1 : (List Q3)) (p2 : Q2) (p3 : Int), Ct (Q1i p0 p1 p2 p3) fun res => Q7 Tryz.prog 0o00313 [.cptr (List.map cI p0), (.slice 2 (List.map X2 p1)), (.agg (Z6 p2)), (eI p3)] (fun d => d = (eI res)) :=
 au Tryz.func203 Q1i.eq_1 (.o (.o (.o (.o (.o (.ls 16 (.f [9] [] [0, 9, 16, 17, 18] [] (fun (k68 : Nat) (s64 : Int) => [(9, eI s64), (18, eI (k68 : Int))]) (fun k68 s64 => []) (fun k68 s64 => .z) (fun s72 => .z))))))))
end Go.Proofs.YtbdkbdafhlcilaaGreat
