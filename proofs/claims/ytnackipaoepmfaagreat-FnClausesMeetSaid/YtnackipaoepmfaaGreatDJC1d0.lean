import Derived.Test.YtnackipaoepmfaaGreatDJMir
import Derived.Test.YtnackipaoepmfaaGreatDJAuto
import Derived.Test.YtnackipaoepmfaaGreatDJC0b0
import Derived.Test.YtnackipaoepmfaaGreatDJC0c0
import Derived.Test.YtnackipaoepmfaaGreatDJC0a0
import Derived.Test.YtnackipaoepmfaaGreatDJC0d0
set_option linter.unusedSimpArgs false
set_option linter.unusedVariables false
set_option linter.unusedSimpArgs false
set_option linter.unusedVariables false
namespace Go.Proofs.YtnackipaoepmfaaGreat
open Go Go.RowKit
set_option maxRecDepth 100000
set_option maxHeartbeats 20000000
instance Z70 : ∀ (p0 : (List Q2)) (p1 : (Q2 → Option Bool)) {p1_f : FuncId} {p1_c : List D} [p1_i : CF1 (fun a0 => (.agg (Z2 a0))) (fun r => (eB r)) p1 p1_f p1_c], Ct (J4 p0 p1) fun res => Q9 Tryz.prog 0o00257 [(.slice 2 (List.map Z2 p0)), .clos p1_f p1_c] (fun d => d = (eB res)) :=
 au Tryz.func175 J4.eq_1 .z
end Go.Proofs.YtnackipaoepmfaaGreat
set_option linter.unusedSimpArgs false
set_option linter.unusedVariables false
namespace Go.Proofs.YtnackipaoepmfaaGreat
open Go Go.RowKit
set_option maxRecDepth 100000
set_option maxHeartbeats 20000000
instance W74 : ∀ (p0 : (List Q3)) (p1 : Q2), Ct (Q9t p0 p1) fun res => Q9 Tryz.prog 0o00500 [(.slice 2 (List.map Z6 p0)), (.agg (Z2 p1))] (fun d => d = (eB res)) :=
 au Tryz.func320 Q9t.eq_1 .z
end Go.Proofs.YtnackipaoepmfaaGreat
set_option linter.unusedSimpArgs false
set_option linter.unusedVariables false
namespace Go.Proofs.YtnackipaoepmfaaGreat
open Go Go.RowKit
set_option maxRecDepth 100000
set_option maxHeartbeats 20000000
instance Z4a : ∀ (p0 : (List Q8)) (p1 : (Q8 → Option Bool)) {p1_f : FuncId} {p1_c : List D} [p1_i : CF1 (fun a0 => (.agg (W9 a0))) (fun r => (eB r)) p1 p1_f p1_c], Ct (Q0i p0 p1) fun res => Q9 Tryz.prog 0o00560 [(.slice 3 (List.map W9 p0)), .clos p1_f p1_c] (fun d => d = (eB res)) :=
 au Tryz.func368 Q0i.eq_1 .z
end Go.Proofs.YtnackipaoepmfaaGreat
set_option linter.unusedSimpArgs false
set_option linter.unusedVariables false
namespace Go.Proofs.YtnackipaoepmfaaGreat
open Go Go.RowKit
set_option maxRecDepth 100000
set_option maxHeartbeats 20000000
instance Z4p : ∀ (n : Nat) (p0 : (List W6)) (p1 : Int) (p2 : Int) (p3 : Int) (p4 : (W6 → W6 → Option Int)) {p4_f : FuncId} {p4_c : List D} [p4_i : CF2 (fun a0 => (.agg (Q0q a0))) (fun a1 => (.agg (Q0q a1))) (fun r => (eI r)) p4 p4_f p4_c], Ct (Q0o n p0 p1 p2 p3 p4) fun res => Q1d Tryz.prog 0o00463 [⟨4, List.map Q0q p0, 0, 0x007e⟩] [.sl 4 0 p0.length, (eI p1), (eI p2), (eI p3), .clos p4_f p4_c] (fun H d => H = [some ⟨4, List.map Q0q res, 0, 0x007e⟩] ∧ d = .tup []) :=
 ar (au Tryz.func307 Q0o.eq_2 (.o (.o (.o (.o (.o (.o (.o (.o (.o (.o (.w [] [0] [0, 1, 2, 3, 4, 10, 11] [0] (fun (s10 : Unit) => []) (fun s10 => []) (fun s10 => .z) (fun s18 => .z)))))))))))))
end Go.Proofs.YtnackipaoepmfaaGreat
set_option linter.unusedSimpArgs false
set_option linter.unusedVariables false
namespace Go.Proofs.YtnackipaoepmfaaGreat
open Go Go.RowKit
set_option maxRecDepth 100000
set_option maxHeartbeats 20000000
instance W30 : ∀ (p0 : (List Q3)) (p1 : Q2), Ct (Q0e p0 p1) fun res => Q9 Tryz.prog 0o00231 [(.slice 2 (List.map Z6 p0)), (.agg (Z2 p1))] (fun d => d = (.slice 1 (List.map rI res))) :=
 au Tryz.func153 Q0e.eq_1 (.o (.o (.i .z (.b fun (x115 : Q3) => .le 0 1 3 Q5f x115.ctors x115 (.f [5] [16] [0, 3, 5, 6] [0, 16] (fun (k149 : Nat) (s145 : (List Int)) => [(5, .sl 1 16 (s145).length), (6, eI (k149 : Int))]) (fun k149 s145 => [(16, some ⟨1, (List.map rI s145), 0, 0x0003⟩)]) (fun k149 s145 => .o (.j 7 0 [0, 3, 5, 6] [0, 1] (fun (s157 : (List Int)) => [(5, .sl 1 1 (s157).length)]) (fun s157 => [(1, some ⟨1, (List.map rI s157), 0, 0x0003⟩)]) (.g [0, 3, 5, 6] [0, 1] [] [] (.o (.d [0, 1, 2, 3, 4, 5, 6, 7, 8, 9, 10, 11] [0] [] .z))) (fun _ => .z))) (fun s153 => .z))))))
end Go.Proofs.YtnackipaoepmfaaGreat
set_option linter.unusedSimpArgs false
set_option linter.unusedVariables false
namespace Go.Proofs.YtnackipaoepmfaaGreat
open Go Go.RowKit
set_option maxRecDepth 100000
set_option maxHeartbeats 20000000
instance W4v : ∀ (p0 : (List Q3)) (p1 : Q2) (p2 : Int), Ct (Q0h p0 p1 p2) fun res => Q9 Tryz.prog 0o00234 [(.slice 2 (List.map Z6 p0)), (.agg (Z2 p1)), (eI p2)] (fun d => d = (.slice 2 (List.map Z2 res))) :=
 au Tryz.func156 Q0h.eq_1 (.o (.o (.o (.o (.b fun (x2 : Q6b) => .lc 104 1 2 Z2 x2.args (.f [7] [16] [4, 7, 8, 9] [0, 16, 104] (fun (k118 : Nat) (s114 : (List Q2)) => [(7, .sl 2 16 (s114).length), (9, eI (k118 : Int))]) (fun k118 s114 => [(16, some ⟨2, (List.map Z2 s114), 0, 0x0019⟩)]) (fun k118 s114 => .b fun (x119 : Q2) => .j 7 0 [4, 7, 8, 9, 10] [0, 1, 2, 83] (fun (s133 : Int) => []) (fun s133 => [(83, some ⟨2, [[(eI x119.data), (eI s133)]], 0, 0x0019⟩)]) .z (fun _ => .z)) (fun s122 => .z)))))))
end Go.Proofs.YtnackipaoepmfaaGreat
set_option linter.unusedSimpArgs false
set_option linter.unusedVariables false
namespace Go.Proofs.YtnackipaoepmfaaGreat
open Go Go.RowKit
set_option maxRecDepth 100000
set_option maxHeartbeats 20000000
instance X8q : ∀ (n : Nat) (p0 : ByteArray), Ct (Q6d n p0) fun res => Q9 Tryz.prog 0o00537 [(eS p0)] (fun d => d = (eB res)) :=
 au Tryz.func351 Q6d.eq_1 (.o (.o (.i .z (.i .z (.o (.o (.i .z (.w [] [] [0, 3] [] (fun (s132 : Int) => [(3, eI s132)]) (fun s132 => []) (fun s132 => .z) (fun s140 => .z)))))))))
end Go.Proofs.YtnackipaoepmfaaGreat
set_option linter.unusedSimpArgs false
set_option linter.unusedVariables false
namespace Go.Proofs.YtnackipaoepmfaaGreat
open Go Go.RowKit
set_option maxRecDepth 100000
set_option maxHeartbeats 20000000
instance W2y : ∀ (n : Nat) (p0 : Int), Ct (Q7x n p0) fun res => Q9 Tryz.prog 0o00600 [(eI p0)] (fun d => d = (eS res)) :=
 au Tryz.func384 Q7x.eq_1 .z
end Go.Proofs.YtnackipaoepmfaaGreat
set_option linter.unusedSimpArgs false
set_option linter.unusedVariables false
namespace Go.Proofs.YtnackipaoepmfaaGreat
open Go Go.RowKit
set_option maxRecDepth 100000
set_option maxHeartbeats 20000000
instance W6z : ∀ (n : Nat) (p0 : Q0), Ct (Q23 n p0) fun res => Q1d Tryz.prog 0o00307 [] [(.agg (Q1 p0))] (fun H d => H = [some ⟨6, List.map Q1 res, 0, 0x0033⟩] ∧ d = .sl 6 0 res.length) :=
 ar (au Tryz.func199 Q23.eq_2 (.o (.o (.o (.i (.g [1] [0] [] [] (.o (.o (.o (.o (.o (.d [0, 1, 2, 3, 5, 6, 7, 8, 4, 9, 10, 11] [0] [] .z))))))) (.ls 29 (.f [4] [88] [4, 33, 34, 35] [88] (fun (k5018 : Nat) (s5014 : (List Q0)) => [(4, .sl 6 88 (s5014).length), (35, eI (k5018 : Int))]) (fun k5018 s5014 => [(88, some ⟨6, (List.map Q1 s5014), 0, 0x0033⟩)]) (fun k5018 s5014 => .o (.o (.pN 8 6 0x0033 (.ll 0 (.f [8, 33, 34, 35] [97] [7, 8, 33, 34, 35, 41, 42, 43] [50, 97, 0] (fun (k5936 : Nat) (s5932 : (List Q0)) => [(8, .sl 6 97 (s5932).length), (43, eI (k5936 : Int))]) (fun k5936 s5932 => [(97, some ⟨6, (List.map Q1 s5932), 0, 0x0033⟩)]) (fun k5936 s5932 => .o (.ll 0 (.f [7, 8, 33, 34, 35, 41, 42, 43] [0, 1, 2] [7, 8, 10, 33, 34, 35, 41, 42, 43, 47, 48, 49] [0, 1, 27, 2] (fun (k6006 : Nat) (s6002 : (List Q0)) => [(8, .sl 6 1 (s6002).length), (49, eI (k6006 : Int))]) (fun k6006 s6002 => [(1, some ⟨6, (List.map Q1 s6002), 0, 0x0033⟩)]) (fun k6006 s6002 => .o (.g [7, 8, 10, 12, 13, 33, 34, 35, 41, 42, 43, 47, 48, 49] [0, 1, 2, 28, 52, 3] [] [] (.o (.o (.dz [0, 1, 3, 2, 4, 5, 6, 7] [2, 3] [1048634] [] (.o (.pF 2097160 .z))))))) (fun s6010 => .z)))) (fun s5940 => .z)))))) (fun s5022 => .z))))))))
end Go.Proofs.YtnackipaoepmfaaGreat
set_option linter.unusedSimpArgs false
set_option linter.unusedVariables false
namespace Go.Proofs.YtnackipaoepmfaaGreat
open Go Go.RowKit
set_option maxRecDepth 100000
set_option maxHeartbeats 20000000
instance W2p : ∀ (n : Nat) (p0 : Q0), Ct (Q0r n p0) fun res => Q1d Tryz.prog 0o00324 [] [(.agg (Q1 p0))] (fun H d => H = [some ⟨6, List.map Q1 res, 0, 0x0033⟩] ∧ d = .sl 6 0 res.length) :=
 ar (au Tryz.func212 Q0r.eq_2 (.o (.o (.b fun (p0 : Q0) => .i (.g [1] [0] [] [] (.o (.o (.o (.o (.b fun (x16 : (List Q0)) => .d [0, 1, 2, 3, 5, 6, 7, 8, 4, 9, 10, 11] [0] [] (.i (.gr 4 [3] [17] [(3, .sl 6 17 (x16).length)] [(17, some ⟨6, (List.map Q1 x16), 0, 0x0033⟩)] (.b fun (x20 : (List Q0)) => .pS 0 401 Q1 x20 .z)) .z))))))) (.lc 0 5 6 Q1 p0.kids (.f [1, 4] [0, 40] [1, 4, 5] [0, 40] (fun (k76 : Nat) (s72 : (List (List Q0))) => [(4, .sl 1 40 (s72).length), (5, eI (k76 : Int))]) (fun k76 s72 => [(40, some ⟨1, (List.map (rL 6 Q1) s72), 0, 0x0031⟩)]) (fun k76 s72 => .o (.o (.o (.pF 91 .z)))) (fun s80 => .o (.ls 48 (.f [7] [26] [1, 6, 7, 8] [0, 26] (fun (k131 : Nat) (s127 : (List Q0)) => [(7, .sl 6 26 (s127).length), (8, eI (k131 : Int))]) (fun k131 s127 => [(26, some ⟨6, (List.map Q1 s127), 0, 0x0033⟩)]) (fun k131 s127 => .z) (fun s135 => .z))))))))))
end Go.Proofs.YtnackipaoepmfaaGreat
