import Derived.Test.YtnackipaoepmfaaGreatGJMir
import Derived.Test.YtnackipaoepmfaaGreatGJAuto
import Derived.Test.YtnackipaoepmfaaGreatGJC0c0
import Derived.Test.YtnackipaoepmfaaGreatGJC0b0
import Derived.Test.YtnackipaoepmfaaGreatGJC0a0
import Derived.Test.YtnackipaoepmfaaGreatGJC0d0
set_option linter.unusedSimpArgs false
set_option linter.unusedVariables false
set_option linter.unusedSimpArgs false
set_option linter.unusedVariables false
namespace Go.Proofs.YtnackipaoepmfaaGreat
open Go Go.RowKit
set_option maxRecDepth 100000
set_option maxHeartbeats 20000000
instance W65 : ∀ (p0 : (List Q3)) (p1 : Q2) (p2 : Int), Ct (Q0h p0 p1 p2) fun res => Q9 Tryz.prog 0o00234 [(.slice 2 (List.map X0 p0)), (.agg (Z6 p1)), (eI p2)] (fun d => d = (.slice 2 (List.map Z6 res))) :=
 au Tryz.func156 Q0h.eq_1 (.o (.o (.o (.o (.b fun (x2 : Q6j) => .lc 104 1 2 Z6 x2.args (.f [7] [16] [4, 7, 8, 9] [0, 16, 104] (fun (k118 : Nat) (s114 : (List Q2)) => [(7, .sl 2 16 (s114).length), (9, eI (k118 : Int))]) (fun k118 s114 => [(16, some ⟨2, (List.map Z6 s114), 0, 0x0019⟩)]) (fun k118 s114 => .b fun (x119 : Q2) => .j 7 0 [4, 7, 8, 9, 10] [0, 1, 2, 83] (fun (s133 : Int) => []) (fun s133 => [(83, some ⟨2, [[(eI x119.data), (eI s133)]], 0, 0x0019⟩)]) .z (fun _ => .z)) (fun s122 => .z)))))))
end Go.Proofs.YtnackipaoepmfaaGreat
set_option linter.unusedSimpArgs false
set_option linter.unusedVariables false
namespace Go.Proofs.YtnackipaoepmfaaGreat
open Go Go.RowKit
set_option maxRecDepth 100000
set_option maxHeartbeats 20000000
instance W43 : ∀ (p0 : (List Q3)) (p1 : Q2), Ct (Q0d p0 p1) fun res => Q9 Tryz.prog 0o00231 [(.slice 2 (List.map X0 p0)), (.agg (Z6 p1))] (fun d => d = (.slice 1 (List.map rI res))) :=
 au Tryz.func153 Q0d.eq_1 (.o (.o (.i .z (.b fun (x115 : Q3) => .le 0 1 3 Q5r x115.ctors x115 (.f [5] [16] [0, 3, 5, 6] [0, 16] (fun (k149 : Nat) (s145 : (List Int)) => [(5, .sl 1 16 (s145).length), (6, eI (k149 : Int))]) (fun k149 s145 => [(16, some ⟨1, (List.map rI s145), 0, 0x0003⟩)]) (fun k149 s145 => .o (.j 7 0 [0, 3, 5, 6] [0, 1] (fun (s157 : (List Int)) => [(5, .sl 1 1 (s157).length)]) (fun s157 => [(1, some ⟨1, (List.map rI s157), 0, 0x0003⟩)]) (.g [0, 3, 5, 6] [0, 1] [] [] (.o (.d [0, 1, 2, 3, 4, 5, 6, 7, 8, 9, 10, 11] [0] [] .z))) (fun _ => .z))) (fun s153 => .z))))))
end Go.Proofs.YtnackipaoepmfaaGreat
set_option linter.unusedSimpArgs false
set_option linter.unusedVariables false
namespace Go.Proofs.YtnackipaoepmfaaGreat
open Go Go.RowKit
set_option maxRecDepth 100000
set_option maxHeartbeats 20000000
instance W3v : ∀ (p0 : (List Q7)) (p1 : (List Q7)), Ct (Q42 p0 p1) fun res => Q9 Tryz.prog 0o00515 [(.slice 3 (List.map W8 p0)), (.slice 3 (List.map W8 p1))] (fun d => d = (eB res)) :=
 au Tryz.func333 Q42.eq_1 (.o (.o (.ls 0 (.f [0, 1] [] [0, 1, 5] [] (fun (k124 : Nat) (s120 : Unit) => [(5, eI (k124 : Int))]) (fun k124 s120 => []) (fun k124 s120 => .o (.o (.g [0, 1, 5, 6] [] [] [] (.i (.d [0, 1, 2, 3, 4, 5, 6, 7, 8, 9, 10, 11, 12, 13, 14] [] [] .z) (.o (.d [0, 1, 2, 3, 4, 5, 6, 7, 8, 9, 10, 11, 12, 13, 14] [] [] .z)))))) (fun s128 => .z)))))
end Go.Proofs.YtnackipaoepmfaaGreat
set_option linter.unusedSimpArgs false
set_option linter.unusedVariables false
namespace Go.Proofs.YtnackipaoepmfaaGreat
open Go Go.RowKit
set_option maxRecDepth 100000
set_option maxHeartbeats 20000000
instance W41 : ∀ (n : Nat) (p0 : Int), Ct (Q81 n p0) fun res => Q9 Tryz.prog 0o00600 [(eI p0)] (fun d => d = (eS res)) :=
 au Tryz.func384 Q81.eq_1 .z
end Go.Proofs.YtnackipaoepmfaaGreat
set_option linter.unusedSimpArgs false
set_option linter.unusedVariables false
namespace Go.Proofs.YtnackipaoepmfaaGreat
open Go Go.RowKit
set_option maxRecDepth 100000
set_option maxHeartbeats 20000000
instance W6b : ∀ (p0 : (List Q3)) (p1 : Q2), Ct (Q5y p0 p1) fun res => Q9 Tryz.prog 0o00253 [(.slice 2 (List.map X0 p0)), (.agg (Z6 p1))] (fun d => d = (eB res)) :=
 au Tryz.func171 Q5y.eq_1 .z
end Go.Proofs.YtnackipaoepmfaaGreat
set_option linter.unusedSimpArgs false
set_option linter.unusedVariables false
namespace Go.Proofs.YtnackipaoepmfaaGreat
open Go Go.RowKit
set_option maxRecDepth 100000
set_option maxHeartbeats 20000000
instance W8d : ∀ (p0 : Int), Ct (Q5m p0) fun res => Q9 Tryz.prog 0o00555 [(eI p0)] (fun d => d = (eB res)) :=
 au Tryz.func365 Q5m.eq_1 .z
end Go.Proofs.YtnackipaoepmfaaGreat
set_option linter.unusedSimpArgs false
set_option linter.unusedVariables false
namespace Go.Proofs.YtnackipaoepmfaaGreat
open Go Go.RowKit
set_option maxRecDepth 100000
set_option maxHeartbeats 20000000
instance X33 : ∀ (p0 : (List Int)) (p1 : (List Q3)) (p2 : Q2) (p3 : Int), Ct (Q0w p0 p1 p2 p3) fun res => Q9 Tryz.prog 0o00414 [.cptr (List.map cI p0), (.slice 2 (List.map X0 p1)), (.agg (Z6 p2)), (eI p3)] (fun d => d = (eI res)) :=
 au Tryz.func268 Q0w.eq_1 (.o (.o (.o (.o (.o (.ls 16 (.f [9] [] [0, 9, 16, 17, 18] [] (fun (k68 : Nat) (s64 : Int) => [(9, eI s64), (18, eI (k68 : Int))]) (fun k68 s64 => []) (fun k68 s64 => .z) (fun s72 => .z))))))))
end Go.Proofs.YtnackipaoepmfaaGreat
set_option linter.unusedSimpArgs false
set_option linter.unusedVariables false
namespace Go.Proofs.YtnackipaoepmfaaGreat
open Go Go.RowKit
set_option maxRecDepth 100000
set_option maxHeartbeats 20000000
instance Z4f : ∀ (p0 : (List Q0)) (p1 : (Q0 → Option Bool)) {p1_f : FuncId} {p1_c : List D} [p1_i : CF1 (fun a0 => (.agg (Q1 a0))) (fun r => (eB r)) p1 p1_f p1_c], Ct (Q0j p0 p1) fun res => Q9 Tryz.prog 0o00313 [(.slice 6 (List.map Q1 p0)), .clos p1_f p1_c] (fun d => d = (eB res)) :=
 au Tryz.func203 Q0j.eq_1 .z
end Go.Proofs.YtnackipaoepmfaaGreat
set_option linter.unusedSimpArgs false
set_option linter.unusedVariables false
namespace Go.Proofs.YtnackipaoepmfaaGreat
open Go Go.RowKit
set_option maxRecDepth 100000
set_option maxHeartbeats 20000000
instance W89 : ∀ (n : Nat) (p0 : Q0), Ct (Q24 n p0) fun res => Q0k Tryz.prog 0o00307 [] [(.agg (Q1 p0))] (fun H d => H = [some ⟨6, List.map Q1 res, 0, 0x0033⟩] ∧ d = .sl 6 0 res.length) :=
 ar (au Tryz.func199 Q24.eq_2 (.o (.o (.o (.i (.g [1] [0] [] [] (.o (.o (.o (.o (.o (.d [0, 1, 2, 3, 5, 6, 7, 8, 4, 9, 10, 11] [0] [] .z))))))) (.ls 29 (.f [4] [88] [4, 33, 34, 35] [88] (fun (k5018 : Nat) (s5014 : (List Q0)) => [(4, .sl 6 88 (s5014).length), (35, eI (k5018 : Int))]) (fun k5018 s5014 => [(88, some ⟨6, (List.map Q1 s5014), 0, 0x0033⟩)]) (fun k5018 s5014 => .o (.o (.pN 8 6 0x0033 (.ll 0 (.f [8, 33, 34, 35] [97] [7, 8, 33, 34, 35, 41, 42, 43] [50, 97, 0] (fun (k5936 : Nat) (s5932 : (List Q0)) => [(8, .sl 6 97 (s5932).length), (43, eI (k5936 : Int))]) (fun k5936 s5932 => [(97, some ⟨6, (List.map Q1 s5932), 0, 0x0033⟩)]) (fun k5936 s5932 => .o (.ll 0 (.f [7, 8, 33, 34, 35, 41, 42, 43] [0, 1, 2] [7, 8, 10, 33, 34, 35, 41, 42, 43, 47, 48, 49] [0, 1, 27, 2] (fun (k6006 : Nat) (s6002 : (List Q0)) => [(8, .sl 6 1 (s6002).length), (49, eI (k6006 : Int))]) (fun k6006 s6002 => [(1, some ⟨6, (List.map Q1 s6002), 0, 0x0033⟩)]) (fun k6006 s6002 => .o (.g [7, 8, 10, 12, 13, 33, 34, 35, 41, 42, 43, 47, 48, 49] [0, 1, 2, 28, 52, 3] [] [] (.o (.o (.dz [0, 1, 3, 2, 4, 5, 6, 7] [2, 3] [1048634] [] (.o (.pF 2097160 .z))))))) (fun s6010 => .z)))) (fun s5940 => .z)))))) (fun s5022 => .z))))))))
end Go.Proofs.YtnackipaoepmfaaGreat
set_option linter.unusedSimpArgs false
set_option linter.unusedVariables false
namespace Go.Proofs.YtnackipaoepmfaaGreat
open Go Go.RowKit
set_option maxRecDepth 100000
set_option maxHeartbeats 20000000
instance W3s : ∀ (n : Nat) (p0 : Q0), Ct (Q0q n p0) fun res => Q0k Tryz.prog 0o00324 [] [(.agg (Q1 p0))] (fun H d => H = [some ⟨6, List.map Q1 res, 0, 0x0033⟩] ∧ d = .sl 6 0 res.length) :=
 ar (au Tryz.func212 Q0q.eq_2 (.o (.o (.b fun (p0 : Q0) => .i (.g [1] [0] [] [] (.o (.o (.o (.o (.b fun (x16 : (List Q0)) => .d [0, 1, 2, 3, 5, 6, 7, 8, 4, 9, 10, 11] [0] [] (.i (.gr 4 [3] [17] [(3, .sl 6 17 (x16).length)] [(17, some ⟨6, (List.map Q1 x16), 0, 0x0033⟩)] (.b fun (x20 : (List Q0)) => .pS 0 401 Q1 x20 .z)) .z))))))) (.lc 0 5 6 Q1 p0.kids (.f [1, 4] [0, 40] [1, 4, 5] [0, 40] (fun (k76 : Nat) (s72 : (List (List Q0))) => [(4, .sl 1 40 (s72).length), (5, eI (k76 : Int))]) (fun k76 s72 => [(40, some ⟨1, (List.map (rL 6 Q1) s72), 0, 0x0031⟩)]) (fun k76 s72 => .o (.o (.o (.pF 91 .z)))) (fun s80 => .o (.ls 48 (.f [7] [26] [1, 6, 7, 8] [0, 26] (fun (k131 : Nat) (s127 : (List Q0)) => [(7, .sl 6 26 (s127).length), (8, eI (k131 : Int))]) (fun k131 s127 => [(26, some ⟨6, (List.map Q1 s127), 0, 0x0033⟩)]) (fun k131 s127 => .z) (fun s135 => .z))))))))))
end Go.Proofs.YtnackipaoepmfaaGreat
set_option linter.unusedSimpArgs false
set_option linter.unusedVariables false
namespace Go.Proofs.YtnackipaoepmfaaGreat
open Go Go.RowKit
set_option maxRecDepth 100000
set_option maxHeartbeats 20000000
instance X9v : ∀ (n : Nat) (p0 : Q4) (p1 : Q4), Ct (Q2m n p0 p1) fun res => Q9 Tryz.prog 0o00134 [(.agg (V0 p0)), (.agg (V0 p1))] (fun d => d = (eB res)) :=
 ar (au Tryz.func92 Q2m.eq_2 .z)
end Go.Proofs.YtnackipaoepmfaaGreat
