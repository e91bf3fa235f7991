import Derived.Test.YtnackipaoepmfaaGreatJMir
import Derived.Test.YtnackipaoepmfaaGreatJAuto
import Derived.Test.YtnackipaoepmfaaGreatJCs0
set_option linter.unusedSimpArgs false
set_option linter.unusedVariables false
set_option linter.unusedSimpArgs false
set_option linter.unusedVariables false
namespace Go.Proofs.YtnackipaoepmfaaGreat
open Go Go.RowKit
set_option maxRecDepth 100000
set_option maxHeartbeats 20000000
instance W6f : ∀ (n : Nat) (p0 : (List Q3)), Ct (Q93 n p0) fun res => Z1 Tryz.prog 0o00521 [(.slice 2 (List.map V0 p0))] (fun d => d = (eS res)) :=
 au Tryz.func337 Q93.eq_1 (.o (.o (.ls 0 (.f [3] [] [0, 3, 4] [] (fun (k866 : Nat) (s862 : ByteArray) => [(3, eS s862), (4, eI (k866 : Int))]) (fun k866 s862 => []) (fun k866 s862 => .b fun (x867 : Q3) => .j 5 1 [0, 3, 4] [] (fun (s956 : ByteArray) => [(3, eS s956)]) (fun _ => []) .z (fun s956 => .o (.o (.le 0 1 3 Q5u x867.ctors x867 (.f [0, 3, 4] [] [0, 3, 4, 5] [] (fun (k1014 : Nat) (s1010 : ByteArray) => [(3, eS s1010), (5, eI (k1014 : Int))]) (fun k1014 s1010 => []) (fun k1014 s1010 => .o (.j 11 1 [0, 3, 4, 5] [] (fun (s1030 : ByteArray) => [(3, eS s1030)]) (fun _ => []) .z (fun _ => .z))) (fun s1018 => .z)))))) (fun s870 => .z)))))
end Go.Proofs.YtnackipaoepmfaaGreat
set_option linter.unusedSimpArgs false
set_option linter.unusedVariables false
namespace Go.Proofs.YtnackipaoepmfaaGreat
open Go Go.RowKit
set_option maxRecDepth 100000
set_option maxHeartbeats 20000000
instance X8i : ∀ (n : Nat) (p0 : ByteArray), Ct (Q4t n p0) fun res => Z1 Tryz.prog 0o00460 [(eS p0)] (fun d => d = .tup [(.slice 2 (List.map V0 res.1)), (eB res.2)]) :=
 au Tryz.func304 Q4t.eq_1 (.o (.o (.o (.ls 16 (.f [0, 4, 5, 6] [16, 32] [0, 4, 5, 6, 7] [16, 32] (fun (k153 : Nat) (s149 : (List ByteArray)) => [(5, .sl 1 32 (s149).length), (7, eI (k153 : Int))]) (fun k153 s149 => [(32, some ⟨1, (List.map rS s149), 0, 0x0009⟩)]) (fun k153 s149 => .z) (fun s157 => .pF 1 (.ll 1 (.f [0, 4] [0] [0, 4, 5, 6, 9] [0, 1] (fun (k1263 : Nat) (s1259 : (List Q3)) => [(4, .sl 2 0 (s1259).length), (9, eI (k1263 : Int))]) (fun k1263 s1259 => [(0, some ⟨2, (List.map V0 s1259), 0, 0x009e⟩)]) (fun k1263 s1259 => .b fun (x1264 : ByteArray) => .o (.o (.o (.o (.pC 146 1 3 0x0116 (.ls 59 (.f [0, 4, 5, 6, 9, 11] [0, 1, 146, 170] [0, 4, 5, 6, 9, 10, 11, 12] [0, 1, 146, 170] (fun (k1466 : Nat) (s1462 : (List Q6r)) => [(12, eI (k1466 : Int))]) (fun k1466 s1462 => [(1000000146, some ⟨2, [[(eS x1264), (.sl 3 170 (s1462).length)]], 0, 0x009e⟩), (170, some ⟨3, (List.map Q5u s1462), 0, 0x0116⟩)]) (fun k1466 s1462 => .o (.i (.g [0, 4, 5, 6, 9, 10, 11, 12] [0, 1, 2, 3] [] [(1000000002, some ⟨2, [[(eS x1264), (.sl 3 3 (s1462).length)]], 0, 0x009e⟩)] (.o (.o (.d [0, 1, 2, 3, 4, 5, 6, 7, 8, 9, 10, 11] [2] [85] .z)))) .z)) (fun s1470 => .o (.pF 3 .z))))))))) (fun s1267 => .z)))))))))
end Go.Proofs.YtnackipaoepmfaaGreat
set_option linter.unusedSimpArgs false
set_option linter.unusedVariables false
namespace Go.Proofs.YtnackipaoepmfaaGreat
open Go Go.RowKit
set_option maxRecDepth 100000
set_option maxHeartbeats 20000000
instance W43 : Ct (Q43) fun res => Z1 Tryz.prog 0o00457 [] (fun d => d = (.slice 1 (List.map rS res))) :=
 au Tryz.func303 Q43.eq_1 .z
end Go.Proofs.YtnackipaoepmfaaGreat
set_option linter.unusedSimpArgs false
set_option linter.unusedVariables false
namespace Go.Proofs.YtnackipaoepmfaaGreat
open Go Go.RowKit
set_option maxRecDepth 100000
set_option maxHeartbeats 20000000
instance W41 : ∀ (n : Nat) (p0 : Z8), Ct (Q54 n p0) fun res => J6 Tryz.prog 0o00363 [⟨2, [(Y1 p0)], 0, 0x00c4⟩] [.ptr 2 0 0 0] (fun H d => H = [some ⟨2, [(Y1 res.2)], 0, 0x00c4⟩] ∧ d = (.slice 2 (List.map V0 res.1))) :=
 au Tryz.func243 Q54.eq_1 .z
end Go.Proofs.YtnackipaoepmfaaGreat
set_option linter.unusedSimpArgs false
set_option linter.unusedVariables false
namespace Go.Proofs.YtnackipaoepmfaaGreat
open Go Go.RowKit
set_option maxRecDepth 100000
set_option maxHeartbeats 20000000
instance W3z : ∀ (n : Nat) (p0 : Z8), Ct (Q53 n p0) fun res => J6 Tryz.prog 0o00227 [⟨2, [(Y1 p0)], 0, 0x00c4⟩] [.ptr 2 0 0 0] (fun H d => H = [some ⟨2, [(Y1 res.2.2.2)], 0, 0x00c4⟩] ∧ d = .tup [(.slice 2 (List.map V0 res.1)), (.agg (W9 res.2.1)), (.agg (W2 res.2.2.1))]) :=
 au Tryz.func151 Q53.eq_1 (.o (.o (.o (.o (.o (.o (.j 4 0 [0, 3, 4, 5, 6, 7] [0, 9, 17, 137] (fun (s7 : Int × Int) => []) (fun s7 => [(137, some ⟨2, [[(eI s7.1), (eI s7.2)]], 0, 0x0019⟩)]) .z (fun _ => .g [0, 3, 4, 5, 6, 7] [0, 1, 2, 3] [] [] (.o (.o (.d [0, 1, 2, 3, 4, 5, 6, 7, 8, 9, 10, 11, 12] [3] [] .z)))))))))))
end Go.Proofs.YtnackipaoepmfaaGreat
set_option linter.unusedSimpArgs false
set_option linter.unusedVariables false
namespace Go.Proofs.YtnackipaoepmfaaGreat
open Go Go.RowKit
set_option maxRecDepth 100000
set_option maxHeartbeats 20000000
instance W3s : ∀ (n : Nat) (p0 : Z8), Ct (Q52 n p0) fun res => J6 Tryz.prog 0o00104 [⟨2, [(Y1 p0)], 0, 0x00c4⟩] [.ptr 2 0 0 0] (fun H d => H = [some ⟨2, [(Y1 res.2.2.2.2)], 0, 0x00c4⟩, some ⟨9, List.map V6 res.2.2.1, 0, 0x0037⟩] ∧ d = .tup [(.slice 2 (List.map V0 res.1)), (.agg (W9 res.2.1)), .sl 9 1 res.2.2.1.length, (.agg (W2 res.2.2.2.1))]) :=
 au Tryz.func68 Q52.eq_1 (.o (.o (.o (.g [0, 3, 5, 6, 7, 8] [0, 9, 25, 81, 89] [] [] (.o (.d [0, 1, 2, 3, 4, 6, 5, 7, 8, 9, 10] [3, 4] [] .z))))))
end Go.Proofs.YtnackipaoepmfaaGreat
set_option linter.unusedSimpArgs false
set_option linter.unusedVariables false
namespace Go.Proofs.YtnackipaoepmfaaGreat
open Go Go.RowKit
set_option maxRecDepth 100000
set_option maxHeartbeats 20000000
instance W1z : ∀ (n : Nat) (p0 : Z8) (p1 : Q2), Ct (Q1o n p0 p1) fun res => J6 Tryz.prog 0o00110 [⟨2, [(Y1 p0)], 0, 0x00c4⟩] [.ptr 2 0 0 0, (.agg (W2 p1))] (fun H d => H = [some ⟨2, [(Y1 res.2)], 0, 0x00c4⟩] ∧ d = (.agg (W2 res.1))) :=
 ar (au Tryz.func72 Q1o.eq_2 (.o (.o (.o (.b fun (p1 : Q2) => .g [0, 3, 4] [0, 1, 9] [] [] (.o (.dz [0, 1, 2, 3, 5, 6, 4, 7, 8, 9, 10] [1] [1048581] [] (.j 2 0 [4, 5] [0, 2, 1048581, 2097160] (fun (s15 : Z8 × Int × Int × (List Q2)) => []) (fun s15 => [(0, some ⟨2, [(Y1 s15.1)], 0, 0x00c4⟩), (1001048581, some ⟨3, [[(eI s15.2.1), (eI s15.2.2.1), (.sl 3 2097160 (s15.2.2.2).length)]], 0, 0x002f⟩), (2097160, some ⟨3, (List.map W2 s15.2.2.2), 0, 0x002f⟩)]) (.o (.i .z (.i .z (.i .z (.i (.i (.g [0, 4, 5] [0, 2, 1048581, 2097160] [] [(1001048581, some ⟨3, [[(eI p1.ctor), (eI p1.n), (.sl 3 2097160 (p1.kids).length)]], 0, 0x002f⟩)] (.o (.o (.o (.o (.d [0, 1, 2, 3, 4, 5, 6, 7, 8, 9, 10, 11] [2, 3] [53] .z)))))) .z) .z))))) (fun _ => .pF 3 .z)))))))))
end Go.Proofs.YtnackipaoepmfaaGreat
set_option linter.unusedSimpArgs false
set_option linter.unusedVariables false
namespace Go.Proofs.YtnackipaoepmfaaGreat
open Go Go.RowKit
set_option maxRecDepth 100000
set_option maxHeartbeats 20000000
instance X6n : ∀ (n : Nat) (p0 : (List Int)), Ct (Q1t n p0) fun res => Z1 Tryz.prog 0o00042 [(.slice 1 (List.map (rK .u8) p0))] (fun d => d = .tup [(.slice 2 (List.map V0 res.1)), (.agg (W9 res.2.1)), (.slice 9 (List.map V6 res.2.2.1)), (eI res.2.2.2.1), (.agg (W2 res.2.2.2.2))]) :=
 au Tryz.func34 Q1t.eq_1 (.o (.o (.o (.o (.g [3, 6, 7, 8, 9, 10, 11] [8, 32, 49, 120, 73, 128] [] [] (.o (.o (.o (.dz [0, 1, 2, 3, 5, 8, 9, 4, 6, 7, 10, 11, 12, 13, 14, 15] [3, 5] [1048603] [] .z)))))))))
end Go.Proofs.YtnackipaoepmfaaGreat
set_option linter.unusedSimpArgs false
set_option linter.unusedVariables false
namespace Go.Proofs.YtnackipaoepmfaaGreat
open Go Go.RowKit
set_option maxRecDepth 100000
set_option maxHeartbeats 20000000
instance V0c : ∀ (p0 : (List Q3)) (p1 : Q5), Ct (Q7k p0 p1) fun res => Z1 Tryz.prog 0o00401 [(.slice 2 (List.map V0 p0)), (.agg (W9 p1))] (fun d => d = (eB res)) :=
 au Tryz.func257 Q7k.eq_1 .z
end Go.Proofs.YtnackipaoepmfaaGreat
set_option linter.unusedSimpArgs false
set_option linter.unusedVariables false
namespace Go.Proofs.YtnackipaoepmfaaGreat
open Go Go.RowKit
set_option maxRecDepth 100000
set_option maxHeartbeats 20000000
instance X9s : ∀ (n : Nat) (p0 : (List Q3)) (p1 : Q5), Ct (Q3w n p0 p1) fun res => Z1 Tryz.prog 0o00242 [(.slice 2 (List.map V0 p0)), (.agg (W9 p1))] (fun d => d = (eB res)) :=
 au Tryz.func162 Q3w.eq_1 .z
end Go.Proofs.YtnackipaoepmfaaGreat
set_option linter.unusedSimpArgs false
set_option linter.unusedVariables false
namespace Go.Proofs.YtnackipaoepmfaaGreat
open Go Go.RowKit
set_option maxRecDepth 100000
set_option maxHeartbeats 20000000
instance W3t : ∀ (p0 : Q2i) (p1 : (List Q9)), Ct (Q41 p0 p1) fun res => Z1 Tryz.prog 0o00402 [(.agg (Q6t p0)), (.slice 3 (List.map V4 p1))] (fun d => d = (eB res)) :=
 au Tryz.func258 Q41.eq_1 (.o (.o (.i .z (.j 3 0 [1, 2] [0] (fun (s23 : Unit) => []) (fun _ => []) .z (fun _ => .z)))))
end Go.Proofs.YtnackipaoepmfaaGreat
set_option linter.unusedSimpArgs false
set_option linter.unusedVariables false
namespace Go.Proofs.YtnackipaoepmfaaGreat
open Go Go.RowKit
set_option maxRecDepth 100000
set_option maxHeartbeats 20000000
instance V09 : ∀ (n : Nat) (p0 : (List Q3)) (p1 : Q5) (p2 : Q7), Ct (Q7h n p0 p1 p2) fun res => Z1 Tryz.prog 0o00243 [(.slice 2 (List.map V0 p0)), (.agg (W9 p1)), (.agg (V6 p2))] (fun d => d = (eB res)) :=
 au Tryz.func163 Q7h.eq_1 (.o (.o (.o (.o (.g [0, 4, 5] [0, 8] [] [] (.o (.i (.o (.o (.d [0, 1, 2, 3, 4, 5, 6, 7, 8, 9, 10, 11, 12, 13, 14, 15] [0, 1] [] .z))) (.d [0, 1, 2, 3, 4, 5, 6, 7, 8, 9, 10, 11, 12, 13, 14, 15] [0, 1] [] .z))))))))
end Go.Proofs.YtnackipaoepmfaaGreat
set_option linter.unusedSimpArgs false
set_option linter.unusedVariables false
namespace Go.Proofs.YtnackipaoepmfaaGreat
open Go Go.RowKit
set_option maxRecDepth 100000
set_option maxHeartbeats 20000000
instance X4y : ∀ (n : Nat) (p0 : (List Q3)) (p1 : Q5) (p2 : (List Q7)), Ct (Q1d n p0 p1 p2) fun res => Z1 Tryz.prog 0o00114 [(.slice 2 (List.map V0 p0)), (.agg (W9 p1)), (.slice 9 (List.map V6 p2))] (fun d => d = (eB res)) :=
 au Tryz.func76 Q1d.eq_1 (.o (.o (.o (.o (.o (.i .z (.i .z (.ls 2 (.f [] [] [0, 2, 4, 7] [0] (fun (k70 : Nat) (s66 : Unit) => [(7, eI (k70 : Int))]) (fun k70 s66 => []) (fun k70 s66 => .o (.g [0, 2, 4, 7] [0] [] [] (.o (.d [0, 1, 2, 3, 4, 5, 6, 7] [0] [] .z)))) (fun s74 => .z))))))))))
end Go.Proofs.YtnackipaoepmfaaGreat
set_option linter.unusedSimpArgs false
set_option linter.unusedVariables false
namespace Go.Proofs.YtnackipaoepmfaaGreat
open Go Go.RowKit
set_option maxRecDepth 100000
set_option maxHeartbeats 20000000
instance W1w : ∀ (p0 : (List (List Q0))), Ct (Q3d p0) fun res => Z1 Tryz.prog 0o00427 [(.slice 1 (List.map (rL 6 Q8) p0))] (fun d => d = (.slice 1 (List.map (rL 6 Q8) res))) :=
 au Tryz.func279 Q3d.eq_1 (.o (.pF 8 (.ls 0 (.f [3] [16] [0, 3, 4] [16] (fun (k12196 : Nat) (s12192 : (List (List Q0))) => [(3, .sl 1 16 (s12192).length), (4, eI (k12196 : Int))]) (fun k12196 s12192 => [(16, some ⟨1, (List.map (rL 6 Q8) s12192), 0, 0x0031⟩)]) (fun k12196 s12192 => .b fun (x12197 : (List Q0)) => .ll 0 (.f [0, 4, 5] [33] [0, 3, 4, 5, 6] [0, 33] (fun (k13570 : Nat) (s13566 : (List (List Q0))) => [(5, .sl 1 33 (s13566).length), (6, eI (k13570 : Int))]) (fun k13570 s13566 => [(33, some ⟨1, (List.map (rL 6 Q8) s13566), 0, 0x0031⟩)]) (fun k13570 s13566 => .o (.i (.le 0 0 6 Q8 x12197 x12197 (.f [0, 3, 4, 5, 6] [0, 1] [0, 3, 4, 5, 6, 7] [0, 1] (fun (k13668 : Nat) (s13664 : (List (List Q0))) => [(5, .sl 1 1 (s13664).length), (7, eI (k13668 : Int))]) (fun k13668 s13664 => [(1, some ⟨1, (List.map (rL 6 Q8) s13664), 0, 0x0031⟩)]) (fun k13668 s13664 => .o (.i (.g [0, 3, 4, 5, 6, 7] [0, 1] [] [] (.o (.o (.o (.dz [0, 2, 3, 4, 5, 7, 8, 9, 10, 11, 12, 13, 1, 6, 14, 15, 16, 17, 18] [0] [1048632] [] (.pF 2097168 .z)))))) .z)) (fun s13672 => .z))) .z)) (fun s13574 => .z))) (fun s12200 => .z)))))
end Go.Proofs.YtnackipaoepmfaaGreat
set_option linter.unusedSimpArgs false
set_option linter.unusedVariables false
namespace Go.Proofs.YtnackipaoepmfaaGreat
open Go Go.RowKit
set_option maxRecDepth 100000
set_option maxHeartbeats 20000000
instance W3v : ∀ (n : Nat) (p0 : Q0), Ct (Q08 n p0) fun res => J6 Tryz.prog 0o00324 [] [(.agg (Q8 p0))] (fun H d => H = [some ⟨6, List.map Q8 res, 0, 0x0033⟩] ∧ d = .sl 6 0 res.length) :=
 ar (au Tryz.func212 Q08.eq_2 (.o (.o (.b fun (p0 : Q0) => .i (.g [1] [0] [] [] (.o (.o (.o (.o (.b fun (x16 : (List Q0)) => .d [0, 1, 2, 3, 5, 6, 7, 8, 4, 9, 10, 11] [0] [] (.i (.gr 4 [3] [17] [(3, .sl 6 17 (x16).length)] [(17, some ⟨6, (List.map Q8 x16), 0, 0x0033⟩)] (.b fun (x20 : (List Q0)) => .pS 0 401 Q8 x20 .z)) .z))))))) (.lc 0 5 6 Q8 p0.kids (.f [1, 4] [0, 40] [1, 4, 5] [0, 40] (fun (k76 : Nat) (s72 : (List (List Q0))) => [(4, .sl 1 40 (s72).length), (5, eI (k76 : Int))]) (fun k76 s72 => [(40, some ⟨1, (List.map (rL 6 Q8) s72), 0, 0x0031⟩)]) (fun k76 s72 => .o (.o (.o (.pF 91 .z)))) (fun s80 => .o (.ls 48 (.f [7] [26] [1, 6, 7, 8] [0, 26] (fun (k131 : Nat) (s127 : (List Q0)) => [(7, .sl 6 26 (s127).length), (8, eI (k131 : Int))]) (fun k131 s127 => [(26, some ⟨6, (List.map Q8 s127), 0, 0x0033⟩)]) (fun k131 s127 => .z) (fun s135 => .z))))))))))
end Go.Proofs.YtnackipaoepmfaaGreat
set_option linter.unusedSimpArgs false
set_option linter.unusedVariables false
namespace Go.Proofs.YtnackipaoepmfaaGreat
open Go Go.RowKit
set_option maxRecDepth 100000
set_option maxHeartbeats 20000000
instance W3o : ∀ (p0 : V3), Ct (Q31 p0) fun res => Z1 Tryz.prog 0o00430 [(.agg (Q1n p0))] (fun d => d = (eI res)) :=
 au Tryz.func280 Q31.eq_1 (.b fun (p0 : V3) => .lc 0 1 6 Q8 p0.pats (.f [] [] [1, 3] [0] (fun (k44 : Nat) (s40 : Unit) => [(3, eI (k44 : Int))]) (fun k44 s40 => []) (fun k44 s40 => .z) (fun s48 => .z)))
end Go.Proofs.YtnackipaoepmfaaGreat
set_option linter.unusedSimpArgs false
set_option linter.unusedVariables false
namespace Go.Proofs.YtnackipaoepmfaaGreat
open Go Go.RowKit
set_option maxRecDepth 100000
set_option maxHeartbeats 20000000
instance W3q : ∀ (n : Nat) (p0 : (List Q1)), Ct (Q33 n p0) fun res => Z1 Tryz.prog 0o00431 [(.slice 2 (List.map Z2 p0))] (fun d => d = (.slice 2 (List.map Z2 res))) :=
 au Tryz.func281 Q33.eq_1 (.o (.o (.w [3] [8] [0, 3, 4] [8] (fun (s496 : (List Q1) × Int) => [(3, .sl 2 8 (s496.1).length), (4, eI s496.2)]) (fun s496 => [(8, some ⟨2, (List.map Z2 s496.1), 0, 0x010a⟩)]) (fun s496 => .i (.ls 0 (.f [0, 3, 4] [0] [0, 3, 4, 5] [0] (fun (k587 : Nat) (s583 : (List Q1)) => [(3, .sl 2 0 (s583).length), (5, eI (k587 : Int))]) (fun k587 s583 => [(0, some ⟨2, (List.map Z2 s583), 0, 0x010a⟩)]) (fun k587 s583 => .o (.j 8 0 [0, 3, 4, 5] [0] (fun (s595 : (List Q1)) => [(3, .sl 2 0 (s595).length)]) (fun s595 => [(0, some ⟨2, (List.map Z2 s595), 0, 0x010a⟩)]) (.i (.o (.o (.pF 153 .z))) .z) (fun _ => .z))) (fun s591 => .z))) .z) (fun s504 => .z))))
end Go.Proofs.YtnackipaoepmfaaGreat
set_option linter.unusedSimpArgs false
set_option linter.unusedVariables false
namespace Go.Proofs.YtnackipaoepmfaaGreat
open Go Go.RowKit
set_option maxRecDepth 100000
set_option maxHeartbeats 20000000
instance W3n : ∀ (p0 : (List V3)) (p1 : Int), Ct (Q30 p0 p1) fun res => Z1 Tryz.prog 0o00432 [(.slice 3 (List.map Q1n p0)), (eI p1)] (fun d => d = (.slice 3 (List.map Q1n res))) :=
 au Tryz.func282 Q30.eq_1 (.o (.o (.ls 0 (.f [5] [8] [0, 1, 5, 6] [8] (fun (k71 : Nat) (s67 : (List V3)) => [(5, .sl 3 8 (s67).length), (6, eI (k71 : Int))]) (fun k71 s67 => [(8, some ⟨3, (List.map Q1n s67), 0, 0x0147⟩)]) (fun k71 s67 => .o (.j 5 0 [0, 1, 5, 6] [0] (fun (s78 : (List V3)) => [(5, .sl 3 0 (s78).length)]) (fun s78 => [(0, some ⟨3, (List.map Q1n s78), 0, 0x0147⟩)]) .z (fun _ => .z))) (fun s75 => .z)))))
end Go.Proofs.YtnackipaoepmfaaGreat
set_option linter.unusedSimpArgs false
set_option linter.unusedVariables false
namespace Go.Proofs.YtnackipaoepmfaaGreat
open Go Go.RowKit
set_option maxRecDepth 100000
set_option maxHeartbeats 20000000
instance W3p : ∀ (p0 : (List V3)) (p1 : Int), Ct (Q32 p0 p1) fun res => Z1 Tryz.prog 0o00503 [(.slice 3 (List.map Q1n p0)), (eI p1)] (fun d => d = (eI res)) :=
 au Tryz.func323 Q32.eq_1 (.o (.o (.ls 0 (.f [5] [] [0, 1, 5, 6] [] (fun (k71 : Nat) (s67 : Int) => [(5, eI s67), (6, eI (k71 : Int))]) (fun k71 s67 => []) (fun k71 s67 => .o (.j 5 0 [0, 1, 5, 6] [] (fun (s78 : Int) => [(5, eI s78)]) (fun _ => []) .z (fun _ => .z))) (fun s75 => .z)))))
end Go.Proofs.YtnackipaoepmfaaGreat
set_option linter.unusedSimpArgs false
set_option linter.unusedVariables false
namespace Go.Proofs.YtnackipaoepmfaaGreat
open Go Go.RowKit
set_option maxRecDepth 100000
set_option maxHeartbeats 20000000
instance W8f : Ct (Q3l) fun res => Z1 Tryz.prog 0o00140 [] (fun d => d = (.agg (Q8 res))) :=
 au Tryz.func96 Q3l.eq_1 .z
end Go.Proofs.YtnackipaoepmfaaGreat
set_option linter.unusedSimpArgs false
set_option linter.unusedVariables false
namespace Go.Proofs.YtnackipaoepmfaaGreat
open Go Go.RowKit
set_option maxRecDepth 100000
set_option maxHeartbeats 20000000
instance W63 : ∀ (p0 : (List Q3)) (p1 : Q5) (p2 : Int), Ct (Q3o p0 p1 p2) fun res => Z1 Tryz.prog 0o00504 [(.slice 2 (List.map V0 p0)), (.agg (W9 p1)), (eI p2)] (fun d => d = (.agg (Q8 res))) :=
 au Tryz.func324 Q3o.eq_1 (.o (.o (.b fun (p2 : Int) => .o (.pC 32 5 6 0x0033 (.ls 15 (.f [6, 7] [8, 32, 96] [6, 7, 8, 9] [8, 32, 96] (fun (k49 : Nat) (s45 : (List Q0)) => [(9, eI (k49 : Int))]) (fun k49 s45 => [(1000000032, some ⟨6, [[(eI 4), (eI p2), (eI 0), (eI 0), (eI 0), (.sl 6 96 (s45).length)]], 0, 0x0033⟩), (96, some ⟨6, (List.map Q8 s45), 0, 0x0033⟩)]) (fun k49 s45 => .o (.g [6, 7, 8, 9] [0, 1, 2] [] [(1000000001, some ⟨6, [[(eI 4), (eI p2), (eI 0), (eI 0), (eI 0), (.sl 6 2 (s45).length)]], 0, 0x0033⟩)] (.o (.o (.d [0, 1, 2, 3, 4, 5, 6] [1] [27] .z))))) (fun s53 => .z)))))))
end Go.Proofs.YtnackipaoepmfaaGreat
set_option linter.unusedSimpArgs false
set_option linter.unusedVariables false
namespace Go.Proofs.YtnackipaoepmfaaGreat
open Go Go.RowKit
set_option maxRecDepth 100000
set_option maxHeartbeats 20000000
instance W8e : ∀ (p0 : (List V3)) (p1 : Int) (p2 : Int), Ct (Q5n p0 p1 p2) fun res => Z1 Tryz.prog 0o00505 [(.slice 3 (List.map Q1n p0)), (eI p1), (eI p2)] (fun d => d = (eB res)) :=
 au Tryz.func325 Q5n.eq_1 (.o (.o (.o (.ls 0 (.f [] [] [0, 1, 2, 7] [] (fun (k139 : Nat) (s135 : Unit) => [(7, eI (k139 : Int))]) (fun k139 s135 => []) (fun k139 s135 => .o (.j 4 0 [0, 1, 2, 7] [] (fun (s153 : Unit) => []) (fun _ => []) .z (fun _ => .z))) (fun s143 => .z))))))
end Go.Proofs.YtnackipaoepmfaaGreat
set_option linter.unusedSimpArgs false
set_option linter.unusedVariables false
namespace Go.Proofs.YtnackipaoepmfaaGreat
open Go Go.RowKit
set_option maxRecDepth 100000
set_option maxHeartbeats 20000000
instance W3r : ∀ (n : Nat) (p0 : (List Q3)) (p1 : (List Int)) (p2 : Q5) (p3 : Q0), Ct (Q0o n p0 p1 p2 p3) fun res => Z1 Tryz.prog 0o00362 [(.slice 2 (List.map V0 p0)), (.slice 1 (List.map rI p1)), (.agg (W9 p2)), (.agg (Q8 p3))] (fun d => d = (eB res)) :=
 ar (au Tryz.func242 Q0o.eq_2 (.o (.o (.o (.o (.o (.o (.i .z (.i .z (.o (.ls 25 (.f [] [] [0, 1, 7, 9, 10] [8] (fun (k71 : Nat) (s67 : Unit) => [(10, eI (k71 : Int))]) (fun k71 s67 => []) (fun k71 s67 => .o (.g [0, 1, 7, 9, 10] [0] [] [] (.o (.o (.d [0, 1, 2, 3, 4, 5, 6, 7, 8, 9, 10, 11, 12] [0] [] .z))))) (fun s75 => .z)))))))))))))
end Go.Proofs.YtnackipaoepmfaaGreat
set_option linter.unusedSimpArgs false
set_option linter.unusedVariables false
namespace Go.Proofs.YtnackipaoepmfaaGreat
open Go Go.RowKit
set_option maxRecDepth 100000
set_option maxHeartbeats 20000000
instance W62 : ∀ (n : Nat) (p0 : (List Q3)) (p1 : Y8) (p2 : (List V3)) (p3 : Int), Ct (Q2p n p0 p1 p2 p3) fun res => Z1 Tryz.prog 0o00434 [(.slice 2 (List.map V0 p0)), (.agg (Q1c p1)), (.slice 3 (List.map Q1n p2)), (eI p3)] (fun d => d = (.slice 9 (List.map J7 res))) :=
 au Tryz.func284 Q2p.eq_1 (.o (.o (.o (.o (.o (.i (.o (.o (.ls 25 (.f [9] [16] [0, 5, 9, 10, 11, 12] [0, 16] (fun (k203 : Nat) (s199 : (List Z0)) => [(9, .sl 9 16 (s199).length), (12, eI (k203 : Int))]) (fun k203 s199 => [(16, some ⟨9, (List.map J7 s199), 0, 0x00ea⟩)]) (fun k203 s199 => .o (.j 8 0 [0, 5, 9, 10, 11, 12] [0, 1] (fun (s212 : (List Z0)) => [(9, .sl 9 1 (s212).length)]) (fun s212 => [(1, some ⟨9, (List.map J7 s212), 0, 0x00ea⟩)]) (.g [0, 5, 9, 10, 11, 12] [0, 1] [] [] (.o (.o (.d [0, 1, 2, 3, 4, 5, 6, 7, 8, 9, 10, 11, 12] [0] [] .z)))) (fun _ => .z))) (fun s207 => .z))))) (.w [9] [16] [2, 3, 9, 13, 14] [16] (fun (s381 : (List Z0) × Int × Int) => [(9, .sl 9 16 (s381.1).length), (13, eI s381.2.1), (14, eI s381.2.2)]) (fun s381 => [(16, some ⟨9, (List.map J7 s381.1), 0, 0x00ea⟩)]) (fun s381 => .i (.j 15 0 [2, 3, 9, 13, 14] [0] (fun (s404 : (List Z0) × Int) => [(9, .sl 9 0 (s404.1).length), (13, eI s404.2)]) (fun s404 => [(0, some ⟨9, (List.map J7 s404.1), 0, 0x00ea⟩)]) .z (fun _ => .z)) .z) (fun s389 => .z))))))))
end Go.Proofs.YtnackipaoepmfaaGreat
set_option linter.unusedSimpArgs false
set_option linter.unusedVariables false
namespace Go.Proofs.YtnackipaoepmfaaGreat
open Go Go.RowKit
set_option maxRecDepth 100000
set_option maxHeartbeats 20000000
instance W5y : ∀ (n : Nat) (p0 : (List Q3)) (p1 : (List Y8)) (p2 : (List V3)) (p3 : Int), Ct (Q4q n p0 p1 p2 p3) fun res => Z1 Tryz.prog 0o00433 [(.slice 2 (List.map V0 p0)), (.slice 3 (List.map Q1c p1)), (.slice 3 (List.map Q1n p2)), (eI p3)] (fun d => d = (eI res)) :=
 au Tryz.func283 Q4q.eq_1 (.o (.o (.o (.o (.o (.o (.o (.w [9] [] [0, 1, 2, 3, 9, 10] [] (fun (s543 : Int × Int) => [(9, eI s543.1), (10, eI s543.2)]) (fun s543 => []) (fun s543 => .i (.i (.j 5 0 [0, 1, 2, 3, 9, 10] [] (fun (s608 : Int) => [(9, eI s608)]) (fun _ => []) (.o (.i .z (.j 6 0 [0, 1, 2, 3, 9, 10] [] (fun (s626 : Int) => [(9, eI s626)]) (fun _ => []) .z (fun s626 => .g [0, 1, 2, 3, 9, 10] [] [] [] (.i (.o (.o (.o (.o (.d [0, 1, 2, 3, 4, 5, 6, 7, 8, 9, 12, 13, 14, 15, 16, 17, 18, 10, 11, 19, 20, 21, 22] [] [] .z))))) (.d [0, 1, 2, 3, 4, 5, 6, 7, 8, 9, 12, 13, 14, 15, 16, 17, 18, 10, 11, 19, 20, 21, 22] [] [] .z)))))) (fun _ => .z)) .z) .z) (fun s551 => .z)))))))))
end Go.Proofs.YtnackipaoepmfaaGreat
set_option linter.unusedSimpArgs false
set_option linter.unusedVariables false
namespace Go.Proofs.YtnackipaoepmfaaGreat
open Go Go.RowKit
set_option maxRecDepth 100000
set_option maxHeartbeats 20000000
instance W5z : ∀ (p0 : (List Int)) (p1 : Int), Ct (Q5v p0 p1) fun res => Z1 Tryz.prog 0o00506 [(.slice 1 (List.map rI p0)), (eI p1)] (fun d => d = (.slice 1 (List.map rI res))) :=
 au Tryz.func326 Q5v.eq_1 .z
end Go.Proofs.YtnackipaoepmfaaGreat
set_option linter.unusedSimpArgs false
set_option linter.unusedVariables false
namespace Go.Proofs.YtnackipaoepmfaaGreat
open Go Go.RowKit
set_option maxRecDepth 100000
set_option maxHeartbeats 20000000
instance W1s : ∀ (p0 : (List Q3)) (p1 : (List Y8)) (p2 : Int) (p3 : Z0), Ct (Q2b p0 p1 p2 p3) fun res => Z1 Tryz.prog 0o00435 [(.slice 2 (List.map V0 p0)), (.slice 3 (List.map Q1c p1)), (eI p2), (.agg (J7 p3))] (fun d => d = (.slice 3 (List.map Q1c res))) :=
 au Tryz.func285 Q2b.eq_1 (.o (.o (.o (.o (.o (.o (.j 2 0 [1, 2, 9] [48] (fun (s38 : (List Y8)) => [(9, .sl 3 48 (s38).length)]) (fun s38 => [(48, some ⟨3, (List.map Q1c s38), 0, 0x0101⟩)]) (.i (.g [0, 1, 2, 7, 9] [0, 48] [] [] (.o (.o (.d [0, 1, 2, 3, 4, 5, 6, 7, 8, 9] [0] [] (.ls 28 (.f [1, 2, 9] [1] [1, 2, 9, 10, 11] [1] (fun (k67 : Nat) (s63 : (List Y8)) => [(9, .sl 3 1 (s63).length), (11, eI (k67 : Int))]) (fun k67 s63 => [(1, some ⟨3, (List.map Q1c s63), 0, 0x0101⟩)]) (fun k67 s63 => .o (.g [1, 2, 9, 10, 11] [0] [] [] (.o (.o (.d [0, 1, 2, 3, 4, 5, 6, 8, 9, 10, 11, 7, 12, 13, 14, 15] [] [] .z))))) (fun s71 => .z))))))) .z) (fun _ => .z))))))))
end Go.Proofs.YtnackipaoepmfaaGreat
set_option linter.unusedSimpArgs false
set_option linter.unusedVariables false
namespace Go.Proofs.YtnackipaoepmfaaGreat
open Go Go.RowKit
set_option maxRecDepth 100000
set_option maxHeartbeats 20000000
instance W61 : ∀ (p0 : Q0) (p1 : Z0), Ct (Q5w p0 p1) fun res => Z1 Tryz.prog 0o00507 [(.agg (Q8 p0)), (.agg (J7 p1))] (fun d => d = (eB res)) :=
 au Tryz.func327 Q5w.eq_1 .z
end Go.Proofs.YtnackipaoepmfaaGreat
set_option linter.unusedSimpArgs false
set_option linter.unusedVariables false
namespace Go.Proofs.YtnackipaoepmfaaGreat
open Go Go.RowKit
set_option maxRecDepth 100000
set_option maxHeartbeats 20000000
instance X9p : ∀ (n : Nat) (p0 : V3) (p1 : Q0) (p2 : (List Int)), Ct (Q5a n p0 p1 p2) fun res => J6 Tryz.prog 0o00437 [⟨6, List.map Q8 p0.pats, 0, 0x0033⟩] [.agg [(eI p0.clause), .sl 6 0 p0.pats.length, (.slice 2 (List.map Z2 p0.binds))], (.agg (Q8 p1)), (.slice 1 (List.map rI p2))] (fun H d => H = [some ⟨6, List.map Q8 res.1.pats, 0, 0x0033⟩] ∧ d = .tup [.agg [(eI res.1.clause), .sl 6 0 res.1.pats.length, (.slice 2 (List.map Z2 res.1.binds))], (.agg (Q8 res.2))]) :=
 au Tryz.func287 Q5a.eq_1 (.o (.b fun (p0 : V3) => .o (.b fun (p2 : (List Int)) => .w [2, 3, 4, 6, 7] [0, 1, 9, 17, 25] [2, 3, 4, 6, 7] [0, 1, 9, 17, 25] (fun (s16 : (List Q1) × Q0) => []) (fun s16 => [(1000000001, some ⟨3, [[(eI p0.clause), (.sl 6 0 (p0.pats).length), (.slice 2 (List.map Z2 s16.1))]], 0, 0x0147⟩), (9, some ⟨6, [(Q8 s16.2)], 0, 0x0033⟩)]) (fun s16 => .i (.g [2, 3, 4, 6, 7] [0, 1, 2, 3, 4] [] [(1000000001, some ⟨3, [[(eI p0.clause), (.sl 6 0 (p0.pats).length), (.slice 2 (List.map Z2 s16.1))]], 0, 0x0147⟩)] (.o (.o (.o (.dz [1, 2, 4, 5, 7, 0, 3, 6, 8, 9, 10, 11, 12, 13] [1, 2] [1048593] [23] (.o (.pF 2097168 (.pF 2097184 .z)))))))) .z) (fun s24 => .i (.g [2, 3, 4, 6, 7] [0, 1, 2, 3, 4] [] [(1000000001, some ⟨3, [[(eI p0.clause), (.sl 6 0 (p0.pats).length), (.slice 2 (List.map Z2 s24.1))]], 0, 0x0147⟩)] (.o (.o (.o (.dz [1, 2, 4, 5, 7, 0, 3, 6, 8, 9, 10, 11, 12, 13] [1, 2] [1048613] [43] (.pF 2097168 (.g [3, 6, 7] [0, 1, 2097184, 3, 4] [] [(1000000001, some ⟨3, [[(eI p0.clause), (.sl 6 0 (p0.pats).length), (.sl 2 2097184 ((s24.1 ++ [(Q1.mk s24.2.var p2)])).length)]], 0, 0x0147⟩), (2097184, some ⟨2, (List.map Z2 (s24.1 ++ [(Q1.mk s24.2.var p2)])), 0, 0x010a⟩)] (.o (.d [0, 1, 2, 3] [1] [] (.pF 2 .z)))))))))) (.g [3, 4, 6, 7] [0, 1, 2, 3, 4] [] [(1000000001, some ⟨3, [[(eI p0.clause), (.sl 6 0 (p0.pats).length), (.slice 2 (List.map Z2 s24.1))]], 0, 0x0147⟩)] (.d [0, 1, 2, 3] [1, 2] [] .z))))))
end Go.Proofs.YtnackipaoepmfaaGreat
set_option linter.unusedSimpArgs false
set_option linter.unusedVariables false
namespace Go.Proofs.YtnackipaoepmfaaGreat
open Go Go.RowKit
set_option maxRecDepth 100000
set_option maxHeartbeats 20000000
instance W60 : ∀ (n : Nat) (p0 : (List Q3)) (p1 : (List Y8)) (p2 : (List V3)) (p3 : Int) (p4 : Z0), Ct (Q4r n p0 p1 p2 p3 p4) fun res => Z1 Tryz.prog 0o00436 [(.slice 2 (List.map V0 p0)), (.slice 3 (List.map Q1c p1)), (.slice 3 (List.map Q1n p2)), (eI p3), (.agg (J7 p4))] (fun d => d = (.slice 3 (List.map Q1n res))) :=
 au Tryz.func286 Q4r.eq_1 (.o (.o (.o (.o (.o (.o (.o (.ls 2 (.f [11] [16] [1, 2, 3, 9, 11, 12, 13] [0, 16] (fun (k1872 : Nat) (s1868 : (List V3)) => [(11, .sl 3 16 (s1868).length), (13, eI (k1872 : Int))]) (fun k1872 s1868 => [(16, some ⟨3, (List.map Q1n s1868), 0, 0x0147⟩)]) (fun k1872 s1868 => .o (.j 6 0 [1, 2, 3, 9, 11, 12, 13] [0, 1] (fun (s2059 : (List V3)) => [(11, .sl 3 1 (s2059).length)]) (fun s2059 => [(1, some ⟨3, (List.map Q1n s2059), 0, 0x0147⟩)]) (.o (.o (.i .z (.g [1, 2, 3, 9, 11, 12, 13, 14] [0, 1, 98] [] [] (.o (.o (.dz [0, 1, 2, 3, 4, 5, 6, 7, 8, 9, 11, 12, 13, 14, 15, 16, 17, 10, 18, 19, 20, 21] [] [1048591] [] (.w [1, 2, 3, 9, 11, 12, 13, 15] [0, 1, 1048591, 2097160] [1, 2, 3, 9, 11, 12, 13, 14, 15, 16] [0, 1, 2, 1048591, 2097160] (fun (s2208 : Int × (List Q0) × (List Q1) × Int) => [(16, eI s2208.2.2.2)]) (fun s2208 => [(1001048591, some ⟨3, [[(eI s2208.1), (.sl 6 2097160 (s2208.2.1).length), (.slice 2 (List.map Z2 s2208.2.2.1))]], 0, 0x0147⟩), (2097160, some ⟨6, (List.map Q8 s2208.2.1), 0, 0x0033⟩)]) (fun s2208 => .i (.o (.j 13 0 [1, 2, 3, 9, 11, 12, 13, 14, 15, 16, 17] [0, 1, 2, 3, 4, 93] (fun (s2233 : Q0) => []) (fun s2233 => [(1000000003, some ⟨3, [[(eI s2208.1), (.sl 6 4 (s2208.2.1).length), (.slice 2 (List.map Z2 s2208.2.2.1))]], 0, 0x0147⟩), (93, some ⟨6, [(Q8 s2233)], 0, 0x0033⟩)]) .z (fun _ => .g [1, 2, 3, 9, 11, 12, 13, 14, 15, 16, 17] [0, 1, 2, 3, 4, 5] [] [(1000000003, some ⟨3, [[(eI s2208.1), (.sl 6 4 (s2208.2.1).length), (.slice 2 (List.map Z2 s2208.2.2.1))]], 0, 0x0147⟩)] (.o (.o (.dz [0, 1, 2, 3, 4, 5, 6, 7, 8, 9, 10, 11, 12, 13, 14] [3, 5] [1048594, 1048595] [] .z)))))) .z) (fun s2216 => .g [1, 2, 3, 9, 11, 12, 13, 15] [0, 1, 2, 3] [] [(1000000002, some ⟨3, [[(eI s2216.1), (.sl 6 3 (s2216.2.1).length), (.slice 2 (List.map Z2 s2216.2.2.1))]], 0, 0x0147⟩)] (.o (.o (.d [0, 1, 2, 3, 4, 5, 6, 7, 8, 9, 10, 11, 12] [2] [117] (.o (.pF 4 .z)))))))))))))) (fun _ => .z))) (fun s1876 => .z))))))))))
end Go.Proofs.YtnackipaoepmfaaGreat
set_option linter.unusedSimpArgs false
set_option linter.unusedVariables false
namespace Go.Proofs.YtnackipaoepmfaaGreat
open Go Go.RowKit
set_option maxRecDepth 100000
set_option maxHeartbeats 20000000
instance W5w : ∀ (n : Nat) (p0 : (List Q3)) (p1 : (List Q7)) (p2 : (List Y8)) (p3 : (List V3)) (p4 : Int) (p5 : Int), Ct (Q1z n p0 p1 p2 p3 p4 p5) fun res => Z1 Tryz.prog 0o00325 [(.slice 2 (List.map V0 p0)), (.slice 9 (List.map V6 p1)), (.slice 3 (List.map Q1c p2)), (.slice 3 (List.map Q1n p3)), (eI p4), (eI p5)] (fun d => d = .tup [(.agg (Q2e res.1)), (eI res.2)]) :=
 ar (au Tryz.func213 Q1z.eq_2 (.o (.o (.o (.o (.o (.o (.o (.o (.i .z (.i .z (.o (.o (.i (.g [0, 1, 2, 3, 4, 5, 12, 14] [0, 120] [] [] (.o (.dz [0, 1, 2, 3, 4, 5, 6, 7] [1] [1048591] [] .z))) (.o (.b fun (x31 : Y8) => .o (.o (.pC 272 4 9 0x00ea (.ls 96 (.f [5, 12, 19] [0, 272, 256, 368] [0, 1, 2, 3, 4, 5, 12, 18, 19, 20, 21] [0, 272, 256, 368] (fun (k145 : Nat) (s141 : Int × (List Z0)) => [(5, eI s141.1), (21, eI (k145 : Int))]) (fun k145 s141 => [(1000000272, some ⟨6, [[(eI 2), (eI 0), .nil, (.sl 1 256 (x31.path).length), (.sl 9 368 (s141.2).length), .nil]], 0, 0x0056⟩), (368, some ⟨9, (List.map J7 s141.2), 0, 0x00ea⟩)]) (fun k145 s141 => .o (.i (.g [0, 1, 2, 3, 4, 5, 12, 18, 19, 20, 21, 22] [0, 1, 2, 3, 100] [] [(1000000001, some ⟨6, [[(eI 2), (eI 0), .nil, (.sl 1 2 (x31.path).length), (.sl 9 3 (s141.2).length), .nil]], 0, 0x0056⟩)] (.o (.o (.o (.dz [0, 1, 2, 3, 4, 5, 7, 8, 9, 10, 11, 13, 14, 6, 12, 15, 16, 17, 18, 19, 20, 21] [4] [1048599] [] .z))))) .z)) (fun s149 => .z)))))))))))))))))))))
end Go.Proofs.YtnackipaoepmfaaGreat
set_option linter.unusedSimpArgs false
set_option linter.unusedVariables false
namespace Go.Proofs.YtnackipaoepmfaaGreat
open Go Go.RowKit
set_option maxRecDepth 100000
set_option maxHeartbeats 20000000
instance W3m : ∀ (n : Nat) (p0 : V3) (p1 : Q0) (p2 : (List Int)), Ct (Q2z n p0 p1 p2) fun res => Z1 Tryz.prog 0o00437 [(.agg (Q1n p0)), (.agg (Q8 p1)), (.slice 1 (List.map rI p2))] (fun d => d = .tup [(.agg (Q1n res.1)), (.agg (Q8 res.2))]) :=
 au Tryz.func287 Q2z.eq_1 (.o (.b fun (p0 : V3) => .o (.b fun (p2 : (List Int)) => .w [2, 3, 4, 6, 7] [0, 8, 16, 24] [2, 3, 4, 6, 7] [0, 8, 16, 24] (fun (s16 : (List Q1) × Q0) => []) (fun s16 => [(0, some ⟨3, [[(eI p0.clause), (.slice 6 (List.map Q8 p0.pats)), (.slice 2 (List.map Z2 s16.1))]], 0, 0x0147⟩), (8, some ⟨6, [(Q8 s16.2)], 0, 0x0033⟩)]) (fun s16 => .i (.g [2, 3, 4, 6, 7] [0, 1, 2, 3] [] [] (.o (.o (.o (.dz [1, 2, 4, 5, 7, 0, 3, 6, 8, 9, 10, 11, 12, 13] [0, 1] [1048593] [23] (.o (.pF 2097168 (.pF 2097184 .z)))))))) .z) (fun s24 => .i (.g [2, 3, 4, 6, 7] [0, 1, 2, 3] [] [] (.o (.o (.o (.dz [1, 2, 4, 5, 7, 0, 3, 6, 8, 9, 10, 11, 12, 13] [0, 1] [1048613] [43] (.pF 2097168 (.g [3, 6, 7] [0, 2097184, 2, 3] [] [(1000000000, some ⟨3, [[(eI p0.clause), (.slice 6 (List.map Q8 p0.pats)), (.sl 2 2097184 ((s24.1 ++ [(Q1.mk s24.2.var p2)])).length)]], 0, 0x0147⟩), (2097184, some ⟨2, (List.map Z2 (s24.1 ++ [(Q1.mk s24.2.var p2)])), 0, 0x010a⟩)] (.o (.d [0, 1, 2, 3] [0] [] .z))))))))) (.g [3, 4, 6, 7] [0, 1, 2, 3] [] [] (.d [0, 1, 2, 3] [0, 1] [] .z))))))
end Go.Proofs.YtnackipaoepmfaaGreat
set_option linter.unusedSimpArgs false
set_option linter.unusedVariables false
namespace Go.Proofs.YtnackipaoepmfaaGreat
open Go Go.RowKit
set_option maxRecDepth 100000
set_option maxHeartbeats 20000000
instance W5x : ∀ (n : Nat) (p0 : (List Q7)), Ct (Q4p n p0) fun res => Z1 Tryz.prog 0o00326 [(.slice 9 (List.map V6 p0))] (fun d => d = (.slice 3 (List.map Q1n res))) :=
 au Tryz.func214 Q4p.eq_1 (.o (.o (.ls 0 (.f [3] [8] [0, 3, 4] [8] (fun (k366 : Nat) (s362 : (List V3)) => [(3, .sl 3 8 (s362).length), (4, eI (k366 : Int))]) (fun k366 s362 => [(8, some ⟨3, (List.map Q1n s362), 0, 0x0147⟩)]) (fun k366 s362 => .o (.o (.ll 74 (.f [0, 3, 4] [0] [0, 3, 4, 5, 6] [0, 74] (fun (k428 : Nat) (s424 : (List V3)) => [(3, .sl 3 0 (s424).length), (6, eI (k428 : Int))]) (fun k428 s424 => [(0, some ⟨3, (List.map Q1n s424), 0, 0x0147⟩)]) (fun k428 s424 => .o (.o (.o (.pF 154 .z)))) (fun s432 => .z))))) (fun s370 => .z)))))
end Go.Proofs.YtnackipaoepmfaaGreat
set_option linter.unusedSimpArgs false
set_option linter.unusedVariables false
namespace Go.Proofs.YtnackipaoepmfaaGreat
open Go Go.RowKit
set_option maxRecDepth 100000
set_option maxHeartbeats 20000000
instance X9q : ∀ (n : Nat) (p0 : (List Q3)) (p1 : Q5) (p2 : (List Q7)) (p3 : Int), Ct (Q5b n p0 p1 p2 p3) fun res => Z1 Tryz.prog 0o00165 [(.slice 2 (List.map V0 p0)), (.agg (W9 p1)), (.slice 9 (List.map V6 p2)), (eI p3)] (fun d => d = .tup [(.agg (Q2e res.1)), (eB res.2)]) :=
 au Tryz.func117 Q5b.eq_1 (.o (.o (.o (.o (.o (.ls 2 (.f [0, 2, 3, 5, 8] [0, 8] [0, 2, 3, 5, 8, 10] [0, 8] (fun (k54 : Nat) (s50 : Unit) => [(10, eI (k54 : Int))]) (fun k54 s50 => []) (fun k54 s50 => .z) (fun s58 => .g [0, 2, 3, 5, 8] [0, 1] [] [] (.o (.o (.dz [0, 1, 2, 3, 5, 7, 6, 4, 8, 9, 10, 11, 12, 13, 14] [0] [1048609, 1048587] [] .z)))))))))))
end Go.Proofs.YtnackipaoepmfaaGreat
set_option linter.unusedSimpArgs false
set_option linter.unusedVariables false
namespace Go.Proofs.YtnackipaoepmfaaGreat
open Go Go.RowKit
set_option maxRecDepth 100000
set_option maxHeartbeats 20000000
instance X2s : ∀ (n : Nat) (p0 : (List Q3)) (p1 : Q5) (p2 : (List Q7)) (p3 : Int), Ct (Q0u n p0 p1 p2 p3) fun res => Z1 Tryz.prog 0o00064 [(.slice 2 (List.map V0 p0)), (.agg (W9 p1)), (.slice 9 (List.map V6 p2)), (eI p3)] (fun d => d = .tup [(.agg (Q2e res.1)), (eB res.2)]) :=
 au Tryz.func52 Q0u.eq_1 .z
end Go.Proofs.YtnackipaoepmfaaGreat
set_option linter.unusedSimpArgs false
set_option linter.unusedVariables false
namespace Go.Proofs.YtnackipaoepmfaaGreat
open Go Go.RowKit
set_option maxRecDepth 100000
set_option maxHeartbeats 20000000
instance W6b : ∀ (n : Nat) (p0 : (List Q3)) (p1 : Q5) (p2 : Q2) (p3 : Int), Ct (Q2r n p0 p1 p2 p3) fun res => Z1 Tryz.prog 0o00244 [(.slice 2 (List.map V0 p0)), (.agg (W9 p1)), (.agg (W2 p2)), (eI p3)] (fun d => d = (eB res)) :=
 ar (au Tryz.func164 Q2r.eq_2 (.o (.o (.o (.o (.o (.o (.i .z (.i .z (.g [0, 3, 5, 6] [0, 8] [] [] (.i (.d [0, 1, 2, 3, 4, 5, 7, 8, 6, 9, 10, 11] [1] [] .z) (.o (.o (.d [0, 1, 2, 3, 4, 5, 7, 8, 6, 9, 10, 11] [0, 1] [] (.i .z (.o (.i .z (.ls 51 (.f [] [] [0, 3, 6, 9, 10] [1] (fun (k105 : Nat) (s101 : Unit) => [(10, eI (k105 : Int))]) (fun k105 s101 => []) (fun k105 s101 => .o (.g [0, 3, 6, 9, 10] [0] [] [] (.o (.o (.d [0, 1, 2, 3, 4, 5, 6, 7, 8, 9, 10, 11, 12, 13] [0] [] .z))))) (fun s109 => .z))))))))))))))))))))
end Go.Proofs.YtnackipaoepmfaaGreat
set_option linter.unusedSimpArgs false
set_option linter.unusedVariables false
namespace Go.Proofs.YtnackipaoepmfaaGreat
open Go Go.RowKit
set_option maxRecDepth 100000
set_option maxHeartbeats 20000000
instance W40 : ∀ (n : Nat) (p0 : Q2) (p1 : Int), Ct (Q36 n p0 p1) fun res => Z1 Tryz.prog 0o00245 [(.agg (W2 p0)), (eI p1)] (fun d => d = (eI res)) :=
 ar (au Tryz.func165 Q36.eq_2 (.o (.o (.b fun (p0 : Q2) => .o (.lc 0 2 3 W2 p0.kids (.f [5] [] [1, 2, 5, 6] [0] (fun (k80 : Nat) (s76 : Int) => [(5, eI s76), (6, eI (k80 : Int))]) (fun k80 s76 => []) (fun k80 s76 => .z) (fun s84 => .z)))))))
end Go.Proofs.YtnackipaoepmfaaGreat
set_option linter.unusedSimpArgs false
set_option linter.unusedVariables false
namespace Go.Proofs.YtnackipaoepmfaaGreat
open Go Go.RowKit
set_option maxRecDepth 100000
set_option maxHeartbeats 20000000
instance V0b : ∀ (n : Nat) (p0 : (List Q3)) (p1 : Q5) (p2 : Q2), Ct (Q7i n p0 p1 p2) fun res => Z1 Tryz.prog 0o00115 [(.slice 2 (List.map V0 p0)), (.agg (W9 p1)), (.agg (W2 p2))] (fun d => d = (eB res)) :=
 au Tryz.func77 Q7i.eq_1 .z
end Go.Proofs.YtnackipaoepmfaaGreat
set_option linter.unusedSimpArgs false
set_option linter.unusedVariables false
namespace Go.Proofs.YtnackipaoepmfaaGreat
open Go Go.RowKit
set_option maxRecDepth 100000
set_option maxHeartbeats 20000000
instance W6d : ∀ (n : Nat) (p0 : Q2), Ct (Q3p n p0) fun res => Z1 Tryz.prog 0o00320 [(.agg (W2 p0))] (fun d => d = (.agg (W2 res))) :=
 ar (au Tryz.func208 Q3p.eq_2 (.o (.o (.b fun (p0 : Q2) => .pC 56 2 3 0x002f (.lc 0 2 3 W2 p0.kids (.f [2, 3] [8, 56, 80] [1, 2, 3, 4] [0, 8, 56, 80] (fun (k56 : Nat) (s52 : (List Q2)) => [(4, eI (k56 : Int))]) (fun k56 s52 => [(1000000056, some ⟨3, [[(eI p0.ctor), (eI p0.n), (.sl 3 80 (s52).length)]], 0, 0x002f⟩), (80, some ⟨3, (List.map W2 s52), 0, 0x002f⟩)]) (fun k56 s52 => .o (.g [1, 2, 3, 4] [0, 1, 2, 3] [] [(1000000002, some ⟨3, [[(eI p0.ctor), (eI p0.n), (.sl 3 3 (s52).length)]], 0, 0x002f⟩)] (.o (.o (.d [0, 1, 2, 3, 4, 5, 6, 7, 8, 9, 10, 11] [0, 2] [27] .z))))) (fun s60 => .z)))))))
end Go.Proofs.YtnackipaoepmfaaGreat
