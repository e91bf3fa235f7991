import Derived.Test.YtbdkbdafhlcilaaGreatCJMir
import Derived.Test.YtbdkbdafhlcilaaGreatCJMa0
import Derived.Test.YtbdkbdafhlcilaaGreatCJAuto
import Derived.Test.YtbdkbdafhlcilaaGreatCJAuI
import Derived.Test.YtbdkbdafhlcilaaGreatCJAut
import Derived.Test.YtbdkbdafhlcilaaGreatCJZap
import Derived.Test.YtbdkbdafhlcilaaGreatCJZip
import Derived.Test.YtbdkbdafhlcilaaGreatCJDat
import Derived.Test.YtbdkbdafhlcilaaGreatCJE1
import Derived.Test.YtbdkbdafhlcilaaGreatCJE0
import Derived.Test.YtbdkbdafhlcilaaGreatCJTys
import Derived.Test.YtbdkbdafhlcilaaGreatProg
import Derived.Test.YtbdkbdafhlcilaaGreatCJC1d0
import Derived.Test.YtbdkbdafhlcilaaGreatCJC0c0
import Derived.Test.YtbdkbdafhlcilaaGreatCJC0a0
import Derived.Test.YtbdkbdafhlcilaaGreatCJC6b0
import Derived.Test.YtbdkbdafhlcilaaGreatCJC1c0
import Derived.Test.YtbdkbdafhlcilaaGreatCJC3a0
import Derived.Test.YtbdkbdafhlcilaaGreatCJC1b0
import Derived.Test.YtbdkbdafhlcilaaGreatCJC0b0
import Derived.Test.YtbdkbdafhlcilaaGreatCJC2b0
import Derived.Test.YtbdkbdafhlcilaaGreatCJC3b0
import Derived.Test.YtbdkbdafhlcilaaGreatCJC5a0
import Derived.Test.YtbdkbdafhlcilaaGreatCJC3d0
import Derived.Test.YtbdkbdafhlcilaaGreatCJC1a0
import Derived.Test.YtbdkbdafhlcilaaGreatCJC2a0
import Derived.Test.YtbdkbdafhlcilaaGreatCJC0d0
import Derived.Test.YtbdkbdafhlcilaaGreatCJC4c0
import Derived.Test.YtbdkbdafhlcilaaGreatCJC3c0
import Derived.Test.YtbdkbdafhlcilaaGreatCJC2d0
import Derived.Test.YtbdkbdafhlcilaaGreatCJC5b0
import Derived.Test.YtbdkbdafhlcilaaGreatCJC4d0
import Derived.Test.YtbdkbdafhlcilaaGreatCJC6a0
import Derived.Test.YtbdkbdafhlcilaaGreatCJC5c0
import Derived.Test.YtbdkbdafhlcilaaGreatCJC4a0
import Derived.Test.YtbdkbdafhlcilaaGreatCJC2c0
import Derived.Test.YtbdkbdafhlcilaaGreatCJC5d0
import Derived.Test.YtbdkbdafhlcilaaGreatCJC4b0
import Derived.Test.YtbdkbdafhlcilaaGreatCJC6c0
set_option linter.unusedSimpArgs false
set_option linter.unusedVariables false
set_option linter.unusedSimpArgs false
set_option linter.unusedVariables false
namespace Go.Proofs.YtbdkbdafhlcilaaGreat
open Go Go.RowKit
set_option maxRecDepth 100000
set_option maxHeartbeats 20000000
instance W3g : ∀ (n : Nat) (p0 : Z0) (p1 : Q4), Ct (Q21 n p0 p1) fun res => Q17 Tryz.prog 0o00061 [⟨2, [(V4 p0)], 0, 0x009a⟩] [.ptr 2 0 0 0, (.agg (W3 p1))] (fun H d => H = [some ⟨2, [(V4 res.2)], 0, 0x009a⟩] ∧ d = (.agg (W3 res.1))) :=
 ar (au Tryz.func49 Q21.eq_2 (.o (.o (.o (.b fun (p1 : Q4) => .g [0, 3, 4] [0, 1, 9] [] [] (.o (.dz [0, 1, 2, 3, 5, 6, 4, 7, 8, 9, 10] [1] [1048581] [] (.j 2 0 [4, 5] [0, 2, 1048581, 2097160] (fun (s15 : Z0 × Int × Int × (List Q4)) => []) (fun s15 => [(0, some ⟨2, [(V4 s15.1)], 0, 0x009a⟩), (1001048581, some ⟨3, [[(eI s15.2.1), (eI s15.2.2.1), (.sl 3 2097160 (s15.2.2.2).length)]], 0, 0x0038⟩), (2097160, some ⟨3, (List.map W3 s15.2.2.2), 0, 0x0038⟩)]) (.o (.i .z (.i .z (.i .z (.i (.i (.g [0, 4, 5] [0, 2, 1048581, 2097160] [] [(1001048581, some ⟨3, [[(eI p1.ctor), (eI p1.n), (.sl 3 2097160 (p1.kids).length)]], 0, 0x0038⟩)] (.o (.o (.o (.o (.d [0, 1, 2, 3, 4, 5, 6, 7, 8, 9, 10, 11] [2, 3] [53] .z)))))) .z) .z))))) (fun _ => .pF 3 .z)))))))))
end Go.Proofs.YtbdkbdafhlcilaaGreat
set_option linter.unusedSimpArgs false
set_option linter.unusedVariables false
namespace Go.Proofs.YtbdkbdafhlcilaaGreat
open Go Go.RowKit
set_option maxRecDepth 100000
set_option maxHeartbeats 20000000
instance Z8g : ∀ (n : Nat) (p0 : (List Int)), Ct (Q0x n p0) fun res => Q7 Tryz.prog 0o00012 [(.slice 1 (List.map (rK .u8) p0))] (fun d => d = .tup [(.slice 2 (List.map X2 res.1)), (.agg (Z6 res.2.1)), (.slice 9 (List.map X5 res.2.2.1)), (.slice 3 (List.map W3 res.2.2.2))]) :=
 au Tryz.func10 Q0x.eq_1 (.o (.o (.o (.o (.o (.w [3, 6, 7, 8, 9, 10, 11] [8, 41, 112, 65, 120, 168] [3, 6, 7, 8, 9, 10, 11, 12] [8, 41, 112, 65, 120, 168] (fun (s62 : Z0 × (List Q4) × Int) => [(11, .sl 3 168 (s62.2.1).length), (12, eI s62.2.2)]) (fun s62 => [(41, some ⟨2, [(V4 s62.1)], 0, 0x009a⟩), (168, some ⟨3, (List.map W3 s62.2.1), 0, 0x0038⟩)]) (fun s62 => .i (.g [3, 6, 7, 8, 9, 10, 11, 12] [0, 1, 2, 3, 4, 5] [] [] (.o (.o (.o (.d [0, 1, 2, 3, 5, 4, 6, 7, 8, 9] [2] [] .z))))) .z) (fun s70 => .o (.o (.b fun (x81 : (List Q4)) => .g [3, 7, 8, 9, 11] [0, 2, 3, 5] [(11, .sl 3 5 (x81).length)] [(5, some ⟨3, (List.map W3 x81), 0, 0x0038⟩)] (.d [0, 1, 2, 3, 4, 5, 6, 7] [1] [] .z))))))))))
end Go.Proofs.YtbdkbdafhlcilaaGreat
set_option linter.unusedSimpArgs false
set_option linter.unusedVariables false
namespace Go.Proofs.YtbdkbdafhlcilaaGreat
open Go Go.RowKit
set_option maxRecDepth 100000
set_option maxHeartbeats 20000000
instance X39 : ∀ (n : Nat) (p0 : (List Q3)) (p1 : Q2) (p2 : (List Q5)) (p3 : (List Q4)), Ct (Q0j n p0 p1 p2 p3) fun res => Q7 Tryz.prog 0o00013 [(.slice 2 (List.map X2 p0)), (.agg (Z6 p1)), (.slice 9 (List.map X5 p2)), (.slice 3 (List.map W3 p3))] (fun d => d = (.slice 1 (List.map rI res))) :=
 au Tryz.func11 Q0j.eq_1 (.o (.o (.o (.o (.o (.o (.i .z (.ls 3 (.f [9] [56] [0, 2, 5, 9, 22, 23, 24] [0, 56] (fun (k125 : Nat) (s121 : (List Bool)) => [(24, eI (k125 : Int))]) (fun k125 s121 => [(56, some ⟨8, [(List.map cB s121)], 0, 0x0056⟩)]) (fun k125 s121 => .o (.j 6 0 [0, 2, 5, 9, 22, 23, 24] [0, 1] (fun (s137 : (List Bool)) => []) (fun s137 => [(1, some ⟨8, [(List.map cB s137)], 0, 0x0056⟩)]) .z (fun _ => .z))) (fun s129 => .o (.pN 14 1 0x0003 (.w [14] [25] [14, 44, 45] [25] (fun (s219 : (List Int) × Int) => [(14, .sl 1 25 (s219.1).length), (45, eI s219.2)]) (fun s219 => [(25, some ⟨1, (List.map rI s219.1), 0, 0x0003⟩)]) (fun s219 => .i (.j 16 0 [14, 44, 45] [0] (fun (s233 : (List Int)) => [(14, .sl 1 0 (s233).length)]) (fun s233 => [(0, some ⟨1, (List.map rI s233), 0, 0x0003⟩)]) .z (fun _ => .z)) .z) (fun s227 => .z)))))))))))))
end Go.Proofs.YtbdkbdafhlcilaaGreat
set_option linter.unusedSimpArgs false
set_option linter.unusedVariables false
namespace Go.Proofs.YtbdkbdafhlcilaaGreat
open Go Go.RowKit
set_option maxRecDepth 100000
set_option maxHeartbeats 20000000
instance W7x : ∀ (p0 : (List Int)) (p1 : (List Int)), Ct (Q3d p0 p1) fun res => Q7 Tryz.prog 0o00014 [(.slice 1 (List.map rI p0)), (.slice 1 (List.map rI p1))] (fun d => d = (eB res)) :=
 au Tryz.func12 Q3d.eq_1 (.o (.o (.i .z (.ls 0 (.f [] [] [0, 1, 5] [] (fun (k56 : Nat) (s52 : Unit) => [(5, eI (k56 : Int))]) (fun k56 s52 => []) (fun k56 s52 => .o (.g [0, 1, 5] [] [] [] (.o (.d [0, 1, 2, 3, 4, 5, 6, 7, 8] [] [] .z)))) (fun s60 => .z))))))
end Go.Proofs.YtbdkbdafhlcilaaGreat
set_option linter.unusedSimpArgs false
set_option linter.unusedVariables false
namespace Go.Proofs.YtbdkbdafhlcilaaGreat
open Go Go.RowKit
set_option maxRecDepth 100000
set_option maxHeartbeats 20000000
instance W7i : ∀ (n : Nat) (p0 : (List Q3)) (p1 : Q2) (p2 : Q4) (p3 : Int), Ct (Q3b n p0 p1 p2 p3) fun res => Q7 Tryz.prog 0o00161 [(.slice 2 (List.map X2 p0)), (.agg (Z6 p1)), (.agg (W3 p2)), (eI p3)] (fun d => d = (eB res)) :=
 ar (au Tryz.func113 Q3b.eq_2 (.o (.o (.o (.o (.o (.o (.i .z (.i .z (.g [0, 3, 5, 6] [0, 8] [] [] (.i (.d [0, 1, 2, 3, 4, 5, 7, 8, 6, 9, 10, 11] [1] [] .z) (.o (.o (.d [0, 1, 2, 3, 4, 5, 7, 8, 6, 9, 10, 11] [0, 1] [] (.i .z (.o (.i .z (.ls 51 (.f [] [] [0, 3, 6, 9, 10] [1] (fun (k105 : Nat) (s101 : Unit) => [(10, eI (k105 : Int))]) (fun k105 s101 => []) (fun k105 s101 => .o (.g [0, 3, 6, 9, 10] [0] [] [] (.o (.o (.d [0, 1, 2, 3, 4, 5, 6, 7, 8, 9, 10, 11, 12, 13] [0] [] .z))))) (fun s109 => .z))))))))))))))))))))
end Go.Proofs.YtbdkbdafhlcilaaGreat
set_option linter.unusedSimpArgs false
set_option linter.unusedVariables false
namespace Go.Proofs.YtbdkbdafhlcilaaGreat
open Go Go.RowKit
set_option maxRecDepth 100000
set_option maxHeartbeats 20000000
instance W5h : ∀ (n : Nat) (p0 : Q4) (p1 : Int), Ct (Q3r n p0 p1) fun res => Q7 Tryz.prog 0o00162 [(.agg (W3 p0)), (eI p1)] (fun d => d = (eI res)) :=
 ar (au Tryz.func114 Q3r.eq_2 (.o (.o (.b fun (p0 : Q4) => .o (.lc 0 2 3 W3 p0.kids (.f [5] [] [1, 2, 5, 6] [0] (fun (k80 : Nat) (s76 : Int) => [(5, eI s76), (6, eI (k80 : Int))]) (fun k80 s76 => []) (fun k80 s76 => .z) (fun s84 => .z)))))))
end Go.Proofs.YtbdkbdafhlcilaaGreat
set_option linter.unusedSimpArgs false
set_option linter.unusedVariables false
namespace Go.Proofs.YtbdkbdafhlcilaaGreat
open Go Go.RowKit
set_option maxRecDepth 100000
set_option maxHeartbeats 20000000
instance V1p : ∀ (n : Nat) (p0 : (List Q3)) (p1 : Q2) (p2 : Q4), Ct (Q86 n p0 p1 p2) fun res => Q7 Tryz.prog 0o00066 [(.slice 2 (List.map X2 p0)), (.agg (Z6 p1)), (.agg (W3 p2))] (fun d => d = (eB res)) :=
 au Tryz.func54 Q86.eq_1 .z
end Go.Proofs.YtbdkbdafhlcilaaGreat
set_option linter.unusedSimpArgs false
set_option linter.unusedVariables false
namespace Go.Proofs.YtbdkbdafhlcilaaGreat
open Go Go.RowKit
set_option maxRecDepth 100000
set_option maxHeartbeats 20000000
instance W5d : ∀ (n : Nat) (p0 : (List X3)) (p1 : Q0) (p2 : Q4), Ct (Q1w n p0 p1 p2) fun res => Q7 Tryz.prog 0o00163 [(.slice 4 (List.map Q0w p0)), (.agg (Q1 p1)), (.agg (W3 p2))] (fun d => d = .tup [(.slice 4 (List.map Q0w res.1)), (eB res.2)]) :=
 ar (au Tryz.func115 Q1w.eq_2 (.o (.o (.o (.b fun (p1 : Q0) => .o (.i .z (.i (.g [0, 4, 5] [0, 8] [] [] (.o (.o (.dz [1, 3, 4, 5, 6, 0, 2, 7, 8, 9, 10] [0, 1] [1048603] [] .z)))) (.i (.g [0, 4, 5] [0, 8] [] [] (.i (.d [0, 1, 2, 3, 4, 5, 6, 7, 8, 9, 10, 11, 12, 13, 14] [0, 1] [] .z) (.d [0, 1, 2, 3, 4, 5, 6, 7, 8, 9, 10, 11, 12, 13, 14] [0, 1] [] .z))) (.i (.g [0, 4, 5] [0, 8] [] [] (.o (.o (.d [0, 1, 2, 3, 4, 5, 6, 7, 8, 9, 10, 11] [0, 1] [] (.i .z (.g [0, 4, 5] [0, 1] [] [] (.o (.o (.d [0, 1, 2, 3, 4, 5, 6, 7, 8, 9, 10] [0, 1] [] .z))))))))) (.i (.g [0, 4, 5] [0, 8] [] [] (.o (.o (.o (.o (.dz [1, 3, 4, 5, 6, 9, 10, 11, 12, 13, 0, 2, 7, 8, 14, 15, 16, 17, 18] [0, 1] [1048652] [] .z)))))) (.i .z (.lc 0 5 6 Q1 p1.kids (.f [0] [] [0, 4, 5, 10] [0, 8] (fun (k116 : Nat) (s112 : (List X3)) => [(0, .slice 4 (List.map Q0w s112)), (10, eI (k116 : Int))]) (fun k116 s112 => []) (fun k116 s112 => .o (.g [0, 4, 5, 10] [0, 1] [] [] (.o (.o (.d [0, 1, 2, 3, 4, 5, 6, 7, 8, 9, 10, 11, 12, 13, 14, 15, 16] [0, 1] [] .z))))) (fun s120 => .z))))))))))))))
end Go.Proofs.YtbdkbdafhlcilaaGreat
set_option linter.unusedSimpArgs false
set_option linter.unusedVariables false
namespace Go.Proofs.YtbdkbdafhlcilaaGreat
open Go Go.RowKit
set_option maxRecDepth 100000
set_option maxHeartbeats 20000000
instance X9k : ∀ (p0 : Q2z) (p1 : (List X3)), Ct (Q2l p0 p1) fun res => Q7 Tryz.prog 0o00164 [(.agg (Q7g p0)), (.slice 4 (List.map Q0w p1))] (fun d => d = (eB res)) :=
 au Tryz.func116 Q2l.eq_1 (.o (.o (.i .z (.ls 1 (.f [] [] [1, 2, 5] [0] (fun (k179 : Nat) (s175 : Unit) => [(5, eI (k179 : Int))]) (fun k179 s175 => []) (fun k179 s175 => .o (.j 6 0 [1, 2, 5] [0] (fun (s196 : Unit) => []) (fun _ => []) (.g [1, 2, 5] [0] [] [] (.d [0, 1, 2, 3, 4, 5, 6, 7] [0] [] .z)) (fun _ => .z))) (fun s183 => .z))))))
end Go.Proofs.YtbdkbdafhlcilaaGreat
set_option linter.unusedSimpArgs false
set_option linter.unusedVariables false
namespace Go.Proofs.YtbdkbdafhlcilaaGreat
open Go Go.RowKit
set_option maxRecDepth 100000
set_option maxHeartbeats 20000000
instance W7k : ∀ (n : Nat) (p0 : Q4), Ct (Q4g n p0) fun res => Q7 Tryz.prog 0o00224 [(.agg (W3 p0))] (fun d => d = (.agg (W3 res))) :=
 ar (au Tryz.func148 Q4g.eq_2 (.o (.o (.b fun (p0 : Q4) => .pC 56 2 3 0x0038 (.lc 0 2 3 W3 p0.kids (.f [2, 3] [8, 56, 80] [1, 2, 3, 4] [0, 8, 56, 80] (fun (k56 : Nat) (s52 : (List Q4)) => [(4, eI (k56 : Int))]) (fun k56 s52 => [(1000000056, some ⟨3, [[(eI p0.ctor), (eI p0.n), (.sl 3 80 (s52).length)]], 0, 0x0038⟩), (80, some ⟨3, (List.map W3 s52), 0, 0x0038⟩)]) (fun k56 s52 => .o (.g [1, 2, 3, 4] [0, 1, 2, 3] [] [(1000000002, some ⟨3, [[(eI p0.ctor), (eI p0.n), (.sl 3 3 (s52).length)]], 0, 0x0038⟩)] (.o (.o (.d [0, 1, 2, 3, 4, 5, 6, 7, 8, 9, 10, 11] [0, 2] [27] .z))))) (fun s60 => .z)))))))
end Go.Proofs.YtbdkbdafhlcilaaGreat
set_option linter.unusedSimpArgs false
set_option linter.unusedVariables false
namespace Go.Proofs.YtbdkbdafhlcilaaGreat
open Go Go.RowKit
set_option maxRecDepth 100000
set_option maxHeartbeats 20000000
instance W7b : ∀ (n : Nat) (p0 : (List X3)), Ct (Q5f n p0) fun res => Q7 Tryz.prog 0o00165 [(.slice 4 (List.map Q0w p0))] (fun d => d = (.slice 4 (List.map Q0w res))) :=
 au Tryz.func117 Q5f.eq_1 (.o (.o (.w [3] [8] [0, 3, 4] [8] (fun (s496 : (List X3) × Int) => [(3, .sl 4 8 (s496.1).length), (4, eI s496.2)]) (fun s496 => [(8, some ⟨4, (List.map Q0w s496.1), 0, 0x0097⟩)]) (fun s496 => .i (.ls 0 (.f [0, 3, 4] [0] [0, 3, 4, 5] [0] (fun (k587 : Nat) (s583 : (List X3)) => [(3, .sl 4 0 (s583).length), (5, eI (k587 : Int))]) (fun k587 s583 => [(0, some ⟨4, (List.map Q0w s583), 0, 0x0097⟩)]) (fun k587 s583 => .o (.j 8 0 [0, 3, 4, 5] [0] (fun (s595 : (List X3)) => [(3, .sl 4 0 (s595).length)]) (fun s595 => [(0, some ⟨4, (List.map Q0w s595), 0, 0x0097⟩)]) .z (fun _ => .z))) (fun s591 => .z))) .z) (fun s504 => .z))))
end Go.Proofs.YtbdkbdafhlcilaaGreat
set_option linter.unusedSimpArgs false
set_option linter.unusedVariables false
namespace Go.Proofs.YtbdkbdafhlcilaaGreat
open Go Go.RowKit
set_option maxRecDepth 100000
set_option maxHeartbeats 20000000
instance W9r : ∀ (n : Nat) (p0 : (List Q5)) (p1 : Q4), Ct (Q69 n p0 p1) fun res => Q7 Tryz.prog 0o00067 [(.slice 9 (List.map X5 p0)), (.agg (W3 p1))] (fun d => d = .tup [(eI res.1), (.slice 4 (List.map Q0w res.2))]) :=
 au Tryz.func55 Q69.eq_1 (.o (.o (.o (.ls 0 (.f [] [] [0, 3, 6] [0] (fun (k159 : Nat) (s155 : Unit) => [(6, eI (k159 : Int))]) (fun k159 s155 => []) (fun k159 s155 => .o (.j 4 0 [0, 3, 6] [0] (fun (s175 : Unit) => []) (fun _ => []) (.g [0, 3, 6] [0] [] [] (.o (.d [0, 1, 2, 3, 4, 5, 6, 7, 8, 9, 10, 11] [0] [] .z))) (fun _ => .z))) (fun s163 => .z))))))
end Go.Proofs.YtbdkbdafhlcilaaGreat
set_option linter.unusedSimpArgs false
set_option linter.unusedVariables false
namespace Go.Proofs.YtbdkbdafhlcilaaGreat
open Go Go.RowKit
set_option maxRecDepth 100000
set_option maxHeartbeats 20000000
instance X35 : ∀ (n : Nat) (p0 : (List Q3)) (p1 : Q2) (p2 : (List Q5)) (p3 : (List Q4)), Ct (J6 n p0 p1 p2 p3) fun res => Q7 Tryz.prog 0o00015 [(.slice 2 (List.map X2 p0)), (.agg (Z6 p1)), (.slice 9 (List.map X5 p2)), (.slice 3 (List.map W3 p3))] (fun d => d = (.slice 1 (List.map rI res))) :=
 au Tryz.func13 J6.eq_1 (.o (.o (.o (.o (.o (.o (.i .z (.o (.ls 3 (.f [9, 10] [16, 88] [0, 2, 3, 5, 9, 10, 11] [0, 16, 88] (fun (k144 : Nat) (s140 : (List Bool)) => [(10, .sl 1 88 (s140).length), (11, eI (k144 : Int))]) (fun k144 s140 => [(88, some ⟨1, (List.map rB s140), 0, 0x0004⟩)]) (fun k144 s140 => .o (.j 8 0 [0, 2, 3, 5, 9, 10, 11] [0, 1, 2] (fun (s157 : (List Bool)) => [(10, .sl 1 2 (s157).length)]) (fun s157 => [(2, some ⟨1, (List.map rB s157), 0, 0x0004⟩)]) (.g [0, 2, 3, 5, 9, 10, 11] [0, 1, 2] [] [] (.o (.d [0, 1, 2, 3, 4, 5, 6, 7] [0] [] .z))) (fun _ => .z))) (fun s148 => .ll 1 (.f [9] [0] [9, 10, 14] [0, 1] (fun (k238 : Nat) (s234 : (List Int)) => [(9, .sl 1 0 (s234).length), (14, eI (k238 : Int))]) (fun k238 s234 => [(0, some ⟨1, (List.map rI s234), 0, 0x0003⟩)]) (fun k238 s234 => .o (.j 16 0 [9, 10, 14] [0, 1] (fun (s245 : (List Int)) => [(9, .sl 1 0 (s245).length)]) (fun s245 => [(0, some ⟨1, (List.map rI s245), 0, 0x0003⟩)]) .z (fun _ => .z))) (fun s242 => .z)))))))))))))
end Go.Proofs.YtbdkbdafhlcilaaGreat
set_option linter.unusedSimpArgs false
set_option linter.unusedVariables false
namespace Go.Proofs.YtbdkbdafhlcilaaGreat
open Go Go.RowKit
set_option maxRecDepth 100000
set_option maxHeartbeats 20000000
instance X0m : ∀ (n : Nat) (p0 : (List Q3)) (p1 : Q2) (p2 : (List Q5)), Ct (Q0n n p0 p1 p2) fun res => Q7 Tryz.prog 0o00016 [(.slice 2 (List.map X2 p0)), (.agg (Z6 p1)), (.slice 9 (List.map X5 p2))] (fun d => d = .tup [(.slice 1 (List.map rI res.1)), (eB res.2)]) :=
 au Tryz.func14 Q0n.eq_1 (.o (.o (.o (.o (.o (.i .z (.pN 8 1 0x0003 (.ls 2 (.f [8] [96] [0, 2, 4, 8, 18, 19] [0, 96] (fun (k97 : Nat) (s93 : (List Int)) => [(8, .sl 1 96 (s93).length), (19, eI (k97 : Int))]) (fun k97 s93 => [(96, some ⟨1, (List.map rI s93), 0, 0x0003⟩)]) (fun k97 s93 => .o (.j 6 0 [0, 2, 4, 8, 18, 19] [0, 1] (fun (s107 : (List Int)) => [(8, .sl 1 1 (s107).length)]) (fun s107 => [(1, some ⟨1, (List.map rI s107), 0, 0x0003⟩)]) .z (fun _ => .z))) (fun s101 => .z))))))))))
end Go.Proofs.YtbdkbdafhlcilaaGreat
set_option linter.unusedSimpArgs false
set_option linter.unusedVariables false
namespace Go.Proofs.YtbdkbdafhlcilaaGreat
open Go Go.RowKit
set_option maxRecDepth 100000
set_option maxHeartbeats 20000000
instance V1r : ∀ (p0 : (List Int)) (p1 : Int), Ct (Q2u p0 p1) fun res => Q7 Tryz.prog 0o00017 [(.slice 1 (List.map rI p0)), (eI p1)] (fun d => d = (eB res)) :=
 au Tryz.func15 Q2u.eq_1 (.o (.o (.ls 0 (.f [] [] [0, 1, 5] [] (fun (k44 : Nat) (s40 : Unit) => [(5, eI (k44 : Int))]) (fun k44 s40 => []) (fun k44 s40 => .z) (fun s48 => .z)))))
end Go.Proofs.YtbdkbdafhlcilaaGreat
set_option linter.unusedSimpArgs false
set_option linter.unusedVariables false
namespace Go.Proofs.YtbdkbdafhlcilaaGreat
open Go Go.RowKit
set_option maxRecDepth 100000
set_option maxHeartbeats 20000000
instance Q9v : ∀ (n : Nat) (p0 : (List Int)), Ct (Q0m n p0) fun res => Q7 Tryz.prog 0o00003 [(.slice 1 (List.map (rK .u8) p0))] (fun d => d = (eB res)) :=
 au Tryz.func3 Q0m.eq_1 (.o (.o (.i .z (.o (.o (.o (.o (.i .z (.i .z (.g [3, 4, 5, 6, 7] [88] [] [] (.o (.o (.d [0, 1, 2, 3, 4, 5, 6, 7, 8, 9] [0] [] (.o (.ls 5 (.f [6, 7] [] [5, 6, 7, 8, 9, 10, 11] [] (fun (k486 : Nat) (s482 : Unit) => [(11, eI (k486 : Int))]) (fun k486 s482 => []) (fun k486 s482 => .o (.j 12 0 [5, 6, 7, 8, 9, 10, 11] [] (fun (s531 : Unit) => []) (fun _ => []) .z (fun _ => .z))) (fun s490 => .z)))))))))))))))))
theorem Z06 (n : Nat) (p0 : (List Int)) : ∀ res, Q0m n p0 = some res → Q7 Tryz.prog 0o00003 [(.slice 1 (List.map (rK .u8) p0))] (fun d => d = (eB res)) := (Q9v n p0).pf
end Go.Proofs.YtbdkbdafhlcilaaGreat
