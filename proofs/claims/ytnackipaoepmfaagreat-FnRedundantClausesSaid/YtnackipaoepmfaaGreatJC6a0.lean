import Derived.Test.YtnackipaoepmfaaGreatJMir
import Derived.Test.YtnackipaoepmfaaGreatJAuto
import Derived.Test.YtnackipaoepmfaaGreatJC1c0
import Derived.Test.YtnackipaoepmfaaGreatJC5a0
import Derived.Test.YtnackipaoepmfaaGreatJC5b0
import Derived.Test.YtnackipaoepmfaaGreatJC0d0
import Derived.Test.YtnackipaoepmfaaGreatJC0b0
import Derived.Test.YtnackipaoepmfaaGreatJC3d0
import Derived.Test.YtnackipaoepmfaaGreatJC2d0
import Derived.Test.YtnackipaoepmfaaGreatJC5c0
import Derived.Test.YtnackipaoepmfaaGreatJC1a0
import Derived.Test.YtnackipaoepmfaaGreatJC5d0
import Derived.Test.YtnackipaoepmfaaGreatJC1d0
import Derived.Test.YtnackipaoepmfaaGreatJC2a0
import Derived.Test.YtnackipaoepmfaaGreatJC3b0
import Derived.Test.YtnackipaoepmfaaGreatJC3a0
import Derived.Test.YtnackipaoepmfaaGreatJC4b0
import Derived.Test.YtnackipaoepmfaaGreatJC0c0
import Derived.Test.YtnackipaoepmfaaGreatJC1b0
import Derived.Test.YtnackipaoepmfaaGreatJC3c0
import Derived.Test.YtnackipaoepmfaaGreatJC2c0
set_option linter.unusedSimpArgs false
set_option linter.unusedVariables false
set_option linter.unusedSimpArgs false
set_option linter.unusedVariables false
namespace Go.Proofs.YtnackipaoepmfaaGreat
open Go Go.RowKit
set_option maxRecDepth 100000
set_option maxHeartbeats 20000000
instance W5r : ∀ (n : Nat) (p0 : Z1) (p1 : (List Q3)) (p2 : Q2), Ct (Q3i n p0 p1 p2) fun res => Q0u Tryz.prog 0o00230 [⟨2, [(Y3 p0)], 0, 0x00c4⟩] [.ptr 2 0 0 0, (.slice 2 (List.map X2 p1)), (.agg (Z5 p2))] (fun H d => H = [some ⟨2, [(Y3 res.2)], 0, 0x00c4⟩, some ⟨9, List.map Z7 res.1, 0, 0x0037⟩] ∧ d = .sl 9 1 res.1.length) :=
 au Tryz.func152 Q3i.eq_1 (.o (.o (.o (.o (.o (.w [7] [0, 17] [0, 1, 5, 7, 8] [0, 1, 17] (fun (s50 : Z1 × (List Q4) × Int) => [(7, .sl 9 17 (s50.2.1).length), (8, eI s50.2.2)]) (fun s50 => [(0, some ⟨2, [(Y3 s50.1)], 0, 0x00c4⟩), (17, some ⟨9, (List.map Z7 s50.2.1), 0, 0x0037⟩)]) (fun s50 => .z) (fun s58 => .z)))))))
end Go.Proofs.YtnackipaoepmfaaGreat
set_option linter.unusedSimpArgs false
set_option linter.unusedVariables false
namespace Go.Proofs.YtnackipaoepmfaaGreat
open Go Go.RowKit
set_option maxRecDepth 100000
set_option maxHeartbeats 20000000
instance W3u : ∀ (n : Nat) (p0 : Z1), Ct (Q32 n p0) fun res => Q0u Tryz.prog 0o00104 [⟨2, [(Y3 p0)], 0, 0x00c4⟩] [.ptr 2 0 0 0] (fun H d => H = [some ⟨2, [(Y3 res.2.2.2.2)], 0, 0x00c4⟩, some ⟨9, List.map Z7 res.2.2.1, 0, 0x0037⟩] ∧ d = .tup [(.slice 2 (List.map X2 res.1)), (.agg (Z5 res.2.1)), .sl 9 1 res.2.2.1.length, (.agg (V2 res.2.2.2.1))]) :=
 au Tryz.func68 Q32.eq_1 (.o (.o (.o (.g [0, 3, 5, 6, 7, 8] [0, 9, 25, 81, 89] [] [] (.o (.d [0, 1, 2, 3, 4, 6, 5, 7, 8, 9, 10] [3, 4] [] .z))))))
end Go.Proofs.YtnackipaoepmfaaGreat
set_option linter.unusedSimpArgs false
set_option linter.unusedVariables false
namespace Go.Proofs.YtnackipaoepmfaaGreat
open Go Go.RowKit
set_option maxRecDepth 100000
set_option maxHeartbeats 20000000
instance Z7l : ∀ (n : Nat) (p0 : (List Int)), Ct (Y4 n p0) fun res => Q0u Tryz.prog 0o00117 [] [(.slice 1 (List.map (rK .u8) p0))] (fun H d => H = [some ⟨9, List.map Z7 res.2.2, 0, 0x0037⟩] ∧ d = .tup [(.slice 2 (List.map X2 res.1)), (.agg (Z5 res.2.1)), .sl 9 0 res.2.2.length]) :=
 au Tryz.func79 Y4.eq_1 (.o (.o (.o (.o (.j 3 0 [3, 5, 6, 7, 8] [8, 33, 104, 57] (fun (s15 : Z1 × (List Q4)) => [(8, .sl 9 57 (s15.2).length)]) (fun s15 => [(33, some ⟨2, [(Y3 s15.1)], 0, 0x00c4⟩), (57, some ⟨9, (List.map Z7 s15.2), 0, 0x0037⟩)]) .z (fun _ => .g [3, 5, 6, 7, 8] [0, 1, 2, 3] [] [] (.o (.d [0, 1, 2, 3, 4, 5, 6, 7] [2] [] .z))))))))
end Go.Proofs.YtnackipaoepmfaaGreat
set_option linter.unusedSimpArgs false
set_option linter.unusedVariables false
namespace Go.Proofs.YtnackipaoepmfaaGreat
open Go Go.RowKit
set_option maxRecDepth 100000
set_option maxHeartbeats 20000000
instance Z6b : ∀ (n : Nat) (p0 : (List Int)), Ct (W3 n p0) fun res => Q9 Tryz.prog 0o00045 [(.slice 1 (List.map (rK .u8) p0))] (fun d => d = .tup [(.slice 2 (List.map X2 res.1)), (.agg (Z5 res.2.1)), (.slice 9 (List.map Z7 res.2.2))]) :=
 au Tryz.func37 W3.eq_1 (.o (.o (.o (.o (.j 3 0 [3, 6, 7, 8] [8, 96, 57] (fun (s20 : (List Q4)) => [(8, .sl 9 57 (s20).length)]) (fun s20 => [(57, some ⟨9, (List.map Z7 s20), 0, 0x0037⟩)]) .z (fun _ => .g [3, 6, 7, 8] [0, 1, 2] [] [] (.d [0, 1, 2, 3, 4, 5] [1] [] .z)))))))
end Go.Proofs.YtnackipaoepmfaaGreat
set_option linter.unusedSimpArgs false
set_option linter.unusedVariables false
namespace Go.Proofs.YtnackipaoepmfaaGreat
open Go Go.RowKit
set_option maxRecDepth 100000
set_option maxHeartbeats 20000000
instance X0r : ∀ (n : Nat) (p0 : (List Q3)) (p1 : Q2) (p2 : (List Q4)) (p3 : Int), Ct (Q1g n p0 p1 p2 p3) fun res => Q9 Tryz.prog 0o00147 [(.slice 2 (List.map X2 p0)), (.agg (Z5 p1)), (.slice 9 (List.map Z7 p2)), (eI p3)] (fun d => d = .tup [(.slice 6 (List.map Q1 res.1)), (eB res.2)]) :=
 au Tryz.func103 Q1g.eq_1 (.o (.o (.o (.o (.o (.o (.i .z (.i .z (.i .z (.o (.o (.i .z (.g [0, 2, 3, 5, 10] [0] [] [] (.o (.o (.d [0, 1, 3, 4, 2, 5, 6, 7, 8, 9, 10] [0] [] .z))))))))))))))))
end Go.Proofs.YtnackipaoepmfaaGreat
set_option linter.unusedSimpArgs false
set_option linter.unusedVariables false
namespace Go.Proofs.YtnackipaoepmfaaGreat
open Go Go.RowKit
set_option maxRecDepth 100000
set_option maxHeartbeats 20000000
instance Z9x : ∀ (n : Nat) (p0 : (List Q3)) (p1 : Q2) (p2 : (List Q4)), Ct (J5 n p0 p1 p2) fun res => Q9 Tryz.prog 0o00046 [(.slice 2 (List.map X2 p0)), (.agg (Z5 p1)), (.slice 9 (List.map Z7 p2))] (fun d => d = .tup [(.slice 1 (List.map rI res.1)), (eB res.2)]) :=
 au Tryz.func38 J5.eq_1 (.o (.o (.o (.o (.o (.i .z (.ls 2 (.f [8] [24] [0, 2, 4, 8, 9] [0, 24] (fun (k97 : Nat) (s93 : (List Int)) => [(8, .sl 1 24 (s93).length), (9, eI (k97 : Int))]) (fun k97 s93 => [(24, some ⟨1, (List.map rI s93), 0, 0x0003⟩)]) (fun k97 s93 => .o (.j 7 0 [0, 2, 4, 8, 9] [0, 1] (fun (s107 : (List Int)) => [(8, .sl 1 1 (s107).length)]) (fun s107 => [(1, some ⟨1, (List.map rI s107), 0, 0x0003⟩)]) .z (fun _ => .z))) (fun s101 => .z)))))))))
end Go.Proofs.YtnackipaoepmfaaGreat
set_option linter.unusedSimpArgs false
set_option linter.unusedVariables false
namespace Go.Proofs.YtnackipaoepmfaaGreat
open Go Go.RowKit
set_option maxRecDepth 100000
set_option maxHeartbeats 20000000
instance X51 : ∀ (n : Nat) (p0 : (List Q3)) (p1 : Q2) (p2 : (List Q4)), Ct (Q0q n p0 p1 p2) fun res => Q9 Tryz.prog 0o00111 [(.slice 2 (List.map X2 p0)), (.agg (Z5 p1)), (.slice 9 (List.map Z7 p2))] (fun d => d = (eB res)) :=
 au Tryz.func73 Q0q.eq_1 .z
end Go.Proofs.YtnackipaoepmfaaGreat
set_option linter.unusedSimpArgs false
set_option linter.unusedVariables false
namespace Go.Proofs.YtnackipaoepmfaaGreat
open Go Go.RowKit
set_option maxRecDepth 100000
set_option maxHeartbeats 20000000
instance X0v : ∀ (n : Nat) (p0 : Q14) (p1 : Q2) (p2 : (List Q0)), Ct (Q0g n p0 p1 p2) fun res => Q9 Tryz.prog 0o00153 [.cptr (Q1p p0), (.agg (Z5 p1)), (.slice 6 (List.map Q1 p2))] (fun d => d = .tup [(.slice 6 (List.map Q1 res.1)), (eB res.2)]) :=
 au Tryz.func107 Q0g.eq_1 (.o (.o (.o (.o (.pN 8 6 0x0033 (.ls 2 (.f [8] [56] [0, 2, 4, 8, 13, 14, 15] [0, 56] (fun (k86 : Nat) (s82 : (List Q0)) => [(8, .sl 6 56 (s82).length), (15, eI (k86 : Int))]) (fun k86 s82 => [(56, some ⟨6, (List.map Q1 s82), 0, 0x0033⟩)]) (fun k86 s82 => .o (.g [0, 2, 4, 8, 9, 10, 13, 14, 15] [0, 1, 34] [] [] (.o (.o (.d [0, 1, 2, 4, 5, 6, 3, 7, 8, 9, 10, 11, 12] [0, 2] [] .z))))) (fun s90 => .z))))))))
end Go.Proofs.YtnackipaoepmfaaGreat
set_option linter.unusedSimpArgs false
set_option linter.unusedVariables false
namespace Go.Proofs.YtnackipaoepmfaaGreat
open Go Go.RowKit
set_option maxRecDepth 100000
set_option maxHeartbeats 20000000
instance X3p : ∀ (n : Nat) (p0 : Q14) (p1 : Q2) (p2 : (List Q0)) (p3 : Bool), Ct (Q1y n p0 p1 p2 p3) fun res => Q9 Tryz.prog 0o00155 [.cptr (Q1p p0), (.agg (Z5 p1)), (.slice 6 (List.map Q1 p2)), (eB p3)] (fun d => d = .tup [(.slice 6 (List.map Q1 res.1)), (eB res.2)]) :=
 au Tryz.func109 Q1y.eq_1 .z
end Go.Proofs.YtnackipaoepmfaaGreat
set_option linter.unusedSimpArgs false
set_option linter.unusedVariables false
namespace Go.Proofs.YtnackipaoepmfaaGreat
open Go Go.RowKit
set_option maxRecDepth 100000
set_option maxHeartbeats 20000000
instance X0y : ∀ (n : Nat) (p0 : (List Q3)) (p1 : Q2) (p2 : (List Q4)) (p3 : Int), Ct (Q0h n p0 p1 p2 p3) fun res => Q9 Tryz.prog 0o00047 [(.slice 2 (List.map X2 p0)), (.agg (Z5 p1)), (.slice 9 (List.map Z7 p2)), (eI p3)] (fun d => d = .tup [(.slice 6 (List.map Q1 res.1)), (eB res.2)]) :=
 au Tryz.func39 Q0h.eq_1 (.o (.o (.o (.o (.o (.o (.i .z (.o (.i .z (.o (.o (.o (.o (.i .z (.i .z (.o (.o (.j 9 0 [5, 14, 15, 16] [0] (fun (s41 : (List Q0) × Bool) => [(15, .slice 6 (List.map Q1 s41.1)), (16, eB s41.2)]) (fun _ => []) .z (fun _ => .z)))))))))))))))))))
end Go.Proofs.YtnackipaoepmfaaGreat
set_option linter.unusedSimpArgs false
set_option linter.unusedVariables false
namespace Go.Proofs.YtnackipaoepmfaaGreat
open Go Go.RowKit
set_option maxRecDepth 100000
set_option maxHeartbeats 20000000
instance X01 : ∀ (n : Nat) (p0 : (List Q3)) (p1 : Q2) (p2 : (List Q4)), Ct (Y7 n p0 p1 p2) fun res => Q9 Tryz.prog 0o00023 [(.slice 2 (List.map X2 p0)), (.agg (Z5 p1)), (.slice 9 (List.map Z7 p2))] (fun d => d = .tup [(.slice 1 (List.map rI res.1)), (eB res.2)]) :=
 au Tryz.func19 Y7.eq_1 (.o (.o (.o (.o (.o (.i .z (.pN 8 1 0x0003 (.ls 2 (.f [8] [96] [0, 2, 4, 8, 18, 19] [0, 96] (fun (k97 : Nat) (s93 : (List Int)) => [(8, .sl 1 96 (s93).length), (19, eI (k97 : Int))]) (fun k97 s93 => [(96, some ⟨1, (List.map rI s93), 0, 0x0003⟩)]) (fun k97 s93 => .o (.j 6 0 [0, 2, 4, 8, 18, 19] [0, 1] (fun (s107 : (List Int)) => [(8, .sl 1 1 (s107).length)]) (fun s107 => [(1, some ⟨1, (List.map rI s107), 0, 0x0003⟩)]) .z (fun _ => .z))) (fun s101 => .z))))))))))
end Go.Proofs.YtnackipaoepmfaaGreat
set_option linter.unusedSimpArgs false
set_option linter.unusedVariables false
namespace Go.Proofs.YtnackipaoepmfaaGreat
open Go Go.RowKit
set_option maxRecDepth 100000
set_option maxHeartbeats 20000000
instance X8x : ∀ (n : Nat) (p0 : (List Q3)) (p1 : Q2) (p2 : (List Q4)) (p3 : Q5), Ct (Q1h n p0 p1 p2 p3) fun res => Q9 Tryz.prog 0o00031 [(.slice 2 (List.map X2 p0)), (.agg (Z5 p1)), (.slice 9 (List.map Z7 p2)), (.agg (V2 p3))] (fun d => d = .tup [(eI res.1), (.slice 4 (List.map Q1l res.2.1)), (eB res.2.2)]) :=
 au Tryz.func25 Q1h.eq_1 .z
end Go.Proofs.YtnackipaoepmfaaGreat
set_option linter.unusedSimpArgs false
set_option linter.unusedVariables false
namespace Go.Proofs.YtnackipaoepmfaaGreat
open Go Go.RowKit
set_option maxRecDepth 100000
set_option maxHeartbeats 20000000
instance Q86 : ∀ (n : Nat) (p0 : (List Int)) (p1 : (List Int)), Ct (Q01 n p0 p1) fun res => Q9 Tryz.prog 0o00010 [(.slice 1 (List.map (rK .u8) p0)), (.slice 1 (List.map (rK .u8) p1))] (fun d => d = (eB res)) :=
 au Tryz.func8 Q01.eq_1 (.o (.o (.o (.i .z (.i .z (.o (.o (.o (.i .z (.o (.i .z (.i .z (.o (.ls 78 (.f [5, 6, 7, 8] [120] [5, 6, 7, 8, 12, 14] [120] (fun (k148 : Nat) (s144 : Unit) => [(14, eI (k148 : Int))]) (fun k148 s144 => []) (fun k148 s144 => .o (.g [5, 6, 7, 8, 12, 14] [0] [] [] (.o (.d [0, 1, 2, 3, 4, 5, 6, 7, 8, 9, 10, 11, 12, 13, 14] [0] [] .z)))) (fun s152 => .ls 7 (.f [] [] [5, 6, 7, 8, 18] [0] (fun (k274 : Nat) (s270 : Unit) => [(18, eI (k274 : Int))]) (fun k274 s270 => []) (fun k274 s270 => .z) (fun s278 => .z))))))))))))))))))
theorem Q87 (n : Nat) (p0 : (List Int)) (p1 : (List Int)) : ∀ res, Q01 n p0 p1 = some res → Q9 Tryz.prog 0o00010 [(.slice 1 (List.map (rK .u8) p0)), (.slice 1 (List.map (rK .u8) p1))] (fun d => d = (eB res)) := (Q86 n p0 p1).pf
end Go.Proofs.YtnackipaoepmfaaGreat
set_option linter.unusedSimpArgs false
set_option linter.unusedVariables false
namespace Go.Proofs.YtnackipaoepmfaaGreat
open Go Go.RowKit
set_option maxRecDepth 100000
set_option maxHeartbeats 20000000
instance Z8z : ∀ (n : Nat) (p0 : (List Int)), Ct (Q1s n p0) fun res => Q9 Tryz.prog 0o00056 [(.slice 1 (List.map (rK .u8) p0))] (fun d => d = .tup [(.slice 2 (List.map X2 res.1)), (.agg (Z5 res.2.1)), (.slice 9 (List.map Z7 res.2.2))]) :=
 au Tryz.func46 Q1s.eq_1 .z
end Go.Proofs.YtnackipaoepmfaaGreat
set_option linter.unusedSimpArgs false
set_option linter.unusedVariables false
namespace Go.Proofs.YtnackipaoepmfaaGreat
open Go Go.RowKit
set_option maxRecDepth 100000
set_option maxHeartbeats 20000000
instance X3s : ∀ (n : Nat) (p0 : (List Q3)) (p1 : Q2) (p2 : (List Q4)), Ct (Q18 n p0 p1 p2) fun res => Q9 Tryz.prog 0o00057 [(.slice 2 (List.map X2 p0)), (.agg (Z5 p1)), (.slice 9 (List.map Z7 p2))] (fun d => d = .tup [(.slice 9 (List.map Z7 res.1)), (eB res.2)]) :=
 au Tryz.func47 Q18.eq_1 (.o (.o (.o (.o (.o (.i .z (.pN 10 9 0x0037 (.ls 2 (.f [10] [144] [8, 10, 22, 23, 24] [144] (fun (k84 : Nat) (s80 : (List Q4)) => [(10, .sl 9 144 (s80).length), (24, eI (k84 : Int))]) (fun k84 s80 => [(144, some ⟨9, (List.map Z7 s80), 0, 0x0037⟩)]) (fun k84 s80 => .o (.j 7 0 [8, 10, 22, 23, 24] [0] (fun (s92 : (List Q4)) => [(10, .sl 9 0 (s92).length)]) (fun s92 => [(0, some ⟨9, (List.map Z7 s92), 0, 0x0037⟩)]) .z (fun _ => .z))) (fun s88 => .z))))))))))
end Go.Proofs.YtnackipaoepmfaaGreat
set_option linter.unusedSimpArgs false
set_option linter.unusedVariables false
namespace Go.Proofs.YtnackipaoepmfaaGreat
open Go Go.RowKit
set_option maxRecDepth 100000
set_option maxHeartbeats 20000000
instance X3n : ∀ (n : Nat) (p0 : (List Q3)) (p1 : Q2) (p2 : (List Q4)), Ct (Q15 n p0 p1 p2) fun res => Q9 Tryz.prog 0o00060 [(.slice 2 (List.map X2 p0)), (.agg (Z5 p1)), (.slice 9 (List.map Z7 p2))] (fun d => d = .tup [(.slice 9 (List.map Z7 res.1)), (eB res.2)]) :=
 au Tryz.func48 Q15.eq_1 (.o (.o (.o (.o (.o (.i .z (.ls 2 (.f [8] [24] [2, 8, 9, 11] [24] (fun (k94 : Nat) (s90 : (List Q4)) => [(8, .sl 9 24 (s90).length), (11, eI (k94 : Int))]) (fun k94 s90 => [(24, some ⟨9, (List.map Z7 s90), 0, 0x0037⟩)]) (fun k94 s90 => .o (.j 8 0 [2, 8, 9, 11] [0] (fun (s103 : (List Q4)) => [(8, .sl 9 0 (s103).length)]) (fun s103 => [(0, some ⟨9, (List.map Z7 s103), 0, 0x0037⟩)]) (.o (.i (.g [2, 8, 9, 11] [0] [] [] (.o (.o (.d [0, 1, 2, 3, 4, 5, 7, 8, 9, 10, 11, 6, 12, 13, 14, 15] [] [] .z)))) .z)) (fun _ => .z))) (fun s98 => .z)))))))))
end Go.Proofs.YtnackipaoepmfaaGreat
set_option linter.unusedSimpArgs false
set_option linter.unusedVariables false
namespace Go.Proofs.YtnackipaoepmfaaGreat
open Go Go.RowKit
set_option maxRecDepth 100000
set_option maxHeartbeats 20000000
instance Q9l : ∀ (n : Nat) (p0 : (List Int)) (p1 : (List Int)), Ct (Q0f n p0 p1) fun res => Q9 Tryz.prog 0o00014 [(.slice 1 (List.map (rK .u8) p0)), (.slice 1 (List.map (rK .u8) p1))] (fun d => d = (eB res)) :=
 au Tryz.func12 Q0f.eq_1 (.o (.o (.o (.i .z (.i .z (.o (.o (.o (.i .z (.o (.i .z (.i .z (.o (.ls 80 (.f [5, 6, 8] [120] [5, 6, 7, 8, 12, 14] [120] (fun (k383 : Nat) (s379 : Unit) => [(14, eI (k383 : Int))]) (fun k383 s379 => []) (fun k383 s379 => .o (.j 12 0 [5, 6, 7, 8, 12, 14] [0] (fun (s413 : Unit) => []) (fun _ => []) (.g [5, 6, 7, 8, 12, 14] [0] [] [] (.o (.d [0, 1, 2, 3, 4, 5, 6, 7, 8, 9, 10, 11, 12, 13, 14] [0] [] (.g [5, 6, 7, 8, 12, 14, 15, 16] [0] [] [] (.o (.d [0, 1, 2, 3, 4, 5, 6, 7, 8, 9, 10, 11, 12, 13, 14] [0] [] (.g [5, 6, 7, 8, 12, 14, 15, 16, 18, 19] [0] [] [] (.i (.d [0, 1, 2, 3, 4, 5, 6, 7, 8, 9, 10, 11, 12, 13, 14, 15, 16, 17, 18, 19, 20, 21, 22, 23, 24, 25, 26, 27, 28] [] [] .z) (.o (.i (.d [0, 1, 2, 3, 4, 5, 6, 7, 8, 9, 10, 11, 12, 13, 14, 15, 16, 17, 18, 19, 20, 21, 22, 23, 24, 25, 26, 27, 28] [] [] .z) (.i (.o (.o (.o (.d [0, 1, 2, 3, 4, 5, 6, 7, 8, 9, 10, 11, 12, 13, 14, 15, 16, 17, 18, 19, 20, 21, 22, 23, 24, 25, 26, 27, 28] [] [] .z)))) (.d [0, 1, 2, 3, 4, 5, 6, 7, 8, 9, 10, 11, 12, 13, 14, 15, 16, 17, 18, 19, 20, 21, 22, 23, 24, 25, 26, 27, 28] [] [] .z)))))))))))) (fun _ => .z))) (fun s387 => .z))))))))))))))))
theorem Q9n (n : Nat) (p0 : (List Int)) (p1 : (List Int)) : ∀ res, Q0f n p0 p1 = some res → Q9 Tryz.prog 0o00014 [(.slice 1 (List.map (rK .u8) p0)), (.slice 1 (List.map (rK .u8) p1))] (fun d => d = (eB res)) := (Q9l n p0 p1).pf
end Go.Proofs.YtnackipaoepmfaaGreat
