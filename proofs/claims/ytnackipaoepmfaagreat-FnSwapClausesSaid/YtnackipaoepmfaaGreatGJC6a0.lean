import Derived.Test.YtnackipaoepmfaaGreatGJMir
import Derived.Test.YtnackipaoepmfaaGreatGJAuto
import Derived.Test.YtnackipaoepmfaaGreatGJC1a0
import Derived.Test.YtnackipaoepmfaaGreatGJC5a0
import Derived.Test.YtnackipaoepmfaaGreatGJC5b0
import Derived.Test.YtnackipaoepmfaaGreatGJC0a0
import Derived.Test.YtnackipaoepmfaaGreatGJC0d0
import Derived.Test.YtnackipaoepmfaaGreatGJC3d0
import Derived.Test.YtnackipaoepmfaaGreatGJC5c0
import Derived.Test.YtnackipaoepmfaaGreatGJC5d0
import Derived.Test.YtnackipaoepmfaaGreatGJC1d0
import Derived.Test.YtnackipaoepmfaaGreatGJC1c0
import Derived.Test.YtnackipaoepmfaaGreatGJC2a0
import Derived.Test.YtnackipaoepmfaaGreatGJC3c0
import Derived.Test.YtnackipaoepmfaaGreatGJC1b0
import Derived.Test.YtnackipaoepmfaaGreatGJC3b0
import Derived.Test.YtnackipaoepmfaaGreatGJC4b0
import Derived.Test.YtnackipaoepmfaaGreatGJC3a0
import Derived.Test.YtnackipaoepmfaaGreatGJC2c0
set_option linter.unusedSimpArgs false
set_option linter.unusedVariables false
set_option linter.unusedSimpArgs false
set_option linter.unusedVariables false
namespace Go.Proofs.YtnackipaoepmfaaGreat
open Go Go.RowKit
set_option maxRecDepth 100000
set_option maxHeartbeats 20000000
instance W5o : ∀ (n : Nat) (p0 : Z1) (p1 : (List Q3)) (p2 : Q2), Ct (Q3m n p0 p1 p2) fun res => Q0k Tryz.prog 0o00230 [⟨2, [(Y3 p0)], 0, 0x00c4⟩] [.ptr 2 0 0 0, (.slice 2 (List.map X0 p1)), (.agg (Z6 p2))] (fun H d => H = [some ⟨2, [(Y3 res.2)], 0, 0x00c4⟩, some ⟨9, List.map Z8 res.1, 0, 0x0037⟩] ∧ d = .sl 9 1 res.1.length) :=
 au Tryz.func152 Q3m.eq_1 (.o (.o (.o (.o (.o (.w [7] [0, 17] [0, 1, 5, 7, 8] [0, 1, 17] (fun (s50 : Z1 × (List Q5) × Int) => [(7, .sl 9 17 (s50.2.1).length), (8, eI s50.2.2)]) (fun s50 => [(0, some ⟨2, [(Y3 s50.1)], 0, 0x00c4⟩), (17, some ⟨9, (List.map Z8 s50.2.1), 0, 0x0037⟩)]) (fun s50 => .z) (fun s58 => .z)))))))
end Go.Proofs.YtnackipaoepmfaaGreat
set_option linter.unusedSimpArgs false
set_option linter.unusedVariables false
namespace Go.Proofs.YtnackipaoepmfaaGreat
open Go Go.RowKit
set_option maxRecDepth 100000
set_option maxHeartbeats 20000000
instance W3p : ∀ (n : Nat) (p0 : Z1), Ct (Q35 n p0) fun res => Q0k Tryz.prog 0o00104 [⟨2, [(Y3 p0)], 0, 0x00c4⟩] [.ptr 2 0 0 0] (fun H d => H = [some ⟨2, [(Y3 res.2.2.2.2)], 0, 0x00c4⟩, some ⟨9, List.map Z8 res.2.2.1, 0, 0x0037⟩] ∧ d = .tup [(.slice 2 (List.map X0 res.1)), (.agg (Z6 res.2.1)), .sl 9 1 res.2.2.1.length, (.agg (V0 res.2.2.2.1))]) :=
 au Tryz.func68 Q35.eq_1 (.o (.o (.o (.g [0, 3, 5, 6, 7, 8] [0, 9, 25, 81, 89] [] [] (.o (.d [0, 1, 2, 3, 4, 6, 5, 7, 8, 9, 10] [3, 4] [] .z))))))
end Go.Proofs.YtnackipaoepmfaaGreat
set_option linter.unusedSimpArgs false
set_option linter.unusedVariables false
namespace Go.Proofs.YtnackipaoepmfaaGreat
open Go Go.RowKit
set_option maxRecDepth 100000
set_option maxHeartbeats 20000000
instance Z74 : ∀ (n : Nat) (p0 : (List Int)), Ct (Y4 n p0) fun res => Q0k Tryz.prog 0o00117 [] [(.slice 1 (List.map (rK .u8) p0))] (fun H d => H = [some ⟨9, List.map Z8 res.2.2, 0, 0x0037⟩] ∧ d = .tup [(.slice 2 (List.map X0 res.1)), (.agg (Z6 res.2.1)), .sl 9 0 res.2.2.length]) :=
 au Tryz.func79 Y4.eq_1 (.o (.o (.o (.o (.j 3 0 [3, 5, 6, 7, 8] [8, 33, 104, 57] (fun (s15 : Z1 × (List Q5)) => [(8, .sl 9 57 (s15.2).length)]) (fun s15 => [(33, some ⟨2, [(Y3 s15.1)], 0, 0x00c4⟩), (57, some ⟨9, (List.map Z8 s15.2), 0, 0x0037⟩)]) .z (fun _ => .g [3, 5, 6, 7, 8] [0, 1, 2, 3] [] [] (.o (.d [0, 1, 2, 3, 4, 5, 6, 7] [2] [] .z))))))))
end Go.Proofs.YtnackipaoepmfaaGreat
set_option linter.unusedSimpArgs false
set_option linter.unusedVariables false
namespace Go.Proofs.YtnackipaoepmfaaGreat
open Go Go.RowKit
set_option maxRecDepth 100000
set_option maxHeartbeats 20000000
instance Z5w : ∀ (n : Nat) (p0 : (List Int)), Ct (V7 n p0) fun res => Q9 Tryz.prog 0o00045 [(.slice 1 (List.map (rK .u8) p0))] (fun d => d = .tup [(.slice 2 (List.map X0 res.1)), (.agg (Z6 res.2.1)), (.slice 9 (List.map Z8 res.2.2))]) :=
 au Tryz.func37 V7.eq_1 (.o (.o (.o (.o (.j 3 0 [3, 6, 7, 8] [8, 96, 57] (fun (s20 : (List Q5)) => [(8, .sl 9 57 (s20).length)]) (fun s20 => [(57, some ⟨9, (List.map Z8 s20), 0, 0x0037⟩)]) .z (fun _ => .g [3, 6, 7, 8] [0, 1, 2] [] [] (.d [0, 1, 2, 3, 4, 5] [1] [] .z)))))))
end Go.Proofs.YtnackipaoepmfaaGreat
set_option linter.unusedSimpArgs false
set_option linter.unusedVariables false
namespace Go.Proofs.YtnackipaoepmfaaGreat
open Go Go.RowKit
set_option maxRecDepth 100000
set_option maxHeartbeats 20000000
instance X06 : ∀ (n : Nat) (p0 : (List Int)), Ct (Q17 n p0) fun res => Q9 Tryz.prog 0o00050 [(.slice 1 (List.map (rK .u8) p0))] (fun d => d = .tup [(.slice 2 (List.map X0 res.1)), (.agg (Z6 res.2.1)), (.slice 9 (List.map Z8 res.2.2.1)), (eI res.2.2.2)]) :=
 au Tryz.func40 Q17.eq_1 (.o (.o (.o (.g [0, 3, 6, 7, 8] [8, 80] [] [] (.o (.o (.dz [0, 1, 2, 3, 4, 5, 6, 7, 8, 9, 10] [1] [1048596] [] .z)))))))
end Go.Proofs.YtnackipaoepmfaaGreat
set_option linter.unusedSimpArgs false
set_option linter.unusedVariables false
namespace Go.Proofs.YtnackipaoepmfaaGreat
open Go Go.RowKit
set_option maxRecDepth 100000
set_option maxHeartbeats 20000000
instance X4d : ∀ (n : Nat) (p0 : (List Q3)) (p1 : Q2) (p2 : (List Q5)), Ct (Q1d n p0 p1 p2) fun res => Q9 Tryz.prog 0o00111 [(.slice 2 (List.map X0 p0)), (.agg (Z6 p1)), (.slice 9 (List.map Z8 p2))] (fun d => d = (eB res)) :=
 au Tryz.func73 Q1d.eq_1 .z
end Go.Proofs.YtnackipaoepmfaaGreat
set_option linter.unusedSimpArgs false
set_option linter.unusedVariables false
namespace Go.Proofs.YtnackipaoepmfaaGreat
open Go Go.RowKit
set_option maxRecDepth 100000
set_option maxHeartbeats 20000000
instance X0a : ∀ (n : Nat) (p0 : Q0t) (p1 : Q2) (p2 : (List Q0)), Ct (Q0c n p0 p1 p2) fun res => Q9 Tryz.prog 0o00153 [.cptr (Q1n p0), (.agg (Z6 p1)), (.slice 6 (List.map Q1 p2))] (fun d => d = .tup [(.slice 6 (List.map Q1 res.1)), (eB res.2)]) :=
 au Tryz.func107 Q0c.eq_1 (.o (.o (.o (.o (.pN 8 6 0x0033 (.ls 2 (.f [8] [56] [0, 2, 4, 8, 13, 14, 15] [0, 56] (fun (k86 : Nat) (s82 : (List Q0)) => [(8, .sl 6 56 (s82).length), (15, eI (k86 : Int))]) (fun k86 s82 => [(56, some ⟨6, (List.map Q1 s82), 0, 0x0033⟩)]) (fun k86 s82 => .o (.g [0, 2, 4, 8, 9, 10, 13, 14, 15] [0, 1, 34] [] [] (.o (.o (.d [0, 1, 2, 4, 5, 6, 3, 7, 8, 9, 10, 11, 12] [0, 2] [] .z))))) (fun s90 => .z))))))))
end Go.Proofs.YtnackipaoepmfaaGreat
set_option linter.unusedSimpArgs false
set_option linter.unusedVariables false
namespace Go.Proofs.YtnackipaoepmfaaGreat
open Go Go.RowKit
set_option maxRecDepth 100000
set_option maxHeartbeats 20000000
instance X31 : ∀ (n : Nat) (p0 : Q0t) (p1 : Q2) (p2 : (List Q0)) (p3 : Bool), Ct (Q1x n p0 p1 p2 p3) fun res => Q9 Tryz.prog 0o00155 [.cptr (Q1n p0), (.agg (Z6 p1)), (.slice 6 (List.map Q1 p2)), (eB p3)] (fun d => d = .tup [(.slice 6 (List.map Q1 res.1)), (eB res.2)]) :=
 au Tryz.func109 Q1x.eq_1 .z
end Go.Proofs.YtnackipaoepmfaaGreat
set_option linter.unusedSimpArgs false
set_option linter.unusedVariables false
namespace Go.Proofs.YtnackipaoepmfaaGreat
open Go Go.RowKit
set_option maxRecDepth 100000
set_option maxHeartbeats 20000000
instance X9u : ∀ (n : Nat) (p0 : (List Q3)) (p1 : Q2) (p2 : Q0) (p3 : Q0), Ct (Q5a n p0 p1 p2 p3) fun res => Q9 Tryz.prog 0o00264 [(.slice 2 (List.map X0 p0)), (.agg (Z6 p1)), (.agg (Q1 p2)), (.agg (Q1 p3))] (fun d => d = .tup [(.slice 6 (List.map Q1 res.1)), (.slice 6 (List.map Q1 res.2.1)), (eB res.2.2)]) :=
 au Tryz.func180 Q5a.eq_1 .z
end Go.Proofs.YtnackipaoepmfaaGreat
set_option linter.unusedSimpArgs false
set_option linter.unusedVariables false
namespace Go.Proofs.YtnackipaoepmfaaGreat
open Go Go.RowKit
set_option maxRecDepth 100000
set_option maxHeartbeats 20000000
instance X4b : ∀ (n : Nat) (p0 : (List Q3)) (p1 : Q2) (p2 : Q0) (p3 : Q0), Ct (Q1c n p0 p1 p2 p3) fun res => Q9 Tryz.prog 0o00131 [(.slice 2 (List.map X0 p0)), (.agg (Z6 p1)), (.agg (Q1 p2)), (.agg (Q1 p3))] (fun d => d = .tup [(.slice 6 (List.map Q1 res.1)), (eB res.2)]) :=
 au Tryz.func89 Q1c.eq_1 (.o (.o (.o (.o (.o (.o (.i .z (.o (.pN 14 6 0x0033 (.ls 27 (.f [5, 13, 14] [0, 208] [5, 11, 13, 14, 34, 35, 36] [0, 208] (fun (k510 : Nat) (s506 : (List Q0)) => [(14, .sl 6 208 (s506).length), (36, eI (k510 : Int))]) (fun k510 s506 => [(208, some ⟨6, (List.map Q1 s506), 0, 0x0033⟩)]) (fun k510 s506 => .o (.ls 11 (.f [5, 11, 13, 14, 34, 35, 36] [0, 1] [5, 11, 13, 14, 16, 34, 35, 36, 40, 41, 42] [0, 1, 26] (fun (k595 : Nat) (s591 : (List Q0)) => [(14, .sl 6 1 (s591).length), (42, eI (k595 : Int))]) (fun k595 s591 => [(1, some ⟨6, (List.map Q1 s591), 0, 0x0033⟩)]) (fun k595 s591 => .o (.j 11 0 [5, 11, 13, 14, 16, 34, 35, 36, 40, 41, 42] [0, 1, 2] (fun (s603 : (List Q0)) => [(14, .sl 6 1 (s603).length)]) (fun s603 => [(1, some ⟨6, (List.map Q1 s603), 0, 0x0033⟩)]) .z (fun _ => .z))) (fun s599 => .z)))) (fun s514 => .z))))))))))))
end Go.Proofs.YtnackipaoepmfaaGreat
set_option linter.unusedSimpArgs false
set_option linter.unusedVariables false
namespace Go.Proofs.YtnackipaoepmfaaGreat
open Go Go.RowKit
set_option maxRecDepth 100000
set_option maxHeartbeats 20000000
instance X6o : ∀ (n : Nat) (p0 : (List Q3)) (p1 : Q2) (p2 : Q5) (p3 : Q5), Ct (Q2z n p0 p1 p2 p3) fun res => Q9 Tryz.prog 0o00033 [(.slice 2 (List.map X0 p0)), (.agg (Z6 p1)), (.agg (Z8 p2)), (.agg (Z8 p3))] (fun d => d = .tup [(eB res.1), (eB res.2)]) :=
 au Tryz.func27 Q2z.eq_1 .z
end Go.Proofs.YtnackipaoepmfaaGreat
set_option linter.unusedSimpArgs false
set_option linter.unusedVariables false
namespace Go.Proofs.YtnackipaoepmfaaGreat
open Go Go.RowKit
set_option maxRecDepth 100000
set_option maxHeartbeats 20000000
instance X6l : ∀ (n : Nat) (p0 : (List Q3)) (p1 : Q2) (p2 : (List Q5)) (p3 : Int), Ct (Q1s n p0 p1 p2 p3) fun res => Q9 Tryz.prog 0o00051 [(.slice 2 (List.map X0 p0)), (.agg (Z6 p1)), (.slice 9 (List.map Z8 p2)), (eI p3)] (fun d => d = .tup [(.slice 9 (List.map Z8 res.1)), (eB res.2)]) :=
 au Tryz.func41 Q1s.eq_1 (.o (.o (.o (.o (.o (.o (.i .z (.o (.i .z (.g [0, 2, 3, 5] [0] [] [] (.o (.o (.o (.d [0, 1, 2, 3, 4, 5, 6, 7, 8, 9, 10, 11, 12, 13, 14, 15, 16] [0] [] (.i .z (.i .z (.o (.g [3, 12] [58] [] [] (.o (.o (.o (.o (.o (.d [0, 1, 2, 3, 4, 5, 6, 7, 8, 9, 10, 11, 12, 13, 14, 15, 16, 17] [0] [62, 63] .z))))))))))))))))))))))))
end Go.Proofs.YtnackipaoepmfaaGreat
set_option linter.unusedSimpArgs false
set_option linter.unusedVariables false
namespace Go.Proofs.YtnackipaoepmfaaGreat
open Go Go.RowKit
set_option maxRecDepth 100000
set_option maxHeartbeats 20000000
instance X45 : ∀ (n : Nat) (p0 : (List Q3)) (p1 : Q2) (p2 : Q0) (p3 : Q0), Ct (Q19 n p0 p1 p2 p3) fun res => Q9 Tryz.prog 0o00133 [(.slice 2 (List.map X0 p0)), (.agg (Z6 p1)), (.agg (Q1 p2)), (.agg (Q1 p3))] (fun d => d = .tup [(.slice 6 (List.map Q1 res.1)), (eB res.2)]) :=
 au Tryz.func91 Q19.eq_1 (.o (.o (.o (.o (.o (.o (.i .z (.ls 26 (.f [0, 5, 13] [0, 152] [0, 5, 10, 11, 13, 14] [0, 152] (fun (k549 : Nat) (s545 : (List Q0)) => [(13, .sl 6 152 (s545).length), (14, eI (k549 : Int))]) (fun k549 s545 => [(152, some ⟨6, (List.map Q1 s545), 0, 0x0033⟩)]) (fun k549 s545 => .o (.ls 11 (.f [0, 5, 10, 11, 13, 14] [0, 1] [0, 5, 10, 11, 13, 14, 15] [0, 1] (fun (k634 : Nat) (s630 : (List Q0)) => [(13, .sl 6 1 (s630).length), (15, eI (k634 : Int))]) (fun k634 s630 => [(1, some ⟨6, (List.map Q1 s630), 0, 0x0033⟩)]) (fun k634 s630 => .o (.j 11 0 [0, 5, 10, 11, 13, 14, 15] [0, 1] (fun (s642 : (List Q0)) => [(13, .sl 6 1 (s642).length)]) (fun s642 => [(1, some ⟨6, (List.map Q1 s642), 0, 0x0033⟩)]) (.g [0, 5, 10, 11, 13, 14, 15] [0, 1] [] [] (.o (.dz [0, 1, 2, 3, 4, 5, 6, 7, 8, 9, 10, 11, 12, 13, 14] [] [1048592] [] .z))) (fun _ => .z))) (fun s638 => .z)))) (fun s553 => .g [0, 5, 13] [0, 1] [] [] (.o (.o (.d [0, 1, 3, 4, 2, 5, 6, 7, 8, 9, 10] [0] [] .z)))))))))))))
end Go.Proofs.YtnackipaoepmfaaGreat
set_option linter.unusedSimpArgs false
set_option linter.unusedVariables false
namespace Go.Proofs.YtnackipaoepmfaaGreat
open Go Go.RowKit
set_option maxRecDepth 100000
set_option maxHeartbeats 20000000
instance X6c : ∀ (n : Nat) (p0 : (List Q3)) (p1 : Q2) (p2 : Q5) (p3 : Q5), Ct (Q2t n p0 p1 p2 p3) fun res => Q9 Tryz.prog 0o00034 [(.slice 2 (List.map X0 p0)), (.agg (Z6 p1)), (.agg (Z8 p2)), (.agg (Z8 p3))] (fun d => d = .tup [(eB res.1), (eB res.2)]) :=
 au Tryz.func28 Q2t.eq_1 .z
end Go.Proofs.YtnackipaoepmfaaGreat
set_option linter.unusedSimpArgs false
set_option linter.unusedVariables false
namespace Go.Proofs.YtnackipaoepmfaaGreat
open Go Go.RowKit
set_option maxRecDepth 100000
set_option maxHeartbeats 20000000
instance X6b : ∀ (n : Nat) (p0 : (List Q3)) (p1 : Q2) (p2 : (List Q5)) (p3 : Int), Ct (Q2s n p0 p1 p2 p3) fun res => Q9 Tryz.prog 0o00052 [(.slice 2 (List.map X0 p0)), (.agg (Z6 p1)), (.slice 9 (List.map Z8 p2)), (eI p3)] (fun d => d = .tup [(.slice 9 (List.map Z8 res.1)), (eB res.2)]) :=
 au Tryz.func42 Q2s.eq_1 (.o (.o (.o (.o (.o (.o (.i .z (.i .z (.i .z (.g [0, 2, 3, 5] [0] [] [] (.o (.o (.o (.d [0, 1, 2, 3, 4, 5, 6, 7, 8, 9, 10, 11, 12, 13, 14, 15, 16] [0] [] .z))))))))))))))
end Go.Proofs.YtnackipaoepmfaaGreat
set_option linter.unusedSimpArgs false
set_option linter.unusedVariables false
namespace Go.Proofs.YtnackipaoepmfaaGreat
open Go Go.RowKit
set_option maxRecDepth 100000
set_option maxHeartbeats 20000000
instance X8p : ∀ (n : Nat) (p0 : (List Q3)) (p1 : Q2) (p2 : (List Q5)) (p3 : Q4), Ct (Q28 n p0 p1 p2 p3) fun res => Q9 Tryz.prog 0o00031 [(.slice 2 (List.map X0 p0)), (.agg (Z6 p1)), (.slice 9 (List.map Z8 p2)), (.agg (V0 p3))] (fun d => d = .tup [(eI res.1), (.slice 4 (List.map Q1h res.2.1)), (eB res.2.2)]) :=
 au Tryz.func25 Q28.eq_1 .z
end Go.Proofs.YtnackipaoepmfaaGreat
set_option linter.unusedSimpArgs false
set_option linter.unusedVariables false
namespace Go.Proofs.YtnackipaoepmfaaGreat
open Go Go.RowKit
set_option maxRecDepth 100000
set_option maxHeartbeats 20000000
instance Z0t : ∀ (n : Nat) (p0 : (List Int)) (p1 : (List Int)), Ct (Q0v n p0 p1) fun res => Q9 Tryz.prog 0o00011 [(.slice 1 (List.map (rK .u8) p0)), (.slice 1 (List.map (rK .u8) p1))] (fun d => d = (eB res)) :=
 au Tryz.func9 Q0v.eq_1 (.o (.o (.o (.i .z (.i .z (.o (.o (.o (.i .z (.o (.i .z (.i .z (.o (.ls 84 (.f [5, 6, 7, 8, 9] [128] [5, 6, 7, 8, 9, 13, 15] [128] (fun (k288 : Nat) (s284 : Unit) => [(15, eI (k288 : Int))]) (fun k288 s284 => []) (fun k288 s284 => .o (.g [5, 6, 7, 8, 9, 13, 15] [0] [] [] (.o (.d [0, 1, 2, 3, 4, 5, 6, 7, 8, 9, 10, 11, 12, 13, 14] [0] [] (.g [5, 6, 7, 8, 9, 13, 15, 16, 17] [0] [] [] (.o (.d [0, 1, 2, 3, 4, 5, 6, 7, 8, 9, 10, 11, 12, 13, 14] [0] [] (.j 14 0 [5, 6, 7, 8, 9, 13, 15, 16, 17, 19, 20] [0] (fun (s314 : Int) => [(16, eI s314)]) (fun _ => []) .z (fun _ => .z))))))))) (fun s292 => .z))))))))))))))))
theorem Z0v (n : Nat) (p0 : (List Int)) (p1 : (List Int)) : ∀ res, Q0v n p0 p1 = some res → Q9 Tryz.prog 0o00011 [(.slice 1 (List.map (rK .u8) p0)), (.slice 1 (List.map (rK .u8) p1))] (fun d => d = (eB res)) := (Z0t n p0 p1).pf
end Go.Proofs.YtnackipaoepmfaaGreat
