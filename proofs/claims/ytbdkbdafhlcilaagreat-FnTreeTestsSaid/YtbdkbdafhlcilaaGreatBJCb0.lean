import Derived.Test.YtbdkbdafhlcilaaGreatBJMir
import Derived.Test.YtbdkbdafhlcilaaGreatBJMb0
import Derived.Test.YtbdkbdafhlcilaaGreatBJAuto
import Derived.Test.YtbdkbdafhlcilaaGreatBJAuI
import Derived.Test.YtbdkbdafhlcilaaGreatBJAut
import Derived.Test.YtbdkbdafhlcilaaGreatBJZap
import Derived.Test.YtbdkbdafhlcilaaGreatBJZip
import Derived.Test.YtbdkbdafhlcilaaGreatBJDat
import Derived.Test.YtbdkbdafhlcilaaGreatBJE1
import Derived.Test.YtbdkbdafhlcilaaGreatBJE0
import Derived.Test.YtbdkbdafhlcilaaGreatBJTys
import Derived.Test.YtbdkbdafhlcilaaGreatProg
import Derived.Test.YtbdkbdafhlcilaaGreatBJC1b0
import Derived.Test.YtbdkbdafhlcilaaGreatBJC0d0
import Derived.Test.YtbdkbdafhlcilaaGreatBJC3d0
import Derived.Test.YtbdkbdafhlcilaaGreatBJC2b0
import Derived.Test.YtbdkbdafhlcilaaGreatBJC0c0
import Derived.Test.YtbdkbdafhlcilaaGreatBJC6a0
import Derived.Test.YtbdkbdafhlcilaaGreatBJC1d0
import Derived.Test.YtbdkbdafhlcilaaGreatBJC0a0
import Derived.Test.YtbdkbdafhlcilaaGreatBJC3b0
import Derived.Test.YtbdkbdafhlcilaaGreatBJC1a0
import Derived.Test.YtbdkbdafhlcilaaGreatBJC2d0
import Derived.Test.YtbdkbdafhlcilaaGreatBJC5a0
import Derived.Test.YtbdkbdafhlcilaaGreatBJC0b0
import Derived.Test.YtbdkbdafhlcilaaGreatBJC2c0
import Derived.Test.YtbdkbdafhlcilaaGreatBJC4c0
import Derived.Test.YtbdkbdafhlcilaaGreatBJC3c0
import Derived.Test.YtbdkbdafhlcilaaGreatBJC1c0
import Derived.Test.YtbdkbdafhlcilaaGreatBJC5c0
import Derived.Test.YtbdkbdafhlcilaaGreatBJC4d0
import Derived.Test.YtbdkbdafhlcilaaGreatBJC6c0
import Derived.Test.YtbdkbdafhlcilaaGreatBJC5d0
import Derived.Test.YtbdkbdafhlcilaaGreatBJC4b0
import Derived.Test.YtbdkbdafhlcilaaGreatBJC2a0
import Derived.Test.YtbdkbdafhlcilaaGreatBJC3a0
import Derived.Test.YtbdkbdafhlcilaaGreatBJC4a0
import Derived.Test.YtbdkbdafhlcilaaGreatBJC6b0
import Derived.Test.YtbdkbdafhlcilaaGreatBJC5b0
set_option linter.unusedSimpArgs false
set_option linter.unusedVariables false
set_option linter.unusedSimpArgs false
set_option linter.unusedVariables false
namespace Go.Proofs.YtbdkbdafhlcilaaGreat
open Go Go.RowKit
set_option maxRecDepth 100000
set_option maxHeartbeats 20000000
instance W2s : ∀ (p0 : Z9), Ct (Q2h p0) fun res => Z1 Tryz.prog 0o00112 [(.agg (Q16 p0))] (fun d => d = (.slice 6 (List.map Q16 res))) :=
 au Tryz.func74 Q2h.eq_1 (.o (.pN 3 6 0x002b (.ls 7 (.f [1, 3] [0, 56] [1, 3, 7, 8, 9] [0, 56] (fun (k46 : Nat) (s42 : (List Z9)) => [(3, .sl 6 56 (s42).length), (9, eI (k46 : Int))]) (fun k46 s42 => [(56, some ⟨6, (List.map Q16 s42), 0, 0x002b⟩)]) (fun k46 s42 => .z) (fun s50 => .z)))))
end Go.Proofs.YtbdkbdafhlcilaaGreat
set_option linter.unusedSimpArgs false
set_option linter.unusedVariables false
namespace Go.Proofs.YtbdkbdafhlcilaaGreat
open Go Go.RowKit
set_option maxRecDepth 100000
set_option maxHeartbeats 20000000
instance W31 : ∀ (n : Nat) (p0 : Z9), Ct (Q2i n p0) fun res => Z1 Tryz.prog 0o00040 [(.agg (Q16 p0))] (fun d => d = (eI res)) :=
 ar (au Tryz.func32 Q2i.eq_2 (.o (.o (.o (.o (.ls 7 (.f [3] [] [3, 7, 8, 9] [] (fun (k48 : Nat) (s44 : Int) => [(3, eI s44), (9, eI (k48 : Int))]) (fun k48 s44 => []) (fun k48 s44 => .z) (fun s52 => .z))))))))
end Go.Proofs.YtbdkbdafhlcilaaGreat
set_option linter.unusedSimpArgs false
set_option linter.unusedVariables false
namespace Go.Proofs.YtbdkbdafhlcilaaGreat
open Go Go.RowKit
set_option maxRecDepth 100000
set_option maxHeartbeats 20000000
instance W2n : ∀ (n : Nat) (p0 : Z7) (p1 : Q1), Ct (Q1o n p0 p1) fun res => J8 Tryz.prog 0o00061 [⟨2, [(Y0 p0)], 0, 0x009a⟩] [.ptr 2 0 0 0, (.agg (X0 p1))] (fun H d => H = [some ⟨2, [(Y0 res.2)], 0, 0x009a⟩] ∧ d = (.agg (X0 res.1))) :=
 ar (au Tryz.func49 Q1o.eq_2 (.o (.o (.o (.b fun (p1 : Q1) => .g [0, 3, 4] [0, 1, 9] [] [] (.o (.dz [0, 1, 2, 3, 5, 6, 4, 7, 8, 9, 10] [1] [1048581] [] (.j 2 0 [4, 5] [0, 2, 1048581, 2097160] (fun (s15 : Z7 × Int × Int × (List Q1)) => []) (fun s15 => [(0, some ⟨2, [(Y0 s15.1)], 0, 0x009a⟩), (1001048581, some ⟨3, [[(eI s15.2.1), (eI s15.2.2.1), (.sl 3 2097160 (s15.2.2.2).length)]], 0, 0x0038⟩), (2097160, some ⟨3, (List.map X0 s15.2.2.2), 0, 0x0038⟩)]) (.o (.i .z (.i .z (.i .z (.i (.i (.g [0, 4, 5] [0, 2, 1048581, 2097160] [] [(1001048581, some ⟨3, [[(eI p1.ctor), (eI p1.n), (.sl 3 2097160 (p1.kids).length)]], 0, 0x0038⟩)] (.o (.o (.o (.o (.d [0, 1, 2, 3, 4, 5, 6, 7, 8, 9, 10, 11] [2, 3] [53] .z)))))) .z) .z))))) (fun _ => .pF 3 .z)))))))))
end Go.Proofs.YtbdkbdafhlcilaaGreat
set_option linter.unusedSimpArgs false
set_option linter.unusedVariables false
namespace Go.Proofs.YtbdkbdafhlcilaaGreat
open Go Go.RowKit
set_option maxRecDepth 100000
set_option maxHeartbeats 20000000
instance X75 : ∀ (n : Nat) (p0 : (List Int)), Ct (Q33 n p0) fun res => Z1 Tryz.prog 0o00032 [(.slice 1 (List.map (rK .u8) p0))] (fun d => d = .tup [(.slice 2 (List.map X9 res.1)), (.agg (X7 res.2.1)), (.slice 9 (List.map V0 res.2.2.1)), (eI res.2.2.2.1), (.agg (X0 res.2.2.2.2))]) :=
 au Tryz.func26 Q33.eq_1 (.o (.o (.o (.o (.g [3, 6, 7, 8, 9, 10, 11] [8, 32, 49, 120, 73, 128] [] [] (.o (.o (.o (.dz [0, 1, 2, 3, 5, 8, 9, 4, 6, 7, 10, 11, 12, 13, 14, 15] [3, 5] [1048603] [] .z)))))))))
end Go.Proofs.YtbdkbdafhlcilaaGreat
set_option linter.unusedSimpArgs false
set_option linter.unusedVariables false
namespace Go.Proofs.YtbdkbdafhlcilaaGreat
open Go Go.RowKit
set_option maxRecDepth 100000
set_option maxHeartbeats 20000000
instance W0h : ∀ (n : Nat) (p0 : (List Q3)) (p1 : Q5) (p2 : Q1) (p3 : Int) (p4 : Bool) (p5 : Int), Ct (Q1w n p0 p1 p2 p3 p4 p5) fun res => J8 Tryz.prog 0o00154 [⟨1, [[(eI p5)]], 0, 0x0003⟩] [(.slice 2 (List.map X9 p0)), (.agg (X7 p1)), (.agg (X0 p2)), (eI p3), (eB p4), .ptr 1 0 0 0] (fun H d => H = [some ⟨1, [[(eI res.2)]], 0, 0x0003⟩] ∧ d = (eB res.1)) :=
 ar (au Tryz.func108 Q1w.eq_2 (.o (.o (.o (.o (.o (.o (.o (.o (.i .z (.i .z (.j 4 0 [0, 3, 4, 5, 7, 8] [0, 1, 9] (fun (s92 : Unit) => []) (fun _ => []) (.i (.i .z (.i .z (.g [0, 3, 4, 5, 7, 8] [0, 1, 9] [] [] (.i (.d [0, 1, 2, 3, 4, 5, 7, 8, 6, 9, 10, 11, 12] [2] [] .z) (.o (.o (.d [0, 1, 2, 3, 4, 5, 7, 8, 6, 9, 10, 11, 12] [1, 2] [] .z))))))) (.i .z (.g [0, 3, 4, 5, 7, 8] [0, 1, 9] [] [] (.i (.d [0, 1, 2, 3, 4, 5, 7, 8, 6, 9, 10, 11, 12] [2] [] .z) (.o (.o (.d [0, 1, 2, 3, 4, 5, 7, 8, 6, 9, 10, 11, 12] [1, 2] [] .z))))))) (fun s92 => .o (.i .z (.ls 84 (.f [] [0] [0, 3, 4, 5, 13, 88, 89, 90] [0] (fun (k244 : Nat) (s240 : Int) => [(90, eI (k244 : Int))]) (fun k244 s240 => [(0, some ⟨1, [[(eI s240)]], 0, 0x0003⟩)]) (fun k244 s240 => .o (.g [0, 3, 4, 5, 13, 14, 15, 88, 89, 90] [0, 33] [] [] (.o (.o (.d [0, 1, 2, 3, 4, 5, 6, 7, 8, 9, 10, 11] [1] [] .z))))) (fun s248 => .z)))))))))))))))))
end Go.Proofs.YtbdkbdafhlcilaaGreat
set_option linter.unusedSimpArgs false
set_option linter.unusedVariables false
namespace Go.Proofs.YtbdkbdafhlcilaaGreat
open Go Go.RowKit
set_option maxRecDepth 100000
set_option maxHeartbeats 20000000
instance W53 : ∀ (n : Nat) (p0 : (List Q3)) (p1 : Q5) (p2 : Q1), Ct (Q4f n p0 p1 p2) fun res => Z1 Tryz.prog 0o00063 [(.slice 2 (List.map X9 p0)), (.agg (X7 p1)), (.agg (X0 p2))] (fun d => d = (eB res)) :=
 au Tryz.func51 Q4f.eq_1 .z
end Go.Proofs.YtbdkbdafhlcilaaGreat
set_option linter.unusedSimpArgs false
set_option linter.unusedVariables false
namespace Go.Proofs.YtbdkbdafhlcilaaGreat
open Go Go.RowKit
set_option maxRecDepth 100000
set_option maxHeartbeats 20000000
instance W59 : ∀ (n : Nat) (p0 : (List Q3)) (p1 : Q5) (p2 : (List Q6)) (p3 : Int) (p4 : Q1), Ct (Q5c n p0 p1 p2 p3 p4) fun res => Z1 Tryz.prog 0o00033 [(.slice 2 (List.map X9 p0)), (.agg (X7 p1)), (.slice 9 (List.map V0 p2)), (eI p3), (.agg (X0 p4))] (fun d => d = .tup [(eI res.1), (.slice 4 (List.map Q5p res.2.1)), (eI res.2.2)]) :=
 au Tryz.func27 Q5c.eq_1 .z
end Go.Proofs.YtbdkbdafhlcilaaGreat
set_option linter.unusedSimpArgs false
set_option linter.unusedVariables false
namespace Go.Proofs.YtbdkbdafhlcilaaGreat
open Go Go.RowKit
set_option maxRecDepth 100000
set_option maxHeartbeats 20000000
instance W71 : ∀ (n : Nat) (p0 : (List Q3)) (p1 : Q5) (p2 : Q1) (p3 : Int), Ct (Q2z n p0 p1 p2 p3) fun res => Z1 Tryz.prog 0o00161 [(.slice 2 (List.map X9 p0)), (.agg (X7 p1)), (.agg (X0 p2)), (eI p3)] (fun d => d = (eB res)) :=
 ar (au Tryz.func113 Q2z.eq_2 (.o (.o (.o (.o (.o (.o (.i .z (.i .z (.g [0, 3, 5, 6] [0, 8] [] [] (.i (.d [0, 1, 2, 3, 4, 5, 7, 8, 6, 9, 10, 11] [1] [] .z) (.o (.o (.d [0, 1, 2, 3, 4, 5, 7, 8, 6, 9, 10, 11] [0, 1] [] (.i .z (.o (.i .z (.ls 51 (.f [] [] [0, 3, 6, 9, 10] [1] (fun (k105 : Nat) (s101 : Unit) => [(10, eI (k105 : Int))]) (fun k105 s101 => []) (fun k105 s101 => .o (.g [0, 3, 6, 9, 10] [0] [] [] (.o (.o (.d [0, 1, 2, 3, 4, 5, 6, 7, 8, 9, 10, 11, 12, 13] [0] [] .z))))) (fun s109 => .z))))))))))))))))))))
end Go.Proofs.YtbdkbdafhlcilaaGreat
set_option linter.unusedSimpArgs false
set_option linter.unusedVariables false
namespace Go.Proofs.YtbdkbdafhlcilaaGreat
open Go Go.RowKit
set_option maxRecDepth 100000
set_option maxHeartbeats 20000000
instance W4t : ∀ (n : Nat) (p0 : Q1) (p1 : Int), Ct (Q3g n p0 p1) fun res => Z1 Tryz.prog 0o00162 [(.agg (X0 p0)), (eI p1)] (fun d => d = (eI res)) :=
 ar (au Tryz.func114 Q3g.eq_2 (.o (.o (.b fun (p0 : Q1) => .o (.lc 0 2 3 X0 p0.kids (.f [5] [] [1, 2, 5, 6] [0] (fun (k80 : Nat) (s76 : Int) => [(5, eI s76), (6, eI (k80 : Int))]) (fun k80 s76 => []) (fun k80 s76 => .z) (fun s84 => .z)))))))
end Go.Proofs.YtbdkbdafhlcilaaGreat
set_option linter.unusedSimpArgs false
set_option linter.unusedVariables false
namespace Go.Proofs.YtbdkbdafhlcilaaGreat
open Go Go.RowKit
set_option maxRecDepth 100000
set_option maxHeartbeats 20000000
instance V0w : ∀ (n : Nat) (p0 : (List Q3)) (p1 : Q5) (p2 : Q1), Ct (Q7t n p0 p1 p2) fun res => Z1 Tryz.prog 0o00066 [(.slice 2 (List.map X9 p0)), (.agg (X7 p1)), (.agg (X0 p2))] (fun d => d = (eB res)) :=
 au Tryz.func54 Q7t.eq_1 .z
end Go.Proofs.YtbdkbdafhlcilaaGreat
set_option linter.unusedSimpArgs false
set_option linter.unusedVariables false
namespace Go.Proofs.YtbdkbdafhlcilaaGreat
open Go Go.RowKit
set_option maxRecDepth 100000
set_option maxHeartbeats 20000000
instance W52 : ∀ (n : Nat) (p0 : (List Q3)) (p1 : Q5) (p2 : (List Q6)) (p3 : Int) (p4 : Q1), Ct (Q5a n p0 p1 p2 p3 p4) fun res => Z1 Tryz.prog 0o00034 [(.slice 2 (List.map X9 p0)), (.agg (X7 p1)), (.slice 9 (List.map V0 p2)), (eI p3), (.agg (X0 p4))] (fun d => d = .tup [(eI res.1), (.slice 4 (List.map Q5p res.2.1)), (eI res.2.2)]) :=
 au Tryz.func28 Q5a.eq_1 .z
end Go.Proofs.YtbdkbdafhlcilaaGreat
set_option linter.unusedSimpArgs false
set_option linter.unusedVariables false
namespace Go.Proofs.YtbdkbdafhlcilaaGreat
open Go Go.RowKit
set_option maxRecDepth 100000
set_option maxHeartbeats 20000000
instance W6r : ∀ (n : Nat) (p0 : (List Int)), Ct (Q7d n p0) fun res => Z1 Tryz.prog 0o00071 [(.slice 1 (List.map (rK .u8) p0))] (fun d => d = .tup [(.slice 2 (List.map X9 res.1)), (.agg (X7 res.2.1)), (.slice 9 (List.map V0 res.2.2.1)), (eI res.2.2.2)]) :=
 au Tryz.func57 Q7d.eq_1 (.o (.o (.o (.g [0, 3, 6, 7, 8] [8, 80] [] [] (.o (.o (.dz [0, 1, 2, 3, 4, 5, 6, 7, 8, 9, 10] [1] [1048596] [] .z)))))))
end Go.Proofs.YtbdkbdafhlcilaaGreat
set_option linter.unusedSimpArgs false
set_option linter.unusedVariables false
namespace Go.Proofs.YtbdkbdafhlcilaaGreat
open Go Go.RowKit
set_option maxRecDepth 100000
set_option maxHeartbeats 20000000
instance W6l : ∀ (n : Nat) (p0 : (List Int)), Ct (Q7c n p0) fun res => Z1 Tryz.prog 0o00111 [(.slice 1 (List.map (rK .u8) p0))] (fun d => d = (.agg (Q16 res))) :=
 au Tryz.func73 Q7c.eq_1 .z
end Go.Proofs.YtbdkbdafhlcilaaGreat
set_option linter.unusedSimpArgs false
set_option linter.unusedVariables false
namespace Go.Proofs.YtbdkbdafhlcilaaGreat
open Go Go.RowKit
set_option maxRecDepth 100000
set_option maxHeartbeats 20000000
instance X40 : ∀ (n : Nat) (p0 : (List Int)), Ct (Q3k n p0) fun res => Z1 Tryz.prog 0o00035 [(.slice 1 (List.map (rK .u8) p0))] (fun d => d = (.agg (Q16 res))) :=
 au Tryz.func29 Q3k.eq_1 .z
end Go.Proofs.YtbdkbdafhlcilaaGreat
set_option linter.unusedSimpArgs false
set_option linter.unusedVariables false
namespace Go.Proofs.YtbdkbdafhlcilaaGreat
open Go Go.RowKit
set_option maxRecDepth 100000
set_option maxHeartbeats 20000000
instance W0n : ∀ (n : Nat) (p0 : Z9), Ct (J0 n p0) fun res => Z1 Tryz.prog 0o00036 [(.agg (Q16 p0))] (fun d => d = (eI res)) :=
 ar (au Tryz.func30 J0.eq_2 (.o (.o (.o (.o (.ls 7 (.f [1, 3] [0] [1, 3, 7, 8, 9] [0] (fun (k48 : Nat) (s44 : Int) => [(3, eI s44), (9, eI (k48 : Int))]) (fun k48 s44 => []) (fun k48 s44 => .z) (fun s52 => .j 7 0 [3] [] (fun (s56 : Int) => [(3, eI s56)]) (fun _ => []) .z (fun _ => .z)))))))))
end Go.Proofs.YtbdkbdafhlcilaaGreat
set_option linter.unusedSimpArgs false
set_option linter.unusedVariables false
namespace Go.Proofs.YtbdkbdafhlcilaaGreat
open Go Go.RowKit
set_option maxRecDepth 100000
set_option maxHeartbeats 20000000
instance W0f : ∀ (n : Nat) (p0 : Z9), Ct (Q02 n p0) fun res => Z1 Tryz.prog 0o00037 [(.agg (Q16 p0))] (fun d => d = (eI res)) :=
 ar (au Tryz.func31 Q02.eq_2 (.o (.o (.b fun (p0 : Z9) => .lc 0 4 9 J1 p0.branches (.f [1, 3] [0] [1, 3, 4] [0] (fun (k71 : Nat) (s67 : Int) => [(3, eI s67), (4, eI (k71 : Int))]) (fun k71 s67 => []) (fun k71 s67 => .o (.j 5 0 [1, 3, 4] [0] (fun (s78 : Int) => [(3, eI s78)]) (fun _ => []) .z (fun _ => .z))) (fun s75 => .lc 0 5 6 Q16 p0.else_ (.f [1, 3] [0] [1, 3, 6] [0] (fun (k153 : Nat) (s149 : Int) => [(3, eI s149), (6, eI (k153 : Int))]) (fun k153 s149 => []) (fun k153 s149 => .o (.j 11 0 [1, 3, 6] [0] (fun (s160 : Int) => [(3, eI s160)]) (fun _ => []) .z (fun _ => .z))) (fun s157 => .z))))))))
end Go.Proofs.YtbdkbdafhlcilaaGreat
set_option linter.unusedSimpArgs false
set_option linter.unusedVariables false
namespace Go.Proofs.YtbdkbdafhlcilaaGreat
open Go Go.RowKit
set_option maxRecDepth 100000
set_option maxHeartbeats 20000000
instance Z31 : ∀ (n : Nat) (p0 : (List Int)) (p1 : (List Int)), Ct (Q1s n p0 p1) fun res => Z1 Tryz.prog 0o00006 [(.slice 1 (List.map (rK .u8) p0)), (.slice 1 (List.map (rK .u8) p1))] (fun d => d = (eB res)) :=
 au Tryz.func6 Q1s.eq_1 (.o (.o (.o (.i .z (.i .z (.o (.o (.o (.o (.o (.g [10, 12, 13, 15, 16, 17, 18] [464, 504] [] [] (.i (.d [0, 1, 2, 3, 4, 5, 6, 7, 8, 9, 11, 10, 12, 13, 14, 15, 16, 17, 18] [] [] (.g [10, 12, 13, 15, 18] [1] [] [] (.i (.i (.o (.o (.d [0, 1, 2, 3, 4, 5, 6, 7, 8, 9, 11, 10, 12, 13, 14, 15] [0] [] .z))) (.d [0, 1, 2, 3, 4, 5, 6, 7, 8, 9, 11, 10, 12, 13, 14, 15] [] [] .z)) (.d [0, 1, 2, 3, 4, 5, 6, 7, 8, 9, 11, 10, 12, 13, 14, 15] [] [] .z)))) (.i (.d [0, 1, 2, 3, 4, 5, 6, 7, 8, 9, 11, 10, 12, 13, 14, 15, 16, 17, 18] [] [] (.g [10, 12, 13, 15, 18] [1] [] [] (.i (.i (.o (.o (.d [0, 1, 2, 3, 4, 5, 6, 7, 8, 9, 11, 10, 12, 13, 14, 15] [0] [] .z))) (.d [0, 1, 2, 3, 4, 5, 6, 7, 8, 9, 11, 10, 12, 13, 14, 15] [] [] .z)) (.d [0, 1, 2, 3, 4, 5, 6, 7, 8, 9, 11, 10, 12, 13, 14, 15] [] [] .z)))) (.o (.o (.i (.d [0, 1, 2, 3, 4, 5, 6, 7, 8, 9, 11, 10, 12, 13, 14, 15, 16, 17, 18] [1] [] (.g [10, 12, 13, 15, 18] [1] [] [] (.i (.i (.o (.o (.d [0, 1, 2, 3, 4, 5, 6, 7, 8, 9, 11, 10, 12, 13, 14, 15] [0] [] .z))) (.d [0, 1, 2, 3, 4, 5, 6, 7, 8, 9, 11, 10, 12, 13, 14, 15] [] [] .z)) (.d [0, 1, 2, 3, 4, 5, 6, 7, 8, 9, 11, 10, 12, 13, 14, 15] [] [] .z)))) (.d [0, 1, 2, 3, 4, 5, 6, 7, 8, 9, 11, 10, 12, 13, 14, 15, 16, 17, 18] [1] [] (.i (.g [10, 12, 13, 15, 18] [1] [] [] (.i (.i (.o (.o (.d [0, 1, 2, 3, 4, 5, 6, 7, 8, 9, 11, 10, 12, 13, 14, 15] [0] [] .z))) (.d [0, 1, 2, 3, 4, 5, 6, 7, 8, 9, 11, 10, 12, 13, 14, 15] [] [] .z)) (.d [0, 1, 2, 3, 4, 5, 6, 7, 8, 9, 11, 10, 12, 13, 14, 15] [] [] .z))) (.g [12, 16] [0] [] [] (.o (.i (.o (.o (.d [0, 1, 2, 3, 4, 5, 7, 6, 8, 9, 10, 11] [0] [] .z))) (.d [0, 1, 2, 3, 4, 5, 7, 6, 8, 9, 10, 11] [0] [] .z))))))))))))))))))))))
theorem Z3f (n : Nat) (p0 : (List Int)) (p1 : (List Int)) : ∀ res, Q1s n p0 p1 = some res → Z1 Tryz.prog 0o00006 [(.slice 1 (List.map (rK .u8) p0)), (.slice 1 (List.map (rK .u8) p1))] (fun d => d = (eB res)) := (Z31 n p0 p1).pf
end Go.Proofs.YtbdkbdafhlcilaaGreat
