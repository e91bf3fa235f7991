import Derived.Test.YtbdkbdafhlcilaaGreatAJMir
import Derived.Test.YtbdkbdafhlcilaaGreatAJMa0
import Derived.Test.YtbdkbdafhlcilaaGreatAJAuto
import Derived.Test.YtbdkbdafhlcilaaGreatAJAuI
import Derived.Test.YtbdkbdafhlcilaaGreatAJAut
import Derived.Test.YtbdkbdafhlcilaaGreatAJZap
import Derived.Test.YtbdkbdafhlcilaaGreatAJZip
import Derived.Test.YtbdkbdafhlcilaaGreatAJDat
import Derived.Test.YtbdkbdafhlcilaaGreatAJE1
import Derived.Test.YtbdkbdafhlcilaaGreatAJE0
import Derived.Test.YtbdkbdafhlcilaaGreatAJTys
import Derived.Test.YtbdkbdafhlcilaaGreatProg
import Derived.Test.YtbdkbdafhlcilaaGreatAJC0d0
import Derived.Test.YtbdkbdafhlcilaaGreatAJC6d0
import Derived.Test.YtbdkbdafhlcilaaGreatAJC0c0
import Derived.Test.YtbdkbdafhlcilaaGreatAJC1a0
import Derived.Test.YtbdkbdafhlcilaaGreatAJC5d0
import Derived.Test.YtbdkbdafhlcilaaGreatAJC4d0
import Derived.Test.YtbdkbdafhlcilaaGreatAJC3b0
import Derived.Test.YtbdkbdafhlcilaaGreatAJC2b0
import Derived.Test.YtbdkbdafhlcilaaGreatAJC0a0
import Derived.Test.YtbdkbdafhlcilaaGreatAJC0b0
import Derived.Test.YtbdkbdafhlcilaaGreatAJC2a0
import Derived.Test.YtbdkbdafhlcilaaGreatAJC1b0
import Derived.Test.YtbdkbdafhlcilaaGreatAJC4b0
import Derived.Test.YtbdkbdafhlcilaaGreatAJC3c0
import Derived.Test.YtbdkbdafhlcilaaGreatAJC1c0
import Derived.Test.YtbdkbdafhlcilaaGreatAJC2c0
import Derived.Test.YtbdkbdafhlcilaaGreatAJC6c0
import Derived.Test.YtbdkbdafhlcilaaGreatAJC2d0
import Derived.Test.YtbdkbdafhlcilaaGreatAJC4c0
import Derived.Test.YtbdkbdafhlcilaaGreatAJC3a0
import Derived.Test.YtbdkbdafhlcilaaGreatAJC1d0
import Derived.Test.YtbdkbdafhlcilaaGreatAJC6a0
import Derived.Test.YtbdkbdafhlcilaaGreatAJC3d0
import Derived.Test.YtbdkbdafhlcilaaGreatAJC5a0
import Derived.Test.YtbdkbdafhlcilaaGreatAJC5c0
import Derived.Test.YtbdkbdafhlcilaaGreatAJC4a0
import Derived.Test.YtbdkbdafhlcilaaGreatAJC6b0
import Derived.Test.YtbdkbdafhlcilaaGreatAJC5b0
set_option linter.unusedSimpArgs false
set_option linter.unusedVariables false
set_option linter.unusedSimpArgs false
set_option linter.unusedVariables false
namespace Go.Proofs.YtbdkbdafhlcilaaGreat
open Go Go.RowKit
set_option maxRecDepth 100000
set_option maxHeartbeats 20000000
instance W3b : ∀ (p0 : X4), Ct (Q3s p0) fun res => Z0 Tryz.prog 0o00112 [(.agg (Q1g p0))] (fun d => d = (.slice 6 (List.map Q1g res))) :=
 au Tryz.func74 Q3s.eq_1 (.o (.pN 3 6 0x002b (.ls 7 (.f [1, 3] [0, 56] [1, 3, 7, 8, 9] [0, 56] (fun (k46 : Nat) (s42 : (List X4)) => [(3, .sl 6 56 (s42).length), (9, eI (k46 : Int))]) (fun k46 s42 => [(56, some ⟨6, (List.map Q1g s42), 0, 0x002b⟩)]) (fun k46 s42 => .z) (fun s50 => .z)))))
end Go.Proofs.YtbdkbdafhlcilaaGreat
set_option linter.unusedSimpArgs false
set_option linter.unusedVariables false
namespace Go.Proofs.YtbdkbdafhlcilaaGreat
open Go Go.RowKit
set_option maxRecDepth 100000
set_option maxHeartbeats 20000000
instance W7w : ∀ (n : Nat) (p0 : X4) (p1 : (List Bool)), Ct (Q59 n p0 p1) fun res => J1 Tryz.prog 0o00113 [⟨8, [(List.map cB p1)], 0, 0x0056⟩] [(.agg (Q1g p0)), .ptr 8 0 0 0] (fun H d => H = [some ⟨8, [(List.map cB res)], 0, 0x0056⟩] ∧ d = .tup []) :=
 ar (au Tryz.func75 Q59.eq_2 (.o (.o (.o (.o (.j 1 0 [1, 2] [0, 1] (fun (s11 : (List Bool)) => []) (fun s11 => [(0, some ⟨8, [(List.map cB s11)], 0, 0x0056⟩)]) (.i (.o (.i (.g [1, 2] [0, 1] [] [] (.o (.d [0, 1, 2, 3, 4, 5] [1] [] .z))) .z)) .z) (fun s11 => .o (.ls 20 (.f [] [0] [1, 20, 21, 22] [0] (fun (k48 : Nat) (s44 : (List Bool)) => [(22, eI (k48 : Int))]) (fun k48 s44 => [(0, some ⟨8, [(List.map cB s44)], 0, 0x0056⟩)]) (fun k48 s44 => .z) (fun s52 => .z))))))))))
end Go.Proofs.YtbdkbdafhlcilaaGreat
set_option linter.unusedSimpArgs false
set_option linter.unusedVariables false
namespace Go.Proofs.YtbdkbdafhlcilaaGreat
open Go Go.RowKit
set_option maxRecDepth 100000
set_option maxHeartbeats 20000000
instance X9m : ∀ (n : Nat) (p0 : X4), Ct (Q3z n p0) fun res => Z0 Tryz.prog 0o00041 [(.agg (Q1g p0))] (fun d => d = (.slice 1 (List.map rI res))) :=
 au Tryz.func33 Q3z.eq_1 (.o (.o (.o (.o (.pN 4 1 0x0003 (.w [4] [64] [4, 9, 10] [64] (fun (s74 : (List Int) × Int) => [(4, .sl 1 64 (s74.1).length), (10, eI s74.2)]) (fun s74 => [(64, some ⟨1, (List.map rI s74.1), 0, 0x0003⟩)]) (fun s74 => .i (.j 6 0 [4, 9, 10] [0] (fun (s88 : (List Int)) => [(4, .sl 1 0 (s88).length)]) (fun s88 => [(0, some ⟨1, (List.map rI s88), 0, 0x0003⟩)]) .z (fun _ => .z)) .z) (fun s82 => .z)))))))
end Go.Proofs.YtbdkbdafhlcilaaGreat
set_option linter.unusedSimpArgs false
set_option linter.unusedVariables false
namespace Go.Proofs.YtbdkbdafhlcilaaGreat
open Go Go.RowKit
set_option maxRecDepth 100000
set_option maxHeartbeats 20000000
instance W33 : ∀ (n : Nat) (p0 : (List Bool)) (p1 : X4), Ct (Q2n n p0 p1) fun res => J1 Tryz.prog 0o00114 [⟨1, List.map rB p0, 0, 0x0004⟩] [.sl 1 0 p0.length, (.agg (Q1g p1))] (fun H d => H = [none, some ⟨1, List.map rB res, 0, 0x0004⟩] ∧ d = .sl 1 1 res.length) :=
 ar (au Tryz.func76 Q2n.eq_2 (.o (.o (.o (.b fun (p1 : X4) => .j 1 0 [0, 3] [0, 1] (fun (s13 : (List Bool)) => [(0, .sl 1 0 (s13).length)]) (fun s13 => [(0, some ⟨1, (List.map rB s13), 0, 0x0004⟩)]) .z (fun s13 => .pM 0 (.lc 1 4 9 J4 p1.branches (.f [0, 3] [0, 10, 1] [0, 3, 5] [0, 10, 1] (fun (k73 : Nat) (s69 : (List Bool)) => [(0, .sl 1 10 (s69).length), (5, eI (k73 : Int))]) (fun k73 s69 => [(0, none), (10, some ⟨1, (List.map rB s69), 0, 0x0004⟩)]) (fun k73 s69 => .z) (fun s77 => .lc 2 5 6 Q1g p1.else_ (.f [0] [0, 1] [0, 3, 6] [0, 1, 2] (fun (k125 : Nat) (s121 : (List Bool)) => [(0, .sl 1 1 (s121).length), (6, eI (k125 : Int))]) (fun k125 s121 => [(0, none), (1, some ⟨1, (List.map rB s121), 0, 0x0004⟩)]) (fun k125 s121 => .z) (fun s129 => .z)))))))))))
end Go.Proofs.YtbdkbdafhlcilaaGreat
set_option linter.unusedSimpArgs false
set_option linter.unusedVariables false
namespace Go.Proofs.YtbdkbdafhlcilaaGreat
open Go Go.RowKit
set_option maxRecDepth 100000
set_option maxHeartbeats 20000000
instance X9e : ∀ (n : Nat) (p0 : X4), Ct (Q3r n p0) fun res => Z0 Tryz.prog 0o00042 [(.agg (Q1g p0))] (fun d => d = (.slice 1 (List.map rI res))) :=
 au Tryz.func34 Q3r.eq_1 (.o (.o (.g [1, 3] [0, 16] [] [] (.o (.o (.d [1, 0, 2, 3] [0] [] (.ll 11 (.f [3] [1] [3, 4, 5] [1, 11] (fun (k73 : Nat) (s69 : (List Int)) => [(3, .sl 1 1 (s69).length), (5, eI (k73 : Int))]) (fun k73 s69 => [(1, some ⟨1, (List.map rI s69), 0, 0x0003⟩)]) (fun k73 s69 => .o (.j 6 0 [3, 4, 5] [0, 1] (fun (s80 : (List Int)) => [(3, .sl 1 0 (s80).length)]) (fun s80 => [(0, some ⟨1, (List.map rI s80), 0, 0x0003⟩)]) .z (fun _ => .z))) (fun s77 => .z)))))))))
end Go.Proofs.YtbdkbdafhlcilaaGreat
set_option linter.unusedSimpArgs false
set_option linter.unusedVariables false
namespace Go.Proofs.YtbdkbdafhlcilaaGreat
open Go Go.RowKit
set_option maxRecDepth 100000
set_option maxHeartbeats 20000000
instance X1t : ∀ (n : Nat) (p0 : Q1e) (p1 : Q2) (p2 : (List Q0)), Ct (Q0u n p0 p1 p2) fun res => Z0 Tryz.prog 0o00170 [.cptr (Q20 p0), (.agg (X0 p1)), (.slice 6 (List.map Q1 p2))] (fun d => d = .tup [(.slice 6 (List.map Q1 res.1)), (eB res.2)]) :=
 au Tryz.func120 Q0u.eq_1 (.o (.o (.o (.o (.pN 8 6 0x0064 (.ls 2 (.f [8] [56] [0, 2, 4, 8, 13, 14, 15] [0, 56] (fun (k86 : Nat) (s82 : (List Q0)) => [(8, .sl 6 56 (s82).length), (15, eI (k86 : Int))]) (fun k86 s82 => [(56, some ⟨6, (List.map Q1 s82), 0, 0x0064⟩)]) (fun k86 s82 => .o (.g [0, 2, 4, 8, 9, 10, 13, 14, 15] [0, 1, 34] [] [] (.o (.o (.d [0, 1, 2, 4, 5, 6, 3, 7, 8, 9, 10, 11, 12] [0, 2] [] .z))))) (fun s90 => .z))))))))
end Go.Proofs.YtbdkbdafhlcilaaGreat
set_option linter.unusedSimpArgs false
set_option linter.unusedVariables false
namespace Go.Proofs.YtbdkbdafhlcilaaGreat
open Go Go.RowKit
set_option maxRecDepth 100000
set_option maxHeartbeats 20000000
instance X1w : ∀ (n : Nat) (p0 : (List Q3)) (p1 : Q2) (p2 : (List Q6)) (p3 : Int), Ct (Q1k n p0 p1 p2 p3) fun res => Z0 Tryz.prog 0o00070 [(.slice 2 (List.map W3 p0)), (.agg (X0 p1)), (.slice 9 (List.map W6 p2)), (eI p3)] (fun d => d = .tup [(.slice 6 (List.map Q1 res.1)), (eB res.2)]) :=
 au Tryz.func56 Q1k.eq_1 (.o (.o (.o (.o (.o (.o (.i .z (.o (.i .z (.o (.o (.o (.o (.i .z (.i .z (.o (.o (.j 9 0 [5, 14, 15, 16] [0] (fun (s41 : (List Q0) × Bool) => [(15, .slice 6 (List.map Q1 s41.1)), (16, eB s41.2)]) (fun _ => []) .z (fun _ => .z)))))))))))))))))))
end Go.Proofs.YtbdkbdafhlcilaaGreat
set_option linter.unusedSimpArgs false
set_option linter.unusedVariables false
namespace Go.Proofs.YtbdkbdafhlcilaaGreat
open Go Go.RowKit
set_option maxRecDepth 100000
set_option maxHeartbeats 20000000
instance X10 : ∀ (n : Nat) (p0 : (List Q3)) (p1 : Q2) (p2 : (List Q6)), Ct (Q0o n p0 p1 p2) fun res => Z0 Tryz.prog 0o00016 [(.slice 2 (List.map W3 p0)), (.agg (X0 p1)), (.slice 9 (List.map W6 p2))] (fun d => d = .tup [(.slice 1 (List.map rI res.1)), (eB res.2)]) :=
 au Tryz.func14 Q0o.eq_1 (.o (.o (.o (.o (.o (.i .z (.pN 8 1 0x0003 (.ls 2 (.f [8] [96] [0, 2, 4, 8, 18, 19] [0, 96] (fun (k97 : Nat) (s93 : (List Int)) => [(8, .sl 1 96 (s93).length), (19, eI (k97 : Int))]) (fun k97 s93 => [(96, some ⟨1, (List.map rI s93), 0, 0x0003⟩)]) (fun k97 s93 => .o (.j 6 0 [0, 2, 4, 8, 18, 19] [0, 1] (fun (s107 : (List Int)) => [(8, .sl 1 1 (s107).length)]) (fun s107 => [(1, some ⟨1, (List.map rI s107), 0, 0x0003⟩)]) .z (fun _ => .z))) (fun s101 => .z))))))))))
end Go.Proofs.YtbdkbdafhlcilaaGreat
set_option linter.unusedSimpArgs false
set_option linter.unusedVariables false
namespace Go.Proofs.YtbdkbdafhlcilaaGreat
open Go Go.RowKit
set_option maxRecDepth 100000
set_option maxHeartbeats 20000000
instance V1b : ∀ (p0 : (List Int)) (p1 : Int), Ct (Q5u p0 p1) fun res => Z0 Tryz.prog 0o00017 [(.slice 1 (List.map rI p0)), (eI p1)] (fun d => d = (eB res)) :=
 au Tryz.func15 Q5u.eq_1 (.o (.o (.ls 0 (.f [] [] [0, 1, 5] [] (fun (k44 : Nat) (s40 : Unit) => [(5, eI (k44 : Int))]) (fun k44 s40 => []) (fun k44 s40 => .z) (fun s48 => .z)))))
end Go.Proofs.YtbdkbdafhlcilaaGreat
set_option linter.unusedSimpArgs false
set_option linter.unusedVariables false
namespace Go.Proofs.YtbdkbdafhlcilaaGreat
open Go Go.RowKit
set_option maxRecDepth 100000
set_option maxHeartbeats 20000000
instance Z2b : ∀ (n : Nat) (p0 : (List Int)), Ct (Q1p n p0) fun res => Z0 Tryz.prog 0o00007 [(.slice 1 (List.map (rK .u8) p0))] (fun d => d = (eB res)) :=
 au Tryz.func7 Q1p.eq_1 (.o (.o (.i .z (.o (.o (.o (.i .z (.o (.i .z (.i .z (.o (.o (.ls 23 (.f [5, 9, 11] [280] [3, 4, 5, 9, 11, 12, 13, 14] [88, 280] (fun (k229 : Nat) (s225 : Unit) => [(14, eI (k229 : Int))]) (fun k229 s225 => []) (fun k229 s225 => .z) (fun s233 => .z)))))))))))))))
theorem Z2h (n : Nat) (p0 : (List Int)) : ∀ res, Q1p n p0 = some res → Z0 Tryz.prog 0o00007 [(.slice 1 (List.map (rK .u8) p0))] (fun d => d = (eB res)) := (Z2b n p0).pf
end Go.Proofs.YtbdkbdafhlcilaaGreat
