import Derived.Test.YtbdkbdafhlcilaaGreatCJMir
import Derived.Test.YtbdkbdafhlcilaaGreatCJMb0
import Derived.Test.YtbdkbdafhlcilaaGreatCJAuto
import Derived.Test.YtbdkbdafhlcilaaGreatCJAuI
import Derived.Test.YtbdkbdafhlcilaaGreatCJAut
import Derived.Test.YtbdkbdafhlcilaaGreatCJZap
import Derived.Test.YtbdkbdafhlcilaaGreatCJZip
import Derived.Test.YtbdkbdafhlcilaaGreatCJDat
import Derived.Test.YtbdkbdafhlcilaaGreatCJE1
import Derived.Test.YtbdkbdafhlcilaaGreatCJE0
import Derived.Test.YtbdkbdafhlcilaaGreatCJTys
import Derived.Test.YtbdkbdafhlcilaaGreatProg
import Derived.Test.YtbdkbdafhlcilaaGreatCJC1d0
import Derived.Test.YtbdkbdafhlcilaaGreatCJC0c0
import Derived.Test.YtbdkbdafhlcilaaGreatCJC3c0
import Derived.Test.YtbdkbdafhlcilaaGreatCJC2d0
import Derived.Test.YtbdkbdafhlcilaaGreatCJC1c0
import Derived.Test.YtbdkbdafhlcilaaGreatCJC0a0
import Derived.Test.YtbdkbdafhlcilaaGreatCJC0b0
import Derived.Test.YtbdkbdafhlcilaaGreatCJC1b0
import Derived.Test.YtbdkbdafhlcilaaGreatCJC6b0
import Derived.Test.YtbdkbdafhlcilaaGreatCJC5b0
import Derived.Test.YtbdkbdafhlcilaaGreatCJC3d0
import Derived.Test.YtbdkbdafhlcilaaGreatCJC4d0
import Derived.Test.YtbdkbdafhlcilaaGreatCJC3a0
import Derived.Test.YtbdkbdafhlcilaaGreatCJC2b0
import Derived.Test.YtbdkbdafhlcilaaGreatCJC3b0
import Derived.Test.YtbdkbdafhlcilaaGreatCJC5a0
import Derived.Test.YtbdkbdafhlcilaaGreatCJC1a0
import Derived.Test.YtbdkbdafhlcilaaGreatCJC2a0
import Derived.Test.YtbdkbdafhlcilaaGreatCJC0d0
import Derived.Test.YtbdkbdafhlcilaaGreatCJC4c0
import Derived.Test.YtbdkbdafhlcilaaGreatCJC6a0
import Derived.Test.YtbdkbdafhlcilaaGreatCJC5c0
import Derived.Test.YtbdkbdafhlcilaaGreatCJC4a0
import Derived.Test.YtbdkbdafhlcilaaGreatCJC2c0
import Derived.Test.YtbdkbdafhlcilaaGreatCJC5d0
import Derived.Test.YtbdkbdafhlcilaaGreatCJC4b0
import Derived.Test.YtbdkbdafhlcilaaGreatCJC6c0
set_option linter.unusedSimpArgs false
set_option linter.unusedVariables false
set_option linter.unusedSimpArgs false
set_option linter.unusedVariables false
namespace Go.Proofs.YtbdkbdafhlcilaaGreat
open Go Go.RowKit
set_option maxRecDepth 100000
set_option maxHeartbeats 20000000
instance W3e : ∀ (p0 : Z0) (p1 : Q0), Ct (Q20 p0 p1) fun res => Q17 Tryz.prog 0o00230 [⟨2, [(V4 p0)], 0, 0x009a⟩] [.ptr 2 0 0 0, (.agg (Q1 p1))] (fun H d => H = [some ⟨2, [(V4 res.2)], 0, 0x009a⟩] ∧ d = (.agg (Q1 res.1))) :=
 au Tryz.func152 Q20.eq_1 (.o (.b fun (p1 : Q0) => .o (.j 3 0 [4, 5] [0, 9, 25, 65] (fun (s17 : Z0 × Int × Int × Int × Int × (List Q0)) => []) (fun s17 => [(0, some ⟨2, [(V4 s17.1)], 0, 0x009a⟩), (1000000025, some ⟨6, [[(eI s17.2.1), (eI s17.2.2.1), (eI s17.2.2.2.1), (eI p1.m), (eI s17.2.2.2.2.1), (.sl 6 65 (s17.2.2.2.2.2).length)]], 0, 0x0064⟩), (65, some ⟨6, (List.map Q1 s17.2.2.2.2.2), 0, 0x0064⟩)]) .z (fun _ => .pF 3 .z))))
end Go.Proofs.YtbdkbdafhlcilaaGreat
set_option linter.unusedSimpArgs false
set_option linter.unusedVariables false
namespace Go.Proofs.YtbdkbdafhlcilaaGreat
open Go Go.RowKit
set_option maxRecDepth 100000
set_option maxHeartbeats 20000000
instance W3b : ∀ (n : Nat) (p0 : Z0) (p1 : (List Q5)), Ct (Q2q n p0 p1) fun res => Q17 Tryz.prog 0o00110 [⟨2, [(V4 p0)], 0, 0x009a⟩] [.ptr 2 0 0 0, (.slice 9 (List.map X5 p1))] (fun H d => H = [some ⟨2, [(V4 res.2)], 0, 0x009a⟩, some ⟨9, List.map X5 res.1, 0, 0x0086⟩] ∧ d = .sl 9 1 res.1.length) :=
 au Tryz.func72 Q2q.eq_1 (.o (.o (.o (.o (.j 2 0 [5] [0, 25] (fun (s37 : Z0 × (List Q5)) => [(5, .sl 9 25 (s37.2).length)]) (fun s37 => [(0, some ⟨2, [(V4 s37.1)], 0, 0x009a⟩), (25, some ⟨9, (List.map X5 s37.2), 0, 0x0086⟩)]) (.o (.i .z (.i .z (.i (.w [5] [0, 25] [5] [0, 25] (fun (s63 : (List Q5)) => [(5, .sl 9 25 (s63).length)]) (fun s63 => [(25, some ⟨9, (List.map X5 s63), 0, 0x0086⟩)]) (fun s63 => .z) (fun s71 => .z)) .z)))) (fun _ => .z))))))
end Go.Proofs.YtbdkbdafhlcilaaGreat
set_option linter.unusedSimpArgs false
set_option linter.unusedVariables false
namespace Go.Proofs.YtbdkbdafhlcilaaGreat
open Go Go.RowKit
set_option maxRecDepth 100000
set_option maxHeartbeats 20000000
instance X7n : ∀ (n : Nat) (p0 : Q0), Ct (W8 n p0) fun res => Q7 Tryz.prog 0o00115 [(.agg (Q1 p0))] (fun d => d = (.agg (Q1 res))) :=
 ar (au Tryz.func77 W8.eq_2 (.o (.o (.b fun (p0 : Q0) => .j 1 0 [1, 2] [0, 8] (fun (s6 : Unit) => []) (fun _ => []) .z (fun s6 => .pC 10 5 6 0x0064 (.lc 0 5 6 Q1 p0.kids (.f [2, 3] [1, 10, 50] [1, 2, 3, 4] [0, 1, 10, 50] (fun (k69 : Nat) (s65 : (List Q0)) => [(4, eI (k69 : Int))]) (fun k69 s65 => [(1000000010, some ⟨6, [[(eI p0.op), (eI p0.ctor), (eI p0.n), (eI p0.m), (eI p0.var), (.sl 6 50 (s65).length)]], 0, 0x0064⟩), (50, some ⟨6, (List.map Q1 s65), 0, 0x0064⟩)]) (fun k69 s65 => .o (.g [1, 2, 3, 4] [0, 1, 2, 3] [] [(1000000002, some ⟨6, [[(eI p0.op), (eI p0.ctor), (eI p0.n), (eI p0.m), (eI p0.var), (.sl 6 3 (s65).length)]], 0, 0x0064⟩)] (.o (.o (.d [0, 1, 2, 3, 4, 5, 6, 7, 8, 9, 10, 11] [0, 2] [40] .z))))) (fun s73 => .z))))))))
end Go.Proofs.YtbdkbdafhlcilaaGreat
set_option linter.unusedSimpArgs false
set_option linter.unusedVariables false
namespace Go.Proofs.YtbdkbdafhlcilaaGreat
open Go Go.RowKit
set_option maxRecDepth 100000
set_option maxHeartbeats 20000000
instance W9q : Ct (J2) fun res => Q7 Tryz.prog 0o00240 [] (fun d => d = (.agg (Q1 res))) :=
 au Tryz.func160 J2.eq_1 .z
end Go.Proofs.YtbdkbdafhlcilaaGreat
set_option linter.unusedSimpArgs false
set_option linter.unusedVariables false
namespace Go.Proofs.YtbdkbdafhlcilaaGreat
open Go Go.RowKit
set_option maxRecDepth 100000
set_option maxHeartbeats 20000000
instance W7w : ∀ (p0 : Int) (p1 : Int), Ct (Q5g p0 p1) fun res => Q7 Tryz.prog 0o00234 [(eI p0), (eI p1)] (fun d => d = (.agg (Q1 res))) :=
 au Tryz.func156 Q5g.eq_1 (.o (.o (.j 1 0 [0, 1, 4] [0] (fun (s8 : Unit) => []) (fun _ => []) .z (fun _ => .z))))
end Go.Proofs.YtbdkbdafhlcilaaGreat
set_option linter.unusedSimpArgs false
set_option linter.unusedVariables false
namespace Go.Proofs.YtbdkbdafhlcilaaGreat
open Go Go.RowKit
set_option maxRecDepth 100000
set_option maxHeartbeats 20000000
instance X7m : ∀ (n : Nat) (p0 : Q0) (p1 : Q0), Ct (Q0r n p0 p1) fun res => Q7 Tryz.prog 0o00337 [(.agg (Q1 p0)), (.agg (Q1 p1))] (fun d => d = (eB res)) :=
 ar (au Tryz.func223 Q0r.eq_2 (.o (.o (.o (.o (.i .z (.i .z (.i .z (.i .z (.i .z (.i .z (.ls 41 (.f [] [] [2, 3, 5] [0, 8] (fun (k98 : Nat) (s94 : Unit) => [(5, eI (k98 : Int))]) (fun k98 s94 => []) (fun k98 s94 => .o (.g [2, 3, 5] [0, 1] [] [] (.o (.o (.d [0, 1, 2, 3, 4, 5, 6, 7, 8, 9, 10, 11] [0, 1] [] .z))))) (fun s102 => .z))))))))))))))
end Go.Proofs.YtbdkbdafhlcilaaGreat
set_option linter.unusedSimpArgs false
set_option linter.unusedVariables false
namespace Go.Proofs.YtbdkbdafhlcilaaGreat
open Go Go.RowKit
set_option maxRecDepth 100000
set_option maxHeartbeats 20000000
instance W3i : ∀ (p0 : Q0), Ct (Q0h p0) fun res => Q7 Tryz.prog 0o00236 [(.agg (Q1 p0))] (fun d => d = (eB res)) :=
 au Tryz.func158 Q0h.eq_1 .z
end Go.Proofs.YtbdkbdafhlcilaaGreat
set_option linter.unusedSimpArgs false
set_option linter.unusedVariables false
namespace Go.Proofs.YtbdkbdafhlcilaaGreat
open Go Go.RowKit
set_option maxRecDepth 100000
set_option maxHeartbeats 20000000
instance W5q : ∀ (p0 : Q0), Ct (X4 p0) fun res => Q7 Tryz.prog 0o00237 [(.agg (Q1 p0))] (fun d => d = (eB res)) :=
 au Tryz.func159 X4.eq_1 (.b fun (p0 : Q0) => .lc 0 5 6 Q1 p0.kids (.f [] [] [1, 3] [0] (fun (k54 : Nat) (s50 : Unit) => [(3, eI (k54 : Int))]) (fun k54 s50 => []) (fun k54 s50 => .z) (fun s58 => .z)))
end Go.Proofs.YtbdkbdafhlcilaaGreat
set_option linter.unusedSimpArgs false
set_option linter.unusedVariables false
namespace Go.Proofs.YtbdkbdafhlcilaaGreat
open Go Go.RowKit
set_option maxRecDepth 100000
set_option maxHeartbeats 20000000
instance W9x : ∀ (n : Nat) (p0 : (List Q3)) (p1 : Q2) (p2 : Q0) (p3 : Q0), Ct (Q6a n p0 p1 p2 p3) fun res => Q7 Tryz.prog 0o00235 [(.slice 2 (List.map X2 p0)), (.agg (Z6 p1)), (.agg (Q1 p2)), (.agg (Q1 p3))] (fun d => d = (.agg (Q1 res))) :=
 au Tryz.func157 Q6a.eq_1 (.o (.o (.o (.o (.o (.j 1 0 [6, 7, 8] [8, 16, 24] (fun (s2046 : Unit) => []) (fun _ => []) (.o (.i .z (.o (.i .z (.i (.i (.i (.i (.j 6 0 [7, 8, 9, 10] [16, 24] (fun (s3592 : Int) => [(9, eI s3592)]) (fun _ => []) .z (fun s3592 => .j 8 0 [8, 9, 10] [1] (fun (s3597 : Int) => [(10, eI s3597)]) (fun _ => []) .z (fun _ => .z))) .z) .z) .z) .z))))) (fun _ => .z)))))))
end Go.Proofs.YtbdkbdafhlcilaaGreat
set_option linter.unusedSimpArgs false
set_option linter.unusedVariables false
namespace Go.Proofs.YtbdkbdafhlcilaaGreat
open Go Go.RowKit
set_option maxRecDepth 100000
set_option maxHeartbeats 20000000
instance W0u : ∀ (n : Nat) (p0 : (List Q3)) (p1 : Q2) (p2 : Q0), Ct (Y7 n p0 p1 p2) fun res => Q7 Tryz.prog 0o00117 [(.slice 2 (List.map X2 p0)), (.agg (Z6 p1)), (.agg (Q1 p2))] (fun d => d = (.agg (Q1 res))) :=
 ar (au Tryz.func79 Y7.eq_2 (.o (.o (.o (.o (.b fun (p2 : Q0) => .i .z (.i (.g [0, 4, 5, 6] [0, 8, 16] [] [] (.o (.o (.o (.o (.o (.d [0, 1, 2, 3, 4, 5, 6, 7, 9, 10, 11, 12, 13, 14, 8, 15, 16, 17] [0, 1] [] .z))))))) (.i (.g [0, 4, 5, 6] [0, 8, 16] [] [] (.o (.o (.dz [0, 1, 2, 3, 4, 5, 6, 7, 8] [0, 1] [1048583] [] .z)))) (.i (.o (.pC 128 5 6 0x0064 (.ls 67 (.f [0, 4, 6, 8] [0, 16, 128, 200] [0, 4, 5, 6, 8, 9, 10] [0, 8, 16, 128, 200] (fun (k205 : Nat) (s201 : (List Q0)) => [(10, eI (k205 : Int))]) (fun k205 s201 => [(1000000128, some ⟨6, [[(eI 4), (eI p2.ctor), (eI 0), (eI 0), (eI 0), (.sl 6 200 (s201).length)]], 0, 0x0064⟩), (200, some ⟨6, (List.map Q1 s201), 0, 0x0064⟩)]) (fun k205 s201 => .o (.g [0, 4, 5, 6, 8, 9, 10] [0, 1, 2, 3, 4] [] [(1000000003, some ⟨6, [[(eI 4), (eI p2.ctor), (eI 0), (eI 0), (eI 0), (.sl 6 4 (s201).length)]], 0, 0x0064⟩)] (.o (.o (.o (.d [0, 1, 2, 3, 4, 5, 6, 7, 8, 9, 10, 11, 12, 13, 14, 15, 16] [1, 3] [89] .z)))))) (fun s209 => .j 18 0 [6, 8] [1, 2, 3] (fun (s229 : Unit) => []) (fun _ => [(1000000002, some ⟨6, [[(eI 4), (eI p2.ctor), (eI 0), (eI 0), (eI 0), (.sl 6 3 (s209).length)]], 0, 0x0064⟩)]) .z (fun _ => .z)))))) .z)))))))))
end Go.Proofs.YtbdkbdafhlcilaaGreat
set_option linter.unusedSimpArgs false
set_option linter.unusedVariables false
namespace Go.Proofs.YtbdkbdafhlcilaaGreat
open Go Go.RowKit
set_option maxRecDepth 100000
set_option maxHeartbeats 20000000
instance X34 : ∀ (n : Nat) (p0 : (List Int)), Ct (Q22 n p0) fun res => Q7 Tryz.prog 0o00043 [(.slice 1 (List.map (rK .u8) p0))] (fun d => d = .tup [(.slice 2 (List.map X2 res.1)), (.agg (Z6 res.2.1)), (.slice 9 (List.map X5 res.2.2.1)), (.slice 9 (List.map X5 res.2.2.2))]) :=
 au Tryz.func35 Q22.eq_1 (.o (.o (.o (.o (.ll 65 (.f [3, 6, 7, 8, 11, 12] [8, 41, 112, 160, 176] [3, 6, 7, 8, 9, 11, 12, 13] [8, 41, 112, 65, 160, 176] (fun (k192 : Nat) (s188 : Z0 × (List Q5) × (List Q5)) => [(11, .sl 9 160 (s188.2.1).length), (12, .sl 9 176 (s188.2.2).length), (13, eI (k192 : Int))]) (fun k192 s188 => [(41, some ⟨2, [(V4 s188.1)], 0, 0x009a⟩), (160, some ⟨9, (List.map X5 s188.2.1), 0, 0x0086⟩), (176, some ⟨9, (List.map X5 s188.2.2), 0, 0x0086⟩)]) (fun k192 s188 => .o (.o (.b fun (x213 : (List Q5)) => .j 10 0 [3, 6, 7, 8, 9, 11, 12, 13, 14] [0, 1, 2, 3, 134, 5, 86] (fun (s218 : Z0 × Q0) => [(11, .sl 9 134 (x213).length)]) (fun s218 => [(1, some ⟨2, [(V4 s218.1)], 0, 0x009a⟩), (86, some ⟨6, [(Q1 s218.2)], 0, 0x0064⟩), (134, some ⟨9, (List.map X5 x213), 0, 0x0086⟩)]) .z (fun _ => .z)))) (fun s196 => .g [3, 6, 7, 8, 11, 12] [0, 1, 2, 3, 4] [] [] (.o (.d [0, 1, 2, 3, 4, 5, 6, 7, 8, 9] [2] [] .z)))))))))
end Go.Proofs.YtbdkbdafhlcilaaGreat
set_option linter.unusedSimpArgs false
set_option linter.unusedVariables false
namespace Go.Proofs.YtbdkbdafhlcilaaGreat
open Go Go.RowKit
set_option maxRecDepth 100000
set_option maxHeartbeats 20000000
instance X5h : ∀ (p0 : Q5), Ct (Q2w p0) fun res => Q7 Tryz.prog 0o00120 [(.agg (X5 p0))] (fun d => d = (eB res)) :=
 au Tryz.func80 Q2w.eq_1 .z
end Go.Proofs.YtbdkbdafhlcilaaGreat
set_option linter.unusedSimpArgs false
set_option linter.unusedVariables false
namespace Go.Proofs.YtbdkbdafhlcilaaGreat
open Go Go.RowKit
set_option maxRecDepth 100000
set_option maxHeartbeats 20000000
instance X1n : ∀ (n : Nat) (p0 : (List Q3)) (p1 : Q2) (p2 : (List Q5)), Ct (Q1q n p0 p1 p2) fun res => Q7 Tryz.prog 0o00101 [(.slice 2 (List.map X2 p0)), (.agg (Z6 p1)), (.slice 9 (List.map X5 p2))] (fun d => d = .tup [(.slice 6 (List.map Q1 res.1)), (eB res.2)]) :=
 au Tryz.func65 Q1q.eq_1 (.o (.o (.o (.o (.o (.i .z (.o (.i .z (.o (.g [4, 8, 10] [0] [] [] (.o (.o (.d [0, 1, 4, 2, 3, 5, 6, 7, 8, 9, 10] [0] [] .z)))))))))))))
end Go.Proofs.YtbdkbdafhlcilaaGreat
set_option linter.unusedSimpArgs false
set_option linter.unusedVariables false
namespace Go.Proofs.YtbdkbdafhlcilaaGreat
open Go Go.RowKit
set_option maxRecDepth 100000
set_option maxHeartbeats 20000000
instance X9n : ∀ (n : Nat) (p0 : (List Q3)) (p1 : Q2) (p2 : (List Q5)), Ct (Q2m n p0 p1 p2) fun res => Q7 Tryz.prog 0o00122 [(.slice 2 (List.map X2 p0)), (.agg (Z6 p1)), (.slice 9 (List.map X5 p2))] (fun d => d = .tup [(.slice 1 (List.map (rL 6 Q1) res.1)), (eB res.2)]) :=
 au Tryz.func82 Q2m.eq_1 (.o (.o (.o (.o (.pN 8 1 0x005b (.ls 2 (.f [0, 2, 4, 8] [0, 56] [0, 2, 4, 8, 15, 16] [0, 56] (fun (k68 : Nat) (s64 : (List (List Q0))) => [(8, .sl 1 56 (s64).length), (16, eI (k68 : Int))]) (fun k68 s64 => [(56, some ⟨1, (List.map (rL 6 Q1) s64), 0, 0x005b⟩)]) (fun k68 s64 => .z) (fun s72 => .z))))))))
end Go.Proofs.YtbdkbdafhlcilaaGreat
set_option linter.unusedSimpArgs false
set_option linter.unusedVariables false
namespace Go.Proofs.YtbdkbdafhlcilaaGreat
open Go Go.RowKit
set_option maxRecDepth 100000
set_option maxHeartbeats 20000000
instance Z9i : ∀ (n : Nat) (p0 : Q13) (p1 : Q2) (p2 : (List Q0)) (p3 : (List Q0)), Ct (J4 n p0 p1 p2 p3) fun res => Q7 Tryz.prog 0o00123 [.cptr (Q1v p0), (.agg (Z6 p1)), (.slice 6 (List.map Q1 p2)), (.slice 6 (List.map Q1 p3))] (fun d => d = (eB res)) :=
 au Tryz.func83 J4.eq_1 (.o (.o (.o (.o (.o (.ls 2 (.f [] [] [0, 3, 5, 15, 16, 17] [0] (fun (k854 : Nat) (s850 : Unit) => [(17, eI (k854 : Int))]) (fun k854 s850 => []) (fun k854 s850 => .o (.ls 3 (.f [0, 3, 5, 15, 16, 17] [0] [0, 3, 5, 10, 15, 16, 17, 21, 22, 23] [0, 25] (fun (k997 : Nat) (s993 : Unit) => [(23, eI (k997 : Int))]) (fun k997 s993 => []) (fun k997 s993 => .o (.j 6 0 [0, 3, 5, 10, 15, 16, 17, 21, 22, 23] [0, 1] (fun (s1011 : Unit) => []) (fun _ => []) .z (fun _ => .z))) (fun s1001 => .z)))) (fun s858 => .z))))))))
end Go.Proofs.YtbdkbdafhlcilaaGreat
set_option linter.unusedSimpArgs false
set_option linter.unusedVariables false
namespace Go.Proofs.YtbdkbdafhlcilaaGreat
open Go Go.RowKit
set_option maxRecDepth 100000
set_option maxHeartbeats 20000000
instance X9t : ∀ (n : Nat) (p0 : (List Q3)) (p1 : Q2) (p2 : (List Q5)) (p3 : (List Q5)), Ct (Q1t n p0 p1 p2 p3) fun res => Q7 Tryz.prog 0o00044 [(.slice 2 (List.map X2 p0)), (.agg (Z6 p1)), (.slice 9 (List.map X5 p2)), (.slice 9 (List.map X5 p3))] (fun d => d = .tup [(eB res.1), (eB res.2)]) :=
 au Tryz.func36 Q1t.eq_1 (.o (.o (.o (.o (.o (.o (.i .z (.o (.i .z (.i .z (.o (.i .z (.o (.i .z (.o (.o (.i .z (.i .z (.o (.ls 54 (.f [] [] [5, 13, 15, 71, 72, 73] [0] (fun (k859 : Nat) (s855 : Unit) => [(73, eI (k859 : Int))]) (fun k859 s855 => []) (fun k859 s855 => .o (.ls 13 (.f [5, 13, 15, 71, 72, 73] [0] [5, 13, 15, 16, 17, 71, 72, 73, 78, 79, 80] [0] (fun (k992 : Nat) (s988 : Unit) => [(80, eI (k992 : Int))]) (fun k992 s988 => []) (fun k992 s988 => .o (.j 14 0 [5, 13, 15, 16, 17, 71, 72, 73, 78, 79, 80] [0] (fun (s1005 : Unit) => []) (fun _ => []) .z (fun _ => .z))) (fun s996 => .z)))) (fun s863 => .z))))))))))))))))))))))
end Go.Proofs.YtbdkbdafhlcilaaGreat
set_option linter.unusedSimpArgs false
set_option linter.unusedVariables false
namespace Go.Proofs.YtbdkbdafhlcilaaGreat
open Go Go.RowKit
set_option maxRecDepth 100000
set_option maxHeartbeats 20000000
instance W3d : ∀ (p0 : (List (List Q0))), Ct (Q44 p0) fun res => Q7 Tryz.prog 0o00322 [(.slice 1 (List.map (rL 6 Q1) p0))] (fun d => d = (.slice 1 (List.map (rL 6 Q1) res))) :=
 au Tryz.func210 Q44.eq_1 (.o (.pF 8 (.ls 0 (.f [3] [16] [0, 3, 4] [16] (fun (k12196 : Nat) (s12192 : (List (List Q0))) => [(3, .sl 1 16 (s12192).length), (4, eI (k12196 : Int))]) (fun k12196 s12192 => [(16, some ⟨1, (List.map (rL 6 Q1) s12192), 0, 0x005b⟩)]) (fun k12196 s12192 => .b fun (x12197 : (List Q0)) => .ll 0 (.f [0, 4, 5] [33] [0, 3, 4, 5, 6] [0, 33] (fun (k13570 : Nat) (s13566 : (List (List Q0))) => [(5, .sl 1 33 (s13566).length), (6, eI (k13570 : Int))]) (fun k13570 s13566 => [(33, some ⟨1, (List.map (rL 6 Q1) s13566), 0, 0x005b⟩)]) (fun k13570 s13566 => .o (.i (.le 0 0 6 Q1 x12197 x12197 (.f [0, 3, 4, 5, 6] [0, 1] [0, 3, 4, 5, 6, 7] [0, 1] (fun (k13668 : Nat) (s13664 : (List (List Q0))) => [(5, .sl 1 1 (s13664).length), (7, eI (k13668 : Int))]) (fun k13668 s13664 => [(1, some ⟨1, (List.map (rL 6 Q1) s13664), 0, 0x005b⟩)]) (fun k13668 s13664 => .o (.i (.g [0, 3, 4, 5, 6, 7] [0, 1] [] [] (.o (.o (.o (.dz [0, 2, 3, 4, 5, 7, 8, 9, 10, 11, 12, 13, 1, 6, 14, 15, 16, 17, 18] [0] [1048632] [] (.pF 2097168 .z)))))) .z)) (fun s13672 => .z))) .z)) (fun s13574 => .z))) (fun s12200 => .z)))))
end Go.Proofs.YtbdkbdafhlcilaaGreat
set_option linter.unusedSimpArgs false
set_option linter.unusedVariables false
namespace Go.Proofs.YtbdkbdafhlcilaaGreat
open Go Go.RowKit
set_option maxRecDepth 100000
set_option maxHeartbeats 20000000
instance W5b : ∀ (n : Nat) (p0 : Q0), Ct (Q1b n p0) fun res => Q17 Tryz.prog 0o00211 [] [(.agg (Q1 p0))] (fun H d => H = [some ⟨6, List.map Q1 res, 0, 0x0064⟩] ∧ d = .sl 6 0 res.length) :=
 ar (au Tryz.func137 Q1b.eq_2 (.o (.o (.b fun (p0 : Q0) => .i (.g [1] [0] [] [] (.o (.o (.o (.o (.b fun (x16 : (List Q0)) => .d [0, 1, 2, 3, 5, 6, 7, 8, 4, 9, 10, 11] [0] [] (.i (.gr 4 [3] [17] [(3, .sl 6 17 (x16).length)] [(17, some ⟨6, (List.map Q1 x16), 0, 0x0064⟩)] (.b fun (x20 : (List Q0)) => .pS 0 401 Q1 x20 .z)) .z))))))) (.lc 0 5 6 Q1 p0.kids (.f [1, 4] [0, 40] [1, 4, 5] [0, 40] (fun (k76 : Nat) (s72 : (List (List Q0))) => [(4, .sl 1 40 (s72).length), (5, eI (k76 : Int))]) (fun k76 s72 => [(40, some ⟨1, (List.map (rL 6 Q1) s72), 0, 0x005b⟩)]) (fun k76 s72 => .o (.o (.o (.pF 91 .z)))) (fun s80 => .o (.ls 48 (.f [7] [26] [1, 6, 7, 8] [0, 26] (fun (k131 : Nat) (s127 : (List Q0)) => [(7, .sl 6 26 (s127).length), (8, eI (k131 : Int))]) (fun k131 s127 => [(26, some ⟨6, (List.map Q1 s127), 0, 0x0064⟩)]) (fun k131 s127 => .z) (fun s135 => .z))))))))))
end Go.Proofs.YtbdkbdafhlcilaaGreat
set_option linter.unusedSimpArgs false
set_option linter.unusedVariables false
namespace Go.Proofs.YtbdkbdafhlcilaaGreat
open Go Go.RowKit
set_option maxRecDepth 100000
set_option maxHeartbeats 20000000
instance W54 : ∀ (n : Nat) (p0 : Q0), Ct (Q3n n p0) fun res => Q7 Tryz.prog 0o00342 [(.agg (Q1 p0))] (fun d => d = (.slice 6 (List.map Q1 res))) :=
 au Tryz.func226 Q3n.eq_1 .z
end Go.Proofs.YtbdkbdafhlcilaaGreat
set_option linter.unusedSimpArgs false
set_option linter.unusedVariables false
namespace Go.Proofs.YtbdkbdafhlcilaaGreat
open Go Go.RowKit
set_option maxRecDepth 100000
set_option maxHeartbeats 20000000
instance W76 : ∀ (n : Nat) (p0 : Q0) (p1 : Q0), Ct (Q0c n p0 p1) fun res => Q7 Tryz.prog 0o00246 [(.agg (Q1 p0)), (.agg (Q1 p1))] (fun d => d = .tup [(.agg (Q1 res.1)), (eB res.2)]) :=
 ar (au Tryz.func166 Q0c.eq_2 (.o (.o (.b fun (p0 : Q0) => .o (.i .z (.i .z (.i (.j 8 0 [3, 4, 6, 7] [8, 16] (fun (s19 : Int) => [(6, eI s19)]) (fun _ => []) .z (fun s19 => .j 10 0 [4, 6, 7] [1] (fun (s24 : Int) => [(7, eI s24)]) (fun _ => []) .z (fun _ => .z))) (.i .z (.pC 200 5 6 0x0064 (.lc 0 5 6 Q1 p0.kids (.f [4, 8] [16, 200, 224] [2, 3, 4, 8, 9] [0, 8, 16, 200, 224] (fun (k114 : Nat) (s110 : (List Q0)) => [(9, eI (k114 : Int))]) (fun k114 s110 => [(1000000200, some ⟨6, [[(eI 4), (eI p0.ctor), (eI 0), (eI 0), (eI 0), (.sl 6 224 (s110).length)]], 0, 0x0064⟩), (224, some ⟨6, (List.map Q1 s110), 0, 0x0064⟩)]) (fun k114 s110 => .o (.g [2, 3, 4, 8, 9] [0, 1, 2, 3, 4] [] [(1000000003, some ⟨6, [[(eI 4), (eI p0.ctor), (eI 0), (eI 0), (eI 0), (.sl 6 4 (s110).length)]], 0, 0x0064⟩)] (.o (.o (.dz [0, 1, 2, 3, 4, 5, 6, 7, 8, 9, 10, 11, 12, 13, 14, 15, 16] [0, 1] [1048586] [] .z))))) (fun s118 => .z))))))))))))
end Go.Proofs.YtbdkbdafhlcilaaGreat
set_option linter.unusedSimpArgs false
set_option linter.unusedVariables false
namespace Go.Proofs.YtbdkbdafhlcilaaGreat
open Go Go.RowKit
set_option maxRecDepth 100000
set_option maxHeartbeats 20000000
instance W3a : ∀ (p0 : Q0) (p1 : Q0), Ct (Q42 p0 p1) fun res => Q7 Tryz.prog 0o00466 [(.agg (Q1 p0)), (.agg (Q1 p1))] (fun d => d = (.slice 6 (List.map Q1 res))) :=
 au Tryz.func310 Q42.eq_1 (.b fun (p0 : Q0) => .o (.j 3 0 [2, 3, 5, 6] [0, 8, 24, 80] (fun (s2 : Int) => []) (fun s2 => [(80, some ⟨6, [[(eI 3), (eI 0), (eI p0.n), (eI s2), (eI 0), .nil]], 0, 0x0064⟩)]) .z (fun s2 => .j 5 0 [2, 3, 5] [0, 1, 2] (fun (s8 : (List Q0)) => [(5, .sl 6 2 (s8).length)]) (fun s8 => [(2, some ⟨6, (List.map Q1 s8), 0, 0x0064⟩)]) .z (fun s8 => .j 8 0 [5, 7] [2, 43] (fun (s14 : Int) => []) (fun s14 => [(43, some ⟨6, [[(eI 3), (eI 0), (eI s14), (eI p0.m), (eI 0), .nil]], 0, 0x0064⟩)]) .z (fun s14 => .j 10 0 [5] [0] (fun (s20 : (List Q0)) => [(5, .sl 6 0 (s20).length)]) (fun s20 => [(0, some ⟨6, (List.map Q1 s20), 0, 0x0064⟩)]) .z (fun _ => .z))))))
end Go.Proofs.YtbdkbdafhlcilaaGreat
set_option linter.unusedSimpArgs false
set_option linter.unusedVariables false
namespace Go.Proofs.YtbdkbdafhlcilaaGreat
open Go Go.RowKit
set_option maxRecDepth 100000
set_option maxHeartbeats 20000000
instance W75 : ∀ (p0 : (List Q3)) (p1 : Q2) (p2 : Int), Ct (Q4e p0 p1 p2) fun res => Q7 Tryz.prog 0o00375 [(.slice 2 (List.map X2 p0)), (.agg (Z6 p1)), (eI p2)] (fun d => d = (.agg (Q1 res))) :=
 au Tryz.func253 Q4e.eq_1 (.o (.o (.b fun (p2 : Int) => .o (.pC 32 5 6 0x0064 (.ls 15 (.f [6, 7] [8, 32, 96] [6, 7, 8, 9] [8, 32, 96] (fun (k49 : Nat) (s45 : (List Q0)) => [(9, eI (k49 : Int))]) (fun k49 s45 => [(1000000032, some ⟨6, [[(eI 4), (eI p2), (eI 0), (eI 0), (eI 0), (.sl 6 96 (s45).length)]], 0, 0x0064⟩), (96, some ⟨6, (List.map Q1 s45), 0, 0x0064⟩)]) (fun k49 s45 => .o (.g [6, 7, 8, 9] [0, 1, 2] [] [(1000000001, some ⟨6, [[(eI 4), (eI p2), (eI 0), (eI 0), (eI 0), (.sl 6 2 (s45).length)]], 0, 0x0064⟩)] (.o (.o (.d [0, 1, 2, 3, 4, 5, 6] [1] [27] .z))))) (fun s53 => .z)))))))
end Go.Proofs.YtbdkbdafhlcilaaGreat
set_option linter.unusedSimpArgs false
set_option linter.unusedVariables false
namespace Go.Proofs.YtbdkbdafhlcilaaGreat
open Go Go.RowKit
set_option maxRecDepth 100000
set_option maxHeartbeats 20000000
theorem Z0w : ∀ n : Nat, (∀ (p0 : (List Q3)) (p1 : Q2) (p2 : Q0) (p3 : Q0), Ct (Y0 n p0 p1 p2 p3) fun res => Q7 Tryz.prog 0o00450 [(.slice 2 (List.map X2 p0)), (.agg (Z6 p1)), (.agg (Q1 p2)), (.agg (Q1 p3))] (fun d => d = (.slice 6 (List.map Q1 res)))) ∧ (∀ (p0 : (List Q3)) (p1 : Q2) (p2 : Q0) (p3 : Q0), Ct (Q6k n p0 p1 p2 p3) fun res => Q7 Tryz.prog 0o00467 [(.slice 2 (List.map X2 p0)), (.agg (Z6 p1)), (.agg (Q1 p2)), (.agg (Q1 p3))] (fun d => d = (.slice 6 (List.map Q1 res)))) :=
 ar2 (au Tryz.func296 Y0.eq_2 (.o (.o (.o (.o (.o (.o (.o (.i .z (.i .z (.i .z (.o (.ls 61 (.f [9] [224] [0, 5, 7, 9, 10, 11] [0, 16, 224] (fun (k115 : Nat) (s111 : (List Q0)) => [(9, .sl 6 224 (s111).length), (11, eI (k115 : Int))]) (fun k115 s111 => [(224, some ⟨6, (List.map Q1 s111), 0, 0x0064⟩)]) (fun k115 s111 => .o (.g [0, 5, 7, 9, 10, 11] [0, 1, 2] [] [] (.o (.o (.o (.d [0, 1, 2, 3, 4, 5, 6, 7, 8, 10, 9, 11, 12, 13] [0, 1] [] .z)))))) (fun s119 => .z)))))))))))))))
 (au Tryz.func311 Q6k.eq_2 (.o (.o (.o (.o (.o (.b fun (p2 : Q0) => .o (.o (.ls 23 (.f [9] [32] [0, 6, 7, 9, 10, 11, 12] [8, 16, 32, 96] (fun (k1109 : Nat) (s1105 : (List Q0) × (List Q0)) => [(9, .sl 6 32 (s1105.1).length), (11, .sl 6 96 (s1105.2).length), (12, eI (k1109 : Int))]) (fun k1109 s1105 => [(32, some ⟨6, (List.map Q1 s1105.1), 0, 0x0064⟩), (96, some ⟨6, (List.map Q1 s1105.2), 0, 0x0064⟩)]) (fun k1109 s1105 => .o (.g [0, 6, 7, 9, 10, 11, 12] [0, 1, 2, 3] [] [] (.o (.o (.o (.d [0, 1, 2, 3, 4, 5, 6, 7, 8, 9, 10, 11, 12, 13, 14, 15, 16] [0, 1] [] (.ls 46 (.f [0, 6, 7, 9, 10, 11, 12] [0, 1, 2, 3] [0, 6, 7, 9, 10, 11, 12, 13, 14] [0, 1, 2, 3] (fun (k1309 : Nat) (s1305 : (List Q0)) => [(9, .sl 6 2 (s1305).length), (14, eI (k1309 : Int))]) (fun k1309 s1305 => [(2, some ⟨6, (List.map Q1 s1305), 0, 0x0064⟩)]) (fun k1309 s1305 => .o (.g [0, 6, 7, 9, 10, 11, 12, 13, 14] [0, 1, 2, 3] [] [] (.o (.b fun (x1320 : (List Q0)) => .dz [0, 1, 3, 5, 6, 7, 8, 2, 4, 9, 10, 11, 12, 13] [0] [1048638, 1048591] [] (.g [0, 6, 7, 9, 10, 11, 12, 13, 14, 15] [0, 1, 2, 3, 1048591, 2097168] [] [(1001048591, some ⟨6, [[(eI 4), (eI p2.ctor), (eI 0), (eI 0), (eI 0), (.sl 6 2097168 (x1320).length)]], 0, 0x0064⟩), (2097168, some ⟨6, (List.map Q1 x1320), 0, 0x0064⟩)] (.o (.o (.d [0, 1, 2, 3, 4, 5, 6, 7, 8, 9] [0, 4] [73] (.o (.pF 6 .z)))))))))) (fun s1313 => .g [0, 6, 7, 9, 10, 11, 12] [0, 1, 2, 3] [] [] (.o (.dz [0, 1, 2, 3, 4, 5, 6, 7, 8, 9, 10, 11, 12, 13, 14, 15, 16] [0, 1] [1048592] [] .z))))))))))) (fun s1113 => .z)))))))))))
instance W55 : ∀ (n : Nat), ∀ (p0 : (List Q3)) (p1 : Q2) (p2 : Q0) (p3 : Q0), Ct (Y0 n p0 p1 p2 p3) fun res => Q7 Tryz.prog 0o00450 [(.slice 2 (List.map X2 p0)), (.agg (Z6 p1)), (.agg (Q1 p2)), (.agg (Q1 p3))] (fun d => d = (.slice 6 (List.map Q1 res))) :=
 fun n => (Z0w n).1
instance W77 : ∀ (n : Nat), ∀ (p0 : (List Q3)) (p1 : Q2) (p2 : Q0) (p3 : Q0), Ct (Q6k n p0 p1 p2 p3) fun res => Q7 Tryz.prog 0o00467 [(.slice 2 (List.map X2 p0)), (.agg (Z6 p1)), (.agg (Q1 p2)), (.agg (Q1 p3))] (fun d => d = (.slice 6 (List.map Q1 res))) :=
 fun n => (Z0w n).2
end Go.Proofs.YtbdkbdafhlcilaaGreat
set_option linter.unusedSimpArgs false
set_option linter.unusedVariables false
namespace Go.Proofs.YtbdkbdafhlcilaaGreat
open Go Go.RowKit
set_option maxRecDepth 100000
set_option maxHeartbeats 20000000
instance W57 : ∀ (n : Nat) (p0 : (List Q3)) (p1 : (List Int)) (p2 : Q2) (p3 : Q0), Ct (Q07 n p0 p1 p2 p3) fun res => Q7 Tryz.prog 0o00247 [(.slice 2 (List.map X2 p0)), (.slice 1 (List.map rI p1)), (.agg (Z6 p2)), (.agg (Q1 p3))] (fun d => d = (eB res)) :=
 ar (au Tryz.func167 Q07.eq_2 (.o (.o (.o (.o (.o (.o (.i .z (.i .z (.o (.ls 25 (.f [] [] [0, 1, 7, 9, 10] [8] (fun (k71 : Nat) (s67 : Unit) => [(10, eI (k71 : Int))]) (fun k71 s67 => []) (fun k71 s67 => .o (.g [0, 1, 7, 9, 10] [0] [] [] (.o (.o (.d [0, 1, 2, 3, 4, 5, 6, 7, 8, 9, 10, 11, 12] [0] [] .z))))) (fun s75 => .z)))))))))))))
end Go.Proofs.YtbdkbdafhlcilaaGreat
set_option linter.unusedSimpArgs false
set_option linter.unusedVariables false
namespace Go.Proofs.YtbdkbdafhlcilaaGreat
open Go Go.RowKit
set_option maxRecDepth 100000
set_option maxHeartbeats 20000000
instance W78 : ∀ (n : Nat) (p0 : (List Q3)) (p1 : (List Int)) (p2 : Q2) (p3 : (List Q0)), Ct (Q37 n p0 p1 p2 p3) fun res => Q7 Tryz.prog 0o00447 [(.slice 2 (List.map X2 p0)), (.slice 1 (List.map rI p1)), (.agg (Z6 p2)), (.slice 6 (List.map Q1 p3))] (fun d => d = (.slice 6 (List.map Q1 res))) :=
 au Tryz.func295 Q37.eq_1 (.o (.o (.o (.o (.o (.ls 3 (.f [9] [16] [0, 1, 3, 6, 9, 10] [0, 16] (fun (k81 : Nat) (s77 : (List Q0)) => [(9, .sl 6 16 (s77).length), (10, eI (k81 : Int))]) (fun k81 s77 => [(16, some ⟨6, (List.map Q1 s77), 0, 0x0064⟩)]) (fun k81 s77 => .o (.j 5 0 [0, 1, 3, 6, 9, 10] [0, 1] (fun (s89 : (List Q0)) => [(9, .sl 6 1 (s89).length)]) (fun s89 => [(1, some ⟨6, (List.map Q1 s89), 0, 0x0064⟩)]) (.g [0, 1, 3, 6, 9, 10] [0, 1] [] [] (.o (.d [0, 1, 2, 3, 4, 5, 6, 7] [0] [] .z))) (fun _ => .z))) (fun s85 => .z))))))))
end Go.Proofs.YtbdkbdafhlcilaaGreat
set_option linter.unusedSimpArgs false
set_option linter.unusedVariables false
namespace Go.Proofs.YtbdkbdafhlcilaaGreat
open Go Go.RowKit
set_option maxRecDepth 100000
set_option maxHeartbeats 20000000
instance X9e : ∀ (n : Nat) (p0 : (List Q3)) (p1 : (List Int)) (p2 : Q2) (p3 : (List Q0)) (p4 : (List Q0)), Ct (Q43 n p0 p1 p2 p3 p4) fun res => Q7 Tryz.prog 0o00404 [(.slice 2 (List.map X2 p0)), (.slice 1 (List.map rI p1)), (.agg (Z6 p2)), (.slice 6 (List.map Q1 p3)), (.slice 6 (List.map Q1 p4))] (fun d => d = .tup [(.slice 6 (List.map Q1 res.1)), (eB res.2)]) :=
 au Tryz.func260 Q43.eq_1 (.o (.o (.o (.o (.o (.o (.ls 4 (.f [0, 1, 3, 7] [0] [0, 1, 3, 4, 7, 12] [0] (fun (k1254 : Nat) (s1250 : (List Q0)) => [(3, .slice 6 (List.map Q1 s1250)), (12, eI (k1254 : Int))]) (fun k1254 s1250 => []) (fun k1254 s1250 => .o (.ls 3 (.f [0, 1, 4, 7, 12, 13] [0, 33] [0, 1, 3, 4, 7, 12, 13, 14] [0, 33] (fun (k1471 : Nat) (s1467 : (List Q0)) => [(13, .sl 6 33 (s1467).length), (14, eI (k1471 : Int))]) (fun k1471 s1467 => [(33, some ⟨6, (List.map Q1 s1467), 0, 0x0064⟩)]) (fun k1471 s1467 => .o (.i (.g [0, 1, 3, 4, 7, 12, 13, 14] [0, 1] [] [] (.o (.o (.o (.d [0, 1, 2, 3, 4, 5, 6, 7, 8, 9, 10, 11, 12, 13, 14, 15, 16, 17] [0] [] .z))))) .z)) (fun s1475 => .i .z (.pF 1 .z))))) (fun s1258 => .z)))))))))
end Go.Proofs.YtbdkbdafhlcilaaGreat
set_option linter.unusedSimpArgs false
set_option linter.unusedVariables false
namespace Go.Proofs.YtbdkbdafhlcilaaGreat
open Go Go.RowKit
set_option maxRecDepth 100000
set_option maxHeartbeats 20000000
instance W56 : ∀ (n : Nat) (p0 : (List Q3)) (p1 : (List Int)) (p2 : Q2) (p3 : (List Q0)), Ct (Q4r n p0 p1 p2 p3) fun res => Q7 Tryz.prog 0o00343 [(.slice 2 (List.map X2 p0)), (.slice 1 (List.map rI p1)), (.agg (Z6 p2)), (.slice 6 (List.map Q1 p3))] (fun d => d = .tup [(.slice 6 (List.map Q1 res.1)), (eB res.2)]) :=
 au Tryz.func227 Q4r.eq_1 (.o (.o (.o (.o (.o (.ls 3 (.f [10] [24] [0, 1, 3, 6, 10, 11] [0, 24] (fun (k168 : Nat) (s164 : (List Q0)) => [(10, .sl 6 24 (s164).length), (11, eI (k168 : Int))]) (fun k168 s164 => [(24, some ⟨6, (List.map Q1 s164), 0, 0x0064⟩)]) (fun k168 s164 => .o (.g [0, 1, 3, 6, 10, 11] [0, 1] [] [] (.o (.o (.o (.d [0, 1, 2, 3, 4, 5, 6, 7, 8, 9, 10, 11, 12, 13, 14, 15, 16] [0] [] .z)))))) (fun s172 => .z))))))))
end Go.Proofs.YtbdkbdafhlcilaaGreat
set_option linter.unusedSimpArgs false
set_option linter.unusedVariables false
namespace Go.Proofs.YtbdkbdafhlcilaaGreat
open Go Go.RowKit
set_option maxRecDepth 100000
set_option maxHeartbeats 20000000
instance W52 : ∀ (n : Nat) (p0 : (List Q5)) (p1 : Int), Ct (Q5x n p0 p1) fun res => Q7 Tryz.prog 0o00405 [(.slice 9 (List.map X5 p0)), (eI p1)] (fun d => d = .tup [(.slice 6 (List.map Q1 res.1)), (eB res.2)]) :=
 au Tryz.func261 Q5x.eq_1 (.o (.o (.o (.w [6] [16] [0, 1, 6, 7] [16] (fun (s121 : (List Q0) × Int) => [(6, .sl 6 16 (s121.1).length), (7, eI s121.2)]) (fun s121 => [(16, some ⟨6, (List.map Q1 s121.1), 0, 0x0064⟩)]) (fun s121 => .i (.j 5 0 [0, 1, 6, 7] [0] (fun (s140 : (List Q0)) => [(6, .sl 6 0 (s140).length)]) (fun s140 => [(0, some ⟨6, (List.map Q1 s140), 0, 0x0064⟩)]) .z (fun _ => .z)) .z) (fun s129 => .z)))))
end Go.Proofs.YtbdkbdafhlcilaaGreat
set_option linter.unusedSimpArgs false
set_option linter.unusedVariables false
namespace Go.Proofs.YtbdkbdafhlcilaaGreat
open Go Go.RowKit
set_option maxRecDepth 100000
set_option maxHeartbeats 20000000
instance W7h : ∀ (n : Nat) (p0 : Q0), Ct (Q3a n p0) fun res => Q7 Tryz.prog 0o00137 [(.agg (Q1 p0))] (fun d => d = (.agg (Q1 res))) :=
 ar (au Tryz.func95 Q3a.eq_2 (.o (.o (.b fun (p0 : Q0) => .pC 24 5 6 0x0064 (.lc 0 5 6 Q1 p0.kids (.f [2, 3] [8, 24, 64] [1, 2, 3, 4] [0, 8, 24, 64] (fun (k56 : Nat) (s52 : (List Q0)) => [(4, eI (k56 : Int))]) (fun k56 s52 => [(1000000024, some ⟨6, [[(eI p0.op), (eI p0.ctor), (eI p0.n), (eI p0.m), (eI p0.var), (.sl 6 64 (s52).length)]], 0, 0x0064⟩), (64, some ⟨6, (List.map Q1 s52), 0, 0x0064⟩)]) (fun k56 s52 => .o (.g [1, 2, 3, 4] [0, 1, 2, 3] [] [(1000000002, some ⟨6, [[(eI p0.op), (eI p0.ctor), (eI p0.n), (eI p0.m), (eI p0.var), (.sl 6 3 (s52).length)]], 0, 0x0064⟩)] (.o (.o (.d [0, 1, 2, 3, 4, 5, 6, 7, 8, 9, 10, 11] [0, 2] [24] .z))))) (fun s60 => .z)))))))
end Go.Proofs.YtbdkbdafhlcilaaGreat
set_option linter.unusedSimpArgs false
set_option linter.unusedVariables false
namespace Go.Proofs.YtbdkbdafhlcilaaGreat
open Go Go.RowKit
set_option maxRecDepth 100000
set_option maxHeartbeats 20000000
instance W9t : ∀ (n : Nat) (p0 : (List Q0)), Ct (Q4c n p0) fun res => Q7 Tryz.prog 0o00451 [(.slice 6 (List.map Q1 p0))] (fun d => d = (.slice 6 (List.map Q1 res))) :=
 au Tryz.func297 Q4c.eq_1 (.o (.o (.ls 0 (.f [3] [8] [0, 3, 4] [8] (fun (k56 : Nat) (s52 : (List Q0)) => [(3, .sl 6 8 (s52).length), (4, eI (k56 : Int))]) (fun k56 s52 => [(8, some ⟨6, (List.map Q1 s52), 0, 0x0064⟩)]) (fun k56 s52 => .z) (fun s60 => .z)))))
end Go.Proofs.YtbdkbdafhlcilaaGreat
set_option linter.unusedSimpArgs false
set_option linter.unusedVariables false
namespace Go.Proofs.YtbdkbdafhlcilaaGreat
open Go Go.RowKit
set_option maxRecDepth 100000
set_option maxHeartbeats 20000000
instance W53 : ∀ (n : Nat) (p0 : (List Q3)) (p1 : Q2) (p2 : (List Q0)) (p3 : Bool), Ct (Q5y n p0 p1 p2 p3) fun res => Q7 Tryz.prog 0o00406 [(.slice 2 (List.map X2 p0)), (.agg (Z6 p1)), (.slice 6 (List.map Q1 p2)), (eB p3)] (fun d => d = .tup [(.slice 6 (List.map Q1 res.1)), (eB res.2)]) :=
 au Tryz.func262 Q5y.eq_1 (.o (.o (.o (.o (.o (.ls 2 (.f [2, 3] [] [0, 2, 3, 5, 10] [0] (fun (k54 : Nat) (s50 : Unit) => [(10, eI (k54 : Int))]) (fun k54 s50 => []) (fun k54 s50 => .o (.g [0, 2, 3, 5, 10] [0] [] [] (.o (.d [0, 1, 2, 3, 4, 5, 6, 7] [0] [] .z)))) (fun s58 => .z))))))))
end Go.Proofs.YtbdkbdafhlcilaaGreat
set_option linter.unusedSimpArgs false
set_option linter.unusedVariables false
namespace Go.Proofs.YtbdkbdafhlcilaaGreat
open Go Go.RowKit
set_option maxRecDepth 100000
set_option maxHeartbeats 20000000
instance W74 : ∀ (n : Nat) (p0 : (List Q3)) (p1 : Q2) (p2 : (List Q0)) (p3 : (List Q5)) (p4 : Int), Ct (Q5e n p0 p1 p2 p3 p4) fun res => Q7 Tryz.prog 0o00344 [(.slice 2 (List.map X2 p0)), (.agg (Z6 p1)), (.slice 6 (List.map Q1 p2)), (.slice 9 (List.map X5 p3)), (eI p4)] (fun d => d = .tup [(.slice 6 (List.map Q1 res.1)), (eB res.2)]) :=
 au Tryz.func228 Q5e.eq_1 (.o (.o (.o (.o (.o (.o (.o (.i .z (.g [0, 2, 6, 12] [0] [] [] (.o (.o (.d [0, 1, 3, 4, 5, 2, 6, 7, 8, 9, 10, 11] [0] [] .z))))))))))))
end Go.Proofs.YtbdkbdafhlcilaaGreat
set_option linter.unusedSimpArgs false
set_option linter.unusedVariables false
namespace Go.Proofs.YtbdkbdafhlcilaaGreat
open Go Go.RowKit
set_option maxRecDepth 100000
set_option maxHeartbeats 20000000
instance X1e : ∀ (n : Nat) (p0 : (List Q3)) (p1 : Q2) (p2 : (List Q5)) (p3 : Int), Ct (Q1o n p0 p1 p2 p3) fun res => Q7 Tryz.prog 0o00244 [(.slice 2 (List.map X2 p0)), (.agg (Z6 p1)), (.slice 9 (List.map X5 p2)), (eI p3)] (fun d => d = .tup [(.slice 6 (List.map Q1 res.1)), (eB res.2)]) :=
 au Tryz.func164 Q1o.eq_1 (.o (.o (.o (.o (.o (.o (.i .z (.i .z (.i .z (.o (.o (.i .z (.g [0, 2, 3, 5, 10] [0] [] [] (.o (.o (.d [0, 1, 3, 4, 2, 5, 6, 7, 8, 9, 10] [0] [] .z))))))))))))))))
end Go.Proofs.YtbdkbdafhlcilaaGreat
set_option linter.unusedSimpArgs false
set_option linter.unusedVariables false
namespace Go.Proofs.YtbdkbdafhlcilaaGreat
open Go Go.RowKit
set_option maxRecDepth 100000
set_option maxHeartbeats 20000000
instance X1f : ∀ (n : Nat) (p0 : (List Q3)) (p1 : Q2) (p2 : (List Q5)), Ct (Q1p n p0 p1 p2) fun res => Q7 Tryz.prog 0o00245 [(.slice 2 (List.map X2 p0)), (.agg (Z6 p1)), (.slice 9 (List.map X5 p2))] (fun d => d = .tup [(.slice 6 (List.map Q1 res.1)), (eB res.2)]) :=
 au Tryz.func165 Q1p.eq_1 (.o (.o (.o (.o (.o (.i .z (.g [0, 2, 4] [0] [] [] (.o (.o (.d [0, 1, 4, 5, 6, 2, 3, 7, 8, 9, 10, 11] [0] [] .z))))))))))
end Go.Proofs.YtbdkbdafhlcilaaGreat
set_option linter.unusedSimpArgs false
set_option linter.unusedVariables false
namespace Go.Proofs.YtbdkbdafhlcilaaGreat
open Go Go.RowKit
set_option maxRecDepth 100000
set_option maxHeartbeats 20000000
instance W5r : ∀ (n : Nat) (p0 : (List Q3)) (p1 : Q2) (p2 : (List Q5)), Ct (Q4v n p0 p1 p2) fun res => Q7 Tryz.prog 0o00125 [(.slice 2 (List.map X2 p0)), (.agg (Z6 p1)), (.slice 9 (List.map X5 p2))] (fun d => d = .tup [(.slice 1 (List.map (rL 6 Q1) res.1)), (eB res.2)]) :=
 au Tryz.func85 Q4v.eq_1 (.o (.o (.o (.o (.ls 2 (.f [0, 2, 4, 8] [0, 24] [0, 2, 4, 8, 9] [0, 24] (fun (k68 : Nat) (s64 : (List (List Q0))) => [(8, .sl 1 24 (s64).length), (9, eI (k68 : Int))]) (fun k68 s64 => [(24, some ⟨1, (List.map (rL 6 Q1) s64), 0, 0x005b⟩)]) (fun k68 s64 => .z) (fun s72 => .z)))))))
end Go.Proofs.YtbdkbdafhlcilaaGreat
set_option linter.unusedSimpArgs false
set_option linter.unusedVariables false
namespace Go.Proofs.YtbdkbdafhlcilaaGreat
open Go Go.RowKit
set_option maxRecDepth 100000
set_option maxHeartbeats 20000000
instance W3j : ∀ (p0 : (List Q5)), Ct (Q2t p0) fun res => Q7 Tryz.prog 0o00124 [(.slice 9 (List.map X5 p0))] (fun d => d = (eB res)) :=
 au Tryz.func84 Q2t.eq_1 (.o (.ls 0 (.f [] [] [0, 3] [] (fun (k44 : Nat) (s40 : Unit) => [(3, eI (k44 : Int))]) (fun k44 s40 => []) (fun k44 s40 => .z) (fun s48 => .z))))
end Go.Proofs.YtbdkbdafhlcilaaGreat
set_option linter.unusedSimpArgs false
set_option linter.unusedVariables false
namespace Go.Proofs.YtbdkbdafhlcilaaGreat
open Go Go.RowKit
set_option maxRecDepth 100000
set_option maxHeartbeats 20000000
instance W5s : ∀ (n : Nat) (p0 : (List Q3)) (p1 : Q2) (p2 : (List Q0)) (p3 : (List Q0)), Ct (Q3s n p0 p1 p2 p3) fun res => Q7 Tryz.prog 0o00126 [(.slice 2 (List.map X2 p0)), (.agg (Z6 p1)), (.slice 6 (List.map Q1 p2)), (.slice 6 (List.map Q1 p3))] (fun d => d = (eB res)) :=
 au Tryz.func86 Q3s.eq_1 (.o (.o (.o (.o (.o (.o (.ls 2 (.f [] [] [0, 2, 3, 5, 9, 10] [0] (fun (k895 : Nat) (s891 : Unit) => [(10, eI (k895 : Int))]) (fun k895 s891 => []) (fun k895 s891 => .o (.ls 3 (.f [0, 2, 3, 5, 9, 10] [0] [0, 2, 3, 5, 9, 10, 11] [0] (fun (k1038 : Nat) (s1034 : Unit) => [(11, eI (k1038 : Int))]) (fun k1038 s1034 => []) (fun k1038 s1034 => .o (.j 8 0 [0, 2, 3, 5, 9, 10, 11] [0] (fun (s1052 : Unit) => []) (fun _ => []) (.g [0, 2, 3, 5, 9, 10, 11] [0] [] [] (.o (.dz [0, 1, 2, 3, 4, 5, 6, 7, 8, 9, 10, 11, 12, 13, 14] [] [1048588] [] .z))) (fun _ => .z))) (fun s1042 => .z)))) (fun s899 => .z)))))))))
end Go.Proofs.YtbdkbdafhlcilaaGreat
set_option linter.unusedSimpArgs false
set_option linter.unusedVariables false
namespace Go.Proofs.YtbdkbdafhlcilaaGreat
open Go Go.RowKit
set_option maxRecDepth 100000
set_option maxHeartbeats 20000000
instance X9i : ∀ (n : Nat) (p0 : (List Q3)) (p1 : Q2) (p2 : (List Q5)) (p3 : (List Q5)), Ct (Q45 n p0 p1 p2 p3) fun res => Q7 Tryz.prog 0o00045 [(.slice 2 (List.map X2 p0)), (.agg (Z6 p1)), (.slice 9 (List.map X5 p2)), (.slice 9 (List.map X5 p3))] (fun d => d = .tup [(eB res.1), (eB res.2)]) :=
 au Tryz.func37 Q45.eq_1 (.o (.o (.o (.o (.o (.o (.i .z (.o (.i .z (.i .z (.o (.i .z (.o (.i .z (.o (.o (.i .z (.i .z (.ls 50 (.f [] [] [0, 5, 10, 12, 14] [0] (fun (k1074 : Nat) (s1070 : Unit) => [(14, eI (k1074 : Int))]) (fun k1074 s1070 => []) (fun k1074 s1070 => .o (.ls 12 (.f [0, 5, 10, 12, 14] [0] [0, 5, 10, 12, 14, 15] [0] (fun (k1223 : Nat) (s1219 : Unit) => [(15, eI (k1223 : Int))]) (fun k1223 s1219 => []) (fun k1223 s1219 => .o (.j 13 0 [0, 5, 10, 12, 14, 15] [0] (fun (s1236 : Unit) => []) (fun _ => []) (.g [0, 5, 10, 12, 14, 15] [0] [] [] (.i (.o (.d [0, 1, 2, 3, 4, 5, 6, 7, 8, 9, 10, 11, 12, 13, 14, 15] [0] [] .z)) (.d [0, 1, 2, 3, 4, 5, 6, 7, 8, 9, 10, 11, 12, 13, 14, 15] [] [] .z))) (fun _ => .z))) (fun s1227 => .z)))) (fun s1078 => .z)))))))))))))))))))))
end Go.Proofs.YtbdkbdafhlcilaaGreat
set_option linter.unusedSimpArgs false
set_option linter.unusedVariables false
namespace Go.Proofs.YtbdkbdafhlcilaaGreat
open Go Go.RowKit
set_option maxRecDepth 100000
set_option maxHeartbeats 20000000
instance X7t : ∀ (n : Nat) (p0 : (List Q3)) (p1 : Q2) (p2 : Int), Ct (Q0e n p0 p1 p2) fun res => Q7 Tryz.prog 0o00130 [(.slice 2 (List.map X2 p0)), (.agg (Z6 p1)), (eI p2)] (fun d => d = (eI res)) :=
 ar (au Tryz.func88 Q0e.eq_2 (.o (.o (.o (.o (.o (.i .z (.i .z (.o (.ls 20 (.f [7] [] [0, 2, 4, 7, 20, 21, 22] [0] (fun (k582 : Nat) (s578 : Int) => [(7, eI s578), (22, eI (k582 : Int))]) (fun k582 s578 => []) (fun k582 s578 => .o (.o (.ls 29 (.f [0, 2, 4, 7, 10, 20, 21, 22] [0] [0, 2, 4, 7, 10, 20, 21, 22, 29, 30, 31] [0] (fun (k688 : Nat) (s684 : Int) => [(10, eI s684), (31, eI (k688 : Int))]) (fun k688 s684 => []) (fun k688 s684 => .z) (fun s692 => .z))))) (fun s586 => .z))))))))))))
end Go.Proofs.YtbdkbdafhlcilaaGreat
set_option linter.unusedSimpArgs false
set_option linter.unusedVariables false
namespace Go.Proofs.YtbdkbdafhlcilaaGreat
open Go Go.RowKit
set_option maxRecDepth 100000
set_option maxHeartbeats 20000000
instance W82 : ∀ (p0 : Int), Ct (Q7p p0) fun res => Q7 Tryz.prog 0o00253 [(eI p0)] (fun d => d = (.agg (W3 res))) :=
 au Tryz.func171 Q7p.eq_1 .z
end Go.Proofs.YtbdkbdafhlcilaaGreat
set_option linter.unusedSimpArgs false
set_option linter.unusedVariables false
namespace Go.Proofs.YtbdkbdafhlcilaaGreat
open Go Go.RowKit
set_option maxRecDepth 100000
set_option maxHeartbeats 20000000
instance W3l : ∀ (n : Nat) (p0 : Q2) (q0 : (List Q3)) (q1 : Int), Ct (Q54 n p0 q0 q1) fun res => Q7 Tryz.prog 0o00255 [(.agg (Z6 p0)), .cptr [(.slice 2 (List.map X2 q0))], .cptr [(eI q1)]] (fun d => d = (eB res)) :=
 au Tryz.func173 Q54.eq_1 .z
end Go.Proofs.YtbdkbdafhlcilaaGreat
set_option linter.unusedSimpArgs false
set_option linter.unusedVariables false
namespace Go.Proofs.YtbdkbdafhlcilaaGreat
open Go Go.RowKit
set_option maxRecDepth 100000
set_option maxHeartbeats 20000000
theorem Z1v (p0 : (List Q4)) (res : (List Q4)) (h : Q1g p0 = some res) : Q17 Tryz.prog 0o00256 [] [(.slice 3 (List.map W3 p0))] (fun H d => H = [some ⟨3, List.map W3 res, 0, 0x0038⟩] ∧ d = .sl 3 0 res.length) := by
 unfold Q1g at h
 refine CH Tryz.func174 [.tmp 2] 0 fun β hβ => ?_
 refine sZ ?_
 apply sq
 refine sk fun K hK => ?_
 simp
 refine ⟨?_, fun hnil => ?_⟩
 ·apply hK
  refine cF ?_
  apply TrD.skip
  apply sq
  obtain ⟨x3, hx3, h⟩ := bindE h
  have hx3_r := (Z1k hx3).2
  try simp only [List.length_nil, Nat.zero_add] at hx3_r
  obtain hhx3 := X6f hx3
  subst hhx3
  refine rZ ?_ fun K hK => by simp [hx3_r]; exact hK
  cases h
  apply TrD.ret
  refine X8c (σ' := ⟨(updD (fun _ => .any) 2 (.sl 3 0 (p0).length)), hOfO [some ⟨3, (List.map W3 p0), 0, 0x0038⟩], 1, 8⟩) ?_ ?_
  ·exact gC [40]
  dsimp only [resD]
  exact eA
 replace h : some ([]) = some res := by simp only [hnil] at h; simpa [app] using h
 apply hK
 refine cT ?_
 refine sZ ?_
 cases h
 apply TrD.ret
 refine X8c (σ' := ⟨(updD (fun _ => .any) 2 (.sl 3 0 0)), hOfO [some ⟨3, (List.map W3 []), 0, 0x0038⟩], 1, 8⟩) ?_ ?_
 ·refine (J1.ownNil (s := 2) (by simp) 3 0x0038).trans ?_
  exact gC [32]
 dsimp only [resD]
 exact eA
instance X4a : ∀ (p0 : (List Q4)), Ct (Q1g p0) fun res => Q17 Tryz.prog 0o00256 [] [(.slice 3 (List.map W3 p0))] (fun H d => H = [some ⟨3, List.map W3 res, 0, 0x0038⟩] ∧ d = .sl 3 0 res.length) := fun p0 => ⟨Z1v p0⟩
end Go.Proofs.YtbdkbdafhlcilaaGreat
set_option linter.unusedSimpArgs false
set_option linter.unusedVariables false
namespace Go.Proofs.YtbdkbdafhlcilaaGreat
open Go Go.RowKit
set_option maxRecDepth 100000
set_option maxHeartbeats 20000000
instance W7z : ∀ (n : Nat) (p0 : (List Q3)) (p1 : Q2) (p2 : Int), Ct (Q3e n p0 p1 p2) fun res => Q7 Tryz.prog 0o00131 [(.slice 2 (List.map X2 p0)), (.agg (Z6 p1)), (eI p2)] (fun d => d = (.slice 3 (List.map W3 res))) :=
 ar (au Tryz.func89 Q3e.eq_2 (.o (.o (.o (.o (.o (.i .z (.i (.pN 7 3 0x0038 (.w [7] [88] [7, 26] [88] (fun (s110 : (List Q4) × Int) => [(7, .sl 3 88 (s110.1).length), (26, eI s110.2)]) (fun s110 => [(88, some ⟨3, (List.map W3 s110.1), 0, 0x0038⟩)]) (fun s110 => .z) (fun s118 => .z))) (.o (.pN 7 3 0x0038 (.ls 38 (.f [7] [120] [3, 4, 5, 7, 38, 39, 40] [0, 8, 16, 120] (fun (k60277 : Nat) (s60273 : (List Q4)) => [(7, .sl 3 120 (s60273).length), (40, eI (k60277 : Int))]) (fun k60277 s60273 => [(120, some ⟨3, (List.map W3 s60273), 0, 0x0038⟩)]) (fun k60277 s60273 => .o (.j 13 0 [3, 4, 5, 7, 38, 39, 40] [0, 1, 2, 3] (fun (s66292 : (List Q4)) => [(7, .sl 3 3 (s66292).length)]) (fun s66292 => [(3, some ⟨3, (List.map W3 s66292), 0, 0x0038⟩)]) (.o (.o (.i .z (.ls 47 (.f [3, 4, 5, 7, 12, 38, 39, 40] [0, 1, 2, 3, 116] [3, 4, 5, 7, 10, 12, 38, 39, 40, 54, 55, 56] [0, 1, 2, 3, 116] (fun (k71305 : Nat) (s71301 : (List Q4)) => [(12, .sl 3 116 (s71301).length), (56, eI (k71305 : Int))]) (fun k71305 s71301 => [(116, some ⟨3, (List.map W3 s71301), 0, 0x0038⟩)]) (fun k71305 s71301 => .o (.o (.pN 16 3 0x0038 (.ll 4 (.f [3, 4, 5, 7, 10, 16, 38, 39, 40, 54, 55, 56] [0, 1, 2, 3, 125] [3, 4, 5, 7, 10, 15, 16, 38, 39, 40, 54, 55, 56, 65, 66, 67] [0, 1, 2, 3, 125, 4] (fun (k72223 : Nat) (s72219 : (List Q4)) => [(16, .sl 3 125 (s72219).length), (67, eI (k72223 : Int))]) (fun k72223 s72219 => [(125, some ⟨3, (List.map W3 s72219), 0, 0x0038⟩)]) (fun k72223 s72219 => .o (.ls 15 (.f [3, 4, 5, 7, 10, 15, 16, 38, 39, 40, 54, 55, 56, 65, 66, 67] [0, 1, 2, 3, 4, 5] [3, 4, 5, 7, 10, 15, 16, 18, 38, 39, 40, 54, 55, 56, 65, 66, 67, 71, 72, 73] [0, 1, 2, 3, 4, 30, 5] (fun (k72293 : Nat) (s72289 : (List Q4)) => [(16, .sl 3 4 (s72289).length), (73, eI (k72293 : Int))]) (fun k72293 s72289 => [(4, some ⟨3, (List.map W3 s72289), 0, 0x0038⟩)]) (fun k72293 s72289 => .o (.g [3, 4, 5, 7, 10, 15, 16, 18, 20, 38, 39, 40, 54, 55, 56, 65, 66, 67, 71, 72, 73] [0, 1, 2, 3, 4, 5, 31, 6] [] [] (.o (.o (.o (.dz [0, 1, 2, 3, 5, 4, 6, 7, 8, 9, 10, 11] [5, 6] [1048659] [] (.pF 2097160 .z))))))) (fun s72297 => .z)))) (fun s72227 => .z)))))) (fun s71309 => .z)))))) (fun _ => .z))) (fun s60281 => .z)))))))))))))
end Go.Proofs.YtbdkbdafhlcilaaGreat
set_option linter.unusedSimpArgs false
set_option linter.unusedVariables false
namespace Go.Proofs.YtbdkbdafhlcilaaGreat
open Go Go.RowKit
set_option maxRecDepth 100000
set_option maxHeartbeats 20000000
instance X9s : ∀ (n : Nat) (p0 : (List Q3)) (p1 : Q2) (p2 : Int), Ct (Q1s n p0 p1 p2) fun res => Q7 Tryz.prog 0o00046 [(.slice 2 (List.map X2 p0)), (.agg (Z6 p1)), (eI p2)] (fun d => d = .tup [(.slice 3 (List.map W3 res.1)), (eB res.2)]) :=
 au Tryz.func38 Q1s.eq_1 (.o (.o (.o (.o (.o (.i .z (.o (.i .z (.o (.i .z (.o (.pN 8 3 0x0038 (.ls 30 (.f [8] [208] [8, 30, 31, 32] [208] (fun (k92 : Nat) (s88 : (List Q4)) => [(8, .sl 3 208 (s88).length), (32, eI (k92 : Int))]) (fun k92 s88 => [(208, some ⟨3, (List.map W3 s88), 0, 0x0038⟩)]) (fun k92 s88 => .z) (fun s96 => .z)))))))))))))))
end Go.Proofs.YtbdkbdafhlcilaaGreat
set_option linter.unusedSimpArgs false
set_option linter.unusedVariables false
namespace Go.Proofs.YtbdkbdafhlcilaaGreat
open Go Go.RowKit
set_option maxRecDepth 100000
set_option maxHeartbeats 20000000
instance X9u : ∀ (n : Nat) (p0 : (List Q3)) (p1 : Q2) (p2 : (List Q5)) (p3 : Q4), Ct (Q2n n p0 p1 p2 p3) fun res => Q7 Tryz.prog 0o00047 [(.slice 2 (List.map X2 p0)), (.agg (Z6 p1)), (.slice 9 (List.map X5 p2)), (.agg (W3 p3))] (fun d => d = .tup [(eI res.1), (.slice 4 (List.map Q0w res.2.1)), (eB res.2.2)]) :=
 au Tryz.func39 Q2n.eq_1 .z
end Go.Proofs.YtbdkbdafhlcilaaGreat
set_option linter.unusedSimpArgs false
set_option linter.unusedVariables false
namespace Go.Proofs.YtbdkbdafhlcilaaGreat
open Go Go.RowKit
set_option maxRecDepth 100000
set_option maxHeartbeats 20000000
instance Z2e : ∀ (n : Nat) (p0 : (List Int)) (p1 : (List Int)), Ct (Q1r n p0 p1) fun res => Q7 Tryz.prog 0o00010 [(.slice 1 (List.map (rK .u8) p0)), (.slice 1 (List.map (rK .u8) p1))] (fun d => d = (eB res)) :=
 au Tryz.func8 Q1r.eq_1 (.o (.o (.o (.i .z (.i .z (.o (.o (.o (.i .z (.i .z (.i .z (.o (.ls 85 (.f [5, 6, 7, 8, 9] [128] [5, 6, 7, 8, 9, 13, 15] [128] (fun (k152 : Nat) (s148 : Unit) => [(15, eI (k152 : Int))]) (fun k152 s148 => []) (fun k152 s148 => .o (.i (.g [5, 6, 7, 8, 9, 13, 15] [0] [] [] (.o (.d [0, 1, 2, 3, 4, 5, 6, 7, 8, 9, 10, 11, 12, 13, 14] [0] [] (.g [5, 6, 7, 8, 9, 13, 15, 16] [0] [] [] (.o (.d [0, 1, 2, 3, 4, 5, 6, 7, 8, 9, 10, 11, 12, 13, 14] [0] [] .z)))))) .z)) (fun s156 => .z)))))))))))))))
theorem Z2k (n : Nat) (p0 : (List Int)) (p1 : (List Int)) : ∀ res, Q1r n p0 p1 = some res → Q7 Tryz.prog 0o00010 [(.slice 1 (List.map (rK .u8) p0)), (.slice 1 (List.map (rK .u8) p1))] (fun d => d = (eB res)) := (Z2e n p0 p1).pf
end Go.Proofs.YtbdkbdafhlcilaaGreat
